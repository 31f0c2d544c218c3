import PyProof.Rows.All
import Wide.All
import OpenK.AllK
import Wide.FinOn
import HandS.ForMost
import HandS.Walk
import HandS.Deep
import HandS.IsInst
import HandS.Wide
import HandS.SortInts
import HandS.Rev
import HandS.RevTup
import HandS.Exc
import PyProof.ListRange
import PyProof.FactsAll.subtypes_4
import HandS.More
import HandS.SetFor
import HandS.Conv
import HandS.Style
import HandS.Strs
import HandS.Dict
import KE.KDictDisplayH
import HandS.DictTup
import HandS.SortRule
import HandS.SortKw
import PyProof.FactsAll.set_2
import HandS.Defaults
import HandS.TryOnly
import HandS.ExcIs
import HandS.WordsExc
import HandS.ExcOwn
import HandS.HotCalls
import HandS.CallSlots
import HandS.TupLe
import PySem.Challenge.RW_causebook_k41_tables_of_plans
set_option Elab.async false
set_option linter.all false
set_option maxRecDepth 100000
namespace Mir
open PySem PySem.Spec L2
set_option autoImplicit false
abbrev St := L2.St


/-! ## 1. what stands for plain data -/
def keyD : Key → PyData
  | .inl i => .int i
  | .inr x => .str x
def keyT (k : List Key) : PyData := .tuple (k.map keyD)
mutual
inductive Dp (K : PySem.W.Frag) (H : Hp) : V → PyData → Prop
  | non : Dp K H .non .none
  | bl (b : Bool) : Dp K H (.bl b) (.bool b)
  | int (i : Int) : Dp K H (.int i) (.int i)
  | str (x : Str) : Dp K H (.str x) (.str x)
  | lst {a : Addr} {xs : List V} {ds : List PyData} : SqL K H a xs → DpAll K H xs ds → Dp K H (.ref a) (.list ds)
  | tup {a : Addr} {xs : List V} {ds : List PyData} : H a = some (.tup xs) → DpAll K H xs ds → Dp K H (.ref a) (.tuple ds)
  | dk {a : Addr} {ks : List Key} {vs : List V} {ds : List PyData} : H a = some (.dK (ks.zip vs)) → ks.length = vs.length → DpAll K H vs ds → Dp K H (.ref a) (.dict ((ks.map keyD).zip ds))
  | dt {a : Addr} {ks : List (List Key)} {vs : List V} {ds : List PyData} : H a = some (.dT (ks.zip vs)) → ks.length = vs.length → DpAll K H vs ds → Dp K H (.ref a) (.dict ((ks.map keyT).zip ds))
inductive DpAll (K : PySem.W.Frag) (H : Hp) : List V → List PyData → Prop
  | nil : DpAll K H [] []
  | cons {v : V} {vs : List V} {d : PyData} {ds : List PyData} : Dp K H v d → DpAll K H vs ds → DpAll K H (v :: vs) (d :: ds)
end
mutual
theorem Dp.old {K : PySem.W.Frag} {H : Hp} : ∀ {v : V} {d : PyData}, Dp K H v d → d.canLay0 = true → L2.Dp K H v d
  | _, _, .non, _ => .non
  | _, _, .bl b, _ => .bl b
  | _, _, .int i, _ => .int i
  | _, _, .str x, _ => .str x
  | _, _, .lst h t, z => .lst h (DpAll.old t (by simpa [PyData.canLay0] using z))
  | _, _, .tup h t, z => .tup (.inl (.inl h)) (DpAll.old t (by simpa [PyData.canLay0] using z))
  | _, _, .dk h e t, z => by simp [PyData.canLay0] at z
  | _, _, .dt h e t, z => by simp [PyData.canLay0] at z
theorem DpAll.old {K : PySem.W.Frag} {H : Hp} : ∀ {vs : List V} {ds : List PyData}, DpAll K H vs ds → PyData.canLayAll0 ds = true → L2.DpAll K H vs ds
  | _, _, .nil, _ => .nil
  | _, _, .cons h t, z => by
    simp only [PyData.canLayAll0, Bool.and_eq_true] at z
    exact .cons (h.old z.1) (t.old z.2)
end
mutual
theorem dp_mono {K : PySem.W.Frag} {H H' : Hp} (e : Same H H') : ∀ {v : V} {d : PyData}, Dp K H v d → Dp K H' v d
  | _, _, .non => .non
  | _, _, .bl b => .bl b
  | _, _, .int i => .int i
  | _, _, .str x => .str x
  | _, _, .lst h t => .lst (e.seq h) (dpAll_mono e t)
  | _, _, .tup h t => .tup (e _ _ h) (dpAll_mono e t)
  | _, _, .dk h z t => .dk (e _ _ h) z (dpAll_mono e t)
  | _, _, .dt h z t => .dt (e _ _ h) z (dpAll_mono e t)
theorem dpAll_mono {K : PySem.W.Frag} {H H' : Hp} (e : Same H H') : ∀ {vs : List V} {ds : List PyData}, DpAll K H vs ds → DpAll K H' vs ds
  | _, _, .nil => .nil
  | _, _, .cons h t => .cons (dp_mono e h) (dpAll_mono e t)
end
theorem dpAll_len {K : PySem.W.Frag} {H : Hp} : ∀ {vs : List V} {ds : List PyData}, DpAll K H vs ds → vs.length = ds.length
  | _, _, .nil => rfl
  | _, _, .cons _ t => by rw [List.length_cons, List.length_cons, dpAll_len t]
theorem dpAll_get {K : PySem.W.Frag} {H : Hp} : ∀ {vs : List V} {ds : List PyData} {i : Nat} {v : V}, DpAll K H vs ds → vs[i]? = some v → ∃ d, ds[i]? = some d ∧ Dp K H v d
  | _, _, _, _, .nil, h => by simp at h
  | _, _, 0, _, .cons h t, e => by
    simp at e; subst e; exact ⟨_, rfl, h⟩
  | _, _, i + 1, _, .cons h t, e => by
    obtain ⟨d, e', q⟩ := dpAll_get (i := i) t (by simpa using e)
    exact ⟨d, by simpa using e', q⟩
theorem dpAll_get' {K : PySem.W.Frag} {H : Hp} : ∀ {vs : List V} {ds : List PyData} {i : Nat} {d : PyData}, DpAll K H vs ds → ds[i]? = some d → ∃ v, vs[i]? = some v ∧ Dp K H v d
  | _, _, _, _, .nil, h => by simp at h
  | _, _, 0, _, .cons h t, e => by
    simp at e; subst e; exact ⟨_, rfl, h⟩
  | _, _, i + 1, _, .cons h t, e => by
    obtain ⟨d, e', q⟩ := dpAll_get' (i := i) t (by simpa using e)
    exact ⟨d, by simpa using e', q⟩
theorem dpAll_app {K : PySem.W.Frag} {H : Hp} : ∀ {vs ws : List V} {ds es : List PyData}, DpAll K H vs ds → DpAll K H ws es → DpAll K H (vs ++ ws) (ds ++ es)
  | _, _, _, _, .nil, s => s
  | _, _, _, _, .cons h t, s => .cons h (dpAll_app t s)
theorem dpAll_take {K : PySem.W.Frag} {H : Hp} : ∀ {vs : List V} {ds : List PyData} (n : Nat), DpAll K H vs ds → DpAll K H (vs.take n) (ds.take n)
  | _, _, 0, _ => by simp; exact .nil
  | _, _, n + 1, .nil => by simp; exact .nil
  | _, _, n + 1, .cons h t => by simp only [List.take_succ_cons]; exact .cons h (dpAll_take n t)
theorem dpAll_drop {K : PySem.W.Frag} {H : Hp} : ∀ {vs : List V} {ds : List PyData} (n : Nat), DpAll K H vs ds → DpAll K H (vs.drop n) (ds.drop n)
  | _, _, 0, h => by simpa using h
  | _, _, n + 1, .nil => by simp; exact .nil
  | _, _, n + 1, .cons h t => by simp only [List.drop_succ_cons]; exact dpAll_drop n t
theorem dpAll_set {K : PySem.W.Frag} {H : Hp} {v : V} {d : PyData} (q : Dp K H v d) : ∀ {vs : List V} {ds : List PyData} (n : Nat), DpAll K H vs ds → DpAll K H (vs.set n v) (ds.set n d)
  | _, _, _, .nil => by simp; exact .nil
  | _, _, 0, .cons h t => by simp; exact .cons q t
  | _, _, n + 1, .cons h t => by simp; exact .cons h (dpAll_set q n t)
theorem dpAll_erase {K : PySem.W.Frag} {H : Hp} : ∀ {vs : List V} {ds : List PyData} (n : Nat), DpAll K H vs ds → DpAll K H (vs.eraseIdx n) (ds.eraseIdx n)
  | _, _, _, .nil => by simp; exact .nil
  | _, _, 0, .cons h t => by simpa using t
  | _, _, n + 1, .cons h t => by simp; exact .cons h (dpAll_erase n t)
theorem dpAll_rev {K : PySem.W.Frag} {H : Hp} : ∀ {vs : List V} {ds : List PyData}, DpAll K H vs ds → DpAll K H vs.reverse ds.reverse
  | _, _, .nil => by simp; exact .nil
  | _, _, .cons h t => by rw [List.reverse_cons, List.reverse_cons]; exact dpAll_app (dpAll_rev t) (.cons h .nil)

theorem same_tup {K : PySem.W.Frag} {H H' : Hp} {a : Addr} {xs : List V} (e : Same H H') (h : SqT K H a xs) : SqT K H' a xs := by
  rcases h with (h | ⟨o, h⟩) | h
  · exact .inl (.inl (e _ _ h))
  · exact .inl (.inr ⟨o, e _ _ h⟩)
  · exact .inr h
/-- each list is within the line -/
def HLen (H : Hp) : Prop := ∀ a xs, Rd H a (.lst xs) → xs.length ≤ sizeLine
theorem HLen.seq {K : PySem.W.Frag} {H : Hp} {a : Addr} {xs : List V} (h : HLen H) (q : SqL K H a xs) : xs.length ≤ sizeLine := by
  rcases q with q | ⟨o, its, n, _, _, _, _, z, r⟩
  · exact h a xs q
  · have e := r.length
    simp only [Array.length_toList] at e
    omega
theorem HLen.upd_lst {H : Hp} {a : Addr} {xs : List V} (h : HLen H) (z : xs.length ≤ sizeLine) : HLen (upd H a (.lst xs)) := fun b ys r => by
  by_cases e : b = a
  · subst e
    rcases r with r | ⟨o, r⟩
    · rw [upd_same] at r; cases r; exact z
    · rw [upd_same] at r; cases r
  · refine h b ys ?_
    rcases r with r | ⟨o, r⟩
    · rw [upd_ne e] at r; exact .inl r
    · rw [upd_ne e] at r; exact .inr ⟨o, r⟩
theorem HLen.upd_tup {H : Hp} {a : Addr} {xs : List V} (h : HLen H) : HLen (upd H a (.tup xs)) := fun b ys r => by
  by_cases e : b = a
  · subst e
    rcases r with r | ⟨o, r⟩
    · rw [upd_same] at r; cases r
    · rw [upd_same] at r; cases r
  · refine h b ys ?_
    rcases r with r | ⟨o, r⟩
    · rw [upd_ne e] at r; exact .inl r
    · rw [upd_ne e] at r; exact .inr ⟨o, r⟩
theorem same_upd {H : Hp} {p : Addr} {o : HO} (h : H p = none) : Same H (upd H p o) := fun b x e => by
  rw [upd_ne (ne_of_none e h)]
  exact e
theorem same_upd2 {S H : Hp} {p : Addr} {o : HO} (e : Same S H) : Same (upd S p o) (upd H p o) := fun b x q => by
  by_cases z : b = p
  · subst z; rw [upd_same] at q ⊢; exact q
  · rw [upd_ne z] at q ⊢; exact e _ _ q
/-- at the right alone, where the left has nothing -/
theorem same_updR {S H : Hp} {p : Addr} {o : HO} (e : Same S H) (h : S p = none) : Same S (upd H p o) := fun b x q => by
  rw [upd_ne (ne_of_none q h)]
  exact e _ _ q

/-! ## 2. the state: slots, what they hold -/
/-- where the parts of a thing lie: anywhere (h), with what never changes (s), with what is new in this call, too (n) -/
inductive Md where | h | s | n
def Md.sel : Md → Hp → Hp → Hp → Hp
  | .h, _, _, H => H
  | .s, A, _, _ => A
  | .n, _, N, _ => N
def flD : PyData → Bool
  | .none | .bool _ | .int _ | .str _ => true
  | _ => false
mutual
/-- a tree of one's own: every list in it stands at one of the addresses L, each once; tuples never change -/
inductive Ow (K : PySem.W.Frag) (N H : Hp) : V → PyData → List Addr → Prop
  | fz {v : V} {d : PyData} : flD d = true → Dp K (fun _ => none) v d → Ow K N H v d []
  | lst {l : Addr} {vs : List V} {ds : List PyData} {L : List Addr} : H l = some (.lst vs) → OwAll K N H vs ds L → Ow K N H (.ref l) (.list ds) (l :: L)
  | tup {p : Addr} {vs : List V} {ds : List PyData} {L : List Addr} : N p = some (.tup vs) → OwAll K N H vs ds L → Ow K N H (.ref p) (.tuple ds) L
inductive OwAll (K : PySem.W.Frag) (N H : Hp) : List V → List PyData → List Addr → Prop
  | nil : OwAll K N H [] [] []
  | cons {v : V} {vs : List V} {d : PyData} {ds : List PyData} {L L' : List Addr} : Ow K N H v d L → OwAll K N H vs ds L' → OwAll K N H (v :: vs) (d :: ds) (L ++ L')
end
mutual
theorem Ow.mono {K : PySem.W.Frag} {N N' H H' : Hp} (sN : Same N N') (sH : Same H H') : ∀ {v : V} {d : PyData} {L : List Addr}, Ow K N H v d L → Ow K N' H' v d L
  | _, _, _, .fz h q => .fz h q
  | _, _, _, .lst h t => .lst (sH _ _ h) (OwAll.mono sN sH t)
  | _, _, _, .tup h t => .tup (sN _ _ h) (OwAll.mono sN sH t)
theorem OwAll.mono {K : PySem.W.Frag} {N N' H H' : Hp} (sN : Same N N') (sH : Same H H') : ∀ {vs : List V} {ds : List PyData} {L : List Addr}, OwAll K N H vs ds L → OwAll K N' H' vs ds L
  | _, _, _, .nil => .nil
  | _, _, _, .cons q t => .cons (Ow.mono sN sH q) (OwAll.mono sN sH t)
end
mutual
theorem Ow.at {K : PySem.W.Frag} {N H H' : Hp} : ∀ {v : V} {d : PyData} {L : List Addr}, (∀ l ∈ L, H' l = H l) → Ow K N H v d L → Ow K N H' v d L
  | _, _, _, _, .fz h q => .fz h q
  | _, _, _, e, .lst h t => .lst (by rw [e _ List.mem_cons_self]; exact h) (OwAll.at (fun l hl => e l (List.mem_cons_of_mem _ hl)) t)
  | _, _, _, e, .tup h t => .tup h (OwAll.at e t)
theorem OwAll.at {K : PySem.W.Frag} {N H H' : Hp} : ∀ {vs : List V} {ds : List PyData} {L : List Addr}, (∀ l ∈ L, H' l = H l) → OwAll K N H vs ds L → OwAll K N H' vs ds L
  | _, _, _, _, .nil => .nil
  | _, _, _, e, .cons q t => .cons (Ow.at (fun l hl => e l (List.mem_append_left _ hl)) q) (OwAll.at (fun l hl => e l (List.mem_append_right _ hl)) t)
end
mutual
theorem Ow.dp {K : PySem.W.Frag} {N H : Hp} (s : Same N H) : ∀ {v : V} {d : PyData} {L : List Addr}, Ow K N H v d L → Dp K H v d
  | _, _, _, .fz _ q => dp_mono (fun _ _ e => by cases e) q
  | _, _, _, .lst h t => .lst (.inl (.inl h)) (OwAll.dp s t)
  | _, _, _, .tup h t => .tup (s _ _ h) (OwAll.dp s t)
theorem OwAll.dp {K : PySem.W.Frag} {N H : Hp} (s : Same N H) : ∀ {vs : List V} {ds : List PyData} {L : List Addr}, OwAll K N H vs ds L → DpAll K H vs ds
  | _, _, _, .nil => .nil
  | _, _, _, .cons q t => .cons (Ow.dp s q) (OwAll.dp s t)
end
inductive Cell where
  | v (md : Md) (d : PyData)
  | o (md : Md) (ds : List PyData)
  | p (md : Md) (dss : List (List PyData))
  | d (t : Bool) (md : Md) (es : List (PyData × PyData))
  | q (md : Md) (ds es : List PyData)
  | f (md : Md) (ds : List PyData)
  | r (v : V)
  | k (l : Addr) (ls : List Addr) (dss : List (List PyData))
  | ko (l : Addr) (md : Md) (ds : List PyData)
  | t (d : PyData)
abbrev Ctx := List (Option Cell)
def Rows (K : PySem.W.Frag) (S H : Hp) : List Addr → List (List PyData) → Prop
  | [], [] => True
  | l :: ls, ds :: dss => (∃ vs, H l = some (.lst vs) ∧ DpAll K S vs ds) ∧ Rows K S H ls dss
  | _, _ => False
/-- what a dict of one's own holds: its keys and values, in its order -/
def EsG {κ : Type} (kd : κ → PyData) (K : PySem.W.Frag) (S : Hp) : List (PyData × PyData) → List (κ × V) → Prop
  | [], [] => True
  | e :: es, p :: ps => (e.1 = kd p.1 ∧ Dp K S p.2 e.2) ∧ EsG kd K S es ps
  | _, _ => False
theorem EsG.mono {κ : Type} {kd : κ → PyData} {K : PySem.W.Frag} {S S' : Hp} (s : Same S S') : ∀ {es : List (PyData × PyData)} {ps : List (κ × V)}, EsG kd K S es ps → EsG kd K S' es ps
  | [], [], _ => trivial
  | _ :: _, _ :: _, ⟨⟨h1, h2⟩, r⟩ => ⟨⟨h1, dp_mono s h2⟩, EsG.mono s r⟩
  | [], _ :: _, h => h.elim
  | _ :: _, [], h => h.elim
def DHold (K : PySem.W.Frag) (S : Hp) : Bool → List (PyData × PyData) → HO → Prop
  | false, es, o => ∃ kvs : List (Key × V), o = .dK kvs ∧ EsG keyD K S es kvs
  | true, es, o => ∃ kvs : List (List Key × V), o = .dT kvs ∧ EsG keyT K S es kvs
theorem DHold.mono {K : PySem.W.Frag} {S S' : Hp} (s : Same S S') : ∀ {t : Bool} {es : List (PyData × PyData)} {o : HO}, DHold K S t es o → DHold K S' t es o
  | false, _, _, ⟨kvs, h, r⟩ => ⟨kvs, h, r.mono s⟩
  | true, _, _, ⟨kvs, h, r⟩ => ⟨kvs, h, r.mono s⟩
def CellOk (K : PySem.W.Frag) (A N H : Hp) (x : V) (L : List Addr) : Cell → Prop
  | .v md d => md ≠ .h ∧ Dp K (md.sel A N H) x d
  | .o md ds => md ≠ .h ∧ ∃ l vs, x = .ref l ∧ L = [l] ∧ H l = some (.lst vs) ∧ DpAll K (md.sel A N H) vs ds
  | .p md dss => md ≠ .h ∧ ∃ l ls, x = .ref l ∧ L = l :: ls ∧ H l = some (.lst (ls.map V.ref)) ∧ Rows K (md.sel A N H) H ls dss
  | .d t md es => md ≠ .h ∧ ∃ l o, x = .ref l ∧ L = [l] ∧ H l = some o ∧ DHold K (md.sel A N H) t es o
  | .q md ds es => md ≠ .h ∧ ∃ p l0 l1 vs ws, x = .ref p ∧ L = [l0, l1] ∧ (md.sel A N H) p = some (.tup [.ref l0, .ref l1]) ∧ H l0 = some (.lst vs) ∧ DpAll K (md.sel A N H) vs ds ∧ H l1 = some (.lst ws) ∧ DpAll K (md.sel A N H) ws es
  | .f md ds => md ≠ .h ∧ ∃ l vs, x = .ref l ∧ N l = some (.lst vs) ∧ DpAll K (md.sel A N H) vs ds
  | .r v => x = v
  | .k l ls dss => x = .ref l ∧ L = l :: ls ∧ H l = some (.lst (ls.map V.ref)) ∧ Rows K (fun _ => none) H ls dss
  | .ko l md ds => md ≠ .h ∧ x = .ref l ∧ L = [l] ∧ ∃ vs, H l = some (.lst vs) ∧ DpAll K (md.sel A N H) vs ds
  | .t d => Ow K N H x d L
theorem Rows.mono {K : PySem.W.Frag} {S S' H H' : Hp} (e : Same S S') (e' : Same H H') : ∀ {ls : List Addr} {dss : List (List PyData)}, Rows K S H ls dss → Rows K S' H' ls dss
  | [], [], _ => trivial
  | _ :: _, _ :: _, ⟨⟨vs, h, t⟩, r⟩ => ⟨⟨vs, e' _ _ h, dpAll_mono e t⟩, Rows.mono e e' r⟩
  | [], _ :: _, h => h.elim
  | _ :: _, [], h => h.elim
theorem Rows.at {K : PySem.W.Frag} {S H H' : Hp} : ∀ {ls : List Addr} {dss : List (List PyData)}, (∀ l ∈ ls, H' l = H l) → Rows K S H ls dss → Rows K S H' ls dss
  | [], [], _, _ => trivial
  | l :: _, _ :: _, q, ⟨⟨vs, h, t⟩, r⟩ => ⟨⟨vs, by rw [q l List.mem_cons_self]; exact h, t⟩, Rows.at (fun m hm => q m (List.mem_cons_of_mem _ hm)) r⟩
  | [], _ :: _, _, h => h.elim
  | _ :: _, [], _, h => h.elim
theorem Md.sel_mono {md : Md} {A N H A' N' H' : Hp} (sA : Same A A') (sN : Same N N') (sH : Same H H') : Same (md.sel A N H) (md.sel A' N' H') := by
  cases md <;> assumption

/-- a tuple of things that are none of the heap's: it never changes, whoever holds it -/
def flatV : V → Bool
  | .ref _ => false
  | _ => true
def FT (o : HO) : Prop := ∃ xs : List V, o = .tup xs ∧ xs.all flatV = true
/-- something stands there that is no tuple -/
def Lv (H : Hp) (b : Addr) : Prop := ∃ o, H b = some o ∧ ∀ xs, o ≠ .tup xs
theorem Lv.ne {H : Hp} {b : Addr} (h : Lv H b) : H b ≠ none := by
  obtain ⟨o, e, _⟩ := h
  rw [e]; exact fun z => by cases z
theorem Lv.mono {H H' : Hp} {b : Addr} (s : Same H H') (h : Lv H b) : Lv H' b := by
  obtain ⟨o, e, n⟩ := h
  exact ⟨o, s _ _ e, n⟩
theorem Lv.lst {H : Hp} {b : Addr} {xs : List V} (h : H b = some (.lst xs)) : Lv H b := ⟨_, h, fun _ z => by cases z⟩
theorem Lv.no {H H' : Hp} {b : Addr} {o : HO} (h : Lv H b) (s : Same H H') (ft : FT o) (e : H' b = some o) : False := by
  obtain ⟨o', e', n⟩ := h
  obtain ⟨xs, rfl, _⟩ := ft
  rw [s _ _ e'] at e
  exact n xs (Option.some.inj e)
/-- where a def began: E all that stood, S what it was handed -/
structure Base where
  E : Hp
  S : Hp
instance : CoeFun Base (fun _ => Addr → Option HO) := ⟨Base.E⟩
instance : Coe Base Hp := ⟨Base.E⟩
/-- new, or handed in -/
abbrev Base.Fr (B : Base) (b : Addr) (o : HO) : Prop := B.E b = none ∨ B.S b = some o ∨ FT o
/-- nothing of what stood is kept -/
abbrev bs (H : Hp) : Base := ⟨H, fun _ => none⟩
structure AtB (K : PySem.W.Frag) (H0 : Base) (A N : Hp) (W : Addr → Prop) (O : Nat → List Addr) (H : Hp) (σ : St) (Γ : Ctx) : Prop where
  na : Same N A
  ah : Same A H
  h0 : Same H0 A
  fr : ∀ b o, N b = some o → H0.Fr b o
  own : ∀ b, W b → A b = none ∧ Lv H b
  sub : ∀ i l, l ∈ O i → W l
  dj : ∀ i j l, l ∈ O i → l ∈ O j → i = j
  nd : ∀ i, (O i).Nodup
  hl : HLen H
  len : Γ.length = σ.length
  cs : ∀ i c, Γ[i]? = some (some c) → ∃ x, σ[i]? = some (some x) ∧ CellOk K A N H x (O i) c

section
variable {K : PySem.W.Frag} {H0 : Base} {A N A' N' : Hp} {W : Addr → Prop} {O : Nat → List Addr} {H H' : Hp} {σ : St} {Γ : Ctx} {md : Md}
theorem AtB.sel_h (a : AtB K H0 A N W O H σ Γ) : Same (md.sel A N H) H := by
  cases md
  · exact Same.refl _
  · exact a.ah
  · exact a.na.trans a.ah
theorem AtB.sel_s (a : AtB K H0 A N W O H σ Γ) (h : md ≠ .h) : Same (md.sel A N H) A := by
  cases md
  · exact absurd rfl h
  · exact Same.refl _
  · exact a.na
theorem CellOk.mono {x : V} {L : List Addr} (sA : Same A A') (sN : Same N N') (sH : Same H H') : ∀ {c : Cell}, CellOk K A N H x L c → CellOk K A' N' H' x L c
  | .v _ _, ⟨h, q⟩ => ⟨h, dp_mono (Md.sel_mono sA sN sH) q⟩
  | .o _ _, ⟨h, l, vs, e1, e2, e3, q⟩ => ⟨h, l, vs, e1, e2, sH _ _ e3, dpAll_mono (Md.sel_mono sA sN sH) q⟩
  | .p _ _, ⟨h, l, ls, e1, e2, e3, q⟩ => ⟨h, l, ls, e1, e2, sH _ _ e3, q.mono (Md.sel_mono sA sN sH) sH⟩
  | .d _ _ _, ⟨h, l, o, e1, e2, e3, q⟩ => ⟨h, l, o, e1, e2, sH _ _ e3, q.mono (Md.sel_mono sA sN sH)⟩
  | .q _ _ _, ⟨h, p, l0, l1, vs, ws, e1, e2, e3, e4, q1, e5, q2⟩ => ⟨h, p, l0, l1, vs, ws, e1, e2, Md.sel_mono sA sN sH _ _ e3, sH _ _ e4, dpAll_mono (Md.sel_mono sA sN sH) q1, sH _ _ e5, dpAll_mono (Md.sel_mono sA sN sH) q2⟩
  | .f _ _, ⟨h, l, vs, e1, e2, q⟩ => ⟨h, l, vs, e1, sN _ _ e2, dpAll_mono (Md.sel_mono sA sN sH) q⟩
  | .r _, h => h
  | .k _ _ _, ⟨e1, e2, e3, q⟩ => ⟨e1, e2, sH _ _ e3, q.mono (Same.refl _) sH⟩
  | .ko _ _ _, ⟨h, e1, e2, vs, e3, q⟩ => ⟨h, e1, e2, vs, sH _ _ e3, dpAll_mono (Md.sel_mono sA sN sH) q⟩
  | .t _, q => Ow.mono sN sH q
theorem AtB.ext (a : AtB K H0 A N W O H σ Γ) (sA : Same A A') (sN : Same N N') (sH : Same H H') (na : Same N' A') (ah : Same A' H') (fr : ∀ b o, N' b = some o → H0.Fr b o) (own : ∀ b, W b → A' b = none) (hl : HLen H') : AtB K H0 A' N' W O H' σ Γ where
  na := na
  ah := ah
  h0 := a.h0.trans sA
  fr := fr
  own := fun b w => ⟨own b w, (a.own b w).2.mono sH⟩
  sub := a.sub
  dj := a.dj
  nd := a.nd
  hl := hl
  len := a.len
  cs := fun i c e => by
    obtain ⟨x, e1, q⟩ := a.cs i c e
    exact ⟨x, e1, q.mono sA sN sH⟩
theorem AtB.h0h (a : AtB K H0 A N W O H σ Γ) : Same H0 H := a.h0.trans a.ah
theorem AtB.noW (a : AtB K H0 A N W O H σ Γ) {b : Addr} (h : H b = none) : ¬ W b := fun w => (a.own b w).2.ne h
/-- a new object, that never changes -/
theorem AtB.alloc {p : Addr} {o : HO} (a : AtB K H0 A N W O H σ Γ) (hp : H p = none) (hl : HLen (upd H p o)) : AtB K H0 (upd A p o) (upd N p o) W O (upd H p o) σ Γ := by
  have hA : A p = none := a.ah.free hp
  have hN : N p = none := a.na.free hA
  have h00 : H0 p = none := a.h0.free hA
  refine a.ext (same_upd hA) (same_upd hN) (same_upd hp) (same_upd2 a.na) (same_upd2 a.ah) (fun b o' e => ?_) (fun b w => ?_) hl
  · by_cases z : b = p
    · subst z; exact .inl h00
    · rw [upd_ne z] at e; exact a.fr b o' e
  · have z : b ≠ p := fun z => a.noW hp (z ▸ w)
    rw [upd_ne z]; exact (a.own b w).1
/-- a new object, of its own -/
theorem AtB.allocO {p : Addr} {o : HO} (a : AtB K H0 A N W O H σ Γ) (hp : H p = none) (hl : HLen (upd H p o)) : AtB K H0 A N W O (upd H p o) σ Γ :=
  a.ext (Same.refl _) (Same.refl _) (same_upd hp) a.na (same_updR a.ah (a.ah.free hp)) a.fr (fun b w => (a.own b w).1) hl
/-- an own object becomes one that never changes -/
theorem AtB.freeze {l : Addr} {o : HO} (a : AtB K H0 A N W O H σ Γ) (hA : A l = none) (hw : ¬ W l) (hl : H l = some o) : AtB K H0 (upd A l o) (upd N l o) W O H σ Γ := by
  have hN : N l = none := a.na.free hA
  have h00 : H0 l = none := a.h0.free hA
  refine a.ext (same_upd hA) (same_upd hN) (Same.refl _) (same_upd2 a.na) (fun b x e => ?_) (fun b o' e => ?_) (fun b w => ?_) a.hl
  · by_cases z : b = l
    · subst z; rw [upd_same] at e; cases e; exact hl
    · rw [upd_ne z] at e; exact a.ah _ _ e
  · by_cases z : b = l
    · subst z; exact .inl h00
    · rw [upd_ne z] at e; exact a.fr b o' e
  · have z : b ≠ l := fun z => hw (z ▸ w)
    rw [upd_ne z]; exact (a.own b w).1
theorem AtB.reserve {l : Addr} (a : AtB K H0 A N W O H σ Γ) (hA : A l = none) (hl : Lv H l) : AtB K H0 A N (fun b => W b ∨ b = l) O H σ Γ :=
  { a with own := fun b w => w.elim (a.own b) (fun e => e ▸ ⟨hA, hl⟩), sub := fun i m h => .inl (a.sub i m h) }
theorem AtB.unreserve {W' : Addr → Prop} (a : AtB K H0 A N W' O H σ Γ) (h : ∀ b, W b → W' b) (hs : ∀ i l, l ∈ O i → W l) : AtB K H0 A N W O H σ Γ :=
  { a with own := fun b w => a.own b (h b w), sub := hs }
/-- a change of a reserved list -/
theorem AtB.write {l : Addr} {vs : List V} (a : AtB K H0 A N W O H σ Γ) (hw : W l) (hz : vs.length ≤ sizeLine) (hcs : ∀ i c, Γ[i]? = some (some c) → l ∈ O i → ∃ x, σ[i]? = some (some x) ∧ CellOk K A N (upd H l (.lst vs)) x (O i) c) :
    AtB K H0 A N W O (upd H l (.lst vs)) σ Γ where
  na := a.na
  ah := same_updR a.ah (a.own l hw).1
  h0 := a.h0
  fr := a.fr
  own := fun b w => ⟨(a.own b w).1, by
    by_cases e : b = l
    · subst e; exact .lst upd_same
    · obtain ⟨o, e2, n⟩ := (a.own b w).2
      exact ⟨o, by rw [upd_ne e]; exact e2, n⟩⟩
  sub := a.sub
  dj := a.dj
  nd := a.nd
  hl := a.hl.upd_lst hz
  len := a.len
  cs := fun i c e => by
    by_cases hi : l ∈ O i
    · exact hcs i c e hi
    · obtain ⟨x, e1, q⟩ := a.cs i c e
      refine ⟨x, e1, ?_⟩
      cases c with
      | v md d =>
        obtain ⟨h, q⟩ := q
        refine ⟨h, ?_⟩
        cases md
        · exact absurd rfl h
        · exact q
        · exact q
      | o md ds =>
        obtain ⟨h, m, ws, e2, e3, e4, q⟩ := q
        have hne : m ≠ l := fun z => hi (by rw [e3, z]; exact List.mem_cons_self)
        refine ⟨h, m, ws, e2, e3, by rw [upd_ne hne]; exact e4, ?_⟩
        cases md
        · exact absurd rfl h
        · exact q
        · exact q
      | p md dss =>
        obtain ⟨h, m, ls, e2, e3, e4, q⟩ := q
        have hne : ∀ k ∈ m :: ls, k ≠ l := fun k hk z => hi (by rw [e3, ← z]; exact hk)
        refine ⟨h, m, ls, e2, e3, by rw [upd_ne (hne m List.mem_cons_self)]; exact e4, ?_⟩
        have q' := q.at (H' := upd H l (.lst vs)) fun k hk => upd_ne (hne k (List.mem_cons_of_mem _ hk))
        cases md
        · exact absurd rfl h
        · exact q'
        · exact q'
      | d tb md es =>
        obtain ⟨h, m, ob, e2, e3, e4, q⟩ := q
        have hne : m ≠ l := fun z => hi (by rw [e3, z]; exact List.mem_cons_self)
        refine ⟨h, m, ob, e2, e3, by rw [upd_ne hne]; exact e4, ?_⟩
        cases md
        · exact absurd rfl h
        · exact q
        · exact q
      | q md ds es =>
        obtain ⟨h, p, l0, l1, vs0, ws0, e2, e3, e4, e5, q1, e6, q2⟩ := q
        have hn0 : l0 ≠ l := fun z => hi (by rw [e3, z]; exact List.mem_cons_self)
        have hn1 : l1 ≠ l := fun z => hi (by rw [e3, z]; exact List.mem_cons_of_mem _ List.mem_cons_self)
        refine ⟨h, p, l0, l1, vs0, ws0, e2, e3, ?_, by rw [upd_ne hn0]; exact e5, ?_, by rw [upd_ne hn1]; exact e6, ?_⟩
        · cases md
          · exact absurd rfl h
          · exact e4
          · exact e4
        · cases md
          · exact absurd rfl h
          · exact q1
          · exact q1
        · cases md
          · exact absurd rfl h
          · exact q2
          · exact q2
      | f md ds =>
        obtain ⟨h, l0, vs0, e2, e3, q1⟩ := q
        refine ⟨h, l0, vs0, e2, e3, ?_⟩
        cases md
        · exact absurd rfl h
        · exact q1
        · exact q1
      | r v => exact q
      | k m ls dss =>
        obtain ⟨e2, e3, e4, q⟩ := q
        have hne : ∀ k ∈ m :: ls, k ≠ l := fun k hk z => hi (by rw [e3, ← z]; exact hk)
        exact ⟨e2, e3, by rw [upd_ne (hne m List.mem_cons_self)]; exact e4, q.at (H' := upd H l (.lst vs)) fun k hk => upd_ne (hne k (List.mem_cons_of_mem _ hk))⟩
      | ko m md ds =>
        obtain ⟨h, e2, e3, ws, e4, q⟩ := q
        have hne : m ≠ l := fun z => hi (by rw [e3, z]; exact List.mem_cons_self)
        refine ⟨h, e2, e3, ws, by rw [upd_ne hne]; exact e4, ?_⟩
        cases md
        · exact absurd rfl h
        · exact q
        · exact q
      | t d => exact Ow.at (fun k hk => upd_ne fun z => hi (by rw [← z]; exact hk)) q
/-- less is known of the slots -/
theorem AtB.weak {Γ' : Ctx} (a : AtB K H0 A N W O H σ Γ) (hl : Γ'.length = Γ.length) (h : ∀ (i : Nat) (c : Cell), Γ'[i]? = some (some c) → Γ[i]? = some (some c)) : AtB K H0 A N W O H σ Γ' :=
  { a with len := hl.trans a.len, cs := fun i c e => a.cs i c (h i c e) }
/-- a slot is stored -/
theorem AtB.setv {i : Nat} {x : V} {d : PyData} (a : AtB K H0 A N W O H σ Γ) (hi : i < Γ.length) (h : md ≠ .h) (q : Dp K (md.sel A N H) x d) : AtB K H0 A N W O H (σ.set i (some x)) (Γ.set i (some (.v md d))) :=
  { a with
    len := by simp [a.len]
    cs := fun j c e => by
      by_cases z : j = i
      · subst z
        rw [List.getElem?_set_self hi] at e; cases e
        exact ⟨x, by rw [List.getElem?_set_self (a.len ▸ hi)], h, q⟩
      · rw [List.getElem?_set_ne (Ne.symm z)] at e
        obtain ⟨y, e1, q1⟩ := a.cs j c e
        exact ⟨y, by rw [List.getElem?_set_ne (Ne.symm z)]; exact e1, q1⟩ }
/-- a slot is stored with something of its own: the addresses L -/
theorem AtB.seto {i : Nat} {x : V} {c : Cell} {L : List Addr} (a : AtB K H0 A N W O H σ Γ) (hi : i < Γ.length) (hL : ∀ l ∈ L, ¬ W l ∧ A l = none ∧ Lv H l) (nd : L.Nodup) (q : CellOk K A N H x L c) :
    AtB K H0 A N (fun b => W b ∨ b ∈ L) (fun j => if j = i then L else O j) H (σ.set i (some x)) (Γ.set i (some c)) :=
  { a with
    own := fun b w => w.elim (a.own b) fun hb => (hL b hb).2
    sub := fun j l h => by
      by_cases z : j = i
      · rw [if_pos z] at h; exact .inr h
      · rw [if_neg z] at h; exact .inl (a.sub j l h)
    dj := fun j k l h1 h2 => by
      by_cases z : j = i
      · by_cases z2 : k = i
        · rw [z, z2]
        · rw [if_pos z] at h1; rw [if_neg z2] at h2
          exact absurd (a.sub k l h2) (hL l h1).1
      · by_cases z2 : k = i
        · rw [if_neg z] at h1; rw [if_pos z2] at h2
          exact absurd (a.sub j l h1) (hL l h2).1
        · rw [if_neg z] at h1; rw [if_neg z2] at h2
          exact a.dj j k l h1 h2
    nd := fun j => by
      by_cases z : j = i
      · rw [if_pos z]; exact nd
      · rw [if_neg z]; exact a.nd j
    len := by simp [a.len]
    cs := fun j c' e => by
      by_cases z : j = i
      · subst z
        rw [List.getElem?_set_self hi] at e; cases e
        exact ⟨x, by rw [List.getElem?_set_self (a.len ▸ hi)], by rw [if_pos rfl]; exact q⟩
      · rw [List.getElem?_set_ne (Ne.symm z)] at e
        obtain ⟨y, e1, q1⟩ := a.cs j c' e
        exact ⟨y, by rw [List.getElem?_set_ne (Ne.symm z)]; exact e1, by rw [if_neg z]; exact q1⟩ }
end
end Mir

namespace Mir
open PySem PySem.Spec L2
set_option autoImplicit false

/-! ## 3. data of Lean as plain data -/
class ToD (α : Type) where
  toD : α → PyData
  dep : Nat
open ToD (toD)
class LawD (α : Type) [ToD α] [DecidableEq α] : Prop where
  eqv : ∀ x y : α, PyData.eqv (toD x) (toD y) = decide (x = y)
  lay : ∀ x : α, (toD x).canLay0 = true
  depth : ∀ x : α, (toD x).depth ≤ ToD.dep α
/-- never None -/
class NotNone (α : Type) [ToD α] : Prop where
  nn : ∀ x : α, toD x ≠ .none
  l : ∀ x : α, PyData.eqv .none (toD x) = false
  r : ∀ x : α, PyData.eqv (toD x) .none = false
instance instInt : ToD Int := ⟨.int, 0⟩
instance instBool : ToD Bool := ⟨.bool, 0⟩
instance instDat : ToD PyData := ⟨id, 64⟩
instance instList {α : Type} [ToD α] : ToD (List α) := ⟨fun xs => .list (xs.map toD), ToD.dep α + 1⟩
instance instProd {α β : Type} [ToD α] [ToD β] : ToD (α × β) := ⟨fun p => .tuple [toD p.1, toD p.2], max (ToD.dep α) (ToD.dep β) + 1⟩
instance instOpt {α : Type} [ToD α] : ToD (Option α) := ⟨fun | none => .none | some a => toD a, ToD.dep α⟩
instance instUnit : ToD Unit := ⟨fun _ => .none, 0⟩
theorem toD_int (i : Int) : toD i = .int i := rfl
theorem toD_bool (i : Bool) : toD i = .bool i := rfl
theorem toD_list {α : Type} [ToD α] (xs : List α) : toD xs = .list (xs.map toD) := rfl
theorem toD_prod {α β : Type} [ToD α] [ToD β] (p : α × β) : toD p = .tuple [toD p.1, toD p.2] := rfl

instance lawInt : LawD Int where
  eqv x y := by simp only [toD, PyData.eqv]; rfl
  lay x := by simp [toD, PyData.canLay0]
  depth x := by simp [toD, PyData.depth]
instance lawBool : LawD Bool where
  eqv x y := by simp only [toD, PyData.eqv]; cases x <;> cases y <;> rfl
  lay x := by simp [toD, PyData.canLay0]
  depth x := by simp [toD, PyData.depth]
theorem eqvAll_map {α : Type} [ToD α] [DecidableEq α] [LawD α] : ∀ xs ys : List α, PyData.eqvAll (xs.map toD) (ys.map toD) = decide (xs = ys)
  | [], [] => by simp [PyData.eqvAll]
  | [], _ :: _ => by simp [PyData.eqvAll]
  | _ :: _, [] => by simp [PyData.eqvAll]
  | x :: xs, y :: ys => by
    simp only [List.map_cons, PyData.eqvAll, LawD.eqv, eqvAll_map xs ys]
    by_cases h : x = y <;> by_cases h' : xs = ys <;> simp [h, h']
theorem layAll_map {α : Type} [ToD α] [DecidableEq α] [LawD α] : ∀ xs : List α, PyData.canLayAll0 (xs.map toD) = true
  | [] => by simp [PyData.canLayAll0]
  | x :: xs => by simp [PyData.canLayAll0, LawD.lay, layAll_map xs]
theorem depthAll_map {α : Type} [ToD α] [DecidableEq α] [LawD α] : ∀ xs : List α, PyData.depthAll (xs.map toD) ≤ ToD.dep α
  | [] => by simp [PyData.depthAll]
  | x :: xs => by
    have h1 := LawD.depth x
    have h2 := depthAll_map xs
    simp only [List.map_cons, PyData.depthAll]; omega
instance lawList {α : Type} [ToD α] [DecidableEq α] [LawD α] : LawD (List α) where
  eqv xs ys := by simp only [toD, PyData.eqv]; exact eqvAll_map xs ys
  lay xs := by simp only [toD, PyData.canLay0]; exact layAll_map xs
  depth xs := by
    have := depthAll_map xs
    simp only [toD, PyData.depth, ToD.dep]; omega
instance lawProd {α β : Type} [ToD α] [DecidableEq α] [LawD α] [ToD β] [DecidableEq β] [LawD β] : LawD (α × β) where
  eqv p q := by
    obtain ⟨a, b⟩ := p; obtain ⟨c, d⟩ := q
    simp only [toD_prod, PyData.eqv, PyData.eqvAll, LawD.eqv]
    by_cases h : a = c <;> by_cases h' : b = d <;> simp [h, h']
  lay p := by simp [toD_prod, PyData.canLay0, PyData.canLayAll0, LawD.lay]
  depth p := by
    have h1 := LawD.depth p.1
    have h2 := LawD.depth p.2
    simp only [toD_prod, PyData.depth, PyData.depthAll, ToD.dep]; omega
instance nnInt : NotNone Int := ⟨fun _ => by simp [toD], fun _ => by simp [toD, PyData.eqv], fun _ => by simp [toD, PyData.eqv]⟩
instance nnBool : NotNone Bool := ⟨fun _ => by simp [toD], fun _ => by simp [toD, PyData.eqv], fun _ => by simp [toD, PyData.eqv]⟩
instance nnList {α : Type} [ToD α] : NotNone (List α) := ⟨fun _ => by simp [toD], fun _ => by simp [toD, PyData.eqv], fun _ => by simp [toD, PyData.eqv]⟩
instance nnProd {α β : Type} [ToD α] [ToD β] : NotNone (α × β) := ⟨fun _ => by simp [toD], fun _ => by simp [toD, PyData.eqv], fun _ => by simp [toD, PyData.eqv]⟩
instance lawOpt {α : Type} [ToD α] [DecidableEq α] [LawD α] [NotNone α] : LawD (Option α) where
  eqv p q := by
    cases p <;> cases q
    · simp [toD, PyData.eqv]
    · rename_i y; have := NotNone.l y; simp only [toD] at this ⊢; simpa using this
    · rename_i y; have := NotNone.r y; simp only [toD] at this ⊢; simpa using this
    · rename_i x y; have := LawD.eqv x y; simp only [toD] at this ⊢; simpa using this
  lay p := by
    cases p
    · simp [toD, PyData.canLay0]
    · rename_i x; exact LawD.lay x
  depth p := by
    cases p
    · simp [toD, PyData.depth]
    · rename_i x; exact LawD.depth x
theorem shaped_of {α : Type} [ToD α] [DecidableEq α] [LawD α] (h : ToD.dep α ≤ 64) (x : α) : SeqAt.shaped (toD x) = true := by
  have h1 := LawD.lay x
  have h2 := LawD.depth x
  unfold SeqAt.shaped
  rw [h1, Bool.true_and, decide_eq_true_eq]
  omega

/-! ## 4. expressions -/
section
variable (K : PySem.W.Frag) (H0 : Base) (Γ : Ctx)
/-- comes to a thing that stands for d; nothing that stood is changed -/
def Ev (te : TE) (md : Md) (d : PyData) : Prop :=
  ∀ ⦃A N : Hp⦄ ⦃W : Addr → Prop⦄ ⦃O : Nat → List Addr⦄ ⦃H : Hp⦄ ⦃σ : St⦄ (Q : VK), AtB K H0 A N W O H σ Γ →
    (∀ A' N' H' v, AtB K H0 A' N' W O H' σ Γ → Same A A' → Same N N' → Same H H' → Dp K (md.sel A' N' H') v d → Q v H') → te σ H Q
def EvA (ta : TA) (md : Md) (ds : List PyData) : Prop :=
  ∀ ⦃A N : Hp⦄ ⦃W : Addr → Prop⦄ ⦃O : Nat → List Addr⦄ ⦃H : Hp⦄ ⦃σ : St⦄ (Q : List V → Hp → Prop), AtB K H0 A N W O H σ Γ →
    (∀ A' N' H' vs, AtB K H0 A' N' W O H' σ Γ → Same A A' → Same N N' → Same H H' → DpAll K (md.sel A' N' H') vs ds → Q vs H') → ta σ H Q
def EvT (tt : TT) (b : Bool) : Prop :=
  ∀ ⦃A N : Hp⦄ ⦃W : Addr → Prop⦄ ⦃O : Nat → List Addr⦄ ⦃H : Hp⦄ ⦃σ : St⦄ (Q : Bool → Hp → Prop), AtB K H0 A N W O H σ Γ →
    (∀ A' N' H', AtB K H0 A' N' W O H' σ Γ → Same A A' → Same N N' → Same H H' → Q b H') → tt σ H Q
/-- comes to a new list, no one else's -/
def EvO (te : TE) (md : Md) (ds : List PyData) : Prop :=
  ∀ ⦃A N : Hp⦄ ⦃W : Addr → Prop⦄ ⦃O : Nat → List Addr⦄ ⦃H : Hp⦄ ⦃σ : St⦄ (Q : VK), AtB K H0 A N W O H σ Γ →
    (∀ A' N' H' l vs, AtB K H0 A' N' W O H' σ Γ → Same A A' → Same N N' → Same H H' → H l = none → A' l = none → ¬ W l → H' l = some (.lst vs) → DpAll K (md.sel A' N' H') vs ds → Q (.ref l) H') → te σ H Q
/-- comes to a new list of new lists, no one else's -/
def EvP (te : TE) (md : Md) (dss : List (List PyData)) : Prop :=
  ∀ ⦃A N : Hp⦄ ⦃W : Addr → Prop⦄ ⦃O : Nat → List Addr⦄ ⦃H : Hp⦄ ⦃σ : St⦄ (Q : VK), AtB K H0 A N W O H σ Γ →
    (∀ A' N' H' l ls, AtB K H0 A' N' W O H' σ Γ → Same A A' → Same N N' → Same H H' → (∀ k ∈ l :: ls, H k = none ∧ A' k = none ∧ ¬ W k) → (l :: ls).Nodup → H' l = some (.lst (ls.map V.ref)) → Rows K (md.sel A' N' H') H' ls dss → Q (.ref l) H') → te σ H Q
/-- comes to what is walked: the i-th is a thing that stands for the i-th of ds -/
def EvI (wi : TI) (md : Md) (ds : List PyData) : Prop :=
  ∀ ⦃A N : Hp⦄ ⦃W : Addr → Prop⦄ ⦃O : Nat → List Addr⦄ ⦃H : Hp⦄ ⦃σ : St⦄ (R : It → Hp → Prop), AtB K H0 A N W O H σ Γ →
    (∀ A' N' H' J G Y, AtB K H0 A' N' W O H' σ Γ → Same A A' → Same N N' → Same H H' → Walk J ds.length G Y → ds.length ≤ sizeLine → (∀ H'', Same A' H'' → G H'') →
      (∀ i A1 N1 W1 O1 H1 σ1 Γ1 x H2, AtB K H0 A1 N1 W1 O1 H1 σ1 Γ1 → Same A' A1 → Same N' N1 → i < ds.length → Y i H1 x H2 →
        ∃ A2 N2 d, AtB K H0 A2 N2 W1 O1 H2 σ1 Γ1 ∧ Same A1 A2 ∧ Same N1 N2 ∧ Same H1 H2 ∧ ds[i]? = some d ∧ Dp K (md.sel A2 N2 H2) x d) → R J H') → wi σ H R
end
section
variable {K : PySem.W.Frag} {H0 : Base} {Γ : Ctx} {ta tb te : TE} {ts : TA} {md m1 m2 : Md} {d d1 d2 : PyData} {ds es : List PyData} {i j : Int}

/-- a value that is none of the heap's things -/
def flatD : PyData → Bool
  | .none | .bool _ | .int _ | .str _ => true
  | _ => false
theorem dp_flat {S S' : Hp} {v : V} (h : flatD d = true) (q : Dp K S v d) : Dp K S' v d := by
  cases q with
  | non => exact .non
  | bl b => exact .bl b
  | int i => exact .int i
  | str x => exact .str x
  | lst _ _ => cases h
  | tup _ _ => cases h
  | dk _ _ _ => cases h
  | dt _ _ _ => cases h
theorem ev_flat (e : Ev K H0 Γ te m1 d) (h : flatD d = true := by rfl) : Ev K H0 Γ te md d := fun _ _ _ _ _ _ Q a k =>
  e Q a fun A' N' H' v a' sA sN sH q => k A' N' H' v a' sA sN sH (dp_flat h q)
theorem ev_h (e : Ev K H0 Γ te md d) : Ev K H0 Γ te .h d := fun _ _ _ _ _ _ Q a k =>
  e Q a fun A' N' H' v a' sA sN sH q => k A' N' H' v a' sA sN sH (dp_mono a'.sel_h q)
theorem ev_s (e : Ev K H0 Γ te .n d) : Ev K H0 Γ te .s d := fun _ _ _ _ _ _ Q a k =>
  e Q a fun A' N' H' v a' sA sN sH q => k A' N' H' v a' sA sN sH (dp_mono a'.na q)
theorem evA_h (e : EvA K H0 Γ ts md ds) : EvA K H0 Γ ts .h ds := fun _ _ _ _ _ _ Q a k =>
  e Q a fun A' N' H' v a' sA sN sH q => k A' N' H' v a' sA sN sH (dpAll_mono a'.sel_h q)
theorem evO_s (e : EvO K H0 Γ te .n ds) : EvO K H0 Γ te .s ds := fun _ _ _ _ _ _ Q a k =>
  e Q a fun A' N' H' l vs a' sA sN sH h1 h2 h3 h4 q => k A' N' H' l vs a' sA sN sH h1 h2 h3 h4 (dpAll_mono a'.na q)
theorem flatAll {S S' : Hp} : ∀ {vs : List V} {ds : List PyData}, (ds.all flatD = true) → DpAll K S vs ds → DpAll K S' vs ds
  | _, _, _, .nil => .nil
  | _, _, h, .cons q t => by
    rw [List.all_cons, Bool.and_eq_true] at h
    exact .cons (dp_flat h.1 q) (flatAll h.2 t)
theorem evO_flat (e : EvO K H0 Γ te m1 ds) (h : ds.all flatD = true) : EvO K H0 Γ te md ds := fun _ _ _ _ _ _ Q a k =>
  e Q a fun A' N' H' l vs a' sA sN sH h1 h2 h3 h4 q => k A' N' H' l vs a' sA sN sH h1 h2 h3 h4 (flatAll h q)
/-- an own list, kept as one that never changes -/
theorem evO_ev (e : EvO K H0 Γ te md ds) : Ev K H0 Γ te md (.list ds) := fun A N W O H σ Q a k => by
  refine e Q a fun A' N' H' l vs a' sA sN sH h1 h2 h3 h4 q => ?_
  have a2 := a'.freeze h2 h3 h4
  have hN : N' l = none := a'.na.free h2
  have e1 : Same A' (upd A' l (.lst vs)) := same_upd h2
  have e2 : Same N' (upd N' l (.lst vs)) := same_upd hN
  refine k _ _ H' (.ref l) a2 (sA.trans e1) (sN.trans e2) sH ?_
  cases md
  · exact .lst (.inl (.inl h4)) q
  · exact .lst (.inl (.inl upd_same)) (dpAll_mono e1 q)
  · exact .lst (.inl (.inl upd_same)) (dpAll_mono e2 q)
theorem ev_var {i : Nat} (h : Γ[i]? = some (some (.v md d)) := by rfl) : Ev K H0 Γ (tVar i) md d := fun A N W O H σ Q a k => by
  obtain ⟨x, e, _, q⟩ := a.cs i _ h
  exact ⟨x, e, k A N H x a (Same.refl _) (Same.refl _) (Same.refl _) q⟩
/-- an own list, looked at -/
theorem ev_varO {i : Nat} (h : Γ[i]? = some (some (.o md ds)) := by rfl) : Ev K H0 Γ (tVar i) .h (.list ds) := fun A N W O H σ Q a k => by
  obtain ⟨x, e, hn, l, vs, e1, e2, e3, q⟩ := a.cs i _ h
  subst e1
  exact ⟨_, e, k A N H _ a (Same.refl _) (Same.refl _) (Same.refl _) (.lst (.inl (.inl e3)) (dpAll_mono a.sel_h q))⟩
theorem rows_dp {S H : Hp} (s : Same S H) : ∀ {ls : List Addr} {dss : List (List PyData)}, Rows K S H ls dss → DpAll K H (ls.map V.ref) (dss.map PyData.list)
  | [], [], _ => .nil
  | _ :: _, _ :: _, ⟨⟨vs, h, t⟩, r⟩ => .cons (.lst (.inl (.inl h)) (dpAll_mono s t)) (rows_dp s r)
  | [], _ :: _, h => h.elim
  | _ :: _, [], h => h.elim
theorem ev_varP {i : Nat} {dss : List (List PyData)} (h : Γ[i]? = some (some (.p md dss)) := by rfl) : Ev K H0 Γ (tVar i) .h (.list (dss.map PyData.list)) := fun A N W O H σ Q a k => by
  obtain ⟨x, e, hn, l, ls, e1, e2, e3, q⟩ := a.cs i _ h
  subst e1
  exact ⟨_, e, k A N H _ a (Same.refl _) (Same.refl _) (Same.refl _) (.lst (.inl (.inl e3)) (rows_dp a.sel_h q))⟩
theorem ev_int {i : Int} : Ev K H0 Γ (tC (.int i)) md (toD i) := fun A N W O H σ Q a k => k A N H _ a (Same.refl _) (Same.refl _) (Same.refl _) (.int i)
theorem ev_bool {b : Bool} : Ev K H0 Γ (tC (.bl b)) md (toD b) := fun A N W O H σ Q a k => k A N H _ a (Same.refl _) (Same.refl _) (Same.refl _) (.bl b)
theorem ev_none : Ev K H0 Γ (tC .non) md .none := fun A N W O H σ Q a k => k A N H _ a (Same.refl _) (Same.refl _) (Same.refl _) .non
theorem ev_str {x : Str} : Ev K H0 Γ (tC (.str x)) md (.str x) := fun A N W O H σ Q a k => k A N H _ a (Same.refl _) (Same.refl _) (Same.refl _) (.str x)

/-- the two parts of an operation -/
theorem ev_op2 {r : R2} (ha : Ev K H0 Γ ta m1 d1) (hb : Ev K H0 Γ tb m2 d2)
    (hr : ∀ ⦃A N : Hp⦄ ⦃W : Addr → Prop⦄ ⦃O : Nat → List Addr⦄ ⦃H : Hp⦄ ⦃σ : St⦄ (x y : V) (Q : VK), AtB K H0 A N W O H σ Γ → Dp K (m1.sel A N H) x d1 → Dp K (m2.sel A N H) y d2 →
      (∀ A' N' H' v, AtB K H0 A' N' W O H' σ Γ → Same A A' → Same N N' → Same H H' → Dp K (md.sel A' N' H') v d → Q v H') → r x y H Q) : Ev K H0 Γ (tOp r ta tb) md d := fun A N W O H σ Q a k =>
  ha _ a fun A1 N1 H1 x a1 s1 s2 s3 q1 => hb _ a1 fun A2 N2 H2 y a2 t1 t2 t3 q2 =>
    hr x y Q a2 (dp_mono (Md.sel_mono t1 t2 t3) q1) q2 fun A3 N3 H3 v a3 u1 u2 u3 q3 => k A3 N3 H3 v a3 ((s1.trans t1).trans u1) ((s2.trans t2).trans u2) ((s3.trans t3).trans u3) q3
theorem dp_int {S : Hp} {v : V} (q : Dp K S v (.int i)) : v = .int i := by cases q; rfl
theorem dp_bool {S : Hp} {v : V} {b : Bool} (q : Dp K S v (.bool b)) : v = .bl b := by cases q; rfl
theorem dp_list {S : Hp} {v : V} (q : Dp K S v (.list ds)) : ∃ a xs, v = .ref a ∧ SqL K S a xs ∧ DpAll K S xs ds := by
  cases q with
  | lst h t => exact ⟨_, _, rfl, h, t⟩
theorem dp_tup {S : Hp} {v : V} (q : Dp K S v (.tuple ds)) : ∃ a xs, v = .ref a ∧ SqT K S a xs ∧ DpAll K S xs ds := by
  cases q with
  | tup h t => exact ⟨_, _, rfl, .inl (.inl h), t⟩
/-- a tuple, as it stands -/
theorem dp_tupH {S : Hp} {v : V} (q : Dp K S v (.tuple ds)) : ∃ a xs, v = .ref a ∧ S a = some (.tup xs) ∧ DpAll K S xs ds := by
  cases q with
  | tup h t => exact ⟨_, _, rfl, h, t⟩
/-- two ints, a value that hangs on nothing else -/
theorem ev_ii {C : Int → Int → Prop} {g : Int → Int → V} (ha : Ev K H0 Γ ta m1 (.int i)) (hb : Ev K H0 Γ tb m2 (.int j)) (hc : C i j) (hd : ∀ S, Dp K S (g i j) d) : Ev K H0 Γ (tOp (rI C g) ta tb) md d :=
  ev_op2 ha hb fun A N W O H σ x y Q a q1 q2 k => ⟨i, j, dp_int q1, dp_int q2, hc, k A N H _ a (Same.refl _) (Same.refl _) (Same.refl _) (hd _)⟩
theorem ev_ii0 {g : Int → Int → V} (ha : Ev K H0 Γ ta m1 (.int i)) (hb : Ev K H0 Γ tb m2 (.int j)) (hd : ∀ S, Dp K S (g i j) d) : Ev K H0 Γ (tOp (rI0 g) ta tb) md d :=
  ev_op2 ha hb fun A N W O H σ x y Q a q1 q2 k => ⟨i, j, dp_int q1, dp_int q2, k A N H _ a (Same.refl _) (Same.refl _) (Same.refl _) (hd _)⟩
theorem e_add {x y : Int} (ha : Ev K H0 Γ ta .h (toD x)) (hb : Ev K H0 Γ tb .h (toD y)) : Ev K H0 Γ (tOp (rI0 fun i j => .int (i + j)) ta tb) md (toD (x + y)) := ev_ii0 ha hb fun _ => .int _
theorem e_sub {x y : Int} (ha : Ev K H0 Γ ta .h (toD x)) (hb : Ev K H0 Γ tb .h (toD y)) : Ev K H0 Γ (tOp (rI0 fun i j => .int (i - j)) ta tb) md (toD (x - y)) := ev_ii0 ha hb fun _ => .int _
theorem e_lt {x y : Int} (ha : Ev K H0 Γ ta .h (toD x)) (hb : Ev K H0 Γ tb .h (toD y)) : Ev K H0 Γ (tOp (rI0 fun i j => .bl (decide (i < j))) ta tb) md (toD (decide (x < y))) := ev_ii0 ha hb fun _ => .bl _
theorem e_le {x y : Int} (ha : Ev K H0 Γ ta .h (toD x)) (hb : Ev K H0 Γ tb .h (toD y)) : Ev K H0 Γ (tOp (rI0 fun i j => .bl (decide (i ≤ j))) ta tb) md (toD (decide (x ≤ y))) := ev_ii0 ha hb fun _ => .bl _
theorem e_gt {x y : Int} (ha : Ev K H0 Γ ta .h (toD x)) (hb : Ev K H0 Γ tb .h (toD y)) : Ev K H0 Γ (tOp (rI0 fun i j => .bl (decide (j < i))) ta tb) md (toD (decide (y < x))) := ev_ii0 ha hb fun _ => .bl _
theorem e_ge {x y : Int} (ha : Ev K H0 Γ ta .h (toD x)) (hb : Ev K H0 Γ tb .h (toD y)) : Ev K H0 Γ (tOp (rI0 fun i j => .bl (decide (j ≤ i))) ta tb) md (toD (decide (y ≤ x))) := ev_ii0 ha hb fun _ => .bl _
/-- a product with a written number on one side -/
theorem e_mulL {x y : Int} (ha : Ev K H0 Γ ta .h (toD x)) (hb : Ev K H0 Γ tb .h (toD y)) (hc : (-(2 ^ 64) < x ∧ x < 2 ^ 64) := by decide) : Ev K H0 Γ (tOp (rI CMul fun i j => .int (i * j)) ta tb) md (toD (x * y)) := ev_ii ha hb (.inl hc) fun _ => .int _
theorem e_mulR {x y : Int} (ha : Ev K H0 Γ ta .h (toD x)) (hb : Ev K H0 Γ tb .h (toD y)) (hc : (-(2 ^ 64) < y ∧ y < 2 ^ 64) := by decide) : Ev K H0 Γ (tOp (rI CMul fun i j => .int (i * j)) ta tb) md (toD (x * y)) := ev_ii ha hb (.inr hc) fun _ => .int _
def mulO (x y : Int) : Option Int := if x.natAbs.log2 + y.natAbs.log2 < 1000000 then some (x * y) else none
theorem e_mul {x y z : Int} (ha : Ev K H0 Γ ta .h (toD x)) (hb : Ev K H0 Γ tb .h (toD y)) (h : mulO x y = some z) : Ev K H0 Γ (tOp (rI CMulW fun i j => .int (i * j)) ta tb) md (toD z) := by
  unfold mulO at h
  split at h
  · rename_i hc; cases h; exact ev_ii ha hb hc fun _ => .int _
  · cases h
def CDivX (_ j : Int) : Prop := j ≠ 0 ∧ j.natAbs.log2 < 9000
theorem op_fdivX {X : Cx} : OpR X (binaryOp .FloorDiv) (rI CDivX fun i j => .int (i.fdiv j)) := opI fun i j _ _ _ _ _ hc q =>
  PyProof.Rows.floordiv_int hc.1 q (.inl (PyProof.noPylong_of_log2 hc.2))
def divO (x y : Int) : Option Int := if y ≠ 0 ∧ y.natAbs.log2 < 9000 then some (x.fdiv y) else none
def modO (x y : Int) : Option Int := if y ≠ 0 then some (x.fmod y) else none
theorem e_div {x y z : Int} (ha : Ev K H0 Γ ta .h (toD x)) (hb : Ev K H0 Γ tb .h (toD y)) (h : divO x y = some z) : Ev K H0 Γ (tOp (rI CDivX fun i j => .int (i.fdiv j)) ta tb) md (toD z) := by
  unfold divO at h
  split at h
  · rename_i hc; cases h; exact ev_ii ha hb hc fun _ => .int _
  · cases h
theorem e_mod {x y z : Int} (ha : Ev K H0 Γ ta .h (toD x)) (hb : Ev K H0 Γ tb .h (toD y)) (h : modO x y = some z) : Ev K H0 Γ (tOp (rI (fun _ j => j ≠ 0) fun i j => .int (i.fmod j)) ta tb) md (toD z) := by
  unfold modO at h
  split at h
  · rename_i hc; cases h; exact ev_ii (C := fun _ j => j ≠ 0) ha hb hc fun _ => .int _
  · cases h
/-- by a written number above 0 -/
theorem e_divL {x y : Int} (ha : Ev K H0 Γ ta .h (toD x)) (hb : Ev K H0 Γ tb .h (toD y)) (h : (0 < y ∧ y.natAbs.log2 < 9000) := by decide +kernel) : Ev K H0 Γ (tOp (rI CDivX fun i j => .int (i.fdiv j)) ta tb) md (toD (x / y)) := by
  rw [← Int.fdiv_eq_ediv_of_nonneg x (by omega)]
  exact ev_ii ha hb ⟨by omega, h.2⟩ fun _ => .int _
theorem e_modL {x y : Int} (ha : Ev K H0 Γ ta .h (toD x)) (hb : Ev K H0 Γ tb .h (toD y)) (h : 0 < y := by decide +kernel) : Ev K H0 Γ (tOp (rI (fun _ j => j ≠ 0) fun i j => .int (i.fmod j)) ta tb) md (toD (x % y)) := by
  rw [← Int.fmod_eq_emod_of_nonneg x (by omega)]
  exact ev_ii (C := fun _ j => j ≠ 0) ha hb (by omega) fun _ => .int _
theorem e_pow {x y z : Int} (ha : Ev K H0 Γ ta .h (toD x)) (hb : Ev K H0 Γ tb .h (toD y)) (hc : (0 ≤ y ∧ y ≤ 1000000 ∧ x.natAbs < 2 ^ 64) := by decide) (hz : x ^ y.toNat = z := by rfl) : Ev K H0 Γ (tOp (rI CPow fun i j => .int (i ^ j.toNat)) ta tb) md (toD z) := by
  subst hz
  exact ev_ii ha hb hc fun _ => .int _
theorem ev_un {r : V → Hp → VK → Prop} (ha : Ev K H0 Γ ta m1 d1)
    (hr : ∀ ⦃A N : Hp⦄ ⦃W : Addr → Prop⦄ ⦃O : Nat → List Addr⦄ ⦃H : Hp⦄ ⦃σ : St⦄ (x : V) (Q : VK), AtB K H0 A N W O H σ Γ → Dp K (m1.sel A N H) x d1 →
      (∀ A' N' H' v, AtB K H0 A' N' W O H' σ Γ → Same A A' → Same N N' → Same H H' → Dp K (md.sel A' N' H') v d → Q v H') → r x H Q) : Ev K H0 Γ (tUn r ta) md d := fun A N W O H σ Q a k =>
  ha _ a fun A1 N1 H1 x a1 s1 s2 s3 q1 => hr x Q a1 q1 fun A3 N3 H3 v a3 u1 u2 u3 q3 => k A3 N3 H3 v a3 (s1.trans u1) (s2.trans u2) (s3.trans u3) q3
theorem e_neg {x : Int} (ha : Ev K H0 Γ ta .h (toD x)) : Ev K H0 Γ (tUn (rU fun i => .int (-i)) ta) md (toD (-x)) :=
  ev_un ha fun A N W O H σ v Q a q k => ⟨x, dp_int q, k A N H _ a (Same.refl _) (Same.refl _) (Same.refl _) (.int _)⟩
/-- ==, != of any data -/
theorem e_eq {α : Type} [ToD α] [DecidableEq α] [LawD α] {x y : α} (ha : Ev K H0 Γ ta .h (toD x)) (hb : Ev K H0 Γ tb .h (toD y)) (h : ToD.dep α ≤ 64 := by decide) : Ev K H0 Γ (tOp (rEqD K) ta tb) md (toD (decide (x = y))) :=
  ev_op2 ha hb fun A N W O H σ v w Q a q1 q2 k => ⟨toD x, toD y, (dp_mono a.sel_h q1).old (LawD.lay x), (dp_mono a.sel_h q2).old (LawD.lay y), shaped_of h x, shaped_of h y, by rw [LawD.eqv]; exact k A N H _ a (Same.refl _) (Same.refl _) (Same.refl _) (.bl _)⟩
theorem e_ne {α : Type} [ToD α] [DecidableEq α] [LawD α] {x y : α} (ha : Ev K H0 Γ ta .h (toD x)) (hb : Ev K H0 Γ tb .h (toD y)) (h : ToD.dep α ≤ 64 := by decide) : Ev K H0 Γ (tOp (rNeD K) ta tb) md (toD (!decide (x = y))) :=
  ev_op2 ha hb fun A N W O H σ v w Q a q1 q2 k => ⟨toD x, toD y, (dp_mono a.sel_h q1).old (LawD.lay x), (dp_mono a.sel_h q2).old (LawD.lay y), shaped_of h x, shaped_of h y, by rw [LawD.eqv]; exact k A N H _ a (Same.refl _) (Same.refl _) (Same.refl _) (.bl _)⟩
theorem any_eqv {α : Type} [ToD α] [DecidableEq α] [LawD α] (x : α) : ∀ xs : List α, ((xs.map toD).any fun z => PyData.eqv z (toD x)) = decide (x ∈ xs)
  | [] => by simp
  | y :: ys => by
    rw [List.map_cons, List.any_cons, LawD.eqv, any_eqv x ys]
    by_cases h : y = x
    · subst h; simp
    · have h' : ¬ x = y := fun e => h e.symm
      simp [h, h']
theorem e_in {α : Type} [ToD α] [DecidableEq α] [LawD α] {x : α} {xs : List α} (ha : Ev K H0 Γ ta .h (toD x)) (hb : Ev K H0 Γ tb .h (toD xs)) (h : ToD.dep α + 1 ≤ 64 := by decide) : Ev K H0 Γ (tOp (rInD K) ta tb) md (toD (decide (x ∈ xs))) :=
  ev_op2 ha hb fun A N W O H σ v w Q a q1 q2 k => ⟨toD x, xs.map toD, (dp_mono a.sel_h q1).old (LawD.lay x), (dp_mono a.sel_h q2).old (LawD.lay xs), shaped_of (by omega) x, shaped_of (α := List α) h xs, by rw [any_eqv]; exact k A N H _ a (Same.refl _) (Same.refl _) (Same.refl _) (.bl _)⟩
theorem e_notin {α : Type} [ToD α] [DecidableEq α] [LawD α] {x : α} {xs : List α} (ha : Ev K H0 Γ ta .h (toD x)) (hb : Ev K H0 Γ tb .h (toD xs)) (h : ToD.dep α + 1 ≤ 64 := by decide) : Ev K H0 Γ (tOp (rNotInD K) ta tb) md (toD (!decide (x ∈ xs))) :=
  ev_op2 ha hb fun A N W O H σ v w Q a q1 q2 k => ⟨toD x, xs.map toD, (dp_mono a.sel_h q1).old (LawD.lay x), (dp_mono a.sel_h q2).old (LawD.lay xs), shaped_of (by omega) x, shaped_of (α := List α) h xs, by rw [any_eqv]; exact k A N H _ a (Same.refl _) (Same.refl _) (Same.refl _) (.bl _)⟩
/-- is None -/
def rIsN : R2 := fun x y H Q => y = .non ∧ Q (.bl (decide (x = .non))) H
def rIsNotN : R2 := fun x y H Q => y = .non ∧ Q (.bl (!decide (x = .non))) H
theorem op_isN' {X : Cx} : OpR X (compareOp .Is) rIsN := op_isN
theorem op_notN' {X : Cx} : OpR X (compareOp .IsNot) rIsNotN := op_notN
theorem dp_none {S : Hp} {v : V} (q : Dp K S v .none) : v = .non := by cases q; rfl
theorem dp_nn {S : Hp} {v : V} {d : PyData} (h : d ≠ .none) (q : Dp K S v d) : v ≠ .non := by
  cases q <;> first | exact absurd rfl h | (intro z; cases z)
theorem none_iff {α : Type} [ToD α] [NotNone α] {S : Hp} {v : V} {x : Option α} (q : Dp K S v (toD x)) : decide (v = .non) = x.isNone := by
  cases x with
  | none => rw [dp_none q]; rfl
  | some x => simpa using dp_nn (NotNone.nn x) q
theorem e_isN {α : Type} [ToD α] [NotNone α] {x : Option α} (ha : Ev K H0 Γ ta .h (toD x)) : Ev K H0 Γ (tOp rIsN ta (tC .non)) md (toD x.isNone) :=
  ev_op2 ha (ev_none (md := .h)) fun A N W O H σ v w Q a q1 q2 k => ⟨dp_none q2, by rw [none_iff q1]; exact k A N H _ a (Same.refl _) (Same.refl _) (Same.refl _) (.bl _)⟩
theorem e_notN {α : Type} [ToD α] [NotNone α] {x : Option α} (ha : Ev K H0 Γ ta .h (toD x)) : Ev K H0 Γ (tOp rIsNotN ta (tC .non)) md (toD (!x.isNone)) :=
  ev_op2 ha (ev_none (md := .h)) fun A N W O H σ v w Q a q1 q2 k => ⟨dp_none q2, by rw [none_iff q1]; exact k A N H _ a (Same.refl _) (Same.refl _) (Same.refl _) (.bl _)⟩
/-- a thing that may be None and isn't -/
theorem e_some {α : Type} [ToD α] {x : Option α} {a : α} (h : x = some a) (ha : Ev K H0 Γ ta md (toD x)) : Ev K H0 Γ ta md (toD a) := by
  subst h; exact ha
theorem e_toSome {α : Type} [ToD α] {a : α} (ha : Ev K H0 Γ ta md (toD a)) : Ev K H0 Γ ta md (toD (some a)) := ha
theorem e_noneO {α : Type} [ToD α] : Ev K H0 Γ (tC .non) md (toD (none : Option α)) := ev_none

/-! ### and, or, not, tests -/
theorem e_notV {x : Bool} (ha : Ev K H0 Γ ta .h (toD x)) : Ev K H0 Γ (tNotV ta) md (toD (!x)) := fun A N W O H σ Q a k =>
  ha _ a fun A1 N1 H1 v a1 s1 s2 s3 q1 => ⟨x, dp_bool q1, k A1 N1 H1 _ a1 s1 s2 s3 (.bl _)⟩
theorem e_andV {x y : Bool} (ha : Ev K H0 Γ ta .h (toD x)) (hb : x = true → Ev K H0 Γ tb .h (toD y)) : Ev K H0 Γ (tAndV ta tb) md (toD (x && y)) := fun A N W O H σ Q a k =>
  ha _ a fun A1 N1 H1 v a1 s1 s2 s3 q1 => ⟨x, dp_bool q1, by
    cases x with
    | false => rw [if_neg Bool.false_ne_true]; exact k A1 N1 H1 _ a1 s1 s2 s3 (.bl false)
    | true =>
      rw [if_pos rfl]
      exact ev_flat (md := md) (hb rfl) rfl _ a1 fun A2 N2 H2 w a2 t1 t2 t3 q2 => k A2 N2 H2 w a2 (s1.trans t1) (s2.trans t2) (s3.trans t3) (by rw [Bool.true_and]; exact q2)⟩
theorem e_orV {x y : Bool} (ha : Ev K H0 Γ ta .h (toD x)) (hb : x = false → Ev K H0 Γ tb .h (toD y)) : Ev K H0 Γ (tOrV ta tb) md (toD (x || y)) := fun A N W O H σ Q a k =>
  ha _ a fun A1 N1 H1 v a1 s1 s2 s3 q1 => ⟨x, dp_bool q1, by
    cases x with
    | true => rw [if_pos rfl]; exact k A1 N1 H1 _ a1 s1 s2 s3 (.bl true)
    | false =>
      rw [if_neg Bool.false_ne_true]
      exact ev_flat (md := md) (hb rfl) rfl _ a1 fun A2 N2 H2 w a2 t1 t2 t3 q2 => k A2 N2 H2 w a2 (s1.trans t1) (s2.trans t2) (s3.trans t3) (by rw [Bool.false_or]; exact q2)⟩
variable {tt tu : TT} {x y : Bool}
theorem t_val (ha : Ev K H0 Γ ta .h (toD x)) : EvT K H0 Γ (tB ta) x := fun A N W O H σ Q a k =>
  ha _ a fun A1 N1 H1 v a1 s1 s2 s3 q1 => ⟨x, dp_bool q1, k A1 N1 H1 a1 s1 s2 s3⟩
theorem t_cmp (ha : Ev K H0 Γ ta .h (toD x)) : EvT K H0 Γ (tTest ta) x := fun A N W O H σ Q a k =>
  ha _ a fun A1 N1 H1 v a1 s1 s2 s3 q1 => ⟨x, dp_bool q1, k A1 N1 H1 a1 s1 s2 s3⟩
theorem t_not (ha : EvT K H0 Γ tt x) : EvT K H0 Γ (tNot tt) (!x) := fun A N W O H σ Q a k =>
  ha _ a fun A1 N1 H1 a1 s1 s2 s3 => k A1 N1 H1 a1 s1 s2 s3
theorem t_and (ha : EvT K H0 Γ tt x) (hb : x = true → EvT K H0 Γ tu y) : EvT K H0 Γ (tAnd tt tu) (x && y) := fun A N W O H σ Q a k =>
  ha _ a fun A1 N1 H1 a1 s1 s2 s3 => by
    cases x with
    | false => rw [if_neg Bool.false_ne_true]; exact k A1 N1 H1 a1 s1 s2 s3
    | true =>
      rw [if_pos rfl]
      exact hb rfl _ a1 fun A2 N2 H2 a2 t1 t2 t3 => by
        have := k A2 N2 H2 a2 (s1.trans t1) (s2.trans t2) (s3.trans t3)
        rwa [Bool.true_and] at this
theorem t_or (ha : EvT K H0 Γ tt x) (hb : x = false → EvT K H0 Γ tu y) : EvT K H0 Γ (tOr tt tu) (x || y) := fun A N W O H σ Q a k =>
  ha _ a fun A1 N1 H1 a1 s1 s2 s3 => by
    cases x with
    | true => rw [if_pos rfl]; exact k A1 N1 H1 a1 s1 s2 s3
    | false =>
      rw [if_neg Bool.false_ne_true]
      exact hb rfl _ a1 fun A2 N2 H2 a2 t1 t2 t3 => by
        have := k A2 N2 H2 a2 (s1.trans t1) (s2.trans t2) (s3.trans t3)
        rwa [Bool.false_or] at this
/-- where the right side may come to no value: what is asked of it only where it is asked -/
def andO (x : Bool) (y : Option Bool) : Option Bool := if x = true then y else some false
def orO (x : Bool) (y : Option Bool) : Option Bool := if x = true then some true else y
theorem e_andO {z : Bool} {oy : Option Bool} (ha : Ev K H0 Γ ta .h (toD x)) (hb : x = true → ∀ y, oy = some y → Ev K H0 Γ tb .h (toD y)) (h : andO x oy = some z) : Ev K H0 Γ (tAndV ta tb) md (toD z) := by
  cases x with
  | false =>
    have e : z = (false && false) := (Option.some.inj h).symm
    rw [e]; exact e_andV ha fun q => by cases q
  | true =>
    have h' : oy = some z := h
    have := e_andV (md := md) ha fun q => hb rfl z h'
    rwa [Bool.true_and] at this
theorem e_orO {z : Bool} {oy : Option Bool} (ha : Ev K H0 Γ ta .h (toD x)) (hb : x = false → ∀ y, oy = some y → Ev K H0 Γ tb .h (toD y)) (h : orO x oy = some z) : Ev K H0 Γ (tOrV ta tb) md (toD z) := by
  cases x with
  | true =>
    have e : z = (true || true) := (Option.some.inj h).symm
    rw [e]; exact e_orV ha fun q => by cases q
  | false =>
    have h' : oy = some z := h
    have := e_orV (md := md) ha fun q => hb rfl z h'
    rwa [Bool.false_or] at this
theorem t_andO {z : Bool} {oy : Option Bool} (ha : EvT K H0 Γ tt x) (hb : x = true → ∀ y, oy = some y → EvT K H0 Γ tu y) (h : andO x oy = some z) : EvT K H0 Γ (tAnd tt tu) z := by
  cases x with
  | false =>
    have e : z = (false && false) := (Option.some.inj h).symm
    rw [e]; exact t_and ha fun q => by cases q
  | true =>
    have h' : oy = some z := h
    have := t_and ha fun q => hb rfl z h'
    rwa [Bool.true_and] at this
theorem t_orO {z : Bool} {oy : Option Bool} (ha : EvT K H0 Γ tt x) (hb : x = false → ∀ y, oy = some y → EvT K H0 Γ tu y) (h : orO x oy = some z) : EvT K H0 Γ (tOr tt tu) z := by
  cases x with
  | true =>
    have e : z = (true || true) := (Option.some.inj h).symm
    rw [e]; exact t_or ha fun q => by cases q
  | false =>
    have h' : oy = some z := h
    have := t_or ha fun q => hb rfl z h'
    rwa [Bool.false_or] at this
def iteO {α : Type} (x : Bool) (a b : Option α) : Option α := if x = true then a else b
theorem e_ite {α : Type} [ToD α] {a b : Option α} {z : α} (ht : EvT K H0 Γ tt x) (ha : ∀ y, a = some y → Ev K H0 Γ ta md (toD y)) (hb : ∀ y, b = some y → Ev K H0 Γ tb md (toD y)) (h : iteO x a b = some z) : Ev K H0 Γ (tIf tt ta tb) md (toD z) := fun A N W O H σ Q a' k =>
  ht _ a' fun A1 N1 H1 a1 s1 s2 s3 => by
    cases x with
    | true => rw [if_pos rfl]; exact ha z h _ a1 fun A2 N2 H2 v a2 t1 t2 t3 q => k A2 N2 H2 v a2 (s1.trans t1) (s2.trans t2) (s3.trans t3) q
    | false => rw [if_neg Bool.false_ne_true]; exact hb z h _ a1 fun A2 N2 H2 v a2 t1 t2 t3 q => k A2 N2 H2 v a2 (s1.trans t1) (s2.trans t2) (s3.trans t3) q

/-! ### argument lists, displays, calls -/
theorem a_nil : EvA K H0 Γ tNil md [] := fun A N W O H σ Q a k => k A N H _ a (Same.refl _) (Same.refl _) (Same.refl _) .nil
theorem a_cons (ha : Ev K H0 Γ te md d) (hs : EvA K H0 Γ ts md ds) : EvA K H0 Γ (tCons te ts) md (d :: ds) := fun A N W O H σ Q a k =>
  ha _ a fun A1 N1 H1 v a1 s1 s2 s3 q1 => hs _ a1 fun A2 N2 H2 vs a2 t1 t2 t3 q2 => k A2 N2 H2 _ a2 (s1.trans t1) (s2.trans t2) (s3.trans t3) (.cons (dp_mono (Md.sel_mono t1 t2 t3) q1) q2)
theorem o_lst (hs : EvA K H0 Γ ts md ds) (hz : ds.length ≤ sizeLine := by first | exact Nat.zero_le _ | (simp only [List.length_cons, List.length_nil]; decide)) : EvO K H0 Γ (tLst ts) md ds := fun A N W O H σ Q a k =>
  hs _ a fun A1 N1 H1 vs a1 s1 s2 s3 q1 => by
    have hz' : vs.length ≤ sizeLine := by rw [dpAll_len q1]; exact hz
    refine ⟨hz', fun p hp => ?_⟩
    have hl := a1.hl.upd_lst (a := p) hz'
    have a2 := a1.allocO hp hl
    exact k A1 N1 _ p vs a2 s1 s2 (s3.trans (same_upd hp)) (s3.free hp) (a1.ah.free hp) (a1.noW hp) upd_same (dpAll_mono (Md.sel_mono (Same.refl _) (Same.refl _) (same_upd hp)) q1)
theorem e_tup (hs : EvA K H0 Γ ts md ds) (hz : ds.length ≤ sizeLine := by first | exact Nat.zero_le _ | (simp only [List.length_cons, List.length_nil]; decide)) : Ev K H0 Γ (tTup ts) md (.tuple ds) := fun A N W O H σ Q a k =>
  hs _ a fun A1 N1 H1 vs a1 s1 s2 s3 q1 => by
    refine ⟨by rw [dpAll_len q1]; exact hz, fun p hp => ?_⟩
    have a2 := a1.alloc (o := .tup vs) hp a1.hl.upd_tup
    have hA := a1.ah.free hp
    have hN := a1.na.free hA
    refine k _ _ _ (.ref p) a2 (s1.trans (same_upd hA)) (s2.trans (same_upd hN)) (s3.trans (same_upd hp)) ?_
    cases md
    · exact .tup upd_same (dpAll_mono (same_upd hp) q1)
    · exact .tup upd_same (dpAll_mono (same_upd hA) q1)
    · exact .tup upd_same (dpAll_mono (same_upd hN) q1)
theorem e_pair {α β : Type} [ToD α] [ToD β] {a : α} {b : β} (hs : EvA K H0 Γ ts md [toD a, toD b]) : Ev K H0 Γ (tTup ts) md (toD (a, b)) := e_tup hs
end

/-! ### defs: what is promised -/
/-- f of arguments that stand for ds comes to a new thing that stands for r, and leaves what stood -/
def FnS (K : PySem.W.Frag) (pre : List PyData → PyData → Prop) : Sp := fun vs H Q _ => ∃ ds r, DpAll K H vs ds ∧ pre ds r ∧
  ∀ v N H', Same H H' → (∀ b o, N b = some o → H b = none ∨ FT o) → Same N H' → HLen H' → Dp K N v r → Q v H'
/-- .. to a new list, the caller's own -/
def FnO (K : PySem.W.Frag) (pre : List PyData → List PyData → Prop) : Sp := fun vs H Q _ => ∃ ds rs, DpAll K H vs ds ∧ pre ds rs ∧
  ∀ l ws N H', Same H H' → (∀ b o, N b = some o → H b = none ∨ FT o) → Same N H' → HLen H' → H l = none → N l = none → H' l = some (.lst ws) → DpAll K N ws rs → Q (.ref l) H'
/-- .. to a new list of new lists -/
def FnP (K : PySem.W.Frag) (pre : List PyData → List (List PyData) → Prop) : Sp := fun vs H Q _ => ∃ ds rss, DpAll K H vs ds ∧ pre ds rss ∧
  ∀ l ls N H', Same H H' → (∀ b o, N b = some o → H b = none ∨ FT o) → Same N H' → HLen H' → (∀ k ∈ l :: ls, H k = none ∧ N k = none) → (l :: ls).Nodup → H' l = some (.lst (ls.map V.ref)) → Rows K N H' ls rss → Q (.ref l) H'
/-- the union, the left first -/
def uni (A N : Hp) : Hp := fun b => match A b with | some o => some o | none => N b
theorem uni_l {A N : Hp} : Same A (uni A N) := fun b o e => by unfold uni; rw [e]
theorem uni_none {A N : Hp} {b : Addr} (h : A b = none) (h' : N b = none) : uni A N b = none := by unfold uni; rw [h]; exact h'
theorem uni_into {A N H : Hp} (a : Same A H) (n : Same N H) : Same (uni A N) H := fun b o e => by
  unfold uni at e
  cases q : A b with
  | some u => rw [q] at e; cases e; exact a _ _ q
  | none => rw [q] at e; exact n _ _ e
theorem uni_r {A N : Hp} (h : ∀ b o, N b = some o → A b = none) : Same N (uni A N) := fun b o e => by
  unfold uni; rw [h b o e]; exact e
theorem uni_mono {A N A' : Hp} (h : Same A A') (hn : ∀ b o, N b = some o → A' b = none) : Same (uni A N) (uni A' N) := fun b o e => by
  unfold uni at e
  cases q : A b with
  | some u => rw [q] at e; cases e; exact uni_l _ _ (h _ _ q)
  | none => rw [q] at e; exact uni_r hn _ _ e
section
variable {K : PySem.W.Frag} {H0 : Base} {Γ : Ctx} {ts : TA} {md : Md} {ds : List PyData}
/-- what a callee has made is new here, too -/
theorem AtB.called {A N : Hp} {W : Addr → Prop} {O : Nat → List Addr} {H : Hp} {σ : St} {M H' : Hp} (a : AtB K H0 A N W O H σ Γ) (sH : Same H H') (fr : ∀ b o, M b = some o → H b = none ∨ FT o) (sM : Same M H') (hl : HLen H') :
    AtB K H0 (uni A M) (uni N M) W O H' σ Γ ∧ Same A (uni A M) ∧ Same N (uni N M) ∧ Same M (uni N M) ∧ Same M (uni A M) := by
  have sMA : ∀ {B : Hp}, Same B H' → Same M (uni B M) := fun {B} sB b o e => by
    unfold uni
    cases q : B b with
    | none => exact e
    | some u =>
      have h1 := sB _ _ q
      rw [sM _ _ e] at h1
      exact h1.symm
  have sA : Same A H' := a.ah.trans sH
  have sNA : Same (uni N M) (uni A M) := uni_into (a.na.trans uni_l) (sMA sA)
  refine ⟨a.ext uni_l uni_l sH sNA (uni_into sA sM) (fun b o e => ?_) (fun b w => ?_) hl, uni_l, uni_l, sMA (a.na.trans sA), sMA sA⟩
  · unfold uni at e
    cases q : N b with
    | some u => rw [q] at e; cases e; exact a.fr b _ q
    | none =>
      rw [q] at e
      rcases fr b o e with z | z
      · exact .inl (a.h0h.free z)
      · exact .inr (.inr z)
  · refine uni_none (a.own b w).1 ?_
    cases q : M b with
    | none => rfl
    | some o =>
      rcases fr b o q with z | z
      · exact absurd z (a.own b w).2.ne
      · exact ((a.own b w).2.no sH z (sM _ _ q)).elim
theorem dp_n {S N A H : Hp} {v : V} {d : PyData} {md : Md} (hn : Same S N) (ha : Same S A) (hh : Same S H) (q : Dp K S v d) : Dp K (md.sel A N H) v d := by
  cases md
  · exact dp_mono hh q
  · exact dp_mono ha q
  · exact dp_mono hn q
theorem dpAll_n {S N A H : Hp} {vs : List V} {ds : List PyData} {md : Md} (hn : Same S N) (ha : Same S A) (hh : Same S H) (q : DpAll K S vs ds) : DpAll K (md.sel A N H) vs ds := by
  cases md
  · exact dpAll_mono hh q
  · exact dpAll_mono ha q
  · exact dpAll_mono hn q
theorem e_call {pre : List PyData → PyData → Prop} {E : XK} {r : PyData} (hs : EvA K H0 Γ ts .h ds) (hp : pre ds r) : Ev K H0 Γ (tCall (FnS K pre) [] E ts) md r := fun A N W O H σ Q a k =>
  hs _ a fun A1 N1 H1 vs a1 s1 s2 s3 q1 => by
    refine ⟨ds, r, by rw [List.append_nil]; exact q1, hp, fun v M H' sH fr sM hl qv => ?_⟩
    obtain ⟨a2, u1, u2, u3, u4⟩ := a1.called sH fr sM hl
    exact k _ _ H' v a2 (s1.trans u1) (s2.trans u2) (s3.trans sH) (dp_n u3 u4 sM qv)
theorem o_call {pre : List PyData → List PyData → Prop} {E : XK} {rs : List PyData} (hs : EvA K H0 Γ ts .h ds) (hp : pre ds rs) : EvO K H0 Γ (tCall (FnO K pre) [] E ts) md rs := fun A N W O H σ Q a k =>
  hs _ a fun A1 N1 H1 vs a1 s1 s2 s3 q1 => by
    refine ⟨ds, rs, by rw [List.append_nil]; exact q1, hp, fun l ws M H' sH fr sM hl hn hN hw qv => ?_⟩
    obtain ⟨a2, u1, u2, u3, u4⟩ := a1.called sH fr sM hl
    exact k _ _ H' l ws a2 (s1.trans u1) (s2.trans u2) (s3.trans sH) (s3.free hn) (uni_none (a1.ah.free hn) hN) (a1.noW hn) hw (dpAll_n u3 u4 sM qv)
theorem Rows_n {S N A H HH : Hp} {ls : List Addr} {dss : List (List PyData)} {md : Md} (hn : Same S N) (ha : Same S A) (hh : Same S H) (q : Rows K S HH ls dss) : Rows K (md.sel A N H) HH ls dss := by
  cases md
  · exact q.mono hh (Same.refl _)
  · exact q.mono ha (Same.refl _)
  · exact q.mono hn (Same.refl _)
theorem p_call {pre : List PyData → List (List PyData) → Prop} {E : XK} {rss : List (List PyData)} (hs : EvA K H0 Γ ts .h ds) (hp : pre ds rss) : EvP K H0 Γ (tCall (FnP K pre) [] E ts) md rss := fun A N W O H σ Q a k =>
  hs _ a fun A1 N1 H1 vs a1 s1 s2 s3 q1 => by
    refine ⟨ds, rss, by rw [List.append_nil]; exact q1, hp, fun l ls M H' sH fr sM hl hn nd hw qv => ?_⟩
    obtain ⟨a2, u1, u2, u3, u4⟩ := a1.called sH fr sM hl
    exact k _ _ H' l ls a2 (s1.trans u1) (s2.trans u2) (s3.trans sH) (fun b hb => ⟨s3.free (hn b hb).1, uni_none (a1.ah.free (hn b hb).1) (hn b hb).2, a1.noW (hn b hb).1⟩) nd hw (Rows_n u3 u4 sM qv)
end
end Mir

namespace Mir
open PySem PySem.Spec L2
open ToD (toD)
set_option autoImplicit false

/-! ## 5. sequences -/
abbrev lim : Nat := 16777216
theorem lim_eq : sizeLine = lim := by decide
theorem ixN_lt {n : Nat} {i : Int} {j : Nat} (h : ixN n i = some j) : j < n := (ixN_seq h).2.1
theorem atI_map {α β : Type} (f : α → β) (xs : List α) (i : Int) : atI (xs.map f) i = (atI xs i).map f := by
  unfold atI
  rw [List.length_map]
  cases h : ixN xs.length i with
  | none => rfl
  | some j => simp
theorem dpAll_atI {K : PySem.W.Frag} {S : Hp} {vs : List V} {ds : List PyData} {i : Int} {d : PyData} (q : DpAll K S vs ds) (h : atI ds i = some d) : ∃ v, atI vs i = some v ∧ Dp K S v d := by
  unfold atI at h ⊢
  rw [dpAll_len q]
  cases e : ixN ds.length i with
  | none => rw [e] at h; cases h
  | some j =>
    rw [e] at h
    exact dpAll_get' q h
theorem cut_map {α : Type} (f : α → PyData) (xs : List α) (lo hi : Option Int) :
    ((xs.map f).drop (HT.sIx (xs.map f).length 0 lo)).take (HT.sIx (xs.map f).length (xs.map f).length hi - HT.sIx (xs.map f).length 0 lo) = ((xs.drop (HT.sIx xs.length 0 lo)).take (HT.sIx xs.length xs.length hi - HT.sIx xs.length 0 lo)).map f := by
  rw [List.length_map, List.map_take, List.map_drop]
/-- xs[lo:hi] -/
def cut {α : Type} (xs : List α) (lo hi : Option Int) : List α := (xs.drop (HT.sIx xs.length 0 lo)).take (HT.sIx xs.length xs.length hi - HT.sIx xs.length 0 lo)
section
variable {K : PySem.W.Frag} {H0 : Base} {Γ : Ctx} {ta tb te : TE} {ts : TA} {md m1 m2 : Md} {d d1 d2 : PyData} {ds es : List PyData} {i j : Int}
theorem e_idx {α : Type} [ToD α] {xs : List α} {i : Int} {a : α} (ha : Ev K H0 Γ ta md (toD xs)) (hb : Ev K H0 Γ tb .h (toD i)) (h : atI xs i = some a) : Ev K H0 Γ (tOp (rIxL K) ta tb) md (toD a) :=
  ev_op2 ha hb fun A N W O H σ x y Q at' q1 q2 k => by
    obtain ⟨p, vs, rfl, hS, hA⟩ := dp_list q1
    have h' : atI (xs.map toD) i = some (toD a) := by rw [atI_map, h]; rfl
    obtain ⟨v, hv, hd⟩ := dpAll_atI hA h'
    exact ⟨p, vs, i, v, rfl, dp_int q2, at'.sel_h.seq hS, hv, k A N H v at' (Same.refl _) (Same.refl _) (Same.refl _) hd⟩
theorem e_idxT {i : Int} (ha : Ev K H0 Γ ta md (.tuple ds)) (hb : Ev K H0 Γ tb .h (toD i)) (h : atI ds i = some d) : Ev K H0 Γ (tOp (rIxT K) ta tb) md d :=
  ev_op2 ha hb fun A N W O H σ x y Q at' q1 q2 k => by
    obtain ⟨p, vs, rfl, hS, hA⟩ := dp_tup q1
    obtain ⟨v, hv, hd⟩ := dpAll_atI hA h
    exact ⟨p, vs, i, v, rfl, dp_int q2, same_tup at'.sel_h hS, hv, k A N H v at' (Same.refl _) (Same.refl _) (Same.refl _) hd⟩
theorem e_fst {α β : Type} [ToD α] [ToD β] {p : α × β} (ha : Ev K H0 Γ ta md (toD p)) : Ev K H0 Γ (tOp (rIxT K) ta (tC (.int 0))) md (toD p.1) := e_idxT (ds := [toD p.1, toD p.2]) ha (ev_int (md := .h)) rfl
theorem e_snd {α β : Type} [ToD α] [ToD β] {p : α × β} (ha : Ev K H0 Γ ta md (toD p)) : Ev K H0 Γ (tOp (rIxT K) ta (tC (.int 1))) md (toD p.2) := e_idxT (ds := [toD p.1, toD p.2]) ha (ev_int (md := .h)) rfl

/-! ### built-ins -/
theorem e_cb {r : List V → Hp → VK → Prop} (hs : EvA K H0 Γ ts m1 ds)
    (hr : ∀ ⦃A N : Hp⦄ ⦃W : Addr → Prop⦄ ⦃O : Nat → List Addr⦄ ⦃H : Hp⦄ ⦃σ : St⦄ (vs : List V) (Q : VK), AtB K H0 A N W O H σ Γ → DpAll K (m1.sel A N H) vs ds →
      (∀ A' N' H' v, AtB K H0 A' N' W O H' σ Γ → Same A A' → Same N N' → Same H H' → Dp K (md.sel A' N' H') v d → Q v H') → r vs H Q) : Ev K H0 Γ (tCB r ts) md d := fun A N W O H σ Q a k =>
  hs _ a fun A1 N1 H1 vs a1 s1 s2 s3 q1 => hr vs Q a1 q1 fun A3 N3 H3 v a3 u1 u2 u3 q3 => k A3 N3 H3 v a3 (s1.trans u1) (s2.trans u2) (s3.trans u3) q3
theorem o_cb {r : List V → Hp → VK → Prop} (hs : EvA K H0 Γ ts m1 ds)
    (hr : ∀ ⦃A N : Hp⦄ ⦃W : Addr → Prop⦄ ⦃O : Nat → List Addr⦄ ⦃H : Hp⦄ ⦃σ : St⦄ (vs : List V) (Q : VK), AtB K H0 A N W O H σ Γ → DpAll K (m1.sel A N H) vs ds →
      (∀ p ws, H p = none → ws.length ≤ sizeLine → DpAll K (md.sel A N H) ws es → Q (.ref p) (upd H p (.lst ws))) → r vs H Q) : EvO K H0 Γ (tCB r ts) md es := fun A N W O H σ Q a k =>
  hs _ a fun A1 N1 H1 vs a1 s1 s2 s3 q1 => hr vs Q a1 q1 fun p ws hp hz q => by
    have hl := a1.hl.upd_lst (a := p) hz
    exact k A1 N1 _ p ws (a1.allocO hp hl) s1 s2 (s3.trans (same_upd hp)) (s3.free hp) (a1.ah.free hp) (a1.noW hp) upd_same (dpAll_mono (Md.sel_mono (Same.refl _) (Same.refl _) (same_upd hp)) q)
theorem dpAll_one {S : Hp} {vs : List V} (q : DpAll K S vs [d]) : ∃ v, vs = [v] ∧ Dp K S v d := by
  cases q with
  | cons h t => cases t; exact ⟨_, rfl, h⟩
theorem dpAll_two {S : Hp} {vs : List V} (q : DpAll K S vs [d1, d2]) : ∃ v w, vs = [v, w] ∧ Dp K S v d1 ∧ Dp K S w d2 := by
  cases q with
  | cons h t =>
    cases t with
    | cons h2 t => cases t; exact ⟨_, _, rfl, h, h2⟩
def rLenS (K : PySem.W.Frag) : List V → Hp → VK → Prop := fun xs H Q => ∃ p ys, xs = [.ref p] ∧ (SqL K H p ys ∨ SqT K H p ys) ∧ Q (.int ys.length) H
theorem call_lenS {X : Cx} : CallR X (.builtin "len") (rLenS X.K) := call_len_seq
theorem e_len {α : Type} [ToD α] {xs : List α} (ha : Ev K H0 Γ ta .h (toD xs)) : Ev K H0 Γ (tCB (rLenS K) (tCons ta tNil)) md (toD (xs.length : Int)) :=
  e_cb (a_cons ha a_nil) fun A N W O H σ vs Q a q k => by
    obtain ⟨v, rfl, q'⟩ := dpAll_one q
    obtain ⟨p, ws, rfl, hS, hA⟩ := dp_list q'
    have e : ws.length = xs.length := by rw [dpAll_len hA, List.length_map]
    exact ⟨p, ws, rfl, .inl (a.sel_h.seq hS), by rw [e]; exact k A N H _ a (Same.refl _) (Same.refl _) (Same.refl _) (.int _)⟩
theorem e_lenT (ha : Ev K H0 Γ ta .h (.tuple ds)) : Ev K H0 Γ (tCB (rLenS K) (tCons ta tNil)) md (toD (ds.length : Int)) :=
  e_cb (a_cons ha a_nil) fun A N W O H σ vs Q a q k => by
    obtain ⟨v, rfl, q'⟩ := dpAll_one q
    obtain ⟨p, ws, rfl, hS, hA⟩ := dp_tup q'
    exact ⟨p, ws, rfl, .inr (same_tup a.sel_h hS), by rw [dpAll_len hA]; exact k A N H _ a (Same.refl _) (Same.refl _) (Same.refl _) (.int _)⟩
def rListS (K : PySem.W.Frag) : List V → Hp → VK → Prop := fun xs H Q => ∃ p ys, xs = [.ref p] ∧ (SqL K H p ys ∨ SqT K H p ys) ∧ ∀ l, H l = none → Q (.ref l) (upd H l (.lst ys))
theorem call_listS {X : Cx} : CallR X (.type "list") (rListS X.K) := call_list_of
theorem o_list {α : Type} [ToD α] {xs : List α} (ha : Ev K H0 Γ ta md (toD xs)) : EvO K H0 Γ (tCB (rListS K) (tCons ta tNil)) md (xs.map toD) :=
  o_cb (a_cons ha a_nil) fun A N W O H σ vs Q a q k => by
    obtain ⟨v, rfl, q'⟩ := dpAll_one q
    obtain ⟨p, ws, rfl, hS, hA⟩ := dp_list q'
    exact ⟨p, ws, rfl, .inl (a.sel_h.seq hS), fun l hl => k l ws hl (a.hl.seq (a.sel_h.seq hS)) hA⟩
theorem ints_of {S : Hp} : ∀ {vs : List V} {ns : List Int}, DpAll K S vs (ns.map toD) → vs = ns.map V.int
  | [], [], _ => rfl
  | v :: vs, n :: ns, .cons h t => by rw [dp_int h, ints_of t]; rfl
  | [], _ :: _, h => by cases h
  | _ :: _, [], h => by cases h
theorem ints_to {S : Hp} : ∀ {ns : List Int}, DpAll K S (ns.map V.int) (ns.map toD)
  | [] => .nil
  | _ :: _ => .cons (.int _) ints_to
theorem bools_of {S : Hp} : ∀ {vs : List V} {ns : List Bool}, DpAll K S vs (ns.map toD) → vs = ns.map V.bl
  | [], [], _ => rfl
  | v :: vs, n :: ns, .cons h t => by rw [dp_bool h, bools_of t]; rfl
  | [], _ :: _, h => by cases h
  | _ :: _, [], h => by cases h
theorem dp_ints {S : Hp} {v : V} {ns : List Int} (q : Dp K S v (toD ns)) : ∃ a, v = .ref a ∧ SqL K S a (ns.map V.int) := by
  obtain ⟨p, vs, rfl, hS, hA⟩ := dp_list q
  rw [ints_of hA] at hS
  exact ⟨p, rfl, hS⟩
theorem dp_bools {S : Hp} {v : V} {ns : List Bool} (q : Dp K S v (toD ns)) : ∃ a, v = .ref a ∧ SqL K S a (ns.map V.bl) := by
  obtain ⟨p, vs, rfl, hS, hA⟩ := dp_list q
  rw [bools_of hA] at hS
  exact ⟨p, rfl, hS⟩
theorem e_sum {ns : List Int} (ha : Ev K H0 Γ ta .h (toD ns)) : Ev K H0 Γ (tCB (rSum K) (tCons ta tNil)) md (toD ns.sum) :=
  e_cb (a_cons ha a_nil) fun A N W O H σ vs Q a q k => by
    obtain ⟨v, rfl, q'⟩ := dpAll_one q
    obtain ⟨p, rfl, hS⟩ := dp_ints q'
    exact ⟨p, ns, rfl, a.sel_h.seq hS, k A N H _ a (Same.refl _) (Same.refl _) (Same.refl _) (.int _)⟩
theorem e_any {bs : List Bool} (ha : Ev K H0 Γ ta .h (toD bs)) : Ev K H0 Γ (tCB (rAny K) (tCons ta tNil)) md (toD (bs.any id)) :=
  e_cb (a_cons ha a_nil) fun A N W O H σ vs Q a q k => by
    obtain ⟨v, rfl, q'⟩ := dpAll_one q
    obtain ⟨p, rfl, hS⟩ := dp_bools q'
    exact ⟨p, bs, rfl, a.sel_h.seq hS, k A N H _ a (Same.refl _) (Same.refl _) (Same.refl _) (.bl _)⟩
theorem e_all {bs : List Bool} (ha : Ev K H0 Γ ta .h (toD bs)) : Ev K H0 Γ (tCB (rAll K) (tCons ta tNil)) md (toD (bs.all id)) :=
  e_cb (a_cons ha a_nil) fun A N W O H σ vs Q a q k => by
    obtain ⟨v, rfl, q'⟩ := dpAll_one q
    obtain ⟨p, rfl, hS⟩ := dp_bools q'
    exact ⟨p, bs, rfl, a.sel_h.seq hS, k A N H _ a (Same.refl _) (Same.refl _) (Same.refl _) (.bl _)⟩
/-- the greatest, the least of a list that has one -/
def maxO : List Int → Option Int
  | [] => none
  | x :: xs => some (xs.foldl max x)
def minO : List Int → Option Int
  | [] => none
  | x :: xs => some (xs.foldl min x)
theorem foldl_max_ge : ∀ (xs : List Int) (x : Int), x ≤ xs.foldl max x ∧ (∀ y ∈ xs, y ≤ xs.foldl max x) ∧ (xs.foldl max x = x ∨ xs.foldl max x ∈ xs)
  | [], x => ⟨Int.le_refl _, by simp, .inl rfl⟩
  | y :: ys, x => by
    obtain ⟨h1, h2, h3⟩ := foldl_max_ge ys (max x y)
    simp only [List.foldl_cons]
    refine ⟨by omega, fun z hz => ?_, ?_⟩
    · rcases List.mem_cons.mp hz with rfl | hz
      · omega
      · exact h2 z hz
    · rcases h3 with h3 | h3
      · rcases Int.le_total x y with h | h
        · right; rw [h3, Int.max_eq_right h]; exact List.mem_cons_self
        · left; rw [h3, Int.max_eq_left h]
      · right; exact List.mem_cons_of_mem _ h3
theorem foldl_min_le : ∀ (xs : List Int) (x : Int), xs.foldl min x ≤ x ∧ (∀ y ∈ xs, xs.foldl min x ≤ y) ∧ (xs.foldl min x = x ∨ xs.foldl min x ∈ xs)
  | [], x => ⟨Int.le_refl _, by simp, .inl rfl⟩
  | y :: ys, x => by
    obtain ⟨h1, h2, h3⟩ := foldl_min_le ys (min x y)
    simp only [List.foldl_cons]
    refine ⟨by omega, fun z hz => ?_, ?_⟩
    · rcases List.mem_cons.mp hz with rfl | hz
      · omega
      · exact h2 z hz
    · rcases h3 with h3 | h3
      · rcases Int.le_total x y with h | h
        · left; rw [h3, Int.min_eq_left h]
        · right; rw [h3, Int.min_eq_right h]; exact List.mem_cons_self
      · right; exact List.mem_cons_of_mem _ h3
theorem maxO_spec {xs : List Int} {m : Int} (h : maxO xs = some m) : m ∈ xs ∧ ∀ y ∈ xs, y ≤ m := by
  cases xs with
  | nil => cases h
  | cons x xs =>
    cases h
    obtain ⟨h1, h2, h3⟩ := foldl_max_ge xs x
    refine ⟨?_, fun y hy => ?_⟩
    · rcases h3 with h3 | h3
      · rw [h3]; exact List.mem_cons_self
      · exact List.mem_cons_of_mem _ h3
    · rcases List.mem_cons.mp hy with rfl | hy
      · exact h1
      · exact h2 y hy
theorem minO_spec {xs : List Int} {m : Int} (h : minO xs = some m) : m ∈ xs ∧ ∀ y ∈ xs, m ≤ y := by
  cases xs with
  | nil => cases h
  | cons x xs =>
    cases h
    obtain ⟨h1, h2, h3⟩ := foldl_min_le xs x
    refine ⟨?_, fun y hy => ?_⟩
    · rcases h3 with h3 | h3
      · rw [h3]; exact List.mem_cons_self
      · exact List.mem_cons_of_mem _ h3
    · rcases List.mem_cons.mp hy with rfl | hy
      · exact h1
      · exact h2 y hy
theorem e_max {ns : List Int} {m : Int} (ha : Ev K H0 Γ ta .h (toD ns)) (h : maxO ns = some m) : Ev K H0 Γ (tCB (rMax K) (tCons ta tNil)) md (toD m) :=
  e_cb (a_cons ha a_nil) fun A N W O H σ vs Q a q k => by
    obtain ⟨v, rfl, q'⟩ := dpAll_one q
    obtain ⟨p, rfl, hS⟩ := dp_ints q'
    obtain ⟨g1, g2⟩ := maxO_spec h
    refine ⟨p, ns, rfl, a.sel_h.seq hS, List.length_pos_of_mem g1, fun m' h1 h2 => ?_⟩
    have e : m' = m := Int.le_antisymm (g2 m' h1) (h2 m g1)
    rw [e]; exact k A N H _ a (Same.refl _) (Same.refl _) (Same.refl _) (.int _)
theorem e_min {ns : List Int} {m : Int} (ha : Ev K H0 Γ ta .h (toD ns)) (h : minO ns = some m) : Ev K H0 Γ (tCB (rMin K) (tCons ta tNil)) md (toD m) :=
  e_cb (a_cons ha a_nil) fun A N W O H σ vs Q a q k => by
    obtain ⟨v, rfl, q'⟩ := dpAll_one q
    obtain ⟨p, rfl, hS⟩ := dp_ints q'
    obtain ⟨g1, g2⟩ := minO_spec h
    refine ⟨p, ns, rfl, a.sel_h.seq hS, List.length_pos_of_mem g1, fun m' h1 h2 => ?_⟩
    have e : m' = m := Int.le_antisymm (h2 m g1) (g2 m' h1)
    rw [e]; exact k A N H _ a (Same.refl _) (Same.refl _) (Same.refl _) (.int _)
def rAbs : List V → Hp → VK → Prop := fun xs H Q => ∃ i, xs = [.int i] ∧ Q (.int (if i < 0 then -i else i)) H
theorem call_abs' {X : Cx} : CallR X (.builtin "abs") rAbs := call_abs
theorem e_abs {x : Int} (ha : Ev K H0 Γ ta .h (toD x)) : Ev K H0 Γ (tCB rAbs (tCons ta tNil)) md (toD (x.natAbs : Int)) :=
  e_cb (a_cons ha a_nil) fun A N W O H σ vs Q a q k => by
    obtain ⟨v, rfl, q'⟩ := dpAll_one q
    refine ⟨x, by rw [dp_int q'], ?_⟩
    have e : (if x < 0 then -x else x) = (x.natAbs : Int) := by split <;> omega
    rw [e]; exact k A N H _ a (Same.refl _) (Same.refl _) (Same.refl _) (.int _)
def rMax2 : List V → Hp → VK → Prop := fun xs H Q => ∃ i j, xs = [.int i, .int j] ∧ Q (.int (if j > i then j else i)) H
def rMin2 : List V → Hp → VK → Prop := fun xs H Q => ∃ i j, xs = [.int i, .int j] ∧ Q (.int (if j < i then j else i)) H
theorem call_max2' {X : Cx} (hc : X.calm = true) : CallR X (.builtin "max") rMax2 := call_max2 hc
theorem call_min2' {X : Cx} (hc : X.calm = true) : CallR X (.builtin "min") rMin2 := call_min2 hc
theorem e_max2 {x y : Int} (ha : Ev K H0 Γ ta .h (toD x)) (hb : Ev K H0 Γ tb .h (toD y)) : Ev K H0 Γ (tCB rMax2 (tCons ta (tCons tb tNil))) md (toD (max x y)) :=
  e_cb (a_cons ha (a_cons hb a_nil)) fun A N W O H σ vs Q a q k => by
    obtain ⟨v, w, rfl, q1, q2⟩ := dpAll_two q
    refine ⟨x, y, by rw [dp_int q1, dp_int q2], ?_⟩
    have e : (if y > x then y else x) = max x y := by split <;> omega
    rw [e]; exact k A N H _ a (Same.refl _) (Same.refl _) (Same.refl _) (.int _)
theorem e_min2 {x y : Int} (ha : Ev K H0 Γ ta .h (toD x)) (hb : Ev K H0 Γ tb .h (toD y)) : Ev K H0 Γ (tCB rMin2 (tCons ta (tCons tb tNil))) md (toD (min x y)) :=
  e_cb (a_cons ha (a_cons hb a_nil)) fun A N W O H σ vs Q a q k => by
    obtain ⟨v, w, rfl, q1, q2⟩ := dpAll_two q
    refine ⟨x, y, by rw [dp_int q1, dp_int q2], ?_⟩
    have e : (if y < x then y else x) = min x y := by split <;> omega
    rw [e]; exact k A N H _ a (Same.refl _) (Same.refl _) (Same.refl _) (.int _)
def rInt1 : List V → Hp → VK → Prop := fun xs H Q => (∃ i, xs = [.int i] ∧ Q (.int i) H) ∨ ∃ k, xs = [.bl k] ∧ Q (.int (if k then 1 else 0)) H
theorem call_int1' {X : Cx} : CallR X (.type "int") rInt1 := call_int1
theorem e_intB {x : Bool} (ha : Ev K H0 Γ ta .h (toD x)) : Ev K H0 Γ (tCB rInt1 (tCons ta tNil)) md (toD (if x = true then (1 : Int) else 0)) :=
  e_cb (a_cons ha a_nil) fun A N W O H σ vs Q a q k => by
    obtain ⟨v, rfl, q'⟩ := dpAll_one q
    exact .inr ⟨x, by rw [dp_bool q'], k A N H _ a (Same.refl _) (Same.refl _) (Same.refl _) (.int _)⟩
/-- sorted of ints -/
def ins (x : Int) : List Int → List Int
  | [] => [x]
  | y :: ys => if x ≤ y then x :: y :: ys else y :: ins x ys
def srt : List Int → List Int
  | [] => []
  | x :: xs => ins x (srt xs)
theorem ins_perm (x : Int) : ∀ ys : List Int, (ins x ys).Perm (x :: ys)
  | [] => .refl _
  | y :: ys => by
    unfold ins; split
    · exact .refl _
    · exact ((ins_perm x ys).cons y).trans (.swap x y ys)
theorem srt_perm : ∀ xs : List Int, (srt xs).Perm xs
  | [] => .refl _
  | x :: xs => (ins_perm x (srt xs)).trans ((srt_perm xs).cons x)
theorem ins_sorted (x : Int) : ∀ ys : List Int, ys.Pairwise (· ≤ ·) → (ins x ys).Pairwise (· ≤ ·)
  | [], _ => by simp [ins]
  | y :: ys, h => by
    have h' := List.pairwise_cons.mp h
    unfold ins; split
    · rename_i hxy
      refine List.pairwise_cons.mpr ⟨fun z hz => ?_, h⟩
      rcases List.mem_cons.mp hz with rfl | hz
      · exact hxy
      · exact Int.le_trans hxy (h'.1 z hz)
    · rename_i hxy
      refine List.pairwise_cons.mpr ⟨fun z hz => ?_, ins_sorted x ys h'.2⟩
      rcases List.mem_cons.mp ((ins_perm x ys).mem_iff.mp hz) with rfl | hz
      · omega
      · exact h'.1 z hz
theorem srt_sorted : ∀ xs : List Int, (srt xs).Pairwise (· ≤ ·)
  | [] => .nil
  | x :: xs => ins_sorted x _ (srt_sorted xs)
theorem sorted_unique : ∀ {xs ys : List Int}, xs.Perm ys → xs.Pairwise (· ≤ ·) → ys.Pairwise (· ≤ ·) → xs = ys := fun {xs ys} p h1 h2 =>
  p.eq_of_pairwise (fun a b _ _ h h' => Int.le_antisymm h h') h1 h2
theorem srt_len (xs : List Int) : (srt xs).length = xs.length := (srt_perm xs).length_eq
theorem o_sorted {ns : List Int} (ha : Ev K H0 Γ ta .h (toD ns)) : EvO K H0 Γ (tCB (rSortedI K) (tCons ta tNil)) md ((srt ns).map toD) :=
  o_cb (a_cons ha a_nil) fun A N W O H σ vs Q a q k => by
    obtain ⟨v, rfl, q'⟩ := dpAll_one q
    obtain ⟨p, rfl, hS⟩ := dp_ints q'
    refine ⟨p, ns, rfl, a.sel_h.seq hS, fun ns' l hp hs hl => ?_⟩
    have e : ns' = srt ns := sorted_unique (hp.trans (srt_perm ns).symm) hs (srt_sorted ns)
    have hz := a.hl.seq (a.sel_h.seq hS)
    rw [List.length_map] at hz
    rw [e]
    exact k l _ hl (by rw [List.length_map, srt_len]; exact hz) ints_to

/-! ### slices, concatenation -/
/-- a bound of a slice -/
def EvPart (K : PySem.W.Frag) (H0 : Base) (Γ : Ctx) (t : TO) (o : Option Int) : Prop :=
  ∀ ⦃A N : Hp⦄ ⦃W : Addr → Prop⦄ ⦃O : Nat → List Addr⦄ ⦃H : Hp⦄ ⦃σ : St⦄ (Q : Option Int → Hp → Prop), AtB K H0 A N W O H σ Γ →
    (∀ A' N' H', AtB K H0 A' N' W O H' σ Γ → Same A A' → Same N N' → Same H H' → Q o H') → t σ H Q
theorem p_none : EvPart K H0 Γ tNoPart none := fun A N W O H σ Q a k => k A N H a (Same.refl _) (Same.refl _) (Same.refl _)
theorem p_some {x : Int} (ha : Ev K H0 Γ ta .h (toD x)) : EvPart K H0 Γ (tPart ta) (some x) := fun A N W O H σ Q a k =>
  ha _ a fun A1 N1 H1 v a1 s1 s2 s3 q1 => ⟨x, dp_int q1, k A1 N1 H1 a1 s1 s2 s3⟩
theorem o_slice {α : Type} [ToD α] {xs : List α} {tl th : TO} {lo hi : Option Int} (ha : Ev K H0 Γ ta md (toD xs)) (hl : EvPart K H0 Γ tl lo) (hh : EvPart K H0 Γ th hi) : EvO K H0 Γ (tSl (rSlL K) ta tl th) md ((cut xs lo hi).map toD) := fun A N W O H σ Q a k =>
  ha _ a fun A1 N1 H1 v a1 s1 s2 s3 q1 => hl _ a1 fun A2 N2 H2 a2 t1 t2 t3 => hh _ a2 fun A3 N3 H3 a3 u1 u2 u3 => by
    have q3 := dp_mono (Md.sel_mono (u1) (u2) (u3)) (dp_mono (Md.sel_mono t1 t2 t3) q1)
    obtain ⟨p, vs, rfl, hS, hA⟩ := dp_list q3
    refine ⟨p, vs, rfl, a3.sel_h.seq hS, fun l hp => ?_⟩
    have hz : (cutV vs lo hi).length ≤ sizeLine := Nat.le_trans (cutV_length vs lo hi) (a3.hl.seq (a3.sel_h.seq hS))
    have hq : DpAll K (md.sel A3 N3 H3) (cutV vs lo hi) ((cut xs lo hi).map toD) := by
      unfold cut; rw [← cut_map, ← dpAll_len hA]
      unfold cutV
      exact dpAll_take _ (dpAll_drop _ hA)
    exact k A3 N3 _ l _ (a3.allocO hp (a3.hl.upd_lst hz)) ((s1.trans t1).trans u1) ((s2.trans t2).trans u2) (((s3.trans t3).trans u3).trans (same_upd hp)) (((s3.trans t3).trans u3).free hp) (a3.ah.free hp) (a3.noW hp) upd_same (dpAll_mono (Md.sel_mono (Same.refl _) (Same.refl _) (same_upd hp)) hq)
/-- list + list -/
def rCatS (K : PySem.W.Frag) : R2 := fun x y H Q => ∃ l b xs zs, x = .ref l ∧ y = .ref b ∧ SqL K H l xs ∧ SqL K H b zs ∧ xs.length + zs.length ≤ sizeLine ∧ ∀ p, H p = none → Q (.ref p) (upd H p (.lst (xs ++ zs)))
open PyProof.Rows in
theorem op_catS {X : Cx} : OpR X (binaryOp .Add) (rCatS X.K) := by
  intro pins s σ H x y v u Q I rx ry h
  obtain ⟨l, b, xs, zs, rfl, rfl, hH, hB, hz, q⟩ := h
  cases rx
  cases ry
  obtain ⟨its, r, pl, z1⟩ := I.list hH
  obtain ⟨its2, r2, pl2, z2⟩ := I.list hB
  obtain ⟨o, n, ho, hc, hd', hdat⟩ := pl
  obtain ⟨o2, n2, ho2, hc2, hd2, hdat2⟩ := pl2
  obtain ⟨cls, dd, data, sl⟩ := o
  obtain ⟨cls2, dd2, data2, sl2⟩ := o2
  simp only at hc hd' hdat hc2 hd2 hdat2
  subst hc hd' hdat hc2 hd2 hdat2
  have e : its.toArray ++ its2.toArray = (its ++ its2).toArray := by simp
  refine concat_meets ⟨_, ho, rfl⟩ ⟨_, ho2, rfl⟩ noFill_list_add seq_list_add PySem.F.slot_list_add PySem.F.entry_list_add (PySem.F.args_list_add_2 _ _) (list_addW l b its.toArray its2.toArray n n2 none none sl sl2 (by simp only [List.size_toArray]; rw [← r.length, ← r2.length]; exact hz)) ⟨ho, ho2, ?_⟩
  rw [e]
  exact ⟨.ref _, _, I.lnew (t' := s.toks) (r.append r2) (by rw [List.length_append]; omega), rfl, q _ I.fresh⟩
end
end Mir

set_option maxHeartbeats 2000000
namespace Mir
open PySem PySem.Spec L2 RT
set_option autoImplicit false
/-! ## list(reversed(a list)) -/
open PyProof.Rows in
theorem extend_rev {prog : Program} {w : World} {A : Around} {s : Shared} {R : Result → Shared → Prop} {it l : Addr} {items : Array Value} (hh : A.handled = none) (hit : s.heap.IsRevIter it l ((items.size : Int) - 1)) (hl : s.heap.IsList l items) (hne : l ≠ it) (hn : items.size ≤ sizeLine)
    (S : Addr) (res : Value) (c₀ : Nat) (hS : s.heap.get? S = some { cls := .type "list", data := .seq #[] c₀ }) (hSi : S ≠ it) (hSl : S ≠ l)
    (hR : ∀ (h' : Heap) (tk : Nat) (acc' : Array Value) (c' : Nat), (∀ b o, b ≠ S → b ≠ it → s.heap.get? b = some o → h'.get? b = some o) → h'.get? S = some { cls := .type "list", dict := none, data := .seq acc' c', slots := #[] } →
      ItemsOf (fun i v => items[items.size - 1 - i]? = some v) acc' items.size → R (.ok (.ret res)) { s with heap := h', toks := tk }) :
    wpAny (model prog w) A.in1 (Builtin.List.listExtendWith (.ref S) (.ref it) res)
      (fun fin s' => match fin with | .done f => R (.ok f) s' | .again c' => c'.quiet = true ∧ codeAny (model prog w) A c' R s') (fun e s' => R (.error e) s') s := by
  have W := (Walks.listRev (prog := prog) (w := w) (A := A.in1) hh it l hne items).toS
  have hSf : S ∉ [it, l] := by simp only [List.mem_cons, List.not_mem_nil, or_false, not_or]; exact ⟨hSi, hSl⟩
  have hT : s.TypeIs (.ref it) "list_reverseiterator" := hit.typeIs
  have h1 : Builtin.List.listSameRef (.ref S) (.ref it) = false := by simp [Builtin.List.listSameRef, hSi]
  unfold Builtin.List.listExtendWith
  refine wpAny_bind (wpAny_typeOf hT ?_)
  rw [if_neg (by rw [h1]; decide)]
  refine wpAny_bind (wpAny_pyIter_revIter hit ?_)
  refine wpAny_bind (wpAny_holding ?_)
  unfold Builtin.List.listLengthHint
  refine wpAny_bind (wpAny_specialOf hT nolen_lri ?_)
  show wpAny _ A.in1 (specialOf (Value.ref it) (Str.ofString "__length_hint__") >>= _) _ _ _
  refine wpAny_bind (wpAny_specialOf hT hint_lri ?_)
  generalize hid : ("list_reverseiterator.__length_hint__" : String) = id0
  wp_delta
  rw [show splitId id0 = some ("list_reverseiterator", "__length_hint__") from by subst hid; decide +kernel]
  subst hid
  refine wpAny_bind (wpAny_isInstance (b := true) hT (by rw [isSubtype_type]; kernel_rfl) ?_)
  refine wpAny_pure ?_
  rw [if_neg (by decide)]
  have e0 : ((items.size : Nat) : Int) - 1 - ((0 : Nat) : Int) = (items.size : Int) - 1 := by omega
  refine wpAny_pure ⟨plainId_quiet F.plain_extend_loop _, codeAny_extend_loopS W hn _ hSf _ items.size 0 _ _ _ rfl (Nat.zero_le _) ⟨Nat.zero_le _, by rw [e0]; exact hit, hl⟩ hS (ItemsOf.nil _) fun s' acc' c' hm hS' hacc => ?_⟩
  rw [Moved.eq_with hm]
  refine hR s'.heap s'.toks acc' c' (fun b o hb hbi e => hm.heap b o (fun hmem => ?_) e) hS' hacc
  rcases List.mem_cons.mp hmem with e' | hmem
  · exact hb e'
  · exact hbi (List.mem_singleton.mp hmem)
open PyProof.Rows in
theorem call_list_rev {prog : Program} {w : World} {A : Around} {E : Value → Shared → Prop} {s : Shared} {it l : Addr} {items : Array Value} {Q : Value → Shared → Prop} (hh : A.handled = none) (hit : s.heap.IsRevIter it l ((items.size : Int) - 1)) (hl : s.heap.IsList l items) (hne : l ≠ it) (hn : items.size ≤ sizeLine)
    (hQ : ∀ (h' : Heap) (tk : Nat) (acc : Array Value) (c' : Nat), (∀ b o, b ≠ it → s.heap.get? b = some o → h'.get? b = some o) → h'.get? s.heap.objs.size = some { cls := .type "list", dict := none, data := .seq acc c', slots := #[] } →
      ItemsOf (fun i v => items[items.size - 1 - i]? = some v) acc items.size → Q (.ref s.heap.objs.size) { s with heap := h', toks := tk }) :
    wpAny (model prog w) A (call (.type "list") [.ref it]) Q E s := by
  obtain ⟨oi, hoi, _⟩ := id hit
  obtain ⟨ol, hol, _⟩ := id hl
  have hSi : s.heap.objs.size ≠ it := Nat.ne_of_gt (Heap.lt_size hoi)
  have hSl : s.heap.objs.size ≠ l := Nat.ne_of_gt (Heap.lt_size hol)
  refine callType_codes (Q₁ := fun obj s₁ => obj = .ref s.heap.objs.size ∧ s₁ = { s with heap := s.heap.push { cls := .type "list", data := .seq #[] } }) F.called_list (F.typeCall_list_1 _) F.entry_list_init
    (code_list_new _ ⟨rfl, rfl⟩) fun obj s₁ h₁ => ?_
  obtain ⟨rfl, rfl⟩ := h₁
  have hS : (s.heap.push { cls := .type "list", data := .seq #[] }).get? s.heap.objs.size = some { cls := .type "list", data := .seq #[] } := Heap.get?_push_size _ rfl
  have hit1 : (s.heap.push { cls := .type "list", data := .seq #[] }).IsRevIter it l ((items.size : Int) - 1) := hit.at fun o e => Heap.get?_push_of_some _ e
  have hl1 : (s.heap.push { cls := .type "list", data := .seq #[] }).IsList l items := hl.push _
  refine ⟨⟨_, hS, rfl⟩, F.args_list_init_2 _ _, ?_⟩
  show wpAny _ _ (do let old ← Builtin.List.listItems (.ref s.heap.objs.size); Builtin.List.listUpdate (.ref s.heap.objs.size) (fun _ => #[]); letGo old.toList.reverse; Builtin.List.listExtendWith (.ref s.heap.objs.size) (.ref it) .none) _ _ _
  refine wpAny_bind ?_
  unfold Builtin.List.listItems
  refine wpAny_bind (wpAny_seqItems hS rfl (wpAny_pure ?_))
  show wpAny _ _ (updateSeq s.heap.objs.size (fun _ => #[]) >>= fun _ => letGo (#[] : Array Value).toList.reverse >>= fun _ => Builtin.List.listExtendWith (.ref s.heap.objs.size) (.ref it) .none) _ _ _
  refine wpAny_bind (wpAny_updateSeq hS rfl ?_)
  have hS₂ := Heap.get?_update_self (Obj.mapSeq (fun _ => (#[] : Array Value))) hS rfl
  have oth : ∀ b o, b ≠ s.heap.objs.size → (s.heap.push { cls := .type "list", data := .seq #[] }).get? b = some o → ((s.heap.push { cls := .type "list", data := .seq #[] }).update s.heap.objs.size (Obj.mapSeq (fun _ => (#[] : Array Value)))).get? b = some o :=
    fun b o hb e => (Heap.get?_update_other _ _ (Ne.symm hb)).trans e
  refine wpAny_bind (wpAny_letGo ?_)
  obtain ⟨ol1, hol1, hc1, hd1⟩ := id hl1
  refine extend_rev (A := A.in1) hh (hit1.at fun o e => oth it o (Ne.symm hSi) e) ⟨ol1, oth l ol1 (Ne.symm hSl) hol1, hc1, hd1⟩ hne hn s.heap.objs.size .none _ hS₂ hSi hSl fun h' tk acc' c' hk hS' hacc => ?_
  exact ⟨rfl, hQ h' tk acc' c' (fun b o hb e => hk b o (Nat.ne_of_lt (Heap.lt_size e)) hb (oth b o (Nat.ne_of_lt (Heap.lt_size e)) (Heap.get?_push_of_some _ e))) hS' hacc⟩
def tLstRev (K : PySem.W.Frag) (te : TE) : TE := fun σ H Q => te σ H fun v H1 => ∃ (a : Addr) (xs : List V), v = .ref a ∧ SqL K H1 a xs ∧ ∀ p, H1 p = none → Q (.ref p) (upd H1 p (.lst xs.reverse))
open PyProof.Rows in
theorem pe_lstRev {X : Cx} {e : Expr} {te : TE} {p p2 pos pos2 : Pos} (hc : X.calm = true) (hg : Gl X "list") (hm : X.mg "list" = none) (hg2 : Gl X "reversed") (hm2 : X.mg "reversed" = none) (he : PE X e te)
    (hs : starEach [e] X.env = (false, eval e X.env) :: starEach [] X.env := by rfl)
    (hs2 : starEach [.Call (.Name "reversed" p2) [e] [] pos2] X.env = (false, eval (.Call (.Name "reversed" p2) [e] [] pos2) X.env) :: starEach [] X.env := by rfl) :
    PE X (.Call (.Name "list" p) [.Call (.Name "reversed" p2) [e] [] pos2] [] pos) (tLstRev X.K te) := by
  refine ⟨fun pins s σ H Q I h => ?_⟩
  refine Call_ (ld_blt I hg hm boot_list (PyProof.Rows.callWith_type1 (args_cons (Call_ (ld_blt I hg2 hm2 PyProof.Rows.boot_reversed (PyProof.Rows.callWith_type1 (args_cons (thn (he.run pins s σ H _ I h) fun u s1 ⟨v, H1, I1, r1, q1⟩ => args_nil ?_) hs) hs rfl))) hs2) hs2 rfl))
  obtain ⟨a, xs, ev, hq, q⟩ := q1
  subst ev
  obtain rfl : u = Value.ref a := r1
  obtain ⟨its, rv, p', hz⟩ := I1.list hq
  refine call_reversed_list p'.isList (args_nil ?_)
  have k0 : ∀ b o, s1.heap.get? b = some o → (s1.heap.push (revObj a ((its.toArray.size : Int) - 1))).get? b = some o := fun b o e => Heap.get?_push_of_some _ e
  have I2 : Inv X pins σ H1 { s1 with heap := s1.heap.push (revObj a ((its.toArray.size : Int) - 1)) } := I1.kept (t' := s1.toks) k0
  obtain ⟨f0, f1, f2, f3, f4, f5⟩ := I1.fpOk (H' := H1) (b := s1.heap.objs.size) (Nat.le_refl _) (I1.hok.fresh (Nat.le_refl _))
  have hl := p'.isList
  obtain ⟨ol, hol, _⟩ := id hl
  have hne : a ≠ s1.heap.objs.size := Nat.ne_of_lt (Heap.lt_size hol)
  have hn : its.toArray.size ≤ sizeLine := by rw [List.size_toArray, ← rv.length]; exact hz
  refine call_list_rev (s := { s1 with heap := s1.heap.push (revObj a ((its.toArray.size : Int) - 1)) }) (I1.ok.hd hc) ⟨_, Heap.get?_push_size _ rfl, rfl, rfl⟩ (hl.push _) hne hn fun h' tk acc c' hk hS hi => ?_
  obtain ⟨G', g1, g2⟩ := restrict h' fun b => decide (b ≠ s1.heap.objs.size)
  have gk : ∀ b, b ≠ s1.heap.objs.size → G'.get? b = h'.get? b := fun b hb => g1 b (decide_eq_true hb)
  have ge : G'.get? s1.heap.objs.size = none := g2 s1.heap.objs.size (by simp)
  have eS : (s1.heap.push (revObj a ((its.toArray.size : Int) - 1))).objs.size = s1.heap.objs.size + 1 := Heap.size_push _ _
  have hS' : h'.get? (s1.heap.push (revObj a ((its.toArray.size : Int) - 1))).objs.size = some { cls := .type "list", dict := none, data := .seq acc c', slots := #[] } := hS
  have neS : (s1.heap.push (revObj a ((its.toArray.size : Int) - 1))).objs.size ≠ s1.heap.objs.size := by rw [eS]; omega
  have old : ∀ b o, s1.heap.get? b = some o → G'.get? b = some o := fun b o q' => (gk b (Nat.ne_of_lt (Heap.lt_size q'))).trans (hk b o (Nat.ne_of_lt (Heap.lt_size q')) (k0 b o q'))
  have ob : ObjOk X.prog X.w (upd H1 (s1.heap.push (revObj a ((its.toArray.size : Int) - 1))).objs.size (.lst xs.reverse)) G' (s1.heap.push (revObj a ((its.toArray.size : Int) - 1))).objs.size (.lst xs.reverse) :=
    ⟨by rw [List.length_reverse]; exact hz, acc.toList, c', vals_rev rv hi, by rw [gk _ neS, Array.toArray_toList]; exact hS'⟩
  have J : Inv X pins σ (upd H1 (s1.heap.push (revObj a ((its.toArray.size : Int) - 1))).objs.size (.lst xs.reverse)) { s1 with heap := G', toks := tk } := I1.laid (t' := tk) old (by rw [eS]; omega) ob
  have J2 := J.kept (h' := h') (t' := tk) fun b o q' => by
    by_cases hb : b = s1.heap.objs.size
    · have q2 : G'.get? b = some o := q'
      rw [hb, ge] at q2; cases q2
    · exact (gk b hb).symm.trans q'
  exact ⟨.ref _, _, J2, rfl, q _ (I1.hok.fresh (by rw [eS]; omega))⟩
end Mir

namespace Mir
open PySem PySem.Spec L2
open ToD (toD)
set_option autoImplicit false
section
variable {K : PySem.W.Frag} {H0 : Base} {Γ : Ctx} {ta tb te : TE} {ts : TA} {md m1 m2 : Md} {d d1 d2 : PyData} {ds es : List PyData} {i j : Int}
theorem o_lstRev {α : Type} [ToD α] {xs : List α} (ha : Ev K H0 Γ ta md (toD xs)) : EvO K H0 Γ (tLstRev K ta) md (xs.reverse.map toD) := fun A N W O H σ Q a k =>
  ha _ a fun A1 N1 H1 v a1 s1 s2 s3 q1 => by
    obtain ⟨p, vs, rfl, hS, hA⟩ := dp_list q1
    have hS' := a1.sel_h.seq hS
    refine ⟨p, vs, rfl, hS', fun l hp => ?_⟩
    have hz : vs.reverse.length ≤ sizeLine := by rw [List.length_reverse]; exact a1.hl.seq hS'
    have hq : DpAll K (md.sel A1 N1 H1) vs.reverse (xs.reverse.map toD) := by rw [List.map_reverse]; exact dpAll_rev hA
    exact k A1 N1 _ l _ (a1.allocO hp (a1.hl.upd_lst hz)) s1 s2 (s3.trans (same_upd hp)) (s3.free hp) (a1.ah.free hp) (a1.noW hp) upd_same (dpAll_mono (Md.sel_mono (Same.refl _) (Same.refl _) (same_upd hp)) hq)
def catO {α : Type} (xs ys : List α) : Option (List α) := if xs.length + ys.length ≤ lim then some (xs ++ ys) else none
theorem o_cat {α : Type} [ToD α] {xs ys zs : List α} (ha : Ev K H0 Γ ta md (toD xs)) (hb : Ev K H0 Γ tb md (toD ys)) (h : catO xs ys = some zs) : EvO K H0 Γ (tOp (rCatS K) ta tb) md (zs.map toD) := fun A N W O H σ Q a k =>
  ha _ a fun A1 N1 H1 x a1 s1 s2 s3 q1 => hb _ a1 fun A2 N2 H2 y a2 t1 t2 t3 q2 => by
    unfold catO at h
    split at h
    · rename_i hz
      cases h
      obtain ⟨p, vs, rfl, hS, hA⟩ := dp_list (dp_mono (Md.sel_mono t1 t2 t3) q1)
      obtain ⟨p2, ws, rfl, hS2, hA2⟩ := dp_list q2
      have hl : vs.length + ws.length ≤ sizeLine := by rw [dpAll_len hA, dpAll_len hA2, List.length_map, List.length_map, lim_eq]; exact hz
      refine ⟨p, p2, vs, ws, rfl, rfl, a2.sel_h.seq hS, a2.sel_h.seq hS2, hl, fun l hp => ?_⟩
      have hq : DpAll K (md.sel A2 N2 H2) (vs ++ ws) ((xs ++ ys).map toD) := by rw [List.map_append]; exact dpAll_app hA hA2
      exact k A2 N2 _ l _ (a2.allocO hp (a2.hl.upd_lst (by rw [List.length_append]; exact hl))) (s1.trans t1) (s2.trans t2) ((s3.trans t3).trans (same_upd hp)) ((s3.trans t3).free hp) (a2.ah.free hp) (a2.noW hp) upd_same (dpAll_mono (Md.sel_mono (Same.refl _) (Same.refl _) (same_upd hp)) hq)
    · cases h

/-! ## 6. what is walked -/
section
variable {wi : TI}
theorem yat_walk {A' N' H' : Hp} {vs : List V} {ds : List PyData} (q : DpAll K (md.sel A' N' H') vs ds) (hm : md ≠ .h) :
    ∀ (i : Nat) (A1 N1 : Hp) (W1 : Addr → Prop) (O1 : Nat → List Addr) (H1 : Hp) (σ1 : St) (Γ1 : Ctx) (x : V) (H2 : Hp), AtB K H0 A1 N1 W1 O1 H1 σ1 Γ1 → Same A' A1 → Same N' N1 → i < ds.length → YAt vs i H1 x H2 →
        ∃ A2 N2 d, AtB K H0 A2 N2 W1 O1 H2 σ1 Γ1 ∧ Same A1 A2 ∧ Same N1 N2 ∧ Same H1 H2 ∧ ds[i]? = some d ∧ Dp K (md.sel A2 N2 H2) x d := fun i A1 N1 W1 O1 H1 σ1 Γ1 x H2 a sA sN hi y => by
  obtain ⟨rfl, e⟩ := y
  obtain ⟨d, e2, q2⟩ := dpAll_get q e
  refine ⟨A1, N1, d, a, Same.refl _, Same.refl _, Same.refl _, e2, ?_⟩
  cases md
  · exact absurd rfl hm
  · exact dp_mono sA q2
  · exact dp_mono sN q2
theorem walk_len {J : It} {n m : Nat} {G : Hp → Prop} {Y : Nat → Hp → V → Hp → Prop} (e : n = m) (w : Walk J n G Y) : Walk J m G Y := e ▸ w
/-- a list that never changes -/
theorem i_list (ha : Ev K H0 Γ ta md (.list ds)) (hm : md ≠ .h) : EvI K H0 Γ (iList K ta) md ds := fun A N W O H σ R a k =>
  ha _ a fun A1 N1 H1 v a1 s1 s2 s3 q1 => by
    obtain ⟨p, vs, rfl, hS, hA⟩ := dp_list q1
    have hS1 : SqL K A1 p vs := (a1.sel_s hm).seq hS
    have e : vs.length = ds.length := dpAll_len hA
    exact ⟨p, rfl, ⟨vs, a1.ah.seq hS1⟩, k A1 N1 H1 _ _ _ a1 s1 s2 s3 (walk_len e walk_list) (e ▸ a1.hl.seq (a1.ah.seq hS1)) (fun H'' s => s.seq hS1) (yat_walk hA hm)⟩
theorem i_tup (ha : Ev K H0 Γ ta md (.tuple ds)) (hm : md ≠ .h) (hz : ds.length ≤ sizeLine := by simp only [List.length_cons, List.length_nil]; decide) : EvI K H0 Γ (iTup K ta) md ds := fun A N W O H σ R a k =>
  ha _ a fun A1 N1 H1 v a1 s1 s2 s3 q1 => by
    obtain ⟨p, vs, rfl, hS, hA⟩ := dp_tup q1
    have hS1 : SqT K A1 p vs := same_tup (a1.sel_s hm) hS
    have e : vs.length = ds.length := dpAll_len hA
    exact ⟨p, rfl, ⟨vs, same_tup a1.ah hS1⟩, k A1 N1 H1 _ _ _ a1 s1 s2 s3 (walk_len e walk_tup) hz (fun H'' s => same_tup s hS1) (yat_walk hA hm)⟩
theorem i_rev {α : Type} [ToD α] {xs : List α} (ha : Ev K H0 Γ ta md (toD xs)) (hm : md ≠ .h) : EvI K H0 Γ (iRev K (tCons ta tNil)) md (xs.reverse.map toD) := fun A N W O H σ R a k =>
  ha _ a fun A1 N1 H1 v a1 s1 s2 s3 q1 => by
    obtain ⟨p, vs, rfl, hS, hA⟩ := dp_list q1
    have hS1 : SqL K A1 p vs := (a1.sel_s hm).seq hS
    have e : vs.length = (xs.reverse.map toD).length := by rw [dpAll_len hA, List.length_map, List.length_map, List.length_reverse]
    refine ⟨p, vs, rfl, a1.ah.seq hS1, k A1 N1 H1 _ _ _ a1 s1 s2 s3 (walk_len e walk_rev) (e ▸ a1.hl.seq (a1.ah.seq hS1)) (fun H'' s => s.seq hS1) fun i A1 N1 W1 O1 H1 σ1 Γ1 x H2 a sA sN hi y => ?_⟩
    obtain ⟨rfl, y⟩ := y
    obtain ⟨d, e2, q2⟩ := dpAll_get hA y
    refine ⟨A1, N1, d, a, Same.refl _, Same.refl _, Same.refl _, ?_, ?_⟩
    · have hl := dpAll_len hA
      rw [List.length_map] at hl hi
      rw [List.length_reverse] at hi
      rw [List.getElem?_map, List.getElem?_reverse hi, ← hl, ← List.getElem?_map]
      exact e2
    · cases md
      · exact absurd rfl hm
      · exact dp_mono sA q2
      · exact dp_mono sN q2
/-- lo, lo + 1, .. below hi -/
def rng (lo hi : Int) : List Int := (List.range (hi - lo).toNat).map fun i : Nat => lo + (i : Int)
def rngO (lo hi : Int) : Option (List Int) := if -(16777216 : Int) ≤ lo ∧ hi ≤ 16777216 ∧ lo ≤ 16777216 ∧ -(16777216 : Int) ≤ hi ∧ hi - lo ≤ 16777216 then some (rng lo hi) else none
theorem rng_len (lo hi : Int) : (rng lo hi).length = (hi - lo).toNat := by unfold rng; simp
theorem rng_get {lo hi : Int} {i : Nat} (h : i < (hi - lo).toNat) : (rng lo hi)[i]? = some (lo + (i : Int)) := by
  unfold rng
  rw [List.getElem?_map, List.getElem?_range h]; rfl
theorem rng_walk {lo hi : Int} : ∀ (i : Nat) (A1 N1 : Hp) (W1 : Addr → Prop) (O1 : Nat → List Addr) (H1 : Hp) (σ1 : St) (Γ1 : Ctx) (x : V) (H2 : Hp), AtB K H0 A1 N1 W1 O1 H1 σ1 Γ1 → i < (hi - lo).toNat → (YFn fun i => V.int (lo + (i : Nat))) i H1 x H2 →
        ∃ A2 N2 d, AtB K H0 A2 N2 W1 O1 H2 σ1 Γ1 ∧ Same A1 A2 ∧ Same N1 N2 ∧ Same H1 H2 ∧ ((rng lo hi).map toD)[i]? = some d ∧ Dp K (md.sel A2 N2 H2) x d := fun i A1 N1 W1 O1 H1 σ1 Γ1 x H2 a hi y => by
  obtain ⟨rfl, rfl⟩ := y
  exact ⟨A1, N1, toD (lo + (i : Int)), a, Same.refl _, Same.refl _, Same.refl _, by rw [List.getElem?_map, rng_get hi]; rfl, .int _⟩
theorem i_rng1 {n : Int} {xs : List Int} (ha : Ev K H0 Γ ta .h (toD n)) (h : rngO 0 n = some xs) : EvI K H0 Γ (iRng1 (tCons ta tNil)) md (xs.map toD) := fun A N W O H σ R a k =>
  ha _ a fun A1 N1 H1 v a1 s1 s2 s3 q1 => by
    unfold rngO at h
    split at h
    · rename_i hz
      cases h
      refine ⟨n, by rw [dp_int q1], by omega, by omega, ?_⟩
      have e : n.toNat = ((rng 0 n).map toD).length := by rw [List.length_map, rng_len]; omega
      refine k A1 N1 H1 _ _ _ a1 s1 s2 s3 (walk_len e walk_range) (by rw [← e, lim_eq]; show _ ≤ 16777216; omega) (fun _ _ => trivial) fun i A1 N1 W1 O1 H1 σ1 Γ1 x H2 a sA sN hi y => rng_walk i A1 N1 W1 O1 H1 σ1 Γ1 x H2 a (by rw [← e] at hi; omega) y
    · cases h
theorem i_rng2 {lo n : Int} {xs : List Int} (ha : Ev K H0 Γ ta .h (toD lo)) (hb : Ev K H0 Γ tb .h (toD n)) (h : rngO lo n = some xs) : EvI K H0 Γ (iRng2 (tCons ta (tCons tb tNil))) md (xs.map toD) := fun A N W O H σ R a k =>
  ha _ a fun A1 N1 H1 v a1 s1 s2 s3 q1 => hb _ a1 fun A2 N2 H2 w a2 t1 t2 t3 q2 => by
    unfold rngO at h
    split at h
    · rename_i hz
      cases h
      refine ⟨lo, n, by rw [dp_int q1, dp_int q2], ⟨by omega, by omega, by omega, by omega⟩, ?_⟩
      have e : (n - lo).toNat = ((rng lo n).map toD).length := by rw [List.length_map, rng_len]
      refine k A2 N2 H2 _ _ _ a2 (s1.trans t1) (s2.trans t2) (s3.trans t3) (walk_len e walk_range) (by rw [← e, lim_eq]; show _ ≤ 16777216; omega) (fun _ _ => trivial) fun i A1 N1 W1 O1 H1 σ1 Γ1 x H2 a sA sN hi y => rng_walk i A1 N1 W1 O1 H1 σ1 Γ1 x H2 a (by rw [← e] at hi; exact hi) y
    · cases h
theorem zip_pairs {α β : Type} [ToD α] [ToD β] (xs : List α) (ys : List β) {i : Nat} {d e : PyData} (h1 : (xs.map toD)[i]? = some d) (h2 : (ys.map toD)[i]? = some e) : ((xs.zip ys).map toD)[i]? = some (.tuple [d, e]) := by
  rw [List.getElem?_map] at h1 h2 ⊢
  obtain ⟨a, ha, rfl⟩ := Option.map_eq_some_iff.mp h1
  obtain ⟨b, hb, rfl⟩ := Option.map_eq_some_iff.mp h2
  have e : (xs.zip ys)[i]? = some (a, b) := List.getElem?_zip_eq_some.mpr ⟨ha, hb⟩
  rw [e]; rfl
/-- zip of two lists that never change -/
theorem i_zip {α β : Type} [ToD α] [ToD β] {xs : List α} {ys : List β} (ha : Ev K H0 Γ ta md (toD xs)) (hb : Ev K H0 Γ tb md (toD ys)) (hm : md ≠ .h) : EvI K H0 Γ (iZip K (tCons ta (tCons tb tNil))) md ((xs.zip ys).map toD) := fun A N W O H σ R a k =>
  ha _ a fun A1 N1 H1 v a1 s1 s2 s3 q1 => hb _ a1 fun A2 N2 H2 w a2 t1 t2 t3 q2 => by
    obtain ⟨p, vs, rfl, hS, hA⟩ := dp_list (dp_mono (Md.sel_mono t1 t2 t3) q1)
    obtain ⟨p2, ws, rfl, hS2, hA2⟩ := dp_list q2
    have g1 : SqL K A2 p vs := (a2.sel_s hm).seq hS
    have g2 : SqL K A2 p2 ws := (a2.sel_s hm).seq hS2
    have l1 : vs.length = xs.length := by rw [dpAll_len hA, List.length_map]
    have l2 : ws.length = ys.length := by rw [dpAll_len hA2, List.length_map]
    have e : min vs.length ws.length = ((xs.zip ys).map toD).length := by rw [List.length_map, List.length_zip, l1, l2]
    have z1 := a2.hl.seq (a2.ah.seq g1)
    refine ⟨p, p2, vs, ws, rfl, a2.ah.seq g1, a2.ah.seq g2, k A2 N2 H2 _ _ _ a2 (s1.trans t1) (s2.trans t2) (s3.trans t3) (walk_len e (walk_zip rfl)) (by rw [← e]; omega) (fun H'' s => ⟨s.seq g1, s.seq g2⟩) fun i A3 N3 W1 O1 H3 σ1 Γ1 x H4 a3 sA sN hi y => ?_⟩
    obtain ⟨T, x1, x2, rfl, hT, rfl, e1, e2⟩ := y
    obtain ⟨d1, f1, r1⟩ := dpAll_get hA e1
    obtain ⟨d2, f2, r2⟩ := dpAll_get hA2 e2
    have hTA := a3.ah.free hT
    have hTN := a3.na.free hTA
    refine ⟨upd A3 T (.tup [x1, x2]), upd N3 T (.tup [x1, x2]), _, a3.alloc hT a3.hl.upd_tup, same_upd hTA, same_upd hTN, same_upd hT, zip_pairs xs ys f1 f2, ?_⟩
    cases md
    · exact absurd rfl hm
    · exact .tup upd_same (.cons (dp_mono (sA.trans (same_upd hTA)) r1) (.cons (dp_mono (sA.trans (same_upd hTA)) r2) .nil))
    · exact .tup upd_same (.cons (dp_mono (sN.trans (same_upd hTN)) r1) (.cons (dp_mono (sN.trans (same_upd hTN)) r2) .nil))
end

/-! ## 7. targets -/
/-- a thing that stands for d is stored: the slots at vs -/
def Tg (K : PySem.W.Frag) (H0 : Base) (g : TG) (md : Md) (d : PyData) (vs : List Nat) (Γ Γ2 : Ctx) : Prop :=
  ∀ ⦃A N : Hp⦄ ⦃W : Addr → Prop⦄ ⦃O : Nat → List Addr⦄ ⦃H : Hp⦄ ⦃σ : St⦄ (v : V) (Q : St → Hp → Prop), AtB K H0 A N W O H σ Γ → Dp K (md.sel A N H) v d → (∀ σ', AtB K H0 A N W O H σ' Γ2 → wipe σ' vs = wipe σ vs → Q σ' H) → g v σ H Q
theorem g_name {i : Nat} (hm : md ≠ .h) (hi : i < Γ.length := by decide) : Tg K H0 (gName i) md d [i] Γ (Γ.set i (some (.v md d))) := fun A N W O H σ v Q a q k =>
  k _ (a.setv hi hm q) (by show ((wipe (σ.set i (some v)) []).set i none) = (wipe σ []).set i none; unfold wipe; rw [List.set_set])
theorem g_pair {i j : Nat} (hm : md ≠ .h) (hij : i ≠ j := by decide) (hi : i < Γ.length := by decide) (hj : j < Γ.length := by decide) : Tg K H0 (gTup K 2 (gCons (gName i) (gCons (gName j) gNil))) md (.tuple [d1, d2]) [i, j] Γ ((Γ.set i (some (.v md d1))).set j (some (.v md d2))) := fun A N W O H σ v Q a q k => by
  obtain ⟨p, vs, rfl, hS, hA⟩ := dp_tup q
  obtain ⟨x, y, rfl, q1, q2⟩ := dpAll_two hA
  refine ⟨p, _, rfl, same_tup a.sel_h hS, rfl, x, _, rfl, y, _, rfl, rfl, ?_⟩
  refine k _ ((a.setv hi hm q1).setv (by rw [List.length_set]; exact hj) hm q2) ?_
  show ((((σ.set i (some x)).set j (some y)).set j none).set i none) = (σ.set j none).set i none
  rw [List.set_set, List.set_comm _ _ hij, List.set_set]
end
end Mir

namespace Mir
open PySem PySem.Spec L2
open ToD (toD)
set_option autoImplicit false
/-! ## 8. comprehensions -/
def mapO {α β : Type} (f : α → Option β) : List α → Option (List β)
  | [] => some []
  | x :: xs => (f x).bind fun y => (mapO f xs).bind fun ys => some (y :: ys)
def cmpO {α β : Type} (p : α → Option Bool) (f : α → Option β) : List α → Option (List β)
  | [] => some []
  | x :: xs => (p x).bind fun b => if b = true then (f x).bind fun y => (cmpO p f xs).bind fun ys => some (y :: ys) else cmpO p f xs
theorem mapO_cmp {α β : Type} (f : α → Option β) : ∀ xs : List α, mapO f xs = cmpO (fun _ => some true) f xs
  | [] => rfl
  | x :: xs => by simp only [mapO, cmpO, mapO_cmp f xs, Option.bind_some, if_pos]
theorem mapO_pure {α β : Type} (f : α → β) : ∀ xs : List α, mapO (fun x => some (f x)) xs = some (xs.map f)
  | [] => rfl
  | x :: xs => by simp [mapO, mapO_pure f xs]
theorem cmpO_pure {α β : Type} (p : α → Bool) (f : α → β) : ∀ xs : List α, cmpO (fun x => some (p x)) (fun x => some (f x)) xs = some ((xs.filter p).map f)
  | [] => rfl
  | x :: xs => by
    simp only [cmpO, cmpO_pure p f xs, Option.bind_some]
    cases h : p x <;> simp [h]
theorem bind_some_iff {α β : Type} {m : Option α} {k : α → Option β} {b : β} (h : m.bind k = some b) : ∃ a, m = some a ∧ k a = some b := by
  cases m with
  | none => cases h
  | some a => exact ⟨a, rfl, h⟩
theorem wipe_get_ne {σ : St} {i : Nat} : ∀ {vs : List Nat}, i ∉ vs → (wipe σ vs)[i]? = σ[i]?
  | [], _ => rfl
  | v :: vs, h => by
    have h1 : v ≠ i := fun e => h (e ▸ List.mem_cons_self)
    have h2 : i ∉ vs := fun e => h (List.mem_cons_of_mem _ e)
    unfold wipe
    rw [List.getElem?_set_ne h1, wipe_get_ne h2]
theorem wipe_get_in {σ : St} {i : Nat} : ∀ {vs : List Nat}, i ∈ vs → i < σ.length → (wipe σ vs)[i]? = some none
  | v :: vs, h, hi => by
    unfold wipe
    by_cases e : v = i
    · subst e; rw [List.getElem?_set_self (by rw [wipe_length]; exact hi)]
    · rw [List.getElem?_set_ne e]
      rcases List.mem_cons.mp h with z | z
      · exact absurd z.symm e
      · exact wipe_get_in z hi
theorem wipe_wipe (σ : St) (vs : List Nat) : wipe (wipe σ vs) vs = wipe σ vs := by
  apply List.ext_getElem?
  intro i
  by_cases hi : i < σ.length
  · by_cases h : i ∈ vs
    · rw [wipe_get_in h (by rw [wipe_length]; exact hi), wipe_get_in h hi]
    · rw [wipe_get_ne h]
  · rw [List.getElem?_eq_none (by rw [wipe_length, wipe_length]; omega), List.getElem?_eq_none (by rw [wipe_length]; omega)]
section
variable {K : PySem.W.Frag} {H0 : Base} {Γ : Ctx} {ta tb te : TE} {ts : TA} {tt : TT} {wi : TI} {g : TG} {md m1 m2 : Md} {d d1 d2 : PyData} {ds es : List PyData} {vs : List Nat}
theorem AtB.wiped {A N : Hp} {W : Addr → Prop} {O : Nat → List Addr} {H : Hp} {σ : St} {Γ2 : Ctx} (a : AtB K H0 A N W O H σ Γ2) (hl : Γ.length = Γ2.length) (hs : ∀ (i : Nat) (c : Cell), Γ[i]? = some (some c) → Γ2[i]? = some (some c)) (hv : ∀ i ∈ vs, Γ[i]? = some none) :
    AtB K H0 A N W O H (wipe σ vs) Γ :=
  { a with
    len := by rw [wipe_length, hl]; exact a.len
    cs := fun i c e => by
      have hi : i ∉ vs := fun z => by rw [hv i z] at e; cases e
      rw [wipe_get_ne hi]
      exact a.cs i c (hs i c e) }
theorem write_D {A N : Hp} {W : Addr → Prop} {O : Nat → List Addr} {H : Hp} {σ : St} {D : Addr} {ws : List V} (a : AtB K H0 A N W O H σ Γ) (hw : W D) (hO : ∀ i, D ∉ O i) (hz : ws.length ≤ sizeLine) : AtB K H0 A N W O (upd H D (.lst ws)) σ Γ :=
  a.write hw hz fun i _ _ h => absurd h (hO i)
theorem sel_upd {A N H : Hp} {D : Addr} {o : HO} {vs : List V} {ds : List PyData} (hm : md ≠ .h) (q : DpAll K (md.sel A N H) vs ds) : DpAll K (md.sel A N (upd H D o)) vs ds := by
  cases md
  · exact absurd rfl hm
  · exact q
  · exact q
/-- a comprehension: g stores the item's parts at vs, Γ2 x is what is known then -/
theorem o_lc {α β : Type} [ToD α] [ToD β] {xs : List α} {ys : List β} {p : α → Option Bool} {f : α → Option β} {Γ2 : α → Ctx} (hi : EvI K H0 Γ wi m1 (xs.map toD)) (hv : ∀ i ∈ vs, Γ[i]? = some none)
    (hg : ∀ x, Tg K H0 g m1 (toD x) vs Γ (Γ2 x)) (hl : ∀ x, Γ.length = (Γ2 x).length) (hs : ∀ x (i : Nat) (c : Cell), Γ[i]? = some (some c) → (Γ2 x)[i]? = some (some c))
    (ht : ∀ x b, p x = some b → EvT K H0 (Γ2 x) tt b) (he : ∀ x y, f x = some y → Ev K H0 (Γ2 x) te m2 (toD y)) (hm : m2 ≠ .h) (h : cmpO p f xs = some ys) : EvO K H0 Γ (tLc wi g tt te vs) m2 (ys.map toD) := fun A N W O H σ Q a k =>
  hi _ a fun A1 N1 H1 J G Y a1 s1 s2 s3 w hz hG hY => by
    intro D hD
    have hDA : A1 D = none := a1.ah.free hD
    have hDW : ¬ W D := a1.noW hD
    have hDO : ∀ i, D ∉ O i := fun i z => hDW (a1.sub i D z)
    have n0 : (0 : Nat) ≤ sizeLine := Nat.zero_le _
    have a2 : AtB K H0 A1 N1 (fun b => W b ∨ b = D) O (upd H1 D (.lst [])) (wipe σ vs) Γ :=
      ((a1.allocO (o := .lst []) hD (a1.hl.upd_lst n0)).reserve hDA (.lst upd_same)).wiped rfl (fun _ _ e => e) hv
    refine lc_it w (fun i H => ∃ A N done rest acc, AtB K H0 A N (fun b => W b ∨ b = D) O H (wipe σ vs) Γ ∧ Same A1 A ∧ Same N1 N ∧ Same H1 H ∧ H D = some (.lst acc) ∧ DpAll K (m2.sel A N H) acc ((done : List β).map toD) ∧ cmpO p f (xs.drop i) = some rest ∧ done ++ rest = ys ∧ done.length ≤ i)
      ⟨A1, N1, [], ys, [], a2, Same.refl _, Same.refl _, same_upd hD, upd_same, .nil, by rw [List.drop_zero]; exact h, rfl, Nat.le_refl _⟩ (fun i H _ hP => ?_) (fun i x H H' hi' hP hYx => ?_) (fun H hP => ?_)
    · obtain ⟨A, N, done, rest, acc, a3, u1, _⟩ := hP
      exact hG H (u1.trans a3.ah)
    · obtain ⟨A, N, done, rest, acc, a3, u1, u2, u3, hDl, hq, hr, hd, hn⟩ := hP
      obtain ⟨A4, N4, d, a4, v1, v2, v3, hdd, qx⟩ := hY i A N _ O H _ Γ x H' a3 u1 u2 hi' hYx
      rw [List.getElem?_map] at hdd
      obtain ⟨xi, hxi, rfl⟩ := Option.map_eq_some_iff.mp hdd
      rw [List.drop_eq_getElem?_toList_append, hxi] at hr
      have hr' : cmpO p f (xi :: xs.drop (i + 1)) = some rest := hr
      simp only [cmpO] at hr'
      obtain ⟨b, hb, hr'⟩ := bind_some_iff hr'
      refine hg xi x _ a4 qx fun σ' a5 hw' => ?_
      rw [wipe_wipe] at hw'
      refine ⟨hw', ht xi b hb _ a5 fun A6 N6 H6 a6 x1 x2 x3 => ?_⟩
      have hDl6 : H6 D = some (.lst acc) := x3 _ _ (v3 _ _ hDl)
      have hq6 : DpAll K (m2.sel A6 N6 H6) acc (done.map toD) := dpAll_mono (Md.sel_mono (v1.trans x1) (v2.trans x2) (v3.trans x3)) hq
      have back : ∀ {A N H}, AtB K H0 A N (fun b => W b ∨ b = D) O H σ' (Γ2 xi) → AtB K H0 A N (fun b => W b ∨ b = D) O H (wipe σ vs) Γ := fun a => by
        have := a.wiped (vs := vs) (hl xi) (hs xi) hv
        rwa [hw'] at this
      cases b with
      | false =>
        rw [if_neg Bool.false_ne_true] at hr' ⊢
        exact ⟨A6, N6, done, rest, acc, back a6, (u1.trans v1).trans x1, (u2.trans v2).trans x2, (u3.trans v3).trans x3, hDl6, hq6, hr', hd, by omega⟩
      | true =>
        rw [if_pos rfl] at hr' ⊢
        obtain ⟨y, hy, hr'⟩ := bind_some_iff hr'
        obtain ⟨rest', hr2, e⟩ := bind_some_iff hr'
        cases e
        refine he xi y hy _ a6 fun A7 N7 H7 v a7 z1 z2 z3 q7 => ?_
        have hDl7 := z3 _ _ hDl6
        have hq7 : DpAll K (m2.sel A7 N7 H7) acc (done.map toD) := dpAll_mono (Md.sel_mono z1 z2 z3) hq6
        have hlen : acc.length < sizeLine := by
          have e1 := dpAll_len hq7
          rw [List.length_map] at e1
          omega
        refine ⟨acc, hDl7, hlen, A7, N7, done ++ [y], rest', acc ++ [v], write_D (back a7) (.inr rfl) hDO (by rw [List.length_append]; exact hlen), ((u1.trans v1).trans x1).trans z1, ((u2.trans v2).trans x2).trans z2, same_updR (((u3.trans v3).trans x3).trans z3) hD, upd_same, ?_, hr2, by rw [List.append_assoc]; exact hd, by rw [List.length_append]; show done.length + 1 ≤ i + 1; omega⟩
        rw [List.map_append]
        exact sel_upd hm (dpAll_app hq7 (.cons q7 .nil))
    · obtain ⟨A, N, done, rest, acc, a3, u1, u2, u3, hDl, hq, hr, hd, hn⟩ := hP
      rw [List.length_map, List.drop_length] at hr
      have e : rest = [] := (Option.some.inj hr).symm
      subst e
      rw [List.append_nil] at hd
      subst hd
      have a4 : AtB K H0 A N W O H (wipe σ vs) Γ := a3.unreserve (fun _ h => .inl h) a1.sub
      have a5 : AtB K H0 A N W O H σ Γ := { a4 with
        len := a.len
        cs := fun i c e => by
          obtain ⟨x, e1, q⟩ := a4.cs i c e
          exact ⟨x, (wipe_some e1).1, q⟩ }
      exact k A N H D acc a5 (s1.trans u1) (s2.trans u2) (s3.trans u3) (s3.free hD) (a3.own D (.inr rfl)).1 hDW hDl hq
theorem t_yes : EvT K H0 Γ tYes true := fun A N W O H σ Q a k => k A N H a (Same.refl _) (Same.refl _) (Same.refl _)
theorem set_keep {i : Nat} {c' : Option Cell} (hv : Γ[i]? = some none) (j : Nat) (c : Cell) (e : Γ[j]? = some (some c)) : (Γ.set i c')[j]? = some (some c) := by
  have h : i ≠ j := fun z => by subst z; rw [hv] at e; cases e
  rw [List.getElem?_set_ne h]; exact e
theorem lt_of_get {i : Nat} {c : Option Cell} (h : Γ[i]? = some c) : i < Γ.length := (List.getElem?_eq_some_iff.mp h).1
/-- [f(x) for x in xs if p(x)] -/
theorem o_lc1 {α β : Type} [ToD α] [ToD β] {i : Nat} {xs : List α} {ys : List β} {p : α → Option Bool} {f : α → Option β} (hi : EvI K H0 Γ wi m1 (xs.map toD)) (hm1 : m1 ≠ .h)
    (ht : ∀ x b, p x = some b → EvT K H0 (Γ.set i (some (.v m1 (toD x)))) tt b) (he : ∀ x y, f x = some y → Ev K H0 (Γ.set i (some (.v m1 (toD x)))) te m2 (toD y)) (h : cmpO p f xs = some ys) (hm : m2 ≠ .h) (hv : Γ[i]? = some none := by rfl) : EvO K H0 Γ (tLc wi (gName i) tt te [i]) m2 (ys.map toD) :=
  o_lc (Γ2 := fun x => Γ.set i (some (.v m1 (toD x)))) hi (fun j hj => by rw [List.mem_singleton.mp hj]; exact hv) (fun x => g_name hm1 (lt_of_get hv)) (fun x => by rw [List.length_set]) (fun x j c e => set_keep hv j c e) ht he hm h
theorem o_map1 {α β : Type} [ToD α] [ToD β] {i : Nat} {xs : List α} {ys : List β} {f : α → Option β} (hi : EvI K H0 Γ wi m1 (xs.map toD)) (hm1 : m1 ≠ .h)
    (he : ∀ x y, f x = some y → Ev K H0 (Γ.set i (some (.v m1 (toD x)))) te m2 (toD y)) (h : mapO f xs = some ys) (hm : m2 ≠ .h) (hv : Γ[i]? = some none := by rfl) : EvO K H0 Γ (tLc wi (gName i) tYes te [i]) m2 (ys.map toD) :=
  o_lc1 (p := fun _ => some true) hi hm1 (fun x b e => by cases e; exact t_yes) he (by rw [← mapO_cmp]; exact h) hm hv
/-- [f(x, y) for x, y in xs if p(x, y)] -/
theorem o_lc2 {α β γ : Type} [ToD α] [ToD β] [ToD γ] {i j : Nat} {xs : List (α × β)} {ys : List γ} {p : α × β → Option Bool} {f : α × β → Option γ} (hi : EvI K H0 Γ wi m1 (xs.map toD)) (hm1 : m1 ≠ .h)
    (ht : ∀ x b, p x = some b → EvT K H0 ((Γ.set i (some (.v m1 (toD x.1)))).set j (some (.v m1 (toD x.2)))) tt b) (he : ∀ x y, f x = some y → Ev K H0 ((Γ.set i (some (.v m1 (toD x.1)))).set j (some (.v m1 (toD x.2)))) te m2 (toD y)) (h : cmpO p f xs = some ys) (hm : m2 ≠ .h)
    (hv : Γ[i]? = some none := by rfl) (hw : Γ[j]? = some none := by rfl) (hij : i ≠ j := by decide) : EvO K H0 Γ (tLc wi (gTup K 2 (gCons (gName i) (gCons (gName j) gNil))) tt te [i, j]) m2 (ys.map toD) :=
  o_lc (Γ2 := fun x => (Γ.set i (some (.v m1 (toD x.1)))).set j (some (.v m1 (toD x.2)))) hi (fun k hk => by
      rcases List.mem_cons.mp hk with rfl | hk
      · exact hv
      · rw [List.mem_singleton.mp hk]; exact hw) (fun x => g_pair hm1 hij (lt_of_get hv) (lt_of_get hw)) (fun x => by rw [List.length_set, List.length_set])
    (fun x k c e => set_keep (by rw [List.getElem?_set_ne hij]; exact hw) k c (set_keep hv k c e)) ht he hm h
theorem o_map2 {α β γ : Type} [ToD α] [ToD β] [ToD γ] {i j : Nat} {xs : List (α × β)} {ys : List γ} {f : α × β → Option γ} (hi : EvI K H0 Γ wi m1 (xs.map toD)) (hm1 : m1 ≠ .h)
    (he : ∀ x y, f x = some y → Ev K H0 ((Γ.set i (some (.v m1 (toD x.1)))).set j (some (.v m1 (toD x.2)))) te m2 (toD y)) (h : mapO f xs = some ys) (hm : m2 ≠ .h)
    (hv : Γ[i]? = some none := by rfl) (hw : Γ[j]? = some none := by rfl) (hij : i ≠ j := by decide) : EvO K H0 Γ (tLc wi (gTup K 2 (gCons (gName i) (gCons (gName j) gNil))) tYes te [i, j]) m2 (ys.map toD) :=
  o_lc2 (p := fun _ => some true) hi hm1 (fun x b e => by cases e; exact t_yes) he (by rw [← mapO_cmp]; exact h) hm hv hw hij
end
end Mir

namespace Mir
open PySem PySem.Spec L2
open ToD (toD)
set_option autoImplicit false
/-! ## 9. blocks -/
/-- how a block ends: with a value handed back, or going on with what its names hold -/
inductive Fl (ρ τ : Type) where
  | ret (r : ρ)
  | nxt (t : τ)
def idF {ρ τ : Type} (x : Fl ρ τ) : Fl ρ τ := x
def flR {ρ τ : Type} (k : τ → Option ρ) : Fl ρ τ → Option ρ
  | .ret r => some r
  | .nxt st => k st
def flF {ρ τ υ : Type} (k : τ → Option (Fl ρ υ)) : Fl ρ τ → Option (Fl ρ υ)
  | .ret r => some (.ret r)
  | .nxt st => k st
def retF {ρ τ : Type} (r : ρ) : Option (Fl ρ τ) := some (.ret r)
@[irreducible] def lt {α β : Type} (a : α) (k : α → β) : β := k a
theorem lt_def {α β : Type} (a : α) (k : α → β) : lt a k = k a := by unfold lt; rfl
def forO {α τ : Type} (f : τ → α → Option τ) : List α → τ → Option τ
  | [], st => some st
  | x :: xs, st => (f st x).bind fun st' => forO f xs st'
def forF {α ρ τ : Type} (f : τ → α → Option (Fl ρ τ)) : List α → τ → Option (Fl ρ τ)
  | [], st => some (.nxt st)
  | x :: xs, st => (f st x).bind (flF fun st' => forF f xs st')
def whN {τ : Type} (c : τ → Option Bool) (f : τ → Option τ) : Nat → τ → Option τ
  | 0, _ => none
  | n + 1, st => (c st).bind fun b => if b = true then (f st).bind fun st' => whN c f n st' else some st
def whNF {ρ τ : Type} (c : τ → Option Bool) (f : τ → Option (Fl ρ τ)) : Nat → τ → Option (Fl ρ τ)
  | 0, _ => none
  | n + 1, st => (c st).bind fun b => if b = true then (f st).bind (flF fun st' => whNF c f n st') else some (.nxt st)
open Classical in
/-- while c: f, where it ends -/
noncomputable def whileO {τ : Type} (c : τ → Option Bool) (f : τ → Option τ) (st : τ) : Option τ := if h : ∃ n r, whN c f n st = some r then some (Classical.choose (Classical.choose_spec h)) else none
open Classical in
noncomputable def whileF {ρ τ : Type} (c : τ → Option Bool) (f : τ → Option (Fl ρ τ)) (st : τ) : Option (Fl ρ τ) := if h : ∃ n r, whNF c f n st = some r then some (Classical.choose (Classical.choose_spec h)) else none
theorem whN_mono {τ : Type} {c : τ → Option Bool} {f : τ → Option τ} : ∀ {n m : Nat} {st r : τ}, n ≤ m → whN c f n st = some r → whN c f m st = some r
  | 0, _, _, _, _, h => by cases h
  | n + 1, 0, _, _, hm, _ => by omega
  | n + 1, m + 1, st, r, hm, h => by
    simp only [whN] at h ⊢
    obtain ⟨b, hb, h⟩ := bind_some_iff h
    rw [hb, Option.bind_some]
    cases b with
    | false => exact h
    | true =>
      rw [if_pos rfl] at h ⊢
      obtain ⟨st', hs, h⟩ := bind_some_iff h
      rw [hs, Option.bind_some]
      exact whN_mono (by omega) h
theorem whNF_mono {ρ τ : Type} {c : τ → Option Bool} {f : τ → Option (Fl ρ τ)} : ∀ {n m : Nat} {st : τ} {r : Fl ρ τ}, n ≤ m → whNF c f n st = some r → whNF c f m st = some r
  | 0, _, _, _, _, h => by cases h
  | n + 1, 0, _, _, hm, _ => by omega
  | n + 1, m + 1, st, r, hm, h => by
    simp only [whNF] at h ⊢
    obtain ⟨b, hb, h⟩ := bind_some_iff h
    rw [hb, Option.bind_some]
    cases b with
    | false => exact h
    | true =>
      rw [if_pos rfl] at h ⊢
      obtain ⟨st', hs, h⟩ := bind_some_iff h
      rw [hs, Option.bind_some]
      cases st' with
      | ret r' => exact h
      | nxt st' => exact whNF_mono (n := n) (m := m) (by omega) h
theorem whileO_of {τ : Type} {c : τ → Option Bool} {f : τ → Option τ} {st r : τ} {n : Nat} (h : whN c f n st = some r) : whileO c f st = some r := by
  unfold whileO
  have hx : ∃ n r, whN c f n st = some r := ⟨n, r, h⟩
  rw [dif_pos hx]
  have q := Classical.choose_spec (Classical.choose_spec hx)
  have e1 := whN_mono (Nat.le_max_left n (Classical.choose hx)) h
  have e2 := whN_mono (Nat.le_max_right n (Classical.choose hx)) q
  exact e2.symm.trans e1
theorem whileO_to {τ : Type} {c : τ → Option Bool} {f : τ → Option τ} {st r : τ} (h : whileO c f st = some r) : ∃ n, whN c f n st = some r := by
  unfold whileO at h
  split at h
  · rename_i hx
    cases h
    exact ⟨_, Classical.choose_spec (Classical.choose_spec hx)⟩
  · cases h
theorem whileF_of {ρ τ : Type} {c : τ → Option Bool} {f : τ → Option (Fl ρ τ)} {st : τ} {r : Fl ρ τ} {n : Nat} (h : whNF c f n st = some r) : whileF c f st = some r := by
  unfold whileF
  have hx : ∃ n r, whNF c f n st = some r := ⟨n, r, h⟩
  rw [dif_pos hx]
  have q := Classical.choose_spec (Classical.choose_spec hx)
  have e1 := whNF_mono (Nat.le_max_left n (Classical.choose hx)) h
  have e2 := whNF_mono (Nat.le_max_right n (Classical.choose hx)) q
  exact e2.symm.trans e1
theorem whileF_to {ρ τ : Type} {c : τ → Option Bool} {f : τ → Option (Fl ρ τ)} {st : τ} {r : Fl ρ τ} (h : whileF c f st = some r) : ∃ n, whNF c f n st = some r := by
  unfold whileF at h
  split at h
  · rename_i hx
    cases h
    exact ⟨_, Classical.choose_spec (Classical.choose_spec hx)⟩
  · cases h

/-- Γ' says less than Γ -/
inductive Sub : Option Cell → Option Cell → Prop where
  | refl (c : Option Cell) : Sub c c
  | drop (c : Option Cell) : Sub c none
  | sn (d : PyData) : Sub (some (.v .n d)) (some (.v .s d))
  | so (ds : List PyData) : Sub (some (.o .n ds)) (some (.o .s ds))
  | fv (md : Md) (ds : List PyData) : Sub (some (.f md ds)) (some (.v md (.list ds)))
inductive Wk : Ctx → Ctx → Prop where
  | nil : Wk [] []
  | cons {c c' : Option Cell} {Γ Γ' : Ctx} : Sub c c' → Wk Γ Γ' → Wk (c :: Γ) (c' :: Γ')
theorem Wk.len : ∀ {Γ Γ' : Ctx}, Wk Γ Γ' → Γ'.length = Γ.length
  | _, _, .nil => rfl
  | _, _, .cons _ w => by rw [List.length_cons, List.length_cons, w.len]
theorem Wk.get : ∀ {Γ Γ' : Ctx} {i : Nat} {c : Cell}, Wk Γ Γ' → Γ'[i]? = some (some c) → ∃ c0, Γ[i]? = some (some c0) ∧ Sub (some c0) (some c)
  | _, _, _, _, .nil, h => by simp at h
  | _, _, 0, c, .cons (c := c1) s w, h => by
    have e := Option.some.inj h
    subst e
    cases s with
    | refl => exact ⟨c, rfl, .refl _⟩
    | sn d => exact ⟨_, rfl, .sn d⟩
    | so d => exact ⟨_, rfl, .so d⟩
    | fv md d => exact ⟨_, rfl, .fv md d⟩
  | _, _, i + 1, c, .cons s w, h => by
    obtain ⟨c0, e, q⟩ := Wk.get (i := i) w (by simpa using h)
    exact ⟨c0, by simpa using e, q⟩
theorem AtB.wk {K : PySem.W.Frag} {H0 : Base} {A N : Hp} {W : Addr → Prop} {O : Nat → List Addr} {H : Hp} {σ : St} {Γ Γ' : Ctx} (a : AtB K H0 A N W O H σ Γ) (w : Wk Γ Γ') : AtB K H0 A N W O H σ Γ' :=
  { a with
    len := w.len.trans a.len
    cs := fun i c e => by
      obtain ⟨c0, e0, s⟩ := w.get e
      obtain ⟨x, ex, q⟩ := a.cs i c0 e0
      refine ⟨x, ex, ?_⟩
      cases s with
      | refl => exact q
      | sn d => exact ⟨(fun z => by cases z), dp_mono a.na q.2⟩
      | so d =>
        obtain ⟨_, l, vs, e1, e2, e3, q⟩ := q
        exact ⟨(fun z => by cases z), l, vs, e1, e2, e3, dpAll_mono a.na q⟩
      | fv md d =>
        obtain ⟨hm, l, vs, rfl, e2, q⟩ := q
        refine ⟨hm, .lst (.inl (.inl ?_)) q⟩
        cases md
        · exact absurd rfl hm
        · exact a.na _ _ e2
        · exact e2 }
/-- how a block may be left but by its end: what must hold then -/
structure Ex (ρ : Type) where
  ok : ρ → Hp → Hp → Ends → Prop
  mono : ∀ {r : ρ} {A N A' N' : Hp} {D : Ends}, Same A A' → Same N N' → ok r A N D → ok r A' N' D
  nx : ∀ {r : ρ} {A N : Hp} {D : Ends} {f : St → Hp → Prop}, ok r A N D → ok r A N { D with nx := f }
/-- by handing back -/
@[reducible] def exR {ρ : Type} (R : ρ → V → Hp → Prop) : Ex ρ := ⟨fun r _ _ D => ∀ v H', R r v H' → D.rt v H', fun _ _ h => h, fun h => h⟩
/-- by a break -/
@[reducible] def exB (K : PySem.W.Frag) (H0 : Base) {τ : Type} (Γb : τ → Ctx) : Ex τ := ⟨fun st A N D => ∀ A' N' W' O' H' σ', AtB K H0 A' N' W' O' H' σ' (Γb st) → Same A A' → Same N N' → D.bk σ' H',
  fun s1 s2 h A' N' W' O' H' σ' a x1 x2 => h A' N' W' O' H' σ' a (s1.trans x1) (s2.trans x2), fun h => h⟩
section
variable {K : PySem.W.Frag} {H0 : Base} {ρ τ υ ω : Type} {R : Ex ρ} {Γ Γ2 : Ctx} {t u ta tb : TS} {Γ' : τ → Ctx} {I : ω → Fl ρ τ} {te : TE} {ts : TA} {tt : TT} {md m1 : Md} {d d1 d2 : PyData} {ds : List PyData}
def Blk (K : PySem.W.Frag) (H0 : Base) (R : Ex ρ) (Γ : Ctx) (t : TS) (Γ' : τ → Ctx) (I : ω → Fl ρ τ) (m : Option ω) : Prop :=
  ∀ w, m = some w → ∀ (D : Ends) ⦃A N : Hp⦄ ⦃W : Addr → Prop⦄ ⦃O : Nat → List Addr⦄ ⦃H : Hp⦄ ⦃σ : St⦄, AtB K H0 A N W O H σ Γ →
    (∀ st, I w = .nxt st → ∀ A' N' W' O' H' σ', AtB K H0 A' N' W' O' H' σ' (Γ' st) → Same A A' → Same N N' → D.nx σ' H') → (∀ r, I w = .ret r → R.ok r A N D) → t D σ H
/-- what is handed back: a new thing that stands for r -/
def RetS (K : PySem.W.Frag) (H0 : Base) {α : Type} [ToD α] (r : α) (v : V) (H : Hp) : Prop := Same H0 H ∧ HLen H ∧ ∃ N, (∀ b o, N b = some o → H0.Fr b o) ∧ Same N H ∧ Dp K N v (toD r)
def RetO (K : PySem.W.Frag) (H0 : Base) {α : Type} [ToD α] (r : List α) (v : V) (H : Hp) : Prop := Same H0 H ∧ HLen H ∧ ∃ N l ws, v = .ref l ∧ (∀ b o, N b = some o → H0.Fr b o) ∧ Same N H ∧ H0 l = none ∧ N l = none ∧ H l = some (.lst ws) ∧ DpAll K N ws (r.map toD)
def RetP (K : PySem.W.Frag) (H0 : Base) {α : Type} [ToD α] (r : List (List α)) (v : V) (H : Hp) : Prop := Same H0 H ∧ HLen H ∧ ∃ N l ls, v = .ref l ∧ (∀ b o, N b = some o → H0.Fr b o) ∧ Same N H ∧ (∀ k ∈ l :: ls, H0 k = none ∧ N k = none) ∧ (l :: ls).Nodup ∧ H l = some (.lst (ls.map V.ref)) ∧ Rows K N H ls (r.map (·.map toD))

theorem b_bind {α : Type} {m : Option α} {k : α → Option ω} (h : ∀ a, m = some a → Blk K H0 R Γ t Γ' I (k a)) : Blk K H0 R Γ t Γ' I (m.bind k) := fun w hw => by
  obtain ⟨a, e, hw⟩ := bind_some_iff hw
  exact h a e w hw
theorem b_let {α : Type} {a : α} {k : α → Option ω} (h : ∀ x, x = a → Blk K H0 R Γ t Γ' I (k x)) : Blk K H0 R Γ t Γ' I (lt a k) := by rw [lt_def]; exact h a rfl
theorem b_asg {i : Nat} {m : Option ω} (he : Ev K H0 Γ te md d) (hm : md ≠ .h) (hi : i < Γ.length) (hΓ : Γ.set i (some (.v md d)) = Γ2) (rest : Blk K H0 R Γ2 u Γ' I m) : Blk K H0 R Γ (tSeq (tAsg te (gName i)) u) Γ' I m := fun w hw D A N W O H σ a kn kr =>
  he _ a fun A1 N1 H1 v a1 s1 s2 s3 q => by
    subst hΓ
    exact rest w hw D (a1.setv hi hm q) (fun st e A' N' W' O' H' σ' a' x1 x2 => kn st e A' N' W' O' H' σ' a' (s1.trans x1) (s2.trans x2)) (fun r e => R.mono s1 s2 (kr r e))
theorem b_asgO {α : Type} [ToD α] {xs : List α} {i : Nat} {m : Option ω} (he : EvO K H0 Γ te md (xs.map toD)) (hm : md ≠ .h) (hi : i < Γ.length) (hΓ : Γ.set i (some (.o md (xs.map toD))) = Γ2) (rest : Blk K H0 R Γ2 u Γ' I m) : Blk K H0 R Γ (tSeq (tAsg te (gName i)) u) Γ' I m := fun w hw D A N W O H σ a kn kr =>
  he _ a fun A1 N1 H1 l vs a1 s1 s2 s3 h1 h2 h3 h4 q => by
    subst hΓ
    have a2 := a1.seto (i := i) (x := .ref l) (c := .o md (xs.map toD)) (L := [l]) hi (fun k hk => by rw [List.mem_singleton.mp hk]; exact ⟨h3, h2, .lst h4⟩) (List.nodup_cons.mpr ⟨by simp, .nil⟩) ⟨hm, l, vs, rfl, rfl, h4, q⟩
    exact rest w hw D a2 (fun st e A' N' W' O' H' σ' a' x1 x2 => kn st e A' N' W' O' H' σ' a' (s1.trans x1) (s2.trans x2)) (fun r e => R.mono s1 s2 (kr r e))
theorem b_asgP {α : Type} [ToD α] {xss : List (List α)} {i : Nat} {m : Option ω} (he : EvP K H0 Γ te md (xss.map (·.map toD))) (hm : md ≠ .h) (hi : i < Γ.length) (hΓ : Γ.set i (some (.p md (xss.map (·.map toD)))) = Γ2) (rest : Blk K H0 R Γ2 u Γ' I m) : Blk K H0 R Γ (tSeq (tAsg te (gName i)) u) Γ' I m := fun w hw D A N W O H σ a kn kr =>
  he _ a fun A1 N1 H1 l ls a1 s1 s2 s3 h1 hnd h4 q => by
    subst hΓ
    have hne : ∀ k ∈ l :: ls, Lv H1 k := by
      intro k hk
      rcases List.mem_cons.mp hk with rfl | hk
      · exact .lst h4
      · have rows_ne : ∀ {S : Hp} {ls : List Addr} {dss : List (List PyData)}, Rows K S H1 ls dss → ∀ k ∈ ls, Lv H1 k := by
          intro S ls
          induction ls with
          | nil => intro dss _ k hk; cases hk
          | cons m ls ih =>
            intro dss hr k hk
            cases dss with
            | nil => exact hr.elim
            | cons ds dss =>
              obtain ⟨⟨vs, e, _⟩, r⟩ := hr
              rcases List.mem_cons.mp hk with rfl | hk
              · exact .lst e
              · exact ih r k hk
        exact rows_ne q k hk
    have a2 := a1.seto (i := i) (x := .ref l) (c := .p md (xss.map (·.map toD))) (L := l :: ls) hi (fun k hk => ⟨(h1 k hk).2.2, (h1 k hk).2.1, hne k hk⟩) hnd ⟨hm, l, ls, rfl, rfl, h4, q⟩
    exact rest w hw D a2 (fun st e A' N' W' O' H' σ' a' x1 x2 => kn st e A' N' W' O' H' σ' a' (s1.trans x1) (s2.trans x2)) (fun r e => R.mono s1 s2 (kr r e))
/-- a, b = e and its like -/
theorem b_tg {g : TG} {vs : List Nat} {m : Option ω} (he : Ev K H0 Γ te md d) (hg : Tg K H0 g md d vs Γ Γ2) (rest : Blk K H0 R Γ2 u Γ' I m) : Blk K H0 R Γ (tSeq (tAsg te g) u) Γ' I m := fun w hw D A N W O H σ a kn kr =>
  he _ a fun A1 N1 H1 v a1 s1 s2 s3 q => hg v _ a1 q fun σ' a2 _ => rest w hw D a2 (fun st e A' N' W' O' H' σ' a' x1 x2 => kn st e A' N' W' O' H' σ' a' (s1.trans x1) (s2.trans x2)) (fun r e => R.mono s1 s2 (kr r e))
/-- a, b = e, f -/
theorem b_par {i j : Nat} {m : Option ω} (hs : EvA K H0 Γ ts md [d1, d2]) (hm : md ≠ .h) (hi : i < Γ.length) (hj : j < Γ.length) (hΓ : (Γ.set i (some (.v md d1))).set j (some (.v md d2)) = Γ2) (rest : Blk K H0 R Γ2 u Γ' I m) : Blk K H0 R Γ (tSeq (tPar i j ts) u) Γ' I m := fun w hw D A N W O H σ a kn kr =>
  hs _ a fun A1 N1 H1 vs a1 s1 s2 s3 q => by
    obtain ⟨x, y, rfl, q1, q2⟩ := dpAll_two q
    subst hΓ
    exact ⟨x, y, rfl, rest w hw D ((a1.setv hi hm q1).setv (by rw [List.length_set]; exact hj) hm q2) (fun st e A' N' W' O' H' σ' a' x1 x2 => kn st e A' N' W' O' H' σ' a' (s1.trans x1) (s2.trans x2)) (fun r e => R.mono s1 s2 (kr r e))⟩
theorem b_pass {m : Option ω} (rest : Blk K H0 R Γ u Γ' I m) : Blk K H0 R Γ (tSeq tNext u) Γ' I m := fun w hw D A N W O H σ a kn kr => rest w hw D a kn kr
/-- an expression whose value is dropped -/
theorem b_drop {m : Option ω} (he : Ev K H0 Γ te md d) (rest : Blk K H0 R Γ u Γ' I m) : Blk K H0 R Γ (tSeq (tDrop te) u) Γ' I m := fun w hw D A N W O H σ a kn kr =>
  he _ a fun A1 N1 H1 v a1 s1 s2 s3 q => rest w hw D a1 (fun st e A' N' W' O' H' σ' a' x1 x2 => kn st e A' N' W' O' H' σ' a' (s1.trans x1) (s2.trans x2)) (fun r e => R.mono s1 s2 (kr r e))
/-- an own list will not be changed any more -/
theorem b_freeze {i : Nat} {m : Option ω} (h : Γ[i]? = some (some (.o md ds))) (hΓ : Γ.set i (some (.v md (.list ds))) = Γ2) (rest : Blk K H0 R Γ2 t Γ' I m) : Blk K H0 R Γ t Γ' I m := fun w hw D A N W O H σ a kn kr => by
  subst hΓ
  obtain ⟨x, ex, hm, l, vs, rfl, eO, el, q⟩ := a.cs i _ h
  have hl : l ∈ O i := by rw [eO]; exact List.mem_cons_self
  have hw' := a.sub i l hl
  have hA : A l = none := (a.own l hw').1
  have a0 : AtB K H0 A N (fun b => W b ∧ b ≠ l) (fun j => if j = i then [] else O j) H σ (Γ.set i none) :=
    { a with
      own := fun b w => a.own b w.1
      sub := fun j k hk => by
        by_cases z : j = i
        · rw [if_pos z] at hk; cases hk
        · rw [if_neg z] at hk
          exact ⟨a.sub j k hk, fun e => z (a.dj j i k hk (e ▸ hl))⟩
      dj := fun j k b h1 h2 => by
        by_cases z : j = i
        · rw [if_pos z] at h1; cases h1
        · by_cases z2 : k = i
          · rw [if_pos z2] at h2; cases h2
          · rw [if_neg z] at h1; rw [if_neg z2] at h2; exact a.dj j k b h1 h2
      nd := fun j => by
        by_cases z : j = i
        · rw [if_pos z]; exact .nil
        · rw [if_neg z]; exact a.nd j
      len := by rw [List.length_set]; exact a.len
      cs := fun j c e => by
        by_cases z : j = i
        · subst z; rw [List.getElem?_set_self (lt_of_get h)] at e; cases e
        · rw [List.getElem?_set_ne (Ne.symm z)] at e
          rw [if_neg z]
          exact a.cs j c e }
  have a1 := a0.freeze hA (fun z => z.2 rfl) el
  have e1 : Same A (upd A l (.lst vs)) := same_upd hA
  have e2 : Same N (upd N l (.lst vs)) := same_upd (a.na.free hA)
  have hi := lt_of_get h
  have q' : Dp K (md.sel (upd A l (.lst vs)) (upd N l (.lst vs)) H) (.ref l) (.list ds) := by
    cases md
    · exact absurd rfl hm
    · exact .lst (.inl (.inl upd_same)) (dpAll_mono e1 q)
    · exact .lst (.inl (.inl upd_same)) (dpAll_mono e2 q)
  have a2 : AtB K H0 (upd A l (.lst vs)) (upd N l (.lst vs)) (fun b => W b ∧ b ≠ l) (fun j => if j = i then [] else O j) H σ (Γ.set i (some (.v md (.list ds)))) :=
    { a1 with
      len := by rw [List.length_set]; exact a.len
      cs := fun j c e => by
        by_cases z : j = i
        · subst z
          rw [List.getElem?_set_self hi] at e; cases e
          exact ⟨_, ex, hm, q'⟩
        · rw [List.getElem?_set_ne (Ne.symm z)] at e
          exact a1.cs j c (by rw [List.getElem?_set_ne (Ne.symm z)]; exact e) }
  exact rest w hw D a2 (fun st e A' N' W' O' H' σ' a' x1 x2 => kn st e A' N' W' O' H' σ' a' (e1.trans x1) (e2.trans x2)) (fun r e => R.mono e1 e2 (kr r e))

/-! ### ends -/
theorem b_end {st : τ} (h : Wk Γ (Γ' st)) : Blk K H0 R Γ tNext Γ' Fl.nxt (some st) := fun w hw D A N W O H σ a kn kr => by
  cases hw
  exact kn st rfl A N W O H σ (a.wk h) (Same.refl _) (Same.refl _)
theorem b_endF {st : τ} (h : Wk Γ (Γ' st)) : Blk K H0 R Γ tNext Γ' idF (some (Fl.nxt st)) := fun w hw D A N W O H σ a kn kr => by
  cases hw
  exact kn st rfl A N W O H σ (a.wk h) (Same.refl _) (Same.refl _)
theorem AtB.retS {α : Type} [ToD α] {r : α} {A N : Hp} {W : Addr → Prop} {O : Nat → List Addr} {H : Hp} {σ : St} {v : V} (a : AtB K H0 A N W O H σ Γ) (q : Dp K N v (toD r)) : RetS K H0 r v H :=
  ⟨a.h0h, a.hl, N, a.fr, a.na.trans a.ah, q⟩
theorem b_ret {α : Type} [ToD α] {r : α} {Γ' : τ → Ctx} (he : Ev K H0 Γ te .n (toD r)) : Blk K H0 (exR (RetS K H0)) Γ (tSeq (tRet te) u) Γ' Fl.ret (some r) := fun w hw D A N W O H σ a kn kr => by
  cases hw
  exact he _ a fun A1 N1 H1 v a1 s1 s2 s3 q => kr r rfl v H1 (a1.retS q)
theorem b_retF {α : Type} [ToD α] {r : α} {Γ' : τ → Ctx} (he : Ev K H0 Γ te .n (toD r)) : Blk K H0 (exR (RetS K H0)) Γ (tSeq (tRet te) u) Γ' idF (retF r) := fun w hw D A N W O H σ a kn kr => by
  cases hw
  exact he _ a fun A1 N1 H1 v a1 s1 s2 s3 q => kr r rfl v H1 (a1.retS q)
theorem b_retO {α : Type} [ToD α] {r : List α} {Γ' : τ → Ctx} (he : EvO K H0 Γ te .n (r.map toD)) : Blk K H0 (exR (RetO K H0)) Γ (tSeq (tRet te) u) Γ' Fl.ret (some r) := fun w hw D A N W O H σ a kn kr => by
  cases hw
  exact he _ a fun A1 N1 H1 l vs a1 s1 s2 s3 h1 h2 h3 h4 q => kr r rfl _ H1 ⟨a1.h0h, a1.hl, N1, l, vs, rfl, a1.fr, a1.na.trans a1.ah, a1.h0.free h2, a1.na.free h2, h4, q⟩
theorem b_retP {α : Type} [ToD α] {r : List (List α)} {Γ' : τ → Ctx} (he : EvP K H0 Γ te .n (r.map (·.map toD))) : Blk K H0 (exR (RetP K H0)) Γ (tSeq (tRet te) u) Γ' Fl.ret (some r) := fun w hw D A N W O H σ a kn kr => by
  cases hw
  exact he _ a fun A1 N1 H1 l ls a1 s1 s2 s3 h1 hnd h4 q => kr r rfl _ H1 ⟨a1.h0h, a1.hl, N1, l, ls, rfl, a1.fr, a1.na.trans a1.ah, fun k hk => ⟨a1.h0.free (h1 k hk).2.1, a1.na.free (h1 k hk).2.1⟩, hnd, h4, q⟩
/-- an own list is handed back -/
theorem AtB.retOv {α : Type} [ToD α] {i : Nat} {r : List α} {A N : Hp} {W : Addr → Prop} {O : Nat → List Addr} {H : Hp} {σ : St} (a : AtB K H0 A N W O H σ Γ) (h : Γ[i]? = some (some (.o .n (r.map toD)))) : ∃ v, σ[i]? = some (some v) ∧ RetO K H0 r v H := by
  obtain ⟨x, ex, hm, l, vs, rfl, eO, el, q⟩ := a.cs i _ h
  have hA := (a.own l (a.sub i l (by rw [eO]; exact List.mem_cons_self))).1
  exact ⟨_, ex, a.h0h, a.hl, N, l, vs, rfl, a.fr, a.na.trans a.ah, a.h0.free hA, a.na.free hA, el, q⟩
theorem RetO.s {α : Type} [ToD α] {r : List α} {v : V} {H : Hp} (h : RetO K H0 r v H) : RetS K H0 r v H := by
  obtain ⟨h0, hl, N, l, vs, rfl, fr, na, h0l, nl, el, q⟩ := h
  refine ⟨h0, hl, upd N l (.lst vs), fun b o e => ?_, fun b o e => ?_, .lst (.inl (.inl upd_same)) (dpAll_mono (same_upd nl) q)⟩
  · by_cases z : b = l
    · subst z; exact .inl h0l
    · rw [upd_ne z] at e; exact fr b o e
  · by_cases z : b = l
    · subst z; rw [upd_same] at e; cases e; exact el
    · rw [upd_ne z] at e; exact na b o e
theorem b_retOv {α : Type} [ToD α] {i : Nat} {r : List α} {Γ' : τ → Ctx} (h : Γ[i]? = some (some (.o .n (r.map toD))) := by rfl) : Blk K H0 (exR (RetO K H0)) Γ (tSeq (tRet (tVar i)) u) Γ' Fl.ret (some r) := fun w hw D A N W O H σ a kn kr => by
  cases hw
  obtain ⟨v, e, q⟩ := a.retOv h
  exact ⟨v, e, kr r rfl v H q⟩
theorem b_retSv {α : Type} [ToD α] {i : Nat} {r : List α} {Γ' : τ → Ctx} (h : Γ[i]? = some (some (.o .n (r.map toD))) := by rfl) : Blk K H0 (exR (RetS K H0)) Γ (tSeq (tRet (tVar i)) u) Γ' Fl.ret (some r) := fun w hw D A N W O H σ a kn kr => by
  cases hw
  obtain ⟨v, e, q⟩ := a.retOv h
  exact ⟨v, e, kr r rfl v H q.s⟩
theorem b_retSvF {α : Type} [ToD α] {i : Nat} {r : List α} {Γ' : τ → Ctx} (h : Γ[i]? = some (some (.o .n (r.map toD))) := by rfl) : Blk K H0 (exR (RetS K H0)) Γ (tSeq (tRet (tVar i)) u) Γ' idF (retF r) := fun w hw D A N W O H σ a kn kr => by
  cases hw
  obtain ⟨v, e, q⟩ := a.retOv h
  exact ⟨v, e, kr r rfl v H q.s⟩
theorem rows_n {S H : Hp} : ∀ {ls : List Addr} {dss : List (List PyData)}, Rows K S H ls dss → (∀ l ∈ ls, S l = none) → ls.Nodup → ∃ S' : Hp, Same S S' ∧ (∀ b o, S' b = some o → S b = some o ∨ (b ∈ ls ∧ H b = some o)) ∧ DpAll K S' (ls.map V.ref) (dss.map PyData.list)
  | [], [], _, _, _ => ⟨S, Same.refl _, fun b o e => .inl e, .nil⟩
  | l :: ls, ds :: dss, ⟨⟨vs, e, q⟩, r⟩, hn, nd => by
    obtain ⟨h1, h2⟩ := List.nodup_cons.mp nd
    obtain ⟨S', s, hs, qs⟩ := rows_n r (fun k hk => hn k (List.mem_cons_of_mem _ hk)) h2
    have hl : S' l = none := by
      cases z : S' l with
      | none => rfl
      | some o =>
        rcases hs l o z with z | z
        · rw [hn l List.mem_cons_self] at z; cases z
        · exact absurd z.1 h1
    refine ⟨upd S' l (.lst vs), s.trans (same_upd hl), fun b o e' => ?_, .cons (.lst (.inl (.inl upd_same)) (dpAll_mono (s.trans (same_upd hl)) q)) (dpAll_mono (same_upd hl) qs)⟩
    by_cases z : b = l
    · subst z; rw [upd_same] at e'; cases e'; exact .inr ⟨List.mem_cons_self, e⟩
    · rw [upd_ne z] at e'
      exact (hs b o e').imp id fun ⟨x, y⟩ => ⟨List.mem_cons_of_mem _ x, y⟩
  | [], _ :: _, h, _, _ => h.elim
  | _ :: _, [], h, _, _ => h.elim
theorem AtB.retPv {α : Type} [ToD α] {i : Nat} {r : List (List α)} {A N : Hp} {W : Addr → Prop} {O : Nat → List Addr} {H : Hp} {σ : St} (a : AtB K H0 A N W O H σ Γ) (h : Γ[i]? = some (some (.p .n (r.map (·.map toD))))) : ∃ v, σ[i]? = some (some v) ∧ RetP K H0 r v H := by
  obtain ⟨x, ex, hm, l, ls, rfl, eO, el, q⟩ := a.cs i _ h
  have hA : ∀ k ∈ l :: ls, A k = none := fun k hk => (a.own k (a.sub i k (by rw [eO]; exact hk))).1
  exact ⟨_, ex, a.h0h, a.hl, N, l, ls, rfl, a.fr, a.na.trans a.ah, fun k hk => ⟨a.h0.free (hA k hk), a.na.free (hA k hk)⟩, eO ▸ a.nd i, el, q⟩
theorem RetP.s {α : Type} [ToD α] {r : List (List α)} {v : V} {H : Hp} (h : RetP K H0 r v H) : RetS K H0 r v H := by
  obtain ⟨h0, hl, N, l, ls, rfl, fr, na, hk, nd, el, q⟩ := h
  obtain ⟨n1, n2⟩ := List.nodup_cons.mp nd
  obtain ⟨N', s, hs, qs⟩ := rows_n q (fun k z => (hk k (List.mem_cons_of_mem _ z)).2) n2
  have nl : N' l = none := by
    cases z : N' l with
    | none => rfl
    | some o =>
      rcases hs l o z with z | z
      · rw [(hk l List.mem_cons_self).2] at z; cases z
      · exact absurd z.1 n1
  refine ⟨h0, hl, upd N' l (.lst (ls.map V.ref)), fun b o e => ?_, fun b o e => ?_, ?_⟩
  · by_cases z : b = l
    · subst z; exact .inl (hk b List.mem_cons_self).1
    · rw [upd_ne z] at e
      rcases hs b o e with z | z
      · exact fr b o z
      · exact .inl (hk b (List.mem_cons_of_mem _ z.1)).1
  · by_cases z : b = l
    · subst z; rw [upd_same] at e; cases e; exact el
    · rw [upd_ne z] at e
      rcases hs b o e with z | z
      · exact na b o z
      · exact z.2
  · have e : toD r = PyData.list ((r.map (·.map toD)).map PyData.list) := by
      show PyData.list (r.map toD) = _
      rw [List.map_map]; rfl
    rw [e]
    exact .lst (.inl (.inl upd_same)) (dpAll_mono (same_upd nl) qs)
theorem b_retPv {α : Type} [ToD α] {i : Nat} {r : List (List α)} {Γ' : τ → Ctx} (h : Γ[i]? = some (some (.p .n (r.map (·.map toD)))) := by rfl) : Blk K H0 (exR (RetP K H0)) Γ (tSeq (tRet (tVar i)) u) Γ' Fl.ret (some r) := fun w hw D A N W O H σ a kn kr => by
  cases hw
  obtain ⟨v, e, q⟩ := a.retPv h
  exact ⟨v, e, kr r rfl v H q⟩
theorem b_retPSv {α : Type} [ToD α] {i : Nat} {r : List (List α)} {Γ' : τ → Ctx} (h : Γ[i]? = some (some (.p .n (r.map (·.map toD)))) := by rfl) : Blk K H0 (exR (RetS K H0)) Γ (tSeq (tRet (tVar i)) u) Γ' Fl.ret (some r) := fun w hw D A N W O H σ a kn kr => by
  cases hw
  obtain ⟨v, e, q⟩ := a.retPv h
  exact ⟨v, e, kr r rfl v H q.s⟩

/-! ### break -/
theorem b_brk {st : τ} {Γb : τ → Ctx} {υ : Type} {Γn : υ → Ctx} (h : Wk Γ (Γb st)) : Blk K H0 (exB K H0 Γb) Γ (tSeq tBreak u) Γn Fl.ret (some st) := fun w hw D A N W O H σ a kn kr => by
  cases hw
  exact kr st rfl A N W O H σ (a.wk h) (Same.refl _) (Same.refl _)
theorem b_brkF {st : τ} {Γb : τ → Ctx} {υ : Type} {Γn : υ → Ctx} (h : Wk Γ (Γb st)) : Blk K H0 (exB K H0 Γb) Γ (tSeq tBreak u) Γn idF (retF st) := fun w hw D A N W O H σ a kn kr => by
  cases hw
  exact kr st rfl A N W O H σ (a.wk h) (Same.refl _) (Same.refl _)
/-- what follows a loop that may have been broken off -/
def flB {τ ω : Type} (k : τ → Option ω) : Fl τ τ → Option ω
  | .ret st => k st
  | .nxt st => k st
/-! ### if -/
variable {x : Bool}
theorem b_if {τ1 : Type} {Γ1 : τ1 → Ctx} {mA mB : Option τ1} {k : τ1 → Option ω} (hc : EvT K H0 Γ tt x) (hA : x = true → Blk K H0 R Γ ta Γ1 Fl.nxt mA) (hB : x = false → Blk K H0 R Γ tb Γ1 Fl.nxt mB) (rest : ∀ st, Blk K H0 R (Γ1 st) u Γ' I (k st)) :
    Blk K H0 R Γ (tSeq (tIfS tt ta tb) u) Γ' I ((iteO x mA mB).bind k) := fun w hw D A N W O H σ a kn kr => by
  obtain ⟨st, e, hw⟩ := bind_some_iff hw
  refine hc _ a fun A1 N1 H1 a1 s1 s2 s3 => ?_
  have fin : ∀ A' N' W' O' H' σ', AtB K H0 A' N' W' O' H' σ' (Γ1 st) → Same A1 A' → Same N1 N' → u D σ' H' := fun A' N' W' O' H' σ' a' x1 x2 =>
    rest st w hw D a' (fun st' e' A'' N'' W'' O'' H'' σ'' a'' y1 y2 => kn st' e' A'' N'' W'' O'' H'' σ'' a'' ((s1.trans x1).trans y1) ((s2.trans x2).trans y2)) (fun r e => R.mono (s1.trans x1) (s2.trans x2) (kr r e))
  cases x with
  | true => rw [if_pos rfl]; exact hA rfl st e _ a1 (fun st' e' => by cases e'; exact fin) (fun r e' => by cases e')
  | false => rw [if_neg Bool.false_ne_true]; exact hB rfl st e _ a1 (fun st' e' => by cases e'; exact fin) (fun r e' => by cases e')
/-- the branch hands back -/
theorem b_ifR {τ0 : Type} {Γ0 : τ0 → Ctx} {mA m : Option ρ} {Γ' : τ → Ctx} (hc : EvT K H0 Γ tt x) (hA : x = true → Blk K H0 R Γ ta Γ0 Fl.ret mA) (rest : x = false → Blk K H0 R Γ u Γ' Fl.ret m) :
    Blk K H0 R Γ (tSeq (tIfS tt ta tNext) u) Γ' Fl.ret (iteO x mA m) := fun w hw D A N W O H σ a kn kr =>
  hc _ a fun A1 N1 H1 a1 s1 s2 s3 => by
    cases x with
    | true => rw [if_pos rfl]; exact hA rfl w hw _ a1 (fun st' e' => by cases e') (fun r e' => by cases e'; exact R.nx (R.mono s1 s2 (kr w rfl)))
    | false => rw [if_neg Bool.false_ne_true]; exact rest rfl w hw D a1 (fun st' e' => by cases e') (fun r e => R.mono s1 s2 (kr r e))
theorem b_ifRR {τ0 : Type} {Γ0 : τ0 → Ctx} {mA m : Option ρ} {Γ' : τ → Ctx} (hc : EvT K H0 Γ tt x) (hA : x = true → Blk K H0 R Γ ta Γ0 Fl.ret mA) (hB : x = false → Blk K H0 R Γ tb Γ0 Fl.ret m) :
    Blk K H0 R Γ (tSeq (tIfS tt ta tb) u) Γ' Fl.ret (iteO x mA m) := fun w hw D A N W O H σ a kn kr =>
  hc _ a fun A1 N1 H1 a1 s1 s2 s3 => by
    cases x with
    | true => rw [if_pos rfl]; exact hA rfl w hw _ a1 (fun st' e' => by cases e') (fun r e' => by cases e'; exact R.nx (R.mono s1 s2 (kr w rfl)))
    | false => rw [if_neg Bool.false_ne_true]; exact hB rfl w hw _ a1 (fun st' e' => by cases e') (fun r e' => by cases e'; exact R.nx (R.mono s1 s2 (kr w rfl)))
theorem b_ifRF {τ0 : Type} {Γ0 : τ0 → Ctx} {mA : Option ρ} {m : Option (Fl ρ τ)} {Γ' : τ → Ctx} (hc : EvT K H0 Γ tt x) (hA : x = true → Blk K H0 R Γ ta Γ0 Fl.ret mA) (rest : x = false → Blk K H0 R Γ u Γ' idF m) :
    Blk K H0 R Γ (tSeq (tIfS tt ta tNext) u) Γ' idF (iteO x (mA.bind retF) m) := fun w hw D A N W O H σ a kn kr =>
  hc _ a fun A1 N1 H1 a1 s1 s2 s3 => by
    cases x with
    | true =>
      rw [if_pos rfl]
      obtain ⟨r, e, hw⟩ := bind_some_iff (show mA.bind retF = some w from hw)
      cases hw
      exact hA rfl r e _ a1 (fun st' e' => by cases e') (fun r' e' => by cases e'; exact R.nx (R.mono s1 s2 (kr r rfl)))
    | false => rw [if_neg Bool.false_ne_true]; exact rest rfl w hw D a1 (fun st e A' N' W' O' H' σ' a' x1 x2 => kn st e A' N' W' O' H' σ' a' (s1.trans x1) (s2.trans x2)) (fun r e => R.mono s1 s2 (kr r e))
/-- a branch may hand back, or go on -/
theorem b_ifF {τ1 : Type} {Γ1 : τ1 → Ctx} {mA mB : Option (Fl ρ τ1)} {k : τ1 → Option ρ} {Γ' : τ → Ctx} (hc : EvT K H0 Γ tt x) (hA : x = true → Blk K H0 R Γ ta Γ1 idF mA) (hB : x = false → Blk K H0 R Γ tb Γ1 idF mB) (rest : ∀ st, Blk K H0 R (Γ1 st) u Γ' Fl.ret (k st)) :
    Blk K H0 R Γ (tSeq (tIfS tt ta tb) u) Γ' Fl.ret ((iteO x mA mB).bind (flR k)) := fun w hw D A N W O H σ a kn kr => by
  obtain ⟨fl, e, hw⟩ := bind_some_iff hw
  refine hc _ a fun A1 N1 H1 a1 s1 s2 s3 => ?_
  have kn' : ∀ st, idF fl = .nxt st → ∀ A' N' W' O' H' σ', AtB K H0 A' N' W' O' H' σ' (Γ1 st) → Same A1 A' → Same N1 N' → u D σ' H' := fun st e1 A' N' W' O' H' σ' a' x1 x2 => by
    have e2 : fl = .nxt st := e1
    subst e2
    exact rest st w hw D a' (fun st' e' => by cases e') (fun r e => R.mono (s1.trans x1) (s2.trans x2) (kr r e))
  have kr' : ∀ r, idF fl = .ret r → R.ok r A1 N1 { D with nx := u D } := fun r e1 => by
    have e2 : fl = .ret r := e1
    subst e2
    cases hw
    exact R.nx (R.mono s1 s2 (kr _ rfl))
  cases x with
  | true => rw [if_pos rfl]; exact hA rfl fl e _ a1 kn' kr'
  | false => rw [if_neg Bool.false_ne_true]; exact hB rfl fl e _ a1 kn' kr'
theorem b_ifFF {τ1 : Type} {Γ1 : τ1 → Ctx} {mA mB : Option (Fl ρ τ1)} {k : τ1 → Option (Fl ρ τ)} {Γ' : τ → Ctx} (hc : EvT K H0 Γ tt x) (hA : x = true → Blk K H0 R Γ ta Γ1 idF mA) (hB : x = false → Blk K H0 R Γ tb Γ1 idF mB) (rest : ∀ st, Blk K H0 R (Γ1 st) u Γ' idF (k st)) :
    Blk K H0 R Γ (tSeq (tIfS tt ta tb) u) Γ' idF ((iteO x mA mB).bind (flF k)) := fun w hw D A N W O H σ a kn kr => by
  obtain ⟨fl, e, hw⟩ := bind_some_iff hw
  refine hc _ a fun A1 N1 H1 a1 s1 s2 s3 => ?_
  have kn' : ∀ st, idF fl = .nxt st → ∀ A' N' W' O' H' σ', AtB K H0 A' N' W' O' H' σ' (Γ1 st) → Same A1 A' → Same N1 N' → u D σ' H' := fun st e1 A' N' W' O' H' σ' a' x1 x2 => by
    have e2 : fl = .nxt st := e1
    subst e2
    exact rest st w hw D a' (fun st' e' A'' N'' W'' O'' H'' σ'' a'' y1 y2 => kn st' e' A'' N'' W'' O'' H'' σ'' a'' ((s1.trans x1).trans y1) ((s2.trans x2).trans y2)) (fun r e => R.mono (s1.trans x1) (s2.trans x2) (kr r e))
  have kr' : ∀ r, idF fl = .ret r → R.ok r A1 N1 { D with nx := u D } := fun r e1 => by
    have e2 : fl = .ret r := e1
    subst e2
    cases hw
    exact R.nx (R.mono s1 s2 (kr r rfl))
  cases x with
  | true => rw [if_pos rfl]; exact hA rfl fl e _ a1 kn' kr'
  | false => rw [if_neg Bool.false_ne_true]; exact hB rfl fl e _ a1 kn' kr'
end
end Mir

namespace Mir
open PySem PySem.Spec L2
open ToD (toD)
set_option autoImplicit false
section
variable {K : PySem.W.Frag} {H0 : Base} {ρ τ υ ω : Type} {R : Ex ρ} {Γ Γ2 : Ctx} {t u ta tb : TS} {Γ' : τ → Ctx} {I : ω → Fl ρ τ} {te ti : TE} {ts : TA} {tt : TT} {wi : TI} {g : TG} {md m1 m2 : Md} {d d1 d2 : PyData} {ds : List PyData} {vs : List Nat}
/-! ### for -/
theorem b_for {α τ1 : Type} [ToD α] {xs : List α} {Γ1 : τ1 → Ctx} {Γ2 : τ1 → α → Ctx} {f : τ1 → α → Option τ1} {st0 : τ1} {k : τ1 → Option ω} (hi : EvI K H0 Γ wi md (xs.map toD)) (hg : ∀ st x, Tg K H0 g md (toD x) vs (Γ1 st) (Γ2 st x))
    (hb : ∀ st x, Blk K H0 R (Γ2 st x) tb Γ1 Fl.nxt (f st x)) (h0 : Wk Γ (Γ1 st0)) (rest : ∀ st, Blk K H0 R (Γ1 st) u Γ' I (k st)) : Blk K H0 R Γ (tSeq (tFor wi g tb) u) Γ' I ((forO f xs st0).bind k) := fun w hw D A N W O H σ a kn kr => by
  obtain ⟨fin, hf, hw⟩ := bind_some_iff hw
  refine hi _ a fun A1 N1 H1 J G Y a1 s1 s2 s3 wk hz hG hY => ?_
  refine for_it wk (fun i σ H => ∃ st A N W O, forO f (xs.drop i) st = some fin ∧ AtB K H0 A N W O H σ (Γ1 st) ∧ Same A1 A ∧ Same N1 N)
    ⟨st0, A1, N1, W, O, by rw [List.drop_zero]; exact hf, a1.wk h0, Same.refl _, Same.refl _⟩ (fun i σ H _ hP => ?_) (fun i x σ H H' hi' hP hYx => ?_) (fun σ H hP => ?_)
  · obtain ⟨st, A, N, W, O, _, a2, u1, _⟩ := hP
    exact hG H (u1.trans a2.ah)
  · obtain ⟨st, A, N, W, O, hr, a2, u1, u2⟩ := hP
    obtain ⟨A4, N4, d, a4, v1, v2, v3, hdd, qx⟩ := hY i A N W O H σ _ x H' a2 u1 u2 hi' hYx
    rw [List.getElem?_map] at hdd
    obtain ⟨xi, hxi, rfl⟩ := Option.map_eq_some_iff.mp hdd
    rw [List.drop_eq_getElem?_toList_append, hxi] at hr
    have hr' : forO f (xi :: xs.drop (i + 1)) st = some fin := hr
    simp only [forO] at hr'
    obtain ⟨st', hst, hr'⟩ := bind_some_iff hr'
    refine hg st xi x _ a4 qx fun σ' a5 _ => ?_
    exact hb st xi st' hst _ a5 (fun st2 e A' N' W' O' H' σ'' a' x1 x2 => by cases e; exact ⟨st', A', N', W', O', hr', a', (u1.trans v1).trans x1, (u2.trans v2).trans x2⟩) (fun r e => by cases e)
  · obtain ⟨st, A, N, W, O, hr, a2, u1, u2⟩ := hP
    rw [List.length_map, List.drop_length] at hr
    have e : st = fin := Option.some.inj hr
    subst e
    exact rest st w hw D a2 (fun st' e' A'' N'' W'' O'' H'' σ'' a'' y1 y2 => kn st' e' A'' N'' W'' O'' H'' σ'' a'' ((s1.trans u1).trans y1) ((s2.trans u2).trans y2)) (fun r e => R.mono (s1.trans u1) (s2.trans u2) (kr r e))
/-- a for that may hand back; k: what follows it -/
theorem b_forG {α τ1 : Type} [ToD α] {xs : List α} {Γ1 : τ1 → Ctx} {Γ2 : τ1 → α → Ctx} {f : τ1 → α → Option (Fl ρ τ1)} {st0 : τ1} (hi : EvI K H0 Γ wi md (xs.map toD)) (hg : ∀ st x, Tg K H0 g md (toD x) vs (Γ1 st) (Γ2 st x))
    (hb : ∀ st x, Blk K H0 R (Γ2 st x) tb Γ1 idF (f st x)) (h0 : Wk Γ (Γ1 st0)) {fin : Fl ρ τ1} (hf : forF f xs st0 = some fin) (D : Ends) {A N : Hp} {W : Addr → Prop} {O : Nat → List Addr} {H : Hp} {σ : St} (a : AtB K H0 A N W O H σ Γ)
    (kn : ∀ st, fin = .nxt st → ∀ A' N' W' O' H' σ', AtB K H0 A' N' W' O' H' σ' (Γ1 st) → Same A A' → Same N N' → D.nx σ' H') (kr : ∀ r, fin = .ret r → ∀ A1 N1 f, Same A A1 → Same N N1 → R.ok r A1 N1 { D with nx := f, ct := f, bk := D.nx }) : tFor wi g tb D σ H := by
  refine hi _ a fun A1 N1 H1 J G Y a1 s1 s2 s3 wk hz hG hY => ?_
  refine for_it wk (fun i σ H => ∃ st A N W O, forF f (xs.drop i) st = some fin ∧ AtB K H0 A N W O H σ (Γ1 st) ∧ Same A1 A ∧ Same N1 N)
    ⟨st0, A1, N1, W, O, by rw [List.drop_zero]; exact hf, a1.wk h0, Same.refl _, Same.refl _⟩ (fun i σ H _ hP => ?_) (fun i x σ H H' hi' hP hYx => ?_) (fun σ H hP => ?_)
  · obtain ⟨st, A, N, W, O, _, a2, u1, _⟩ := hP
    exact hG H (u1.trans a2.ah)
  · obtain ⟨st, A, N, W, O, hr, a2, u1, u2⟩ := hP
    obtain ⟨A4, N4, d, a4, v1, v2, v3, hdd, qx⟩ := hY i A N W O H σ _ x H' a2 u1 u2 hi' hYx
    rw [List.getElem?_map] at hdd
    obtain ⟨xi, hxi, rfl⟩ := Option.map_eq_some_iff.mp hdd
    rw [List.drop_eq_getElem?_toList_append, hxi] at hr
    have hr' : forF f (xi :: xs.drop (i + 1)) st = some fin := hr
    simp only [forF] at hr'
    obtain ⟨fl, hst, hr'⟩ := bind_some_iff hr'
    refine hg st xi x _ a4 qx fun σ' a5 _ => ?_
    refine hb st xi fl hst _ a5 (fun st2 e A' N' W' O' H' σ'' a' x1 x2 => ?_) (fun r e => ?_)
    · have e2 : fl = .nxt st2 := e
      subst e2
      exact ⟨st2, A', N', W', O', hr', a', (u1.trans v1).trans x1, (u2.trans v2).trans x2⟩
    · have e2 : fl = .ret r := e
      subst e2
      exact kr r (Option.some.inj hr').symm _ _ _ ((s1.trans u1).trans (v1.trans (Same.refl _))) ((s2.trans u2).trans (v2.trans (Same.refl _)))
  · obtain ⟨st, A, N, W, O, hr, a2, u1, u2⟩ := hP
    rw [List.length_map, List.drop_length] at hr
    have e : Fl.nxt st = fin := Option.some.inj hr
    exact kn st e.symm A N W O H σ a2 (s1.trans u1) (s2.trans u2)
theorem b_forR {R0 : ρ → V → Hp → Prop} {α τ1 : Type} [ToD α] {xs : List α} {Γ1 : τ1 → Ctx} {Γ2 : τ1 → α → Ctx} {f : τ1 → α → Option (Fl ρ τ1)} {st0 : τ1} {k : τ1 → Option ρ} {Γ' : τ → Ctx} (hi : EvI K H0 Γ wi md (xs.map toD)) (hg : ∀ st x, Tg K H0 g md (toD x) vs (Γ1 st) (Γ2 st x))
    (hb : ∀ st x, Blk K H0 (exR R0) (Γ2 st x) tb Γ1 idF (f st x)) (h0 : Wk Γ (Γ1 st0)) (rest : ∀ st, Blk K H0 (exR R0) (Γ1 st) u Γ' Fl.ret (k st)) : Blk K H0 (exR R0) Γ (tSeq (tFor wi g tb) u) Γ' Fl.ret ((forF f xs st0).bind (flR k)) := fun w hw D A N W O H σ a kn kr => by
  obtain ⟨fin, hf, hw⟩ := bind_some_iff hw
  refine b_forG hi hg hb h0 hf { D with nx := u D } a (fun st e A' N' W' O' H' σ' a' x1 x2 => ?_) (fun r e => ?_)
  · subst e
    exact rest st w hw D a' (fun st' e' => by cases e') (fun r e => kr r e)
  · subst e
    cases hw
    exact fun A1 N1 f _ _ => kr _ rfl
theorem b_forF {R0 : ρ → V → Hp → Prop} {α τ1 : Type} [ToD α] {xs : List α} {Γ1 : τ1 → Ctx} {Γ2 : τ1 → α → Ctx} {f : τ1 → α → Option (Fl ρ τ1)} {st0 : τ1} {k : τ1 → Option (Fl ρ τ)} {Γ' : τ → Ctx} (hi : EvI K H0 Γ wi md (xs.map toD)) (hg : ∀ st x, Tg K H0 g md (toD x) vs (Γ1 st) (Γ2 st x))
    (hb : ∀ st x, Blk K H0 (exR R0) (Γ2 st x) tb Γ1 idF (f st x)) (h0 : Wk Γ (Γ1 st0)) (rest : ∀ st, Blk K H0 (exR R0) (Γ1 st) u Γ' idF (k st)) : Blk K H0 (exR R0) Γ (tSeq (tFor wi g tb) u) Γ' idF ((forF f xs st0).bind (flF k)) := fun w hw D A N W O H σ a kn kr => by
  obtain ⟨fin, hf, hw⟩ := bind_some_iff hw
  refine b_forG hi hg hb h0 hf { D with nx := u D } a (fun st e A' N' W' O' H' σ' a' x1 x2 => ?_) (fun r e => ?_)
  · subst e
    exact rest st w hw D a' (fun st' e' A'' N'' W'' O'' H'' σ'' a'' y1 y2 => kn st' e' A'' N'' W'' O'' H'' σ'' a'' (x1.trans y1) (x2.trans y2)) (fun r e => kr r e)
  · subst e
    cases hw
    exact fun A1 N1 f _ _ => kr _ rfl
/-! ### while -/
theorem b_while {τ1 : Type} {Γ1 : τ1 → Ctx} {c : τ1 → Option Bool} {f : τ1 → Option τ1} {st0 : τ1} {k : τ1 → Option ω} (hc : ∀ st x, c st = some x → EvT K H0 (Γ1 st) tt x)
    (hb : ∀ st, Blk K H0 R (Γ1 st) tb Γ1 Fl.nxt (f st)) (h0 : Wk Γ (Γ1 st0)) (rest : ∀ st, Blk K H0 R (Γ1 st) u Γ' I (k st)) : Blk K H0 R Γ (tSeq (tWhile tt tb) u) Γ' I ((whileO c f st0).bind k) := fun w hw D A N W O H σ a kn kr => by
  obtain ⟨fin, hf, hw⟩ := bind_some_iff hw
  obtain ⟨n, hf⟩ := whileO_to hf
  refine ⟨fun m σ H => ∃ st A' N' W O, whN c f m st = some fin ∧ AtB K H0 A' N' W O H σ (Γ1 st) ∧ Same A A' ∧ Same N N', ⟨n, st0, A, N, W, O, hf, a.wk h0, Same.refl _, Same.refl _⟩, ?_⟩
  rintro m σ1 H1 ⟨st, A1, N1, W1, O1, hr, a1, u1, u2⟩
  cases m with
  | zero => cases hr
  | succ m =>
    simp only [whN] at hr
    obtain ⟨b, hb', hr⟩ := bind_some_iff hr
    refine hc st b hb' _ a1 fun A2 N2 H2 a2 v1 v2 v3 => ?_
    cases b with
    | true =>
      rw [if_pos rfl] at hr ⊢
      obtain ⟨st', hs, hr⟩ := bind_some_iff hr
      refine ⟨_, fun σ' H' q => ⟨m, Nat.lt_succ_self m, q⟩, ?_⟩
      exact hb st st' hs _ a2 (fun st2 e A' N' W' O' H' σ'' a' x1 x2 => by cases e; exact ⟨st', A', N', W', O', hr, a', (u1.trans v1).trans x1, (u2.trans v2).trans x2⟩) (fun r e => by cases e)
    | false =>
      rw [if_neg Bool.false_ne_true] at hr ⊢
      cases hr
      exact rest _ w hw D a2 (fun st' e' A'' N'' W'' O'' H'' σ'' a'' y1 y2 => kn st' e' A'' N'' W'' O'' H'' σ'' a'' ((u1.trans v1).trans y1) ((u2.trans v2).trans y2)) (fun r e => R.mono (u1.trans v1) (u2.trans v2) (kr r e))
theorem b_whileG {τ1 : Type} {Γ1 : τ1 → Ctx} {c : τ1 → Option Bool} {f : τ1 → Option (Fl ρ τ1)} {st0 : τ1} (hc : ∀ st x, c st = some x → EvT K H0 (Γ1 st) tt x)
    (hb : ∀ st, Blk K H0 R (Γ1 st) tb Γ1 idF (f st)) (h0 : Wk Γ (Γ1 st0)) {fin : Fl ρ τ1} (hf : whileF c f st0 = some fin) (D : Ends) {A N : Hp} {W : Addr → Prop} {O : Nat → List Addr} {H : Hp} {σ : St} (a : AtB K H0 A N W O H σ Γ)
    (kn : ∀ st, fin = .nxt st → ∀ A' N' W' O' H' σ', AtB K H0 A' N' W' O' H' σ' (Γ1 st) → Same A A' → Same N N' → D.nx σ' H') (kr : ∀ r, fin = .ret r → ∀ A1 N1 f, Same A A1 → Same N N1 → R.ok r A1 N1 { D with nx := f, ct := f, bk := D.nx }) : tWhile tt tb D σ H := by
  obtain ⟨n, hf⟩ := whileF_to hf
  refine ⟨fun m σ H => ∃ st A' N' W O, whNF c f m st = some fin ∧ AtB K H0 A' N' W O H σ (Γ1 st) ∧ Same A A' ∧ Same N N', ⟨n, st0, A, N, W, O, hf, a.wk h0, Same.refl _, Same.refl _⟩, ?_⟩
  rintro m σ1 H1 ⟨st, A1, N1, W1, O1, hr, a1, u1, u2⟩
  cases m with
  | zero => cases hr
  | succ m =>
    simp only [whNF] at hr
    obtain ⟨b, hb', hr⟩ := bind_some_iff hr
    refine hc st b hb' _ a1 fun A2 N2 H2 a2 v1 v2 v3 => ?_
    cases b with
    | true =>
      rw [if_pos rfl] at hr ⊢
      obtain ⟨fl, hs, hr⟩ := bind_some_iff hr
      refine ⟨_, fun σ' H' q => ⟨m, Nat.lt_succ_self m, q⟩, ?_⟩
      refine hb st fl hs _ a2 (fun st2 e A' N' W' O' H' σ'' a' x1 x2 => ?_) (fun r e => ?_)
      · have e2 : fl = .nxt st2 := e
        subst e2
        exact ⟨st2, A', N', W', O', hr, a', (u1.trans v1).trans x1, (u2.trans v2).trans x2⟩
      · have e2 : fl = .ret r := e
        subst e2
        exact kr r (Option.some.inj hr).symm _ _ _ (u1.trans v1) (u2.trans v2)
    | false =>
      rw [if_neg Bool.false_ne_true] at hr ⊢
      cases hr
      exact kn st rfl A2 N2 W1 O1 H2 σ1 a2 (u1.trans v1) (u2.trans v2)
theorem b_whileR {R0 : ρ → V → Hp → Prop} {τ1 : Type} {Γ1 : τ1 → Ctx} {c : τ1 → Option Bool} {f : τ1 → Option (Fl ρ τ1)} {st0 : τ1} {k : τ1 → Option ρ} {Γ' : τ → Ctx} (hc : ∀ st x, c st = some x → EvT K H0 (Γ1 st) tt x)
    (hb : ∀ st, Blk K H0 (exR R0) (Γ1 st) tb Γ1 idF (f st)) (h0 : Wk Γ (Γ1 st0)) (rest : ∀ st, Blk K H0 (exR R0) (Γ1 st) u Γ' Fl.ret (k st)) : Blk K H0 (exR R0) Γ (tSeq (tWhile tt tb) u) Γ' Fl.ret ((whileF c f st0).bind (flR k)) := fun w hw D A N W O H σ a kn kr => by
  obtain ⟨fin, hf, hw⟩ := bind_some_iff hw
  refine b_whileG hc hb h0 hf { D with nx := u D } a (fun st e A' N' W' O' H' σ' a' x1 x2 => ?_) (fun r e => ?_)
  · subst e
    exact rest st w hw D a' (fun st' e' => by cases e') (fun r e => kr r e)
  · subst e
    cases hw
    exact fun A1 N1 f _ _ => kr _ rfl
theorem b_whileF {R0 : ρ → V → Hp → Prop} {τ1 : Type} {Γ1 : τ1 → Ctx} {c : τ1 → Option Bool} {f : τ1 → Option (Fl ρ τ1)} {st0 : τ1} {k : τ1 → Option (Fl ρ τ)} {Γ' : τ → Ctx} (hc : ∀ st x, c st = some x → EvT K H0 (Γ1 st) tt x)
    (hb : ∀ st, Blk K H0 (exR R0) (Γ1 st) tb Γ1 idF (f st)) (h0 : Wk Γ (Γ1 st0)) (rest : ∀ st, Blk K H0 (exR R0) (Γ1 st) u Γ' idF (k st)) : Blk K H0 (exR R0) Γ (tSeq (tWhile tt tb) u) Γ' idF ((whileF c f st0).bind (flF k)) := fun w hw D A N W O H σ a kn kr => by
  obtain ⟨fin, hf, hw⟩ := bind_some_iff hw
  refine b_whileG hc hb h0 hf { D with nx := u D } a (fun st e A' N' W' O' H' σ' a' x1 x2 => ?_) (fun r e => ?_)
  · subst e
    exact rest st w hw D a' (fun st' e' A'' N'' W'' O'' H'' σ'' a'' y1 y2 => kn st' e' A'' N'' W'' O'' H'' σ'' a'' (x1.trans y1) (x2.trans y2)) (fun r e => kr r e)
  · subst e
    cases hw
    exact fun A1 N1 f _ _ => kr _ rfl

/-! ### loops that may be broken off -/
theorem b_forB {α τ1 : Type} [ToD α] {xs : List α} {Γ1 : τ1 → Ctx} {Γ2 : τ1 → α → Ctx} {f : τ1 → α → Option (Fl τ1 τ1)} {st0 : τ1} {k : τ1 → Option ω} (hi : EvI K H0 Γ wi md (xs.map toD)) (hg : ∀ st x, Tg K H0 g md (toD x) vs (Γ1 st) (Γ2 st x))
    (hb : ∀ st x, Blk K H0 (exB K H0 Γ1) (Γ2 st x) tb Γ1 idF (f st x)) (h0 : Wk Γ (Γ1 st0)) (rest : ∀ st, Blk K H0 R (Γ1 st) u Γ' I (k st)) : Blk K H0 R Γ (tSeq (tFor wi g tb) u) Γ' I ((forF f xs st0).bind (flB k)) := fun w hw D A N W O H σ a kn kr => by
  obtain ⟨fin, hf, hw⟩ := bind_some_iff hw
  refine b_forG hi hg hb h0 hf { D with nx := u D } a (fun st e A' N' W' O' H' σ' a' x1 x2 => ?_) (fun st e => ?_)
  · subst e
    exact rest st w hw D a' (fun st' e' A'' N'' W'' O'' H'' σ'' a'' y1 y2 => kn st' e' A'' N'' W'' O'' H'' σ'' a'' (x1.trans y1) (x2.trans y2)) (fun r e => R.mono x1 x2 (kr r e))
  · subst e
    intro A1 N1 fx z1 z2 A' N' W' O' H' σ' a' x1 x2
    exact rest st w hw D a' (fun st' e' A'' N'' W'' O'' H'' σ'' a'' y1 y2 => kn st' e' A'' N'' W'' O'' H'' σ'' a'' ((z1.trans x1).trans y1) ((z2.trans x2).trans y2)) (fun r e => R.mono (z1.trans x1) (z2.trans x2) (kr r e))
theorem b_whileB {τ1 : Type} {Γ1 : τ1 → Ctx} {c : τ1 → Option Bool} {f : τ1 → Option (Fl τ1 τ1)} {st0 : τ1} {k : τ1 → Option ω} (hc : ∀ st x, c st = some x → EvT K H0 (Γ1 st) tt x)
    (hb : ∀ st, Blk K H0 (exB K H0 Γ1) (Γ1 st) tb Γ1 idF (f st)) (h0 : Wk Γ (Γ1 st0)) (rest : ∀ st, Blk K H0 R (Γ1 st) u Γ' I (k st)) : Blk K H0 R Γ (tSeq (tWhile tt tb) u) Γ' I ((whileF c f st0).bind (flB k)) := fun w hw D A N W O H σ a kn kr => by
  obtain ⟨fin, hf, hw⟩ := bind_some_iff hw
  refine b_whileG hc hb h0 hf { D with nx := u D } a (fun st e A' N' W' O' H' σ' a' x1 x2 => ?_) (fun st e => ?_)
  · subst e
    exact rest st w hw D a' (fun st' e' A'' N'' W'' O'' H'' σ'' a'' y1 y2 => kn st' e' A'' N'' W'' O'' H'' σ'' a'' (x1.trans y1) (x2.trans y2)) (fun r e => R.mono x1 x2 (kr r e))
  · subst e
    intro A1 N1 fx z1 z2 A' N' W' O' H' σ' a' x1 x2
    exact rest st w hw D a' (fun st' e' A'' N'' W'' O'' H'' σ'' a'' y1 y2 => kn st' e' A'' N'' W'' O'' H'' σ'' a'' ((z1.trans x1).trans y1) ((z2.trans x2).trans y2)) (fun r e => R.mono (z1.trans x1) (z2.trans x2) (kr r e))

/-! ### changes of an own list -/
theorem AtB.mutO {i : Nat} {A N : Hp} {W : Addr → Prop} {O : Nat → List Addr} {H : Hp} {σ : St} (a : AtB K H0 A N W O H σ Γ) (h : Γ[i]? = some (some (.o md ds))) :
    ∃ l vs, σ[i]? = some (some (.ref l)) ∧ H l = some (.lst vs) ∧ DpAll K (md.sel A N H) vs ds ∧ ∀ vs' ds', vs'.length ≤ sizeLine → DpAll K (md.sel A N H) vs' ds' → AtB K H0 A N W O (upd H l (.lst vs')) σ (Γ.set i (some (.o md ds'))) := by
  obtain ⟨x, ex, hm, l, vs, rfl, eO, el, q⟩ := a.cs i _ h
  have hl : l ∈ O i := by rw [eO]; exact List.mem_cons_self
  have hi := lt_of_get h
  refine ⟨l, vs, ex, el, q, fun vs' ds' hz q' => ?_⟩
  have a0 : AtB K H0 A N W O H σ (Γ.set i none) := a.weak (by rw [List.length_set]) fun j c e => by
    by_cases z : j = i
    · subst z; rw [List.getElem?_set_self hi] at e; cases e
    · rw [List.getElem?_set_ne (Ne.symm z)] at e; exact e
  have a1 := a0.write (vs := vs') (a.sub i l hl) hz fun j c e hj => by
    have z : j = i := a.dj j i l hj hl
    subst z; rw [List.getElem?_set_self hi] at e; cases e
  exact { a1 with
    len := by rw [List.length_set]; exact a.len
    cs := fun j c e => by
      by_cases z : j = i
      · subst z
        rw [List.getElem?_set_self hi] at e; cases e
        refine ⟨_, ex, hm, l, vs', rfl, eO, upd_same, ?_⟩
        exact sel_upd hm q'
      · rw [List.getElem?_set_ne (Ne.symm z)] at e
        exact a1.cs j c (by rw [List.getElem?_set_ne (Ne.symm z)]; exact e) }
theorem tyL {H : Hp} {l : Addr} {vs : List V} (h : H l = some (.lst vs)) : tyV K "list" (.ref l) H := .inl ⟨rfl, vs, .inl (.inl h)⟩
/-- the state behind an argument list: the own list at slot i is as it was -/
theorem own_arg {i : Nat} {A N : Hp} {W : Addr → Prop} {O : Nat → List Addr} {H : Hp} {σ : St} (a : AtB K H0 A N W O H σ Γ) (h : Γ[i]? = some (some (.o md ds))) : ∃ l vs, σ[i]? = some (some (.ref l)) ∧ H l = some (.lst vs) := by
  obtain ⟨l, vs, e1, e2, _⟩ := a.mutO h
  exact ⟨l, vs, e1, e2⟩
def appO {α : Type} (xs : List α) (a : α) : Option (List α) := if xs.length < lim then some (xs ++ [a]) else none
theorem b_append {α : Type} [ToD α] {xs ys : List α} {y : α} {i : Nat} {m : Option ω} (h : Γ[i]? = some (some (.o md (xs.map toD)))) (he : Ev K H0 Γ te md (toD y)) (hy : appO xs y = some ys) (hΓ : Γ.set i (some (.o md (ys.map toD))) = Γ2) (rest : Blk K H0 R Γ2 u Γ' I m) :
    Blk K H0 R Γ (tSeq (tDrop (tBM K "list" rAppend (tVar i) (tCons te tNil))) u) Γ' I m := fun w hw D A N W O H σ a kn kr => by
  subst hΓ
  obtain ⟨l0, vs0, e0, h0⟩ := own_arg a h
  refine ⟨_, e0, tyL h0, ?_⟩
  refine he _ a fun A1 N1 H1 v a1 s1 s2 s3 q => ?_
  obtain ⟨l, vs, e1, e2, q2, nx⟩ := a1.mutO h
  have e3 : V.ref l0 = V.ref l := Option.some.inj (Option.some.inj (e0.symm.trans e1))
  cases e3
  unfold appO at hy
  split at hy
  · rename_i hz
    cases hy
    have hlen : vs.length < sizeLine := by rw [dpAll_len q2, List.length_map, lim_eq]; exact hz
    refine ⟨l0, vs, v, rfl, rfl, e2, hlen, ?_⟩
    have a2 := nx (vs ++ [v]) ((xs ++ [y]).map toD) (by rw [List.length_append]; exact hlen) (by rw [List.map_append]; exact dpAll_app q2 (.cons q .nil))
    exact rest w hw D a2 (fun st' e' A'' N'' W'' O'' H'' σ'' a'' y1 y2 => kn st' e' A'' N'' W'' O'' H'' σ'' a'' (s1.trans y1) (s2.trans y2)) (fun r e => R.mono s1 s2 (kr r e))
  · cases hy
def popO {α : Type} (xs : List α) : Option (α × List α) := xs[xs.length - 1]?.bind fun a => some (a, xs.dropLast)
theorem dpAll_dropLast {S : Hp} {vs : List V} {ds : List PyData} (q : DpAll K S vs ds) : DpAll K S vs.dropLast ds.dropLast := by
  rw [List.dropLast_eq_take, List.dropLast_eq_take, dpAll_len q]
  exact dpAll_take _ q
/-- name = xs.pop() -/
theorem b_popN {α : Type} [ToD α] {xs : List α} {r : α × List α} {i j : Nat} {m : Option ω} (h : Γ[i]? = some (some (.o md (xs.map toD)))) (hm : md ≠ .h) (hj : j < Γ.length) (hy : popO xs = some r) (hΓ : (Γ.set i (some (.o md (r.2.map toD)))).set j (some (.v md (toD r.1))) = Γ2) (rest : Blk K H0 R Γ2 u Γ' I m) :
    Blk K H0 R Γ (tSeq (tAsg (tBM0 K "list" rPop (tVar i)) (gName j)) u) Γ' I m := fun w hw D A N W O H σ a kn kr => by
  subst hΓ
  obtain ⟨l, vs, e1, e2, q2, nx⟩ := a.mutO h
  obtain ⟨y, hy1, hy2⟩ := bind_some_iff hy
  cases hy2
  have hl : vs.length = xs.length := by rw [dpAll_len q2, List.length_map]
  have hd : (xs.map toD)[xs.length - 1]? = some (toD y) := by rw [List.getElem?_map, hy1]; rfl
  obtain ⟨v, hv, qv⟩ := dpAll_get' q2 hd
  refine ⟨_, e1, tyL e2, l, vs, v, rfl, rfl, e2, by rw [hl]; exact hv, ?_⟩
  have a2 := nx vs.dropLast (xs.dropLast.map toD) (by rw [List.length_dropLast]; have := a.hl l vs (.inl e2); omega) (by rw [List.map_dropLast]; exact dpAll_dropLast q2)
  have qv' : Dp K (md.sel A N (upd H l (.lst vs.dropLast))) v (toD y) := by
    cases md
    · exact absurd rfl hm
    · exact qv
    · exact qv
  exact rest w hw D (a2.setv (by rw [List.length_set]; exact hj) hm qv') kn kr
theorem map_erase {α β : Type} (f : α → β) : ∀ (xs : List α) (k : Nat), (xs.eraseIdx k).map f = (xs.map f).eraseIdx k
  | [], k => by simp
  | x :: xs, 0 => by simp
  | x :: xs, k + 1 => by simp [map_erase f xs k]
def popAtO {α : Type} (xs : List α) (i : Int) : Option (List α) := if -(2 ^ 63 : Int) ≤ i ∧ i < 2 ^ 63 then (ixN xs.length i).bind fun k => some (xs.eraseIdx k) else none
/-- xs.pop(i) -/
theorem b_popAt {α : Type} [ToD α] {xs ys : List α} {n : Int} {i : Nat} {m : Option ω} (h : Γ[i]? = some (some (.o md (xs.map toD)))) (he : Ev K H0 Γ te .h (toD n)) (hy : popAtO xs n = some ys) (hΓ : Γ.set i (some (.o md (ys.map toD))) = Γ2) (rest : Blk K H0 R Γ2 u Γ' I m) :
    Blk K H0 R Γ (tSeq (tDrop (tBM K "list" rPopAt (tVar i) (tCons te tNil))) u) Γ' I m := fun w hw D A N W O H σ a kn kr => by
  subst hΓ
  obtain ⟨l0, vs0, e0, h0⟩ := own_arg a h
  refine ⟨_, e0, tyL h0, ?_⟩
  refine he _ a fun A1 N1 H1 v a1 s1 s2 s3 q => ?_
  obtain ⟨l, vs, e1, e2, q2, nx⟩ := a1.mutO h
  have e3 : V.ref l0 = V.ref l := Option.some.inj (Option.some.inj (e0.symm.trans e1))
  cases e3
  unfold popAtO at hy
  split at hy
  · rename_i hz
    obtain ⟨k, hk, hy⟩ := bind_some_iff hy
    cases hy
    have hl : vs.length = xs.length := by rw [dpAll_len q2, List.length_map]
    have hs := ixN_seq hk
    have hk' : k < vs.length := by rw [hl]; exact hs.2.1
    refine ⟨l0, vs, n, k, vs[k], rfl, by rw [dp_int q], e2, hz.1, hz.2, by rw [hl]; exact hs.1, List.getElem?_eq_getElem hk', ?_⟩
    have a2 := nx (vs.eraseIdx k) ((xs.eraseIdx k).map toD) (Nat.le_trans (List.length_eraseIdx_le _ _) (a1.hl l0 vs (.inl e2))) (by
      rw [map_erase]; exact dpAll_erase k q2)
    exact rest w hw D a2 (fun st' e' A'' N'' W'' O'' H'' σ'' a'' y1 y2 => kn st' e' A'' N'' W'' O'' H'' σ'' a'' (s1.trans y1) (s2.trans y2)) (fun r e => R.mono s1 s2 (kr r e))
  · cases hy
def insO {α : Type} (xs : List α) (i : Int) (a : α) : Option (List α) := if xs.length < lim ∧ 0 ≤ i ∧ i < 2 ^ 63 then some (xs.take i.toNat ++ [a] ++ xs.drop i.toNat) else none
def rIns : V → List V → Hp → VK → Prop := fun x vs H Q => ∃ (l : Addr) (xs : List V) (i : Int) (y : V), x = .ref l ∧ vs = [.int i, y] ∧ H l = some (.lst xs) ∧ xs.length < sizeLine ∧ 0 ≤ i ∧ i < 2 ^ 63 ∧
    Q .non (upd H l (.lst (xs.take i.toNat ++ [y] ++ xs.drop i.toNat)))
theorem mt_insert' {X : Cx} : MtR X "list.insert" rIns := mt_insert
theorem b_insert {α : Type} [ToD α] {xs ys : List α} {y : α} {n : Int} {i : Nat} {m : Option ω} (h : Γ[i]? = some (some (.o md (xs.map toD)))) (hn : Ev K H0 Γ ti md (toD n)) (he : Ev K H0 Γ te md (toD y)) (hy : insO xs n y = some ys) (hΓ : Γ.set i (some (.o md (ys.map toD))) = Γ2) (rest : Blk K H0 R Γ2 u Γ' I m) :
    Blk K H0 R Γ (tSeq (tDrop (tBM K "list" rIns (tVar i) (tCons ti (tCons te tNil)))) u) Γ' I m := fun w hw D A N W O H σ a kn kr => by
  subst hΓ
  obtain ⟨l0, vs0, e0, h0⟩ := own_arg a h
  refine ⟨_, e0, tyL h0, ?_⟩
  refine (a_cons hn (a_cons he a_nil)) _ a fun A1 N1 H1 ws a1 s1 s2 s3 q => ?_
  obtain ⟨x, v, rfl, qx, qv⟩ := dpAll_two q
  obtain ⟨l, vs, e1, e2, q2, nx⟩ := a1.mutO h
  have e3 : V.ref l0 = V.ref l := Option.some.inj (Option.some.inj (e0.symm.trans e1))
  cases e3
  unfold insO at hy
  split at hy
  · rename_i hz
    cases hy
    have hlen : vs.length < sizeLine := by rw [dpAll_len q2, List.length_map, lim_eq]; exact hz.1
    refine ⟨l0, vs, n, v, rfl, by rw [dp_int qx], e2, hlen, hz.2.1, hz.2.2, ?_⟩
    have a2 := nx (vs.take n.toNat ++ [v] ++ vs.drop n.toNat) ((xs.take n.toNat ++ [y] ++ xs.drop n.toNat).map toD) (by simp only [List.length_append, List.length_take, List.length_drop, List.length_cons, List.length_nil]; omega) (by
      rw [List.map_append, List.map_append, List.map_take, List.map_drop]
      exact dpAll_app (dpAll_app (dpAll_take _ q2) (.cons qv .nil)) (dpAll_drop _ q2))
    exact rest w hw D a2 (fun st' e' A'' N'' W'' O'' H'' σ'' a'' y1 y2 => kn st' e' A'' N'' W'' O'' H'' σ'' a'' (s1.trans y1) (s2.trans y2)) (fun r e => R.mono s1 s2 (kr r e))
  · cases hy
/-- xs.remove(k) of ints -/
def remO (xs : List Int) (k : Int) : Option (List Int) := if k ∈ xs then some (xs.erase k) else none
theorem idx_erase (k : Int) : ∀ {xs : List Int}, k ∈ xs → ∃ j, xs[j]? = some k ∧ (∀ m : Nat, m < j → xs[m]? ≠ some k) ∧ xs.eraseIdx j = xs.erase k
  | x :: xs, h => by
    by_cases e : x = k
    · subst e
      exact ⟨0, rfl, fun m hm => by omega, by simp⟩
    · have h' : k ∈ xs := by
        rcases List.mem_cons.mp h with z | z
        · exact absurd z.symm e
        · exact z
      obtain ⟨j, h1, h2, h3⟩ := idx_erase k h'
      refine ⟨j + 1, by simpa using h1, fun m hm => ?_, ?_⟩
      · cases m with
        | zero => simpa using e
        | succ m => simpa using h2 m (by omega)
      · have hb : (x == k) = false := by simpa using e
        rw [List.eraseIdx_cons_succ, h3, List.erase_cons, hb]; rfl
theorem b_remove {xs ys : List Int} {k : Int} {i : Nat} {m : Option ω} (h : Γ[i]? = some (some (.o md (xs.map toD)))) (he : Ev K H0 Γ te .h (toD k)) (hy : remO xs k = some ys) (hΓ : Γ.set i (some (.o md (ys.map toD))) = Γ2) (rest : Blk K H0 R Γ2 u Γ' I m) :
    Blk K H0 R Γ (tSeq (tDrop (tBM K "list" rRemI (tVar i) (tCons te tNil))) u) Γ' I m := fun w hw D A N W O H σ a kn kr => by
  subst hΓ
  obtain ⟨l0, vs0, e0, h0⟩ := own_arg a h
  refine ⟨_, e0, tyL h0, ?_⟩
  refine he _ a fun A1 N1 H1 v a1 s1 s2 s3 q => ?_
  obtain ⟨l, vs, e1, e2, q2, nx⟩ := a1.mutO h
  have e3 : V.ref l0 = V.ref l := Option.some.inj (Option.some.inj (e0.symm.trans e1))
  cases e3
  unfold remO at hy
  split at hy
  · rename_i hz
    cases hy
    obtain ⟨j, h1, h2, h3⟩ := idx_erase k hz
    have ev := ints_of q2
    refine ⟨l0, xs, k, j, rfl, by rw [dp_int q], by rw [← ev]; exact e2, h1, h2, ?_⟩
    rw [h3]
    have hz2 := a1.hl l0 vs (.inl e2)
    rw [ev, List.length_map] at hz2
    have a2 := nx ((xs.erase k).map V.int) ((xs.erase k).map toD) (by rw [List.length_map]; exact Nat.le_trans (List.length_erase_le) hz2) ints_to
    exact rest w hw D a2 (fun st' e' A'' N'' W'' O'' H'' σ'' a'' y1 y2 => kn st' e' A'' N'' W'' O'' H'' σ'' a'' (s1.trans y1) (s2.trans y2)) (fun r e => R.mono s1 s2 (kr r e))
  · cases hy
theorem b_clear {i : Nat} {m : Option ω} (h : Γ[i]? = some (some (.o md ds))) (hΓ : Γ.set i (some (.o md [])) = Γ2) (rest : Blk K H0 R Γ2 u Γ' I m) : Blk K H0 R Γ (tSeq (tDrop (tBM0 K "list" rClear (tVar i))) u) Γ' I m := fun w hw D A N W O H σ a kn kr => by
  subst hΓ
  obtain ⟨l, vs, e1, e2, q2, nx⟩ := a.mutO h
  exact ⟨_, e1, tyL e2, l, vs, rfl, rfl, e2, rest w hw D (nx [] [] (Nat.zero_le _) .nil) kn kr⟩
theorem b_reverse {α : Type} [ToD α] {xs : List α} {i : Nat} {m : Option ω} (h : Γ[i]? = some (some (.o md (xs.map toD)))) (hΓ : Γ.set i (some (.o md (xs.reverse.map toD))) = Γ2) (rest : Blk K H0 R Γ2 u Γ' I m) : Blk K H0 R Γ (tSeq (tDrop (tBM0 K "list" rReverse (tVar i))) u) Γ' I m := fun w hw D A N W O H σ a kn kr => by
  subst hΓ
  obtain ⟨l, vs, e1, e2, q2, nx⟩ := a.mutO h
  exact ⟨_, e1, tyL e2, l, vs, rfl, rfl, e2, rest w hw D (nx vs.reverse (xs.reverse.map toD) (by rw [List.length_reverse]; exact a.hl l vs (.inl e2)) (by rw [List.map_reverse]; exact dpAll_rev q2)) kn kr⟩
def setO {α : Type} (xs : List α) (i : Int) (a : α) : Option (List α) := (ixN xs.length i).bind fun k => some (xs.set k a)
/-- xs[i] = e -/
theorem b_setitem {α : Type} [ToD α] {xs ys : List α} {y : α} {n : Int} {i : Nat} {m : Option ω} (h : Γ[i]? = some (some (.o md (xs.map toD)))) (he : Ev K H0 Γ te md (toD y)) (hn : Ev K H0 Γ ti .h (toD n)) (hy : setO xs n y = some ys) (hΓ : Γ.set i (some (.o md (ys.map toD))) = Γ2) (rest : Blk K H0 R Γ2 u Γ' I m) :
    Blk K H0 R Γ (tSeq (tAsg te (gSub (tVar i) ti rSetL)) u) Γ' I m := fun w hw D A N W O H σ a kn kr => by
  subst hΓ
  refine he _ a fun A1 N1 H1 v a1 s1 s2 s3 q => ?_
  obtain ⟨l0, vs0, e0, h0⟩ := own_arg a1 h
  refine ⟨_, e0, hn _ a1 fun A2 N2 H2 x a2 t1 t2 t3 q1 => ?_⟩
  obtain ⟨l, vs, e1, e2, q2, nx⟩ := a2.mutO h
  have e3 : V.ref l0 = V.ref l := Option.some.inj (Option.some.inj (e0.symm.trans e1))
  cases e3
  obtain ⟨k, hk, hy⟩ := bind_some_iff hy
  cases hy
  have hl : vs.length = xs.length := by rw [dpAll_len q2, List.length_map]
  refine ⟨l0, vs, n, k, rfl, dp_int q1, e2, by rw [hl]; exact hk, ?_⟩
  have a3 := nx (vs.set k v) ((xs.set k y).map toD) (by rw [List.length_set]; exact a2.hl l0 vs (.inl e2)) (by rw [List.map_set]; exact dpAll_set (dp_mono (Md.sel_mono t1 t2 t3) q) k q2)
  exact rest w hw D a3 (fun st' e' A'' N'' W'' O'' H'' σ'' a'' y1 y2 => kn st' e' A'' N'' W'' O'' H'' σ'' a'' ((s1.trans t1).trans y1) ((s2.trans t2).trans y2)) (fun r e => R.mono (s1.trans t1) (s2.trans t2) (kr r e))
end

/-! ## 10. a def's body -/
def entryC (ds : List PyData) (n : Nat) : Ctx := ds.map (fun d => some (.v .s d)) ++ List.replicate (n - ds.length) none
section
variable {K : PySem.W.Frag} {N : List Str} {vs : List V} {H : Hp} {Q : VK} {ds : List PyData} {t : TS} {τ : Type} {Γ : Ctx} {Γ' : τ → Ctx}
theorem entry (hl : HLen H) (hd : DpAll K H vs ds) (hn : ds.length ≤ N.length) : AtB K (bs H) H (fun _ => none) (fun _ => False) (fun _ => []) H (L2.start N vs) (entryC ds N.length) where
  na := fun b o e => by cases e
  ah := Same.refl _
  h0 := Same.refl _
  fr := fun b o e => by cases e
  own := fun b w => w.elim
  sub := fun i l h => by cases h
  dj := fun i j l h => by cases h
  nd := fun i => .nil
  hl := hl
  len := by
    have e := dpAll_len hd
    unfold entryC L2.start
    simp only [List.length_append, List.length_map, List.length_replicate, e]
  cs := fun i c e => by
    have el := dpAll_len hd
    unfold entryC at e
    by_cases hi : i < ds.length
    · rw [List.getElem?_append_left (by rw [List.length_map]; exact hi), List.getElem?_map, List.getElem?_eq_getElem hi] at e
      have e' : (Cell.v Md.s ds[i]) = c := Option.some.inj (Option.some.inj e)
      subst e'
      obtain ⟨v, hv, q⟩ := dpAll_get' hd (List.getElem?_eq_getElem hi)
      refine ⟨v, ?_, (fun z => by cases z), q⟩
      unfold L2.start
      rw [List.getElem?_append_left (by rw [List.length_map, el]; exact hi), List.getElem?_map, hv]; rfl
    · rw [List.getElem?_append_right (by rw [List.length_map]; omega), List.getElem?_replicate] at e
      split at e <;> cases e
theorem body_S {α : Type} [ToD α] {m : Option α} {r : α} (hl : HLen H) (hd : DpAll K H vs ds) (hm : m = some r) (hn : ds.length ≤ N.length) (hΓ : entryC ds N.length = Γ) (hb : Blk K (bs H) (exR (RetS K (bs H))) Γ t Γ' Fl.ret m)
    (k : ∀ v M H', Same H H' → (∀ b o, M b = some o → H b = none ∨ FT o) → Same M H' → HLen H' → Dp K M v (toD r) → Q v H') : t { nx := fun _ H' => Q .non H', rt := Q } (L2.start N vs) H := by
  subst hΓ
  exact hb r hm _ (entry hl hd hn) (fun st e => by cases e) fun r' e v H' q => by
    cases e
    obtain ⟨h0, h1, M, h2, h3, h4⟩ := q
    exact k v M H' h0 (fun b o e => (h2 b o e).imp id fun z => z.resolve_left (by simp)) h3 h1 h4
theorem body_O {α : Type} [ToD α] {m : Option (List α)} {r : List α} (hl : HLen H) (hd : DpAll K H vs ds) (hm : m = some r) (hn : ds.length ≤ N.length) (hΓ : entryC ds N.length = Γ) (hb : Blk K (bs H) (exR (RetO K (bs H))) Γ t Γ' Fl.ret m)
    (k : ∀ l ws M H', Same H H' → (∀ b o, M b = some o → H b = none ∨ FT o) → Same M H' → HLen H' → H l = none → M l = none → H' l = some (.lst ws) → DpAll K M ws (r.map toD) → Q (.ref l) H') : t { nx := fun _ H' => Q .non H', rt := Q } (L2.start N vs) H := by
  subst hΓ
  exact hb r hm _ (entry hl hd hn) (fun st e => by cases e) fun r' e v H' q => by
    cases e
    obtain ⟨h0, h1, M, l, ws, rfl, h2, h3, h4, h5, h6, h7⟩ := q
    exact k l ws M H' h0 (fun b o e => (h2 b o e).imp id fun z => z.resolve_left (by simp)) h3 h1 h4 h5 h6 h7
theorem body_P {α : Type} [ToD α] {m : Option (List (List α))} {r : List (List α)} (hl : HLen H) (hd : DpAll K H vs ds) (hm : m = some r) (hn : ds.length ≤ N.length) (hΓ : entryC ds N.length = Γ) (hb : Blk K (bs H) (exR (RetP K (bs H))) Γ t Γ' Fl.ret m)
    (k : ∀ l ls M H', Same H H' → (∀ b o, M b = some o → H b = none ∨ FT o) → Same M H' → HLen H' → (∀ k ∈ l :: ls, H k = none ∧ M k = none) → (l :: ls).Nodup → H' l = some (.lst (ls.map V.ref)) → Rows K M H' ls (r.map (·.map toD)) → Q (.ref l) H') : t { nx := fun _ H' => Q .non H', rt := Q } (L2.start N vs) H := by
  subst hΓ
  exact hb r hm _ (entry hl hd hn) (fun st e => by cases e) fun r' e v H' q => by
    cases e
    obtain ⟨h0, h1, M, l, ls, rfl, h2, h3, h4, h5, h6, h7⟩ := q
    exact k l ls M H' h0 (fun b o e => (h2 b o e).imp id fun z => z.resolve_left (by simp)) h3 h1 h4 h5 h6 h7
end
/-- the slots, in short -/
abbrev cs {α : Type} [ToD α] (x : α) : Option Cell := some (.v .s (toD x))
abbrev cn {α : Type} [ToD α] (x : α) : Option Cell := some (.v .n (toD x))
abbrev co {α : Type} [ToD α] (xs : List α) : Option Cell := some (.o .n (xs.map toD))
abbrev cO {α : Type} [ToD α] (xs : List α) : Option Cell := some (.o .s (xs.map toD))
abbrev cp {α : Type} [ToD α] (xss : List (List α)) : Option Cell := some (.p .n (xss.map (·.map toD)))
abbrev cP {α : Type} [ToD α] (xss : List (List α)) : Option Cell := some (.p .s (xss.map (·.map toD)))
abbrev c0 : Option Cell := none
end Mir

namespace Mir
open PySem PySem.Spec L2
open ToD (toD)
set_option autoImplicit false
/-! ## 11. what a program writes -/
structure Tri (α β γ : Type) where
  a : α
  b : β
  c : γ
  deriving DecidableEq
instance instTri {α β γ : Type} [ToD α] [ToD β] [ToD γ] : ToD (Tri α β γ) := ⟨fun p => .tuple [toD p.a, toD p.b, toD p.c], max (max (ToD.dep α) (ToD.dep β)) (ToD.dep γ) + 1⟩
theorem toD_tri {α β γ : Type} [ToD α] [ToD β] [ToD γ] (p : Tri α β γ) : toD p = .tuple [toD p.a, toD p.b, toD p.c] := rfl
instance lawTri {α β γ : Type} [ToD α] [DecidableEq α] [LawD α] [ToD β] [DecidableEq β] [LawD β] [ToD γ] [DecidableEq γ] [LawD γ] : LawD (Tri α β γ) where
  eqv p q := by
    obtain ⟨a, b, c⟩ := p; obtain ⟨d, e, f⟩ := q
    simp only [toD_tri, PyData.eqv, PyData.eqvAll, LawD.eqv]
    by_cases h : a = d <;> by_cases h' : b = e <;> by_cases h2 : c = f <;> simp [h, h', h2]
  lay p := by simp [toD_tri, PyData.canLay0, PyData.canLayAll0, LawD.lay]
  depth p := by
    have h1 := LawD.depth p.a
    have h2 := LawD.depth p.b
    have h3 := LawD.depth p.c
    simp only [toD_tri, PyData.depth, PyData.depthAll, ToD.dep]; omega
instance nnTri {α β γ : Type} [ToD α] [ToD β] [ToD γ] : NotNone (Tri α β γ) := ⟨fun _ => by simp [toD], fun _ => by simp [toD, PyData.eqv], fun _ => by simp [toD, PyData.eqv]⟩
section
variable {K : PySem.W.Frag} {H0 : Base} {ρ τ ω : Type} {R : Ex ρ} {Γ Γ2 : Ctx} {t u : TS} {Γ' : τ → Ctx} {I : ω → Fl ρ τ} {te ti : TE} {ts : TA} {tt : TT} {md m1 m2 : Md} {d d1 d2 d3 : PyData}
theorem ev_varF {i : Nat} (h : Γ[i]? = some (some (.v m1 d)) := by rfl) (hf : flatD d = true := by rfl) : Ev K H0 Γ (tVar i) md d := ev_flat (ev_var h) hf
theorem b_asgL {α : Type} [ToD α] {i : Nat} {e : α} {k : α → Option ω} {Γ2 : α → Ctx} (he : Ev K H0 Γ te md (toD e)) (hm : md ≠ .h) (hi : i < Γ.length) (hΓ : ∀ x : α, Γ.set i (some (.v md (toD x))) = Γ2 x) (rest : ∀ x, x = e → Blk K H0 R (Γ2 x) u Γ' I (k x)) : Blk K H0 R Γ (tSeq (tAsg te (gName i)) u) Γ' I (lt e k) := by
  rw [lt_def]; exact b_asg he hm hi (hΓ e) (rest e rfl)
theorem b_asgOL {α : Type} [ToD α] {i : Nat} {e : List α} {k : List α → Option ω} {Γ2 : List α → Ctx} (he : EvO K H0 Γ te md (e.map toD)) (hm : md ≠ .h) (hi : i < Γ.length) (hΓ : ∀ x : List α, Γ.set i (some (.o md (x.map toD))) = Γ2 x) (rest : ∀ x, x = e → Blk K H0 R (Γ2 x) u Γ' I (k x)) : Blk K H0 R Γ (tSeq (tAsg te (gName i)) u) Γ' I (lt e k) := by
  rw [lt_def]; exact b_asgO he hm hi (hΓ e) (rest e rfl)
theorem b_weak {m : Option ω} (h : Wk Γ Γ2) (rest : Blk K H0 R Γ2 t Γ' I m) : Blk K H0 R Γ t Γ' I m := fun w hw D A N W O H σ a kn kr => rest w hw D (a.wk h) kn kr
theorem some_ev {α : Type} [ToD α] {e y : α} (h : some e = some y) (ev : Ev K H0 Γ te md (toD e)) : Ev K H0 Γ te md (toD y) := by cases h; exact ev
theorem some_evO {α : Type} [ToD α] {e y : List α} (h : some e = some y) (ev : EvO K H0 Γ te md (e.map toD)) : EvO K H0 Γ te md (y.map toD) := by cases h; exact ev
theorem some_t {e y : Bool} (h : some e = some y) (ev : EvT K H0 Γ tt e) : EvT K H0 Γ tt y := by cases h; exact ev
theorem e_tri {α β γ : Type} [ToD α] [ToD β] [ToD γ] {a : α} {b : β} {c : γ} (hs : EvA K H0 Γ ts md [toD a, toD b, toD c]) : Ev K H0 Γ (tTup ts) md (toD (Tri.mk a b c)) := e_tup hs
theorem e_tri0 {α β γ : Type} [ToD α] [ToD β] [ToD γ] {p : Tri α β γ} (ha : Ev K H0 Γ te md (toD p)) : Ev K H0 Γ (tOp (rIxT K) te (tC (.int 0))) md (toD p.a) := e_idxT (ds := [toD p.a, toD p.b, toD p.c]) ha (ev_int (md := .h)) rfl
theorem e_tri1 {α β γ : Type} [ToD α] [ToD β] [ToD γ] {p : Tri α β γ} (ha : Ev K H0 Γ te md (toD p)) : Ev K H0 Γ (tOp (rIxT K) te (tC (.int 1))) md (toD p.b) := e_idxT (ds := [toD p.a, toD p.b, toD p.c]) ha (ev_int (md := .h)) rfl
theorem e_tri2 {α β γ : Type} [ToD α] [ToD β] [ToD γ] {p : Tri α β γ} (ha : Ev K H0 Γ te md (toD p)) : Ev K H0 Γ (tOp (rIxT K) te (tC (.int 2))) md (toD p.c) := e_idxT (ds := [toD p.a, toD p.b, toD p.c]) ha (ev_int (md := .h)) rfl
theorem g_tri {i j k : Nat} (hm : md ≠ .h) (hi : i < Γ.length := by decide) (hj : j < Γ.length := by decide) (hk : k < Γ.length := by decide) (hij : i ≠ j := by decide) (hik : i ≠ k := by decide) (hjk : j ≠ k := by decide) : Tg K H0 (gTup K 3 (gCons (gName i) (gCons (gName j) (gCons (gName k) gNil)))) md (.tuple [d1, d2, d3]) [i, j, k] Γ (((Γ.set i (some (.v md d1))).set j (some (.v md d2))).set k (some (.v md d3))) := fun A N W O H σ v Q a q kk => by
  obtain ⟨p, vs, rfl, hS, hA⟩ := dp_tup q
  cases hA with
  | cons q1 hA =>
    obtain ⟨y, z, rfl, q2, q3⟩ := dpAll_two hA
    refine ⟨p, _, rfl, same_tup a.sel_h hS, rfl, _, _, rfl, y, _, rfl, z, _, rfl, rfl, ?_⟩
    refine kk _ (((a.setv hi hm q1).setv (by rw [List.length_set]; exact hj) hm q2).setv (by rw [List.length_set, List.length_set]; exact hk) hm q3) ?_
    show ((((((σ.set i _).set j (some y)).set k (some z)).set k none).set j none).set i none) = ((σ.set k none).set j none).set i none
    rw [List.set_set, List.set_comm _ _ hjk, List.set_set, List.set_comm _ _ hik, List.set_comm _ _ hij, List.set_set]
/-- a, b = e, the parts named -/
theorem b_tup2 {α β : Type} [ToD α] [ToD β] {i j : Nat} {p : α × β} {k : α → β → Option ω} {Γ2 : α → β → Ctx} (he : Ev K H0 Γ te md (toD p)) (hm : md ≠ .h) (hi : i < Γ.length) (hj : j < Γ.length) (hij : i ≠ j) (hΓ : ∀ (x : α) (y : β), (Γ.set i (some (.v md (toD x)))).set j (some (.v md (toD y))) = Γ2 x y)
    (rest : ∀ x y, p = (x, y) → Blk K H0 R (Γ2 x y) u Γ' I (k x y)) : Blk K H0 R Γ (tSeq (tAsg te (gTup K 2 (gCons (gName i) (gCons (gName j) gNil)))) u) Γ' I (lt p.1 fun x => lt p.2 fun y => k x y) := by
  simp only [lt_def]
  obtain ⟨x, y⟩ := p
  refine b_tg he (g_pair hm hij hi hj) ?_
  rw [hΓ]
  exact rest x y rfl
theorem b_tup3 {α β γ : Type} [ToD α] [ToD β] [ToD γ] {i j l : Nat} {p : Tri α β γ} {k : α → β → γ → Option ω} {Γ2 : α → β → γ → Ctx} (he : Ev K H0 Γ te md (toD p)) (hm : md ≠ .h) (hi : i < Γ.length) (hj : j < Γ.length) (hl : l < Γ.length) (hij : i ≠ j) (hil : i ≠ l) (hjl : j ≠ l) (hΓ : ∀ (x : α) (y : β) (z : γ), ((Γ.set i (some (.v md (toD x)))).set j (some (.v md (toD y)))).set l (some (.v md (toD z))) = Γ2 x y z)
    (rest : ∀ x y z, p = ⟨x, y, z⟩ → Blk K H0 R (Γ2 x y z) u Γ' I (k x y z)) : Blk K H0 R Γ (tSeq (tAsg te (gTup K 3 (gCons (gName i) (gCons (gName j) (gCons (gName l) gNil))))) u) Γ' I (lt p.a fun x => lt p.b fun y => lt p.c fun z => k x y z) := by
  simp only [lt_def]
  obtain ⟨x, y, z⟩ := p
  refine b_tg he (g_tri hm hi hj hl hij hil hjl) ?_
  rw [hΓ]
  exact rest x y z rfl
/-- a, b = e, f -/
theorem b_parL {α β : Type} [ToD α] [ToD β] {i j : Nat} {e : α} {f : β} {k : α → β → Option ω} {Γ2 : α → β → Ctx} (hs : EvA K H0 Γ ts md [toD e, toD f]) (hm : md ≠ .h) (hi : i < Γ.length) (hj : j < Γ.length) (hΓ : ∀ (x : α) (y : β), (Γ.set i (some (.v md (toD x)))).set j (some (.v md (toD y))) = Γ2 x y)
    (rest : ∀ x y, x = e → y = f → Blk K H0 R (Γ2 x y) u Γ' I (k x y)) : Blk K H0 R Γ (tSeq (tPar i j ts) u) Γ' I (lt (e, f) fun p => lt p.1 fun x => lt p.2 fun y => k x y) := by
  simp only [lt_def]
  exact b_par hs hm hi hj (hΓ e f) (rest e f rfl rfl)
end
theorem wk_c {c : Option Cell} {Γ Γ' : Ctx} (w : Wk Γ Γ') : Wk (c :: Γ) (c :: Γ') := .cons (.refl c) w
theorem wk_d {c : Option Cell} {Γ Γ' : Ctx} (w : Wk Γ Γ') : Wk (c :: Γ) (none :: Γ') := .cons (.drop c) w
theorem wk_s {d : PyData} {Γ Γ' : Ctx} (w : Wk Γ Γ') : Wk (some (.v .n d) :: Γ) (some (.v .s d) :: Γ') := .cons (.sn d) w
theorem wk_o {ds : List PyData} {Γ Γ' : Ctx} (w : Wk Γ Γ') : Wk (some (.o .n ds) :: Γ) (some (.o .s ds) :: Γ') := .cons (.so ds) w
theorem nh : Md.n ≠ Md.h := fun z => by cases z
theorem sh : Md.s ≠ Md.h := fun z => by cases z
end Mir

namespace Mir
open PySem PySem.Spec L2
open ToD (toD)
set_option autoImplicit false
section
variable {K : PySem.W.Frag} {H0 : Base} {ρ τ ω : Type} {R : Ex ρ} {Γ Γ2 : Ctx} {t u : TS} {Γ' : τ → Ctx} {I : ω → Fl ρ τ} {ta te ti : TE} {ts : TA} {tt : TT} {md m1 m2 : Md} {d d1 d2 d3 : PyData} {ds : List PyData}
/-! ### isinstance of what is known -/
def tyN : PyData → String
  | .none => "NoneType"
  | .bool _ => "bool"
  | .int _ => "int"
  | .str _ => "str"
  | .list _ => "list"
  | .tuple _ => "tuple"
  | .dict _ => "dict"
theorem tyX_of {S : Hp} {v : V} (q : Dp K S v d) : TyX K S v (.type (tyN d)) := by
  cases q with
  | non => exact .base .non
  | bl b => exact .base (.bl b)
  | int i => exact .base (.int i)
  | str x => exact .base (.str x)
  | lst h _ =>
    rcases h with (h | ⟨o, h⟩) | ⟨o, its, n, h, hc, _⟩
    · exact .base (.lst h)
    · exact .base (.frz h)
    · exact .kList h hc
  | tup h _ => exact .base (.tup h)
  | dk h _ _ => exact .base (.dK h)
  | dt h _ _ => exact .base (.dT h)
theorem e_isi {c : String} {b : Bool} (ha : Ev K H0 Γ ta .h d) (h : kitB (tyN d) c = some b) : Ev K H0 Γ (tCB (rIsi K) (tCons ta (tCons (tC (.ty c)) tNil))) md (toD b) := fun A N W O H σ Q a k =>
  ha _ a fun A1 N1 H1 v a1 s1 s2 s3 q => ⟨v, .ty c, .type (tyN d), .type c, b, rfl, .ty c, tyX_of (dp_mono a1.sel_h q), kit_ty h, k A1 N1 H1 _ a1 s1 s2 s3 (.bl b)⟩
/-! ### more of lists -/
theorem b_popNL {α : Type} [ToD α] {xs : List α} {r : α × List α} {i j : Nat} {k : α → List α → Option ω} {Γ2 : α → List α → Ctx} (h : Γ[i]? = some (some (.o md (xs.map toD)))) (hm : md ≠ .h) (hj : j < Γ.length) (hy : popO xs = some r) (hΓ : ∀ (x : α) (ys : List α), (Γ.set i (some (.o md (ys.map toD)))).set j (some (.v md (toD x))) = Γ2 x ys)
    (rest : ∀ x ys, r = (x, ys) → Blk K H0 R (Γ2 x ys) u Γ' I (k x ys)) : Blk K H0 R Γ (tSeq (tAsg (tBM0 K "list" rPop (tVar i)) (gName j)) u) Γ' I (lt r.1 fun x => lt r.2 fun ys => k x ys) := by
  simp only [lt_def]; exact b_popN h hm hj hy (hΓ r.1 r.2) (rest r.1 r.2 rfl)
theorem b_clearL {α : Type} [ToD α] {xs : List α} {i : Nat} {k : List α → Option ω} {Γ2 : List α → Ctx} (h : Γ[i]? = some (some (.o md (xs.map toD)))) (hΓ : ∀ ys : List α, Γ.set i (some (.o md (ys.map toD))) = Γ2 ys) (rest : ∀ ys, ys = [] → Blk K H0 R (Γ2 ys) u Γ' I (k ys)) : Blk K H0 R Γ (tSeq (tDrop (tBM0 K "list" rClear (tVar i))) u) Γ' I (lt [] k) := by
  rw [lt_def]; exact b_clear h (hΓ []) (rest [] rfl)
theorem b_reverseL {α : Type} [ToD α] {xs : List α} {i : Nat} {k : List α → Option ω} {Γ2 : List α → Ctx} (h : Γ[i]? = some (some (.o md (xs.map toD)))) (hΓ : ∀ ys : List α, Γ.set i (some (.o md (ys.map toD))) = Γ2 ys) (rest : ∀ ys, ys = xs.reverse → Blk K H0 R (Γ2 ys) u Γ' I (k ys)) : Blk K H0 R Γ (tSeq (tDrop (tBM0 K "list" rReverse (tVar i))) u) Γ' I (lt xs.reverse k) := by
  rw [lt_def]; exact b_reverse h (hΓ xs.reverse) (rest xs.reverse rfl)
theorem o_lstT {α : Type} [ToD α] {xs : List α} (hz : (xs.map toD).length ≤ sizeLine) (hs : EvA K H0 Γ ts md (xs.map toD)) : EvO K H0 Γ (tLst ts) md (xs.map toD) := o_lst hs hz
theorem ev_varP' {α : Type} [ToD α] {i : Nat} {xss : List (List α)} (h : Γ[i]? = some (some (.p md (xss.map (·.map toD)))) := by rfl) : Ev K H0 Γ (tVar i) .h (toD xss) := by
  have e : toD xss = PyData.list ((xss.map (·.map toD)).map PyData.list) := by
    show PyData.list (xss.map toD) = _
    rw [List.map_map]; rfl
  rw [e]
  exact ev_varP h
theorem flat_all {α : Type} [ToD α] (h : ∀ x : α, flatD (toD x) = true) (xs : List α) : (xs.map toD).all flatD = true := by
  rw [List.all_map, List.all_eq_true]
  intro x _
  exact h x
class FlatT (α : Type) [ToD α] : Prop where
  fl : ∀ x : α, flatD (toD x) = true
instance : FlatT Int := ⟨fun _ => rfl⟩
instance : FlatT Bool := ⟨fun _ => rfl⟩
instance : FlatT Unit := ⟨fun _ => rfl⟩
instance {α : Type} [ToD α] [FlatT α] : FlatT (Option α) := ⟨fun x => by cases x with
  | none => rfl
  | some x => exact FlatT.fl x⟩
theorem o_listF {α : Type} [ToD α] [FlatT α] {xs : List α} (ha : Ev K H0 Γ ta .h (toD xs)) : EvO K H0 Γ (tCB (rListS K) (tCons ta tNil)) md (xs.map toD) := evO_flat (o_list ha) (flat_all FlatT.fl xs)
theorem o_sliceF {α : Type} [ToD α] [FlatT α] {xs : List α} {tl th : TO} {lo hi : Option Int} (ha : Ev K H0 Γ ta .h (toD xs)) (hl : EvPart K H0 Γ tl lo) (hh : EvPart K H0 Γ th hi) : EvO K H0 Γ (tSl (rSlL K) ta tl th) md ((cut xs lo hi).map toD) := evO_flat (o_slice ha hl hh) (flat_all FlatT.fl _)
theorem o_lstRevF {α : Type} [ToD α] [FlatT α] {xs : List α} (ha : Ev K H0 Γ ta .h (toD xs)) : EvO K H0 Γ (tLstRev K ta) md (xs.reverse.map toD) := evO_flat (o_lstRev ha) (flat_all FlatT.fl _)
theorem o_catF {α : Type} [ToD α] [FlatT α] {xs ys zs : List α} (ha : Ev K H0 Γ ta .h (toD xs)) (hb : Ev K H0 Γ te .h (toD ys)) (h : catO xs ys = some zs) : EvO K H0 Γ (tOp (rCatS K) ta te) md (zs.map toD) := evO_flat (o_cat ha hb h) (flat_all FlatT.fl _)
theorem ev_flatT {α : Type} [ToD α] [FlatT α] {x : α} (e : Ev K H0 Γ te m1 (toD x)) : Ev K H0 Γ te md (toD x) := ev_flat e (FlatT.fl x)
theorem ev_varFT {α : Type} [ToD α] [FlatT α] {x : α} {i : Nat} (h : Γ[i]? = some (some (.v m1 (toD x))) := by rfl) : Ev K H0 Γ (tVar i) md (toD x) := ev_flat (ev_var h) (FlatT.fl x)
/-- an item of an own list: it is not the list's alone -/
theorem e_idxO {α : Type} [ToD α] {xs : List α} {i : Nat} {n : Int} {a : α} (hv : Γ[i]? = some (some (.o md (xs.map toD)))) (hb : Ev K H0 Γ te .h (toD n)) (h : atI xs n = some a) : Ev K H0 Γ (tOp (rIxL K) (tVar i) te) md (toD a) := fun A N W O H σ Q at' k => by
  obtain ⟨x, e, hm, l, vs, rfl, eO, el, q⟩ := at'.cs i _ hv
  refine ⟨_, e, hb _ at' fun A1 N1 H1 v a1 s1 s2 s3 q2 => ?_⟩
  have h' : atI (xs.map toD) n = some (toD a) := by rw [atI_map, h]; rfl
  obtain ⟨w, hw, hd⟩ := dpAll_atI q h'
  exact ⟨l, vs, n, w, rfl, dp_int q2, .inl (.inl (s3 _ _ el)), hw, k A1 N1 H1 w a1 s1 s2 s3 (dp_mono (Md.sel_mono s1 s2 s3) hd)⟩
/-- list(range(n)) -/
theorem rgV_rng (lo hi : Int) : rgV lo hi = (rng lo hi).map V.int := by
  unfold rgV rng; rw [List.map_map]; rfl
theorem o_listRg {n : Int} {xs : List Int} (ha : Ev K H0 Γ ta .h (toD n)) (h : rngO 0 n = some xs) : EvO K H0 Γ (tLstRg (tRg1 ta)) md (xs.map toD) := fun A N W O H σ Q a k =>
  ha _ a fun A1 N1 H1 v a1 s1 s2 s3 q => by
    unfold rngO at h
    split at h
    · rename_i hz
      cases h
      refine ⟨n, dp_int q, ⟨by omega, by omega, by omega, by omega, by omega⟩, fun l hl => ?_⟩
      rw [rgV_rng]
      have hz' : ((rng 0 n).map V.int).length ≤ sizeLine := by rw [List.length_map, rng_len, lim_eq]; show _ ≤ 16777216; omega
      exact k A1 N1 _ l _ (a1.allocO hl (a1.hl.upd_lst hz')) s1 s2 (s3.trans (same_upd hl)) (s3.free hl) (a1.ah.free hl) (a1.noW hl) upd_same ints_to
    · cases h
end
theorem hu65 {k : Nat} {A : Around} (r : Room k A) : A.units + 65 < cLine := by have := r.un; omega
abbrev noΓ : Unit → Ctx := fun _ => []
/-- within a body each list is within the line -/
theorem hok_len {P : Program} {w : World} {H : Hp} {h : Heap} (x : HOk P w H h) : HLen H := fun a xs r => by
  have q : ObjOk P w H h a (.lst xs) := r.ok x
  exact q.1
theorem pss_len {X : Cx} {st : List Stmt} {t : TS} (h : PSs X st t) : PSs X st (fun D σ H => HLen H → t D σ H) :=
  ⟨fun pins s σ H D I q => h.run pins s σ H D I (q (hok_len I.hok))⟩
/-- the script, handed in -/
theorem law_end {K : PySem.W.Frag} {pre : List PyData → PyData → Prop} {H : Hp} {a : Addr} {ns : List Int} (hp : pre [toD ns] (toD true)) (hS : SqL K H a (ns.map V.int)) : FnS K pre [.ref a] H (fun v _ => v = .bl true) fun _ _ _ => False :=
  ⟨[toD ns], toD true, .cons (.lst hS ints_to) .nil, hp, fun v N H' _ _ _ _ q => dp_bool q⟩
end Mir

namespace Mir
open PySem PySem.Spec L2
open ToD (toD)
set_option autoImplicit false
/-! ## 13. rows of one's own -/
section
variable {K : PySem.W.Frag} {H0 : Base} {ρ τ ω : Type} {R : Ex ρ} {Γ Γ2 : Ctx} {t u : TS} {Γ' : τ → Ctx} {I : ω → Fl ρ τ} {ta tb te ti : TE} {ts : TA} {tt : TT} {wi : TI} {g : TG} {md m1 m2 : Md} {d d1 d2 d3 : PyData} {ds : List PyData} {vs : List Nat}
theorem rows_snoc {S H : Hp} : ∀ {ls : List Addr} {dss : List (List PyData)} {l : Addr} {ws : List V} {ds : List PyData}, Rows K S H ls dss → H l = some (.lst ws) → DpAll K S ws ds → Rows K S H (ls ++ [l]) (dss ++ [ds])
  | [], [], _, _, _, _, h, q => ⟨⟨_, h, q⟩, trivial⟩
  | _ :: _, _ :: _, _, _, _, ⟨a, r⟩, h, q => ⟨a, rows_snoc r h q⟩
  | [], _ :: _, _, _, _, h, _, _ => h.elim
  | _ :: _, [], _, _, _, h, _, _ => h.elim
theorem rows_len {S H : Hp} : ∀ {ls : List Addr} {dss : List (List PyData)}, Rows K S H ls dss → ls.length = dss.length
  | [], [], _ => rfl
  | _ :: _, _ :: _, ⟨_, r⟩ => by rw [List.length_cons, List.length_cons, rows_len r]
  | [], _ :: _, h => h.elim
  | _ :: _, [], h => h.elim
/-- [f(x) for x in xs if p(x)], each f(x) a new list of its own -/
theorem p_lc {α β : Type} [ToD α] [ToD β] {xs : List α} {ys : List (List β)} {p : α → Option Bool} {f : α → Option (List β)} {Γ2 : α → Ctx} (hi : EvI K H0 Γ wi m1 (xs.map toD)) (hv : ∀ i ∈ vs, Γ[i]? = some none)
    (hg : ∀ x, Tg K H0 g m1 (toD x) vs Γ (Γ2 x)) (hl : ∀ x, Γ.length = (Γ2 x).length) (hs : ∀ x (i : Nat) (c : Cell), Γ[i]? = some (some c) → (Γ2 x)[i]? = some (some c))
    (ht : ∀ x b, p x = some b → EvT K H0 (Γ2 x) tt b) (he : ∀ x y, f x = some y → EvO K H0 (Γ2 x) te m2 (y.map toD)) (hm : m2 ≠ .h) (h : cmpO p f xs = some ys) : EvP K H0 Γ (tLc wi g tt te vs) m2 (ys.map (·.map toD)) := fun A N W O H σ Q a k =>
  hi _ a fun A1 N1 H1 J G Y a1 s1 s2 s3 w hz hG hY => by
    intro D hD
    have hDA : A1 D = none := a1.ah.free hD
    have hDW : ¬ W D := a1.noW hD
    have hDO : ∀ i, D ∉ O i := fun i z => hDW (a1.sub i D z)
    have n0 : (0 : Nat) ≤ sizeLine := Nat.zero_le _
    have a2 : AtB K H0 A1 N1 (fun b => W b ∨ b = D ∨ b ∈ ([] : List Addr)) O (upd H1 D (.lst [])) (wipe σ vs) Γ := by
      have a0 := ((a1.allocO (o := .lst []) hD (a1.hl.upd_lst n0)).reserve hDA (.lst upd_same)).wiped (vs := vs) rfl (fun _ _ e => e) hv
      exact { a0 with own := fun b w => by
                        rcases w with w | w | w
                        · exact a0.own b (.inl w)
                        · exact a0.own b (.inr w)
                        · cases w
                      sub := fun i l h => .inl (a1.sub i l h) }
    refine lc_it w (fun i H => ∃ A N done rest ls, AtB K H0 A N (fun b => W b ∨ b = D ∨ b ∈ ls) O H (wipe σ vs) Γ ∧ Same A1 A ∧ Same N1 N ∧ Same H1 H ∧ H D = some (.lst (ls.map V.ref)) ∧ Rows K (m2.sel A N H) H ls ((done : List (List β)).map (·.map toD)) ∧ (∀ b ∈ ls, H1 b = none ∧ ¬ W b ∧ b ≠ D) ∧ ls.Nodup ∧ cmpO p f (xs.drop i) = some rest ∧ done ++ rest = ys ∧ done.length ≤ i)
      ⟨A1, N1, [], ys, [], a2, Same.refl _, Same.refl _, same_upd hD, upd_same, trivial, (fun b h => by cases h), .nil, by rw [List.drop_zero]; exact h, rfl, Nat.le_refl _⟩ (fun i H _ hP => ?_) (fun i x H H' hi' hP hYx => ?_) (fun H hP => ?_)
    · obtain ⟨A, N, done, rest, ls, a3, u1, _⟩ := hP
      exact hG H (u1.trans a3.ah)
    · obtain ⟨A, N, done, rest, ls, a3, u1, u2, u3, hDl, hq, hf, hnd, hr, hd, hn⟩ := hP
      obtain ⟨A4, N4, d, a4, v1, v2, v3, hdd, qx⟩ := hY i A N _ O H _ Γ x H' a3 u1 u2 hi' hYx
      rw [List.getElem?_map] at hdd
      obtain ⟨xi, hxi, rfl⟩ := Option.map_eq_some_iff.mp hdd
      rw [List.drop_eq_getElem?_toList_append, hxi] at hr
      have hr' : cmpO p f (xi :: xs.drop (i + 1)) = some rest := hr
      simp only [cmpO] at hr'
      obtain ⟨b, hb, hr'⟩ := bind_some_iff hr'
      refine hg xi x _ a4 qx fun σ' a5 hw' => ?_
      rw [wipe_wipe] at hw'
      refine ⟨hw', ht xi b hb _ a5 fun A6 N6 H6 a6 x1 x2 x3 => ?_⟩
      have hDl6 : H6 D = some (.lst (ls.map V.ref)) := x3 _ _ (v3 _ _ hDl)
      have hq6 : Rows K (m2.sel A6 N6 H6) H6 ls (done.map (·.map toD)) := hq.mono (Md.sel_mono (v1.trans x1) (v2.trans x2) (v3.trans x3)) (v3.trans x3)
      have back : ∀ {A N H}, AtB K H0 A N (fun b => W b ∨ b = D ∨ b ∈ ls) O H σ' (Γ2 xi) → AtB K H0 A N (fun b => W b ∨ b = D ∨ b ∈ ls) O H (wipe σ vs) Γ := fun a => by
        have := a.wiped (vs := vs) (hl xi) (hs xi) hv
        rwa [hw'] at this
      cases b with
      | false =>
        rw [if_neg Bool.false_ne_true] at hr' ⊢
        exact ⟨A6, N6, done, rest, ls, back a6, (u1.trans v1).trans x1, (u2.trans v2).trans x2, (u3.trans v3).trans x3, hDl6, hq6, hf, hnd, hr', hd, by omega⟩
      | true =>
        rw [if_pos rfl] at hr' ⊢
        obtain ⟨y, hy, hr'⟩ := bind_some_iff hr'
        obtain ⟨rest', hr2, e⟩ := bind_some_iff hr'
        cases e
        refine he xi y hy _ a6 fun A7 N7 H7 l ws a7 z1 z2 z3 c1 c2 c3 c4 q7 => ?_
        have hDl7 := z3 _ _ hDl6
        have hq7 : Rows K (m2.sel A7 N7 H7) H7 ls (done.map (·.map toD)) := hq6.mono (Md.sel_mono z1 z2 z3) z3
        have hlen : (ls.map V.ref).length < sizeLine := by
          have e1 := rows_len hq7
          rw [List.length_map] at e1
          rw [List.length_map]
          omega
        have hlD : l ≠ D := fun z => c3 (.inr (.inl z))
        have hlW : ¬ W l := fun z => c3 (.inl z)
        have hl7 : l ∉ ls := fun z => c3 (.inr (.inr z))
        have a8 : AtB K H0 A7 N7 (fun b => W b ∨ b = D ∨ b ∈ ls ++ [l]) O H7 (wipe σ vs) Γ :=
          { back a7 with
            own := fun b w => by
              rcases w with w | w | w
              · exact a7.own b (.inl w)
              · exact a7.own b (.inr (.inl w))
              · rcases List.mem_append.mp w with w | w
                · exact a7.own b (.inr (.inr w))
                · rw [List.mem_singleton.mp w]; exact ⟨c2, .lst c4⟩
            sub := fun i m h => .inl (a1.sub i m h) }
        have hH1l : H1 l = none := ((((u3.trans v3).trans x3)).free c1)
        refine ⟨ls.map V.ref, hDl7, hlen, A7, N7, done ++ [y], rest', ls ++ [l], ?_, ((u1.trans v1).trans x1).trans z1, ((u2.trans v2).trans x2).trans z2, same_updR (((u3.trans v3).trans x3).trans z3) hD, ?_, ?_, ?_, ?_, hr2, by rw [List.append_assoc]; exact hd, by rw [List.length_append]; show done.length + 1 ≤ i + 1; omega⟩
        · exact write_D a8 (.inr (.inl rfl)) hDO (by rw [List.length_append]; exact hlen)
        · rw [upd_same, List.map_append]; rfl
        · have r := (rows_snoc hq7 c4 q7).at (H' := upd H7 D (.lst (ls.map V.ref ++ [V.ref l]))) fun b hb => upd_ne (by
            rcases List.mem_append.mp hb with h | h
            · exact (hf b h).2.2
            · rw [List.mem_singleton.mp h]; exact hlD)
          rw [List.map_append]
          cases m2
          · exact absurd rfl hm
          · exact r
          · exact r
        · intro b hb
          rcases List.mem_append.mp hb with h | h
          · exact hf b h
          · rw [List.mem_singleton.mp h]; exact ⟨hH1l, hlW, hlD⟩
        · exact List.nodup_append.mpr ⟨hnd, List.nodup_cons.mpr ⟨by simp, .nil⟩, fun b hb c hc => by rw [List.mem_singleton.mp hc]; exact fun z => hl7 (z ▸ hb)⟩
    · obtain ⟨A, N, done, rest, ls, a3, u1, u2, u3, hDl, hq, hf, hnd, hr, hd, hn⟩ := hP
      rw [List.length_map, List.drop_length] at hr
      have e : rest = [] := (Option.some.inj hr).symm
      subst e
      rw [List.append_nil] at hd
      subst hd
      have a4 : AtB K H0 A N W O H (wipe σ vs) Γ := a3.unreserve (fun _ h => .inl h) a1.sub
      have a5 : AtB K H0 A N W O H σ Γ := { a4 with
        len := a.len
        cs := fun i c e => by
          obtain ⟨x, e1, q⟩ := a4.cs i c e
          exact ⟨x, (wipe_some e1).1, q⟩ }
      refine k A N H D ls a5 (s1.trans u1) (s2.trans u2) (s3.trans u3) (fun b hb => ?_) (List.nodup_cons.mpr ⟨fun z => (hf D z).2.2 rfl, hnd⟩) hDl hq
      rcases List.mem_cons.mp hb with rfl | hb
      · exact ⟨s3.free hD, (a3.own b (.inr (.inl rfl))).1, hDW⟩
      · exact ⟨s3.free (hf b hb).1, (a3.own b (.inr (.inr hb))).1, (hf b hb).2.1⟩
theorem p_lc1 {α β : Type} [ToD α] [ToD β] {i : Nat} {xs : List α} {ys : List (List β)} {p : α → Option Bool} {f : α → Option (List β)} (hi : EvI K H0 Γ wi m1 (xs.map toD)) (hm1 : m1 ≠ .h)
    (ht : ∀ x b, p x = some b → EvT K H0 (Γ.set i (some (.v m1 (toD x)))) tt b) (he : ∀ x y, f x = some y → EvO K H0 (Γ.set i (some (.v m1 (toD x)))) te m2 (y.map toD)) (h : cmpO p f xs = some ys) (hm : m2 ≠ .h) (hv : Γ[i]? = some none := by rfl) : EvP K H0 Γ (tLc wi (gName i) tt te [i]) m2 (ys.map (·.map toD)) :=
  p_lc (Γ2 := fun x => Γ.set i (some (.v m1 (toD x)))) hi (fun j hj => by rw [List.mem_singleton.mp hj]; exact hv) (fun x => g_name hm1 (lt_of_get hv)) (fun x => by rw [List.length_set]) (fun x j c e => set_keep hv j c e) ht he hm h
theorem p_map1 {α β : Type} [ToD α] [ToD β] {i : Nat} {xs : List α} {ys : List (List β)} {f : α → Option (List β)} (hi : EvI K H0 Γ wi m1 (xs.map toD)) (hm1 : m1 ≠ .h)
    (he : ∀ x y, f x = some y → EvO K H0 (Γ.set i (some (.v m1 (toD x)))) te m2 (y.map toD)) (h : mapO f xs = some ys) (hm : m2 ≠ .h) (hv : Γ[i]? = some none := by rfl) : EvP K H0 Γ (tLc wi (gName i) tYes te [i]) m2 (ys.map (·.map toD)) :=
  p_lc1 (p := fun _ => some true) hi hm1 (fun x b e => by cases e; exact t_yes) he (by rw [← mapO_cmp]; exact h) hm hv
/-- rows of one's own, kept as things that never change -/
theorem AtB.freezeR {md : Md} {H' : Hp} {W : Addr → Prop} {O : Nat → List Addr} {σ : St} (hm : md ≠ .h) : ∀ (ls : List Addr) (dss : List (List PyData)) (A N : Hp), AtB K H0 A N W O H' σ Γ → Rows K (md.sel A N H') H' ls dss → (∀ k ∈ ls, A k = none ∧ ¬ W k) → ls.Nodup →
        ∃ A2 N2, AtB K H0 A2 N2 W O H' σ Γ ∧ Same A A2 ∧ Same N N2 ∧ DpAll K (md.sel A2 N2 H') (ls.map V.ref) (dss.map PyData.list) ∧ ∀ b, b ∉ ls → A b = none → A2 b = none := by
      intro ls
      induction ls with
      | nil =>
        intro dss A N a hr _ _
        cases dss with
        | nil => exact ⟨A, N, a, Same.refl _, Same.refl _, .nil, fun b _ h => h⟩
        | cons _ _ => exact hr.elim
      | cons l ls ih =>
        intro dss A N a hr hk nd
        cases dss with
        | nil => exact hr.elim
        | cons ds dss =>
          obtain ⟨⟨vs, e, q⟩, r⟩ := hr
          obtain ⟨d1, d2⟩ := List.nodup_cons.mp nd
          obtain ⟨k1, k2⟩ := hk l List.mem_cons_self
          have a2 := a.freeze k1 k2 e
          have e1 : Same A (upd A l (.lst vs)) := same_upd k1
          have e2 : Same N (upd N l (.lst vs)) := same_upd (a.na.free k1)
          obtain ⟨A2, N2, a3, f1, f2, f3, f4⟩ := ih dss _ _ a2 (r.mono (Md.sel_mono e1 e2 (Same.refl _)) (Same.refl _)) (fun k hk' => ⟨by
            rw [upd_ne (show k ≠ l from fun z => d1 (z ▸ hk'))]; exact (hk k (List.mem_cons_of_mem _ hk')).1, (hk k (List.mem_cons_of_mem _ hk')).2⟩) d2
          refine ⟨A2, N2, a3, e1.trans f1, e2.trans f2, .cons ?_ f3, fun b hb hA => ?_⟩
          · refine .lst (.inl (.inl ?_)) (dpAll_mono (Md.sel_mono (e1.trans f1) (e2.trans f2) (Same.refl _)) q)
            cases md
            · exact absurd rfl hm
            · exact f1 _ _ upd_same
            · exact f2 _ _ upd_same
          · have hbl : b ≠ l := fun z => hb (z ▸ List.mem_cons_self)
            exact f4 b (fun z => hb (List.mem_cons_of_mem _ z)) (by rw [upd_ne hbl]; exact hA)
theorem evP_ev {α : Type} [ToD α] {xss : List (List α)} (e : EvP K H0 Γ te md (xss.map (·.map toD))) (hm : md ≠ .h) : Ev K H0 Γ te md (toD xss) := fun A N W O H σ Q a k =>
  e Q a fun A' N' H' l ls a' sA sN sH h1 hnd h4 q => by
    have ed : toD xss = PyData.list ((xss.map (·.map toD)).map PyData.list) := by
      show PyData.list (xss.map toD) = _
      rw [List.map_map]; rfl
    rw [ed] at k
    obtain ⟨n1, n2⟩ := List.nodup_cons.mp hnd
    obtain ⟨A2, N2, a2, f1, f2, f3, f4⟩ := AtB.freezeR hm ls _ A' N' a' q (fun k hk => (h1 k (List.mem_cons_of_mem _ hk)).2) n2
    obtain ⟨g1, g2, g3⟩ := h1 l List.mem_cons_self
    have hl2 := f4 l n1 g2
    have a3 := a2.freeze hl2 g3 h4
    have e1 : Same A2 (upd A2 l (.lst (ls.map V.ref))) := same_upd hl2
    have e2 : Same N2 (upd N2 l (.lst (ls.map V.ref))) := same_upd (a2.na.free hl2)
    refine k _ _ H' _ a3 ((sA.trans f1).trans e1) ((sN.trans f2).trans e2) sH ?_
    cases md
    · exact absurd rfl hm
    · exact .lst (.inl (.inl upd_same)) (dpAll_mono e1 f3)
    · exact .lst (.inl (.inl upd_same)) (dpAll_mono e2 f3)
/-- rows of one's own become plain data -/
theorem b_freezeP {i : Nat} {dss : List (List PyData)} {m : Option ω} (h : Γ[i]? = some (some (.p md dss))) (hΓ : Γ.set i (some (.v md (.list (dss.map PyData.list)))) = Γ2) (rest : Blk K H0 R Γ2 t Γ' I m) : Blk K H0 R Γ t Γ' I m := fun w hw D A N W O H σ a kn kr => by
  subst hΓ
  obtain ⟨x, ex, hm, l, ls, rfl, eO, el, q⟩ := a.cs i _ h
  have hlO : ∀ b, b ∈ O i ↔ b ∈ l :: ls := fun b => by rw [eO]
  have hnd : (l :: ls).Nodup := eO ▸ a.nd i
  obtain ⟨n1, n2⟩ := List.nodup_cons.mp hnd
  have hA : ∀ b ∈ l :: ls, A b = none := fun b hb => (a.own b (a.sub i b ((hlO b).mpr hb))).1
  have a0 : AtB K H0 A N (fun b => W b ∧ b ∉ l :: ls) (fun j => if j = i then [] else O j) H σ (Γ.set i none) :=
    { a with
      own := fun b w => a.own b w.1
      sub := fun j k hk => by
        by_cases z : j = i
        · rw [if_pos z] at hk; cases hk
        · rw [if_neg z] at hk
          exact ⟨a.sub j k hk, fun e => z (a.dj j i k hk ((hlO k).mpr e))⟩
      dj := fun j k b h1 h2 => by
        by_cases z : j = i
        · rw [if_pos z] at h1; cases h1
        · by_cases z2 : k = i
          · rw [if_pos z2] at h2; cases h2
          · rw [if_neg z] at h1; rw [if_neg z2] at h2; exact a.dj j k b h1 h2
      nd := fun j => by
        by_cases z : j = i
        · rw [if_pos z]; exact .nil
        · rw [if_neg z]; exact a.nd j
      len := by rw [List.length_set]; exact a.len
      cs := fun j c e => by
        by_cases z : j = i
        · subst z; rw [List.getElem?_set_self (lt_of_get h)] at e; cases e
        · rw [List.getElem?_set_ne (Ne.symm z)] at e
          rw [if_neg z]
          exact a.cs j c e }
  obtain ⟨A2, N2, a2, f1, f2, f3, f4⟩ := AtB.freezeR hm ls _ A N a0 q (fun k hk => ⟨hA k (List.mem_cons_of_mem _ hk), fun z => z.2 (List.mem_cons_of_mem _ hk)⟩) n2
  have hl2 := f4 l n1 (hA l List.mem_cons_self)
  have a1 := a2.freeze hl2 (fun z => z.2 List.mem_cons_self) el
  have e1 : Same A2 (upd A2 l (.lst (ls.map V.ref))) := same_upd hl2
  have e2 : Same N2 (upd N2 l (.lst (ls.map V.ref))) := same_upd (a2.na.free hl2)
  have hi := lt_of_get h
  have q' : Dp K (md.sel (upd A2 l (.lst (ls.map V.ref))) (upd N2 l (.lst (ls.map V.ref))) H) (.ref l) (.list (dss.map PyData.list)) := by
    cases md
    · exact absurd rfl hm
    · exact .lst (.inl (.inl upd_same)) (dpAll_mono e1 f3)
    · exact .lst (.inl (.inl upd_same)) (dpAll_mono e2 f3)
  have a4 : AtB K H0 (upd A2 l (.lst (ls.map V.ref))) (upd N2 l (.lst (ls.map V.ref))) (fun b => W b ∧ b ∉ l :: ls) (fun j => if j = i then [] else O j) H σ (Γ.set i (some (.v md (.list (dss.map PyData.list))))) :=
    { a1 with
      len := by rw [List.length_set]; exact a.len
      cs := fun j c e => by
        by_cases z : j = i
        · subst z
          rw [List.getElem?_set_self hi] at e; cases e
          exact ⟨_, ex, hm, q'⟩
        · rw [List.getElem?_set_ne (Ne.symm z)] at e
          exact a1.cs j c (by rw [List.getElem?_set_ne (Ne.symm z)]; exact e) }
  exact rest w hw D a4 (fun st e A' N' W' O' H' σ' a' x1 x2 => kn st e A' N' W' O' H' σ' a' ((f1.trans e1).trans x1) ((f2.trans e2).trans x2)) (fun r e => R.mono (f1.trans e1) (f2.trans e2) (kr r e))
theorem list_toD2 {α : Type} [ToD α] (xss : List (List α)) : PyData.list ((xss.map (·.map toD)).map PyData.list) = toD xss := by
  show _ = PyData.list (xss.map toD)
  rw [List.map_map]; rfl
theorem b_freezePT {α : Type} [ToD α] {i : Nat} {xss : List (List α)} {m : Option ω} (h : Γ[i]? = some (some (.p md (xss.map (·.map toD))))) (hΓ : Γ.set i (some (.v md (toD xss))) = Γ2) (rest : Blk K H0 R Γ2 t Γ' I m) : Blk K H0 R Γ t Γ' I m :=
  b_freezeP h ((list_toD2 xss).symm ▸ hΓ) rest
theorem e_lenT2 {α β : Type} [ToD α] [ToD β] {p : α × β} (ha : Ev K H0 Γ ta .h (toD p)) : Ev K H0 Γ (tCB (rLenS K) (tCons ta tNil)) md (toD (2 : Int)) := e_lenT (ds := [toD p.1, toD p.2]) ha
theorem e_lenT3 {α β γ : Type} [ToD α] [ToD β] [ToD γ] {p : Tri α β γ} (ha : Ev K H0 Γ ta .h (toD p)) : Ev K H0 Γ (tCB (rLenS K) (tCons ta tNil)) md (toD (3 : Int)) := e_lenT (ds := [toD p.a, toD p.b, toD p.c]) ha
theorem rows_get {S H : Hp} : ∀ {ls : List Addr} {dss : List (List PyData)} {i : Nat} {ds : List PyData}, Rows K S H ls dss → dss[i]? = some ds → ∃ l vs, ls[i]? = some l ∧ H l = some (.lst vs) ∧ DpAll K S vs ds
  | [], [], _, _, _, h => by simp at h
  | l :: ls, d :: dss, 0, ds, ⟨⟨vs, e, q⟩, r⟩, h => by
    have h' := Option.some.inj h
    subst h'
    exact ⟨l, vs, rfl, e, q⟩
  | l :: ls, d :: dss, i + 1, ds, ⟨_, r⟩, h => by
    obtain ⟨m, vs, h1, h2, h3⟩ := rows_get (i := i) r (by simpa using h)
    exact ⟨m, vs, by simpa using h1, h2, h3⟩
  | [], _ :: _, _, _, h, _ => h.elim
  | _ :: _, [], _, _, h, _ => h.elim
theorem rows_set {S H : Hp} {ws : List V} {es : List PyData} (q : DpAll K S ws es) : ∀ {ls : List Addr} {dss : List (List PyData)} {i : Nat} {l : Addr}, Rows K S H ls dss → ls.Nodup → ls[i]? = some l → Rows K S (upd H l (.lst ws)) ls (dss.set i es)
  | [], [], _, _, _, _, h => by simp at h
  | m :: ls, d :: dss, 0, l, ⟨_, r⟩, nd, h => by
    have h' := Option.some.inj h
    subst h'
    obtain ⟨d1, _⟩ := List.nodup_cons.mp nd
    exact ⟨⟨ws, upd_same, q⟩, r.at fun k hk => upd_ne fun z => d1 (z ▸ hk)⟩
  | m :: ls, d :: dss, i + 1, l, ⟨⟨vs, e, q'⟩, r⟩, nd, h => by
    obtain ⟨d1, d2⟩ := List.nodup_cons.mp nd
    have h' : ls[i]? = some l := by simpa using h
    have hne : m ≠ l := fun z => d1 (z ▸ List.mem_of_getElem? h')
    exact ⟨⟨vs, by rw [upd_ne hne]; exact e, q'⟩, rows_set (i := i) q r d2 h'⟩
  | [], _ :: _, _, _, h, _, _ => h.elim
  | _ :: _, [], _, _, h, _, _ => h.elim
def app2O {α : Type} (xss : List (List α)) (i : Int) (a : α) : Option (List (List α)) := (ixN xss.length i).bind fun k => xss[k]?.bind fun row => if row.length < lim then some (xss.set k (row ++ [a])) else none
/-- xs[i].append(e) -/
theorem b_append2 {α : Type} [ToD α] {xss yss : List (List α)} {y : α} {n : Int} {i : Nat} {m : Option ω} (h : Γ[i]? = some (some (.p md (xss.map (·.map toD))))) (hn : Ev K H0 Γ ti .h (toD n)) (he : Ev K H0 Γ te md (toD y)) (hy : app2O xss n y = some yss) (hΓ : Γ.set i (some (.p md (yss.map (·.map toD)))) = Γ2) (rest : Blk K H0 R Γ2 u Γ' I m) :
    Blk K H0 R Γ (tSeq (tDrop (tBM K "list" rAppend (tOp (rIxL K) (tVar i) ti) (tCons te tNil))) u) Γ' I m := fun w hw D A N W O H σ a kn kr => by
  subst hΓ
  obtain ⟨x0, ex0, hm, l, ls, rfl, eO, el, q⟩ := a.cs i _ h
  refine ⟨_, ex0, hn _ a fun A1 N1 H1 v1 a1 s1 s2 s3 q1 => ?_⟩
  obtain ⟨k, hk, hy⟩ := bind_some_iff hy
  obtain ⟨row, hrow, hy⟩ := bind_some_iff hy
  split at hy
  · rename_i hz
    cases hy
    have hr1 : (xss.map (·.map toD))[k]? = some (row.map toD) := by rw [List.getElem?_map, hrow]; rfl
    have hi := lt_of_get h
    -- ahead of the item
    have q1' : Rows K (md.sel A1 N1 H1) H1 ls (xss.map (·.map toD)) := q.mono (Md.sel_mono s1 s2 s3) s3
    have el1 := s3 _ _ el
    obtain ⟨b, ws, hb, hbw, hbq⟩ := rows_get q1' hr1
    have lenls : (ls.map V.ref).length = xss.length := by rw [List.length_map, rows_len q1', List.length_map]
    refine ⟨l, ls.map V.ref, n, .ref b, rfl, dp_int q1, .inl (.inl el1), ?_, tyL hbw, ?_⟩
    · unfold atI
      rw [lenls, hk]
      show (ls.map V.ref)[k]? = _
      rw [List.getElem?_map, hb]; rfl
    · refine he _ a1 fun A2 N2 H2 v2 a2 t1 t2 t3 q2 => ?_
      have hbw2 := t3 _ _ hbw
      have hlen : ws.length < sizeLine := by rw [dpAll_len hbq, List.length_map, lim_eq]; exact hz
      refine ⟨b, ws, v2, rfl, rfl, hbw2, hlen, ?_⟩
      have hbl : b ∈ l :: ls := List.mem_cons_of_mem _ (List.mem_of_getElem? hb)
      have hWb : W b := a2.sub i b (by rw [eO]; exact hbl)
      have nd := a2.nd i
      rw [eO] at nd
      obtain ⟨nd1, nd2⟩ := List.nodup_cons.mp nd
      have a0 : AtB K H0 A2 N2 W O H2 σ (Γ.set i none) := a2.weak (by rw [List.length_set]) fun j c e => by
        by_cases z : j = i
        · subst z; rw [List.getElem?_set_self hi] at e; cases e
        · rw [List.getElem?_set_ne (Ne.symm z)] at e; exact e
      have hz2 : (ws ++ [v2]).length ≤ sizeLine := by rw [List.length_append]; exact hlen
      have a3 := a0.write (vs := ws ++ [v2]) hWb hz2 fun j c e hj => by
        have z : j = i := a2.dj j i b hj (by rw [eO]; exact hbl)
        subst z; rw [List.getElem?_set_self hi] at e; cases e
      have q2' : Rows K (md.sel A2 N2 H2) H2 ls (xss.map (·.map toD)) := q1'.mono (Md.sel_mono t1 t2 t3) t3
      have hq3 : DpAll K (md.sel A2 N2 H2) (ws ++ [v2]) ((row ++ [y]).map toD) := by
        rw [List.map_append]; exact dpAll_app (dpAll_mono (Md.sel_mono t1 t2 t3) hbq) (.cons q2 .nil)
      have q3 := rows_set hq3 q2' nd2 hb
      have hlb : l ≠ b := fun z => nd1 (z ▸ List.mem_of_getElem? hb)
      have a4 : AtB K H0 A2 N2 W O (upd H2 b (.lst (ws ++ [v2]))) σ (Γ.set i (some (.p md ((xss.set k (row ++ [y])).map (·.map toD))))) :=
        { a3 with
          len := by rw [List.length_set]; exact a.len
          cs := fun j c e => by
            by_cases z : j = i
            · subst z
              rw [List.getElem?_set_self hi] at e; cases e
              refine ⟨_, ex0, hm, l, ls, rfl, eO, by rw [upd_ne hlb]; exact t3 _ _ el1, ?_⟩
              rw [List.map_set]
              cases md
              · exact absurd rfl hm
              · exact q3
              · exact q3
            · rw [List.getElem?_set_ne (Ne.symm z)] at e
              exact a3.cs j c (by rw [List.getElem?_set_ne (Ne.symm z)]; exact e) }
      exact rest w hw D a4 (fun st' e' A'' N'' W'' O'' H'' σ'' a'' y1 y2 => kn st' e' A'' N'' W'' O'' H'' σ'' a'' ((s1.trans t1).trans y1) ((s2.trans t2).trans y2)) (fun r e => R.mono (s1.trans t1) (s2.trans t2) (kr r e))
  · cases hy
theorem o_revL {α : Type} [ToD α] {xs : List α} (ha : Ev K H0 Γ ta md (toD xs)) : EvO K H0 Γ (tRevL K ta) md (xs.reverse.map toD) := fun A N W O H σ Q a k => o_lstRev ha Q a k
theorem o_revLF {α : Type} [ToD α] [FlatT α] {xs : List α} (ha : Ev K H0 Γ ta .h (toD xs)) : EvO K H0 Γ (tRevL K ta) md (xs.reverse.map toD) := evO_flat (o_revL ha) (flat_all FlatT.fl _)
/-- xs.index(e) -/
def idxO {α : Type} [DecidableEq α] : List α → α → Option Int
  | [], _ => none
  | x :: xs, a => if x = a then some 0 else (idxO xs a).bind fun i => some (i + 1)
theorem idxO_spec {α : Type} [DecidableEq α] {a : α} : ∀ {xs : List α} {i : Int}, idxO xs a = some i → ∃ j : Nat, i = (j : Int) ∧ xs[j]? = some a ∧ ∀ (m : Nat) z, m < j → xs[m]? = some z → z ≠ a
  | [], _, h => by cases h
  | x :: xs, i, h => by
    unfold idxO at h
    split at h
    · rename_i e
      cases h
      exact ⟨0, rfl, by rw [e]; rfl, fun m z hm => by omega⟩
    · rename_i e
      obtain ⟨k, hk, h⟩ := bind_some_iff h
      cases h
      obtain ⟨j, rfl, h1, h2⟩ := idxO_spec hk
      refine ⟨j + 1, by omega, by simpa using h1, fun m z hm hz => ?_⟩
      cases m with
      | zero =>
        have : x = z := by simpa using hz
        exact this ▸ e
      | succ m => exact h2 m z (by omega) (by simpa using hz)
theorem e_index {α : Type} [ToD α] [DecidableEq α] [LawD α] {xs : List α} {a : α} {i : Int} (ha : Ev K H0 Γ ta .h (toD xs)) (hb : Ev K H0 Γ te .h (toD a)) (h : idxO xs a = some i) (hd : ToD.dep α + 1 ≤ 64 := by decide) : Ev K H0 Γ (tBM K "list" (rIndexD K) ta (tCons te tNil)) md (toD i) := fun A N W O H σ Q at' k =>
  ha _ at' fun A1 N1 H1 v a1 s1 s2 s3 q1 => by
    obtain ⟨p, vs, rfl, hS, hA⟩ := dp_list q1
    refine ⟨.inl ⟨rfl, vs, hS⟩, hb _ a1 fun A2 N2 H2 w a2 t1 t2 t3 q2 => ?_⟩
    obtain ⟨j, rfl, h1, h2⟩ := idxO_spec h
    refine ⟨p, w, toD a, xs.map toD, j, toD a, rfl, rfl, (dp_mono t3 q1).old (LawD.lay xs), Dp.old q2 (LawD.lay a), shaped_of (α := List α) hd xs, shaped_of (by omega) a, by rw [List.getElem?_map, h1]; rfl, by rw [LawD.eqv]; simp, fun m z' hm hz => ?_, ?_⟩
    · rw [List.getElem?_map] at hz
      obtain ⟨z, hz', rfl⟩ := Option.map_eq_some_iff.mp hz
      rw [LawD.eqv]
      exact decide_eq_false (h2 m z hm hz')
    · exact k A2 N2 H2 _ a2 (s1.trans t1) (s2.trans t2) (s3.trans t3) (.int _)
end
end Mir

set_option maxHeartbeats 4000000
namespace Mir
open PySem PySem.Spec L2 PyProof.Rows
set_option autoImplicit false
/-! ## set(a list of whole numbers) -/
section
variable {P : Program} {w : World} {A : Around} {E : Value → Shared → Prop} {s : Shared}
/-- the new set's object -/
abbrev newSet (w : World) : Obj := { cls := .type "set", dict := none, data := .set #[] 0 (.fresh 0 0 (!w.params.followText "set-order")) }
/-- what the filling leaves -/
def SetDone (w : World) (s : Shared) (ns : List Int) (s₂ : Shared) : Prop :=
  ∃ h' tk c, s₂ = { s with heap := h', toks := tk } ∧ SetR w h' s.heap.objs.size (fun j => decide (j ∈ ns)) c ∧ ∀ b o, s.heap.get? b = some o → h'.get? b = some o
set_option maxHeartbeats 3200000 in
theorem set_fill {l : Addr} {items : Array Value} (ns : List Int) (hh : A.handled = none) (hl : s.heap.IsList l items) (hit : IntsAre items.toList ns) (hb : ns.length + 1 < scanBound) (hT : Shared.TypeIs { s with heap := s.heap.push (newSet w) } (.ref s.heap.objs.size) "set") :
    codeAny (model P w) A (.call (.builtin "set.__init__") ⟨[.ref s.heap.objs.size, .ref l], []⟩) (wants (fun r s₂ => r = .none ∧ SetDone w s ns s₂) E) { s with heap := s.heap.push (newSet w) } := by
  have hsz : items.size = ns.length := by
    have q := IntsAre.length hit
    rwa [Array.length_toList] at q
  have hlS : l < s.heap.objs.size := by obtain ⟨o, e, _⟩ := hl; exact Heap.lt_size e
  have hl1 : (s.heap.push (newSet w)).IsList l items := hl.push _
  have z1 : (s.heap.push (newSet w)).objs.size = s.heap.objs.size + 1 := Heap.size_push ..
  have hS : (s.heap.push (newSet w)).get? s.heap.objs.size = some (newSet w) := Heap.get?_push_size _ rfl
  refine codeAny_call_builtin F.called_set.init.plain F.entry_set_init (check_set_init_1 hT ?_)
  have hsls := F.sub_list_set
  have hslf := F.sub_list_frozenset
  have hne : (Value.type "list" == Value.type "dict") = false := by decide
  obtain ⟨ol, hol, hcl, nl, hdl⟩ := id hl1
  obtain ⟨ocls, odict, odata, oslots⟩ := ol
  simp only at hcl hdl
  subst hcl; subst hdl
  unfold Builtin.«set.__init__» noKeywords Builtin.Frozenset.updateFrom
  generalize hPI : pyIter = PI
  wp_walk
  subst hPI
  refine wpAny_pyIter_list hl1 ?_
  refine wpAny_bind (wpAny_runValue ?_)
  have nI : l ≠ (s.heap.push (newSet w)).objs.size := by rw [Heap.size_push]; exact Nat.ne_of_lt (Nat.lt_succ_of_lt hlS)
  have nS : s.heap.objs.size ∉ [(s.heap.push (newSet w)).objs.size, l] := by
    rw [Heap.size_push]; simp only [List.mem_cons, List.not_mem_nil, or_false, not_or]; exact ⟨Nat.ne_of_lt (Nat.lt_succ_self _), Nat.ne_of_gt hlS⟩
  have hS2 : ((s.heap.push (newSet w)).push { cls := .type "list_iterator", data := .fields #[.ref l, .int 0 0] }).get? s.heap.objs.size = some (newSet w) := Heap.get?_push_of_some _ hS
  refine set_update_ints ((Walks.list (show A.in1.in1.handled = none by simp [hh]) _ l nI items).toS) s.heap.objs.size nS ns hsz hb ?hv (items.size - 0) 0 _ (by omega) (Nat.zero_le _) ?hst ?h0 ?hR
  case hst => exact ⟨⟨_, Heap.get?_push_size _ rfl, rfl, rfl⟩, hl1.push _⟩
  case h0 => exact ⟨0, Nat.le_refl 0, setR_new_at (w := w) (ns := ns) hS2⟩
  case hv =>
    intro i v hv
    have hi : i < ns.length := by rw [← hsz]; exact (Array.getElem?_eq_some_iff.mp hv).1
    obtain ⟨t, e⟩ := PyProof.Rows.IntsAre.int_at hit i v (by rw [Array.getElem?_toList]; exact hv)
    refine ⟨ns[i], t, List.getElem?_eq_getElem hi, ?_⟩
    rw [e, List.getD_eq_getElem?_getD, List.getElem?_eq_getElem hi] <;> rfl
  case hR =>
    intro s' c hm hc hR
    obtain ⟨h', g2, d', tk', os'⟩ := s'
    obtain rfl : g2 = s.gens := hm.gens
    obtain rfl : d' = s.drawn := hm.drawn
    obtain rfl : os' = s.os := hm.os
    show wpAny _ _ _ _ _ _
    refine wpAny_pure ?_
    show wpAny _ _ (ret Value.none) _ _ _
    refine wpAny_pure ⟨rfl, h', tk', c, rfl, hR, fun b o e => ?_⟩
    have hb0 : b < s.heap.objs.size := Heap.lt_size e
    exact hm.heap b o (by rw [Heap.size_push]; simp only [List.mem_cons, List.not_mem_nil, or_false, not_or]; exact ⟨Nat.ne_of_lt hb0, Nat.ne_of_lt (Nat.lt_succ_of_lt hb0)⟩) (Heap.get?_push_of_some _ (Heap.get?_push_of_some _ e))
set_option maxHeartbeats 3200000 in
theorem call_set_lst {l : Addr} {items : Array Value} (ns : List Int) {Q : Value → Shared → Prop} (hh : A.handled = none) (hl : s.heap.IsList l items) (hit : IntsAre items.toList ns) (hb : ns.length + 1 < scanBound)
    (h : ∀ s₂, SetDone w s ns s₂ → Q (.ref s.heap.objs.size) s₂) : wpAny (model P w) A (call (.type "set") [.ref l]) Q E s := by
  obtain ⟨c, tl, hmro⟩ := F.called_set.mro
  have hmade := F.called_set.made
  have hsub := F.called_set.sub
  refine wpAny_call (codeAny_of_tree ?_)
  show wpAny _ _ (callAny (.type "set") _) _ _ _
  refine wpAny_pure ⟨Code.quiet_builtin _ (by decide +kernel), codeAny_builtin F.entry_type_call ?_⟩
  rw [Around.under_plain (weight_type_call_type "set" [.ref l] []) rfl]
  have h1 := F.called_set.notType
  have h2 := F.called_set.canCreate
  have hct := F.typeCall_set_1 (.ref l)
  repeat (any_goals (first | assumption | wp_step))
  refine codeAny_mono (code_set_led1 (.ref l) (E := E) (Q₁ := fun obj s₁ => obj = .ref s.heap.objs.size ∧ s₁ = { s with heap := s.heap.push (newSet w) }) ⟨rfl, rfl⟩) fun r s₁ hr => ?_
  cases r with
  | error e => exact hr
  | ok fl =>
    cases fl with
    | ret obj =>
      obtain ⟨rfl, rfl⟩ := hr
      have hT : Shared.TypeIs { s with heap := s.heap.push (newSet w) } (.ref s.heap.objs.size) "set" := ⟨_, Heap.get?_push_size _ rfl, rfl⟩
      have hli := F.called_set.init.lookup
      have hbi := F.called_set.init.bind (.ref s.heap.objs.size)
      repeat (any_goals (first | assumption | wp_step))
      refine codeAny_mono (set_fill (E := E) ns (by simpa using hh) hl hit hb hT) fun r₂ s₂ hr₂ => ?_
      cases r₂ with
      | error e => exact hr₂
      | ok fl₂ =>
        cases fl₂ with
        | ret r =>
          obtain ⟨rfl, hd⟩ := hr₂
          repeat (any_goals (first | assumption | wp_step))
          exact h _ hd
        | _ => exact hr₂.elim
    | _ => exact hr.elim
end
/-- the elements, each once -/
def nub : List Int → List Int
  | [] => []
  | x :: xs => if x ∈ xs then nub xs else x :: nub xs
theorem mem_nub {k : Int} : ∀ {xs : List Int}, k ∈ nub xs ↔ k ∈ xs
  | [] => Iff.rfl
  | x :: xs => by
    unfold nub
    split
    · rename_i h
      rw [mem_nub, List.mem_cons]
      constructor
      · exact .inr
      · rintro (rfl | h')
        · exact h
        · exact h'
    · rw [List.mem_cons, List.mem_cons, mem_nub]
theorem nub_nodup : ∀ xs : List Int, (nub xs).Nodup
  | [] => .nil
  | x :: xs => by
    unfold nub
    split
    · exact nub_nodup xs
    · rename_i h
      exact List.nodup_cons.mpr ⟨fun z => h (mem_nub.mp z), nub_nodup xs⟩
theorem nub_perm {xs ys : List Int} (hn : ys.Nodup) (h : ∀ k, k ∈ ys ↔ k ∈ xs) : ys.Perm (nub xs) := (List.perm_ext_iff_of_nodup hn (nub_nodup xs)).mpr fun k => by rw [h, mem_nub]
theorem nub_le : ∀ xs : List Int, (nub xs).length ≤ xs.length
  | [] => Nat.le_refl _
  | x :: xs => by
    have := nub_le xs
    unfold nub
    split
    · rw [List.length_cons]; omega
    · rw [List.length_cons, List.length_cons]; omega
section
variable {X : Cx}
def rSetL (K : PySem.W.Frag) (w : World) : List V → Hp → VK → Prop := fun xs H Q => ∃ (l : Addr) (ns : List Int), xs = [.ref l] ∧ SqL K H l (ns.map V.int) ∧ ns.length + 1 < 4096 ∧
  ∀ p, H p = none → Q (.ref p) (upd H p (SetO w p (fun j => decide (j ∈ ns)) (nub ns).length))
theorem cr_setL (hc : X.calm = true) : CallR X (.type "set") (rSetL X.K X.w) := by
  intro pins s σ H xs us Q I r h
  obtain ⟨l, ns, rfl, hs, hb, q⟩ := h
  obtain ⟨its, rv, pl, hz⟩ := I.list hs
  rw [Vals.ref1 r]
  refine call_set_lst ns (I.ok.hd hc) pl.isList (by simpa using rv.ints) hb fun s₂ hd => ?_
  obtain ⟨h', tk, c, rfl, hR, hk⟩ := hd
  have e : c = (nub ns).length := by
    obtain ⟨o, es, ep, t, ho, hx, hd, hg, hn, hm, hz, hf, hc', _⟩ := hR
    rw [← hc', ← (nub_perm (xs := ns) hn fun k => by rw [← hm k]; simp).length_eq, List.length_map, Array.length_toList]
  subst e
  exact ⟨.ref _, _, I.laid (t' := tk) hk (Nat.le_refl _) (setO_new hR), rfl, q _ (I.hok.fresh (Nat.le_refl _))⟩
def rLenSet (w : World) : List V → Hp → VK → Prop := fun xs H Q => ∃ (a : Addr) (S : Int → Bool) (n : Nat), xs = [.ref a] ∧ H a = some (SetO w a S n) ∧ Q (.int (n : Int)) H
theorem cr_lenSet : CallR X (.builtin "len") (rLenSet X.w) := by
  intro pins s σ H xs us Q I r h
  obtain ⟨a, S, n, rfl, ha, q⟩ := h
  rw [Vals.ref1 r]
  obtain ⟨o, es, ep, t, ho, hx, hd, _, _, _, hz, hf, hn, _⟩ := setO_get I ha
  exact call_len_set ho hx hd hf (by unfold scanBound at hz; omega) ⟨.int n, H, I.tok _, ⟨_, by rw [hn]⟩, q⟩
end
section
variable {K : PySem.W.Frag} {w : World} {H0 : Base} {Γ : Ctx} {ta te : TE} {md : Md} {d : PyData} {ds : List PyData}
theorem HLen.upd_ext {H : Hp} {a : Addr} {φ : Heap → Prop} (h : HLen H) : HLen (upd H a (.ext φ)) := fun b ys r => by
  by_cases e : b = a
  · subst e
    rcases r with r | ⟨o, r⟩
    · rw [upd_same] at r; cases r
    · rw [upd_same] at r; cases r
  · refine h b ys ?_
    rcases r with r | ⟨o, r⟩
    · rw [upd_ne e] at r; exact .inl r
    · rw [upd_ne e] at r; exact .inr ⟨o, r⟩
def srtSetO (ns : List Int) : Option (List Int) := if ns.length + 1 < 4096 ∧ (nub ns).length < 64 then some (srt (nub ns)) else none
def lenSetO (ns : List Int) : Option Int := if ns.length + 1 < 4096 then some ((nub ns).length : Int) else none
theorem o_sortedSet {ns ms : List Int} (ha : Ev K H0 Γ te .h (ToD.toD ns)) (h : srtSetO ns = some ms) : EvO K H0 Γ (tCB (rSortedSet w) (tCons (tCB (rSetL K w) (tCons te tNil)) tNil)) md (ms.map ToD.toD) := fun A N W O H σ Q a k => by
  unfold srtSetO at h
  split at h
  · rename_i hb
    cases h
    refine ha _ a fun A1 N1 H1 v a1 s1 s2 s3 q1 => ?_
    obtain ⟨l, rfl, hS⟩ := dp_ints q1
    refine ⟨l, ns, rfl, hS, hb.1, fun p hp => ⟨p, _, _, rfl, upd_same, hb.2, fun ms b hs hm hl hb' => ?_⟩⟩
    have e : ms = srt (nub ns) := sorted_unique ((nub_perm (hs.imp fun h => Int.ne_of_lt h) fun k => by rw [hm]; simp).trans (srt_perm _).symm) (hs.imp fun h => Int.le_of_lt h) (srt_sorted _)
    subst e
    have a2 := a1.allocO (p := p) (o := SetO w p (fun j => decide (j ∈ ns)) (nub ns).length) hp (a1.hl.upd_ext)
    have hz : ((srt (nub ns)).map V.int).length ≤ sizeLine := by rw [List.length_map, srt_len, sizeLine_eq]; omega
    have hl2 := a2.hl.upd_lst (a := b) hz
    have s5 : Same (upd H1 p (SetO w p (fun j => decide (j ∈ ns)) (nub ns).length)) _ := same_upd (o := .lst ((srt (nub ns)).map V.int)) hb'
    exact k A1 N1 _ b _ (a2.allocO hb' hl2) s1 s2 ((s3.trans (same_upd hp)).trans s5) (s3.free ((same_upd hp).free hb')) (a1.ah.free ((same_upd hp).free hb')) (a2.noW hb') upd_same ints_to
  · cases h
theorem e_lenSet {ns : List Int} {n : Int} (ha : Ev K H0 Γ te .h (ToD.toD ns)) (h : lenSetO ns = some n) : Ev K H0 Γ (tCB (rLenSet w) (tCons (tCB (rSetL K w) (tCons te tNil)) tNil)) md (ToD.toD n) := fun A N W O H σ Q a k => by
  unfold lenSetO at h
  split at h
  · rename_i hb
    cases h
    refine ha _ a fun A1 N1 H1 v a1 s1 s2 s3 q1 => ?_
    obtain ⟨l, rfl, hS⟩ := dp_ints q1
    refine ⟨l, ns, rfl, hS, hb, fun p hp => ⟨p, _, _, rfl, upd_same, ?_⟩⟩
    have a2 := a1.allocO (p := p) (o := SetO w p (fun j => decide (j ∈ ns)) (nub ns).length) hp (a1.hl.upd_ext)
    exact k A1 N1 _ _ a2 s1 s2 (s3.trans (same_upd hp)) (.int _)
  · cases h
end
end Mir

namespace Mir
open PySem PySem.Spec L2
open ToD (toD)
set_option autoImplicit false
/-! ## 14. rows of one's own: changed, kept, walked -/
section
variable {K : PySem.W.Frag} {H0 : Base} {ρ τ ω : Type} {R : Ex ρ} {Γ Γ2 : Ctx} {t u tb : TS} {Γ' : τ → Ctx} {I : ω → Fl ρ τ} {ta te ti : TE} {ts : TA} {tt : TT} {wi : TI} {g : TG} {md m1 m2 : Md} {d d1 d2 d3 : PyData} {ds : List PyData} {dss : List (List PyData)} {vs : List Nat}
/-- rows of one's own as an own list of things that never change -/
theorem evP_evO (e : EvP K H0 Γ te md dss) (hm : md ≠ .h) : EvO K H0 Γ te md (dss.map PyData.list) := fun A N W O H σ Q a k =>
  e Q a fun A' N' H' l ls a' sA sN sH h1 hnd h4 q => by
    obtain ⟨n1, n2⟩ := List.nodup_cons.mp hnd
    obtain ⟨A2, N2, a2, f1, f2, f3, f4⟩ := AtB.freezeR hm ls _ A' N' a' q (fun k hk => (h1 k (List.mem_cons_of_mem _ hk)).2) n2
    obtain ⟨g1, g2, g3⟩ := h1 l List.mem_cons_self
    exact k A2 N2 H' l _ a2 (sA.trans f1) (sN.trans f2) sH g1 (f4 l n1 g2) g3 h4 f3
theorem evP_evOT {α : Type} [ToD α] {xss : List (List α)} (e : EvP K H0 Γ te md (xss.map (·.map toD))) (hm : md ≠ .h) : EvO K H0 Γ te md (xss.map toD) := by
  have q := evP_evO e hm
  rw [List.map_map] at q
  exact q
/-- one row is changed -/
theorem AtB.mutRow {i k : Nat} {ds' : List PyData} {A N : Hp} {W : Addr → Prop} {O : Nat → List Addr} {H : Hp} {σ : St} (a : AtB K H0 A N W O H σ Γ) (h : Γ[i]? = some (some (.p md dss))) (hk : dss[k]? = some ds) :
    ∃ (l : Addr) (ls : List Addr) (b : Addr) (ws : List V), σ[i]? = some (some (.ref l)) ∧ H l = some (.lst (ls.map V.ref)) ∧ ls[k]? = some b ∧ H b = some (.lst ws) ∧ DpAll K (md.sel A N H) ws ds ∧
      ∀ ws', ws'.length ≤ sizeLine → DpAll K (md.sel A N H) ws' ds' → AtB K H0 A N W O (upd H b (.lst ws')) σ (Γ.set i (some (.p md (dss.set k ds')))) := by
  obtain ⟨x0, ex0, hm, l, ls, rfl, eO, el, q⟩ := a.cs i _ h
  have hi := lt_of_get h
  obtain ⟨b, ws, hb, hbw, hbq⟩ := rows_get q hk
  have hbl : b ∈ l :: ls := List.mem_cons_of_mem _ (List.mem_of_getElem? hb)
  have hWb : W b := a.sub i b (by rw [eO]; exact hbl)
  have nd := a.nd i
  rw [eO] at nd
  obtain ⟨nd1, nd2⟩ := List.nodup_cons.mp nd
  refine ⟨l, ls, b, ws, ex0, el, hb, hbw, hbq, fun ws' hz q' => ?_⟩
  have a0 : AtB K H0 A N W O H σ (Γ.set i none) := a.weak (by rw [List.length_set]) fun j c e => by
    by_cases z : j = i
    · subst z; rw [List.getElem?_set_self hi] at e; cases e
    · rw [List.getElem?_set_ne (Ne.symm z)] at e; exact e
  have a3 := a0.write (vs := ws') hWb hz fun j c e hj => by
    have z : j = i := a.dj j i b hj (by rw [eO]; exact hbl)
    subst z; rw [List.getElem?_set_self hi] at e; cases e
  have hlb : l ≠ b := fun z => nd1 (z ▸ List.mem_of_getElem? hb)
  have q3 := rows_set (H := H) (i := k) q' q nd2 hb
  exact { a3 with
    len := by rw [List.length_set]; exact a.len
    cs := fun j c e => by
      by_cases z : j = i
      · subst z
        rw [List.getElem?_set_self hi] at e; cases e
        refine ⟨_, ex0, hm, l, ls, rfl, eO, by rw [upd_ne hlb]; exact el, ?_⟩
        cases md
        · exact absurd rfl hm
        · exact q3
        · exact q3
      · rw [List.getElem?_set_ne (Ne.symm z)] at e
        exact a3.cs j c (by rw [List.getElem?_set_ne (Ne.symm z)]; exact e) }
/-- a slot of which nothing is known is stored -/
theorem AtB.setn {j : Nat} {x : V} {A N : Hp} {W : Addr → Prop} {O : Nat → List Addr} {H : Hp} {σ : St} (a : AtB K H0 A N W O H σ Γ) (h : Γ[j]? = some none) : AtB K H0 A N W O H (σ.set j (some x)) Γ :=
  { a with
    len := by rw [List.length_set]; exact a.len
    cs := fun i c e => by
      have z : i ≠ j := fun z => by subst z; rw [h] at e; cases e
      obtain ⟨y, e1, q⟩ := a.cs i c e
      exact ⟨y, by rw [List.getElem?_set_ne (Ne.symm z)]; exact e1, q⟩ }
/-- what a change does to a row that stands at slot j -/
def RowMut (K : PySem.W.Frag) (H0 : Base) {α : Type} [ToD α] (md : Md) (Γp : List (List α) → Ctx) (j : Nat) (tb : TS) (f : List α → Option (List α)) : Prop :=
  ∀ (yss : List (List α)) (row row' : List α) (D : Ends) ⦃A N : Hp⦄ ⦃W : Addr → Prop⦄ ⦃O : Nat → List Addr⦄ ⦃H : Hp⦄ ⦃σ : St⦄ (b : Addr) (ws : List V), AtB K H0 A N W O H σ (Γp yss) → σ[j]? = some (some (.ref b)) → H b = some (.lst ws) → DpAll K (md.sel A N H) ws (row.map toD) → f row = some row' →
    (∀ A' N' H' ws', AtB K H0 A' N' W O H' σ (Γp yss) → Same A A' → Same N N' → Same H H' → ws'.length ≤ sizeLine → DpAll K (md.sel A' N' H') ws' (row'.map toD) → D.nx σ (upd H' b (.lst ws'))) → tb D σ H
theorem rm_append {α : Type} [ToD α] {Γp : List (List α) → Ctx} {j : Nat} {y : α} (he : ∀ yss, Ev K H0 (Γp yss) te md (toD y)) : RowMut K H0 md Γp j (tSeq (tDrop (tBM K "list" rAppend (tVar j) (tCons te tNil))) tNext) (fun row => appO row y) := fun yss row row' D A N W O H σ b ws a ej hb q hf k => by
  have hf : (if row.length < lim then some (row ++ [y]) else none) = some row' := hf
  split at hf
  · rename_i hz
    cases hf
    refine ⟨_, ej, tyL hb, he yss _ a fun A1 N1 H1 v a1 s1 s2 s3 q1 => ?_⟩
    have hz2 : ws.length < sizeLine := by rw [dpAll_len q, List.length_map, lim_eq]; exact hz
    refine ⟨b, ws, v, rfl, rfl, s3 _ _ hb, hz2, k A1 N1 H1 _ a1 s1 s2 s3 (by rw [List.length_append]; exact hz2) ?_⟩
    rw [List.map_append]
    exact dpAll_app (dpAll_mono (Md.sel_mono s1 s2 s3) q) (.cons q1 .nil)
  · cases hf
theorem rm_clear {α : Type} [ToD α] {Γp : List (List α) → Ctx} {j : Nat} : RowMut K H0 md Γp j (tSeq (tDrop (tBM0 K "list" rClear (tVar j))) tNext) (fun _ => some []) := fun yss row row' D A N W O H σ b ws a ej hb q hf k => by
  cases hf
  exact ⟨_, ej, tyL hb, b, ws, rfl, rfl, hb, k A N H [] a (Same.refl _) (Same.refl _) (Same.refl _) (Nat.zero_le _) .nil⟩
theorem mapO_len {α β : Type} {f : α → Option β} : ∀ {xs : List α} {ys : List β}, mapO f xs = some ys → ys.length = xs.length
  | [], _, h => by cases h; rfl
  | x :: xs, ys, h => by
    simp only [mapO] at h
    obtain ⟨y, _, h⟩ := bind_some_iff h
    obtain ⟨zs, e, h⟩ := bind_some_iff h
    cases h
    rw [List.length_cons, List.length_cons, mapO_len e]
theorem mapO_at {α β : Type} {f : α → Option β} : ∀ {xs : List α} {ys : List β} {i : Nat} {x : α}, mapO f xs = some ys → xs[i]? = some x → ∃ y, f x = some y ∧ ys[i]? = some y
  | [], _, i, x, _, h => by simp at h
  | a :: xs, ys, i, x, h, hx => by
    simp only [mapO] at h
    obtain ⟨y, e1, h⟩ := bind_some_iff h
    obtain ⟨zs, e, h⟩ := bind_some_iff h
    cases h
    cases i with
    | zero =>
      have : a = x := by simpa using hx
      subst this
      exact ⟨y, e1, rfl⟩
    | succ i =>
      obtain ⟨z, z1, z2⟩ := mapO_at (i := i) e (by simpa using hx)
      exact ⟨z, z1, by simpa using z2⟩
/-- for row in xs: a change of the row, xs rows of one's own -/
theorem b_forRows {α : Type} [ToD α] {xss yss : List (List α)} {Γp : List (List α) → Ctx} {i j : Nat} {f : List α → Option (List α)} {m : Option ω} (hf : mapO f xss = some yss) (h0 : Wk Γ (Γp xss)) (hi : ∀ zss, (Γp zss)[i]? = some (some (.p md (zss.map (·.map toD))))) (hset : ∀ zss wss : List (List α), (Γp zss).set i (some (.p md (wss.map (·.map toD)))) = Γp wss) (hj : ∀ zss, (Γp zss)[j]? = some none)
    (hb : RowMut K H0 md Γp j tb f) (rest : Blk K H0 R (Γp yss) u Γ' I m) : Blk K H0 R Γ (tSeq (tFor (iList K (tVar i)) (gName j) tb) u) Γ' I m := fun w hw D A N W O H σ a0 kn kr => by
  have a := a0.wk h0
  obtain ⟨x0, ex0, hm, l, ls, rfl, eO, el, q⟩ := a.cs i _ (hi xss)
  have hls : ls.length = xss.length := by rw [rows_len q, List.length_map]
  have hlen : (ls.map V.ref).length = xss.length := by rw [List.length_map]; exact hls
  have hy := mapO_len hf
  refine ⟨_, ex0, l, rfl, ⟨_, .inl (.inl el)⟩, ?_⟩
  refine for_it (walk_list (K := K) (a := l) (xs := ls.map V.ref)) (fun n σ' H' => ∃ A' N', AtB K H0 A' N' W O H' σ' (Γp (yss.take n ++ xss.drop n)) ∧ Same A A' ∧ Same N N' ∧ σ'[i]? = some (some (.ref l)) ∧ H' l = some (.lst (ls.map V.ref)))
    ⟨A, N, by rw [List.take_zero, List.drop_zero, List.nil_append]; exact a, Same.refl _, Same.refl _, ex0, el⟩ (fun n σ' H' _ hP => ?_) (fun n x σ' H' H'' hn hP hYx => ?_) (fun σ' H' hP => ?_)
  · obtain ⟨A', N', a', s1, s2, e1, e2⟩ := hP
    exact .inl (.inl e2)
  · obtain ⟨A', N', a', s1, s2, e1, e2⟩ := hP
    obtain ⟨rfl, ex⟩ := hYx
    rw [hlen] at hn
    have hx : xss[n]? = some xss[n] := List.getElem?_eq_getElem hn
    obtain ⟨row', hr, hr'⟩ := mapO_at hf hx
    have hk : (yss.take n ++ xss.drop n)[n]? = some xss[n] := by
      rw [List.getElem?_append_right (by rw [List.length_take]; omega), List.length_take, List.getElem?_drop, show n + (n - min n yss.length) = n by omega, hx]
    have hk2 : ((yss.take n ++ xss.drop n).map (·.map toD))[n]? = some (xss[n].map toD) := by rw [List.getElem?_map, hk]; rfl
    have hij : i ≠ j := fun z => by have := hi xss; rw [z, hj] at this; cases this
    show tb _ (σ'.set j (some x)) H''
    have a1 := a'.setn (x := x) (hj _)
    obtain ⟨l', ls', b, ws, e3, e4, e5, e6, e7, nx⟩ := a1.mutRow (ds' := row'.map toD) (hi _) hk2
    have ei : (σ'.set j (some x))[i]? = some (some (.ref l)) := by rw [List.getElem?_set_ne (Ne.symm hij)]; exact e1
    have el' : l' = l := by rw [ei] at e3; cases e3; rfl
    subst el'
    have els : ls'.map V.ref = ls.map V.ref := by rw [e2] at e4; exact (HO.lst.inj (Option.some.inj e4)).symm
    have exb : x = .ref b := by
      have z : (ls'.map V.ref)[n]? = some (.ref b) := by rw [List.getElem?_map, e5]; rfl
      rw [els, ex] at z
      cases z; rfl
    subst exb
    refine hb _ _ _ _ b ws a1 (by rw [List.getElem?_set_self (by rw [← a'.len]; exact lt_of_get (hj _))]) e6 e7 hr (fun A2 N2 H2 ws' a2 t1 t2 t3 hz q' => ?_)
    obtain ⟨l2, ls2, b2, ws2, f3, f4, f5, f6, f7, nx2⟩ := a2.mutRow (ds' := row'.map toD) (hi _) hk2
    have el2 : l2 = l' := by rw [ei] at f3; cases f3; rfl
    subst el2
    have els2 : ls2.map V.ref = ls'.map V.ref := by rw [t3 _ _ e4] at f4; exact (HO.lst.inj (Option.some.inj f4)).symm
    have eb : b2 = b := by
      have z : (ls2.map V.ref)[n]? = some (.ref b2) := by rw [List.getElem?_map, f5]; rfl
      rw [els2, List.getElem?_map, e5] at z
      cases z; rfl
    subst eb
    have a3 := nx2 ws' hz q'
    have eset : ((yss.take n ++ xss.drop n).map (·.map toD)).set n (row'.map toD) = (yss.take (n + 1) ++ xss.drop (n + 1)).map (·.map toD) := by
      rw [show (row'.map toD) = (fun z : List α => z.map toD) row' from rfl, ← List.map_set]
      congr 1
      rw [List.set_append_right _ _ (by rw [List.length_take]; omega), List.length_take, show n - min n yss.length = 0 by omega]
      rw [List.drop_eq_getElem_cons hn, List.set_cons_zero, List.take_add_one, hr']
      simp
    rw [eset, hset] at a3
    refine ⟨A2, N2, a3, s1.trans t1, s2.trans t2, ei, ?_⟩
    obtain ⟨x9, ex9, _, l9, ls9, rfl, _, el9, _⟩ := a3.cs i _ (hi _)
    have : l9 = l2 := by rw [ei] at ex9; cases ex9; rfl
    subst this
    have hb9 : l9 ≠ b2 := by
      have nd := a2.nd i
      obtain ⟨x8, ex8, _, l8, ls8, rfl, eO8, el8, _⟩ := a2.cs i _ (hi _)
      have : l8 = l9 := by rw [ei] at ex8; cases ex8; rfl
      subst this
      rw [eO8] at nd
      intro z
      have : ls8.map V.ref = ls2.map V.ref := by rw [f4] at el8; exact (HO.lst.inj (Option.some.inj el8)).symm
      have z2 : (ls8.map V.ref)[n]? = some (.ref b2) := by rw [this, List.getElem?_map, f5]; rfl
      rw [List.getElem?_map] at z2
      obtain ⟨c, hc, hc'⟩ := Option.map_eq_some_iff.mp z2
      cases hc'
      exact (List.nodup_cons.mp nd).1 (z ▸ List.mem_of_getElem? hc)
    rw [upd_ne hb9, f4, els2, els]
  · obtain ⟨A', N', a', s1, s2, e1, e2⟩ := hP
    rw [hlen, List.drop_length, List.append_nil, List.take_of_length_le (by omega)] at a'
    exact rest w hw D a' (fun st' e' A'' N'' W'' O'' H'' σ'' a'' y1 y2 => kn st' e' A'' N'' W'' O'' H'' σ'' a'' (s1.trans y1) (s2.trans y2)) (fun r e => R.mono s1 s2 (kr r e))
/-- xs.clear(), xs rows of one's own -/
theorem b_clearP {α : Type} [ToD α] {i : Nat} {k : List (List α) → Option ω} {Γ2 : List (List α) → Ctx} (h : Γ[i]? = some (some (.p md dss))) (hΓ : ∀ ys : List (List α), Γ.set i (some (.o md (ys.map toD))) = Γ2 ys) (rest : ∀ ys, ys = [] → Blk K H0 R (Γ2 ys) u Γ' I (k ys)) : Blk K H0 R Γ (tSeq (tDrop (tBM0 K "list" rClear (tVar i))) u) Γ' I (lt [] k) := by
  rw [lt_def]
  refine fun w hw D A N W O H σ a kn kr => ?_
  obtain ⟨x0, ex0, hm, l, ls, rfl, eO, el, q⟩ := a.cs i _ h
  have hi := lt_of_get h
  have hlO : l ∈ O i := by rw [eO]; exact List.mem_cons_self
  refine ⟨_, ex0, tyL el, l, _, rfl, rfl, el, ?_⟩
  have a0 : AtB K H0 A N W O H σ (Γ.set i none) := a.weak (by rw [List.length_set]) fun j c e => by
    by_cases z : j = i
    · subst z; rw [List.getElem?_set_self hi] at e; cases e
    · rw [List.getElem?_set_ne (Ne.symm z)] at e; exact e
  have a3 := a0.write (vs := []) (a.sub i l hlO) (Nat.zero_le _) fun j c e hj => by
    have z : j = i := a.dj j i l hj hlO
    subst z; rw [List.getElem?_set_self hi] at e; cases e
  have a4 : AtB K H0 A N W (fun j => if j = i then [l] else O j) (upd H l (.lst [])) σ (Γ.set i (some (.o md []))) :=
    { a3 with
      sub := fun j k hk => by
        by_cases z : j = i
        · rw [if_pos z] at hk; rw [List.mem_singleton.mp hk]; exact a.sub i l hlO
        · rw [if_neg z] at hk; exact a3.sub j k hk
      dj := fun j k b h1 h2 => by
        by_cases z : j = i
        · by_cases z2 : k = i
          · rw [z, z2]
          · rw [if_pos z] at h1; rw [if_neg z2] at h2
            rw [List.mem_singleton.mp h1] at h2
            exact absurd (a.dj k i l h2 hlO) z2
        · by_cases z2 : k = i
          · rw [if_neg z] at h1; rw [if_pos z2] at h2
            rw [List.mem_singleton.mp h2] at h1
            exact absurd (a.dj j i l h1 hlO) z
          · rw [if_neg z] at h1; rw [if_neg z2] at h2; exact a.dj j k b h1 h2
      nd := fun j => by
        by_cases z : j = i
        · rw [if_pos z]; exact List.nodup_cons.mpr ⟨by simp, .nil⟩
        · rw [if_neg z]; exact a.nd j
      len := by rw [List.length_set]; exact a.len
      cs := fun j c e => by
        by_cases z : j = i
        · subst z
          rw [List.getElem?_set_self hi] at e; cases e
          exact ⟨_, ex0, hm, l, [], rfl, if_pos rfl, upd_same, .nil⟩
        · rw [List.getElem?_set_ne (Ne.symm z)] at e
          rw [if_neg z]
          exact a3.cs j c (by rw [List.getElem?_set_ne (Ne.symm z)]; exact e) }
  have e2 := hΓ []
  rw [List.map_nil] at e2
  rw [e2] at a4
  exact rest [] rfl w hw D a4 kn kr
/-! ### what is one's own, read through as if it never changed -/
open Classical in
theorem AtB.thaw {A N : Hp} {W : Addr → Prop} {O : Nat → List Addr} {H : Hp} {σ : St} {A' N' : Hp} {W' : Addr → Prop} {O' : Nat → List Addr} {H' : Hp} {A0 : Hp} (L : List Addr) (a : AtB K H0 A N W O H σ Γ) (a' : AtB K H0 A' N' W' O' H' σ Γ2) (hL : ∀ b ∈ L, W b) (h1 : Same A A') (h2 : Same N N') (h3 : Same H H') (hw : ∀ b, W b → b ∉ L → W' b) :
    AtB K H0 (fun b => if b ∈ L then none else A' b) (fun b => if b ∈ L then none else N' b) W O H' σ Γ ∧ Same A (fun b => if b ∈ L then none else A' b) ∧ Same N (fun b => if b ∈ L then none else N' b) := by
  have nA : ∀ b o, A b = some o → b ∉ L := fun b o e hb => by rw [(a.own b (hL b hb)).1] at e; cases e
  have sA : Same A (fun b => if b ∈ L then none else A' b) := fun b o e => by
    show (if b ∈ L then none else A' b) = _
    rw [if_neg (nA b o e)]; exact h1 b o e
  have sN : Same N (fun b => if b ∈ L then none else N' b) := fun b o e => by
    show (if b ∈ L then none else N' b) = _
    rw [if_neg (nA b o (a.na b o e))]; exact h2 b o e
  refine ⟨a.ext sA sN h3 (fun b o e => ?_) (fun b o e => ?_) (fun b o e => ?_) (fun b w => ?_) a'.hl, sA, sN⟩
  · have e' : (if b ∈ L then none else N' b) = some o := e
    show (if b ∈ L then none else A' b) = some o
    split at e'
    · cases e'
    · rename_i hb; rw [if_neg hb]; exact a'.na b o e'
  · have e' : (if b ∈ L then none else A' b) = some o := e
    split at e'
    · cases e'
    · exact a'.ah b o e'
  · have e' : (if b ∈ L then none else N' b) = some o := e
    split at e'
    · cases e'
    · exact a'.fr b o e'
  · show (if b ∈ L then none else A' b) = none
    split
    · rfl
    · rename_i hb; exact (a'.own b (hw b w hb)).1
/-- Γ2 is Γ with one's own things as things that never change -/
def Frz (K : PySem.W.Frag) (H0 : Base) (Γ Γ2 : Ctx) : Prop := ∀ ⦃A N : Hp⦄ ⦃W : Addr → Prop⦄ ⦃O : Nat → List Addr⦄ ⦃H : Hp⦄ ⦃σ : St⦄, AtB K H0 A N W O H σ Γ →
  ∃ (L : List Addr) (A2 N2 : Hp) (W2 : Addr → Prop) (O2 : Nat → List Addr), AtB K H0 A2 N2 W2 O2 H σ Γ2 ∧ Same A A2 ∧ Same N N2 ∧ (∀ b ∈ L, W b) ∧ (∀ b, W b → b ∉ L → W2 b)
theorem frz_o {i : Nat} (h : Γ[i]? = some (some (.o md ds))) (hΓ : Γ.set i (some (.v md (.list ds))) = Γ2) : Frz K H0 Γ Γ2 := fun A N W O H σ a => by
  subst hΓ
  obtain ⟨x, ex, hm, l, vs, rfl, eO, el, q⟩ := a.cs i _ h
  have hl : l ∈ O i := by rw [eO]; exact List.mem_cons_self
  have hw' := a.sub i l hl
  have hA : A l = none := (a.own l hw').1
  have a0 : AtB K H0 A N (fun b => W b ∧ b ≠ l) (fun j => if j = i then [] else O j) H σ (Γ.set i none) :=
    { a with
      own := fun b w => a.own b w.1
      sub := fun j k hk => by
        by_cases z : j = i
        · rw [if_pos z] at hk; cases hk
        · rw [if_neg z] at hk
          exact ⟨a.sub j k hk, fun e => z (a.dj j i k hk (e ▸ hl))⟩
      dj := fun j k b h1 h2 => by
        by_cases z : j = i
        · rw [if_pos z] at h1; cases h1
        · by_cases z2 : k = i
          · rw [if_pos z2] at h2; cases h2
          · rw [if_neg z] at h1; rw [if_neg z2] at h2; exact a.dj j k b h1 h2
      nd := fun j => by
        by_cases z : j = i
        · rw [if_pos z]; exact .nil
        · rw [if_neg z]; exact a.nd j
      len := by rw [List.length_set]; exact a.len
      cs := fun j c e => by
        by_cases z : j = i
        · subst z; rw [List.getElem?_set_self (lt_of_get h)] at e; cases e
        · rw [List.getElem?_set_ne (Ne.symm z)] at e
          rw [if_neg z]
          exact a.cs j c e }
  have a1 := a0.freeze hA (fun z => z.2 rfl) el
  have e1 : Same A (upd A l (.lst vs)) := same_upd hA
  have e2 : Same N (upd N l (.lst vs)) := same_upd (a.na.free hA)
  have hi := lt_of_get h
  have q' : Dp K (md.sel (upd A l (.lst vs)) (upd N l (.lst vs)) H) (.ref l) (.list ds) := by
    cases md
    · exact absurd rfl hm
    · exact .lst (.inl (.inl upd_same)) (dpAll_mono e1 q)
    · exact .lst (.inl (.inl upd_same)) (dpAll_mono e2 q)
  refine ⟨[l], _, _, _, _, { a1 with
      len := by rw [List.length_set]; exact a.len
      cs := fun j c e => by
        by_cases z : j = i
        · subst z
          rw [List.getElem?_set_self hi] at e; cases e
          exact ⟨_, ex, hm, q'⟩
        · rw [List.getElem?_set_ne (Ne.symm z)] at e
          exact a1.cs j c (by rw [List.getElem?_set_ne (Ne.symm z)]; exact e) }, e1, e2, fun b hb => by rw [List.mem_singleton.mp hb]; exact hw', fun b w hb => ⟨w, fun z => hb (by rw [z]; exact List.mem_singleton.mpr rfl)⟩⟩
theorem frz_p {i : Nat} (h : Γ[i]? = some (some (.p md dss))) (hΓ : Γ.set i (some (.v md (.list (dss.map PyData.list)))) = Γ2) : Frz K H0 Γ Γ2 := fun A N W O H σ a => by
  subst hΓ
  obtain ⟨x, ex, hm, l, ls, rfl, eO, el, q⟩ := a.cs i _ h
  have hlO : ∀ b, b ∈ O i ↔ b ∈ l :: ls := fun b => by rw [eO]
  have hnd : (l :: ls).Nodup := eO ▸ a.nd i
  obtain ⟨n1, n2⟩ := List.nodup_cons.mp hnd
  have hA : ∀ b ∈ l :: ls, A b = none := fun b hb => (a.own b (a.sub i b ((hlO b).mpr hb))).1
  have a0 : AtB K H0 A N (fun b => W b ∧ b ∉ l :: ls) (fun j => if j = i then [] else O j) H σ (Γ.set i none) :=
    { a with
      own := fun b w => a.own b w.1
      sub := fun j k hk => by
        by_cases z : j = i
        · rw [if_pos z] at hk; cases hk
        · rw [if_neg z] at hk
          exact ⟨a.sub j k hk, fun e => z (a.dj j i k hk ((hlO k).mpr e))⟩
      dj := fun j k b h1 h2 => by
        by_cases z : j = i
        · rw [if_pos z] at h1; cases h1
        · by_cases z2 : k = i
          · rw [if_pos z2] at h2; cases h2
          · rw [if_neg z] at h1; rw [if_neg z2] at h2; exact a.dj j k b h1 h2
      nd := fun j => by
        by_cases z : j = i
        · rw [if_pos z]; exact .nil
        · rw [if_neg z]; exact a.nd j
      len := by rw [List.length_set]; exact a.len
      cs := fun j c e => by
        by_cases z : j = i
        · subst z; rw [List.getElem?_set_self (lt_of_get h)] at e; cases e
        · rw [List.getElem?_set_ne (Ne.symm z)] at e
          rw [if_neg z]
          exact a.cs j c e }
  obtain ⟨A2, N2, a2, f1, f2, f3, f4⟩ := AtB.freezeR hm ls _ A N a0 q (fun k hk => ⟨hA k (List.mem_cons_of_mem _ hk), fun z => z.2 (List.mem_cons_of_mem _ hk)⟩) n2
  have hl2 := f4 l n1 (hA l List.mem_cons_self)
  have a1 := a2.freeze hl2 (fun z => z.2 List.mem_cons_self) el
  have e1 : Same A2 (upd A2 l (.lst (ls.map V.ref))) := same_upd hl2
  have e2 : Same N2 (upd N2 l (.lst (ls.map V.ref))) := same_upd (a2.na.free hl2)
  have hi := lt_of_get h
  have q' : Dp K (md.sel (upd A2 l (.lst (ls.map V.ref))) (upd N2 l (.lst (ls.map V.ref))) H) (.ref l) (.list (dss.map PyData.list)) := by
    cases md
    · exact absurd rfl hm
    · exact .lst (.inl (.inl upd_same)) (dpAll_mono e1 f3)
    · exact .lst (.inl (.inl upd_same)) (dpAll_mono e2 f3)
  exact ⟨l :: ls, _, _, _, _, { a1 with
      len := by rw [List.length_set]; exact a.len
      cs := fun j c e => by
        by_cases z : j = i
        · subst z
          rw [List.getElem?_set_self hi] at e; cases e
          exact ⟨_, ex, hm, q'⟩
        · rw [List.getElem?_set_ne (Ne.symm z)] at e
          exact a1.cs j c (by rw [List.getElem?_set_ne (Ne.symm z)]; exact e) }, f1.trans e1, f2.trans e2, fun b hb => a.sub i b ((hlO b).mpr hb), fun b w hb => ⟨w, hb⟩⟩
theorem frz_pT {α : Type} [ToD α] {i : Nat} {xss : List (List α)} (h : Γ[i]? = some (some (.p md (xss.map (·.map toD))))) (hΓ : Γ.set i (some (.v md (toD xss))) = Γ2) : Frz K H0 Γ Γ2 := frz_p h ((list_toD2 xss).symm ▸ hΓ)
theorem o_unf (hf : Frz K H0 Γ Γ2) (e : EvO K H0 Γ2 te m1 ds) (h : ds.all flatD = true) : EvO K H0 Γ te md ds := fun A N W O H σ Q a k => by
  obtain ⟨L, A2, N2, W2, O2, a2, f1, f2, f3, f4⟩ := hf a
  refine e Q a2 fun A' N' H' l vs a' sA sN sH h1 h2 h3 h4 q => ?_
  obtain ⟨b1, b2, b3⟩ := AtB.thaw (A0 := A) L a a' f3 (f1.trans sA) (f2.trans sN) sH f4
  exact k _ _ H' l vs b1 b2 b3 sH h1 (by show (if l ∈ L then none else A' l) = none; split; rfl; exact h2) (a.noW h1) h4 (flatAll h q)
theorem rows_flat {S S' H : Hp} : ∀ {ls : List Addr} {dss : List (List PyData)}, (dss.all fun ds => ds.all flatD) = true → Rows K S H ls dss → Rows K S' H ls dss
  | [], [], _, _ => trivial
  | _ :: _, _ :: _, h, ⟨⟨vs, e, q⟩, r⟩ => by
    rw [List.all_cons, Bool.and_eq_true] at h
    exact ⟨⟨vs, e, flatAll h.1 q⟩, rows_flat h.2 r⟩
  | [], _ :: _, _, h => h.elim
  | _ :: _, [], _, h => h.elim
theorem p_unf (hf : Frz K H0 Γ Γ2) (e : EvP K H0 Γ2 te m1 dss) (h : (dss.all fun ds => ds.all flatD) = true) : EvP K H0 Γ te md dss := fun A N W O H σ Q a k => by
  obtain ⟨L, A2, N2, W2, O2, a2, f1, f2, f3, f4⟩ := hf a
  refine e Q a2 fun A' N' H' l ls a' sA sN sH h1 hnd h4 q => ?_
  obtain ⟨b1, b2, b3⟩ := AtB.thaw (A0 := A) L a a' f3 (f1.trans sA) (f2.trans sN) sH f4
  exact k _ _ H' l ls b1 b2 b3 sH (fun b hb => ⟨(h1 b hb).1, by show (if b ∈ L then none else A' b) = none; split; rfl; exact (h1 b hb).2.1, a.noW (h1 b hb).1⟩) hnd h4 (rows_flat h q)
theorem o_unfT {α : Type} [ToD α] [FlatT α] {xs : List α} (hf : Frz K H0 Γ Γ2) (e : EvO K H0 Γ2 te m1 (xs.map toD)) : EvO K H0 Γ te md (xs.map toD) := o_unf hf e (flat_all FlatT.fl _)
theorem p_unfT {α : Type} [ToD α] [FlatT α] {xss : List (List α)} (hf : Frz K H0 Γ Γ2) (e : EvP K H0 Γ2 te m1 (xss.map (·.map toD))) : EvP K H0 Γ te md (xss.map (·.map toD)) := p_unf hf e (by
  rw [List.all_map, List.all_eq_true]
  intro x _
  exact flat_all FlatT.fl _)
theorem p_flat {α : Type} [ToD α] [FlatT α] {xss : List (List α)} (e : EvP K H0 Γ te m1 (xss.map (·.map toD))) : EvP K H0 Γ te md (xss.map (·.map toD)) := fun A N W O H σ Q a k =>
  e Q a fun A' N' H' l ls a' sA sN sH h1 hnd h4 q => k A' N' H' l ls a' sA sN sH h1 hnd h4 (rows_flat (by
    rw [List.all_map, List.all_eq_true]
    intro x _
    exact flat_all FlatT.fl _) q)
end
end Mir

namespace Mir
open PySem PySem.Spec L2
open ToD (toD)
set_option autoImplicit false
/-! ## 15. tuples of any length, lists of unlike things -/
class ToDs (α : Type) where
  toDs : α → List PyData
  deps : Nat
open ToDs (toDs)
instance insNil : ToDs Unit := ⟨fun _ => [], 0⟩
instance insCons {α β : Type} [ToD α] [ToDs β] : ToDs (α × β) := ⟨fun p => toD p.1 :: toDs p.2, max (ToD.dep α) (ToDs.deps β)⟩
class LawDs (α : Type) [ToDs α] [DecidableEq α] : Prop where
  eqvs : ∀ x y : α, PyData.eqvAll (toDs x) (toDs y) = decide (x = y)
  lays : ∀ x : α, PyData.canLayAll0 (toDs x) = true
  depths : ∀ x : α, PyData.depthAll (toDs x) ≤ ToDs.deps α
instance lasNil : LawDs Unit := ⟨fun _ _ => by simp [toDs, PyData.eqvAll], fun _ => by simp [toDs, PyData.canLayAll0], fun _ => by simp [toDs, PyData.depthAll]⟩
instance lasCons {α β : Type} [ToD α] [DecidableEq α] [LawD α] [ToDs β] [DecidableEq β] [LawDs β] : LawDs (α × β) where
  eqvs p q := by
    obtain ⟨a, b⟩ := p; obtain ⟨c, d⟩ := q
    simp only [toDs, PyData.eqvAll, LawD.eqv, LawDs.eqvs]
    by_cases h : a = c <;> by_cases h' : b = d <;> simp [h, h']
  lays p := by simp [toDs, PyData.canLayAll0, LawD.lay, LawDs.lays]
  depths p := by
    have h1 := LawD.depth p.1
    have h2 := LawDs.depths p.2
    simp only [toDs, PyData.depthAll, ToDs.deps]; omega
structure Tup (α : Type) where
  v : α
  deriving DecidableEq
structure Hl (α : Type) where
  v : α
  deriving DecidableEq
instance insTup {α : Type} [ToDs α] : ToD (Tup α) := ⟨fun p => .tuple (toDs p.v), ToDs.deps α + 1⟩
instance insHl {α : Type} [ToDs α] : ToD (Hl α) := ⟨fun p => .list (toDs p.v), ToDs.deps α + 1⟩
theorem toD_tup {α : Type} [ToDs α] (p : Tup α) : toD p = .tuple (toDs p.v) := rfl
theorem toD_hl {α : Type} [ToDs α] (p : Hl α) : toD p = .list (toDs p.v) := rfl
instance lawTup {α : Type} [ToDs α] [DecidableEq α] [LawDs α] : LawD (Tup α) where
  eqv p q := by
    obtain ⟨a⟩ := p; obtain ⟨b⟩ := q
    simp only [toD_tup, PyData.eqv, LawDs.eqvs]
    by_cases h : a = b <;> simp [h]
  lay p := by simp [toD_tup, PyData.canLay0, LawDs.lays]
  depth p := by
    have h1 := LawDs.depths p.v
    simp only [toD_tup, PyData.depth, ToD.dep]; omega
instance lawHl {α : Type} [ToDs α] [DecidableEq α] [LawDs α] : LawD (Hl α) where
  eqv p q := by
    obtain ⟨a⟩ := p; obtain ⟨b⟩ := q
    simp only [toD_hl, PyData.eqv, LawDs.eqvs]
    by_cases h : a = b <;> simp [h]
  lay p := by simp [toD_hl, PyData.canLay0, LawDs.lays]
  depth p := by
    have h1 := LawDs.depths p.v
    simp only [toD_hl, PyData.depth, ToD.dep]; omega
instance nnTup {α : Type} [ToDs α] : NotNone (Tup α) := ⟨fun _ => by simp [toD], fun _ => by simp [toD, PyData.eqv], fun _ => by simp [toD, PyData.eqv]⟩
instance nnHl {α : Type} [ToDs α] : NotNone (Hl α) := ⟨fun _ => by simp [toD], fun _ => by simp [toD, PyData.eqv], fun _ => by simp [toD, PyData.eqv]⟩
section
variable {K : PySem.W.Frag} {H0 : Base} {ρ τ ω : Type} {R : Ex ρ} {Γ Γ2 : Ctx} {t u tb : TS} {Γ' : τ → Ctx} {I : ω → Fl ρ τ} {ta te ti tb : TE} {ts : TA} {tt : TT} {wi : TI} {g : TG} {md m1 m2 : Md} {d d1 d2 d3 : PyData} {ds : List PyData} {dss : List (List PyData)} {vs : List Nat}
theorem e_tupN {α : Type} [ToDs α] {p : α} (hz : (toDs p).length ≤ sizeLine) (hs : EvA K H0 Γ ts md (toDs p)) : Ev K H0 Γ (tTup ts) md (toD (Tup.mk p)) := e_tup hs hz
theorem e_tupI {α β : Type} [ToDs α] [ToD β] {p : Tup α} {b : β} {i : Int} (ha : Ev K H0 Γ te md (toD p)) (hb : Ev K H0 Γ ti .h (toD i)) (h : atI (toDs p.v) i = some (toD b)) : Ev K H0 Γ (tOp (rIxT K) te ti) md (toD b) := e_idxT ha hb h
theorem e_idxL {i : Int} (ha : Ev K H0 Γ ta md (.list ds)) (hb : Ev K H0 Γ ti .h (toD i)) (h : atI ds i = some d) : Ev K H0 Γ (tOp (rIxL K) ta ti) md d :=
  ev_op2 ha hb fun A N W O H σ x y Q at' q1 q2 k => by
    obtain ⟨p, vs, rfl, hS, hA⟩ := dp_list q1
    obtain ⟨v, hv, hd⟩ := dpAll_atI hA h
    exact ⟨p, vs, i, v, rfl, dp_int q2, at'.sel_h.seq hS, hv, k A N H v at' (Same.refl _) (Same.refl _) (Same.refl _) hd⟩
theorem e_hl {α : Type} [ToDs α] {p : α} (hz : (toDs p).length ≤ sizeLine) (hs : EvA K H0 Γ ts md (toDs p)) : Ev K H0 Γ (tLst ts) md (toD (Hl.mk p)) := evO_ev (o_lst hs hz)
theorem e_hlI {α β : Type} [ToDs α] [ToD β] {p : Hl α} {b : β} {i : Int} (ha : Ev K H0 Γ te md (toD p)) (hb : Ev K H0 Γ ti .h (toD i)) (h : atI (toDs p.v) i = some (toD b)) : Ev K H0 Γ (tOp (rIxL K) te ti) md (toD b) := e_idxL ha hb h
theorem e_lenTup {α : Type} [ToDs α] {p : Tup α} {n : Int} (ha : Ev K H0 Γ ta .h (toD p)) (h : ((toDs p.v).length : Int) = n) : Ev K H0 Γ (tCB (rLenS K) (tCons ta tNil)) md (toD n) := h ▸ e_lenT (ds := toDs p.v) ha
def isIn {α : Type} [DecidableEq α] (x : α) (xs : List α) : Bool := decide (x ∈ xs)
theorem isIn_iff {α : Type} [DecidableEq α] {x : α} {xs : List α} : isIn x xs = true ↔ x ∈ xs := by unfold isIn; exact decide_eq_true_iff
theorem isIn_no {α : Type} [DecidableEq α] {x : α} {xs : List α} : isIn x xs = false ↔ x ∉ xs := by unfold isIn; exact decide_eq_false_iff_not
theorem e_inB {α : Type} [ToD α] [DecidableEq α] [LawD α] {x : α} {xs : List α} (ha : Ev K H0 Γ ta .h (toD x)) (hb : Ev K H0 Γ te .h (toD xs)) (h : ToD.dep α + 1 ≤ 64 := by decide) : Ev K H0 Γ (tOp (rInD K) ta te) md (toD (isIn x xs)) := e_in ha hb h
theorem e_notinB {α : Type} [ToD α] [DecidableEq α] [LawD α] {x : α} {xs : List α} (ha : Ev K H0 Γ ta .h (toD x)) (hb : Ev K H0 Γ te .h (toD xs)) (h : ToD.dep α + 1 ≤ 64 := by decide) : Ev K H0 Γ (tOp (rNotInD K) ta te) md (toD (!isIn x xs)) := e_notin ha hb h
theorem e_chainI {g1 g2 : Int → Int → Bool} {x y z : Int} {tc : TE} (ha : Ev K H0 Γ ta .h (toD x)) (hb : Ev K H0 Γ te .h (toD y)) (hc : Ev K H0 Γ tc .h (toD z)) : Ev K H0 Γ (tChain (rI0 fun i j => .bl (g1 i j)) (rI0 fun i j => .bl (g2 i j)) ta te tc) md (toD (g1 x y && g2 y z)) := fun A N W O H σ Q a k =>
  ha _ a fun A1 N1 H1 v a1 s1 s2 s3 q1 => hb _ a1 fun A2 N2 H2 u a2 t1 t2 t3 q2 => by
    rw [dp_int q1, dp_int q2]
    refine ⟨x, y, rfl, rfl, g1 x y, rfl, ?_⟩
    cases e : g1 x y with
    | false =>
      rw [if_neg (by decide)]
      exact k A2 N2 H2 _ a2 (s1.trans t1) (s2.trans t2) (s3.trans t3) (by rw [e]; exact .bl _)
    | true =>
      rw [if_pos rfl]
      refine hc _ a2 fun A3 N3 H3 w a3 u1 u2 u3 q3 => ?_
      rw [dp_int q3]
      exact ⟨y, z, rfl, rfl, k A3 N3 H3 _ a3 ((s1.trans t1).trans u1) ((s2.trans t2).trans u2) ((s3.trans t3).trans u3) (by rw [e, Bool.true_and]; exact .bl _)⟩
theorem b_retPF {α : Type} [ToD α] {r : List (List α)} {Γ' : τ → Ctx} (he : EvP K H0 Γ te .n (r.map (·.map toD))) : Blk K H0 (exR (RetP K H0)) Γ (tSeq (tRet te) u) Γ' idF (retF r) := fun w hw D A N W O H σ a kn kr => by
  cases hw
  exact he _ a fun A1 N1 H1 l ls a1 s1 s2 s3 h1 hnd h4 q => kr r rfl _ H1 ⟨a1.h0h, a1.hl, N1, l, ls, rfl, a1.fr, a1.na.trans a1.ah, fun k hk => ⟨a1.h0.free (h1 k hk).2.1, a1.na.free (h1 k hk).2.1⟩, hnd, h4, q⟩
theorem b_retPvF {α : Type} [ToD α] {i : Nat} {r : List (List α)} {Γ' : τ → Ctx} (h : Γ[i]? = some (some (.p .n (r.map (·.map toD)))) := by rfl) : Blk K H0 (exR (RetP K H0)) Γ (tSeq (tRet (tVar i)) u) Γ' idF (retF r) := fun w hw D A N W O H σ a kn kr => by
  cases hw
  obtain ⟨v, e, q⟩ := a.retPv h
  exact ⟨v, e, kr r rfl v H q⟩
theorem b_retPSvF {α : Type} [ToD α] {i : Nat} {r : List (List α)} {Γ' : τ → Ctx} (h : Γ[i]? = some (some (.p .n (r.map (·.map toD)))) := by rfl) : Blk K H0 (exR (RetS K H0)) Γ (tSeq (tRet (tVar i)) u) Γ' idF (retF r) := fun w hw D A N W O H σ a kn kr => by
  cases hw
  obtain ⟨v, e, q⟩ := a.retPv h
  exact ⟨v, e, kr r rfl v H q.s⟩
end
end Mir

namespace Mir
open PySem PySem.Spec L2
open ToD (toD)
set_option autoImplicit false
/-! ## 16. what is handed back may be a part of what stood -/
def FnB (K : PySem.W.Frag) (pre : List PyData → PyData → Prop) : Sp := fun vs H Q _ => ∃ ds r, DpAll K H vs ds ∧ pre ds r ∧
  ∀ v H', Same H H' → HLen H' → Dp K H' v r → Q v H'
def RetB (K : PySem.W.Frag) (H0 : Base) {α : Type} [ToD α] (r : α) (v : V) (H : Hp) : Prop := Same H0 H ∧ HLen H ∧ Dp K H v (toD r)
section
variable {K : PySem.W.Frag} {H0 : Base} {ρ τ ω : Type} {R : Ex ρ} {Γ Γ2 : Ctx} {t u tb : TS} {Γ' : τ → Ctx} {I : ω → Fl ρ τ} {ta te ti : TE} {ts : TA} {tt : TT} {wi : TI} {g : TG} {md m1 m2 : Md} {d d1 d2 d3 : PyData} {ds : List PyData} {dss : List (List PyData)} {vs : List Nat}
theorem b_retB {α : Type} [ToD α] {r : α} {Γ' : τ → Ctx} (he : Ev K H0 Γ te .h (toD r)) : Blk K H0 (exR (RetB K H0)) Γ (tSeq (tRet te) u) Γ' Fl.ret (some r) := fun w hw D A N W O H σ a kn kr => by
  cases hw
  exact he _ a fun A1 N1 H1 v a1 s1 s2 s3 q => kr r rfl v H1 ⟨a1.h0h, a1.hl, q⟩
theorem b_retBF {α : Type} [ToD α] {r : α} {Γ' : τ → Ctx} (he : Ev K H0 Γ te .h (toD r)) : Blk K H0 (exR (RetB K H0)) Γ (tSeq (tRet te) u) Γ' idF (retF r) := fun w hw D A N W O H σ a kn kr => by
  cases hw
  exact he _ a fun A1 N1 H1 v a1 s1 s2 s3 q => kr r rfl v H1 ⟨a1.h0h, a1.hl, q⟩
theorem e_callB {pre : List PyData → PyData → Prop} {E : XK} {r : PyData} (hs : EvA K H0 Γ ts .h ds) (hp : pre ds r) : Ev K H0 Γ (tCall (FnB K pre) [] E ts) .h r := fun A N W O H σ Q a k =>
  hs _ a fun A1 N1 H1 vs a1 s1 s2 s3 q1 => by
    refine ⟨ds, r, by rw [List.append_nil]; exact q1, hp, fun v H' sH hl qv => ?_⟩
    obtain ⟨a2, u1, u2, u3, u4⟩ := a1.called (M := fun _ => none) sH (fun b o e => by cases e) (fun b o e => by cases e) hl
    exact k _ _ H' v a2 (s1.trans u1) (s2.trans u2) (s3.trans sH) qv
/-! what is handed back may be made of what was handed in -/
theorem AtB.calledK {A N : Hp} {W : Addr → Prop} {O : Nat → List Addr} {H : Hp} {σ : St} {M H' : Hp} (a : AtB K H0 A N W O H σ Γ) (hm : md ≠ .h) (sH : Same H H') (fr : ∀ b o, M b = some o → H b = none ∨ md.sel A N H b = some o ∨ FT o) (sM : Same M H') (hl : HLen H') :
    ∃ A2 N2, AtB K H0 A2 N2 W O H' σ Γ ∧ Same A A2 ∧ Same N N2 ∧ Same M (md.sel A2 N2 H') ∧ ∀ b, A b = none → M b = none → A2 b = none := by
  have sA : Same A H' := a.ah.trans sH
  have sMB : ∀ {B : Hp}, Same B H' → Same M (uni B M) := fun {B} sB b o e => by
    unfold uni
    cases q : B b with
    | none => exact e
    | some u =>
      have h1 := sB _ _ q
      rw [sM _ _ e] at h1
      exact h1.symm
  have sMA := sMB sA
  have sAH : Same (uni A M) H' := uni_into sA sM
  have own : ∀ b, W b → uni A M b = none := fun b w => by
    refine uni_none (a.own b w).1 ?_
    cases q : M b with
    | none => rfl
    | some o =>
      rcases fr b o q with z | z | z
      · exact absurd z (a.own b w).2.ne
      · have := a.sel_s hm b o z
        rw [(a.own b w).1] at this; cases this
      · exact ((a.own b w).2.no sH z (sM _ _ q)).elim
  cases md with
  | h => exact absurd rfl hm
  | s =>
    refine ⟨uni A M, N, a.ext uni_l (Same.refl _) sH (a.na.trans uni_l) sAH a.fr own hl, uni_l, Same.refl _, sMA, fun b h1 h2 => uni_none h1 h2⟩
  | n =>
    have sMN : Same M (uni N M) := sMB (a.na.trans sA)
    have sNA : Same (uni N M) (uni A M) := uni_into (a.na.trans uni_l) sMA
    refine ⟨uni A M, uni N M, a.ext uni_l uni_l sH sNA sAH (fun b o e => ?_) own hl, uni_l, uni_l, sMN, fun b h1 h2 => uni_none h1 h2⟩
    unfold uni at e
    cases q : N b with
    | some u => rw [q] at e; cases e; exact a.fr b _ q
    | none =>
      rw [q] at e
      rcases fr b o e with z | z | z
      · exact .inl (a.h0h.free z)
      · have z' : N b = some o := z
        rw [q] at z'; cases z'
      · exact .inr (.inr z)
def FnSk (K : PySem.W.Frag) (pre : List PyData → PyData → Prop) : Sp := fun vs H Q _ => ∃ (S : Hp) (ds : List PyData) (r : PyData), Same S H ∧ DpAll K S vs ds ∧ pre ds r ∧
  ∀ v M H', Same H H' → (∀ b o, M b = some o → H b = none ∨ S b = some o ∨ FT o) → Same M H' → HLen H' → Dp K M v r → Q v H'
def FnOk (K : PySem.W.Frag) (pre : List PyData → List PyData → Prop) : Sp := fun vs H Q _ => ∃ (S : Hp) (ds rs : List PyData), Same S H ∧ DpAll K S vs ds ∧ pre ds rs ∧
  ∀ l ws M H', Same H H' → (∀ b o, M b = some o → H b = none ∨ S b = some o ∨ FT o) → Same M H' → HLen H' → H l = none → M l = none → H' l = some (.lst ws) → DpAll K M ws rs → Q (.ref l) H'
theorem e_callK {pre : List PyData → PyData → Prop} {E : XK} {r : PyData} (hm : md ≠ .h) (hs : EvA K H0 Γ ts md ds) (hp : pre ds r) : Ev K H0 Γ (tCall (FnSk K pre) [] E ts) md r := fun A N W O H σ Q a k =>
  hs _ a fun A1 N1 H1 vs a1 s1 s2 s3 q1 => by
    refine ⟨md.sel A1 N1 H1, ds, r, a1.sel_h, by rw [List.append_nil]; exact q1, hp, fun v M H' sH fr sM hl qv => ?_⟩
    obtain ⟨A2, N2, a2, u1, u2, u3, _⟩ := a1.calledK hm sH fr sM hl
    exact k _ _ H' v a2 (s1.trans u1) (s2.trans u2) (s3.trans sH) (dp_mono u3 qv)
theorem e_callKh {pre : List PyData → PyData → Prop} {E : XK} {r : PyData} (hs : EvA K H0 Γ ts .h ds) (hp : pre ds r) : Ev K H0 Γ (tCall (FnSk K pre) [] E ts) .h r := fun A N W O H σ Q a k =>
  hs _ a fun A1 N1 H1 vs a1 s1 s2 s3 q1 => by
    refine ⟨H1, ds, r, Same.refl _, by rw [List.append_nil]; exact q1, hp, fun v M H' sH fr sM hl qv => ?_⟩
    obtain ⟨a2, u1, u2, u3, u4⟩ := a1.called (M := fun _ => none) sH (fun b o e => by cases e) (fun b o e => by cases e) hl
    exact k _ _ H' v a2 (s1.trans u1) (s2.trans u2) (s3.trans sH) (dp_mono sM qv)
theorem o_callK {pre : List PyData → List PyData → Prop} {E : XK} {rs : List PyData} (hm : md ≠ .h) (hs : EvA K H0 Γ ts md ds) (hp : pre ds rs) : EvO K H0 Γ (tCall (FnOk K pre) [] E ts) md rs := fun A N W O H σ Q a k =>
  hs _ a fun A1 N1 H1 vs a1 s1 s2 s3 q1 => by
    refine ⟨md.sel A1 N1 H1, ds, rs, a1.sel_h, by rw [List.append_nil]; exact q1, hp, fun l ws M H' sH fr sM hl hn hN hw qv => ?_⟩
    obtain ⟨A2, N2, a2, u1, u2, u3, u4⟩ := a1.calledK hm sH fr sM hl
    exact k _ _ H' l ws a2 (s1.trans u1) (s2.trans u2) (s3.trans sH) (s3.free hn) (u4 l (a1.ah.free hn) hN) (a1.noW hn) hw (dpAll_mono u3 qv)
/-- nothing of one's own is known -/
def isV : Option Cell → Bool
  | none => true
  | some (.v _ _) => true
  | _ => false
theorem AtB.hold {A N : Hp} {W : Addr → Prop} {O : Nat → List Addr} {H : Hp} {σ : St} (a : AtB K H0 A N W O H σ Γ) (h : Γ.all isV = true) : AtB K H0 H N (fun _ => False) (fun _ => []) H σ Γ where
  na := a.na.trans a.ah
  ah := Same.refl _
  h0 := a.h0.trans a.ah
  fr := a.fr
  own := fun b w => w.elim
  sub := fun i l hl => by cases hl
  dj := fun i j l hl _ => by cases hl
  nd := fun i => .nil
  hl := a.hl
  len := a.len
  cs := fun i c e => by
    obtain ⟨x, ex, q⟩ := a.cs i c e
    refine ⟨x, ex, ?_⟩
    have hv := List.all_eq_true.mp h _ (List.mem_of_getElem? e)
    cases c with
    | v md d =>
      obtain ⟨h1, q⟩ := q
      refine ⟨h1, ?_⟩
      cases md
      · exact absurd rfl h1
      · exact dp_mono a.ah q
      · exact q
    | o _ _ => cases hv
    | p _ _ => cases hv
    | d _ _ _ => cases hv
    | q _ _ _ => cases hv
    | f _ _ => cases hv
    | r _ => cases hv
    | k _ _ _ => cases hv
    | ko _ _ _ => cases hv
    | t _ => cases hv
theorem b_hold {i : Nat} {m : Option ω} (he : Ev K H0 Γ te .h d) (h : Γ.all isV = true) (hi : i < Γ.length) (hΓ : Γ.set i (some (.v .s d)) = Γ2) (rest : Blk K H0 R Γ2 u Γ' I m) : Blk K H0 R Γ (tSeq (tAsg te (gName i)) u) Γ' I m := fun w hw D A N W O H σ a kn kr =>
  he _ a fun A1 N1 H1 v a1 s1 s2 s3 q => by
    subst hΓ
    have a2 := (a1.hold h).setv (i := i) (x := v) (md := .s) hi (by intro z; cases z) q
    exact rest w hw D a2 (fun st' e' A'' N'' W'' O'' H'' σ'' a'' y1 y2 => kn st' e' A'' N'' W'' O'' H'' σ'' a'' ((s1.trans a1.ah).trans y1) (s2.trans y2)) (fun r e => R.mono (s1.trans a1.ah) s2 (kr r e))
theorem b_holdL {α : Type} [ToD α] {i : Nat} {e : α} {k : α → Option ω} {Γ2 : α → Ctx} (he : Ev K H0 Γ te .h (toD e)) (h : Γ.all isV = true) (hi : i < Γ.length) (hΓ : ∀ x : α, Γ.set i (some (.v .s (toD x))) = Γ2 x) (rest : ∀ x, x = e → Blk K H0 R (Γ2 x) u Γ' I (k x)) : Blk K H0 R Γ (tSeq (tAsg te (gName i)) u) Γ' I (lt e k) := by
  rw [lt_def]; exact b_hold he h hi (hΓ e) (rest e rfl)
end
section
variable {K : PySem.W.Frag} {τ : Type} {Γ : Ctx} {t : TS} {Γ' : τ → Ctx} {H : Hp} {vs : List V} {ds : List PyData} {N : List Str} {Q : VK}
theorem body_B {α : Type} [ToD α] {m : Option α} {r : α} (hl : HLen H) (hd : DpAll K H vs ds) (hm : m = some r) (hn : ds.length ≤ N.length) (hΓ : entryC ds N.length = Γ) (hb : Blk K (bs H) (exR (RetB K (bs H))) Γ t Γ' Fl.ret m)
    (k : ∀ v H', Same H H' → HLen H' → Dp K H' v (toD r) → Q v H') : t { nx := fun _ H' => Q .non H', rt := Q } (L2.start N vs) H := by
  subst hΓ
  exact hb r hm _ (entry hl hd hn) (fun st e => by cases e) fun r' e v H' q => by
    cases e
    obtain ⟨h0, h1, h2⟩ := q
    exact k v H' h0 h1 h2
/-- where a def begins that keeps what it was handed -/
abbrev bk (H S : Hp) : Base := ⟨H, S⟩
def entryN (ds : List PyData) (n : Nat) : Ctx := ds.map (fun d => some (.v .n d)) ++ List.replicate (n - ds.length) none
theorem entryK {S : Hp} (hl : HLen H) (sS : Same S H) (hd : DpAll K S vs ds) (hn : ds.length ≤ N.length) : AtB K (bk H S) H S (fun _ => False) (fun _ => []) H (L2.start N vs) (entryN ds N.length) where
  na := sS
  ah := Same.refl _
  h0 := Same.refl _
  fr := fun b o e => .inr (.inl e)
  own := fun b w => w.elim
  sub := fun i l h => by cases h
  dj := fun i j l h => by cases h
  nd := fun i => .nil
  hl := hl
  len := by
    have e := dpAll_len hd
    unfold entryN L2.start
    simp only [List.length_append, List.length_map, List.length_replicate, e]
  cs := fun i c e => by
    have el := dpAll_len hd
    unfold entryN at e
    by_cases hi : i < ds.length
    · rw [List.getElem?_append_left (by rw [List.length_map]; exact hi), List.getElem?_map, List.getElem?_eq_getElem hi] at e
      have e' : (Cell.v Md.n ds[i]) = c := Option.some.inj (Option.some.inj e)
      subst e'
      obtain ⟨v, hv, q⟩ := dpAll_get' hd (List.getElem?_eq_getElem hi)
      refine ⟨v, ?_, (fun z => by cases z), q⟩
      unfold L2.start
      rw [List.getElem?_append_left (by rw [List.length_map, el]; exact hi), List.getElem?_map, hv]; rfl
    · rw [List.getElem?_append_right (by rw [List.length_map]; omega), List.getElem?_replicate] at e
      split at e <;> cases e
theorem body_Sk {S : Hp} {α : Type} [ToD α] {m : Option α} {r : α} (hl : HLen H) (sS : Same S H) (hd : DpAll K S vs ds) (hm : m = some r) (hn : ds.length ≤ N.length) (hΓ : entryN ds N.length = Γ) (hb : Blk K (bk H S) (exR (RetS K (bk H S))) Γ t Γ' Fl.ret m)
    (k : ∀ v M H', Same H H' → (∀ b o, M b = some o → H b = none ∨ S b = some o ∨ FT o) → Same M H' → HLen H' → Dp K M v (toD r) → Q v H') : t { nx := fun _ H' => Q .non H', rt := Q } (L2.start N vs) H := by
  subst hΓ
  exact hb r hm _ (entryK hl sS hd hn) (fun st e => by cases e) fun r' e v H' q => by
    cases e
    obtain ⟨h0, h1, M, h2, h3, h4⟩ := q
    exact k v M H' h0 h2 h3 h1 h4
theorem body_Ok {S : Hp} {α : Type} [ToD α] {m : Option (List α)} {r : List α} (hl : HLen H) (sS : Same S H) (hd : DpAll K S vs ds) (hm : m = some r) (hn : ds.length ≤ N.length) (hΓ : entryN ds N.length = Γ) (hb : Blk K (bk H S) (exR (RetO K (bk H S))) Γ t Γ' Fl.ret m)
    (k : ∀ l ws M H', Same H H' → (∀ b o, M b = some o → H b = none ∨ S b = some o ∨ FT o) → Same M H' → HLen H' → H l = none → M l = none → H' l = some (.lst ws) → DpAll K M ws (r.map toD) → Q (.ref l) H') : t { nx := fun _ H' => Q .non H', rt := Q } (L2.start N vs) H := by
  subst hΓ
  exact hb r hm _ (entryK hl sS hd hn) (fun st e => by cases e) fun r' e v H' q => by
    cases e
    obtain ⟨h0, h1, M, l, ws, rfl, h2, h3, h4, h5, h6, h7⟩ := q
    exact k l ws M H' h0 h2 h3 h1 h4 h5 h6 h7
end
end Mir

namespace Mir
open PySem PySem.Spec L2
open ToD (toD)
set_option autoImplicit false
/-! ## 17. some of one's own rows -/
section
variable {K : PySem.W.Frag} {H0 : Base} {Γ Γ2 : Ctx} {te : TE} {tt : TT} {md m1 m2 : Md}
theorem rows_at {S H : Hp} : ∀ {ls : List Addr} {dss : List (List PyData)} {i : Nat} {l : Addr}, Rows K S H ls dss → ls[i]? = some l → ∃ ds vs, dss[i]? = some ds ∧ H l = some (.lst vs) ∧ DpAll K S vs ds
  | [], [], _, _, _, h => by simp at h
  | m :: ls, d :: dss, 0, l, ⟨⟨vs, e, q⟩, r⟩, h => by
    have h' : m = l := Option.some.inj h
    subst h'
    exact ⟨d, vs, rfl, e, q⟩
  | m :: ls, d :: dss, i + 1, l, ⟨_, r⟩, h => by
    obtain ⟨ds, vs, h1, h2⟩ := rows_at (i := i) r (by simpa using h)
    exact ⟨ds, vs, by simpa using h1, h2⟩
  | [], _ :: _, _, _, h, _ => h.elim
  | _ :: _, [], _, _, h, _ => h.elim
/-- [x for x in E if p(x)], E rows of one's own: some of these rows -/
theorem p_filter {α : Type} [ToD α] {xss yss : List (List α)} {p : List α → Option Bool} {j : Nat} (he : EvP K H0 Γ te md (xss.map (·.map toD))) (hm : md ≠ .h) (ht : ∀ x b, p x = some b → EvT K H0 (Γ.set j (some (.v md (toD x)))) tt b) (h : cmpO p (fun x => some x) xss = some yss) (hv : Γ[j]? = some none := by rfl) :
    EvP K H0 Γ (tLc (iList K te) (gName j) tt (tVar j) [j]) md (yss.map (·.map toD)) := fun A N W O H σ Q a k =>
  he _ a fun A1 N1 H1 l ls a1 s1 s2 s3 f1 hnd hl q => by
    obtain ⟨n1, n2⟩ := List.nodup_cons.mp hnd
    have hne : ∀ b ∈ ls, Lv H1 b := fun b hb => by
      obtain ⟨i, hi⟩ := List.mem_iff_getElem?.mp hb
      obtain ⟨_, vs, _, e, _⟩ := rows_at q hi
      exact .lst e
    -- the rows, reserved
    have aR : AtB K H0 A1 N1 (fun b => W b ∨ b ∈ ls) O H1 σ Γ := { a1 with
      own := fun b w => by
        rcases w with w | w
        · exact a1.own b w
        · exact ⟨(f1 b (List.mem_cons_of_mem _ w)).2.1, hne b w⟩
      sub := fun i m hm => .inl (a1.sub i m hm) }
    obtain ⟨A2, N2, a2, g1, g2, g3, g4⟩ := AtB.freezeR hm ls _ A1 N1 a1 q (fun b hb => (f1 b (List.mem_cons_of_mem _ hb)).2) n2
    have hls : ls.length = xss.length := by rw [rows_len q, List.length_map]
    have hj := lt_of_get hv
    refine ⟨l, rfl, ⟨_, .inl (.inl hl)⟩, ?_⟩
    intro D hD
    have hDA : A2 D = none := a2.ah.free hD
    have hDW : ¬ W D := a2.noW hD
    have hDO : ∀ i, D ∉ O i := fun i z => hDW (a2.sub i D z)
    have hDl : D ≠ l := fun z => by rw [z, hl] at hD; cases hD
    have hDls : D ∉ ls := fun z => (hne D z).ne hD
    have wk := walk_list (K := K) (a := l) (xs := ls.map V.ref)
    have n0 : (0 : Nat) ≤ sizeLine := Nat.zero_le _
    have vj : ∀ i ∈ [j], Γ[i]? = some none := fun i hi => by rw [List.mem_singleton.mp hi]; exact hv
    have a3 : AtB K H0 A2 N2 (fun b => W b ∨ b = D) O (upd H1 D (.lst [])) (wipe σ [j]) Γ := by
      have a0 := ((a2.allocO (o := .lst []) hD (a2.hl.upd_lst n0)).reserve hDA (.lst upd_same)).wiped (vs := [j]) rfl (fun _ _ e => e) vj
      exact { a0 with sub := fun i l h => .inl (a2.sub i l h) }
    have hlen : (ls.map V.ref).length = xss.length := by rw [List.length_map]; exact hls
    refine lc_it wk (fun i H => ∃ A N bs done rest, AtB K H0 A N (fun b => W b ∨ b = D) O H (wipe σ [j]) Γ ∧ Same A2 A ∧ Same N2 N ∧ Same H1 H ∧ H D = some (.lst ((bs : List Addr).map V.ref)) ∧ bs.Sublist (ls.take i) ∧ Rows K (md.sel A1 N1 H1) H1 bs ((done : List (List α)).map (·.map toD)) ∧ cmpO p (fun x => some x) (xss.drop i) = some rest ∧ done ++ rest = yss)
      ⟨A2, N2, [], [], yss, a3, Same.refl _, Same.refl _, same_upd hD, upd_same, List.nil_sublist _, trivial, by rw [List.drop_zero]; exact h, rfl⟩ (fun i H _ hP => ?_) (fun i x H H' hi' hP hYx => ?_) (fun H hP => ?_)
    · obtain ⟨A, N, bs, done, rest, a4, u1, u2, u3, _⟩ := hP
      exact .inl (.inl (u3 _ _ hl))
    · obtain ⟨A, N, bs, done, rest, a4, u1, u2, u3, hDl4, hsub, hq, hr, hd⟩ := hP
      obtain ⟨rfl, ex⟩ := hYx
      rw [hlen] at hi'
      have hxi : xss[i]? = some xss[i] := List.getElem?_eq_getElem hi'
      have hli : i < ls.length := by rw [hls]; exact hi'
      have hlb : ls[i]? = some ls[i] := List.getElem?_eq_getElem hli
      have exb : x = .ref ls[i] := by
        rw [List.getElem?_map, hlb] at ex
        cases ex; rfl
      subst exb
      rw [List.drop_eq_getElem?_toList_append, hxi] at hr
      have hr' : cmpO p (fun x => some x) (xss[i] :: xss.drop (i + 1)) = some rest := hr
      simp only [cmpO] at hr'
      obtain ⟨b, hb, hr'⟩ := bind_some_iff hr'
      have qx : Dp K (md.sel A N H') (.ref ls[i]) (toD xss[i]) := by
        have g3' := dpAll_mono (Md.sel_mono u1 u2 u3) g3
        obtain ⟨v, hv1, hv2⟩ := dpAll_get' g3' (i := i) (d := toD xss[i]) (by rw [List.getElem?_map, List.getElem?_map, hxi]; rfl)
        rw [List.getElem?_map, hlb] at hv1
        cases hv1
        exact hv2
      have a5 := a4.setv (i := j) (x := .ref ls[i]) (md := md) hj hm qx
      have ew : wipe ((wipe σ [j]).set j (some (.ref ls[i]))) [j] = wipe σ [j] := by
        show ((wipe σ []).set j none |>.set j (some (.ref ls[i]))).set j none = (wipe σ []).set j none
        rw [List.set_set, List.set_set]
      show wipe ((wipe σ [j]).set j (some (.ref ls[i]))) [j] = wipe σ [j] ∧ _
      refine ⟨ew, ht xss[i] b hb _ a5 fun A6 N6 H6 a6 x1 x2 x3 => ?_⟩
      have back : ∀ {A N H}, AtB K H0 A N (fun b => W b ∨ b = D) O H ((wipe σ [j]).set j (some (.ref ls[i]))) (Γ.set j (some (.v md (toD xss[i])))) → AtB K H0 A N (fun b => W b ∨ b = D) O H (wipe σ [j]) Γ := fun a => by
        have := a.wiped (Γ := Γ) (vs := [j]) (by rw [List.length_set]) (fun i c e => set_keep hv i c e) vj
        rwa [ew] at this
      have hDl6 : H6 D = some (.lst (bs.map V.ref)) := x3 _ _ hDl4
      have hsub' : bs.Sublist (ls.take (i + 1)) := by
        rw [List.take_add_one]
        exact hsub.trans (List.sublist_append_left _ _)
      cases b with
      | false =>
        rw [if_neg Bool.false_ne_true] at hr' ⊢
        exact ⟨A6, N6, bs, done, rest, back a6, u1.trans x1, u2.trans x2, u3.trans x3, hDl6, hsub', hq, hr', hd⟩
      | true =>
        rw [if_pos rfl] at hr' ⊢
        obtain ⟨y, hy, hr'⟩ := bind_some_iff hr'
        obtain ⟨rest', hr2, e⟩ := bind_some_iff hr'
        cases hy
        cases e
        have hjw : j < (wipe σ [j]).length := by rw [← a4.len]; exact hj
        refine ⟨.ref ls[i], List.getElem?_set_self hjw, ?_⟩
        have hlt : (bs.map V.ref).length < sizeLine := by
          have e1 := hsub.length_le
          rw [List.length_take] at e1
          have e2 := a1.hl l _ (.inl hl)
          rw [List.length_map] at e2 ⊢
          omega
        obtain ⟨ds, vs, r1, r2, r3⟩ := rows_at q hlb
        rw [List.getElem?_map, hxi] at r1
        cases r1
        refine ⟨bs.map V.ref, hDl6, hlt, A6, N6, bs ++ [ls[i]], done ++ [xss[i]], rest', ?_, u1.trans x1, u2.trans x2, same_updR (u3.trans x3) hD, ?_, ?_, ?_, hr2, by rw [List.append_assoc]; exact hd⟩
        · exact write_D (back a6) (.inr rfl) hDO (by rw [List.length_append]; exact hlt)
        · rw [upd_same, List.map_append]; rfl
        · rw [List.take_add_one, hlb]
          exact hsub.append (List.Sublist.refl _)
        · rw [List.map_append]
          exact rows_snoc hq r2 r3
    · obtain ⟨A, N, bs, done, rest, a4, u1, u2, u3, hDl4, hsub, hq, hr, hd⟩ := hP
      rw [hlen, List.drop_length] at hr
      have e : rest = [] := (Option.some.inj hr).symm
      subst e
      rw [List.append_nil] at hd
      subst hd
      rw [hlen, ← hls, List.take_length] at hsub
      have a5 : AtB K H0 A N (fun b => W b ∨ b = D) O H σ Γ := { a4 with
        len := a.len
        cs := fun i c e => by
          obtain ⟨x, e1, q⟩ := a4.cs i c e
          exact ⟨x, (wipe_some e1).1, q⟩ }
      obtain ⟨b1, b2, b3⟩ := AtB.thaw (A0 := A) ls aR a5 (fun b hb => .inr hb) (g1.trans u1) (g2.trans u2) u3 (fun b w hb => .inl (w.resolve_right hb))
      have b1' : AtB K H0 _ _ W O H σ Γ := b1.unreserve (fun _ w => .inl w) a1.sub
      have memL : ∀ b ∈ bs, b ∈ ls := fun b hb => hsub.subset hb
      refine k _ _ H D bs b1' (s1.trans b2) (s2.trans b3) (s3.trans u3) (fun b hb => ?_) (List.nodup_cons.mpr ⟨fun z => hDls (memL D z), List.Nodup.sublist hsub n2⟩) hDl4 ?_
      · rcases List.mem_cons.mp hb with rfl | hb
        · refine ⟨s3.free hD, ?_, hDW⟩
          show (if b ∈ ls then none else A b) = none
          rw [if_neg hDls]
          exact (a5.own b (.inr rfl)).1
        · obtain ⟨c1, c2, c3⟩ := f1 b (List.mem_cons_of_mem _ (memL b hb))
          refine ⟨c1, ?_, c3⟩
          show (if b ∈ ls then none else A b) = none
          rw [if_pos (memL b hb)]
      · exact hq.mono (Md.sel_mono b2 b3 u3) u3
end
end Mir

namespace Mir
open PySem PySem.Spec L2
open ToD (toD)
set_option autoImplicit false
/-! ## 18. dicts of one's own -/
/-- things that are keys: ints and texts; tuples of these -/
class DKey (α : Type) [ToD α] where
  κ : Type
  dec : DecidableEq κ
  t : Bool
  kd : κ → PyData
  key : α → κ
  ho : List (κ × V) → HO
  tod : ∀ a, toD a = kd (key a)
  kinj : ∀ a b, kd a = kd b → a = b
  inj : ∀ a b, key a = key b → a = b
  hold : ∀ {K : PySem.W.Frag} {S : Hp} {es : List (PyData × PyData)} {o : HO}, DHold K S t es o ↔ ∃ kvs, o = ho kvs ∧ EsG kd K S es kvs
  get : ∀ {K : PySem.W.Frag} {H : Hp} {l : Addr} {kvs : List (κ × V)} {a : α} {y : V}, H l = some (ho kvs) → Dp K H y (toD a) → DGet H l y (valV kvs (key a))
  put : ∀ {K : PySem.W.Frag} {H : Hp} {l : Addr} {kvs : List (κ × V)} {a : α} {y v : V}, H l = some (ho kvs) → Dp K H y (toD a) → kvs.length < sizeLine → DPut H l y v (upd H l (ho (putK kvs (key a) v)))
instance dkDec {α : Type} [ToD α] [k : DKey α] : DecidableEq (DKey.κ α) := k.dec
theorem keyD_inj : ∀ a b : Key, keyD a = keyD b → a = b
  | .inl i, .inl j, h => by cases h; rfl
  | .inr x, .inr y, h => by cases h; rfl
  | .inl i, .inr y, h => by cases h
  | .inr x, .inl j, h => by cases h
theorem keysD_inj : ∀ a b : List Key, a.map keyD = b.map keyD → a = b
  | [], [], _ => rfl
  | x :: a, y :: b, h => by
    rw [List.map_cons, List.map_cons] at h
    obtain ⟨h1, h2⟩ := List.cons.inj h
    rw [keyD_inj _ _ h1, keysD_inj _ _ h2]
  | [], y :: b, h => by cases h
  | x :: a, [], h => by cases h
theorem keyT_inj (a b : List Key) (h : keyT a = keyT b) : a = b := keysD_inj a b (by unfold keyT at h; exact PyData.tuple.inj h)
theorem dp_keyD {K : PySem.W.Frag} {H : Hp} {y : V} {k : Key} (q : Dp K H y (keyD k)) : y = kV k := by
  cases k with
  | inl i => cases q; rfl
  | inr x => cases q; rfl
theorem dp_keyT {K : PySem.W.Frag} {H : Hp} {y : V} {k : List Key} (q : Dp K H y (keyT k)) : ∃ b, y = .ref b ∧ H b = some (.tup (k.map kV)) := by
  obtain ⟨b, xs, rfl, hb, hA⟩ := dp_tupH q
  refine ⟨b, rfl, ?_⟩
  have : ∀ {k : List Key} {xs : List V}, DpAll K H xs (k.map keyD) → xs = k.map kV := by
    intro k
    induction k with
    | nil => intro xs q; cases q; rfl
    | cons a k ih =>
      intro xs q
      cases q with
      | cons q1 q2 => rw [dp_keyD q1, ih q2]; rfl
  rw [hb, this hA]
@[reducible] def dkeyK {α : Type} [ToD α] (key : α → Key) (tod : ∀ a, toD a = keyD (key a)) (inj : ∀ a b, key a = key b → a = b) : DKey α where
  κ := Key
  dec := inferInstance
  t := false
  kd := keyD
  key := key
  ho := .dK
  tod := tod
  kinj := keyD_inj
  inj := inj
  hold := Iff.rfl
  get := fun {K H l kvs a y} e q => by
    rw [tod] at q
    rw [dp_keyD q]
    exact DGet.k e
  put := fun {K H l kvs a y v} e q hl => by
    rw [tod] at q
    rw [dp_keyD q]
    exact DPut.k e hl
@[reducible] def dkeyT {α : Type} [ToD α] (key : α → List Key) (tod : ∀ a, toD a = keyT (key a)) (inj : ∀ a b, key a = key b → a = b) : DKey α where
  κ := List Key
  dec := inferInstance
  t := true
  kd := keyT
  key := key
  ho := .dT
  tod := tod
  kinj := keyT_inj
  inj := inj
  hold := Iff.rfl
  get := fun {K H l kvs a y} e q => by
    rw [tod] at q
    obtain ⟨b, rfl, hb⟩ := dp_keyT q
    exact DGet.t e hb
  put := fun {K H l kvs a y v} e q hl => by
    rw [tod] at q
    obtain ⟨b, rfl, hb⟩ := dp_keyT q
    exact DPut.t e hb hl
instance dkInt : DKey Int := dkeyK .inl (fun _ => rfl) (fun a b h => by cases h; rfl)
instance dkII : DKey (Int × Int) := dkeyT (fun p => [.inl p.1, .inl p.2]) (fun _ => rfl) (fun a b h => by
  obtain ⟨a1, a2⟩ := a; obtain ⟨b1, b2⟩ := b
  simp only [List.cons.injEq, Sum.inl.injEq, and_true] at h
  rw [h.1, h.2])
/-! ### what a dict holds, as a list of pairs -/
def esOf {α β : Type} [ToD α] [ToD β] (kv : List (α × β)) : List (PyData × PyData) := kv.map fun p => (toD p.1, toD p.2)
def getL {α β : Type} [DecidableEq α] (kv : List (α × β)) (a : α) : Option β := (kv.find? fun p => decide (p.1 = a)).map (·.2)
def hasL {α β : Type} [DecidableEq α] (kv : List (α × β)) (a : α) : Bool := kv.any fun p => decide (p.1 = a)
def putL {α β : Type} [DecidableEq α] (kv : List (α × β)) (a : α) (b : β) : List (α × β) := if hasL kv a = true then kv.map (fun p => if p.1 = a then (p.1, b) else p) else kv ++ [(a, b)]
def putO {α β : Type} [DecidableEq α] (kv : List (α × β)) (a : α) (b : β) : Option (List (α × β)) := if kv.length < lim then some (putL kv a b) else none
section
variable {α β : Type} [ToD α] [ToD β] [DecidableEq α] [DKey α] {K : PySem.W.Frag} {S : Hp}
open DKey (kd key)
theorem es_len : ∀ {kv : List (α × β)} {kvs : List (DKey.κ α × V)}, EsG (kd (α := α)) K S (esOf kv) kvs → kvs.length = kv.length
  | [], [], _ => rfl
  | p :: kv, q :: kvs, ⟨_, r⟩ => by rw [List.length_cons, List.length_cons, es_len (kv := kv) r]
  | [], _ :: _, h => h.elim
  | _ :: _, [], h => h.elim
theorem es_key {a : α} {k : DKey.κ α} (h : toD a = kd (α := α) k) : k = key a := (DKey.kinj (α := α) _ _ ((DKey.tod a).symm.trans h)).symm
theorem es_get (a : α) : ∀ {kv : List (α × β)} {kvs : List (DKey.κ α × V)}, EsG (kd (α := α)) K S (esOf kv) kvs →
    (∀ b, getL kv a = some b → ∃ v, valV kvs (key a) = some v ∧ Dp K S v (toD b)) ∧ (valV kvs (key a)).isSome = hasL kv a ∧ (getL kv a = none → valV kvs (key a) = none)
  | [], [], _ => ⟨(fun b h => by cases h), rfl, fun _ => rfl⟩
  | p :: kv, q :: kvs, ⟨⟨h1, h2⟩, r⟩ => by
    have ih := es_get a (kv := kv) r
    have hk : q.1 = key p.1 := es_key h1
    by_cases e : p.1 = a
    · have e' : q.1 = key a := by rw [hk, e]
      rw [valV_pos e']
      refine ⟨fun b h => ⟨q.2, rfl, ?_⟩, by simp [hasL, e], fun h => by simp [getL, e] at h⟩
      have : p.2 = b := by simpa [getL, e] using h
      rw [← this]; exact h2
    · have e' : ¬ q.1 = key a := fun z => e (DKey.inj _ _ (hk.symm.trans z))
      rw [valV_neg e']
      have g1 : getL (p :: kv) a = getL kv a := by simp [getL, List.find?_cons, e]
      have g2 : hasL (p :: kv) a = hasL kv a := by simp [hasL, e]
      rw [g1, g2]; exact ih
  | [], _ :: _, h => h.elim
  | _ :: _, [], h => h.elim
theorem es_snoc {a : α} {b : β} {v : V} (q : Dp K S v (toD b)) : ∀ {kv : List (α × β)} {kvs : List (DKey.κ α × V)}, EsG (kd (α := α)) K S (esOf kv) kvs → EsG (kd (α := α)) K S (esOf (kv ++ [(a, b)])) (kvs ++ [(key a, v)])
  | [], [], _ => ⟨⟨DKey.tod a, q⟩, trivial⟩
  | p :: kv, z :: kvs, ⟨h, r⟩ => ⟨h, es_snoc (kv := kv) q r⟩
  | [], _ :: _, h => h.elim
  | _ :: _, [], h => h.elim
theorem es_repl {a : α} {b : β} {v : V} (q : Dp K S v (toD b)) : ∀ {kv : List (α × β)} {kvs : List (DKey.κ α × V)}, EsG (kd (α := α)) K S (esOf kv) kvs → EsG (kd (α := α)) K S (esOf (kv.map fun p => if p.1 = a then (p.1, b) else p)) (kvs.map fun z => if z.1 = key a then (z.1, v) else z)
  | [], [], _ => trivial
  | p :: kv, z :: kvs, ⟨⟨h1, h2⟩, r⟩ => by
    have hk : z.1 = key p.1 := es_key h1
    have ih := es_repl (a := a) (kv := kv) q r
    by_cases e : p.1 = a
    · have e' : z.1 = key a := by rw [hk, e]
      have g1 : esOf ((p :: kv).map fun p => if p.1 = a then (p.1, b) else p) = (toD p.1, toD b) :: esOf (kv.map fun p => if p.1 = a then (p.1, b) else p) := by simp [esOf, e]
      have g2 : ((z :: kvs).map fun z => if z.1 = key a then (z.1, v) else z) = (z.1, v) :: kvs.map fun z => if z.1 = key a then (z.1, v) else z := by rw [List.map_cons, if_pos e']
      rw [g1, g2]
      exact ⟨⟨h1, q⟩, ih⟩
    · have e' : ¬ z.1 = key a := fun z' => e (DKey.inj _ _ (hk.symm.trans z'))
      have g1 : esOf ((p :: kv).map fun p => if p.1 = a then (p.1, b) else p) = (toD p.1, toD p.2) :: esOf (kv.map fun p => if p.1 = a then (p.1, b) else p) := by simp [esOf, e]
      have g2 : ((z :: kvs).map fun z => if z.1 = key a then (z.1, v) else z) = z :: kvs.map fun z => if z.1 = key a then (z.1, v) else z := by rw [List.map_cons, if_neg e']
      rw [g1, g2]
      exact ⟨⟨h1, h2⟩, ih⟩
  | [], _ :: _, h => h.elim
  | _ :: _, [], h => h.elim
theorem es_put {a : α} {b : β} {v : V} (q : Dp K S v (toD b)) {kv : List (α × β)} {kvs : List (DKey.κ α × V)} (h : EsG (kd (α := α)) K S (esOf kv) kvs) : EsG (kd (α := α)) K S (esOf (putL kv a b)) (putK kvs (key a) v) := by
  have hh := (es_get a h).2.1
  rw [← valV_any] at hh
  unfold putL putK
  rw [hh]
  split
  · exact es_repl q h
  · exact es_snoc q h
end
/-! ### the heap -/
theorem HLen.upd_dT {H : Hp} {a : Addr} {kvs : List (List Key × V)} (h : HLen H) : HLen (upd H a (.dT kvs)) := fun b ys r => by
  by_cases e : b = a
  · subst e
    rcases r with r | ⟨o, r⟩
    · rw [upd_same] at r; cases r
    · rw [upd_same] at r; cases r
  · refine h b ys ?_
    rcases r with r | ⟨o, r⟩
    · rw [upd_ne e] at r; exact .inl r
    · rw [upd_ne e] at r; exact .inr ⟨o, r⟩
theorem HLen.upd_dK {H : Hp} {a : Addr} {kvs : List (Key × V)} (h : HLen H) : HLen (upd H a (.dK kvs)) := fun b ys r => by
  by_cases e : b = a
  · subst e
    rcases r with r | ⟨o, r⟩
    · rw [upd_same] at r; cases r
    · rw [upd_same] at r; cases r
  · refine h b ys ?_
    rcases r with r | ⟨o, r⟩
    · rw [upd_ne e] at r; exact .inl r
    · rw [upd_ne e] at r; exact .inr ⟨o, r⟩
theorem DHold.nt {K : PySem.W.Frag} {S : Hp} {t : Bool} {es : List (PyData × PyData)} {o : HO} (d : DHold K S t es o) (xs : List V) : o ≠ .tup xs := by
  cases t with
  | false => obtain ⟨kvs, rfl, _⟩ := d; exact fun z => by cases z
  | true => obtain ⟨kvs, rfl, _⟩ := d; exact fun z => by cases z
theorem HLen.upd_d {K : PySem.W.Frag} {S H : Hp} {a : Addr} {t : Bool} {es : List (PyData × PyData)} {o : HO} (h : HLen H) (d : DHold K S t es o) : HLen (upd H a o) := by
  cases t with
  | false => obtain ⟨kvs, rfl, _⟩ := d; exact h.upd_dK
  | true => obtain ⟨kvs, rfl, _⟩ := d; exact h.upd_dT
section
variable {K : PySem.W.Frag} {H0 : Base} {ρ τ ω : Type} {R : Ex ρ} {Γ Γ2 : Ctx} {t u : TS} {Γ' : τ → Ctx} {I : ω → Fl ρ τ} {ta tb te ti td ty tv : TE} {ts : TA} {tt : TT} {md m1 m2 : Md} {d d1 d2 : PyData} {ds : List PyData} {dt : Bool} {es es' : List (PyData × PyData)}
/-- a change of a reserved thing that no slot holds, or that one alone holds -/
theorem AtB.writeG {l : Addr} {o : HO} {A N : Hp} {W : Addr → Prop} {O : Nat → List Addr} {H : Hp} {σ : St} (a : AtB K H0 A N W O H σ Γ) (hw : W l) (hlv : Lv (upd H l o) l) (hz : HLen (upd H l o)) (hcs : ∀ i c, Γ[i]? = some (some c) → l ∈ O i → ∃ x, σ[i]? = some (some x) ∧ CellOk K A N (upd H l o) x (O i) c) :
    AtB K H0 A N W O (upd H l o) σ Γ where
  na := a.na
  ah := same_updR a.ah (a.own l hw).1
  h0 := a.h0
  fr := a.fr
  own := fun b w => ⟨(a.own b w).1, by
    by_cases e : b = l
    · subst e; exact hlv
    · obtain ⟨o2, e2, n⟩ := (a.own b w).2
      exact ⟨o2, by rw [upd_ne e]; exact e2, n⟩⟩
  sub := a.sub
  dj := a.dj
  nd := a.nd
  hl := hz
  len := a.len
  cs := fun i c e => by
    by_cases hi : l ∈ O i
    · exact hcs i c e hi
    · obtain ⟨x, e1, q⟩ := a.cs i c e
      refine ⟨x, e1, ?_⟩
      cases c with
      | v md d =>
        obtain ⟨h, q⟩ := q
        refine ⟨h, ?_⟩
        cases md
        · exact absurd rfl h
        · exact q
        · exact q
      | o md ds =>
        obtain ⟨h, m, ws, e2, e3, e4, q⟩ := q
        have hne : m ≠ l := fun z => hi (by rw [e3, z]; exact List.mem_cons_self)
        refine ⟨h, m, ws, e2, e3, by rw [upd_ne hne]; exact e4, ?_⟩
        cases md
        · exact absurd rfl h
        · exact q
        · exact q
      | p md dss =>
        obtain ⟨h, m, ls, e2, e3, e4, q⟩ := q
        have hne : ∀ k ∈ m :: ls, k ≠ l := fun k hk z => hi (by rw [e3, ← z]; exact hk)
        refine ⟨h, m, ls, e2, e3, by rw [upd_ne (hne m List.mem_cons_self)]; exact e4, ?_⟩
        have q' := q.at (H' := upd H l o) fun k hk => upd_ne (hne k (List.mem_cons_of_mem _ hk))
        cases md
        · exact absurd rfl h
        · exact q'
        · exact q'
      | d tb md es =>
        obtain ⟨h, m, ob, e2, e3, e4, q⟩ := q
        have hne : m ≠ l := fun z => hi (by rw [e3, z]; exact List.mem_cons_self)
        refine ⟨h, m, ob, e2, e3, by rw [upd_ne hne]; exact e4, ?_⟩
        cases md
        · exact absurd rfl h
        · exact q
        · exact q
      | q md ds es =>
        obtain ⟨h, p, l0, l1, vs0, ws0, e2, e3, e4, e5, q1, e6, q2⟩ := q
        have hn0 : l0 ≠ l := fun z => hi (by rw [e3, z]; exact List.mem_cons_self)
        have hn1 : l1 ≠ l := fun z => hi (by rw [e3, z]; exact List.mem_cons_of_mem _ List.mem_cons_self)
        refine ⟨h, p, l0, l1, vs0, ws0, e2, e3, ?_, by rw [upd_ne hn0]; exact e5, ?_, by rw [upd_ne hn1]; exact e6, ?_⟩
        · cases md
          · exact absurd rfl h
          · exact e4
          · exact e4
        · cases md
          · exact absurd rfl h
          · exact q1
          · exact q1
        · cases md
          · exact absurd rfl h
          · exact q2
          · exact q2
      | f md ds =>
        obtain ⟨h, l0, vs0, e2, e3, q1⟩ := q
        refine ⟨h, l0, vs0, e2, e3, ?_⟩
        cases md
        · exact absurd rfl h
        · exact q1
        · exact q1
      | r v => exact q
      | k m ls dss =>
        obtain ⟨e2, e3, e4, q⟩ := q
        have hne : ∀ k ∈ m :: ls, k ≠ l := fun k hk z => hi (by rw [e3, ← z]; exact hk)
        exact ⟨e2, e3, by rw [upd_ne (hne m List.mem_cons_self)]; exact e4, q.at (H' := upd H l o) fun k hk => upd_ne (hne k (List.mem_cons_of_mem _ hk))⟩
      | ko m md ds =>
        obtain ⟨h, e2, e3, ws, e4, q⟩ := q
        have hne : m ≠ l := fun z => hi (by rw [e3, z]; exact List.mem_cons_self)
        refine ⟨h, e2, e3, ws, by rw [upd_ne hne]; exact e4, ?_⟩
        cases md
        · exact absurd rfl h
        · exact q
        · exact q
      | t d => exact Ow.at (fun k hk => upd_ne fun z => hi (by rw [← z]; exact hk)) q
/-- comes to a new dict, no one else's -/
def EvD (K : PySem.W.Frag) (H0 : Base) (Γ : Ctx) (te : TE) (t : Bool) (md : Md) (es : List (PyData × PyData)) : Prop :=
  ∀ ⦃A N : Hp⦄ ⦃W : Addr → Prop⦄ ⦃O : Nat → List Addr⦄ ⦃H : Hp⦄ ⦃σ : St⦄ (Q : VK), AtB K H0 A N W O H σ Γ →
    (∀ A' N' H' l o, AtB K H0 A' N' W O H' σ Γ → Same A A' → Same N N' → Same H H' → H l = none → A' l = none → ¬ W l → H' l = some o → DHold K (md.sel A' N' H') t es o → Q (.ref l) H') → te σ H Q
theorem b_asgD {i : Nat} {m : Option ω} (he : EvD K H0 Γ te dt md es) (hm : md ≠ .h) (hi : i < Γ.length) (hΓ : Γ.set i (some (.d dt md es)) = Γ2) (rest : Blk K H0 R Γ2 u Γ' I m) : Blk K H0 R Γ (tSeq (tAsg te (gName i)) u) Γ' I m := fun w hw D A N W O H σ a kn kr =>
  he _ a fun A1 N1 H1 l o a1 s1 s2 s3 h1 h2 h3 h4 q => by
    subst hΓ
    have a2 := a1.seto (i := i) (x := .ref l) (c := .d dt md es) (L := [l]) hi (fun k hk => by rw [List.mem_singleton.mp hk]; exact ⟨h3, h2, o, h4, DHold.nt q⟩) (List.nodup_cons.mpr ⟨by simp, .nil⟩) ⟨hm, l, o, rfl, rfl, h4, q⟩
    exact rest w hw D a2 (fun st e A' N' W' O' H' σ' a' x1 x2 => kn st e A' N' W' O' H' σ' a' (s1.trans x1) (s2.trans x2)) (fun r e => R.mono s1 s2 (kr r e))
theorem b_asgDL {α β : Type} [ToD α] [ToD β] {i : Nat} {e : List (α × β)} {k : List (α × β) → Option ω} {Γ2 : List (α × β) → Ctx} (he : EvD K H0 Γ te dt md (esOf e)) (hm : md ≠ .h) (hi : i < Γ.length) (hΓ : ∀ x : List (α × β), Γ.set i (some (.d dt md (esOf x))) = Γ2 x) (rest : ∀ x, x = e → Blk K H0 R (Γ2 x) u Γ' I (k x)) : Blk K H0 R Γ (tSeq (tAsg te (gName i)) u) Γ' I (lt e k) := by
  rw [lt_def]; exact b_asgD he hm hi (hΓ e) (rest e rfl)
theorem EvD.new {o : HO} (ho : ∀ S, DHold K S dt [] o) (hl : ∀ {H : Hp} {p : Addr}, HLen H → HLen (upd H p o)) : EvD K H0 Γ (fun _ H Q => ∀ p, H p = none → Q (.ref p) (upd H p o)) dt md [] := fun A N W O H σ Q a k p hp =>
  k A N _ p o (a.allocO hp (hl a.hl)) (Same.refl _) (Same.refl _) (same_upd hp) hp (a.ah.free hp) (a.noW hp) upd_same (ho _)
theorem d_newK {α β : Type} [ToD α] [ToD β] : EvD K H0 Γ tDNewK false md (esOf ([] : List (α × β))) := EvD.new (fun _ => ⟨[], rfl, trivial⟩) HLen.upd_dK
theorem d_newT {α β : Type} [ToD α] [ToD β] : EvD K H0 Γ tDNewT true md (esOf ([] : List (α × β))) := EvD.new (fun _ => ⟨[], rfl, trivial⟩) HLen.upd_dT
/-! ### looks -/
theorem AtB.dict {i : Nat} {A N : Hp} {W : Addr → Prop} {O : Nat → List Addr} {H : Hp} {σ : St} (a : AtB K H0 A N W O H σ Γ) (h : Γ[i]? = some (some (.d dt md es))) :
    ∃ l o, σ[i]? = some (some (.ref l)) ∧ H l = some o ∧ DHold K (md.sel A N H) dt es o ∧ O i = [l] ∧ W l ∧ A l = none := by
  obtain ⟨x, ex, hm, l, o, rfl, eO, el, q⟩ := a.cs i _ h
  have hw := a.sub i l (by rw [eO]; exact List.mem_cons_self)
  exact ⟨l, o, ex, el, q, eO, hw, (a.own l hw).1⟩
section
variable {α β : Type} [ToD α] [ToD β] [DecidableEq α] [DKey α] {kv kv' : List (α × β)} {x : α} {b : β} {i : Nat}
theorem e_din (h : Γ[i]? = some (some (.d (DKey.t α) md (esOf kv)))) (hy : Ev K H0 Γ ty .h (toD x)) : Ev K H0 Γ (tDIn ty (tVar i)) m1 (toD (hasL kv x)) := fun A N W O H σ Q a k =>
  hy _ a fun A1 N1 H1 y a1 s1 s2 s3 q => by
    obtain ⟨l, o, ex, el, dh, _⟩ := a1.dict h
    obtain ⟨kvs, rfl, he⟩ := DKey.hold.mp dh
    refine ⟨.ref l, ex, l, _, rfl, DKey.get el q, ?_⟩
    rw [(es_get x he).2.1]
    exact k A1 N1 H1 _ a1 s1 s2 s3 (.bl _)
theorem e_dnotin (h : Γ[i]? = some (some (.d (DKey.t α) md (esOf kv)))) (hy : Ev K H0 Γ ty .h (toD x)) : Ev K H0 Γ (tDNotIn ty (tVar i)) m1 (toD (!hasL kv x)) := fun A N W O H σ Q a k =>
  hy _ a fun A1 N1 H1 y a1 s1 s2 s3 q => by
    obtain ⟨l, o, ex, el, dh, _⟩ := a1.dict h
    obtain ⟨kvs, rfl, he⟩ := DKey.hold.mp dh
    refine ⟨.ref l, ex, l, _, rfl, DKey.get el q, ?_⟩
    rw [(es_get x he).2.1]
    exact k A1 N1 H1 _ a1 s1 s2 s3 (.bl _)
theorem t_dB {y : Bool} (ha : Ev K H0 Γ ta .h (toD y)) : EvT K H0 Γ (tB ta) y := fun A N W O H σ Q a k =>
  ha _ a fun A1 N1 H1 v a1 s1 s2 s3 q1 => ⟨y, dp_bool q1, k A1 N1 H1 a1 s1 s2 s3⟩
theorem e_dget (h : Γ[i]? = some (some (.d (DKey.t α) md (esOf kv)))) (hy : Ev K H0 Γ ty .h (toD x)) (hb : getL kv x = some b) : Ev K H0 Γ (tDGet (tVar i) ty) md (toD b) := fun A N W O H σ Q a k => by
  obtain ⟨l0, o0, ex0, _⟩ := a.dict h
  refine ⟨.ref l0, ex0, hy _ a fun A1 N1 H1 y a1 s1 s2 s3 q => ?_⟩
  obtain ⟨l, o, ex, el, dh, _⟩ := a1.dict h
  rw [ex0] at ex
  cases ex
  obtain ⟨kvs, rfl, he⟩ := DKey.hold.mp dh
  obtain ⟨v, hv, qv⟩ := (es_get x he).1 b hb
  have g := DKey.get el q
  rw [hv] at g
  exact ⟨l0, v, rfl, g, k A1 N1 H1 v a1 s1 s2 s3 qv⟩
/-- d.get(k) -/
theorem e_dgetO (h : Γ[i]? = some (some (.d (DKey.t α) md (esOf kv)))) (hy : Ev K H0 Γ ty .h (toD x)) : Ev K H0 Γ (tDGet1 (tVar i) ty) md (toD (getL kv x)) := fun A N W O H σ Q a k => by
  obtain ⟨l0, o0, ex0, el0, dh0, _⟩ := a.dict h
  obtain ⟨kvs0, rfl, he0⟩ := DKey.hold.mp dh0
  refine ⟨.ref l0, ex0, l0, rfl, ?_, hy _ a fun A1 N1 H1 y a1 s1 s2 s3 q => ?_⟩
  · have hd := dh0
    generalize DKey.t α = tt at hd
    generalize DKey.ho (α := α) kvs0 = oo at hd el0
    cases tt with
    | false => obtain ⟨z, rfl, _⟩ := hd; exact .inl ⟨z, .inl el0⟩
    | true => obtain ⟨z, rfl, _⟩ := hd; exact .inr ⟨z, .inl el0⟩
  obtain ⟨l, o, ex, el, dh, _⟩ := a1.dict h
  rw [ex0] at ex
  cases ex
  obtain ⟨kvs, rfl, he⟩ := DKey.hold.mp dh
  refine ⟨_, DKey.get el q, ?_⟩
  cases hb : getL kv x with
  | none =>
    rw [(es_get x he).2.2 hb]
    exact k A1 N1 H1 _ a1 s1 s2 s3 (by rw [hb]; exact .non)
  | some b =>
    obtain ⟨v, hv, qv⟩ := (es_get x he).1 b hb
    rw [hv]
    exact k A1 N1 H1 v a1 s1 s2 s3 (by rw [hb]; exact qv)
/-- d.get(k, e), flat or of the same sort -/
theorem e_dgetD {c : β} (h : Γ[i]? = some (some (.d (DKey.t α) md (esOf kv)))) (hy : Ev K H0 Γ ty .h (toD x)) (hc : Ev K H0 Γ te .h (toD c)) : Ev K H0 Γ (tDGet2 (tVar i) ty te) .h (toD ((getL kv x).getD c)) := fun A N W O H σ Q a k => by
  obtain ⟨l0, o0, ex0, el0, dh0, _⟩ := a.dict h
  obtain ⟨kvs0, rfl, he0⟩ := DKey.hold.mp dh0
  refine ⟨.ref l0, ex0, l0, rfl, ?_, hy _ a fun A1 N1 H1 y a1 s1 s2 s3 q => hc _ a1 fun A2 N2 H2 z a2 t1 t2 t3 q2 => ?_⟩
  · have hd := dh0
    generalize DKey.t α = tt at hd
    generalize DKey.ho (α := α) kvs0 = oo at hd el0
    cases tt with
    | false => obtain ⟨z, rfl, _⟩ := hd; exact .inl ⟨z, .inl el0⟩
    | true => obtain ⟨z, rfl, _⟩ := hd; exact .inr ⟨z, .inl el0⟩
  obtain ⟨l, o, ex, el, dh, _⟩ := a2.dict h
  rw [ex0] at ex
  cases ex
  obtain ⟨kvs, rfl, he⟩ := DKey.hold.mp dh
  refine ⟨_, DKey.get el (dp_mono t3 q), ?_⟩
  cases hb : getL kv x with
  | none =>
    rw [(es_get x he).2.2 hb]
    exact k A2 N2 H2 _ a2 (s1.trans t1) (s2.trans t2) (s3.trans t3) (by rw [hb]; exact q2)
  | some b =>
    obtain ⟨v, hv, qv⟩ := (es_get x he).1 b hb
    rw [hv]
    exact k A2 N2 H2 v a2 (s1.trans t1) (s2.trans t2) (s3.trans t3) (by rw [hb]; exact dp_mono a2.sel_h qv)
/-- d[k] = e -/
theorem b_dput {m : Option ω} (h : Γ[i]? = some (some (.d (DKey.t α) md (esOf kv)))) (hv : Ev K H0 Γ tv md (toD b)) (hy : Ev K H0 Γ ty .h (toD x)) (hp : putO kv x b = some kv') (hΓ : Γ.set i (some (.d (DKey.t α) md (esOf kv'))) = Γ2) (rest : Blk K H0 R Γ2 u Γ' I m) :
    Blk K H0 R Γ (tSeq (sDPut (tVar i) ty tv) u) Γ' I m := fun w hw D A N W O H σ a kn kr => by
  subst hΓ
  unfold putO at hp
  split at hp
  · rename_i hlim
    cases hp
    refine hv _ a fun A1 N1 H1 v a1 s1 s2 s3 qv => ?_
    obtain ⟨l0, o0, ex0, _⟩ := a1.dict h
    refine ⟨.ref l0, ex0, hy _ a1 fun A2 N2 H2 y a2 t1 t2 t3 q => ?_⟩
    obtain ⟨x0, e0, hm, l, o, rfl, eO, el, dh⟩ := a2.cs i _ h
    rw [ex0] at e0
    cases e0
    obtain ⟨kvs, rfl, he⟩ := DKey.hold.mp dh
    have hlen := es_len he
    have hput := DKey.put (v := v) el q (by rw [hlen]; exact hlim)
    have hw2 := a2.sub i l0 (by rw [eO]; exact List.mem_cons_self)
    have qv2 : Dp K (md.sel A2 N2 H2) v (toD b) := dp_mono (Md.sel_mono t1 t2 t3) qv
    have hnew : DHold K (md.sel A2 N2 H2) (DKey.t α) (esOf (putL kv x b)) (DKey.ho (putK kvs (DKey.key x) v)) := DKey.hold.mpr ⟨_, rfl, es_put qv2 he⟩
    have a3 : AtB K H0 A2 N2 W O (upd H2 l0 (DKey.ho (putK kvs (DKey.key x) v))) σ (Γ.set i none) := by
      have az : AtB K H0 A2 N2 W O H2 σ (Γ.set i none) := a2.weak (by rw [List.length_set]) (fun j c e => by
        by_cases z : j = i
        · subst z; rw [List.getElem?_set_self (lt_of_get h)] at e; cases e
        · rw [List.getElem?_set_ne (Ne.symm z)] at e; exact e)
      refine az.writeG hw2 ⟨_, upd_same, hnew.nt⟩ (a2.hl.upd_d hnew) (fun j c e hj => ?_)
      have : j = i := a2.dj j i l0 hj (by rw [eO]; exact List.mem_cons_self)
      subst this
      rw [List.getElem?_set_self (lt_of_get h)] at e; cases e
    have a4 : AtB K H0 A2 N2 W O (upd H2 l0 (DKey.ho (putK kvs (DKey.key x) v))) σ (Γ.set i (some (.d (DKey.t α) md (esOf (putL kv x b))))) :=
      { a3 with
        len := by rw [List.length_set]; exact a2.len
        cs := fun j c e => by
          by_cases z : j = i
          · subst z
            rw [List.getElem?_set_self (lt_of_get h)] at e; cases e
            refine ⟨_, ex0, hm, l0, _, rfl, eO, upd_same, ?_⟩
            cases md
            · exact absurd rfl hm
            · exact hnew
            · exact hnew
          · rw [List.getElem?_set_ne (Ne.symm z)] at e
            exact a3.cs j c (by rw [List.getElem?_set_ne (Ne.symm z)]; exact e) }
    exact ⟨l0, _, rfl, hput, rest w hw D a4 (fun st e A' N' W' O' H' σ' a' x1 x2 => kn st e A' N' W' O' H' σ' a' ((s1.trans t1).trans x1) ((s2.trans t2).trans x2)) (fun r e => R.mono (s1.trans t1) (s2.trans t2) (kr r e))⟩
  · cases hp
end
end
abbrev cd {α β : Type} [ToD α] [ToD β] (t : Bool) (kv : List (α × β)) : Option Cell := some (.d t .n (esOf kv))
abbrev cD {α β : Type} [ToD α] [ToD β] (t : Bool) (kv : List (α × β)) : Option Cell := some (.d t .s (esOf kv))
end Mir

namespace Mir
open PySem PySem.Spec L2 PyProof.Rows
open ToD (toD)
set_option autoImplicit false
/-! ## 19. displays of dicts with tuples as keys -/
theorem wpAny_Dict_walkH {prog : Program} {w : World} {κ : Type} [DecidableEq κ] {knd : HeapKind prog w κ} {A : Around} {E : Value → Shared → Prop} {s : Shared} {env : Env} {keys : List (Option Expr)} {values : List Expr} {pos : Pos} {Q : Value → Shared → Prop} (hu : knd.room A)
    (hall : keys.all (·.isSome) = true) (hl : keys.length = values.length) (h0 : keys ≠ []) (hlen : keys.length ≤ 15)
    (h : wpAny (model prog w) A (evalPairs (pairTrees keys values env pos)) (fun vs s₁ => ∃ ps, CarriesH knd s₁.heap vs ps ∧ s₁.heap.DictOfH knd s.heap.objs.size [] ∧
      ∀ h' tk, h'.DictOfH knd s.heap.objs.size (storedAllH [] ps) → Heap.SameBut s.heap.objs.size s₁.heap h' → Q (.ref s.heap.objs.size) { s₁ with heap := h', toks := tk }) E
      { s with heap := s.heap.push { cls := .type "dict", data := .dict #[] } }) :
    wpAny (model prog w) A (eval (.Dict keys values pos) env) Q E s := by
  have hn := pairTrees_length keys values env pos hall hl
  have h0' : pairTrees keys values env pos ≠ [] := by
    intro he
    rw [he] at hn
    exact h0 (List.length_eq_zero_iff.mp hn.symm)
  rw [arm_eval_Dict, zip_pairTrees keys values env pos hall hl, dictDisplay_pairs _ h0' (by omega)]
  exact wpAny_bind (wpAny_standAt (wpAny_bind (wpAny_subDictH (knd := knd) (Q := fun d s' => wpAny (model prog w) A (pure (Value.ref d)) Q E s') hu (by omega)
    (wpAny_mono h (fun vs s₁ h₁ => by obtain ⟨ps, hc, hm, hq⟩ := h₁; exact ⟨ps, hc, hm, fun h' tk a b => wpAny_pure (hq h' tk a b)⟩) fun _ _ e => e))))
/-- the pairs, one behind the other -/
def mergeT (kvs : List (List Key × V)) (ps : List ((List Key × Addr) × V)) : List (List Key × V) := ps.foldl (fun acc p => putK acc p.1.1 p.2) kvs
theorem carriesT {P : Program} {w : World} {H : Hp} {h : Heap} (ok : HOk P w H h) : ∀ {ps : List ((List Key × Addr) × V)} {ws : List (Value × Value)}, VV (ps.map fun p => (V.ref p.1.2, p.2)) ws → (∀ p ∈ ps, H p.1.2 = some (.tup (p.1.1.map kV))) →
    ∃ rs, CarriesH (tupleKind (mixKind P w)) h ws rs ∧ (∀ {kvs : List (List Key × V)} {xs : List (List Key × Addr × Value)}, KT H kvs xs → KT H (mergeT kvs ps) (storedAllH xs rs))
  | [], _, r, _ => by rw [List.map_nil] at r; cases r; exact ⟨[], trivial, fun h => h⟩
  | p :: ps, _, r, hk => by
    rw [List.map_cons] at r
    cases r with
    | @cons a b as bs h t =>
      obtain ⟨rs, c, q⟩ := carriesT ok t fun z hz => hk z (List.mem_cons_of_mem _ hz)
      obtain ⟨b1, b2⟩ := b
      have h1 : b1 = Value.ref p.1.2 := h.1
      have hp := hk p List.mem_cons_self
      exact ⟨(p.1.1, p.1.2, b2) :: rs, ⟨h1, rfl, key_of ok hp, c⟩, fun {kvs xs} r0 => q (r0.put p.1.1 hp h.2)⟩
theorem mergeT_len : ∀ (ps : List ((List Key × Addr) × V)) (kvs : List (List Key × V)), (mergeT kvs ps).length ≤ kvs.length + ps.length
  | [], kvs => by show kvs.length ≤ kvs.length + 0; omega
  | p :: r, kvs => by
    have h1 := mergeT_len r (putK kvs p.1.1 p.2)
    have h2 := length_putK kvs p.1.1 p.2
    show (mergeT (putK kvs p.1.1 p.2) r).length ≤ _
    rw [List.length_cons]; omega
def tDispT (trs : List (TE × TE)) : TE := fun σ H Q => ∀ p, H p = none → tPairs trs σ (upd H p (.dT [])) fun ps H2 => H2 p = some (.dT []) ∧ ∃ kvs : List ((List Key × Addr) × V), ps = kvs.map (fun z => (V.ref z.1.2, z.2)) ∧ (∀ z ∈ kvs, H2 z.1.2 = some (.tup (z.1.1.map kV))) ∧ kvs.length ≤ 15 ∧ Q (.ref p) (upd H2 p (.dT (mergeT [] kvs)))
theorem pe_dispT {X : Cx} {pos : Pos} {keys : List (Option Expr)} {values : List Expr} {trs : List (TE × TE)} (hu : X.A.units + 1 < cLine) (h : PPs X pos keys values trs) (hall : keys.all (·.isSome) = true) (hl : keys.length = values.length) (h0 : keys ≠ [])
    (h15 : keys.length ≤ 15) : PE X (.Dict keys values pos) (tDispT trs) := by
  refine ⟨fun pins s σ H Q I q => ?_⟩
  have hn := I.hok.fresh (Nat.le_refl s.heap.objs.size)
  have I1 := I.laid (a := s.heap.objs.size) (o := .dT []) (h' := s.heap.push { cls := .type "dict", data := .dict #[] }) (t' := s.toks) (fun _ _ q => Heap.get?_push_of_some _ q) (Nat.le_refl _) (dt_empty s.heap I.big)
  refine wpAny_Dict_walkH (knd := tupleKind (mixKind X.prog X.w)) ?room hall hl h0 h15 (thn (h.run pins _ σ _ _ I1 (q _ hn)) fun ws s2 ⟨ps, H2, I2, rel, e, kvs, ep, hk, lk, q2⟩ => ?_)
  case room => show X.A.units < cLine; omega
  subst ep
  obtain ⟨rs, c, rk⟩ := carriesT I2.hok rel hk
  obtain ⟨z, hd, xs0, r0, dd⟩ := dt_of I2.hok e
  cases r0
  refine ⟨rs, c, dd, fun h' tk dd' hs => ⟨.ref s.heap.objs.size, _, ?_, rfl, q2⟩⟩
  have hz : (mergeT [] kvs).length ≤ sizeLine := by
    have h1 := mergeT_len kvs []
    rw [List.length_nil] at h1
    rw [sizeLine_eq]; omega
  obtain ⟨o, es, ep, hq, h2, h3, h4, _, h5⟩ := dd'
  refine d_write I2 (by rw [e]; exact True.intro) hs ⟨o, hq⟩ ⟨hz, hd, _, (rk .nil).keeps fun c ys ec => ?_, o, es, ep, hq, h2, h3, h4, h5⟩
  rw [upd_ne (ne_of ec e (fun z => nomatch z))]
  exact ec
section
variable {K : PySem.W.Frag} {H0 : Base} {Γ : Ctx} {tk tv te : TE} {trs : List (TE × TE)} {md : Md}
/-- the pairs of a display stand for those of a list -/
def EvPs (K : PySem.W.Frag) (H0 : Base) (Γ : Ctx) (trs : List (TE × TE)) (md : Md) (es : List (List Key × PyData)) : Prop :=
  ∀ ⦃A N : Hp⦄ ⦃W : Addr → Prop⦄ ⦃O : Nat → List Addr⦄ ⦃H : Hp⦄ ⦃σ : St⦄ (R : List (V × V) → Hp → Prop), AtB K H0 A N W O H σ Γ →
    (∀ A' N' H' (kvs : List ((List Key × Addr) × V)), AtB K H0 A' N' W O H' σ Γ → Same A A' → Same N N' → Same H H' → (∀ z ∈ kvs, H' z.1.2 = some (.tup (z.1.1.map kV))) → kvs.map (fun z => z.1.1) = es.map (·.1) → DpAll K (md.sel A' N' H') (kvs.map (·.2)) (es.map (·.2)) → R (kvs.map fun z => (V.ref z.1.2, z.2)) H') → tPairs trs σ H R
theorem ps_nil : EvPs K H0 Γ [] md [] := fun A N W O H σ R a k => k A N H [] a (Same.refl _) (Same.refl _) (Same.refl _) (fun z h => by cases h) rfl .nil
theorem ps_cons {α β : Type} [ToD α] [ToD β] {a : α} {b : β} {k : List Key} {es : List (List Key × PyData)} (hk : Ev K H0 Γ tk .h (toD a)) (hv : Ev K H0 Γ tv md (toD b)) (he : toD a = keyT k) (h : EvPs K H0 Γ trs md es) : EvPs K H0 Γ ((tk, tv) :: trs) md ((k, toD b) :: es) := fun A N W O H σ R at' kk =>
  hk _ at' fun A1 N1 H1 x a1 s1 s2 s3 q1 => hv _ a1 fun A2 N2 H2 y a2 t1 t2 t3 q2 => h _ a2 fun A3 N3 H3 kvs a3 u1 u2 u3 g1 g2 g3 => by
    rw [he] at q1
    obtain ⟨p, rfl, hp⟩ := dp_keyT q1
    refine kk A3 N3 H3 (((k, p), y) :: kvs) a3 ((s1.trans t1).trans u1) ((s2.trans t2).trans u2) ((s3.trans t3).trans u3) (fun z hz => ?_) (by rw [List.map_cons, List.map_cons, g2]) (.cons (dp_mono (Md.sel_mono u1 u2 u3) q2) g3)
    rcases List.mem_cons.mp hz with rfl | hz
    · exact (t3.trans u3) _ _ hp
    · exact g1 z hz
/-- what a display holds -/
def dispL {α β : Type} [DecidableEq α] (ps : List (α × β)) : List (α × β) := ps.foldl (fun acc p => putL acc p.1 p.2) []
theorem d_dispT {α β : Type} [ToD α] [ToD β] [DecidableEq α] (key : α → List Key) (tod : ∀ a, toD a = keyT (key a)) (inj : ∀ a b, key a = key b → a = b) {kv : List (α × β)} (hp : EvPs K H0 Γ trs md (kv.map fun p => (key p.1, toD p.2))) (hl : kv.length ≤ 15) (hm : md ≠ .h) : EvD K H0 Γ (tDispT trs) true md (esOf (dispL kv)) := fun A N W O H σ Q a k p hn => by
  letI : DKey α := dkeyT key tod inj
  have hW := a.noW hn
  have a0 := a.allocO (p := p) (o := .dT []) hn (a.hl.upd_dT)
  have a1 := a0.reserve (l := p) (a.ah.free hn) ⟨_, upd_same, fun _ z => by cases z⟩
  refine hp _ a1 fun A2 N2 H2 kvs a2 s1 s2 s3 g1 g2 g3 => ?_
  have hp2 : H2 p = some (.dT []) := s3 _ _ upd_same
  have hA : A2 p = none := (a2.own p (.inr rfl)).1
  have hlen : kvs.length = kv.length := by
    have := congrArg List.length g2
    simpa using this
  refine ⟨hp2, kvs, rfl, g1, by omega, ?_⟩
  have key1 : ∀ (kv : List (α × β)) (kvs : List ((List Key × Addr) × V)) (acc : List (α × β)) (ac : List (List Key × V)), kvs.map (fun z => z.1.1) = (kv.map fun p => (key p.1, toD p.2)).map (·.1) → DpAll K (md.sel A2 N2 H2) (kvs.map (·.2)) ((kv.map fun p => (key p.1, toD p.2)).map (·.2)) → EsG keyT K (md.sel A2 N2 H2) (esOf acc) ac →
      EsG keyT K (md.sel A2 N2 H2) (esOf (kv.foldl (fun acc p => putL acc p.1 p.2) acc)) (mergeT ac kvs) := by
    intro kv
    induction kv with
    | nil =>
      intro kvs acc ac h1 h2 h3
      cases kvs with
      | nil => exact h3
      | cons z kvs => simp at h1
    | cons q kv ih =>
      intro kvs acc ac h1 h2 h3
      cases kvs with
      | nil => simp at h1
      | cons z kvs =>
        simp only [List.map_cons, List.cons.injEq] at h1
        simp only [List.map_cons] at h2
        cases h2 with
        | cons q1 q2 =>
          refine ih kvs _ _ h1.2 q2 ?_
          have := es_put (α := α) (a := q.1) q1 h3
          show EsG keyT K _ (esOf (putL acc q.1 q.2)) (putK ac z.1.1 z.2)
          rw [h1.1]
          exact this
  have hD : DHold K (md.sel A2 N2 H2) true (esOf (dispL kv)) (.dT (mergeT [] kvs)) := ⟨_, rfl, key1 kv kvs [] [] g2 g3 trivial⟩
  have a3 := a2.writeG (l := p) (o := .dT (mergeT [] kvs)) (.inr rfl) ⟨_, upd_same, fun _ z => by cases z⟩ a2.hl.upd_dT (fun i c e hi => absurd (a.sub i p hi) hW)
  have a4 := a3.unreserve (W := W) (fun b w => .inl w) a.sub
  have hs : Same H (upd H2 p (.dT (mergeT [] kvs))) := fun b o e => by
    have hb : b ≠ p := ne_of_none e hn
    rw [upd_ne hb]
    exact s3 _ _ (by rw [upd_ne hb]; exact e)
  refine k A2 N2 _ p _ a4 s1 s2 hs hn hA hW upd_same ?_
  cases md
  · exact absurd rfl hm
  · exact hD
  · exact hD
theorem d_dispII {β : Type} [ToD β] {kv : List ((Int × Int) × β)} (hp : EvPs K H0 Γ trs md (kv.map fun p => ([.inl p.1.1, .inl p.1.2], toD p.2))) (hl : kv.length ≤ 15) (hm : md ≠ .h) : EvD K H0 Γ (tDispT trs) true md (esOf (dispL kv)) :=
  d_dispT (fun p : Int × Int => [.inl p.1, .inl p.2]) (fun _ => rfl) dkII.inj hp hl hm
end
theorem hu1 {k : Nat} {A : Around} (r : Room k A) : A.units + 1 < cLine := by have := hu65 r; omega
/-! ## 20. odds and ends -/
section
variable {K : PySem.W.Frag} {H0 : Base} {Γ : Ctx} {ta tb te : TE} {ts : TA} {md m1 : Md}
theorem e_isiO {α : Type} [ToD α] {x : Option α} {c : String} {b : Bool} (ha : Ev K H0 Γ ta .h (toD x)) (h1 : ∀ a : α, kitB (tyN (toD a)) c = some b) (h0 : kitB "NoneType" c = some false) : Ev K H0 Γ (tCB (rIsi K) (tCons ta (tCons (tC (.ty c)) tNil))) md (toD (x.isSome && b)) := by
  cases x with
  | none => exact e_isi (d := toD (none : Option α)) ha h0
  | some a => exact e_isi (d := toD (some a)) (b := b) ha (h1 a)
theorem e_tupL {α : Type} [ToD α] {xs : List α} (hz : (xs.map toD).length ≤ sizeLine) (hs : EvA K H0 Γ ts md (xs.map toD)) : Ev K H0 Γ (tTup ts) md (.tuple (xs.map toD)) := e_tup hs hz
theorem e_idxTL {α : Type} [ToD α] {xs : List α} {i : Int} {a : α} (ha : Ev K H0 Γ ta md (.tuple (xs.map toD))) (hb : Ev K H0 Γ tb .h (toD i)) (h : atI xs i = some a) : Ev K H0 Γ (tOp (rIxT K) ta tb) md (toD a) :=
  e_idxT ha hb (by rw [atI_map, h]; rfl)
theorem i_tupL {α : Type} [ToD α] {xs : List α} (ha : Ev K H0 Γ ta md (.tuple (xs.map toD))) (hm : md ≠ .h) (hz : (xs.map toD).length ≤ sizeLine) : EvI K H0 Γ (iTup K ta) md (xs.map toD) := i_tup ha hm hz
end
end Mir

namespace Mir
open PySem PySem.Spec L2
open ToD (toD)
set_option autoImplicit false
/-! ## 21. sorted(a list of pairs of whole numbers) -/
def leP (a b : Int × Int) : Bool := !SrtO.lexB b a
theorem leP_iff {a b : Int × Int} : leP a b = true ↔ a.1 < b.1 ∨ (a.1 = b.1 ∧ a.2 ≤ b.2) := by
  unfold leP
  rw [Bool.not_eq_true', SrtO.lexB_no]
  omega
/-- the pairs in their order -/
def srtP (xs : List (Int × Int)) : List (Int × Int) := xs.mergeSort leP
theorem leP_trans (a b c : Int × Int) (h1 : leP a b = true) (h2 : leP b c = true) : leP a c = true := by rw [leP_iff] at h1 h2 ⊢; omega
theorem leP_total (a b : Int × Int) : (leP a b || leP b a) = true := by
  rw [Bool.or_eq_true, leP_iff, leP_iff]; omega
theorem srtP_perm (xs : List (Int × Int)) : (srtP xs).Perm xs := List.mergeSort_perm _ _
theorem srtP_sorted (xs : List (Int × Int)) : (srtP xs).Pairwise (fun a b => leP a b = true) := List.pairwise_mergeSort leP_trans leP_total xs
theorem srtP_uniq {xs ys : List (Int × Int)} (p : xs.Perm ys) (h1 : xs.Pairwise fun a b => leP a b = true) (h2 : ys.Pairwise fun a b => leP a b = true) : xs = ys :=
  p.eq_of_pairwise (fun a b _ _ h h' => by
    rw [leP_iff] at h h'
    obtain ⟨a1, a2⟩ := a; obtain ⟨b1, b2⟩ := b
    simp only at h h'
    have e1 : a1 = b1 := by omega
    have e2 : a2 = b2 := by omega
    rw [e1, e2]) h1 h2
theorem srtP_len (xs : List (Int × Int)) : (srtP xs).length = xs.length := (srtP_perm xs).length_eq
/-- the two numbers of a pair that stands -/
def pairOf (H : Hp) : V → Int × Int
  | .ref t => match H t with
    | some (.tup [.int i, .int j]) => (i, j)
    | _ => (0, 0)
  | _ => (0, 0)
theorem dp_pairII {K : PySem.W.Frag} {S : Hp} {v : V} {p : Int × Int} (q : Dp K S v (toD p)) : ∃ t, v = .ref t ∧ S t = some (.tup [.int p.1, .int p.2]) := by
  obtain ⟨t, xs, rfl, h, hA⟩ := dp_tupH (ds := [toD p.1, toD p.2]) q
  obtain ⟨x, y, rfl, q1, q2⟩ := dpAll_two hA
  rw [dp_int q1, dp_int q2] at h
  exact ⟨t, rfl, h⟩
theorem pairs_map {K : PySem.W.Frag} {S H : Hp} (s : Same S H) : ∀ {vs : List V} {ps : List (Int × Int)}, DpAll K S vs (ps.map toD) → vs.map (pairOf H) = ps ∧ ∀ x ∈ vs, (∃ t, x = V.ref t ∧ H t = some (.tup [.int (pairOf H x).1, .int (pairOf H x).2])) ∧ Dp K S x (toD (pairOf H x))
  | _, [], .nil => ⟨rfl, fun x h => by cases h⟩
  | _, p :: ps, .cons q r => by
    obtain ⟨ih1, ih2⟩ := pairs_map s r
    obtain ⟨t, rfl, ht⟩ := dp_pairII q
    have hk : pairOf H (.ref t) = p := by
      simp only [pairOf, s _ _ ht]
    refine ⟨by rw [List.map_cons, hk, ih1], fun x hx => ?_⟩
    rcases List.mem_cons.mp hx with rfl | hx
    · rw [hk]; exact ⟨⟨t, rfl, s _ _ ht⟩, q⟩
    · exact ih2 x hx
section
variable {K : PySem.W.Frag} {H0 : Base} {Γ : Ctx} {te : TE} {md : Md}
theorem o_sortedP {ps : List (Int × Int)} (ha : Ev K H0 Γ te md (toD ps)) : EvO K H0 Γ (tCB (rSortedPO K) (tCons te tNil)) md ((srtP ps).map toD) := fun A N W O H σ Q a k =>
  ha _ a fun A1 N1 H1 v a1 s1 s2 s3 q1 => by
    obtain ⟨p, vs, rfl, hS, hA⟩ := dp_list q1
    obtain ⟨e1, e2⟩ := pairs_map (a1.sel_h (md := md)) hA
    refine ⟨p, vs, pairOf H1, rfl, a1.sel_h.seq hS, fun x hx => (e2 x hx).1, fun ys l hs hst hl => ?_⟩
    have hlen : ys.length ≤ sizeLine := by rw [hst.perm.length_eq]; exact a1.hl.seq (a1.sel_h.seq hS)
    have hz := a1.hl.upd_lst (a := l) hlen
    have a2 := a1.allocO (p := l) (o := .lst ys) hl hz
    have e3 : ys.map (pairOf H1) = srtP ps := by
      refine srtP_uniq ((hst.perm.map _).trans (by rw [e1]; exact (srtP_perm ps).symm)) ?_ (srtP_sorted ps)
      rw [List.pairwise_map]
      exact hs.imp fun {x y} h => by
        show (!SrtO.lexB (pairOf H1 y) (pairOf H1 x)) = true
        rw [show SrtO.lexB (pairOf H1 y) (pairOf H1 x) = false from h]; rfl
    have hA2 : DpAll K (md.sel A1 N1 (upd H1 l (.lst ys))) ys ((srtP ps).map toD) := by
      rw [← e3, List.map_map]
      have sS : Same (md.sel A1 N1 H1) (md.sel A1 N1 (upd H1 l (.lst ys))) := Md.sel_mono (Same.refl _) (Same.refl _) (same_upd hl)
      have : ∀ zs : List V, (∀ z ∈ zs, z ∈ vs) → DpAll K (md.sel A1 N1 (upd H1 l (.lst ys))) zs (zs.map (toD ∘ pairOf H1)) := by
        intro zs
        induction zs with
        | nil => intro _; exact .nil
        | cons z zs ih => intro h; exact .cons (dp_mono sS (e2 z (h z List.mem_cons_self)).2) (ih fun y hy => h y (List.mem_cons_of_mem _ hy))
      exact this ys fun z hz => hst.perm.mem_iff.mp hz
    exact k A1 N1 _ l ys a2 s1 s2 (s3.trans (same_upd hl)) (s3.free hl) (a1.ah.free hl) (a1.noW hl) upd_same hA2
end
/-! ## 22. tuples of flat things are no one's own -/
def ftD : PyData → Bool
  | .tuple ds => ds.all flatD
  | _ => false
theorem flatV_all {K : PySem.W.Frag} {S : Hp} : ∀ {vs : List V} {ds : List PyData}, ds.all flatD = true → DpAll K S vs ds → vs.all flatV = true
  | _, _, _, .nil => rfl
  | v :: vs, d :: ds, h, .cons q r => by
    rw [List.all_cons, Bool.and_eq_true] at h
    rw [List.all_cons, flatV_all h.2 r, Bool.and_true]
    cases q with
    | lst _ _ => cases h.1
    | tup _ _ => cases h.1
    | dk _ _ _ => cases h.1
    | dt _ _ _ => cases h.1
    | _ => rfl
theorem flat_dp {K : PySem.W.Frag} {S S' : Hp} : ∀ {vs : List V} {ds : List PyData}, ds.all flatD = true → DpAll K S vs ds → DpAll K S' vs ds
  | _, _, _, .nil => .nil
  | _, _, h, .cons q r => by
    rw [List.all_cons, Bool.and_eq_true] at h
    exact .cons (dp_flat h.1 q) (flat_dp h.2 r)
section
variable {K : PySem.W.Frag} {H0 : Base} {Γ : Ctx} {te : TE} {md : Md} {d : PyData}
theorem ev_ft (h : ftD d = true) (he : Ev K H0 Γ te .h d) : Ev K H0 Γ te md d := fun A N W O H σ Q a k =>
  he _ a fun A1 N1 H1 v a1 s1 s2 s3 q => by
    cases d with
    | tuple ds =>
      obtain ⟨t, xs, rfl, ht, hA⟩ := dp_tupH q
      have h' : ds.all flatD = true := h
      let M : Hp := fun b => if b = t then some (.tup xs) else none
      have hM : M t = some (.tup xs) := if_pos rfl
      have fM : ∀ b o, M b = some o → H1 b = none ∨ FT o := fun b o e => by
        by_cases z : b = t
        · subst z; rw [hM] at e; cases e; exact .inr ⟨xs, rfl, flatV_all h' hA⟩
        · have : M b = none := if_neg z
          rw [this] at e; cases e
      have sM : Same M H1 := fun b o e => by
        by_cases z : b = t
        · subst z; rw [hM] at e; cases e; exact ht
        · have : M b = none := if_neg z
          rw [this] at e; cases e
      obtain ⟨a2, u1, u2, u3, u4⟩ := a1.called (Same.refl _) fM sM a1.hl
      exact k _ _ _ _ a2 (s1.trans u1) (s2.trans u2) s3 (dp_n u3 u4 sM (.tup hM (flat_dp h' hA)))
    | _ => cases h
theorem ev_ftO {α : Type} [ToD α] {x : Option α} (h : ∀ a : α, ftD (toD a) = true) (he : Ev K H0 Γ te .h (toD x)) : Ev K H0 Γ te md (toD x) := by
  cases x with
  | none => exact ev_flat he
  | some a => exact ev_ft (h a) he
end
end Mir

namespace Mir
open PySem PySem.Spec L2
open ToD (toD)
set_option autoImplicit false
/-! ## 23. a, b = xs.pop(); sorted(xs, reverse=True) -/
section
variable {K : PySem.W.Frag} {H0 : Base} {ρ τ ω : Type} {R : Ex ρ} {Γ Γ2 : Ctx} {t u : TS} {Γ' : τ → Ctx} {I : ω → Fl ρ τ} {ta te ti : TE} {ts : TA} {md m1 m2 : Md} {d d1 d2 : PyData} {ds : List PyData}
theorem b_popT {α β : Type} [ToD α] [ToD β] {xs : List (α × β)} {r : (α × β) × List (α × β)} {i j l : Nat} {k : α → β → List (α × β) → Option ω} {Γ2 : α → β → List (α × β) → Ctx} (h : Γ[i]? = some (some (.o md (xs.map toD)))) (hm : md ≠ .h) (hj : j < Γ.length) (hl : l < Γ.length) (hjl : j ≠ l) (hy : popO xs = some r)
    (hΓ : ∀ (x : α) (y : β) (zs : List (α × β)), ((Γ.set i (some (.o md (zs.map toD)))).set j (some (.v md (toD x)))).set l (some (.v md (toD y))) = Γ2 x y zs) (rest : ∀ x y zs, r = ((x, y), zs) → Blk K H0 R (Γ2 x y zs) u Γ' I (k x y zs)) :
    Blk K H0 R Γ (tSeq (tAsg (tBM0 K "list" rPop (tVar i)) (gTup K 2 (gCons (gName j) (gCons (gName l) gNil)))) u) Γ' I (lt r.1.1 fun x => lt r.1.2 fun y => lt r.2 fun zs => k x y zs) := fun w hw D A N W O H σ a kn kr => by
  simp only [lt_def] at hw
  obtain ⟨p, vs, e1, e2, q2, nx⟩ := a.mutO h
  obtain ⟨y, hy1, hy2⟩ := bind_some_iff hy
  cases hy2
  obtain ⟨y1, y2⟩ := y
  have hlen : vs.length = xs.length := by rw [dpAll_len q2, List.length_map]
  have hd : (xs.map toD)[xs.length - 1]? = some (toD (y1, y2)) := by rw [List.getElem?_map, hy1]; rfl
  obtain ⟨v, hv, qv⟩ := dpAll_get' q2 hd
  refine ⟨_, e1, tyL e2, p, vs, v, rfl, rfl, e2, by rw [hlen]; exact hv, ?_⟩
  have a2 := nx vs.dropLast (xs.dropLast.map toD) (by rw [List.length_dropLast]; have := a.hl p vs (.inl e2); omega) (by rw [List.map_dropLast]; exact dpAll_dropLast q2)
  have qv' : Dp K (md.sel A N (upd H p (.lst vs.dropLast))) v (toD (y1, y2)) := by
    cases md
    · exact absurd rfl hm
    · exact qv
    · exact qv
  refine g_pair hm hjl (by rw [List.length_set]; exact hj) (by rw [List.length_set]; exact hl) v _ a2 qv' fun σ' a3 _ => ?_
  rw [hΓ] at a3
  exact rest y1 y2 _ rfl w hw D a3 kn kr
/-- sorted(xs, reverse=True) -/
def srtR (xs : List Int) : List Int := (srt xs).reverse
theorem o_sortedRev {ns : List Int} (ha : Ev K H0 Γ te .h (toD ns)) : EvO K H0 Γ (tCKw (rSortedKw K true [.bl true]) (tCons te tNil) (tCons (tC (.bl true)) tNil)) md ((srtR ns).map toD) := fun A N W O H σ Q a k =>
  ha _ a fun A1 N1 H1 v a1 s1 s2 s3 q1 => by
    obtain ⟨p, rfl, hS⟩ := dp_ints q1
    refine ⟨p, ns, rfl, rfl, a1.sel_h.seq hS, fun ns' l hp ho hl => ?_⟩
    have e : ns' = srtR ns := by
      have h1 : ns'.Pairwise (· ≥ ·) := ho
      have h2 : ns'.reverse = srt ns := sorted_unique ((List.reverse_perm ns').trans (hp.trans (srt_perm ns).symm)) (by rw [List.pairwise_reverse]; exact h1) (srt_sorted ns)
      rw [← List.reverse_reverse ns', h2]; rfl
    have hz := a1.hl.seq (a1.sel_h.seq hS)
    rw [List.length_map] at hz
    subst e
    have hz2 : ((srtR ns).map V.int).length ≤ sizeLine := by rw [List.length_map]; unfold srtR; rw [List.length_reverse, srt_len]; exact hz
    have hl2 := a1.hl.upd_lst (a := l) hz2
    exact k A1 N1 _ l _ (a1.allocO (p := l) (o := .lst ((srtR ns).map V.int)) hl hl2) s1 s2 (s3.trans (same_upd hl)) (s3.free hl) (a1.ah.free hl) (a1.noW hl) upd_same ints_to
end
end Mir

namespace Mir
open PySem PySem.Spec L2
open ToD (toD)
set_option autoImplicit false
/-! ## 24. a, b, c, d = e -/
section
variable {K : PySem.W.Frag} {H0 : Base} {ρ τ ω : Type} {R : Ex ρ} {Γ Γ2 : Ctx} {t u : TS} {Γ' : τ → Ctx} {I : ω → Fl ρ τ} {ta te ti : TE} {ts : TA} {md m1 m2 : Md} {d d1 d2 d3 d4 : PyData} {ds : List PyData}
theorem g_quad {i j k l : Nat} (hm : md ≠ .h) (hi : i < Γ.length := by decide) (hj : j < Γ.length := by decide) (hk : k < Γ.length := by decide) (hl : l < Γ.length := by decide) (hij : i ≠ j := by decide) (hik : i ≠ k := by decide) (hil : i ≠ l := by decide) (hjk : j ≠ k := by decide) (hjl : j ≠ l := by decide) (hkl : k ≠ l := by decide) :
    Tg K H0 (gTup K 4 (gCons (gName i) (gCons (gName j) (gCons (gName k) (gCons (gName l) gNil))))) md (.tuple [d1, d2, d3, d4]) [i, j, k, l] Γ ((((Γ.set i (some (.v md d1))).set j (some (.v md d2))).set k (some (.v md d3))).set l (some (.v md d4))) := fun A N W O H σ v Q a q kk => by
  obtain ⟨p, vs, rfl, hS, hA⟩ := dp_tup q
  cases hA with
  | cons q1 hA =>
    cases hA with
    | cons q2 hA =>
      obtain ⟨y, z, rfl, q3, q4⟩ := dpAll_two hA
      refine ⟨p, _, rfl, same_tup a.sel_h hS, rfl, _, _, rfl, _, _, rfl, y, _, rfl, z, _, rfl, rfl, ?_⟩
      refine kk _ ((((a.setv hi hm q1).setv (by rw [List.length_set]; exact hj) hm q2).setv (by rw [List.length_set, List.length_set]; exact hk) hm q3).setv (by rw [List.length_set, List.length_set, List.length_set]; exact hl) hm q4) ?_
      show ((((((((σ.set i _).set j _).set k (some y)).set l (some z)).set l none).set k none).set j none).set i none) = (((σ.set l none).set k none).set j none).set i none
      rw [List.set_set, List.set_comm _ _ hkl, List.set_set, List.set_comm _ _ hjl, List.set_comm _ _ hjk, List.set_set, List.set_comm _ _ hil, List.set_comm _ _ hik, List.set_comm _ _ hij, List.set_set]
theorem b_tup4 {α β γ δ : Type} [ToD α] [ToD β] [ToD γ] [ToD δ] {i j l m : Nat} {p : Tup (α × β × γ × δ × Unit)} {k : α → β → γ → δ → Option ω} {Γ2 : α → β → γ → δ → Ctx} (he : Ev K H0 Γ te md (toD p)) (hm : md ≠ .h) (hi : i < Γ.length) (hj : j < Γ.length) (hl : l < Γ.length) (hq : m < Γ.length) (hn : i ≠ j ∧ i ≠ l ∧ i ≠ m ∧ j ≠ l ∧ j ≠ m ∧ l ≠ m)
    (hΓ : ∀ (x : α) (y : β) (z : γ) (w : δ), (((Γ.set i (some (.v md (toD x)))).set j (some (.v md (toD y)))).set l (some (.v md (toD z)))).set m (some (.v md (toD w))) = Γ2 x y z w)
    (rest : ∀ x y z w, p = ⟨(x, y, z, w, ())⟩ → Blk K H0 R (Γ2 x y z w) u Γ' I (k x y z w)) : Blk K H0 R Γ (tSeq (tAsg te (gTup K 4 (gCons (gName i) (gCons (gName j) (gCons (gName l) (gCons (gName m) gNil)))))) u) Γ' I (lt p.v.1 fun x => lt p.v.2.1 fun y => lt p.v.2.2.1 fun z => lt p.v.2.2.2.1 fun w => k x y z w) := by
  simp only [lt_def]
  obtain ⟨⟨x, y, z, w, ⟨⟩⟩⟩ := p
  obtain ⟨h1, h2, h3, h4, h5, h6⟩ := hn
  refine b_tg he (g_quad hm hi hj hl hq h1 h2 h3 h4 h5 h6) ?_
  rw [hΓ]
  exact rest x y z w rfl
end
end Mir

namespace Mir
open PySem PySem.Spec L2
set_option autoImplicit false
/-! ## laying small whole numbers into a clean table -/
/-- the places looked at, one after another -/
def orb (m : Nat) : Nat → Nat → Nat
  | 0, i => i
  | k + 1, i => orb m k ((i * 5 + 1) % (m + 1))
theorem orb_add (m : Nat) : ∀ a b i, orb m (a + b) i = orb m b (orb m a i)
  | 0, b, i => by rw [Nat.zero_add]; rfl
  | a + 1, b, i => by
    rw [show a + 1 + b = (a + b) + 1 by omega]
    exact orb_add m a b _
/-- from 0 all are met, and 0 again -/
theorem orb_from {m : Nat} (h0 : orb m (m + 1) 0 = 0) (hc : ∀ j < m + 1, ∃ k, k < m + 1 ∧ orb m k 0 = j) : ∀ i < m + 1, ∀ j < m + 1, ∃ k, k < m + 1 ∧ orb m k i = j := by
  intro i hi j hj
  obtain ⟨a, ha, ea⟩ := hc i hi
  obtain ⟨b, hb, eb⟩ := hc j hj
  by_cases h : a ≤ b
  · refine ⟨b - a, by omega, ?_⟩
    rw [← ea, ← orb_add, show a + (b - a) = b by omega, eb]
  · refine ⟨m + 1 - a + b, by omega, ?_⟩
    rw [← ea, ← orb_add, show a + (m + 1 - a + b) = (m + 1) + b by omega, orb_add, h0, eb]
theorem orb_7 : ∀ j < 8, ∃ k, k < 8 ∧ orb 7 k 0 = j := by decide +kernel
theorem orb_15 : ∀ j < 16, ∃ k, k < 16 ∧ orb 15 k 0 = j := by decide +kernel
theorem orb_31 : ∀ j < 32, ∃ k, k < 32 ∧ orb 31 k 0 = j := by decide +kernel
theorem orb_63 : ∀ j < 64, ∃ k, k < 64 ∧ orb 63 k 0 = j := by decide +kernel
def Msk (m : Nat) : Prop := m = 7 ∨ m = 15 ∨ m = 31 ∨ m = 63
theorem orb_all {m : Nat} (hm : Msk m) : ∀ i < m + 1, ∀ j < m + 1, ∃ k, k < m + 1 ∧ orb m k i = j := by
  rcases hm with rfl | rfl | rfl | rfl
  · exact orb_from (by decide +kernel) orb_7
  · exact orb_from (by decide +kernel) orb_15
  · exact orb_from (by decide +kernel) orb_31
  · exact orb_from (by decide +kernel) orb_63
theorem free_ok {m : Nat} {owner : Array (Option Nat)} : ∀ (fuel i p : Nat), p < 32 → (∃ k, k < fuel ∧ (owner.getD (orb m k i) (some 0)).isNone = true) → ∃ j, SetTable.layClean.free m owner fuel i p = some j ∧ (owner.getD j (some 0)).isNone = true
  | 0, _, _, _, ⟨k, hk, _⟩ => absurd hk (Nat.not_lt_zero k)
  | fuel + 1, i, p, hp, ⟨k, hk, hn⟩ => by
    unfold SetTable.layClean.free
    cases hf : (List.range (SetTable.runEnd m i + 1 - i)).find? fun k => (owner.getD (i + k) (some 0)).isNone with
    | some q =>
      have h2 := List.find?_some hf
      exact ⟨i + q, rfl, h2⟩
    | none =>
      have h0 := List.find?_eq_none.mp hf
      have hr : i ≤ SetTable.runEnd m i := by unfold SetTable.runEnd; split <;> omega
      have hi := h0 0 (List.mem_range.mpr (by omega))
      simp only [SetTable.leap, show p / 32 = 0 by omega, Nat.add_zero]
      refine free_ok fuel _ 0 (by omega) ?_
      cases k with
      | zero => exact absurd hn hi
      | succ k => exact ⟨k, by omega, hn⟩
theorem getD_list {α : Type} (a : Array α) (j : Nat) (d : α) : a.getD j d = (a.toList[j]?).getD d := by
  rw [Array.getD_eq_getD_getElem?, Array.getElem?_toList]
/-- what the laying keeps: each number once, the rest free -/
structure Own (m n : Nat) (owner : Array (Option Nat)) : Prop where
  size : owner.size = m + 1
  perm : (owner.toList.filterMap id).Perm (List.range n)
theorem filterMap_set {v : Nat} : ∀ {l : List (Option Nat)} {j : Nat}, l[j]? = some none → ((l.set j (some v)).filterMap id).Perm (v :: l.filterMap id)
  | [], j, h => by simp at h
  | a :: l, 0, h => by
    simp only [List.getElem?_cons_zero, Option.some.injEq] at h
    subst h
    simp
  | a :: l, j + 1, h => by
    rw [List.getElem?_cons_succ] at h
    have ih := filterMap_set (v := v) h
    rw [List.set_cons_succ]
    cases a with
    | none => simpa using ih
    | some b =>
      simp only [List.filterMap_cons, id]
      exact (ih.cons b).trans (.swap v b _)
theorem filterMap_full : ∀ (l : List (Option Nat)), (∀ x ∈ l, x ≠ none) → (l.filterMap id).length = l.length
  | [], _ => rfl
  | none :: l, h => absurd rfl (h none List.mem_cons_self)
  | some b :: l, h => by
    simp only [List.filterMap_cons, id, List.length_cons]
    rw [filterMap_full l fun x hx => h x (List.mem_cons_of_mem _ hx)]
theorem Own.free {m n : Nat} {owner : Array (Option Nat)} (h : Own m n owner) (hn : n ≤ m) : ∃ j, j < m + 1 ∧ owner.getD j (some 0) = none := by
  false_or_by_contra
  rename_i hno
  have hall : ∀ x ∈ owner.toList, x ≠ none := by
    intro x hx e
    subst e
    obtain ⟨j, hj⟩ := List.mem_iff_getElem?.mp hx
    have hlt := (List.getElem?_eq_some_iff.mp hj).1
    rw [Array.length_toList, h.size] at hlt
    exact hno ⟨j, hlt, by rw [getD_list, hj]; rfl⟩
  have h1 := filterMap_full _ hall
  rw [h.perm.length_eq, List.length_range, Array.length_toList, h.size] at h1
  omega
theorem Own.put {m n j : Nat} {owner : Array (Option Nat)} (h : Own m n owner) (hj : (owner.getD j (some 0)).isNone = true) : Own m (n + 1) (owner.setIfInBounds j (some n)) := by
  refine ⟨by rw [Array.size_setIfInBounds]; exact h.size, ?_⟩
  have hl : owner.toList[j]? = some none := by
    rw [getD_list] at hj
    cases e : owner.toList[j]? with
    | none => rw [e] at hj; cases hj
    | some a =>
      rw [e] at hj
      cases a with
      | none => rfl
      | some b => cases hj
  rw [Array.toList_setIfInBounds]
  refine (filterMap_set hl).trans ?_
  rw [List.range_succ]
  exact (h.perm.cons n).trans (List.perm_append_singleton _ _).symm
/-- a small hash -/
def Sml (h : Int) : Prop := 0 ≤ h ∧ h < 32
theorem lay_go {m : Nat} (hm : Msk m) : ∀ (hs : List Int) (owner : Array (Option Nat)) (k : Nat), Own m k owner → k + hs.length ≤ m → (∀ h ∈ hs, Sml h) →
    ∃ o2, (hs.foldl (init := some (owner, k)) fun acc h => do
      let (owner, k) ← acc
      let j ← SetTable.layClean.free m owner (SetTable.turns m) (SetTable.bits h % (m + 1)) (SetTable.bits h)
      pure (owner.setIfInBounds j (some k), k + 1)) = some (o2, k + hs.length) ∧ Own m (k + hs.length) o2
  | [], owner, k, h, _, _ => ⟨owner, rfl, h⟩
  | x :: hs, owner, k, h, hl, hx => by
    rw [List.length_cons] at hl
    obtain ⟨j0, hj0, hn0⟩ := h.free (by omega)
    have hb : SetTable.bits x < 32 := by
      have := hx x List.mem_cons_self
      unfold SetTable.bits Sml at *
      omega
    obtain ⟨q, hq, hq2⟩ := orb_all hm (SetTable.bits x % (m + 1)) (Nat.mod_lt _ (by omega)) j0 hj0
    obtain ⟨j, ej, hj⟩ := free_ok (m := m) (owner := owner) (SetTable.turns m) (SetTable.bits x % (m + 1)) (SetTable.bits x) hb ⟨q, by unfold SetTable.turns; omega, by rw [hq2, hn0]; rfl⟩
    obtain ⟨o2, e, ho⟩ := lay_go hm hs _ (k + 1) (h.put hj) (by omega) fun y hy => hx y (List.mem_cons_of_mem _ hy)
    rw [List.foldl_cons]
    refine ⟨o2, ?_, by rw [List.length_cons, show k + (hs.length + 1) = k + 1 + hs.length by omega]; exact ho⟩
    rw [List.length_cons, show k + (hs.length + 1) = k + 1 + hs.length by omega, ← e]
    congr 1
    show (SetTable.layClean.free m owner (SetTable.turns m) (SetTable.bits x % (m + 1)) (SetTable.bits x)).bind _ = _
    rw [ej]; rfl
theorem own_new (m : Nat) : Own m 0 (Array.replicate (m + 1) none) := by
  refine ⟨by simp, ?_⟩
  rw [Array.toList_replicate]
  have : ∀ n : Nat, (List.replicate n (none : Option Nat)).filterMap id = [] := fun n => by
    induction n with
    | zero => rfl
    | succ n ih => rw [List.replicate_succ]; simpa using ih
  rw [this]
  exact List.Perm.refl _
theorem layClean_ok {m : Nat} (hm : Msk m) {hs : Array Int} (hl : hs.size ≤ m) (hx : ∀ h ∈ hs.toList, Sml h) : ∃ owner, SetTable.layClean m hs = some owner ∧ Own m hs.size owner := by
  obtain ⟨o2, e, h⟩ := lay_go hm hs.toList _ 0 (own_new m) (by rw [Array.length_toList]; omega) hx
  unfold SetTable.layClean
  rw [← Array.foldl_toList, e]
  rw [Nat.zero_add, Array.length_toList] at h
  exact ⟨o2, rfl, h⟩
theorem live_snd (f : Nat → Option Nat) (l : List Nat) : (l.filterMap fun j => (f j).map (j, ·)).map (·.2) = l.filterMap f := by
  induction l with
  | nil => rfl
  | cons j l ih =>
    rw [List.filterMap_cons, List.filterMap_cons]
    cases f j with
    | none => exact ih
    | some k => rw [Option.map_some]; exact congrArg (k :: ·) ih
theorem range_getD {owner : Array (Option Nat)} {n : Nat} (h : owner.size = n) : (List.range n).filterMap (fun j => owner.getD j none) = owner.toList.filterMap id := by
  have e : owner.toList = (List.range n).map fun j => owner.getD j none := by
    apply List.ext_getElem?
    intro i
    rw [List.getElem?_map]
    by_cases hi : i < n
    · rw [List.getElem?_range hi, Option.map_some, Array.getElem?_toList, Array.getD_eq_getD_getElem?, Array.getElem?_eq_getElem (by omega)]; rfl
    · rw [List.getElem?_eq_none (l := owner.toList) (by rw [Array.length_toList]; omega), List.getElem?_eq_none (l := List.range n) (by rw [List.length_range]; omega)]; rfl
  rw [e, List.filterMap_map]
  rfl
/-- a clean table takes them all -/
theorem laid_ok {m : Nat} (hm : Msk m) {hs : Array Int} (hl : hs.size ≤ m) (hx : ∀ h ∈ hs.toList, Sml h) (fi mo : Nat) (ld pl : Bool) :
    ∃ t order, SetTable.laid m fi mo ld pl hs = some (t, order) ∧ t.mask = m ∧ t.place.size = hs.size ∧ t.dummies = #[] ∧ t.led = ld ∧ Ris t.place.toList ∧ order.toList.Perm (List.range hs.size) := by
  obtain ⟨owner, e, h⟩ := layClean_ok hm hl hx
  have e2 : ((List.range (m + 1)).filterMap fun j => (owner.getD j none).map (j, ·)).map (·.2) = owner.toList.filterMap id := (live_snd _ _).trans (range_getD h.size)
  refine ⟨_, _, by unfold SetTable.laid; rw [e]; rfl, rfl, ?_, rfl, rfl, ?_, ?_⟩
  · have := congrArg List.length e2
    rw [List.length_map, h.perm.length_eq, List.length_range] at this
    simp only [List.size_toArray, List.length_map]
    exact this
  · refine (ris_live (fun j => owner.getD j none) (List.range (m + 1)) ?_).1
    unfold Ris
    exact List.pairwise_lt_range
  · show (((List.range (m + 1)).filterMap fun j => (owner.getD j none).map (j, ·)).map (·.2)).Perm _
    rw [e2]
    exact h.perm
end Mir

namespace Mir
open PySem PySem.Spec L2 PyProof.Rows
set_option autoImplicit false
/-! ## set.__or__ -/
/-- the state of a set of small whole numbers -/
structure Good2 (w : World) (es : Array (Int × Value)) (t : SetTable) : Prop where
  good : ∀ e ∈ es.toList, GoodE e
  nd : (es.toList.map keyOf).Nodup
  sml : ∀ e ∈ es.toList, 0 ≤ keyOf e ∧ keyOf e < 32
  small : es.size < scanBound
  fits : t.fits es.size = true
  ris : Ris t.place.toList
  led : w.params.followText "set-order" = true ∨ t.led = true
theorem hash_sml : ∀ k : Nat, k < 32 → hashInt (k : Int) = (k : Int) := by decide +kernel
theorem sml_hash {e : Int × Value} (g : GoodE e) (h : 0 ≤ keyOf e ∧ keyOf e < 32) : Sml e.1 := by
  obtain ⟨k, tk, h1, h2⟩ := g
  unfold keyOf at h
  rw [h1] at h
  simp only at h
  rw [h2]
  have := hash_sml k.toNat (by omega)
  rw [show ((k.toNat : Nat) : Int) = k by omega] at this
  rw [this]
  exact h
theorem above_ok : ∀ n ≤ 60, ((SetTable.sizeAbove n - 1 = 7 ∨ SetTable.sizeAbove n - 1 = 15 ∨ SetTable.sizeAbove n - 1 = 31 ∨ SetTable.sizeAbove n - 1 = 63) ∧ n ≤ SetTable.sizeAbove n - 1) ∧ SetTable.sizeAbove n ≤ 64 := by decide +kernel
theorem range_get {α : Type} : ∀ l : List α, (List.range l.length).filterMap (fun i => l[i]?) = l
  | [] => rfl
  | a :: l => by
    rw [List.length_cons, List.range_succ_eq_map, List.filterMap_cons, List.filterMap_map]
    simp only [List.getElem?_cons_zero]
    congr 1
    exact range_get l
theorem order_perm {α : Type} {es : Array α} {order : Array Nat} (h : order.toList.Perm (List.range es.size)) : (order.filterMap (es[·]?)).toList.Perm es.toList := by
  rw [Array.toList_filterMap]
  refine (h.filterMap _).trans ?_
  have e : (List.range es.size).filterMap (fun i => es[i]?) = es.toList := by
    have h2 := range_get es.toList
    rw [Array.length_toList] at h2
    have h3 : (fun i : Nat => es[i]?) = fun i : Nat => es.toList[i]? := by funext i; rw [Array.getElem?_toList]
    rw [h3]; exact h2
  rw [e]
section
variable {P : Program} {w : World} {A : Around} {E : Value → Shared → Prop} {s : Shared} {a : Addr} {S : Int → Bool} {n : Nat}
theorem reorder_ok {es : Array (Int × Value)} {t : SetTable} {order : Array Nat} {Q : (Array (Int × Value) × SetTable) → Shared → Prop} (h : order.toList.Perm (List.range es.size))
    (hQ : (order.filterMap (es[·]?)).toList.Perm es.toList → Q (order.filterMap (es[·]?), t) s) {m : Sem (Array (Int × Value) × SetTable)}
    (hm : m = (if (order.filterMap (es[·]?)).size != es.size then (unsupported "internal:set-table-lost-an-element" >>= fun _ : PUnit => pure (order.filterMap (es[·]?), t)) else pure (order.filterMap (es[·]?), t))) : wpAny (model P w) A m Q E s := by
  have hp := order_perm h
  rw [hm]
  have hs : (order.filterMap (es[·]?)).size = es.size := by
    have := hp.length_eq
    rwa [Array.length_toList, Array.length_toList] at this
  rw [hs, if_neg (by simp)]
  exact wpAny_pure (hQ hp)
theorem setRelay_ok {o : Obj} {es : Array (Int × Value)} {ep : Nat} {t : SetTable} {wanted : Nat} {Q : Unit → Shared → Prop} (ho : s.heap.get? a = some o) (hex : o.ExactSet) (hd : o.data = .set es ep t) (G : Good2 w es t) (hw : wanted ≤ 60) (hn : es.size ≤ wanted)
    (hQ : ∀ h' o' es' ep' t', Heap.SameBut a s.heap h' → h'.get? a = some o' → o'.ExactSet → o'.data = .set es' ep' t' → Good2 w es' t' → es'.toList.Perm es.toList → t'.dummies = #[] → Msk t'.mask → wanted ≤ t'.mask → Q () { s with heap := h' }) :
    wpAny (model P w) A (setRelay a wanted) Q E s := by
  obtain ⟨⟨hm, hle⟩, h64⟩ := above_ok wanted hw
  obtain ⟨t', order, e, e1, e2, e3, e4, e5, e6⟩ := laid_ok (m := SetTable.sizeAbove wanted - 1) hm (hs := es.map (·.1)) (by rw [Array.size_map]; omega) (fun h hh => by
    rw [Array.toList_map] at hh
    obtain ⟨x, hx, rfl⟩ := List.mem_map.mp hh
    exact sml_hash (G.good x hx) (G.sml x hx)) t.finger (t.movedTo (SetTable.sizeAbove wanted - 1)) t.led t.plain
  rw [Array.size_map] at e2 e6
  unfold setRelay
  refine wpAny_bind (wpAny_setState_of ho hd G.fits ?_)
  dsimp only
  refine wp_if_neg (by rw [sizeLine_eq]; omega) ?_
  have er : t.relaid (es.map (·.1)) wanted = some (t', order) := e
  rw [er]
  refine wpAny_bind (reorder_ok (t := t') (order := order) e6 ?_ ?_)
  · intro hp
    have hlen := hp.length_eq
    rw [Array.length_toList, Array.length_toList] at hlen
    have hfit : t'.fits (order.filterMap (es[·]?)).size = true := by
      unfold SetTable.fits SetTable.fill
      rw [e3, e2, hlen, e1]
      simp
      omega
    have G' : Good2 w (order.filterMap (es[·]?)) t' := ⟨fun x hx => G.good x (hp.mem_iff.mp hx), (hp.map keyOf).nodup_iff.mpr G.nd, fun x hx => G.sml x (hp.mem_iff.mp hx), by rw [hlen]; exact G.small, hfit, e5, G.led.imp id fun z => by rw [e4]; exact z⟩
    refine wpAny_storeSet_of ho hd ?_ (fits_of_scanBound G'.small)
    exact hQ _ _ _ _ _ (Heap.SameBut.update s.heap a _) (store_at ho hd) hex rfl G' hp e3 (by rw [e1]; exact hm) (by rw [e1]; omega)
  · rfl
def QuietAt (h : Heap) (a : Addr) : Prop := ∃ o es ep t, h.get? a = some o ∧ o.data = .set es ep t ∧ t.fits es.size = true ∧ ∀ e ∈ es.toList, GoodE e
theorem setsQuiet_ok {Q : Bool → Shared → Prop} {sets : List Addr} (h : ∀ a ∈ sets, QuietAt s.heap a) (hQ : Q true s) : wpAny (model P w) A (setsQuiet sets) Q E s := by
  unfold setsQuiet
  refine wpAny_bind (wpAny_forIn_list _ (fun l r s' => s' = s ∧ r.1 = none ∧ ∀ a ∈ l, QuietAt s.heap a) _ ?_ ?_ _ _ ⟨rfl, rfl, h⟩)
  · rintro a rest r s' ⟨rfl, hr, hl⟩
    obtain ⟨o, es, ep, t, ho, hd, hf, hg⟩ := hl a List.mem_cons_self
    unfold setEntries
    refine wpAny_bind (wpAny_bind (wpAny_setState_of ho hd hf (wpAny_pure ?_)))
    refine wpAny_bind (wpAny_forIn_array' _ (fun l r s'' => s'' = s' ∧ r.1 = none ∧ ∀ e ∈ l, GoodE e) _ ?_ ?_ _ _ ⟨rfl, rfl, hg⟩)
    · rintro ⟨hh, x⟩ rest2 r2 s'' ⟨rfl, hr2, hl2⟩
      obtain ⟨k, tk, h1, h2⟩ := hl2 _ List.mem_cons_self
      simp only at h1
      subst h1
      exact wpAny_pure ⟨rfl, rfl, fun e he => hl2 e (List.mem_cons_of_mem _ he)⟩
    · rintro ⟨r2a, r2b⟩ s'' ⟨rfl, hr2, _⟩
      simp only at hr2
      subst hr2
      exact wpAny_pure ⟨rfl, rfl, fun b hb => hl b (List.mem_cons_of_mem _ hb)⟩
  · rintro ⟨ra, rb⟩ s' ⟨rfl, hr, _⟩
    simp only at hr
    subst hr
    exact wpAny_pure hQ
theorem setWalk_ok {o : Addr} {oo : Obj} {es : Array (Int × Value)} {ep : Nat} {t : SetTable} {Q : Array (Int × Value) → Shared → Prop} (ho : s.heap.get? o = some oo) (hd : oo.data = .set es ep t) (G : Good2 w es t)
    (hp : w.params.followText "set-order" = true ∨ (!t.plain && decide (es.size > 1)) = false) (hQ : ∀ arr, arr.toList.Perm es.toList → Q arr s) : wpAny (model P w) A (setWalk o) Q E s := by
  unfold setWalk
  refine wpAny_bind (wpAny_setState_of ho hd G.fits ?_)
  dsimp only
  refine wpAny_bind (wpAny_byText ?_)
  by_cases hb : w.params.followText "set-order" = true
  · refine wp_if_pos hb ?_
    exact wpAny_bind (wpAny_askSetting (wpAny_pure (hQ _ (pick_perm _ _))))
  · refine wp_if_neg hb ?_
    have hdr := hp.resolve_left hb
    have hl := G.led.resolve_left hb
    refine wp_if_neg (by show ¬ ((!t.plain && decide (es.size > 1)) = true); rw [hdr]; exact Bool.false_ne_true) ?_
    refine wpAny_bind (wpAny_of_eq (a := ()) ?_ ?_)
    · show (if (!t.led && decide (es.size > 1)) = true then unsupported "set:maker-not-led" else pure ()) = pure ()
      rw [hl]; rfl
    · exact wpAny_pure (hQ _ (List.Perm.refl _))
theorem walkUnseen_ok {o a : Addr} {oo oa : Obj} {es ea : Array (Int × Value)} {ep pa : Nat} {t ta : SetTable} {Q : Array (Int × Value) → Shared → Prop} (ho : s.heap.get? o = some oo) (hd : oo.data = .set es ep t) (G : Good2 w es t)
    (ha : s.heap.get? a = some oa) (hex : oa.ExactSet) (hda : oa.data = .set ea pa ta) (Ga : Good2 w ea ta)
    (hQ : ∀ arr h' o' p' t', arr.toList.Perm es.toList → Heap.SameBut a s.heap h' → h'.get? a = some o' → o'.ExactSet → o'.data = .set ea p' t' → Good2 w ea t' → Q arr { s with heap := h' }) : wpAny (model P w) A (setWalkUnseen o [a] (some a)) Q E s := by
  unfold setWalkUnseen
  refine wpAny_bind (wpAny_setState_of ho hd G.fits ?_)
  dsimp only
  refine wpAny_bind (wpAny_byText ?_)
  by_cases hb : (w.params.followText "set-order" || (t.led && t.plain) || decide (es.size ≤ 1)) = true
  · refine wp_if_pos hb ?_
    refine setWalk_ok ho hd G ?_ fun arr hp => hQ arr s.heap oa pa ta hp (Heap.SameBut.refl a s.heap) ha hex hda Ga
    rw [Bool.or_eq_true, Bool.or_eq_true, Bool.and_eq_true, decide_eq_true_iff] at hb
    rcases hb with (hb | hb) | hb
    · exact .inl hb
    · exact .inr (by rw [hb.2]; rfl)
    · exact .inr (by rw [decide_eq_false (by omega)]; cases t.plain <;> rfl)
  · refine wp_if_neg hb ?_
    have hnb : w.params.followText "set-order" ≠ true := fun z => hb (by rw [z]; rfl)
    refine wpAny_bind (setsQuiet_ok (fun b hb2 => ?_) ?_)
    · rcases List.mem_cons.mp hb2 with rfl | hb2
      · exact ⟨oo, es, ep, t, ho, hd, G.fits, G.good⟩
      · rw [List.mem_singleton.mp hb2]
        exact ⟨oa, ea, pa, ta, ha, hda, Ga.fits, Ga.good⟩
    · refine wp_if_neg (by simp) ?_
      refine wpAny_bind (wpAny_rule ?_)
      refine wpAny_bind (wpAny_setState_of ha hda Ga.fits ?_)
      dsimp only
      split
      · refine wpAny_bind (wpAny_storeSet_of ha hda ?_ (fits_of_scanBound Ga.small))
        refine wpAny_pure (hQ _ _ _ _ _ (List.Perm.refl _) (Heap.SameBut.update s.heap a _) (store_at ha hda) hex rfl ⟨Ga.good, Ga.nd, Ga.sml, Ga.small, ?_, Ga.ris, .inr ?_⟩)
        · exact Ga.fits
        · show (ta.led && t.led) = true
          rw [Ga.led.resolve_left hnb, G.led.resolve_left hnb]; rfl
      · exact wpAny_pure (hQ _ _ _ _ _ (List.Perm.refl _) (Heap.SameBut.refl a s.heap) ha hex hda Ga)
/-- the set at a: its elements and table -/
def SetNow (w : World) (h : Heap) (a : Addr) (es : Array (Int × Value)) (t : SetTable) : Prop := ∃ o ep, h.get? a = some o ∧ o.ExactSet ∧ o.data = .set es ep t ∧ Good2 w es t
def keysOf (es : Array (Int × Value)) : List Int := es.toList.map keyOf
theorem SetNow.setR {h : Heap} {es : Array (Int × Value)} {t : SetTable} (R : SetNow w h a es t) : SetR w h a (fun k => decide (k ∈ keysOf es)) es.size := by
  obtain ⟨o, ep, ho, hx, hd, G⟩ := R
  exact ⟨o, es, ep, t, ho, hx, hd, G.good, G.nd, fun k => by rw [decide_eq_true_iff]; rfl, G.small, G.fits, rfl, G.ris, G.led⟩
theorem setNow_of {h : Heap} {S : Int → Bool} {n : Nat} (R : SetR w h a S n) (hs : ∀ k, S k = true → 0 ≤ k ∧ k < 32) : ∃ es t, SetNow w h a es t ∧ (∀ k, k ∈ keysOf es ↔ S k = true) ∧ es.size = n := by
  obtain ⟨o, es, ep, t, ho, hx, hd, g, nd, hm, hb, hf, hn, hr, hl⟩ := R
  exact ⟨es, t, ⟨o, ep, ho, hx, hd, ⟨g, nd, fun e he => hs _ ((hm _).mpr (List.mem_map_of_mem he)), hb, hf, hr, hl⟩⟩, fun k => (hm k).symm, hn⟩
theorem keys_len (es : Array (Int × Value)) : (keysOf es).length = es.size := by unfold keysOf; rw [List.length_map, Array.length_toList]
theorem keys_nil {es : Array (Int × Value)} (h : es.size = 0) (k : Int) : k ∉ keysOf es := by
  have := keys_len es
  rw [h] at this
  rw [List.length_eq_zero_iff.mp this]; simp
theorem fill_nil {w : World} {es : Array (Int × Value)} {t : SetTable} (G : Good2 w es t) (h : t.fill = 0) : es.size = 0 := by
  have := G.fits
  simp only [SetTable.fits, Bool.and_eq_true, beq_iff_eq] at this
  unfold SetTable.fill at h
  omega
theorem setRoom_ok {es : Array (Int × Value)} {t : SetTable} {more : Nat} {Q : Unit → Shared → Prop} (R : SetNow w s.heap a es t) (hsz : (es.size + more) * 2 ≤ 60) (h0 : t.fill = 0 → Msk t.mask)
    (hQ : ∀ h' es' t', Heap.SameBut a s.heap h' → SetNow w h' a es' t' → es'.toList.Perm es.toList → (t'.fill = 0 → Msk t'.mask ∧ more ≤ t'.mask) → Q () { s with heap := h' }) : wpAny (model P w) A (setRoomFor a more) Q E s := by
  obtain ⟨o, ep, ho, hx, hd, G⟩ := id R
  have hps : t.place.size = es.size := by
    have := G.fits
    simp only [SetTable.fits, Bool.and_eq_true, beq_iff_eq] at this
    exact this.1
  unfold setRoomFor
  refine wpAny_bind (wpAny_setState_of ho hd G.fits ?_)
  dsimp only
  unfold SetTable.roomFor
  by_cases hc : (t.fill + more) * 5 ≥ t.mask * 3
  · rw [if_pos hc, hps]
    exact setRelay_ok ho hx hd G hsz (by omega) fun h' o' es' ep' t' sb ho' hx' hd' G' hp _ hm hw => hQ h' es' t' sb ⟨o', ep', ho', hx', hd', G'⟩ hp fun _ => ⟨hm, by omega⟩
  · rw [if_neg hc]
    exact wpAny_pure (hQ s.heap es t (Heap.SameBut.refl a s.heap) R (List.Perm.refl _) fun z => ⟨h0 z, by omega⟩)
theorem perm_keys {es es' : Array (Int × Value)} (h : es'.toList.Perm es.toList) (k : Int) : k ∈ keysOf es' ↔ k ∈ keysOf es := (h.map keyOf).mem_iff
theorem setMerge_ok {o : Addr} {es eo : Array (Int × Value)} {t to : SetTable} {each : Sem Unit} {Q : Unit → Shared → Prop} (hne : a ≠ o) (R : SetNow w s.heap a es t) (Ro : SetNow w s.heap o eo to) (hs : es.size ≤ 15) (hs2 : eo.size ≤ 15) (h0 : t.fill = 0 → Msk t.mask)
    (heach : ∀ (s₁ : Shared) (Q' : Unit → Shared → Prop), s₁.heap.get? o = s.heap.get? o → Q' () s₁ → wpAny (model P w) A each Q' E s₁)
    (hQ : ∀ h' es' t', Heap.SameBut a s.heap h' → SetNow w h' a es' t' → (∀ k, k ∈ keysOf es' ↔ k ∈ keysOf es ∨ k ∈ keysOf eo) → (t'.fill = 0 → Msk t'.mask) → Q () { s with heap := h' }) : wpAny (model P w) A (setMerge a o each) Q E s := by
  obtain ⟨oo, epo, hoo, hxo, hdo, Go⟩ := id Ro
  unfold setMerge
  refine wp_if_neg (by simpa using hne) ?_
  refine wpAny_bind (wpAny_setState_of hoo hdo Go.fits ?_)
  dsimp only
  by_cases hem : eo.isEmpty = true
  · refine wp_if_pos hem ?_
    have hz : eo.size = 0 := by simpa using hem
    exact wpAny_pure (hQ s.heap es t (Heap.SameBut.refl a s.heap) R (fun k => ⟨.inl, fun z => z.elim id fun q => absurd q (keys_nil hz k)⟩) h0)
  · refine wp_if_neg hem ?_
    have hnz : eo.size ≠ 0 := by simpa using hem
    refine wpAny_bind (setRoom_ok R (by omega) h0 fun h1 es1 t1 sb1 R1 hp1 hm1 => ?_)
    obtain ⟨o1, ep1, ho1, hx1, hd1, G1⟩ := id R1
    have hoo1 : h1.get? o = some oo := by rw [sb1.2 o (Ne.symm hne)]; exact hoo
    refine wpAny_bind (wpAny_setState_of (s := { s with heap := h1 }) ho1 hd1 G1.fits ?_)
    dsimp only
    unfold SetTable.road
    by_cases hf : t1.fill = 0
    · have hz1 := fill_nil G1 hf
      have hkeys : ∀ es' : Array (Int × Value), es'.toList.Perm eo.toList → ∀ k, k ∈ keysOf es' ↔ k ∈ keysOf es ∨ k ∈ keysOf eo := fun es' hp k => by
        rw [perm_keys hp, ← perm_keys hp1]
        exact ⟨.inr, fun z => z.elim (fun q => absurd q (keys_nil hz1 k)) id⟩
      rw [if_neg (by simp [hf])]
      have hfo : to.fill ≠ 0 := fun z => hnz (fill_nil Go z)
      by_cases hsf : (t1.mask == to.mask && to.dummies.isEmpty) = true
      · rw [if_pos hsf]
        dsimp only
        refine wpAny_storeSet_of (s := { s with heap := h1 }) ho1 hd1 ?_ (fits_of_scanBound Go.small)
        refine hQ _ eo _ (sb1.trans (Heap.SameBut.update h1 a _)) ⟨_, _, store_at ho1 hd1, hx1, rfl, ⟨Go.good, Go.nd, Go.sml, Go.small, Go.fits, Go.ris, ?_⟩⟩ (hkeys eo (List.Perm.refl _)) fun z => absurd z hfo
        rcases G1.led with g1 | g1
        · exact .inl g1
        · rcases Go.led with g2 | g2
          · exact .inl g2
          · exact .inr (by show (t1.led && to.led) = true; rw [g1, g2]; rfl)
      · rw [if_neg hsf]
        dsimp only
        obtain ⟨hmk, hle⟩ := hm1 hf
        obtain ⟨t', order, e, e1, e2, e3, e4, e5, e6⟩ := laid_ok hmk (hs := eo.map (·.1)) (by rw [Array.size_map]; omega) (fun h hh => by
          rw [Array.toList_map] at hh
          obtain ⟨x, hx, rfl⟩ := List.mem_map.mp hh
          exact sml_hash (Go.good x hx) (Go.sml x hx)) t1.finger t1.moves (t1.led && to.led) (t1.plain && to.plain)
        rw [Array.size_map] at e2 e6
        rw [e]
        refine wpAny_bind (reorder_ok (t := t') (order := order) e6 ?_ ?_)
        · intro hp
          have hlen := hp.length_eq
          rw [Array.length_toList, Array.length_toList] at hlen
          have hfit : t'.fits (order.filterMap (eo[·]?)).size = true := by
            unfold SetTable.fits SetTable.fill
            rw [e3, e2, hlen, e1]
            simp
            omega
          have G' : Good2 w (order.filterMap (eo[·]?)) t' := ⟨fun x hx => Go.good x (hp.mem_iff.mp hx), (hp.map keyOf).nodup_iff.mpr Go.nd, fun x hx => Go.sml x (hp.mem_iff.mp hx), by rw [hlen]; exact Go.small, hfit, e5, by
            rcases G1.led with g1 | g1
            · exact .inl g1
            · rcases Go.led with g2 | g2
              · exact .inl g2
              · exact .inr (by rw [e4, g1, g2]; rfl)⟩
          refine wpAny_storeSet_of (s := { s with heap := h1 }) ho1 hd1 ?_ (fits_of_scanBound G'.small)
          exact hQ _ _ _ (sb1.trans (Heap.SameBut.update h1 a _)) ⟨_, _, store_at ho1 hd1, hx1, rfl, G'⟩ (hkeys _ hp) fun _ => by rw [e1]; exact hmk
        · rfl
    · rw [if_pos (by simpa using hf)]
      dsimp only
      refine wpAny_bind (walkUnseen_ok (s := { s with heap := h1 }) hoo1 hdo Go ho1 hx1 hd1 G1 fun arr h2 o2 p2 t2 hpa sb2 ho2 hx2 hd2 G2 => ?_)
      refine wpAny_bind (wpAny_forIn_array' _ (fun l _ s' => ∃ h' es' t', s' = { s with heap := h' } ∧ Heap.SameBut a s.heap h' ∧ SetNow w h' a es' t' ∧ (∀ k, (k ∈ keysOf es' ∨ k ∈ l.map keyOf) ↔ (k ∈ keysOf es ∨ k ∈ keysOf eo)) ∧ es'.size + l.length ≤ 30 ∧ ∀ e ∈ l, GoodE e ∧ (0 ≤ keyOf e ∧ keyOf e < 32)) _ ?_ ?_ _ _ ?_)
      · rintro ⟨hh, v⟩ rest u s' ⟨h', es', t', rfl, sb', R', hk', hl', hg'⟩
        obtain ⟨⟨k, tk, g1, g2⟩, g3⟩ := hg' _ List.mem_cons_self
        simp only at g1 g2
        subst g1; subst g2
        have g3' : 0 ≤ k ∧ k < 32 := g3
        rw [List.length_cons] at hl'
        refine wpAny_bind (wpAny_holding (setR_add_hashed (s := { s with heap := h' }) R'.setR (by unfold scanBound; omega) fun h3 sb3 R3 => ?_))
        obtain ⟨es3, t3, R3', hk3, hn3⟩ := setNow_of R3 (fun j hj => by
          rw [Bool.or_eq_true, decide_eq_true_iff, decide_eq_true_iff] at hj
          rcases hj with hj | rfl
          · obtain ⟨e, he, rfl⟩ := List.mem_map.mp hj
            obtain ⟨_, _, _, _, _, G'⟩ := R'
            exact G'.sml e he
          · exact g3')
        have sb13 := sb'.trans sb3
        refine wpAny_bind (heach { s with heap := h3 } _ (sb13.2 o (Ne.symm hne)) ?_)
        refine wpAny_bind (wpAny_setState_of (s := { s with heap := h3 }) (by rw [show ({ s with heap := h3 } : Shared).heap.get? o = s.heap.get? o from sb13.2 o (Ne.symm hne)]; exact hoo) hdo Go.fits ?_)
        refine wp_if_neg (by simp) ?_
        refine wpAny_pure ⟨h3, es3, t3, rfl, sb13, R3', fun j => ?_, ?_, fun e he => hg' e (List.mem_cons_of_mem _ he)⟩
        · rw [← hk' j, hk3, Bool.or_eq_true, decide_eq_true_iff, decide_eq_true_iff, List.map_cons, List.mem_cons]
          show (j ∈ keysOf es' ∨ j = k) ∨ j ∈ rest.map keyOf ↔ j ∈ keysOf es' ∨ (j = k ∨ j ∈ rest.map keyOf)
          exact or_assoc
        · rw [hn3]
          split <;> omega
      · rintro u s' ⟨h', es', t', rfl, sb', R', hk', _, _⟩
        refine wpAny_pure (hQ h' es' t' sb' R' (fun k => by rw [← hk' k]; simp) fun z => ?_)
        exfalso
        obtain ⟨_, _, _, _, _, G'⟩ := id R'
        have hz := fill_nil G' z
        obtain ⟨e, he⟩ : ∃ e, e ∈ eo.toList := List.exists_mem_of_length_pos (by rw [Array.length_toList]; omega)
        have hk := (hk' (keyOf e)).mpr (.inr (List.mem_map_of_mem he))
        simp only [List.map_nil, List.not_mem_nil, or_false] at hk
        exact keys_nil hz _ hk
      · refine ⟨h2, es1, t2, rfl, sb1.trans sb2, ⟨o2, p2, ho2, hx2, hd2, G2⟩, fun k => ?_, ?_, fun e he => ⟨Go.good e (hpa.mem_iff.mp he), Go.sml e (hpa.mem_iff.mp he)⟩⟩
        · rw [perm_keys hp1, (hpa.map keyOf).mem_iff]; rfl
        · have h1l := hp1.length_eq
          have h2l := hpa.length_eq
          rw [Array.length_toList, Array.length_toList] at h1l
          rw [h2l, Array.length_toList]
          omega
end
end Mir

namespace Mir
open PySem PySem.Spec L2 PyProof.Rows
set_option autoImplicit false
/-! ## one | other -/
theorem entry_set_or : entryFor table "set.__or__" = some Builtin.«frozenset.__or__» :=
  entryFor_alias (id' := "frozenset.__or__") (by kernel_rfl) rfl (by decide +kernel) (by kernel_rfl)
section
variable {P : Program} {w : World} {A : Around} {E : Value → Shared → Prop} {s : Shared} {a : Addr} {S : Int → Bool} {n : Nat}
theorem SetNow.typeIs {es : Array (Int × Value)} {t : SetTable} (R : SetNow w s.heap a es t) : s.TypeIs (.ref a) "set" := by
  obtain ⟨o, _, ho, hx, _⟩ := R
  exact ⟨o, ho, hx.1⟩
theorem SetNow.lt {h : Heap} {es : Array (Int × Value)} {t : SetTable} (R : SetNow w h a es t) : a < h.objs.size := by
  obtain ⟨o, _, ho, _⟩ := R
  exact Heap.lt_size ho
theorem SetNow.at {h h' : Heap} {es : Array (Int × Value)} {t : SetTable} (R : SetNow w h a es t) (k : ∀ o, h.get? a = some o → h'.get? a = some o) : SetNow w h' a es t := by
  obtain ⟨o, ep, ho, r⟩ := R
  exact ⟨o, ep, k o ho, r⟩
theorem SetNow.nd {h : Heap} {es : Array (Int × Value)} {t : SetTable} (R : SetNow w h a es t) : (keysOf es).Nodup := by
  obtain ⟨o, ep, ho, _, _, G⟩ := R
  exact G.nd
theorem setNow_new : SetNow w (s.heap.push (newSet w)) s.heap.objs.size #[] (.fresh 0 0 (!w.params.followText "set-order")) :=
  ⟨_, 0, Heap.get?_push_size _ rfl, ⟨rfl, rfl, rfl⟩, rfl, ⟨by simp, by simp, by simp, by decide, by rfl, List.Pairwise.nil, by
    show _ ∨ (!w.params.followText "set-order") = true
    cases w.params.followText "set-order"
    · exact .inr rfl
    · exact .inl rfl⟩⟩
theorem same_size {es eo : Array (Int × Value)} (h1 : (keysOf es).Nodup) (h2 : (keysOf eo).Nodup) (h : ∀ k, k ∈ keysOf es ↔ k ∈ keysOf eo) : es.size = eo.size := by
  rw [← keys_len, ← keys_len]
  exact ((List.perm_ext_iff_of_nodup h1 h2).mpr h).length_eq
theorem copyOf_ok {o : Addr} {eo : Array (Int × Value)} {to : SetTable} {Q : Value → Shared → Prop} (Ro : SetNow w s.heap o eo to) (hs : eo.size ≤ 15)
    (hQ : ∀ h' es t, (∀ b u, s.heap.get? b = some u → h'.get? b = some u) → SetNow w h' s.heap.objs.size es t → (∀ k, k ∈ keysOf es ↔ k ∈ keysOf eo) → es.size = eo.size → (t.fill = 0 → Msk t.mask) → Q (.ref s.heap.objs.size) { s with heap := h' }) :
    wpAny (model P w) A (Builtin.Frozenset.copyOf o) Q E s := by
  have hlt := Ro.lt
  unfold Builtin.Frozenset.copyOf Builtin.Frozenset.baseOf
  refine wpAny_bind (wpAny_bind (wpAny_isInstance Ro.typeIs F.sub_set_set (wpAny_pure ?_)))
  simp only [↓reduceIte]
  unfold PySem.newSet
  refine wpAny_bind (wpAny_bind (wpAny_byText ?_))
  refine wpAny_newObj_type ?_ (by size_fits)
  unfold Builtin.Frozenset.addrOf
  refine wpAny_bind (wpAny_pure ?_)
  have hk : ∀ b u, s.heap.get? b = some u → (s.heap.push (newSet w)).get? b = some u := fun b u e => Heap.get?_push_of_some _ e
  refine wpAny_bind (setMerge_ok (s := { s with heap := s.heap.push (newSet w) }) (es := #[]) (Nat.ne_of_gt hlt) setNow_new (Ro.at fun u e => hk _ u e) (by simp) hs (fun _ => .inl rfl) (fun s₁ Q' _ q => wpAny_pure q) fun h' es' t' sb R' hkk hm => ?_)
  refine wpAny_pure (hQ h' es' t' (fun b u e => ?_) R' (fun k => by rw [hkk]; simp [keysOf]) (same_size R'.nd Ro.nd fun k => by rw [hkk]; simp [keysOf]) hm)
  have hb := Heap.lt_size e
  rw [sb.2 b (Nat.ne_of_lt hb)]
  exact hk b u e
theorem isAny_ok {v : Value} {Q : Bool → Shared → Prop} (hT : s.TypeIs v "set") (h : Q true s) : wpAny (model P w) A (Builtin.Frozenset.isAnySet v) Q E s := by
  unfold Builtin.Frozenset.isAnySet
  exact wpAny_bind (wpAny_isInstance hT F.sub_set_set (wpAny_pure h))
theorem set_or_ok {o : Addr} {es eo : Array (Int × Value)} {t to : SetTable} {Q : Value → Shared → Prop} (hne : a ≠ o) (R : SetNow w s.heap a es t) (Ro : SetNow w s.heap o eo to) (hs : es.size ≤ 15) (hs2 : eo.size ≤ 15)
    (hQ : ∀ h' es' t', (∀ b u, s.heap.get? b = some u → h'.get? b = some u) → SetNow w h' s.heap.objs.size es' t' → (∀ k, k ∈ keysOf es' ↔ k ∈ keysOf es ∨ k ∈ keysOf eo) → Q (.ref s.heap.objs.size) { s with heap := h' }) :
    wpAny (model P w) A (binaryOp .BitOr (.ref a) (.ref o)) Q E s := by
  refine wpAny_binaryOp_same R.typeIs Ro.typeIs F.fills_set_or F.slot_set_or ?_
  refine wpAny_call_entry F.slot_set_or R.typeIs entry_set_or ?_ (F.args_set_or_2 _ _)
  unfold Builtin.«frozenset.__or__»
  have hRo := Ro.at (h' := s.heap) fun _ e => e
  obtain ⟨oo, epo, hoo, hxo, hdo, Go⟩ := id Ro
  show wpAny _ _ (Builtin.Frozenset.slot1 "__or__" ⟨[.ref a, .ref o], []⟩ >>= fun _ => _) _ _ _
  unfold Builtin.Frozenset.slot1 slotArgs
  refine wpAny_bind (wpAny_bind ?_)
  show wpAny _ _ (pure (Value.ref a, [Value.ref o])) _ _ _
  refine wpAny_pure (wpAny_pure ?_)
  dsimp only
  show wpAny _ _ ((Builtin.Frozenset.isAnySet (.ref a) <&&> Builtin.Frozenset.isAnySet (.ref o)) >>= fun _ => _) _ _ _
  refine wpAny_bind (wpAny_bind (isAny_ok R.typeIs (isAny_ok Ro.typeIs ?_)))
  refine wp_if_neg (by simp) ?_
  refine wpAny_bind (wpAny_pure ?_)
  refine wpAny_bind ?_
  show wpAny _ _ (Builtin.Frozenset.copyOf a >>= fun _ => _) _ _ _
  refine wpAny_bind (copyOf_ok R hs fun h1 es1 t1 hk1 R1 hkk1 hsz1 hm1 => ?_)
  refine wp_if_pos (by simpa using Ne.symm hne) ?_
  unfold Builtin.Frozenset.addrOf Builtin.Frozenset.updateFrom
  have Ro1 : SetNow w h1 o eo to := Ro.at fun u e => hk1 _ u e
  have hoo1 := hk1 _ _ hoo
  have hnr : s.heap.objs.size ≠ o := Nat.ne_of_gt Ro.lt
  refine wpAny_bind (wpAny_pure ?_)
  refine wpAny_bind (wpAny_holding ?_)
  show wpAny _ _ (Builtin.Frozenset.isAnySet (.ref o) >>= fun _ => _) _ _ _
  refine wpAny_bind (isAny_ok (s := { s with heap := h1 }) Ro1.typeIs ?_)
  refine wp_if_pos rfl ?_
  show wpAny _ _ (Builtin.Frozenset.addrOf (.ref o) >>= fun _ => _) _ _ _
  unfold Builtin.Frozenset.addrOf
  refine wpAny_bind (wpAny_pure ?_)
  unfold Builtin.Frozenset.merge
  refine wpAny_bind (wpAny_setEpoch_of (s := { s with heap := h1 }) hoo1 hdo Go.fits ?_)
  refine setMerge_ok (s := { s with heap := h1 }) hnr R1 Ro1 (by omega) hs2 hm1 (fun s₁ Q' hk q => ?_) fun h2 es2 t2 sb2 R2 hkk2 hm2 => ?_
  · unfold Builtin.Frozenset.unchanged
    refine wpAny_bind (wpAny_setEpoch_of (by rw [hk]; exact hoo1) hdo Go.fits ?_)
    refine wp_if_neg (by simp) ?_
    exact wpAny_pure q
  · refine wpAny_pure ?_
    show wpAny _ _ (ret _) _ _ _
    refine wpAny_pure ⟨_, rfl, by simp, hQ h2 es2 t2 (fun b u e => ?_) R2 fun k => by rw [hkk2, hkk1]⟩
    rw [sb2.2 b (Nat.ne_of_lt (Heap.lt_size e))]
    exact hk1 b u e
end
section
variable {X : Cx}
def rOrS (w : World) : R2 := fun x y H Q => ∃ (a b : Addr) (xs ys : List Int), x = .ref a ∧ y = .ref b ∧ a ≠ b ∧ H a = some (SetO w a (fun j => decide (j ∈ xs)) (nub xs).length) ∧ H b = some (SetO w b (fun j => decide (j ∈ ys)) (nub ys).length) ∧
  (∀ k ∈ xs ++ ys, 0 ≤ k ∧ k < 32) ∧ (nub xs).length ≤ 15 ∧ (nub ys).length ≤ 15 ∧ ∀ p, H p = none → Q (.ref p) (upd H p (SetO w p (fun j => decide (j ∈ xs ++ ys)) (nub (xs ++ ys)).length))
theorem op_orS : OpR X (binaryOp .BitOr) (rOrS X.w) := by
  intro pins s σ H x y v u Q I rx ry h
  obtain ⟨a, b, xs, ys, rfl, rfl, hne, hA, hB, hk, h1, h2, q⟩ := h
  cases rx
  cases ry
  obtain ⟨es, t, R, m1, z1⟩ := setNow_of (setO_get I hA) (fun k hk' => hk k (List.mem_append_left _ (of_decide_eq_true hk')))
  obtain ⟨eo, to, Ro, m2, z2⟩ := setNow_of (setO_get I hB) (fun k hk' => hk k (List.mem_append_right _ (of_decide_eq_true hk')))
  refine set_or_ok hne R Ro (by omega) (by omega) fun h' es' t' hh R' hkk => ?_
  have hmem : ∀ k, k ∈ keysOf es' ↔ k ∈ xs ++ ys := fun k => by
    rw [hkk, m1, m2, decide_eq_true_iff, decide_eq_true_iff, List.mem_append]
  have hsz : es'.size = (nub (xs ++ ys)).length := by
    rw [← keys_len]
    exact (nub_perm R'.nd hmem).length_eq
  have hR : SetR X.w h' s.heap.objs.size (fun j => decide (j ∈ xs ++ ys)) (nub (xs ++ ys)).length := by
    have := R'.setR
    rw [hsz] at this
    exact this.congr fun k => by rw [Bool.eq_iff_iff, decide_eq_true_iff, decide_eq_true_iff, hmem]
  exact ⟨.ref _, _, I.laid (t' := s.toks) hh (Nat.le_refl _) (setO_new hR), rfl, q _ (I.hok.fresh (Nat.le_refl _))⟩
end
section
variable {K : PySem.W.Frag} {w : World} {H0 : Base} {Γ : Ctx} {ta tb te : TE} {md : Md} {d : PyData} {ds : List PyData}
/-- sorted(set(xs) | set(ys)) -/
def srtOrO (xs ys : List Int) : Option (List Int) := if (∀ k ∈ xs ++ ys, 0 ≤ k ∧ k < 32) ∧ (nub xs).length ≤ 15 ∧ (nub ys).length ≤ 15 ∧ xs.length ≤ 4000 ∧ ys.length ≤ 4000 then some (srt (nub (xs ++ ys))) else none
theorem nub_app_le (xs ys : List Int) (h : (nub xs).length ≤ 15) (h2 : (nub ys).length ≤ 15) : (nub (xs ++ ys)).length < 64 := by
  have h3 : ∀ k ∈ nub (xs ++ ys), k ∈ nub xs ++ nub ys := fun k hk => by
    rw [List.mem_append, mem_nub, mem_nub, ← List.mem_append]
    exact mem_nub.mp hk
  have h4 : ∀ {xs ys : List Int}, xs.Nodup → (∀ x ∈ xs, x ∈ ys) → xs.length ≤ ys.length := by
    intro xs
    induction xs with
    | nil => intros; exact Nat.zero_le _
    | cons a xs ih =>
      intro ys nd h
      have ha := h a List.mem_cons_self
      have := ih (ys := ys.erase a) (List.nodup_cons.mp nd).2 fun x hx => (List.mem_erase_of_ne (fun e : x = a => (List.nodup_cons.mp nd).1 (by rw [← e]; exact hx))).mpr (h x (List.mem_cons_of_mem _ hx))
      rw [List.length_erase_of_mem ha] at this
      have := List.length_pos_of_mem ha
      rw [List.length_cons]
      omega
  have := h4 (nub_nodup (xs ++ ys)) h3
  rw [List.length_append] at this
  omega
theorem o_sortedOr {xs ys ms : List Int} (ha : Ev K H0 Γ ta .h (ToD.toD xs)) (hb : Ev K H0 Γ tb .h (ToD.toD ys)) (h : srtOrO xs ys = some ms) :
    EvO K H0 Γ (tCB (rSortedSet w) (tCons (tOp (rOrS w) (tCB (rSetL K w) (tCons ta tNil)) (tCB (rSetL K w) (tCons tb tNil))) tNil)) md (ms.map ToD.toD) := fun A N W O H σ Q a k => by
  unfold srtOrO at h
  split at h
  · rename_i hc
    obtain ⟨c1, c2, c3, c4, c5⟩ := hc
    cases h
    refine ha _ a fun A1 N1 H1 v a1 s1 s2 s3 q1 => ?_
    obtain ⟨l, rfl, hS⟩ := dp_ints q1
    refine ⟨l, xs, rfl, hS, by omega, fun p hp => ?_⟩
    have a2 := a1.allocO (p := p) (o := SetO w p (fun j => decide (j ∈ xs)) (nub xs).length) hp (a1.hl.upd_ext)
    refine hb _ a2 fun A2 N2 H2 v2 a3 t1 t2 t3 q2 => ?_
    obtain ⟨l2, rfl, hS2⟩ := dp_ints q2
    refine ⟨l2, ys, rfl, hS2, by omega, fun p2 hp2 => ?_⟩
    have a4 := a3.allocO (p := p2) (o := SetO w p2 (fun j => decide (j ∈ ys)) (nub ys).length) hp2 (a3.hl.upd_ext)
    have hpp : H2 p = some (SetO w p (fun j => decide (j ∈ xs)) (nub xs).length) := t3 _ _ upd_same
    have hne : p ≠ p2 := fun e => by rw [e, hp2] at hpp; cases hpp
    refine ⟨p, p2, xs, ys, rfl, rfl, hne, by rw [upd_ne hne]; exact hpp, upd_same, c1, c2, c3, fun p3 hp3 => ⟨p3, _, _, rfl, upd_same, nub_app_le xs ys c2 c3, fun ms b hs hm hl hb' => ?_⟩⟩
    have e : ms = srt (nub (xs ++ ys)) := sorted_unique ((nub_perm (hs.imp fun h => Int.ne_of_lt h) fun k => by rw [hm]; simp).trans (srt_perm _).symm) (hs.imp fun h => Int.le_of_lt h) (srt_sorted _)
    subst e
    have a5 := a4.allocO (p := p3) (o := SetO w p3 (fun j => decide (j ∈ xs ++ ys)) (nub (xs ++ ys)).length) hp3 (a4.hl.upd_ext)
    have hz : ((srt (nub (xs ++ ys))).map V.int).length ≤ sizeLine := by
      have := nub_app_le xs ys c2 c3
      rw [List.length_map, srt_len, sizeLine_eq]; omega
    have hl2 := a5.hl.upd_lst (a := b) hz
    have sA : Same H (upd H1 p (SetO w p (fun j => decide (j ∈ xs)) (nub xs).length)) := s3.trans (same_upd hp)
    have sB := (sA.trans t3).trans (same_upd (o := SetO w p2 (fun j => decide (j ∈ ys)) (nub ys).length) hp2)
    have sC := sB.trans (same_upd (o := SetO w p3 (fun j => decide (j ∈ xs ++ ys)) (nub (xs ++ ys)).length) hp3)
    exact k A2 N2 _ b _ (a5.allocO hb' hl2) (s1.trans t1) (s2.trans t2) (sC.trans (same_upd (o := .lst ((srt (nub (xs ++ ys))).map V.int)) hb')) (sC.free hb') (a5.ah.free hb') (a5.noW hb') upd_same ints_to
  · cases h
end
end Mir

namespace Mir
open PySem PySem.Spec L2
open ToD (toD)
set_option autoImplicit false
/-! ## 25. xs.count(k) -/
section
variable {K : PySem.W.Frag} {H0 : Base} {Γ : Ctx} {ta te : TE} {md : Md}
theorem e_count {xs : List Int} {k : Int} (ha : Ev K H0 Γ ta .h (toD xs)) (hb : Ev K H0 Γ te .h (toD k)) : Ev K H0 Γ (tBM K "list" (rCntI K) ta (tCons te tNil)) md (toD ((xs.count k : Nat) : Int)) := fun A N W O H σ Q at' kk =>
  ha _ at' fun A1 N1 H1 v a1 s1 s2 s3 q1 => by
    obtain ⟨p, vs, rfl, hS, hA⟩ := dp_list q1
    refine ⟨.inl ⟨rfl, vs, hS⟩, hb _ a1 fun A2 N2 H2 w a2 t1 t2 t3 q2 => ?_⟩
    obtain ⟨p', e, hS2⟩ := dp_ints (dp_mono t3 q1)
    cases e
    have e2 : w = .int k := dp_int q2
    subst e2
    exact ⟨p, xs, k, rfl, rfl, hS2, kk A2 N2 H2 _ a2 (s1.trans t1) (s2.trans t2) (s3.trans t3) (.int _)⟩
end
end Mir

namespace Mir
open PySem PySem.Spec L2 PyProof.Rows
open ToD (toD)
set_option autoImplicit false
/-! ## 26. defs whose last parameter may be left out: None -/
structure FunT (K : PySem.W.Frag) (x qual : Str) (st : Stmt) (f : Addr) (fd : FuncData) : Prop where
  ex : ∃ (oc : Value) (od : Option Addr) (kV doc pm : Value) (an : Option Addr) (cdv ct : Value) (osl : Array (Option Value)) (T : Addr) (oT : Obj) (n : Nat),
    fd = PySem.W.fnOf x qual (defArgs st) (defBody st) (defScope st) (.ref T) kV doc pm an cdv ct ∧ K.lookup f = some ⟨oc, od, .func fd, osl⟩ ∧ PySem.W.codeIn K cdv qual = true ∧ K.lookup T = some oT ∧ oT.data = .seq #[.none] n
  kp : PySem.W.keepIn K (.ref f) = true
section
variable {P : Program} {w : World} {K : PySem.W.Frag} {mg : Str → Option Value} {base : Heap}
theorem FunT.ok {x qual : Str} {st : Stmt} {f : Addr} {fd : FuncData} {N ps : List Str} {k : Nat} {sp : Sp} (F : FunT K x qual st f fd) (S : FnScope N ps (defScope st)) (len : ∀ vs H Q E, sp vs H Q E → vs.length = ps.length)
    (hbody : ∀ (cdv : Value) (A : Around) (outer : List Env) (s : Shared) (H : Hp) (vs : List V) (Q : VK) (E : XK), Room k (A.deeper (envOfC qual (defScope st) s.heap.objs.size f cdv)) → sp vs H Q E →
      ∃ t, PSs (cxOf CX0 P w K mg base N qual (defScope st) f cdv A outer s H E).nox (defBody st) t ∧ t { nx := fun _ H' => Q .non H', rt := Q } (start N vs) H) : L2.FnOk P w K mg base CX0 (k + 1) f fd ps sp := by
  obtain ⟨oc, od, kV, doc, pm, an, cdv, ct, osl, T, oT, n, rfl, lk, hcd, _, _⟩ := F.ex
  refine fn_of lk hcd S len fun A outer s H vs Q E hr hsp => ?_
  obtain ⟨t, h, q⟩ := hbody cdv A outer s H vs Q E hr hsp
  exact ⟨t, h.nox, q⟩
theorem FunT.binds {x qual : Str} {st : Stmt} {f : Addr} {fd : FuncData} {ps : List Str} (F : FunT K x qual st f fd)
    (h : ∀ (T : Addr) (kV doc pm : Value) (an : Option Addr) (cdv ct : Value) (us : List Value), us.length = ps.length → ∃ k, bindArgs (PySem.W.fnOf x qual (defArgs st) (defBody st) (defScope st) (.ref T) kV doc pm an cdv ct) ⟨us, []⟩ = seqItems? (.ref T) >>= k ∧ k (some #[.none]) = pure (ps.zip us)) : Binds K fd ps [] := by
  obtain ⟨oc, od, kV, doc, pm, an, cdv, ct, osl, T, oT, n, rfl, lk, hcd, lT, hT⟩ := F.ex
  intro s us X hl
  rw [List.append_nil] at hl ⊢
  obtain ⟨k, e1, e2⟩ := h T kV doc pm an cdv ct us hl
  refine BindsTo.of_looks fun M => ?_
  rw [e1]
  exact looks_items X lT hT (.of_pure e2)
theorem FunT.bindsD {x qual : Str} {st : Stmt} {f : Addr} {fd : FuncData} {ps : List Str} (F : FunT K x qual st f fd)
    (h : ∀ (T : Addr) (kV doc pm : Value) (an : Option Addr) (cdv ct : Value) (us : List Value), us.length + 1 = ps.length → ∃ k, bindArgs (PySem.W.fnOf x qual (defArgs st) (defBody st) (defScope st) (.ref T) kV doc pm an cdv ct) ⟨us, []⟩ = seqItems? (.ref T) >>= k ∧ k (some #[.none]) = pure (ps.zip (us ++ [.none]))) : Binds K fd ps [.none] := by
  obtain ⟨oc, od, kV, doc, pm, an, cdv, ct, osl, T, oT, n, rfl, lk, hcd, lT, hT⟩ := F.ex
  intro s us X hl
  rw [List.length_append] at hl
  obtain ⟨k, e1, e2⟩ := h T kV doc pm an cdv ct us hl
  refine BindsTo.of_looks fun M => ?_
  rw [e1]
  exact looks_items X lT hT (.of_pure e2)
theorem funT_mk {x qual : Str} {st : Stmt} {f T : Addr} {oc : Value} {od an od2 : Option Addr} {osl sl2 : Array (Option Value)} {kV doc pm cdv ct c2 : Value} {n : Nat} (l : K.lookup f = some ⟨oc, od, .func (PySem.W.fnOf x qual (defArgs st) (defBody st) (defScope st) (.ref T) kV doc pm an cdv ct), osl⟩)
    (c : PySem.W.codeIn K cdv qual = true) (k : PySem.W.keepIn K (.ref f) = true) (t : K.lookup T = some ⟨c2, od2, .seq #[.none] n, sl2⟩) : FunT K x qual st f (PySem.W.fnOf x qual (defArgs st) (defBody st) (defScope st) (.ref T) kV doc pm an cdv ct) := ⟨⟨oc, od, kV, doc, pm, an, cdv, ct, osl, T, _, n, rfl, l, c, t, rfl⟩, k⟩
end
theorem vals_non : Vals [V.non] [Value.none] := .cons rfl .nil
section
variable {K : PySem.W.Frag} {H0 : Base} {Γ : Ctx} {ts : TA} {md : Md} {d : PyData} {ds : List PyData} {sp : Sp} {E : XK}
def tSnoc (t : TA) : TA := fun σ H Q => t σ H fun vs H1 => Q (vs ++ [V.non]) H1
theorem evA_snoc (h : EvA K H0 Γ ts md ds) : EvA K H0 Γ (tSnoc ts) md (ds ++ [.none]) := fun A N W O H σ Q a k =>
  h _ a fun A1 N1 H1 vs a1 s1 s2 s3 q => k A1 N1 H1 (vs ++ [V.non]) a1 s1 s2 s3 (dpAll_app q (.cons .non .nil))
theorem tCall_snoc : tCall sp [V.non] E ts = tCall sp [] E (tSnoc ts) := by
  funext σ H Q
  unfold tCall tSnoc
  simp only [List.append_nil]
theorem ev_dfl (h : Ev K H0 Γ (tCall sp [] E (tSnoc ts)) md d) : Ev K H0 Γ (tCall sp [V.non] E ts) md d := by rw [tCall_snoc]; exact h
theorem evO_dfl (h : EvO K H0 Γ (tCall sp [] E (tSnoc ts)) md ds) : EvO K H0 Γ (tCall sp [V.non] E ts) md ds := by rw [tCall_snoc]; exact h
theorem evP_dfl {dss : List (List PyData)} (h : EvP K H0 Γ (tCall sp [] E (tSnoc ts)) md dss) : EvP K H0 Γ (tCall sp [V.non] E ts) md dss := by rw [tCall_snoc]; exact h
end
end Mir

namespace Mir
open PySem PySem.Spec L2
open ToD (toD)
set_option autoImplicit false
/-! ## 27. a, b = a list of unlike things -/
section
variable {K : PySem.W.Frag} {H0 : Base} {ρ τ ω : Type} {R : Ex ρ} {Γ Γ2 : Ctx} {t u : TS} {Γ' : τ → Ctx} {I : ω → Fl ρ τ} {ta te ti : TE} {ts : TA} {md m1 m2 : Md} {d d1 d2 d3 d4 : PyData} {ds : List PyData}
theorem g_pairL {i j : Nat} (hm : md ≠ .h) (hij : i ≠ j := by decide) (hi : i < Γ.length := by decide) (hj : j < Γ.length := by decide) : Tg K H0 (gLst K 2 (gCons (gName i) (gCons (gName j) gNil))) md (.list [d1, d2]) [i, j] Γ ((Γ.set i (some (.v md d1))).set j (some (.v md d2))) := fun A N W O H σ v Q a q k => by
  obtain ⟨p, vs, rfl, hS, hA⟩ := dp_list q
  obtain ⟨x, y, rfl, q1, q2⟩ := dpAll_two hA
  refine ⟨p, _, rfl, a.sel_h.seq hS, rfl, x, _, rfl, y, _, rfl, rfl, ?_⟩
  refine k _ ((a.setv hi hm q1).setv (by rw [List.length_set]; exact hj) hm q2) ?_
  show ((((σ.set i (some x)).set j (some y)).set j none).set i none) = (σ.set j none).set i none
  rw [List.set_set, List.set_comm _ _ hij, List.set_set]
theorem g_triL {i j k : Nat} (hm : md ≠ .h) (hi : i < Γ.length := by decide) (hj : j < Γ.length := by decide) (hk : k < Γ.length := by decide) (hij : i ≠ j := by decide) (hik : i ≠ k := by decide) (hjk : j ≠ k := by decide) : Tg K H0 (gLst K 3 (gCons (gName i) (gCons (gName j) (gCons (gName k) gNil)))) md (.list [d1, d2, d3]) [i, j, k] Γ (((Γ.set i (some (.v md d1))).set j (some (.v md d2))).set k (some (.v md d3))) := fun A N W O H σ v Q a q kk => by
  obtain ⟨p, vs, rfl, hS, hA⟩ := dp_list q
  cases hA with
  | cons q1 hA =>
    obtain ⟨y, z, rfl, q2, q3⟩ := dpAll_two hA
    refine ⟨p, _, rfl, a.sel_h.seq hS, rfl, _, _, rfl, y, _, rfl, z, _, rfl, rfl, ?_⟩
    refine kk _ (((a.setv hi hm q1).setv (by rw [List.length_set]; exact hj) hm q2).setv (by rw [List.length_set, List.length_set]; exact hk) hm q3) ?_
    show ((((((σ.set i _).set j (some y)).set k (some z)).set k none).set j none).set i none) = ((σ.set k none).set j none).set i none
    rw [List.set_set, List.set_comm _ _ hjk, List.set_set, List.set_comm _ _ hik, List.set_comm _ _ hij, List.set_set]
theorem b_tupL2 {α β : Type} [ToD α] [ToD β] {i j : Nat} {p : Hl (α × β × Unit)} {k : α → β → Option ω} {Γ2 : α → β → Ctx} (he : Ev K H0 Γ te md (toD p)) (hm : md ≠ .h) (hi : i < Γ.length) (hj : j < Γ.length) (hij : i ≠ j) (hΓ : ∀ (x : α) (y : β), (Γ.set i (some (.v md (toD x)))).set j (some (.v md (toD y))) = Γ2 x y)
    (rest : ∀ x y, p = ⟨(x, y, ())⟩ → Blk K H0 R (Γ2 x y) u Γ' I (k x y)) : Blk K H0 R Γ (tSeq (tAsg te (gLst K 2 (gCons (gName i) (gCons (gName j) gNil)))) u) Γ' I (lt p.v.1 fun x => lt p.v.2.1 fun y => k x y) := by
  simp only [lt_def]
  obtain ⟨⟨x, y, ⟨⟩⟩⟩ := p
  refine b_tg he (g_pairL hm hij hi hj) ?_
  rw [hΓ]
  exact rest x y rfl
theorem b_tupL3 {α β γ : Type} [ToD α] [ToD β] [ToD γ] {i j l : Nat} {p : Hl (α × β × γ × Unit)} {k : α → β → γ → Option ω} {Γ2 : α → β → γ → Ctx} (he : Ev K H0 Γ te md (toD p)) (hm : md ≠ .h) (hi : i < Γ.length) (hj : j < Γ.length) (hl : l < Γ.length) (hij : i ≠ j) (hil : i ≠ l) (hjl : j ≠ l) (hΓ : ∀ (x : α) (y : β) (z : γ), ((Γ.set i (some (.v md (toD x)))).set j (some (.v md (toD y)))).set l (some (.v md (toD z))) = Γ2 x y z)
    (rest : ∀ x y z, p = ⟨(x, y, z, ())⟩ → Blk K H0 R (Γ2 x y z) u Γ' I (k x y z)) : Blk K H0 R Γ (tSeq (tAsg te (gLst K 3 (gCons (gName i) (gCons (gName j) (gCons (gName l) gNil))))) u) Γ' I (lt p.v.1 fun x => lt p.v.2.1 fun y => lt p.v.2.2.1 fun z => k x y z) := by
  simp only [lt_def]
  obtain ⟨⟨x, y, z, ⟨⟩⟩⟩ := p
  refine b_tg he (g_triL hm hi hj hl hij hil hjl) ?_
  rw [hΓ]
  exact rest x y z rfl
end
end Mir

namespace Mir
open PySem PySem.Spec L2
open ToD (toD)
set_option autoImplicit false
/-! ## a tuple of two lists of one's own -/
abbrev cq {α β : Type} [ToD α] [ToD β] (p : List α × List β) : Option Cell := some (.q .n (p.1.map toD) (p.2.map toD))
abbrev cQ {α β : Type} [ToD α] [ToD β] (p : List α × List β) : Option Cell := some (.q .s (p.1.map toD) (p.2.map toD))
/-- comes to a new tuple of two new lists, no one else's -/
def EvQ (K : PySem.W.Frag) (H0 : Base) (Γ : Ctx) (te : TE) (md : Md) (ds es : List PyData) : Prop :=
  ∀ ⦃A N : Hp⦄ ⦃W : Addr → Prop⦄ ⦃O : Nat → List Addr⦄ ⦃H : Hp⦄ ⦃σ : St⦄ (Q : VK), AtB K H0 A N W O H σ Γ →
    (∀ A' N' H' p l0 l1 vs ws, AtB K H0 A' N' W O H' σ Γ → Same A A' → Same N N' → Same H H' → N' p = some (.tup [.ref l0, .ref l1]) → l0 ≠ l1 →
      (A' l0 = none ∧ ¬ W l0) → (A' l1 = none ∧ ¬ W l1) → H' l0 = some (.lst vs) → DpAll K (md.sel A' N' H') vs ds → H' l1 = some (.lst ws) → DpAll K (md.sel A' N' H') ws es → Q (.ref p) H') → te σ H Q
def FnQ (K : PySem.W.Frag) (pre : List PyData → List PyData × List PyData → Prop) : Sp := fun vs H Q _ => ∃ ds rs, DpAll K H vs ds ∧ pre ds rs ∧
  ∀ p l0 l1 us ws N H', Same H H' → (∀ b o, N b = some o → H b = none ∨ FT o) → Same N H' → HLen H' → N p = some (.tup [.ref l0, .ref l1]) → l0 ≠ l1 → (H l0 = none ∧ N l0 = none) → (H l1 = none ∧ N l1 = none) →
    H' l0 = some (.lst us) → DpAll K N us rs.1 → H' l1 = some (.lst ws) → DpAll K N ws rs.2 → Q (.ref p) H'
def RetQ (K : PySem.W.Frag) (H0 : Base) {α β : Type} [ToD α] [ToD β] (r : List α × List β) (v : V) (H : Hp) : Prop := Same H0 H ∧ HLen H ∧ ∃ N p l0 l1 us ws, v = .ref p ∧ (∀ b o, N b = some o → H0.Fr b o) ∧ Same N H ∧
  N p = some (.tup [.ref l0, .ref l1]) ∧ l0 ≠ l1 ∧ (H0 l0 = none ∧ N l0 = none) ∧ (H0 l1 = none ∧ N l1 = none) ∧ H l0 = some (.lst us) ∧ DpAll K N us (r.1.map toD) ∧ H l1 = some (.lst ws) ∧ DpAll K N ws (r.2.map toD)
section
variable {K : PySem.W.Frag} {H0 : Base} {ρ τ υ ω : Type} {R : Ex ρ} {Γ Γ2 : Ctx} {t u : TS} {Γ' : τ → Ctx} {I : ω → Fl ρ τ} {te ta tb : TE} {ts : TA} {md : Md} {d : PyData} {ds es : List PyData}
theorem q_call {pre : List PyData → List PyData × List PyData → Prop} {E : XK} {r1 r2 : List PyData} (hs : EvA K H0 Γ ts .h ds) (hp : pre ds (r1, r2)) : EvQ K H0 Γ (tCall (FnQ K pre) [] E ts) md r1 r2 := fun A N W O H σ Q a k =>
  hs _ a fun A1 N1 H1 vs a1 s1 s2 s3 q1 => by
    refine ⟨ds, (r1, r2), by rw [List.append_nil]; exact q1, hp, fun p l0 l1 us ws M H' sH fr sM hl hp' hne h0 h1 e0 q0 e1 q1 => ?_⟩
    obtain ⟨a2, u1, u2, u3, u4⟩ := a1.called sH fr sM hl
    exact k _ _ H' p l0 l1 us ws a2 (s1.trans u1) (s2.trans u2) (s3.trans sH) (u3 _ _ hp') hne ⟨uni_none (a1.ah.free h0.1) h0.2, a1.noW h0.1⟩ ⟨uni_none (a1.ah.free h1.1) h1.2, a1.noW h1.1⟩ e0 (dpAll_n u3 u4 sM q0) e1 (dpAll_n u3 u4 sM q1)
theorem sel_nh {A N H : Hp} (na : Same N A) (ah : Same A H) : Same N (md.sel A N H) := by
  cases md
  · exact na.trans ah
  · exact na
  · exact Same.refl _
theorem evQ_ev (e : EvQ K H0 Γ te .n ds es) : Ev K H0 Γ te .n (.tuple [.list ds, .list es]) := fun A N W O H σ Q a k =>
  e _ a fun A1 N1 H1 p l0 l1 us ws a1 s1 s2 s3 hp hne h0 h1 e0 q0 e1 q1 => by
    have a2 := a1.freeze h0.1 h0.2 e0
    have n0 : N1 l0 = none := a1.na.free h0.1
    have n1 : N1 l1 = none := a1.na.free h1.1
    have a3 := a2.freeze (l := l1) (by rw [upd_ne (Ne.symm hne)]; exact h1.1) h1.2 e1
    have z1 : Same N1 (upd N1 l0 (.lst us)) := same_upd n0
    have z2 : Same (upd N1 l0 (.lst us)) (upd (upd N1 l0 (.lst us)) l1 (.lst ws)) := same_upd (by rw [upd_ne (Ne.symm hne)]; exact n1)
    have y1 : Same A1 (upd A1 l0 (.lst us)) := same_upd h0.1
    have y2 : Same (upd A1 l0 (.lst us)) (upd (upd A1 l0 (.lst us)) l1 (.lst ws)) := same_upd (by rw [upd_ne (Ne.symm hne)]; exact h1.1)
    refine k _ _ H1 (.ref p) a3 (s1.trans (y1.trans y2)) (s2.trans (z1.trans z2)) s3 ?_
    show Dp K (upd (upd N1 l0 (.lst us)) l1 (.lst ws)) _ _
    refine .tup ((z1.trans z2) _ _ hp) (.cons (.lst (.inl (.inl ?_)) (dpAll_mono (z1.trans z2) q0)) (.cons (.lst (.inl (.inl upd_same)) (dpAll_mono (z1.trans z2) q1)) .nil))
    rw [upd_ne hne]; exact upd_same
theorem evQ_evT {α β : Type} [ToD α] [ToD β] {p : List α × List β} (e : EvQ K H0 Γ te .n (p.1.map toD) (p.2.map toD)) : Ev K H0 Γ te .n (toD p) := evQ_ev e
theorem b_asgQ {i : Nat} {m : Option ω} (he : EvQ K H0 Γ te md ds es) (hm : md ≠ .h) (hi : i < Γ.length) (hΓ : Γ.set i (some (.q md ds es)) = Γ2) (rest : Blk K H0 R Γ2 u Γ' I m) : Blk K H0 R Γ (tSeq (tAsg te (gName i)) u) Γ' I m := fun w hw D A N W O H σ a kn kr =>
  he _ a fun A1 N1 H1 p l0 l1 us ws a1 s1 s2 s3 hp hne h0 h1 e0 q0 e1 q1 => by
    subst hΓ
    have a2 := a1.seto (i := i) (x := .ref p) (c := .q md ds es) (L := [l0, l1]) hi (fun k hk => by
      rcases List.mem_cons.mp hk with rfl | hk
      · exact ⟨h0.2, h0.1, .lst e0⟩
      · rw [List.mem_singleton.mp hk]; exact ⟨h1.2, h1.1, .lst e1⟩) (List.nodup_cons.mpr ⟨by simpa using hne, List.nodup_cons.mpr ⟨by simp, .nil⟩⟩) ⟨hm, p, l0, l1, us, ws, rfl, rfl, sel_nh a1.na a1.ah _ _ hp, e0, q0, e1, q1⟩
    exact rest w hw D a2 (fun st e A' N' W' O' H' σ' a' x1 x2 => kn st e A' N' W' O' H' σ' a' (s1.trans x1) (s2.trans x2)) (fun r e => R.mono s1 s2 (kr r e))
theorem b_asgQL {α β : Type} [ToD α] [ToD β] {i : Nat} {e : List α × List β} {k : List α × List β → Option ω} {Γ2 : List α × List β → Ctx} (he : EvQ K H0 Γ te md (e.1.map toD) (e.2.map toD)) (hm : md ≠ .h) (hi : i < Γ.length) (hΓ : ∀ x : List α × List β, Γ.set i (some (.q md (x.1.map toD) (x.2.map toD))) = Γ2 x) (rest : ∀ x, x = e → Blk K H0 R (Γ2 x) u Γ' I (k x)) : Blk K H0 R Γ (tSeq (tAsg te (gName i)) u) Γ' I (lt e k) := by
  rw [lt_def]; exact b_asgQ he hm hi (hΓ e) (rest e rfl)
theorem ev_varQ {i : Nat} (h : Γ[i]? = some (some (.q md ds es)) := by rfl) : Ev K H0 Γ (tVar i) .h (.tuple [.list ds, .list es]) := fun A N W O H σ Q a k => by
  obtain ⟨x, ex, hm, p, l0, l1, us, ws, rfl, eO, hp, e0, q0, e1, q1⟩ := a.cs i _ h
  exact ⟨_, ex, k A N H _ a (Same.refl _) (Same.refl _) (Same.refl _) (.tup (a.sel_h _ _ hp) (.cons (.lst (.inl (.inl e0)) (dpAll_mono a.sel_h q0)) (.cons (.lst (.inl (.inl e1)) (dpAll_mono a.sel_h q1)) .nil)))⟩
theorem ev_varQ' {α β : Type} [ToD α] [ToD β] {i : Nat} {p : List α × List β} (h : Γ[i]? = some (some (.q md (p.1.map toD) (p.2.map toD))) := by rfl) : Ev K H0 Γ (tVar i) .h (toD p) := ev_varQ h
theorem AtB.mutQ {i : Nat} {A N : Hp} {W : Addr → Prop} {O : Nat → List Addr} {H : Hp} {σ : St} (a : AtB K H0 A N W O H σ Γ) (h : Γ[i]? = some (some (.q md ds es))) :
    ∃ p l0 l1 vs ws, σ[i]? = some (some (.ref p)) ∧ H p = some (.tup [.ref l0, .ref l1]) ∧ H l0 = some (.lst vs) ∧ DpAll K (md.sel A N H) vs ds ∧ H l1 = some (.lst ws) ∧ DpAll K (md.sel A N H) ws es ∧
      (∀ vs' ds', vs'.length ≤ sizeLine → DpAll K (md.sel A N H) vs' ds' → AtB K H0 A N W O (upd H l0 (.lst vs')) σ (Γ.set i (some (.q md ds' es)))) ∧
      (∀ ws' es', ws'.length ≤ sizeLine → DpAll K (md.sel A N H) ws' es' → AtB K H0 A N W O (upd H l1 (.lst ws')) σ (Γ.set i (some (.q md ds es')))) := by
  obtain ⟨x, ex, hm, p, l0, l1, vs, ws, rfl, eO, hp, e0, q0, e1, q1⟩ := a.cs i _ h
  have hl0 : l0 ∈ O i := by rw [eO]; exact List.mem_cons_self
  have hl1 : l1 ∈ O i := by rw [eO]; exact List.mem_cons_of_mem _ List.mem_cons_self
  have nd := a.nd i
  rw [eO] at nd
  have hne : l0 ≠ l1 := fun z => by simp [z] at nd
  have hi := lt_of_get h
  have a0 : AtB K H0 A N W O H σ (Γ.set i none) := a.weak (by rw [List.length_set]) fun j c e => by
    by_cases z : j = i
    · subst z; rw [List.getElem?_set_self hi] at e; cases e
    · rw [List.getElem?_set_ne (Ne.symm z)] at e; exact e
  refine ⟨p, l0, l1, vs, ws, ex, a.sel_h _ _ hp, e0, q0, e1, q1, fun vs' ds' hz q' => ?_, fun ws' es' hz q' => ?_⟩
  · have a1 := a0.write (vs := vs') (a.sub i l0 hl0) hz fun j c e hj => by
      have z : j = i := a.dj j i l0 hj hl0
      subst z; rw [List.getElem?_set_self hi] at e; cases e
    exact { a1 with
      len := by rw [List.length_set]; exact a.len
      cs := fun j c e => by
        by_cases z : j = i
        · subst z
          rw [List.getElem?_set_self hi] at e; cases e
          refine ⟨_, ex, hm, p, l0, l1, vs', ws, rfl, eO, ?_, upd_same, sel_upd hm q', by rw [upd_ne (Ne.symm hne)]; exact e1, sel_upd hm q1⟩
          cases md
          · exact absurd rfl hm
          · exact hp
          · exact hp
        · rw [List.getElem?_set_ne (Ne.symm z)] at e
          exact a1.cs j c (by rw [List.getElem?_set_ne (Ne.symm z)]; exact e) }
  · have a1 := a0.write (vs := ws') (a.sub i l1 hl1) hz fun j c e hj => by
      have z : j = i := a.dj j i l1 hj hl1
      subst z; rw [List.getElem?_set_self hi] at e; cases e
    exact { a1 with
      len := by rw [List.length_set]; exact a.len
      cs := fun j c e => by
        by_cases z : j = i
        · subst z
          rw [List.getElem?_set_self hi] at e; cases e
          refine ⟨_, ex, hm, p, l0, l1, vs, ws', rfl, eO, ?_, by rw [upd_ne hne]; exact e0, sel_upd hm q0, upd_same, sel_upd hm q'⟩
          cases md
          · exact absurd rfl hm
          · exact hp
          · exact hp
        · rw [List.getElem?_set_ne (Ne.symm z)] at e
          exact a1.cs j c (by rw [List.getElem?_set_ne (Ne.symm z)]; exact e) }
/-- p[0].append(e) -/
theorem b_qapp0 {α β : Type} [ToD α] [ToD β] {p : List α × List β} {xs' : List α} {y : α} {i : Nat} {k : List α × List β → Option ω} {Γ2 : List α × List β → Ctx} (h : Γ[i]? = some (some (.q md (p.1.map toD) (p.2.map toD)))) (he : Ev K H0 Γ te md (toD y)) (hy : appO p.1 y = some xs')
    (hΓ : ∀ x : List α × List β, Γ.set i (some (.q md (x.1.map toD) (x.2.map toD))) = Γ2 x) (rest : ∀ x, x = (xs', p.2) → Blk K H0 R (Γ2 x) u Γ' I (k x)) :
    Blk K H0 R Γ (tSeq (tDrop (tBM K "list" rAppend (tOp (rIxT K) (tVar i) (tC (.int 0))) (tCons te tNil))) u) Γ' I (lt (xs', p.2) k) := by
  rw [lt_def]
  have hΓ2 := hΓ (xs', p.2)
  have rest2 := rest _ rfl
  rw [← hΓ2] at rest2
  refine fun w hw D A N W O H σ a kn kr => ?_
  obtain ⟨r0, m0, m1, vs0, ws0, ex0, hp0, e00, _, _, _, _, _⟩ := a.mutQ h
  refine ⟨_, ex0, r0, [.ref m0, .ref m1], 0, .ref m0, rfl, rfl, .inl (.inl hp0), rfl, tyL e00, ?_⟩
  refine he _ a fun A1 N1 H1 v a1 s1 s2 s3 q => ?_
  obtain ⟨r, l0, l1, vs, ws, ex, hp, e0, q0, e1, q1, nx, _⟩ := a1.mutQ h
  have z1 : V.ref r0 = V.ref r := Option.some.inj (Option.some.inj (ex0.symm.trans ex))
  cases z1
  have z2 := (s3 _ _ hp0).symm.trans hp
  cases z2
  unfold appO at hy
  split at hy
  · rename_i hz
    cases hy
    have hlen : vs.length < sizeLine := by rw [dpAll_len q0, List.length_map, lim_eq]; exact hz
    refine ⟨m0, vs, v, rfl, rfl, e0, hlen, ?_⟩
    have a2 := nx (vs ++ [v]) ((p.1 ++ [y]).map toD) (by rw [List.length_append]; exact hlen) (by rw [List.map_append]; exact dpAll_app q0 (.cons q .nil))
    exact rest2 w hw D a2 (fun st' e' A'' N'' W'' O'' H'' σ'' a'' y1 y2 => kn st' e' A'' N'' W'' O'' H'' σ'' a'' (s1.trans y1) (s2.trans y2)) (fun r e => R.mono s1 s2 (kr r e))
  · cases hy
/-- p[1].clear() -/
theorem b_qclr1 {α β : Type} [ToD α] [ToD β] {p : List α × List β} {i : Nat} {k : List α × List β → Option ω} {Γ2 : List α × List β → Ctx} (h : Γ[i]? = some (some (.q md (p.1.map toD) (p.2.map toD))))
    (hΓ : ∀ x : List α × List β, Γ.set i (some (.q md (x.1.map toD) (x.2.map toD))) = Γ2 x) (rest : ∀ x, x = (p.1, []) → Blk K H0 R (Γ2 x) u Γ' I (k x)) :
    Blk K H0 R Γ (tSeq (tDrop (tBM0 K "list" rClear (tOp (rIxT K) (tVar i) (tC (.int 1))))) u) Γ' I (lt (p.1, []) k) := by
  rw [lt_def]
  have hΓ2 := hΓ (p.1, [])
  have rest2 := rest _ rfl
  rw [← hΓ2] at rest2
  refine fun w hw D A N W O H σ a kn kr => ?_
  obtain ⟨r, l0, l1, vs, ws, ex, hp, e0, q0, e1, q1, _, nx⟩ := a.mutQ h
  refine ⟨_, ex, r, [.ref l0, .ref l1], 1, .ref l1, rfl, rfl, .inl (.inl hp), rfl, tyL e1, l1, ws, rfl, rfl, e1, ?_⟩
  exact rest2 w hw D (nx [] [] (Nat.zero_le _) .nil) kn kr
/-- p[1].reverse() -/
theorem b_qrev1 {α β : Type} [ToD α] [ToD β] {p : List α × List β} {i : Nat} {k : List α × List β → Option ω} {Γ2 : List α × List β → Ctx} (h : Γ[i]? = some (some (.q md (p.1.map toD) (p.2.map toD))))
    (hΓ : ∀ x : List α × List β, Γ.set i (some (.q md (x.1.map toD) (x.2.map toD))) = Γ2 x) (rest : ∀ x, x = (p.1, p.2.reverse) → Blk K H0 R (Γ2 x) u Γ' I (k x)) :
    Blk K H0 R Γ (tSeq (tDrop (tBM0 K "list" rReverse (tOp (rIxT K) (tVar i) (tC (.int 1))))) u) Γ' I (lt (p.1, p.2.reverse) k) := by
  rw [lt_def]
  have hΓ2 := hΓ (p.1, p.2.reverse)
  have rest2 := rest _ rfl
  rw [← hΓ2] at rest2
  refine fun w hw D A N W O H σ a kn kr => ?_
  obtain ⟨r, l0, l1, vs, ws, ex, hp, e0, q0, e1, q1, _, nx⟩ := a.mutQ h
  refine ⟨_, ex, r, [.ref l0, .ref l1], 1, .ref l1, rfl, rfl, .inl (.inl hp), rfl, tyL e1, l1, ws, rfl, rfl, e1, ?_⟩
  exact rest2 w hw D (nx ws.reverse (p.2.reverse.map toD) (by rw [List.length_reverse]; exact a.hl l1 ws (.inl e1)) (by rw [List.map_reverse]; exact dpAll_rev q1)) kn kr
/-- (a, b) of two new lists -/
theorem q_tup (ha : EvO K H0 Γ ta md ds) (hb : EvO K H0 Γ tb md es) : EvQ K H0 Γ (tTup (tCons ta (tCons tb tNil))) md ds es := fun A N W O H σ Q a k => by
  refine ha _ a fun A1 N1 H1 l0 vs a1 s1 s2 s3 h01 h02 h03 e0 q0 => ?_
  have a1' := a1.reserve h02 (.lst e0)
  refine hb _ a1' fun A2 N2 H2 l1 ws a2 t1 t2 t3 h11 h12 h13 e1 q1 => ?_
  refine ⟨by show 2 ≤ sizeLine; decide, fun p hp => ?_⟩
  have a3 := a2.alloc (o := .tup [.ref l0, .ref l1]) hp a2.hl.upd_tup
  have a4 := a3.unreserve (W := W) (fun b w => .inl w) a1.sub
  have A2p : A2 p = none := a2.ah.free hp
  have N2p : N2 p = none := a2.na.free A2p
  have hne : l0 ≠ l1 := fun z => h13 (.inr z.symm)
  have e0' := t3 _ _ e0
  have p0 : l0 ≠ p := fun z => by rw [z, hp] at e0'; cases e0'
  have p1 : l1 ≠ p := fun z => by rw [z, hp] at e1; cases e1
  have A2l0 : A2 l0 = none := (a2.own l0 (.inr rfl)).1
  exact k _ _ _ p l0 l1 vs ws a4 (s1.trans (t1.trans (same_upd A2p))) (s2.trans (t2.trans (same_upd N2p))) (s3.trans (t3.trans (same_upd hp))) upd_same hne ⟨by rw [upd_ne p0]; exact A2l0, h03⟩ ⟨by rw [upd_ne p1]; exact h12, fun w => h13 (.inl w)⟩
    (by rw [upd_ne p0]; exact e0') (dpAll_mono (Md.sel_mono (t1.trans (same_upd A2p)) (t2.trans (same_upd N2p)) (t3.trans (same_upd hp))) q0) (by rw [upd_ne p1]; exact e1) (dpAll_mono (Md.sel_mono (same_upd A2p) (same_upd N2p) (same_upd hp)) q1)
/-- return a, b: two lists of its own -/
theorem AtB.retQv {α β : Type} [ToD α] [ToD β] {i j : Nat} {xs : List α} {ys : List β} {A N : Hp} {W : Addr → Prop} {O : Nat → List Addr} {H : Hp} {σ : St} {Q : VK} (a : AtB K H0 A N W O H σ Γ) (hi : Γ[i]? = some (some (.o .n (xs.map toD)))) (hj : Γ[j]? = some (some (.o .n (ys.map toD)))) (hij : i ≠ j)
    (k : ∀ v H', RetQ K H0 (xs, ys) v H' → Q v H') : tTup (tCons (tVar i) (tCons (tVar j) tNil)) σ H Q := by
  obtain ⟨x, ex, hm, l0, vs, rfl, eO, e0, q0⟩ := a.cs i _ hi
  obtain ⟨y, ey, hm', l1, ws, rfl, eO', e1, q1⟩ := a.cs j _ hj
  have hA0 := (a.own l0 (a.sub i l0 (by rw [eO]; exact List.mem_cons_self))).1
  have hA1 := (a.own l1 (a.sub j l1 (by rw [eO']; exact List.mem_cons_self))).1
  have hne : l0 ≠ l1 := fun z => hij (a.dj i j l0 (by rw [eO]; exact List.mem_cons_self) (by rw [eO', z]; exact List.mem_cons_self))
  refine ⟨_, ex, _, ey, by show 2 ≤ sizeLine; decide, fun p hp => k _ _ ?_⟩
  have a3 := a.alloc (o := .tup [.ref l0, .ref l1]) hp a.hl.upd_tup
  have Ap : A p = none := a.ah.free hp
  have Np : N p = none := a.na.free Ap
  have p0 : l0 ≠ p := fun z => by rw [z, hp] at e0; cases e0
  have p1 : l1 ≠ p := fun z => by rw [z, hp] at e1; cases e1
  exact ⟨a3.h0h, a3.hl, _, p, l0, l1, vs, ws, rfl, a3.fr, a3.na.trans a3.ah, upd_same, hne, ⟨a.h0.free hA0, by rw [upd_ne p0]; exact a.na.free hA0⟩, ⟨a.h0.free hA1, by rw [upd_ne p1]; exact a.na.free hA1⟩, by rw [upd_ne p0]; exact e0, dpAll_mono (same_upd Np) q0, by rw [upd_ne p1]; exact e1, dpAll_mono (same_upd Np) q1⟩
theorem b_retQv {α β : Type} [ToD α] [ToD β] {i j : Nat} {xs : List α} {ys : List β} {Γ' : τ → Ctx} (hij : i ≠ j) (hi : Γ[i]? = some (some (.o .n (xs.map toD))) := by rfl) (hj : Γ[j]? = some (some (.o .n (ys.map toD))) := by rfl) : Blk K H0 (exR (RetQ K H0)) Γ (tSeq (tRet (tTup (tCons (tVar i) (tCons (tVar j) tNil)))) u) Γ' Fl.ret (some (xs, ys)) := fun w hw D A N W O H σ a kn kr => by
  cases hw
  exact a.retQv hi hj hij fun v H' q => kr _ rfl v H' q
theorem b_freezeF {i : Nat} {m : Option ω} (h : Γ[i]? = some (some (.o md ds))) (hΓ : Γ.set i (some (.f md ds)) = Γ2) (rest : Blk K H0 R Γ2 t Γ' I m) : Blk K H0 R Γ t Γ' I m := fun w hw D A N W O H σ a kn kr => by
  subst hΓ
  obtain ⟨x, ex, hm, l, vs, rfl, eO, el, q⟩ := a.cs i _ h
  have hl : l ∈ O i := by rw [eO]; exact List.mem_cons_self
  have hw' := a.sub i l hl
  have hA : A l = none := (a.own l hw').1
  have a0 : AtB K H0 A N (fun b => W b ∧ b ≠ l) (fun j => if j = i then [] else O j) H σ (Γ.set i none) :=
    { a with
      own := fun b w => a.own b w.1
      sub := fun j k hk => by
        by_cases z : j = i
        · rw [if_pos z] at hk; cases hk
        · rw [if_neg z] at hk
          exact ⟨a.sub j k hk, fun e => z (a.dj j i k hk (e ▸ hl))⟩
      dj := fun j k b h1 h2 => by
        by_cases z : j = i
        · rw [if_pos z] at h1; cases h1
        · by_cases z2 : k = i
          · rw [if_pos z2] at h2; cases h2
          · rw [if_neg z] at h1; rw [if_neg z2] at h2; exact a.dj j k b h1 h2
      nd := fun j => by
        by_cases z : j = i
        · rw [if_pos z]; exact .nil
        · rw [if_neg z]; exact a.nd j
      len := by rw [List.length_set]; exact a.len
      cs := fun j c e => by
        by_cases z : j = i
        · subst z; rw [List.getElem?_set_self (lt_of_get h)] at e; cases e
        · rw [List.getElem?_set_ne (Ne.symm z)] at e
          rw [if_neg z]
          exact a.cs j c e }
  have a1 := a0.freeze hA (fun z => z.2 rfl) el
  have e1 : Same A (upd A l (.lst vs)) := same_upd hA
  have e2 : Same N (upd N l (.lst vs)) := same_upd (a.na.free hA)
  have hi := lt_of_get h
  have q' : DpAll K (md.sel (upd A l (.lst vs)) (upd N l (.lst vs)) H) vs ds := dpAll_mono (Md.sel_mono e1 e2 (Same.refl _)) q
  have a2 : AtB K H0 (upd A l (.lst vs)) (upd N l (.lst vs)) (fun b => W b ∧ b ≠ l) (fun j => if j = i then [] else O j) H σ (Γ.set i (some (.f md ds))) :=
    { a1 with
      len := by rw [List.length_set]; exact a.len
      cs := fun j c e => by
        by_cases z : j = i
        · subst z
          rw [List.getElem?_set_self hi] at e; cases e
          exact ⟨_, ex, hm, l, vs, rfl, upd_same, q'⟩
        · rw [List.getElem?_set_ne (Ne.symm z)] at e
          exact a1.cs j c (by rw [List.getElem?_set_ne (Ne.symm z)]; exact e) }
  exact rest w hw D a2 (fun st e A' N' W' O' H' σ' a' x1 x2 => kn st e A' N' W' O' H' σ' a' (e1.trans x1) (e2.trans x2)) (fun r e => R.mono e1 e2 (kr r e))
theorem ev_varf {i : Nat} {α : Type} [ToD α] {xs : List α} (h : Γ[i]? = some (some (.f md (xs.map toD))) := by rfl) : Ev K H0 Γ (tVar i) md (toD xs) := fun A N W O H σ Q a k => by
  obtain ⟨x, ex, hm, l, vs, rfl, e, q⟩ := a.cs i _ h
  refine ⟨_, ex, k A N H _ a (Same.refl _) (Same.refl _) (Same.refl _) (.lst (.inl (.inl ?_)) q)⟩
  cases md
  · exact absurd rfl hm
  · exact a.na _ _ e
  · exact e
abbrev cf {α : Type} [ToD α] (xs : List α) : Option Cell := some (.f .n (xs.map toD))
abbrev cF {α : Type} [ToD α] (xs : List α) : Option Cell := some (.f .s (xs.map toD))
theorem wk_f {md : Md} {ds : List PyData} {Γ Γ' : Ctx} (w : Wk Γ Γ') : Wk (some (.f md ds) :: Γ) (some (.v md (.list ds)) :: Γ') := .cons (.fv md ds) w
/-- flat, or a tuple of flat things -/
def f2D (d : PyData) : Bool := flatD d || ftD d
theorem dp_f2 {S H M : Hp} (sS : Same S H) (hM : ∀ t o, FT o → H t = some o → M t = some o) {v : V} {d : PyData} (h : f2D d = true) (q : Dp K S v d) : Dp K M v d := by
  rcases Bool.or_eq_true _ _ |>.mp h with h | h
  · exact dp_flat h q
  · cases q with
    | tup ht hA =>
      have h' := (show _ from h)
      exact .tup (hM _ _ ⟨_, rfl, flatV_all h' hA⟩ (sS _ _ ht)) (flatAll h' hA)
    | _ => cases h
theorem dpAll_f2 {S H M : Hp} (sS : Same S H) (hM : ∀ t o, FT o → H t = some o → M t = some o) : ∀ {vs : List V} {ds : List PyData}, (∀ d ∈ ds, f2D d = true) → DpAll K S vs ds → DpAll K M vs ds
  | _, _, _, .nil => .nil
  | _, _, h, .cons q t => .cons (dp_f2 sS hM (h _ List.mem_cons_self) q) (dpAll_f2 sS hM (fun d hd => h d (List.mem_cons_of_mem _ hd)) t)
open Classical in
/-- the tuples of flat things, and one more -/
noncomputable def ftH (H : Hp) (p : Addr) : Hp := fun b => if b = p ∨ ∃ o, H b = some o ∧ FT o then H b else none
theorem ftH_same {H : Hp} {p : Addr} : Same (ftH H p) H := fun b o e => by
  unfold ftH at e
  split at e
  · exact e
  · cases e
theorem ftH_of {H : Hp} {p t : Addr} {o : HO} (ft : FT o) (e : H t = some o) : ftH H p t = some o := by
  unfold ftH
  rw [if_pos (.inr ⟨o, e, ft⟩)]; exact e
theorem ftH_p {H : Hp} {p : Addr} {o : HO} (e : H p = some o) : ftH H p p = some o := by
  unfold ftH
  rw [if_pos (.inl rfl)]; exact e
theorem ftH_none {H : Hp} {p b : Addr} {xs : List V} (e : H b = some (.lst xs)) (hb : b ≠ p) : ftH H p b = none := by
  unfold ftH
  rw [if_neg]
  rintro (z | ⟨o, e2, ft⟩)
  · exact hb z
  · rw [e] at e2; cases e2
    obtain ⟨ys, z, _⟩ := ft
    cases z
/-- return a, b: a list that was its own, and one that is -/
theorem AtB.retQf {E : Hp} {α β : Type} [ToD α] [ToD β] {i j : Nat} {xs : List α} {ys : List β} {A N : Hp} {W : Addr → Prop} {O : Nat → List Addr} {H : Hp} {σ : St} {Q : VK} (a : AtB K (bs E) A N W O H σ Γ) (hi : Γ[i]? = some (some (.f .n (xs.map toD)))) (hj : Γ[j]? = some (some (.o .n (ys.map toD))))
    (fx : ∀ x : α, f2D (toD x) = true) (fy : ∀ y : β, f2D (toD y) = true) (k : ∀ v H', RetQ K (bs E) (xs, ys) v H' → Q v H') : tTup (tCons (tVar i) (tCons (tVar j) tNil)) σ H Q := by
  obtain ⟨x, ex, hm, l0, vs, rfl, e0, q0⟩ := a.cs i _ hi
  obtain ⟨y, ey, hm', l1, ws, rfl, eO', e1, q1⟩ := a.cs j _ hj
  have hA1 := (a.own l1 (a.sub j l1 (by rw [eO']; exact List.mem_cons_self))).1
  have N1 : N l1 = none := a.na.free hA1
  have hne : l0 ≠ l1 := fun z => by rw [z, N1] at e0; cases e0
  refine ⟨_, ex, _, ey, by show 2 ≤ sizeLine; decide, fun p hp => k _ _ ?_⟩
  have a3 := a.alloc (o := .tup [.ref l0, .ref l1]) hp a.hl.upd_tup
  have e0H := (a.na.trans a.ah) _ _ e0
  have p0 : l0 ≠ p := fun z => by rw [z, hp] at e0H; cases e0H
  have p1 : l1 ≠ p := fun z => by rw [z, hp] at e1; cases e1
  have E0 : E l0 = none := by
    rcases a.fr l0 _ e0 with z | z | z
    · exact z
    · cases z
    · obtain ⟨ys, z, _⟩ := z; cases z
  have e0' : (upd H p (.tup [.ref l0, .ref l1])) l0 = some (.lst vs) := by rw [upd_ne p0]; exact e0H
  have e1' : (upd H p (.tup [.ref l0, .ref l1])) l1 = some (.lst ws) := by rw [upd_ne p1]; exact e1
  have sN : Same N (upd H p (.tup [.ref l0, .ref l1])) := (a.na.trans a.ah).trans (same_upd hp)
  have m2 : ∀ {γ : Type} [ToD γ] {zs : List γ}, (∀ z : γ, f2D (toD z) = true) → ∀ d ∈ zs.map toD, f2D d = true := fun f d hd => by
    obtain ⟨z, _, rfl⟩ := List.mem_map.mp hd
    exact f z
  refine ⟨a3.h0h, a3.hl, ftH (upd H p (.tup [.ref l0, .ref l1])) p, p, l0, l1, vs, ws, rfl, fun b o e => ?_, ftH_same, ftH_p upd_same, hne, ⟨E0, ftH_none e0' p0⟩, ⟨a.h0.free hA1, ftH_none e1' p1⟩, e0', dpAll_f2 sN (fun t o ft e => ftH_of ft e) (m2 fx) q0, e1', dpAll_f2 sN (fun t o ft e => ftH_of ft e) (m2 fy) q1⟩
  unfold ftH at e
  split at e
  · rename_i z
    rcases z with z | ⟨o', e2, ft⟩
    · subst z; exact .inl (a.h0.free (a.ah.free hp))
    · rw [e] at e2; cases e2; exact .inr (.inr ft)
  · cases e
theorem b_retQf {E : Hp} {α β : Type} [ToD α] [ToD β] {i j : Nat} {xs : List α} {ys : List β} {Γ' : τ → Ctx} (fx : ∀ x : α, f2D (toD x) = true) (fy : ∀ y : β, f2D (toD y) = true) (hi : Γ[i]? = some (some (.f .n (xs.map toD))) := by rfl) (hj : Γ[j]? = some (some (.o .n (ys.map toD))) := by rfl) : Blk K (bs E) (exR (RetQ K (bs E))) Γ (tSeq (tRet (tTup (tCons (tVar i) (tCons (tVar j) tNil)))) u) Γ' Fl.ret (some (xs, ys)) := fun w hw D A N W O H σ a kn kr => by
  cases hw
  exact a.retQf hi hj fx fy fun v H' q => kr _ rfl v H' q
end
section
variable {K : PySem.W.Frag} {N : List Str} {vs : List V} {H : Hp} {Q : VK} {ds : List PyData} {t : TS} {τ : Type} {Γ : Ctx} {Γ' : τ → Ctx}
theorem body_Q {α β : Type} [ToD α] [ToD β] {m : Option (List α × List β)} {r : List α × List β} (hl : HLen H) (hd : DpAll K H vs ds) (hm : m = some r) (hn : ds.length ≤ N.length) (hΓ : entryC ds N.length = Γ) (hb : Blk K (bs H) (exR (RetQ K (bs H))) Γ t Γ' Fl.ret m)
    (k : ∀ p l0 l1 us ws M H', Same H H' → (∀ b o, M b = some o → H b = none ∨ FT o) → Same M H' → HLen H' → M p = some (.tup [.ref l0, .ref l1]) → l0 ≠ l1 → (H l0 = none ∧ M l0 = none) → (H l1 = none ∧ M l1 = none) →
      H' l0 = some (.lst us) → DpAll K M us (r.1.map toD) → H' l1 = some (.lst ws) → DpAll K M ws (r.2.map toD) → Q (.ref p) H') : t { nx := fun _ H' => Q .non H', rt := Q } (L2.start N vs) H := by
  subst hΓ
  exact hb r hm _ (entry hl hd hn) (fun st e => by cases e) fun r' e v H' q => by
    cases e
    obtain ⟨h0, h1, M, p, l0, l1, us, ws, rfl, h2, h3, h4, h5, h6, h7, h8, h9, h10, h11⟩ := q
    exact k p l0 l1 us ws M H' h0 (fun b o e => (h2 b o e).imp id fun z => z.resolve_left (by simp)) h3 h1 h4 h5 h6 h7 h8 h9 h10 h11
end
end Mir

namespace Mir
open PySem PySem.Spec L2
open ToD (toD)
set_option autoImplicit false
/-! ## a list of one's own lists that grows -/
section
variable {K : PySem.W.Frag} {H0 : Base} {ρ τ υ ω : Type} {R : Ex ρ} {Γ Γ2 : Ctx} {t u : TS} {Γ' : τ → Ctx} {I : ω → Fl ρ τ} {te ta tb : TE} {ts : TA} {md : Md} {d : PyData} {ds es : List PyData}
theorem p_nil (e : EvO K H0 Γ te md []) : EvP K H0 Γ te md [] := fun A N W O H σ Q a k =>
  e _ a fun A1 N1 H1 l vs a1 s1 s2 s3 h1 h2 h3 h4 q => by
    cases q
    exact k A1 N1 H1 l [] a1 s1 s2 s3 (fun k hk => by rw [List.mem_singleton.mp hk]; exact ⟨h1, h2, h3⟩) (List.nodup_cons.mpr ⟨by simp, .nil⟩) h4 trivial
theorem b_asgPL {α : Type} [ToD α] {i : Nat} {e : List (List α)} {k : List (List α) → Option ω} {Γ2 : List (List α) → Ctx} (he : EvP K H0 Γ te md (e.map (·.map toD))) (hm : md ≠ .h) (hi : i < Γ.length) (hΓ : ∀ x : List (List α), Γ.set i (some (.p md (x.map (·.map toD)))) = Γ2 x) (rest : ∀ x, x = e → Blk K H0 R (Γ2 x) u Γ' I (k x)) : Blk K H0 R Γ (tSeq (tAsg te (gName i)) u) Γ' I (lt e k) := by
  rw [lt_def]; exact b_asgP he hm hi (hΓ e) (rest e rfl)
theorem Rows.snoc {S H : Hp} {l : Addr} {vs : List V} : ∀ {ls : List Addr} {dss : List (List PyData)} {ds : List PyData}, Rows K S H ls dss → H l = some (.lst vs) → DpAll K S vs ds → Rows K S H (ls ++ [l]) (dss ++ [ds])
  | [], [], _, _, h, q => ⟨⟨vs, h, q⟩, trivial⟩
  | _ :: _, _ :: _, _, ⟨r1, r2⟩, h, q => ⟨r1, Rows.snoc r2 h q⟩
  | [], _ :: _, _, r, _, _ => r.elim
  | _ :: _, [], _, r, _, _ => r.elim
theorem rows_length {S H : Hp} : ∀ {ls : List Addr} {dss : List (List PyData)}, Rows K S H ls dss → ls.length = dss.length
  | [], [], _ => rfl
  | _ :: _, _ :: _, ⟨_, r⟩ => by rw [List.length_cons, List.length_cons, rows_length r]
  | [], _ :: _, r => r.elim
  | _ :: _, [], r => r.elim
/-- xs.append(ys): a new list becomes a row -/
theorem b_appendR {α : Type} [ToD α] {xss yss : List (List α)} {ys : List α} {i : Nat} {m : Option ω} (h : Γ[i]? = some (some (.p md (xss.map (·.map toD))))) (he : EvO K H0 Γ te md (ys.map toD)) (hy : appO xss ys = some yss) (hΓ : Γ.set i (some (.p md (yss.map (·.map toD)))) = Γ2) (rest : Blk K H0 R Γ2 u Γ' I m) :
    Blk K H0 R Γ (tSeq (tDrop (tBM K "list" rAppend (tVar i) (tCons te tNil))) u) Γ' I m := fun w hw D A N W O H σ a kn kr => by
  subst hΓ
  obtain ⟨x0, ex0, hm, l, ls, rfl, eO, el, q⟩ := a.cs i _ h
  have hi := lt_of_get h
  refine ⟨_, ex0, tyL el, ?_⟩
  refine he _ a fun A1 N1 H1 b vs a1 s1 s2 s3 b1 b2 b3 b4 qb => ?_
  unfold appO at hy
  split at hy
  · rename_i hz
    cases hy
    have q1 : Rows K (md.sel A1 N1 H1) H1 ls (xss.map (·.map toD)) := q.mono (Md.sel_mono s1 s2 s3) s3
    have el1 := s3 _ _ el
    have hll : (ls.map V.ref).length < sizeLine := by rw [List.length_map, rows_length q1, List.length_map, lim_eq]; exact hz
    refine ⟨l, ls.map V.ref, .ref b, rfl, rfl, el1, hll, ?_⟩
    have hlO : l ∈ O i := by rw [eO]; exact List.mem_cons_self
    have nd := a1.nd i
    rw [eO] at nd
    obtain ⟨nd1, nd2⟩ := List.nodup_cons.mp nd
    have hbW : ∀ k ∈ l :: ls, k ≠ b := fun k hk z => b3 (z ▸ a1.sub i k (by rw [eO]; exact hk))
    have a0 : AtB K H0 A1 N1 W O H1 σ (Γ.set i none) := a1.weak (by rw [List.length_set]) fun j c e => by
      by_cases z : j = i
      · subst z; rw [List.getElem?_set_self hi] at e; cases e
      · rw [List.getElem?_set_ne (Ne.symm z)] at e; exact e
    have hz2 : (ls.map V.ref ++ [V.ref b]).length ≤ sizeLine := by rw [List.length_append]; exact hll
    have a3 := (a0.reserve b2 (.lst b4)).write (vs := ls.map V.ref ++ [V.ref b]) (.inl (a1.sub i l hlO)) hz2 fun j c e hj => by
      have z : j = i := a1.dj j i l hj hlO
      subst z; rw [List.getElem?_set_self hi] at e; cases e
    have hlb : l ≠ b := hbW l List.mem_cons_self
    have q3 : Rows K (md.sel A1 N1 H1) (upd H1 l (.lst (ls.map V.ref ++ [V.ref b]))) (ls ++ [b]) ((xss ++ [ys]).map (·.map toD)) := by
      rw [List.map_append]
      refine Rows.snoc (q1.at fun k hk => upd_ne fun z => nd1 (z ▸ hk)) (by rw [upd_ne (Ne.symm hlb)]; exact b4) qb
    have a4 : AtB K H0 A1 N1 (fun x => W x ∨ x = b) (fun j => if j = i then l :: (ls ++ [b]) else O j) (upd H1 l (.lst (ls.map V.ref ++ [V.ref b]))) σ (Γ.set i (some (.p md ((xss ++ [ys]).map (·.map toD))))) :=
      { a3 with
        sub := fun j x hx => by
          by_cases z : j = i
          · rw [if_pos z] at hx
            rcases List.mem_cons.mp hx with rfl | hx
            · exact .inl (a1.sub i x hlO)
            · rcases List.mem_append.mp hx with hx | hx
              · exact .inl (a1.sub i x (by rw [eO]; exact List.mem_cons_of_mem _ hx))
              · exact .inr (List.mem_singleton.mp hx)
          · rw [if_neg z] at hx; exact .inl (a1.sub j x hx)
        dj := fun j k x h1 h2 => by
          have key : ∀ j, j ≠ i → x ∈ O j → x ∈ l :: (ls ++ [b]) → False := fun j z h1 h2 => by
            have hWx := a1.sub j x h1
            have hx : x ∈ O i := by
              rw [eO]
              rcases List.mem_cons.mp h2 with rfl | h2
              · exact List.mem_cons_self
              · rcases List.mem_append.mp h2 with h2 | h2
                · exact List.mem_cons_of_mem _ h2
                · rw [List.mem_singleton.mp h2] at hWx; exact absurd hWx b3
            exact z (a1.dj j i x h1 hx)
          by_cases z : j = i
          · by_cases z2 : k = i
            · rw [z, z2]
            · rw [if_pos z] at h1; rw [if_neg z2] at h2
              exact (key k z2 h2 h1).elim
          · by_cases z2 : k = i
            · rw [if_neg z] at h1; rw [if_pos z2] at h2
              exact (key j z h1 h2).elim
            · rw [if_neg z] at h1; rw [if_neg z2] at h2; exact a1.dj j k x h1 h2
        nd := fun j => by
          by_cases z : j = i
          · rw [if_pos z]
            refine List.nodup_cons.mpr ⟨fun hx => ?_, List.nodup_append.mpr ⟨nd2, by simp, fun x hx y hy e => ?_⟩⟩
            · rcases List.mem_append.mp hx with hx | hx
              · exact nd1 hx
              · exact hlb (List.mem_singleton.mp hx)
            · rw [List.mem_singleton.mp hy] at e
              exact hbW x (List.mem_cons_of_mem _ hx) e
          · rw [if_neg z]; exact a1.nd j
        len := by rw [List.length_set]; exact a1.len
        cs := fun j c e => by
          by_cases z : j = i
          · subst z
            rw [List.getElem?_set_self hi] at e; cases e
            refine ⟨_, ex0, hm, l, ls ++ [b], rfl, by rw [if_pos rfl], by rw [upd_same, List.map_append]; rfl, ?_⟩
            cases md
            · exact absurd rfl hm
            · exact q3
            · exact q3
          · rw [List.getElem?_set_ne (Ne.symm z)] at e
            obtain ⟨x, ex, qx⟩ := a3.cs j c (by rw [List.getElem?_set_ne (Ne.symm z)]; exact e)
            exact ⟨x, ex, by rw [if_neg z]; exact qx⟩ }
    exact rest w hw D a4 (fun st' e' A'' N'' W'' O'' H'' σ'' a'' y1 y2 => kn st' e' A'' N'' W'' O'' H'' σ'' a'' (s1.trans y1) (s2.trans y2)) (fun r e => R.mono s1 s2 (kr r e))
  · cases hy
end
end Mir

namespace Mir
open PySem PySem.Spec L2
open ToD (toD)
set_option autoImplicit false
/-! ## defs that may raise an error of one class; a call that is tried -/
/-- comes to a new thing that stands for r; or raises an error of the class at C -/
def FnX (K : PySem.W.Frag) (C : Addr) (pre : List PyData → Option PyData → Prop) : Sp := fun vs H Q E => ∃ ds r, DpAll K H vs ds ∧ pre ds r ∧
  (∀ d, r = some d → ∀ v N H', Same H H' → (∀ b o, N b = some o → H b = none ∨ FT o) → Same N H' → HLen H' → Dp K N v d → Q v H') ∧ (r = none → ∀ H', Same H H' → HLen H' → E (.ref C) none H')
@[reducible] def exX (K : PySem.W.Frag) (H0 : Base) (C : Addr) (E : XK) {α : Type} [ToD α] : Ex (Option α) := ⟨fun r _ _ D => (∀ x, r = some x → ∀ v H', RetS K H0 x v H' → D.rt v H') ∧ (r = none → ∀ H', Same H0 H' → HLen H' → E (.ref C) none H'), fun _ _ h => h, fun h => h⟩
/-- the raise -/
def tRaiseX (C : Addr) (E : XK) : TS := fun _ _ H => E (.ref C) none H
/-- what follows a call that may raise -/
def xB {α β : Type} (k : α → Option (Option β)) : Option α → Option (Option β)
  | none => some none
  | some a => k a
def xF {α β τ : Type} (k : α → Option (Fl (Option β) τ)) : Option α → Option (Fl (Option β) τ)
  | none => some (.ret none)
  | some a => k a
/-- a suite's reading: the error's class is known -/
def tGd (C : Addr) (cls : Value) (d : Option Addr) (t : TS) : TS := fun D σ H => cls = .ref C ∧ d = none ∧ t D σ H
theorem pss_gd {X : Cx} {b : List Stmt} {C : Addr} {cls : Value} {d : Option Addr} {t : TS} (p : cls = .ref C → d = none → PSs X b t) : PSs X b (tGd C cls d t) :=
  ⟨fun pins s σ H D I h => by
    obtain ⟨e1, e2, h⟩ := h
    exact (p e1 e2).run pins s σ H D I h⟩
theorem zc_of {C : Addr} {cls : Value} {d : Option Addr} {oe : Obj} (e1 : cls = .ref C) (e2 : d = none) (hz : Zc cls d oe) : Zc (.ref C) none oe := by
  subst e1; subst e2; exact hz
section
variable {K : PySem.W.Frag} {H0 : Base} {ρ τ υ ω : Type} {R : Ex ρ} {Γ Γ2 : Ctx} {t u : TS} {Γ' : τ → Ctx} {I : ω → Fl ρ τ} {te ti ta tb : TE} {ts : TA} {md m1 : Md} {d : PyData} {ds : List PyData} {C : Addr} {E : XK} {W : WX} {wi : TI} {g : TG} {vs : List Nat}
/-- its value alone is of use -/
theorem e_callX {pre : List PyData → Option PyData → Prop} {E2 : St → XK} {r : PyData} (hs : EvA K H0 Γ ts .h ds) (hp : pre ds (some r)) : Ev K H0 Γ (tCallS (FnX K C pre) E2 ts) md r := fun A N W O H σ Q a k =>
  hs _ a fun A1 N1 H1 vs a1 s1 s2 s3 q1 => by
    refine ⟨ds, some r, q1, hp, fun d hd v M H' sH fr sM hl qv => ?_, fun z => by cases z⟩
    cases hd
    obtain ⟨a2, u1, u2, u3, u4⟩ := a1.called sH fr sM hl
    exact k _ _ H' v a2 (s1.trans u1) (s2.trans u2) (s3.trans sH) (dp_n u3 u4 sM qv)
/-- comes to a thing, or raises -/
def EvX (K : PySem.W.Frag) (H0 : Base) (Γ : Ctx) (te : TE) (md : Md) (C : Addr) (E : XK) (o : Option PyData) : Prop :=
  ∀ ⦃A N : Hp⦄ ⦃W : Addr → Prop⦄ ⦃O : Nat → List Addr⦄ ⦃H : Hp⦄ ⦃σ : St⦄ (Q : VK), AtB K H0 A N W O H σ Γ →
    (∀ d, o = some d → ∀ A' N' H' v, AtB K H0 A' N' W O H' σ Γ → Same A A' → Same N N' → Same H H' → Dp K (md.sel A' N' H') v d → Q v H') →
    (o = none → ∀ H', Same H0 H' → HLen H' → E (.ref C) none H') → te σ H Q
theorem x_callX {pre : List PyData → Option PyData → Prop} {o : Option PyData} (hs : EvA K H0 Γ ts .h ds) (hp : pre ds o) : EvX K H0 Γ (tCallS (FnX K C pre) (WE fun cls d _ H => E cls d H) ts) md C E o := fun A N W O H σ Q a k kx =>
  hs _ a fun A1 N1 H1 vs a1 s1 s2 s3 q1 => by
    refine ⟨ds, o, q1, hp, fun d hd v M H' sH fr sM hl qv => ?_, fun z H' sH hl => ?_⟩
    · obtain ⟨a2, u1, u2, u3, u4⟩ := a1.called sH fr sM hl
      exact k d hd _ _ H' v a2 (s1.trans u1) (s2.trans u2) (s3.trans sH) (dp_n u3 u4 sM qv)
    · exact kx z H' (a1.h0h.trans sH) hl
section
variable {α β : Type} [ToD α] [ToD β]
theorem b_retX {r : α} {Γ' : τ → Ctx} (he : Ev K H0 Γ te .n (toD r)) : Blk K H0 (exX K H0 C E) Γ (tSeq (tRet te) u) Γ' Fl.ret (some (some r)) := fun w hw D A N W O H σ a kn kr => by
  cases hw
  exact he _ a fun A1 N1 H1 v a1 s1 s2 s3 q => (kr _ rfl).1 r rfl v H1 (a1.retS q)
theorem b_retXF {r : α} {Γ' : τ → Ctx} (he : Ev K H0 Γ te .n (toD r)) : Blk K H0 (exX K H0 C E) Γ (tSeq (tRet te) u) Γ' idF (retF (some r)) := fun w hw D A N W O H σ a kn kr => by
  cases hw
  exact he _ a fun A1 N1 H1 v a1 s1 s2 s3 q => (kr _ rfl).1 r rfl v H1 (a1.retS q)
theorem b_retXv {i : Nat} {r : List α} {Γ' : τ → Ctx} (h : Γ[i]? = some (some (.o .n (r.map toD))) := by rfl) : Blk K H0 (exX K H0 C E) Γ (tSeq (tRet (tVar i)) u) Γ' Fl.ret (some (some r)) := fun w hw D A N W O H σ a kn kr => by
  cases hw
  obtain ⟨v, e, q⟩ := a.retOv h
  exact ⟨v, e, (kr _ rfl).1 r rfl v H q.s⟩
theorem b_retXvF {i : Nat} {r : List α} {Γ' : τ → Ctx} (h : Γ[i]? = some (some (.o .n (r.map toD))) := by rfl) : Blk K H0 (exX K H0 C E) Γ (tSeq (tRet (tVar i)) u) Γ' idF (retF (some r)) := fun w hw D A N W O H σ a kn kr => by
  cases hw
  obtain ⟨v, e, q⟩ := a.retOv h
  exact ⟨v, e, (kr _ rfl).1 r rfl v H q.s⟩
theorem b_raise {Γ' : τ → Ctx} : Blk K H0 (exX K H0 C E (α := α)) Γ (tSeq (tRaiseX C E) u) Γ' Fl.ret (some none) := fun w hw D A N W O H σ a kn kr => by
  cases hw
  exact (kr _ rfl).2 rfl H a.h0h a.hl
theorem b_raiseF {Γ' : τ → Ctx} : Blk K H0 (exX K H0 C E (α := α)) Γ (tSeq (tRaiseX C E) u) Γ' idF (retF none) := fun w hw D A N W O H σ a kn kr => by
  cases hw
  exact (kr _ rfl).2 rfl H a.h0h a.hl
theorem b_asgX {i : Nat} {o : Option β} {k : β → Option (Option α)} {Γ2 : β → Ctx} {Γ' : τ → Ctx} (he : EvX K H0 Γ te md C E (o.map toD)) (hm : md ≠ .h) (hi : i < Γ.length) (hΓ : ∀ x : β, Γ.set i (some (.v md (toD x))) = Γ2 x)
    (rest : ∀ x, o = some x → Blk K H0 (exX K H0 C E) (Γ2 x) u Γ' Fl.ret (k x)) : Blk K H0 (exX K H0 C E) Γ (tSeq (tAsg te (gName i)) u) Γ' Fl.ret (xB k o) := fun w hw D A N W O H σ a kn kr =>
  he _ a (fun d hd A1 N1 H1 v a1 s1 s2 s3 q => by
    obtain ⟨x, hx, rfl⟩ := Option.map_eq_some_iff.mp hd
    have a2 := a1.setv hi hm q
    rw [hΓ x] at a2
    subst hx
    exact rest x rfl w hw D a2 (fun st e => by cases e) (fun r e => kr r e)) (fun hn H' s hl => by
    have ho : o = none := Option.map_eq_none_iff.mp hn
    subst ho
    cases hw
    exact (kr _ rfl).2 rfl H' s hl)
theorem b_asgXF {i : Nat} {o : Option β} {k : β → Option (Fl (Option α) τ)} {Γ2 : β → Ctx} {Γ' : τ → Ctx} (he : EvX K H0 Γ te md C E (o.map toD)) (hm : md ≠ .h) (hi : i < Γ.length) (hΓ : ∀ x : β, Γ.set i (some (.v md (toD x))) = Γ2 x)
    (rest : ∀ x, o = some x → Blk K H0 (exX K H0 C E) (Γ2 x) u Γ' idF (k x)) : Blk K H0 (exX K H0 C E) Γ (tSeq (tAsg te (gName i)) u) Γ' idF (xF k o) := fun w hw D A N W O H σ a kn kr =>
  he _ a (fun d hd A1 N1 H1 v a1 s1 s2 s3 q => by
    obtain ⟨x, hx, rfl⟩ := Option.map_eq_some_iff.mp hd
    have a2 := a1.setv hi hm q
    rw [hΓ x] at a2
    subst hx
    exact rest x rfl w hw D a2 (fun st e A' N' W' O' H' σ' a' x1 x2 => kn st e A' N' W' O' H' σ' a' (s1.trans x1) (s2.trans x2)) (fun r e => kr r e)) (fun hn H' s hl => by
    have ho : o = none := Option.map_eq_none_iff.mp hn
    subst ho
    cases hw
    exact (kr _ rfl).2 rfl H' s hl)
/-- xs.append(f(..)), f may raise -/
theorem b_appendXF {xs : List β} {o : Option β} {i : Nat} {k : List β → Option (Fl (Option α) τ)} {Γ2 : List β → Ctx} {Γ' : τ → Ctx} (h : Γ[i]? = some (some (.o md (xs.map toD)))) (he : EvX K H0 Γ te md C E (o.map toD)) (hΓ : ∀ ys : List β, Γ.set i (some (.o md (ys.map toD))) = Γ2 ys)
    (rest : ∀ x ys, o = some x → appO xs x = some ys → Blk K H0 (exX K H0 C E) (Γ2 ys) u Γ' idF (k ys)) :
    Blk K H0 (exX K H0 C E) Γ (tSeq (tDrop (tBM K "list" rAppend (tVar i) (tCons te tNil))) u) Γ' idF (xF (fun x => (appO xs x).bind k) o) := fun w hw D A N W O H σ a kn kr => by
  obtain ⟨l0, vs0, e0, h0⟩ := own_arg a h
  refine ⟨_, e0, tyL h0, ?_⟩
  refine he _ a (fun d hd A1 N1 H1 v a1 s1 s2 s3 q => ?_) (fun hn H' s hl => ?_)
  · obtain ⟨x, hx, rfl⟩ := Option.map_eq_some_iff.mp hd
    subst hx
    obtain ⟨ys, hy, hw⟩ := bind_some_iff (show (appO xs x).bind k = some w from hw)
    obtain ⟨l, vs, e1, e2, q2, nx⟩ := a1.mutO h
    have e3 : V.ref l0 = V.ref l := Option.some.inj (Option.some.inj (e0.symm.trans e1))
    cases e3
    have hr := rest x ys rfl hy
    unfold appO at hy
    split at hy
    · rename_i hz
      cases hy
      have hlen : vs.length < sizeLine := by rw [dpAll_len q2, List.length_map, lim_eq]; exact hz
      refine ⟨l0, vs, v, rfl, rfl, e2, hlen, ?_⟩
      have a2 := nx (vs ++ [v]) ((xs ++ [x]).map toD) (by rw [List.length_append]; exact hlen) (by rw [List.map_append]; exact dpAll_app q2 (.cons q .nil))
      rw [hΓ] at a2
      exact hr w hw D a2 (fun st' e' A'' N'' W'' O'' H'' σ'' a'' y1 y2 => kn st' e' A'' N'' W'' O'' H'' σ'' a'' (s1.trans y1) (s2.trans y2)) (fun r e => kr r e)
    · cases hy
  · have ho : o = none := Option.map_eq_none_iff.mp hn
    subst ho
    cases hw
    exact (kr _ rfl).2 rfl H' s hl
theorem b_forRX {α τ1 : Type} [ToD α] {β : Type} [ToD β] {xs : List β} {Γ1 : τ1 → Ctx} {Γ2 : τ1 → β → Ctx} {f : τ1 → β → Option (Fl (Option α) τ1)} {st0 : τ1} {k : τ1 → Option (Option α)} {tb : TS} {Γ' : τ → Ctx} (hi : EvI K H0 Γ wi md (xs.map toD)) (hg : ∀ st x, Tg K H0 g md (toD x) vs (Γ1 st) (Γ2 st x))
    (hb : ∀ st x, Blk K H0 (exX K H0 C E) (Γ2 st x) tb Γ1 idF (f st x)) (h0 : Wk Γ (Γ1 st0)) (rest : ∀ st, Blk K H0 (exX K H0 C E) (Γ1 st) u Γ' Fl.ret (k st)) : Blk K H0 (exX K H0 C E) Γ (tSeq (tFor wi g tb) u) Γ' Fl.ret ((forF f xs st0).bind (flR k)) := fun w hw D A N W O H σ a kn kr => by
  obtain ⟨fin, hf, hw⟩ := bind_some_iff hw
  refine b_forG hi hg hb h0 hf { D with nx := u D } a (fun st e A' N' W' O' H' σ' a' x1 x2 => ?_) (fun r e => ?_)
  · subst e
    exact rest st w hw D a' (fun st' e' => by cases e') (fun r e => kr r e)
  · subst e
    cases hw
    exact fun A1 N1 f _ _ => kr _ rfl
end
/-! ### try -/
/-- a slot whose value is known as it is -/
theorem AtB.setr {i : Nat} {x : V} {A N : Hp} {W : Addr → Prop} {O : Nat → List Addr} {H : Hp} {σ : St} (a : AtB K H0 A N W O H σ Γ) (hi : i < Γ.length) : AtB K H0 A N W O H (σ.set i (some x)) (Γ.set i (some (.r x))) :=
  { a with
    len := by simp [a.len]
    cs := fun j c e => by
      by_cases z : j = i
      · subst z
        rw [List.getElem?_set_self hi] at e; cases e
        exact ⟨x, by rw [List.getElem?_set_self (a.len ▸ hi)], rfl⟩
      · rw [List.getElem?_set_ne (Ne.symm z)] at e
        obtain ⟨y, e1, q1⟩ := a.cs j c e
        exact ⟨y, by rw [List.getElem?_set_ne (Ne.symm z)]; exact e1, q1⟩ }
theorem AtB.clr {i : Nat} {A N : Hp} {W : Addr → Prop} {O : Nat → List Addr} {H : Hp} {σ : St} (a : AtB K H0 A N W O H σ Γ) : AtB K H0 A N W O H (σ.set i none) (Γ.set i none) :=
  { a with
    len := by simp [a.len]
    cs := fun j c e => by
      by_cases z : j = i
      · subst z
        by_cases hj : j < Γ.length
        · rw [List.getElem?_set_self hj] at e; cases e
        · rw [List.getElem?_eq_none (by rw [List.length_set]; omega)] at e; cases e
      · rw [List.getElem?_set_ne (Ne.symm z)] at e
        obtain ⟨y, e1, q1⟩ := a.cs j c e
        exact ⟨y, by rw [List.getElem?_set_ne (Ne.symm z)]; exact e1, q1⟩ }
/-- try: f(..) except B as e: suite -/
def tTry1 (K : PySem.W.Frag) (cB : Value) (i : Nat) (C : Addr) (sp : Sp) (ts : TA) (tsu : Addr → TS) : TS := fun D σ H =>
  tSeq (tDrop (tCallS sp (WE (wAs K cB i (fun a cls d => tGd C cls d (tsu a)) (fun _ _ _ _ => False) D)) ts)) tNext D σ H
theorem try_go {cB : Value} {i : Nat} {pre : List PyData → Option PyData → Prop} {o : Option PyData} {tsu : Addr → TS} {D : Ends} {A N : Hp} {W : Addr → Prop} {O : Nat → List Addr} {H : Hp} {σ : St} (a : AtB K H0 A N W O H σ Γ)
    (hs : EvA K H0 Γ ts .h ds) (hp : pre ds o) (hx : PySem.W.exmOne K (.ref C) cB = some true) (hi : i < Γ.length)
    (k1 : o ≠ none → ∀ A' N' H', AtB K H0 A' N' W O H' σ Γ → Same A A' → Same N N' → D.nx σ H')
    (k2 : o = none → ∀ b A' N' H', AtB K H0 A' N' W O H' (σ.set i (some (.ref b))) (Γ.set i (some (.r (.ref b)))) → Same A A' → Same N N' → tsu b { nx := fun σ' H' => D.nx (σ'.set i none) H', rt := D.rt, bk := fun σ' H' => D.bk (σ'.set i none) H', ct := fun σ' H' => D.ct (σ'.set i none) H' } (σ.set i (some (.ref b))) H') :
    tTry1 K cB i C (FnX K C pre) ts tsu D σ H := by
  refine hs _ a fun A1 N1 H1 vs a1 s1 s2 s3 q1 => ?_
  refine ⟨ds, o, q1, hp, fun d hd v M H' sH fr sM hl qv => ?_, fun z H' sH hl => ?_⟩
  · obtain ⟨a2, u1, u2, _, _⟩ := a1.called sH fr sM hl
    exact k1 (by rw [hd]; simp) _ _ H' a2 (s1.trans u1) (s2.trans u2)
  · obtain ⟨a2, u1, u2, _, _⟩ := a1.called (M := fun _ => none) sH (fun b o e => by cases e) (fun b o e => by cases e) hl
    exact ⟨true, hx, fun _ b hb => ⟨rfl, rfl, k2 z b _ _ H' (a2.setr hi) (s1.trans u1) (s2.trans u2)⟩, fun z => by cases z⟩
theorem b_tryE {α : Type} [ToD α] {τ1 : Type} {Γ1 : τ1 → Ctx} {Γs : Addr → τ1 → Ctx} {cB : Value} {i : Nat} {pre : List PyData → Option PyData → Prop} {o : Option α} {tsu : Addr → TS} {st0 : τ1} {mB : Option τ1} {k : τ1 → Option ω}
    (hs : EvA K H0 Γ ts .h ds) (hp : pre ds (o.map toD)) (hx : PySem.W.exmOne K (.ref C) cB = some true) (hi : i < Γ.length) (hw0 : Wk Γ (Γ1 st0)) (hB : ∀ b, Blk K H0 R (Γ.set i (some (.r (.ref b)))) (tsu b) (Γs b) Fl.nxt mB) (hΓ : ∀ b st, Wk ((Γs b st).set i none) (Γ1 st)) (rest : ∀ st, Blk K H0 R (Γ1 st) u Γ' I (k st))
    (hR : ∀ r A N D f g h, R.ok r A N D → R.ok r A N { D with nx := f, bk := g, ct := h }) :
    Blk K H0 R Γ (tSeq (tTry1 K cB i C (FnX K C pre) ts tsu) u) Γ' I ((iteO o.isSome (some st0) mB).bind k) := fun w hw D A N W O H σ a kn kr => by
  obtain ⟨st, e, hw⟩ := bind_some_iff hw
  have fin : ∀ A' N' W' O' H' σ', AtB K H0 A' N' W' O' H' σ' (Γ1 st) → Same A A' → Same N N' → u D σ' H' := fun A' N' W' O' H' σ' a' x1 x2 =>
    rest st w hw D a' (fun st' e' A'' N'' W'' O'' H'' σ'' a'' y1 y2 => kn st' e' A'' N'' W'' O'' H'' σ'' a'' (x1.trans y1) (x2.trans y2)) (fun r e => R.mono x1 x2 (kr r e))
  refine try_go a hs hp hx hi (fun ho A1 N1 H1 a1 s1 s2 => ?_) (fun ho b A1 N1 H1 a1 s1 s2 => ?_)
  · cases o with
    | none => exact absurd rfl ho
    | some x =>
      have e2 : st0 = st := Option.some.inj e
      subst e2
      exact fin _ _ _ _ _ _ (a1.wk hw0) s1 s2
  · cases o with
    | some x => cases ho
    | none =>
      have e2 : mB = some st := e
      refine hB b st e2 _ a1 (fun st' e' A' N' W' O' H' σ' a' x1 x2 => ?_) (fun r e' => by cases e')
      cases e'
      exact fin _ _ _ _ _ _ ((a'.clr (i := i)).wk (hΓ b st)) (s1.trans x1) (s2.trans x2)
/-- the suite may hand back -/
theorem b_tryF {α : Type} [ToD α] {τ1 : Type} {Γ1 : τ1 → Ctx} {Γs : Addr → τ1 → Ctx} {cB : Value} {i : Nat} {pre : List PyData → Option PyData → Prop} {o : Option α} {tsu : Addr → TS} {st0 : τ1} {mB : Option (Fl ρ τ1)} {k : τ1 → Option ρ} {Γ' : τ → Ctx} {R0 : ρ → V → Hp → Prop}
    (hs : EvA K H0 Γ ts .h ds) (hp : pre ds (o.map toD)) (hx : PySem.W.exmOne K (.ref C) cB = some true) (hi : i < Γ.length) (hw0 : Wk Γ (Γ1 st0)) (hB : ∀ b, Blk K H0 (exR R0) (Γ.set i (some (.r (.ref b)))) (tsu b) (Γs b) idF mB) (hΓ : ∀ b st, Wk ((Γs b st).set i none) (Γ1 st)) (rest : ∀ st, Blk K H0 (exR R0) (Γ1 st) u Γ' Fl.ret (k st)) :
    Blk K H0 (exR R0) Γ (tSeq (tTry1 K cB i C (FnX K C pre) ts tsu) u) Γ' Fl.ret ((iteO o.isSome (some (.nxt st0)) mB).bind (flR k)) := fun w hw D A N W O H σ a kn kr => by
  obtain ⟨fl, e, hw⟩ := bind_some_iff hw
  have fin : ∀ st, fl = .nxt st → ∀ A' N' W' O' H' σ', AtB K H0 A' N' W' O' H' σ' (Γ1 st) → Same A A' → Same N N' → u D σ' H' := fun st e A' N' W' O' H' σ' a' x1 x2 => by
    subst e
    exact rest st w hw D a' (fun st' e' => by cases e') (fun r e => kr r e)
  refine try_go a hs hp hx hi (fun ho A1 N1 H1 a1 s1 s2 => ?_) (fun ho b A1 N1 H1 a1 s1 s2 => ?_)
  · cases o with
    | none => exact absurd rfl ho
    | some x => exact fin st0 (Option.some.inj e).symm _ _ _ _ _ _ (a1.wk hw0) s1 s2
  · cases o with
    | some x => cases ho
    | none =>
      have e2 : mB = some fl := e
      refine hB b fl e2 _ a1 (fun st e' A' N' W' O' H' σ' a' x1 x2 => ?_) (fun r e' => ?_)
      · exact fin st e' _ _ _ _ _ _ ((a'.clr (i := i)).wk (hΓ b st)) (s1.trans x1) (s2.trans x2)
      · have e3 : fl = .ret r := e'
        subst e3
        cases hw
        exact kr _ rfl
/-- isinstance(e, X) in the suite -/
theorem e_isE {i : Nat} {b : Addr} {c : V} {cv : Value} {r : Bool} (h : Γ[i]? = some (some (.r (.ref b)))) (hc : ∀ u, RelV c u → u = cv) (hk : PySem.W.kitOne K (.ref C) cv = some r) : Ev K H0 Γ (tCB (rIsE K C b) (tCons (tVar i) (tCons (tC c) tNil))) md (toD r) := fun A N W O H σ Q a k => by
  obtain ⟨x, ex, rfl⟩ := a.cs i _ h
  exact ⟨_, ex, c, cv, r, rfl, hc, hk, k A N H _ a (Same.refl _) (Same.refl _) (Same.refl _) (.bl r)⟩
end
section
variable {K : PySem.W.Frag} {N : List Str} {vs : List V} {H : Hp} {Q : VK} {ds : List PyData} {t : TS} {τ : Type} {Γ : Ctx} {Γ' : τ → Ctx} {C : Addr} {E : XK}
theorem body_X {α : Type} [ToD α] {m : Option (Option α)} {r : Option α} (hl : HLen H) (hd : DpAll K H vs ds) (hm : m = some r) (hn : ds.length ≤ N.length) (hΓ : entryC ds N.length = Γ) (hb : Blk K (bs H) (exX K (bs H) C E) Γ t Γ' Fl.ret m)
    (k : (∀ d, r.map toD = some d → ∀ v M H', Same H H' → (∀ b o, M b = some o → H b = none ∨ FT o) → Same M H' → HLen H' → Dp K M v d → Q v H') ∧ (r.map toD = none → ∀ H', Same H H' → HLen H' → E (.ref C) none H')) : t { nx := fun _ H' => Q .non H', rt := Q } (L2.start N vs) H := by
  subst hΓ
  refine hb r hm _ (entry hl hd hn) (fun st e => by cases e) fun r' e => ⟨fun x hx v H' q => ?_, fun hx H' s hl' => ?_⟩
  · cases e
    subst hx
    obtain ⟨h0, h1, M, h2, h3, h4⟩ := q
    exact k.1 _ rfl v M H' h0 (fun b o e => (h2 b o e).imp id fun z => z.resolve_left (by simp)) h3 h1 h4
  · cases e
    subst hx
    exact k.2 rfl H' s hl'
end
end Mir
namespace Mir
open PySem PySem.Spec L2
theorem bind_id_some {α : Type} {m : Option (Option α)} {v : α} (h : m.bind id = some v) : m = some (some v) := by
  cases m with
  | none => cases h
  | some o => exact congrArg some h
section
variable {X : Cx} {x n : Str} {c : Value} {i : Nat} {body suite : List Stmt} {b₀ : Stmt} {np pos pos' : Pos} {C : Addr} {sp : Sp} {ts : TA} {tsu : Addr → TS}
theorem ps_try1 (hs : X.stack = X.env :: X.outer) (hf : X.env.frame = some X.env.locals) (hN : X.N.Nodup) (hi : X.N[i]? = some n) (hln : X.env.kindOf n = some .local) (hc : Names X x c)
    (hb : ∀ (W : WX) (pn : List (Addr × Obj)) (xe : Value → Shared → Prop), Takes (X.tr pn xe) W → PSs (X.tr pn xe) body (tSeq (tDrop (tCallS sp (WE W) ts)) tNext))
    (hsu : ∀ (a : Addr) (oe : Obj) (pn : List (Addr × Obj)), Zc (.ref C) none oe → (∃ vs, oe.data = .fields vs) → PSs (X.suite a ((a, oe) :: pn)) (b₀ :: suite) (tsu a)) :
    PS X (.Try body [.ExceptHandler (some (.Name x np)) (some n) (b₀ :: suite) pos'] [] [] pos) (tTry1 X.K c i C sp ts tsu) :=
  ps_try_as (i := i) hs hf hN hi hln hc takes0 (fun W pn xe tk _ => hb W pn xe tk) (fun a oe cls d pn hz hf => pss_gd fun e1 e2 => hsu a oe pn (zc_of e1 e2 hz) hf)
end
end Mir

namespace Mir
open PySem PySem.Spec L2
open ToD (toD)
set_option autoImplicit false
/-! ## .. that comes to a new list of one's own; any such call tried -/
def FnXO (K : PySem.W.Frag) (C : Addr) (pre : List PyData → Option (List PyData) → Prop) : Sp := fun vs H Q E => ∃ ds r, DpAll K H vs ds ∧ pre ds r ∧
  (∀ rs, r = some rs → ∀ l ws N H', Same H H' → (∀ b o, N b = some o → H b = none ∨ FT o) → Same N H' → HLen H' → H l = none → N l = none → H' l = some (.lst ws) → DpAll K N ws rs → Q (.ref l) H') ∧ (r = none → ∀ H', Same H H' → HLen H' → E (.ref C) none H')
@[reducible] def exXO (K : PySem.W.Frag) (H0 : Base) (C : Addr) (E : XK) {α : Type} [ToD α] : Ex (Option (List α)) := ⟨fun r _ _ D => (∀ x, r = some x → ∀ v H', RetO K H0 x v H' → D.rt v H') ∧ (r = none → ∀ H', Same H0 H' → HLen H' → E (.ref C) none H'), fun _ _ h => h, fun h => h⟩
/-- what a tried call must bear -/
def Tri1 (K : PySem.W.Frag) (C : Addr) (sp : Sp) (ds : List PyData) (b : Bool) : Prop := ∀ (vs : List V) (H : Hp) (Q : VK) (E : XK), DpAll K H vs ds → (b = true → ∀ v N H', Same H H' → (∀ b o, N b = some o → H b = none ∨ FT o) → Same N H' → HLen H' → Q v H') → (b = false → ∀ H', Same H H' → HLen H' → E (.ref C) none H') → sp vs H Q E
section
variable {K : PySem.W.Frag} {H0 : Base} {ρ τ υ ω : Type} {R : Ex ρ} {Γ Γ2 : Ctx} {t u : TS} {Γ' : τ → Ctx} {I : ω → Fl ρ τ} {te ti ta tb : TE} {ts : TA} {md m1 : Md} {d : PyData} {ds : List PyData} {C : Addr} {E : XK} {W : WX} {wi : TI} {g : TG} {vs : List Nat}
theorem tri_X {α : Type} [ToD α] {pre : List PyData → Option PyData → Prop} {o : Option α} (hp : pre ds (o.map toD)) : Tri1 K C (FnX K C pre) ds o.isSome := fun vs H Q E hd k1 k2 =>
  ⟨ds, _, hd, hp, fun d e v N H' s fr sN hl _ => k1 (by cases o with | none => cases e | some x => rfl) v N H' s fr sN hl, fun e H' s hl => k2 (by cases o with | none => rfl | some x => cases e) H' s hl⟩
theorem tri_XO {α : Type} [ToD α] {pre : List PyData → Option (List PyData) → Prop} {o : Option (List α)} (hp : pre ds (o.map (·.map toD))) : Tri1 K C (FnXO K C pre) ds o.isSome := fun vs H Q E hd k1 k2 =>
  ⟨ds, _, hd, hp, fun d e l ws N H' s fr sN hl _ _ _ _ => k1 (by cases o with | none => cases e | some x => rfl) _ N H' s fr sN hl, fun e H' s hl => k2 (by cases o with | none => rfl | some x => cases e) H' s hl⟩
/-- its value alone is of use -/
theorem o_callXO {pre : List PyData → Option (List PyData) → Prop} {E2 : St → XK} {rs : List PyData} (hs : EvA K H0 Γ ts .h ds) (hp : pre ds (some rs)) : EvO K H0 Γ (tCallS (FnXO K C pre) E2 ts) md rs := fun A N W O H σ Q a k =>
  hs _ a fun A1 N1 H1 vs a1 s1 s2 s3 q1 => by
    refine ⟨ds, some rs, q1, hp, fun d hd l ws M H' sH fr sM hl hn hN hw qv => ?_, fun z => by cases z⟩
    cases hd
    obtain ⟨a2, u1, u2, u3, u4⟩ := a1.called sH fr sM hl
    exact k _ _ H' l ws a2 (s1.trans u1) (s2.trans u2) (s3.trans sH) (s3.free hn) (uni_none (a1.ah.free hn) hN) (a1.noW hn) hw (dpAll_n u3 u4 sM qv)
section
variable {α β : Type} [ToD α] [ToD β]
theorem b_retXOv {i : Nat} {r : List α} {Γ' : τ → Ctx} (h : Γ[i]? = some (some (.o .n (r.map toD))) := by rfl) : Blk K H0 (exXO K H0 C E) Γ (tSeq (tRet (tVar i)) u) Γ' Fl.ret (some (some r)) := fun w hw D A N W O H σ a kn kr => by
  cases hw
  obtain ⟨v, e, q⟩ := a.retOv h
  exact ⟨v, e, (kr _ rfl).1 r rfl v H q⟩
theorem b_raiseO {Γ' : τ → Ctx} : Blk K H0 (exXO K H0 C E (α := α)) Γ (tSeq (tRaiseX C E) u) Γ' Fl.ret (some none) := fun w hw D A N W O H σ a kn kr => by
  cases hw
  exact (kr _ rfl).2 rfl H a.h0h a.hl
theorem b_appendXOF {xs : List β} {o : Option β} {i : Nat} {k : List β → Option (Fl (Option (List α)) τ)} {Γ2 : List β → Ctx} {Γ' : τ → Ctx} (h : Γ[i]? = some (some (.o md (xs.map toD)))) (he : EvX K H0 Γ te md C E (o.map toD)) (hΓ : ∀ ys : List β, Γ.set i (some (.o md (ys.map toD))) = Γ2 ys)
    (rest : ∀ x ys, o = some x → appO xs x = some ys → Blk K H0 (exXO K H0 C E) (Γ2 ys) u Γ' idF (k ys)) :
    Blk K H0 (exXO K H0 C E) Γ (tSeq (tDrop (tBM K "list" rAppend (tVar i) (tCons te tNil))) u) Γ' idF (xF (fun x => (appO xs x).bind k) o) := fun w hw D A N W O H σ a kn kr => by
  obtain ⟨l0, vs0, e0, h0⟩ := own_arg a h
  refine ⟨_, e0, tyL h0, ?_⟩
  refine he _ a (fun d hd A1 N1 H1 v a1 s1 s2 s3 q => ?_) (fun hn H' s hl => ?_)
  · obtain ⟨x, hx, rfl⟩ := Option.map_eq_some_iff.mp hd
    subst hx
    obtain ⟨ys, hy, hw⟩ := bind_some_iff (show (appO xs x).bind k = some w from hw)
    obtain ⟨l, vs, e1, e2, q2, nx⟩ := a1.mutO h
    have e3 : V.ref l0 = V.ref l := Option.some.inj (Option.some.inj (e0.symm.trans e1))
    cases e3
    have hr := rest x ys rfl hy
    unfold appO at hy
    split at hy
    · rename_i hz
      cases hy
      have hlen : vs.length < sizeLine := by rw [dpAll_len q2, List.length_map, lim_eq]; exact hz
      refine ⟨l0, vs, v, rfl, rfl, e2, hlen, ?_⟩
      have a2 := nx (vs ++ [v]) ((xs ++ [x]).map toD) (by rw [List.length_append]; exact hlen) (by rw [List.map_append]; exact dpAll_app q2 (.cons q .nil))
      rw [hΓ] at a2
      exact hr w hw D a2 (fun st' e' A'' N'' W'' O'' H'' σ'' a'' y1 y2 => kn st' e' A'' N'' W'' O'' H'' σ'' a'' (s1.trans y1) (s2.trans y2)) (fun r e => kr r e)
    · cases hy
  · have ho : o = none := Option.map_eq_none_iff.mp hn
    subst ho
    cases hw
    exact (kr _ rfl).2 rfl H' s hl
theorem b_forRXO {τ1 : Type} {xs : List β} {Γ1 : τ1 → Ctx} {Γ2 : τ1 → β → Ctx} {f : τ1 → β → Option (Fl (Option (List α)) τ1)} {st0 : τ1} {k : τ1 → Option (Option (List α))} {tb : TS} {Γ' : τ → Ctx} (hi : EvI K H0 Γ wi md (xs.map toD)) (hg : ∀ st x, Tg K H0 g md (toD x) vs (Γ1 st) (Γ2 st x))
    (hb : ∀ st x, Blk K H0 (exXO K H0 C E) (Γ2 st x) tb Γ1 idF (f st x)) (h0 : Wk Γ (Γ1 st0)) (rest : ∀ st, Blk K H0 (exXO K H0 C E) (Γ1 st) u Γ' Fl.ret (k st)) : Blk K H0 (exXO K H0 C E) Γ (tSeq (tFor wi g tb) u) Γ' Fl.ret ((forF f xs st0).bind (flR k)) := fun w hw D A N W O H σ a kn kr => by
  obtain ⟨fin, hf, hw⟩ := bind_some_iff hw
  refine b_forG hi hg hb h0 hf { D with nx := u D } a (fun st e A' N' W' O' H' σ' a' x1 x2 => ?_) (fun r e => ?_)
  · subst e
    exact rest st w hw D a' (fun st' e' => by cases e') (fun r e => kr r e)
  · subst e
    cases hw
    exact fun A1 N1 f _ _ => kr _ rfl
end
theorem try_goT {cB : Value} {i : Nat} {sp : Sp} {x : Bool} {tsu : Addr → TS} {D : Ends} {A N : Hp} {W : Addr → Prop} {O : Nat → List Addr} {H : Hp} {σ : St} (a : AtB K H0 A N W O H σ Γ)
    (hs : EvA K H0 Γ ts .h ds) (hp : Tri1 K C sp ds x) (hx : PySem.W.exmOne K (.ref C) cB = some true) (hi : i < Γ.length)
    (k1 : x = true → ∀ A' N' H', AtB K H0 A' N' W O H' σ Γ → Same A A' → Same N N' → D.nx σ H')
    (k2 : x = false → ∀ b A' N' H', AtB K H0 A' N' W O H' (σ.set i (some (.ref b))) (Γ.set i (some (.r (.ref b)))) → Same A A' → Same N N' → tsu b { nx := fun σ' H' => D.nx (σ'.set i none) H', rt := D.rt, bk := fun σ' H' => D.bk (σ'.set i none) H', ct := fun σ' H' => D.ct (σ'.set i none) H' } (σ.set i (some (.ref b))) H') :
    tTry1 K cB i C sp ts tsu D σ H := by
  refine hs _ a fun A1 N1 H1 vs a1 s1 s2 s3 q1 => ?_
  refine hp _ _ _ _ q1 (fun z v M H' sH fr sM hl => ?_) (fun z H' sH hl => ?_)
  · obtain ⟨a2, u1, u2, _, _⟩ := a1.called sH fr sM hl
    exact k1 z _ _ H' a2 (s1.trans u1) (s2.trans u2)
  · obtain ⟨a2, u1, u2, _, _⟩ := a1.called (M := fun _ => none) sH (fun b o e => by cases e) (fun b o e => by cases e) hl
    exact ⟨true, hx, fun _ b hb => ⟨rfl, rfl, k2 z b _ _ H' (a2.setr hi) (s1.trans u1) (s2.trans u2)⟩, fun z => by cases z⟩
theorem b_tryET {τ1 : Type} {Γ1 : τ1 → Ctx} {Γs : Addr → τ1 → Ctx} {cB : Value} {i : Nat} {sp : Sp} {x : Bool} {tsu : Addr → TS} {st0 : τ1} {mB : Option τ1} {k : τ1 → Option ω}
    (hs : EvA K H0 Γ ts .h ds) (hp : Tri1 K C sp ds x) (hx : PySem.W.exmOne K (.ref C) cB = some true) (hi : i < Γ.length) (hw0 : Wk Γ (Γ1 st0)) (hB : ∀ b, Blk K H0 R (Γ.set i (some (.r (.ref b)))) (tsu b) (Γs b) Fl.nxt mB) (hΓ : ∀ b st, Wk ((Γs b st).set i none) (Γ1 st)) (rest : ∀ st, Blk K H0 R (Γ1 st) u Γ' I (k st)) :
    Blk K H0 R Γ (tSeq (tTry1 K cB i C sp ts tsu) u) Γ' I ((iteO x (some st0) mB).bind k) := fun w hw D A N W O H σ a kn kr => by
  obtain ⟨st, e, hw⟩ := bind_some_iff hw
  have fin : ∀ A' N' W' O' H' σ', AtB K H0 A' N' W' O' H' σ' (Γ1 st) → Same A A' → Same N N' → u D σ' H' := fun A' N' W' O' H' σ' a' x1 x2 =>
    rest st w hw D a' (fun st' e' A'' N'' W'' O'' H'' σ'' a'' y1 y2 => kn st' e' A'' N'' W'' O'' H'' σ'' a'' (x1.trans y1) (x2.trans y2)) (fun r e => R.mono x1 x2 (kr r e))
  refine try_goT a hs hp hx hi (fun hx A1 N1 H1 a1 s1 s2 => ?_) (fun hx b A1 N1 H1 a1 s1 s2 => ?_)
  · subst hx
    have e2 : st0 = st := Option.some.inj e
    subst e2
    exact fin _ _ _ _ _ _ (a1.wk hw0) s1 s2
  · subst hx
    have e2 : mB = some st := e
    refine hB b st e2 _ a1 (fun st' e' A' N' W' O' H' σ' a' x1 x2 => ?_) (fun r e' => by cases e')
    cases e'
    exact fin _ _ _ _ _ _ ((a'.clr (i := i)).wk (hΓ b st)) (s1.trans x1) (s2.trans x2)
theorem b_tryFT {τ1 : Type} {Γ1 : τ1 → Ctx} {Γs : Addr → τ1 → Ctx} {cB : Value} {i : Nat} {sp : Sp} {x : Bool} {tsu : Addr → TS} {st0 : τ1} {mB : Option (Fl ρ τ1)} {k : τ1 → Option ρ} {Γ' : τ → Ctx} {R0 : ρ → V → Hp → Prop}
    (hs : EvA K H0 Γ ts .h ds) (hp : Tri1 K C sp ds x) (hx : PySem.W.exmOne K (.ref C) cB = some true) (hi : i < Γ.length) (hw0 : Wk Γ (Γ1 st0)) (hB : ∀ b, Blk K H0 (exR R0) (Γ.set i (some (.r (.ref b)))) (tsu b) (Γs b) idF mB) (hΓ : ∀ b st, Wk ((Γs b st).set i none) (Γ1 st)) (rest : ∀ st, Blk K H0 (exR R0) (Γ1 st) u Γ' Fl.ret (k st)) :
    Blk K H0 (exR R0) Γ (tSeq (tTry1 K cB i C sp ts tsu) u) Γ' Fl.ret ((iteO x (some (.nxt st0)) mB).bind (flR k)) := fun w hw D A N W O H σ a kn kr => by
  obtain ⟨fl, e, hw⟩ := bind_some_iff hw
  have fin : ∀ st, fl = .nxt st → ∀ A' N' W' O' H' σ', AtB K H0 A' N' W' O' H' σ' (Γ1 st) → Same A A' → Same N N' → u D σ' H' := fun st e A' N' W' O' H' σ' a' x1 x2 => by
    subst e
    exact rest st w hw D a' (fun st' e' => by cases e') (fun r e => kr r e)
  refine try_goT a hs hp hx hi (fun hx A1 N1 H1 a1 s1 s2 => ?_) (fun hx b A1 N1 H1 a1 s1 s2 => ?_)
  · subst hx
    exact fin st0 (Option.some.inj e).symm _ _ _ _ _ _ (a1.wk hw0) s1 s2
  · subst hx
    have e2 : mB = some fl := e
    refine hB b fl e2 _ a1 (fun st e' A' N' W' O' H' σ' a' x1 x2 => ?_) (fun r e' => ?_)
    · exact fin st e' _ _ _ _ _ _ ((a'.clr (i := i)).wk (hΓ b st)) (s1.trans x1) (s2.trans x2)
    · have e3 : fl = .ret r := e'
      subst e3
      cases hw
      exact kr _ rfl
end
section
variable {K : PySem.W.Frag} {N : List Str} {vs : List V} {H : Hp} {Q : VK} {ds : List PyData} {t : TS} {τ : Type} {Γ : Ctx} {Γ' : τ → Ctx} {C : Addr} {E : XK}
theorem body_XO {α : Type} [ToD α] {m : Option (Option (List α))} {r : Option (List α)} (hl : HLen H) (hd : DpAll K H vs ds) (hm : m = some r) (hn : ds.length ≤ N.length) (hΓ : entryC ds N.length = Γ) (hb : Blk K (bs H) (exXO K (bs H) C E) Γ t Γ' Fl.ret m)
    (k : (∀ d, r.map (·.map toD) = some d → ∀ l ws M H', Same H H' → (∀ b o, M b = some o → H b = none ∨ FT o) → Same M H' → HLen H' → H l = none → M l = none → H' l = some (.lst ws) → DpAll K M ws d → Q (.ref l) H') ∧ (r.map (·.map toD) = none → ∀ H', Same H H' → HLen H' → E (.ref C) none H')) : t { nx := fun _ H' => Q .non H', rt := Q } (L2.start N vs) H := by
  subst hΓ
  refine hb r hm _ (entry hl hd hn) (fun st e => by cases e) fun r' e => ⟨fun x hx v H' q => ?_, fun hx H' s hl' => ?_⟩
  · cases e
    subst hx
    obtain ⟨h0, h1, M, l, ws, rfl, h2, h3, h4, h5, h6, h7⟩ := q
    exact k.1 _ rfl l ws M H' h0 (fun b o e => (h2 b o e).imp id fun z => z.resolve_left (by simp)) h3 h1 h4 h5 h6 h7
  · cases e
    subst hx
    exact k.2 rfl H' s hl'
end
end Mir

namespace Mir
open PySem PySem.Spec L2 PyProof.Rows
open ToD (toD)
set_option autoImplicit false
/-! ## defs that are handed a caught error; a def that may raise with a default -/
abbrev RoomP (k : Nat) (A : Around) : Prop := L2H.RoomH k A
theorem roomP {k : Nat} {A : Around} {v : Option Value} (r : Room k A) : RoomP k (A.mark v) := ⟨r.dp, r.un⟩
theorem hu65P {k : Nat} {A : Around} (r : RoomP k A) : A.units + 65 < cLine := by have := r.un; omega
theorem unitsP {k : Nat} {A : Around} (r : RoomP k A) : A.units + 64 < cLine := by have := r.un; omega
/-- a def's promise where p stands by -/
structure FnPin (P : Program) (w : World) (K : PySem.W.Frag) (mg : Str → Option Value) (base : Heap) (p : Addr × Obj) (k : Nat) (f : Addr) (fd : FuncData) (ps : List Str) (sp : Sp) : Prop where
  len : ∀ vs H Q E, sp vs H Q E → vs.length = ps.length
  run : ∀ (A : Around) (out : List Env) (st : Shared) (H : Hp) (gs : Args) (us : List Value) (vs : List V) (Q : VK) (E : XK), RoomP k A → L2H.PinOk out H st p → Env0 P w K mg base A out st H → BindsTo st fd gs (ps.zip us) →
    Vals vs us → sp vs H Q E → codeAny (model P w) A (.call (.ref f) gs) (CR CX0 out P w H st Q E) st
section
variable {P : Program} {w : World} {K : PySem.W.Frag} {mg : Str → Option Value} {base : Heap}
theorem okPin {x qual : Str} {st : Stmt} {f : Addr} {fd : FuncData} {N ps : List Str} {k : Nat} {sp : Sp} {p : Addr × Obj} (F : Fun K x qual st f fd) (S : FnScope N ps (defScope st)) (len : ∀ vs H Q E, sp vs H Q E → vs.length = ps.length)
    (hb : ∀ (cdv : Value) (A : Around) (out : List Env) (s : Shared) (H : Hp) (vs : List V) (Q : VK) (E : XK), RoomP k (A.deeper (envOfC qual (defScope st) s.heap.objs.size f cdv)) → sp vs H Q E →
      ∃ t, PSs (L2H.cxH CX0 P w K mg base N qual (defScope st) f cdv A out s H E p).nox (defBody st) t ∧ t { nx := fun _ H' => Q .non H', rt := Q } (L2.start N vs) H) : FnPin P w K mg base p (k + 1) f fd ps sp := by
  obtain ⟨oc, od, kV, doc, pm, an, cdv, ct, osl, rfl, lk, hcd⟩ := F.ex
  refine ⟨len, fun A out s H gs us vs Q E room pin e0 bd rv hq => ?_⟩
  have kin := e0.mod.kin.keeps fun b o e => (e0.bs b o e).1
  have nol := e0.mod.nolimit.keeps fun b o e => (e0.bs b o e).1
  have kd : ∀ z ∈ ps.zip us, (defScope st).names.lookup z.1 = some .local ∨ ((defScope st).names.lookup z.1 = some .cell ∧ ((cellsFrom (s.heap.objs.size + 1) (defScope st).names []).lookup z.1).isSome = true) := by
    rintro ⟨n, u⟩ hz
    cases S.par n (List.of_mem_zip hz).1 with
    | inl q => exact .inl q
    | inr q => exact .inr ⟨q, PySem.W.cellsFrom_some _ _ _ (.inl q)⟩
  refine codeAny_call_function room.depth (kin _ _ lk) rfl S.co S.gen rfl (PySem.W.codeRec_of kin hcd) (bd _ _ _ _ ?_)
  refine wpAny_newFunctionEnv_cells S.kind kd fun en he s1 inn => ?_
  subst he
  refine ⟨nol.keeps inn.toInCall.keep, codeAny_func ?_⟩
  obtain ⟨t, ht, q0⟩ := hb cdv A out s H vs Q E (room.deeper _) hq
  have I := L2H.inv_startH (CX := CX0) (w := w) (P := P) (E := E) (f := f) (cd := cdv) S pin e0 (len _ _ _ _ hq) rv inn
  refine wpAny_mono (ht.nox.run [] s1 (L2.start N vs) H _ I q0) (fun fl s2 hs => ?_) fun e s2 hs => hs
  match fl, hs with
  | .ret u, ⟨v, σ2, H2, J, rr, qq⟩ => exact ⟨v, H2, J.os, J.bare, J.base, J.hok, rr, qq⟩
  | .next, ⟨σ2, H2, J, qq⟩ => exact ⟨V.non, H2, J.os, J.bare, J.base, J.hok, rfl, qq⟩
  | .brk, ⟨_, _, _, qq⟩ => exact qq.elim
  | .cont, ⟨_, _, _, qq⟩ => exact qq.elim
section
variable {X : Cx} {k : Nat} {f : Addr} {fd : FuncData} {ps : List Str} {sp : Sp} {x : Str} {q pos : Pos} {e : Expr} {es : List Expr} {t : TA} {p : Addr × Obj}
theorem pe_callPin (hp : p ∈ X.pn) (F : FnPin X.prog X.w X.K X.mg X.base p k f fd ps sp) (hr : RoomP k X.A) (hg : Gl X x) (hm : X.mg x = some (.ref f)) (hk : PySem.W.keepIn X.K (.ref f) = true) (hb : Binds X.K fd ps [])
    (ha : PA X (e :: es) t) (hdb : (x == ("__debug__" : Str)) = false := by decide) (he : starEach (e :: es) X.env = (false, eval e X.env) :: starEach es X.env := by rfl) (hpl : (backTo pos (starEach es X.env)).any (·.1) = false := by rfl) :
    PE X (.Call (.Name x q) (e :: es) [] pos) (tCallS sp (fun _ _ _ _ => False) t) := by
  refine ⟨fun pins s σ H Q I h => wpAny_Call_Name_kw (ld_glob I hg hm ?_ hdb)⟩
  refine PySem.W.callWith_K (h₀ := X.base) I.ok.mod.kin hk (thn (ha.run pos pins s σ H _ I h) fun us s1 hh => ?_) he hpl
  obtain ⟨vs, H1, I1, rv, hq⟩ := hh
  refine ⟨I1.kIn, ?_⟩
  have hl : us.length = ps.length := by rw [← rv.length]; exact F.len _ _ _ _ hq
  have bd := hb s1 us I1.kIn (by rw [List.append_nil]; exact hl)
  rw [List.append_nil] at bd
  obtain ⟨g1, g2, g3, g4, g5⟩ := I1.pin p (List.mem_append_left _ hp)
  have pin : L2H.PinOk X.stack H1 s1 p := ⟨g1, g2, fun hm => (List.mem_cons.mp (I1.stkSub p.1 hm)).elim g3 g4, g5⟩
  refine wpAny_call (codeAny_mono (F.run X.A X.stack s1 H1 ⟨us, []⟩ us vs Q (fun _ _ _ => False) hr pin I1.env0 bd rv hq) fun r s2 hx => ?_)
  match r, hx with
  | .error e, hx => exact hx.elim
  | .ok (.ret u), hx => exact I1.after hx
  | .ok .next, hx => exact hx.elim
  | .ok .brk, hx => exact hx.elim
  | .ok .cont, hx => exact hx.elim
theorem call_isPin {a D : Addr} {oe : Obj} (C : ExcC X.K D) (hp : (a, oe) ∈ X.pn) (hz : Zc (.ref D) none oe) (hf : ∃ vs, oe.data = .fields vs) : CallR X (.builtin "isinstance") (rIsE X.K D a) := by
  intro pins s σ H xs us Q I rv hh
  obtain ⟨c, cv, b, rfl, hcv, hk, hq⟩ := hh
  match us, rv with
  | [u1, u2], .cons r1 (.cons r2 .nil) =>
    cases r1
    cases hcv _ r2
    have hget := (I.pin (a, oe) (List.mem_append_left _ hp)).1
    obtain ⟨vs, hv⟩ := hf
    have J : PySem.W.InstAt s.heap a oe D none := by
      obtain ⟨oc, od, oda, osl⟩ := oe
      obtain ⟨z1, z2⟩ := hz
      dsimp only at z1 z2 hv
      subst z1 z2 hv
      exact ⟨hget, rfl, rfl, trivial⟩
    have kx := PySem.W.handS_kitx_exc (x := a) (ox := oe) C.hg C.hk C.hs C.hd C.ha C.hn C.ht C.hm
    exact PySem.W.kia_one kx I.kIn J hk (fun z => nomatch z) fun tk => ⟨.bl b, H, I.kept (t' := tk) fun _ _ z => z, rfl, hq⟩
end
end
/-! ### the promises -/
def FnEO (a : Addr) (K : PySem.W.Frag) (pre : List PyData → Prop) : Sp := fun vs H Q _ => vs = [V.ref a] ∧ ∃ rs, pre rs ∧
  ∀ l ws N H', Same H H' → (∀ b o, N b = some o → H b = none ∨ FT o) → Same N H' → HLen H' → H l = none → N l = none → H' l = some (.lst ws) → DpAll K N ws rs → Q (.ref l) H'
def FnES (a : Addr) (K : PySem.W.Frag) (pre : PyData → Prop) : Sp := fun vs H Q _ => vs = [V.ref a] ∧ ∃ r, pre r ∧
  ∀ v N H', Same H H' → (∀ b o, N b = some o → H b = none ∨ FT o) → Same N H' → HLen H' → Dp K N v r → Q v H'
section
variable {K : PySem.W.Frag} {H0 : Base} {Γ : Ctx} {ts : TA} {md : Md} {d : PyData} {a : Addr} {i : Nat} {E2 : St → XK}
theorem o_callEO {pre : List PyData → Prop} {rs : List PyData} (h : Γ[i]? = some (some (.r (.ref a)))) (hp : pre rs) : EvO K H0 Γ (tCallS (FnEO a K pre) E2 (tCons (tVar i) tNil)) md rs := fun A N W O H σ Q at_ k => by
  obtain ⟨x, ex, rfl⟩ := at_.cs i _ h
  refine ⟨_, ex, rfl, rs, hp, fun l ws M H' sH fr sM hl hn hN hw qv => ?_⟩
  obtain ⟨a2, u1, u2, u3, u4⟩ := at_.called sH fr sM hl
  exact k _ _ H' l ws a2 u1 u2 sH hn (uni_none (at_.ah.free hn) hN) (at_.noW hn) hw (dpAll_n u3 u4 sM qv)
theorem e_callES {pre : PyData → Prop} {r : PyData} (h : Γ[i]? = some (some (.r (.ref a)))) (hp : pre r) : Ev K H0 Γ (tCallS (FnES a K pre) E2 (tCons (tVar i) tNil)) md r := fun A N W O H σ Q at_ k => by
  obtain ⟨x, ex, rfl⟩ := at_.cs i _ h
  refine ⟨_, ex, rfl, r, hp, fun v M H' sH fr sM hl qv => ?_⟩
  obtain ⟨a2, u1, u2, u3, u4⟩ := at_.called sH fr sM hl
  exact k _ _ H' v a2 u1 u2 sH (dp_n u3 u4 sM qv)
end
section
variable {K : PySem.W.Frag} {N : List Str} {H : Hp} {Q : VK} {t : TS} {τ : Type} {Γ : Ctx} {Γ' : τ → Ctx} {a : Addr}
theorem entryE (hl : HLen H) (hn : 1 ≤ N.length) : AtB K (bs H) H (fun _ => none) (fun _ => False) (fun _ => []) H (L2.start N [V.ref a]) (some (.r (.ref a)) :: List.replicate (N.length - 1) none) where
  na := fun b o e => by cases e
  ah := Same.refl _
  h0 := Same.refl _
  fr := fun b o e => by cases e
  own := fun b w => w.elim
  sub := fun i l h => by cases h
  dj := fun i j l h => by cases h
  nd := fun i => .nil
  hl := hl
  len := by unfold L2.start; simp
  cs := fun i c e => by
    match i, e with
    | 0, e => cases e; exact ⟨_, rfl, rfl⟩
    | i + 1, e =>
      rw [List.getElem?_cons_succ, List.getElem?_replicate] at e
      split at e <;> cases e
theorem body_EO {α : Type} [ToD α] {m : Option (List α)} {r : List α} {vs : List V} (hv : vs = [V.ref a]) (hl : HLen H) (hm : m = some r) (hn : 1 ≤ N.length) (hΓ : some (.r (.ref a)) :: List.replicate (N.length - 1) none = Γ) (hb : Blk K (bs H) (exR (RetO K (bs H))) Γ t Γ' Fl.ret m)
    (k : ∀ l ws M H', Same H H' → (∀ b o, M b = some o → H b = none ∨ FT o) → Same M H' → HLen H' → H l = none → M l = none → H' l = some (.lst ws) → DpAll K M ws (r.map toD) → Q (.ref l) H') : t { nx := fun _ H' => Q .non H', rt := Q } (L2.start N vs) H := by
  subst hΓ hv
  exact hb r hm _ (entryE hl hn) (fun st e => by cases e) fun r' e v H' q => by
    cases e
    obtain ⟨h0, h1, M, l, ws, rfl, h2, h3, h4, h5, h6, h7⟩ := q
    exact k l ws M H' h0 (fun b o e => (h2 b o e).imp id fun z => z.resolve_left (by simp)) h3 h1 h4 h5 h6 h7
theorem body_ES {α : Type} [ToD α] {m : Option α} {r : α} {vs : List V} (hv : vs = [V.ref a]) (hl : HLen H) (hm : m = some r) (hn : 1 ≤ N.length) (hΓ : some (.r (.ref a)) :: List.replicate (N.length - 1) none = Γ) (hb : Blk K (bs H) (exR (RetS K (bs H))) Γ t Γ' Fl.ret m)
    (k : ∀ v M H', Same H H' → (∀ b o, M b = some o → H b = none ∨ FT o) → Same M H' → HLen H' → Dp K M v (toD r) → Q v H') : t { nx := fun _ H' => Q .non H', rt := Q } (L2.start N vs) H := by
  subst hΓ hv
  exact hb r hm _ (entryE hl hn) (fun st e => by cases e) fun r' e v H' q => by
    cases e
    obtain ⟨h0, h1, M, h2, h3, h4⟩ := q
    exact k v M H' h0 (fun b o e => (h2 b o e).imp id fun z => z.resolve_left (by simp)) h3 h1 h4
end
/-! ### a default of a def that may raise -/
section
variable {P : Program} {w : World} {K : PySem.W.Frag} {mg : Str → Option Value} {base : Heap}
theorem FunT.okX {x qual : Str} {st : Stmt} {f : Addr} {fd : FuncData} {N ps : List Str} {k : Nat} {sp : Sp} (F : FunT K x qual st f fd) (S : FnScope N ps (defScope st)) (len : ∀ vs H Q E, sp vs H Q E → vs.length = ps.length)
    (hb : ∀ (cdv : Value) (A : Around) (out : List Env) (s : Shared) (H : Hp) (vs : List V) (Q : VK) (E : XK), Room k (A.deeper (envOfC qual (defScope st) s.heap.objs.size f cdv)) → sp vs H Q E →
      ∃ t, PSs (cxOf (L2.CX P w) P w K mg base N qual (defScope st) f cdv A out s H E) (defBody st) t ∧ t { nx := fun _ H' => Q .non H', rt := Q } (L2.start N vs) H) : L2.FnOk P w K mg base (L2.CX P w) (k + 1) f fd ps sp := by
  obtain ⟨oc, od, kV, doc, pm, an, cdv, ct, osl, T, oT, n, rfl, lk, hcd, _, _⟩ := F.ex
  exact fn_of lk hcd S len fun A out s H vs Q E hr hq => hb cdv A out s H vs Q E hr hq
end
section
variable {K : PySem.W.Frag} {H0 : Base} {Γ : Ctx} {ts : TA} {md : Md} {d : PyData} {ds : List PyData} {sp : Sp} {E2 : St → XK} {C : Addr} {E : XK} {o : Option PyData}
theorem tCallSD_snoc : tCallSD sp [V.non] E2 ts = tCallS sp E2 (tSnoc ts) := by
  funext σ H Q
  unfold tCallSD tCallS tSnoc
  rfl
theorem ev_dflS (h : Ev K H0 Γ (tCallS sp E2 (tSnoc ts)) md d) : Ev K H0 Γ (tCallSD sp [V.non] E2 ts) md d := by rw [tCallSD_snoc]; exact h
theorem evX_dflS (h : EvX K H0 Γ (tCallS sp E2 (tSnoc ts)) md C E o) : EvX K H0 Γ (tCallSD sp [V.non] E2 ts) md C E o := by rw [tCallSD_snoc]; exact h
end
end Mir
namespace Mir
open PySem PySem.Spec L2 PyProof.Rows
theorem pe_asS {X : Cx} {e : Expr} {sp : Sp} {E : St → XK} {ts : TA} (h : PE X e (tCallSD sp [V.non] E ts)) : PE X e (tCallS sp E (tSnoc ts)) := by
  rw [← tCallSD_snoc]; exact h
end Mir
namespace Mir
open PySem
theorem kitE_own {K : PySem.W.Frag} {R Q : Addr} {b : Bool} (k0 : PySem.W.subIn K (.ref R) (.ref R) = some true) (k1 : PySem.W.isClsIn K Q = true) (k2 : PySem.W.typeIn K (.ref Q) = some (.type "type")) (k3 : PySem.W.subIn K (.ref R) (.ref Q) = some b) : PySem.W.kitOne K (.ref R) (.ref Q) = some b := by
  unfold PySem.W.kitOne
  by_cases h : ((Value.ref R : Value) == .ref Q) = true
  · rw [if_pos h]
    have e := Value.ref.inj (beq_iff_eq.mp h)
    subst e
    rw [k0] at k3
    exact k3
  · rw [if_neg h]
    unfold PySem.W.kitCls
    have h1 : ((PySem.W.clsIn K Q).isSome && PySem.W.typeIn K (.ref Q) == some (.type "type")) = true := by
      rw [Bool.and_eq_true]
      exact ⟨k1, by rw [k2]; exact beq_self_eq_true _⟩
    show (if _ then _ else _) = _
    rw [if_pos h1]
    exact k3
theorem kitE_ty {K : PySem.W.Frag} {R : Addr} {q : String} {b : Bool} (hm : PySem.W.kitMeta q = true) (k3 : PySem.W.subIn K (.ref R) (.type q) = some b) : PySem.W.kitOne K (.ref R) (.type q) = some b := by
  unfold PySem.W.kitOne
  by_cases h : ((Value.ref R : Value) == .type q) = true
  · cases beq_iff_eq.mp h
  · rw [if_neg h]
    unfold PySem.W.kitCls
    show (if _ then _ else _) = _
    rw [if_pos hm]
    exact k3
end Mir

namespace Mir
open PySem PySem.Spec L2
open ToD (toD)
set_option autoImplicit false
/-! ## a list of rows of ints handed in and changed -/
def mask (H : Hp) (L : List Addr) : Hp := fun b => if b ∈ L then none else H b
theorem mask_in {H : Hp} {L : List Addr} {b : Addr} (h : b ∈ L) : mask H L b = none := by unfold mask; rw [if_pos h]
theorem mask_out {H : Hp} {L : List Addr} {b : Addr} (h : b ∉ L) : mask H L b = H b := by unfold mask; rw [if_neg h]
theorem mask_sub (H : Hp) (L : List Addr) : Same (mask H L) H := fun b o e => by
  by_cases h : b ∈ L
  · rw [mask_in h] at e; cases e
  · rw [mask_out h] at e; exact e
theorem fl_dp {K : PySem.W.Frag} {S S' : Hp} {v : V} {d : PyData} (h : flatD d = true) (q : Dp K S v d) : Dp K S' v d := by
  cases q with
  | non => exact .non
  | bl b => exact .bl b
  | int i => exact .int i
  | str x => exact .str x
  | lst _ _ => cases h
  | tup _ _ => cases h
  | dk _ _ _ => cases h
  | dt _ _ _ => cases h
theorem fl_dpAll {K : PySem.W.Frag} {S S' : Hp} : ∀ {vs : List V} {ds : List PyData}, ds.all flatD = true → DpAll K S vs ds → DpAll K S' vs ds
  | _, _, _, .nil => .nil
  | _, _, h, .cons q t => by
    rw [List.all_cons, Bool.and_eq_true] at h
    exact .cons (fl_dp h.1 q) (fl_dpAll h.2 t)
theorem fl_rows {K : PySem.W.Frag} {S S' H : Hp} : ∀ {ls : List Addr} {dss : List (List PyData)}, (∀ ds ∈ dss, ds.all flatD = true) → Rows K S H ls dss → Rows K S' H ls dss
  | [], [], _, _ => trivial
  | _ :: _, _ :: _, h, ⟨⟨vs, e, t⟩, r⟩ => ⟨⟨vs, e, fl_dpAll (h _ List.mem_cons_self) t⟩, fl_rows (fun ds hd => h ds (List.mem_cons_of_mem _ hd)) r⟩
  | [], _ :: _, _, h => h.elim
  | _ :: _, [], _, h => h.elim
theorem fl_ints {α : Type} [ToD α] [FlatT α] (xss : List (List α)) : ∀ ds ∈ xss.map (·.map toD), ds.all flatD = true := fun ds hd => by
  obtain ⟨xs, _, rfl⟩ := List.mem_map.mp hd
  exact flat_all FlatT.fl xs
theorem rows_lst {K : PySem.W.Frag} {S H : Hp} : ∀ {ls : List Addr} {dss : List (List PyData)}, Rows K S H ls dss → ∀ k ∈ ls, ∃ vs, H k = some (.lst vs)
  | l :: ls, _ :: _, ⟨⟨vs, e, _⟩, r⟩, k, hk => by
    rcases List.mem_cons.mp hk with rfl | hk
    · exact ⟨vs, e⟩
    · exact rows_lst r k hk
  | [], [], _, k, hk => by cases hk
  | [], _ :: _, h, _, _ => h.elim
  | _ :: _, [], h, _, _ => h.elim
section
variable {K : PySem.W.Frag} {H0 : Base} {ρ τ υ ω : Type} {R : Ex ρ} {Γ Γ2 : Ctx} {t u : TS} {Γ' : τ → Ctx} {I : ω → Fl ρ τ} {te ti ta tb : TE} {ts : TA} {md m1 : Md} {d : PyData} {ds ds1 ds2 : List PyData} {dss : List (List PyData)} {l : Addr} {ls : List Addr}
abbrev ck {α : Type} [ToD α] (l : Addr) (ls : List Addr) (xss : List (List α)) : Option Cell := some (.k l ls (xss.map (·.map toD)))
theorem ev_varK {α : Type} [ToD α] {i : Nat} {xss : List (List α)} (h : Γ[i]? = some (some (.k l ls (xss.map (·.map toD)))) := by rfl) : Ev K H0 Γ (tVar i) .h (toD xss) := fun A N W O H σ Q a k => by
  obtain ⟨x, e, e1, e2, e3, q⟩ := a.cs i _ h
  subst e1
  have ed : toD xss = PyData.list ((xss.map (·.map toD)).map PyData.list) := by
    show PyData.list (xss.map toD) = _
    rw [List.map_map]; rfl
  rw [ed] at k
  exact ⟨_, e, k A N H _ a (Same.refl _) (Same.refl _) (Same.refl _) (.lst (.inl (.inl e3)) (rows_dp (fun b o e => by cases e) q))⟩
theorem AtB.mutRowK {i k : Nat} {ds' : List PyData} {A N : Hp} {W : Addr → Prop} {O : Nat → List Addr} {H : Hp} {σ : St} (a : AtB K H0 A N W O H σ Γ) (h : Γ[i]? = some (some (.k l ls dss))) (hk : dss[k]? = some ds) :
    ∃ (b : Addr) (ws : List V), σ[i]? = some (some (.ref l)) ∧ H l = some (.lst (ls.map V.ref)) ∧ ls[k]? = some b ∧ H b = some (.lst ws) ∧ DpAll K (fun _ => none) ws ds ∧ ls.length = dss.length ∧
      ∀ ws', ws'.length ≤ sizeLine → DpAll K (fun _ => none) ws' ds' → AtB K H0 A N W O (upd H b (.lst ws')) σ (Γ.set i (some (.k l ls (dss.set k ds')))) := by
  obtain ⟨x0, ex0, rfl, eO, el, q⟩ := a.cs i _ h
  have hi := lt_of_get h
  obtain ⟨b, ws, hb, hbw, hbq⟩ := rows_get q hk
  have hbl : b ∈ l :: ls := List.mem_cons_of_mem _ (List.mem_of_getElem? hb)
  have hWb : W b := a.sub i b (by rw [eO]; exact hbl)
  have nd := a.nd i
  rw [eO] at nd
  obtain ⟨nd1, nd2⟩ := List.nodup_cons.mp nd
  refine ⟨b, ws, ex0, el, hb, hbw, hbq, rows_len q, fun ws' hz q' => ?_⟩
  have a0 : AtB K H0 A N W O H σ (Γ.set i none) := a.weak (by rw [List.length_set]) fun j c e => by
    by_cases z : j = i
    · subst z; rw [List.getElem?_set_self hi] at e; cases e
    · rw [List.getElem?_set_ne (Ne.symm z)] at e; exact e
  have a3 := a0.write (vs := ws') hWb hz fun j c e hj => by
    have z : j = i := a.dj j i b hj (by rw [eO]; exact hbl)
    subst z; rw [List.getElem?_set_self hi] at e; cases e
  have hlb : l ≠ b := fun z => nd1 (z ▸ List.mem_of_getElem? hb)
  have q3 := rows_set (H := H) (i := k) q' q nd2 hb
  exact { a3 with
    len := by rw [List.length_set]; exact a.len
    cs := fun j c e => by
      by_cases z : j = i
      · subst z
        rw [List.getElem?_set_self hi] at e; cases e
        exact ⟨_, ex0, rfl, eO, by rw [upd_ne hlb]; exact el, q3⟩
      · rw [List.getElem?_set_ne (Ne.symm z)] at e
        exact a3.cs j c (by rw [List.getElem?_set_ne (Ne.symm z)]; exact e) }
/-- xs[i].append(e) -/
theorem b_append2K {α : Type} [ToD α] [FlatT α] {xss yss : List (List α)} {y : α} {n : Int} {i : Nat} {m : Option ω} (h : Γ[i]? = some (some (.k l ls (xss.map (·.map toD))))) (hn : Ev K H0 Γ ti .h (toD n)) (he : Ev K H0 Γ te .h (toD y)) (hy : app2O xss n y = some yss) (hΓ : Γ.set i (some (.k l ls (yss.map (·.map toD)))) = Γ2) (rest : Blk K H0 R Γ2 u Γ' I m) :
    Blk K H0 R Γ (tSeq (tDrop (tBM K "list" rAppend (tOp (rIxL K) (tVar i) ti) (tCons te tNil))) u) Γ' I m := fun w hw D A N W O H σ a kn kr => by
  subst hΓ
  obtain ⟨x0, ex0, rfl, eO, el, q⟩ := a.cs i _ h
  refine ⟨_, ex0, hn _ a fun A1 N1 H1 v1 a1 s1 s2 s3 q1 => ?_⟩
  obtain ⟨k, hk, hy⟩ := bind_some_iff hy
  obtain ⟨row, hrow, hy⟩ := bind_some_iff hy
  split at hy
  · rename_i hz
    cases hy
    have hr1 : (xss.map (·.map toD))[k]? = some (row.map toD) := by rw [List.getElem?_map, hrow]; rfl
    obtain ⟨b, ws, g1, g2, g3, g4, g5, g6, _⟩ := a1.mutRowK (ds' := []) h hr1
    have lenls : (ls.map V.ref).length = xss.length := by rw [List.length_map, g6, List.length_map]
    refine ⟨l, ls.map V.ref, n, .ref b, rfl, dp_int q1, .inl (.inl g2), ?_, tyL g4, ?_⟩
    · unfold atI
      rw [lenls, hk]
      show (ls.map V.ref)[k]? = _
      rw [List.getElem?_map, g3]; rfl
    · refine he _ a1 fun A2 N2 H2 v2 a2 t1 t2 t3 q2 => ?_
      obtain ⟨b', ws', p1, p2, p3, p4, p5, p6, nx⟩ := a2.mutRowK (ds' := (row ++ [y]).map toD) h hr1
      have eb : b' = b := Option.some.inj (p3.symm.trans g3)
      subst eb
      have hlen : ws'.length < sizeLine := by rw [dpAll_len p5, List.length_map, lim_eq]; exact hz
      refine ⟨b', ws', v2, rfl, rfl, p4, hlen, ?_⟩
      have a4 := nx (ws' ++ [v2]) (by rw [List.length_append]; exact hlen) (by rw [List.map_append]; exact dpAll_app p5 (.cons (fl_dp (FlatT.fl y) q2) .nil))
      have eset : (xss.map (·.map toD)).set k ((row ++ [y]).map toD) = (xss.set k (row ++ [y])).map (·.map toD) := by rw [List.map_set]
      rw [eset] at a4
      exact rest w hw D a4 (fun st e A' N' W' O' H' σ' a' x1 x2 => kn st e A' N' W' O' H' σ' a' ((s1.trans t1).trans x1) ((s2.trans t2).trans x2)) (fun r e => R.mono (s1.trans t1) (s2.trans t2) (kr r e))
  · cases hy
end
/-! ### the promise -/
def FnIO (K : PySem.W.Frag) (pre : List PyData → List PyData → List (List PyData) → List PyData → List (List PyData) → Prop) : Sp := fun vs H Q _ => ∃ ds1 ds2 dss rs dss' vs1 vs2 l ls, vs = vs1 ++ V.ref l :: vs2 ∧ Same (mask H (l :: ls)) H ∧ DpAll K (mask H (l :: ls)) vs1 ds1 ∧ DpAll K (mask H (l :: ls)) vs2 ds2 ∧
  (l :: ls).Nodup ∧ H l = some (.lst (ls.map V.ref)) ∧ Rows K (fun _ => none) H ls dss ∧ pre ds1 ds2 dss rs dss' ∧
  ∀ m ws N H', Same (mask H (l :: ls)) H' → (∀ b o, N b = some o → (H b = none ∨ FT o) ∧ b ∉ l :: ls) → Same N H' → HLen H' → H m = none → N m = none → H' m = some (.lst ws) → DpAll K N ws rs → H' l = some (.lst (ls.map V.ref)) → Rows K (fun _ => none) H' ls dss' → Q (.ref m) H'
def RetIO (K : PySem.W.Frag) (H0 : Base) (l : Addr) (ls : List Addr) {α β : Type} [ToD α] [ToD β] (r : List α × List (List β)) (v : V) (H : Hp) : Prop := Same H0 H ∧ HLen H ∧ ∃ N m ws, v = .ref m ∧ (∀ b o, N b = some o → H0.Fr b o ∧ b ∉ l :: ls) ∧ Same N H ∧ H0 m = none ∧ m ∉ l :: ls ∧ N m = none ∧ H m = some (.lst ws) ∧ DpAll K N ws (r.1.map toD) ∧
  H l = some (.lst (ls.map V.ref)) ∧ Rows K (fun _ => none) H ls (r.2.map (·.map toD))
section
variable {K : PySem.W.Frag} {H0 : Base} {ρ τ υ ω : Type} {R : Ex ρ} {Γ Γ2 : Ctx} {t u : TS} {Γ' : τ → Ctx} {I : ω → Fl ρ τ} {te ti ta tb : TE} {ts : TA} {md m1 : Md} {d : PyData} {ds ds1 ds2 : List PyData} {dss : List (List PyData)} {l : Addr} {ls : List Addr}
theorem b_retIO {α β : Type} [ToD α] [ToD β] {i j : Nat} {r : List α} {kin : List (List β)} {Γ' : τ → Ctx} (h : Γ[i]? = some (some (.o .n (r.map toD)))) (hj : Γ[j]? = some (some (.k l ls (kin.map (·.map toD))))) (hij : i ≠ j) :
    Blk K H0 (exR (RetIO K H0 l ls)) Γ (tSeq (tRet (tVar i)) u) Γ' Fl.ret (some (r, kin)) := fun w hw D A N W O H σ a kn kr => by
  cases hw
  obtain ⟨x, ex, hm, m, ws, rfl, eO, el, q⟩ := a.cs i _ h
  obtain ⟨y, ey, rfl, eO2, el2, q2⟩ := a.cs j _ hj
  have hA := (a.own m (a.sub i m (by rw [eO]; exact List.mem_cons_self))).1
  have hL : ∀ b ∈ l :: ls, A b = none := fun b hb => (a.own b (a.sub j b (by rw [eO2]; exact hb))).1
  refine ⟨_, ex, kr _ rfl _ H ⟨a.h0h, a.hl, N, m, ws, rfl, fun b o e => ⟨a.fr b o e, fun hb => ?_⟩, a.na.trans a.ah, a.h0.free hA, fun hb => ?_, a.na.free hA, el, q, el2, q2⟩⟩
  · rw [a.na.free (hL b hb)] at e; cases e
  · exact hij (a.dj i j m (by rw [eO]; exact List.mem_cons_self) (by rw [eO2]; exact hb))
/-- the arguments, one of them the list that is changed -/
def EvAK (K : PySem.W.Frag) (H0 : Base) (Γ : Ctx) (ts : TA) (j : Nat) (ds1 ds2 : List PyData) : Prop :=
  ∀ ⦃A N : Hp⦄ ⦃W : Addr → Prop⦄ ⦃O : Nat → List Addr⦄ ⦃H : Hp⦄ ⦃σ : St⦄ (Q : List V → Hp → Prop), AtB K H0 A N W O H σ Γ →
    (∀ A' N' H' vs1 vs2 x, AtB K H0 A' N' W O H' σ Γ → Same A A' → Same N N' → Same H H' → σ[j]? = some (some x) → DpAll K A' vs1 ds1 → DpAll K A' vs2 ds2 → Q (vs1 ++ x :: vs2) H') → ts σ H Q
theorem ak_own {j : Nat} {c : Cell} (h : Γ[j]? = some (some c)) (hs : EvA K H0 Γ ts .s ds2) : EvAK K H0 Γ (tCons (tVar j) ts) j [] ds2 := fun A N W O H σ Q a k => by
  obtain ⟨x, ex, _⟩ := a.cs j _ h
  exact ⟨x, ex, hs _ a fun A1 N1 H1 vs a1 s1 s2 s3 q1 => k A1 N1 H1 [] vs x a1 s1 s2 s3 ex .nil q1⟩
theorem ak_cons {j : Nat} (he : Ev K H0 Γ te .s d) (hs : EvAK K H0 Γ ts j ds1 ds2) : EvAK K H0 Γ (tCons te ts) j (d :: ds1) ds2 := fun A N W O H σ Q a k =>
  he _ a fun A1 N1 H1 v a1 s1 s2 s3 q1 => hs _ a1 fun A2 N2 H2 vs1 vs2 x a2 t1 t2 t3 ex q2 q3 => k A2 N2 H2 (v :: vs1) vs2 x a2 (s1.trans t1) (s2.trans t2) (s3.trans t3) ex (.cons (dp_mono t1 q1) q2) q3
theorem AtB.writes {A N : Hp} {W : Addr → Prop} {O : Nat → List Addr} {σ : St} {H' : Hp} : ∀ (bs : List Addr) {H : Hp}, AtB K H0 A N W O H σ Γ → (∀ b ∈ bs, W b ∧ ∃ ws, H' b = some (.lst ws) ∧ ws.length ≤ sizeLine) → (∀ i c, Γ[i]? = some (some c) → ∀ b ∈ bs, b ∉ O i) →
    AtB K H0 A N W O (fun b => if b ∈ bs then H' b else H b) σ Γ
  | [], H, a, _, _ => by simpa using a
  | b :: bs, H, a, hb, ho => by
    obtain ⟨w, ws, e, hz⟩ := hb b List.mem_cons_self
    have a1 := a.write (vs := ws) w hz fun i c hc hi => absurd hi (ho i c hc b List.mem_cons_self)
    have a2 := AtB.writes bs a1 (fun c hc => hb c (List.mem_cons_of_mem _ hc)) fun i c hc x hx => ho i c hc x (List.mem_cons_of_mem _ hx)
    have : (fun c => if c ∈ b :: bs then H' c else H c) = fun c => if c ∈ bs then H' c else upd H b (.lst ws) c := by
      funext c
      by_cases h1 : c ∈ bs
      · rw [if_pos h1, if_pos (List.mem_cons_of_mem _ h1)]
      · rw [if_neg h1]
        by_cases h2 : c = b
        · subst h2; rw [if_pos List.mem_cons_self, upd_same, e]
        · rw [if_neg (fun z => (List.mem_cons.mp z).elim h2 h1), upd_ne h2]
    rw [this]; exact a2
theorem b_asgIO {α β : Type} [ToD α] [ToD β] [FlatT β] {i j : Nat} {r : List α} {kin kin' : List (List β)} {E : XK} {m : Option ω} {pre : List PyData → List PyData → List (List PyData) → List PyData → List (List PyData) → Prop}
    (hs : EvAK K H0 Γ ts j ds1 ds2) (hj : Γ[j]? = some (some (.p .n (kin.map (·.map toD))))) (hp : pre ds1 ds2 (kin.map (·.map toD)) (r.map toD) (kin'.map (·.map toD))) (hi : i < Γ.length) (hij : i ≠ j)
    (hΓ : (Γ.set j (some (.p .n (kin'.map (·.map toD))))).set i (some (.o .n (r.map toD))) = Γ2) (rest : Blk K H0 R Γ2 u Γ' I m) :
    Blk K H0 R Γ (tSeq (tAsg (tCall (FnIO K pre) [] E ts) (gName i)) u) Γ' I m := fun w hw D A N W O H σ a kn kr => by
  subst hΓ
  refine hs _ a fun A1 N1 H1 vs1 vs2 x a1 s1 s2 s3 ex q1 q2 => ?_
  obtain ⟨x', ex', hm, l, ls, rfl, eO, el, q⟩ := a1.cs j _ hj
  cases Option.some.inj (Option.some.inj (ex.symm.trans ex'))
  have hW : ∀ b ∈ l :: ls, W b := fun b hb => a1.sub j b (by rw [eO]; exact hb)
  have hA : ∀ b ∈ l :: ls, A1 b = none := fun b hb => (a1.own b (hW b hb)).1
  have hmA : Same A1 (mask H1 (l :: ls)) := fun b o e => by
    by_cases hb : b ∈ l :: ls
    · rw [hA b hb] at e; cases e
    · rw [mask_out hb]; exact a1.ah _ _ e
  have nd := a1.nd j
  rw [eO] at nd
  refine ⟨ds1, ds2, _, _, _, vs1, vs2, l, ls, by rw [List.append_nil], mask_sub _ _, dpAll_mono hmA q1, dpAll_mono hmA q2, nd, el, fl_rows (fl_ints kin) q, hp, fun m0 ws M H' sM frM sMH hl' hm0 hNm hwm qm ell qrows => ?_⟩
  have hjl := lt_of_get hj
  -- as before at the list, as behind elsewhere
  obtain ⟨G, hG⟩ : ∃ G : Hp, G = fun b => if b ∈ l :: ls then H1 b else H' b := ⟨_, rfl⟩
  have G1 : ∀ b, b ∈ l :: ls → G b = H1 b := fun b hb => by rw [hG]; exact if_pos hb
  have G2 : ∀ b, b ∉ l :: ls → G b = H' b := fun b hb => by rw [hG]; exact if_neg hb
  have sG : Same H1 G := fun b o e => by
    by_cases hb : b ∈ l :: ls
    · rw [G1 b hb]; exact e
    · rw [G2 b hb]; exact sM b o (by rw [mask_out hb]; exact e)
  have hlG : HLen G := fun b xs hr => by
    by_cases hb : b ∈ l :: ls
    · refine a1.hl b xs ?_
      rcases hr with hr | ⟨o, hr⟩
      · rw [G1 b hb] at hr; exact .inl hr
      · rw [G1 b hb] at hr; exact .inr ⟨o, hr⟩
    · refine hl' b xs ?_
      rcases hr with hr | ⟨o, hr⟩
      · rw [G2 b hb] at hr; exact .inl hr
      · rw [G2 b hb] at hr; exact .inr ⟨o, hr⟩
  have sMG : Same M G := fun b o e => by rw [G2 b (frM b o e).2]; exact sMH b o e
  obtain ⟨a2, u1, u2, u3, u4⟩ := a1.called sG (fun b o e => (frM b o e).1) sMG hlG
  have a3 : AtB K H0 (uni A1 M) (uni N1 M) W O G σ (Γ.set j none) := a2.weak (by rw [List.length_set]) fun k c e => by
    by_cases z : k = j
    · subst z; rw [List.getElem?_set_self hjl] at e; cases e
    · rw [List.getElem?_set_ne (Ne.symm z)] at e; exact e
  have a4 := a3.writes (H' := H') ls (fun b hb => by
    obtain ⟨ws', e⟩ := rows_lst qrows b hb
    exact ⟨hW b (List.mem_cons_of_mem _ hb), ws', e, hl' b ws' (.inl e)⟩) fun k c e b hb hbk => by
    have z : k = j := a1.dj k j b hbk (by rw [eO]; exact List.mem_cons_of_mem _ hb)
    subst z; rw [List.getElem?_set_self hjl] at e; cases e
  have eH : (fun b => if b ∈ ls then H' b else G b) = H' := by
    funext b
    by_cases hb : b ∈ ls
    · rw [if_pos hb]
    · rw [if_neg hb]
      by_cases z : b = l
      · subst z; rw [G1 b List.mem_cons_self, el, ell]
      · exact G2 b fun hb' => (List.mem_cons.mp hb').elim z hb
  rw [eH] at a4
  have a5 : AtB K H0 (uni A1 M) (uni N1 M) W O H' σ (Γ.set j (some (.p .n (kin'.map (·.map toD))))) :=
    { a4 with
      len := by rw [List.length_set]; exact a1.len
      cs := fun k c e => by
        by_cases z : k = j
        · subst z
          rw [List.getElem?_set_self hjl] at e; cases e
          exact ⟨_, ex, hm, l, ls, rfl, eO, ell, fl_rows (fl_ints kin') qrows⟩
        · rw [List.getElem?_set_ne (Ne.symm z)] at e
          exact a4.cs k c (by rw [List.getElem?_set_ne (Ne.symm z)]; exact e) }
  have hW0 : ¬ W m0 := a1.noW hm0
  have hA0 : uni A1 M m0 = none := uni_none (a1.ah.free hm0) hNm
  have a6 := a5.seto (i := i) (x := .ref m0) (c := .o .n (r.map toD)) (L := [m0]) (by rw [List.length_set]; exact hi) (fun b hb => by
    rw [List.mem_singleton.mp hb]
    exact ⟨hW0, hA0, .lst hwm⟩) (List.nodup_cons.mpr ⟨by simp, .nil⟩) ⟨fun z => (by cases z), m0, ws, rfl, rfl, hwm, dpAll_mono u3 qm⟩
  exact rest w hw D a6 (fun st e A' N' W' O' H'' σ' a' x1 x2 => kn st e A' N' W' O' H'' σ' a' ((s1.trans u1).trans x1) ((s2.trans u2).trans x2)) (fun r e => R.mono (s1.trans u1) (s2.trans u2) (kr r e))
end
section
variable {K : PySem.W.Frag} {H0 : Base} {ρ τ υ ω : Type} {R : Ex ρ} {Γ : Ctx} {t u : TS} {Γ' : τ → Ctx} {I : ω → Fl ρ τ} {ts : TA} {ds1 ds2 : List PyData}
theorem b_asgIOL {α β : Type} [ToD α] [ToD β] [FlatT β] {i j : Nat} {r : List α × List (List β)} {kin : List (List β)} {E : XK} {k : List α → List (List β) → Option ω} {Γ2 : List α → List (List β) → Ctx} {pre : List PyData → List PyData → List (List PyData) → List PyData → List (List PyData) → Prop}
    (hs : EvAK K H0 Γ ts j ds1 ds2) (hj : Γ[j]? = some (some (.p .n (kin.map (·.map toD))))) (hp : pre ds1 ds2 (kin.map (·.map toD)) (r.1.map toD) (r.2.map (·.map toD))) (hi : i < Γ.length) (hij : i ≠ j)
    (hΓ : ∀ (x : List α) (y : List (List β)), (Γ.set j (some (.p .n (y.map (·.map toD))))).set i (some (.o .n (x.map toD))) = Γ2 x y) (rest : ∀ x y, r = (x, y) → Blk K H0 R (Γ2 x y) u Γ' I (k x y)) :
    Blk K H0 R Γ (tSeq (tAsg (tCall (FnIO K pre) [] E ts) (gName i)) u) Γ' I (lt r.1 fun x => lt r.2 fun y => k x y) := by
  simp only [lt_def]
  exact b_asgIO hs hj hp hi hij (hΓ r.1 r.2) (rest r.1 r.2 rfl)
end
section
variable {K : PySem.W.Frag} {N : List Str} {H : Hp} {Q : VK} {ds1 ds2 : List PyData} {dss : List (List PyData)} {t : TS} {τ : Type} {Γ : Ctx} {Γ' : τ → Ctx} {vs1 vs2 : List V} {l : Addr} {ls : List Addr}
theorem entryIO (hl : HLen H) (h1 : DpAll K (mask H (l :: ls)) vs1 ds1) (h2 : DpAll K (mask H (l :: ls)) vs2 ds2) (nd : (l :: ls).Nodup) (el : H l = some (.lst (ls.map V.ref))) (hr : Rows K (fun _ => none) H ls dss) (hn : ds1.length + 1 + ds2.length ≤ N.length) :
    AtB K (bs (mask H (l :: ls))) (mask H (l :: ls)) (fun _ => none) (fun b => b ∈ l :: ls) (fun i => if i = ds1.length then l :: ls else []) H (L2.start N (vs1 ++ V.ref l :: vs2)) (ds1.map (fun d => some (.v .s d)) ++ some (.k l ls dss) :: (ds2.map (fun d => some (.v .s d)) ++ List.replicate (N.length - (ds1.length + 1 + ds2.length)) none)) where
  na := fun b o e => by cases e
  ah := mask_sub _ _
  h0 := Same.refl _
  fr := fun b o e => by cases e
  own := fun b w => ⟨mask_in w, by
    rcases List.mem_cons.mp w with rfl | hb
    · exact .lst el
    · obtain ⟨vs, e⟩ := rows_lst hr b hb
      exact .lst e⟩
  sub := fun i b h => by
    split at h
    · exact h
    · cases h
  dj := fun i j b h h' => by
    split at h
    · split at h'
      · omega
      · cases h'
    · cases h
  nd := fun i => by
    split
    · exact nd
    · exact .nil
  hl := hl
  len := by
    have e1 := dpAll_len h1
    have e2 := dpAll_len h2
    unfold L2.start
    simp only [List.length_append, List.length_map, List.length_replicate, List.length_cons, e1, e2]
    omega
  cs := fun i c e => by
    have e1 := dpAll_len h1
    have e2 := dpAll_len h2
    unfold L2.start
    rw [List.map_append, List.map_cons, List.append_assoc]
    by_cases hi : i < ds1.length
    · rw [List.getElem?_append_left (by rw [List.length_map]; exact hi), List.getElem?_map, List.getElem?_eq_getElem hi] at e
      have e' : (Cell.v Md.s ds1[i]) = c := Option.some.inj (Option.some.inj e)
      subst e'
      obtain ⟨v, hv, q⟩ := dpAll_get' h1 (List.getElem?_eq_getElem hi)
      exact ⟨v, by rw [List.getElem?_append_left (by rw [List.length_map, e1]; exact hi), List.getElem?_map, hv]; rfl, (fun z => by cases z), q⟩
    · rw [List.getElem?_append_right (by rw [List.length_map]; omega), List.length_map] at e
      rw [List.getElem?_append_right (by rw [List.length_map]; omega), List.length_map, e1]
      obtain ⟨n, hn'⟩ : ∃ n, i - ds1.length = n := ⟨_, rfl⟩
      rw [hn'] at e ⊢
      match n, hn' with
      | 0, hn' =>
        rw [List.getElem?_cons_zero] at e
        have e' : Cell.k l ls dss = c := Option.some.inj (Option.some.inj e)
        subst e'
        exact ⟨_, rfl, rfl, by rw [if_pos (by omega)], el, hr⟩
      | n + 1, hn' =>
        rw [List.getElem?_cons_succ] at e
        rw [List.cons_append, List.getElem?_cons_succ]
        by_cases hn2 : n < ds2.length
        · rw [List.getElem?_append_left (by rw [List.length_map]; exact hn2), List.getElem?_map, List.getElem?_eq_getElem hn2] at e
          have e' : (Cell.v Md.s ds2[n]) = c := Option.some.inj (Option.some.inj e)
          subst e'
          obtain ⟨v, hv, q⟩ := dpAll_get' h2 (List.getElem?_eq_getElem hn2)
          exact ⟨v, by rw [List.getElem?_append_left (by rw [List.length_map, e2]; exact hn2), List.getElem?_map, hv]; rfl, (fun z => by cases z), q⟩
        · rw [List.getElem?_append_right (by rw [List.length_map]; omega), List.getElem?_replicate] at e
          split at e <;> cases e
theorem body_IO {α β : Type} [ToD α] [ToD β] {m : Option (List α × List (List β))} {r : List α × List (List β)} (hl : HLen H) (h1 : DpAll K (mask H (l :: ls)) vs1 ds1) (h2 : DpAll K (mask H (l :: ls)) vs2 ds2) (nd : (l :: ls).Nodup) (el : H l = some (.lst (ls.map V.ref))) (hr : Rows K (fun _ => none) H ls dss)
    (hm : m = some r) (hn : ds1.length + 1 + ds2.length ≤ N.length) (hΓ : ds1.map (fun d => some (.v .s d)) ++ some (.k l ls dss) :: (ds2.map (fun d => some (.v .s d)) ++ List.replicate (N.length - (ds1.length + 1 + ds2.length)) none) = Γ)
    (hb : Blk K (bs (mask H (l :: ls))) (exR (RetIO K (bs (mask H (l :: ls))) l ls)) Γ t Γ' Fl.ret m)
    (k : ∀ m ws N H', Same (mask H (l :: ls)) H' → (∀ b o, N b = some o → (H b = none ∨ FT o) ∧ b ∉ l :: ls) → Same N H' → HLen H' → H m = none → N m = none → H' m = some (.lst ws) → DpAll K N ws (r.1.map toD) → H' l = some (.lst (ls.map V.ref)) → Rows K (fun _ => none) H' ls (r.2.map (·.map toD)) → Q (.ref m) H') :
    t { nx := fun _ H' => Q .non H', rt := Q } (L2.start N (vs1 ++ V.ref l :: vs2)) H := by
  subst hΓ
  exact hb r hm _ (entryIO hl h1 h2 nd el hr hn) (fun st e => by cases e) fun r' e v H' q => by
    cases e
    obtain ⟨g0, g1, M, m0, ws, rfl, g2, g3, g4, g5, g6, g7, g8, g9, g10⟩ := q
    have hz : ∀ b, b ∉ l :: ls → mask H (l :: ls) b = none → H b = none := fun b hb e => by rwa [mask_out hb] at e
    exact k m0 ws M H' g0 (fun b o e => ⟨((g2 b o e).1).elim (fun z => .inl (hz b (g2 b o e).2 z)) fun z => .inr (z.resolve_left (by simp)), (g2 b o e).2⟩) g3 g1 (hz m0 g5 g4) g6 g7 g8 g9 g10
end
end Mir
namespace Mir
open PySem PySem.Spec L2
open ToD (toD)
set_option autoImplicit false
section
variable {K : PySem.W.Frag} {H0 : Base} {ρ τ υ ω : Type} {R : Ex ρ} {Γ Γ2 : Ctx} {t u : TS} {Γ' : τ → Ctx} {I : ω → Fl ρ τ} {ta tb : TE} {md : Md} {ds : List PyData}
/-! ### an own list goes to another name -/
theorem AtB.move {i j : Nat} {A N : Hp} {W : Addr → Prop} {O : Nat → List Addr} {H : Hp} {σ : St} (a : AtB K H0 A N W O H σ Γ) (h : Γ[i]? = some (some (.o md ds))) (hj : j < Γ.length) (hij : i ≠ j) :
    ∃ x, σ[i]? = some (some x) ∧ AtB K H0 A N W (fun k => if k = j then O i else if k = i then [] else O k) H (σ.set j (some x)) ((Γ.set i none).set j (some (.o md ds))) := by
  obtain ⟨x, ex, q⟩ := a.cs i _ h
  refine ⟨x, ex, { a with sub := fun k l hk => ?_, dj := fun k k' l hk hk' => ?_, nd := fun k => ?_, len := by simp [a.len], cs := fun k c e => ?_ }⟩
  · split at hk
    · exact a.sub i l hk
    · split at hk
      · cases hk
      · exact a.sub k l hk
  · by_cases z1 : k = j
    · by_cases z2 : k' = j
      · rw [z1, z2]
      · rw [if_pos z1] at hk
        rw [if_neg z2] at hk'
        by_cases z3 : k' = i
        · rw [if_pos z3] at hk'; cases hk'
        · rw [if_neg z3] at hk'
          exact absurd (a.dj i k' l hk hk').symm z3
    · rw [if_neg z1] at hk
      by_cases z3 : k = i
      · rw [if_pos z3] at hk; cases hk
      · rw [if_neg z3] at hk
        by_cases z2 : k' = j
        · rw [if_pos z2] at hk'
          exact absurd (a.dj k i l hk hk') z3
        · rw [if_neg z2] at hk'
          by_cases z4 : k' = i
          · rw [if_pos z4] at hk'; cases hk'
          · rw [if_neg z4] at hk'
            exact a.dj k k' l hk hk'
  · show (if k = j then O i else if k = i then [] else O k).Nodup
    split
    · exact a.nd i
    · split
      · exact .nil
      · exact a.nd k
  · by_cases z : k = j
    · subst z
      rw [List.getElem?_set_self (by rw [List.length_set]; exact hj)] at e
      cases e
      exact ⟨x, by rw [List.getElem?_set_self (a.len ▸ hj)], by rw [if_pos rfl]; exact q⟩
    · rw [List.getElem?_set_ne (Ne.symm z)] at e
      by_cases z2 : k = i
      · subst z2
        by_cases hk : k < Γ.length
        · rw [List.getElem?_set_self hk] at e; cases e
        · rw [List.getElem?_eq_none (by rw [List.length_set]; omega)] at e; cases e
      · rw [List.getElem?_set_ne (Ne.symm z2)] at e
        obtain ⟨y, e1, q1⟩ := a.cs k c e
        exact ⟨y, by rw [List.getElem?_set_ne (Ne.symm z)]; exact e1, by rw [if_neg z, if_neg z2]; exact q1⟩
theorem b_moveO {i j : Nat} {m : Option ω} (h : Γ[i]? = some (some (.o md ds))) (hj : j < Γ.length) (hij : i ≠ j) (hΓ : (Γ.set i none).set j (some (.o md ds)) = Γ2) (rest : Blk K H0 R Γ2 u Γ' I m) : Blk K H0 R Γ (tSeq (tAsg (tVar i) (gName j)) u) Γ' I m := fun w hw D A N W O H σ a kn kr => by
  subst hΓ
  obtain ⟨x, ex, a2⟩ := a.move h hj hij
  exact ⟨x, ex, rest w hw D a2 kn kr⟩
theorem b_moveOL {α : Type} [ToD α] {i j : Nat} {xs : List α} {k : List α → Option ω} {Γ2 : List α → Ctx} (h : Γ[i]? = some (some (.o md (xs.map toD)))) (hj : j < Γ.length) (hij : i ≠ j) (hΓ : ∀ ys : List α, (Γ.set i none).set j (some (.o md (ys.map toD))) = Γ2 ys) (rest : ∀ ys, ys = xs → Blk K H0 R (Γ2 ys) u Γ' I (k ys)) :
    Blk K H0 R Γ (tSeq (tAsg (tVar i) (gName j)) u) Γ' I (lt xs k) := by
  rw [lt_def]; exact b_moveO h hj hij (hΓ xs) (rest xs rfl)
/-! ### b is True -/
def rIsBl : R2 := fun x y H Q => ∃ a b, x = .bl a ∧ y = .bl b ∧ Q (.bl (decide (a = b))) H
theorem op_isBl' {X : Cx} : OpR X (compareOp .Is) rIsBl := op_is_bl
theorem e_isBl {x y : Bool} (ha : Ev K H0 Γ ta .h (toD x)) (hb : Ev K H0 Γ tb .h (toD y)) : Ev K H0 Γ (tOp rIsBl ta tb) md (toD (decide (x = y))) :=
  ev_op2 ha hb fun A N W O H σ v w Q a q1 q2 k => ⟨x, y, dp_bool q1, dp_bool q2, k A N H _ a (Same.refl _) (Same.refl _) (Same.refl _) (.bl _)⟩
end
end Mir

namespace Mir
open PySem PySem.Spec L2
open ToD (toD)
set_option autoImplicit false
/-! ## an own list of flat things that is walked and stays one's own -/
abbrev cko {α : Type} [ToD α] (l : Addr) (xs : List α) : Option Cell := some (.ko l .n (xs.map toD))
abbrev ckO {α : Type} [ToD α] (l : Addr) (xs : List α) : Option Cell := some (.ko l .s (xs.map toD))
theorem flat_inj {K : PySem.W.Frag} {S S' : Hp} {v v' : V} {d : PyData} (h : flatD d = true) (q : Dp K S v d) (q' : Dp K S' v' d) : v = v' := by
  cases q with
  | non => cases q'; rfl
  | bl b => cases q'; rfl
  | int i => cases q'; rfl
  | str x => cases q'; rfl
  | lst _ _ => cases h
  | tup _ _ => cases h
  | dk _ _ _ => cases h
  | dt _ _ _ => cases h
theorem flat_injAll {K : PySem.W.Frag} {S S' : Hp} : ∀ {vs vs' : List V} {ds : List PyData}, ds.all flatD = true → DpAll K S vs ds → DpAll K S' vs' ds → vs = vs'
  | _, _, _, _, .nil, .nil => rfl
  | _, _, _, h, .cons q t, .cons q' t' => by
    rw [List.all_cons, Bool.and_eq_true] at h
    rw [flat_inj h.1 q q', flat_injAll h.2 t t']
section
variable {K : PySem.W.Frag} {H0 : Base} {ρ τ υ ω : Type} {R : Ex ρ} {Γ Γ2 : Ctx} {t u tb : TS} {Γ' : τ → Ctx} {I : ω → Fl ρ τ} {te ti ta tb' : TE} {ts : TA} {md m1 : Md} {d : PyData} {ds : List PyData} {l : Addr} {wi : TI} {g : TG} {vs : List Nat}
theorem b_pin {i : Nat} {m : Option ω} {Γp : Addr → Ctx} (h : Γ[i]? = some (some (.o md ds))) (hΓ : ∀ l, Γ.set i (some (.ko l md ds)) = Γp l) (rest : ∀ l, Blk K H0 R (Γp l) u Γ' I m) : Blk K H0 R Γ u Γ' I m := fun w hw D A N W O H σ a kn kr => by
  obtain ⟨x, ex, hm, l, vs, rfl, eO, el, q⟩ := a.cs i _ h
  have hi := lt_of_get h
  have a2 : AtB K H0 A N W O H σ (Γ.set i (some (.ko l md ds))) := { a with
    len := by rw [List.length_set]; exact a.len
    cs := fun j c e => by
      by_cases z : j = i
      · subst z
        rw [List.getElem?_set_self hi] at e; cases e
        exact ⟨_, ex, hm, rfl, eO, vs, el, q⟩
      · rw [List.getElem?_set_ne (Ne.symm z)] at e
        exact a.cs j c e }
  rw [hΓ l] at a2
  exact rest l w hw D a2 kn kr
theorem b_unpin {i : Nat} {m : Option ω} (h : Γ[i]? = some (some (.ko l md ds))) (hΓ : Γ.set i (some (.o md ds)) = Γ2) (rest : Blk K H0 R Γ2 u Γ' I m) : Blk K H0 R Γ u Γ' I m := fun w hw D A N W O H σ a kn kr => by
  subst hΓ
  obtain ⟨x, ex, hm, rfl, eO, vs, el, q⟩ := a.cs i _ h
  have hi := lt_of_get h
  have a2 : AtB K H0 A N W O H σ (Γ.set i (some (.o md ds))) := { a with
    len := by rw [List.length_set]; exact a.len
    cs := fun j c e => by
      by_cases z : j = i
      · subst z
        rw [List.getElem?_set_self hi] at e; cases e
        exact ⟨_, ex, hm, l, vs, rfl, eO, el, q⟩
      · rw [List.getElem?_set_ne (Ne.symm z)] at e
        exact a.cs j c e }
  exact rest w hw D a2 kn kr
/-- what is walked, as long as the cell c stands at slot p -/
def EvIK (K : PySem.W.Frag) (H0 : Base) (Γ : Ctx) (wi : TI) (md : Md) (ds : List PyData) (p : Nat) (c : Cell) : Prop :=
  ∀ ⦃A N : Hp⦄ ⦃W : Addr → Prop⦄ ⦃O : Nat → List Addr⦄ ⦃H : Hp⦄ ⦃σ : St⦄ (R : It → Hp → Prop), AtB K H0 A N W O H σ Γ →
    (∀ A' N' H' J G Y, AtB K H0 A' N' W O H' σ Γ → Same A A' → Same N N' → Same H H' → Walk J ds.length G Y → ds.length ≤ sizeLine → (∀ A1 N1 W1 O1 H1 σ1 Γ1, AtB K H0 A1 N1 W1 O1 H1 σ1 Γ1 → Same A' A1 → Γ1[p]? = some (some c) → G H1) →
      (∀ i A1 N1 W1 O1 H1 σ1 Γ1 x H2, AtB K H0 A1 N1 W1 O1 H1 σ1 Γ1 → Same A' A1 → Same N' N1 → i < ds.length → Y i H1 x H2 →
        ∃ A2 N2 d, AtB K H0 A2 N2 W1 O1 H2 σ1 Γ1 ∧ Same A1 A2 ∧ Same N1 N2 ∧ Same H1 H2 ∧ ds[i]? = some d ∧ Dp K (md.sel A2 N2 H2) x d) → R J H') → wi σ H R
theorem i_zipK {α β : Type} [ToD α] [ToD β] [FlatT α] {xs : List α} {ys : List β} {i : Nat} (h : Γ[i]? = some (some (.ko l m1 (xs.map toD)))) (hb : Ev K H0 Γ tb' md (toD ys)) (hm : md ≠ .h) : EvIK K H0 Γ (iZip K (tCons (tVar i) (tCons tb' tNil))) md ((xs.zip ys).map toD) i (.ko l m1 (xs.map toD)) := fun A N W O H σ R a k => by
  obtain ⟨x, ex, hm1, rfl, eO, vs, el, hA⟩ := a.cs i _ h
  refine ⟨_, ex, hb _ a fun A2 N2 H2 w a2 t1 t2 t3 q2 => ?_⟩
  obtain ⟨p2, ws, rfl, hS2, hA2⟩ := dp_list q2
  have g2 : SqL K A2 p2 ws := (a2.sel_s hm).seq hS2
  have hfl := flat_all (α := α) FlatT.fl xs
  have hG1 : ∀ A1 N1 W1 O1 H1 σ1 Γ1, AtB K H0 A1 N1 W1 O1 H1 σ1 Γ1 → Γ1[i]? = some (some (.ko l m1 (xs.map toD))) → SqL K H1 l vs := fun A1 N1 W1 O1 H1 σ1 Γ1 a1 e => by
    obtain ⟨_, _, _, _, _, vs', el', q'⟩ := a1.cs i _ e
    rw [flat_injAll hfl hA q']
    exact .inl (.inl el')
  have g1 : SqL K H2 l vs := hG1 _ _ _ _ _ _ _ a2 h
  have l1 : vs.length = xs.length := by rw [dpAll_len hA, List.length_map]
  have l2 : ws.length = ys.length := by rw [dpAll_len hA2, List.length_map]
  have e : min vs.length ws.length = ((xs.zip ys).map toD).length := by rw [List.length_map, List.length_zip, l1, l2]
  have z1 := a2.hl.seq g1
  refine ⟨l, p2, vs, ws, rfl, g1, a2.ah.seq g2, k A2 N2 H2 _ _ _ a2 t1 t2 t3 (walk_len e (walk_zip rfl)) (by rw [← e]; omega) (fun A1 N1 W1 O1 H1 σ1 Γ1 a1 s c => ⟨hG1 _ _ _ _ _ _ _ a1 c, (s.trans a1.ah).seq g2⟩) fun n A3 N3 W1 O1 H3 σ1 Γ1 x H4 a3 sA sN hi y => ?_⟩
  obtain ⟨T, x1, x2, rfl, hT, rfl, e1, e2⟩ := y
  obtain ⟨d1, f1, r1⟩ := dpAll_get hA e1
  obtain ⟨d2, f2, r2⟩ := dpAll_get hA2 e2
  have hfd : flatD d1 = true := List.all_eq_true.mp hfl _ (List.mem_of_getElem? f1)
  have hTA := a3.ah.free hT
  have hTN := a3.na.free hTA
  refine ⟨upd A3 T (.tup [x1, x2]), upd N3 T (.tup [x1, x2]), _, a3.alloc hT a3.hl.upd_tup, same_upd hTA, same_upd hTN, same_upd hT, zip_pairs xs ys f1 f2, ?_⟩
  cases md
  · exact absurd rfl hm
  · exact .tup upd_same (.cons (fl_dp hfd r1) (.cons (dp_mono (sA.trans (same_upd hTA)) r2) .nil))
  · exact .tup upd_same (.cons (fl_dp hfd r1) (.cons (dp_mono (sN.trans (same_upd hTN)) r2) .nil))
theorem b_forGK {α τ1 : Type} [ToD α] {p : Nat} {c : Cell} {xs : List α} {Γ1 : τ1 → Ctx} {Γ2 : τ1 → α → Ctx} {f : τ1 → α → Option (Fl ρ τ1)} {st0 : τ1} (hi : EvIK K H0 Γ wi md (xs.map toD) p c) (hp : ∀ st, (Γ1 st)[p]? = some (some c)) (hg : ∀ st x, Tg K H0 g md (toD x) vs (Γ1 st) (Γ2 st x))
    (hb : ∀ st x, Blk K H0 R (Γ2 st x) tb Γ1 idF (f st x)) (h0 : Wk Γ (Γ1 st0)) {fin : Fl ρ τ1} (hf : forF f xs st0 = some fin) (D : Ends) {A N : Hp} {W : Addr → Prop} {O : Nat → List Addr} {H : Hp} {σ : St} (a : AtB K H0 A N W O H σ Γ)
    (kn : ∀ st, fin = .nxt st → ∀ A' N' W' O' H' σ', AtB K H0 A' N' W' O' H' σ' (Γ1 st) → Same A A' → Same N N' → D.nx σ' H') (kr : ∀ r, fin = .ret r → ∀ A1 N1 f, Same A A1 → Same N N1 → R.ok r A1 N1 { D with nx := f, ct := f, bk := D.nx }) : tFor wi g tb D σ H := by
  refine hi _ a fun A1 N1 H1 J G Y a1 s1 s2 s3 wk hz hG hY => ?_
  refine for_it wk (fun i σ H => ∃ st A N W O, forF f (xs.drop i) st = some fin ∧ AtB K H0 A N W O H σ (Γ1 st) ∧ Same A1 A ∧ Same N1 N)
    ⟨st0, A1, N1, W, O, by rw [List.drop_zero]; exact hf, a1.wk h0, Same.refl _, Same.refl _⟩ (fun i σ H _ hP => ?_) (fun i x σ H H' hi' hP hYx => ?_) (fun σ H hP => ?_)
  · obtain ⟨st, A, N, W, O, _, a2, u1, _⟩ := hP
    exact hG A N W O H σ _ a2 u1 (hp st)
  · obtain ⟨st, A, N, W, O, hr, a2, u1, u2⟩ := hP
    obtain ⟨A4, N4, d, a4, v1, v2, v3, hdd, qx⟩ := hY i A N W O H σ _ x H' a2 u1 u2 hi' hYx
    rw [List.getElem?_map] at hdd
    obtain ⟨xi, hxi, rfl⟩ := Option.map_eq_some_iff.mp hdd
    rw [List.drop_eq_getElem?_toList_append, hxi] at hr
    have hr' : forF f (xi :: xs.drop (i + 1)) st = some fin := hr
    simp only [forF] at hr'
    obtain ⟨fl, hst, hr'⟩ := bind_some_iff hr'
    refine hg st xi x _ a4 qx fun σ' a5 _ => ?_
    refine hb st xi fl hst _ a5 (fun st2 e A' N' W' O' H' σ'' a' x1 x2 => ?_) (fun r e => ?_)
    · have e2 : fl = .nxt st2 := e
      subst e2
      exact ⟨st2, A', N', W', O', hr', a', (u1.trans v1).trans x1, (u2.trans v2).trans x2⟩
    · have e2 : fl = .ret r := e
      subst e2
      exact kr r (Option.some.inj hr').symm _ _ _ ((s1.trans u1).trans (v1.trans (Same.refl _))) ((s2.trans u2).trans (v2.trans (Same.refl _)))
  · obtain ⟨st, A, N, W, O, hr, a2, u1, u2⟩ := hP
    rw [List.length_map, List.drop_length] at hr
    have e : Fl.nxt st = fin := Option.some.inj hr
    exact kn st e.symm A N W O H σ a2 (s1.trans u1) (s2.trans u2)
theorem b_forRK {R0 : ρ → V → Hp → Prop} {α τ1 : Type} [ToD α] {p : Nat} {c : Cell} {xs : List α} {Γ1 : τ1 → Ctx} {Γ2 : τ1 → α → Ctx} {f : τ1 → α → Option (Fl ρ τ1)} {st0 : τ1} {k : τ1 → Option ρ} {Γ' : τ → Ctx} (hi : EvIK K H0 Γ wi md (xs.map toD) p c) (hp : ∀ st, (Γ1 st)[p]? = some (some c)) (hg : ∀ st x, Tg K H0 g md (toD x) vs (Γ1 st) (Γ2 st x))
    (hb : ∀ st x, Blk K H0 (exR R0) (Γ2 st x) tb Γ1 idF (f st x)) (h0 : Wk Γ (Γ1 st0)) (rest : ∀ st, Blk K H0 (exR R0) (Γ1 st) u Γ' Fl.ret (k st)) : Blk K H0 (exR R0) Γ (tSeq (tFor wi g tb) u) Γ' Fl.ret ((forF f xs st0).bind (flR k)) := fun w hw D A N W O H σ a kn kr => by
  obtain ⟨fin, hf, hw⟩ := bind_some_iff hw
  refine b_forGK hi hp hg hb h0 hf { D with nx := u D } a (fun st e A' N' W' O' H' σ' a' x1 x2 => ?_) (fun r e => ?_)
  · subst e
    exact rest st w hw D a' (fun st' e' => by cases e') (fun r e => kr r e)
  · subst e
    cases hw
    exact fun A1 N1 f _ _ => kr _ rfl
theorem b_forFK {R0 : ρ → V → Hp → Prop} {α τ1 : Type} [ToD α] {p : Nat} {c : Cell} {xs : List α} {Γ1 : τ1 → Ctx} {Γ2 : τ1 → α → Ctx} {f : τ1 → α → Option (Fl ρ τ1)} {st0 : τ1} {k : τ1 → Option (Fl ρ τ)} {Γ' : τ → Ctx} (hi : EvIK K H0 Γ wi md (xs.map toD) p c) (hp : ∀ st, (Γ1 st)[p]? = some (some c)) (hg : ∀ st x, Tg K H0 g md (toD x) vs (Γ1 st) (Γ2 st x))
    (hb : ∀ st x, Blk K H0 (exR R0) (Γ2 st x) tb Γ1 idF (f st x)) (h0 : Wk Γ (Γ1 st0)) (rest : ∀ st, Blk K H0 (exR R0) (Γ1 st) u Γ' idF (k st)) : Blk K H0 (exR R0) Γ (tSeq (tFor wi g tb) u) Γ' idF ((forF f xs st0).bind (flF k)) := fun w hw D A N W O H σ a kn kr => by
  obtain ⟨fin, hf, hw⟩ := bind_some_iff hw
  refine b_forGK hi hp hg hb h0 hf { D with nx := u D } a (fun st e A' N' W' O' H' σ' a' x1 x2 => ?_) (fun r e => ?_)
  · subst e
    exact rest st w hw D a' (fun st' e' A'' N'' W'' O'' H'' σ'' a'' y1 y2 => kn st' e' A'' N'' W'' O'' H'' σ'' a'' (x1.trans y1) (x2.trans y2)) (fun r e => kr r e)
  · subst e
    cases hw
    exact fun A1 N1 f _ _ => kr _ rfl
end
end Mir

namespace Mir
open PySem PySem.Spec L2
open ToD (toD)
set_option autoImplicit false
/-! ## things of any kind -/
def asI : PyData → Option Int
  | .int i => some i
  | _ => none
def kitD (x : PyData) (c : String) : Option Bool := kitB (tyN x) c
def strO (i : Int) : Option PyData := if i.natAbs.log2 < 1920 then some (.str (toString i)) else none
def rStrI : List V → Hp → VK → Prop := fun xs H Q => ∃ i : Int, xs = [.int i] ∧ i.natAbs.log2 < 1920 ∧ Q (.str (toString i)) H
theorem cr_strI {X : Cx} : CallR X (.type "str") rStrI := call_str_int
section
variable {K : PySem.W.Frag} {H0 : Base} {Γ : Ctx} {ta : TE} {md : Md}
theorem e_toDat {α : Type} [ToD α] {x : α} (h : Ev K H0 Γ ta md (toD x)) : Ev K H0 Γ ta md (toD (toD x : PyData)) := h
theorem e_dat {d : PyData} (h : Ev K H0 Γ ta md d) : Ev K H0 Γ ta md (toD d) := h
theorem e_asI {x : PyData} {i : Int} (h : asI x = some i) (ha : Ev K H0 Γ ta md (toD x)) : Ev K H0 Γ ta md (toD i) := by
  cases x <;> first | (cases h; exact ha) | cases h
theorem e_isD {x : PyData} {c : String} {b : Bool} (h : kitD x c = some b) (ha : Ev K H0 Γ ta .h (toD x)) : Ev K H0 Γ (tCB (rIsi K) (tCons ta (tCons (tC (.ty c)) tNil))) md (toD b) := e_isi (d := x) ha h
theorem e_strI {i : Int} {d : PyData} (ha : Ev K H0 Γ ta .h (toD i)) (h : strO i = some d) : Ev K H0 Γ (tCB rStrI (tCons ta tNil)) md (toD d) := fun A N W O H σ Q a k =>
  ha _ a fun A1 N1 H1 v a1 s1 s2 s3 q => by
    unfold strO at h
    split at h
    · rename_i hz
      cases h
      have e := dp_int q
      subst e
      exact ⟨i, rfl, hz, k A1 N1 H1 _ a1 s1 s2 s3 (.str _)⟩
    · cases h
theorem e_dict0 : Ev K H0 Γ tDNewK .n (toD (PyData.dict [])) := fun A N W O H σ Q a k p hp => by
  have a2 := a.alloc (o := .dK []) hp (HLen.upd_dK a.hl)
  have hA := a.ah.free hp
  have hN := a.na.free hA
  exact k _ _ _ (.ref p) a2 (same_upd hA) (same_upd hN) (same_upd hp) (.dk (ks := []) (vs := []) (ds := []) upd_same rfl .nil)
end
end Mir

namespace Mir
open PySem PySem.Spec L2
open ToD (toD)
set_option autoImplicit false
/-! ## a part of an own tuple is handed back as an own list -/
section
variable {K : PySem.W.Frag} {H0 : Base} {ρ τ υ ω : Type} {R : Ex ρ} {Γ Γ2 : Ctx} {t u : TS}
theorem b_retQ1 {α β : Type} [ToD α] [ToD β] {p : List α × List β} {i : Nat} {Γ' : τ → Ctx} (h : Γ[i]? = some (some (.q .n (p.1.map toD) (p.2.map toD)))) :
    Blk K H0 (exR (RetO K H0)) Γ (tSeq (tRet (tOp (rIxT K) (tVar i) (tC (.int 1)))) u) Γ' Fl.ret (some p.2) := fun w hw D A N W O H σ a kn kr => by
  cases hw
  obtain ⟨x, ex, hm, r, l0, l1, vs, ws, rfl, eO, hp, e0, q0, e1, q1⟩ := a.cs i _ h
  have hA := (a.own l1 (a.sub i l1 (by rw [eO]; exact List.mem_cons_of_mem _ List.mem_cons_self))).1
  refine ⟨_, ex, r, [.ref l0, .ref l1], 1, .ref l1, rfl, rfl, .inl (.inl (a.sel_h (md := .n) _ _ hp)), rfl, ?_⟩
  exact kr p.2 rfl _ H ⟨a.h0h, a.hl, N, l1, ws, rfl, a.fr, a.na.trans a.ah, a.h0.free hA, a.na.free hA, e1, q1⟩
end
end Mir

namespace Mir
open PySem PySem.Spec L2
open ToD (toD)
set_option autoImplicit false
/-! ## lists of two -/
def duo {α : Type} : List α → Option (Hl (α × α × Unit))
  | [a, b] => some ⟨(a, b, ())⟩
  | _ => none
section
variable {K : PySem.W.Frag} {H0 : Base} {Γ : Ctx} {ta : TE} {md : Md}
theorem duo_some {α : Type} {xs : List α} {p : Hl (α × α × Unit)} (h : duo xs = some p) : ∃ a b, xs = [a, b] ∧ p = ⟨(a, b, ())⟩ := by
  match xs, h with
  | [a, b], h => exact ⟨a, b, rfl, (Option.some.inj h).symm⟩
  | [], h => cases h
  | [_], h => cases h
  | _ :: _ :: _ :: _, h => cases h
theorem e_duo {α : Type} [ToD α] {xs : List α} {p : Hl (α × α × Unit)} (h : duo xs = some p) (ha : Ev K H0 Γ ta md (toD xs)) : Ev K H0 Γ ta md (toD p) := by
  obtain ⟨a, b, rfl, rfl⟩ := duo_some h
  exact ha
end
end Mir

namespace Mir
open PySem PySem.Spec L2
open ToD (toD)
set_option autoImplicit false
/-! ## an own list becomes a row and is read right behind -/
section
variable {K : PySem.W.Frag} {H0 : Base} {ρ τ υ ω : Type} {R : Ex ρ} {Γ Γ2 : Ctx} {t u : TS} {Γ' : τ → Ctx} {I : ω → Fl ρ τ}
theorem b_appCat {α : Type} [ToD α] {xss yss : List (List α)} {ys zs us : List α} {i j d : Nat} {m : Option ω} (hij : i ≠ j) (hid : i ≠ d) (hjd : j ≠ d)
    (h : Γ[i]? = some (some (.p .n (xss.map (·.map toD))))) (hj : Γ[j]? = some (some (.o .n (ys.map toD)))) (hd : Γ[d]? = some (some (.o .n (zs.map toD))))
    (hy : appO xss ys = some yss) (hc : catO zs ys = some us) (hΓ : ((Γ.set j none).set i (some (.p .n (yss.map (·.map toD))))).set d (some (.o .n (us.map toD))) = Γ2) (rest : Blk K H0 R Γ2 u Γ' I m) :
    Blk K H0 R Γ (tSeq (tDrop (tBM K "list" rAppend (tVar i) (tCons (tVar j) tNil))) (tSeq (tAsg (tOp (rCatS K) (tVar d) (tVar j)) (gName d)) u)) Γ' I m := fun w hw D A N W O H σ a kn kr => by
  subst hΓ
  obtain ⟨x0, ex0, hm, l, ls, rfl, eO, el, q⟩ := a.cs i _ h
  obtain ⟨xj, exj, _, b, vs, rfl, eOj, eb, qb⟩ := a.cs j _ hj
  obtain ⟨xd, exd, _, ld, zvs, rfl, eOd, ed, qd⟩ := a.cs d _ hd
  have hi := lt_of_get h
  have hjl := lt_of_get hj
  have hdl := lt_of_get hd
  have hlO : l ∈ O i := by rw [eO]; exact List.mem_cons_self
  have hbO : b ∈ O j := by rw [eOj]; exact List.mem_cons_self
  have hdO : ld ∈ O d := by rw [eOd]; exact List.mem_cons_self
  have hlb : l ≠ b := fun z => hij (a.dj i j l hlO (z ▸ hbO))
  have hlb2 : l ≠ ld := fun z => hid (a.dj i d l hlO (z ▸ hdO))
  refine ⟨_, ex0, tyL el, ?_⟩
  refine ⟨_, exj, ?_⟩
  unfold appO at hy
  split at hy
  case isFalse => cases hy
  rename_i hz
  cases hy
  have hll : (ls.map V.ref).length < sizeLine := by rw [List.length_map, rows_length q, List.length_map, lim_eq]; exact hz
  refine ⟨l, ls.map V.ref, .ref b, rfl, rfl, el, hll, ?_⟩
  have nd := a.nd i
  rw [eO] at nd
  obtain ⟨nd1, nd2⟩ := List.nodup_cons.mp nd
  have hbW : ∀ k ∈ l :: ls, k ≠ b := fun k hk z => hij (a.dj i j k (by rw [eO]; exact hk) (z ▸ hbO))
  have a0 : AtB K H0 A N W O H σ ((Γ.set j none).set i none) := a.weak (by rw [List.length_set, List.length_set]) fun k c e => by
    by_cases z : k = i
    · subst z; rw [List.getElem?_set_self (by rw [List.length_set]; exact hi)] at e; cases e
    · rw [List.getElem?_set_ne (Ne.symm z)] at e
      by_cases z2 : k = j
      · subst z2; rw [List.getElem?_set_self hjl] at e; cases e
      · rw [List.getElem?_set_ne (Ne.symm z2)] at e; exact e
  have hz2 : (ls.map V.ref ++ [V.ref b]).length ≤ sizeLine := by rw [List.length_append]; exact hll
  have a3 := a0.write (vs := ls.map V.ref ++ [V.ref b]) (a.sub i l hlO) hz2 fun k c e hk => by
    have z : k = i := a.dj k i l hk hlO
    subst z; rw [List.getElem?_set_self (by rw [List.length_set]; exact hi)] at e; cases e
  have q3 : Rows K N (upd H l (.lst (ls.map V.ref ++ [V.ref b]))) (ls ++ [b]) ((xss ++ [ys]).map (·.map toD)) := by
    rw [List.map_append]
    exact Rows.snoc (q.at fun k hk => upd_ne fun z => nd1 (z ▸ hk)) (by rw [upd_ne (Ne.symm hlb)]; exact eb) qb
  have a4 : AtB K H0 A N W (fun k => if k = i then l :: (ls ++ [b]) else if k = j then [] else O k) (upd H l (.lst (ls.map V.ref ++ [V.ref b]))) σ ((Γ.set j none).set i (some (.p .n ((xss ++ [ys]).map (·.map toD))))) :=
    { a3 with
      sub := fun k x hx => by
        by_cases z : k = i
        · rw [if_pos z] at hx
          rcases List.mem_cons.mp hx with rfl | hx
          · exact a.sub i x hlO
          · rcases List.mem_append.mp hx with hx | hx
            · exact a.sub i x (by rw [eO]; exact List.mem_cons_of_mem _ hx)
            · rw [List.mem_singleton.mp hx]; exact a.sub j b hbO
        · rw [if_neg z] at hx
          by_cases z2 : k = j
          · rw [if_pos z2] at hx; cases hx
          · rw [if_neg z2] at hx; exact a.sub k x hx
      dj := fun k k2 x h1 h2 => by
        have key : ∀ k, k ≠ i → x ∈ (if k = j then [] else O k) → x ∈ l :: (ls ++ [b]) → False := fun k z h1 h2 => by
          by_cases z2 : k = j
          · rw [if_pos z2] at h1; cases h1
          · rw [if_neg z2] at h1
            rcases List.mem_cons.mp h2 with e | h2
            · rw [e] at h1; exact z (a.dj k i l h1 hlO)
            · rcases List.mem_append.mp h2 with h2 | h2
              · exact z (a.dj k i x h1 (by rw [eO]; exact List.mem_cons_of_mem _ h2))
              · rw [List.mem_singleton.mp h2] at h1
                exact z2 (a.dj k j b h1 hbO)
        by_cases z : k = i
        · by_cases z2 : k2 = i
          · rw [z, z2]
          · rw [if_pos z] at h1; rw [if_neg z2] at h2
            exact (key k2 z2 h2 h1).elim
        · by_cases z2 : k2 = i
          · rw [if_neg z] at h1; rw [if_pos z2] at h2
            exact (key k z h1 h2).elim
          · rw [if_neg z] at h1; rw [if_neg z2] at h2
            by_cases y1 : k = j
            · rw [if_pos y1] at h1; cases h1
            · by_cases y2 : k2 = j
              · rw [if_pos y2] at h2; cases h2
              · rw [if_neg y1] at h1; rw [if_neg y2] at h2
                exact a.dj k k2 x h1 h2
      nd := fun k => by
        by_cases z : k = i
        · rw [if_pos z]
          refine List.nodup_cons.mpr ⟨fun hx => ?_, List.nodup_append.mpr ⟨nd2, by simp, fun x hx y hy e => ?_⟩⟩
          · rcases List.mem_append.mp hx with hx | hx
            · exact nd1 hx
            · exact hlb (List.mem_singleton.mp hx)
          · rw [List.mem_singleton.mp hy] at e
            exact hbW x (List.mem_cons_of_mem _ hx) e
        · rw [if_neg z]
          by_cases z2 : k = j
          · rw [if_pos z2]; exact .nil
          · rw [if_neg z2]; exact a.nd k
      len := by rw [List.length_set, List.length_set]; exact a.len
      cs := fun k c e => by
        by_cases z : k = i
        · subst z
          rw [List.getElem?_set_self (by rw [List.length_set]; exact hi)] at e; cases e
          exact ⟨_, ex0, hm, l, ls ++ [b], rfl, by rw [if_pos rfl], by rw [upd_same, List.map_append]; rfl, q3⟩
        · rw [List.getElem?_set_ne (Ne.symm z)] at e
          obtain ⟨x, ex, qx⟩ := a3.cs k c (by rw [List.getElem?_set_ne (Ne.symm z)]; exact e)
          by_cases z2 : k = j
          · subst z2; rw [List.getElem?_set_self hjl] at e; cases e
          · exact ⟨x, ex, by rw [if_neg z, if_neg z2]; exact qx⟩ }
  unfold catO at hc
  split at hc
  case isFalse => cases hc
  rename_i hcl
  cases hc
  have hlen : zvs.length + vs.length ≤ sizeLine := by rw [dpAll_len qd, dpAll_len qb, List.length_map, List.length_map, lim_eq]; exact hcl
  refine ⟨_, exd, _, exj, ld, b, zvs, vs, rfl, rfl, .inl (.inl (by rw [upd_ne (Ne.symm hlb2)]; exact ed)), .inl (.inl (by rw [upd_ne (Ne.symm hlb)]; exact eb)), hlen, fun p hp => ?_⟩
  have a5 := a4.allocO hp (a4.hl.upd_lst (by rw [List.length_append]; exact hlen))
  have a6 := a5.seto (i := d) (x := .ref p) (c := .o .n ((zs ++ ys).map toD)) (L := [p]) (by rw [List.length_set, List.length_set]; exact hdl) (fun k hk => by
    rw [List.mem_singleton.mp hk]
    exact ⟨a4.noW hp, a4.ah.free hp, .lst upd_same⟩) (List.nodup_cons.mpr ⟨by simp, .nil⟩) ⟨hm, p, zvs ++ vs, rfl, rfl, upd_same, by
      rw [List.map_append]
      exact dpAll_app qd qb⟩
  exact rest w hw D a6 kn kr
end
/-! ## a def that gives back an own dict -/
def FnD (K : PySem.W.Frag) (t : Bool) (pre : List PyData → List (PyData × PyData) → Prop) : Sp := fun vs H Q _ => ∃ ds rs, DpAll K H vs ds ∧ pre ds rs ∧
  ∀ l o N H', Same H H' → (∀ b o, N b = some o → H b = none ∨ FT o) → Same N H' → HLen H' → H l = none → N l = none → H' l = some o → DHold K N t rs o → Q (.ref l) H'
def RetD (K : PySem.W.Frag) (H0 : Base) (t : Bool) {α β : Type} [ToD α] [ToD β] (r : List (α × β)) (v : V) (H : Hp) : Prop := Same H0 H ∧ HLen H ∧ ∃ N l o, v = .ref l ∧ (∀ b o, N b = some o → H0.Fr b o) ∧ Same N H ∧ H0 l = none ∧ N l = none ∧ H l = some o ∧ DHold K N t (esOf r) o
section
variable {K : PySem.W.Frag} {H0 : Base} {ρ τ υ ω : Type} {R : Ex ρ} {Γ Γ2 : Ctx} {t u : TS} {dt : Bool} {md : Md} {ts : TA} {ds : List PyData}
theorem d_call {pre : List PyData → List (PyData × PyData) → Prop} {E : XK} {rs : List (PyData × PyData)} (hs : EvA K H0 Γ ts .h ds) (hp : pre ds rs) : EvD K H0 Γ (tCall (FnD K dt pre) [] E ts) dt md rs := fun A N W O H σ Q a k =>
  hs _ a fun A1 N1 H1 vs a1 s1 s2 s3 q1 => by
    refine ⟨ds, rs, by rw [List.append_nil]; exact q1, hp, fun l o M H' sH fr sM hl hn hN hw qv => ?_⟩
    obtain ⟨a2, u1, u2, u3, u4⟩ := a1.called sH fr sM hl
    refine k _ _ H' l o a2 (s1.trans u1) (s2.trans u2) (s3.trans sH) (s3.free hn) (uni_none (a1.ah.free hn) hN) (a1.noW hn) hw ?_
    cases md
    · exact qv.mono sM
    · exact qv.mono u4
    · exact qv.mono u3
theorem b_retDv {α β : Type} [ToD α] [ToD β] {i : Nat} {r : List (α × β)} {Γ' : τ → Ctx} (h : Γ[i]? = some (some (.d dt .n (esOf r)))) : Blk K H0 (exR (RetD K H0 dt)) Γ (tSeq (tRet (tVar i)) u) Γ' Fl.ret (some r) := fun w hw D A N W O H σ a kn kr => by
  cases hw
  obtain ⟨x, ex, hm, l, o, rfl, eO, el, q⟩ := a.cs i _ h
  have hA := (a.own l (a.sub i l (by rw [eO]; exact List.mem_cons_self))).1
  exact ⟨_, ex, kr r rfl _ H ⟨a.h0h, a.hl, N, l, o, rfl, a.fr, a.na.trans a.ah, a.h0.free hA, a.na.free hA, el, q⟩⟩
end
section
variable {K : PySem.W.Frag} {vs : List V} {ds : List PyData} {H : Hp} {N : List Str} {Γ : Ctx} {t : TS} {τ : Type} {Γ' : τ → Ctx} {Q : VK} {dt : Bool}
theorem body_D {α β : Type} [ToD α] [ToD β] {m : Option (List (α × β))} {r : List (α × β)} (hl : HLen H) (hd : DpAll K H vs ds) (hm : m = some r) (hn : ds.length ≤ N.length) (hΓ : entryC ds N.length = Γ) (hb : Blk K (bs H) (exR (RetD K (bs H) dt)) Γ t Γ' Fl.ret m)
    (k : ∀ l o M H', Same H H' → (∀ b o, M b = some o → H b = none ∨ FT o) → Same M H' → HLen H' → H l = none → M l = none → H' l = some o → DHold K M dt (esOf r) o → Q (.ref l) H') : t { nx := fun _ H' => Q .non H', rt := Q } (L2.start N vs) H := by
  subst hΓ
  exact hb r hm _ (entry hl hd hn) (fun st e => by cases e) fun r' e v H' q => by
    cases e
    obtain ⟨h0, h1, M, l, o, rfl, h2, h3, h4, h5, h6, h7⟩ := q
    exact k l o M H' h0 (fun b o e => (h2 b o e).imp id fun z => z.resolve_left (by simp)) h3 h1 h4 h5 h6 h7
end
end Mir

namespace Mir
open PySem PySem.Spec L2
open ToD (toD)
set_option autoImplicit false
/-! ## trees of one's own -/
theorem flD_eq (d : PyData) : flD d = flatD d := by cases d <;> rfl
def EvW (K : PySem.W.Frag) (H0 : Base) (Γ : Ctx) (te : TE) (d : PyData) : Prop :=
  ∀ ⦃A N : Hp⦄ ⦃W : Addr → Prop⦄ ⦃O : Nat → List Addr⦄ ⦃H : Hp⦄ ⦃σ : St⦄ (Q : VK), AtB K H0 A N W O H σ Γ →
    (∀ A' N' H' x L, AtB K H0 A' N' W O H' σ Γ → Same A A' → Same N N' → Same H H' → L.Nodup → (∀ l ∈ L, H l = none ∧ A' l = none ∧ ¬ W l ∧ Lv H' l) → Ow K N' H' x d L → Q x H') → te σ H Q
def EvWA (K : PySem.W.Frag) (H0 : Base) (Γ : Ctx) (ts : TA) (ds : List PyData) : Prop :=
  ∀ ⦃A N : Hp⦄ ⦃W : Addr → Prop⦄ ⦃O : Nat → List Addr⦄ ⦃H : Hp⦄ ⦃σ : St⦄ (Q : List V → Hp → Prop), AtB K H0 A N W O H σ Γ →
    (∀ A' N' H' xs L, AtB K H0 A' N' W O H' σ Γ → Same A A' → Same N N' → Same H H' → L.Nodup → (∀ l ∈ L, H l = none ∧ A' l = none ∧ ¬ W l ∧ Lv H' l) → OwAll K N' H' xs ds L → Q xs H') → ts σ H Q
theorem AtB.reserveL {K : PySem.W.Frag} {H0 : Base} {A N : Hp} {W : Addr → Prop} {O : Nat → List Addr} {H : Hp} {σ : St} {Γ : Ctx} {L : List Addr} (a : AtB K H0 A N W O H σ Γ) (h : ∀ l ∈ L, A l = none ∧ Lv H l) : AtB K H0 A N (fun b => W b ∨ b ∈ L) O H σ Γ :=
  { a with own := fun b w => w.elim (a.own b) (h b), sub := fun i m q => .inl (a.sub i m q) }
theorem OwAll.len {K : PySem.W.Frag} {N H : Hp} : ∀ {vs : List V} {ds : List PyData} {L : List Addr}, OwAll K N H vs ds L → vs.length = ds.length
  | _, _, _, .nil => rfl
  | _, _, _, .cons _ t => by rw [List.length_cons, List.length_cons, OwAll.len t]
section
variable {K : PySem.W.Frag} {H0 : Base} {ρ τ υ ω : Type} {R : Ex ρ} {Γ Γ2 : Ctx} {t u : TS} {Γ' : τ → Ctx} {I : ω → Fl ρ τ} {te ta tb : TE} {ts : TA} {md : Md} {d : PyData} {ds : List PyData} {dss : List (List PyData)}
theorem ow_flat {N H S : Hp} {v : V} {d : PyData} (h : flatD d = true) (q : Dp K S v d) : Ow K N H v d [] := .fz (by rw [flD_eq]; exact h) (dp_flat h q)
theorem owAll_flat {N H S : Hp} : ∀ {vs : List V} {ds : List PyData}, ds.all flatD = true → DpAll K S vs ds → OwAll K N H vs ds []
  | _, _, _, .nil => .nil
  | _, _, h, .cons q t => by
    rw [List.all_cons, Bool.and_eq_true] at h
    exact .cons (L := []) (L' := []) (ow_flat h.1 q) (owAll_flat h.2 t)
theorem owAll_rows {N H S : Hp} : ∀ {ls : List Addr} {dss : List (List PyData)}, (∀ ds ∈ dss, ds.all flatD = true) → Rows K S H ls dss → OwAll K N H (ls.map V.ref) (dss.map PyData.list) ls
  | [], [], _, _ => .nil
  | l :: ls, ds :: dss, h, ⟨⟨vs, e, q⟩, r⟩ => .cons (L := [l]) (L' := ls) (.lst e (owAll_flat (h ds List.mem_cons_self) q)) (owAll_rows (fun x hx => h x (List.mem_cons_of_mem _ hx)) r)
  | [], _ :: _, _, r => r.elim
  | _ :: _, [], _, r => r.elim
theorem w_flat (he : Ev K H0 Γ te md d) (h : flatD d = true) : EvW K H0 Γ te d := fun A N W O H σ Q a k =>
  he _ a fun A1 N1 H1 v a1 s1 s2 s3 q => k A1 N1 H1 v [] a1 s1 s2 s3 .nil (fun l hl => by cases hl) (ow_flat h q)
theorem w_O (he : EvO K H0 Γ te md ds) (h : ds.all flatD = true) : EvW K H0 Γ te (.list ds) := fun A N W O H σ Q a k =>
  he _ a fun A1 N1 H1 l vs a1 s1 s2 s3 h1 h2 h3 h4 q => k A1 N1 H1 (.ref l) [l] a1 s1 s2 s3 (List.nodup_cons.mpr ⟨by simp, .nil⟩) (fun b hb => by rw [List.mem_singleton.mp hb]; exact ⟨h1, h2, h3, .lst h4⟩) (.lst h4 (owAll_flat h q))
theorem w_P (he : EvP K H0 Γ te md dss) (h : ∀ ds ∈ dss, ds.all flatD = true) : EvW K H0 Γ te (.list (dss.map PyData.list)) := fun A N W O H σ Q a k =>
  he _ a fun A1 N1 H1 l ls a1 s1 s2 s3 h1 hnd h4 q => by
    have hlv : ∀ b ∈ l :: ls, Lv H1 b := by
      have hr : ∀ {ls : List Addr} {dss : List (List PyData)}, Rows K (md.sel A1 N1 H1) H1 ls dss → ∀ b ∈ ls, Lv H1 b := by
        intro ls
        induction ls with
        | nil => intro _ _ b hb; cases hb
        | cons m ls ih =>
          intro dss r b hb
          cases dss with
          | nil => exact r.elim
          | cons e dss =>
            obtain ⟨⟨vs, e1, _⟩, r2⟩ := r
            rcases List.mem_cons.mp hb with z | hb
            · rw [z]; exact .lst e1
            · exact ih r2 b hb
      intro b hb
      rcases List.mem_cons.mp hb with z | hb
      · rw [z]; exact .lst h4
      · exact hr q b hb
    exact k A1 N1 H1 (.ref l) (l :: ls) a1 s1 s2 s3 hnd (fun b hb => ⟨(h1 b hb).1, (h1 b hb).2.1, (h1 b hb).2.2, hlv b hb⟩) (.lst h4 (owAll_rows h q))
theorem wa_nil : EvWA K H0 Γ tNil [] := fun A N W O H σ Q a k => k A N H [] [] a (Same.refl _) (Same.refl _) (Same.refl _) .nil (fun l hl => by cases hl) .nil
theorem wa_cons (he : EvW K H0 Γ te d) (hs : EvWA K H0 Γ ts ds) : EvWA K H0 Γ (tCons te ts) (d :: ds) := fun A N W O H σ Q a k =>
  he _ a fun A1 N1 H1 x L a1 s1 s2 s3 nd hL q => hs _ (a1.reserveL (L := L) fun l hl => ⟨(hL l hl).2.1, (hL l hl).2.2.2⟩) fun A2 N2 H2 xs L' a2 t1 t2 t3 nd' hL' q' => by
    have a3 : AtB K H0 A2 N2 W O H2 σ Γ := a2.unreserve (fun b w => .inl w) a1.sub
    refine k A2 N2 H2 (x :: xs) (L ++ L') a3 (s1.trans t1) (s2.trans t2) (s3.trans t3) (List.nodup_append.mpr ⟨nd, nd', fun b hb c hc e => ?_⟩) (fun b hb => ?_) (.cons (q.mono t2 t3) q')
    · exact (hL' c hc).2.2.1 (.inr (e ▸ hb))
    · rcases List.mem_append.mp hb with hb | hb
      · obtain ⟨h1, h2, h3, h4⟩ := hL b hb
        exact ⟨h1, (a2.own b (.inr hb)).1, h3, (a2.own b (.inr hb)).2⟩
      · obtain ⟨h1, h2, h3, h4⟩ := hL' b hb
        exact ⟨s3.free h1, h2, fun w => h3 (.inl w), h4⟩
theorem w_tup (hs : EvWA K H0 Γ ts ds) (hz : ds.length ≤ sizeLine := by first | exact Nat.zero_le _ | (simp only [List.length_cons, List.length_nil]; decide)) : EvW K H0 Γ (tTup ts) (.tuple ds) := fun A N W O H σ Q a k =>
  hs _ a fun A1 N1 H1 vs L a1 s1 s2 s3 nd hL q => by
    refine ⟨by rw [OwAll.len q]; exact hz, fun p hp => ?_⟩
    have a2 := a1.alloc (o := .tup vs) hp a1.hl.upd_tup
    have hA := a1.ah.free hp
    have hN := a1.na.free hA
    have hne : ∀ l ∈ L, l ≠ p := fun l hl z => (hL l hl).2.2.2.ne (z ▸ hp)
    exact k _ _ _ (.ref p) L a2 (s1.trans (same_upd hA)) (s2.trans (same_upd hN)) (s3.trans (same_upd hp)) nd (fun l hl => ⟨(hL l hl).1, by rw [upd_ne (hne l hl)]; exact (hL l hl).2.1, (hL l hl).2.2.1, (hL l hl).2.2.2.mono (same_upd hp)⟩) (.tup upd_same (OwAll.mono (same_upd hN) (same_upd hp) q))
theorem w_lst (hs : EvWA K H0 Γ ts ds) (hz : ds.length ≤ sizeLine := by first | exact Nat.zero_le _ | (simp only [List.length_cons, List.length_nil]; decide)) : EvW K H0 Γ (tLst ts) (.list ds) := fun A N W O H σ Q a k =>
  hs _ a fun A1 N1 H1 vs L a1 s1 s2 s3 nd hL q => by
    have hz' : vs.length ≤ sizeLine := by rw [OwAll.len q]; exact hz
    refine ⟨hz', fun p hp => ?_⟩
    have hne : ∀ l ∈ L, l ≠ p := fun l hl z => (hL l hl).2.2.2.ne (z ▸ hp)
    exact k A1 N1 _ (.ref p) (p :: L) (a1.allocO hp (a1.hl.upd_lst hz')) s1 s2 (s3.trans (same_upd hp)) (List.nodup_cons.mpr ⟨fun hp2 => hne p hp2 rfl, nd⟩) (fun l hl => by
      rcases List.mem_cons.mp hl with z | hl
      · rw [z]; exact ⟨s3.free hp, a1.ah.free hp, a1.noW hp, .lst upd_same⟩
      · exact ⟨(hL l hl).1, (hL l hl).2.1, (hL l hl).2.2.1, (hL l hl).2.2.2.mono (same_upd hp)⟩) (.lst upd_same (OwAll.mono (Same.refl _) (same_upd hp) q))
theorem b_asgW {i : Nat} {m : Option ω} (he : EvW K H0 Γ te d) (hi : i < Γ.length) (hΓ : Γ.set i (some (.t d)) = Γ2) (rest : Blk K H0 R Γ2 u Γ' I m) : Blk K H0 R Γ (tSeq (tAsg te (gName i)) u) Γ' I m := fun w hw D A N W O H σ a kn kr =>
  he _ a fun A1 N1 H1 x L a1 s1 s2 s3 nd hL q => by
    subst hΓ
    have a2 := a1.seto (i := i) (x := x) (c := .t d) (L := L) hi (fun l hl => ⟨(hL l hl).2.2.1, (hL l hl).2.1, (hL l hl).2.2.2⟩) nd q
    exact rest w hw D a2 (fun st e A' N' W' O' H' σ' a' x1 x2 => kn st e A' N' W' O' H' σ' a' (s1.trans x1) (s2.trans x2)) (fun r e => R.mono s1 s2 (kr r e))
theorem ev_varW {i : Nat} (h : Γ[i]? = some (some (.t d)) := by rfl) : Ev K H0 Γ (tVar i) .h d := fun A N W O H σ Q a k => by
  obtain ⟨x, ex, q⟩ := a.cs i _ h
  exact ⟨_, ex, k A N H _ a (Same.refl _) (Same.refl _) (Same.refl _) (Ow.dp (a.na.trans a.ah) q)⟩
end
end Mir

namespace Mir
open PySem PySem.Spec L2
open ToD (toD)
set_option autoImplicit false
/-! ## changes of a tree of one's own -/
theorem AtB.regrow {K : PySem.W.Frag} {H0 : Base} {A N : Hp} {W : Addr → Prop} {O : Nat → List Addr} {H : Hp} {σ : St} {Γ : Ctx} {i : Nat} {x : V} {c : Cell} {L' : List Addr} (a : AtB K H0 A N W O H σ (Γ.set i none)) (ex : σ[i]? = some (some x)) (hi : i < Γ.length) (hL : ∀ l ∈ L', W l) (hdis : ∀ j, j ≠ i → ∀ l ∈ O j, l ∉ L') (nd : L'.Nodup) (q : CellOk K A N H x L' c) :
    AtB K H0 A N W (fun j => if j = i then L' else O j) H σ (Γ.set i (some c)) :=
  { a with
    sub := fun j l hl => by
      by_cases z : j = i
      · rw [if_pos z] at hl; exact hL l hl
      · rw [if_neg z] at hl; exact a.sub j l hl
    dj := fun j k l h1 h2 => by
      by_cases z : j = i
      · by_cases z2 : k = i
        · rw [z, z2]
        · rw [if_pos z] at h1; rw [if_neg z2] at h2
          exact absurd h1 (hdis k z2 l h2)
      · by_cases z2 : k = i
        · rw [if_neg z] at h1; rw [if_pos z2] at h2
          exact absurd h2 (hdis j z l h1)
        · rw [if_neg z] at h1; rw [if_neg z2] at h2
          exact a.dj j k l h1 h2
    nd := fun j => by
      by_cases z : j = i
      · rw [if_pos z]; exact nd
      · rw [if_neg z]; exact a.nd j
    len := by rw [List.length_set]; have := a.len; rw [List.length_set] at this; exact this
    cs := fun j c' e => by
      by_cases z : j = i
      · subst z
        rw [List.getElem?_set_self hi] at e; cases e
        exact ⟨x, ex, by rw [if_pos rfl]; exact q⟩
      · rw [List.getElem?_set_ne (Ne.symm z)] at e
        obtain ⟨y, ey, qy⟩ := a.cs j c' (by rw [List.getElem?_set_ne (Ne.symm z)]; exact e)
        exact ⟨y, ey, by rw [if_neg z]; exact qy⟩ }
theorem OwAll.snoc {K : PySem.W.Frag} {N H : Hp} {v : V} {d : PyData} {L : List Addr} : ∀ {vs : List V} {ds : List PyData} {L0 : List Addr}, OwAll K N H vs ds L0 → Ow K N H v d L → OwAll K N H (vs ++ [v]) (ds ++ [d]) (L0 ++ L)
  | _, _, _, .nil, q => by
    have := OwAll.cons q (OwAll.nil (K := K) (N := N) (H := H))
    rw [List.append_nil] at this
    exact this
  | _, _, _, .cons q0 t, q => by
    rw [List.append_assoc]
    exact .cons q0 (OwAll.snoc t q)
theorem OwAll.flat_nil {K : PySem.W.Frag} {N H : Hp} : ∀ {vs : List V} {ds : List PyData} {L : List Addr}, ds.all flatD = true → OwAll K N H vs ds L → L = [] ∧ DpAll K (fun _ => none) vs ds
  | _, _, _, _, .nil => ⟨rfl, .nil⟩
  | _, _, _, h, .cons q t => by
    rw [List.all_cons, Bool.and_eq_true] at h
    obtain ⟨e, r⟩ := OwAll.flat_nil h.2 t
    cases q with
    | fz _ q => exact ⟨by rw [e]; rfl, .cons q r⟩
    | lst _ _ => exact absurd h.1 (by simp [flatD])
    | tup _ _ => exact absurd h.1 (by simp [flatD])
theorem OwAll.focus {K : PySem.W.Frag} {N H : Hp} {d : PyData} : ∀ {vs : List V} {ds : List PyData} {L : List Addr} {k : Nat}, OwAll K N H vs ds L → L.Nodup → ds[k]? = some d → ∃ v Lk, vs[k]? = some v ∧ Ow K N H v d Lk ∧ Lk.Nodup ∧ (∀ l ∈ Lk, l ∈ L) ∧ ∀ H' d', (∀ b ∈ L, b ∉ Lk → H' b = H b) → Ow K N H' v d' Lk → OwAll K N H' vs (ds.set k d') L
  | _, _, _, _, .nil, _, h => by simp at h
  | _, _, _, 0, .cons (L := L1) (L' := L2) q t, nd, h => by
    simp only [List.getElem?_cons_zero, Option.some.injEq] at h
    subst h
    obtain ⟨n1, n2, n3⟩ := List.nodup_append.mp nd
    exact ⟨_, L1, rfl, q, n1, fun l hl => List.mem_append_left _ hl, fun H' d' e q' => .cons q' (OwAll.at (fun l hl => e l (List.mem_append_right _ hl) fun z => n3 l z l hl rfl) t)⟩
  | _, _, _, k + 1, .cons (L := L1) (L' := L2) q t, nd, h => by
    simp only [List.getElem?_cons_succ] at h
    obtain ⟨n1, n2, n3⟩ := List.nodup_append.mp nd
    obtain ⟨v, Lk, e1, e2, e3, e4, e5⟩ := OwAll.focus t n2 h
    exact ⟨v, Lk, e1, e2, e3, fun l hl => List.mem_append_right _ (e4 l hl), fun H' d' e q' => .cons (Ow.at (fun l hl => e l (List.mem_append_left _ hl) fun z => n3 l hl l (e4 l z) rfl) q) (e5 H' d' (fun b hb hn => e b (List.mem_append_right _ hb) hn) q')⟩
section
variable {K : PySem.W.Frag} {H0 : Base} {ρ τ υ ω : Type} {R : Ex ρ} {Γ Γ2 : Ctx} {t u : TS} {Γ' : τ → Ctx} {I : ω → Fl ρ τ} {te ta tb : TE} {ts : TA} {md : Md} {d : PyData} {ds : List PyData}
theorem AtB.drop {A N : Hp} {W : Addr → Prop} {O : Nat → List Addr} {H : Hp} {σ : St} {i : Nat} (a : AtB K H0 A N W O H σ Γ) (hi : i < Γ.length) : AtB K H0 A N W O H σ (Γ.set i none) := a.weak (by rw [List.length_set]) fun j c e => by
  by_cases z : j = i
  · subst z; rw [List.getElem?_set_self hi] at e; cases e
  · rw [List.getElem?_set_ne (Ne.symm z)] at e; exact e
/-- xs.append(e): a tree becomes a part -/
theorem b_tapp {i : Nat} {m : Option ω} (h : Γ[i]? = some (some (.t (.list ds)))) (he : EvW K H0 Γ te d) (hz : ds.length < lim) (hΓ : Γ.set i (some (.t (.list (ds ++ [d])))) = Γ2) (rest : Blk K H0 R Γ2 u Γ' I m) :
    Blk K H0 R Γ (tSeq (tDrop (tBM K "list" rAppend (tVar i) (tCons te tNil))) u) Γ' I m := fun w hw D A N W O H σ a kn kr => by
  subst hΓ
  have hi := lt_of_get h
  obtain ⟨x0, ex0, q⟩ := a.cs i _ h
  obtain ⟨Oi, hOi⟩ : ∃ Oi, O i = Oi := ⟨_, rfl⟩
  rw [hOi] at q
  cases q with
  | fz h _ => cases h
  | lst el qa =>
    rename_i l vs L0
    refine ⟨_, ex0, tyL el, ?_⟩
    refine he _ a fun A1 N1 H1 y L a1 s1 s2 s3 nd hL qy => ?_
    have hlen : vs.length < sizeLine := by rw [OwAll.len qa, lim_eq]; exact hz
    refine ⟨l, vs, y, rfl, rfl, s3 _ _ el, hlen, ?_⟩
    have hlO : l ∈ O i := by rw [hOi]; exact List.mem_cons_self
    have ndi := a1.nd i
    rw [hOi] at ndi
    obtain ⟨nd1, nd2⟩ := List.nodup_cons.mp ndi
    have a3 := ((a1.drop hi).reserveL (L := L) fun b hb => ⟨(hL b hb).2.1, (hL b hb).2.2.2⟩).write (l := l) (vs := vs ++ [y]) (.inl (a1.sub i l hlO)) (by rw [List.length_append]; exact hlen) fun j c e hj => by
      have z : j = i := a1.dj j i l hj hlO
      subst z; rw [List.getElem?_set_self hi] at e; cases e
    have hOW : ∀ b ∈ l :: L0, W b := fun b hb => a1.sub i b (by rw [hOi]; exact hb)
    have hLn : ∀ b ∈ L, b ∉ l :: L0 := fun b hb z => (hL b hb).2.2.1 (hOW b z)
    have a4 := a3.regrow (x := .ref l) (c := .t (.list (ds ++ [d]))) (L' := l :: (L0 ++ L)) ex0 hi (fun b hb => by
      rcases List.mem_cons.mp hb with z | hb
      · rw [z]; exact .inl (hOW l List.mem_cons_self)
      · rcases List.mem_append.mp hb with hb | hb
        · exact .inl (hOW b (List.mem_cons_of_mem _ hb))
        · exact .inr hb) (fun j hj b hb hb2 => by
      have hWb := a1.sub j b hb
      have hbi : b ∈ O i := by
        rw [hOi]
        rcases List.mem_cons.mp hb2 with z | hb2
        · rw [z]; exact List.mem_cons_self
        · rcases List.mem_append.mp hb2 with hb2 | hb2
          · exact List.mem_cons_of_mem _ hb2
          · exact absurd hWb (hL b hb2).2.2.1
      exact hj (a1.dj j i b hb hbi)) (List.nodup_cons.mpr ⟨fun z => (List.mem_append.mp z).elim nd1 fun z => hLn l z List.mem_cons_self, List.nodup_append.mpr ⟨nd2, nd, fun b hb c hc e => hLn c hc (e ▸ List.mem_cons_of_mem _ hb)⟩⟩) (Ow.lst upd_same (OwAll.snoc ((qa.mono s2 s3).at fun b hb => upd_ne fun z => nd1 (z ▸ hb)) (qy.at fun b hb => upd_ne fun z => hLn b hb (z ▸ List.mem_cons_self))))
    exact rest w hw D a4 (fun st' e' A'' N'' W'' O'' H'' σ'' a'' y1 y2 => kn st' e' A'' N'' W'' O'' H'' σ'' a'' (s1.trans y1) (s2.trans y2)) (fun r e => R.mono s1 s2 (kr r e))
theorem ixN_ofNat {n j : Nat} (h : j < n) : ixN n (j : Int) = some j := by
  unfold ixN
  simp [h]
theorem atI_at {α : Type} {xs : List α} {j : Nat} {v : α} (h : xs[j]? = some v) : atI xs (j : Int) = some v := by
  have hj := (List.getElem?_eq_some_iff.mp h).1
  unfold atI
  rw [ixN_ofNat hj]
  exact h
/-- x[2][j][k].reverse() -/
theorem b_trev3 {α β : Type} [ToD α] [ToD β] {p : Tri α β (List (List (List Int)))} {rows : List (List Int)} {row : List Int} {i j k : Nat} {kk : Tri α β (List (List (List Int))) → Option ω} {Γ2 : Tri α β (List (List (List Int))) → Ctx}
    (h : Γ[i]? = some (some (.t (toD p)))) (hj : p.c[j]? = some rows) (hk : rows[k]? = some row) (hΓ : ∀ x : Tri α β (List (List (List Int))), Γ.set i (some (.t (toD x))) = Γ2 x)
    (rest : ∀ x, x = Tri.mk p.a p.b (p.c.set j (rows.set k row.reverse)) → Blk K H0 R (Γ2 x) u Γ' I (kk x)) :
    Blk K H0 R Γ (tSeq (tDrop (tBM0 K "list" rReverse (tOp (rIxL K) (tOp (rIxL K) (tOp (rIxT K) (tVar i) (tC (.int 2))) (tC (.int (j : Int)))) (tC (.int (k : Int)))))) u) Γ' I (lt (Tri.mk p.a p.b (p.c.set j (rows.set k row.reverse))) kk) := by
  rw [lt_def]
  have rest2 := rest _ rfl
  rw [← hΓ] at rest2
  refine fun w hw D A N W O H σ a kn kr => ?_
  have hi := lt_of_get h
  obtain ⟨x0, ex0, q⟩ := a.cs i _ h
  obtain ⟨Oi, hOi⟩ : ∃ Oi, O i = Oi := ⟨_, rfl⟩
  have nd := a.nd i
  rw [hOi] at q nd
  have q : Ow K N H x0 (.tuple [toD p.a, toD p.b, .list (p.c.map toD)]) Oi := q
  cases q with
  | fz h _ => cases h
  | tup ep qa =>
    rename_i pt vs
    obtain ⟨v2, L2, f1, f2, f3, f4, f5⟩ := OwAll.focus (k := 2) (d := .list (p.c.map toD)) qa nd rfl
    cases f2 with
    | fz h _ => cases h
    | lst e2 q2 =>
      rename_i l2 vs2 L2'
      obtain ⟨m1, m2⟩ := List.nodup_cons.mp f3
      obtain ⟨v3, L3, g1, g2, g3, g4, g5⟩ := OwAll.focus (k := j) (d := .list (rows.map toD)) q2 m2 (by rw [List.getElem?_map, hj]; rfl)
      cases g2 with
      | fz h _ => cases h
      | lst e3 q3 =>
        rename_i l3 vs3 L3'
        obtain ⟨n1, n2⟩ := List.nodup_cons.mp g3
        obtain ⟨v4, L4, k1, k2, k3, k4, k5⟩ := OwAll.focus (k := k) (d := .list (row.map toD)) q3 n2 (by rw [List.getElem?_map, hk]; rfl)
        cases k2 with
        | fz h _ => cases h
        | lst e4 q4 =>
          rename_i l4 vs4 L4'
          obtain ⟨r1, r2⟩ := OwAll.flat_nil (by rw [List.all_map, List.all_eq_true]; intro _ _; rfl) q4
          subst r1
          have hl4 : l4 ∈ L3' := k4 l4 List.mem_cons_self
          have hl4b : l4 ∈ L2' := g4 l4 (List.mem_cons_of_mem _ hl4)
          have hl4c : l4 ∈ Oi := f4 l4 (List.mem_cons_of_mem _ hl4b)
          refine ⟨_, ex0, pt, vs, 2, .ref l2, rfl, rfl, .inl (.inl (a.na.trans a.ah _ _ ep)), atI_at (j := 2) f1, l2, vs2, (j : Int), .ref l3, rfl, rfl, .inl (.inl e2), atI_at g1, l3, vs3, (k : Int), .ref l4, rfl, rfl, .inl (.inl e3), atI_at k1, tyL e4, l4, vs4, rfl, rfl, e4, ?_⟩
          have hlen : vs4.reverse.length ≤ sizeLine := by rw [List.length_reverse]; exact a.hl l4 vs4 (.inl e4)
          have a3 := (a.drop hi).write (l := l4) (vs := vs4.reverse) (a.sub i l4 (by rw [hOi]; exact hl4c)) hlen fun c e hc hj => by
            have z : c = i := a.dj c i l4 hj (by rw [hOi]; exact hl4c)
            subst z; rw [List.getElem?_set_self hi] at hc; cases hc
          have q4' : Ow K N (upd H l4 (.lst vs4.reverse)) (.ref l4) (.list (row.reverse.map toD)) [l4] := .lst upd_same (owAll_flat (S := fun _ => none) (by rw [List.all_map, List.all_eq_true]; intro _ _; rfl) (by rw [List.map_reverse]; exact dpAll_rev r2))
          have q3' := k5 (upd H l4 (.lst vs4.reverse)) _ (fun b _ hb => upd_ne fun z => hb (z ▸ List.mem_cons_self)) q4'
          rw [show (PyData.list (row.reverse.map toD)) = toD row.reverse from rfl, ← List.map_set] at q3'
          have h34 : l3 ≠ l4 := fun z => n1 (z ▸ hl4)
          have q2' := g5 (upd H l4 (.lst vs4.reverse)) (.list ((rows.set k row.reverse).map toD)) (fun b _ hb => upd_ne fun z => hb (z ▸ List.mem_cons_of_mem _ hl4)) (.lst (by rw [upd_ne h34]; exact e3) q3')
          rw [show (PyData.list ((rows.set k row.reverse).map toD)) = toD (rows.set k row.reverse) from rfl, ← List.map_set] at q2'
          have h24 : l2 ≠ l4 := fun z => m1 (z ▸ hl4b)
          have qa' := f5 (upd H l4 (.lst vs4.reverse)) (.list ((p.c.set j (rows.set k row.reverse)).map toD)) (fun b _ hb => upd_ne fun z => hb (z ▸ List.mem_cons_of_mem _ hl4b)) (.lst (by rw [upd_ne h24]; exact e2) q2')
          have a4 := a3.regrow (x := .ref pt) (c := .t (toD (Tri.mk p.a p.b (p.c.set j (rows.set k row.reverse))))) (L' := Oi) ex0 hi (fun b hb => a.sub i b (by rw [hOi]; exact hb)) (fun c hc b hb hb2 => hc (a.dj c i b hb (by rw [hOi]; exact hb2))) nd (Ow.tup ep qa')
          exact rest2 w hw D a4 kn kr
end
end Mir

namespace Mir
open PySem PySem.Spec L2
open ToD (toD)
set_option autoImplicit false
/-! ## defs that give back a tree of the caller's own -/
def FnW (K : PySem.W.Frag) (pre : List PyData → PyData → Prop) : Sp := fun vs H Q _ => ∃ ds r, DpAll K H vs ds ∧ pre ds r ∧
  ∀ x L N H', Same H H' → (∀ b o, N b = some o → H b = none ∨ FT o) → Same N H' → HLen H' → L.Nodup → (∀ l ∈ L, H l = none ∧ N l = none ∧ Lv H' l) → Ow K N H' x r L → Q x H'
def RetW (K : PySem.W.Frag) (H0 : Base) {α : Type} [ToD α] (r : α) (v : V) (H : Hp) : Prop := Same H0 H ∧ HLen H ∧ ∃ N L, (∀ b o, N b = some o → H0.Fr b o) ∧ Same N H ∧ L.Nodup ∧ (∀ l ∈ L, H0 l = none ∧ N l = none ∧ Lv H l) ∧ Ow K N H v (toD r) L
/-- parts that are handed back: new ones, and the own things of some slots -/
def EvRA (K : PySem.W.Frag) (H0 : Base) (Γ : Ctx) (ts : TA) (ds : List PyData) (js : List Nat) : Prop :=
  ∀ ⦃A N : Hp⦄ ⦃W : Addr → Prop⦄ ⦃O : Nat → List Addr⦄ ⦃H : Hp⦄ ⦃σ : St⦄ (Q : List V → Hp → Prop), AtB K H0 A N W O H σ Γ → (∀ i l, l ∈ O i → W l) →
    (∀ A' N' H' xs L, AtB K H0 A' N' W O H' σ Γ → Same A A' → Same N N' → Same H H' → L.Nodup → (∀ l ∈ L, (A' l = none ∧ ¬ W l ∧ Lv H' l) ∨ ∃ j ∈ js, l ∈ O j) → OwAll K N' H' xs ds L → Q xs H') → ts σ H Q
section
variable {K : PySem.W.Frag} {H0 : Base} {ρ τ υ ω : Type} {R : Ex ρ} {Γ Γ2 : Ctx} {t u : TS} {Γ' : τ → Ctx} {I : ω → Fl ρ τ} {te ta tb : TE} {ts : TA} {md : Md} {d : PyData} {ds : List PyData} {js : List Nat}
theorem w_call {pre : List PyData → PyData → Prop} {E : XK} {r : PyData} (hs : EvA K H0 Γ ts .h ds) (hp : pre ds r) : EvW K H0 Γ (tCall (FnW K pre) [] E ts) r := fun A N W O H σ Q a k =>
  hs _ a fun A1 N1 H1 vs a1 s1 s2 s3 q1 => by
    refine ⟨ds, r, by rw [List.append_nil]; exact q1, hp, fun x L M H' sH fr sM hl nd hL q => ?_⟩
    obtain ⟨a2, u1, u2, u3, u4⟩ := a1.called sH fr sM hl
    exact k _ _ H' x L a2 (s1.trans u1) (s2.trans u2) (s3.trans sH) nd (fun l h => by
      obtain ⟨h1, h2, h3⟩ := hL l h
      exact ⟨s3.free h1, uni_none (a1.ah.free h1) h2, a1.noW h1, h3⟩) (q.mono u3 (Same.refl _))
theorem ra_nil : EvRA K H0 Γ tNil [] [] := fun A N W O H σ Q a ho k => k A N H [] [] a (Same.refl _) (Same.refl _) (Same.refl _) .nil (fun l hl => by cases hl) .nil
theorem ra_consW (he : EvW K H0 Γ te d) (hs : EvRA K H0 Γ ts ds js) : EvRA K H0 Γ (tCons te ts) (d :: ds) js := fun A N W O H σ Q a ho k =>
  he _ a fun A1 N1 H1 x L a1 s1 s2 s3 nd hL q => hs _ (a1.reserveL (L := L) fun l hl => ⟨(hL l hl).2.1, (hL l hl).2.2.2⟩) (fun i l hl => .inl (ho i l hl)) fun A2 N2 H2 xs L' a2 t1 t2 t3 nd' hL' q' => by
    have a3 : AtB K H0 A2 N2 W O H2 σ Γ := a2.unreserve (fun b w => .inl w) ho
    refine k A2 N2 H2 (x :: xs) (L ++ L') a3 (s1.trans t1) (s2.trans t2) (s3.trans t3) (List.nodup_append.mpr ⟨nd, nd', fun b hb c hc e => ?_⟩) (fun b hb => ?_) (.cons (q.mono t2 t3) q')
    · rcases hL' c hc with ⟨_, h2, _⟩ | ⟨j, hj, h2⟩
      · exact h2 (.inr (e ▸ hb))
      · exact (hL b hb).2.2.1 (e ▸ ho j c h2)
    · rcases List.mem_append.mp hb with hb | hb
      · exact .inl ⟨(a2.own b (.inr hb)).1, (hL b hb).2.2.1, (a2.own b (.inr hb)).2⟩
      · rcases hL' b hb with ⟨h1, h2, h3⟩ | h
        · exact .inl ⟨h1, fun w => h2 (.inl w), h3⟩
        · exact .inr h
theorem ra_consV {i : Nat} (h : Γ[i]? = some (some (.t d))) (hs : EvRA K H0 Γ ts ds js) (hi : i ∉ js) : EvRA K H0 Γ (tCons (tVar i) ts) (d :: ds) (i :: js) := fun A N W O H σ Q a ho k => by
  obtain ⟨x, ex, q⟩ := a.cs i _ h
  refine ⟨_, ex, ?_⟩
  refine hs _ a ho fun A2 N2 H2 xs L' a2 t1 t2 t3 nd' hL' q' => ?_
  refine k A2 N2 H2 (x :: xs) (O i ++ L') a2 t1 t2 t3 (List.nodup_append.mpr ⟨a.nd i, nd', fun b hb c hc e => ?_⟩) (fun b hb => ?_) (.cons (Ow.mono t2 t3 q) q')
  · rcases hL' c hc with ⟨_, h2, _⟩ | ⟨j, hj, h2⟩
    · exact h2 (e ▸ ho i b hb)
    · have := a.dj i j b hb (e ▸ h2)
      exact hi (this ▸ hj)
  · rcases List.mem_append.mp hb with hb | hb
    · exact .inr ⟨i, List.mem_cons_self, hb⟩
    · rcases hL' b hb with h | ⟨j, hj, h2⟩
      · exact .inl h
      · exact .inr ⟨j, List.mem_cons_of_mem _ hj, h2⟩
theorem b_retWT {α : Type} [ToD α] {r : α} {Γ' : τ → Ctx} (hs : EvRA K H0 Γ ts ds js) (hd : toD r = .tuple ds) (hz : ds.length ≤ sizeLine := by first | exact Nat.zero_le _ | (simp only [List.length_cons, List.length_nil]; decide)) : Blk K H0 (exR (RetW K H0)) Γ (tSeq (tRet (tTup ts)) u) Γ' Fl.ret (some r) := fun w hw D A N W O H σ a kn kr => by
  cases hw
  refine hs _ a a.sub fun A1 N1 H1 vs L a1 s1 s2 s3 nd hL q => ?_
  refine ⟨by rw [OwAll.len q]; exact hz, fun p hp => ?_⟩
  have a2 := a1.alloc (o := .tup vs) hp a1.hl.upd_tup
  have hA := a1.ah.free hp
  have hN := a1.na.free hA
  have hall : ∀ l ∈ L, A1 l = none ∧ Lv H1 l := fun l hl => by
    rcases hL l hl with ⟨h1, _, h3⟩ | ⟨j, _, h2⟩
    · exact ⟨h1, h3⟩
    · exact a1.own l (a1.sub j l h2)
  have hne : ∀ l ∈ L, l ≠ p := fun l hl z => (hall l hl).2.ne (z ▸ hp)
  refine kr r rfl (.ref p) _ ⟨a2.h0h, a2.hl, _, L, a2.fr, a2.na.trans a2.ah, nd, fun l hl => ⟨a1.h0.free (hall l hl).1, by rw [upd_ne (hne l hl)]; exact a1.na.free (hall l hl).1, (hall l hl).2.mono (same_upd hp)⟩, ?_⟩
  rw [hd]
  exact .tup upd_same (OwAll.mono (same_upd hN) (same_upd hp) q)
end
section
variable {K : PySem.W.Frag} {vs : List V} {ds : List PyData} {H : Hp} {N : List Str} {Γ : Ctx} {t : TS} {τ : Type} {Γ' : τ → Ctx} {Q : VK}
theorem body_W {α : Type} [ToD α] {m : Option α} {r : α} (hl : HLen H) (hd : DpAll K H vs ds) (hm : m = some r) (hn : ds.length ≤ N.length) (hΓ : entryC ds N.length = Γ) (hb : Blk K (bs H) (exR (RetW K (bs H))) Γ t Γ' Fl.ret m)
    (k : ∀ x L M H', Same H H' → (∀ b o, M b = some o → H b = none ∨ FT o) → Same M H' → HLen H' → L.Nodup → (∀ l ∈ L, H l = none ∧ M l = none ∧ Lv H' l) → Ow K M H' x (toD r) L → Q x H') : t { nx := fun _ H' => Q .non H', rt := Q } (L2.start N vs) H := by
  subst hΓ
  exact hb r hm _ (entry hl hd hn) (fun st e => by cases e) fun r' e v H' q => by
    cases e
    obtain ⟨h0, h1, M, L, h2, h3, h4, h5, h6⟩ := q
    exact k v L M H' h0 (fun b o e => (h2 b o e).imp id fun z => z.resolve_left (by simp)) h3 h1 h4 h5 h6
end
end Mir

namespace Mir
open PySem PySem.Spec L2
open ToD (toD)
set_option autoImplicit false
/-! ## a tree of one's own as a value, and frozen -/
mutual
theorem Ow.frz {K : PySem.W.Frag} {N N' H : Hp} (s : Same N N') : ∀ {v : V} {d : PyData} {L : List Addr}, (∀ l ∈ L, N' l = H l) → Ow K N H v d L → Dp K N' v d
  | _, _, _, _, .fz _ q => dp_mono (fun _ _ e => by cases e) q
  | _, _, _, e, .lst h t => .lst (.inl (.inl (by rw [e _ List.mem_cons_self]; exact h))) (OwAll.frz s (fun l hl => e l (List.mem_cons_of_mem _ hl)) t)
  | _, _, _, e, .tup h t => .tup (s _ _ h) (OwAll.frz s e t)
theorem OwAll.frz {K : PySem.W.Frag} {N N' H : Hp} (s : Same N N') : ∀ {vs : List V} {ds : List PyData} {L : List Addr}, (∀ l ∈ L, N' l = H l) → OwAll K N H vs ds L → DpAll K N' vs ds
  | _, _, _, _, .nil => .nil
  | _, _, _, e, .cons q t => .cons (Ow.frz s (fun l hl => e l (List.mem_append_left _ hl)) q) (OwAll.frz s (fun l hl => e l (List.mem_append_right _ hl)) t)
end
section
variable {K : PySem.W.Frag} {H0 : Base} {ρ τ υ ω : Type} {R : Ex ρ} {Γ Γ2 : Ctx} {t u : TS} {Γ' : τ → Ctx} {I : ω → Fl ρ τ} {te ta tb : TE} {ts : TA} {md : Md} {d : PyData} {ds : List PyData}
theorem AtB.freezeL {W : Addr → Prop} {O : Nat → List Addr} {H : Hp} {σ : St} : ∀ (L : List Addr) {A N : Hp}, AtB K H0 A N W O H σ Γ → L.Nodup → (∀ l ∈ L, A l = none ∧ ¬ W l ∧ Lv H l) → ∃ A' N', AtB K H0 A' N' W O H σ Γ ∧ Same A A' ∧ Same N N' ∧ ∀ l ∈ L, N' l = H l
  | [], A, N, a, _, _ => ⟨A, N, a, Same.refl _, Same.refl _, fun l hl => by cases hl⟩
  | l :: L, A, N, a, nd, h => by
    obtain ⟨n1, n2⟩ := List.nodup_cons.mp nd
    obtain ⟨h1, h2, o, h3, _⟩ := h l List.mem_cons_self
    have a1 := a.freeze h1 h2 h3
    obtain ⟨A', N', a2, s1, s2, e⟩ := AtB.freezeL L a1 n2 fun b hb => by
      obtain ⟨g1, g2, g3⟩ := h b (List.mem_cons_of_mem _ hb)
      have hbl : b ≠ l := fun z => n1 (by rw [← z]; exact hb)
      exact ⟨by rw [upd_ne hbl]; exact g1, g2, g3⟩
    have hN : N l = none := a.na.free h1
    refine ⟨A', N', a2, (same_upd h1).trans s1, (same_upd hN).trans s2, fun b hb => ?_⟩
    rcases List.mem_cons.mp hb with z | hb
    · rw [z, s2 l o upd_same, h3]
    · exact e b hb
theorem evW_ev (he : EvW K H0 Γ te d) : Ev K H0 Γ te .h d := fun A N W O H σ Q a k =>
  he _ a fun A1 N1 H1 x L a1 s1 s2 s3 nd hL q => k A1 N1 H1 x a1 s1 s2 s3 (Ow.dp (a1.na.trans a1.ah) q)
theorem evW_n (he : EvW K H0 Γ te d) : Ev K H0 Γ te .n d := fun A N W O H σ Q a k =>
  he _ a fun A1 N1 H1 x L a1 s1 s2 s3 nd hL q => by
    obtain ⟨A2, N2, a2, t1, t2, e⟩ := AtB.freezeL L a1 nd fun l hl => ⟨(hL l hl).2.1, (hL l hl).2.2.1, (hL l hl).2.2.2⟩
    exact k A2 N2 H1 x a2 (s1.trans t1) (s2.trans t2) s3 (Ow.frz t2 e q)
theorem b_freezeT {i : Nat} {m : Option ω} (h : Γ[i]? = some (some (.t d))) (hΓ : Γ.set i (some (.v .n d)) = Γ2) (rest : Blk K H0 R Γ2 u Γ' I m) : Blk K H0 R Γ u Γ' I m := fun w hw D A N W O H σ a kn kr => by
  subst hΓ
  have hi := lt_of_get h
  obtain ⟨x, ex, q⟩ := a.cs i _ h
  have a0 : AtB K H0 A N (fun b => W b ∧ b ∉ O i) (fun j => if j = i then [] else O j) H σ (Γ.set i none) :=
    { a.drop hi with
      own := fun b w => a.own b w.1
      sub := fun j l hl => by
        by_cases z : j = i
        · rw [if_pos z] at hl; cases hl
        · rw [if_neg z] at hl
          exact ⟨a.sub j l hl, fun z2 => z (a.dj j i l hl z2)⟩
      dj := fun j k l h1 h2 => by
        by_cases z : j = i
        · rw [if_pos z] at h1; cases h1
        · by_cases z2 : k = i
          · rw [if_pos z2] at h2; cases h2
          · rw [if_neg z] at h1; rw [if_neg z2] at h2
            exact a.dj j k l h1 h2
      nd := fun j => by
        by_cases z : j = i
        · rw [if_pos z]; exact .nil
        · rw [if_neg z]; exact a.nd j
      cs := fun j c e => by
        by_cases z : j = i
        · subst z; rw [List.getElem?_set_self hi] at e; cases e
        · obtain ⟨y, ey, qy⟩ := (a.drop hi).cs j c e
          exact ⟨y, ey, by rw [if_neg z]; exact qy⟩ }
  obtain ⟨A2, N2, a2, s1, s2, e⟩ := AtB.freezeL (O i) a0 (a.nd i) fun l hl => ⟨(a.own l (a.sub i l hl)).1, fun w => w.2 hl, (a.own l (a.sub i l hl)).2⟩
  have a3 := a2.regrow (x := x) (c := .v .n d) (L' := []) ex hi (fun l hl => by cases hl) (fun j _ l _ hl => by cases hl) .nil ⟨nh, Ow.frz s2 e q⟩
  exact rest w hw D a3 (fun st e A' N' W' O' H' σ' a' x1 x2 => kn st e A' N' W' O' H' σ' a' (s1.trans x1) (s2.trans x2)) (fun r e => R.mono s1 s2 (kr r e))
theorem b_asgWL {α : Type} [ToD α] {i : Nat} {e : α} {k : α → Option ω} {Γ2 : α → Ctx} (he : EvW K H0 Γ te (toD e)) (hi : i < Γ.length) (hΓ : ∀ x : α, Γ.set i (some (.t (toD x))) = Γ2 x) (rest : ∀ x, x = e → Blk K H0 R (Γ2 x) u Γ' I (k x)) : Blk K H0 R Γ (tSeq (tAsg te (gName i)) u) Γ' I (lt e k) := by
  rw [lt_def]; exact b_asgW he hi (hΓ e) (rest e rfl)
theorem b_tappL {α : Type} [ToD α] {i : Nat} {xs ys : List α} {y : α} {m : Option ω} (h : Γ[i]? = some (some (.t (toD xs)))) (he : EvW K H0 Γ te (toD y)) (hy : appO xs y = some ys) (hΓ : Γ.set i (some (.t (toD ys))) = Γ2) (rest : Blk K H0 R Γ2 u Γ' I m) :
    Blk K H0 R Γ (tSeq (tDrop (tBM K "list" rAppend (tVar i) (tCons te tNil))) u) Γ' I m := by
  unfold appO at hy
  split at hy
  · rename_i hz
    cases hy
    refine b_tapp (ds := xs.map toD) h he (by rw [List.length_map]; exact hz) ?_ rest
    rw [← hΓ]
    show _ = Γ.set i (some (.t (.list ((xs ++ [y]).map toD))))
    rw [List.map_append]; rfl
  · cases hy
theorem ev_varWT {α : Type} [ToD α] {x : α} {i : Nat} (h : Γ[i]? = some (some (.t (toD x))) := by rfl) : Ev K H0 Γ (tVar i) .h (toD x) := ev_varW h
abbrev ct {α : Type} [ToD α] (x : α) : Option Cell := some (.t (toD x))
theorem w_OI {xs : List Int} (he : EvO K H0 Γ te md (xs.map toD)) : EvW K H0 Γ te (toD xs) := w_O he (flat_all (fun _ => rfl) xs)
theorem w_PI {xss : List (List Int)} (he : EvP K H0 Γ te md (xss.map (·.map toD))) : EvW K H0 Γ te (toD xss) := by
  have := w_P (dss := xss.map (·.map toD)) he fun ds hd => by
    obtain ⟨xs, _, rfl⟩ := List.mem_map.mp hd
    exact flat_all (fun _ => rfl) xs
  rw [List.map_map] at this
  exact this
theorem w_nil {α : Type} [ToD α] : EvW K H0 Γ (tLst tNil) (toD ([] : List α)) := w_lst wa_nil
theorem atI_of {α : Type} {xs : List α} {j : Nat} {v : α} (h : atI xs (j : Int) = some v) : xs[j]? = some v := by
  unfold atI at h
  by_cases hj : j < xs.length
  · rw [ixN_ofNat hj] at h
    exact h
  · unfold ixN at h
    simp [hj] at h
theorem b_trevI {α β : Type} [ToD α] [ToD β] {p : Tri α β (List (List (List Int)))} {rows : List (List Int)} {row : List Int} {i j k : Nat} {kk : Tri α β (List (List (List Int))) → Option ω} {Γ2 : Tri α β (List (List (List Int))) → Ctx}
    (h : Γ[i]? = some (some (.t (toD p)))) (hj : atI p.c (j : Int) = some rows) (hk : atI rows (k : Int) = some row) (hΓ : ∀ x : Tri α β (List (List (List Int))), Γ.set i (some (.t (toD x))) = Γ2 x)
    (rest : ∀ x, x = Tri.mk p.a p.b (p.c.set j (rows.set k row.reverse)) → Blk K H0 R (Γ2 x) u Γ' I (kk x)) :
    Blk K H0 R Γ (tSeq (tDrop (tBM0 K "list" rReverse (tOp (rIxL K) (tOp (rIxL K) (tOp (rIxT K) (tVar i) (tC (.int 2))) (tC (.int (j : Int)))) (tC (.int (k : Int)))))) u) Γ' I (lt (Tri.mk p.a p.b (p.c.set j (rows.set k row.reverse))) kk) :=
  b_trev3 h (atI_of hj) (atI_of hk) hΓ rest
end
end Mir

namespace Mir
open PySem PySem.Spec L2
open ToD (toD)
set_option autoImplicit false
section
variable {K : PySem.W.Frag} {H0 : Base} {ρ τ υ ω : Type} {R : Ex ρ} {Γ Γ2 : Ctx} {t u : TS} {Γ' : τ → Ctx} {I : ω → Fl ρ τ} {te ta tb tj tk : TE} {ts : TA} {md : Md} {d : PyData} {ds : List PyData}
/-- a whole number that is read at once -/
def Imm (K : PySem.W.Frag) (H0 : Base) (Γ : Ctx) (t : TE) (j : Int) : Prop :=
  ∀ {A N : Hp} {W : Addr → Prop} {O : Nat → List Addr} {H : Hp} {σ : St} {Q : V → Hp → Prop}, AtB K H0 A N W O H σ Γ → Q (.int j) H → t σ H Q
theorem imm_c {j : Int} : Imm K H0 Γ (tC (.int j)) j := fun _ q => q
theorem imm_v {i : Nat} {j : Int} (h : Γ[i]? = some (some (.v md (toD j))) := by rfl) : Imm K H0 Γ (tVar i) j := fun a q => by
  obtain ⟨x, e, _, p⟩ := a.cs i _ h
  have p : Dp K _ x (.int j) := p
  cases p
  exact ⟨_, e, q⟩
def mutL (b : Bool) {α : Type} (xs : List α) : List α := if b then xs.reverse else []
def rMut (b : Bool) : V → List V → Hp → VK → Prop := if b then rReverse else rClear
theorem rMut_of {b : Bool} {l : Addr} {xs : List V} {H : Hp} {Q : VK} (h : H l = some (.lst xs)) (q : Q .non (upd H l (.lst (mutL b xs)))) : rMut b (.ref l) [] H Q := by
  cases b
  · exact ⟨l, xs, rfl, rfl, h, q⟩
  · exact ⟨l, xs, rfl, rfl, h, q⟩
theorem mutL_len {b : Bool} {α : Type} {xs : List α} : (mutL b xs).length ≤ xs.length := by
  cases b
  · exact Nat.zero_le _
  · show xs.reverse.length ≤ _
    rw [List.length_reverse]; exact Nat.le_refl _
theorem mutL_map {b : Bool} {α β : Type} {f : α → β} {xs : List α} : (mutL b xs).map f = mutL b (xs.map f) := by
  cases b
  · rfl
  · show xs.reverse.map f = (xs.map f).reverse
    rw [List.map_reverse]
theorem mutL_dp {b : Bool} {H : Hp} {vs : List V} {ds : List PyData} (h : DpAll K H vs ds) : DpAll K H (mutL b vs) (mutL b ds) := by
  cases b
  · exact .nil
  · exact dpAll_rev h
theorem atI_ix {α : Type} {xs : List α} {j : Int} {v : α} (h : atI xs j = some v) : ∃ n, ixN xs.length j = some n ∧ xs[n]? = some v := by
  unfold atI at h
  cases e : ixN xs.length j with
  | none => rw [e] at h; cases h
  | some n => rw [e] at h; exact ⟨n, rfl, h⟩
theorem atI_len {α : Type} {xs : List α} {j : Int} {n : Nat} (h : ixN xs.length j = some n) : atI xs j = xs[n]? := by
  unfold atI; rw [h]; rfl
def mut3 (b : Bool) (c : List (List (List Int))) (j k : Int) : Option (List (List (List Int))) :=
  (atI c j).bind fun rows => (atI rows k).bind fun row => (setO rows k (mutL b row)).bind fun rows2 => setO c j rows2
theorem mut3_of {b : Bool} {c c2 : List (List (List Int))} {j k : Int} (h : mut3 b c j k = some c2) :
    ∃ n m rows row, ixN c.length j = some n ∧ c[n]? = some rows ∧ ixN rows.length k = some m ∧ rows[m]? = some row ∧ c2 = c.set n (rows.set m (mutL b row)) := by
  unfold mut3 at h
  obtain ⟨rows, h1, h⟩ := Option.bind_eq_some_iff.mp h
  obtain ⟨row, h2, h⟩ := Option.bind_eq_some_iff.mp h
  obtain ⟨n, e1, e2⟩ := atI_ix h1
  obtain ⟨m, f1, f2⟩ := atI_ix h2
  unfold setO at h
  rw [e1, f1] at h
  simp only [Option.bind_some, Option.some.injEq] at h
  exact ⟨n, m, rows, row, e1, e2, f1, f2, h.symm⟩
/-- x[2][j][k].reverse(), x[2][j][k].clear() -/
theorem b_tmut3 {α β : Type} [ToD α] [ToD β] {bb : Bool} {p : Tri α β (List (List (List Int)))} {c2 : List (List (List Int))} {i : Nat} {j k : Int} {kk : Tri α β (List (List (List Int))) → Option ω} {Γ2 : Tri α β (List (List (List Int))) → Ctx}
    (h : Γ[i]? = some (some (.t (toD p)))) (hm : mut3 bb p.c j k = some c2) (ij : Imm K H0 Γ tj j) (ik : Imm K H0 Γ tk k) (hΓ : ∀ x : Tri α β (List (List (List Int))), Γ.set i (some (.t (toD x))) = Γ2 x)
    (rest : ∀ x, x = Tri.mk p.a p.b c2 → Blk K H0 R (Γ2 x) u Γ' I (kk x)) :
    Blk K H0 R Γ (tSeq (tDrop (tBM0 K "list" (rMut bb) (tOp (rIxL K) (tOp (rIxL K) (tOp (rIxT K) (tVar i) (tC (.int 2))) tj) tk))) u) Γ' I (lt (Tri.mk p.a p.b c2) kk) := by
  rw [lt_def]
  have rest2 := rest _ rfl
  rw [← hΓ] at rest2
  obtain ⟨n, m, rows, row, n1, n2, n3, n4, rfl⟩ := mut3_of hm
  refine fun w hw D A N W O H σ a kn kr => ?_
  have hi := lt_of_get h
  obtain ⟨x0, ex0, q⟩ := a.cs i _ h
  obtain ⟨Oi, hOi⟩ : ∃ Oi, O i = Oi := ⟨_, rfl⟩
  have nd := a.nd i
  rw [hOi] at q nd
  have q : Ow K N H x0 (.tuple [toD p.a, toD p.b, .list (p.c.map toD)]) Oi := q
  cases q with
  | fz h _ => cases h
  | tup ep qa =>
    rename_i pt vs
    obtain ⟨v2, L2, f1, f2, f3, f4, f5⟩ := OwAll.focus (k := 2) (d := .list (p.c.map toD)) qa nd rfl
    cases f2 with
    | fz h _ => cases h
    | lst e2 q2 =>
      rename_i l2 vs2 L2'
      obtain ⟨m1, m2⟩ := List.nodup_cons.mp f3
      obtain ⟨v3, L3, g1, g2, g3, g4, g5⟩ := OwAll.focus (k := n) (d := .list (rows.map toD)) q2 m2 (by rw [List.getElem?_map, n2]; rfl)
      cases g2 with
      | fz h _ => cases h
      | lst e3 q3 =>
        rename_i l3 vs3 L3'
        obtain ⟨r1, r2⟩ := List.nodup_cons.mp g3
        obtain ⟨v4, L4, k1, k2, k3, k4, k5⟩ := OwAll.focus (k := m) (d := .list (row.map toD)) q3 r2 (by rw [List.getElem?_map, n4]; rfl)
        cases k2 with
        | fz h _ => cases h
        | lst e4 q4 =>
          rename_i l4 vs4 L4'
          obtain ⟨s1, s2⟩ := OwAll.flat_nil (by rw [List.all_map, List.all_eq_true]; intro _ _; rfl) q4
          subst s1
          have hl4 : l4 ∈ L3' := k4 l4 List.mem_cons_self
          have hl4b : l4 ∈ L2' := g4 l4 (List.mem_cons_of_mem _ hl4)
          have hl4c : l4 ∈ Oi := f4 l4 (List.mem_cons_of_mem _ hl4b)
          have len2 : vs2.length = p.c.length := by rw [OwAll.len q2, List.length_map]
          have len3 : vs3.length = rows.length := by rw [OwAll.len q3, List.length_map]
          refine ⟨_, ex0, pt, vs, 2, .ref l2, rfl, rfl, .inl (.inl (a.na.trans a.ah _ _ ep)), atI_at (j := 2) f1, ij a ⟨l2, vs2, j, .ref l3, rfl, rfl, .inl (.inl e2), by rw [atI_len (by rw [len2]; exact n1)]; exact g1, ik a ⟨l3, vs3, k, .ref l4, rfl, rfl, .inl (.inl e3), by rw [atI_len (by rw [len3]; exact n3)]; exact k1, tyL e4, rMut_of e4 ?_⟩⟩⟩
          have hlen : (mutL bb vs4).length ≤ sizeLine := Nat.le_trans mutL_len (a.hl l4 vs4 (.inl e4))
          have a3 := (a.drop hi).write (l := l4) (vs := mutL bb vs4) (a.sub i l4 (by rw [hOi]; exact hl4c)) hlen fun c e hc hj => by
            have z : c = i := a.dj c i l4 hj (by rw [hOi]; exact hl4c)
            subst z; rw [List.getElem?_set_self hi] at hc; cases hc
          have q4' : Ow K N (upd H l4 (.lst (mutL bb vs4))) (.ref l4) (.list ((mutL bb row).map toD)) [l4] := .lst upd_same (owAll_flat (S := fun _ => none) (by rw [List.all_map, List.all_eq_true]; intro _ _; rfl) (by rw [mutL_map]; exact mutL_dp s2))
          have q3' := k5 (upd H l4 (.lst (mutL bb vs4))) _ (fun b _ hb => upd_ne fun z => hb (z ▸ List.mem_cons_self)) q4'
          rw [show (PyData.list ((mutL bb row).map toD)) = toD (mutL bb row) from rfl, ← List.map_set] at q3'
          have h34 : l3 ≠ l4 := fun z => r1 (z ▸ hl4)
          have q2' := g5 (upd H l4 (.lst (mutL bb vs4))) (.list ((rows.set m (mutL bb row)).map toD)) (fun b _ hb => upd_ne fun z => hb (z ▸ List.mem_cons_of_mem _ hl4)) (.lst (by rw [upd_ne h34]; exact e3) q3')
          rw [show (PyData.list ((rows.set m (mutL bb row)).map toD)) = toD (rows.set m (mutL bb row)) from rfl, ← List.map_set] at q2'
          have h24 : l2 ≠ l4 := fun z => m1 (z ▸ hl4b)
          have qa' := f5 (upd H l4 (.lst (mutL bb vs4))) (.list ((p.c.set n (rows.set m (mutL bb row))).map toD)) (fun b _ hb => upd_ne fun z => hb (z ▸ List.mem_cons_of_mem _ hl4b)) (.lst (by rw [upd_ne h24]; exact e2) q2')
          have a4 := a3.regrow (x := .ref pt) (c := .t (toD (Tri.mk p.a p.b (p.c.set n (rows.set m (mutL bb row)))))) (L' := Oi) ex0 hi (fun b hb => a.sub i b (by rw [hOi]; exact hb)) (fun c hc b hb hb2 => hc (a.dj c i b hb (by rw [hOi]; exact hb2))) nd (Ow.tup ep qa')
          exact rest2 w hw D a4 kn kr
theorem b_tclr3 {α β : Type} [ToD α] [ToD β] {p : Tri α β (List (List (List Int)))} {c2 : List (List (List Int))} {i : Nat} {j k : Int} {kk : Tri α β (List (List (List Int))) → Option ω} {Γ2 : Tri α β (List (List (List Int))) → Ctx}
    (h : Γ[i]? = some (some (.t (toD p)))) (hm : mut3 false p.c j k = some c2) (ij : Imm K H0 Γ tj j) (ik : Imm K H0 Γ tk k) (hΓ : ∀ x : Tri α β (List (List (List Int))), Γ.set i (some (.t (toD x))) = Γ2 x)
    (rest : ∀ x, x = Tri.mk p.a p.b c2 → Blk K H0 R (Γ2 x) u Γ' I (kk x)) :
    Blk K H0 R Γ (tSeq (tDrop (tBM0 K "list" rClear (tOp (rIxL K) (tOp (rIxL K) (tOp (rIxT K) (tVar i) (tC (.int 2))) tj) tk))) u) Γ' I (lt (Tri.mk p.a p.b c2) kk) := b_tmut3 (bb := false) h hm ij ik hΓ rest
theorem b_tre3 {α β : Type} [ToD α] [ToD β] {p : Tri α β (List (List (List Int)))} {c2 : List (List (List Int))} {i : Nat} {j k : Int} {kk : Tri α β (List (List (List Int))) → Option ω} {Γ2 : Tri α β (List (List (List Int))) → Ctx}
    (h : Γ[i]? = some (some (.t (toD p)))) (hm : mut3 true p.c j k = some c2) (ij : Imm K H0 Γ tj j) (ik : Imm K H0 Γ tk k) (hΓ : ∀ x : Tri α β (List (List (List Int))), Γ.set i (some (.t (toD x))) = Γ2 x)
    (rest : ∀ x, x = Tri.mk p.a p.b c2 → Blk K H0 R (Γ2 x) u Γ' I (kk x)) :
    Blk K H0 R Γ (tSeq (tDrop (tBM0 K "list" rReverse (tOp (rIxL K) (tOp (rIxL K) (tOp (rIxT K) (tVar i) (tC (.int 2))) tj) tk))) u) Γ' I (lt (Tri.mk p.a p.b c2) kk) := b_tmut3 (bb := true) h hm ij ik hΓ rest
end
end Mir

namespace Mir
open PySem PySem.Spec L2
open ToD (toD)
set_option autoImplicit false
section
variable {K : PySem.W.Frag} {H0 : Base} {ρ τ υ ω : Type} {R : Ex ρ} {Γ Γ2 : Ctx} {t u : TS} {Γ' : τ → Ctx} {I : ω → Fl ρ τ} {te ta tb : TE} {ts : TA} {md : Md} {d : PyData} {ds : List PyData}
theorem EvW.ret {α : Type} [ToD α] {r : α} {D : VK} {A N : Hp} {W : Addr → Prop} {O : Nat → List Addr} {H : Hp} {σ : St} (he : EvW K H0 Γ te (toD r)) (a : AtB K H0 A N W O H σ Γ) (kr : ∀ v H', RetW K H0 r v H' → D v H') : te σ H D :=
  he _ a fun A1 N1 H1 x L a1 s1 s2 s3 nd hL q =>
    kr x _ ⟨a1.h0h, a1.hl, N1, L, a1.fr, a1.na.trans a1.ah, nd, fun l hl => ⟨a1.h0.free (hL l hl).2.1, a1.na.free (hL l hl).2.1, (hL l hl).2.2.2⟩, q⟩
theorem b_retW {α : Type} [ToD α] {r : α} {Γ' : τ → Ctx} (he : EvW K H0 Γ te (toD r)) : Blk K H0 (exR (RetW K H0)) Γ (tSeq (tRet te) u) Γ' Fl.ret (some r) := fun w hw D A N W O H σ a kn kr => by
  cases hw
  exact he.ret a fun v H' q => kr r rfl v H' q
theorem b_retWF {α : Type} [ToD α] {r : α} {Γ' : τ → Ctx} (he : EvW K H0 Γ te (toD r)) : Blk K H0 (exR (RetW K H0)) Γ (tSeq (tRet te) u) Γ' idF (retF r) := fun w hw D A N W O H σ a kn kr => by
  cases hw
  exact he.ret a fun v H' q => kr r rfl v H' q
theorem AtB.retWv {α : Type} [ToD α] {i : Nat} {r : α} {A N : Hp} {W : Addr → Prop} {O : Nat → List Addr} {H : Hp} {σ : St} (a : AtB K H0 A N W O H σ Γ) (h : Γ[i]? = some (some (.t (toD r)))) : ∃ v, σ[i]? = some (some v) ∧ RetW K H0 r v H := by
  obtain ⟨x, ex, q⟩ := a.cs i _ h
  exact ⟨x, ex, a.h0h, a.hl, N, O i, a.fr, a.na.trans a.ah, a.nd i, fun l hl => by
    have h1 := a.own l (a.sub i l hl)
    exact ⟨a.h0.free h1.1, a.na.free h1.1, h1.2⟩, q⟩
theorem b_retWv {α : Type} [ToD α] {i : Nat} {r : α} {Γ' : τ → Ctx} (h : Γ[i]? = some (some (.t (toD r))) := by rfl) : Blk K H0 (exR (RetW K H0)) Γ (tSeq (tRet (tVar i)) u) Γ' Fl.ret (some r) := fun w hw D A N W O H σ a kn kr => by
  cases hw
  obtain ⟨v, e, q⟩ := a.retWv h
  exact ⟨v, e, kr r rfl v H q⟩
theorem b_retWvF {α : Type} [ToD α] {i : Nat} {r : α} {Γ' : τ → Ctx} (h : Γ[i]? = some (some (.t (toD r))) := by rfl) : Blk K H0 (exR (RetW K H0)) Γ (tSeq (tRet (tVar i)) u) Γ' idF (retF r) := fun w hw D A N W O H σ a kn kr => by
  cases hw
  obtain ⟨v, e, q⟩ := a.retWv h
  exact ⟨v, e, kr r rfl v H q⟩
theorem AtB.retWo {α : Type} [ToD α] {β : Type} [ToD β] {i : Nat} {r : α} {xs : List β} {A N : Hp} {W : Addr → Prop} {O : Nat → List Addr} {H : Hp} {σ : St} (a : AtB K H0 A N W O H σ Γ) (h : Γ[i]? = some (some (.o md (xs.map toD)))) (hr : toD r = .list (xs.map toD)) (hf : (xs.map toD).all flatD = true) : ∃ v, σ[i]? = some (some v) ∧ RetW K H0 r v H := by
  obtain ⟨x, ex, hm, l, vs, rfl, eO, el, q⟩ := a.cs i _ h
  have h1 := a.own l (a.sub i l (by rw [eO]; exact List.mem_cons_self))
  refine ⟨_, ex, a.h0h, a.hl, N, [l], a.fr, a.na.trans a.ah, List.nodup_cons.mpr ⟨by simp, .nil⟩, fun b hb => ?_, ?_⟩
  · rw [List.mem_singleton.mp hb]
    exact ⟨a.h0.free h1.1, a.na.free h1.1, h1.2⟩
  · rw [hr]
    exact .lst el (owAll_flat hf q)
theorem b_retWo {α : Type} [ToD α] {β : Type} [ToD β] {i : Nat} {r : α} {xs : List β} {Γ' : τ → Ctx} (h : Γ[i]? = some (some (.o md (xs.map toD)))) (hr : toD r = .list (xs.map toD)) (hf : (xs.map toD).all flatD = true) : Blk K H0 (exR (RetW K H0)) Γ (tSeq (tRet (tVar i)) u) Γ' Fl.ret (some r) := fun w hw D A N W O H σ a kn kr => by
  cases hw
  obtain ⟨v, e, q⟩ := a.retWo h hr hf
  exact ⟨v, e, kr r rfl v H q⟩
theorem b_retWoF {α : Type} [ToD α] {β : Type} [ToD β] {i : Nat} {r : α} {xs : List β} {Γ' : τ → Ctx} (h : Γ[i]? = some (some (.o md (xs.map toD)))) (hr : toD r = .list (xs.map toD)) (hf : (xs.map toD).all flatD = true) : Blk K H0 (exR (RetW K H0)) Γ (tSeq (tRet (tVar i)) u) Γ' idF (retF r) := fun w hw D A N W O H σ a kn kr => by
  cases hw
  obtain ⟨v, e, q⟩ := a.retWo h hr hf
  exact ⟨v, e, kr r rfl v H q⟩
/-- xs.append(e): xs is a list of one's own, or None -/
theorem b_tappO {α : Type} [ToD α] {i : Nat} {o : Option (List α)} {xs ys : List α} {y : α} {m : Option ω} (h : Γ[i]? = some (some (.t (toD o)))) (ho : o = some xs) (he : EvW K H0 Γ te (toD y)) (hy : appO xs y = some ys) (hΓ : Γ.set i (some (.t (toD (some ys : Option (List α))))) = Γ2) (rest : Blk K H0 R Γ2 u Γ' I m) :
    Blk K H0 R Γ (tSeq (tDrop (tBM K "list" rAppend (tVar i) (tCons te tNil))) u) Γ' I m := by
  subst ho
  exact b_tappL (xs := xs) (ys := ys) h he hy hΓ rest
/-- the value of a tree that stands under None or a list -/
theorem w_OIs {xs : List Int} (he : EvO K H0 Γ te md (xs.map toD)) : EvW K H0 Γ te (toD (some xs : Option (List Int))) := w_OI he
theorem w_none {α : Type} [ToD α] : EvW K H0 Γ (tC .non) (toD (none : Option α)) := fun A N W O H σ Q a k => k A N H .non [] a (Same.refl _) (Same.refl _) (Same.refl _) .nil (fun l hl => by cases hl) (.fz rfl .non)
end
end Mir

namespace Mir
open PySem PySem.Spec L2
open ToD (toD)
set_option autoImplicit false
/-! ## what is told: ['told', x], ['refused'] or ['other'] -/
inductive Told (α : Type) where
  | told (a : α)
  | refused
  | other
deriving DecidableEq
def sTold : PySem.Str := PySem.Str.ofString "told"
def sRef : PySem.Str := PySem.Str.ofString "refused"
def sOth : PySem.Str := PySem.Str.ofString "other"
variable {α : Type}
def Told.ds [ToD α] : Told α → List PyData
  | .told a => [.str sTold, toD a]
  | .refused => [.str sRef]
  | .other => [.str sOth]
instance insTold [ToD α] : ToD (Told α) := ⟨fun t => .list t.ds, ToD.dep α + 1⟩
def Told.len : Told α → Int
  | .told _ => 2
  | _ => 1
def Told.val : Told α → Option α
  | .told a => some a
  | _ => none
theorem told_ne1 : sTold ≠ sRef := by decide +kernel
theorem told_ne2 : sTold ≠ sOth := by decide +kernel
theorem told_ne3 : sRef ≠ sOth := by decide +kernel
instance lawTold [ToD α] [DecidableEq α] [LawD α] : LawD (Told α) where
  eqv x y := by
    show PyData.eqv (.list x.ds) (.list y.ds) = _
    cases x <;> cases y <;> simp [Told.ds, PyData.eqv, PyData.eqvAll, LawD.eqv, told_ne1, told_ne2, told_ne3, told_ne1.symm, told_ne2.symm, told_ne3.symm]
  lay x := by
    show PyData.canLay0 (.list x.ds) = true
    have h1 : PyData.strOk sTold = true := by decide +kernel
    have h2 : PyData.strOk sRef = true := by decide +kernel
    have h3 : PyData.strOk sOth = true := by decide +kernel
    cases x <;> simp [Told.ds, PyData.canLay0, PyData.canLayAll0, LawD.lay, h1, h2, h3]
  depth x := by
    show PyData.depth (.list x.ds) ≤ ToD.dep α + 1
    cases x with
    | told a => have := LawD.depth a; simp only [Told.ds, PyData.depth, PyData.depthAll]; omega
    | refused => simp only [Told.ds, PyData.depth, PyData.depthAll]; omega
    | other => simp only [Told.ds, PyData.depth, PyData.depthAll]; omega
section
variable {K : PySem.W.Frag} {H0 : Base} {ρ τ υ ω : Type} {R : Ex ρ} {Γ Γ2 : Ctx} {t u : TS} {Γ' : τ → Ctx} {I : ω → Fl ρ τ} {te ta tb : TE} {ts : TA} {md : Md} {d : PyData} {ds : List PyData} {C : Addr}
theorem e_lenTold [ToD α] {x : Told α} (ha : Ev K H0 Γ ta .h (toD x)) : Ev K H0 Γ (tCB (rLenS K) (tCons ta tNil)) md (toD (Told.len x)) := by
  have h : Ev K H0 Γ ta .h (toD (x.ds : List PyData)) := by
    show Ev K H0 Γ ta .h (.list (x.ds.map id))
    rw [List.map_id]; exact ha
  have := e_len (md := md) h
  cases x <;> exact this
theorem e_valTold [ToD α] {x : Told α} {a : α} (h : Told.val x = some a) (ha : Ev K H0 Γ ta md (toD x)) : Ev K H0 Γ (tOp (rIxL K) ta (tC (.int 1))) md (toD a) := by
  cases x with
  | told b =>
    cases h
    exact e_idxL (i := 1) ha ev_int rfl
  | refused => cases h
  | other => cases h
theorem e_somes {α : Type} [ToD α] {xs : List α} (h : Ev K H0 Γ ta md (toD xs)) : Ev K H0 Γ ta md (toD (xs.map some)) := by
  have e : toD (xs.map some) = toD xs := by
    show PyData.list ((xs.map some).map toD) = PyData.list (xs.map toD)
    rw [List.map_map]; rfl
  rw [e]; exact h
theorem o_somes {α : Type} [ToD α] {xs : List α} (h : EvO K H0 Γ te md (xs.map toD)) : EvO K H0 Γ te md ((xs.map some).map toD) := by
  have e : (xs.map some).map toD = xs.map toD := by rw [List.map_map]; rfl
  rw [e]; exact h
theorem ev_refused [ToD α] : Ev K H0 Γ (tLst (tCons (tC (.str sRef)) tNil)) .n (toD (Told.refused : Told α)) := evO_ev (o_lst (md := .n) (ds := [.str sRef]) (a_cons ev_str a_nil))
theorem ev_other [ToD α] : Ev K H0 Γ (tLst (tCons (tC (.str sOth)) tNil)) .n (toD (Told.other : Told α)) := evO_ev (o_lst (md := .n) (ds := [.str sOth]) (a_cons ev_str a_nil))
/-- try: return ['told', f(..)] except B as e: suite -/
def tTryR (K : PySem.W.Frag) (cB : Value) (i : Nat) (C : Addr) (z : PySem.Str) (sp : Sp) (ts : TA) (tsu : Addr → TS) : TS := fun D σ H =>
  tSeq (tRet (tLst (tCons (tC (.str z)) (tCons (tCallS sp (WE (wAs K cB i (fun a cls d => tGd C cls d (tsu a)) (fun _ _ _ _ => False) D)) ts) tNil)))) tNext D σ H
def trR {β : Type} (o : Option α) (f : α → Option β) (m : Option β) : Option β :=
  match o with
  | some a => f a
  | none => m
theorem b_tryR [ToD α] {τ1 : Type} {Γ1 : τ1 → Ctx} {Γs : Addr → τ1 → Ctx} {cB : Value} {i : Nat} {pre : List PyData → Option PyData → Prop} {o : Option α} {tsu : Addr → TS} {mB : Option (Fl (Told α) τ1)} {k : τ1 → Option (Told α)} {Γ' : τ → Ctx}
    (hs : EvA K H0 Γ ts .h ds) (hp : pre ds (o.map toD)) (hx : PySem.W.exmOne K (.ref C) cB = some true) (hi : i < Γ.length) (hB : ∀ b, Blk K H0 (exR (RetS K H0)) (Γ.set i (some (.r (.ref b)))) (tsu b) (Γs b) idF mB) (hΓ : ∀ b st, Wk ((Γs b st).set i none) (Γ1 st)) (rest : ∀ st, Blk K H0 (exR (RetS K H0)) (Γ1 st) u Γ' Fl.ret (k st)) :
    Blk K H0 (exR (RetS K H0)) Γ (tSeq (tTryR K cB i C sTold (FnX K C pre) ts tsu) u) Γ' Fl.ret (trR o (fun a => some (Told.told a)) (mB.bind (flR k))) := fun w hw D A N W O H σ a kn kr => by
  refine hs _ a fun A1 N1 H1 vs a1 s1 s2 s3 q1 => ?_
  refine ⟨ds, _, q1, hp, fun d hd v M H' sH fr sM hl qv => ?_, fun z H' sH hl => ?_⟩
  · cases o with
    | none => cases hd
    | some x =>
      cases hd
      cases hw
      obtain ⟨a2, u1, u2, u3, _⟩ := a1.called sH fr sM hl
      refine ⟨show (2 : Nat) ≤ sizeLine by decide, fun p hp => ?_⟩
      have hA := a2.ah.free hp
      have hN := a2.na.free hA
      have hz : ([V.str sTold, v] : List V).length ≤ sizeLine := (show (2 : Nat) ≤ sizeLine by decide)
      have a3 := a2.allocO hp (a2.hl.upd_lst hz)
      have q : RetO K H0 ([PyData.str sTold, toD x] : List PyData) (.ref p) (upd H' p (.lst [.str sTold, v])) :=
        ⟨a3.h0h, a3.hl, _, p, _, rfl, a3.fr, a3.na.trans a3.ah, a2.h0.free hA, hN, upd_same, .cons (.str _) (.cons (dp_mono u3 qv) .nil)⟩
      exact kr (Told.told x) rfl (.ref p) _ q.s
  · cases o with
    | some x => cases z
    | none =>
      obtain ⟨a2, u1, u2, _, _⟩ := a1.called (M := fun _ => none) sH (fun b o e => by cases e) (fun b o e => by cases e) hl
      obtain ⟨fl, e, hw⟩ := bind_some_iff (show mB.bind (flR k) = some w from hw)
      refine ⟨true, hx, fun _ b hb => ⟨rfl, rfl, ?_⟩, fun z => by cases z⟩
      refine hB b fl e _ (a2.setr hi) (fun st e' A' N' W' O' H' σ' a' x1 x2 => ?_) (fun r e' => ?_)
      · have e' : fl = .nxt st := e'
        subst e'
        exact rest st w hw D ((a'.clr (i := i)).wk (hΓ b st)) (fun st' e' => by cases e') (fun r e => kr r e)
      · have e3 : fl = .ret r := e'
        subst e3
        cases hw
        exact kr _ rfl
end
section
variable {X : Cx} {x n z : PySem.Str} {c : Value} {i : Nat} {body suite : List Stmt} {b₀ : Stmt} {np pos pos' : Pos} {C : Addr} {sp : Sp} {ts : TA} {tsu : Addr → TS}
theorem ps_tryR (hs : X.stack = X.env :: X.outer) (hf : X.env.frame = some X.env.locals) (hN : X.N.Nodup) (hi : X.N[i]? = some n) (hln : X.env.kindOf n = some .local) (hc : Names X x c)
    (hb : ∀ (W : WX) (pn : List (Addr × Obj)) (xe : Value → Shared → Prop), Takes (X.tr pn xe) W → PSs (X.tr pn xe) body (tSeq (tRet (tLst (tCons (tC (.str z)) (tCons (tCallS sp (WE W) ts) tNil)))) tNext))
    (hsu : ∀ (a : Addr) (oe : Obj) (pn : List (Addr × Obj)), Zc (.ref C) none oe → (∃ vs, oe.data = .fields vs) → PSs (X.suite a ((a, oe) :: pn)) (b₀ :: suite) (tsu a)) :
    PS X (.Try body [.ExceptHandler (some (.Name x np)) (some n) (b₀ :: suite) pos'] [] [] pos) (tTryR X.K c i C z sp ts tsu) :=
  ps_try_as (i := i) hs hf hN hi hln hc takes0 (fun W pn xe tk _ => hb W pn xe tk) (fun a oe cls d pn hz hf => pss_gd fun e1 e2 => hsu a oe pn (zc_of e1 e2 hz) hf)
end
end Mir

namespace Mir
open PySem PySem.Spec L2
open ToD (toD)
set_option autoImplicit false
/-! ## plans: ('still',), ('coin',), ('near', k), ('sum', [..]) -/
inductive PTag where
  | still
  | coin
  | near
  | sum
deriving DecidableEq
inductive PlanT where
  | still
  | coin
  | near (k : Int)
  | sum (l : List Int)
deriving DecidableEq
def PTag.str : PTag → PySem.Str
  | .still => PySem.Str.ofString "still"
  | .coin => PySem.Str.ofString "coin"
  | .near => PySem.Str.ofString "near"
  | .sum => PySem.Str.ofString "sum"
def PlanT.tag : PlanT → PTag
  | .still => .still
  | .coin => .coin
  | .near _ => .near
  | .sum _ => .sum
def PlanT.near? : PlanT → Option Int
  | .near k => some k
  | _ => none
def PlanT.sum? : PlanT → Option (List Int)
  | .sum l => some l
  | _ => none
/-- (p[0], l), where p is a sum -/
def PlanT.like (p : PlanT) (l : List Int) : Option PlanT := match p with
  | .sum _ => some (.sum l)
  | _ => none
def PlanT.ds : PlanT → List PyData
  | .still => [.str PTag.still.str]
  | .coin => [.str PTag.coin.str]
  | .near k => [.str PTag.near.str, .int k]
  | .sum l => [.str PTag.sum.str, toD l]
instance insPTag : ToD PTag := ⟨fun t => .str t.str, 0⟩
instance insPlan : ToD PlanT := ⟨fun p => .tuple p.ds, 2⟩
theorem ptag_inj : ∀ x y : PTag, decide (x.str = y.str) = decide (x = y) := by
  intro x y
  cases x <;> cases y <;> first | rfl | decide +kernel
theorem ptag_inj' (x y : PTag) : x.str = y.str ↔ x = y := by
  have := ptag_inj x y
  rwa [decide_eq_decide] at this
theorem ptag_ok : ∀ x : PTag, PyData.strOk x.str = true := by
  intro x
  cases x <;> decide +kernel
instance lawPTag : LawD PTag where
  eqv x y := by
    show PyData.eqv (.str x.str) (.str y.str) = _
    simp only [PyData.eqv]
    rw [← ptag_inj x y]
    by_cases h : x.str = y.str <;> simp [h]
  lay x := by
    show PyData.canLay0 (.str x.str) = true
    simp only [PyData.canLay0]
    exact ptag_ok x
  depth x := by
    show PyData.depth (.str x.str) ≤ 0
    simp [PyData.depth]
theorem pt_ne {x y : PTag} (h : x ≠ y) : x.str ≠ y.str := fun z => h ((ptag_inj' x y).mp z)
instance lawPlan : LawD PlanT where
  eqv x y := by
    show PyData.eqv (.tuple x.ds) (.tuple y.ds) = _
    cases x <;> cases y <;> simp [PlanT.ds, PyData.eqv, PyData.eqvAll, ptag_inj', toD]
    · rfl
    · exact eqvAll_map _ _
  lay x := by
    show PyData.canLay0 (.tuple x.ds) = true
    have l := fun a : List Int => LawD.lay a
    cases x <;> simp [PlanT.ds, PyData.canLay0, PyData.canLayAll0, l, ptag_ok]
  depth x := by
    show PyData.depth (.tuple x.ds) ≤ 2
    cases x with
    | sum l => have h : PyData.depth (toD l) ≤ 1 := LawD.depth l; simp only [PlanT.ds, PyData.depth, PyData.depthAll]; omega
    | still => simp only [PlanT.ds, PyData.depth, PyData.depthAll]; omega
    | coin => simp only [PlanT.ds, PyData.depth, PyData.depthAll]; omega
    | near k => simp only [PlanT.ds, PyData.depth, PyData.depthAll]; omega
section
variable {K : PySem.W.Frag} {H0 : Base} {ρ τ υ ω : Type} {R : Ex ρ} {Γ Γ2 : Ctx} {t u : TS} {Γ' : τ → Ctx} {I : ω → Fl ρ τ} {te ta tb tj tk : TE} {ts : TA} {md : Md} {d : PyData} {ds : List PyData} {C : Addr}
theorem ev_ptag {t : PTag} : Ev K H0 Γ (tC (.str t.str)) md (toD t) := ev_str
theorem e_ptag {p : PlanT} (ha : Ev K H0 Γ ta md (toD p)) : Ev K H0 Γ (tOp (rIxT K) ta (tC (.int 0))) md (toD p.tag) := by
  cases p <;> exact e_idxT (i := 0) ha ev_int rfl
theorem e_pnear {p : PlanT} {k : Int} (h : p.near? = some k) (ha : Ev K H0 Γ ta md (toD p)) : Ev K H0 Γ (tOp (rIxT K) ta (tC (.int 1))) md (toD k) := by
  cases p <;> first | (cases h; exact e_idxT (i := 1) ha ev_int rfl) | cases h
theorem e_psum {p : PlanT} {l : List Int} (h : p.sum? = some l) (ha : Ev K H0 Γ ta md (toD p)) : Ev K H0 Γ (tOp (rIxT K) ta (tC (.int 1))) md (toD l) := by
  cases p <;> first | (cases h; exact e_idxT (i := 1) ha ev_int rfl) | cases h
theorem ev_still : Ev K H0 Γ (tTup (tCons (tC (.str PTag.still.str)) tNil)) md (toD PlanT.still) := e_tup (ds := [.str PTag.still.str]) (a_cons ev_str a_nil)
theorem ev_coin : Ev K H0 Γ (tTup (tCons (tC (.str PTag.coin.str)) tNil)) md (toD PlanT.coin) := e_tup (ds := [.str PTag.coin.str]) (a_cons ev_str a_nil)
theorem ev_near {k : Int} (h : Ev K H0 Γ te md (toD k)) : Ev K H0 Γ (tTup (tCons (tC (.str PTag.near.str)) (tCons te tNil))) md (toD (PlanT.near k)) := e_tup (ds := [.str PTag.near.str, toD k]) (a_cons ev_str (a_cons h a_nil))
theorem ev_sum {l : List Int} (h : Ev K H0 Γ te md (toD l)) : Ev K H0 Γ (tTup (tCons (tC (.str PTag.sum.str)) (tCons te tNil))) md (toD (PlanT.sum l)) := e_tup (ds := [.str PTag.sum.str, toD l]) (a_cons ev_str (a_cons h a_nil))
theorem ev_plike {m1 : Md} {p q : PlanT} {l : List Int} (hq : p.like l = some q) (hp : Ev K H0 Γ ta m1 (toD p)) (h : Ev K H0 Γ te md (toD l)) : Ev K H0 Γ (tTup (tCons (tOp (rIxT K) ta (tC (.int 0))) (tCons te tNil))) md (toD q) := by
  cases p with
  | sum m =>
    cases hq
    exact e_tup (ds := [.str PTag.sum.str, toD l]) (a_cons (ev_flat (e_ptag hp) rfl) (a_cons h a_nil))
  | still => cases hq
  | coin => cases hq
  | near k => cases hq
/-- [x] * n -/
def repO {α : Type} (x : α) (n : Int) : Option (List α) := if 0 ≤ n ∧ n ≤ 1000 then some (List.replicate n.toNat x) else none
theorem o_rep {α : Type} [ToD α] {x : α} {n : Int} {ys : List α} (hx : Ev K H0 Γ te md (toD x)) (hn : Ev K H0 Γ tb .h (toD n)) (h : repO x n = some ys) : EvO K H0 Γ (tOp rRep (tLst (tCons te tNil)) tb) md (ys.map toD) := fun A N W O H σ Q a k => by
  unfold repO at h
  split at h
  · rename_i hz
    cases h
    have ho : EvO K H0 Γ (tLst (tCons te tNil)) md [toD x] := o_lst (a_cons hx a_nil)
    refine ho _ a fun A1 N1 H1 l vs a1 s1 s2 s3 h1 h2 h3 h4 q1 => hn _ a1 fun A2 N2 H2 y a2 t1 t2 t3 q2 => ?_
    have q3 := dpAll_mono (Md.sel_mono t1 t2 t3) q1
    have hl : vs.length = 1 := by rw [dpAll_len q3]; rfl
    have e : ∀ m : Nat, DpAll K (md.sel A2 N2 H2) (List.replicate m vs).flatten ((List.replicate m x).map toD) := fun m => by
      induction m with
      | zero => exact .nil
      | succ m ih =>
        rw [List.replicate_succ, List.replicate_succ, List.flatten_cons, List.map_cons]
        exact dpAll_app (ds := [toD x]) (es := (List.replicate m x).map toD) q3 ih
    have hlen : ((List.replicate n.toNat vs).flatten).length ≤ sizeLine := by
      rw [dpAll_len (e n.toNat), List.length_map, List.length_replicate]
      exact Nat.le_trans (show n.toNat ≤ 1000 by omega) (by decide)
    have e2 := dp_int q2
    refine ⟨l, n, vs, rfl, e2, t3 _ _ h4, by omega, by omega, by rw [hl, Nat.one_mul]; exact Nat.le_trans (show n.toNat ≤ 1000 by omega) (by decide), fun p hp => ?_⟩
    exact k A2 N2 _ p _ (a2.allocO hp (a2.hl.upd_lst hlen)) (s1.trans t1) (s2.trans t2) ((s3.trans t3).trans (same_upd hp)) ((s3.trans t3).free hp) (a2.ah.free hp) (a2.noW hp) upd_same (dpAll_mono (Md.sel_mono (Same.refl _) (Same.refl _) (same_upd hp)) (e n.toNat))
  · cases h
theorem imm_neg {j : Int} (h : Imm K H0 Γ ta j) : Imm K H0 Γ (tUn (rU fun i => .int (-i)) ta) (-j) := fun a q => h a ⟨j, rfl, q⟩
def appT (c : List (List (List Int))) (j k y : Int) : Option (List (List (List Int))) :=
  (atI c j).bind fun rows => (atI rows k).bind fun row => (appO row y).bind fun row2 => (setO rows k row2).bind fun rows2 => setO c j rows2
theorem appT_of {c c2 : List (List (List Int))} {j k y : Int} (h : appT c j k y = some c2) :
    ∃ n m rows row, ixN c.length j = some n ∧ c[n]? = some rows ∧ ixN rows.length k = some m ∧ rows[m]? = some row ∧ row.length < lim ∧ c2 = c.set n (rows.set m (row ++ [y])) := by
  unfold appT at h
  obtain ⟨rows, h1, h⟩ := Option.bind_eq_some_iff.mp h
  obtain ⟨row, h2, h⟩ := Option.bind_eq_some_iff.mp h
  obtain ⟨row2, h3, h⟩ := Option.bind_eq_some_iff.mp h
  obtain ⟨n, e1, e2⟩ := atI_ix h1
  obtain ⟨m, f1, f2⟩ := atI_ix h2
  unfold appO at h3
  split at h3
  · rename_i hz
    cases h3
    unfold setO at h
    rw [e1, f1] at h
    simp only [Option.bind_some, Option.some.injEq] at h
    exact ⟨n, m, rows, row, e1, e2, f1, f2, hz, h.symm⟩
  · cases h3
/-- x[j][k].append(y) -/
theorem b_tapp2 {c c2 : List (List (List Int))} {i : Nat} {j k y : Int} {kk : List (List (List Int)) → Option ω} {Γ2 : List (List (List Int)) → Ctx}
    (h : Γ[i]? = some (some (.t (toD c)))) (hm : appT c j k y = some c2) (ij : Imm K H0 Γ tj j) (ik : Imm K H0 Γ tk k) (iy : Imm K H0 Γ te y) (hΓ : ∀ x : List (List (List Int)), Γ.set i (some (.t (toD x))) = Γ2 x)
    (rest : ∀ x, x = c2 → Blk K H0 R (Γ2 x) u Γ' I (kk x)) :
    Blk K H0 R Γ (tSeq (tDrop (tBM K "list" rAppend (tOp (rIxL K) (tOp (rIxL K) (tVar i) tj) tk) (tCons te tNil))) u) Γ' I (lt c2 kk) := by
  rw [lt_def]
  have rest2 := rest _ rfl
  rw [← hΓ] at rest2
  obtain ⟨n, m, rows, row, n1, n2, n3, n4, hz, rfl⟩ := appT_of hm
  refine fun w hw D A N W O H σ a kn kr => ?_
  have hi := lt_of_get h
  obtain ⟨x0, ex0, q⟩ := a.cs i _ h
  obtain ⟨Oi, hOi⟩ : ∃ Oi, O i = Oi := ⟨_, rfl⟩
  have nd := a.nd i
  rw [hOi] at q nd
  have q : Ow K N H x0 (.list (c.map toD)) Oi := q
  cases q with
  | fz h _ => cases h
  | lst e2 q2 =>
    rename_i l2 vs2 L2'
    obtain ⟨m1, m2⟩ := List.nodup_cons.mp nd
    obtain ⟨v3, L3, g1, g2, g3, g4, g5⟩ := OwAll.focus (k := n) (d := .list (rows.map toD)) q2 m2 (by rw [List.getElem?_map, n2]; rfl)
    cases g2 with
    | fz h _ => cases h
    | lst e3 q3 =>
      rename_i l3 vs3 L3'
      obtain ⟨r1, r2⟩ := List.nodup_cons.mp g3
      obtain ⟨v4, L4, k1, k2, k3, k4, k5⟩ := OwAll.focus (k := m) (d := .list (row.map toD)) q3 r2 (by rw [List.getElem?_map, n4]; rfl)
      cases k2 with
      | fz h _ => cases h
      | lst e4 q4 =>
        rename_i l4 vs4 L4'
        obtain ⟨s1, s2⟩ := OwAll.flat_nil (by rw [List.all_map, List.all_eq_true]; intro _ _; rfl) q4
        subst s1
        have hl4 : l4 ∈ L3' := k4 l4 List.mem_cons_self
        have hl4b : l4 ∈ L2' := g4 l4 (List.mem_cons_of_mem _ hl4)
        have hl4c : l4 ∈ l2 :: L2' := List.mem_cons_of_mem _ hl4b
        have len2 : vs2.length = c.length := by rw [OwAll.len q2, List.length_map]
        have len3 : vs3.length = rows.length := by rw [OwAll.len q3, List.length_map]
        have len4 : vs4.length < sizeLine := by rw [dpAll_len s2, List.length_map, lim_eq]; exact hz
        refine ⟨_, ex0, ij a ⟨l2, vs2, j, .ref l3, rfl, rfl, .inl (.inl e2), by rw [atI_len (by rw [len2]; exact n1)]; exact g1, ik a ⟨l3, vs3, k, .ref l4, rfl, rfl, .inl (.inl e3), by rw [atI_len (by rw [len3]; exact n3)]; exact k1, tyL e4, iy a ⟨l4, vs4, .int y, rfl, rfl, e4, len4, ?_⟩⟩⟩⟩
        have a3 := (a.drop hi).write (l := l4) (vs := vs4 ++ [V.int y]) (a.sub i l4 (by rw [hOi]; exact hl4c)) (by rw [List.length_append]; exact len4) fun c e hc hj => by
          have z : c = i := a.dj c i l4 hj (by rw [hOi]; exact hl4c)
          subst z; rw [List.getElem?_set_self hi] at hc; cases hc
        have q4' : Ow K N (upd H l4 (.lst (vs4 ++ [V.int y]))) (.ref l4) (.list ((row ++ [y]).map toD)) [l4] := .lst upd_same (owAll_flat (S := fun _ => none) (by rw [List.all_map, List.all_eq_true]; intro _ _; rfl) (by rw [List.map_append]; exact dpAll_app s2 (.cons (.int y) .nil)))
        have q3' := k5 (upd H l4 (.lst (vs4 ++ [V.int y]))) _ (fun b _ hb => upd_ne fun z => hb (z ▸ List.mem_cons_self)) q4'
        rw [show (PyData.list ((row ++ [y]).map toD)) = toD (row ++ [y]) from rfl, ← List.map_set] at q3'
        have h34 : l3 ≠ l4 := fun z => r1 (z ▸ hl4)
        have q2' := g5 (upd H l4 (.lst (vs4 ++ [V.int y]))) (.list ((rows.set m (row ++ [y])).map toD)) (fun b _ hb => upd_ne fun z => hb (z ▸ List.mem_cons_of_mem _ hl4)) (.lst (by rw [upd_ne h34]; exact e3) q3')
        rw [show (PyData.list ((rows.set m (row ++ [y])).map toD)) = toD (rows.set m (row ++ [y])) from rfl, ← List.map_set] at q2'
        have h24 : l2 ≠ l4 := fun z => m1 (z ▸ hl4b)
        have a4 := a3.regrow (x := .ref l2) (c := .t (toD (c.set n (rows.set m (row ++ [y]))))) (L' := l2 :: L2') ex0 hi (fun b hb => a.sub i b (by rw [hOi]; exact hb)) (fun c hc b hb hb2 => hc (a.dj c i b hb (by rw [hOi]; exact hb2))) nd (Ow.lst (by rw [upd_ne h24]; exact e2) q2')
        exact rest2 w hw D a4 kn kr
end
end Mir

namespace Mir
open L2
set_option autoImplicit false
/-! ## 12. the mirrors' own laws -/
theorem iteO_true {α : Type} (a b : Option α) : iteO true a b = a := rfl
theorem iteO_false {α : Type} (a b : Option α) : iteO false a b = b := rfl
theorem iteO_dec {α : Type} {p : Prop} [Decidable p] (a b : Option α) : iteO (decide p) a b = if p then a else b := by
  by_cases h : p <;> simp [h, iteO]
theorem iteO_not {α : Type} (x : Bool) (a b : Option α) : iteO (!x) a b = iteO x b a := by cases x <;> rfl
theorem forO_nil {α τ : Type} (f : τ → α → Option τ) (st : τ) : forO f [] st = some st := rfl
theorem forO_cons {α τ : Type} (f : τ → α → Option τ) (x : α) (xs : List α) (st : τ) : forO f (x :: xs) st = (f st x).bind fun st' => forO f xs st' := rfl
theorem forO_app {α τ : Type} (f : τ → α → Option τ) : ∀ (xs ys : List α) (st : τ), forO f (xs ++ ys) st = (forO f xs st).bind fun st' => forO f ys st'
  | [], ys, st => rfl
  | x :: xs, ys, st => by
    rw [List.cons_append, forO_cons, forO_cons]
    cases f st x with
    | none => rfl
    | some st' => simp only [Option.bind_some]; exact forO_app f xs ys st'
/-- an invariant over what has been walked -/
theorem forO_ind {α τ : Type} {f : τ → α → Option τ} (P : List α → τ → Prop) : ∀ (xs done : List α) (st : τ), P done st → (∀ d x r st, done ++ xs = d ++ x :: r → P d st → ∃ st', f st x = some st' ∧ P (d ++ [x]) st') → ∃ fin, forO f xs st = some fin ∧ P (done ++ xs) fin
  | [], done, st, h, _ => ⟨st, rfl, by rw [List.append_nil]; exact h⟩
  | x :: xs, done, st, h, hs => by
    obtain ⟨st', e, h'⟩ := hs done x xs st rfl h
    obtain ⟨fin, e2, h2⟩ := forO_ind P xs (done ++ [x]) st' h' (fun d y r st q => hs d y r st (by rw [← q, List.append_assoc]; rfl))
    exact ⟨fin, by rw [forO_cons, e]; exact e2, by rw [List.append_assoc] at h2; exact h2⟩
theorem forO_inv {α τ : Type} {f : τ → α → Option τ} (P : List α → τ → Prop) (xs : List α) (st : τ) (h0 : P [] st) (hs : ∀ d x r st, xs = d ++ x :: r → P d st → ∃ st', f st x = some st' ∧ P (d ++ [x]) st') : ∃ fin, forO f xs st = some fin ∧ P xs fin :=
  forO_ind P xs [] st h0 hs
/-- all turns go on -/
theorem forF_all {α ρ τ : Type} {f : τ → α → Option (Fl ρ τ)} (P : τ → Prop) : ∀ (xs : List α) (st : τ), P st → (∀ x ∈ xs, ∀ st, P st → ∃ st', f st x = some (.nxt st') ∧ P st') → ∃ fin, forF f xs st = some (.nxt fin) ∧ P fin
  | [], st, h, _ => ⟨st, rfl, h⟩
  | x :: xs, st, h, hs => by
    obtain ⟨st', e, h'⟩ := hs x List.mem_cons_self st h
    obtain ⟨fin, e2, h2⟩ := forF_all P xs st' h' (fun y hy => hs y (List.mem_cons_of_mem _ hy))
    exact ⟨fin, by simp only [forF, e, Option.bind_some, flF]; exact e2, h2⟩
theorem forF_unit {α ρ : Type} {f : Unit → α → Option (Fl ρ Unit)} (xs : List α) (hs : ∀ x ∈ xs, f () x = some (.nxt ())) : forF f xs () = some (.nxt ()) := by
  obtain ⟨fin, e, _⟩ := forF_all (f := f) (fun _ => True) xs () trivial (fun x hx st _ => ⟨(), hs x hx, trivial⟩)
  exact e
theorem mapO_ok {α β : Type} {f : α → Option β} {g : α → β} : ∀ {xs : List α}, (∀ x ∈ xs, f x = some (g x)) → mapO f xs = some (xs.map g)
  | [], _ => rfl
  | x :: xs, h => by
    simp only [mapO, h x List.mem_cons_self, Option.bind_some, mapO_ok (fun y hy => h y (List.mem_cons_of_mem _ hy)), List.map_cons]
theorem cmpO_ok {α β : Type} {p : α → Option Bool} {q : α → Bool} {f : α → Option β} {g : α → β} : ∀ {xs : List α}, (∀ x ∈ xs, p x = some (q x)) → (∀ x ∈ xs, q x = true → f x = some (g x)) → cmpO p f xs = some ((xs.filter q).map g)
  | [], _, _ => rfl
  | x :: xs, hp, hf => by
    have ih := cmpO_ok (fun y hy => hp y (List.mem_cons_of_mem _ hy)) (fun y hy => hf y (List.mem_cons_of_mem _ hy))
    simp only [cmpO, hp x List.mem_cons_self, Option.bind_some, ih]
    cases e : q x with
    | false => simp [e]
    | true => simp [e, hf x List.mem_cons_self e]
theorem mulO_ok {x y : Int} (a b : Nat) (hx : x.natAbs < 2 ^ a) (hy : y.natAbs < 2 ^ b) (ha : 0 < a) (hb : 0 < b) (h : a + b ≤ 1000000) : mulO x y = some (x * y) := by
  have h1 : x.natAbs.log2 < a := by
    by_cases z : x.natAbs = 0
    · rw [z]; simpa using ha
    · exact (Nat.log2_lt z).mpr hx
  have h2 : y.natAbs.log2 < b := by
    by_cases z : y.natAbs = 0
    · rw [z]; simpa using hb
    · exact (Nat.log2_lt z).mpr hy
  unfold mulO
  rw [if_pos (by omega)]
/-- numbers of up to sixty figures and their products -/
def Lo (n : Int) : Prop := n.natAbs < 2 ^ 200
theorem lo_of {n : Int} (h : -1000000000000000000000000000000000000000000000000000000000000 ≤ n) (h' : n ≤ 1000000000000000000000000000000000000000000000000000000000000) : Lo n := by
  have e : (1606938044258990275541962092341162602522202993782792835301376 : Nat) = 2 ^ 200 := by decide
  unfold Lo
  rw [← e]
  omega
theorem mulO_lo {x y : Int} (hx : Lo x) (hy : Lo y) : mulO x y = some (x * y) := mulO_ok 200 200 hx hy (by decide) (by decide) (by decide)
theorem modO_pos {x y : Int} (h : 0 < y) : modO x y = some (x % y) := by
  unfold modO
  rw [if_pos (by omega), Int.fmod_eq_emod_of_nonneg x (by omega)]
theorem divO_pos {x y : Int} (a : Nat) (h : 0 < y) (hy : y.natAbs < 2 ^ a) (ha : a ≤ 9000) : divO x y = some (x / y) := by
  unfold divO
  have h2 : y.natAbs.log2 < a := (Nat.log2_lt (by omega)).mpr hy
  rw [if_pos ⟨by omega, by omega⟩, Int.fdiv_eq_ediv_of_nonneg x (by omega)]
theorem divO_lo {x y : Int} (h : 0 < y) (hy : Lo y) : divO x y = some (x / y) := divO_pos 200 h hy (by decide)
theorem appO_ok {α : Type} {xs : List α} {a : α} (h : xs.length < 16777216) : appO xs a = some (xs ++ [a]) := if_pos h
theorem catO_ok {α : Type} {xs ys : List α} (h : xs.length + ys.length ≤ 16777216) : catO xs ys = some (xs ++ ys) := if_pos h
theorem rngO_ok {n : Int} (h0 : 0 ≤ n) (h : n ≤ 16777216) : rngO 0 n = some (rng 0 n) := if_pos ⟨by omega, by omega, by omega, by omega, by omega⟩
theorem rngO_ok2 {lo n : Int} (h0 : 0 ≤ lo) (h1 : lo ≤ 16777216) (h2 : 0 ≤ n) (h : n ≤ 16777216) : rngO lo n = some (rng lo n) := if_pos ⟨by omega, by omega, by omega, by omega, by omega⟩
theorem mem_rng {lo hi x : Int} : x ∈ rng lo hi ↔ lo ≤ x ∧ x < hi := by
  unfold rng
  rw [List.mem_map]
  constructor
  · rintro ⟨i, hi', rfl⟩
    have := List.mem_range.mp hi'
    omega
  · intro h
    exact ⟨(x - lo).toNat, List.mem_range.mpr (by omega), by omega⟩
theorem atI_natO {α : Type} (xs : List α) (n : Nat) : atI xs (n : Int) = xs[n]? := by
  cases h : xs[n]? with
  | some v => exact atI_nat h
  | none =>
    have hn : xs.length ≤ n := List.getElem?_eq_none_iff.mp h
    unfold atI ixN
    rw [if_pos (by omega), if_neg (by omega)]; rfl
theorem atI_ok {α : Type} {xs : List α} {i : Int} (h0 : 0 ≤ i) (h : i < xs.length) : atI xs i = some (xs[i.toNat]'(by omega)) := by
  have e := atI_natO xs i.toNat
  rw [show ((i.toNat : Nat) : Int) = i by omega] at e
  rw [e, List.getElem?_eq_getElem (by omega)]
theorem atI_get? {α : Type} {xs : List α} {i : Int} (h0 : 0 ≤ i) : atI xs i = xs[i.toNat]? := by
  have e := atI_natO xs i.toNat
  rwa [show ((i.toNat : Nat) : Int) = i by omega] at e
theorem rng_at {lo hi x : Int} {d r : List Int} (h : rng lo hi = d ++ x :: r) : x = lo + (d.length : Int) ∧ lo ≤ x ∧ x < hi := by
  have e : (rng lo hi)[d.length]? = some x := by rw [h]; simp
  have hl : d.length < (hi - lo).toNat := by
    have := (List.getElem?_eq_some_iff.mp e).1
    rwa [rng_len] at this
  rw [rng_get hl] at e
  have := Option.some.inj e
  omega
theorem cut_to {α : Type} (xs : List α) (n : Nat) : cut xs none (some (n : Int)) = xs.take n := by
  unfold cut
  rw [HT.sIx_none, HT.sIx_nat, List.drop_zero, Nat.sub_zero]
  rcases Nat.le_total n xs.length with h | h
  · rw [Nat.min_eq_left h]
  · rw [Nat.min_eq_right h, List.take_of_length_le (Nat.le_refl _), List.take_of_length_le h]
theorem cut_from {α : Type} (xs : List α) (n : Nat) : cut xs (some (n : Int)) none = xs.drop n := by
  unfold cut
  rw [HT.sIx_none, HT.sIx_nat]
  rcases Nat.le_total n xs.length with h | h
  · rw [Nat.min_eq_left h]
    exact List.take_of_length_le (by rw [List.length_drop]; omega)
  · rw [Nat.min_eq_right h, List.drop_of_length_le (Nat.le_refl _), List.drop_of_length_le h]; simp
theorem isNone_false {α : Type} {x : Option α} (h : x.isNone = false) : ∃ a, x = some a := by cases x with
  | none => cases h
  | some a => exact ⟨a, rfl⟩
end Mir

namespace Mir
open PySem PySem.Spec L2
open ToD (toD)
set_option autoImplicit false
/-! ## mathematics of shares: pairs of whole numbers in lowest terms are rationals -/
theorem whileO_false {τ : Type} {c : τ → Option Bool} {f : τ → Option τ} {st : τ} (h : c st = some false) : whileO c f st = some st := whileO_of (n := 1) (by simp [whN, h])
theorem whileO_true {τ : Type} {c : τ → Option Bool} {f : τ → Option τ} {st st' r : τ} (h : c st = some true) (h2 : f st = some st') (h3 : whileO c f st' = some r) : whileO c f st = some r := by
  obtain ⟨n, e⟩ := whileO_to h3
  exact whileO_of (n := n + 1) (by simp [whN, h, h2, e])
theorem whileF_false {ρ τ : Type} {c : τ → Option Bool} {f : τ → Option (Fl ρ τ)} {st : τ} (h : c st = some false) : whileF c f st = some (.nxt st) := whileF_of (n := 1) (by simp [whNF, h])
theorem whileF_ret {ρ τ : Type} {c : τ → Option Bool} {f : τ → Option (Fl ρ τ)} {st : τ} {r : ρ} (h : c st = some true) (h2 : f st = some (.ret r)) : whileF c f st = some (.ret r) := whileF_of (n := 1) (by simp [whNF, h, h2, flF])
theorem whileF_true {ρ τ : Type} {c : τ → Option Bool} {f : τ → Option (Fl ρ τ)} {st st' : τ} {r : Fl ρ τ} (h : c st = some true) (h2 : f st = some (.nxt st')) (h3 : whileF c f st' = some r) : whileF c f st = some r := by
  obtain ⟨n, e⟩ := whileF_to h3
  exact whileF_of (n := n + 1) (by simp [whNF, h, h2, e, flF])
theorem gcd_loop {c : Int × Int → Option Bool} {f : Int × Int → Option (Int × Int)} (hc : ∀ a b : Nat, c ((a : Int), (b : Int)) = some (decide (b ≠ 0))) (hf : ∀ a b : Nat, b ≠ 0 → f ((a : Int), (b : Int)) = some ((b : Int), ((a % b : Nat) : Int))) (b : Nat) : ∀ a : Nat, whileO c f ((a : Int), (b : Int)) = some ((Nat.gcd a b : Int), 0) := by
  induction b using Nat.strongRecOn with
  | _ b ih =>
    intro a
    by_cases h : b = 0
    · subst h
      rw [whileO_false (by rw [hc]; rfl)]
      simp
    · refine whileO_true (by rw [hc]; simp [h]) (hf a b h) ?_
      rw [ih (a % b) (Nat.mod_lt a (by omega)) b]
      rw [Nat.gcd_comm a b, Nat.gcd_rec b a, Nat.gcd_comm]
/-- a rational as the pair of its top and its bottom -/
def qp (r : Rat) : Int × Int := (r.num, (r.den : Int))
theorem qp1 (r : Rat) : (qp r).1 = r.num := rfl
theorem qp2 (r : Rat) : (qp r).2 = (r.den : Int) := rfl
theorem qp_inj {r s : Rat} (h : qp r = qp s) : r = s := Rat.ext (congrArg Prod.fst h) (Int.ofNat.inj (congrArg Prod.snd h))
theorem qp_divInt {t b : Int} (h : 0 < b) : qp (Rat.divInt t b) = (t / (Int.gcd t b : Int), b / (Int.gcd t b : Int)) := by
  obtain ⟨n, rfl⟩ := Int.eq_ofNat_of_zero_le (by omega : 0 ≤ b)
  have hn : n ≠ 0 := by omega
  have e : Rat.divInt t (n : Int) = mkRat t n := rfl
  rw [e, Rat.mkRat_def, dif_neg hn, Rat.normalize_eq]
  rfl
theorem qp_divInt_neg {t b : Int} (h : b < 0) : qp (Rat.divInt t b) = (t / (0 - (Int.gcd t b : Int)), b / (0 - (Int.gcd t b : Int))) := by
  have e : Rat.divInt t b = Rat.divInt (-t) (-b) := by
    rw [Rat.divInt_eq_divInt_iff (by omega) (by omega)]; simp [Int.mul_neg, Int.neg_mul]
  rw [e, qp_divInt (by omega), Int.zero_sub]
  have g : Int.gcd (-t) (-b) = Int.gcd t b := by unfold Int.gcd; rw [Int.natAbs_neg, Int.natAbs_neg]
  rw [g]
  have h1 : (Int.gcd t b : Int) ∣ t := Int.gcd_dvd_left t b
  have h2 : (Int.gcd t b : Int) ∣ b := Int.gcd_dvd_right t b
  rw [Int.ediv_neg, Int.ediv_neg, Int.neg_ediv_of_dvd h1, Int.neg_ediv_of_dvd h2]
/-- small enough: below 2 ^ n -/
def Qz (n : Nat) (r : Rat) : Prop := r.num.natAbs < 2 ^ n ∧ r.den < 2 ^ n
theorem Qz.mono {n m : Nat} {r : Rat} (h : Qz n r) (hm : n ≤ m) : Qz m r := ⟨Nat.lt_of_lt_of_le h.1 (Nat.pow_le_pow_right (by decide) hm), Nat.lt_of_lt_of_le h.2 (Nat.pow_le_pow_right (by decide) hm)⟩
theorem qp_le {t b : Int} (h : 0 < b) : (Rat.divInt t b).num.natAbs ≤ t.natAbs ∧ (Rat.divInt t b).den ≤ b.natAbs := by
  have e := qp_divInt (t := t) h
  have e1 : (Rat.divInt t b).num = t / (Int.gcd t b : Int) := congrArg Prod.fst e
  have e2 : ((Rat.divInt t b).den : Int) = b / (Int.gcd t b : Int) := congrArg Prod.snd e
  have g1 : (Int.gcd t b : Int) ∣ t := Int.gcd_dvd_left t b
  have g2 : (Int.gcd t b : Int) ∣ b := Int.gcd_dvd_right t b
  constructor
  · rw [e1, Int.natAbs_ediv_of_dvd g1]; exact Nat.div_le_self _ _
  · have : (Rat.divInt t b).den = (b / (Int.gcd t b : Int)).natAbs := by rw [← e2]; rfl
    rw [this, Int.natAbs_ediv_of_dvd g2]; exact Nat.div_le_self _ _
theorem divInt_neg2 (t b : Int) : Rat.divInt (-t) (-b) = Rat.divInt t b := by
  by_cases h : b = 0
  · subst h; simp
  · rw [Rat.divInt_eq_divInt_iff (by omega) (by omega)]; simp [Int.mul_neg, Int.neg_mul]
theorem qz_divInt {n : Nat} {t b : Int} (hb : b ≠ 0) (h1 : t.natAbs < 2 ^ n) (h2 : b.natAbs < 2 ^ n) : Qz n (Rat.divInt t b) := by
  rcases Int.lt_or_gt_of_ne hb with h | h
  · rw [← divInt_neg2]
    obtain ⟨a, c⟩ := qp_le (t := -t) (b := -b) (by omega)
    exact ⟨by omega, by omega⟩
  · obtain ⟨a, c⟩ := qp_le (t := t) h
    exact ⟨by omega, by omega⟩
theorem Qz.num {n : Nat} {r : Rat} (h : Qz n r) : r.num.natAbs < 2 ^ n := h.1
theorem Qz.den {n : Nat} {r : Rat} (h : Qz n r) : ((r.den : Int)).natAbs < 2 ^ n := h.2
theorem den_pos (r : Rat) : 0 < (r.den : Int) := by have := r.den_pos; omega
theorem den_ne (r : Rat) : (r.den : Int) ≠ 0 := by have := r.den_pos; omega
theorem natAbs_mul_lt {x y : Int} {a b : Nat} (hx : x.natAbs < 2 ^ a) (hy : y.natAbs < 2 ^ b) : (x * y).natAbs < 2 ^ (a + b) := by
  rw [Int.natAbs_mul, Nat.pow_add]
  exact Nat.mul_lt_mul'' hx hy
theorem natAbs_add_lt {x y : Int} {a : Nat} (hx : x.natAbs < 2 ^ a) (hy : y.natAbs < 2 ^ a) : (x + y).natAbs < 2 ^ (a + 1) := by
  have := Int.natAbs_add_le x y
  rw [Nat.pow_succ]; omega
theorem natAbs_sub_lt {x y : Int} {a : Nat} (hx : x.natAbs < 2 ^ a) (hy : y.natAbs < 2 ^ a) : (x - y).natAbs < 2 ^ (a + 1) := by
  have := Int.natAbs_sub_le x y
  rw [Nat.pow_succ]; omega
theorem add_divInt (x y : Rat) : Rat.divInt (x.num * (y.den : Int) + y.num * (x.den : Int)) ((x.den : Int) * (y.den : Int)) = x + y := by
  rw [← Rat.divInt_add_divInt _ _ (den_ne x) (den_ne y), Rat.num_divInt_den, Rat.num_divInt_den]
theorem sub_divInt (x y : Rat) : Rat.divInt (x.num * (y.den : Int) - y.num * (x.den : Int)) ((x.den : Int) * (y.den : Int)) = x - y := by
  rw [← Rat.divInt_sub_divInt _ _ (den_ne x) (den_ne y), Rat.num_divInt_den, Rat.num_divInt_den]
theorem mul_divInt (x y : Rat) : Rat.divInt (x.num * y.num) ((x.den : Int) * (y.den : Int)) = x * y := by
  rw [← Rat.divInt_mul_divInt, Rat.num_divInt_den, Rat.num_divInt_den]
theorem num_ne {y : Rat} (h : y ≠ 0) : y.num ≠ 0 := fun e => h (by rw [← Rat.num_divInt_den y, e]; simp)
theorem div_divInt (x y : Rat) : Rat.divInt (x.num * (y.den : Int)) ((x.den : Int) * y.num) = x / y := by
  rw [← Rat.divInt_mul_divInt, Rat.num_divInt_den]
  have e : (y.num : Rat) / ((y.den : Int) : Rat) = y := by rw [← Rat.divInt_eq_div, Rat.num_divInt_den]
  rw [Rat.divInt_eq_div]
  have hd : ((y.den : Int) : Rat) ≠ 0 := fun z => den_ne y (by exact_mod_cast z)
  by_cases h : (y.num : Rat) = 0
  · rw [h] at e ⊢; grind
  · conv => rhs; rw [← e]
    grind
theorem Qz.add {n : Nat} {x y : Rat} (hx : Qz n x) (hy : Qz n y) : Qz (n + n + 1) (x + y) := by
  rw [← add_divInt]
  refine qz_divInt (Int.mul_ne_zero (den_ne x) (den_ne y)) (natAbs_add_lt (natAbs_mul_lt hx.num hy.den) (natAbs_mul_lt hy.num hx.den)) (Nat.lt_of_lt_of_le (natAbs_mul_lt hx.den hy.den) (Nat.pow_le_pow_right (by decide) (by omega)))
theorem Qz.mul {n m : Nat} {x y : Rat} (hx : Qz n x) (hy : Qz m y) : Qz (n + m) (x * y) := by
  rw [← mul_divInt]
  exact qz_divInt (Int.mul_ne_zero (den_ne x) (den_ne y)) (natAbs_mul_lt hx.num hy.num) (natAbs_mul_lt hx.den hy.den)
theorem qp_cross {t b : Int} (h : b ≠ 0) {x : Rat} (e : Rat.divInt t b = x) : x.num * b = t * (x.den : Int) := by
  have := Rat.num_divInt_den x
  rw [← e] at this ⊢
  rw [Rat.divInt_eq_divInt_iff (den_ne _) h] at this
  exact this
theorem red_gcd (x : Rat) : Int.gcd x.num (x.den : Int) = 1 := x.reduced
theorem divO_neg {x y : Int} (a : Nat) (h : y < 0) (hy : y.natAbs < 2 ^ a) (ha : a ≤ 9000) (hd : y ∣ x) : divO x y = some (x / y) := by
  unfold divO
  have h2 : y.natAbs.log2 < a := (Nat.log2_lt (by omega)).mpr hy
  rw [if_pos ⟨by omega, by omega⟩, Int.fdiv_eq_ediv_of_dvd hd]
theorem qz200 {t b : Int} (hb : 0 < b) (h1 : t.natAbs < 2 ^ 200) (h2 : b.natAbs < 2 ^ 200) : Qz 200 (Rat.divInt t b) := qz_divInt (by omega) h1 h2
theorem atI_any {α : Type} {xs : List α} {i : Int} (h0 : -(xs.length : Int) ≤ i) (h : i < xs.length) : ∃ a, atI xs i = some a ∧ a ∈ xs := by
  by_cases hn : i < 0
  · have hk : (i + xs.length).toNat < xs.length := by omega
    refine ⟨xs[(i + xs.length).toNat], ?_, List.getElem_mem _⟩
    unfold atI ixN
    rw [if_neg (by omega), if_pos h0, Option.bind_some, List.getElem?_eq_getElem hk]
  · rw [atI_ok (by omega) h]
    exact ⟨_, rfl, List.getElem_mem _⟩
theorem exlist {α : Type} {P : Rat → Prop} {f : α → Option (Int × Int)} : ∀ xs : List α, (∀ x ∈ xs, ∃ r, f x = some (qp r) ∧ P r) → ∃ rs : List Rat, mapO f xs = some (rs.map qp) ∧ rs.length = xs.length ∧ ∀ r ∈ rs, P r
  | [], _ => ⟨[], rfl, rfl, fun r h => by cases h⟩
  | x :: xs, h => by
    obtain ⟨r, e, p⟩ := h x List.mem_cons_self
    obtain ⟨rs, e2, l, p2⟩ := exlist xs fun y hy => h y (List.mem_cons_of_mem _ hy)
    refine ⟨r :: rs, by simp [mapO, e, e2], by simp [l], fun y hy => ?_⟩
    rcases List.mem_cons.mp hy with rfl | hy
    · exact p
    · exact p2 y hy
end Mir

namespace Mir
open PySem PySem.Spec L2
open ToD (toD)
set_option autoImplicit false
/-! ## mathematics of loops and of worlds -/
theorem forF_app {α ρ τ : Type} (f : τ → α → Option (Fl ρ τ)) : ∀ (xs ys : List α) (st : τ), forF f (xs ++ ys) st = (forF f xs st).bind (flF fun st' => forF f ys st')
  | [], ys, st => rfl
  | x :: xs, ys, st => by
    simp only [List.cons_append, forF]
    cases f st x with
    | none => rfl
    | some r =>
      cases r with
      | ret r => rfl
      | nxt st' => simp only [Option.bind_some, flF]; exact forF_app f xs ys st'
theorem forF_ind {α ρ τ : Type} {f : τ → α → Option (Fl ρ τ)} (P : List α → τ → Prop) : ∀ (xs done : List α) (st : τ), P done st → (∀ d x r st, done ++ xs = d ++ x :: r → P d st → ∃ st', f st x = some (.nxt st') ∧ P (d ++ [x]) st') → ∃ fin, forF f xs st = some (.nxt fin) ∧ P (done ++ xs) fin
  | [], done, st, h, _ => ⟨st, rfl, by rw [List.append_nil]; exact h⟩
  | x :: xs, done, st, h, hs => by
    obtain ⟨st', e, h'⟩ := hs done x xs st rfl h
    obtain ⟨fin, e2, h2⟩ := forF_ind P xs (done ++ [x]) st' h' (fun d y r st q => hs d y r st (by rw [← q, List.append_assoc]; rfl))
    exact ⟨fin, by simp only [forF, e, Option.bind_some, flF]; exact e2, by rw [List.append_assoc] at h2; exact h2⟩
theorem forF_inv {α ρ τ : Type} {f : τ → α → Option (Fl ρ τ)} (P : List α → τ → Prop) (xs : List α) (st : τ) (h0 : P [] st) (hs : ∀ d x r st, xs = d ++ x :: r → P d st → ∃ st', f st x = some (.nxt st') ∧ P (d ++ [x]) st') : ∃ fin, forF f xs st = some (.nxt fin) ∧ P xs fin := forF_ind P xs [] st h0 hs
/-- the first that is found hands back, the others go on -/
theorem forF_any {α ρ : Type} {f : Unit → α → Option (Fl ρ Unit)} {r : ρ} (p : α → Bool) : ∀ (xs : List α), (∀ x ∈ xs, f () x = some (if p x = true then .ret r else .nxt ())) → forF f xs () = some (if xs.any p = true then .ret r else .nxt ())
  | [], _ => rfl
  | x :: xs, h => by
    have ih := forF_any p xs fun y hy => h y (List.mem_cons_of_mem _ hy)
    simp only [forF, h x List.mem_cons_self, Option.bind_some, List.any_cons]
    by_cases hp : p x = true
    · simp [flF, hp]
    · simp [flF, hp, ih]
theorem zip_self {α : Type} : ∀ {l : List α} {a b : α}, (a, b) ∈ l.zip l → a = b
  | [], _, _, h => by cases h
  | x :: l, a, b, h => by
    rw [List.zip_cons_cons] at h
    rcases List.mem_cons.mp h with h | h
    · cases h; rfl
    · exact zip_self h
theorem rng_zero (lo : Int) : rng lo lo = [] := by unfold rng; simp
theorem rng_succ {lo hi : Int} (h : lo ≤ hi) : rng lo (hi + 1) = rng lo hi ++ [hi] := by
  unfold rng
  rw [show (hi + 1 - lo).toNat = (hi - lo).toNat + 1 by omega, List.range_succ, List.map_append]
  simp; omega
theorem rng_cons {lo hi : Int} (h : lo < hi) : rng lo hi = lo :: rng (lo + 1) hi := by
  unfold rng
  rw [show (hi - lo).toNat = (hi - (lo + 1)).toNat + 1 by omega, List.range_succ_eq_map, List.map_cons, List.map_map]
  congr 1
  · simp
  · apply List.map_congr_left
    intro a _
    simp only [Function.comp_apply]; omega
theorem rng_split {lo mid hi : Int} (h1 : lo ≤ mid) (h2 : mid ≤ hi) : rng lo hi = rng lo mid ++ rng mid hi := by
  unfold rng
  rw [show (hi - lo).toNat = (mid - lo).toNat + (hi - mid).toNat by omega, List.range_add, List.map_append, List.map_map]
  congr 1
  apply List.map_congr_left
  intro a _
  simp only [Function.comp_apply]; omega
theorem rng_shift (lo : Int) (n : Int) : rng lo (lo + n) = (rng 0 n).map (lo + ·) := by
  unfold rng
  rw [show (lo + n - lo).toNat = (n - 0).toNat by omega, List.map_map]
  apply List.map_congr_left
  intro a _
  simp
theorem rng_nodup (lo hi : Int) : (rng lo hi).Nodup := by
  unfold rng
  exact List.Pairwise.map _ (fun a b h => by show lo + (a : Int) ≠ lo + (b : Int); omega) (List.nodup_range (n := (hi - lo).toNat))
theorem rng_idx {n : Int} {i : Nat} (h : (i : Int) < n) : (rng 0 n)[i]? = some (i : Int) := by
  rw [rng_get (by omega)]; simp
theorem rng_pw (lo hi : Int) : (rng lo hi).Pairwise (· < ·) := by
  unfold rng
  exact List.Pairwise.map _ (fun a b h => by show lo + (a : Int) < lo + (b : Int); omega) (List.pairwise_lt_range (n := (hi - lo).toNat))
/-- the product -/
def pr : List Int → Int
  | [] => 1
  | s :: r => s * pr r
def Pos (xs : List Int) : Prop := ∀ s ∈ xs, 1 ≤ s
theorem Pos.tail {x : Int} {xs : List Int} (h : Pos (x :: xs)) : Pos xs := fun s hs => h s (List.mem_cons_of_mem _ hs)
theorem Pos.head {x : Int} {xs : List Int} (h : Pos (x :: xs)) : 1 ≤ x := h x List.mem_cons_self
theorem Pos.rev {xs : List Int} (h : Pos xs) : Pos xs.reverse := fun s hs => h s (List.mem_reverse.mp hs)
theorem mul_pos1 {a b : Int} (h : 1 ≤ a) (h' : 1 ≤ b) : 1 ≤ a * b := by
  have := Int.mul_le_mul h h' (by omega) (by omega)
  omega
theorem pr_pos : ∀ {xs : List Int}, Pos xs → 1 ≤ pr xs
  | [], _ => Int.le_refl _
  | x :: xs, h => mul_pos1 h.head (pr_pos h.tail)
theorem pr_app : ∀ (xs ys : List Int), pr (xs ++ ys) = pr xs * pr ys
  | [], s => by simp [pr]
  | x :: xs, s => by
    show x * pr (xs ++ s) = x * pr xs * pr s
    rw [pr_app xs s, Int.mul_assoc]
theorem pr_one (s : Int) : pr [s] = s := Int.mul_one s
theorem pr_rev : ∀ xs : List Int, pr xs.reverse = pr xs
  | [] => rfl
  | x :: xs => by
    rw [List.reverse_cons, pr_app, pr_rev xs, pr_one]
    exact Int.mul_comm _ _
theorem le_mul_left {a b : Int} (h : 1 ≤ a) (h' : 0 ≤ b) : b ≤ a * b := by
  have := Int.mul_le_mul_of_nonneg_right h h'
  omega
theorem le_mul_right {a b : Int} (h : 1 ≤ b) (h' : 0 ≤ a) : a ≤ a * b := by
  have := Int.mul_le_mul_of_nonneg_left h h'
  omega
theorem mem_le_pr : ∀ {xs : List Int} {s : Int}, Pos xs → s ∈ xs → s ≤ pr xs
  | x :: xs, s, h, hm => by
    have h1 := h.head
    have h2 := pr_pos h.tail
    rcases List.mem_cons.mp hm with rfl | hm
    · exact le_mul_right h2 (by omega)
    · have := mem_le_pr h.tail hm
      have := le_mul_left h1 (show 0 ≤ pr xs by omega)
      show s ≤ x * pr xs
      omega
theorem div_lt {p s m : Int} (h0 : 0 ≤ p) (hs : 1 ≤ s) (h : p < s * m) : 0 ≤ p / s ∧ p / s < m :=
  ⟨Int.ediv_nonneg h0 (by omega), Int.ediv_lt_of_lt_mul (by omega) (by rw [Int.mul_comm]; exact h)⟩
abbrev big : Int := 1000000000000000000000000000000000000000000000000000000000000
theorem lo_big {n : Int} (h0 : 0 ≤ n) (h : n ≤ big) : Lo n := lo_of (by unfold big at h; omega) h
theorem prod_loop {f : Int → Int → Option Int} (hf : ∀ a b, f a b = (mulO a b).bind fun m => some m) : ∀ {xs : List Int} {m : Int}, Pos xs → 1 ≤ m → m * pr xs ≤ big → forO f xs m = some (m * pr xs)
  | [], m, _, _, _ => by simp [forO, pr]
  | x :: xs, m, h, h1, hb => by
    have hx := h.head
    have hq := pr_pos h.tail
    have e : m * pr (x :: xs) = m * x * pr xs := by
      show m * (x * pr xs) = _
      rw [Int.mul_assoc]
    rw [e] at hb ⊢
    have h2 := mul_pos1 h1 hx
    have h3 := le_mul_right hq (show 0 ≤ m * x by omega)
    have h4 := le_mul_right hx (show 0 ≤ m by omega)
    have h5 := le_mul_left h1 (show 0 ≤ x by omega)
    rw [forO_cons, hf, mulO_lo (lo_big (by omega) (by omega)) (lo_big (by omega) (by omega))]
    simp only [Option.bind_some]
    exact prod_loop hf h.tail h2 hb
/-! ### digits -/
def dg : List Int → Int → List Int
  | [], _ => []
  | s :: rs, p => p % s :: dg rs (p / s)
theorem dg_len : ∀ (rs : List Int) (p : Int), (dg rs p).length = rs.length
  | [], _ => rfl
  | s :: rs, p => by simp [dg, dg_len rs]
/-- the world of a place -/
def wd : List Int → Int → List Int
  | [], _ => []
  | s :: r, p => (p / pr r) % s :: wd r p
theorem wd_len : ∀ (s : List Int) (p : Int), (wd s p).length = s.length
  | [], _ => rfl
  | s :: r, p => by simp [wd, wd_len r]
theorem dg_app : ∀ (xs : List Int) (s p : Int), Pos xs → dg (xs ++ [s]) p = dg xs p ++ [(p / pr xs) % s]
  | [], s, p, _ => by simp [dg, pr]
  | x :: xs, s, p, h => by
    show p % x :: dg (xs ++ [s]) (p / x) = _
    rw [dg_app xs s (p / x) h.tail]
    show _ = p % x :: (dg xs (p / x) ++ [p / (x * pr xs) % s])
    rw [Int.ediv_ediv (x := p), if_neg (by have := h.head; omega), Int.sub_zero]
theorem dg_wd : ∀ (s : List Int) (p : Int), Pos s → (dg s.reverse p).reverse = wd s p
  | [], p, _ => rfl
  | s :: r, p, h => by
    rw [List.reverse_cons, dg_app _ _ _ h.tail.rev, List.reverse_append, dg_wd r p h.tail, pr_rev]
    rfl
theorem wd_mod : ∀ (s : List Int) (p m : Int), Pos s → pr s ∣ m → wd s (p + m) = wd s p
  | [], _, _, _, _ => rfl
  | s :: r, p, m, h, ⟨c, hc⟩ => by
    have hq := pr_pos h.tail
    have e : m = s * c * pr r := by rw [hc]; show s * pr r * c = _; rw [Int.mul_assoc, Int.mul_comm (pr r) c, Int.mul_assoc]
    show ((p + m) / pr r) % s :: wd r (p + m) = _
    rw [wd_mod r p m h.tail ⟨s * c, by rw [e, Int.mul_comm]⟩, e, Int.add_mul_ediv_right _ _ (by omega), Int.add_mul_emod_self_left]
    rfl
def allW : List Int → List (List Int)
  | [] => [[]]
  | s :: r => (rng 0 s).flatMap fun v => (allW r).map (v :: ·)
theorem rng_mul (s m : Int) (hm : 0 ≤ m) : ∀ n : Nat, (n : Int) ≤ s → rng 0 (n * m) = (rng 0 n).flatMap fun v => (rng 0 m).map (v * m + ·)
  | 0, _ => by simp [rng_zero]
  | n + 1, h => by
    have e : ((n + 1 : Nat) : Int) * m = n * m + m := by
      rw [show ((n + 1 : Nat) : Int) = (n : Int) + 1 by omega, Int.add_mul, Int.one_mul]
    have h0 : (0 : Int) ≤ n * m := Int.mul_nonneg (by omega) hm
    rw [e, rng_split h0 (show (n : Int) * m ≤ n * m + m by omega), rng_mul s m hm n (by omega), rng_shift]
    rw [show ((n + 1 : Nat) : Int) = (n : Int) + 1 by omega, rng_succ (by omega), List.flatMap_append]
    simp
theorem allW_wd : ∀ {s : List Int}, Pos s → (rng 0 (pr s)).map (wd s) = allW s
  | [], _ => by
    show (rng 0 1).map (wd []) = [[]]
    rfl
  | s :: r, h => by
    have hs := h.head
    have hq := pr_pos h.tail
    have e := rng_mul s (pr r) (by omega) s.toNat (by omega)
    rw [show ((s.toNat : Nat) : Int) = s by omega] at e
    show (rng 0 (s * pr r)).map (wd (s :: r)) = (rng 0 s).flatMap fun v => (allW r).map (v :: ·)
    rw [e, List.map_flatMap]
    rw [List.flatMap_def, List.flatMap_def]
    congr 1
    apply List.map_congr_left
    intro v hv
    obtain ⟨v0, v1⟩ := mem_rng.mp hv
    rw [← allW_wd h.tail, List.map_map, List.map_map]
    apply List.map_congr_left
    intro p hp
    obtain ⟨p0, p1⟩ := mem_rng.mp hp
    show (v * pr r + p) / pr r % s :: wd r (v * pr r + p) = v :: wd r p
    rw [Int.add_comm, wd_mod r p (v * pr r) h.tail ⟨v, Int.mul_comm _ _⟩, Int.add_mul_ediv_right _ _ (by omega), Int.ediv_eq_zero_of_lt p0 p1, Int.zero_add, Int.emod_eq_of_lt v0 v1]
def Fits : List Int → List Int → Prop
  | [], [] => True
  | s :: r, v :: w => (0 ≤ v ∧ v < s) ∧ Fits r w
  | _, _ => False
theorem fits_wd : ∀ {s : List Int} (p : Int), Pos s → Fits s (wd s p)
  | [], _, _ => trivial
  | s :: r, p, h => ⟨⟨Int.emod_nonneg _ (by have := h.head; omega), Int.emod_lt_of_pos _ (by have := h.head; omega)⟩, fits_wd p h.tail⟩
theorem mem_allW : ∀ {s w : List Int}, w ∈ allW s ↔ Fits s w
  | [], [] => by simp [allW, Fits]
  | [], v :: w => by simp [allW, Fits]
  | s :: r, [] => by simp [allW, Fits]
  | s :: r, v :: w => by
    simp only [allW, List.mem_flatMap, List.mem_map, Fits]
    constructor
    · rintro ⟨a, ha, b, hb, e⟩
      cases e
      exact ⟨mem_rng.mp ha, mem_allW.mp hb⟩
    · rintro ⟨h1, h2⟩
      exact ⟨v, mem_rng.mpr h1, w, mem_allW.mpr h2, rfl⟩
theorem Fits.len : ∀ {s w : List Int}, Fits s w → w.length = s.length
  | [], [], _ => rfl
  | _ :: _, _ :: _, h => by rw [List.length_cons, List.length_cons, Fits.len h.2]
theorem Fits.at : ∀ {s w : List Int} {i : Nat} {v : Int}, Fits s w → w[i]? = some v → ∃ t, s[i]? = some t ∧ 0 ≤ v ∧ v < t
  | [], [], _, _, _, h => by simp at h
  | s :: r, v :: w, 0, u, h, e => by
    have : v = u := by simpa using e
    subst this
    exact ⟨s, rfl, h.1⟩
  | s :: r, v :: w, i + 1, u, h, e => by
    obtain ⟨t, h1, h2⟩ := Fits.at (i := i) h.2 (by simpa using e)
    exact ⟨t, by simpa using h1, h2⟩
theorem allW_len : ∀ {s : List Int}, Pos s → ((allW s).length : Int) = pr s := fun {s} h => by
  rw [← allW_wd h, List.length_map, rng_len]
  have := pr_pos h
  omega
def rk : List Int → List Int → Int
  | _ :: r, v :: w => v * pr r + rk r w
  | _, _ => 0
theorem rk_lt : ∀ {s w : List Int}, Pos s → Fits s w → 0 ≤ rk s w ∧ rk s w < pr s
  | [], [], _, _ => ⟨Int.le_refl _, Int.one_pos⟩
  | s :: r, v :: w, h, f => by
    obtain ⟨h0, h1⟩ := rk_lt h.tail f.2
    obtain ⟨⟨v0, v1⟩, _⟩ := f
    have hq := pr_pos h.tail
    have a1 : 0 ≤ v * pr r := Int.mul_nonneg v0 (by omega)
    have a2 : (v + 1) * pr r ≤ s * pr r := Int.mul_le_mul_of_nonneg_right (by omega) (by omega)
    rw [Int.add_mul, Int.one_mul] at a2
    show 0 ≤ v * pr r + rk r w ∧ v * pr r + rk r w < s * pr r
    omega
theorem wd_rk : ∀ {s w : List Int}, Pos s → Fits s w → wd s (rk s w) = w
  | [], [], _, _ => rfl
  | s :: r, v :: w, h, f => by
    obtain ⟨h0, h1⟩ := rk_lt h.tail f.2
    have hq := pr_pos h.tail
    obtain ⟨⟨v0, v1⟩, f2⟩ := f
    show (v * pr r + rk r w) / pr r % s :: wd r (v * pr r + rk r w) = v :: w
    rw [Int.add_comm, wd_mod r _ (v * pr r) h.tail ⟨v, Int.mul_comm _ _⟩, wd_rk h.tail f2, Int.add_mul_ediv_right _ _ (by omega), Int.ediv_eq_zero_of_lt h0 h1, Int.zero_add, Int.emod_eq_of_lt v0 v1]
theorem rk_wd : ∀ {s : List Int} {p : Int}, Pos s → 0 ≤ p → p < pr s → rk s (wd s p) = p
  | [], p, _, h0, h1 => by
    have : p < 1 := h1
    show 0 = p
    omega
  | s :: r, p, h, h0, h1 => by
    have hq := pr_pos h.tail
    have h1' : p < s * pr r := h1
    have e := rk_wd h.tail (Int.emod_nonneg p (show pr r ≠ 0 by omega)) (Int.emod_lt_of_pos p (show 0 < pr r by omega))
    have em := Int.mul_ediv_add_emod p (pr r)
    have e2 : wd r p = wd r (p % pr r) := by
      have := wd_mod r (p % pr r) (pr r * (p / pr r)) h.tail ⟨_, rfl⟩
      rw [Int.add_comm, em] at this
      exact this
    obtain ⟨d0, d1⟩ := div_lt h0 hq (by rw [Int.mul_comm]; exact h1')
    show (p / pr r) % s * pr r + rk r (wd r p) = p
    rw [e2, e, Int.emod_eq_of_lt d0 d1]
    rw [Int.mul_comm]; exact em
theorem world_loop {f : Int × List Int → Int → Option (Int × List Int)} (hf : ∀ place turned size, f (place, turned) size = (modO place size).bind fun t => (appO turned t).bind fun tu => (divO place size).bind fun p => some (p, tu)) : ∀ (rs : List Int), Pos rs → pr rs ≤ big → ∀ (place : Int) (turned : List Int), turned.length + rs.length ≤ 1000 → ∃ q, forO f rs (place, turned) = some (q, turned ++ dg rs place)
  | [], _, _, place, turned, _ => ⟨place, by rw [forO_nil]; simp [dg]⟩
  | s :: rs, hz, hb, place, turned, hle => by
    have h1 := hz.head
    have hq := pr_pos hz.tail
    have h2 : s ≤ big := Int.le_trans (mem_le_pr hz List.mem_cons_self) hb
    have h3 : pr rs ≤ big := Int.le_trans (le_mul_left h1 (by omega)) hb
    rw [List.length_cons] at hle
    obtain ⟨q, e⟩ := world_loop hf rs hz.tail h3 (place / s) (turned ++ [place % s]) (by rw [List.length_append]; show turned.length + 1 + rs.length ≤ 1000; omega)
    refine ⟨q, ?_⟩
    have es : f (place, turned) s = some (place / s, turned ++ [place % s]) := by
      simp only [hf, modO_pos (show 0 < s by omega), divO_lo (show 0 < s by omega) (lo_big (by omega) h2), appO_ok (show turned.length < 16777216 by omega), Option.bind_some]
    rw [forO_cons, es]
    simp only [Option.bind_some]
    rw [e, List.append_assoc]; rfl
theorem rank_loop {f : Int → Int × Int → Option Int} (hf : ∀ place size value, f place (size, value) = (mulO place size).bind fun t => some (t + value)) : ∀ {s w : List Int} {a : Int}, Pos s → Fits s w → 0 ≤ a → (a + 1) * pr s ≤ big → forO f (s.zip w) a = some (a * pr s + rk s w)
  | [], [], a, _, _, _, _ => by simp [forO, pr, rk]
  | s :: r, v :: w, a, h, hw, ha, hb => by
    have h1 := h.head
    have hq := pr_pos h.tail
    obtain ⟨⟨v0, v1⟩, hw2⟩ := hw
    have e1 : (a + 1) * pr (s :: r) = (a * s + s) * pr r := by
      show (a + 1) * (s * pr r) = _
      rw [← Int.mul_assoc, Int.add_mul, Int.one_mul]
    have h2 : (a * s + v + 1) * pr r ≤ (a * s + s) * pr r := Int.mul_le_mul_of_nonneg_right (by omega) (by omega)
    have has : 0 ≤ a * s := Int.mul_nonneg ha (by omega)
    have h3 : a * s + s ≤ (a * s + s) * pr r := le_mul_right hq (by omega)
    have h4 : a ≤ a * s := le_mul_right h1 ha
    rw [List.zip_cons_cons, forO_cons, hf, mulO_lo (lo_big ha (by omega)) (lo_big (by omega) (by omega))]
    simp only [Option.bind_some]
    rw [rank_loop hf h.tail hw2 (by omega) (by omega)]
    congr 1
    show (a * s + v) * pr r + rk r w = a * (s * pr r) + (v * pr r + rk r w)
    rw [Int.add_mul, Int.mul_assoc, Int.add_assoc]
end Mir

namespace Mir
open PySem PySem.Spec L2
open ToD (toD)
set_option autoImplicit false
/-! ## mathematics of shapes -/
theorem insO_ok {α : Type} {xs : List α} {i : Int} {a : α} (h : xs.length < 16777216) (h0 : 0 ≤ i) (h1 : i < 9223372036854775808) : insO xs i a = some (xs.take i.toNat ++ [a] ++ xs.drop i.toNat) := if_pos ⟨h, h0, h1⟩
theorem ins_permG {α : Type} (xs : List α) (i : Nat) (a : α) : (xs.take i ++ [a] ++ xs.drop i).Perm (xs ++ [a]) := by
  have h1 : (xs.take i ++ [a] ++ xs.drop i).Perm (xs.take i ++ (xs.drop i ++ [a])) := by
    rw [List.append_assoc]
    exact List.Perm.append_left _ List.perm_append_comm
  rw [← List.append_assoc, List.take_append_drop] at h1
  exact h1
theorem app2O_ok {α : Type} {xss : List (List α)} {row : List α} {i : Int} {a : α} (h0 : 0 ≤ i) (h : xss[i.toNat]? = some row) (hl : row.length < 16777216) : app2O xss i a = some (xss.set i.toNat (row ++ [a])) := by
  have hi := (List.getElem?_eq_some_iff.mp h).1
  unfold app2O ixN
  rw [if_pos h0, if_pos (by omega), Option.bind_some, h, Option.bind_some]
  exact if_pos hl
theorem setO_ok {α : Type} {xs : List α} {i : Int} {a : α} (h0 : 0 ≤ i) (h : i < xs.length) : setO xs i a = some (xs.set i.toNat a) := by
  unfold setO ixN
  rw [if_pos h0, if_pos h]; rfl
theorem nodup_idx {α : Type} {xs : List α} {i j : Nat} {a : α} (nd : xs.Nodup) (hi : xs[i]? = some a) (hj : xs[j]? = some a) : i = j :=
  (List.getElem?_inj (List.getElem?_eq_some_iff.mp hi).1 nd).mp (hi.trans hj.symm)
theorem idxOf_at {α : Type} [DecidableEq α] {xs : List α} {i : Nat} {a : α} (nd : xs.Nodup) (hi : xs[i]? = some a) : xs.idxOf a = i := by
  have h := List.idxOf_lt_length_of_mem (List.mem_of_getElem? hi)
  refine nodup_idx nd (a := a) ?_ hi
  rw [List.getElem?_eq_getElem h, List.getElem_idxOf h]
/-- a shape of n things: rising causes, five at most, no ring -/
structure Shape (n : Int) (cs : List (List Int)) : Prop where
  len : (cs.length : Int) = n
  asc : ∀ row ∈ cs, row.Pairwise (· < ·)
  few : ∀ row ∈ cs, row.length ≤ 5
  dom : ∀ row ∈ cs, ∀ c ∈ row, 0 ≤ c ∧ c < n
  acy : ∃ rank : Int → Nat, ∀ (k : Int) (row : List Int) (c : Int), 0 ≤ k → cs[k.toNat]? = some row → c ∈ row → rank c < rank k
theorem srt_asc {xs : List Int} (h : xs.Nodup) : (srt xs).Pairwise (· < ·) := lt_of_le_nodup _ (srt_sorted xs) ((srt_perm xs).nodup_iff.mpr h)
theorem mem_srt {xs : List Int} {x : Int} : x ∈ srt xs ↔ x ∈ xs := (srt_perm xs).mem_iff
theorem asc_nodup {xs : List Int} (h : xs.Pairwise (· < ·)) : xs.Nodup := h.imp fun h => Int.ne_of_lt h
theorem nub_id : ∀ {xs : List Int}, xs.Nodup → nub xs = xs
  | [], _ => rfl
  | x :: xs, h => by
    obtain ⟨h1, h2⟩ := List.nodup_cons.mp h
    unfold nub
    rw [if_neg h1, nub_id h2]
theorem srt_id {xs : List Int} (h : xs.Pairwise (· ≤ ·)) : srt xs = xs := sorted_unique (srt_perm xs) (srt_sorted xs) h
theorem srtSet_asc {xs : List Int} (h : xs.Pairwise (· < ·)) (hl : xs.length < 64) : srtSetO xs = some xs := by
  unfold srtSetO
  rw [nub_id (asc_nodup h), if_pos ⟨by omega, hl⟩, srt_id (h.imp fun h => Int.le_of_lt h)]
theorem lenSet_nodup {xs : List Int} (h : xs.Nodup) (hl : xs.length < 4000) : lenSetO xs = some (xs.length : Int) := by
  unfold lenSetO
  rw [nub_id h, if_pos (by omega)]
/-- what the drawing of a shape keeps: the rows of the things of an order -/
structure Drawn (order : List Int) (cs : List (List Int)) (at_ : Nat) : Prop where
  len : cs.length = order.length
  row : ∀ (j : Nat) (x : Int), order[j]? = some x → ∃ row, cs[x.toNat]? = some row ∧ row.Sublist (order.take j) ∧ row.length ≤ 5 ∧ (at_ ≤ j → row = [])
theorem order_idx {n : Int} {order : List Int} (h : order.Perm (rng 0 n)) {i j : Nat} {x y : Int} (hi : order[i]? = some x) (hj : order[j]? = some y) (e : x.toNat = y.toNat) : i = j := by
  have hx := mem_rng.mp (h.mem_iff.mp (List.mem_of_getElem? hi))
  have hy := mem_rng.mp (h.mem_iff.mp (List.mem_of_getElem? hj))
  have : x = y := by omega
  subst this
  have nd : order.Nodup := h.nodup_iff.mpr (rng_nodup 0 n)
  exact nodup_idx nd hi hj
theorem order_all {n : Int} {order : List Int} (h : order.Perm (rng 0 n)) {k : Nat} (hk : (k : Int) < n) : ∃ j : Nat, order[j]? = some (k : Int) :=
  List.mem_iff_getElem?.mp (h.mem_iff.mpr (mem_rng.mpr ⟨by omega, hk⟩))
theorem order_len {n : Int} {order : List Int} (h : order.Perm (rng 0 n)) : order.length = n.toNat := by rw [h.length_eq, rng_len]; omega
theorem drawn_shape {n : Int} {order : List Int} {cs : List (List Int)} {a : Nat} (h0 : 0 ≤ n) (h : order.Perm (rng 0 n)) (d : Drawn order cs a) : Shape n (cs.map srt) := by
  have hlen := order_len h
  have hcs : cs.length = n.toNat := by rw [d.len, hlen]
  have nd : order.Nodup := h.nodup_iff.mpr (rng_nodup 0 n)
  have key : ∀ (k : Nat) (row : List Int), cs[k]? = some row → ∃ j, order[j]? = some (k : Int) ∧ row.Sublist (order.take j) ∧ row.length ≤ 5 := by
    intro k row hk
    have hk' := (List.getElem?_eq_some_iff.mp hk).1
    obtain ⟨j, hj⟩ := order_all h (k := k) (by omega)
    obtain ⟨row', e, s, l, _⟩ := d.row j _ hj
    rw [show ((k : Int)).toNat = k by omega, hk] at e
    cases e
    exact ⟨j, hj, s, l⟩
  have keyM : ∀ row ∈ cs.map srt, ∃ (k j : Nat) (r : List Int), cs[k]? = some r ∧ row = srt r ∧ order[j]? = some (k : Int) ∧ r.Sublist (order.take j) ∧ r.length ≤ 5 := by
    intro row hr
    obtain ⟨r, hm, rfl⟩ := List.mem_map.mp hr
    obtain ⟨k, hk⟩ := List.mem_iff_getElem?.mp hm
    obtain ⟨j, h1, h2, h3⟩ := key k r hk
    exact ⟨k, j, r, hk, rfl, h1, h2, h3⟩
  refine ⟨by rw [List.length_map, hcs]; omega, fun row hr => ?_, fun row hr => ?_, fun row hr c hc => ?_, ?_⟩
  · obtain ⟨k, j, r, _, rfl, _, s, _⟩ := keyM row hr
    exact srt_asc (List.Nodup.sublist (s.trans (List.take_sublist _ _)) nd)
  · obtain ⟨k, j, r, _, rfl, _, s, l⟩ := keyM row hr
    rw [srt_len]; exact l
  · obtain ⟨k, j, r, _, rfl, _, s, l⟩ := keyM row hr
    exact mem_rng.mp (h.mem_iff.mp ((s.trans (List.take_sublist _ _)).subset (mem_srt.mp hc)))
  · refine ⟨fun c => order.idxOf c, fun k row c k0 hk hc => ?_⟩
    rw [List.getElem?_map] at hk
    obtain ⟨r, hr, rfl⟩ := Option.map_eq_some_iff.mp hk
    obtain ⟨j, h1, s, _⟩ := key _ r hr
    rw [show ((k.toNat : Nat) : Int) = k by omega] at h1
    have hcj : c ∈ order.take j := s.subset (mem_srt.mp hc)
    have e1 : order.idxOf k = j := idxOf_at nd h1
    obtain ⟨i, hi⟩ := List.mem_iff_getElem?.mp hcj
    rw [List.getElem?_take] at hi
    split at hi
    · rename_i hij
      have e4 : order.idxOf c = i := idxOf_at nd hi
      show order.idxOf c < order.idxOf k
      rw [e1, e4]; exact hij
    · cases hi
def rowAt (cs : List (List Int)) (k : Int) : List Int := cs.getD k.toNat []
theorem atI_row {cs : List (List Int)} {k : Int} (h0 : 0 ≤ k) (h : k < cs.length) : atI cs k = some (rowAt cs k) := by
  rw [atI_ok h0 h]
  unfold rowAt
  rw [List.getD_eq_getElem?_getD, List.getElem?_eq_getElem (by omega)]; rfl
theorem Shape.at {n : Int} {cs : List (List Int)} (S : Shape n cs) {k : Int} (h0 : 0 ≤ k) (h : k < n) : atI cs k = some (rowAt cs k) := atI_row h0 (by rw [S.len]; exact h)
theorem rowAt_get {cs : List (List Int)} {k : Int} (h : k.toNat < cs.length) : cs[k.toNat]? = some (rowAt cs k) := by
  unfold rowAt
  rw [List.getD_eq_getElem?_getD, List.getElem?_eq_getElem h]; rfl
theorem Shape.get {n : Int} {cs : List (List Int)} (S : Shape n cs) {k : Int} (h0 : 0 ≤ k) (h : k < n) : cs[k.toNat]? = some (rowAt cs k) := rowAt_get (by have := S.len; omega)
theorem Shape.mem {n : Int} {cs : List (List Int)} (S : Shape n cs) {k : Int} (h0 : 0 ≤ k) (h : k < n) : rowAt cs k ∈ cs := List.mem_of_getElem? (S.get h0 h)
theorem Shape.dom' {n : Int} {cs : List (List Int)} (S : Shape n cs) {k c : Int} (h0 : 0 ≤ k) (h : k < n) (hc : c ∈ rowAt cs k) : 0 ≤ c ∧ c < n := S.dom _ (S.mem h0 h) c hc
theorem Shape.rank {n : Int} {cs : List (List Int)} (S : Shape n cs) : ∃ rank : Int → Nat, ∀ k c, 0 ≤ k → k < n → c ∈ rowAt cs k → rank c < rank k := by
  obtain ⟨rank, h⟩ := S.acy
  exact ⟨rank, fun k c h0 h1 hc => h k _ c h0 (S.get h0 h1) hc⟩
theorem Shape.eq {n : Int} {cs : List (List Int)} (S : Shape n cs) : cs = (rng 0 n).map (rowAt cs) := by
  apply List.ext_getElem?
  intro i
  rw [List.getElem?_map]
  have := S.len
  by_cases h : i < cs.length
  · rw [rng_idx (by omega)]
    show cs[i]? = some (rowAt cs (i : Int))
    have := rowAt_get (cs := cs) (k := (i : Int)) (by simpa using h)
    simpa using this
  · rw [List.getElem?_eq_none (by omega), List.getElem?_eq_none (by rw [rng_len]; omega)]; rfl
theorem all_true : ∀ {α : Type} (xs : List α), (xs.map fun _ => true).all id = true
  | _, [] => rfl
  | _, _ :: xs => by simp
theorem mapO_id {α : Type} (xs : List α) : mapO (fun x => some x) xs = some xs := by
  have := mapO_ok (f := fun x : α => some x) (g := fun x => x) (xs := xs) fun _ _ => rfl
  rw [this, List.map_id']
end Mir

namespace Mir
open PySem PySem.Spec L2
open ToD (toD)
set_option autoImplicit false
/-! ## mathematics of ways of arrows -/
inductive Star {α : Type} (R : α → α → Prop) : α → α → Prop
  | refl (a : α) : Star R a a
  | step {a b c : α} : Star R a b → R b c → Star R a c
theorem Star.head {α : Type} {R : α → α → Prop} {a b c : α} (h : R a b) (s : Star R b c) : Star R a c := by
  induction s with
  | refl => exact .step (.refl _) h
  | step _ r ih => exact .step ih r
theorem Star.trans {α : Type} {R : α → α → Prop} {a b c : α} (s : Star R a b) (t : Star R b c) : Star R a c := by
  induction t with
  | refl => exact s
  | step _ r ih => exact .step ih r
theorem Star.rev {α : Type} {R : α → α → Prop} {a b : α} (s : Star R a b) : Star (fun x y => R y x) b a := by
  induction s with
  | refl => exact .refl _
  | step _ r ih => exact Star.head r ih
theorem Star.closed {α : Type} {R : α → α → Prop} {P : α → Prop} {a b : α} (s : Star R a b) (h : P a) (hc : ∀ x y, P x → R x y → P y) : P b := by
  induction s with
  | refl => exact h
  | step _ r ih => exact hc _ _ ih r
theorem Star.mono {α : Type} {R R' : α → α → Prop} {a b : α} (s : Star R a b) (h : ∀ x y, R x y → R' x y) : Star R' a b := by
  induction s with
  | refl => exact .refl _
  | step _ r ih => exact .step ih (h _ _ r)
theorem nodup_len_le {α : Type} [DecidableEq α] : ∀ {xs ys : List α}, xs.Nodup → (∀ x ∈ xs, x ∈ ys) → xs.length ≤ ys.length
  | [], _, _, _ => Nat.zero_le _
  | a :: xs, ys, nd, h => by
    obtain ⟨h1, h2⟩ := List.nodup_cons.mp nd
    have ha := h a List.mem_cons_self
    have ih := nodup_len_le (ys := ys.erase a) h2 fun x hx => (List.mem_erase_of_ne (fun z : x = a => h1 (by rw [← z]; exact hx))).mpr (h x (List.mem_cons_of_mem _ hx))
    have hl := List.length_erase_of_mem ha
    have : 0 < ys.length := List.length_pos_of_mem ha
    rw [List.length_cons]; omega
/-- at most so many unlike numbers below n -/
theorem nodup_le {n : Int} {xs : List Int} (nd : xs.Nodup) (h : ∀ x ∈ xs, 0 ≤ x ∧ x < n) : (xs.length : Int) ≤ n ∨ xs = [] := by
  cases xs with
  | nil => exact .inr rfl
  | cons a r =>
    left
    have h1 : (a :: r).length ≤ (rng 0 n).length := nodup_len_le nd fun x hx => mem_rng.mpr (h x hx)
    have h0 := (h a List.mem_cons_self)
    rw [rng_len] at h1
    omega
theorem asc_ext : ∀ {xs ys : List Int}, xs.Pairwise (· < ·) → ys.Pairwise (· < ·) → (∀ k, k ∈ xs ↔ k ∈ ys) → xs = ys := fun {xs ys} hx hy h =>
  sorted_unique ((List.perm_ext_iff_of_nodup (asc_nodup hx) (asc_nodup hy)).mpr h) (hx.imp fun h => Int.le_of_lt h) (hy.imp fun h => Int.le_of_lt h)
theorem search_go {n : Nat} {next : Int → List Int} {c : (List Int × List Int) → Option Bool} {f : (List Int × List Int) → Option (List Int × List Int)} (hc : ∀ found lft : List Int, c (found, lft) = some (!decide (lft = [])))
    (hf : ∀ (found lft : List Int) (k : Int), 0 ≤ k → k < n → found.length ≤ n → lft.length ≤ 2000000 → f (found, lft ++ [k]) = some (if k ∈ found then (found, lft) else (found ++ [k], lft ++ next k)))
    (hn : n ≤ 1000) (hnext : ∀ k : Int, 0 ≤ k → k < n → (next k).length ≤ n ∧ ∀ x ∈ next k, 0 ≤ x ∧ x < n) (R : Int → Prop) (hR : ∀ k : Int, R k → ∀ x ∈ next k, R x) (some_ : List Int) :
    ∀ (m : Nat) (found lft : List Int), (n - found.length) * (n + 1) + lft.length ≤ m → found.Nodup → (∀ x ∈ found, 0 ≤ x ∧ x < n) → (∀ x ∈ lft, 0 ≤ x ∧ x < n) → lft.length ≤ 1000 + found.length * n → (∀ x ∈ found, R x) → (∀ x ∈ lft, R x) → (∀ k ∈ found, ∀ x ∈ next k, x ∈ found ∨ x ∈ lft) → (∀ x ∈ some_, x ∈ found ∨ x ∈ lft) →
      ∃ fin, whileO c f (found, lft) = some (fin, []) ∧ fin.Nodup ∧ (∀ x ∈ fin, 0 ≤ x ∧ x < n) ∧ (∀ x ∈ fin, R x) ∧ (∀ k ∈ fin, ∀ x ∈ next k, x ∈ fin) ∧ ∀ x ∈ some_, x ∈ fin := by
  intro m
  induction m with
  | zero =>
    intro found lft hm nd h1 h2 h3 h4 h5 h6 h7
    have : lft = [] := List.length_eq_zero_iff.mp (by omega)
    subst this
    exact ⟨found, whileO_false (by rw [hc]; rfl), nd, h1, h4, fun k hk x hx => (h6 k hk x hx).resolve_right (by simp), fun x hx => (h7 x hx).resolve_right (by simp)⟩
  | succ m ih =>
    intro found lft hm nd h1 h2 h3 h4 h5 h6 h7
    by_cases hl : lft = []
    · subst hl
      exact ⟨found, whileO_false (by rw [hc]; rfl), nd, h1, h4, fun k hk x hx => (h6 k hk x hx).resolve_right (by simp), fun x hx => (h7 x hx).resolve_right (by simp)⟩
    · obtain ⟨l', k, rfl⟩ : ∃ l' k, lft = l' ++ [k] := ⟨lft.dropLast, lft.getLast hl, (List.dropLast_concat_getLast hl).symm⟩
      have hk := h2 k (by simp)
      have hfl : found.length ≤ n := by
        rcases nodup_le nd h1 with h | h
        · omega
        · rw [h]; exact Nat.zero_le _
      have hmul : found.length * n ≤ 1000 * 1000 := Nat.mul_le_mul (by omega) hn
      have hst := hf found l' k hk.1 hk.2 hfl (by rw [List.length_append] at h3; simp at h3; omega)
      have hct : c (found, l' ++ [k]) = some true := by rw [hc]; simp
      by_cases hin : k ∈ found
      · rw [if_pos hin] at hst
        obtain ⟨fin, e, q⟩ := ih found l' (by rw [List.length_append] at hm; simp at hm; omega) nd h1 (fun x hx => h2 x (by simp [hx])) (by rw [List.length_append] at h3; simp at h3; omega) h4 (fun x hx => h5 x (by simp [hx]))
          (fun j hj x hx => by
            rcases h6 j hj x hx with h | h
            · exact .inl h
            · rcases List.mem_append.mp h with h | h
              · exact .inr h
              · rw [List.mem_singleton.mp h]; exact .inl hin)
          (fun x hx => by
            rcases h7 x hx with h | h
            · exact .inl h
            · rcases List.mem_append.mp h with h | h
              · exact .inr h
              · rw [List.mem_singleton.mp h]; exact .inl hin)
        exact ⟨fin, whileO_true hct hst e, q⟩
      · rw [if_neg hin] at hst
        obtain ⟨hn1, hn2⟩ := hnext k hk.1 hk.2
        have hlt : found.length < n := by
          have nd2 : (k :: found).Nodup := List.nodup_cons.mpr ⟨hin, nd⟩
          rcases nodup_le nd2 (fun x hx => by
            rcases List.mem_cons.mp hx with rfl | hx
            · exact hk
            · exact h1 x hx) with h | h
          · simp at h; omega
          · cases h
        have e1 : (n - found.length) * (n + 1) = (n - (found.length + 1)) * (n + 1) + (n + 1) := by
          rw [show n - found.length = (n - (found.length + 1)) + 1 by omega, Nat.add_mul, Nat.one_mul]
        have e2 : (found.length + 1) * n = found.length * n + n := by rw [Nat.add_mul, Nat.one_mul]
        obtain ⟨fin, e, q⟩ := ih (found ++ [k]) (l' ++ next k) (by
            rw [List.length_append] at hm ⊢
            rw [List.length_append]
            simp only [List.length_cons, List.length_nil] at hm ⊢
            rw [Nat.zero_add]
            omega) (by
            rw [List.nodup_append]
            exact ⟨nd, by simp, fun a ha b hb => by rw [List.mem_singleton.mp hb]; exact fun z => hin (z ▸ ha)⟩) (fun x hx => by
            rcases List.mem_append.mp hx with hx | hx
            · exact h1 x hx
            · rw [List.mem_singleton.mp hx]; exact hk) (fun x hx => by
            rcases List.mem_append.mp hx with hx | hx
            · exact h2 x (by simp [hx])
            · exact hn2 x hx) (by
            rw [List.length_append] at h3 ⊢
            rw [List.length_append]
            simp only [List.length_cons, List.length_nil] at h3 ⊢
            rw [Nat.zero_add, e2]
            omega) (fun x hx => by
            rcases List.mem_append.mp hx with hx | hx
            · exact h4 x hx
            · rw [List.mem_singleton.mp hx]; exact h5 k (by simp)) (fun x hx => by
            rcases List.mem_append.mp hx with hx | hx
            · exact h5 x (by simp [hx])
            · exact hR k (h5 k (by simp)) x hx)
          (fun j hj x hx => by
            rcases List.mem_append.mp hj with hj | hj
            · rcases h6 j hj x hx with h | h
              · exact .inl (by simp [h])
              · rcases List.mem_append.mp h with h | h
                · exact .inr (by simp [h])
                · rw [List.mem_singleton.mp h]; exact .inl (by simp)
            · rw [List.mem_singleton.mp hj] at hx
              exact .inr (by simp [hx]))
          (fun x hx => by
            rcases h7 x hx with h | h
            · exact .inl (by simp [h])
            · rcases List.mem_append.mp h with h | h
              · exact .inr (by simp [h])
              · rw [List.mem_singleton.mp h]; exact .inl (by simp))
        exact ⟨fin, whileO_true hct hst e, q⟩
/-- a search that takes the last of what is left -/
theorem search_ok {n : Nat} {next : Int → List Int} {c : (List Int × List Int) → Option Bool} {f : (List Int × List Int) → Option (List Int × List Int)} (hc : ∀ found lft : List Int, c (found, lft) = some (!decide (lft = [])))
    (hf : ∀ (found lft : List Int) (k : Int), 0 ≤ k → k < n → found.length ≤ n → lft.length ≤ 2000000 → f (found, lft ++ [k]) = some (if k ∈ found then (found, lft) else (found ++ [k], lft ++ next k)))
    (hn : n ≤ 1000) (hnext : ∀ k : Int, 0 ≤ k → k < n → (next k).length ≤ n ∧ ∀ x ∈ next k, 0 ≤ x ∧ x < n) {some_ : List Int} (hs : ∀ x ∈ some_, 0 ≤ x ∧ x < n) (hl : some_.length ≤ 1000) :
    ∃ fin, whileO c f ([], some_) = some (fin, []) ∧ fin.Nodup ∧ (∀ x ∈ fin, 0 ≤ x ∧ x < n) ∧ ∀ x, x ∈ fin ↔ ∃ s ∈ some_, Star (fun a b => b ∈ next a) s x := by
  obtain ⟨fin, e, nd, h1, h2, h3, h4⟩ := search_go hc hf hn hnext (fun x => ∃ s ∈ some_, Star (fun a b => b ∈ next a) s x) (fun k ⟨s, hs, r⟩ x hx => ⟨s, hs, .step r hx⟩) some_ _ [] some_ (Nat.le_refl _) List.nodup_nil (fun x h => by cases h) hs (by simpa using hl) (fun x h => by cases h) (fun x hx => ⟨x, hx, .refl _⟩) (fun x h => by cases h) (fun x hx => .inr hx)
  exact ⟨fin, e, nd, h1, fun x => ⟨h2 x, fun ⟨s, hs, r⟩ => r.closed (P := fun y => y ∈ fin) (h4 s hs) fun a b ha hb => h3 a ha b hb⟩⟩
/-! ### rounds: each adds what has something found ahead of it -/
def addR (cs : List (List Int)) (found : List Int) (k : Int) : List Int := if k ∉ found ∧ ∃ c ∈ rowAt cs k, c ∈ found then found ++ [k] else found
theorem addR_pre (cs : List (List Int)) (found : List Int) (k : Int) : found <+: addR cs found k := by
  unfold addR
  split
  · exact List.prefix_append _ _
  · exact List.prefix_refl _
def roundR (cs : List (List Int)) (ks : List Int) (found : List Int) : List Int := ks.foldl (addR cs) found
theorem roundR_pre (cs : List (List Int)) : ∀ (ks found : List Int), found <+: roundR cs ks found
  | [], found => List.prefix_refl _
  | k :: ks, found => (addR_pre cs found k).trans (roundR_pre cs ks _)
theorem roundR_same (cs : List (List Int)) : ∀ (ks found : List Int), (roundR cs ks found).length = found.length → ∀ k ∈ ks, (∃ c ∈ rowAt cs k, c ∈ found) → k ∈ found
  | k :: ks, found, h, j, hj, hc => by
    have h1 := (addR_pre cs found k).length_le
    have h2 := (roundR_pre cs ks (addR cs found k)).length_le
    have h' : (roundR cs ks (addR cs found k)).length = found.length := h
    have e : addR cs found k = found := ((addR_pre cs found k).eq_of_length (by omega)).symm
    rcases List.mem_cons.mp hj with rfl | hj
    · by_cases hin : j ∈ found
      · exact hin
      · unfold addR at e
        rw [if_pos ⟨hin, hc⟩] at e
        have := congrArg List.length e
        simp at this
    · rw [e] at h'
      exact roundR_same cs ks found h' j hj hc
def Dn (cs : List (List Int)) (n : Int) (a b : Int) : Prop := 0 ≤ b ∧ b < n ∧ a ∈ rowAt cs b
structure LowInv (cs : List (List Int)) (n : Int) (x : Int) (found : List Int) : Prop where
  nd : found.Nodup
  dom : ∀ k ∈ found, 0 ≤ k ∧ k < n
  reach : ∀ k ∈ found, Star (Dn cs n) x k
  start : x ∈ found
theorem LowInv.add {cs : List (List Int)} {n x : Int} {found : List Int} (h : LowInv cs n x found) {k : Int} (k0 : 0 ≤ k) (k1 : k < n) : LowInv cs n x (addR cs found k) := by
  unfold addR
  split
  · rename_i hk
    obtain ⟨hk, c, hc, hf⟩ := hk
    refine ⟨?_, fun j hj => ?_, fun j hj => ?_, by simp [h.start]⟩
    · rw [List.nodup_append]
      exact ⟨h.nd, by simp, fun a ha b hb => by rw [List.mem_singleton.mp hb]; exact fun z => hk (z ▸ ha)⟩
    · rcases List.mem_append.mp hj with hj | hj
      · exact h.dom j hj
      · rw [List.mem_singleton.mp hj]; exact ⟨k0, k1⟩
    · rcases List.mem_append.mp hj with hj | hj
      · exact h.reach j hj
      · rw [List.mem_singleton.mp hj]; exact .step (h.reach c hf) ⟨k0, k1, hc⟩
  · exact h
theorem LowInv.round {cs : List (List Int)} {n x : Int} : ∀ {ks found : List Int}, LowInv cs n x found → (∀ k ∈ ks, 0 ≤ k ∧ k < n) → LowInv cs n x (roundR cs ks found)
  | [], found, h, _ => h
  | k :: ks, found, h, hk => LowInv.round (ks := ks) (found := addR cs found k) (h.add (hk k List.mem_cons_self).1 (hk k List.mem_cons_self).2) fun j hj => hk j (List.mem_cons_of_mem _ hj)
def roundsR (cs : List (List Int)) (ks : List Int) : Nat → List Int → List Int
  | 0, found => found
  | t + 1, found => roundsR cs ks t (roundR cs ks found)
theorem rounds_fix (cs : List (List Int)) (ks : List Int) : ∀ (t : Nat) (found : List Int), roundR cs ks found = found → roundsR cs ks t found = found
  | 0, _, _ => rfl
  | t + 1, found, h => by
    show roundsR cs ks t (roundR cs ks found) = found
    rw [h]; exact rounds_fix cs ks t found h
theorem rounds_grow (cs : List (List Int)) (ks : List Int) : ∀ (t : Nat) (found : List Int), roundR cs ks (roundsR cs ks t found) = roundsR cs ks t found ∨ found.length + t ≤ (roundsR cs ks t found).length
  | 0, found => .inr (Nat.le_refl _)
  | t + 1, found => by
    have hp := roundR_pre cs ks found
    by_cases h : (roundR cs ks found).length = found.length
    · have e : roundR cs ks found = found := (hp.eq_of_length h.symm).symm
      rw [rounds_fix cs ks (t + 1) found e]
      exact .inl e
    · have := hp.length_le
      rcases rounds_grow cs ks t (roundR cs ks found) with h1 | h1
      · exact .inl h1
      · refine .inr ?_
        show found.length + (t + 1) ≤ (roundsR cs ks t (roundR cs ks found)).length
        omega
theorem LowInv.rounds {cs : List (List Int)} {n x : Int} {ks : List Int} (hk : ∀ k ∈ ks, 0 ≤ k ∧ k < n) : ∀ (t : Nat) {found : List Int}, LowInv cs n x found → LowInv cs n x (roundsR cs ks t found)
  | 0, _, h => h
  | t + 1, _, h => LowInv.rounds hk t (h.round hk)
/-- n rounds find all that is beneath -/
theorem rounds_ok {cs : List (List Int)} {n x : Int} (x0 : 0 ≤ x) (x1 : x < n) : let fin := roundsR cs (rng 0 n) n.toNat [x]
    fin.Nodup ∧ (∀ k ∈ fin, 0 ≤ k ∧ k < n) ∧ ∀ k, k ∈ fin ↔ Star (Dn cs n) x k := by
  intro fin
  have hk : ∀ k ∈ rng 0 n, 0 ≤ k ∧ k < n := fun k hk => mem_rng.mp hk
  have h0 : LowInv cs n x [x] := ⟨by simp, fun k hk => by rw [List.mem_singleton.mp hk]; exact ⟨x0, x1⟩, fun k hk => by rw [List.mem_singleton.mp hk]; exact .refl _, by simp⟩
  have h : LowInv cs n x fin := LowInv.rounds hk n.toNat h0
  have hle : (fin.length : Int) ≤ n := by
    rcases nodup_le h.nd h.dom with h | h
    · exact h
    · rw [h]; show ((0 : Nat) : Int) ≤ n; omega
  have fix : roundR cs (rng 0 n) fin = fin := by
    rcases rounds_grow cs (rng 0 n) n.toNat [x] with h1 | h1
    · exact h1
    · have : [x].length + n.toNat ≤ fin.length := h1
      simp at this; omega
  refine ⟨h.nd, h.dom, fun k => ⟨h.reach k, fun s => s.closed (P := fun y => y ∈ fin) h.start fun a b ha hb => ?_⟩⟩
  exact roundR_same cs (rng 0 n) fin (by rw [fix]) b (mem_rng.mpr ⟨hb.1, hb.2.1⟩) ⟨a, hb.2.2, ha⟩
theorem popO_snoc {α : Type} (xs : List α) (a : α) : popO (xs ++ [a]) = some (a, xs) := by
  unfold popO
  rw [List.length_append]
  simp
def eff (cs : List (List Int)) (k : Int) : List Int := (rng 0 cs.length).filter fun e => isIn k (rowAt cs e)
theorem mem_eff {cs : List (List Int)} {k e : Int} : e ∈ eff cs k ↔ (0 ≤ e ∧ e < cs.length) ∧ k ∈ rowAt cs e := by
  unfold eff
  rw [List.mem_filter, mem_rng, isIn_iff]
theorem eff_asc (cs : List (List Int)) (k : Int) : (eff cs k).Pairwise (· < ·) := (rng_pw 0 _).filter _
theorem eff_len (cs : List (List Int)) (k : Int) : (eff cs k).length ≤ cs.length := by
  have := List.length_filter_le (fun e => isIn k (rowAt cs e)) (rng 0 cs.length)
  rw [rng_len] at this
  unfold eff; omega
/-- up the arrows, down the arrows -/
def Up (cs : List (List Int)) (a b : Int) : Prop := b ∈ rowAt cs a
theorem star_down {n : Int} {cs : List (List Int)} (S : Shape n cs) {a b : Int} (h : Star (Up cs) b a) (h0 : 0 ≤ b) (h1 : b < n) : (0 ≤ a ∧ a < n) ∧ Star (Dn cs n) a b := by
  have hd : 0 ≤ a ∧ a < n := h.closed (P := fun x => 0 ≤ x ∧ x < n) ⟨h0, h1⟩ fun x y hx hy => S.dom' hx.1 hx.2 hy
  refine ⟨hd, ?_⟩
  have key : ∀ {b a : Int}, Star (Up cs) b a → 0 ≤ b → b < n → Star (Dn cs n) a b ∧ 0 ≤ a ∧ a < n := by
    intro b a h
    induction h with
    | refl => intro h0 h1; exact ⟨.refl _, h0, h1⟩
    | step _ r ih =>
      intro h0 h1
      obtain ⟨s, q0, q1⟩ := ih h0 h1
      exact ⟨Star.head ⟨q0, q1, r⟩ s, S.dom' q0 q1 r⟩
  exact (key h h0 h1).1
theorem star_up {n : Int} {cs : List (List Int)} {a b : Int} (h : Star (Dn cs n) a b) : Star (Up cs) b a := by
  induction h with
  | refl => exact .refl _
  | step _ r ih => exact Star.head r.2.2 ih
theorem star_eff {n : Int} {cs : List (List Int)} (hl : (cs.length : Int) = n) {a b : Int} : Star (fun x y => y ∈ eff cs x) a b ↔ Star (Dn cs n) a b :=
  ⟨fun h => h.mono fun x y hy => by
    obtain ⟨⟨h0, h1⟩, h2⟩ := mem_eff.mp hy
    exact ⟨h0, by omega, h2⟩, fun h => h.mono fun x y ⟨h0, h1, h2⟩ => mem_eff.mpr ⟨⟨h0, by omega⟩, h2⟩⟩
end Mir

namespace Mir
open PySem PySem.Spec L2
open ToD (toD)
set_option autoImplicit false
/-! ## mathematics of books -/
theorem sum_nonneg : ∀ {xs : List Int}, (∀ x ∈ xs, 0 ≤ x) → 0 ≤ xs.sum
  | [], _ => by simp
  | x :: xs, h => by
    have h1 := h x List.mem_cons_self
    have h2 := sum_nonneg fun y hy => h y (List.mem_cons_of_mem _ hy)
    rw [List.sum_cons]; omega
theorem le_sum : ∀ {xs : List Int} {x : Int}, (∀ x ∈ xs, 0 ≤ x) → x ∈ xs → x ≤ xs.sum
  | y :: xs, x, h, hx => by
    have h1 := h y List.mem_cons_self
    have h2 := sum_nonneg fun y hy => h y (List.mem_cons_of_mem _ hy)
    rw [List.sum_cons]
    rcases List.mem_cons.mp hx with rfl | hx
    · omega
    · have := le_sum (fun y hy => h y (List.mem_cons_of_mem _ hy)) hx
      omega
theorem sum_le : ∀ {xs : List Int} {b : Int}, (∀ x ∈ xs, x ≤ b) → xs.sum ≤ b * xs.length
  | [], b, _ => by simp
  | x :: xs, b, h => by
    have h1 := h x List.mem_cons_self
    have h2 := sum_le fun y hy => h y (List.mem_cons_of_mem _ hy)
    rw [List.sum_cons, List.length_cons, Int.natCast_add, Int.mul_add]
    omega
def at0 (xs : List Int) (k : Int) : Int := xs.getD k.toNat 0
theorem atI_at0 {xs : List Int} {k : Int} (h0 : 0 ≤ k) (h : k < xs.length) : atI xs k = some (at0 xs k) := by
  rw [atI_ok h0 h]
  unfold at0
  rw [List.getD_eq_getElem?_getD, List.getElem?_eq_getElem (by omega)]; rfl
theorem at0_mem {xs : List Int} {k : Int} (h0 : 0 ≤ k) (h : k < xs.length) : at0 xs k ∈ xs := by
  have : xs[k.toNat]? = some (at0 xs k) := by
    unfold at0
    rw [List.getD_eq_getElem?_getD, List.getElem?_eq_getElem (by omega)]; rfl
  exact List.mem_of_getElem? this
/-- a row of weights -/
structure GRow (size : Int) (row : List Int) : Prop where
  len : (row.length : Int) = size
  lo : ∀ w ∈ row, 0 ≤ w
  hi : ∀ w ∈ row, w < big
  pos : 0 < row.sum
/-- a book of n things -/
structure GBook (n : Int) (sizes : List Int) (causes : List (List Int)) (tables : List (List (List Int))) : Prop where
  shape : Shape n causes
  slen : (sizes.length : Int) = n
  size : ∀ s ∈ sizes, 2 ≤ s ∧ s ≤ 4
  tlen : (tables.length : Int) = n
  table : ∀ k : Int, 0 ≤ k → k < n → ∃ t, atI tables k = some t ∧ (t.length : Int) = pr ((rowAt causes k).map (at0 sizes)) ∧ ∀ row ∈ t, GRow (at0 sizes k) row
theorem GBook.at {n : Int} {sizes : List Int} {causes : List (List Int)} {tables : List (List (List Int))} (B : GBook n sizes causes tables) {k : Int} (h0 : 0 ≤ k) (h : k < n) : atI sizes k = some (at0 sizes k) ∧ 2 ≤ at0 sizes k ∧ at0 sizes k ≤ 4 := by
  have hl := B.slen
  exact ⟨atI_at0 h0 (by omega), B.size _ (at0_mem h0 (by omega))⟩
theorem pr_le : ∀ {xs : List Int} {b : Int}, (∀ x ∈ xs, 1 ≤ x ∧ x ≤ b) → 1 ≤ b → pr xs ≤ b ^ xs.length
  | [], b, _, _ => by simp [pr]
  | x :: xs, b, h, hb => by
    have h1 := h x List.mem_cons_self
    have h2 := pr_le (fun y hy => h y (List.mem_cons_of_mem _ hy)) hb
    have hp : 1 ≤ pr xs := pr_pos fun y hy => (h y (List.mem_cons_of_mem _ hy)).1
    show x * pr xs ≤ b ^ (xs.length + 1)
    rw [Int.pow_succ, Int.mul_comm]
    exact Int.mul_le_mul h2 h1.2 (by omega) (by omega)
theorem pr_le5 {xs : List Int} (h : ∀ x ∈ xs, 1 ≤ x ∧ x ≤ 4) (hl : xs.length ≤ 5) : pr xs ≤ 1024 := by
  have h1 := pr_le h (by decide)
  have h2 : (4 : Int) ^ xs.length ≤ 1024 := by
    have : xs.length = 0 ∨ xs.length = 1 ∨ xs.length = 2 ∨ xs.length = 3 ∨ xs.length = 4 ∨ xs.length = 5 := by omega
    rcases this with e | e | e | e | e | e <;> rw [e] <;> decide
  omega
/-- the values of a thing's causes in a world fit their sizes -/
theorem fits_map {sizes world : List Int} : ∀ {cs : List Int}, (∀ c ∈ cs, 0 ≤ at0 world c ∧ at0 world c < at0 sizes c) → Fits (cs.map (at0 sizes)) (cs.map (at0 world))
  | [], _ => trivial
  | c :: cs, h => ⟨h c List.mem_cons_self, fits_map fun x hx => h x (List.mem_cons_of_mem _ hx)⟩
/-- a world of a book -/
structure GWorld (n : Int) (sizes world : List Int) : Prop where
  len : (world.length : Int) = n
  val : ∀ k, 0 ≤ k → k < n → 0 ≤ at0 world k ∧ at0 world k < at0 sizes k
end Mir

namespace Mir
open PySem PySem.Spec L2
open ToD (toD)
set_option autoImplicit false
/-! ## more of books -/
theorem mapO_rel {α β : Type} {f : α → Option β} {R : α → β → Prop} : ∀ {xs : List α}, (∀ x ∈ xs, ∃ y, f x = some y ∧ R x y) → ∃ ys, mapO f xs = some ys ∧ ys.length = xs.length ∧ ∀ (i : Nat) (x : α), xs[i]? = some x → ∃ y, ys[i]? = some y ∧ R x y
  | [], _ => ⟨[], rfl, rfl, fun i x h => by simp at h⟩
  | x :: xs, h => by
    obtain ⟨y, e, r⟩ := h x List.mem_cons_self
    obtain ⟨ys, e2, l, r2⟩ := mapO_rel (xs := xs) fun z hz => h z (List.mem_cons_of_mem _ hz)
    refine ⟨y :: ys, by simp [mapO, e, e2], by simp [l], fun i z hz => ?_⟩
    cases i with
    | zero =>
      have : x = z := by simpa using hz
      subst this
      exact ⟨y, rfl, r⟩
    | succ i => simpa using r2 i z (by simpa using hz)
/-- what a map over 0, .., n - 1 finds -/
theorem mapO_rng {β : Type} {f : Int → Option β} {n : Int} {R : Int → β → Prop} (h : ∀ k, 0 ≤ k → k < n → ∃ y, f k = some y ∧ R k y) : ∃ ys, mapO f (rng 0 n) = some ys ∧ ys.length = n.toNat ∧ ∀ k, 0 ≤ k → k < n → ∃ y, atI ys k = some y ∧ R k y := by
  obtain ⟨ys, e, l, r⟩ := mapO_rel (f := f) (R := R) (xs := rng 0 n) fun k hk => h k (mem_rng.mp hk).1 (mem_rng.mp hk).2
  refine ⟨ys, e, by rw [l, rng_len]; omega, fun k h0 h1 => ?_⟩
  obtain ⟨y, hy, hr⟩ := r k.toNat k (by rw [rng_idx (by omega)]; congr 1; omega)
  exact ⟨y, by rw [atI_get? h0]; exact hy, hr⟩
theorem cut_toI {α : Type} (xs : List α) {i : Int} (h : 0 ≤ i) : cut xs none (some i) = xs.take i.toNat := by
  have := cut_to xs i.toNat
  rwa [show ((i.toNat : Nat) : Int) = i by omega] at this
theorem cut_fromI {α : Type} (xs : List α) {i : Int} (h : 0 ≤ i) : cut xs (some i) none = xs.drop i.toNat := by
  have := cut_from xs i.toNat
  rwa [show ((i.toNat : Nat) : Int) = i by omega] at this
theorem Shape.sub {n : Int} {cs cs' : List (List Int)} (S : Shape n cs) (hl : cs'.length = cs.length) (h : ∀ (k : Nat) (row' : List Int), cs'[k]? = some row' → ∃ row, cs[k]? = some row ∧ row'.Sublist row) : Shape n cs' := by
  have hm : ∀ row' ∈ cs', ∃ row ∈ cs, row'.Sublist row := by
    intro row' hr
    obtain ⟨k, hk⟩ := List.mem_iff_getElem?.mp hr
    obtain ⟨row, e, s⟩ := h k row' hk
    exact ⟨row, List.mem_of_getElem? e, s⟩
  refine ⟨by rw [hl]; exact S.len, fun r hr => ?_, fun r hr => ?_, fun r hr c hc => ?_, ?_⟩
  · obtain ⟨row, m, s⟩ := hm r hr
    exact (S.asc row m).sublist s
  · obtain ⟨row, m, s⟩ := hm r hr
    have := S.few row m
    have := s.length_le
    omega
  · obtain ⟨row, m, s⟩ := hm r hr
    exact S.dom row m c (s.subset hc)
  · obtain ⟨rank, hr⟩ := S.acy
    refine ⟨rank, fun k row' c k0 hk hc => ?_⟩
    obtain ⟨row, e, s⟩ := h _ row' hk
    exact hr k row c k0 e (s.subset hc)
theorem pos_of {xs : List Int} {a b : Int} (h : ∀ x ∈ xs, a ≤ x ∧ x ≤ b) (ha : 1 ≤ a) : Pos xs := fun s hs => by have := h s hs; omega
theorem GBook.pos {n : Int} {sizes : List Int} {causes : List (List Int)} {tables : List (List (List Int))} (B : GBook n sizes causes tables) {k : Int} (h0 : 0 ≤ k) (h : k < n) : (∀ x ∈ (rowAt causes k).map (at0 sizes), 1 ≤ x ∧ x ≤ 4) ∧ Pos ((rowAt causes k).map (at0 sizes)) ∧ pr ((rowAt causes k).map (at0 sizes)) ≤ 1024 := by
  have h4 : ∀ x ∈ (rowAt causes k).map (at0 sizes), 1 ≤ x ∧ x ≤ 4 := by
    intro x hx
    obtain ⟨c, hc, rfl⟩ := List.mem_map.mp hx
    obtain ⟨c0, c1⟩ := B.shape.dom' h0 h hc
    have := (B.at c0 c1).2
    omega
  exact ⟨h4, pos_of h4 (by omega), pr_le5 h4 (by rw [List.length_map]; exact B.shape.few _ (B.shape.mem h0 h))⟩
theorem GBook.kin {n : Int} {sizes world : List Int} {causes : List (List Int)} {tables : List (List (List Int))} (B : GBook n sizes causes tables) (W : GWorld n sizes world) {k : Int} (h0 : 0 ≤ k) (h : k < n) : Fits ((rowAt causes k).map (at0 sizes)) ((rowAt causes k).map (at0 world)) :=
  fits_map fun c hc => by
    obtain ⟨c0, c1⟩ := B.shape.dom' h0 h hc
    exact W.val c c0 c1
/-- the place of a thing's row in a world, and the row -/
def bPlace (sizes : List Int) (causes : List (List Int)) (world : List Int) (k : Int) : Int := rk ((rowAt causes k).map (at0 sizes)) ((rowAt causes k).map (at0 world))
def bRow (sizes : List Int) (causes : List (List Int)) (tables : List (List (List Int))) (world : List Int) (k : Int) : List Int := (tables.getD k.toNat []).getD (bPlace sizes causes world k).toNat []
theorem GBook.row {n : Int} {sizes world : List Int} {causes : List (List Int)} {tables : List (List (List Int))} (B : GBook n sizes causes tables) (W : GWorld n sizes world) {k : Int} (h0 : 0 ≤ k) (h : k < n) : ∃ t, atI tables k = some t ∧ atI t (bPlace sizes causes world k) = some (bRow sizes causes tables world k) ∧ GRow (at0 sizes k) (bRow sizes causes tables world k) := by
  obtain ⟨t, et, hl, hg⟩ := B.table k h0 h
  obtain ⟨_, hp, _⟩ := B.pos h0 h
  obtain ⟨p0, p1⟩ := rk_lt hp (B.kin W h0 h)
  have htl := B.tlen
  have e1 : tables.getD k.toNat [] = t := by
    rw [atI_get? h0] at et
    rw [List.getD_eq_getElem?_getD, et]; rfl
  have e2 : atI t (bPlace sizes causes world k) = some (bRow sizes causes tables world k) := by
    unfold bRow
    rw [e1]
    exact atI_row (cs := t) p0 (by unfold bPlace; omega)
  refine ⟨t, et, e2, hg _ ?_⟩
  rw [atI_get? (show 0 ≤ bPlace sizes causes world k from p0)] at e2
  exact List.mem_of_getElem? e2
/-- the chance of a thing's value in a world -/
def bChance (sizes : List Int) (causes : List (List Int)) (tables : List (List (List Int))) (world : List Int) (k : Int) : Rat := Rat.divInt (at0 (bRow sizes causes tables world k) (at0 world k)) (bRow sizes causes tables world k).sum
theorem GRow.sum_lt {size : Int} {row : List Int} (G : GRow size row) (h : size ≤ 4) : row.sum.natAbs < 2 ^ 203 := by
  have h1 := sum_le (b := big) (fun x hx => Int.le_of_lt (G.hi x hx))
  have h2 := G.pos
  have h3 := G.len
  have e : (2 : Nat) ^ 203 = 12855504354071922204335696738729300820177623950262342682411008 := by decide
  rw [e]
  have h5 : big * (row.length : Int) ≤ big * 4 := Int.mul_le_mul_of_nonneg_left (by omega) (by decide)
  unfold big at h5 h1
  omega
theorem GRow.at {size : Int} {row : List Int} (G : GRow size row) {a : Int} (h0 : 0 ≤ a) (h : a < size) : atI row a = some (at0 row a) ∧ 0 ≤ at0 row a ∧ at0 row a < big := by
  have := G.len
  have hm := at0_mem (xs := row) h0 (by omega)
  exact ⟨atI_at0 h0 (by omega), G.lo _ hm, G.hi _ hm⟩
theorem lo_natAbs {a : Int} (h0 : 0 ≤ a) (h : a < big) : a.natAbs < 2 ^ 200 := lo_big h0 (by omega)
theorem getD_set {α : Type} (xs : List α) (i j : Nat) (a d : α) : (xs.set i a).getD j d = if i = j ∧ i < xs.length then a else xs.getD j d := by
  rw [List.getD_eq_getElem?_getD, List.getD_eq_getElem?_getD, List.getElem?_set]
  by_cases h : i = j
  · subst h
    by_cases hl : i < xs.length
    · simp [hl]
    · simp [hl]
  · simp [h]
theorem at0_set {xs : List Int} {i : Nat} {k a : Int} (h0 : 0 ≤ k) : at0 (xs.set i a) k = if i = k.toNat ∧ i < xs.length then a else at0 xs k := getD_set xs i k.toNat a 0
theorem at0_of {xs : List Int} {k a : Int} (h0 : 0 ≤ k) (h : atI xs k = some a) : at0 xs k = a := by
  rw [atI_get? h0] at h
  unfold at0
  rw [List.getD_eq_getElem?_getD, h]; rfl
theorem gbook_copy (t : List (List (List Int))) : mapO (fun zrows => (mapO (fun zrow_here => some zrow_here) zrows).bind fun t1 => some t1) t = some t := by
  have : mapO (fun zrows : List (List Int) => (mapO (fun zrow_here => some zrow_here) zrows).bind fun t1 => some t1) t = some (t.map fun x => x) := mapO_ok fun x _ => by rw [mapO_id]; rfl
  rw [this, List.map_id']
theorem gcd_loopI {c : Int × Int → Option Bool} {f : Int × Int → Option (Int × Int)} (hc : ∀ (a : Int) (b : Nat), c (a, (b : Int)) = some (decide (b ≠ 0))) (hf : ∀ (a : Int) (b : Nat), b ≠ 0 → f (a, (b : Int)) = some ((b : Int), a % (b : Int))) (a : Int) {b : Nat} (hb : b ≠ 0) : whileO c f (a, (b : Int)) = some ((Int.gcd a b : Int), 0) := by
  refine whileO_true (by rw [hc]; simp [hb]) (hf a b hb) ?_
  have h0 := Int.emod_nonneg a (show (b : Int) ≠ 0 by omega)
  obtain ⟨r, hr⟩ := Int.eq_ofNat_of_zero_le h0
  rw [hr, gcd_loop (fun a b => hc a b) (fun a b hb => hf a b hb)]
  have : Int.gcd a b = Nat.gcd b r := by
    have e : a = (r : Int) + (b : Int) * (a / (b : Int)) := by
      have := Int.mul_ediv_add_emod a (b : Int)
      omega
    have h := Int.gcd_add_mul_left_left (b : Int) (r : Int) (a / (b : Int))
    rw [← e] at h
    rw [h, Int.gcd_comm]; rfl
  rw [this]
end Mir

namespace Mir
open PySem PySem.Spec L2
open ToD (toD)
set_option autoImplicit false
/-! ## shapes in the making; searches by a queue -/
theorem forB_inv {α τ ω : Type} {f : τ → α → Option (Fl τ τ)} (P : List α → τ → Prop) (Q : τ → Prop) {k : τ → Option ω} : ∀ (xs done : List α) (st : τ), P done st →
    (∀ d x r st, done ++ xs = d ++ x :: r → P d st → (∃ st', f st x = some (.nxt st') ∧ P (d ++ [x]) st') ∨ (∃ st', f st x = some (.ret st') ∧ Q st')) → (∀ st, P (done ++ xs) st → Q st) → ∃ fin, (forF f xs st).bind (flB k) = k fin ∧ Q fin
  | [], done, st, h0, _, hq => ⟨st, rfl, hq st (by rw [List.append_nil]; exact h0)⟩
  | x :: xs, done, st, h0, hs, hq => by
    rcases hs done x xs st rfl h0 with ⟨st', e, h'⟩ | ⟨st', e, h'⟩
    · obtain ⟨fin, e2, h2⟩ := forB_inv P Q (k := k) xs (done ++ [x]) st' h' (fun d y r st q => hs d y r st (by rw [← q, List.append_assoc]; rfl)) (fun st h => hq st (by rw [List.append_assoc] at h; exact h))
      exact ⟨fin, by simp only [forF, e, Option.bind_some, flF]; exact e2, h2⟩
    · exact ⟨st', by simp only [forF, e, Option.bind_some, flF, flB], h'⟩
theorem popAtO_ok {α : Type} {xs : List α} {i : Int} (h0 : 0 ≤ i) (h : i < xs.length) (hl : xs.length ≤ 1000000) : popAtO xs i = some (xs.eraseIdx i.toNat) := by
  unfold popAtO ixN
  rw [if_pos (by omega), if_pos h0, if_pos h]; rfl
theorem mem_eraseIdx {α : Type} {xs : List α} {i : Nat} {a : α} (h : a ∈ xs.eraseIdx i) : a ∈ xs := (List.eraseIdx_sublist xs i).subset h
theorem bfs_go {n : Nat} {next : Int → List Int} {c : (List Int × Int) → Option Bool} {f : (List Int × Int) → Option (List Int × Int)} (hc : ∀ (found : List Int) (at_ : Nat), c (found, (at_ : Int)) = some (decide (at_ < found.length)))
    (hf : ∀ (found : List Int) (at_ : Nat) (x : Int), found[at_]? = some x → 0 ≤ x → x < n → found.length ≤ n → f (found, (at_ : Int)) = some (found ++ (next x).filter (fun y => !isIn y found), ((at_ + 1 : Nat) : Int)))
    (hnext : ∀ k : Int, 0 ≤ k → k < n → (next k).Nodup ∧ ∀ x ∈ next k, 0 ≤ x ∧ x < n) (R : Int → Prop) (hR : ∀ k : Int, R k → ∀ x ∈ next k, R x) (some_ : List Int) :
    ∀ (m : Nat) (found : List Int) (at_ : Nat), n - at_ ≤ m → at_ ≤ found.length → found.Nodup → (∀ x ∈ found, 0 ≤ x ∧ x < n) → (∀ x ∈ found, R x) → (∀ (i : Nat) x, i < at_ → found[i]? = some x → ∀ y ∈ next x, y ∈ found) → (∀ x ∈ some_, x ∈ found) →
      ∃ fin at', whileO c f (found, (at_ : Int)) = some (fin, at') ∧ fin.Nodup ∧ (∀ x ∈ fin, 0 ≤ x ∧ x < n) ∧ (∀ x ∈ fin, R x) ∧ (∀ k ∈ fin, ∀ x ∈ next k, x ∈ fin) ∧ ∀ x ∈ some_, x ∈ fin := by
  have hlen : ∀ found : List Int, found.Nodup → (∀ x ∈ found, 0 ≤ x ∧ x < n) → found.length ≤ n := by
    intro found nd hd
    have := nodup_len_le (ys := rng 0 n) nd fun x hx => mem_rng.mpr (hd x hx)
    rw [rng_len] at this; omega
  intro m
  induction m with
  | zero =>
    intro found at_ hm ha nd hd hr hcl hs
    have := hlen found nd hd
    exact ⟨found, _, whileO_false (by rw [hc, decide_eq_false (by omega)]), nd, hd, hr, fun k hk x hx => by
      obtain ⟨i, hi⟩ := List.mem_iff_getElem?.mp hk
      have := (List.getElem?_eq_some_iff.mp hi).1
      exact hcl i k (by omega) hi x hx, hs⟩
  | succ m ih =>
    intro found at_ hm ha nd hd hr hcl hs
    have hfl := hlen found nd hd
    by_cases hlt : at_ < found.length
    · have hx : found[at_]? = some found[at_] := List.getElem?_eq_getElem hlt
      have hxm : found[at_] ∈ found := List.getElem_mem hlt
      obtain ⟨x0, x1⟩ := hd _ hxm
      obtain ⟨nn, nd'⟩ := hnext _ x0 x1
      have hnew : (found ++ (next found[at_]).filter fun y => !isIn y found).Nodup := by
        rw [List.nodup_append]
        refine ⟨nd, nn.filter _, fun a ha b hb e => ?_⟩
        subst e
        have := (List.mem_filter.mp hb).2
        rw [(isIn_iff (x := a) (xs := found)).mpr ha] at this
        cases this
      obtain ⟨fin, at', e, r⟩ := ih (found ++ (next found[at_]).filter fun y => !isIn y found) (at_ + 1) (by omega) (by rw [List.length_append]; omega) hnew (fun x hx => by
        rcases List.mem_append.mp hx with hx | hx
        · exact hd x hx
        · exact nd' x (List.mem_filter.mp hx).1) (fun x hx => by
        rcases List.mem_append.mp hx with hx | hx
        · exact hr x hx
        · exact hR _ (hr _ hxm) x (List.mem_filter.mp hx).1) (fun i x hi hx y hy => by
        by_cases h : i < at_
        · rw [List.getElem?_append_left (by omega)] at hx
          exact List.mem_append_left _ (hcl i x h hx y hy)
        · have : i = at_ := by omega
          subst this
          rw [List.getElem?_append_left hlt, List.getElem?_eq_getElem hlt] at hx
          cases hx
          by_cases hin : isIn y found = true
          · exact List.mem_append_left _ (isIn_iff.mp hin)
          · exact List.mem_append_right _ (List.mem_filter.mpr ⟨hy, by simpa using hin⟩)) (fun x hx => List.mem_append_left _ (hs x hx))
      exact ⟨fin, at', whileO_true (by rw [hc, decide_eq_true hlt]) (hf found at_ _ hx x0 x1 hfl) e, r⟩
    · exact ⟨found, _, whileO_false (by rw [hc, decide_eq_false hlt]), nd, hd, hr, fun k hk x hx => by
        obtain ⟨i, hi⟩ := List.mem_iff_getElem?.mp hk
        have := (List.getElem?_eq_some_iff.mp hi).1
        exact hcl i k (by omega) hi x hx, hs⟩
theorem bfs_ok {n : Nat} {next : Int → List Int} {c : (List Int × Int) → Option Bool} {f : (List Int × Int) → Option (List Int × Int)} (hc : ∀ (found : List Int) (at_ : Nat), c (found, (at_ : Int)) = some (decide (at_ < found.length)))
    (hf : ∀ (found : List Int) (at_ : Nat) (x : Int), found[at_]? = some x → 0 ≤ x → x < n → found.length ≤ n → f (found, (at_ : Int)) = some (found ++ (next x).filter (fun y => !isIn y found), ((at_ + 1 : Nat) : Int)))
    (hnext : ∀ k : Int, 0 ≤ k → k < n → (next k).Nodup ∧ ∀ x ∈ next k, 0 ≤ x ∧ x < n) {some_ : List Int} (hs : ∀ x ∈ some_, 0 ≤ x ∧ x < n) (hn : some_.Nodup) :
    ∃ fin at', whileO c f (some_, 0) = some (fin, at') ∧ fin.Nodup ∧ (∀ x ∈ fin, 0 ≤ x ∧ x < n) ∧ ∀ x, x ∈ fin ↔ ∃ s ∈ some_, Star (fun a b => b ∈ next a) s x := by
  obtain ⟨fin, at', e, nd, h1, h2, h3, h4⟩ := bfs_go hc hf hnext (fun x => ∃ s ∈ some_, Star (fun a b => b ∈ next a) s x) (fun k ⟨s, hs, r⟩ x hx => ⟨s, hs, .step r hx⟩) some_ _ some_ 0 (Nat.le_refl _) (Nat.zero_le _) hn hs (fun x hx => ⟨x, hx, .refl _⟩) (fun i x h => by omega) (fun x hx => hx)
  exact ⟨fin, at', e, nd, h1, fun x => ⟨h2 x, fun ⟨s, hs, r⟩ => r.closed (P := fun y => y ∈ fin) (h4 s hs) fun a b ha hb => h3 a ha b hb⟩⟩
/-- a shape that is being made: its rows are not sorted yet -/
structure Half (n : Int) (cs : List (List Int)) : Prop where
  len : (cs.length : Int) = n
  nd : ∀ k, 0 ≤ k → k < n → (rowAt cs k).Nodup
  few : ∀ k, 0 ≤ k → k < n → (rowAt cs k).length ≤ 5
  dom : ∀ k c, 0 ≤ k → k < n → c ∈ rowAt cs k → 0 ≤ c ∧ c < n
  acy : ∃ rank : Int → Nat, ∀ k c, 0 ≤ k → k < n → c ∈ rowAt cs k → rank c < rank k
theorem rowAt_set {cs : List (List Int)} {i k : Int} {row : List Int} (i0 : 0 ≤ i) (i1 : i < cs.length) (k0 : 0 ≤ k) : rowAt (cs.set i.toNat row) k = if k = i then row else rowAt cs k := by
  unfold rowAt
  rw [getD_set]
  by_cases h : k = i
  · subst h; rw [if_pos ⟨rfl, by omega⟩, if_pos rfl]
  · rw [if_neg (by omega), if_neg h]
theorem Half.add {n : Int} {cs : List (List Int)} (H : Half n cs) {one other : Int} (a0 : 0 ≤ one) (a1 : one < n) (b0 : 0 ≤ other) (b1 : other < n) (hn : one ∉ rowAt cs other) (hl : (rowAt cs other).length < 5) (hr : ¬ Star (fun a b => b ∈ rowAt cs a) one other) : Half n (cs.set other.toNat (rowAt cs other ++ [one])) := by
  have hlen := H.len
  have hrow : ∀ k, 0 ≤ k → rowAt (cs.set other.toNat (rowAt cs other ++ [one])) k = if k = other then rowAt cs other ++ [one] else rowAt cs k := fun k k0 => rowAt_set b0 (by omega) k0
  refine ⟨by rw [List.length_set]; exact hlen, fun k k0 k1 => ?_, fun k k0 k1 => ?_, fun k c k0 k1 hc => ?_, ?_⟩
  · rw [hrow k k0]
    split
    · rw [List.nodup_append]
      exact ⟨H.nd _ b0 b1, by simp, fun a ha b hb => by rw [List.mem_singleton.mp hb]; exact fun z => hn (z ▸ ha)⟩
    · exact H.nd k k0 k1
  · rw [hrow k k0]
    split
    · rw [List.length_append]; exact hl
    · exact H.few k k0 k1
  · rw [hrow k k0] at hc
    split at hc
    · rcases List.mem_append.mp hc with hc | hc
      · exact H.dom _ c b0 b1 hc
      · rw [List.mem_singleton.mp hc]; exact ⟨a0, a1⟩
    · exact H.dom k c k0 k1 hc
  · obtain ⟨rank, h⟩ := H.acy
    classical
    refine ⟨fun x => if Star (fun a b => b ∈ rowAt cs a) x other then rank x + (rank one + 1) else rank x, fun k c k0 k1 hc => ?_⟩
    rw [hrow k k0] at hc
    have old : ∀ k c, 0 ≤ k → k < n → c ∈ rowAt cs k → (if Star (fun a b => b ∈ rowAt cs a) c other then rank c + (rank one + 1) else rank c) < (if Star (fun a b => b ∈ rowAt cs a) k other then rank k + (rank one + 1) else rank k) := by
      intro k c k0 k1 hc
      have hlt := h k c k0 k1 hc
      by_cases z : Star (fun a b => b ∈ rowAt cs a) c other
      · rw [if_pos z, if_pos (Star.head hc z)]; omega
      · rw [if_neg z]
        split <;> omega
    split at hc
    · rename_i e
      subst e
      rcases List.mem_append.mp hc with hc | hc
      · exact old k c k0 k1 hc
      · rw [List.mem_singleton.mp hc]
        show (if Star (fun a b => b ∈ rowAt cs a) one k then _ else _) < (if Star (fun a b => b ∈ rowAt cs a) k k then _ else _)
        rw [if_neg hr, if_pos (.refl _)]; omega
    · exact old k c k0 k1 hc
theorem Half.shape {n : Int} {cs : List (List Int)} (H : Half n cs) : Shape n (cs.map srt) := by
  have hlen := H.len
  have key : ∀ (k : Nat) (row : List Int), (cs.map srt)[k]? = some row → row = srt (rowAt cs k) ∧ (k : Int) < n := by
    intro k row hk
    rw [List.getElem?_map] at hk
    obtain ⟨r, hr, rfl⟩ := Option.map_eq_some_iff.mp hk
    have hk' := (List.getElem?_eq_some_iff.mp hr).1
    have e := rowAt_get (cs := cs) (k := (k : Int)) (by simpa using hk')
    rw [show ((k : Int)).toNat = k by omega, hr] at e
    cases e
    exact ⟨rfl, by omega⟩
  have keyM : ∀ row ∈ cs.map srt, ∃ k : Nat, row = srt (rowAt cs k) ∧ (k : Int) < n := fun row hr => by
    obtain ⟨k, hk⟩ := List.mem_iff_getElem?.mp hr
    exact ⟨k, key k row hk⟩
  refine ⟨by rw [List.length_map]; exact hlen, fun row hr => ?_, fun row hr => ?_, fun row hr c hc => ?_, ?_⟩
  · obtain ⟨k, rfl, h⟩ := keyM row hr
    exact srt_asc (H.nd _ (by omega) h)
  · obtain ⟨k, rfl, h⟩ := keyM row hr
    rw [srt_len]; exact H.few _ (by omega) h
  · obtain ⟨k, rfl, h⟩ := keyM row hr
    exact H.dom _ c (by omega) h (mem_srt.mp hc)
  · obtain ⟨rank, h⟩ := H.acy
    refine ⟨rank, fun k row c k0 hk hc => ?_⟩
    obtain ⟨rfl, h1⟩ := key _ row hk
    have := h ((k.toNat : Nat) : Int) c (by omega) h1 (mem_srt.mp hc)
    rwa [show ((k.toNat : Nat) : Int) = k by omega] at this
theorem half_new {n : Int} (h0 : 0 ≤ n) : Half n ((rng 0 n).map fun _ => ([] : List Int)) := by
  have hrow : ∀ k : Int, rowAt ((rng 0 n).map fun _ => ([] : List Int)) k = [] := by
    intro k
    unfold rowAt
    rw [List.getD_eq_getElem?_getD, List.getElem?_map]
    cases (rng 0 n)[k.toNat]? <;> rfl
  exact ⟨by rw [List.length_map, rng_len]; omega, (fun k _ _ => by rw [hrow]; exact .nil), (fun k _ _ => by rw [hrow]; exact Nat.zero_le _), (fun k c _ _ hc => by rw [hrow] at hc; cases hc), ⟨fun _ => 0, (fun k c _ _ hc => by rw [hrow] at hc; cases hc)⟩⟩
theorem half_app2 {cs : List (List Int)} {k a : Int} (h0 : 0 ≤ k) (h : k < cs.length) (hl : (rowAt cs k).length ≤ 5) : app2O cs k a = some (cs.set k.toNat (rowAt cs k ++ [a])) :=
  app2O_ok h0 (rowAt_get (by omega)) (by omega)
/-- what a line keeps while it is made: the things from place m on are not touched yet -/
structure LineInv (n : Int) (order : List Int) (m : Nat) (cs : List (List Int)) : Prop where
  half : Half n cs
  fresh : ∀ (j : Nat) x, m ≤ j → order[j]? = some x → rowAt cs x = [] ∧ ∀ k, 0 ≤ k → k < n → x ∉ rowAt cs k
  two : ∀ k, 0 ≤ k → k < n → (rowAt cs k).length ≤ 2
  last : ∀ (j : Nat) x, j + 1 = m → order[j]? = some x → (rowAt cs x).length ≤ 1
theorem LineInv.step {n : Int} {order : List Int} {m : Nat} {cs : List (List Int)} (hp : order.Perm (rng 0 n)) (L : LineInv n order m cs) {i j : Nat} {one other : Int} (h1 : order[i]? = some one) (h2 : order[j]? = some other) (h : (j = m ∧ i < m) ∨ (i = m ∧ j + 1 = m)) : LineInv n order (m + 1) (cs.set other.toNat (rowAt cs other ++ [one])) := by
  have nd : order.Nodup := hp.nodup_iff.mpr (rng_nodup 0 n)
  obtain ⟨a0, a1⟩ := mem_rng.mp (hp.mem_iff.mp (List.mem_of_getElem? h1))
  obtain ⟨b0, b1⟩ := mem_rng.mp (hp.mem_iff.mp (List.mem_of_getElem? h2))
  have hlen := L.half.len
  have hne : one ≠ other := fun e => by
    have := nodup_idx nd h1 (e ▸ h2)
    omega
  have hstar : ¬ Star (fun a b => b ∈ rowAt cs a) one other := by
    rcases h with ⟨rfl, _⟩ | ⟨rfl, _⟩
    · intro s
      have : ∀ {a b : Int}, Star (fun a b => b ∈ rowAt cs a) a b → 0 ≤ a → a < n → b = other → a = other := by
        intro a b q
        induction q with
        | refl => intro _ _ e; exact e
        | @step y z q r ih =>
          intro x0 x1 e
          subst e
          obtain ⟨y0, y1⟩ := q.closed (P := fun x => 0 ≤ x ∧ x < n) ⟨x0, x1⟩ fun x y hx hy => L.half.dom x y hx.1 hx.2 hy
          exact absurd r ((L.fresh j z (Nat.le_refl _) h2).2 y y0 y1)
      exact hne (this s a0 a1 rfl)
    · intro s
      have : ∀ {a b : Int}, Star (fun a b => b ∈ rowAt cs a) a b → a = one → b = one := by
        intro a b s
        induction s with
        | refl => intro e; exact e
        | step s r ih =>
          intro e
          rw [ih e, (L.fresh i one (Nat.le_refl _) h1).1] at r
          cases r
      exact hne (this s rfl).symm
  have hnot : one ∉ rowAt cs other := by
    rcases h with ⟨rfl, _⟩ | ⟨rfl, _⟩
    · rw [(L.fresh j other (Nat.le_refl _) h2).1]; simp
    · exact (L.fresh i one (Nat.le_refl _) h1).2 other b0 b1
  have htwo := L.two other b0 b1
  have hrow : ∀ k, 0 ≤ k → rowAt (cs.set other.toNat (rowAt cs other ++ [one])) k = if k = other then rowAt cs other ++ [one] else rowAt cs k := fun k k0 => rowAt_set b0 (by omega) k0
  have hone : (rowAt cs other).length ≤ 1 := by
    rcases h with ⟨rfl, _⟩ | ⟨rfl, hj⟩
    · rw [(L.fresh j other (Nat.le_refl _) h2).1]; simp
    · exact L.last j other hj h2
  refine ⟨L.half.add a0 a1 b0 b1 hnot (by omega) hstar, fun q x hq hx => ?_, fun k k0 k1 => ?_, fun q x hq hx => ?_⟩
  · obtain ⟨x0, x1⟩ := mem_rng.mp (hp.mem_iff.mp (List.mem_of_getElem? hx))
    obtain ⟨f1, f2⟩ := L.fresh q x (by omega) hx
    have e1 : x ≠ other := fun e => by have := nodup_idx nd hx (e ▸ h2); omega
    have e2 : x ≠ one := fun e => by have := nodup_idx nd hx (e ▸ h1); omega
    refine ⟨by rw [hrow x x0, if_neg e1]; exact f1, fun k k0 k1 hk => ?_⟩
    rw [hrow k k0] at hk
    split at hk
    · rcases List.mem_append.mp hk with hk | hk
      · exact f2 other b0 b1 hk
      · exact e2 (List.mem_singleton.mp hk)
    · exact f2 k k0 k1 hk
  · rw [hrow k k0]
    split
    · rw [List.length_append]; simp; omega
    · exact L.two k k0 k1
  · have e : q = m := by omega
    subst e
    obtain ⟨x0, x1⟩ := mem_rng.mp (hp.mem_iff.mp (List.mem_of_getElem? hx))
    obtain ⟨f1, f2⟩ := L.fresh q x (Nat.le_refl _) hx
    rw [hrow x x0]
    split
    · rename_i e
      subst e
      rw [f1]; simp
    · rw [f1]; simp
/-! ### roads -/
def nearB (cs : List (List Int)) (a b : Int) : Bool := isIn a (rowAt cs b) || isIn b (rowAt cs a)
theorem nearB_comm (cs : List (List Int)) (a b : Int) : nearB cs a b = nearB cs b a := by unfold nearB; rw [Bool.or_comm]
/-- each two neighbours are joined -/
def stepsB (cs : List (List Int)) : List Int → Bool
  | a :: b :: r => nearB cs a b && stepsB cs (b :: r)
  | _ => true
def roadB (cs : List (List Int)) (r : List Int) : Bool := decide (2 ≤ r.length) && decide r.Nodup && stepsB cs r
theorem stepsB_iff (cs : List (List Int)) : ∀ (r : List Int), stepsB cs r = true ↔ ∀ (i : Nat) a b, r[i]? = some a → r[i + 1]? = some b → nearB cs a b = true
  | [] => by simp [stepsB]
  | [x] => by simp [stepsB]
  | x :: y :: r => by
    unfold stepsB
    rw [Bool.and_eq_true, stepsB_iff cs (y :: r)]
    constructor
    · rintro ⟨h1, h2⟩ i a b ha hb
      cases i with
      | zero =>
        simp at ha hb
        subst ha; subst hb; exact h1
      | succ i => exact h2 i a b (by simpa using ha) (by simpa using hb)
    · intro h
      exact ⟨h 0 x y rfl rfl, fun i a b ha hb => h (i + 1) a b (by simpa using ha) (by simpa using hb)⟩
theorem nub_len_lt : ∀ {xs : List Int}, (nub xs).length < xs.length ↔ ¬ xs.Nodup
  | [] => by simp [nub]
  | x :: xs => by
    have hle := nub_le xs
    unfold nub
    split
    · rename_i h
      simp only [List.length_cons, List.nodup_cons]
      constructor
      · intro _ z; exact z.1 h
      · intro _; omega
    · rename_i h
      simp only [List.length_cons, List.nodup_cons, Nat.add_lt_add_iff_right, nub_len_lt]
      constructor
      · intro z q; exact z q.2
      · intro z q; exact z ⟨h, q⟩
theorem nodup_take {xs : List Int} : xs.Nodup ↔ ∀ (i : Nat) a, xs[i]? = some a → a ∉ xs.take i := by
  constructor
  · intro nd i a ha hm
    obtain ⟨j, hj⟩ := List.mem_iff_getElem?.mp hm
    rw [List.getElem?_take] at hj
    split at hj
    · have := nodup_idx nd ha hj; omega
    · cases hj
  · intro h
    rw [List.nodup_iff_pairwise_ne, List.pairwise_iff_getElem]
    intro i j hi hj hij e
    refine h j xs[j] (List.getElem?_eq_getElem hj) ?_
    rw [← e]
    exact List.mem_iff_getElem?.mpr ⟨i, by rw [List.getElem?_take, if_pos hij, List.getElem?_eq_getElem hi]⟩
theorem Shape.half {n : Int} {cs : List (List Int)} (S : Shape n cs) : Half n cs :=
  ⟨S.len, fun k k0 k1 => asc_nodup (S.asc _ (S.mem k0 k1)), fun k k0 k1 => S.few _ (S.mem k0 k1), fun k c k0 k1 hc => S.dom' k0 k1 hc, S.rank⟩
theorem Half.shape' {n : Int} {cs : List (List Int)} (H : Half n cs) (h : ∀ k, 0 ≤ k → k < n → (rowAt cs k).Pairwise (· < ·)) : Shape n cs := by
  have hlen := H.len
  have keyM : ∀ row ∈ cs, ∃ k : Nat, row = rowAt cs k ∧ (k : Int) < n := fun row hr => by
    obtain ⟨k, hk⟩ := List.mem_iff_getElem?.mp hr
    have hk' := (List.getElem?_eq_some_iff.mp hk).1
    have e := rowAt_get (cs := cs) (k := (k : Int)) (by simpa using hk')
    rw [show ((k : Int)).toNat = k by omega, hk] at e
    exact ⟨k, Option.some.inj e, by omega⟩
  refine ⟨hlen, fun row hr => ?_, fun row hr => ?_, fun row hr c hc => ?_, ?_⟩
  · obtain ⟨k, rfl, h1⟩ := keyM row hr
    exact h _ (by omega) h1
  · obtain ⟨k, rfl, h1⟩ := keyM row hr
    exact H.few _ (by omega) h1
  · obtain ⟨k, rfl, h1⟩ := keyM row hr
    exact H.dom _ c (by omega) h1 hc
  · obtain ⟨rank, hr⟩ := H.acy
    refine ⟨rank, fun k row c k0 hk hc => ?_⟩
    have hk' := (List.getElem?_eq_some_iff.mp hk).1
    have e := rowAt_get (cs := cs) hk'
    rw [hk] at e
    cases e
    exact hr k c k0 (by omega) hc
theorem forF_first {α ρ : Type} {f : Unit → α → Option (Fl ρ Unit)} (p : α → Bool) (r : α → ρ) : ∀ (xs : List α), (∀ x ∈ xs, f () x = some (if p x = true then .ret (r x) else .nxt ())) → forF f xs () = some (match xs.find? p with | some x => .ret (r x) | none => .nxt ())
  | [], _ => rfl
  | x :: xs, h => by
    have ih := forF_first p r xs fun y hy => h y (List.mem_cons_of_mem _ hy)
    simp only [forF, h x List.mem_cons_self, Option.bind_some, List.find?_cons]
    cases hp : p x with
    | true => simp [flF]
    | false => simp [flF, ih]
theorem ins_nodup {α : Type} {xs : List α} {i : Nat} {a : α} (nd : xs.Nodup) (h : a ∉ xs) : (xs.take i ++ [a] ++ xs.drop i).Nodup := by
  rw [(ins_permG xs i a).nodup_iff, List.nodup_append]
  exact ⟨nd, by simp, fun b hb c hc => by rw [List.mem_singleton.mp hc]; exact fun z => h (z ▸ hb)⟩
theorem mem_ins {α : Type} {xs : List α} {i : Nat} {a b : α} (h : b ∈ xs.take i ++ [a] ++ xs.drop i) : b ∈ xs ∨ b = a := by
  rcases List.mem_append.mp ((ins_permG xs i a).mem_iff.mp h) with h | h
  · exact .inl h
  · exact .inr (List.mem_singleton.mp h)
open Classical in
/-- whether a known thing is beneath a thing -/
noncomputable def hasB (n : Int) (cs : List (List Int)) (known : List Int) (k : Int) : Bool := decide (∃ z ∈ known, Star (Dn cs n) k z)
open Classical in
theorem hasB_iff {n : Int} {cs : List (List Int)} {known : List Int} {k : Int} : hasB n cs known k = true ↔ ∃ z ∈ known, Star (Dn cs n) k z := by unfold hasB; exact decide_eq_true_iff
def veeB (cs : List (List Int)) (road : List Int) (x : Int) : Bool := isIn (at0 road (x - 1)) (rowAt cs (at0 road x)) && isIn (at0 road (x + 1)) (rowAt cs (at0 road x))
noncomputable def barB (n : Int) (cs : List (List Int)) (road known : List Int) (x : Int) : Bool := bif veeB cs road x then !hasB n cs known (at0 road x) else isIn (at0 road x) known
end Mir

namespace Mir
open PySem PySem.Spec L2
open ToD (toD)
set_option autoImplicit false
/-! ## searches over any things; steps of reaching -/
theorem bfs_genA {α τ : Type} [DecidableEq α] {dom : List α} {next : α → List α} {c : τ → Option Bool} {f : τ → Option τ} (Inv : List α → Nat → τ → Prop)
    (hc : ∀ found place st, Inv found place st → c st = some (decide (place < found.length)))
    (hf : ∀ found place st x, Inv found place st → found.Nodup → (∀ y ∈ found, y ∈ dom) → found[place]? = some x → ∃ st' new, f st = some st' ∧ Inv (found ++ new) (place + 1) st' ∧ new.Nodup ∧ (∀ y ∈ new, y ∉ found ∧ y ∈ next x) ∧ ∀ y ∈ next x, y ∈ found ++ new)
    (hdom : ∀ k ∈ dom, ∀ y ∈ next k, y ∈ dom) (R : α → Prop) (hR : ∀ k, R k → ∀ y ∈ next k, R y) (some_ : List α) :
    ∀ (m : Nat) (found : List α) (place : Nat) (st : τ), dom.length - place ≤ m → place ≤ found.length → Inv found place st → found.Nodup → (∀ x ∈ found, x ∈ dom) → (∀ x ∈ found, R x) → (∀ (i : Nat) x, i < place → found[i]? = some x → ∀ y ∈ next x, y ∈ found) → (∀ x ∈ some_, x ∈ found) →
      ∃ fin place' st', whileO c f st = some st' ∧ Inv fin place' st' ∧ fin.Nodup ∧ (∀ x ∈ fin, x ∈ dom) ∧ (∀ x ∈ fin, R x) ∧ (∀ k ∈ fin, ∀ x ∈ next k, x ∈ fin) ∧ ∀ x ∈ some_, x ∈ fin := by
  intro m
  induction m with
  | zero =>
    intro found place st hm ha hI nd hd hr hcl hs
    have := nodup_len_le nd hd
    exact ⟨found, place, st, whileO_false (by rw [hc _ _ _ hI, decide_eq_false (by omega)]), hI, nd, hd, hr, fun k hk x hx => by
      obtain ⟨i, hi⟩ := List.mem_iff_getElem?.mp hk
      have := (List.getElem?_eq_some_iff.mp hi).1
      exact hcl i k (by omega) hi x hx, hs⟩
  | succ m ih =>
    intro found place st hm ha hI nd hd hr hcl hs
    have hfl := nodup_len_le nd hd
    by_cases hlt : place < found.length
    · have hx : found[place]? = some found[place] := List.getElem?_eq_getElem hlt
      have hxm : found[place] ∈ found := List.getElem_mem hlt
      obtain ⟨st', new, e, hI', nn, hnew, hall⟩ := hf found place st _ hI nd hd hx
      have nd' : (found ++ new).Nodup := by
        rw [List.nodup_append]
        exact ⟨nd, nn, fun a ha b hb e => (hnew b hb).1 (e ▸ ha)⟩
      obtain ⟨fin, place', st2, e2, r⟩ := ih (found ++ new) (place + 1) st' (by omega) (by rw [List.length_append]; omega) hI' nd' (fun x hx => by
        rcases List.mem_append.mp hx with hx | hx
        · exact hd x hx
        · exact hdom _ (hd _ hxm) x (hnew x hx).2) (fun x hx => by
        rcases List.mem_append.mp hx with hx | hx
        · exact hr x hx
        · exact hR _ (hr _ hxm) x (hnew x hx).2) (fun i x hi hz y hy => by
        by_cases h : i < place
        · rw [List.getElem?_append_left (by omega)] at hz
          exact List.mem_append_left _ (hcl i x h hz y hy)
        · rw [show i = place by omega, List.getElem?_append_left hlt, List.getElem?_eq_getElem hlt] at hz
          cases hz
          exact hall y hy) (fun x hx => List.mem_append_left _ (hs x hx))
      exact ⟨fin, place', st2, whileO_true (by rw [hc _ _ _ hI, decide_eq_true hlt]) e e2, r⟩
    · exact ⟨found, place, st, whileO_false (by rw [hc _ _ _ hI, decide_eq_false hlt]), hI, nd, hd, hr, fun k hk x hx => by
        obtain ⟨i, hi⟩ := List.mem_iff_getElem?.mp hk
        have := (List.getElem?_eq_some_iff.mp hi).1
        exact hcl i k (by omega) hi x hx, hs⟩
theorem bfs_gen {α τ : Type} [DecidableEq α] {dom : List α} {next : α → List α} {c : τ → Option Bool} {f : τ → Option τ} (Inv : List α → Nat → τ → Prop)
    (hc : ∀ found place st, Inv found place st → c st = some (decide (place < found.length)))
    (hf : ∀ found place st x, Inv found place st → found.Nodup → (∀ y ∈ found, y ∈ dom) → found[place]? = some x → ∃ st' new, f st = some st' ∧ Inv (found ++ new) (place + 1) st' ∧ new.Nodup ∧ (∀ y ∈ new, y ∉ found ∧ y ∈ next x) ∧ ∀ y ∈ next x, y ∈ found ++ new)
    (hdom : ∀ k ∈ dom, ∀ y ∈ next k, y ∈ dom) {start : List α} {st0 : τ} (h0 : Inv start 0 st0) (nd : start.Nodup) (hd : ∀ x ∈ start, x ∈ dom) :
    ∃ fin place st, whileO c f st0 = some st ∧ Inv fin place st ∧ fin.Nodup ∧ (∀ x ∈ fin, x ∈ dom) ∧ ∀ x, x ∈ fin ↔ ∃ s ∈ start, Star (fun a b => b ∈ next a) s x := by
  obtain ⟨fin, place, st, e, hI, n1, h1, h2, h3, h4⟩ := bfs_genA Inv hc hf hdom (fun x => ∃ s ∈ start, Star (fun a b => b ∈ next a) s x) (fun k ⟨s, hs, r⟩ y hy => ⟨s, hs, .step r hy⟩) start _ start 0 st0 (Nat.le_refl _) (Nat.zero_le _) h0 nd hd (fun x hx => ⟨x, hx, .refl _⟩) (fun i x h => by omega) (fun x hx => hx)
  exact ⟨fin, place, st, e, hI, n1, h1, fun x => ⟨h2 x, fun ⟨s, hs, r⟩ => r.closed (P := fun y => y ∈ fin) (h4 s hs) fun a b ha hb => h3 a ha b hb⟩⟩
/-- those of a list that are new, each once, behind what is there -/
def newOf {α : Type} [DecidableEq α] (found : List α) : List α → List α
  | [] => []
  | x :: xs => if x ∈ found then newOf found xs else x :: newOf (found ++ [x]) xs
theorem mem_newOf {α : Type} [DecidableEq α] {y : α} : ∀ {xs found : List α}, y ∈ newOf found xs ↔ y ∈ xs ∧ y ∉ found
  | [], found => by simp [newOf]
  | x :: xs, found => by
    unfold newOf
    split
    · rename_i h
      rw [mem_newOf, List.mem_cons]
      constructor
      · rintro ⟨h1, h2⟩; exact ⟨.inr h1, h2⟩
      · rintro ⟨rfl | h1, h2⟩
        · exact absurd h h2
        · exact ⟨h1, h2⟩
    · rename_i h
      rw [List.mem_cons, mem_newOf, List.mem_append, List.mem_singleton, List.mem_cons]
      constructor
      · rintro (rfl | ⟨h1, h2⟩)
        · exact ⟨.inl rfl, h⟩
        · exact ⟨.inr h1, fun z => h2 (.inl z)⟩
      · rintro ⟨rfl | h1, h2⟩
        · exact .inl rfl
        · by_cases e : y = x
          · exact .inl e
          · exact .inr ⟨h1, fun z => z.elim h2 e⟩
theorem nodup_newOf {α : Type} [DecidableEq α] : ∀ (xs found : List α), (newOf found xs).Nodup
  | [], found => .nil
  | x :: xs, found => by
    unfold newOf
    split
    · exact nodup_newOf xs found
    · exact List.nodup_cons.mpr ⟨fun h => (mem_newOf.mp h).2 (by simp), nodup_newOf xs _⟩
theorem newOf_len {α : Type} [DecidableEq α] : ∀ (xs found : List α), (newOf found xs).length ≤ xs.length
  | [], found => Nat.le_refl _
  | x :: xs, found => by
    unfold newOf
    split
    · have := newOf_len xs found
      rw [List.length_cons]; omega
    · have := newOf_len xs (found ++ [x])
      rw [List.length_cons, List.length_cons]; omega
/-! ### steps -/
def stepsL (cs : List (List Int)) (known : List Int) (at_ : Int × Int) : List (Int × Int) :=
  if at_.1 ∈ known then (if at_.2 = 1 then (rowAt cs at_.1).map fun c => (c, (0 : Int)) else [])
  else if at_.2 = 0 then ((rowAt cs at_.1).map fun c => (c, (0 : Int))) ++ (eff cs at_.1).map fun e => (e, (1 : Int)) else (eff cs at_.1).map fun e => (e, (1 : Int))
abbrev Stp (cs : List (List Int)) (known : List Int) (a b : Int × Int) : Prop := b ∈ stepsL cs known a
def PDom (n : Int) (p : Int × Int) : Prop := (0 ≤ p.1 ∧ p.1 < n) ∧ (p.2 = 0 ∨ p.2 = 1)
def pdom (n : Int) : List (Int × Int) := (rng 0 (2 * n)).map fun k => (k / 2, k % 2)
theorem mem_pdom {n : Int} {p : Int × Int} : p ∈ pdom n ↔ PDom n p := by
  unfold pdom PDom
  rw [List.mem_map]
  constructor
  · rintro ⟨k, hk, rfl⟩
    have := mem_rng.mp hk
    simp only
    omega
  · rintro ⟨h1, h2⟩
    refine ⟨2 * p.1 + p.2, mem_rng.mpr (by omega), ?_⟩
    obtain ⟨a, b⟩ := p
    simp only at h1 h2 ⊢
    rw [show (2 * a + b) / 2 = a by omega, show (2 * a + b) % 2 = b by omega]
theorem pdom_len (n : Int) (h : 0 ≤ n) : (pdom n).length = 2 * n.toNat := by unfold pdom; rw [List.length_map, rng_len]; omega
theorem mem_steps {n : Int} {cs : List (List Int)} (S : Shape n cs) {known : List Int} {a b : Int × Int} (ha : PDom n a) : b ∈ stepsL cs known a ↔ (b.2 = 0 ∧ b.1 ∈ rowAt cs a.1 ∧ (a.2 = 1 ↔ a.1 ∈ known)) ∨ (b.2 = 1 ∧ b.1 ∈ eff cs a.1 ∧ a.1 ∉ known) := by
  obtain ⟨a1, a2⟩ := a
  obtain ⟨b1, b2⟩ := b
  obtain ⟨h1, h2⟩ := ha
  simp only at h1 h2
  unfold stepsL
  simp only
  have m0 : (b1, b2) ∈ ((rowAt cs a1).map fun c => (c, (0 : Int))) ↔ b2 = 0 ∧ b1 ∈ rowAt cs a1 := by
    rw [List.mem_map]
    constructor
    · rintro ⟨c, hc, e⟩; cases e; exact ⟨rfl, hc⟩
    · rintro ⟨rfl, h⟩; exact ⟨b1, h, rfl⟩
  have m1 : (b1, b2) ∈ ((eff cs a1).map fun c => (c, (1 : Int))) ↔ b2 = 1 ∧ b1 ∈ eff cs a1 := by
    rw [List.mem_map]
    constructor
    · rintro ⟨c, hc, e⟩; cases e; exact ⟨rfl, hc⟩
    · rintro ⟨rfl, h⟩; exact ⟨b1, h, rfl⟩
  by_cases hk : a1 ∈ known
  · rw [if_pos hk]
    by_cases hw : a2 = 1
    · rw [if_pos hw, m0]
      constructor
      · rintro ⟨e, h⟩; exact .inl ⟨e, h, ⟨fun _ => hk, fun _ => hw⟩⟩
      · rintro (⟨e, h, _⟩ | ⟨_, _, h⟩)
        · exact ⟨e, h⟩
        · exact absurd hk h
    · rw [if_neg hw]
      constructor
      · intro h; cases h
      · rintro (⟨e, h, h3⟩ | ⟨_, _, h⟩)
        · exact absurd (h3.mpr hk) hw
        · exact absurd hk h
  · rw [if_neg hk]
    by_cases hw : a2 = 0
    · rw [if_pos hw, List.mem_append, m0, m1]
      constructor
      · rintro (⟨e, h⟩ | ⟨e, h⟩)
        · exact .inl ⟨e, h, ⟨fun z => by omega, fun z => absurd z hk⟩⟩
        · exact .inr ⟨e, h, hk⟩
      · rintro (⟨e, h, _⟩ | ⟨e, h, _⟩)
        · exact .inl ⟨e, h⟩
        · exact .inr ⟨e, h⟩
    · rw [if_neg hw, m1]
      constructor
      · rintro ⟨e, h⟩; exact .inr ⟨e, h, hk⟩
      · rintro (⟨e, h, h3⟩ | ⟨e, h, _⟩)
        · exact absurd (h3.mp (by omega)) hk
        · exact ⟨e, h⟩
theorem steps_dom {n : Int} {cs : List (List Int)} (S : Shape n cs) {known : List Int} {a b : Int × Int} (ha : PDom n a) (h : b ∈ stepsL cs known a) : PDom n b := by
  rcases (mem_steps S ha).mp h with ⟨e, h1, _⟩ | ⟨e, h1, _⟩
  · exact ⟨S.dom' ha.1.1 ha.1.2 h1, .inl e⟩
  · have := (mem_eff.mp h1).1
    rw [S.len] at this
    exact ⟨this, .inr e⟩
theorem srtP_same {xs ys : List (Int × Int)} (h1 : xs.Nodup) (h2 : ys.Nodup) (h : ∀ p, p ∈ xs ↔ p ∈ ys) : srtP xs = srtP ys :=
  srtP_uniq ((srtP_perm xs).trans (((List.perm_ext_iff_of_nodup h1 h2).mpr h).trans (srtP_perm ys).symm)) (srtP_sorted _) (srtP_sorted _)
theorem mem_srtP {xs : List (Int × Int)} {p : Int × Int} : p ∈ srtP xs ↔ p ∈ xs := (srtP_perm xs).mem_iff
theorem hasL_put {α β : Type} [DecidableEq α] (kv : List (α × β)) (a x : α) (b : β) : hasL (putL kv a b) x = (decide (x = a) || hasL kv x) := by
  unfold putL
  split
  · rename_i h
    have e : ∀ kv : List (α × β), hasL (kv.map fun p => if p.1 = a then (p.1, b) else p) x = hasL kv x := by
      intro kv
      unfold hasL
      rw [List.any_map]
      congr 1
      funext p
      simp only [Function.comp_apply]
      split <;> rfl
    rw [e]
    by_cases hx : x = a
    · subst hx; rw [h]; simp
    · simp [hx]
  · unfold hasL
    rw [List.any_append]
    simp only [List.any_cons, List.any_nil, Bool.or_false]
    rw [Bool.or_comm]
    congr 1
    rw [decide_eq_decide]
    exact ⟨fun h => h.symm, fun h => h.symm⟩
theorem putL_len {α β : Type} [DecidableEq α] (kv : List (α × β)) (a : α) (b : β) : (putL kv a b).length ≤ kv.length + 1 := by
  unfold putL
  split
  · rw [List.length_map]; omega
  · rw [List.length_append]; simp
theorem putO_ok {α β : Type} [DecidableEq α] {kv : List (α × β)} {a : α} {b : β} (h : kv.length < 16777216) : putO kv a b = some (putL kv a b) := if_pos h
end Mir

namespace Mir
open PySem PySem.Spec L2
open ToD (toD)
set_option autoImplicit false
theorem fltT {α : Type} (l : List α) : l.filter (fun _ => true) = l := List.filter_eq_self.mpr fun _ _ => rfl
theorem fltF {α : Type} (l : List α) : l.filter (fun _ => false) = [] := List.filter_eq_nil_iff.mpr fun _ _ h => by cases h
/-! ## what parts two things -/
def Rch (cs : List (List Int)) (Z : List Int) (x y : Int) : Prop := ∃ w, Star (Stp cs Z) (x, 0) (y, w)
section
variable {n : Int} {cs : List (List Int)} {x y : Int} {A Z : List Int}
theorem star_pdom (S : Shape n cs) {a b : Int × Int} (s : Star (Stp cs Z) a b) (h : PDom n a) : PDom n b := s.closed (P := PDom n) h fun _ _ hp hs => steps_dom S hp hs
theorem stp_up (S : Shape n cs) {v c w : Int} (hv : PDom n (v, w)) (hc : c ∈ rowAt cs v) (h : w = 1 ↔ v ∈ Z) : Stp cs Z (v, w) (c, 0) := (mem_steps S hv).mpr (.inl ⟨rfl, hc, h⟩)
theorem stp_dn (S : Shape n cs) {v e w : Int} (hv : PDom n (v, w)) (he : Dn cs n v e) (h : v ∉ Z) : Stp cs Z (v, w) (e, 1) := (mem_steps S hv).mpr (.inr ⟨rfl, mem_eff.mpr ⟨by rw [S.len]; exact ⟨he.1, he.2.1⟩, he.2.2⟩, h⟩)
/-- what lies on a walk from x to y has P, where P goes up the arrows -/
theorem walk_up (S : Shape n cs) {P : Int → Prop} (hP : ∀ a b, Dn cs n a b → P b → P a) (hx : P x) (hA : ∀ a ∈ A, P a) (x0 : 0 ≤ x ∧ x < n) : ∀ {s : Int × Int}, Star (Stp cs A) (x, 0) s → s.2 = 0 → P s.1 := by
  intro s h
  induction h with
  | refl => intro _; exact hx
  | @step b c s r ih =>
    intro h0
    have hb := star_pdom S s ⟨x0, .inl rfl⟩
    rcases (mem_steps S hb).mp r with ⟨_, h1, h2⟩ | ⟨h1, _⟩
    · have hd : Dn cs n c.1 b.1 := ⟨hb.1.1, hb.1.2, h1⟩
      rcases hb.2 with hw | hw
      · exact hP _ _ hd (ih hw)
      · exact hP _ _ hd (hA _ (h2.mp hw))
    · omega
theorem walk_dn (S : Shape n cs) {P : Int → Prop} (hP : ∀ a b, Dn cs n a b → P b → P a) (hy : P y) (hA : ∀ a ∈ A, P a) {w : Int} : ∀ {s : Int × Int}, PDom n s → Star (Stp cs A) s (y, w) → s.2 = 1 → P s.1 := by
  intro s hs h
  have key : ∀ {t s : Int × Int}, Star (fun a b => Stp cs A b a) t s → t = (y, w) → PDom n s → s.2 = 1 → P s.1 := by
    intro t s h
    induction h with
    | refl => intro e _ _; rw [e]; exact hy
    | @step b c q r ih =>
      intro e hc h1
      have hb := steps_dom S hc r
      rcases (mem_steps S hc).mp r with ⟨_, _, h2⟩ | ⟨h3, h4, _⟩
      · exact hA _ (h2.mp h1)
      · have := mem_eff.mp h4
        rw [S.len] at this
        exact hP _ _ ⟨this.1.1, this.1.2, this.2⟩ (ih e hb h3)
  exact key h.rev rfl hs
theorem walk_in (S : Shape n cs) {P : Int → Prop} (hP : ∀ a b, Dn cs n a b → P b → P a) (hx : P x) (hy : P y) (hA : ∀ a ∈ A, P a) (x0 : 0 ≤ x ∧ x < n) {s : Int × Int} {w : Int} (h1 : Star (Stp cs A) (x, 0) s) (h2 : Star (Stp cs A) s (y, w)) : P s.1 := by
  have hs := star_pdom S h1 ⟨x0, .inl rfl⟩
  rcases hs.2 with h | h
  · exact walk_up S hP hx hA x0 h1 h
  · exact walk_dn S hP hy hA hs h2 h
/-- above one of two things -/
def An2 (cs : List (List Int)) (n x y v : Int) : Prop := Star (Dn cs n) v x ∨ Star (Dn cs n) v y
theorem an_up {a b : Int} (h : Dn cs n a b) (q : An2 cs n x y b) : An2 cs n x y a := q.imp (fun s => Star.head h s) (fun s => Star.head h s)
theorem detour (S : Shape n cs) (x0 : 0 ≤ x ∧ x < n) (hx : x ∉ Z) {v : Int} (hv : v ∉ Z) (h : Star (Stp cs Z) (x, 0) (v, 1)) (ha : An2 cs n x y v) : Star (Stp cs Z) (x, 0) (v, 0) ∨ Rch cs Z x y := by
  have vd := (star_pdom S h ⟨x0, .inl rfl⟩).1
  simp only at vd
  have key : ∀ {d : Int}, Star (Dn cs n) v d → Star (Stp cs Z) (x, 0) (v, 0) ∨ (d ∉ Z ∧ (0 ≤ d ∧ d < n) ∧ Star (Stp cs Z) (x, 0) (d, 1) ∧ Star (Stp cs Z) (d, 0) (v, 0)) := by
    intro d s
    induction s with
    | refl => exact .inr ⟨hv, vd, h, .refl _⟩
    | @step d e s r ih =>
      rcases ih with ih | ⟨i1, i2, i3, i4⟩
      · exact .inl ih
      · have hed : 0 ≤ e ∧ e < n := ⟨r.1, r.2.1⟩
        have h1 : Star (Stp cs Z) (x, 0) (e, 1) := .step i3 (stp_dn S ⟨i2, .inr rfl⟩ r i1)
        by_cases he : e ∈ Z
        · exact .inl ((Star.step h1 (stp_up S ⟨hed, .inr rfl⟩ r.2.2 ⟨fun _ => he, fun _ => rfl⟩)).trans i4)
        · exact .inr ⟨he, hed, h1, Star.head (stp_up S ⟨hed, .inl rfl⟩ r.2.2 ⟨fun z => by omega, fun z => absurd z he⟩) i4⟩
  rcases ha with ha | ha
  · rcases key ha with h1 | ⟨_, _, _, h1⟩
    · exact .inl h1
    · exact .inl h1
  · rcases key ha with h1 | ⟨_, _, h1, _⟩
    · exact .inl h1
    · exact .inr ⟨1, h1⟩
/-- where those above two things do not part them, none of their like do -/
theorem part_main (S : Shape n cs) (x0 : 0 ≤ x ∧ x < n) (hA : ∀ a ∈ A, An2 cs n x y a) (hZ : ∀ z ∈ Z, An2 cs n x y z → z ∈ A) (hx : x ∉ Z) (h : Rch cs A x y) : Rch cs Z x y := by
  obtain ⟨w, h⟩ := h
  have key : ∀ {s : Int × Int}, Star (Stp cs A) (x, 0) s → Star (Stp cs A) s (y, w) → Star (Stp cs Z) (x, 0) s ∨ Rch cs Z x y := by
    intro s h1
    induction h1 with
    | refl => intro _; exact .inl (.refl _)
    | @step b c s r ih =>
      intro h2
      have hb2 := Star.head r h2
      rcases ih hb2 with ih | ih
      · have hbd := star_pdom S s ⟨x0, .inl rfl⟩
        have hD : An2 cs n x y b.1 := walk_in S (fun a b h q => an_up h q) (.inl (.refl _)) (.inr (.refl _)) hA x0 s hb2
        by_cases hbA : b.1 ∈ A
        · rcases (mem_steps S hbd).mp r with ⟨h3, h4, h5⟩ | ⟨_, _, h5⟩
          · have hw := h5.mpr hbA
            obtain ⟨b1, b2⟩ := b
            obtain ⟨c1, c2⟩ := c
            simp only at h3 h4 hw hbA hD
            subst h3; subst hw
            by_cases hbZ : b1 ∈ Z
            · exact .inl (.step ih (stp_up S hbd h4 ⟨fun _ => hbZ, fun _ => rfl⟩))
            · rcases detour S x0 hx hbZ ih hD with h6 | h6
              · exact .inl (.step h6 (stp_up S ⟨hbd.1, .inl rfl⟩ h4 ⟨fun z => by omega, fun z => absurd z hbZ⟩))
              · exact .inr h6
          · exact absurd hbA h5
        · have hbZ : b.1 ∉ Z := fun z => hbA (hZ _ z hD)
          refine .inl (.step ih ((mem_steps S hbd).mpr ?_))
          rcases (mem_steps S hbd).mp r with ⟨h3, h4, h5⟩ | ⟨h3, h4, _⟩
          · exact .inl ⟨h3, h4, ⟨fun z => absurd (h5.mp z) hbA, fun z => absurd z hbZ⟩⟩
          · exact .inr ⟨h3, h4, hbZ⟩
      · exact .inr ih
  rcases key h (.refl _) with h1 | h1
  · exact ⟨w, h1⟩
  · exact h1
/-- a list that parts, and none of its things can go: all are above one of the two -/
theorem only_an (S : Shape n cs) (x0 : 0 ≤ x ∧ x < n) {L : List Int} (hdom : ∀ k ∈ L, 0 ≤ k ∧ k < n) (hL : ¬ Rch cs L x y) (hmin : ∀ k ∈ L, Rch cs (L.filter fun j => j != k) x y) : ∀ k ∈ L, An2 cs n x y k := by
  obtain ⟨rank, hr⟩ := S.rank
  have hrank : ∀ {a b : Int}, Star (Dn cs n) a b → a = b ∨ rank a < rank b := by
    intro a b s
    induction s with
    | refl => exact .inl rfl
    | @step c d s r ih =>
      have := hr d c r.1 r.2.1 r.2.2
      rcases ih with rfl | ih
      · exact .inr this
      · exact .inr (by omega)
  -- by falling rank
  obtain ⟨B, hB⟩ : ∃ B : Nat, ∀ k ∈ L, rank k < B := by
    clear hL hmin hdom
    induction L with
    | nil => exact ⟨0, fun k h => by cases h⟩
    | cons a L ih =>
      obtain ⟨B, h⟩ := ih
      refine ⟨B + rank a + 1, fun k hk => ?_⟩
      rcases List.mem_cons.mp hk with rfl | hk
      · omega
      · have := h k hk; omega
  have key : ∀ (m : Nat) (k : Int), k ∈ L → B - rank k ≤ m → An2 cs n x y k := by
    intro m
    induction m with
    | zero => intro k hk hm; have := hB k hk; omega
    | succ m ih =>
      intro k hk hm
      false_or_by_contra
      rename_i hna
      obtain ⟨w, hw⟩ := hmin k hk
      refine hL ⟨w, ?_⟩
      have hnot : ∀ {s : Int × Int}, Star (Stp cs (L.filter fun j => j != k)) (x, 0) s → Star (Stp cs (L.filter fun j => j != k)) s (y, w) → s.1 ≠ k := by
        intro s h1 h2 e
        have hp := walk_in S (P := fun v => An2 cs n x y v ∨ ∃ z ∈ L.filter (fun j => j != k), Star (Dn cs n) v z) (fun a b h q => q.imp (fun z => an_up h z) (fun ⟨z, hz, s⟩ => ⟨z, hz, Star.head h s⟩)) (.inl (.inl (.refl _))) (.inl (.inr (.refl _))) (fun a ha => .inr ⟨a, ha, .refl _⟩) x0 h1 h2
        rw [e] at hp
        rcases hp with hp | ⟨z, hz, s⟩
        · exact hna hp
        · obtain ⟨hzL, hzk⟩ := List.mem_filter.mp hz
          have hzk' : z ≠ k := by simpa using hzk
          rcases hrank s with e2 | hlt
          · exact hzk' e2.symm
          · have hBz := hB z hzL
            rcases ih z hzL (by omega) with q | q
            · exact hna (.inl (s.trans q))
            · exact hna (.inr (s.trans q))
      have step : ∀ {s : Int × Int}, Star (Stp cs (L.filter fun j => j != k)) (x, 0) s → Star (Stp cs (L.filter fun j => j != k)) s (y, w) → Star (Stp cs L) (x, 0) s := by
        intro s h1
        induction h1 with
        | refl => intro _; exact .refl _
        | @step b c s r ih2 =>
          intro h2
          have hb2 := Star.head r h2
          have hbd := star_pdom S s ⟨x0, .inl rfl⟩
          have hbk := hnot s hb2
          have hiff : b.1 ∈ L.filter (fun j => j != k) ↔ b.1 ∈ L := by
            rw [List.mem_filter]
            exact ⟨fun z => z.1, fun z => ⟨z, by simpa using hbk⟩⟩
          refine .step (ih2 hb2) ((mem_steps S hbd).mpr ?_)
          rcases (mem_steps S hbd).mp r with ⟨h3, h4, h5⟩ | ⟨h3, h4, h5⟩
          · exact .inl ⟨h3, h4, h5.trans hiff⟩
          · exact .inr ⟨h3, h4, fun z => h5 (hiff.mpr z)⟩
      exact step hw (.refl _)
  exact fun k hk => key _ k hk (Nat.le_refl _)
/-- such a list has no lesser part that parts -/
theorem least_main (S : Shape n cs) (x0 : 0 ≤ x ∧ x < n) {L : List Int} (hdom : ∀ k ∈ L, 0 ≤ k ∧ k < n) (hx : x ∉ L) (hL : ¬ Rch cs L x y) (hmin : ∀ k ∈ L, Rch cs (L.filter fun j => j != k) x y) {k : Int} (hk : k ∈ L) (hZ : ∀ z ∈ Z, z ∈ L) (hkZ : k ∉ Z) : Rch cs Z x y :=
  part_main S x0 (fun a ha => only_an S x0 hdom hL hmin a (List.mem_filter.mp ha).1) (fun z hz _ => List.mem_filter.mpr ⟨hZ z hz, by
    have : z ≠ k := fun e => hkZ (e ▸ hz)
    simpa using this⟩) (fun z => hx (hZ x z)) (hmin k hk)
/-- only what is in a list counts -/
theorem rch_congr (S : Shape n cs) (x0 : 0 ≤ x ∧ x < n) (h : ∀ k, k ∈ A ↔ k ∈ Z) : Rch cs A x y ↔ Rch cs Z x y := by
  have key : ∀ {A Z : List Int}, (∀ k, k ∈ A ↔ k ∈ Z) → Rch cs A x y → Rch cs Z x y := by
    intro A Z h ⟨w, s⟩
    refine ⟨w, ?_⟩
    generalize (y, w) = t at s
    induction s with
    | refl => exact .refl _
    | @step b c s r ih =>
      have hbd := star_pdom S s ⟨x0, .inl rfl⟩
      refine .step ih ((mem_steps S hbd).mpr ?_)
      rcases (mem_steps S hbd).mp r with ⟨h3, h4, h5⟩ | ⟨h3, h4, h5⟩
      · exact .inl ⟨h3, h4, h5.trans (h _)⟩
      · exact .inr ⟨h3, h4, fun z => h5 ((h _).mpr z)⟩
  exact ⟨key h, key fun k => (h k).symm⟩
end
open Classical in
noncomputable def rchB (cs : List (List Int)) (Z : List Int) (x y : Int) : Bool := decide (Rch cs Z x y)
open Classical in
theorem rchB_iff {cs : List (List Int)} {Z : List Int} {x y : Int} : rchB cs Z x y = true ↔ Rch cs Z x y := by unfold rchB; exact decide_eq_true_iff
theorem rchB_no {cs : List (List Int)} {Z : List Int} {x y : Int} : rchB cs Z x y = false ↔ ¬ Rch cs Z x y := by rw [← rchB_iff]; cases rchB cs Z x y <;> simp
end Mir

namespace Mir
open PySem PySem.Spec L2
open ToD (toD)
set_option autoImplicit false
/-! ## walks and simple roads -/
theorem andO_some (b c : Bool) : andO b (some c) = some (b && c) := by cases b <;> rfl
theorem orO_some (b c : Bool) : orO b (some c) = some (b || c) := by cases b <;> rfl
theorem snoc_split {α : Type} {R p t : List α} {s a : α} (h : R ++ [s] = p ++ a :: t) : (t = [] ∧ R = p ∧ s = a) ∨ ∃ t', t = t' ++ [s] ∧ R = p ++ a :: t' := by
  rcases List.eq_nil_or_concat t with rfl | ⟨t', z, rfl⟩
  · have := List.append_inj' h rfl
    simp only [List.cons.injEq, and_true] at this
    exact .inl ⟨rfl, this.1, this.2⟩
  · rw [List.concat_eq_append] at h ⊢
    have h2 : R ++ [s] = (p ++ a :: t') ++ [z] := by rw [h]; simp
    have := List.append_inj' h2 rfl
    simp only [List.cons.injEq, and_true] at this
    exact .inr ⟨t', by rw [this.2], this.1⟩
/-- a thing with a known one at or beneath it -/
def AnZ (cs : List (List Int)) (n : Int) (Z : List Int) (v : Int) : Prop := ∃ z ∈ Z, Star (Dn cs n) v z
def Ste (cs : List (List Int)) (n : Int) (Z : List Int) (a b : Int × Int) : Prop :=
  (b.2 = 0 ∧ b.1 ∈ rowAt cs a.1 ∧ ((a.2 = 1 ∧ AnZ cs n Z a.1) ∨ (a.2 = 0 ∧ a.1 ∉ Z))) ∨ (b.2 = 1 ∧ Dn cs n a.1 b.1 ∧ a.1 ∉ Z)
def Rd (cs : List (List Int)) (n x y : Int) (R : List Int) : Prop :=
  R.Nodup ∧ (∀ k ∈ R, 0 ≤ k ∧ k < n) ∧ (∃ t, R = x :: t) ∧ (∃ t, R = t ++ [y]) ∧ ∀ p a b t, R = p ++ a :: b :: t → (b ∈ rowAt cs a ∨ a ∈ rowAt cs b)
def Opn (cs : List (List Int)) (n : Int) (Z R : List Int) : Prop :=
  ∀ p a v b t, R = p ++ a :: v :: b :: t → (a ∈ rowAt cs v ∧ b ∈ rowAt cs v → AnZ cs n Z v) ∧ (¬ (a ∈ rowAt cs v ∧ b ∈ rowAt cs v) → v ∉ Z)
section
variable {n : Int} {cs : List (List Int)} {x y : Int} {Z : List Int}
theorem Rd.rev {R : List Int} (h : Rd cs n x y R) : Rd cs n y x R.reverse := by
  obtain ⟨h1, h2, ⟨t, h3⟩, ⟨t2, h4⟩, h5⟩ := h
  refine ⟨(List.reverse_perm R).nodup_iff.mpr h1, fun k hk => h2 k (List.mem_reverse.mp hk), ⟨t2.reverse, by rw [h4]; simp⟩, ⟨t.reverse, by rw [h3]; simp⟩, fun p a b t e => ?_⟩
  have e2 : R = t.reverse ++ b :: a :: p.reverse := by
    have := congrArg List.reverse e
    rw [List.reverse_reverse] at this
    rw [this]; simp
  exact (h5 _ _ _ _ e2).symm
theorem Opn.rev {R : List Int} (h : Opn cs n Z R) : Opn cs n Z R.reverse := by
  intro p a v b t e
  have e2 : R = t.reverse ++ b :: v :: a :: p.reverse := by
    have := congrArg List.reverse e
    rw [List.reverse_reverse] at this
    rw [this]; simp
  obtain ⟨h1, h2⟩ := h _ _ _ _ _ e2
  exact ⟨fun ⟨z1, z2⟩ => h1 ⟨z2, z1⟩, fun z => h2 fun ⟨z1, z2⟩ => z ⟨z2, z1⟩⟩
theorem acyc (S : Shape n cs) {a b : Int} (ha : 0 ≤ a ∧ a < n) (hb : 0 ≤ b ∧ b < n) (h1 : b ∈ rowAt cs a) (h2 : a ∈ rowAt cs b) : False := by
  obtain ⟨rank, hr⟩ := S.rank
  have r1 := hr a b ha.1 ha.2 h1
  have r2 := hr b a hb.1 hb.2 h2
  omega
theorem ste_dom (S : Shape n cs) {a b : Int × Int} (ha : PDom n a) (h : Ste cs n Z a b) : PDom n b := by
  rcases h with ⟨h1, h2, _⟩ | ⟨h1, h2, _⟩
  · exact ⟨S.dom' ha.1.1 ha.1.2 h2, .inl h1⟩
  · exact ⟨⟨h2.1, h2.2.1⟩, .inr h1⟩
theorem star_ste_dom (S : Shape n cs) {a b : Int × Int} (ha : PDom n a) (h : Star (Ste cs n Z) a b) : PDom n b := h.closed (P := PDom n) ha fun _ _ hp hs => ste_dom S hp hs
/-- to go down and come back needs a known thing beneath -/
theorem ste_back1 {a : Int} {s0 s : Int × Int} (h : Star (Ste cs n Z) s0 s) (e : s0 = (a, 1)) : (s.2 = 0 ∧ AnZ cs n Z a) ∨ (s.2 = 1 ∧ (AnZ cs n Z a ∨ Star (Dn cs n) a s.1)) := by
  induction h with
  | refl => subst e; exact .inr ⟨rfl, .inr (.refl _)⟩
  | @step b c s r ih =>
    rcases ih with ⟨h0, ha⟩ | ⟨h0, ha⟩
    · rcases r with ⟨h1, h2, h3⟩ | ⟨h1, h2, h3⟩
      · exact .inl ⟨h1, ha⟩
      · exact .inr ⟨h1, .inl ha⟩
    · rcases r with ⟨h1, h2, h3⟩ | ⟨h1, h2, h3⟩
      · refine .inl ⟨h1, ?_⟩
        rcases ha with ha | hs
        · exact ha
        · rcases h3 with ⟨_, z, hz, h4⟩ | ⟨h4, _⟩
          · exact ⟨z, hz, hs.trans h4⟩
          · omega
      · refine .inr ⟨h1, ?_⟩
        rcases ha with ha | hs
        · exact .inl ha
        · exact .inr (.step hs h2)
theorem ste_back {a : Int} {s : Int × Int} (h : Star (Ste cs n Z) (a, 1) s) (h0 : s.2 = 0) : AnZ cs n Z a := by
  rcases ste_back1 h rfl with h1 | h1
  · exact h1.2
  · omega
/-- a simple road with the way each of its things was come to -/
inductive SP (cs : List (List Int)) (n : Int) (Z : List Int) (x : Int) : List Int → Int × Int → Prop
  | start : SP cs n Z x [x] (x, 0)
  | snoc {R : List Int} {t s : Int × Int} : SP cs n Z x R t → Ste cs n Z t s → s.1 ∉ R → SP cs n Z x (R ++ [s.1]) s
theorem SP.at {R : List Int} {s : Int × Int} (h : SP cs n Z x R s) : ∀ v ∈ R, ∃ R2 t, SP cs n Z x R2 t ∧ t.1 = v ∧ Star (Ste cs n Z) t s := by
  induction h with
  | start => intro v hv; rw [List.mem_singleton.mp hv]; exact ⟨_, _, .start, rfl, .refl _⟩
  | @snoc R t s h1 h2 h3 ih =>
    intro v hv
    rcases List.mem_append.mp hv with hv | hv
    · obtain ⟨R2, u, h4, h5, h6⟩ := ih v hv
      exact ⟨R2, u, h4, h5, .step h6 h2⟩
    · rw [List.mem_singleton.mp hv]
      exact ⟨_, _, .snoc h1 h2 h3, rfl, .refl _⟩
theorem SP.last {R : List Int} {s : Int × Int} (h : SP cs n Z x R s) : ∃ t, R = t ++ [s.1] := by
  cases h with
  | start => exact ⟨[], rfl⟩
  | @snoc R t s h1 h2 h3 => exact ⟨R, rfl⟩
theorem SP.dom (S : Shape n cs) (x0 : 0 ≤ x ∧ x < n) {R : List Int} {s : Int × Int} (h : SP cs n Z x R s) : PDom n s ∧ ∀ k ∈ R, 0 ≤ k ∧ k < n := by
  induction h with
  | start => exact ⟨⟨x0, .inl rfl⟩, fun k hk => by rw [List.mem_singleton.mp hk]; exact x0⟩
  | @snoc R t s h1 h2 h3 ih =>
    have := ste_dom S ih.1 h2
    refine ⟨this, fun k hk => ?_⟩
    rcases List.mem_append.mp hk with hk | hk
    · exact ih.2 k hk
    · rw [List.mem_singleton.mp hk]; exact this.1
theorem SP.way (S : Shape n cs) (x0 : 0 ≤ x ∧ x < n) {R : List Int} {s : Int × Int} (h : SP cs n Z x R s) : ∀ q u v, R = q ++ u :: [v] → v = s.1 ∧ (s.2 = 1 ↔ u ∈ rowAt cs v) := by
  cases h with
  | start =>
    intro q u v e
    have := congrArg List.length e
    rw [List.length_append] at this
    simp at this
  | @snoc R t s h1 h2 h3 =>
    intro q u v e
    obtain ⟨t2, ht⟩ := h1.last
    have e2 : R ++ [s.1] = (q ++ [u]) ++ [v] := by rw [e]; simp
    have e3 := List.append_inj' e2 rfl
    simp only [List.cons.injEq, and_true] at e3
    have e4 := ht.symm.trans e3.1
    have e5 := List.append_inj' e4 rfl
    simp only [List.cons.injEq, and_true] at e5
    have hd := (h1.dom S x0).1
    have hs := ste_dom S hd h2
    refine ⟨e3.2.symm, ?_⟩
    rw [← e3.2, ← e5.2]
    rcases h2 with ⟨g1, g2, _⟩ | ⟨g1, g2, _⟩
    · exact ⟨fun z => by omega, fun z => (acyc S hd.1 hs.1 g2 z).elim⟩
    · exact ⟨fun _ => g2.2.2, fun _ => g1⟩
theorem SP.rd (S : Shape n cs) (x0 : 0 ≤ x ∧ x < n) {R : List Int} {s : Int × Int} (h : SP cs n Z x R s) : Rd cs n x s.1 R ∧ Opn cs n Z R := by
  induction h with
  | start =>
    refine ⟨⟨by simp, fun k hk => by rw [List.mem_singleton.mp hk]; exact x0, ⟨[], rfl⟩, ⟨[], rfl⟩, fun p a b t e => ?_⟩, fun p a v b t e => ?_⟩
    · have := congrArg List.length e
      rw [List.length_append] at this
      simp at this
      omega
    · have := congrArg List.length e
      rw [List.length_append] at this
      simp at this
      omega
  | @snoc R t s h1 h2 h3 ih =>
    obtain ⟨⟨i1, i2, ⟨i3, i4⟩, ⟨i5, i6⟩, i7⟩, i8⟩ := ih
    have hsp := SP.snoc h1 h2 h3
    have hd := (h1.dom S x0).1
    have hs := ste_dom S hd h2
    refine ⟨⟨?_, (hsp.dom S x0).2, ⟨i3 ++ [s.1], by rw [i4]; rfl⟩, ⟨R, rfl⟩, fun p a b u e => ?_⟩, fun p a v b u e => ?_⟩
    · rw [List.nodup_append]
      exact ⟨i1, by simp, fun a ha b hb e => h3 (by rw [← List.mem_singleton.mp hb, ← e]; exact ha)⟩
    · have e' : R ++ [s.1] = (p ++ [a]) ++ b :: u := by rw [e]; simp
      rcases snoc_split e' with ⟨_, e2, e3⟩ | ⟨t', e2, e3⟩
      · have e4 := i6.symm.trans e2
        have e5 := List.append_inj' e4 rfl
        simp only [List.cons.injEq, and_true] at e5
        rw [← e5.2, ← e3]
        rcases h2 with ⟨_, g2, _⟩ | ⟨_, g2, _⟩
        · exact .inl g2
        · exact .inr g2.2.2
      · exact i7 p a b t' (by rw [e3]; simp)
    · have e' : R ++ [s.1] = (p ++ a :: [v]) ++ b :: u := by rw [e]; simp
      rcases snoc_split e' with ⟨_, e2, e3⟩ | ⟨t', e2, e3⟩
      · obtain ⟨w1, w2⟩ := h1.way S x0 _ _ _ e2
        subst w1; subst e3
        rcases h2 with ⟨g1, g2, g3⟩ | ⟨g1, g2, g3⟩
        · refine ⟨fun z => ?_, fun z => ?_⟩
          · rcases g3 with g3 | g3
            · exact g3.2
            · have := w2.mpr z.1; omega
          · rcases g3 with g3 | g3
            · exact absurd ⟨w2.mp g3.1, g2⟩ z
            · exact g3.2
        · exact ⟨fun z => (acyc S hs.1 hd.1 g2.2.2 z.2).elim, fun _ => g3⟩
      · exact i8 p a v b t' (by rw [e3]; simp)
/-- where a walk goes, a simple road goes -/
theorem walk_road (S : Shape n cs) (x0 : 0 ≤ x ∧ x < n) {s : Int × Int} (h : Star (Ste cs n Z) (x, 0) s) : ∃ R t, SP cs n Z x R t ∧ t.1 = s.1 ∧ Star (Ste cs n Z) t s := by
  induction h with
  | refl => exact ⟨_, _, .start, rfl, .refl _⟩
  | @step b c s r ih =>
    obtain ⟨R, t, h1, h2, h3⟩ := ih
    have td := (h1.dom S x0).1
    have bd := star_ste_dom S td h3
    have hst : Ste cs n Z t c := by
      by_cases hw : t.2 = b.2
      · rw [show t = b from Prod.ext h2 hw]; exact r
      · -- the walk left t
        have hleave : ∀ {u v : Int × Int}, Star (Ste cs n Z) u v → u = v ∨ ∃ q, Ste cs n Z u q := by
          intro u v s
          induction s with
          | refl => exact .inl rfl
          | step _ r ih => rcases ih with rfl | ih
                           · exact .inr ⟨_, r⟩
                           · exact .inr ih
        obtain ⟨q, hq⟩ := (hleave h3).resolve_left fun z => hw (by rw [z])
        rcases td.2 with t0 | t1
        · have hnz : t.1 ∉ Z := by
            rcases hq with ⟨_, _, z⟩ | ⟨_, _, z⟩
            · rcases z with z | z
              · omega
              · exact z.2
            · exact z
          rcases r with ⟨g1, g2, _⟩ | ⟨g1, g2, _⟩
          · exact .inl ⟨g1, by rw [h2]; exact g2, .inr ⟨t0, hnz⟩⟩
          · exact .inr ⟨g1, by rw [h2]; exact g2, hnz⟩
        · have b0 : b.2 = 0 := by rcases bd.2 with z | z; exact z; omega
          have han : AnZ cs n Z t.1 := (ste_back (a := t.1) (s := b) (by rw [show ((t.1, 1) : Int × Int) = t from Prod.ext rfl t1.symm]; exact h3)) b0
          have hnz : t.1 ∉ Z := by
            rw [h2]
            rcases r with ⟨_, _, z⟩ | ⟨_, _, z⟩
            · rcases z with z | z
              · omega
              · exact z.2
            · exact z
          rcases r with ⟨g1, g2, _⟩ | ⟨g1, g2, _⟩
          · exact .inl ⟨g1, by rw [h2]; exact g2, .inl ⟨t1, han⟩⟩
          · exact .inr ⟨g1, by rw [h2]; exact g2, hnz⟩
    by_cases hc : c.1 ∈ R
    · obtain ⟨R2, u, g1, g2, g3⟩ := h1.at _ hc
      exact ⟨R2, u, g1, g2, .step g3 hst⟩
    · exact ⟨_, _, .snoc h1 hst hc, rfl, .refl _⟩
theorem road_walk (S : Shape n cs) (hx : x ∉ Z) {R : List Int} (h : Rd cs n x y R) (ho : Opn cs n Z R) : ∀ (m : Nat) (p t : List Int) (v : Int), p.length = m → R = p ++ v :: t → ∃ w, Star (Ste cs n Z) (x, 0) (v, w) ∧ (w = 0 ∨ w = 1) ∧ (p = [] → w = 0) ∧ ∀ q u, p = q ++ [u] → (w = 1 ↔ u ∈ rowAt cs v) := by
  obtain ⟨h1, h2, ⟨t0, h3⟩, _, h5⟩ := h
  intro m
  induction m with
  | zero =>
    intro p t v hp e
    have hp2 := List.length_eq_zero_iff.mp hp
    subst hp2
    rw [h3, List.nil_append] at e
    simp only [List.cons.injEq] at e
    rw [← e.1]
    exact ⟨0, .refl _, .inl rfl, fun _ => rfl, fun q u z => by cases q <;> cases z⟩
  | succ m ih =>
    intro p t v hp e
    rcases List.eq_nil_or_concat p with rfl | ⟨q, u, rfl⟩
    · cases hp
    · rw [List.concat_eq_append] at *
      rw [List.length_append] at hp
      have e2 : R = q ++ u :: v :: t := by rw [e]; simp
      obtain ⟨w, g1, g2, g3, g4⟩ := ih q (v :: t) u (by simpa using hp) e2
      have hu := h2 u (by rw [e2]; simp)
      have hv := h2 v (by rw [e2]; simp)
      have hq : ∀ q2 u2, q ++ [u] = q2 ++ [u2] → u2 = u := fun q2 u2 z => by
        have := List.append_inj' z rfl
        simp only [List.cons.injEq, and_true] at this
        exact this.2.symm
      -- is u passed?
      have hpass : (w = 1 ∧ v ∈ rowAt cs u → AnZ cs n Z u) ∧ (¬ (w = 1 ∧ v ∈ rowAt cs u) → u ∉ Z) := by
        rcases List.eq_nil_or_concat q with rfl | ⟨q3, u3, rfl⟩
        · have hw := g3 rfl
          rw [h3, List.nil_append] at e2
          simp only [List.cons.injEq] at e2
          rw [← e2.1]
          exact ⟨fun z => by omega, fun _ => hx⟩
        · rw [List.concat_eq_append] at *
          have hiff := g4 q3 u3 rfl
          have e4 : R = q3 ++ u3 :: u :: v :: t := by rw [e2]; simp
          have := ho _ _ _ _ _ e4
          rw [hiff]
          exact this
      rcases h5 _ _ _ _ e2 with hup | hdn
      · refine ⟨0, .step g1 (.inl ⟨rfl, hup, ?_⟩), .inl rfl, fun z => by simp at z, fun q2 u2 z => ?_⟩
        · rcases g2 with g2 | g2
          · exact .inr ⟨g2, hpass.2 fun z => by omega⟩
          · exact .inl ⟨g2, hpass.1 ⟨g2, hup⟩⟩
        · rw [hq q2 u2 z]
          exact ⟨fun z => by omega, fun z => (acyc S hu hv hup z).elim⟩
      · refine ⟨1, .step g1 (.inr ⟨rfl, ⟨hv.1, hv.2, hdn⟩, hpass.2 fun z => (acyc S hu hv z.2 hdn).elim⟩), .inr rfl, fun z => by simp at z, fun q2 u2 z => ?_⟩
        rw [hq q2 u2 z]
        exact ⟨fun _ => hdn, fun _ => rfl⟩
theorem stp_ste (S : Shape n cs) {a b : Int × Int} (ha : PDom n a) (h : Stp cs Z a b) : Ste cs n Z a b := by
  rcases (mem_steps S ha).mp h with ⟨h1, h2, h3⟩ | ⟨h1, h2, h3⟩
  · refine .inl ⟨h1, h2, ?_⟩
    rcases ha.2 with h4 | h4
    · exact .inr ⟨h4, fun z => by have := h3.mpr z; omega⟩
    · exact .inl ⟨h4, a.1, h3.mp h4, .refl _⟩
  · have := mem_eff.mp h2
    rw [S.len] at this
    exact .inr ⟨h1, ⟨this.1.1, this.1.2, this.2⟩, h3⟩
theorem ste_stp (S : Shape n cs) {a b : Int × Int} (ha : PDom n a) (h : Ste cs n Z a b) : Star (Stp cs Z) a b := by
  obtain ⟨v, w⟩ := a
  obtain ⟨c, w2⟩ := b
  rcases h with ⟨h1, h2, h3⟩ | ⟨h1, h2, h3⟩
  · simp only at h1 h2 h3
    subst h1
    rcases h3 with ⟨h3, z, hz, h4⟩ | ⟨h3, h4⟩
    · subst h3
      by_cases hv : v ∈ Z
      · exact .step (.refl _) (stp_up S ha h2 ⟨fun _ => hv, fun _ => rfl⟩)
      · have key : ∀ {d : Int}, Star (Dn cs n) v d → Star (Stp cs Z) (v, 1) (v, 0) ∨ (d ∉ Z ∧ (0 ≤ d ∧ d < n) ∧ Star (Stp cs Z) (v, 1) (d, 1) ∧ Star (Stp cs Z) (d, 0) (v, 0)) := by
          intro d s
          induction s with
          | refl => exact .inr ⟨hv, ha.1, .refl _, .refl _⟩
          | @step d e s r ih =>
            rcases ih with ih | ⟨i1, i2, i3, i4⟩
            · exact .inl ih
            · have hed : 0 ≤ e ∧ e < n := ⟨r.1, r.2.1⟩
              have h1 : Star (Stp cs Z) (v, 1) (e, 1) := .step i3 (stp_dn S ⟨i2, .inr rfl⟩ r i1)
              by_cases he : e ∈ Z
              · exact .inl ((Star.step h1 (stp_up S ⟨hed, .inr rfl⟩ r.2.2 ⟨fun _ => he, fun _ => rfl⟩)).trans i4)
              · exact .inr ⟨he, hed, h1, Star.head (stp_up S ⟨hed, .inl rfl⟩ r.2.2 ⟨fun z => by omega, fun z => absurd z he⟩) i4⟩
        rcases key h4 with k1 | ⟨k1, _⟩
        · exact .step k1 (stp_up S ⟨ha.1, .inl rfl⟩ h2 ⟨fun z => by omega, fun z => absurd z hv⟩)
        · exact absurd hz k1
    · subst h3
      exact .step (.refl _) (stp_up S ha h2 ⟨fun z => by omega, fun z => absurd z h4⟩)
  · simp only at h1 h2 h3
    subst h1
    exact .step (.refl _) (stp_dn S ha h2 h3)
theorem rch_ste (S : Shape n cs) (x0 : 0 ≤ x ∧ x < n) : Rch cs Z x y ↔ ∃ w, Star (Ste cs n Z) (x, 0) (y, w) := by
  constructor
  · rintro ⟨w, h⟩
    refine ⟨w, ?_⟩
    generalize (y, w) = t at h
    induction h with
    | refl => exact .refl _
    | step s r ih => exact .step ih (stp_ste S (star_pdom S s ⟨x0, .inl rfl⟩) r)
  · rintro ⟨w, h⟩
    refine ⟨w, ?_⟩
    generalize (y, w) = t at h
    induction h with
    | refl => exact .refl _
    | step s r ih => exact ih.trans (ste_stp S (star_ste_dom S ⟨x0, .inl rfl⟩ s) r)
/-- a walk leads on where one simple road is open -/
theorem rch_road (S : Shape n cs) (x0 : 0 ≤ x ∧ x < n) (hx : x ∉ Z) : Rch cs Z x y ↔ ∃ R, Rd cs n x y R ∧ Opn cs n Z R := by
  rw [rch_ste S x0]
  constructor
  · rintro ⟨w, h⟩
    obtain ⟨R, t, h1, h2, _⟩ := walk_road S x0 h
    have := h1.rd S x0
    rw [h2] at this
    exact ⟨R, this⟩
  · rintro ⟨R, h1, h2⟩
    obtain ⟨t, ht⟩ := h1.2.2.2.1
    obtain ⟨w, hw, _⟩ := road_walk S hx h1 h2 _ t [] y rfl ht
    exact ⟨w, hw⟩
theorem rch_sym (S : Shape n cs) (x0 : 0 ≤ x ∧ x < n) (y0 : 0 ≤ y ∧ y < n) (hx : x ∉ Z) (hy : y ∉ Z) : Rch cs Z x y ↔ Rch cs Z y x := by
  rw [rch_road S x0 hx, rch_road S y0 hy]
  exact ⟨fun ⟨R, h1, h2⟩ => ⟨R.reverse, h1.rev, h2.rev⟩, fun ⟨R, h1, h2⟩ => ⟨R.reverse, h1.rev, h2.rev⟩⟩
theorem rchB_sym (S : Shape n cs) (x0 : 0 ≤ x ∧ x < n) (y0 : 0 ≤ y ∧ y < n) (hx : x ∉ Z) (hy : y ∉ Z) : rchB cs Z x y = rchB cs Z y x := Bool.eq_iff_iff.mpr (by rw [rchB_iff, rchB_iff]; exact rch_sym S x0 y0 hx hy)
end
end Mir

namespace Mir
open PySem PySem.Spec L2
set_option autoImplicit false
/-! ## sums over the values of some things -/
def vset (φ : Int → Int) (k v : Int) : Int → Int := fun j => if j = k then v else φ j
theorem vset_same (φ : Int → Int) (k v : Int) : vset φ k v k = v := by unfold vset; rw [if_pos rfl]
theorem vset_ne {φ : Int → Int} {k v j : Int} (h : j ≠ k) : vset φ k v j = φ j := by unfold vset; rw [if_neg h]
theorem vset_comm {φ : Int → Int} {k j v u : Int} (h : k ≠ j) : vset (vset φ k v) j u = vset (vset φ j u) k v := by
  funext i
  unfold vset
  by_cases h1 : i = j
  · rw [if_pos h1, if_neg (by rw [h1]; exact Ne.symm h), if_pos h1]
  · by_cases h2 : i = k
    · rw [if_neg h1, if_pos h2, if_pos h2]
    · rw [if_neg h1, if_neg h2, if_neg h2, if_neg h1]
def sumL : List Rat → Rat
  | [] => 0
  | x :: xs => x + sumL xs
theorem sumL_app : ∀ xs ys : List Rat, sumL (xs ++ ys) = sumL xs + sumL ys
  | [], ys => by show sumL ys = 0 + sumL ys; rw [Rat.zero_add]
  | x :: xs, ys => by
    show x + sumL (xs ++ ys) = x + sumL xs + sumL ys
    rw [sumL_app xs ys, Rat.add_assoc]
theorem sumL_map_add {α : Type} (f g : α → Rat) : ∀ xs : List α, sumL (xs.map fun x => f x + g x) = sumL (xs.map f) + sumL (xs.map g)
  | [] => by show (0 : Rat) = 0 + 0; rw [Rat.zero_add]
  | x :: xs => by
    show f x + g x + sumL (xs.map fun x => f x + g x) = f x + sumL (xs.map f) + (g x + sumL (xs.map g))
    rw [sumL_map_add f g xs]
    grind
theorem sumL_mul {α : Type} (c : Rat) (f : α → Rat) : ∀ xs : List α, sumL (xs.map fun x => c * f x) = c * sumL (xs.map f)
  | [] => by show (0 : Rat) = c * 0; rw [Rat.mul_zero]
  | x :: xs => by
    show c * f x + sumL (xs.map fun x => c * f x) = c * (f x + sumL (xs.map f))
    rw [sumL_mul c f xs, Rat.mul_add]
theorem sumL_zero {α : Type} : ∀ xs : List α, sumL (xs.map fun _ => (0 : Rat)) = 0
  | [] => rfl
  | x :: xs => by
    show 0 + sumL (xs.map fun _ => (0 : Rat)) = 0
    rw [sumL_zero xs, Rat.zero_add]
theorem sumL_swap {α β : Type} (f : α → β → Rat) : ∀ (xs : List α) (ys : List β), sumL (xs.map fun x => sumL (ys.map fun y => f x y)) = sumL (ys.map fun y => sumL (xs.map fun x => f x y))
  | [], ys => by
    show (0 : Rat) = sumL (ys.map fun y => 0)
    rw [sumL_zero]
  | x :: xs, ys => by
    show sumL (ys.map fun y => f x y) + sumL (xs.map fun x => sumL (ys.map fun y => f x y)) = sumL (ys.map fun y => f x y + sumL (xs.map fun x => f x y))
    rw [sumL_swap f xs ys, sumL_map_add]
/-- one thing summed out -/
def sum1 (sz : Int → Int) (k : Int) (F : (Int → Int) → Rat) : (Int → Int) → Rat := fun φ => sumL ((rng 0 (sz k)).map fun v => F (vset φ k v))
/-- some things summed out, the first of them last -/
def sumU (sz : Int → Int) : List Int → ((Int → Int) → Rat) → (Int → Int) → Rat
  | [], F => F
  | k :: ks, F => sum1 sz k (sumU sz ks F)
theorem sum1_comm {sz : Int → Int} {k j : Int} (h : k ≠ j) (F : (Int → Int) → Rat) : sum1 sz k (sum1 sz j F) = sum1 sz j (sum1 sz k F) := by
  funext φ
  unfold sum1
  rw [sumL_swap]
  congr 1
  apply List.map_congr_left
  intro v _
  congr 1
  apply List.map_congr_left
  intro u _
  rw [vset_comm h]
theorem sumU_move {sz : Int → Int} {k : Int} (F : (Int → Int) → Rat) : ∀ ks : List Int, k ∉ ks → sumU sz (k :: ks) F = sumU sz ks (sum1 sz k F)
  | [], _ => rfl
  | j :: ks, h => by
    show sum1 sz k (sum1 sz j (sumU sz ks F)) = sum1 sz j (sumU sz ks (sum1 sz k F))
    rw [sum1_comm (fun e => h (by rw [e]; exact List.mem_cons_self)), ← sumU_move F ks fun z => h (List.mem_cons_of_mem _ z)]
    rfl
/-- the order is all one -/
theorem sumU_perm {sz : Int → Int} {F : (Int → Int) → Rat} {xs ys : List Int} (p : xs.Perm ys) : xs.Nodup → sumU sz xs F = sumU sz ys F := by
  induction p with
  | nil => intro _; rfl
  | @cons a xs ys p ih =>
    intro nd
    show sum1 sz a (sumU sz xs F) = sum1 sz a (sumU sz ys F)
    rw [ih (List.nodup_cons.mp nd).2]
  | swap a b l =>
    intro nd
    show sum1 sz b (sum1 sz a (sumU sz l F)) = sum1 sz a (sum1 sz b (sumU sz l F))
    exact sum1_comm (fun e => (List.nodup_cons.mp nd).1 (by rw [e]; exact List.mem_cons_self)) _
  | trans p q ih1 ih2 =>
    intro nd
    rw [ih1 nd, ih2 (p.nodup_iff.mp nd)]
/-- F looks at no other things -/
def On (ks : List Int) (F : (Int → Int) → Rat) : Prop := ∀ φ ψ : Int → Int, (∀ k ∈ ks, φ k = ψ k) → F φ = F ψ
theorem On.free {ks : List Int} {F : (Int → Int) → Rat} (h : On ks F) {k : Int} (hk : k ∉ ks) (φ : Int → Int) (v : Int) : F (vset φ k v) = F φ :=
  h _ _ fun j hj => vset_ne fun e => hk (e ▸ hj)
/-- what does not know a thing goes out of its sum -/
theorem sum1_out {sz : Int → Int} {ks : List Int} {G F : (Int → Int) → Rat} {k : Int} (h : On ks G) (hk : k ∉ ks) : sum1 sz k (fun φ => G φ * F φ) = fun φ => G φ * sum1 sz k F φ := by
  funext φ
  unfold sum1
  rw [← sumL_mul]
  congr 1
  apply List.map_congr_left
  intro v _
  show G (vset φ k v) * F (vset φ k v) = G φ * F (vset φ k v)
  rw [h.free hk]
theorem sumU_congr {sz : Int → Int} {ks : List Int} {F G : (Int → Int) → Rat} (h : ∀ φ, F φ = G φ) : sumU sz ks F = sumU sz ks G := by
  rw [show F = G from funext h]
/-- the product of all -/
def prodF : List ((Int → Int) → Rat) → (Int → Int) → Rat
  | [], _ => 1
  | f :: fs, φ => f φ * prodF fs φ
theorem prodF_app : ∀ (fs gs : List ((Int → Int) → Rat)) (φ : Int → Int), prodF (fs ++ gs) φ = prodF fs φ * prodF gs φ
  | [], gs, φ => by show prodF gs φ = 1 * prodF gs φ; rw [Rat.one_mul]
  | f :: fs, gs, φ => by
    show f φ * prodF (fs ++ gs) φ = f φ * prodF fs φ * prodF gs φ
    rw [prodF_app fs gs, Rat.mul_assoc]
theorem sum1_on {sz : Int → Int} {ks : List Int} {F : (Int → Int) → Rat} {k : Int} (h : On ks F) : On (ks.filter fun j => !decide (j = k)) (sum1 sz k F) := by
  intro φ ψ he
  unfold sum1
  congr 1
  apply List.map_congr_left
  intro v _
  refine h _ _ fun j hj => ?_
  by_cases e : j = k
  · rw [e, vset_same, vset_same]
  · rw [vset_ne e, vset_ne e]
    exact he j (List.mem_filter.mpr ⟨hj, by simpa using e⟩)
/-! ## sheets -/
/-- the values of some things, 0 elsewhere -/
def put (ks ws : List Int) : Int → Int := fun j => ((ks.zip ws).lookup j).getD 0
theorem put_map (φ : Int → Int) : ∀ (ks : List Int) (j : Int), j ∈ ks → put ks (ks.map φ) j = φ j
  | k :: ks, j, h => by
    unfold put
    rw [List.map_cons, List.zip_cons_cons, List.lookup_cons]
    by_cases e : j = k
    · subst e; simp
    · rw [show (j == k) = false by simpa using e]
      have hj : j ∈ ks := by
        rcases List.mem_cons.mp h with h | h
        · exact absurd h e
        · exact h
      exact put_map φ ks j hj
/-- a sheet of the things ks tells F -/
structure IsSh (sz : Int → Int) (sh : List Int × List (Int × Int)) (F : (Int → Int) → Rat) : Prop where
  asc : sh.1.Pairwise (· < ·)
  on : On sh.1 F
  tells : sh.2 = (allW (sh.1.map sz)).map fun w => qp (F (put sh.1 w))
/-- leaving a thing out keeps the sum of the product -/
theorem elim_ok {sz : Int → Int} {k : Int} (A B : List ((Int → Int) → Rat)) (hB : ∀ f ∈ B, ∃ ks, On ks f ∧ k ∉ ks) : sum1 sz k (fun φ => prodF B φ * prodF A φ) = fun φ => prodF B φ * sum1 sz k (prodF A) φ := by
  have hf : ∀ φ v, prodF B (vset φ k v) = prodF B φ := by
    intro φ v
    induction B with
    | nil => rfl
    | cons f B ih =>
      obtain ⟨ks, h1, h2⟩ := hB f List.mem_cons_self
      show f (vset φ k v) * prodF B (vset φ k v) = f φ * prodF B φ
      rw [h1.free h2, ih fun g hg => hB g (List.mem_cons_of_mem _ hg)]
  funext φ
  unfold sum1
  rw [← sumL_mul]
  congr 1
  apply List.map_congr_left
  intro v _
  show prodF B (vset φ k v) * prodF A (vset φ k v) = prodF B φ * prodF A (vset φ k v)
  rw [hf]
theorem prodF_split (p : Int → Bool) (φ : Int → Int) : ∀ fs : List (Int × ((Int → Int) → Rat)), prodF (fs.map (·.2)) φ = prodF ((fs.filter fun f => !p f.1).map (·.2)) φ * prodF ((fs.filter fun f => p f.1).map (·.2)) φ
  | [] => by show (1 : Rat) = 1 * 1; rw [Rat.one_mul]
  | f :: fs => by
    show f.2 φ * prodF (fs.map (·.2)) φ = _
    rw [prodF_split p φ fs, List.filter_cons, List.filter_cons]
    cases hp : p f.1 with
    | true =>
      simp only [Bool.not_true, Bool.false_eq_true, if_false, if_true, List.map_cons, prodF]
      grind
    | false =>
      simp only [Bool.not_false, Bool.false_eq_true, if_false, if_true, List.map_cons, prodF]
      grind
theorem fitsF {sz φ : Int → Int} : ∀ ks : List Int, (∀ k ∈ ks, 0 ≤ φ k ∧ φ k < sz k) → Fits (ks.map sz) (ks.map φ)
  | [], _ => trivial
  | k :: ks, h => ⟨h k List.mem_cons_self, fitsF ks fun j hj => h j (List.mem_cons_of_mem _ hj)⟩
theorem atI_rng0 {n i : Int} (h0 : 0 ≤ i) (h1 : i < n) : atI (rng 0 n) i = some i := by
  rw [atI_get? h0, rng_idx (by omega)]
  congr 1
  omega
/-- the share a sheet has for values -/
theorem IsSh.pick {sz : Int → Int} {sh : List Int × List (Int × Int)} {F : (Int → Int) → Rat} (h : IsSh sz sh F) (hp : Pos (sh.1.map sz)) {φ : Int → Int} (hφ : ∀ k ∈ sh.1, 0 ≤ φ k ∧ φ k < sz k) : atI sh.2 (rk (sh.1.map sz) (sh.1.map φ)) = some (qp (F φ)) := by
  have hf := fitsF sh.1 hφ
  obtain ⟨r0, r1⟩ := rk_lt hp hf
  rw [h.tells, ← allW_wd hp, List.map_map, atI_map, atI_rng0 r0 r1, Option.map_some]
  show some (qp (F (put sh.1 (wd (sh.1.map sz) (rk (sh.1.map sz) (sh.1.map φ)))))) = _
  rw [wd_rk hp hf, h.on _ φ fun k hk => put_map φ sh.1 k hk]
/-! ## how great -/
theorem qz_of {x : Rat} {D M n : Nat} (hD : 0 < D) (h0 : 0 ≤ x) (hM : x ≤ (M : Rat)) {t : Int} (ht : x * (D : Rat) = (t : Rat)) (hb : M * D < 2 ^ n) (hd : D < 2 ^ n) : Qz n x := by
  have hD0 : (0 : Rat) < (D : Rat) := by exact_mod_cast hD
  have hx : x = Rat.divInt t (D : Int) := by
    rw [Rat.divInt_eq_div]
    have : ((D : Int) : Rat) = (D : Rat) := rfl
    rw [this]
    grind
  have ht0 : 0 ≤ t := by
    have : (0 : Rat) ≤ (t : Rat) := by rw [← ht]; exact Rat.mul_nonneg h0 (Rat.le_of_lt hD0)
    exact_mod_cast this
  have htM : t ≤ (M * D : Nat) := by
    have : (t : Rat) ≤ (M : Rat) * (D : Rat) := by rw [← ht]; exact Rat.mul_le_mul_of_nonneg_right hM (Rat.le_of_lt hD0)
    have h2 : (t : Rat) ≤ ((M * D : Nat) : Rat) := by
      rw [Rat.natCast_mul]; exact this
    exact_mod_cast h2
  obtain ⟨e1, e2⟩ := qp_le (t := t) (b := (D : Int)) (by omega)
  rw [hx]
  exact ⟨by omega, by omega⟩
/-- F is at least 0, at most M, and D of it is whole -/
def Wh (D M : Nat) (x : Rat) : Prop := 0 ≤ x ∧ x ≤ (M : Rat) ∧ ∃ t : Int, x * (D : Rat) = (t : Rat)
theorem Wh.qz {D M n : Nat} {x : Rat} (h : Wh D M x) (hD : 0 < D) (hb : M * D < 2 ^ n) (hd : D < 2 ^ n) : Qz n x := by
  obtain ⟨h0, h1, t, ht⟩ := h
  exact qz_of hD h0 h1 ht hb hd
theorem Wh.mul {D E M L : Nat} {x y : Rat} (h : Wh D M x) (g : Wh E L y) : Wh (D * E) (M * L) (x * y) := by
  obtain ⟨h0, h1, t, ht⟩ := h
  obtain ⟨g0, g1, u, gu⟩ := g
  refine ⟨Rat.mul_nonneg h0 g0, ?_, t * u, ?_⟩
  · rw [Rat.natCast_mul]
    have hM : (0 : Rat) ≤ (M : Rat) := by exact_mod_cast Nat.zero_le M
    exact Rat.le_trans (Rat.mul_le_mul_of_nonneg_right h1 g0) (Rat.mul_le_mul_of_nonneg_left g1 hM)
  · rw [Rat.natCast_mul, Rat.intCast_mul, ← ht, ← gu]
    grind
theorem Wh.sum {D M : Nat} {f : Int → Rat} : ∀ p : List Int, (∀ v ∈ p, Wh D M (f v)) → Wh D (p.length * M) (sumL (p.map f))
  | [], _ => ⟨Rat.le_refl, by show (0 : Rat) ≤ ((0 * M : Nat) : Rat); rw [Nat.zero_mul]; exact Rat.le_refl, 0, by show (0 : Rat) * _ = _; rw [Rat.zero_mul]; rfl⟩
  | v :: p, h => by
    obtain ⟨h0, h1, t, ht⟩ := h v List.mem_cons_self
    obtain ⟨g0, g1, u, gu⟩ := Wh.sum p fun w hw => h w (List.mem_cons_of_mem _ hw)
    refine ⟨Rat.add_nonneg h0 g0, ?_, t + u, ?_⟩
    · show f v + sumL (p.map f) ≤ _
      rw [List.length_cons, Nat.succ_mul, Nat.add_comm, Rat.natCast_add]
      grind
    · show (f v + sumL (p.map f)) * _ = _
      rw [Rat.intCast_add, ← ht, ← gu]
      grind
theorem Wh.mono {D M L : Nat} {x : Rat} (h : Wh D M x) (hl : M ≤ L) : Wh D L x := by
  obtain ⟨h0, h1, h2⟩ := h
  exact ⟨h0, Rat.le_trans h1 (by exact_mod_cast hl), h2⟩
theorem Wh.one : Wh 1 1 1 := ⟨by decide, by exact Rat.le_refl, 1, by rw [Rat.one_mul]; rfl⟩
end Mir

namespace Mir
open PySem PySem.Spec L2
set_option autoImplicit false
/-! ## sums over the worlds of a book -/
/-- a world told by a function -/
def wl (n : Int) (φ : Int → Int) : List Int := (rng 0 n).map φ
theorem wl_len {n : Int} (h0 : 0 ≤ n) (φ : Int → Int) : ((wl n φ).length : Int) = n := by
  unfold wl; rw [List.length_map, rng_len]; omega
theorem at0_wl {n k : Int} (φ : Int → Int) (h0 : 0 ≤ k) (h : k < n) : at0 (wl n φ) k = φ k := by
  unfold at0 wl
  rw [List.getD_eq_getElem?_getD, List.getElem?_map, rng_idx (by omega)]
  show φ ((k.toNat : Nat) : Int) = φ k
  rw [show ((k.toNat : Nat) : Int) = k by omega]
theorem map_at0 {n : Int} {w : List Int} (h : (w.length : Int) = n) : (rng 0 n).map (at0 w) = w := by
  apply List.ext_getElem?
  intro i
  rw [List.getElem?_map]
  by_cases hi : i < w.length
  · rw [rng_idx (by omega), List.getElem?_eq_getElem hi]
    show some (at0 w (i : Int)) = _
    unfold at0
    rw [Int.toNat_natCast, List.getD_eq_getElem?_getD, List.getElem?_eq_getElem hi]; rfl
  · rw [List.getElem?_eq_none (by rw [rng_len]; omega), List.getElem?_eq_none (by omega)]; rfl
theorem wl_world {n : Int} {s : List Int} {φ : Int → Int} (h0 : 0 ≤ n) (h : ∀ k, 0 ≤ k → k < n → 0 ≤ φ k ∧ φ k < at0 s k) : GWorld n s (wl n φ) :=
  ⟨wl_len h0 φ, fun k k0 k1 => by rw [at0_wl φ k0 k1]; exact h k k0 k1⟩
theorem wl_congr {n : Int} {φ ψ : Int → Int} (h : ∀ k, 0 ≤ k → k < n → φ k = ψ k) : wl n φ = wl n ψ := List.map_congr_left fun k hk => h k (mem_rng.mp hk).1 (mem_rng.mp hk).2
/-- what a view knows of a thing -/
def vw (view : List (Option Int)) (k : Int) : Option Int := view.getD k.toNat none
theorem atI_vw {view : List (Option Int)} {k : Int} (h0 : 0 ≤ k) (h : k < view.length) : atI view k = some (vw view k) := by
  rw [atI_ok h0 h]
  unfold vw
  rw [List.getD_eq_getElem?_getD, List.getElem?_eq_getElem (by omega)]; rfl
theorem map_vw {n : Int} {view : List (Option Int)} (h : (view.length : Int) = n) : (rng 0 n).map (vw view) = view := by
  apply List.ext_getElem?
  intro i
  rw [List.getElem?_map]
  by_cases hi : i < view.length
  · rw [rng_idx (by omega), List.getElem?_eq_getElem hi]
    show some (vw view (i : Int)) = _
    unfold vw
    rw [Int.toNat_natCast, List.getD_eq_getElem?_getD, List.getElem?_eq_getElem hi]; rfl
  · rw [List.getElem?_eq_none (by rw [rng_len]; omega), List.getElem?_eq_none (by omega)]; rfl
/-- a view of a book -/
structure VOk (n : Int) (s : List Int) (view : List (Option Int)) : Prop where
  len : (view.length : Int) = n
  val : ∀ k a, 0 ≤ k → k < n → vw view k = some a → 0 ≤ a ∧ a < at0 s k
/-- a view with the unknown filled in -/
def fillV (view : List (Option Int)) (φ : Int → Int) : Int → Int := fun j => (vw view j).getD (φ j)
theorem fillV_none {view : List (Option Int)} {φ : Int → Int} {j : Int} (h : vw view j = none) : fillV view φ j = φ j := by unfold fillV; rw [h]; rfl
theorem fillV_some {view : List (Option Int)} {φ : Int → Int} {j a : Int} (h : vw view j = some a) : fillV view φ j = a := by unfold fillV; rw [h]; rfl
theorem VOk.fill {n : Int} {s : List Int} {view : List (Option Int)} (V : VOk n s view) {φ : Int → Int} {j : Int} (j0 : 0 ≤ j) (j1 : j < n) (h : vw view j = none → 0 ≤ φ j ∧ φ j < at0 s j) : 0 ≤ fillV view φ j ∧ fillV view φ j < at0 s j := by
  cases e : vw view j with
  | none => rw [fillV_none e]; exact h e
  | some a => rw [fillV_some e]; exact V.val j a j0 j1 e
def unk (n : Int) (view : List (Option Int)) : List Int := (rng 0 n).filter fun k => (vw view k).isNone
theorem mem_unk {n k : Int} {view : List (Option Int)} : k ∈ unk n view ↔ (0 ≤ k ∧ k < n) ∧ vw view k = none := by
  unfold unk
  rw [List.mem_filter, mem_rng, Option.isNone_iff_eq_none]
theorem unk_nodup (n : Int) (view : List (Option Int)) : (unk n view).Nodup := (rng_nodup 0 n).filter _
/-- all rows share out D alike -/
def Den (n : Int) (t : List (List (List Int))) (D : Nat) : Prop := ∀ k : Int, 0 ≤ k → k < n → ∀ tb, atI t k = some tb → ∀ row ∈ tb, ∀ x ∈ row, ∃ q : Int, x * (D : Int) = q * row.sum
theorem divInt_wh {x m q : Int} {D : Nat} (hx : 0 ≤ x) (hxm : x ≤ m) (hm : 0 < m) (hq : x * (D : Int) = q * m) : Wh D 1 (Rat.divInt x m) := by
  have hm0 : (0 : Rat) < (m : Rat) := Rat.intCast_pos.mpr hm
  have hmne : (m : Rat) ≠ 0 := by grind
  have e : Rat.divInt x m * (m : Rat) = (x : Rat) := by rw [Rat.divInt_eq_div, Rat.div_mul_cancel hmne]
  refine ⟨Rat.divInt_nonneg hx (by omega), ?_, q, ?_⟩
  · have h1 : (x : Rat) ≤ (m : Rat) := by exact_mod_cast hxm
    rcases Rat.le_total (a := Rat.divInt x m) (b := ((1 : Nat) : Rat)) with h | h
    · exact h
    · have : ((1 : Nat) : Rat) * (m : Rat) ≤ Rat.divInt x m * (m : Rat) := Rat.mul_le_mul_of_nonneg_right h (Rat.le_of_lt hm0)
      rw [e] at this
      have h3 : ((1 : Nat) : Rat) = 1 := rfl
      rw [h3] at this ⊢
      have h4 : (x : Rat) = (m : Rat) := by grind
      have h5 : Rat.divInt x m * (m : Rat) = 1 * (m : Rat) := by rw [e, h4, Rat.one_mul]
      have : Rat.divInt x m = 1 := by grind
      rw [this]; exact Rat.le_refl
  · have e2 : (x : Rat) * ((D : Int) : Rat) = (q : Rat) * (m : Rat) := by exact_mod_cast hq
    have e3 : ((D : Int) : Rat) = (D : Rat) := rfl
    rw [e3] at e2
    have e4 : (Rat.divInt x m * (D : Rat)) * (m : Rat) = (q : Rat) * (m : Rat) := by rw [← e2, ← e]; grind
    grind
theorem GBook.chance_wh {n : Int} {s w : List Int} {c : List (List Int)} {t : List (List (List Int))} {D : Nat} (B : GBook n s c t) (hD : Den n t D) (W : GWorld n s w) {k : Int} (h0 : 0 ≤ k) (h : k < n) : Wh D 1 (bChance s c t w k) := by
  obtain ⟨tb, et, e2, G⟩ := B.row W h0 h
  obtain ⟨v0, v1⟩ := W.val k h0 h
  have hl := G.len
  have hm := at0_mem (xs := bRow s c t w k) v0 (by omega)
  have hrow : bRow s c t w k ∈ tb := by
    obtain ⟨p0, _⟩ := rk_lt (B.pos h0 h).2.1 (B.kin W h0 h)
    rw [atI_get? (show 0 ≤ bPlace s c w k from p0)] at e2
    exact List.mem_of_getElem? e2
  obtain ⟨q, hq⟩ := hD k h0 h tb et _ hrow _ hm
  exact divInt_wh (G.lo _ hm) (le_sum G.lo hm) G.pos hq
theorem bChance_congr {n : Int} {s w u : List Int} {c : List (List Int)} {t : List (List (List Int))} {k : Int} (hk : at0 w k = at0 u k) (h : ∀ j ∈ rowAt c k, at0 w j = at0 u j) : bChance s c t w k = bChance s c t u k := by
  have e : bRow s c t w k = bRow s c t u k := by
    unfold bRow bPlace
    rw [List.map_congr_left h]
  unfold bChance
  rw [e, hk]
def prodL : List Rat → Rat
  | [] => 1
  | x :: xs => x * prodL xs
theorem prodL_app : ∀ xs ys : List Rat, prodL (xs ++ ys) = prodL xs * prodL ys
  | [], ys => by show prodL ys = 1 * prodL ys; rw [Rat.one_mul]
  | x :: xs, ys => by
    show x * prodL (xs ++ ys) = x * prodL xs * prodL ys
    rw [prodL_app xs ys, Rat.mul_assoc]
theorem prodL_wh {α : Type} {D : Nat} {f : α → Rat} : ∀ xs : List α, (∀ x ∈ xs, Wh D 1 (f x)) → Wh (D ^ xs.length) 1 (prodL (xs.map f))
  | [], _ => Wh.one
  | x :: xs, h => by
    have := (h x List.mem_cons_self).mul (prodL_wh xs fun y hy => h y (List.mem_cons_of_mem _ hy))
    rw [List.length_cons, Nat.pow_succ, Nat.mul_comm]
    exact this
/-- the chance of a world -/
def bProd (n : Int) (s : List Int) (c : List (List Int)) (t : List (List (List Int))) (w : List Int) : Rat := prodL ((rng 0 n).map (bChance s c t w))
theorem GBook.prod_wh {n : Int} {s w : List Int} {c : List (List Int)} {t : List (List (List Int))} {D : Nat} (B : GBook n s c t) (hD : Den n t D) (W : GWorld n s w) : Wh (D ^ n.toNat) 1 (bProd n s c t w) := by
  have := prodL_wh (rng 0 n) (f := bChance s c t w) fun k hk => B.chance_wh hD W (mem_rng.mp hk).1 (mem_rng.mp hk).2
  rwa [rng_len, Int.sub_zero] at this
/-! ### worlds that agree with a view -/
def agP' (p : Int × Option Int) : Bool := p.2.isNone || decide (p.2 = some p.1)
def agV (w : List Int) (v : List (Option Int)) : Bool := (w.zip v).all agP'
theorem agV_cons (x : Int) (w : List Int) (o : Option Int) (v : List (Option Int)) : agV (x :: w) (o :: v) = ((o.isNone || decide (o = some x)) && agV w v) := rfl
theorem agV_snoc {w : List Int} {v : List (Option Int)} (h : w.length = v.length) (x : Int) (o : Option Int) : agV (w ++ [x]) (v ++ [o]) = (agV w v && (o.isNone || decide (o = some x))) := by
  unfold agV
  rw [List.zip_append h, List.all_append]
  simp [agP']
theorem sumL_flatMap {α : Type} (f : α → List Rat) : ∀ xs : List α, sumL (xs.flatMap f) = sumL (xs.map fun x => sumL (f x))
  | [] => rfl
  | x :: xs => by
    rw [List.flatMap_cons, sumL_app, sumL_flatMap f xs]; rfl
theorem sumL_pick {a : Int} (X : Rat) (f : Int → Rat) (hf : ∀ v, f v = if v = a then X else 0) : ∀ {xs : List Int}, a ∈ xs → xs.Nodup → sumL (xs.map f) = X
  | x :: xs, h, nd => by
    obtain ⟨n1, n2⟩ := List.nodup_cons.mp nd
    show f x + sumL (xs.map f) = X
    by_cases e : x = a
    · have : sumL (xs.map f) = 0 := by
        rw [List.map_congr_left (g := fun _ => (0 : Rat)) fun v hv => by rw [hf, if_neg (fun z => n1 (by rw [e, ← z]; exact hv))]]
        exact sumL_zero xs
      rw [this, hf, if_pos e, Rat.add_zero]
    · rw [hf, if_neg e, Rat.zero_add]
      exact sumL_pick X f hf ((List.mem_cons.mp h).resolve_left fun z => e z.symm) n2
theorem sumU_at {sz : Int → Int} {F G : (Int → Int) → Rat} : ∀ (ks : List Int) (φ : Int → Int), (∀ ψ : Int → Int, (∀ j, j ∉ ks → ψ j = φ j) → F ψ = G ψ) → sumU sz ks F φ = sumU sz ks G φ
  | [], φ, h => h φ fun _ _ => rfl
  | k :: ks, φ, h => by
    show sumL _ = sumL _
    congr 1
    apply List.map_congr_left
    intro v _
    refine sumU_at ks _ fun ψ hψ => h ψ fun j hj => ?_
    rw [hψ j fun z => hj (List.mem_cons_of_mem _ z)]
    exact vset_ne fun z => hj (by rw [z]; exact List.mem_cons_self)
/-- to fill in what a view leaves open is to go over the worlds that agree -/
theorem sum_worlds {sz : Int → Int} {view : List (Option Int)} : ∀ (ks : List Int) (G : List Int → Rat) (φ : Int → Int), ks.Nodup → (∀ k ∈ ks, ∀ a, vw view k = some a → 0 ≤ a ∧ a < sz k) →
    sumU sz (ks.filter fun k => (vw view k).isNone) (fun φ => G (ks.map (fillV view φ))) φ = sumL (((allW (ks.map sz)).filter fun w => agV w (ks.map (vw view))).map G)
  | [], G, φ, _, _ => by
    show G [] = G [] + 0
    rw [Rat.add_zero]
  | k :: ks, G, φ, nd, hv => by
    obtain ⟨nk, nd2⟩ := List.nodup_cons.mp nd
    have ih := fun (G' : List Int → Rat) (φ' : Int → Int) => sum_worlds ks G' φ' nd2 fun j hj => hv j (List.mem_cons_of_mem _ hj)
    have hR : sumL (((allW ((k :: ks).map sz)).filter fun w => agV w ((k :: ks).map (vw view))).map G) = sumL ((rng 0 (sz k)).map fun v => if ((vw view k).isNone || decide (vw view k = some v)) = true then sumL (((allW (ks.map sz)).filter fun w => agV w (ks.map (vw view))).map fun w => G (v :: w)) else 0) := by
      show sumL ((((rng 0 (sz k)).flatMap fun v => (allW (ks.map sz)).map (v :: ·)).filter _).map G) = _
      rw [List.filter_flatMap, List.map_flatMap, sumL_flatMap]
      congr 1
      apply List.map_congr_left
      intro v _
      rw [List.filter_map, List.map_map]
      have e : ((fun w => agV w ((k :: ks).map (vw view))) ∘ fun w => v :: w) = fun w => ((vw view k).isNone || decide (vw view k = some v)) && agV w (ks.map (vw view)) := rfl
      rw [e]
      cases ((vw view k).isNone || decide (vw view k = some v)) with
      | true => simp only [Bool.true_and, if_true]; rfl
      | false =>
        simp only [Bool.false_and, Bool.false_eq_true, if_false]
        rw [List.filter_eq_nil_iff.mpr fun _ _ h => by cases h]; rfl
    rw [hR, List.filter_cons]
    cases e : vw view k with
    | none =>
      simp only [Option.isNone_none, if_true, Bool.true_or]
      show sumL ((rng 0 (sz k)).map fun v => sumU sz (ks.filter _) _ (vset φ k v)) = _
      congr 1
      apply List.map_congr_left
      intro v _
      rw [← ih (fun w => G (v :: w)) (vset φ k v)]
      refine sumU_at _ _ fun ψ hψ => ?_
      show G (fillV view ψ k :: _) = G (v :: _)
      rw [fillV_none e, hψ k fun z => nk (List.mem_filter.mp z).1, vset_same]
    | some a =>
      obtain ⟨a0, a1⟩ := hv k List.mem_cons_self a e
      simp only [Option.isNone_some, Bool.false_eq_true, if_false, Bool.false_or]
      rw [sumL_pick (a := a) (sumL (((allW (ks.map sz)).filter fun w => agV w (ks.map (vw view))).map fun w => G (a :: w))) _ (fun v => by
        by_cases z : v = a
        · subst z; simp
        · rw [if_neg z, if_neg (by simpa using fun y => z y.symm)]) (mem_rng.mpr ⟨a0, a1⟩) (rng_nodup 0 _), ← ih (fun w => G (a :: w)) φ]
      refine sumU_at _ _ fun ψ hψ => ?_
      show G (fillV view ψ k :: _) = G (a :: _)
      rw [fillV_some e]
/-- the chance of a view -/
def chR (n : Int) (s : List Int) (c : List (List Int)) (t : List (List (List Int))) (view : List (Option Int)) : Rat := sumU (at0 s) (unk n view) (fun φ => bProd n s c t (wl n (fillV view φ))) fun _ => 0
theorem chR_eq {n : Int} {s : List Int} {c : List (List Int)} {t : List (List (List Int))} {view : List (Option Int)} (hs : (s.length : Int) = n) (V : VOk n s view) : chR n s c t view = sumL (((allW s).filter fun w => agV w view).map (bProd n s c t)) := by
  have := sum_worlds (sz := at0 s) (view := view) (rng 0 n) (bProd n s c t) (fun _ => 0) (rng_nodup 0 n) fun k hk a e => V.val k a (mem_rng.mp hk).1 (mem_rng.mp hk).2 e
  rw [map_at0 hs, map_vw V.len] at this
  exact this
theorem Wh.sumA {α : Type} {D M : Nat} {f : α → Rat} : ∀ p : List α, (∀ v ∈ p, Wh D M (f v)) → Wh D (p.length * M) (sumL (p.map f))
  | [], _ => ⟨Rat.le_refl, by show (0 : Rat) ≤ ((0 * M : Nat) : Rat); rw [Nat.zero_mul]; exact Rat.le_refl, 0, by show (0 : Rat) * _ = _; rw [Rat.zero_mul]; rfl⟩
  | v :: p, h => by
    obtain ⟨h0, h1, t, ht⟩ := h v List.mem_cons_self
    obtain ⟨g0, g1, u, gu⟩ := Wh.sumA p fun w hw => h w (List.mem_cons_of_mem _ hw)
    refine ⟨Rat.add_nonneg h0 g0, ?_, t + u, ?_⟩
    · show f v + sumL (p.map f) ≤ _
      rw [List.length_cons, Nat.succ_mul, Nat.add_comm, Rat.natCast_add]
      grind
    · show (f v + sumL (p.map f)) * _ = _
      rw [Rat.intCast_add, ← ht, ← gu]
      grind
theorem fits_world {n : Int} {s w : List Int} (hs : (s.length : Int) = n) (h : Fits s w) : GWorld n s w := by
  have hl := h.len
  refine ⟨by omega, fun k k0 k1 => ?_⟩
  have e : w[k.toNat]? = some (at0 w k) := by
    unfold at0
    rw [List.getD_eq_getElem?_getD, List.getElem?_eq_getElem (by omega)]; rfl
  obtain ⟨t, h1, h2, h3⟩ := h.at e
  have : at0 s k = t := by
    unfold at0
    rw [List.getD_eq_getElem?_getD, h1]; rfl
  omega
theorem GBook.posA {n : Int} {s : List Int} {c : List (List Int)} {t : List (List (List Int))} (B : GBook n s c t) : Pos s := fun x hx => by have := B.size x hx; omega
theorem pow4_le {m : Nat} (h : m ≤ 8) : (4 : Int) ^ m ≤ 65536 := by
  have : m = 0 ∨ m = 1 ∨ m = 2 ∨ m = 3 ∨ m = 4 ∨ m = 5 ∨ m = 6 ∨ m = 7 ∨ m = 8 := by omega
  rcases this with e | e | e | e | e | e | e | e | e <;> rw [e] <;> decide
theorem pr_le4 {xs : List Int} (h : ∀ x ∈ xs, 1 ≤ x ∧ x ≤ 4) (hl : xs.length ≤ 8) : pr xs ≤ 65536 := Int.le_trans (pr_le h (by decide)) (pow4_le hl)
theorem GBook.worlds_len {n : Int} {s : List Int} {c : List (List Int)} {t : List (List (List Int))} (B : GBook n s c t) (hn : n ≤ 8) : (allW s).length ≤ 65536 := by
  have h1 := allW_len B.posA
  have h2 := pr_le4 (xs := s) (fun x hx => by have := B.size x hx; omega) (by have := B.slen; omega)
  omega
theorem GBook.chR_wh {n : Int} {s : List Int} {c : List (List Int)} {t : List (List (List Int))} {D : Nat} {view : List (Option Int)} (B : GBook n s c t) (hD : Den n t D) (V : VOk n s view) (hn : n ≤ 8) : Wh (D ^ n.toNat) 65536 (chR n s c t view) := by
  rw [chR_eq B.slen V]
  refine (Wh.sumA (M := 1) _ fun w hw => B.prod_wh hD (fits_world B.slen (mem_allW.mp (List.mem_filter.mp hw).1))).mono ?_
  have h1 := List.length_filter_le (fun w => agV w view) (allW s)
  have h2 := B.worlds_len hn
  omega
theorem allW_snoc : ∀ (s : List Int) (t : Int), allW (s ++ [t]) = (allW s).flatMap fun w => (rng 0 t).map fun v => w ++ [v]
  | [], t => by simp [allW, List.map_eq_flatMap]
  | a :: s, t => by
    show ((rng 0 a).flatMap fun v => (allW (s ++ [t])).map (v :: ·)) = ((rng 0 a).flatMap fun v => (allW s).map (v :: ·)).flatMap _
    rw [allW_snoc s t, List.flatMap_assoc]
    congr 1
    funext v
    rw [List.map_flatMap, List.flatMap_map]
    congr 1
    funext w
    rw [List.map_map]
    rfl
theorem GBook.szok {n : Int} {s : List Int} {c : List (List Int)} {t : List (List (List Int))} (B : GBook n s c t) {k : Int} : at0 s k ≤ 4 := by
  unfold at0
  rw [List.getD_eq_getElem?_getD]
  cases e : s[k.toNat]? with
  | none => show (0 : Int) ≤ 4; decide
  | some v => exact (B.size v (List.mem_of_getElem? e)).2
end Mir

namespace Mir
open PySem PySem.Spec L2
open ToD (toD)
set_option autoImplicit false
/-! ## more plain laws: loops that lengthen a list, products, sums over worlds -/
theorem forO_flat {α β : Type} {f : List β → α → Option (List β)} {g : α → List β} {N : Nat} : ∀ (xs : List α) (st : List β), (∀ x ∈ xs, ∀ st : List β, st.length + (g x).length ≤ N → f st x = some (st ++ g x)) → st.length + (xs.flatMap g).length ≤ N → forO f xs st = some (st ++ xs.flatMap g)
  | [], st, _, _ => by simp [forO]
  | x :: xs, st, hf, h => by
    rw [List.flatMap_cons, List.length_append] at h
    rw [forO_cons, hf x List.mem_cons_self st (by omega), Option.bind_some, forO_flat xs _ (fun y hy => hf y (List.mem_cons_of_mem _ hy)) (by rw [List.length_append]; omega), List.flatMap_cons, List.append_assoc]
theorem len_flatMap {α β : Type} {g : α → List β} {k : Nat} : ∀ xs : List α, (∀ x ∈ xs, (g x).length = k) → (xs.flatMap g).length = xs.length * k
  | [], _ => by simp
  | x :: xs, h => by
    rw [List.flatMap_cons, List.length_append, h x List.mem_cons_self, len_flatMap xs fun y hy => h y (List.mem_cons_of_mem _ hy), List.length_cons, Nat.succ_mul, Nat.add_comm]
theorem sum_zeros : ∀ n : Nat, (List.replicate n (0 : Int)).sum = 0
  | 0 => rfl
  | n + 1 => by rw [List.replicate_succ, List.sum_cons, sum_zeros n]; rfl
theorem sum_set0 (w : Int) : ∀ (n i : Nat), i < n → ((List.replicate n (0 : Int)).set i w).sum = w
  | 0, _, h => by omega
  | n + 1, 0, _ => by rw [List.replicate_succ, List.set_cons_zero, List.sum_cons, sum_zeros]; omega
  | n + 1, i + 1, h => by rw [List.replicate_succ, List.set_cons_succ, List.sum_cons, sum_set0 w n i (by omega)]; omega
theorem rng_const {β : Type} (n : Int) (a : β) : (rng 0 n).map (fun _ => a) = List.replicate n.toNat a := by
  rw [List.map_const', rng_len, Int.sub_zero]
/-- a product that may be 0 -/
theorem prod_loopN {f : Int → Int → Option Int} (hf : ∀ a b, f a b = (mulO a b).bind fun m => some m) {a : Nat} (ha : 0 < a) : ∀ {xs : List Int} {m : Int} {b : Nat}, (∀ x ∈ xs, x.natAbs < 2 ^ a) → m.natAbs < 2 ^ b → 0 < b → b + a * (xs.length + 1) ≤ 900000 → forO f xs m = some (m * pr xs)
  | [], m, b, _, _, _, _ => by simp [forO, pr]
  | x :: xs, m, b, h, hm, hb, hz => by
    have hx := h x List.mem_cons_self
    rw [List.length_cons, Nat.mul_add, Nat.mul_one] at hz
    have hq : 0 ≤ a * xs.length := Nat.zero_le _
    rw [Nat.mul_add, Nat.mul_one] at hz
    rw [forO_cons, hf, mulO_ok b a hm hx hb ha (by omega)]
    simp only [Option.bind_some]
    have h2 := natAbs_mul_lt hm hx
    rw [prod_loopN hf ha (m := m * x) (b := b + a) (fun y hy => h y (List.mem_cons_of_mem _ hy)) h2 (by omega) (by rw [Nat.mul_add, Nat.mul_one]; omega), Int.mul_assoc]
    rfl
theorem pr_nonneg : ∀ {xs : List Int}, (∀ x ∈ xs, 0 ≤ x) → 0 ≤ pr xs
  | [], _ => by decide
  | x :: xs, h => Int.mul_nonneg (h x List.mem_cons_self) (pr_nonneg fun y hy => h y (List.mem_cons_of_mem _ hy))
theorem pr_leN : ∀ {xs : List Int} {b : Int}, (∀ x ∈ xs, 0 ≤ x ∧ x ≤ b) → 0 ≤ b → pr xs ≤ b ^ xs.length
  | [], _, _, _ => by simp [pr]
  | x :: xs, b, h, hb => by
    obtain ⟨h0, h1⟩ := h x List.mem_cons_self
    have ih := pr_leN (xs := xs) (b := b) (fun y hy => h y (List.mem_cons_of_mem _ hy)) hb
    have ih0 := pr_nonneg (xs := xs) fun y hy => (h y (List.mem_cons_of_mem _ hy)).1
    show x * pr xs ≤ b ^ (xs.length + 1)
    rw [Int.pow_succ, Int.mul_comm (b ^ xs.length)]
    exact Int.mul_le_mul h1 ih ih0 hb
theorem pr_const (m : Int) : ∀ n : Nat, pr (List.replicate n m) = m ^ n
  | 0 => by simp [pr]
  | n + 1 => by
    rw [List.replicate_succ]
    show m * pr (List.replicate n m) = _
    rw [pr_const m n, Int.pow_succ, Int.mul_comm]
theorem place_goH {s w kin : List Int} {f : Int → Int → Option Int} (hf : ∀ a j, f a j = ((atI s j).bind fun t28 => (mulO a t28).bind fun t29 => (atI w j).bind fun t30 => some (t29 + t30))) : ∀ {a : Int}, (∀ j ∈ kin, 0 ≤ j ∧ j < (s.length : Int) ∧ j < (w.length : Int)) → Pos (kin.map (at0 s)) → Fits (kin.map (at0 s)) (kin.map (at0 w)) → 0 ≤ a → (a + 1) * pr (kin.map (at0 s)) ≤ big → forO f kin a = some (a * pr (kin.map (at0 s)) + rk (kin.map (at0 s)) (kin.map (at0 w))) := by
  induction kin with
  | nil => intro a _ _ _ _ _; simp [forO, pr, rk]
  | cons k kin ih =>
    intro a hd h hw ha hb
    have h1 := h.head
    have hq := pr_pos h.tail
    obtain ⟨⟨v0, v1⟩, hw2⟩ := hw
    have e1 : (a + 1) * pr ((k :: kin).map (at0 s)) = (a * at0 s k + at0 s k) * pr (kin.map (at0 s)) := by
      show (a + 1) * (at0 s k * pr _) = _
      rw [← Int.mul_assoc, Int.add_mul, Int.one_mul]
    have h2 : (a * at0 s k + at0 w k + 1) * pr (kin.map (at0 s)) ≤ (a * at0 s k + at0 s k) * pr (kin.map (at0 s)) := Int.mul_le_mul_of_nonneg_right (by omega) (by omega)
    have has : 0 ≤ a * at0 s k := Int.mul_nonneg ha (by omega)
    have h3 : a * at0 s k + at0 s k ≤ (a * at0 s k + at0 s k) * pr (kin.map (at0 s)) := le_mul_right hq (by omega)
    have h4 : a ≤ a * at0 s k := le_mul_right h1 ha
    obtain ⟨k0, k1, k2⟩ := hd k List.mem_cons_self
    rw [forO_cons, hf, atI_at0 k0 k1, Option.bind_some, mulO_lo (lo_big ha (by omega)) (lo_big (by omega) (by omega)), Option.bind_some, atI_at0 k0 k2, Option.bind_some, Option.bind_some]
    rw [ih (fun j hj => hd j (List.mem_cons_of_mem _ hj)) h.tail hw2 (by omega) (by omega)]
    congr 1
    show (a * at0 s k + at0 w k) * pr _ + rk _ _ = a * (at0 s k * pr _) + (at0 w k * pr _ + rk _ _)
    rw [Int.add_mul, Int.mul_assoc, Int.add_assoc]
/-- a world agrees with a view where it knows -/
theorem agV_iff : ∀ {w : List Int} {v : List (Option Int)}, w.length = v.length → (agV w v = true ↔ ∀ i : Nat, i < v.length → v.getD i none = none ∨ v.getD i none = some (w.getD i 0))
  | [], [], _ => by simp [agV]
  | x :: w, o :: v, h => by
    have ih := agV_iff (w := w) (v := v) (by simpa using h)
    rw [agV_cons, Bool.and_eq_true, ih]
    constructor
    · rintro ⟨h1, h2⟩ i hi
      cases i with
      | zero =>
        have h1' : o.isNone = true ∨ o = some x := by simpa using h1
        rcases h1' with h1 | h1
        · left; show o = none; simpa using h1
        · right; exact h1
      | succ i => exact h2 i (by simpa using hi)
    · intro hh
      refine ⟨?_, fun i hi => hh (i + 1) (by simpa using hi)⟩
      have := hh 0 (by simp)
      rcases this with h1 | h1
      · have h2 : o = none := h1
        simp [h2]
      · have h2 : o = some x := h1
        simp [h2]
  | [], _ :: _, h => by simp at h
  | _ :: _, [], h => by simp at h
theorem agV_vw {n : Int} {w : List Int} {v : List (Option Int)} (hw : (w.length : Int) = n) (hv : (v.length : Int) = n) : agV w v = true ↔ ∀ k, 0 ≤ k → k < n → vw v k = none ∨ vw v k = some (at0 w k) := by
  rw [agV_iff (by omega)]
  constructor
  · intro h k k0 k1
    exact h k.toNat (by omega)
  · intro h i hi
    have := h (i : Int) (by omega) (by omega)
    unfold vw at0 at this
    rwa [Int.toNat_natCast] at this
theorem prodL_out {f : Int → Rat} {x : Int} : ∀ {xs : List Int}, x ∈ xs → xs.Nodup → prodL (xs.map f) = f x * prodL ((xs.filter fun k => !decide (k = x)).map f)
  | y :: xs, h, nd => by
    obtain ⟨n1, n2⟩ := List.nodup_cons.mp nd
    show f y * prodL (xs.map f) = _
    rw [List.filter_cons]
    by_cases e : y = x
    · subst e
      rw [if_neg (by simp)]
      rw [List.filter_eq_self.mpr fun z hz => by simpa using fun e : z = y => n1 (e ▸ hz)]
    · rw [if_pos (by simpa using e), prodL_out ((List.mem_cons.mp h).resolve_left fun z => e z.symm) n2]
      show f y * (f x * _) = f x * (f y * _)
      rw [← Rat.mul_assoc, ← Rat.mul_assoc, Rat.mul_comm (f y)]
theorem prodlen_out {x : Int} : ∀ {xs : List Int}, x ∈ xs → xs.Nodup → (xs.filter fun k => !decide (k = x)).length + 1 = xs.length
  | y :: xs, h, nd => by
    obtain ⟨n1, n2⟩ := List.nodup_cons.mp nd
    rw [List.filter_cons]
    by_cases e : y = x
    · subst e
      rw [if_neg (by simp), List.filter_eq_self.mpr fun z hz => by simpa using fun e : z = y => n1 (e ▸ hz)]; rfl
    · rw [if_pos (by simpa using e), List.length_cons, List.length_cons, prodlen_out ((List.mem_cons.mp h).resolve_left fun z => e z.symm) n2]
theorem sum_perm {xs ys : List Int} (p : xs.Perm ys) : xs.sum = ys.sum := by
  induction p with
  | nil => rfl
  | cons x _ ih => rw [List.sum_cons, List.sum_cons, ih]
  | swap x y l => simp only [List.sum_cons]; omega
  | trans _ _ a b => exact a.trans b
/-- a product of quotients by one bottom -/
theorem prodL_div {α : Type} {m : Int} (hm : m ≠ 0) (g : α → Int) : ∀ xs : List α, prodL (xs.map fun k => Rat.divInt (g k) m) * ((m ^ xs.length : Int) : Rat) = ((pr (xs.map g) : Int) : Rat)
  | [] => by show (1 : Rat) * _ = _; simp [pr]
  | x :: xs => by
    have ih := prodL_div hm g xs
    show (Rat.divInt (g x) m * prodL _) * ((m ^ (xs.length + 1) : Int) : Rat) = ((g x * pr (xs.map g) : Int) : Rat)
    rw [Int.pow_succ, Rat.intCast_mul, Rat.intCast_mul, ← ih]
    have hmr : (m : Rat) ≠ 0 := by
      intro e; exact hm (by exact_mod_cast e)
    have e : Rat.divInt (g x) m * (m : Rat) = (g x : Rat) := by rw [Rat.divInt_eq_div, Rat.div_mul_cancel hmr]
    rw [← e]
    grind
theorem sumL_filter {α : Type} (p : α → Bool) (F : α → Rat) : ∀ xs : List α, sumL ((xs.filter p).map F) = sumL (xs.map fun x => if p x = true then F x else 0)
  | [] => rfl
  | x :: xs => by
    rw [List.filter_cons]
    show _ = (if p x = true then F x else 0) + sumL (xs.map _)
    rw [← sumL_filter p F xs]
    by_cases h : p x = true
    · rw [if_pos h, if_pos h]; rfl
    · rw [if_neg h, if_neg h, Rat.zero_add]
theorem sumL_castI {α : Type} (f : α → Int) : ∀ xs : List α, (((xs.map f).sum : Int) : Rat) = sumL (xs.map fun x => ((f x : Int) : Rat))
  | [] => rfl
  | x :: xs => by
    rw [List.map_cons, List.sum_cons, Rat.intCast_add, sumL_castI f xs]; rfl
theorem sumL_mulR {α : Type} (c : Rat) (f : α → Rat) (xs : List α) : sumL (xs.map f) * c = sumL (xs.map fun x => f x * c) := by
  rw [Rat.mul_comm, ← sumL_mul]
  congr 1
  exact List.map_congr_left fun x _ => Rat.mul_comm _ _
theorem eq_divIntM {r : Rat} {T B : Int} (h : 0 < B) (e : r * (B : Rat) = (T : Rat)) : Rat.divInt T B = r := by
  have hB : (B : Rat) ≠ 0 := by
    have : (0 : Rat) < (B : Rat) := Rat.intCast_pos.mpr h
    grind
  rw [Rat.divInt_eq_div, ← e, Rat.mul_div_cancel hB]
theorem isum_nonneg {xs : List Int} (h : ∀ x ∈ xs, 0 ≤ x) : 0 ≤ xs.sum := sum_nonneg h
theorem isum_le {xs : List Int} {b : Int} (h : ∀ x ∈ xs, x ≤ b) : xs.sum ≤ b * xs.length := sum_le h
theorem at0_map_rng {g : Int → Int} {n k : Int} (k0 : 0 ≤ k) (h : k < n) : at0 ((rng 0 n).map g) k = g k := by
  unfold at0
  rw [List.getD_eq_getElem?_getD, List.getElem?_map, rng_idx (by omega)]
  show g ((k.toNat : Nat) : Int) = g k
  rw [Int.toNat_of_nonneg k0]
theorem ipow_le {b B : Int} {m M : Nat} (h1 : 1 ≤ b) (h : b ≤ B) (hm : m ≤ M) : b ^ m ≤ B ^ M := by
  obtain ⟨n, rfl⟩ := Int.eq_ofNat_of_zero_le (show 0 ≤ b by omega)
  obtain ⟨N, rfl⟩ := Int.eq_ofNat_of_zero_le (show 0 ≤ B by omega)
  have h2 : n ≤ N := by omega
  have h3 : n ^ m ≤ N ^ M := Nat.le_trans (Nat.pow_le_pow_left h2 m) (Nat.pow_le_pow_right (by omega) hm)
  exact_mod_cast h3
end Mir
namespace K41
set_option synthInstance.maxSize 4096
open PySem PySem.Spec L2 Mir
open Mir.ToD (toD)
/-! ### the mirrors -/
noncomputable def m_count_of_l1 : Int → Int → Option Int :=
  fun many size =>
  (mulO many size).bind fun many =>
  some many
@[irreducible] noncomputable def m_count_of (sizes : (List Int)) : Option Int :=
  lt (1 : Int) fun many =>
  (forO m_count_of_l1 sizes many).bind fun many =>
  some many
noncomputable def m_world_at_l1 : (Int × (List Int)) → Int → Option (Int × (List Int)) :=
  fun (place, turned) size =>
  (modO place size).bind fun t2 =>
  (appO turned t2).bind fun turned =>
  (divO place size).bind fun place =>
  some (place, turned)
@[irreducible] noncomputable def m_world_at (sizes : (List Int)) (place : Int) : Option (List Int) :=
  lt ([] : List Int) fun turned =>
  (forO m_world_at_l1 sizes.reverse (place, turned)).bind fun (place, turned) =>
  some turned.reverse
@[irreducible] noncomputable def m_worlds (sizes : (List Int)) : Option (List (List Int)) :=
  (m_count_of sizes).bind fun t1 =>
  (rngO 0 t1).bind fun t2 =>
  (mapO (fun place => (m_world_at sizes place).bind fun t3 => some t3) t2).bind fun t4 =>
  some t4
@[irreducible] noncomputable def m_row_by (size : Int) (own : (List Int)) (values : (List Int)) (told : PlanT) : Option (List Int) :=
  (repO (0 : Int) size).bind fun row_ =>
  (iteO (decide ((PlanT.tag told) = PTag.still))
  ((setO row_ (0 : Int) (1 : Int)).bind fun row_ =>
  some row_)
  ((iteO (decide ((PlanT.tag told) = PTag.coin))
  ((setO row_ (0 : Int) (1 : Int)).bind fun row_ =>
  (setO row_ (1 : Int) (2 : Int)).bind fun row_ =>
  some row_)
  ((iteO (decide ((PlanT.tag told) = PTag.sum))
  ((rngO 0 (own.length : Int)).bind fun t5 =>
  (cmpO (fun at_ => (atI own at_).bind fun t6 => (PlanT.sum? told).bind fun t7 => some (isIn t6 t7)) (fun at_ => (atI values at_).bind fun t8 => some t8) t5).bind fun t9 =>
  lt t9.sum fun total =>
  (setO row_ (total % (2 : Int)) (1 : Int)).bind fun row_ =>
  some row_)
  ((PlanT.near? told).bind fun t12 =>
  (idxO own t12).bind fun t13 =>
  (atI values t13).bind fun t14 =>
  lt (t14 % (2 : Int)) fun bit =>
  (setO row_ bit (2 : Int)).bind fun row_ =>
  (setO row_ ((1 : Int) - bit) (1 : Int)).bind fun row_ =>
  some row_)).bind fun row_ =>
  some row_)).bind fun row_ =>
  some row_)).bind fun row_ =>
  some row_
noncomputable def m_tables_by_l1 (sizes : (List Int)) (causes : (List (List Int))) (plan : (List PlanT)) : (List (List (List Int))) → Int → Option (List (List (List Int))) :=
  fun tables k_ =>
  (atI causes k_).bind fun t2 =>
  (mapO (fun cause => (atI sizes cause).bind fun t3 => some t3) t2).bind fun many =>
  (m_worlds many).bind fun t5 =>
  (mapO (fun values => (atI sizes k_).bind fun t6 => (atI causes k_).bind fun t7 => (atI plan k_).bind fun t8 => (m_row_by t6 t7 values t8).bind fun t9 => some t9) t5).bind fun t10 =>
  (appO tables t10).bind fun tables =>
  some tables
@[irreducible] noncomputable def m_tables_by (sizes : (List Int)) (causes : (List (List Int))) (plan : (List PlanT)) : Option (List (List (List Int))) :=
  lt ([] : (List (List (List Int)))) fun (tables : (List (List (List Int)))) =>
  (rngO 0 (causes.length : Int)).bind fun t1 =>
  (forO (m_tables_by_l1 sizes causes plan) t1 tables).bind fun tables =>
  some tables
noncomputable def m__law_pool_l1 : (List Int) → Option (List Int) :=
  fun zpool_here =>
  lt (zpool_here.length : Int) fun zk =>
  lt ((29 : Int) + zk) fun zseed =>
  (iteO (decide ((0 : Int) < zk))
  ((atI zpool_here (zk / (2 : Int))).bind fun t4 =>
  (atI zpool_here (zk - (1 : Int))).bind fun t5 =>
  lt (t4 + ((3 : Int) * t5)) fun zseed =>
  some zseed)
  (some zseed)).bind fun zseed =>
  (mulO zk zk).bind fun t7 =>
  lt ((((zseed % (1000003 : Int)) * (48271 : Int)) + (t7 * (7919 : Int))) + (13 : Int)) fun znumber =>
  (mulO znumber znumber).bind fun t9 =>
  (appO zpool_here (t9 % (2147483629 : Int))).bind fun zpool_here =>
  some zpool_here
noncomputable def m__law_pool_l1c (zmany : Int) : (List Int) → Option Bool :=
  fun zpool_here => some (decide ((zpool_here.length : Int) < zmany))
@[irreducible] noncomputable def m__law_pool (zscript : (List Int)) (zmany : Int) : Option (List Int) :=
  lt (cut zscript none (some zmany)) fun zpool_here =>
  (whileO (m__law_pool_l1c zmany) m__law_pool_l1 zpool_here).bind fun zpool_here =>
  some zpool_here
noncomputable def m__law_order_l1 (zpool_here : (List Int)) : (List Int) → Int → Option (List Int) :=
  fun zorder_here zk =>
  (atI zpool_here ((50 : Int) + zk)).bind fun t3 =>
  (modO (((t3 % (1000003 : Int)) * (31 : Int)) % (10007 : Int)) (zk + (1 : Int))).bind fun t4 =>
  (insO zorder_here t4 zk).bind fun zorder_here =>
  some zorder_here
@[irreducible] noncomputable def m__law_order (zpool_here : (List Int)) (zmany : Int) : Option (List Int) :=
  lt ([] : List Int) fun zorder_here =>
  (rngO 0 zmany).bind fun t2 =>
  (forO (m__law_order_l1 zpool_here) t2 zorder_here).bind fun zorder_here =>
  some zorder_here
noncomputable def m__law_drawn_l2 (zpool_here : (List Int)) (zorder_here : (List Int)) (zdense : Int) (zj : Int) : ((List (List Int)) × Int) → Int → Option ((List (List Int)) × Int) :=
  fun (zcauses, zat) zi =>
  (atI zpool_here ((3 : Int) + (zat % (47 : Int)))).bind fun t9 =>
  (divO t9 ((1 : Int) + ((zat / (47 : Int)) * (4 : Int)))).bind fun zcell =>
  (andO (decide ((zcell % (5 : Int)) < zdense)) ((atI zorder_here zj).bind fun t11 => (atI zcauses t11).bind fun t12 => some (decide ((t12.length : Int) < (5 : Int))))).bind fun t13 =>
  (iteO t13
  ((atI zorder_here zj).bind fun t14 =>
  (atI zorder_here zi).bind fun t15 =>
  (app2O zcauses t14 t15).bind fun zcauses =>
  some zcauses)
  (some zcauses)).bind fun zcauses =>
  lt (zat + (1 : Int)) fun zat =>
  some (zcauses, zat)
noncomputable def m__law_drawn_l1 (zpool_here : (List Int)) (zorder_here : (List Int)) (zdense : Int) : ((List (List Int)) × Int) → Int → Option ((List (List Int)) × Int) :=
  fun (zcauses, zat) zj =>
  (rngO 0 zj).bind fun t8 =>
  (forO (m__law_drawn_l2 zpool_here zorder_here zdense zj) t8 (zcauses, zat)).bind fun (zcauses, zat) =>
  some (zcauses, zat)
@[irreducible] noncomputable def m__law_drawn (zpool_here : (List Int)) (zmany : Int) : Option (List (List Int)) :=
  (m__law_order zpool_here zmany).bind fun zorder_here =>
  (rngO 0 zmany).bind fun t2 =>
  (mapO (fun zk => some ([] : List Int)) t2).bind fun zcauses =>
  (atI zpool_here (2 : Int)).bind fun t4 =>
  lt ((1 : Int) + (t4 % (4 : Int))) fun zdense =>
  lt (0 : Int) fun zat =>
  (rngO (1 : Int) zmany).bind fun t7 =>
  (forO (m__law_drawn_l1 zpool_here zorder_here zdense) t7 (zcauses, zat)).bind fun (zcauses, zat) =>
  (mapO (fun zown => some (srt zown)) zcauses).bind fun t18 =>
  some t18
@[irreducible] noncomputable def m__law_sizes (zcauses : (List (List Int))) (zpool_here : (List Int)) : Option (List Int) :=
  (rngO 0 (zcauses.length : Int)).bind fun t1 =>
  (mapO (fun zk => (atI zpool_here ((24 : Int) + zk)).bind fun t2 => some ((2 : Int) + ((t2 / (3 : Int)) % (3 : Int)))) t1).bind fun zsizes_here =>
  (mapO (fun zown => some (zown.length : Int)) zcauses).bind fun t4 =>
  (maxO t4).bind fun t5 =>
  (iteO (decide ((3 : Int) < t5))
  ((atI zpool_here (23 : Int)).bind fun t6 =>
  (modO (t6 / (3 : Int)) (zsizes_here.length : Int)).bind fun zk =>
  (mapO (fun zone => some (2 : Int)) (cut zsizes_here none (some zk))).bind fun t8 =>
  (atI zsizes_here zk).bind fun t9 =>
  (catO t8 ([t9] : List Int)).bind fun t10 =>
  (mapO (fun zone => some (2 : Int)) (cut zsizes_here (some (zk + (1 : Int))) none)).bind fun t11 =>
  (catO t10 t11).bind fun zsizes_here =>
  some zsizes_here)
  (some zsizes_here)).bind fun zsizes_here =>
  some zsizes_here
noncomputable def m__law_plan_l1 (zcauses : (List (List Int))) (zpool_here : (List Int)) (zfirst : Int) : (List PlanT) → Int → Option (List PlanT) :=
  fun zplan_here zk =>
  (atI zcauses zk).bind fun zown =>
  (atI zpool_here (zfirst + zk)).bind fun zcell =>
  lt ((zcell / (2 : Int)) % (5 : Int)) fun zway =>
  (iteO (decide (zown = ([] : List Int)) || decide (zway = (0 : Int)))
  ((atI ([PlanT.still, PlanT.coin] : List PlanT) ((zcell / (10 : Int)) % (2 : Int))).bind fun t6 =>
  (appO zplan_here t6).bind fun zplan_here =>
  some zplan_here)
  ((iteO (decide (zway = (1 : Int)))
  ((modO (zcell / (10 : Int)) (zown.length : Int)).bind fun t8 =>
  (atI zown t8).bind fun t9 =>
  (appO zplan_here (PlanT.near t9)).bind fun zplan_here =>
  some zplan_here)
  ((modO (zcell / (10 : Int)) ((zown.length : Int) + (1 : Int))).bind fun zout =>
  (rngO 0 (zown.length : Int)).bind fun t12 =>
  (cmpO (fun zat => some ((!decide (zat = zout)) || decide ((zown.length : Int) = (1 : Int)))) (fun zat => (atI zown zat).bind fun t13 => some t13) t12).bind fun zfeeders =>
  (appO zplan_here (PlanT.sum (cut zfeeders none (some ((1 : Int) + ((zcell / (60 : Int)) % (5 : Int))))))).bind fun zplan_here =>
  some zplan_here)).bind fun zplan_here =>
  some zplan_here)).bind fun zplan_here =>
  some zplan_here
@[irreducible] noncomputable def m__law_plan (zcauses : (List (List Int))) (zpool_here : (List Int)) (zfirst : Int) : Option (List PlanT) :=
  lt ([] : List PlanT) fun zplan_here =>
  (rngO 0 (zcauses.length : Int)).bind fun t2 =>
  (forO (m__law_plan_l1 zcauses zpool_here zfirst) t2 zplan_here).bind fun zplan_here =>
  some zplan_here
@[irreducible] noncomputable def m__law_row (zsize : Int) (zown : (List Int)) (zvalues : (List Int)) (ztold_of : PlanT) : Option (List Int) :=
  lt ([(1 : Int), (0 : Int)] : List Int) fun zone =>
  (iteO (decide ((PlanT.tag ztold_of) = PTag.coin))
  (lt ([(1 : Int), (2 : Int)] : List Int) fun zone =>
  some zone)
  (some zone)).bind fun zone =>
  (iteO (decide ((PlanT.tag ztold_of) = PTag.sum))
  ((rngO 0 (zown.length : Int)).bind fun t3 =>
  (cmpO (fun zat => (atI zown zat).bind fun t4 => (PlanT.sum? ztold_of).bind fun t5 => some (isIn t4 t5)) (fun zat => (atI zvalues zat).bind fun t6 => some t6) t3).bind fun t7 =>
  lt (t7.sum % (2 : Int)) fun zbit =>
  lt ([((1 : Int) - zbit), zbit] : List Int) fun zone =>
  some zone)
  (some zone)).bind fun zone =>
  (iteO (decide ((PlanT.tag ztold_of) = PTag.near))
  ((PlanT.near? ztold_of).bind fun t10 =>
  (idxO zown t10).bind fun t11 =>
  (atI zvalues t11).bind fun t12 =>
  lt (t12 % (2 : Int)) fun zbit =>
  lt ([((2 : Int) - zbit), ((1 : Int) + zbit)] : List Int) fun zone =>
  some zone)
  (some zone)).bind fun zone =>
  (repO (0 : Int) (zsize - (2 : Int))).bind fun t16 =>
  (catO zone t16).bind fun t17 =>
  some t17
noncomputable def m__law_worlds_l2 (zsize : Int) : (List (List Int)) → (List Int) → Option (List (List Int)) :=
  fun zmore zrow_here =>
  (rngO 0 zsize).bind fun t6 =>
  (mapO (fun zvalue => (catO zrow_here ([zvalue] : List Int)).bind fun t7 => some t7) t6).bind fun t8 =>
  (catO zmore t8).bind fun zmore =>
  some zmore
noncomputable def m__law_worlds_l1 : (List (List Int)) → Int → Option (List (List Int)) :=
  fun zrows zsize =>
  lt ([] : List (List Int)) fun zmore =>
  (forO (m__law_worlds_l2 zsize) zrows zmore).bind fun zmore =>
  lt zmore fun zrows =>
  some zrows
@[irreducible] noncomputable def m__law_worlds (zsizes_here : (List Int)) : Option (List (List Int)) :=
  lt ([([] : List Int)] : List (List Int)) fun zrows =>
  (forO m__law_worlds_l1 zsizes_here zrows).bind fun zrows =>
  some zrows
noncomputable def m__law_due_l1 (zsizes_here : (List Int)) (zcauses : (List (List Int))) (zplan_here : (List PlanT)) : (List (List (List Int))) → Int → Option (List (List (List Int))) :=
  fun zdue_here zk =>
  (atI zcauses zk).bind fun t2 =>
  (mapO (fun zone => (atI zsizes_here zone).bind fun t3 => some t3) t2).bind fun zmany =>
  (m__law_worlds zmany).bind fun t5 =>
  (mapO (fun zvalues => (atI zsizes_here zk).bind fun t6 => (atI zcauses zk).bind fun t7 => (atI zplan_here zk).bind fun t8 => (m__law_row t6 t7 zvalues t8).bind fun t9 => some t9) t5).bind fun t10 =>
  (appO zdue_here t10).bind fun zdue_here =>
  some zdue_here
@[irreducible] noncomputable def m__law_due (zsizes_here : (List Int)) (zcauses : (List (List Int))) (zplan_here : (List PlanT)) : Option (List (List (List Int))) :=
  lt ([] : (List (List (List Int)))) fun (zdue_here : (List (List (List Int)))) =>
  (rngO 0 (zcauses.length : Int)).bind fun t1 =>
  (forO (m__law_due_l1 zsizes_here zcauses zplan_here) t1 zdue_here).bind fun zdue_here =>
  some zdue_here
noncomputable def m__law_kinds_l3 : Unit → Int → Option (Fl Bool Unit) :=
  fun _ zone =>
  iteO ((!true) || false)
  ((some false).bind retF)
  (some (.nxt ()))
noncomputable def m__law_kinds_l2 : Unit → (List Int) → Option (Fl Bool Unit) :=
  fun _ zrow_here =>
  iteO (!true)
  ((some false).bind retF)
  ((forF m__law_kinds_l3 zrow_here ()).bind (flF fun _ =>
  some (.nxt ())))
noncomputable def m__law_kinds_l1 : Unit → (List (List Int)) → Option (Fl Bool Unit) :=
  fun _ ztable =>
  iteO (!true)
  ((some false).bind retF)
  ((forF m__law_kinds_l2 ztable ()).bind (flF fun _ =>
  some (.nxt ())))
@[irreducible] noncomputable def m__law_kinds (zfound : (List (List (List Int)))) : Option Bool :=
  iteO (!true)
  (some false)
  ((forF m__law_kinds_l1 zfound ()).bind (flR fun _ =>
  some true))
@[irreducible] noncomputable def m__law_copied (zplan_here : (List PlanT)) : Option (List PlanT) :=
  (mapO (fun zone => (iteO (decide ((PlanT.tag zone) = PTag.sum)) ((PlanT.sum? zone).bind fun t1 => (PlanT.like zone t1).bind fun t2 => some t2) (some zone)).bind fun t3 => some t3) zplan_here).bind fun t4 =>
  some t4
noncomputable def m_law_l1 : ((List (List (List Int))) × (List (List (List Int)))) → Int → Option ((List (List (List Int))) × (List (List (List Int)))) :=
  fun (zagain, zdue_here) zk =>
  (appT zdue_here zk (0 : Int) (7 : Int)).bind fun t24 =>
  lt t24 fun (zdue_here : (List (List (List Int)))) =>
  (appT zdue_here zk (-(1 : Int)) (8 : Int)).bind fun t26 =>
  lt t26 fun (zdue_here : (List (List (List Int)))) =>
  (appT zagain zk (0 : Int) (7 : Int)).bind fun t28 =>
  lt t28 fun (zagain : (List (List (List Int)))) =>
  (appT zagain zk (-(1 : Int)) (8 : Int)).bind fun t30 =>
  lt t30 fun (zagain : (List (List (List Int)))) =>
  some (zagain, zdue_here)
@[irreducible] noncomputable def m_law (zscript : (List Int)) : Option Bool :=
  (m__law_pool zscript (63 : Int)).bind fun zpool_here =>
  (atI zpool_here (1 : Int)).bind fun t2 =>
  (m__law_drawn zpool_here ((1 : Int) + (t2 % (6 : Int)))).bind fun zcauses =>
  (m__law_sizes zcauses zpool_here).bind fun zsizes_here =>
  (m__law_plan zcauses zpool_here (30 : Int)).bind fun zplan_here =>
  (m__law_plan zcauses zpool_here (36 : Int)).bind fun zother =>
  (mapO (fun zown => some zown) zcauses).bind fun zshape =>
  lt zsizes_here fun zmany =>
  (m__law_copied zplan_here).bind fun zhanded =>
  (m_tables_by zmany zshape zhanded).bind fun zfound =>
  iteO ((!decide (zshape = zcauses)) || ((!decide (zmany = zsizes_here)) || (!decide (zhanded = zplan_here))))
  (some false)
  ((m__law_kinds zfound).bind fun t11 =>
  (orO (!t11) ((m__law_due zsizes_here zcauses zplan_here).bind fun t12 => some (!decide (zfound = t12)))).bind fun t13 =>
  iteO t13
  (some false)
  ((atI zpool_here (62 : Int)).bind fun t14 =>
  (modO t14 (zhanded.length : Int)).bind fun t15 =>
  (setO zhanded t15 PlanT.still).bind fun zhanded =>
  (m__law_copied zother).bind fun t17 =>
  (m_tables_by zmany zshape t17).bind fun t18 =>
  lt t18 fun (zagain : (List (List (List Int)))) =>
  (m__law_kinds zagain).bind fun t19 =>
  (orO (!t19) ((m__law_due zsizes_here zcauses zother).bind fun t20 => some (!decide (zagain = t20)))).bind fun t21 =>
  iteO t21
  (some false)
  ((m__law_due zsizes_here zcauses zother).bind fun t22 =>
  lt t22 fun (zdue_here : (List (List (List Int)))) =>
  (rngO 0 (zdue_here.length : Int)).bind fun t23 =>
  (forO m_law_l1 t23 (zagain, zdue_here)).bind fun (zagain, zdue_here) =>
  iteO (!decide (zagain = zdue_here))
  (some false)
  ((m__law_due zsizes_here zcauses zplan_here).bind fun t32 =>
  (andO (decide (zfound = t32)) ((m_tables_by zmany zshape zplan_here).bind fun t33 => some (decide (t33 = zfound)))).bind fun t34 =>
  some t34))))
end K41
namespace K41
set_option synthInstance.maxSize 4096
open PySem PySem.Spec L2 Mir
open Mir.ToD (toD)
theorem m_count_ok {s : List Int} (h : Pos s) (hb : pr s ≤ big) : m_count_of s = some (pr s) := by
  unfold m_count_of
  simp only [lt_def]
  rw [prod_loop (f := m_count_of_l1) (fun _ _ => rfl) h (by omega) (by rw [Int.one_mul]; exact hb), Int.one_mul]
  rfl
theorem m_world_ok {s : List Int} (h : Pos s) (hb : pr s ≤ big) (hl : s.length ≤ 1000) (p : Int) : m_world_at s p = some (wd s p) := by
  unfold m_world_at
  simp only [lt_def]
  obtain ⟨q, e⟩ := world_loop (f := m_world_at_l1) (fun _ _ _ => rfl) s.reverse h.rev (by rw [pr_rev]; exact hb) p [] (by rw [List.length_reverse]; simpa using hl)
  rw [e]
  simp only [Option.bind_some, List.nil_append]
  rw [dg_wd s p h]
theorem m_worlds_ok {s : List Int} (h : Pos s) (hb : pr s ≤ 16777216) (hl : s.length ≤ 1000) : m_worlds s = some (allW s) := by
  have hp := pr_pos h
  unfold m_worlds
  rw [m_count_ok h (by unfold big; omega), Option.bind_some, rngO_ok (by omega) hb, Option.bind_some]
  rw [mapO_ok (g := wd s) (fun p _ => by rw [m_world_ok h (by unfold big; omega) hl]; rfl), allW_wd h]
  rfl
theorem law_pool_go : ∀ (m : Nat) (p : List Int), 63 - p.length = m → p.length ≤ 63 → ∃ q, whileO (m__law_pool_l1c 63) m__law_pool_l1 p = some q ∧ q.length = 63 := by
  intro m
  induction m with
  | zero =>
    intro p h1 h2
    exact ⟨p, whileO_false (by simp only [m__law_pool_l1c]; rw [decide_eq_false (by omega)]), by omega⟩
  | succ m ih =>
    intro p h1 h2
    have step : ∃ x, m__law_pool_l1 p = some (p ++ [x]) := by
      simp only [m__law_pool_l1, lt_def]
      have hs : ∃ s, (iteO (decide ((0 : Int) < (p.length : Int))) ((atI p ((p.length : Int) / 2)).bind fun t4 => (atI p ((p.length : Int) - 1)).bind fun t5 => some (t4 + 3 * t5)) (some (29 + (p.length : Int)))) = some s := by
        rw [iteO_dec]
        split
        · rename_i h
          rw [atI_ok (by omega) (by omega), atI_ok (by omega) (by omega)]
          exact ⟨_, rfl⟩
        · exact ⟨_, rfl⟩
      obtain ⟨s, es⟩ := hs
      rw [es]
      simp only [Option.bind_some]
      have hk : (p.length : Int) * (p.length : Int) ≤ 63 * 63 := Int.mul_le_mul (by omega) (by omega) (by omega) (by omega)
      have hk0 : 0 ≤ (p.length : Int) * (p.length : Int) := Int.mul_nonneg (by omega) (by omega)
      rw [mulO_lo (lo_of (by omega) (by omega)) (lo_of (by omega) (by omega))]
      simp only [Option.bind_some]
      generalize hn : s % 1000003 * 48271 + (p.length : Int) * (p.length : Int) * 7919 + 13 = num
      have n0 : 0 ≤ num := by omega
      have n1 : num ≤ 100000000000 := by omega
      rw [mulO_lo (lo_of (by omega) (by omega)) (lo_of (by omega) (by omega)), Option.bind_some, appO_ok (by omega)]
      exact ⟨_, rfl⟩
    obtain ⟨x, ex⟩ := step
    obtain ⟨q, e, hq⟩ := ih (p ++ [x]) (by rw [List.length_append]; simp; omega) (by rw [List.length_append]; simp; omega)
    exact ⟨q, whileO_true (by simp only [m__law_pool_l1c]; rw [decide_eq_true (by omega)]) ex e, hq⟩
theorem law_pool_ok {ns : List Int} (hl : ns.length ≤ 63) : ∃ pool, m__law_pool ns 63 = some pool ∧ pool.length = 63 := by
  unfold m__law_pool
  have e63 : (some (63 : Int)) = some ((63 : Nat) : Int) := rfl
  simp only [lt_def, e63, cut_to]
  rw [List.take_of_length_le hl]
  obtain ⟨q, e, hq⟩ := law_pool_go _ ns rfl hl
  rw [e]
  exact ⟨q, rfl, hq⟩
theorem pool_at {pool : List Int} (hp : pool.length = 63) {k : Int} (h0 : 0 ≤ k) (h1 : k < 63) : ∃ v, atI pool k = some v := ⟨_, atI_ok h0 (by omega)⟩
theorem law_porder_ok {pool : List Int} (hp : pool.length = 63) {n : Int} (h0 : 0 ≤ n) (hn : n ≤ 13) : ∃ order, m__law_order pool n = some order ∧ order.Perm (rng 0 n) := by
  unfold m__law_order
  simp only [lt_def]
  rw [rngO_ok h0 (by omega), Option.bind_some]
  obtain ⟨order, e, hP⟩ := forO_inv (f := m__law_order_l1 pool) (fun done st => st.Perm done) (rng 0 n) [] (List.Perm.refl _) (fun d x r st hsp hP => by
    obtain ⟨ex, x0, x1⟩ := rng_at hsp
    obtain ⟨v, ev⟩ := pool_at hp (k := 50 + x) (by omega) (by omega)
    have hl := hP.length_eq
    have m0 := Int.emod_nonneg (v % 1000003 * 31 % 10007) (show x + 1 ≠ 0 by omega)
    have m1 := Int.emod_lt_of_pos (v % 1000003 * 31 % 10007) (show 0 < x + 1 by omega)
    refine ⟨_, ?_, (ins_permG _ (v % 1000003 * 31 % 10007 % (x + 1)).toNat _).trans (hP.append_right _)⟩
    simp only [m__law_order_l1, ev, Option.bind_some, modO_pos (show 0 < x + 1 by omega), insO_ok (show st.length < 16777216 by omega) m0 (show v % 1000003 * 31 % 10007 % (x + 1) < 9223372036854775808 by omega)])
  rw [e]
  exact ⟨order, rfl, hP⟩
theorem law_drawn_ok {pool : List Int} (hp : pool.length = 63) {n : Int} (h0 : 0 ≤ n) (hn : n ≤ 13) : ∃ cs, m__law_drawn pool n = some cs ∧ Shape n cs := by
  obtain ⟨order, eo, hpm⟩ := law_porder_ok hp h0 hn
  have hlen := order_len hpm
  obtain ⟨v2, ev2⟩ := pool_at hp (k := 2) (by omega) (by omega)
  unfold m__law_drawn
  rw [eo, Option.bind_some, rngO_ok h0 (by omega), Option.bind_some]
  rw [mapO_ok (g := fun _ => ([] : List Int)) (fun _ _ => rfl), Option.bind_some, ev2, Option.bind_some]
  simp only [lt_def]
  generalize 1 + v2 % 4 = dense
  rw [rngO_ok2 (by omega) (by omega) h0 (by omega), Option.bind_some]
  obtain ⟨⟨cs, at_⟩, ec, hd, _⟩ := forO_inv (f := m__law_drawn_l1 pool order dense) (fun done st => Drawn order st.1 (1 + done.length) ∧ 0 ≤ st.2 ∧ st.2 ≤ 13 * done.length) (rng 1 n) ((rng 0 n).map fun _ => [], 0) (by
    refine ⟨⟨by rw [List.length_map, rng_len, hlen]; omega, fun j x hx => ⟨[], ?_, List.nil_sublist _, Nat.zero_le _, fun _ => rfl⟩⟩, Int.le_refl _, by simp⟩
    have := mem_rng.mp (hpm.mem_iff.mp (List.mem_of_getElem? hx))
    show ((rng 0 n).map fun _ => ([] : List Int))[x.toNat]? = some []
    rw [List.getElem?_map, rng_idx (by omega)]; rfl) (fun d j r st hsp hP => by
    obtain ⟨ex, x0, x1⟩ := rng_at hsp
    obtain ⟨cs1, at1⟩ := st
    obtain ⟨hD, a0, a1⟩ := hP
    simp only at hD a0 a1
    have hjl : j.toNat < order.length := by omega
    have ho : order[j.toNat]? = some order[j.toNat] := List.getElem?_eq_getElem hjl
    have hox := mem_rng.mp (hpm.mem_iff.mp (List.mem_of_getElem? ho))
    have ea : atI order j = some order[j.toNat] := by rw [atI_get? (by omega), ho]
    have hdl : d.length ≤ 12 := by omega
    simp only [m__law_drawn_l1]
    rw [rngO_ok (by omega) (by omega), Option.bind_some]
    obtain ⟨⟨cs2, at2⟩, e, q1, q2, ⟨row, q3, q4, q5⟩, q6, q7⟩ := forO_inv (f := m__law_drawn_l2 pool order dense j) (fun d2 s2 => s2.1.length = order.length ∧ (∀ i y, order[i]? = some y → i ≠ j.toNat → s2.1[y.toNat]? = cs1[y.toNat]?) ∧ (∃ row, s2.1[order[j.toNat].toNat]? = some row ∧ row.Sublist (order.take d2.length) ∧ row.length ≤ 5) ∧ 0 ≤ s2.2 ∧ s2.2 = at1 + d2.length) (rng 0 j) (cs1, at1) (by
      obtain ⟨row, e1, s1, l1, z1⟩ := hD.row _ _ ho
      exact ⟨hD.len, fun _ _ _ _ => rfl, ⟨[], by rw [z1 (by omega)] at e1; exact e1, List.nil_sublist _, Nat.zero_le _⟩, a0, by simp⟩) (fun d2 i r2 s2 hsp2 hQ => by
      obtain ⟨ei, i0, i1⟩ := rng_at hsp2
      obtain ⟨cs3, at3⟩ := s2
      obtain ⟨q1, q2, ⟨row, q3, q4, q5⟩, q6, q7⟩ := hQ
      simp only at q1 q2 q3 q6 q7
      have hil : i.toNat < order.length := by omega
      have hoi : order[i.toNat]? = some order[i.toNat] := List.getElem?_eq_getElem hil
      have eai : atI order i = some order[i.toNat] := by rw [atI_get? (by omega), hoi]
      obtain ⟨v, ev⟩ := pool_at hp (k := 3 + at3 % 47) (by omega) (by omega)
      have hdv : divO v (1 + at3 / 47 * 4) = some (v / (1 + at3 / 47 * 4)) := divO_lo (by omega) (lo_of (by omega) (by omega))
      have ec3 : atI cs3 order[j.toNat] = some row := by rw [atI_get? (by omega), q3]
      have ha : app2O cs3 order[j.toNat] order[i.toNat] = some (cs3.set order[j.toNat].toNat (row ++ [order[i.toNat]])) := app2O_ok (by omega) q3 (by omega)
      have hsub : (row ++ [order[i.toNat]]).Sublist (order.take (d2 ++ [i]).length) := by
        have : d2.length = i.toNat := by omega
        rw [List.length_append, this]
        show (row ++ [order[i.toNat]]).Sublist (order.take (i.toNat + 1))
        rw [List.take_add_one, hoi]
        rw [this] at q4
        exact q4.append (List.Sublist.refl _)
      have hsub0 : row.Sublist (order.take (d2 ++ [i]).length) := (List.sublist_append_left _ _).trans hsub
      simp only [m__law_drawn_l2, lt_def, ev, hdv, ea, eai, ec3, ha, Option.bind_some]
      have hb : ∃ b, (andO (decide (v / (1 + at3 / 47 * 4) % 5 < dense)) (some (decide ((row.length : Int) < 5)))) = some b ∧ (b = true → row.length < 5) := by
        cases decide (v / (1 + at3 / 47 * 4) % 5 < dense) with
        | false => exact ⟨false, rfl, fun h => by cases h⟩
        | true => exact ⟨decide ((row.length : Int) < 5), rfl, fun h => by have := of_decide_eq_true h; omega⟩
      obtain ⟨b, eb, hb⟩ := hb
      rw [eb]
      simp only [Option.bind_some]
      cases b with
      | false => exact ⟨(cs3, _), rfl, q1, q2, ⟨row, q3, hsub0, q5⟩, by (show 0 ≤ at3 + 1); omega, by (show at3 + 1 = _); rw [List.length_append]; simp; omega⟩
      | true =>
        refine ⟨(cs3.set order[j.toNat].toNat (row ++ [order[i.toNat]]), _), rfl, by rw [List.length_set]; exact q1, fun i2 y hj hne => ?_, ⟨row ++ [order[i.toNat]], ?_, hsub, by have := hb rfl; rw [List.length_append]; exact this⟩, by (show 0 ≤ at3 + 1); omega, by (show at3 + 1 = _); rw [List.length_append]; simp; omega⟩
        · show (cs3.set order[j.toNat].toNat (row ++ [order[i.toNat]]))[y.toNat]? = _
          rw [List.getElem?_set_ne (fun z => hne (order_idx hpm hj ho z.symm)), q2 i2 y hj hne]
        · show (cs3.set order[j.toNat].toNat (row ++ [order[i.toNat]]))[order[j.toNat].toNat]? = _
          rw [List.getElem?_set_self (List.getElem?_eq_some_iff.mp q3).1])
    rw [e]
    simp only at q1 q2 q3 q6 q7
    refine ⟨(cs2, at2), rfl, ⟨q1, fun i y hy => ?_⟩, q6, ?_⟩
    · by_cases hj : i = j.toNat
      · subst hj
        rw [ho] at hy; cases hy
        rw [rng_len] at q4
        exact ⟨row, q3, by simpa using q4, q5, fun h => by rw [List.length_append] at h; simp at h; omega⟩
      · obtain ⟨row', e1, s1, l1, z1⟩ := hD.row i y hy
        exact ⟨row', by rw [q2 i y hy hj]; exact e1, s1, l1, fun h => z1 (by rw [List.length_append] at h; omega)⟩
    · rw [rng_len] at q7
      rw [List.length_append]
      simp only [List.length_cons, List.length_nil]
      omega)
  rw [ec]
  simp only [Option.bind_some]
  rw [mapO_ok (g := srt) (fun _ _ => rfl)]
  exact ⟨_, rfl, drawn_shape h0 hpm hd⟩
theorem andO_some (b c : Bool) : andO b (some c) = some (b && c) := by cases b <;> rfl
theorem orO_some (b c : Bool) : orO b (some c) = some (b || c) := by cases b <;> rfl
theorem worlds_step {z : Int} (z0 : 0 ≤ z) (z1 : z ≤ 9) : ∀ (ws more : List (List Int)), (∀ w ∈ ws, w.length ≤ 100) → more.length + 9 * ws.length ≤ 16000000 → forO (m__law_worlds_l2 z) ws more = some (more ++ ws.flatMap fun w => (rng 0 z).map fun x => w ++ [x])
  | [], more, _, _ => by simp [forO]
  | w :: ws, more, hw, h => by
    rw [List.length_cons] at h
    have hl : (rng 0 z).length ≤ 9 := by rw [rng_len]; omega
    have hwl := hw w List.mem_cons_self
    have e2 : m__law_worlds_l2 z more w = some (more ++ (rng 0 z).map fun x => w ++ [x]) := by
      simp only [m__law_worlds_l2]
      rw [rngO_ok z0 (by omega), Option.bind_some, mapO_ok (g := fun x => w ++ [x]) (fun v _ => by rw [catO_ok (by simp; omega)]; rfl), Option.bind_some, catO_ok (by rw [List.length_map]; omega)]
      rfl
    rw [forO_cons, e2, Option.bind_some, worlds_step z0 z1 ws _ (fun x hx => hw x (List.mem_cons_of_mem _ hx)) (by rw [List.length_append, List.length_map]; omega)]
    simp
theorem law_worlds_ok {s : List Int} (hs : ∀ x ∈ s, 1 ≤ x ∧ x ≤ 4) (hl : s.length ≤ 8) : m__law_worlds s = some (allW s) := by
  unfold m__law_worlds
  simp only [lt_def]
  obtain ⟨ws, e, hws⟩ := forO_inv (f := m__law_worlds_l1) (fun done st => st = allW done) s [[]] rfl (fun d z r st hsp hP => by
    have hz := hs z (by rw [hsp]; simp)
    have hd : ∀ x ∈ d, 1 ≤ x ∧ x ≤ 4 := fun x hx => hs x (by rw [hsp]; exact List.mem_append_left _ hx)
    have hdl : d.length ≤ 8 := by rw [hsp, List.length_append] at hl; omega
    have hW : (allW d).length ≤ 65536 := by
      have h1 := allW_len (s := d) fun x hx => (hd x hx).1
      have h2 := pr_le4 hd hdl
      omega
    simp only [m__law_worlds_l1, lt_def]
    rw [hP, worlds_step (by omega) (by omega) _ _ (fun w hw => by rw [(mem_allW.mp hw).len]; omega) (by simp; omega)]
    exact ⟨_, rfl, by rw [allW_snoc]; rfl⟩)
  rw [e, hws]
  rfl
theorem zeros (n : Int) (h : n = 2 ∨ n = 3 ∨ n = 4) : (n = 2 ∧ repO (0 : Int) n = some [0, 0] ∧ repO (0 : Int) (n - 2) = some []) ∨ (n = 3 ∧ repO (0 : Int) n = some [0, 0, 0] ∧ repO (0 : Int) (n - 2) = some [0]) ∨ (n = 4 ∧ repO (0 : Int) n = some [0, 0, 0, 0] ∧ repO (0 : Int) (n - 2) = some [0, 0]) := by
  rcases h with rfl | rfl | rfl
  · exact .inl ⟨rfl, by decide +kernel, by decide +kernel⟩
  · exact .inr (.inl ⟨rfl, by decide +kernel, by decide +kernel⟩)
  · exact .inr (.inr ⟨rfl, by decide +kernel, by decide +kernel⟩)
def PlanOk (own : List Int) : PlanT → Prop
  | .near k => k ∈ own
  | _ => True
theorem idx_mem {xs : List Int} {a : Int} : a ∈ xs → ∃ i : Int, idxO xs a = some i ∧ 0 ≤ i ∧ i < (xs.length : Int) := by
  induction xs with
  | nil => intro h; cases h
  | cons x xs ih =>
    intro h
    unfold idxO
    by_cases hx : x = a
    · exact ⟨0, if_pos hx, Int.le_refl 0, by rw [List.length_cons]; omega⟩
    · obtain ⟨i, hi, i0, i1⟩ := ih ((List.mem_cons.mp h).resolve_left fun z => hx z.symm)
      exact ⟨i + 1, by rw [if_neg hx, hi]; rfl, by omega, by rw [List.length_cons]; omega⟩
theorem row_ok {size : Int} (hz : size = 2 ∨ size = 3 ∨ size = 4) {own values : List Int} (hv : values.length = own.length) (hl : own.length ≤ 100) {p : PlanT} (hp : PlanOk own p) : ∃ row, m_row_by size own values p = some row ∧ m__law_row size own values p = some row ∧ row.length ≤ 4 := by
  unfold m_row_by m__law_row
  simp only [lt_def]
  have hbits : ∀ v : Int, v % 2 = 0 ∨ v % 2 = 1 := fun v => by omega
  cases p with
  | still =>
    rcases zeros size hz with ⟨_, h2, h3⟩ | ⟨_, h2, h3⟩ | ⟨_, h2, h3⟩ <;> rw [h2, h3] <;> exact ⟨_, rfl, by first | rfl | simp [iteO, catO, PlanT.tag, PlanT.near?, PlanT.sum?], by decide⟩
  | coin =>
    rcases zeros size hz with ⟨_, h2, h3⟩ | ⟨_, h2, h3⟩ | ⟨_, h2, h3⟩ <;> rw [h2, h3] <;> exact ⟨_, rfl, by first | rfl | simp [iteO, catO, PlanT.tag, PlanT.near?, PlanT.sum?], by decide⟩
  | sum l =>
    have e1 : (rngO 0 (own.length : Int)).bind (fun t5 => (cmpO (fun at_ => (atI own at_).bind fun t6 => (PlanT.sum? (PlanT.sum l)).bind fun t7 => some (isIn t6 t7)) (fun at_ => (atI values at_).bind fun t8 => some t8) t5)) = some (((rng 0 (own.length : Int)).filter fun i => isIn (at0 own i) l).map (at0 values)) := by
      rw [rngO_ok (by omega) (by omega), Option.bind_some, cmpO_ok (q := fun i => isIn (at0 own i) l) (g := at0 values) (fun i hi => by
        obtain ⟨i0, i1⟩ := mem_rng.mp hi
        rw [atI_at0 i0 i1]; rfl) (fun i hi _ => by
        obtain ⟨i0, i1⟩ := mem_rng.mp hi
        rw [atI_at0 i0 (by omega)]; rfl)]
    obtain ⟨ts, e2, e3⟩ := Option.bind_eq_some_iff.mp e1
    have e4 : (cmpO (fun zat => (atI own zat).bind fun t4 => (PlanT.sum? (PlanT.sum l)).bind fun t5 => some (isIn t4 t5)) (fun zat => (atI values zat).bind fun t6 => some t6) ts) = some (((rng 0 (own.length : Int)).filter fun i => isIn (at0 own i) l).map (at0 values)) := e3
    rw [e2]
    simp only [Option.bind_some]
    rw [e3]
    simp only [Option.bind_some]
    generalize (((rng 0 (own.length : Int)).filter fun i => isIn (at0 own i) l).map (at0 values)).sum = tot
    rcases zeros size hz with ⟨_, h2, h3⟩ | ⟨_, h2, h3⟩ | ⟨_, h2, h3⟩ <;> rw [h2, h3] <;> rcases hbits tot with hb | hb <;> rw [hb] <;> exact ⟨_, rfl, by first | rfl | simp [iteO, catO, PlanT.tag, PlanT.near?, PlanT.sum?], by decide⟩
  | near k =>
    have hk : k ∈ own := hp
    obtain ⟨i, ei, i0, i1⟩ := idx_mem hk
    have ev : atI values i = some (at0 values i) := atI_at0 i0 (by omega)
    simp only [PlanT.near?, Option.bind_some, ei, ev]
    generalize at0 values i = tot
    rcases zeros size hz with ⟨_, h2, h3⟩ | ⟨_, h2, h3⟩ | ⟨_, h2, h3⟩ <;> rw [h2, h3] <;> rcases hbits tot with hb | hb <;> rw [hb] <;> exact ⟨_, rfl, by first | rfl | simp [iteO, catO, PlanT.tag, PlanT.near?, PlanT.sum?], by decide⟩
section
variable {n : Int} {cs : List (List Int)} {s : List Int}
structure TabOk (tab : List (List Int)) : Prop where
  ne : tab ≠ []
  len : tab.length ≤ 2000
theorem tables_ok (S : Shape n cs) (n0 : 0 ≤ n) (hn : n ≤ 6) (hsl : (s.length : Int) = n) (hs : ∀ x ∈ s, 2 ≤ x ∧ x ≤ 4) {plan : List PlanT} (hpl : (plan.length : Int) = n) (hp : ∀ (k : Nat) (p : PlanT), plan[k]? = some p → PlanOk (rowAt cs (k : Int)) p) :
    ∃ tabs, m_tables_by s cs plan = some tabs ∧ m__law_due s cs plan = some tabs ∧ (tabs.length : Int) = n ∧ ∀ tab ∈ tabs, tab ≠ [] ∧ ∀ row ∈ tab, row.length ≤ 4 := by
  have hlen := S.len
  obtain ⟨tabs, e1, e2, h1, h2⟩ : ∃ tabs, forO (m_tables_by_l1 s cs plan) (rng 0 n) [] = some tabs ∧ forO (m__law_due_l1 s cs plan) (rng 0 n) [] = some tabs ∧ tabs.length = (rng 0 n).length ∧ ∀ tab ∈ tabs, tab ≠ [] ∧ ∀ row ∈ tab, row.length ≤ 4 := by
    have step : ∀ (k : Int), 0 ≤ k → k < n → ∀ st : List (List (List Int)), st.length ≤ 100 → ∃ tab, m_tables_by_l1 s cs plan st k = some (st ++ [tab]) ∧ m__law_due_l1 s cs plan st k = some (st ++ [tab]) ∧ tab ≠ [] ∧ ∀ row ∈ tab, row.length ≤ 4 := fun k k0 k1 st hst => by
      have hrl := S.few _ (S.mem k0 k1)
      have hdom := fun c (hc : c ∈ rowAt cs k) => S.dom' k0 k1 hc
      have hmany : ∀ x ∈ (rowAt cs k).map (at0 s), 1 ≤ x ∧ x ≤ 4 := fun x hx => by
        obtain ⟨c, hc, rfl⟩ := List.mem_map.mp hx
        have := hdom c hc
        have := hs _ (at0_mem (xs := s) (k := c) this.1 (by omega))
        omega
      have hml : ((rowAt cs k).map (at0 s)).length ≤ 5 := by rw [List.length_map]; exact hrl
      have hpr := pr_le5 hmany hml
      have hpos : Pos ((rowAt cs k).map (at0 s)) := fun x hx => (hmany x hx).1
      have ew := m_worlds_ok (s := (rowAt cs k).map (at0 s)) hpos (by omega) (by omega)
      have ew2 := law_worlds_ok (s := (rowAt cs k).map (at0 s)) hmany (by omega)
      have hsz := hs _ (at0_mem (xs := s) (k := k) k0 (by omega))
      have hsz' : at0 s k = 2 ∨ at0 s k = 3 ∨ at0 s k = 4 := by omega
      obtain ⟨p, hpk⟩ : ∃ p, plan[k.toNat]? = some p := ⟨_, List.getElem?_eq_getElem (by omega)⟩
      have hP := hp k.toNat p hpk
      rw [show ((k.toNat : Nat) : Int) = k by omega] at hP
      have epl : atI plan k = some p := by rw [atI_get? k0]; exact hpk
      have hex : ∀ w, ∃ row, w ∈ allW ((rowAt cs k).map (at0 s)) → m_row_by (at0 s k) (rowAt cs k) w p = some row ∧ m__law_row (at0 s k) (rowAt cs k) w p = some row ∧ row.length ≤ 4 := fun w => by
        by_cases hw : w ∈ allW ((rowAt cs k).map (at0 s))
        · obtain ⟨row, h⟩ := row_ok hsz' (own := rowAt cs k) (values := w) (by rw [(mem_allW.mp hw).len, List.length_map]) (by omega) hP
          exact ⟨row, fun _ => h⟩
        · exact ⟨[], fun h => absurd h hw⟩
      obtain ⟨G, hG⟩ : ∃ G : List Int → List Int, ∀ w ∈ allW ((rowAt cs k).map (at0 s)), m_row_by (at0 s k) (rowAt cs k) w p = some (G w) ∧ m__law_row (at0 s k) (rowAt cs k) w p = some (G w) ∧ (G w).length ≤ 4 := ⟨fun w => (hex w).choose, fun w => (hex w).choose_spec⟩
      have em : mapO (fun cause => (atI s cause).bind fun t3 => some t3) (rowAt cs k) = some ((rowAt cs k).map (at0 s)) := mapO_ok fun c hc => by
        have := hdom c hc
        rw [atI_at0 this.1 (by omega)]; rfl
      refine ⟨(allW ((rowAt cs k).map (at0 s))).map G, ?_, ?_, ?_, fun row hrow => ?_⟩
      · simp only [m_tables_by_l1]
        rw [S.at k0 k1, Option.bind_some, em, Option.bind_some, ew, Option.bind_some, mapO_ok (g := G) (fun w hw => by
          rw [atI_at0 (xs := s) k0 (by omega), epl]
          simp only [Option.bind_some]
          rw [(hG w hw).1]; rfl), Option.bind_some, appO_ok (by omega)]
        rfl
      · simp only [m__law_due_l1]
        rw [S.at k0 k1, Option.bind_some, em, Option.bind_some, ew2, Option.bind_some, mapO_ok (g := G) (fun w hw => by
          rw [atI_at0 (xs := s) k0 (by omega), epl]
          simp only [Option.bind_some]
          rw [(hG w hw).2.1]; rfl), Option.bind_some, appO_ok (by omega)]
        rfl
      · intro z
        have h1 := allW_len hpos
        have h2 := pr_pos hpos
        have h3 := congrArg List.length z
        rw [List.length_map] at h3
        simp at h3
        rw [h3] at h1
        simp at h1
        omega
      · obtain ⟨w, hw, rfl⟩ := List.mem_map.mp hrow
        exact (hG w hw).2.2
    have go : ∀ (ks : List Int) (st : List (List (List Int))), (∀ k ∈ ks, 0 ≤ k ∧ k < n) → st.length + ks.length ≤ 100 → (∀ tab ∈ st, tab ≠ [] ∧ ∀ row ∈ tab, row.length ≤ 4) → ∃ tabs, forO (m_tables_by_l1 s cs plan) ks st = some tabs ∧ forO (m__law_due_l1 s cs plan) ks st = some tabs ∧ tabs.length = st.length + ks.length ∧ ∀ tab ∈ tabs, tab ≠ [] ∧ ∀ row ∈ tab, row.length ≤ 4 := by
      intro ks
      induction ks with
      | nil => intro st _ _ h; exact ⟨st, rfl, rfl, rfl, h⟩
      | cons k ks ih =>
        intro st hk hl h
        rw [List.length_cons] at hl
        obtain ⟨k0, k1⟩ := hk k List.mem_cons_self
        obtain ⟨tab, g1, g2, g3, g4⟩ := step k k0 k1 st (by omega)
        obtain ⟨tabs, f1, f2, f3, f4⟩ := ih (st ++ [tab]) (fun j hj => hk j (List.mem_cons_of_mem _ hj)) (by rw [List.length_append, List.length_singleton]; omega) (fun x hx => by
          rcases List.mem_append.mp hx with hx | hx
          · exact h x hx
          · rw [List.mem_singleton.mp hx]; exact ⟨g3, g4⟩)
        exact ⟨tabs, by rw [forO_cons, g1, Option.bind_some, f1], by rw [forO_cons, g2, Option.bind_some, f2], by rw [f3, List.length_append, List.length_singleton, List.length_cons]; omega, f4⟩
    obtain ⟨tabs, f1, f2, f3, f4⟩ := go (rng 0 n) [] (fun k hk => mem_rng.mp hk) (by rw [rng_len]; simp; omega) (fun x hx => by cases hx)
    exact ⟨tabs, f1, f2, by simpa using f3, f4⟩
  refine ⟨tabs, ?_, ?_, by rw [h1, rng_len]; omega, h2⟩
  · unfold m_tables_by
    simp only [lt_def]
    rw [hlen, rngO_ok n0 (by omega), Option.bind_some, e1]
    rfl
  · unfold m__law_due
    simp only [lt_def]
    rw [hlen, rngO_ok n0 (by omega), Option.bind_some, e2]
    rfl
theorem law_plan_ok {pool : List Int} (hp : pool.length = 63) (S : Shape n cs) (n0 : 0 ≤ n) (hn : n ≤ 6) {first : Int} (f0 : 0 ≤ first) (f1 : first ≤ 40) : ∃ plan, m__law_plan cs pool first = some plan ∧ (plan.length : Int) = n ∧ ∀ (k : Nat) (p : PlanT), plan[k]? = some p → PlanOk (rowAt cs (k : Int)) p := by
  unfold m__law_plan
  simp only [lt_def, S.len]
  rw [rngO_ok n0 (by omega), Option.bind_some]
  obtain ⟨plan, e, h1, h2⟩ := forO_inv (f := m__law_plan_l1 cs pool first) (fun done st => st.length = done.length ∧ ∀ (k : Nat) (p : PlanT), st[k]? = some p → PlanOk (rowAt cs (k : Int)) p) (rng 0 n) [] ⟨rfl, fun k p h => by simp at h⟩ (fun d k r st hsp hP => by
    obtain ⟨q1, q2⟩ := hP
    obtain ⟨ek, k0, k1⟩ := rng_at hsp
    obtain ⟨v, ev⟩ := pool_at hp (k := first + k) (by omega) (by omega)
    have hrl := S.few _ (S.mem k0 k1)
    have put : ∀ p, PlanOk (rowAt cs k) p → ∃ st2, appO st p = some st2 ∧ st2.length = (d ++ [k]).length ∧ ∀ (j : Nat) (p : PlanT), st2[j]? = some p → PlanOk (rowAt cs (j : Int)) p := fun p hpk => by
      rw [appO_ok (by omega)]
      refine ⟨_, rfl, by rw [List.length_append, List.length_append, q1]; rfl, fun j q hj => ?_⟩
      by_cases hjl : j < st.length
      · rw [List.getElem?_append_left hjl] at hj
        exact q2 j q hj
      · have hj2 : j = st.length := by
          have := (List.getElem?_eq_some_iff.mp hj).1
          rw [List.length_append, List.length_singleton] at this
          omega
        subst hj2
        rw [List.getElem?_append_right (Nat.le_refl _), Nat.sub_self] at hj
        cases hj
        rw [show ((st.length : Nat) : Int) = k by omega]
        exact hpk
    simp only [m__law_plan_l1, lt_def]
    rw [S.at k0 k1, Option.bind_some, ev, Option.bind_some]
    cases hb : (decide (rowAt cs k = ([] : List Int)) || decide (v / 2 % 5 = 0)) with
    | true =>
      rw [iteO_true]
      obtain ⟨p, e1, e2⟩ : ∃ p, atI ([PlanT.still, PlanT.coin] : List PlanT) (v / 10 % 2) = some p ∧ PlanOk (rowAt cs k) p := by
        rcases (show v / 10 % 2 = 0 ∨ v / 10 % 2 = 1 by omega) with h | h <;> rw [h]
        · exact ⟨.still, rfl, trivial⟩
        · exact ⟨.coin, rfl, trivial⟩
      obtain ⟨st2, g1, g2, g3⟩ := put p e2
      rw [e1, Option.bind_some, g1]
      exact ⟨st2, rfl, g2, g3⟩
    | false =>
      rw [Bool.or_eq_false_iff, decide_eq_false_iff_not] at hb
      have hpos := List.length_pos_iff.mpr hb.1
      rw [iteO_false, iteO_dec]
      split
      · have m0 := Int.emod_nonneg (v / 10) (show ((rowAt cs k).length : Int) ≠ 0 by omega)
        have m1 := Int.emod_lt_of_pos (v / 10) (show 0 < ((rowAt cs k).length : Int) by omega)
        rw [modO_pos (by omega), Option.bind_some, atI_at0 m0 m1, Option.bind_some]
        obtain ⟨st2, g1, g2, g3⟩ := put (PlanT.near (at0 (rowAt cs k) (v / 10 % ((rowAt cs k).length : Int)))) (at0_mem m0 m1)
        rw [g1]
        exact ⟨st2, rfl, g2, g3⟩
      · rw [modO_pos (by omega), Option.bind_some, rngO_ok (by omega) (by omega), Option.bind_some, cmpO_ok (q := fun zat => !decide (zat = v / 10 % (((rowAt cs k).length : Int) + 1)) || decide (((rowAt cs k).length : Int) = 1)) (g := at0 (rowAt cs k)) (fun _ _ => rfl) (fun i hi _ => by
          obtain ⟨i0, i1⟩ := mem_rng.mp hi
          rw [atI_at0 i0 i1]; rfl), Option.bind_some]
        obtain ⟨st2, g1, g2, g3⟩ := put (PlanT.sum (cut (((rng 0 ((rowAt cs k).length : Int)).filter fun zat => !decide (zat = v / 10 % (((rowAt cs k).length : Int) + 1)) || decide (((rowAt cs k).length : Int) = 1)).map (at0 (rowAt cs k))) none (some (1 + v / 60 % 5)))) trivial
        rw [g1]
        exact ⟨st2, rfl, g2, g3⟩)
  rw [e]
  rw [rng_len] at h1
  exact ⟨plan, rfl, by omega, h2⟩
theorem law_copied_ok (plan : List PlanT) : m__law_copied plan = some plan := by
  unfold m__law_copied
  rw [mapO_ok (g := fun p => p) (fun p _ => by cases p <;> rfl), List.map_id']
  rfl
theorem law_kinds_ok (tabs : List (List (List Int))) : m__law_kinds tabs = some true := by
  have h3 : ∀ row : List Int, forF m__law_kinds_l3 row () = some (.nxt ()) := fun row => forF_unit _ fun _ _ => rfl
  have h2 : ∀ tab : List (List Int), forF m__law_kinds_l2 tab () = some (.nxt ()) := fun tab => forF_unit _ fun row _ => by
    simp only [m__law_kinds_l2]
    rw [h3]
    rfl
  have h1 : forF m__law_kinds_l1 tabs () = some (.nxt ()) := forF_unit _ fun tab _ => by
    simp only [m__law_kinds_l1]
    rw [h2]
    rfl
  unfold m__law_kinds
  rw [h1]
  rfl
theorem law_sizes_ok {pool : List Int} (hp : pool.length = 63) (S : Shape n cs) (n1 : 1 ≤ n) (hn : n ≤ 6) : ∃ s, m__law_sizes cs pool = some s ∧ (s.length : Int) = n ∧ ∀ x ∈ s, 2 ≤ x ∧ x ≤ 4 := by
  have hlen := S.len
  unfold m__law_sizes
  have hat : ∀ k, ∃ v, (0 ≤ k → k < n → atI pool (24 + k) = some v) := fun k => by
    by_cases h : 0 ≤ k ∧ k < n
    · obtain ⟨v, e⟩ := pool_at hp (k := 24 + k) (by omega) (by omega)
      exact ⟨v, fun _ _ => e⟩
    · exact ⟨0, fun a b => absurd ⟨a, b⟩ h⟩
  obtain ⟨p, hpv⟩ : ∃ p : Int → Int, ∀ k, 0 ≤ k → k < n → atI pool (24 + k) = some (p k) := ⟨fun k => (hat k).choose, fun k => (hat k).choose_spec⟩
  rw [hlen, rngO_ok (by omega) (by omega), Option.bind_some, mapO_ok (g := fun k => 2 + p k / 3 % 3) (fun k hk => by
    obtain ⟨k0, k1⟩ := mem_rng.mp hk
    rw [hpv k k0 k1]; rfl), Option.bind_some]
  obtain ⟨s0, hs0⟩ : ∃ s0, s0 = (rng 0 n).map fun k => 2 + p k / 3 % 3 := ⟨_, rfl⟩
  rw [← hs0]
  have hl0 : (s0.length : Int) = n := by rw [hs0, List.length_map, rng_len]; omega
  have ha0 : ∀ x ∈ s0, 2 ≤ x ∧ x ≤ 4 := fun x hx => by
    rw [hs0] at hx
    obtain ⟨k, _, rfl⟩ := List.mem_map.mp hx
    omega
  rw [mapO_ok (g := fun own : List Int => (own.length : Int)) (fun _ _ => rfl), Option.bind_some]
  obtain ⟨mx, emx⟩ : ∃ mx, maxO (cs.map fun own : List Int => (own.length : Int)) = some mx := by
    cases hc : cs with
    | nil => rw [hc] at hlen; simp at hlen; omega
    | cons a b => exact ⟨_, rfl⟩
  rw [emx, Option.bind_some, iteO_dec]
  split
  · obtain ⟨v, ev⟩ := pool_at hp (k := 23) (by omega) (by omega)
    have m0 := Int.emod_nonneg (v / 3) (show (s0.length : Int) ≠ 0 by omega)
    have m1 := Int.emod_lt_of_pos (v / 3) (show 0 < (s0.length : Int) by omega)
    rw [ev, Option.bind_some, modO_pos (by omega), Option.bind_some]
    generalize v / 3 % (s0.length : Int) = k at m0 m1
    rw [mapO_ok (g := fun _ => (2 : Int)) (fun _ _ => rfl), Option.bind_some, atI_at0 m0 m1, Option.bind_some, cut_toI _ m0, catO_ok (by rw [List.length_map, List.length_take]; simp; omega), Option.bind_some, mapO_ok (g := fun _ => (2 : Int)) (fun _ _ => rfl), Option.bind_some, cut_fromI _ (by omega), catO_ok (by rw [List.length_append, List.length_map, List.length_map, List.length_take, List.length_drop]; simp; omega), Option.bind_some]
    refine ⟨_, rfl, by rw [List.length_append, List.length_append, List.length_map, List.length_map, List.length_take, List.length_drop, List.length_singleton]; omega, fun x hx => ?_⟩
    have h2 : ∀ l : List Int, x ∈ l.map (fun _ => (2 : Int)) → 2 ≤ x ∧ x ≤ 4 := fun l h => by
      obtain ⟨_, _, rfl⟩ := List.mem_map.mp h
      omega
    rcases List.mem_append.mp hx with hx | hx
    · rcases List.mem_append.mp hx with hx | hx
      · exact h2 _ hx
      · rw [List.mem_singleton.mp hx]; exact ha0 _ (at0_mem m0 m1)
    · exact h2 _ hx
  · exact ⟨s0, rfl, hl0, ha0⟩
/-- rows lengthened -/
theorem appT_ok {c : List (List (List Int))} {k j : Int} {y : Int} (k0 : 0 ≤ k) (k1 : k < (c.length : Int)) (hj : j = 0 ∨ j = -1) {b : Nat} (hb : b ≤ 1000) (h : ∀ tab ∈ c, tab ≠ [] ∧ ∀ row ∈ tab, row.length ≤ b) : ∃ c2, appT c k j y = some c2 ∧ c2.length = c.length ∧ ∀ tab ∈ c2, tab ≠ [] ∧ ∀ row ∈ tab, row.length ≤ b + 1 := by
  obtain ⟨tab, ht⟩ : ∃ tab, c[k.toNat]? = some tab := ⟨_, List.getElem?_eq_getElem (by omega)⟩
  have htm : tab ∈ c := List.mem_of_getElem? ht
  obtain ⟨hne, hrow⟩ := h tab htm
  have hpos := List.length_pos_iff.mpr hne
  obtain ⟨i, hi, hil⟩ : ∃ i, ixN tab.length j = some i ∧ i < tab.length := by
    rcases hj with rfl | rfl
    · exact ⟨0, by unfold ixN; simp [hpos], hpos⟩
    · refine ⟨tab.length - 1, ?_, by omega⟩
      unfold ixN
      simp
      omega
  obtain ⟨row, hr⟩ : ∃ row, tab[i]? = some row := ⟨_, List.getElem?_eq_getElem hil⟩
  have hrl := hrow row (List.mem_of_getElem? hr)
  have e1 : atI c k = some tab := by rw [atI_get? k0, ht]
  have e2 : atI tab j = some row := by unfold atI; rw [hi]; exact hr
  unfold appT
  have e3 : setO tab j (row ++ [y]) = some (tab.set i (row ++ [y])) := by unfold setO; rw [hi]; rfl
  rw [e1, Option.bind_some, e2, Option.bind_some, appO_ok (show row.length < 16777216 by omega), Option.bind_some, e3, Option.bind_some, setO_ok k0 k1]
  refine ⟨_, rfl, List.length_set, fun t2 ht2 => ?_⟩
  rcases List.mem_or_eq_of_mem_set ht2 with ht2 | rfl
  · exact ⟨(h t2 ht2).1, fun r hr => by have := (h t2 ht2).2 r hr; omega⟩
  · refine ⟨fun z => hne (by have := congrArg List.length z; rw [List.length_set] at this; exact List.length_eq_zero_iff.mp this), fun r hr2 => ?_⟩
    rcases List.mem_or_eq_of_mem_set hr2 with hr2 | rfl
    · have := hrow r hr2; omega
    · rw [List.length_append, List.length_singleton]; omega
end
theorem law_ok (ns : List Int) (hns : ns.length ≤ 63) : m_law ns = some true := by
  unfold m_law
  simp only [lt_def]
  obtain ⟨pool, ep, hp⟩ := law_pool_ok hns
  obtain ⟨p1, e1⟩ := pool_at hp (k := 1) (by omega) (by omega)
  obtain ⟨p62, e62⟩ := pool_at hp (k := 62) (by omega) (by omega)
  rw [ep, Option.bind_some, e1, Option.bind_some]
  have n1 : 1 ≤ 1 + p1 % 6 := by omega
  have n6 : 1 + p1 % 6 ≤ 6 := by omega
  generalize 1 + p1 % 6 = n at n1 n6
  obtain ⟨cs, ec, S⟩ := law_drawn_ok hp (n := n) (by omega) (by omega)
  rw [ec, Option.bind_some]
  obtain ⟨s, es, hsl, hs⟩ := law_sizes_ok hp S n1 n6
  obtain ⟨plan, epl, hpl, hpk⟩ := law_plan_ok hp S (by omega) n6 (first := 30) (by omega) (by omega)
  obtain ⟨oth, eot, hol, hok⟩ := law_plan_ok hp S (by omega) n6 (first := 36) (by omega) (by omega)
  obtain ⟨tabs, t1, t2, t3, t4⟩ := tables_ok S (by omega) n6 hsl hs hpl hpk
  obtain ⟨tab2, u1, u2, u3, u4⟩ := tables_ok S (by omega) n6 hsl hs hol hok
  have m0 := Int.emod_nonneg p62 (show (plan.length : Int) ≠ 0 by omega)
  have m1 := Int.emod_lt_of_pos p62 (show 0 < (plan.length : Int) by omega)
  obtain ⟨st, ee, h1, _, _⟩ := forO_inv (f := m_law_l1) (fun done st => st.1 = st.2 ∧ (st.1.length : Int) = n ∧ ∀ tab ∈ st.1, tab ≠ [] ∧ ∀ row ∈ tab, row.length ≤ 4 + 2 * done.length) (rng 0 n) (tab2, tab2) ⟨rfl, u3, u4⟩ (fun d k r st hsp hP => by
    obtain ⟨a, b⟩ := st
    obtain ⟨q1, q2, q3⟩ := hP
    have q1 : a = b := q1
    subst q1
    obtain ⟨ek, k0, k1⟩ := rng_at hsp
    simp only at q2 q3
    obtain ⟨c2, g1, g2, g3⟩ := appT_ok (j := 0) (y := 7) k0 (by omega) (.inl rfl) (b := 4 + 2 * d.length) (by omega) q3
    obtain ⟨c3, g4, g5, g6⟩ := appT_ok (j := -1) (y := 8) k0 (by omega) (.inr rfl) (b := 4 + 2 * d.length + 1) (by omega) g3
    simp only [m_law_l1, lt_def]
    rw [g1, Option.bind_some, g4, Option.bind_some, Option.bind_some, g4, Option.bind_some]
    exact ⟨(c3, c3), rfl, rfl, by show (c3.length : Int) = n; omega, fun tab ht => ⟨(g6 tab ht).1, fun row hr => by have := (g6 tab ht).2 row hr; rw [List.length_append, List.length_singleton]; omega⟩⟩)
  obtain ⟨a, b⟩ := st
  have h1 : a = b := h1
  subst h1
  simp only [es, epl, eot, mapO_id, law_copied_ok, t1, t2, u1, u2, law_kinds_ok, Option.bind_some, decide_true, Bool.not_true, Bool.or_self, iteO_false, orO_some, e62]
  rw [modO_pos (by omega), Option.bind_some, setO_ok m0 m1]
  simp only [Option.bind_some, u3]
  rw [rngO_ok (by omega) (by omega), Option.bind_some, ee]
  simp only [Option.bind_some, decide_true, Bool.not_true, iteO_false, andO_some, Bool.and_self]
theorem law_true (ns : List Int) (hl : ns.length ≤ 63) : ∃ zscript y, [Mir.ToD.toD ns] = [Mir.ToD.toD (zscript : List Int)] ∧ m_law zscript = some y ∧ Mir.ToD.toD true = Mir.ToD.toD y := ⟨ns, true, rfl, law_ok ns hl, rfl⟩
end K41
namespace K41
set_option synthInstance.maxSize 4096
open PySem PySem.Spec L2 Mir
open Mir.ToD (toD)
/-! ### the walk -/
def topS (i : Nat) : Stmt := PySem.Challenge.pw_causebook_k41_tables_of_plans.main.body.getD i (.Pass ⟨0, 0, 0, 0⟩)
set_option maxHeartbeats 0 in
structure Txt (K : PySem.W.Frag) (mg : Str → Option Value) where
  a_count_of : Addr
  d_count_of : FuncData
  F_count_of : Fun K "count_of" "count_of" (topS 1) a_count_of d_count_of
  b_count_of : Binds K d_count_of ["sizes"] []
  g_count_of : mg "count_of" = some (.ref a_count_of)
  a_world_at : Addr
  d_world_at : FuncData
  F_world_at : Fun K "world_at" "world_at" (topS 2) a_world_at d_world_at
  b_world_at : Binds K d_world_at ["sizes", "place"] []
  g_world_at : mg "world_at" = some (.ref a_world_at)
  a_worlds : Addr
  d_worlds : FuncData
  F_worlds : Fun K "worlds" "worlds" (topS 3) a_worlds d_worlds
  b_worlds : Binds K d_worlds ["sizes"] []
  g_worlds : mg "worlds" = some (.ref a_worlds)
  a_row_by : Addr
  d_row_by : FuncData
  F_row_by : Fun K "row_by" "row_by" (topS 5) a_row_by d_row_by
  b_row_by : Binds K d_row_by ["size", "own", "values", "told"] []
  g_row_by : mg "row_by" = some (.ref a_row_by)
  a_tables_by : Addr
  d_tables_by : FuncData
  F_tables_by : Fun K "tables_by" "tables_by" (topS 6) a_tables_by d_tables_by
  b_tables_by : Binds K d_tables_by ["sizes", "causes", "plan"] []
  g_tables_by : mg "tables_by" = some (.ref a_tables_by)
  a__law_pool : Addr
  d__law_pool : FuncData
  F__law_pool : Fun K "_law_pool" "_law_pool" (topS 8) a__law_pool d__law_pool
  b__law_pool : Binds K d__law_pool ["_law_script", "_law_many"] []
  g__law_pool : mg "_law_pool" = some (.ref a__law_pool)
  a__law_order : Addr
  d__law_order : FuncData
  F__law_order : Fun K "_law_order" "_law_order" (topS 9) a__law_order d__law_order
  b__law_order : Binds K d__law_order ["_law_pool_here", "_law_many"] []
  g__law_order : mg "_law_order" = some (.ref a__law_order)
  a__law_drawn : Addr
  d__law_drawn : FuncData
  F__law_drawn : Fun K "_law_drawn" "_law_drawn" (topS 10) a__law_drawn d__law_drawn
  b__law_drawn : Binds K d__law_drawn ["_law_pool_here", "_law_many"] []
  g__law_drawn : mg "_law_drawn" = some (.ref a__law_drawn)
  a__law_sizes : Addr
  d__law_sizes : FuncData
  F__law_sizes : Fun K "_law_sizes" "_law_sizes" (topS 11) a__law_sizes d__law_sizes
  b__law_sizes : Binds K d__law_sizes ["_law_causes", "_law_pool_here"] []
  g__law_sizes : mg "_law_sizes" = some (.ref a__law_sizes)
  a__law_plan : Addr
  d__law_plan : FuncData
  F__law_plan : Fun K "_law_plan" "_law_plan" (topS 12) a__law_plan d__law_plan
  b__law_plan : Binds K d__law_plan ["_law_causes", "_law_pool_here", "_law_first"] []
  g__law_plan : mg "_law_plan" = some (.ref a__law_plan)
  a__law_row : Addr
  d__law_row : FuncData
  F__law_row : Fun K "_law_row" "_law_row" (topS 13) a__law_row d__law_row
  b__law_row : Binds K d__law_row ["_law_size", "_law_own", "_law_values", "_law_told_of"] []
  g__law_row : mg "_law_row" = some (.ref a__law_row)
  a__law_worlds : Addr
  d__law_worlds : FuncData
  F__law_worlds : Fun K "_law_worlds" "_law_worlds" (topS 14) a__law_worlds d__law_worlds
  b__law_worlds : Binds K d__law_worlds ["_law_sizes_here"] []
  g__law_worlds : mg "_law_worlds" = some (.ref a__law_worlds)
  a__law_due : Addr
  d__law_due : FuncData
  F__law_due : Fun K "_law_due" "_law_due" (topS 15) a__law_due d__law_due
  b__law_due : Binds K d__law_due ["_law_sizes_here", "_law_causes", "_law_plan_here"] []
  g__law_due : mg "_law_due" = some (.ref a__law_due)
  a__law_kinds : Addr
  d__law_kinds : FuncData
  F__law_kinds : Fun K "_law_kinds" "_law_kinds" (topS 16) a__law_kinds d__law_kinds
  b__law_kinds : Binds K d__law_kinds ["_law_found"] []
  g__law_kinds : mg "_law_kinds" = some (.ref a__law_kinds)
  a__law_copied : Addr
  d__law_copied : FuncData
  F__law_copied : Fun K "_law_copied" "_law_copied" (topS 17) a__law_copied d__law_copied
  b__law_copied : Binds K d__law_copied ["_law_plan_here"] []
  g__law_copied : mg "_law_copied" = some (.ref a__law_copied)
  a_law : Addr
  d_law : FuncData
  F_law : Fun K "law" "law" (topS 18) a_law d_law
  b_law : Binds K d_law ["_law_script"] []
  g_law : mg "law" = some (.ref a_law)
  b_bool : mg "bool" = none
  b_int : mg "int" = none
  b_isinstance : mg "isinstance" = none
  b_len : mg "len" = none
  b_list : mg "list" = none
  b_max : mg "max" = none
  b_range : mg "range" = none
  b_reversed : mg "reversed" = none
  b_sorted : mg "sorted" = none
  b_sum : mg "sum" = none
section
variable {P : Program} {w : World} {K : PySem.W.Frag} {mg : Str → Option Value} {base : Heap}
abbrev s_count_of : Stmt := topS 1
abbrev nn_count_of : List Str := ["sizes", "many", "size"]
theorem sc_count_of : FnScope nn_count_of ["sizes"] (defScope s_count_of) := ⟨rfl, rfl, rfl, by decide +kernel, rfl, by decide +kernel, by decide +kernel⟩
def sp_count_of (K : PySem.W.Frag) : Sp := FnS K fun ds r => ∃ sizes y, ds = [toD (sizes : (List Int))] ∧ m_count_of sizes = some y ∧ r = toD y
set_option maxHeartbeats 4000000 in
theorem ok_count_of (T : Txt K mg) : FnOk P w K mg base CX0 1 T.a_count_of T.d_count_of ["sizes"] (sp_count_of K) := by
  refine T.F_count_of.ok sc_count_of (fun vs H Q E h => ?_) (fun cdv A outer s H vs Q E hr h => ?_)
  · obtain ⟨ds, r, hd, ⟨sizes, y, rfl, _⟩, _⟩ := h
    exact dpAll_len hd
  · obtain ⟨ds, r, hd, ⟨sizes, y, rfl, hm, rfl⟩, k⟩ := h
    unfold m_count_of at hm
    refine ⟨_, pss_len (pss_cons (ps_set (i := 1) sc_count_of.nd rfl (by first | exact .inl rfl | exact .inr rfl) pe_int) (pss_cons (ps_for PassesOwn.never rfl (show PI _ _ _ (iList K _) from pi_list (pv 0)) (pg_name (i := 2) sc_count_of.nd rfl (by first | exact .inl rfl | exact .inr rfl)) (pss_cons (ps_set (i := 1) sc_count_of.nd rfl (by first | exact .inl rfl | exact .inr rfl) (pe_op op_mulW (pv 1) (pv 2))) pss_nil)) (pss_cons (ps_ret (pv 1)) pss_nil))), fun hl => ?_⟩
    refine body_S hl hd hm (show 1 ≤ 3 by decide) (Γ := [cs sizes, c0, c0]) (Γ' := noΓ) rfl ?_ k
    exact (
  b_asgL (md := .n) ev_int nh (show 1 < 3 by decide) (Γ2 := fun many => [cs sizes, cn many, c0]) (fun _ => rfl) fun many e1 =>
  b_for (Γ1 := fun (many : Int) => [c0, cn many, c0]) (Γ2 := fun (many : Int) (size : Int) => [c0, cn many, cs size]) (i_list (ev_var (i := 0)) sh) (fun many size => g_name sh (show 2 < 3 by decide)) (fun many size =>
  b_bind fun many ht2 =>
  b_asg (md := .n) (e_mul (ev_varF (i := 1)) (ev_varF (i := 2)) ht2) nh (show 1 < 3 by decide) (Γ2 := [c0, cn many, cs size]) rfl (
  b_end (wk_c (wk_c (wk_d .nil))))) (wk_d (wk_c (wk_c .nil))) (fun many =>
  b_ret (ev_varF (i := 1))))
abbrev s_world_at : Stmt := topS 2
abbrev nn_world_at : List Str := ["sizes", "place", "turned", "size"]
theorem sc_world_at : FnScope nn_world_at ["sizes", "place"] (defScope s_world_at) := ⟨rfl, rfl, rfl, by decide +kernel, rfl, by decide +kernel, by decide +kernel⟩
def sp_world_at (K : PySem.W.Frag) : Sp := FnO K fun ds r => ∃ sizes place y, ds = [toD (sizes : (List Int)), toD (place : Int)] ∧ m_world_at sizes place = some y ∧ r = y.map toD
set_option maxHeartbeats 4000000 in
theorem ok_world_at (T : Txt K mg) : FnOk P w K mg base CX0 1 T.a_world_at T.d_world_at ["sizes", "place"] (sp_world_at K) := by
  refine T.F_world_at.ok sc_world_at (fun vs H Q E h => ?_) (fun cdv A outer s H vs Q E hr h => ?_)
  · obtain ⟨ds, r, hd, ⟨sizes, place, y, rfl, _⟩, _⟩ := h
    exact dpAll_len hd
  · obtain ⟨ds, r, hd, ⟨sizes, place, y, rfl, hm, rfl⟩, k⟩ := h
    unfold m_world_at at hm
    refine ⟨_, pss_len (pss_cons (ps_set (i := 2) sc_world_at.nd rfl (by first | exact .inl rfl | exact .inr rfl) (pe_lst pa_nil)) (pss_cons (ps_for PassesOwn.never rfl (show PI _ _ _ (iRev K _) from pi_reversed (by rfl) T.b_reversed (pa_cons (pv 0) pa_nil)) (pg_name (i := 3) sc_world_at.nd rfl (by first | exact .inl rfl | exact .inr rfl)) (pss_cons (ps_expr (pe_bm PySem.F.plainAttrs_list PySem.F.slot_list_append PySem.F.type_list_append mt_append (pv 2) (pa_cons (pe_op op_modN (pv 1) (pv 3)) pa_nil))) (pss_cons (ps_set (i := 1) sc_world_at.nd rfl (by first | exact .inl rfl | exact .inr rfl) (pe_op op_fdivX (pv 1) (pv 3))) pss_nil))) (pss_cons (ps_ret (show PE _ _ (tLstRev K _) from pe_lstRev rfl (by rfl) T.b_list (by rfl) T.b_reversed (pv 2))) pss_nil))), fun hl => ?_⟩
    refine body_O hl hd hm (show 2 ≤ 4 by decide) (Γ := [cs sizes, cs place, c0, c0]) (Γ' := noΓ) rfl ?_ k
    exact (
  b_asgOL (md := .n) (o_lstT (xs := ([] : List Int)) (show 0 ≤ sizeLine by decide) a_nil) nh (show 2 < 4 by decide) (Γ2 := fun turned => [cs sizes, cs place, co turned, c0]) (fun _ => rfl) fun turned e1 =>
  b_for (Γ1 := fun (st : Int × (List Int)) => match st with | (place, turned) => [c0, cs place, co turned, c0]) (Γ2 := fun (st : Int × (List Int)) (it : Int) => match st, it with | (place, turned), size => [c0, cs place, co turned, cs size]) (i_rev (ev_var (i := 0)) sh) (fun ⟨place, turned⟩ size => g_name sh (show 3 < 4 by decide)) (fun ⟨place, turned⟩ size =>
  b_bind fun t2 ht2 =>
  b_bind fun turned h3 =>
  b_append (i := 2) rfl (e_mod (ev_varF (i := 1)) (ev_varF (i := 3)) ht2) h3 (Γ2 := [c0, cs place, co turned, cs size]) rfl (
  b_bind fun place ht4 =>
  b_asg (md := .n) (e_div (ev_varF (i := 1)) (ev_varF (i := 3)) ht4) nh (show 1 < 4 by decide) (Γ2 := [c0, cn place, co turned, cs size]) rfl (
  b_end (wk_c (wk_s (wk_c (wk_d .nil))))))) (wk_d (wk_c (wk_c (wk_c .nil)))) (fun ⟨place, turned⟩ =>
  b_retO (o_lstRevF (ev_varO (i := 2)))))
abbrev s_worlds : Stmt := topS 3
abbrev nn_worlds : List Str := ["sizes", "place"]
theorem sc_worlds : FnScope nn_worlds ["sizes"] (defScope s_worlds) := ⟨rfl, rfl, rfl, by decide +kernel, rfl, by decide +kernel, by decide +kernel⟩
def sp_worlds (K : PySem.W.Frag) : Sp := FnP K fun ds r => ∃ sizes y, ds = [toD (sizes : (List Int))] ∧ m_worlds sizes = some y ∧ r = y.map (·.map toD)
set_option maxHeartbeats 4000000 in
theorem ok_worlds (T : Txt K mg) : FnOk P w K mg base CX0 2 T.a_worlds T.d_worlds ["sizes"] (sp_worlds K) := by
  refine T.F_worlds.ok sc_worlds (fun vs H Q E h => ?_) (fun cdv A outer s H vs Q E hr h => ?_)
  · obtain ⟨ds, r, hd, ⟨sizes, y, rfl, _⟩, _⟩ := h
    exact dpAll_len hd
  · obtain ⟨ds, r, hd, ⟨sizes, y, rfl, hm, rfl⟩, k⟩ := h
    unfold m_worlds at hm
    refine ⟨_, pss_len (pss_cons (ps_ret (pe_lc (own := [("place", 1)]) rfl sc_worlds.nd (pi_range1 (by rfl) T.b_range (pa_cons (pe_call (ok_count_of T) (hr.mono (by decide)) (by rfl) T.g_count_of T.F_count_of.kp T.b_count_of .nil pass0 (pa_cons (pv 0) pa_nil)) pa_nil)) (blkOk_by (own := [("place", 1)]) (N := nn_worlds) (sc := defScope s_worlds) (by decide +kernel)) (fun _ _ _ _ _ => (pg_name (i := 1) sc_worlds.nd rfl (Or.inl rfl))) (fun _ _ _ _ _ => pts_nil) (fun _ _ _ _ _ => (pe_call (ok_world_at T) (hr.mono (by decide)) (by rfl) T.g_world_at T.F_world_at.kp T.b_world_at .nil pass0 (pa_cons (pv 0) (pa_cons (pv 1) pa_nil)))))) pss_nil), fun hl => ?_⟩
    refine body_P hl hd hm (show 1 ≤ 2 by decide) (Γ := [cs sizes, c0]) (Γ' := noΓ) rfl ?_ k
    exact (
  b_bind fun t1 ht1 =>
  b_bind fun t2 ht2 =>
  b_bind fun t4 ht4 =>
  b_retP (p_map1 (i_rng1 (ev_flat (m1 := .h) (e_call (a_cons (ev_h (md := .s) (ev_var (i := 0))) a_nil) ⟨_, _, rfl, ht1, rfl⟩)) ht2) nh (fun place y hy => (have ⟨t3, ht3, hy⟩ := bind_some_iff hy; some_evO hy (o_call (a_cons (ev_h (md := .s) (ev_var (i := 0))) (a_cons (ev_varF (i := 1)) a_nil)) ⟨_, _, _, rfl, ht3, rfl⟩))) ht4 nh))
abbrev s_row_by : Stmt := topS 5
abbrev nn_row_by : List Str := ["size", "own", "values", "told", "row", "total", "bit", "at"]
theorem sc_row_by : FnScope nn_row_by ["size", "own", "values", "told"] (defScope s_row_by) := ⟨rfl, rfl, rfl, by decide +kernel, rfl, by decide +kernel, by decide +kernel⟩
def sp_row_by (K : PySem.W.Frag) : Sp := FnO K fun ds r => ∃ size own values told y, ds = [toD (size : Int), toD (own : (List Int)), toD (values : (List Int)), toD (told : PlanT)] ∧ m_row_by size own values told = some y ∧ r = y.map toD
set_option maxHeartbeats 4000000 in
theorem ok_row_by (T : Txt K mg) : FnOk P w K mg base CX0 1 T.a_row_by T.d_row_by ["size", "own", "values", "told"] (sp_row_by K) := by
  refine T.F_row_by.ok sc_row_by (fun vs H Q E h => ?_) (fun cdv A outer s H vs Q E hr h => ?_)
  · obtain ⟨ds, r, hd, ⟨size, own, values, told, y, rfl, _⟩, _⟩ := h
    exact dpAll_len hd
  · obtain ⟨ds, r, hd, ⟨size, own, values, told, y, rfl, hm, rfl⟩, k⟩ := h
    unfold m_row_by at hm
    refine ⟨_, pss_len (pss_cons (ps_set (i := 4) sc_row_by.nd rfl (by first | exact .inl rfl | exact .inr rfl) (pe_op op_rep (pe_lst (pa_cons pe_int pa_nil)) (pv 0))) (pss_cons (ps_if (pt_cmpR (show OpR _ _ (rEqD K) from op_eqD hr.units) (pe_ix (show IxR _ (rIxT K) from ix_tup) (pv 3) pe_int (fun _ _ => rfl)) pe_str (nomark _)) (pss_cons (ps_asg pe_int (pg_sub (pv 4) pe_int set_list)) pss_nil) (pss_cons (ps_if (pt_cmpR (show OpR _ _ (rEqD K) from op_eqD hr.units) (pe_ix (show IxR _ (rIxT K) from ix_tup) (pv 3) pe_int (fun _ _ => rfl)) pe_str (nomark _)) (pss_cons (ps_asg pe_int (pg_sub (pv 4) pe_int set_list)) (pss_cons (ps_asg pe_int (pg_sub (pv 4) pe_int set_list)) pss_nil)) (pss_cons (ps_if (pt_cmpR (show OpR _ _ (rEqD K) from op_eqD hr.units) (pe_ix (show IxR _ (rIxT K) from ix_tup) (pv 3) pe_int (fun _ _ => rfl)) pe_str (nomark _)) (pss_cons (ps_set (i := 5) sc_row_by.nd rfl (by first | exact .inl rfl | exact .inr rfl) (pe_callB (show CallR _ (.builtin "sum") (rSum K) from cr_sum rfl) (by rfl) T.b_sum (by decide +kernel) (pa_cons (pe_lc (own := [("at", 7)]) rfl sc_row_by.nd (pi_range1 (by rfl) T.b_range (pa_cons (pe_callB (show CallR _ (.builtin "len") (rLenS K) from call_lenS) (by rfl) T.b_len (by decide +kernel) (pa_cons (pv 1) pa_nil)) pa_nil)) (blkOk_by (own := [("at", 7)]) (N := nn_row_by) (sc := defScope s_row_by) (by decide +kernel)) (fun _ _ _ _ _ => (pg_name (i := 7) sc_row_by.nd rfl (Or.inl rfl))) (fun _ _ _ _ _ => pts_one (pt_cmpR (show OpR _ _ (rInD K) from op_inD (hu65 hr)) (pe_ix (show IxR _ (rIxL K) from ix_list) (pv 1) (pv 7) (fun _ _ => rfl)) (pe_ix (show IxR _ (rIxT K) from ix_tup) (pv 3) pe_int (fun _ _ => rfl)) (by rfl))) (fun _ _ _ _ _ => (pe_ix (show IxR _ (rIxL K) from ix_list) (pv 2) (pv 7) (fun _ _ => rfl)))) pa_nil))) (pss_cons (ps_asg pe_int (pg_sub (pv 4) (pe_op op_modN (pv 5) pe_int) set_list)) pss_nil)) (pss_cons (ps_set (i := 6) sc_row_by.nd rfl (by first | exact .inl rfl | exact .inr rfl) (pe_op op_modN (pe_ix (show IxR _ (rIxL K) from ix_list) (pv 2) (show PE _ _ (tBM K "list" (rIndexD K) _ _) from pe_bm PySem.F.plainAttrs_list PySem.F.slot_list_index PySem.F.type_list_index (mt_indexD (hu65 hr)) (pv 1) (pa_cons (pe_ix (show IxR _ (rIxT K) from ix_tup) (pv 3) pe_int (fun _ _ => rfl)) pa_nil)) (fun _ _ => rfl)) pe_int)) (pss_cons (ps_asg pe_int (pg_sub (pv 4) (pv 6) set_list)) (pss_cons (ps_asg pe_int (pg_sub (pv 4) (pe_op op_sub pe_int (pv 6)) set_list)) pss_nil)))) pss_nil)) pss_nil)) (pss_cons (ps_ret (pv 4)) pss_nil))), fun hl => ?_⟩
    refine body_O hl hd hm (show 4 ≤ 8 by decide) (Γ := [cs size, cs own, cs values, cs told, c0, c0, c0, c0]) (Γ' := noΓ) rfl ?_ k
    exact (
  b_bind fun row_ ht1 =>
  b_asgO (md := .n) (o_rep ev_int (ev_varF (i := 0)) ht1) nh (show 4 < 8 by decide) (Γ2 := [cs size, cs own, cs values, cs told, co row_, c0, c0, c0]) rfl (
  b_if (Γ1 := fun (row_ : (List Int)) => [c0, c0, c0, c0, co row_, c0, c0, c0]) (t_cmp (e_eq (α := PTag) (ev_flat (m1 := .h) (e_ptag (ev_h (md := .s) (ev_var (i := 3)))) rfl) (ev_ptag (t := PTag.still)))) (fun hc =>
  b_bind fun row_ h2 =>
  b_setitem (i := 4) rfl ev_int ev_int h2 (Γ2 := [cs size, cs own, cs values, cs told, co row_, c0, c0, c0]) rfl (
  b_end (wk_d (wk_d (wk_d (wk_d (wk_c (wk_c (wk_c (wk_c .nil)))))))))) (fun hc =>
  b_if (Γ1 := fun (row_ : (List Int)) => [c0, c0, c0, c0, co row_, c0, c0, c0]) (t_cmp (e_eq (α := PTag) (ev_flat (m1 := .h) (e_ptag (ev_h (md := .s) (ev_var (i := 3)))) rfl) (ev_ptag (t := PTag.coin)))) (fun hc =>
  b_bind fun row_ h3 =>
  b_setitem (i := 4) rfl ev_int ev_int h3 (Γ2 := [cs size, cs own, cs values, cs told, co row_, c0, c0, c0]) rfl (
  b_bind fun row_ h4 =>
  b_setitem (i := 4) rfl ev_int ev_int h4 (Γ2 := [cs size, cs own, cs values, cs told, co row_, c0, c0, c0]) rfl (
  b_end (wk_d (wk_d (wk_d (wk_d (wk_c (wk_c (wk_c (wk_c .nil))))))))))) (fun hc =>
  b_if (Γ1 := fun (row_ : (List Int)) => [c0, c0, c0, c0, co row_, c0, c0, c0]) (t_cmp (e_eq (α := PTag) (ev_flat (m1 := .h) (e_ptag (ev_h (md := .s) (ev_var (i := 3)))) rfl) (ev_ptag (t := PTag.sum)))) (fun hc =>
  b_bind fun t5 ht5 =>
  b_bind fun t9 ht9 =>
  b_asgL (md := .n) (e_sum (ev_h (md := .n) (evO_ev (o_lc1 (i_rng1 (e_len (ev_h (md := .s) (ev_var (i := 1)))) ht5) nh (fun at_ b hy => (have ⟨t6, ht6, hy⟩ := bind_some_iff hy; have ⟨t7, ht7, hy⟩ := bind_some_iff hy; some_t hy (t_cmp (e_inB (α := Int) (ev_flat (e_idx (ev_h (md := .s) (ev_var (i := 1))) (ev_varF (i := 7)) ht6)) (ev_h (md := .s) (e_psum ht7 (ev_var (i := 3)))))))) (fun at_ y hy => (have ⟨t8, ht8, hy⟩ := bind_some_iff hy; some_ev hy (ev_flat (e_idx (ev_h (md := .s) (ev_var (i := 2))) (ev_varF (i := 7)) ht8)))) ht9 nh)))) nh (show 5 < 8 by decide) (Γ2 := fun total => [cs size, cs own, cs values, cs told, co row_, cn total, c0, c0]) (fun _ => rfl) fun total e10 =>
  b_bind fun row_ h11 =>
  b_setitem (i := 4) rfl ev_int (e_modL (ev_varF (i := 5)) ev_int) h11 (Γ2 := [cs size, cs own, cs values, cs told, co row_, cn total, c0, c0]) rfl (
  b_end (wk_d (wk_d (wk_d (wk_d (wk_c (wk_d (wk_c (wk_c .nil)))))))))) (fun hc =>
  b_bind fun t12 ht12 =>
  b_bind fun t13 ht13 =>
  b_bind fun t14 ht14 =>
  b_asgL (md := .n) (e_modL (ev_flat (e_idx (ev_h (md := .s) (ev_var (i := 2))) (e_index (α := Int) (ev_h (md := .s) (ev_var (i := 1))) (ev_flat (m1 := .h) (e_pnear ht12 (ev_h (md := .s) (ev_var (i := 3))))) ht13) ht14)) ev_int) nh (show 6 < 8 by decide) (Γ2 := fun bit => [cs size, cs own, cs values, cs told, co row_, c0, cn bit, c0]) (fun _ => rfl) fun bit e15 =>
  b_bind fun row_ h16 =>
  b_setitem (i := 4) rfl ev_int (ev_varF (i := 6)) h16 (Γ2 := [cs size, cs own, cs values, cs told, co row_, c0, cn bit, c0]) rfl (
  b_bind fun row_ h17 =>
  b_setitem (i := 4) rfl ev_int (e_sub ev_int (ev_varF (i := 6))) h17 (Γ2 := [cs size, cs own, cs values, cs told, co row_, c0, cn bit, c0]) rfl (
  b_end (wk_d (wk_d (wk_d (wk_d (wk_c (wk_c (wk_d (wk_c .nil))))))))))) (fun row_ =>
  b_end (wk_c (wk_c (wk_c (wk_c (wk_c (wk_c (wk_c (wk_c .nil)))))))))) (fun row_ =>
  b_end (wk_c (wk_c (wk_c (wk_c (wk_c (wk_c (wk_c (wk_c .nil)))))))))) (fun row_ =>
  b_retOv (i := 4))))
abbrev s_tables_by : Stmt := topS 6
abbrev nn_tables_by : List Str := ["sizes", "causes", "plan", "tables", "k", "many", "cause", "values"]
theorem sc_tables_by : FnScope nn_tables_by ["sizes", "causes", "plan"] (defScope s_tables_by) := ⟨rfl, rfl, rfl, by decide +kernel, rfl, by decide +kernel, by decide +kernel⟩
def sp_tables_by (K : PySem.W.Frag) : Sp := FnW K fun ds r => ∃ sizes causes plan y, ds = [toD (sizes : (List Int)), toD (causes : (List (List Int))), toD (plan : (List PlanT))] ∧ m_tables_by sizes causes plan = some y ∧ r = toD y
set_option maxHeartbeats 4000000 in
theorem ok_tables_by (T : Txt K mg) : FnOk P w K mg base CX0 3 T.a_tables_by T.d_tables_by ["sizes", "causes", "plan"] (sp_tables_by K) := by
  refine T.F_tables_by.ok sc_tables_by (fun vs H Q E h => ?_) (fun cdv A outer s H vs Q E hr h => ?_)
  · obtain ⟨ds, r, hd, ⟨sizes, causes, plan, y, rfl, _⟩, _⟩ := h
    exact dpAll_len hd
  · obtain ⟨ds, r, hd, ⟨sizes, causes, plan, y, rfl, hm, rfl⟩, k⟩ := h
    unfold m_tables_by at hm
    refine ⟨_, pss_len (pss_cons (ps_set (i := 3) sc_tables_by.nd rfl (by first | exact .inl rfl | exact .inr rfl) (pe_lst pa_nil)) (pss_cons (ps_for PassesOwn.never rfl (pi_range1 (by rfl) T.b_range (pa_cons (pe_callB (show CallR _ (.builtin "len") (rLenS K) from call_lenS) (by rfl) T.b_len (by decide +kernel) (pa_cons (pv 1) pa_nil)) pa_nil)) (pg_name (i := 4) sc_tables_by.nd rfl (by first | exact .inl rfl | exact .inr rfl)) (pss_cons (ps_setLc (i := 5) (own := [("cause", 6)]) rfl sc_tables_by.nd rfl rfl (sw_true rfl rfl rfl (by decide +kernel)) (show PI _ _ _ (iList K _) from pi_list (pe_ix (show IxR _ (rIxL K) from ix_list) (pv 1) (pv 4) (fun _ _ => rfl))) (blkOk_by (own := [("cause", 6)]) (N := nn_tables_by) (sc := defScope s_tables_by) (by decide +kernel)) (fun _ _ _ _ _ => (pg_name (i := 6) sc_tables_by.nd rfl (Or.inl rfl))) (fun _ _ _ _ _ => pts_nil) (fun _ _ _ _ _ => (pe_ix (show IxR _ (rIxL K) from ix_list) (pv 0) (pv 6) (fun _ _ => rfl)))) (pss_cons (ps_expr (pe_bm PySem.F.plainAttrs_list PySem.F.slot_list_append PySem.F.type_list_append mt_append (pv 3) (pa_cons (pe_lc (own := [("values", 7)]) rfl sc_tables_by.nd (show PI _ _ _ (iList K _) from pi_list (pe_call (ok_worlds T) (hr.mono (by decide)) (by rfl) T.g_worlds T.F_worlds.kp T.b_worlds .nil pass0 (pa_cons (pv 5) pa_nil))) (blkOk_by (own := [("values", 7)]) (N := nn_tables_by) (sc := defScope s_tables_by) (by decide +kernel)) (fun _ _ _ _ _ => (pg_name (i := 7) sc_tables_by.nd rfl (Or.inl rfl))) (fun _ _ _ _ _ => pts_nil) (fun _ _ _ _ _ => (pe_call (ok_row_by T) (hr.mono (by decide)) (by rfl) T.g_row_by T.F_row_by.kp T.b_row_by .nil pass0 (pa_cons (pe_ix (show IxR _ (rIxL K) from ix_list) (pv 0) (pv 4) (fun _ _ => rfl)) (pa_cons (pe_ix (show IxR _ (rIxL K) from ix_list) (pv 1) (pv 4) (fun _ _ => rfl)) (pa_cons (pv 7) (pa_cons (pe_ix (show IxR _ (rIxL K) from ix_list) (pv 2) (pv 4) (fun _ _ => rfl)) pa_nil))))))) pa_nil))) pss_nil))) (pss_cons (ps_ret (pv 3)) pss_nil))), fun hl => ?_⟩
    refine body_W hl hd hm (show 3 ≤ 8 by decide) (Γ := [cs sizes, cs causes, cs plan, c0, c0, c0, c0, c0]) (Γ' := noΓ) rfl ?_ k
    exact (
  b_asgWL (e := ([] : (List (List (List Int))))) w_nil (show 3 < 8 by decide) (Γ2 := fun tables => [cs sizes, cs causes, cs plan, ct tables, c0, c0, c0, c0]) (fun _ => rfl) fun tables e12 =>
  b_bind fun t1 ht1 =>
  b_for (Γ1 := fun (tables : (List (List (List Int)))) => [cs sizes, cs causes, cs plan, ct tables, c0, c0, c0, c0]) (Γ2 := fun (tables : (List (List (List Int)))) (k_ : Int) => [cs sizes, cs causes, cs plan, ct tables, cn k_, c0, c0, c0]) (i_rng1 (e_len (ev_h (md := .s) (ev_var (i := 1)))) ht1) (fun tables k_ => g_name nh (show 4 < 8 by decide)) (fun tables k_ =>
  b_bind fun t2 ht2 =>
  b_bind fun many ht4 =>
  b_asgO (md := .n) (o_map1 (i_list (e_idx (ev_var (i := 1)) (ev_varF (i := 4)) ht2) sh) sh (fun cause y hy => (have ⟨t3, ht3, hy⟩ := bind_some_iff hy; some_ev hy (ev_flat (e_idx (ev_h (md := .s) (ev_var (i := 0))) (ev_varF (i := 6)) ht3)))) ht4 nh) nh (show 5 < 8 by decide) (Γ2 := [cs sizes, cs causes, cs plan, ct tables, cn k_, co many, c0, c0]) rfl (
  b_bind fun t5 ht5 =>
  b_bind fun t10 ht10 =>
  b_bind fun tables h11 =>
  b_tappL (i := 3) rfl (w_PI (md := .n) (p_map1 (i_list (evP_ev (p_call (a_cons (ev_varO (i := 5)) a_nil) ⟨_, _, rfl, ht5, rfl⟩) nh) nh) nh (fun values y hy => (have ⟨t6, ht6, hy⟩ := bind_some_iff hy; have ⟨t7, ht7, hy⟩ := bind_some_iff hy; have ⟨t8, ht8, hy⟩ := bind_some_iff hy; have ⟨t9, ht9, hy⟩ := bind_some_iff hy; some_evO hy (o_call (a_cons (ev_flat (e_idx (ev_h (md := .s) (ev_var (i := 0))) (ev_varF (i := 4)) ht6)) (a_cons (ev_h (md := .s) (e_idx (ev_var (i := 1)) (ev_varF (i := 4)) ht7)) (a_cons (ev_h (md := .n) (ev_var (i := 7))) (a_cons (ev_h (md := .s) (e_idx (ev_var (i := 2)) (ev_varF (i := 4)) ht8)) a_nil)))) ⟨_, _, _, _, _, rfl, ht9, rfl⟩))) ht10 nh)) h11 (Γ2 := [cs sizes, cs causes, cs plan, ct tables, cn k_, co many, c0, c0]) rfl (
  b_end (wk_c (wk_c (wk_c (wk_c (wk_d (wk_d (wk_c (wk_c .nil))))))))))) (wk_c (wk_c (wk_c (wk_c (wk_c (wk_c (wk_c (wk_c .nil)))))))) (fun tables =>
  b_retWv (i := 3) (r := tables) rfl))
abbrev s__law_pool : Stmt := topS 8
abbrev nn__law_pool : List Str := ["_law_script", "_law_many", "_law_pool_here", "_law_k", "_law_seed", "_law_number"]
theorem sc__law_pool : FnScope nn__law_pool ["_law_script", "_law_many"] (defScope s__law_pool) := ⟨rfl, rfl, rfl, by decide +kernel, rfl, by decide +kernel, by decide +kernel⟩
def sp__law_pool (K : PySem.W.Frag) : Sp := FnO K fun ds r => ∃ zscript zmany y, ds = [toD (zscript : (List Int)), toD (zmany : Int)] ∧ m__law_pool zscript zmany = some y ∧ r = y.map toD
set_option maxHeartbeats 4000000 in
theorem ok__law_pool (T : Txt K mg) : FnOk P w K mg base CX0 1 T.a__law_pool T.d__law_pool ["_law_script", "_law_many"] (sp__law_pool K) := by
  refine T.F__law_pool.ok sc__law_pool (fun vs H Q E h => ?_) (fun cdv A outer s H vs Q E hr h => ?_)
  · obtain ⟨ds, r, hd, ⟨zscript, zmany, y, rfl, _⟩, _⟩ := h
    exact dpAll_len hd
  · obtain ⟨ds, r, hd, ⟨zscript, zmany, y, rfl, hm, rfl⟩, k⟩ := h
    unfold m__law_pool at hm
    refine ⟨_, pss_len (pss_cons (ps_set (i := 2) sc__law_pool.nd rfl (by first | exact .inl rfl | exact .inr rfl) (pe_callTy (show CallR _ (.type "list") (rListS K) from call_listS) (by rfl) T.b_list (by decide +kernel) (pa_cons (pe_slice (show SlR _ (rSlL K) from sl_list) (pv 0) po_none (po_some (pv 1))) pa_nil))) (pss_cons (ps_while PassesOwn.never (pt_cmpR op_lt (pe_callB (show CallR _ (.builtin "len") (rLenS K) from call_lenS) (by rfl) T.b_len (by decide +kernel) (pa_cons (pv 2) pa_nil)) (pv 1) (nomark _)) (pss_cons (ps_set (i := 3) sc__law_pool.nd rfl (by first | exact .inl rfl | exact .inr rfl) (pe_callB (show CallR _ (.builtin "len") (rLenS K) from call_lenS) (by rfl) T.b_len (by decide +kernel) (pa_cons (pv 2) pa_nil))) (pss_cons (ps_set (i := 4) sc__law_pool.nd rfl (by first | exact .inl rfl | exact .inr rfl) (pe_op op_add pe_int (pv 3))) (pss_cons (ps_if (pt_cmpR op_gt (pv 3) pe_int (nomark _)) (pss_cons (ps_set (i := 4) sc__law_pool.nd rfl (by first | exact .inl rfl | exact .inr rfl) (pe_op op_add (pe_ix (show IxR _ (rIxL K) from ix_list) (pv 2) (pe_op op_fdivX (pv 3) pe_int) (fun _ _ => rfl)) (pe_op op_mul pe_int (pe_ix (show IxR _ (rIxL K) from ix_list) (pv 2) (pe_op op_sub (pv 3) pe_int) (fun _ _ => rfl))))) pss_nil) pss_nil) (pss_cons (ps_set (i := 5) sc__law_pool.nd rfl (by first | exact .inl rfl | exact .inr rfl) (pe_op op_add (pe_op op_add (pe_op op_mul (pe_op op_modN (pv 4) pe_int) pe_int) (pe_op op_mul (pe_op op_mulW (pv 3) (pv 3)) pe_int)) pe_int)) (pss_cons (ps_expr (pe_bm PySem.F.plainAttrs_list PySem.F.slot_list_append PySem.F.type_list_append mt_append (pv 2) (pa_cons (pe_op op_modN (pe_op op_mulW (pv 5) (pv 5)) pe_int) pa_nil))) pss_nil)))))) (pss_cons (ps_ret (pv 2)) pss_nil))), fun hl => ?_⟩
    refine body_O hl hd hm (show 2 ≤ 6 by decide) (Γ := [cs zscript, cs zmany, c0, c0, c0, c0]) (Γ' := noΓ) rfl ?_ k
    exact (
  b_asgOL (md := .n) (o_listF (evO_ev (o_sliceF (ev_h (md := .s) (ev_var (i := 0))) p_none (p_some (ev_varF (i := 1)))))) nh (show 2 < 6 by decide) (Γ2 := fun zpool_here => [cs zscript, cs zmany, co zpool_here, c0, c0, c0]) (fun _ => rfl) fun zpool_here e1 =>
  b_while (Γ1 := fun (zpool_here : (List Int)) => [c0, cs zmany, co zpool_here, c0, c0, c0]) (fun zpool_here x hy => (some_t hy (t_cmp (e_lt (e_len (ev_varO (i := 2))) (ev_varF (i := 1)))))) (fun zpool_here =>
  b_asgL (md := .n) (e_len (ev_varO (i := 2))) nh (show 3 < 6 by decide) (Γ2 := fun zk => [c0, cs zmany, co zpool_here, cn zk, c0, c0]) (fun _ => rfl) fun zk e2 =>
  b_asgL (md := .n) (e_add ev_int (ev_varF (i := 3))) nh (show 4 < 6 by decide) (Γ2 := fun zseed => [c0, cs zmany, co zpool_here, cn zk, cn zseed, c0]) (fun _ => rfl) fun zseed e3 =>
  b_if (Γ1 := fun (zseed : Int) => [c0, cs zmany, co zpool_here, cn zk, cn zseed, c0]) (t_cmp (e_gt (ev_varF (i := 3)) ev_int)) (fun hc =>
  b_bind fun t4 ht4 =>
  b_bind fun t5 ht5 =>
  b_asgL (md := .n) (e_add (ev_flat (e_idx (ev_varO (i := 2)) (e_divL (ev_varF (i := 3)) ev_int) ht4)) (e_mulL ev_int (ev_flat (e_idx (ev_varO (i := 2)) (e_sub (ev_varF (i := 3)) ev_int) ht5)))) nh (show 4 < 6 by decide) (Γ2 := fun zseed => [c0, cs zmany, co zpool_here, cn zk, cn zseed, c0]) (fun _ => rfl) fun zseed e6 =>
  b_end (wk_c (wk_c (wk_c (wk_c (wk_c (wk_c .nil))))))) (fun hc =>
  b_end (wk_c (wk_c (wk_c (wk_c (wk_c (wk_c .nil))))))) (fun zseed =>
  b_bind fun t7 ht7 =>
  b_asgL (md := .n) (e_add (e_add (e_mulR (e_modL (ev_varF (i := 4)) ev_int) ev_int) (e_mulR (e_mul (ev_varF (i := 3)) (ev_varF (i := 3)) ht7) ev_int)) ev_int) nh (show 5 < 6 by decide) (Γ2 := fun znumber => [c0, cs zmany, co zpool_here, cn zk, cn zseed, cn znumber]) (fun _ => rfl) fun znumber e8 =>
  b_bind fun t9 ht9 =>
  b_bind fun zpool_here h10 =>
  b_append (i := 2) rfl (e_modL (e_mul (ev_varF (i := 5)) (ev_varF (i := 5)) ht9) ev_int) h10 (Γ2 := [c0, cs zmany, co zpool_here, cn zk, cn zseed, cn znumber]) rfl (
  b_end (wk_c (wk_c (wk_c (wk_d (wk_d (wk_d .nil))))))))) (wk_d (wk_c (wk_c (wk_c (wk_c (wk_c .nil)))))) (fun zpool_here =>
  b_retOv (i := 2)))
abbrev s__law_order : Stmt := topS 9
abbrev nn__law_order : List Str := ["_law_pool_here", "_law_many", "_law_order_here", "_law_k"]
theorem sc__law_order : FnScope nn__law_order ["_law_pool_here", "_law_many"] (defScope s__law_order) := ⟨rfl, rfl, rfl, by decide +kernel, rfl, by decide +kernel, by decide +kernel⟩
def sp__law_order (K : PySem.W.Frag) : Sp := FnO K fun ds r => ∃ zpool_here zmany y, ds = [toD (zpool_here : (List Int)), toD (zmany : Int)] ∧ m__law_order zpool_here zmany = some y ∧ r = y.map toD
set_option maxHeartbeats 4000000 in
theorem ok__law_order (T : Txt K mg) : FnOk P w K mg base CX0 1 T.a__law_order T.d__law_order ["_law_pool_here", "_law_many"] (sp__law_order K) := by
  refine T.F__law_order.ok sc__law_order (fun vs H Q E h => ?_) (fun cdv A outer s H vs Q E hr h => ?_)
  · obtain ⟨ds, r, hd, ⟨zpool_here, zmany, y, rfl, _⟩, _⟩ := h
    exact dpAll_len hd
  · obtain ⟨ds, r, hd, ⟨zpool_here, zmany, y, rfl, hm, rfl⟩, k⟩ := h
    unfold m__law_order at hm
    refine ⟨_, pss_len (pss_cons (ps_set (i := 2) sc__law_order.nd rfl (by first | exact .inl rfl | exact .inr rfl) (pe_lst pa_nil)) (pss_cons (ps_for PassesOwn.never rfl (pi_range1 (by rfl) T.b_range (pa_cons (pv 1) pa_nil)) (pg_name (i := 3) sc__law_order.nd rfl (by first | exact .inl rfl | exact .inr rfl)) (pss_cons (ps_expr (pe_bm PySem.F.plainAttrs_list PySem.F.slot_list_insert PySem.F.type_list_insert mt_insert' (pv 2) (pa_cons (pe_op op_modN (pe_op op_modN (pe_op op_mul (pe_op op_modN (pe_ix (show IxR _ (rIxL K) from ix_list) (pv 0) (pe_op op_add pe_int (pv 3)) (fun _ _ => rfl)) pe_int) pe_int) pe_int) (pe_op op_add (pv 3) pe_int)) (pa_cons (pv 3) pa_nil)))) pss_nil)) (pss_cons (ps_ret (pv 2)) pss_nil))), fun hl => ?_⟩
    refine body_O hl hd hm (show 2 ≤ 4 by decide) (Γ := [cs zpool_here, cs zmany, c0, c0]) (Γ' := noΓ) rfl ?_ k
    exact (
  b_asgOL (md := .n) (o_lstT (xs := ([] : List Int)) (show 0 ≤ sizeLine by decide) a_nil) nh (show 2 < 4 by decide) (Γ2 := fun zorder_here => [cs zpool_here, cs zmany, co zorder_here, c0]) (fun _ => rfl) fun zorder_here e1 =>
  b_bind fun t2 ht2 =>
  b_for (Γ1 := fun (zorder_here : (List Int)) => [cs zpool_here, c0, co zorder_here, c0]) (Γ2 := fun (zorder_here : (List Int)) (zk : Int) => [cs zpool_here, c0, co zorder_here, cn zk]) (i_rng1 (ev_varF (i := 1)) ht2) (fun zorder_here zk => g_name nh (show 3 < 4 by decide)) (fun zorder_here zk =>
  b_bind fun t3 ht3 =>
  b_bind fun t4 ht4 =>
  b_bind fun zorder_here h5 =>
  b_insert (i := 2) rfl (e_mod (e_modL (e_mulR (e_modL (ev_flat (e_idx (ev_h (md := .s) (ev_var (i := 0))) (e_add ev_int (ev_varF (i := 3))) ht3)) ev_int) ev_int) ev_int) (e_add (ev_varF (i := 3)) ev_int) ht4) (ev_varF (i := 3)) h5 (Γ2 := [cs zpool_here, c0, co zorder_here, cn zk]) rfl (
  b_end (wk_c (wk_c (wk_c (wk_d .nil)))))) (wk_c (wk_d (wk_c (wk_c .nil)))) (fun zorder_here =>
  b_retOv (i := 2)))
abbrev s__law_drawn : Stmt := topS 10
abbrev nn__law_drawn : List Str := ["_law_pool_here", "_law_many", "_law_order_here", "_law_causes", "_law_dense", "_law_at", "_law_j", "_law_i", "_law_cell", "_law_k", "_law_own"]
theorem sc__law_drawn : FnScope nn__law_drawn ["_law_pool_here", "_law_many"] (defScope s__law_drawn) := ⟨rfl, rfl, rfl, by decide +kernel, rfl, by decide +kernel, by decide +kernel⟩
def sp__law_drawn (K : PySem.W.Frag) : Sp := FnP K fun ds r => ∃ zpool_here zmany y, ds = [toD (zpool_here : (List Int)), toD (zmany : Int)] ∧ m__law_drawn zpool_here zmany = some y ∧ r = y.map (·.map toD)
set_option maxHeartbeats 4000000 in
theorem ok__law_drawn (T : Txt K mg) : FnOk P w K mg base CX0 2 T.a__law_drawn T.d__law_drawn ["_law_pool_here", "_law_many"] (sp__law_drawn K) := by
  refine T.F__law_drawn.ok sc__law_drawn (fun vs H Q E h => ?_) (fun cdv A outer s H vs Q E hr h => ?_)
  · obtain ⟨ds, r, hd, ⟨zpool_here, zmany, y, rfl, _⟩, _⟩ := h
    exact dpAll_len hd
  · obtain ⟨ds, r, hd, ⟨zpool_here, zmany, y, rfl, hm, rfl⟩, k⟩ := h
    unfold m__law_drawn at hm
    refine ⟨_, pss_len (pss_cons (ps_set (i := 2) sc__law_drawn.nd rfl (by first | exact .inl rfl | exact .inr rfl) (pe_call (ok__law_order T) (hr.mono (by decide)) (by rfl) T.g__law_order T.F__law_order.kp T.b__law_order .nil pass0 (pa_cons (pv 0) (pa_cons (pv 1) pa_nil)))) (pss_cons (ps_setLc (i := 3) (own := [("_law_k", 9)]) rfl sc__law_drawn.nd rfl rfl (sw_true rfl rfl rfl (by decide +kernel)) (pi_range1 (by rfl) T.b_range (pa_cons (pv 1) pa_nil)) (blkOk_by (own := [("_law_k", 9)]) (N := nn__law_drawn) (sc := defScope s__law_drawn) (by decide +kernel)) (fun _ _ _ _ _ => (pg_name (i := 9) sc__law_drawn.nd rfl (Or.inl rfl))) (fun _ _ _ _ _ => pts_nil) (fun _ _ _ _ _ => (pe_lst pa_nil))) (pss_cons (ps_set (i := 4) sc__law_drawn.nd rfl (by first | exact .inl rfl | exact .inr rfl) (pe_op op_add pe_int (pe_op op_modN (pe_ix (show IxR _ (rIxL K) from ix_list) (pv 0) pe_int (fun _ _ => rfl)) pe_int))) (pss_cons (ps_set (i := 5) sc__law_drawn.nd rfl (by first | exact .inl rfl | exact .inr rfl) pe_int) (pss_cons (ps_for PassesOwn.never rfl (pi_range2 (by rfl) T.b_range (pa_cons pe_int (pa_cons (pv 1) pa_nil))) (pg_name (i := 6) sc__law_drawn.nd rfl (by first | exact .inl rfl | exact .inr rfl)) (pss_cons (ps_for PassesOwn.never rfl (pi_range1 (by rfl) T.b_range (pa_cons (pv 6) pa_nil)) (pg_name (i := 7) sc__law_drawn.nd rfl (by first | exact .inl rfl | exact .inr rfl)) (pss_cons (ps_set (i := 8) sc__law_drawn.nd rfl (by first | exact .inl rfl | exact .inr rfl) (pe_op op_fdivX (pe_ix (show IxR _ (rIxL K) from ix_list) (pv 0) (pe_op op_add pe_int (pe_op op_modN (pv 5) pe_int)) (fun _ _ => rfl)) (pe_op op_add pe_int (pe_op op_mul (pe_op op_fdivX (pv 5) pe_int) pe_int)))) (pss_cons (ps_if (PW.pt (pw_and (pt_cmpR op_lt (pe_op op_modN (pv 8) pe_int) (pv 4) (nomark _)) (pw_and1 (pt_cmpR op_lt (pe_callB (show CallR _ (.builtin "len") (rLenS K) from call_lenS) (by rfl) T.b_len (by decide +kernel) (pa_cons (pe_ix (show IxR _ (rIxL K) from ix_list) (pv 3) (pe_ix (show IxR _ (rIxL K) from ix_list) (pv 2) (pv 6) (fun _ _ => rfl)) (fun _ _ => rfl)) pa_nil)) pe_int (nomark _))))) (pss_cons (ps_expr (pe_bm PySem.F.plainAttrs_list PySem.F.slot_list_append PySem.F.type_list_append mt_append (pe_ix (show IxR _ (rIxL K) from ix_list) (pv 3) (pe_ix (show IxR _ (rIxL K) from ix_list) (pv 2) (pv 6) (fun _ _ => rfl)) (fun _ _ => rfl)) (pa_cons (pe_ix (show IxR _ (rIxL K) from ix_list) (pv 2) (pv 7) (fun _ _ => rfl)) pa_nil))) pss_nil) pss_nil) (pss_cons (ps_set (i := 5) sc__law_drawn.nd rfl (by first | exact .inl rfl | exact .inr rfl) (pe_op op_add (pv 5) pe_int)) pss_nil)))) pss_nil)) (pss_cons (ps_ret (pe_lc (own := [("_law_own", 10)]) rfl sc__law_drawn.nd (show PI _ _ _ (iList K _) from pi_list (pv 3)) (blkOk_by (own := [("_law_own", 10)]) (N := nn__law_drawn) (sc := defScope s__law_drawn) (by decide +kernel)) (fun _ _ _ _ _ => (pg_name (i := 10) sc__law_drawn.nd rfl (Or.inl rfl))) (fun _ _ _ _ _ => pts_nil) (fun _ _ _ _ _ => (pe_callB (show CallR _ (.builtin "sorted") (rSortedI K) from cr_sortedI) (by rfl) T.b_sorted (by decide +kernel) (pa_cons (pv 10) pa_nil))))) pss_nil)))))), fun hl => ?_⟩
    refine body_P hl hd hm (show 2 ≤ 11 by decide) (Γ := [cs zpool_here, cs zmany, c0, c0, c0, c0, c0, c0, c0, c0, c0]) (Γ' := noΓ) rfl ?_ k
    exact (
  b_bind fun zorder_here ht1 =>
  b_asgO (md := .n) (o_call (a_cons (ev_h (md := .s) (ev_var (i := 0))) (a_cons (ev_varF (i := 1)) a_nil)) ⟨_, _, _, rfl, ht1, rfl⟩) nh (show 2 < 11 by decide) (Γ2 := [cs zpool_here, cs zmany, co zorder_here, c0, c0, c0, c0, c0, c0, c0, c0]) rfl (
  b_bind fun t2 ht2 =>
  b_bind fun zcauses ht3 =>
  b_asgP (md := .n) (p_map1 (i_rng1 (ev_varF (i := 1)) ht2) nh (fun zk y hy => (some_evO hy (o_lstT (xs := ([] : List Int)) (show 0 ≤ sizeLine by decide) a_nil))) ht3 nh) nh (show 3 < 11 by decide) (Γ2 := [cs zpool_here, cs zmany, co zorder_here, cp zcauses, c0, c0, c0, c0, c0, c0, c0]) rfl (
  b_bind fun t4 ht4 =>
  b_asgL (md := .n) (e_add ev_int (e_modL (ev_flat (e_idx (ev_h (md := .s) (ev_var (i := 0))) ev_int ht4)) ev_int)) nh (show 4 < 11 by decide) (Γ2 := fun zdense => [cs zpool_here, cs zmany, co zorder_here, cp zcauses, cn zdense, c0, c0, c0, c0, c0, c0]) (fun _ => rfl) fun zdense e5 =>
  b_asgL (md := .n) ev_int nh (show 5 < 11 by decide) (Γ2 := fun zat => [cs zpool_here, cs zmany, co zorder_here, cp zcauses, cn zdense, cn zat, c0, c0, c0, c0, c0]) (fun _ => rfl) fun zat e6 =>
  b_bind fun t7 ht7 =>
  b_for (Γ1 := fun (st : (List (List Int)) × Int) => match st with | (zcauses, zat) => [cs zpool_here, c0, co zorder_here, cp zcauses, cn zdense, cn zat, c0, c0, c0, c0, c0]) (Γ2 := fun (st : (List (List Int)) × Int) (it : Int) => match st, it with | (zcauses, zat), zj => [cs zpool_here, c0, co zorder_here, cp zcauses, cn zdense, cn zat, cn zj, c0, c0, c0, c0]) (i_rng2 ev_int (ev_varF (i := 1)) ht7) (fun ⟨zcauses, zat⟩ zj => g_name nh (show 6 < 11 by decide)) (fun ⟨zcauses, zat⟩ zj =>
  b_bind fun t8 ht8 =>
  b_for (Γ1 := fun (st : (List (List Int)) × Int) => match st with | (zcauses, zat) => [cs zpool_here, c0, co zorder_here, cp zcauses, cn zdense, cn zat, cn zj, c0, c0, c0, c0]) (Γ2 := fun (st : (List (List Int)) × Int) (it : Int) => match st, it with | (zcauses, zat), zi => [cs zpool_here, c0, co zorder_here, cp zcauses, cn zdense, cn zat, cn zj, cn zi, c0, c0, c0]) (i_rng1 (ev_varF (i := 6)) ht8) (fun ⟨zcauses, zat⟩ zi => g_name nh (show 7 < 11 by decide)) (fun ⟨zcauses, zat⟩ zi =>
  b_bind fun t9 ht9 =>
  b_bind fun zcell ht10 =>
  b_asg (md := .n) (e_div (ev_flat (e_idx (ev_h (md := .s) (ev_var (i := 0))) (e_add ev_int (e_modL (ev_varF (i := 5)) ev_int)) ht9)) (e_add ev_int (e_mulR (e_divL (ev_varF (i := 5)) ev_int) ev_int)) ht10) nh (show 8 < 11 by decide) (Γ2 := [cs zpool_here, c0, co zorder_here, cp zcauses, cn zdense, cn zat, cn zj, cn zi, cn zcell, c0, c0]) rfl (
  b_bind fun t13 ht13 =>
  b_if (Γ1 := fun (zcauses : (List (List Int))) => [cs zpool_here, c0, co zorder_here, cp zcauses, cn zdense, cn zat, cn zj, c0, c0, c0, c0]) (t_andO (t_cmp (e_lt (e_modL (ev_varF (i := 8)) ev_int) (ev_varF (i := 4)))) (fun hc y hy => (have ⟨t11, ht11, hy⟩ := bind_some_iff hy; have ⟨t12, ht12, hy⟩ := bind_some_iff hy; some_t hy (t_cmp (e_lt (e_len (e_idx (ev_varP' (i := 3)) (ev_flat (e_idx (ev_varO (i := 2)) (ev_varF (i := 6)) ht11)) ht12)) ev_int)))) ht13) (fun hc =>
  b_bind fun t14 ht14 =>
  b_bind fun t15 ht15 =>
  b_bind fun zcauses h16 =>
  b_append2 (i := 3) rfl (ev_flat (e_idx (ev_varO (i := 2)) (ev_varF (i := 6)) ht14)) (ev_flat (e_idx (ev_varO (i := 2)) (ev_varF (i := 7)) ht15)) h16 (Γ2 := [cs zpool_here, c0, co zorder_here, cp zcauses, cn zdense, cn zat, cn zj, cn zi, cn zcell, c0, c0]) rfl (
  b_end (wk_c (wk_c (wk_c (wk_c (wk_c (wk_c (wk_c (wk_d (wk_d (wk_c (wk_c .nil))))))))))))) (fun hc =>
  b_end (wk_c (wk_c (wk_c (wk_c (wk_c (wk_c (wk_c (wk_d (wk_d (wk_c (wk_c .nil)))))))))))) (fun zcauses =>
  b_asgL (md := .n) (e_add (ev_varF (i := 5)) ev_int) nh (show 5 < 11 by decide) (Γ2 := fun zat => [cs zpool_here, c0, co zorder_here, cp zcauses, cn zdense, cn zat, cn zj, c0, c0, c0, c0]) (fun _ => rfl) fun zat e17 =>
  b_end (wk_c (wk_c (wk_c (wk_c (wk_c (wk_c (wk_c (wk_c (wk_c (wk_c (wk_c .nil)))))))))))))) (wk_c (wk_c (wk_c (wk_c (wk_c (wk_c (wk_c (wk_c (wk_c (wk_c (wk_c .nil))))))))))) (fun ⟨zcauses, zat⟩ =>
  b_end (wk_c (wk_c (wk_c (wk_c (wk_c (wk_c (wk_d (wk_c (wk_c (wk_c (wk_c .nil))))))))))))) (wk_c (wk_d (wk_c (wk_c (wk_c (wk_c (wk_c (wk_c (wk_c (wk_c (wk_c .nil))))))))))) (fun ⟨zcauses, zat⟩ =>
  b_bind fun t18 ht18 =>
  b_retP (p_unfT (frz_pT (i := 3) rfl (Γ2 := _) rfl) (p_map1 (i_list (ev_var (i := 3)) nh) nh (fun zown y hy => (some_evO hy (o_sorted (ev_h (md := .n) (ev_var (i := 10)))))) ht18 nh))))))
abbrev s__law_sizes : Stmt := topS 11
abbrev nn__law_sizes : List Str := ["_law_causes", "_law_pool_here", "_law_k", "_law_sizes_here", "_law_own", "_law_one"]
theorem sc__law_sizes : FnScope nn__law_sizes ["_law_causes", "_law_pool_here"] (defScope s__law_sizes) := ⟨rfl, rfl, rfl, by decide +kernel, rfl, by decide +kernel, by decide +kernel⟩
def sp__law_sizes (K : PySem.W.Frag) : Sp := FnO K fun ds r => ∃ zcauses zpool_here y, ds = [toD (zcauses : (List (List Int))), toD (zpool_here : (List Int))] ∧ m__law_sizes zcauses zpool_here = some y ∧ r = y.map toD
set_option maxHeartbeats 4000000 in
theorem ok__law_sizes (T : Txt K mg) : FnOk P w K mg base CX0 1 T.a__law_sizes T.d__law_sizes ["_law_causes", "_law_pool_here"] (sp__law_sizes K) := by
  refine T.F__law_sizes.ok sc__law_sizes (fun vs H Q E h => ?_) (fun cdv A outer s H vs Q E hr h => ?_)
  · obtain ⟨ds, r, hd, ⟨zcauses, zpool_here, y, rfl, _⟩, _⟩ := h
    exact dpAll_len hd
  · obtain ⟨ds, r, hd, ⟨zcauses, zpool_here, y, rfl, hm, rfl⟩, k⟩ := h
    unfold m__law_sizes at hm
    refine ⟨_, pss_len (pss_cons (ps_setLc (i := 3) (own := [("_law_k", 2)]) rfl sc__law_sizes.nd rfl rfl (sw_true rfl rfl rfl (by decide +kernel)) (pi_range1 (by rfl) T.b_range (pa_cons (pe_callB (show CallR _ (.builtin "len") (rLenS K) from call_lenS) (by rfl) T.b_len (by decide +kernel) (pa_cons (pv 0) pa_nil)) pa_nil)) (blkOk_by (own := [("_law_k", 2)]) (N := nn__law_sizes) (sc := defScope s__law_sizes) (by decide +kernel)) (fun _ _ _ _ _ => (pg_name (i := 2) sc__law_sizes.nd rfl (Or.inl rfl))) (fun _ _ _ _ _ => pts_nil) (fun _ _ _ _ _ => (pe_op op_add pe_int (pe_op op_modN (pe_op op_fdivX (pe_ix (show IxR _ (rIxL K) from ix_list) (pv 1) (pe_op op_add pe_int (pv 2)) (fun _ _ => rfl)) pe_int) pe_int)))) (pss_cons (ps_if (pt_cmpR op_gt (pe_callB (show CallR _ (.builtin "max") (rMax K) from cr_max rfl) (by rfl) T.b_max (by decide +kernel) (pa_cons (pe_lc (own := [("_law_own", 4)]) rfl sc__law_sizes.nd (show PI _ _ _ (iList K _) from pi_list (pv 0)) (blkOk_by (own := [("_law_own", 4)]) (N := nn__law_sizes) (sc := defScope s__law_sizes) (by decide +kernel)) (fun _ _ _ _ _ => (pg_name (i := 4) sc__law_sizes.nd rfl (Or.inl rfl))) (fun _ _ _ _ _ => pts_nil) (fun _ _ _ _ _ => (pe_callB (show CallR _ (.builtin "len") (rLenS K) from call_lenS) (by rfl) T.b_len (by decide +kernel) (pa_cons (pv 4) pa_nil)))) pa_nil)) pe_int (nomark _)) (pss_cons (ps_set (i := 2) sc__law_sizes.nd rfl (by first | exact .inl rfl | exact .inr rfl) (pe_op op_modN (pe_op op_fdivX (pe_ix (show IxR _ (rIxL K) from ix_list) (pv 1) pe_int (fun _ _ => rfl)) pe_int) (pe_callB (show CallR _ (.builtin "len") (rLenS K) from call_lenS) (by rfl) T.b_len (by decide +kernel) (pa_cons (pv 3) pa_nil)))) (pss_cons (ps_set (i := 3) sc__law_sizes.nd rfl (by first | exact .inl rfl | exact .inr rfl) (pe_op (show OpR _ _ (rCatS K) from op_catS) (pe_op (show OpR _ _ (rCatS K) from op_catS) (pe_lc (own := [("_law_one", 5)]) rfl sc__law_sizes.nd (show PI _ _ _ (iList K _) from pi_list (pe_slice (show SlR _ (rSlL K) from sl_list) (pv 3) po_none (po_some (pv 2)))) (blkOk_by (own := [("_law_one", 5)]) (N := nn__law_sizes) (sc := defScope s__law_sizes) (by decide +kernel)) (fun _ _ _ _ _ => (pg_name (i := 5) sc__law_sizes.nd rfl (Or.inl rfl))) (fun _ _ _ _ _ => pts_nil) (fun _ _ _ _ _ => pe_int)) (pe_lst (pa_cons (pe_ix (show IxR _ (rIxL K) from ix_list) (pv 3) (pv 2) (fun _ _ => rfl)) pa_nil))) (pe_lc (own := [("_law_one", 5)]) rfl sc__law_sizes.nd (show PI _ _ _ (iList K _) from pi_list (pe_slice (show SlR _ (rSlL K) from sl_list) (pv 3) (po_some (pe_op op_add (pv 2) pe_int)) po_none)) (blkOk_by (own := [("_law_one", 5)]) (N := nn__law_sizes) (sc := defScope s__law_sizes) (by decide +kernel)) (fun _ _ _ _ _ => (pg_name (i := 5) sc__law_sizes.nd rfl (Or.inl rfl))) (fun _ _ _ _ _ => pts_nil) (fun _ _ _ _ _ => pe_int)))) pss_nil)) pss_nil) (pss_cons (ps_ret (pv 3)) pss_nil))), fun hl => ?_⟩
    refine body_O hl hd hm (show 2 ≤ 6 by decide) (Γ := [cs zcauses, cs zpool_here, c0, c0, c0, c0]) (Γ' := noΓ) rfl ?_ k
    exact (
  b_bind fun t1 ht1 =>
  b_bind fun zsizes_here ht3 =>
  b_asgO (md := .n) (o_map1 (i_rng1 (e_len (ev_h (md := .s) (ev_var (i := 0)))) ht1) nh (fun zk y hy => (have ⟨t2, ht2, hy⟩ := bind_some_iff hy; some_ev hy (e_add ev_int (e_modL (e_divL (ev_flat (e_idx (ev_h (md := .s) (ev_var (i := 1))) (e_add ev_int (ev_varF (i := 2))) ht2)) ev_int) ev_int)))) ht3 nh) nh (show 3 < 6 by decide) (Γ2 := [cs zcauses, cs zpool_here, c0, co zsizes_here, c0, c0]) rfl (
  b_bind fun t4 ht4 =>
  b_bind fun t5 ht5 =>
  b_if (Γ1 := fun (zsizes_here : (List Int)) => [c0, c0, c0, co zsizes_here, c0, c0]) (t_cmp (e_gt (e_max (ev_h (md := .n) (evO_ev (o_map1 (i_list (ev_var (i := 0)) sh) sh (fun zown y hy => (some_ev hy (e_len (ev_h (md := .s) (ev_var (i := 4)))))) ht4 nh))) ht5) ev_int)) (fun hc =>
  b_bind fun t6 ht6 =>
  b_bind fun zk ht7 =>
  b_asg (md := .n) (e_mod (e_divL (ev_flat (e_idx (ev_h (md := .s) (ev_var (i := 1))) ev_int ht6)) ev_int) (e_len (ev_varO (i := 3))) ht7) nh (show 2 < 6 by decide) (Γ2 := [cs zcauses, cs zpool_here, cn zk, co zsizes_here, c0, c0]) rfl (
  b_bind fun t8 ht8 =>
  b_bind fun t9 ht9 =>
  b_bind fun t10 ht10 =>
  b_bind fun t11 ht11 =>
  b_bind fun zsizes_here ht12 =>
  b_asgO (md := .n) (o_cat (evO_ev (o_cat (evO_ev (o_map1 (i_list (evO_ev (o_sliceF (ev_varO (i := 3)) p_none (p_some (ev_varF (i := 2))))) nh) nh (fun zone y hy => (some_ev hy ev_int)) ht8 nh)) (evO_ev (o_lstT (xs := ([t9] : List Int)) (show 1 ≤ sizeLine by decide) (a_cons (ev_flat (e_idx (ev_varO (i := 3)) (ev_varF (i := 2)) ht9)) a_nil))) ht10)) (evO_ev (o_map1 (i_list (evO_ev (o_sliceF (ev_varO (i := 3)) (p_some (e_add (ev_varF (i := 2)) ev_int)) p_none)) nh) nh (fun zone y hy => (some_ev hy ev_int)) ht11 nh)) ht12) nh (show 3 < 6 by decide) (Γ2 := [cs zcauses, cs zpool_here, cn zk, co zsizes_here, c0, c0]) rfl (
  b_end (wk_d (wk_d (wk_d (wk_c (wk_c (wk_c .nil))))))))) (fun hc =>
  b_end (wk_d (wk_d (wk_c (wk_c (wk_c (wk_c .nil))))))) (fun zsizes_here =>
  b_retOv (i := 3))))
abbrev s__law_plan : Stmt := topS 12
abbrev nn__law_plan : List Str := ["_law_causes", "_law_pool_here", "_law_first", "_law_plan_here", "_law_k", "_law_own", "_law_cell", "_law_way", "_law_out", "_law_feeders", "_law_at"]
theorem sc__law_plan : FnScope nn__law_plan ["_law_causes", "_law_pool_here", "_law_first"] (defScope s__law_plan) := ⟨rfl, rfl, rfl, by decide +kernel, rfl, by decide +kernel, by decide +kernel⟩
def sp__law_plan (K : PySem.W.Frag) : Sp := FnO K fun ds r => ∃ zcauses zpool_here zfirst y, ds = [toD (zcauses : (List (List Int))), toD (zpool_here : (List Int)), toD (zfirst : Int)] ∧ m__law_plan zcauses zpool_here zfirst = some y ∧ r = y.map toD
set_option maxHeartbeats 4000000 in
theorem ok__law_plan (T : Txt K mg) : FnOk P w K mg base CX0 1 T.a__law_plan T.d__law_plan ["_law_causes", "_law_pool_here", "_law_first"] (sp__law_plan K) := by
  refine T.F__law_plan.ok sc__law_plan (fun vs H Q E h => ?_) (fun cdv A outer s H vs Q E hr h => ?_)
  · obtain ⟨ds, r, hd, ⟨zcauses, zpool_here, zfirst, y, rfl, _⟩, _⟩ := h
    exact dpAll_len hd
  · obtain ⟨ds, r, hd, ⟨zcauses, zpool_here, zfirst, y, rfl, hm, rfl⟩, k⟩ := h
    unfold m__law_plan at hm
    refine ⟨_, pss_len (pss_cons (ps_set (i := 3) sc__law_plan.nd rfl (by first | exact .inl rfl | exact .inr rfl) (pe_lst pa_nil)) (pss_cons (ps_for PassesOwn.never rfl (pi_range1 (by rfl) T.b_range (pa_cons (pe_callB (show CallR _ (.builtin "len") (rLenS K) from call_lenS) (by rfl) T.b_len (by decide +kernel) (pa_cons (pv 0) pa_nil)) pa_nil)) (pg_name (i := 4) sc__law_plan.nd rfl (by first | exact .inl rfl | exact .inr rfl)) (pss_cons (ps_set (i := 5) sc__law_plan.nd rfl (by first | exact .inl rfl | exact .inr rfl) (pe_ix (show IxR _ (rIxL K) from ix_list) (pv 0) (pv 4) (fun _ _ => rfl))) (pss_cons (ps_set (i := 6) sc__law_plan.nd rfl (by first | exact .inl rfl | exact .inr rfl) (pe_ix (show IxR _ (rIxL K) from ix_list) (pv 1) (pe_op op_add (pv 2) (pv 4)) (fun _ _ => rfl))) (pss_cons (ps_set (i := 7) sc__law_plan.nd rfl (by first | exact .inl rfl | exact .inr rfl) (pe_op op_modN (pe_op op_fdivX (pv 6) pe_int) pe_int)) (pss_cons (ps_if (PW.pt (pw_or (pt_cmpR (show OpR _ _ (rEqD K) from op_eqD hr.units) (pv 5) (pe_lst pa_nil) (nomark _)) (pw_or1 (pt_cmpR (show OpR _ _ (rEqD K) from op_eqD hr.units) (pv 7) pe_int (nomark _))))) (pss_cons (ps_expr (pe_bm PySem.F.plainAttrs_list PySem.F.slot_list_append PySem.F.type_list_append mt_append (pv 3) (pa_cons (pe_ix (show IxR _ (rIxL K) from ix_list) (pe_lst (pa_cons (pe_tup (pa_cons pe_str pa_nil)) (pa_cons (pe_tup (pa_cons pe_str pa_nil)) pa_nil))) (pe_op op_modN (pe_op op_fdivX (pv 6) pe_int) pe_int) (fun _ _ => rfl)) pa_nil))) pss_nil) (pss_cons (ps_if (pt_cmpR (show OpR _ _ (rEqD K) from op_eqD hr.units) (pv 7) pe_int (nomark _)) (pss_cons (ps_expr (pe_bm PySem.F.plainAttrs_list PySem.F.slot_list_append PySem.F.type_list_append mt_append (pv 3) (pa_cons (pe_tup (pa_cons pe_str (pa_cons (pe_ix (show IxR _ (rIxL K) from ix_list) (pv 5) (pe_op op_modN (pe_op op_fdivX (pv 6) pe_int) (pe_callB (show CallR _ (.builtin "len") (rLenS K) from call_lenS) (by rfl) T.b_len (by decide +kernel) (pa_cons (pv 5) pa_nil))) (fun _ _ => rfl)) pa_nil))) pa_nil))) pss_nil) (pss_cons (ps_set (i := 8) sc__law_plan.nd rfl (by first | exact .inl rfl | exact .inr rfl) (pe_op op_modN (pe_op op_fdivX (pv 6) pe_int) (pe_op op_add (pe_callB (show CallR _ (.builtin "len") (rLenS K) from call_lenS) (by rfl) T.b_len (by decide +kernel) (pa_cons (pv 5) pa_nil)) pe_int))) (pss_cons (ps_setLc (i := 9) (own := [("_law_at", 10)]) rfl sc__law_plan.nd rfl rfl (sw_true rfl rfl rfl (by decide +kernel)) (pi_range1 (by rfl) T.b_range (pa_cons (pe_callB (show CallR _ (.builtin "len") (rLenS K) from call_lenS) (by rfl) T.b_len (by decide +kernel) (pa_cons (pv 5) pa_nil)) pa_nil)) (blkOk_by (own := [("_law_at", 10)]) (N := nn__law_plan) (sc := defScope s__law_plan) (by decide +kernel)) (fun _ _ _ _ _ => (pg_name (i := 10) sc__law_plan.nd rfl (Or.inl rfl))) (fun _ _ _ _ _ => pts_one (PW.pt (pw_or (pt_cmpR (show OpR _ _ (rNeD K) from op_neD hr.units) (pv 10) (pv 8) (nomark _)) (pw_or1 (pt_cmpR (show OpR _ _ (rEqD K) from op_eqD hr.units) (pe_callB (show CallR _ (.builtin "len") (rLenS K) from call_lenS) (by rfl) T.b_len (by decide +kernel) (pa_cons (pv 5) pa_nil)) pe_int (nomark _)))))) (fun _ _ _ _ _ => (pe_ix (show IxR _ (rIxL K) from ix_list) (pv 5) (pv 10) (fun _ _ => rfl)))) (pss_cons (ps_expr (pe_bm PySem.F.plainAttrs_list PySem.F.slot_list_append PySem.F.type_list_append mt_append (pv 3) (pa_cons (pe_tup (pa_cons pe_str (pa_cons (pe_slice (show SlR _ (rSlL K) from sl_list) (pv 9) po_none (po_some (pe_op op_add pe_int (pe_op op_modN (pe_op op_fdivX (pv 6) pe_int) pe_int)))) pa_nil))) pa_nil))) pss_nil)))) pss_nil)) pss_nil))))) (pss_cons (ps_ret (pv 3)) pss_nil))), fun hl => ?_⟩
    refine body_O hl hd hm (show 3 ≤ 11 by decide) (Γ := [cs zcauses, cs zpool_here, cs zfirst, c0, c0, c0, c0, c0, c0, c0, c0]) (Γ' := noΓ) rfl ?_ k
    exact (
  b_asgOL (md := .n) (o_lstT (xs := ([] : List PlanT)) (show 0 ≤ sizeLine by decide) a_nil) nh (show 3 < 11 by decide) (Γ2 := fun zplan_here => [cs zcauses, cs zpool_here, cs zfirst, co zplan_here, c0, c0, c0, c0, c0, c0, c0]) (fun _ => rfl) fun zplan_here e1 =>
  b_bind fun t2 ht2 =>
  b_for (Γ1 := fun (zplan_here : (List PlanT)) => [cs zcauses, cs zpool_here, cs zfirst, co zplan_here, c0, c0, c0, c0, c0, c0, c0]) (Γ2 := fun (zplan_here : (List PlanT)) (zk : Int) => [cs zcauses, cs zpool_here, cs zfirst, co zplan_here, cn zk, c0, c0, c0, c0, c0, c0]) (i_rng1 (e_len (ev_h (md := .s) (ev_var (i := 0)))) ht2) (fun zplan_here zk => g_name nh (show 4 < 11 by decide)) (fun zplan_here zk =>
  b_bind fun zown ht3 =>
  b_asg (md := .s) (e_idx (ev_var (i := 0)) (ev_varF (i := 4)) ht3) sh (show 5 < 11 by decide) (Γ2 := [cs zcauses, cs zpool_here, cs zfirst, co zplan_here, cn zk, cs zown, c0, c0, c0, c0, c0]) rfl (
  b_bind fun zcell ht4 =>
  b_asg (md := .n) (ev_flat (e_idx (ev_h (md := .s) (ev_var (i := 1))) (e_add (ev_varF (i := 2)) (ev_varF (i := 4))) ht4)) nh (show 6 < 11 by decide) (Γ2 := [cs zcauses, cs zpool_here, cs zfirst, co zplan_here, cn zk, cs zown, cn zcell, c0, c0, c0, c0]) rfl (
  b_asgL (md := .n) (e_modL (e_divL (ev_varF (i := 6)) ev_int) ev_int) nh (show 7 < 11 by decide) (Γ2 := fun zway => [cs zcauses, cs zpool_here, cs zfirst, co zplan_here, cn zk, cs zown, cn zcell, cn zway, c0, c0, c0]) (fun _ => rfl) fun zway e5 =>
  b_if (Γ1 := fun (zplan_here : (List PlanT)) => [cs zcauses, cs zpool_here, cs zfirst, co zplan_here, c0, c0, c0, c0, c0, c0, c0]) (t_or (t_cmp (e_eq (α := (List Int)) (ev_h (md := .s) (ev_var (i := 5))) (ev_h (md := .n) (evO_ev (o_lstT (xs := ([] : List Int)) (show 0 ≤ sizeLine by decide) a_nil))))) (fun hc => (t_cmp (e_eq (α := Int) (ev_varF (i := 7)) ev_int)))) (fun hc =>
  b_bind fun t6 ht6 =>
  b_bind fun zplan_here h7 =>
  b_append (i := 3) rfl (e_idx (evO_ev (o_lstT (xs := ([PlanT.still, PlanT.coin] : List PlanT)) (show 2 ≤ sizeLine by decide) (a_cons ev_still (a_cons ev_coin a_nil)))) (e_modL (e_divL (ev_varF (i := 6)) ev_int) ev_int) ht6) h7 (Γ2 := [cs zcauses, cs zpool_here, cs zfirst, co zplan_here, cn zk, cs zown, cn zcell, cn zway, c0, c0, c0]) rfl (
  b_end (wk_c (wk_c (wk_c (wk_c (wk_d (wk_d (wk_d (wk_d (wk_c (wk_c (wk_c .nil))))))))))))) (fun hc =>
  b_if (Γ1 := fun (zplan_here : (List PlanT)) => [cs zcauses, cs zpool_here, cs zfirst, co zplan_here, c0, c0, c0, c0, c0, c0, c0]) (t_cmp (e_eq (α := Int) (ev_varF (i := 7)) ev_int)) (fun hc =>
  b_bind fun t8 ht8 =>
  b_bind fun t9 ht9 =>
  b_bind fun zplan_here h10 =>
  b_append (i := 3) rfl (ev_near (ev_flat (e_idx (ev_h (md := .s) (ev_var (i := 5))) (e_mod (e_divL (ev_varF (i := 6)) ev_int) (e_len (ev_h (md := .s) (ev_var (i := 5)))) ht8) ht9))) h10 (Γ2 := [cs zcauses, cs zpool_here, cs zfirst, co zplan_here, cn zk, cs zown, cn zcell, cn zway, c0, c0, c0]) rfl (
  b_end (wk_c (wk_c (wk_c (wk_c (wk_d (wk_d (wk_d (wk_d (wk_c (wk_c (wk_c .nil))))))))))))) (fun hc =>
  b_bind fun zout ht11 =>
  b_asg (md := .n) (e_mod (e_divL (ev_varF (i := 6)) ev_int) (e_add (e_len (ev_h (md := .s) (ev_var (i := 5)))) ev_int) ht11) nh (show 8 < 11 by decide) (Γ2 := [cs zcauses, cs zpool_here, cs zfirst, co zplan_here, cn zk, cs zown, cn zcell, cn zway, cn zout, c0, c0]) rfl (
  b_bind fun t12 ht12 =>
  b_bind fun zfeeders ht14 =>
  b_asgO (md := .n) (o_lc1 (i_rng1 (e_len (ev_h (md := .s) (ev_var (i := 5)))) ht12) nh (fun zat b hy => (some_t hy (t_or (t_cmp (e_ne (α := Int) (ev_varF (i := 10)) (ev_varF (i := 8)))) (fun hc => (t_cmp (e_eq (α := Int) (e_len (ev_h (md := .s) (ev_var (i := 5)))) ev_int)))))) (fun zat y hy => (have ⟨t13, ht13, hy⟩ := bind_some_iff hy; some_ev hy (ev_flat (e_idx (ev_h (md := .s) (ev_var (i := 5))) (ev_varF (i := 10)) ht13)))) ht14 nh) nh (show 9 < 11 by decide) (Γ2 := [cs zcauses, cs zpool_here, cs zfirst, co zplan_here, cn zk, cs zown, cn zcell, cn zway, cn zout, co zfeeders, c0]) rfl (
  b_bind fun zplan_here h15 =>
  b_append (i := 3) rfl (ev_sum (evO_ev (o_sliceF (ev_varO (i := 9)) p_none (p_some (e_add ev_int (e_modL (e_divL (ev_varF (i := 6)) ev_int) ev_int)))))) h15 (Γ2 := [cs zcauses, cs zpool_here, cs zfirst, co zplan_here, cn zk, cs zown, cn zcell, cn zway, cn zout, co zfeeders, c0]) rfl (
  b_end (wk_c (wk_c (wk_c (wk_c (wk_d (wk_d (wk_d (wk_d (wk_d (wk_d (wk_c .nil))))))))))))))) (fun zplan_here =>
  b_end (wk_c (wk_c (wk_c (wk_c (wk_c (wk_c (wk_c (wk_c (wk_c (wk_c (wk_c .nil))))))))))))) (fun zplan_here =>
  b_end (wk_c (wk_c (wk_c (wk_c (wk_c (wk_c (wk_c (wk_c (wk_c (wk_c (wk_c .nil))))))))))))))) (wk_c (wk_c (wk_c (wk_c (wk_c (wk_c (wk_c (wk_c (wk_c (wk_c (wk_c .nil))))))))))) (fun zplan_here =>
  b_retOv (i := 3)))
abbrev s__law_row : Stmt := topS 13
abbrev nn__law_row : List Str := ["_law_size", "_law_own", "_law_values", "_law_told_of", "_law_one", "_law_bit", "_law_at"]
theorem sc__law_row : FnScope nn__law_row ["_law_size", "_law_own", "_law_values", "_law_told_of"] (defScope s__law_row) := ⟨rfl, rfl, rfl, by decide +kernel, rfl, by decide +kernel, by decide +kernel⟩
def sp__law_row (K : PySem.W.Frag) : Sp := FnO K fun ds r => ∃ zsize zown zvalues ztold_of y, ds = [toD (zsize : Int), toD (zown : (List Int)), toD (zvalues : (List Int)), toD (ztold_of : PlanT)] ∧ m__law_row zsize zown zvalues ztold_of = some y ∧ r = y.map toD
set_option maxHeartbeats 4000000 in
theorem ok__law_row (T : Txt K mg) : FnOk P w K mg base CX0 1 T.a__law_row T.d__law_row ["_law_size", "_law_own", "_law_values", "_law_told_of"] (sp__law_row K) := by
  refine T.F__law_row.ok sc__law_row (fun vs H Q E h => ?_) (fun cdv A outer s H vs Q E hr h => ?_)
  · obtain ⟨ds, r, hd, ⟨zsize, zown, zvalues, ztold_of, y, rfl, _⟩, _⟩ := h
    exact dpAll_len hd
  · obtain ⟨ds, r, hd, ⟨zsize, zown, zvalues, ztold_of, y, rfl, hm, rfl⟩, k⟩ := h
    unfold m__law_row at hm
    refine ⟨_, pss_len (pss_cons (ps_set (i := 4) sc__law_row.nd rfl (by first | exact .inl rfl | exact .inr rfl) (pe_lst (pa_cons pe_int (pa_cons pe_int pa_nil)))) (pss_cons (ps_if (pt_cmpR (show OpR _ _ (rEqD K) from op_eqD hr.units) (pe_ix (show IxR _ (rIxT K) from ix_tup) (pv 3) pe_int (fun _ _ => rfl)) pe_str (nomark _)) (pss_cons (ps_set (i := 4) sc__law_row.nd rfl (by first | exact .inl rfl | exact .inr rfl) (pe_lst (pa_cons pe_int (pa_cons pe_int pa_nil)))) pss_nil) pss_nil) (pss_cons (ps_if (pt_cmpR (show OpR _ _ (rEqD K) from op_eqD hr.units) (pe_ix (show IxR _ (rIxT K) from ix_tup) (pv 3) pe_int (fun _ _ => rfl)) pe_str (nomark _)) (pss_cons (ps_set (i := 5) sc__law_row.nd rfl (by first | exact .inl rfl | exact .inr rfl) (pe_op op_modN (pe_callB (show CallR _ (.builtin "sum") (rSum K) from cr_sum rfl) (by rfl) T.b_sum (by decide +kernel) (pa_cons (pe_lc (own := [("_law_at", 6)]) rfl sc__law_row.nd (pi_range1 (by rfl) T.b_range (pa_cons (pe_callB (show CallR _ (.builtin "len") (rLenS K) from call_lenS) (by rfl) T.b_len (by decide +kernel) (pa_cons (pv 1) pa_nil)) pa_nil)) (blkOk_by (own := [("_law_at", 6)]) (N := nn__law_row) (sc := defScope s__law_row) (by decide +kernel)) (fun _ _ _ _ _ => (pg_name (i := 6) sc__law_row.nd rfl (Or.inl rfl))) (fun _ _ _ _ _ => pts_one (pt_cmpR (show OpR _ _ (rInD K) from op_inD (hu65 hr)) (pe_ix (show IxR _ (rIxL K) from ix_list) (pv 1) (pv 6) (fun _ _ => rfl)) (pe_ix (show IxR _ (rIxT K) from ix_tup) (pv 3) pe_int (fun _ _ => rfl)) (by rfl))) (fun _ _ _ _ _ => (pe_ix (show IxR _ (rIxL K) from ix_list) (pv 2) (pv 6) (fun _ _ => rfl)))) pa_nil)) pe_int)) (pss_cons (ps_set (i := 4) sc__law_row.nd rfl (by first | exact .inl rfl | exact .inr rfl) (pe_lst (pa_cons (pe_op op_sub pe_int (pv 5)) (pa_cons (pv 5) pa_nil)))) pss_nil)) pss_nil) (pss_cons (ps_if (pt_cmpR (show OpR _ _ (rEqD K) from op_eqD hr.units) (pe_ix (show IxR _ (rIxT K) from ix_tup) (pv 3) pe_int (fun _ _ => rfl)) pe_str (nomark _)) (pss_cons (ps_set (i := 5) sc__law_row.nd rfl (by first | exact .inl rfl | exact .inr rfl) (pe_op op_modN (pe_ix (show IxR _ (rIxL K) from ix_list) (pv 2) (show PE _ _ (tBM K "list" (rIndexD K) _ _) from pe_bm PySem.F.plainAttrs_list PySem.F.slot_list_index PySem.F.type_list_index (mt_indexD (hu65 hr)) (pv 1) (pa_cons (pe_ix (show IxR _ (rIxT K) from ix_tup) (pv 3) pe_int (fun _ _ => rfl)) pa_nil)) (fun _ _ => rfl)) pe_int)) (pss_cons (ps_set (i := 4) sc__law_row.nd rfl (by first | exact .inl rfl | exact .inr rfl) (pe_lst (pa_cons (pe_op op_sub pe_int (pv 5)) (pa_cons (pe_op op_add pe_int (pv 5)) pa_nil)))) pss_nil)) pss_nil) (pss_cons (ps_ret (pe_op (show OpR _ _ (rCatS K) from op_catS) (pv 4) (pe_op op_rep (pe_lst (pa_cons pe_int pa_nil)) (pe_op op_sub (pv 0) pe_int)))) pss_nil))))), fun hl => ?_⟩
    refine body_O hl hd hm (show 4 ≤ 7 by decide) (Γ := [cs zsize, cs zown, cs zvalues, cs ztold_of, c0, c0, c0]) (Γ' := noΓ) rfl ?_ k
    exact (
  b_asgOL (md := .n) (o_lstT (xs := ([(1 : Int), (0 : Int)] : List Int)) (show 2 ≤ sizeLine by decide) (a_cons ev_int (a_cons ev_int a_nil))) nh (show 4 < 7 by decide) (Γ2 := fun zone => [cs zsize, cs zown, cs zvalues, cs ztold_of, co zone, c0, c0]) (fun _ => rfl) fun zone e1 =>
  b_if (Γ1 := fun (zone : (List Int)) => [cs zsize, cs zown, cs zvalues, cs ztold_of, co zone, c0, c0]) (t_cmp (e_eq (α := PTag) (ev_flat (m1 := .h) (e_ptag (ev_h (md := .s) (ev_var (i := 3)))) rfl) (ev_ptag (t := PTag.coin)))) (fun hc =>
  b_asgOL (md := .n) (o_lstT (xs := ([(1 : Int), (2 : Int)] : List Int)) (show 2 ≤ sizeLine by decide) (a_cons ev_int (a_cons ev_int a_nil))) nh (show 4 < 7 by decide) (Γ2 := fun zone => [cs zsize, cs zown, cs zvalues, cs ztold_of, co zone, c0, c0]) (fun _ => rfl) fun zone e2 =>
  b_end (wk_c (wk_c (wk_c (wk_c (wk_c (wk_c (wk_c .nil)))))))) (fun hc =>
  b_end (wk_c (wk_c (wk_c (wk_c (wk_c (wk_c (wk_c .nil)))))))) (fun zone =>
  b_if (Γ1 := fun (zone : (List Int)) => [cs zsize, cs zown, cs zvalues, cs ztold_of, co zone, c0, c0]) (t_cmp (e_eq (α := PTag) (ev_flat (m1 := .h) (e_ptag (ev_h (md := .s) (ev_var (i := 3)))) rfl) (ev_ptag (t := PTag.sum)))) (fun hc =>
  b_bind fun t3 ht3 =>
  b_bind fun t7 ht7 =>
  b_asgL (md := .n) (e_modL (e_sum (ev_h (md := .n) (evO_ev (o_lc1 (i_rng1 (e_len (ev_h (md := .s) (ev_var (i := 1)))) ht3) nh (fun zat b hy => (have ⟨t4, ht4, hy⟩ := bind_some_iff hy; have ⟨t5, ht5, hy⟩ := bind_some_iff hy; some_t hy (t_cmp (e_inB (α := Int) (ev_flat (e_idx (ev_h (md := .s) (ev_var (i := 1))) (ev_varF (i := 6)) ht4)) (ev_h (md := .s) (e_psum ht5 (ev_var (i := 3)))))))) (fun zat y hy => (have ⟨t6, ht6, hy⟩ := bind_some_iff hy; some_ev hy (ev_flat (e_idx (ev_h (md := .s) (ev_var (i := 2))) (ev_varF (i := 6)) ht6)))) ht7 nh)))) ev_int) nh (show 5 < 7 by decide) (Γ2 := fun zbit => [cs zsize, cs zown, cs zvalues, cs ztold_of, co zone, cn zbit, c0]) (fun _ => rfl) fun zbit e8 =>
  b_asgOL (md := .n) (o_lstT (xs := ([((1 : Int) - zbit), zbit] : List Int)) (show 2 ≤ sizeLine by decide) (a_cons (e_sub ev_int (ev_varF (i := 5))) (a_cons (ev_varF (i := 5)) a_nil))) nh (show 4 < 7 by decide) (Γ2 := fun zone => [cs zsize, cs zown, cs zvalues, cs ztold_of, co zone, cn zbit, c0]) (fun _ => rfl) fun zone e9 =>
  b_end (wk_c (wk_c (wk_c (wk_c (wk_c (wk_d (wk_c .nil)))))))) (fun hc =>
  b_end (wk_c (wk_c (wk_c (wk_c (wk_c (wk_c (wk_c .nil)))))))) (fun zone =>
  b_if (Γ1 := fun (zone : (List Int)) => [cs zsize, c0, c0, c0, co zone, c0, c0]) (t_cmp (e_eq (α := PTag) (ev_flat (m1 := .h) (e_ptag (ev_h (md := .s) (ev_var (i := 3)))) rfl) (ev_ptag (t := PTag.near)))) (fun hc =>
  b_bind fun t10 ht10 =>
  b_bind fun t11 ht11 =>
  b_bind fun t12 ht12 =>
  b_asgL (md := .n) (e_modL (ev_flat (e_idx (ev_h (md := .s) (ev_var (i := 2))) (e_index (α := Int) (ev_h (md := .s) (ev_var (i := 1))) (ev_flat (m1 := .h) (e_pnear ht10 (ev_h (md := .s) (ev_var (i := 3))))) ht11) ht12)) ev_int) nh (show 5 < 7 by decide) (Γ2 := fun zbit => [cs zsize, cs zown, cs zvalues, cs ztold_of, co zone, cn zbit, c0]) (fun _ => rfl) fun zbit e13 =>
  b_asgOL (md := .n) (o_lstT (xs := ([((2 : Int) - zbit), ((1 : Int) + zbit)] : List Int)) (show 2 ≤ sizeLine by decide) (a_cons (e_sub ev_int (ev_varF (i := 5))) (a_cons (e_add ev_int (ev_varF (i := 5))) a_nil))) nh (show 4 < 7 by decide) (Γ2 := fun zone => [cs zsize, cs zown, cs zvalues, cs ztold_of, co zone, cn zbit, c0]) (fun _ => rfl) fun zone e14 =>
  b_end (wk_c (wk_d (wk_d (wk_d (wk_c (wk_d (wk_c .nil)))))))) (fun hc =>
  b_end (wk_c (wk_d (wk_d (wk_d (wk_c (wk_c (wk_c .nil)))))))) (fun zone =>
  b_freeze (i := 4) rfl (Γ2 := [cs zsize, c0, c0, c0, cn zone, c0, c0]) rfl (
  b_bind fun t16 ht16 =>
  b_bind fun t17 ht17 =>
  b_retO (o_cat (ev_var (i := 4)) (evO_ev (o_rep ev_int (e_sub (ev_varF (i := 0)) ev_int) ht16)) ht17))))))
abbrev s__law_worlds : Stmt := topS 14
abbrev nn__law_worlds : List Str := ["_law_sizes_here", "_law_rows", "_law_size", "_law_more", "_law_row_here", "_law_value"]
theorem sc__law_worlds : FnScope nn__law_worlds ["_law_sizes_here"] (defScope s__law_worlds) := ⟨rfl, rfl, rfl, by decide +kernel, rfl, by decide +kernel, by decide +kernel⟩
def sp__law_worlds (K : PySem.W.Frag) : Sp := FnO K fun ds r => ∃ zsizes_here y, ds = [toD (zsizes_here : (List Int))] ∧ m__law_worlds zsizes_here = some y ∧ r = y.map toD
set_option maxHeartbeats 4000000 in
theorem ok__law_worlds (T : Txt K mg) : FnOk P w K mg base CX0 1 T.a__law_worlds T.d__law_worlds ["_law_sizes_here"] (sp__law_worlds K) := by
  refine T.F__law_worlds.ok sc__law_worlds (fun vs H Q E h => ?_) (fun cdv A outer s H vs Q E hr h => ?_)
  · obtain ⟨ds, r, hd, ⟨zsizes_here, y, rfl, _⟩, _⟩ := h
    exact dpAll_len hd
  · obtain ⟨ds, r, hd, ⟨zsizes_here, y, rfl, hm, rfl⟩, k⟩ := h
    unfold m__law_worlds at hm
    refine ⟨_, pss_len (pss_cons (ps_set (i := 1) sc__law_worlds.nd rfl (by first | exact .inl rfl | exact .inr rfl) (pe_lst (pa_cons (pe_lst pa_nil) pa_nil))) (pss_cons (ps_for PassesOwn.never rfl (show PI _ _ _ (iList K _) from pi_list (pv 0)) (pg_name (i := 2) sc__law_worlds.nd rfl (by first | exact .inl rfl | exact .inr rfl)) (pss_cons (ps_set (i := 3) sc__law_worlds.nd rfl (by first | exact .inl rfl | exact .inr rfl) (pe_lst pa_nil)) (pss_cons (ps_for PassesOwn.never rfl (show PI _ _ _ (iList K _) from pi_list (pv 1)) (pg_name (i := 4) sc__law_worlds.nd rfl (by first | exact .inl rfl | exact .inr rfl)) (pss_cons (ps_set (i := 3) sc__law_worlds.nd rfl (by first | exact .inl rfl | exact .inr rfl) (pe_op (show OpR _ _ (rCatS K) from op_catS) (pv 3) (pe_lc (own := [("_law_value", 5)]) rfl sc__law_worlds.nd (pi_range1 (by rfl) T.b_range (pa_cons (pv 2) pa_nil)) (blkOk_by (own := [("_law_value", 5)]) (N := nn__law_worlds) (sc := defScope s__law_worlds) (by decide +kernel)) (fun _ _ _ _ _ => (pg_name (i := 5) sc__law_worlds.nd rfl (Or.inl rfl))) (fun _ _ _ _ _ => pts_nil) (fun _ _ _ _ _ => (pe_op (show OpR _ _ (rCatS K) from op_catS) (pv 4) (pe_lst (pa_cons (pv 5) pa_nil))))))) pss_nil)) (pss_cons (ps_set (i := 1) sc__law_worlds.nd rfl (by first | exact .inl rfl | exact .inr rfl) (pv 3)) pss_nil)))) (pss_cons (ps_ret (pv 1)) pss_nil))), fun hl => ?_⟩
    refine body_O hl hd hm (show 1 ≤ 6 by decide) (Γ := [cs zsizes_here, c0, c0, c0, c0, c0]) (Γ' := noΓ) rfl ?_ k
    exact (
  b_asgOL (md := .n) (o_lstT (xs := ([([] : List Int)] : List (List Int))) (show 1 ≤ sizeLine by decide) (a_cons (evO_ev (o_lstT (xs := ([] : List Int)) (show 0 ≤ sizeLine by decide) a_nil)) a_nil)) nh (show 1 < 6 by decide) (Γ2 := fun zrows => [cs zsizes_here, co zrows, c0, c0, c0, c0]) (fun _ => rfl) fun zrows e1 =>
  b_for (Γ1 := fun (zrows : (List (List Int))) => [c0, co zrows, c0, c0, c0, c0]) (Γ2 := fun (zrows : (List (List Int))) (zsize : Int) => [c0, co zrows, cs zsize, c0, c0, c0]) (i_list (ev_var (i := 0)) sh) (fun zrows zsize => g_name sh (show 2 < 6 by decide)) (fun zrows zsize =>
  b_asgOL (md := .n) (o_lstT (xs := ([] : List (List Int))) (show 0 ≤ sizeLine by decide) a_nil) nh (show 3 < 6 by decide) (Γ2 := fun zmore => [c0, co zrows, cs zsize, co zmore, c0, c0]) (fun _ => rfl) fun zmore e2 =>
  b_freeze (i := 1) rfl (Γ2 := [c0, cn zrows, cs zsize, co zmore, c0, c0]) rfl (
  b_for (Γ1 := fun (zmore : (List (List Int))) => [c0, c0, cs zsize, co zmore, c0, c0]) (Γ2 := fun (zmore : (List (List Int))) (zrow_here : (List Int)) => [c0, c0, cs zsize, co zmore, cn zrow_here, c0]) (i_list (ev_var (i := 1)) nh) (fun zmore zrow_here => g_name nh (show 4 < 6 by decide)) (fun zmore zrow_here =>
  b_freeze (i := 3) rfl (Γ2 := [c0, c0, cs zsize, cn zmore, cn zrow_here, c0]) rfl (
  b_bind fun t6 ht6 =>
  b_bind fun t8 ht8 =>
  b_bind fun zmore ht9 =>
  b_asgO (md := .n) (o_cat (ev_var (i := 3)) (evP_ev (p_map1 (i_rng1 (ev_varF (i := 2)) ht6) nh (fun zvalue y hy => (have ⟨t7, ht7, hy⟩ := bind_some_iff hy; some_evO hy (o_cat (ev_var (i := 4)) (evO_ev (o_lstT (xs := ([zvalue] : List Int)) (show 1 ≤ sizeLine by decide) (a_cons (ev_varF (i := 5)) a_nil))) ht7))) ht8 nh) nh) ht9) nh (show 3 < 6 by decide) (Γ2 := [c0, c0, cs zsize, co zmore, cn zrow_here, c0]) rfl (
  b_end (wk_c (wk_c (wk_c (wk_c (wk_d (wk_c .nil))))))))) (wk_c (wk_d (wk_c (wk_c (wk_c (wk_c .nil)))))) (fun zmore =>
  b_moveOL (i := 3) (j := 1) rfl (show 1 < 6 by decide) (by decide) (Γ2 := fun zrows => [c0, co zrows, cs zsize, c0, c0, c0]) (fun _ => rfl) fun zrows e10 =>
  b_end (wk_c (wk_c (wk_d (wk_c (wk_c (wk_c .nil))))))))) (wk_d (wk_c (wk_c (wk_c (wk_c (wk_c .nil)))))) (fun zrows =>
  b_retOv (i := 1)))
abbrev s__law_due : Stmt := topS 15
abbrev nn__law_due : List Str := ["_law_sizes_here", "_law_causes", "_law_plan_here", "_law_due_here", "_law_k", "_law_many", "_law_one", "_law_values"]
theorem sc__law_due : FnScope nn__law_due ["_law_sizes_here", "_law_causes", "_law_plan_here"] (defScope s__law_due) := ⟨rfl, rfl, rfl, by decide +kernel, rfl, by decide +kernel, by decide +kernel⟩
def sp__law_due (K : PySem.W.Frag) : Sp := FnW K fun ds r => ∃ zsizes_here zcauses zplan_here y, ds = [toD (zsizes_here : (List Int)), toD (zcauses : (List (List Int))), toD (zplan_here : (List PlanT))] ∧ m__law_due zsizes_here zcauses zplan_here = some y ∧ r = toD y
set_option maxHeartbeats 4000000 in
theorem ok__law_due (T : Txt K mg) : FnOk P w K mg base CX0 2 T.a__law_due T.d__law_due ["_law_sizes_here", "_law_causes", "_law_plan_here"] (sp__law_due K) := by
  refine T.F__law_due.ok sc__law_due (fun vs H Q E h => ?_) (fun cdv A outer s H vs Q E hr h => ?_)
  · obtain ⟨ds, r, hd, ⟨zsizes_here, zcauses, zplan_here, y, rfl, _⟩, _⟩ := h
    exact dpAll_len hd
  · obtain ⟨ds, r, hd, ⟨zsizes_here, zcauses, zplan_here, y, rfl, hm, rfl⟩, k⟩ := h
    unfold m__law_due at hm
    refine ⟨_, pss_len (pss_cons (ps_set (i := 3) sc__law_due.nd rfl (by first | exact .inl rfl | exact .inr rfl) (pe_lst pa_nil)) (pss_cons (ps_for PassesOwn.never rfl (pi_range1 (by rfl) T.b_range (pa_cons (pe_callB (show CallR _ (.builtin "len") (rLenS K) from call_lenS) (by rfl) T.b_len (by decide +kernel) (pa_cons (pv 1) pa_nil)) pa_nil)) (pg_name (i := 4) sc__law_due.nd rfl (by first | exact .inl rfl | exact .inr rfl)) (pss_cons (ps_setLc (i := 5) (own := [("_law_one", 6)]) rfl sc__law_due.nd rfl rfl (sw_true rfl rfl rfl (by decide +kernel)) (show PI _ _ _ (iList K _) from pi_list (pe_ix (show IxR _ (rIxL K) from ix_list) (pv 1) (pv 4) (fun _ _ => rfl))) (blkOk_by (own := [("_law_one", 6)]) (N := nn__law_due) (sc := defScope s__law_due) (by decide +kernel)) (fun _ _ _ _ _ => (pg_name (i := 6) sc__law_due.nd rfl (Or.inl rfl))) (fun _ _ _ _ _ => pts_nil) (fun _ _ _ _ _ => (pe_ix (show IxR _ (rIxL K) from ix_list) (pv 0) (pv 6) (fun _ _ => rfl)))) (pss_cons (ps_expr (pe_bm PySem.F.plainAttrs_list PySem.F.slot_list_append PySem.F.type_list_append mt_append (pv 3) (pa_cons (pe_lc (own := [("_law_values", 7)]) rfl sc__law_due.nd (show PI _ _ _ (iList K _) from pi_list (pe_call (ok__law_worlds T) (hr.mono (by decide)) (by rfl) T.g__law_worlds T.F__law_worlds.kp T.b__law_worlds .nil pass0 (pa_cons (pv 5) pa_nil))) (blkOk_by (own := [("_law_values", 7)]) (N := nn__law_due) (sc := defScope s__law_due) (by decide +kernel)) (fun _ _ _ _ _ => (pg_name (i := 7) sc__law_due.nd rfl (Or.inl rfl))) (fun _ _ _ _ _ => pts_nil) (fun _ _ _ _ _ => (pe_call (ok__law_row T) (hr.mono (by decide)) (by rfl) T.g__law_row T.F__law_row.kp T.b__law_row .nil pass0 (pa_cons (pe_ix (show IxR _ (rIxL K) from ix_list) (pv 0) (pv 4) (fun _ _ => rfl)) (pa_cons (pe_ix (show IxR _ (rIxL K) from ix_list) (pv 1) (pv 4) (fun _ _ => rfl)) (pa_cons (pv 7) (pa_cons (pe_ix (show IxR _ (rIxL K) from ix_list) (pv 2) (pv 4) (fun _ _ => rfl)) pa_nil))))))) pa_nil))) pss_nil))) (pss_cons (ps_ret (pv 3)) pss_nil))), fun hl => ?_⟩
    refine body_W hl hd hm (show 3 ≤ 8 by decide) (Γ := [cs zsizes_here, cs zcauses, cs zplan_here, c0, c0, c0, c0, c0]) (Γ' := noΓ) rfl ?_ k
    exact (
  b_asgWL (e := ([] : (List (List (List Int))))) w_nil (show 3 < 8 by decide) (Γ2 := fun zdue_here => [cs zsizes_here, cs zcauses, cs zplan_here, ct zdue_here, c0, c0, c0, c0]) (fun _ => rfl) fun zdue_here e12 =>
  b_bind fun t1 ht1 =>
  b_for (Γ1 := fun (zdue_here : (List (List (List Int)))) => [cs zsizes_here, cs zcauses, cs zplan_here, ct zdue_here, c0, c0, c0, c0]) (Γ2 := fun (zdue_here : (List (List (List Int)))) (zk : Int) => [cs zsizes_here, cs zcauses, cs zplan_here, ct zdue_here, cn zk, c0, c0, c0]) (i_rng1 (e_len (ev_h (md := .s) (ev_var (i := 1)))) ht1) (fun zdue_here zk => g_name nh (show 4 < 8 by decide)) (fun zdue_here zk =>
  b_bind fun t2 ht2 =>
  b_bind fun zmany ht4 =>
  b_asgO (md := .n) (o_map1 (i_list (e_idx (ev_var (i := 1)) (ev_varF (i := 4)) ht2) sh) sh (fun zone y hy => (have ⟨t3, ht3, hy⟩ := bind_some_iff hy; some_ev hy (ev_flat (e_idx (ev_h (md := .s) (ev_var (i := 0))) (ev_varF (i := 6)) ht3)))) ht4 nh) nh (show 5 < 8 by decide) (Γ2 := [cs zsizes_here, cs zcauses, cs zplan_here, ct zdue_here, cn zk, co zmany, c0, c0]) rfl (
  b_bind fun t5 ht5 =>
  b_bind fun t10 ht10 =>
  b_bind fun zdue_here h11 =>
  b_tappL (i := 3) rfl (w_PI (md := .n) (p_map1 (i_list (evO_ev (o_call (a_cons (ev_varO (i := 5)) a_nil) ⟨_, _, rfl, ht5, rfl⟩)) nh) nh (fun zvalues y hy => (have ⟨t6, ht6, hy⟩ := bind_some_iff hy; have ⟨t7, ht7, hy⟩ := bind_some_iff hy; have ⟨t8, ht8, hy⟩ := bind_some_iff hy; have ⟨t9, ht9, hy⟩ := bind_some_iff hy; some_evO hy (o_call (a_cons (ev_flat (e_idx (ev_h (md := .s) (ev_var (i := 0))) (ev_varF (i := 4)) ht6)) (a_cons (ev_h (md := .s) (e_idx (ev_var (i := 1)) (ev_varF (i := 4)) ht7)) (a_cons (ev_h (md := .n) (ev_var (i := 7))) (a_cons (ev_h (md := .s) (e_idx (ev_var (i := 2)) (ev_varF (i := 4)) ht8)) a_nil)))) ⟨_, _, _, _, _, rfl, ht9, rfl⟩))) ht10 nh)) h11 (Γ2 := [cs zsizes_here, cs zcauses, cs zplan_here, ct zdue_here, cn zk, co zmany, c0, c0]) rfl (
  b_end (wk_c (wk_c (wk_c (wk_c (wk_d (wk_d (wk_c (wk_c .nil))))))))))) (wk_c (wk_c (wk_c (wk_c (wk_c (wk_c (wk_c (wk_c .nil)))))))) (fun zdue_here =>
  b_retWv (i := 3) (r := zdue_here) rfl))
abbrev s__law_kinds : Stmt := topS 16
abbrev nn__law_kinds : List Str := ["_law_found", "_law_table", "_law_row_here", "_law_one"]
theorem sc__law_kinds : FnScope nn__law_kinds ["_law_found"] (defScope s__law_kinds) := ⟨rfl, rfl, rfl, by decide +kernel, rfl, by decide +kernel, by decide +kernel⟩
def sp__law_kinds (K : PySem.W.Frag) : Sp := FnS K fun ds r => ∃ zfound y, ds = [toD (zfound : (List (List (List Int))))] ∧ m__law_kinds zfound = some y ∧ r = toD y
set_option maxHeartbeats 4000000 in
theorem ok__law_kinds (T : Txt K mg) : FnOk P w K mg base CX0 1 T.a__law_kinds T.d__law_kinds ["_law_found"] (sp__law_kinds K) := by
  refine T.F__law_kinds.ok sc__law_kinds (fun vs H Q E h => ?_) (fun cdv A outer s H vs Q E hr h => ?_)
  · obtain ⟨ds, r, hd, ⟨zfound, y, rfl, _⟩, _⟩ := h
    exact dpAll_len hd
  · obtain ⟨ds, r, hd, ⟨zfound, y, rfl, hm, rfl⟩, k⟩ := h
    unfold m__law_kinds at hm
    refine ⟨_, pss_len (pss_cons (ps_if (pt_not (pt_val (pe_callB (show CallR _ (.builtin "isinstance") (rIsi K) from call_isi) (by rfl) T.b_isinstance (by decide +kernel) (pa_cons (pv 0) (pa_cons (pe_bltn (v := .ty "list") (by rfl) T.b_list (by decide +kernel) rfl) pa_nil))))) (pss_cons (ps_ret pe_bl) pss_nil) pss_nil) (pss_cons (ps_for PassesOwn.never rfl (show PI _ _ _ (iList K _) from pi_list (pv 0)) (pg_name (i := 1) sc__law_kinds.nd rfl (by first | exact .inl rfl | exact .inr rfl)) (pss_cons (ps_if (pt_not (pt_val (pe_callB (show CallR _ (.builtin "isinstance") (rIsi K) from call_isi) (by rfl) T.b_isinstance (by decide +kernel) (pa_cons (pv 1) (pa_cons (pe_bltn (v := .ty "list") (by rfl) T.b_list (by decide +kernel) rfl) pa_nil))))) (pss_cons (ps_ret pe_bl) pss_nil) pss_nil) (pss_cons (ps_for PassesOwn.never rfl (show PI _ _ _ (iList K _) from pi_list (pv 1)) (pg_name (i := 2) sc__law_kinds.nd rfl (by first | exact .inl rfl | exact .inr rfl)) (pss_cons (ps_if (pt_not (pt_val (pe_callB (show CallR _ (.builtin "isinstance") (rIsi K) from call_isi) (by rfl) T.b_isinstance (by decide +kernel) (pa_cons (pv 2) (pa_cons (pe_bltn (v := .ty "list") (by rfl) T.b_list (by decide +kernel) rfl) pa_nil))))) (pss_cons (ps_ret pe_bl) pss_nil) pss_nil) (pss_cons (ps_for PassesOwn.never rfl (show PI _ _ _ (iList K _) from pi_list (pv 2)) (pg_name (i := 3) sc__law_kinds.nd rfl (by first | exact .inl rfl | exact .inr rfl)) (pss_cons (ps_if (PW.pt (pw_or (pt_not (pt_val (pe_callB (show CallR _ (.builtin "isinstance") (rIsi K) from call_isi) (by rfl) T.b_isinstance (by decide +kernel) (pa_cons (pv 3) (pa_cons (pe_bltn (v := .ty "int") (by rfl) T.b_int (by decide +kernel) rfl) pa_nil))))) (pw_or1 (pt_val (pe_callB (show CallR _ (.builtin "isinstance") (rIsi K) from call_isi) (by rfl) T.b_isinstance (by decide +kernel) (pa_cons (pv 3) (pa_cons (pe_bltn (v := .ty "bool") (by rfl) T.b_bool (by decide +kernel) rfl) pa_nil))))))) (pss_cons (ps_ret pe_bl) pss_nil) pss_nil) pss_nil)) pss_nil))) pss_nil))) (pss_cons (ps_ret pe_bl) pss_nil))), fun hl => ?_⟩
    refine body_S hl hd hm (show 1 ≤ 4 by decide) (Γ := [cs zfound, c0, c0, c0]) (Γ' := noΓ) rfl ?_ k
    exact (
  b_ifR (Γ0 := noΓ) (t_not (t_val (e_isi (d := toD (zfound : (List (List (List Int))))) (b := true) (ev_h (md := .s) (ev_var (i := 0))) (show kitB "list" "list" = some true by decide +kernel)))) (fun hc =>
  b_ret ev_bool) (fun hc =>
  b_forR (Γ1 := fun (_ : Unit) => [c0, c0, c0, c0]) (Γ2 := fun (_ : Unit) (ztable : (List (List Int))) => [c0, cs ztable, c0, c0]) (i_list (ev_var (i := 0)) sh) (fun _ ztable => g_name sh (show 1 < 4 by decide)) (fun _ ztable =>
  b_ifRF (Γ0 := noΓ) (t_not (t_val (e_isi (d := toD (ztable : (List (List Int)))) (b := true) (ev_h (md := .s) (ev_var (i := 1))) (show kitB "list" "list" = some true by decide +kernel)))) (fun hc =>
  b_ret ev_bool) (fun hc =>
  b_forF (Γ1 := fun (_ : Unit) => [c0, c0, c0, c0]) (Γ2 := fun (_ : Unit) (zrow_here : (List Int)) => [c0, c0, cs zrow_here, c0]) (i_list (ev_var (i := 1)) sh) (fun _ zrow_here => g_name sh (show 2 < 4 by decide)) (fun _ zrow_here =>
  b_ifRF (Γ0 := noΓ) (t_not (t_val (e_isi (d := toD (zrow_here : (List Int))) (b := true) (ev_h (md := .s) (ev_var (i := 2))) (show kitB "list" "list" = some true by decide +kernel)))) (fun hc =>
  b_ret ev_bool) (fun hc =>
  b_forF (Γ1 := fun (_ : Unit) => [c0, c0, c0, c0]) (Γ2 := fun (_ : Unit) (zone : Int) => [c0, c0, c0, cs zone]) (i_list (ev_var (i := 2)) sh) (fun _ zone => g_name sh (show 3 < 4 by decide)) (fun _ zone =>
  b_ifRF (Γ0 := noΓ) (t_or (t_not (t_val (e_isi (d := toD (zone : Int)) (b := true) (ev_varF (i := 3)) (show kitB "int" "int" = some true by decide +kernel)))) (fun hc => (t_val (e_isi (d := toD (zone : Int)) (b := false) (ev_varF (i := 3)) (show kitB "int" "bool" = some false by decide +kernel))))) (fun hc =>
  b_ret ev_bool) (fun hc =>
  b_endF (wk_c (wk_c (wk_c (wk_d .nil)))))) (wk_c (wk_c (wk_d (wk_c .nil)))) (fun _ =>
  b_endF (wk_c (wk_c (wk_c (wk_c .nil))))))) (wk_c (wk_d (wk_c (wk_c .nil)))) (fun _ =>
  b_endF (wk_c (wk_c (wk_c (wk_c .nil))))))) (wk_d (wk_c (wk_c (wk_c .nil)))) (fun _ =>
  b_ret ev_bool)))
abbrev s__law_copied : Stmt := topS 17
abbrev nn__law_copied : List Str := ["_law_plan_here", "_law_one"]
theorem sc__law_copied : FnScope nn__law_copied ["_law_plan_here"] (defScope s__law_copied) := ⟨rfl, rfl, rfl, by decide +kernel, rfl, by decide +kernel, by decide +kernel⟩
def sp__law_copied (K : PySem.W.Frag) : Sp := FnOk K fun ds r => ∃ zplan_here y, ds = [toD (zplan_here : (List PlanT))] ∧ m__law_copied zplan_here = some y ∧ r = y.map toD
set_option maxHeartbeats 4000000 in
theorem ok__law_copied (T : Txt K mg) : FnOk P w K mg base CX0 1 T.a__law_copied T.d__law_copied ["_law_plan_here"] (sp__law_copied K) := by
  refine T.F__law_copied.ok sc__law_copied (fun vs H Q E h => ?_) (fun cdv A outer s H vs Q E hr h => ?_)
  · obtain ⟨S, ds, r, sS, hd, ⟨zplan_here, y, rfl, _⟩, _⟩ := h
    exact dpAll_len hd
  · obtain ⟨S, ds, r, sS, hd, ⟨zplan_here, y, rfl, hm, rfl⟩, k⟩ := h
    unfold m__law_copied at hm
    refine ⟨_, pss_len (pss_cons (ps_ret (pe_lc (own := [("_law_one", 1)]) rfl sc__law_copied.nd (show PI _ _ _ (iList K _) from pi_list (pv 0)) (blkOk_by (own := [("_law_one", 1)]) (N := nn__law_copied) (sc := defScope s__law_copied) (by decide +kernel)) (fun _ _ _ _ _ => (pg_name (i := 1) sc__law_copied.nd rfl (Or.inl rfl))) (fun _ _ _ _ _ => pts_nil) (fun _ _ _ _ _ => (pe_ifExp (pt_cmpR (show OpR _ _ (rEqD K) from op_eqD hr.units) (pe_ix (show IxR _ (rIxT K) from ix_tup) (pv 1) pe_int (fun _ _ => rfl)) pe_str (nomark _)) (pe_tup (pa_cons (pe_ix (show IxR _ (rIxT K) from ix_tup) (pv 1) pe_int (fun _ _ => rfl)) (pa_cons (pe_callTy (show CallR _ (.type "list") (rListS K) from call_listS) (by rfl) T.b_list (by decide +kernel) (pa_cons (pe_ix (show IxR _ (rIxT K) from ix_tup) (pv 1) pe_int (fun _ _ => rfl)) pa_nil)) pa_nil))) (pv 1))))) pss_nil), fun hl => ?_⟩
    refine body_Ok hl sS hd hm (show 1 ≤ 2 by decide) (Γ := [cn zplan_here, c0]) (Γ' := noΓ) rfl ?_ k
    exact (
  b_bind fun t4 ht4 =>
  b_retO (o_map1 (i_list (ev_var (i := 0)) nh) nh (fun zone y hy => (have ⟨t3, ht3, hy⟩ := bind_some_iff hy; some_ev hy (e_ite (t_cmp (e_eq (α := PTag) (ev_flat (m1 := .h) (e_ptag (ev_h (md := .n) (ev_var (i := 1)))) rfl) (ev_ptag (t := PTag.sum)))) (fun y hy => (have ⟨t1, ht1, hy⟩ := bind_some_iff hy; have ⟨t2, ht2, hy⟩ := bind_some_iff hy; some_ev hy (ev_plike ht2 (ev_h (md := .n) (ev_var (i := 1))) (evO_ev (o_listF (ev_h (md := .n) (e_psum ht1 (ev_var (i := 1))))))))) (fun y hy => (some_ev hy (ev_var (i := 1)))) ht3))) ht4 nh))
abbrev s_law : Stmt := topS 18
abbrev nn_law : List Str := ["_law_script", "_law_pool_here", "_law_causes", "_law_sizes_here", "_law_plan_here", "_law_other", "_law_shape", "_law_many", "_law_handed", "_law_found", "_law_again", "_law_due_here", "_law_k", "_law_own"]
theorem sc_law : FnScope nn_law ["_law_script"] (defScope s_law) := ⟨rfl, rfl, rfl, by decide +kernel, rfl, by decide +kernel, by decide +kernel⟩
def sp_law (K : PySem.W.Frag) : Sp := FnS K fun ds r => ∃ zscript y, ds = [toD (zscript : (List Int))] ∧ m_law zscript = some y ∧ r = toD y
set_option maxHeartbeats 4000000 in
theorem ok_law (T : Txt K mg) : FnOk P w K mg base CX0 4 T.a_law T.d_law ["_law_script"] (sp_law K) := by
  refine T.F_law.ok sc_law (fun vs H Q E h => ?_) (fun cdv A outer s H vs Q E hr h => ?_)
  · obtain ⟨ds, r, hd, ⟨zscript, y, rfl, _⟩, _⟩ := h
    exact dpAll_len hd
  · obtain ⟨ds, r, hd, ⟨zscript, y, rfl, hm, rfl⟩, k⟩ := h
    unfold m_law at hm
    refine ⟨_, pss_len (pss_cons (ps_set (i := 1) sc_law.nd rfl (by first | exact .inl rfl | exact .inr rfl) (pe_call (ok__law_pool T) (hr.mono (by decide)) (by rfl) T.g__law_pool T.F__law_pool.kp T.b__law_pool .nil pass0 (pa_cons (pv 0) (pa_cons pe_int pa_nil)))) (pss_cons (ps_set (i := 2) sc_law.nd rfl (by first | exact .inl rfl | exact .inr rfl) (pe_call (ok__law_drawn T) (hr.mono (by decide)) (by rfl) T.g__law_drawn T.F__law_drawn.kp T.b__law_drawn .nil pass0 (pa_cons (pv 1) (pa_cons (pe_op op_add pe_int (pe_op op_modN (pe_ix (show IxR _ (rIxL K) from ix_list) (pv 1) pe_int (fun _ _ => rfl)) pe_int)) pa_nil)))) (pss_cons (ps_set (i := 3) sc_law.nd rfl (by first | exact .inl rfl | exact .inr rfl) (pe_call (ok__law_sizes T) (hr.mono (by decide)) (by rfl) T.g__law_sizes T.F__law_sizes.kp T.b__law_sizes .nil pass0 (pa_cons (pv 2) (pa_cons (pv 1) pa_nil)))) (pss_cons (ps_set (i := 4) sc_law.nd rfl (by first | exact .inl rfl | exact .inr rfl) (pe_call (ok__law_plan T) (hr.mono (by decide)) (by rfl) T.g__law_plan T.F__law_plan.kp T.b__law_plan .nil pass0 (pa_cons (pv 2) (pa_cons (pv 1) (pa_cons pe_int pa_nil))))) (pss_cons (ps_set (i := 5) sc_law.nd rfl (by first | exact .inl rfl | exact .inr rfl) (pe_call (ok__law_plan T) (hr.mono (by decide)) (by rfl) T.g__law_plan T.F__law_plan.kp T.b__law_plan .nil pass0 (pa_cons (pv 2) (pa_cons (pv 1) (pa_cons pe_int pa_nil))))) (pss_cons (ps_setLc (i := 6) (own := [("_law_own", 13)]) rfl sc_law.nd rfl rfl (sw_true rfl rfl rfl (by decide +kernel)) (show PI _ _ _ (iList K _) from pi_list (pv 2)) (blkOk_by (own := [("_law_own", 13)]) (N := nn_law) (sc := defScope s_law) (by decide +kernel)) (fun _ _ _ _ _ => (pg_name (i := 13) sc_law.nd rfl (Or.inl rfl))) (fun _ _ _ _ _ => pts_nil) (fun _ _ _ _ _ => (pe_callTy (show CallR _ (.type "list") (rListS K) from call_listS) (by rfl) T.b_list (by decide +kernel) (pa_cons (pv 13) pa_nil)))) (pss_cons (ps_set (i := 7) sc_law.nd rfl (by first | exact .inl rfl | exact .inr rfl) (pe_callTy (show CallR _ (.type "list") (rListS K) from call_listS) (by rfl) T.b_list (by decide +kernel) (pa_cons (pv 3) pa_nil))) (pss_cons (ps_set (i := 8) sc_law.nd rfl (by first | exact .inl rfl | exact .inr rfl) (pe_call (ok__law_copied T) (hr.mono (by decide)) (by rfl) T.g__law_copied T.F__law_copied.kp T.b__law_copied .nil pass0 (pa_cons (pv 4) pa_nil))) (pss_cons (ps_set (i := 9) sc_law.nd rfl (by first | exact .inl rfl | exact .inr rfl) (pe_call (ok_tables_by T) (hr.mono (by decide)) (by rfl) T.g_tables_by T.F_tables_by.kp T.b_tables_by .nil pass0 (pa_cons (pv 7) (pa_cons (pv 6) (pa_cons (pv 8) pa_nil))))) (pss_cons (ps_if (PW.pt (pw_or (pt_cmpR (show OpR _ _ (rNeD K) from op_neD hr.units) (pv 6) (pv 2) (nomark _)) (pw_or (pt_cmpR (show OpR _ _ (rNeD K) from op_neD hr.units) (pv 7) (pv 3) (nomark _)) (pw_or1 (pt_cmpR (show OpR _ _ (rNeD K) from op_neD hr.units) (pv 8) (pv 4) (nomark _)))))) (pss_cons (ps_ret pe_bl) pss_nil) pss_nil) (pss_cons (ps_if (PW.pt (pw_or (pt_not (pt_val (pe_call (ok__law_kinds T) (hr.mono (by decide)) (by rfl) T.g__law_kinds T.F__law_kinds.kp T.b__law_kinds .nil pass0 (pa_cons (pv 9) pa_nil)))) (pw_or1 (pt_cmpR (show OpR _ _ (rNeD K) from op_neD hr.units) (pv 9) (pe_call (ok__law_due T) (hr.mono (by decide)) (by rfl) T.g__law_due T.F__law_due.kp T.b__law_due .nil pass0 (pa_cons (pv 3) (pa_cons (pv 2) (pa_cons (pv 4) pa_nil)))) (nomark _))))) (pss_cons (ps_ret pe_bl) pss_nil) pss_nil) (pss_cons (ps_asg (pe_tup (pa_cons pe_str pa_nil)) (pg_sub (pv 8) (pe_op op_modN (pe_ix (show IxR _ (rIxL K) from ix_list) (pv 1) pe_int (fun _ _ => rfl)) (pe_callB (show CallR _ (.builtin "len") (rLenS K) from call_lenS) (by rfl) T.b_len (by decide +kernel) (pa_cons (pv 8) pa_nil))) set_list)) (pss_cons (ps_set (i := 10) sc_law.nd rfl (by first | exact .inl rfl | exact .inr rfl) (pe_call (ok_tables_by T) (hr.mono (by decide)) (by rfl) T.g_tables_by T.F_tables_by.kp T.b_tables_by .nil pass0 (pa_cons (pv 7) (pa_cons (pv 6) (pa_cons (pe_call (ok__law_copied T) (hr.mono (by decide)) (by rfl) T.g__law_copied T.F__law_copied.kp T.b__law_copied .nil pass0 (pa_cons (pv 5) pa_nil)) pa_nil))))) (pss_cons (ps_if (PW.pt (pw_or (pt_not (pt_val (pe_call (ok__law_kinds T) (hr.mono (by decide)) (by rfl) T.g__law_kinds T.F__law_kinds.kp T.b__law_kinds .nil pass0 (pa_cons (pv 10) pa_nil)))) (pw_or1 (pt_cmpR (show OpR _ _ (rNeD K) from op_neD hr.units) (pv 10) (pe_call (ok__law_due T) (hr.mono (by decide)) (by rfl) T.g__law_due T.F__law_due.kp T.b__law_due .nil pass0 (pa_cons (pv 3) (pa_cons (pv 2) (pa_cons (pv 5) pa_nil)))) (nomark _))))) (pss_cons (ps_ret pe_bl) pss_nil) pss_nil) (pss_cons (ps_set (i := 11) sc_law.nd rfl (by first | exact .inl rfl | exact .inr rfl) (pe_call (ok__law_due T) (hr.mono (by decide)) (by rfl) T.g__law_due T.F__law_due.kp T.b__law_due .nil pass0 (pa_cons (pv 3) (pa_cons (pv 2) (pa_cons (pv 5) pa_nil))))) (pss_cons (ps_for PassesOwn.never rfl (pi_range1 (by rfl) T.b_range (pa_cons (pe_callB (show CallR _ (.builtin "len") (rLenS K) from call_lenS) (by rfl) T.b_len (by decide +kernel) (pa_cons (pv 11) pa_nil)) pa_nil)) (pg_name (i := 12) sc_law.nd rfl (by first | exact .inl rfl | exact .inr rfl)) (pss_cons (ps_expr (pe_bm PySem.F.plainAttrs_list PySem.F.slot_list_append PySem.F.type_list_append mt_append (pe_ix (show IxR _ (rIxL K) from ix_list) (pe_ix (show IxR _ (rIxL K) from ix_list) (pv 11) (pv 12) (fun _ _ => rfl)) pe_int (fun _ _ => rfl)) (pa_cons pe_int pa_nil))) (pss_cons (ps_expr (pe_bm PySem.F.plainAttrs_list PySem.F.slot_list_append PySem.F.type_list_append mt_append (pe_ix (show IxR _ (rIxL K) from ix_list) (pe_ix (show IxR _ (rIxL K) from ix_list) (pv 11) (pv 12) (fun _ _ => rfl)) (pe_un un_neg pe_int) (fun _ _ => rfl)) (pa_cons pe_int pa_nil))) (pss_cons (ps_expr (pe_bm PySem.F.plainAttrs_list PySem.F.slot_list_append PySem.F.type_list_append mt_append (pe_ix (show IxR _ (rIxL K) from ix_list) (pe_ix (show IxR _ (rIxL K) from ix_list) (pv 10) (pv 12) (fun _ _ => rfl)) pe_int (fun _ _ => rfl)) (pa_cons pe_int pa_nil))) (pss_cons (ps_expr (pe_bm PySem.F.plainAttrs_list PySem.F.slot_list_append PySem.F.type_list_append mt_append (pe_ix (show IxR _ (rIxL K) from ix_list) (pe_ix (show IxR _ (rIxL K) from ix_list) (pv 10) (pv 12) (fun _ _ => rfl)) (pe_un un_neg pe_int) (fun _ _ => rfl)) (pa_cons pe_int pa_nil))) pss_nil))))) (pss_cons (ps_if (pt_cmpR (show OpR _ _ (rNeD K) from op_neD hr.units) (pv 10) (pv 11) (nomark _)) (pss_cons (ps_ret pe_bl) pss_nil) pss_nil) (pss_cons (ps_ret (pe_and (pe_cmpR (show OpR _ _ (rEqD K) from op_eqD hr.units) (pv 9) (pe_call (ok__law_due T) (hr.mono (by decide)) (by rfl) T.g__law_due T.F__law_due.kp T.b__law_due .nil pass0 (pa_cons (pv 3) (pa_cons (pv 2) (pa_cons (pv 4) pa_nil)))) (nomark _)) (pe_one (pe_cmpR (show OpR _ _ (rEqD K) from op_eqD hr.units) (pe_call (ok_tables_by T) (hr.mono (by decide)) (by rfl) T.g_tables_by T.F_tables_by.kp T.b_tables_by .nil pass0 (pa_cons (pv 7) (pa_cons (pv 6) (pa_cons (pv 4) pa_nil)))) (pv 9) (nomark _))))) pss_nil)))))))))))))))))), fun hl => ?_⟩
    refine body_S hl hd hm (show 1 ≤ 14 by decide) (Γ := [cs zscript, c0, c0, c0, c0, c0, c0, c0, c0, c0, c0, c0, c0, c0]) (Γ' := noΓ) rfl ?_ k
    exact (
  b_bind fun zpool_here ht1 =>
  b_asgO (md := .n) (o_call (a_cons (ev_h (md := .s) (ev_var (i := 0))) (a_cons ev_int a_nil)) ⟨_, _, _, rfl, ht1, rfl⟩) nh (show 1 < 14 by decide) (Γ2 := [cs zscript, co zpool_here, c0, c0, c0, c0, c0, c0, c0, c0, c0, c0, c0, c0]) rfl (
  b_bind fun t2 ht2 =>
  b_bind fun zcauses ht3 =>
  b_asgO (md := .n) (evP_evOT (p_call (a_cons (ev_varO (i := 1)) (a_cons (e_add ev_int (e_modL (ev_flat (e_idx (ev_varO (i := 1)) ev_int ht2)) ev_int)) a_nil)) ⟨_, _, _, rfl, ht3, rfl⟩) nh) nh (show 2 < 14 by decide) (Γ2 := [cs zscript, co zpool_here, co zcauses, c0, c0, c0, c0, c0, c0, c0, c0, c0, c0, c0]) rfl (
  b_bind fun zsizes_here ht4 =>
  b_asgO (md := .n) (o_call (a_cons (ev_varO (i := 2)) (a_cons (ev_varO (i := 1)) a_nil)) ⟨_, _, _, rfl, ht4, rfl⟩) nh (show 3 < 14 by decide) (Γ2 := [cs zscript, co zpool_here, co zcauses, co zsizes_here, c0, c0, c0, c0, c0, c0, c0, c0, c0, c0]) rfl (
  b_bind fun zplan_here ht5 =>
  b_asgO (md := .n) (o_call (a_cons (ev_varO (i := 2)) (a_cons (ev_varO (i := 1)) (a_cons ev_int a_nil))) ⟨_, _, _, _, rfl, ht5, rfl⟩) nh (show 4 < 14 by decide) (Γ2 := [cs zscript, co zpool_here, co zcauses, co zsizes_here, co zplan_here, c0, c0, c0, c0, c0, c0, c0, c0, c0]) rfl (
  b_bind fun zother ht6 =>
  b_asgO (md := .n) (o_call (a_cons (ev_varO (i := 2)) (a_cons (ev_varO (i := 1)) (a_cons ev_int a_nil))) ⟨_, _, _, _, rfl, ht6, rfl⟩) nh (show 5 < 14 by decide) (Γ2 := [cs zscript, co zpool_here, co zcauses, co zsizes_here, co zplan_here, co zother, c0, c0, c0, c0, c0, c0, c0, c0]) rfl (
  b_bind fun zshape ht7 =>
  b_asgO (md := .n) (evP_evOT (p_unfT (frz_o (i := 2) rfl (Γ2 := _) rfl) (p_map1 (i_list (ev_var (i := 2)) nh) nh (fun zown y hy => (some_evO hy (o_listF (ev_h (md := .n) (ev_var (i := 13)))))) ht7 nh)) nh) nh (show 6 < 14 by decide) (Γ2 := [cs zscript, co zpool_here, co zcauses, co zsizes_here, co zplan_here, co zother, co zshape, c0, c0, c0, c0, c0, c0, c0]) rfl (
  b_asgOL (md := .n) (o_listF (ev_varO (i := 3))) nh (show 7 < 14 by decide) (Γ2 := fun zmany => [cs zscript, co zpool_here, co zcauses, co zsizes_here, co zplan_here, co zother, co zshape, co zmany, c0, c0, c0, c0, c0, c0]) (fun _ => rfl) fun zmany e8 =>
  b_freeze (i := 4) rfl (Γ2 := [cs zscript, co zpool_here, co zcauses, co zsizes_here, cn zplan_here, co zother, co zshape, co zmany, c0, c0, c0, c0, c0, c0]) rfl (
  b_bind fun zhanded ht9 =>
  b_asgO (md := .n) (o_callK nh (a_cons (ev_var (i := 4)) a_nil) ⟨_, _, rfl, ht9, rfl⟩) nh (show 8 < 14 by decide) (Γ2 := [cs zscript, co zpool_here, co zcauses, co zsizes_here, cn zplan_here, co zother, co zshape, co zmany, co zhanded, c0, c0, c0, c0, c0]) rfl (
  b_bind fun zfound ht10 =>
  b_asg (md := .n) (evW_n (w_call (a_cons (ev_varO (i := 7)) (a_cons (ev_varO (i := 6)) (a_cons (ev_varO (i := 8)) a_nil))) ⟨_, _, _, _, rfl, ht10, rfl⟩)) nh (show 9 < 14 by decide) (Γ2 := [cs zscript, co zpool_here, co zcauses, co zsizes_here, cn zplan_here, co zother, co zshape, co zmany, co zhanded, cn zfound, c0, c0, c0, c0]) rfl (
  b_ifR (Γ0 := noΓ) (t_or (t_cmp (e_ne (α := (List (List Int))) (ev_varO (i := 6)) (ev_varO (i := 2)))) (fun hc => (t_or (t_cmp (e_ne (α := (List Int)) (ev_varO (i := 7)) (ev_varO (i := 3)))) (fun hc => (t_cmp (e_ne (α := (List PlanT)) (ev_varO (i := 8)) (ev_h (md := .n) (ev_var (i := 4))))))))) (fun hc =>
  b_ret ev_bool) (fun hc =>
  b_bind fun t11 ht11 =>
  b_bind fun t13 ht13 =>
  b_ifR (Γ0 := noΓ) (t_orO (t_not (t_val (ev_flat (m1 := .h) (e_call (a_cons (ev_h (md := .n) (ev_var (i := 9))) a_nil) ⟨_, _, rfl, ht11, rfl⟩)))) (fun hc y hy => (have ⟨t12, ht12, hy⟩ := bind_some_iff hy; some_t hy (t_cmp (e_ne (α := (List (List (List Int)))) (ev_h (md := .n) (ev_var (i := 9))) (ev_h (md := .n) (evW_n (w_call (a_cons (ev_varO (i := 3)) (a_cons (ev_varO (i := 2)) (a_cons (ev_h (md := .n) (ev_var (i := 4))) a_nil))) ⟨_, _, _, _, rfl, ht12, rfl⟩))))))) ht13) (fun hc =>
  b_ret ev_bool) (fun hc =>
  b_bind fun t14 ht14 =>
  b_bind fun t15 ht15 =>
  b_bind fun zhanded h16 =>
  b_setitem (i := 8) rfl ev_still (e_mod (ev_flat (e_idx (ev_varO (i := 1)) ev_int ht14)) (e_len (ev_varO (i := 8))) ht15) h16 (Γ2 := [cs zscript, co zpool_here, co zcauses, co zsizes_here, cn zplan_here, co zother, co zshape, co zmany, co zhanded, cn zfound, c0, c0, c0, c0]) rfl (
  b_freeze (i := 5) rfl (Γ2 := [cs zscript, co zpool_here, co zcauses, co zsizes_here, cn zplan_here, cn zother, co zshape, co zmany, co zhanded, cn zfound, c0, c0, c0, c0]) rfl (
  b_bind fun t17 ht17 =>
  b_bind fun t18 ht18 =>
  b_asgWL (e := t18) (w_call (a_cons (ev_varO (i := 7)) (a_cons (ev_varO (i := 6)) (a_cons (ev_h (md := .n) (evO_ev (o_callK nh (a_cons (ev_var (i := 5)) a_nil) ⟨_, _, rfl, ht17, rfl⟩))) a_nil))) ⟨_, _, _, _, rfl, ht18, rfl⟩) (show 10 < 14 by decide) (Γ2 := fun zagain => [cs zscript, co zpool_here, co zcauses, co zsizes_here, cn zplan_here, cn zother, co zshape, co zmany, co zhanded, cn zfound, ct zagain, c0, c0, c0]) (fun _ => rfl) fun zagain e36 =>
  b_bind fun t19 ht19 =>
  b_bind fun t21 ht21 =>
  b_ifR (Γ0 := noΓ) (t_orO (t_not (t_val (ev_flat (m1 := .h) (e_call (a_cons (ev_varWT (i := 10)) a_nil) ⟨_, _, rfl, ht19, rfl⟩)))) (fun hc y hy => (have ⟨t20, ht20, hy⟩ := bind_some_iff hy; some_t hy (t_cmp (e_ne (α := (List (List (List Int)))) (ev_varWT (i := 10)) (ev_h (md := .n) (evW_n (w_call (a_cons (ev_varO (i := 3)) (a_cons (ev_varO (i := 2)) (a_cons (ev_h (md := .n) (ev_var (i := 5))) a_nil))) ⟨_, _, _, _, rfl, ht20, rfl⟩))))))) ht21) (fun hc =>
  b_ret ev_bool) (fun hc =>
  b_bind fun t22 ht22 =>
  b_asgWL (e := t22) (w_call (a_cons (ev_varO (i := 3)) (a_cons (ev_varO (i := 2)) (a_cons (ev_h (md := .n) (ev_var (i := 5))) a_nil))) ⟨_, _, _, _, rfl, ht22, rfl⟩) (show 11 < 14 by decide) (Γ2 := fun zdue_here => [cs zscript, co zpool_here, co zcauses, co zsizes_here, cn zplan_here, cn zother, co zshape, co zmany, co zhanded, cn zfound, ct zagain, ct zdue_here, c0, c0]) (fun _ => rfl) fun zdue_here e35 =>
  b_bind fun t23 ht23 =>
  b_for (Γ1 := fun (st : (List (List (List Int))) × (List (List (List Int)))) => match st with | (zagain, zdue_here) => [c0, c0, co zcauses, co zsizes_here, cn zplan_here, c0, co zshape, co zmany, c0, cn zfound, ct zagain, ct zdue_here, c0, c0]) (Γ2 := fun (st : (List (List (List Int))) × (List (List (List Int)))) (it : Int) => match st, it with | (zagain, zdue_here), zk => [c0, c0, co zcauses, co zsizes_here, cn zplan_here, c0, co zshape, co zmany, c0, cn zfound, ct zagain, ct zdue_here, cn zk, c0]) (i_rng1 (e_len (ev_varWT (i := 11))) ht23) (fun ⟨zagain, zdue_here⟩ zk => g_name nh (show 12 < 14 by decide)) (fun ⟨zagain, zdue_here⟩ zk =>
  b_bind fun t24 ht24 =>
  b_tapp2 (i := 11) rfl ht24 (imm_v (i := 12)) imm_c imm_c (Γ2 := fun zdue_here => [c0, c0, co zcauses, co zsizes_here, cn zplan_here, c0, co zshape, co zmany, c0, cn zfound, ct zagain, ct zdue_here, cn zk, c0]) (fun _ => rfl) fun zdue_here e25 =>
  b_bind fun t26 ht26 =>
  b_tapp2 (i := 11) rfl ht26 (imm_v (i := 12)) (imm_neg imm_c) imm_c (Γ2 := fun zdue_here => [c0, c0, co zcauses, co zsizes_here, cn zplan_here, c0, co zshape, co zmany, c0, cn zfound, ct zagain, ct zdue_here, cn zk, c0]) (fun _ => rfl) fun zdue_here e27 =>
  b_bind fun t28 ht28 =>
  b_tapp2 (i := 10) rfl ht28 (imm_v (i := 12)) imm_c imm_c (Γ2 := fun zagain => [c0, c0, co zcauses, co zsizes_here, cn zplan_here, c0, co zshape, co zmany, c0, cn zfound, ct zagain, ct zdue_here, cn zk, c0]) (fun _ => rfl) fun zagain e29 =>
  b_bind fun t30 ht30 =>
  b_tapp2 (i := 10) rfl ht30 (imm_v (i := 12)) (imm_neg imm_c) imm_c (Γ2 := fun zagain => [c0, c0, co zcauses, co zsizes_here, cn zplan_here, c0, co zshape, co zmany, c0, cn zfound, ct zagain, ct zdue_here, cn zk, c0]) (fun _ => rfl) fun zagain e31 =>
  b_end (wk_c (wk_c (wk_c (wk_c (wk_c (wk_c (wk_c (wk_c (wk_c (wk_c (wk_c (wk_c (wk_d (wk_c .nil))))))))))))))) (wk_d (wk_d (wk_c (wk_c (wk_c (wk_d (wk_c (wk_c (wk_d (wk_c (wk_c (wk_c (wk_c (wk_c .nil)))))))))))))) (fun ⟨zagain, zdue_here⟩ =>
  b_ifR (Γ0 := noΓ) (t_cmp (e_ne (α := (List (List (List Int)))) (ev_varWT (i := 10)) (ev_varWT (i := 11)))) (fun hc =>
  b_ret ev_bool) (fun hc =>
  b_bind fun t32 ht32 =>
  b_bind fun t34 ht34 =>
  b_ret (e_andO (e_eq (α := (List (List (List Int)))) (ev_h (md := .n) (ev_var (i := 9))) (ev_h (md := .n) (evW_n (w_call (a_cons (ev_varO (i := 3)) (a_cons (ev_varO (i := 2)) (a_cons (ev_h (md := .n) (ev_var (i := 4))) a_nil))) ⟨_, _, _, _, rfl, ht32, rfl⟩)))) (fun hc y hy => (have ⟨t33, ht33, hy⟩ := bind_some_iff hy; some_ev hy (e_eq (α := (List (List (List Int)))) (ev_h (md := .n) (evW_n (w_call (a_cons (ev_varO (i := 7)) (a_cons (ev_varO (i := 6)) (a_cons (ev_h (md := .n) (ev_var (i := 4))) a_nil))) ⟨_, _, _, _, rfl, ht33, rfl⟩))) (ev_h (md := .n) (ev_var (i := 9)))))) ht34))))))))))))))))))
end
set_option maxHeartbeats 4000000 in
theorem all_mk {P : Program} {w : World} {K : PySem.W.Frag} {h : Heap} {mg : Str → Option Value} {fa : Addr} (X : K.In h) (G : h.Ns mainGlobals mg) (hfa : mg "law" = some (.ref fa))
    {f0 : Addr} {od0 an0 : Option Addr} {sl0 : Array (Option Value)} {oc0 kV0 dc0 pm0 cd0 ct0 : Value}
    (a0 : PySem.W.nsIn K mainGlobals "count_of" = some (some (.ref f0))) (l0 : K.lookup f0 = some ⟨oc0, od0, .func (PySem.W.fnOf "count_of" "count_of" (defArgs (topS 1)) (defBody (topS 1)) (defScope (topS 1)) .none kV0 dc0 pm0 an0 cd0 ct0), sl0⟩) (c0 : PySem.W.codeIn K cd0 "count_of" = true) (k0 : PySem.W.keepIn K (.ref f0) = true)
    {f1 : Addr} {od1 an1 : Option Addr} {sl1 : Array (Option Value)} {oc1 kV1 dc1 pm1 cd1 ct1 : Value}
    (a1 : PySem.W.nsIn K mainGlobals "world_at" = some (some (.ref f1))) (l1 : K.lookup f1 = some ⟨oc1, od1, .func (PySem.W.fnOf "world_at" "world_at" (defArgs (topS 2)) (defBody (topS 2)) (defScope (topS 2)) .none kV1 dc1 pm1 an1 cd1 ct1), sl1⟩) (c1 : PySem.W.codeIn K cd1 "world_at" = true) (k1 : PySem.W.keepIn K (.ref f1) = true)
    {f2 : Addr} {od2 an2 : Option Addr} {sl2 : Array (Option Value)} {oc2 kV2 dc2 pm2 cd2 ct2 : Value}
    (a2 : PySem.W.nsIn K mainGlobals "worlds" = some (some (.ref f2))) (l2 : K.lookup f2 = some ⟨oc2, od2, .func (PySem.W.fnOf "worlds" "worlds" (defArgs (topS 3)) (defBody (topS 3)) (defScope (topS 3)) .none kV2 dc2 pm2 an2 cd2 ct2), sl2⟩) (c2 : PySem.W.codeIn K cd2 "worlds" = true) (k2 : PySem.W.keepIn K (.ref f2) = true)
    {f3 : Addr} {od3 an3 : Option Addr} {sl3 : Array (Option Value)} {oc3 kV3 dc3 pm3 cd3 ct3 : Value}
    (a3 : PySem.W.nsIn K mainGlobals "row_by" = some (some (.ref f3))) (l3 : K.lookup f3 = some ⟨oc3, od3, .func (PySem.W.fnOf "row_by" "row_by" (defArgs (topS 5)) (defBody (topS 5)) (defScope (topS 5)) .none kV3 dc3 pm3 an3 cd3 ct3), sl3⟩) (c3 : PySem.W.codeIn K cd3 "row_by" = true) (k3 : PySem.W.keepIn K (.ref f3) = true)
    {f4 : Addr} {od4 an4 : Option Addr} {sl4 : Array (Option Value)} {oc4 kV4 dc4 pm4 cd4 ct4 : Value}
    (a4 : PySem.W.nsIn K mainGlobals "tables_by" = some (some (.ref f4))) (l4 : K.lookup f4 = some ⟨oc4, od4, .func (PySem.W.fnOf "tables_by" "tables_by" (defArgs (topS 6)) (defBody (topS 6)) (defScope (topS 6)) .none kV4 dc4 pm4 an4 cd4 ct4), sl4⟩) (c4 : PySem.W.codeIn K cd4 "tables_by" = true) (k4 : PySem.W.keepIn K (.ref f4) = true)
    {f5 : Addr} {od5 an5 : Option Addr} {sl5 : Array (Option Value)} {oc5 kV5 dc5 pm5 cd5 ct5 : Value}
    (a5 : PySem.W.nsIn K mainGlobals "_law_pool" = some (some (.ref f5))) (l5 : K.lookup f5 = some ⟨oc5, od5, .func (PySem.W.fnOf "_law_pool" "_law_pool" (defArgs (topS 8)) (defBody (topS 8)) (defScope (topS 8)) .none kV5 dc5 pm5 an5 cd5 ct5), sl5⟩) (c5 : PySem.W.codeIn K cd5 "_law_pool" = true) (k5 : PySem.W.keepIn K (.ref f5) = true)
    {f6 : Addr} {od6 an6 : Option Addr} {sl6 : Array (Option Value)} {oc6 kV6 dc6 pm6 cd6 ct6 : Value}
    (a6 : PySem.W.nsIn K mainGlobals "_law_order" = some (some (.ref f6))) (l6 : K.lookup f6 = some ⟨oc6, od6, .func (PySem.W.fnOf "_law_order" "_law_order" (defArgs (topS 9)) (defBody (topS 9)) (defScope (topS 9)) .none kV6 dc6 pm6 an6 cd6 ct6), sl6⟩) (c6 : PySem.W.codeIn K cd6 "_law_order" = true) (k6 : PySem.W.keepIn K (.ref f6) = true)
    {f7 : Addr} {od7 an7 : Option Addr} {sl7 : Array (Option Value)} {oc7 kV7 dc7 pm7 cd7 ct7 : Value}
    (a7 : PySem.W.nsIn K mainGlobals "_law_drawn" = some (some (.ref f7))) (l7 : K.lookup f7 = some ⟨oc7, od7, .func (PySem.W.fnOf "_law_drawn" "_law_drawn" (defArgs (topS 10)) (defBody (topS 10)) (defScope (topS 10)) .none kV7 dc7 pm7 an7 cd7 ct7), sl7⟩) (c7 : PySem.W.codeIn K cd7 "_law_drawn" = true) (k7 : PySem.W.keepIn K (.ref f7) = true)
    {f8 : Addr} {od8 an8 : Option Addr} {sl8 : Array (Option Value)} {oc8 kV8 dc8 pm8 cd8 ct8 : Value}
    (a8 : PySem.W.nsIn K mainGlobals "_law_sizes" = some (some (.ref f8))) (l8 : K.lookup f8 = some ⟨oc8, od8, .func (PySem.W.fnOf "_law_sizes" "_law_sizes" (defArgs (topS 11)) (defBody (topS 11)) (defScope (topS 11)) .none kV8 dc8 pm8 an8 cd8 ct8), sl8⟩) (c8 : PySem.W.codeIn K cd8 "_law_sizes" = true) (k8 : PySem.W.keepIn K (.ref f8) = true)
    {f9 : Addr} {od9 an9 : Option Addr} {sl9 : Array (Option Value)} {oc9 kV9 dc9 pm9 cd9 ct9 : Value}
    (a9 : PySem.W.nsIn K mainGlobals "_law_plan" = some (some (.ref f9))) (l9 : K.lookup f9 = some ⟨oc9, od9, .func (PySem.W.fnOf "_law_plan" "_law_plan" (defArgs (topS 12)) (defBody (topS 12)) (defScope (topS 12)) .none kV9 dc9 pm9 an9 cd9 ct9), sl9⟩) (c9 : PySem.W.codeIn K cd9 "_law_plan" = true) (k9 : PySem.W.keepIn K (.ref f9) = true)
    {f10 : Addr} {od10 an10 : Option Addr} {sl10 : Array (Option Value)} {oc10 kV10 dc10 pm10 cd10 ct10 : Value}
    (a10 : PySem.W.nsIn K mainGlobals "_law_row" = some (some (.ref f10))) (l10 : K.lookup f10 = some ⟨oc10, od10, .func (PySem.W.fnOf "_law_row" "_law_row" (defArgs (topS 13)) (defBody (topS 13)) (defScope (topS 13)) .none kV10 dc10 pm10 an10 cd10 ct10), sl10⟩) (c10 : PySem.W.codeIn K cd10 "_law_row" = true) (k10 : PySem.W.keepIn K (.ref f10) = true)
    {f11 : Addr} {od11 an11 : Option Addr} {sl11 : Array (Option Value)} {oc11 kV11 dc11 pm11 cd11 ct11 : Value}
    (a11 : PySem.W.nsIn K mainGlobals "_law_worlds" = some (some (.ref f11))) (l11 : K.lookup f11 = some ⟨oc11, od11, .func (PySem.W.fnOf "_law_worlds" "_law_worlds" (defArgs (topS 14)) (defBody (topS 14)) (defScope (topS 14)) .none kV11 dc11 pm11 an11 cd11 ct11), sl11⟩) (c11 : PySem.W.codeIn K cd11 "_law_worlds" = true) (k11 : PySem.W.keepIn K (.ref f11) = true)
    {f12 : Addr} {od12 an12 : Option Addr} {sl12 : Array (Option Value)} {oc12 kV12 dc12 pm12 cd12 ct12 : Value}
    (a12 : PySem.W.nsIn K mainGlobals "_law_due" = some (some (.ref f12))) (l12 : K.lookup f12 = some ⟨oc12, od12, .func (PySem.W.fnOf "_law_due" "_law_due" (defArgs (topS 15)) (defBody (topS 15)) (defScope (topS 15)) .none kV12 dc12 pm12 an12 cd12 ct12), sl12⟩) (c12 : PySem.W.codeIn K cd12 "_law_due" = true) (k12 : PySem.W.keepIn K (.ref f12) = true)
    {f13 : Addr} {od13 an13 : Option Addr} {sl13 : Array (Option Value)} {oc13 kV13 dc13 pm13 cd13 ct13 : Value}
    (a13 : PySem.W.nsIn K mainGlobals "_law_kinds" = some (some (.ref f13))) (l13 : K.lookup f13 = some ⟨oc13, od13, .func (PySem.W.fnOf "_law_kinds" "_law_kinds" (defArgs (topS 16)) (defBody (topS 16)) (defScope (topS 16)) .none kV13 dc13 pm13 an13 cd13 ct13), sl13⟩) (c13 : PySem.W.codeIn K cd13 "_law_kinds" = true) (k13 : PySem.W.keepIn K (.ref f13) = true)
    {f14 : Addr} {od14 an14 : Option Addr} {sl14 : Array (Option Value)} {oc14 kV14 dc14 pm14 cd14 ct14 : Value}
    (a14 : PySem.W.nsIn K mainGlobals "_law_copied" = some (some (.ref f14))) (l14 : K.lookup f14 = some ⟨oc14, od14, .func (PySem.W.fnOf "_law_copied" "_law_copied" (defArgs (topS 17)) (defBody (topS 17)) (defScope (topS 17)) .none kV14 dc14 pm14 an14 cd14 ct14), sl14⟩) (c14 : PySem.W.codeIn K cd14 "_law_copied" = true) (k14 : PySem.W.keepIn K (.ref f14) = true)
    {f15 : Addr} {od15 an15 : Option Addr} {sl15 : Array (Option Value)} {oc15 kV15 dc15 pm15 cd15 ct15 : Value}
    (a15 : PySem.W.nsIn K mainGlobals "law" = some (some (.ref f15))) (l15 : K.lookup f15 = some ⟨oc15, od15, .func (PySem.W.fnOf "law" "law" (defArgs (topS 18)) (defBody (topS 18)) (defScope (topS 18)) .none kV15 dc15 pm15 an15 cd15 ct15), sl15⟩) (c15 : PySem.W.codeIn K cd15 "law" = true) (k15 : PySem.W.keepIn K (.ref f15) = true)
    (z_bool : PySem.W.nsIn K mainGlobals "bool" = some none)
    (z_int : PySem.W.nsIn K mainGlobals "int" = some none)
    (z_isinstance : PySem.W.nsIn K mainGlobals "isinstance" = some none)
    (z_len : PySem.W.nsIn K mainGlobals "len" = some none)
    (z_list : PySem.W.nsIn K mainGlobals "list" = some none)
    (z_max : PySem.W.nsIn K mainGlobals "max" = some none)
    (z_range : PySem.W.nsIn K mainGlobals "range" = some none)
    (z_reversed : PySem.W.nsIn K mainGlobals "reversed" = some none)
    (z_sorted : PySem.W.nsIn K mainGlobals "sorted" = some none)
    (z_sum : PySem.W.nsIn K mainGlobals "sum" = some none)
    : ∃ fd : FuncData, (∀ (s : Shared) (v : Value), BindsTo s fd ⟨[v], []⟩ [("_law_script", v)]) ∧ ∀ base : Heap, K.In base → base.Ns mainGlobals mg → FnOk P w K mg base CX0 4 fa fd ["_law_script"] (sp_law K) := by
  have e := hfa.symm.trans (PySem.W.mg_of X G a15)
  cases e
  have F0 := fun_mk (st := topS 1) l0 c0 k0
  have b0 := F0.binds (ps := ["sizes"]) fun _ _ _ _ _ _ us hl => match us, hl with | [_], _ => rfl
  have F1 := fun_mk (st := topS 2) l1 c1 k1
  have b1 := F1.binds (ps := ["sizes", "place"]) fun _ _ _ _ _ _ us hl => match us, hl with | [_, _], _ => rfl
  have F2 := fun_mk (st := topS 3) l2 c2 k2
  have b2 := F2.binds (ps := ["sizes"]) fun _ _ _ _ _ _ us hl => match us, hl with | [_], _ => rfl
  have F3 := fun_mk (st := topS 5) l3 c3 k3
  have b3 := F3.binds (ps := ["size", "own", "values", "told"]) fun _ _ _ _ _ _ us hl => match us, hl with | [_, _, _, _], _ => rfl
  have F4 := fun_mk (st := topS 6) l4 c4 k4
  have b4 := F4.binds (ps := ["sizes", "causes", "plan"]) fun _ _ _ _ _ _ us hl => match us, hl with | [_, _, _], _ => rfl
  have F5 := fun_mk (st := topS 8) l5 c5 k5
  have b5 := F5.binds (ps := ["_law_script", "_law_many"]) fun _ _ _ _ _ _ us hl => match us, hl with | [_, _], _ => rfl
  have F6 := fun_mk (st := topS 9) l6 c6 k6
  have b6 := F6.binds (ps := ["_law_pool_here", "_law_many"]) fun _ _ _ _ _ _ us hl => match us, hl with | [_, _], _ => rfl
  have F7 := fun_mk (st := topS 10) l7 c7 k7
  have b7 := F7.binds (ps := ["_law_pool_here", "_law_many"]) fun _ _ _ _ _ _ us hl => match us, hl with | [_, _], _ => rfl
  have F8 := fun_mk (st := topS 11) l8 c8 k8
  have b8 := F8.binds (ps := ["_law_causes", "_law_pool_here"]) fun _ _ _ _ _ _ us hl => match us, hl with | [_, _], _ => rfl
  have F9 := fun_mk (st := topS 12) l9 c9 k9
  have b9 := F9.binds (ps := ["_law_causes", "_law_pool_here", "_law_first"]) fun _ _ _ _ _ _ us hl => match us, hl with | [_, _, _], _ => rfl
  have F10 := fun_mk (st := topS 13) l10 c10 k10
  have b10 := F10.binds (ps := ["_law_size", "_law_own", "_law_values", "_law_told_of"]) fun _ _ _ _ _ _ us hl => match us, hl with | [_, _, _, _], _ => rfl
  have F11 := fun_mk (st := topS 14) l11 c11 k11
  have b11 := F11.binds (ps := ["_law_sizes_here"]) fun _ _ _ _ _ _ us hl => match us, hl with | [_], _ => rfl
  have F12 := fun_mk (st := topS 15) l12 c12 k12
  have b12 := F12.binds (ps := ["_law_sizes_here", "_law_causes", "_law_plan_here"]) fun _ _ _ _ _ _ us hl => match us, hl with | [_, _, _], _ => rfl
  have F13 := fun_mk (st := topS 16) l13 c13 k13
  have b13 := F13.binds (ps := ["_law_found"]) fun _ _ _ _ _ _ us hl => match us, hl with | [_], _ => rfl
  have F14 := fun_mk (st := topS 17) l14 c14 k14
  have b14 := F14.binds (ps := ["_law_plan_here"]) fun _ _ _ _ _ _ us hl => match us, hl with | [_], _ => rfl
  have F15 := fun_mk (st := topS 18) l15 c15 k15
  have b15 := F15.binds (ps := ["_law_script"]) fun _ _ _ _ _ _ us hl => match us, hl with | [_], _ => rfl
  let T : Txt K mg := { a_count_of := _, d_count_of := _, F_count_of := F0, b_count_of := b0, g_count_of := PySem.W.mg_of X G a0, a_world_at := _, d_world_at := _, F_world_at := F1, b_world_at := b1, g_world_at := PySem.W.mg_of X G a1, a_worlds := _, d_worlds := _, F_worlds := F2, b_worlds := b2, g_worlds := PySem.W.mg_of X G a2, a_row_by := _, d_row_by := _, F_row_by := F3, b_row_by := b3, g_row_by := PySem.W.mg_of X G a3, a_tables_by := _, d_tables_by := _, F_tables_by := F4, b_tables_by := b4, g_tables_by := PySem.W.mg_of X G a4, a__law_pool := _, d__law_pool := _, F__law_pool := F5, b__law_pool := b5, g__law_pool := PySem.W.mg_of X G a5, a__law_order := _, d__law_order := _, F__law_order := F6, b__law_order := b6, g__law_order := PySem.W.mg_of X G a6, a__law_drawn := _, d__law_drawn := _, F__law_drawn := F7, b__law_drawn := b7, g__law_drawn := PySem.W.mg_of X G a7, a__law_sizes := _, d__law_sizes := _, F__law_sizes := F8, b__law_sizes := b8, g__law_sizes := PySem.W.mg_of X G a8, a__law_plan := _, d__law_plan := _, F__law_plan := F9, b__law_plan := b9, g__law_plan := PySem.W.mg_of X G a9, a__law_row := _, d__law_row := _, F__law_row := F10, b__law_row := b10, g__law_row := PySem.W.mg_of X G a10, a__law_worlds := _, d__law_worlds := _, F__law_worlds := F11, b__law_worlds := b11, g__law_worlds := PySem.W.mg_of X G a11, a__law_due := _, d__law_due := _, F__law_due := F12, b__law_due := b12, g__law_due := PySem.W.mg_of X G a12, a__law_kinds := _, d__law_kinds := _, F__law_kinds := F13, b__law_kinds := b13, g__law_kinds := PySem.W.mg_of X G a13, a__law_copied := _, d__law_copied := _, F__law_copied := F14, b__law_copied := b14, g__law_copied := PySem.W.mg_of X G a14, a_law := _, d_law := _, F_law := F15, b_law := b15, g_law := PySem.W.mg_of X G a15, b_bool := PySem.W.mg_none_of X G z_bool, b_int := PySem.W.mg_none_of X G z_int, b_isinstance := PySem.W.mg_none_of X G z_isinstance, b_len := PySem.W.mg_none_of X G z_len, b_list := PySem.W.mg_none_of X G z_list, b_max := PySem.W.mg_none_of X G z_max, b_range := PySem.W.mg_none_of X G z_range, b_reversed := PySem.W.mg_none_of X G z_reversed, b_sorted := PySem.W.mg_none_of X G z_sorted, b_sum := PySem.W.mg_none_of X G z_sum }
  exact ⟨_, fun s v => .of_eq rfl, fun base _ _ => ok_law T⟩
end K41
open PySem PySem.W PyProof.Rows
set_option maxRecDepth 100000 in
set_option maxHeartbeats 0 in
theorem PySem.Challenge.cw_causebook_k41_tables_of_plans_holds : PySem.Challenge.rw_causebook_k41_tables_of_plans.Holds := by
  w_on; o_law; k_head; (case hw => w_witness2)
  k_fill
  refine L2.walk_of (l := PySem.Challenge.rw_causebook_k41_tables_of_plans) (n := 63) (k := 4) (x := "_law_script") (CX := fun _ => L2.CX0) (sp := fun w => K41.sp_law _) rfl (by decide) rfl ⟨rfl, by decide, by decide⟩ (fun w h Y => PySem.W.kIn_of Y) ?F (fun w H a ns hl hO hS => Mir.law_end (K41.law_true ns hl) hS) (fun _ _ _ _ _ h => h)
  case F =>
    intro w mg fa h KX G hmg
    refine' K41.all_mk KX G hmg ?a0 ?l0 ?c0 ?k0 ?a1 ?l1 ?c1 ?k1 ?a2 ?l2 ?c2 ?k2 ?a3 ?l3 ?c3 ?k3 ?a4 ?l4 ?c4 ?k4 ?a5 ?l5 ?c5 ?k5 ?a6 ?l6 ?c6 ?k6 ?a7 ?l7 ?c7 ?k7 ?a8 ?l8 ?c8 ?k8 ?a9 ?l9 ?c9 ?k9 ?a10 ?l10 ?c10 ?k10 ?a11 ?l11 ?c11 ?k11 ?a12 ?l12 ?c12 ?k12 ?a13 ?l13 ?c13 ?k13 ?a14 ?l14 ?c14 ?k14 ?a15 ?l15 ?c15 ?k15 ?z_bool ?z_int ?z_isinstance ?z_len ?z_list ?z_max ?z_range ?z_reversed ?z_sorted ?z_sum
    (case a0 => k_is); (case l0 => k_is); (case c0 => k_is); (case k0 => k_is); (case a1 => k_is); (case l1 => k_is); (case c1 => k_is); (case k1 => k_is); (case a2 => k_is); (case l2 => k_is); (case c2 => k_is); (case k2 => k_is); (case a3 => k_is); (case l3 => k_is); (case c3 => k_is); (case k3 => k_is); (case a4 => k_is); (case l4 => k_is); (case c4 => k_is); (case k4 => k_is); (case a5 => k_is); (case l5 => k_is); (case c5 => k_is); (case k5 => k_is); (case a6 => k_is); (case l6 => k_is); (case c6 => k_is); (case k6 => k_is); (case a7 => k_is); (case l7 => k_is); (case c7 => k_is); (case k7 => k_is); (case a8 => k_is); (case l8 => k_is); (case c8 => k_is); (case k8 => k_is); (case a9 => k_is); (case l9 => k_is); (case c9 => k_is); (case k9 => k_is); (case a10 => k_is); (case l10 => k_is); (case c10 => k_is); (case k10 => k_is); (case a11 => k_is); (case l11 => k_is); (case c11 => k_is); (case k11 => k_is); (case a12 => k_is); (case l12 => k_is); (case c12 => k_is); (case k12 => k_is); (case a13 => k_is); (case l13 => k_is); (case c13 => k_is); (case k13 => k_is); (case a14 => k_is); (case l14 => k_is); (case c14 => k_is); (case k14 => k_is); (case a15 => k_is); (case l15 => k_is); (case c15 => k_is); (case k15 => k_is); (case z_bool => k_is); (case z_int => k_is); (case z_isinstance => k_is); (case z_len => k_is); (case z_list => k_is); (case z_max => k_is); (case z_range => k_is); (case z_reversed => k_is); (case z_sorted => k_is); (case z_sum => k_is)
