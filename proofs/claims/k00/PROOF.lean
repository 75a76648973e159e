import PyProof.Rows.All
import Wide.All
import OpenK.AllK
import Wide.FinOn
import PyProof.EqAt
import PyProof.EqKinds
import PyProof.TupleCall
import KE.KStateDown
import HandS.ForMost
import HandS.ForExc
import HandS.Style
import HandS.Flow
import HandS.IsInst
import HandS.ExcIs
import HandS.Zip
import HandS.Wide
import HandS.WideBits
import HandS.Steps
import HandS.Defaults
import HandS.EndBits
import HandS.Head0
import HandS.Head1
import HandS.Head2
import HandS.HeadEnd
import HandS.HeadHook1
import HandS.HeadHook2
import HandS.HeadHook3
import HandS.HeadHook4
import PySem.Challenge.RW_paritypool_k00_inverse
set_option Elab.async false
set_option linter.all false
set_option maxRecDepth 100000
set_option maxHeartbeats 2000000
namespace Pp
open PySem L2

/-! ### the symbolic heap -/
abbrev Cell := Addr × HO
/-- the heap without the cells -/
def hide (H : Hp) (L : List Cell) : Hp := fun a => if a ∈ L.map (·.1) then none else H a
theorem hide_in {H : Hp} {L : List Cell} {a : Addr} (h : a ∈ L.map (·.1)) : hide H L a = none := if_pos h
theorem hide_out {H : Hp} {L : List Cell} {a : Addr} (h : a ∉ L.map (·.1)) : hide H L a = H a := if_neg h
theorem hide_le {H : Hp} {L : List Cell} {a : Addr} {o : HO} (h : hide H L a = some o) : H a = some o := by
  unfold hide at h; split at h
  · cases h
  · exact h
def Le (H H' : Hp) : Prop := ∀ a o, H a = some o → H' a = some o
theorem Le.refl (H : Hp) : Le H H := fun _ _ h => h
theorem Le.trans {A B C : Hp} (x : Le A B) (y : Le B C) : Le A C := fun a o h => y a o (x a o h)
theorem le_new {H : Hp} {p : Addr} {o : HO} (n : H p = none) : Le H (upd H p o) := fun a u e => by
  rw [upd_ne (ne_of_none e n)]; exact e
theorem sqL_le {K : PySem.W.Frag} {H H' : Hp} {a : Addr} {xs : List V} (e : Le H H') (h : SqL K H a xs) : SqL K H' a xs := by
  rcases h with (h | ⟨o, h⟩) | h
  · exact .inl (.inl (e _ _ h))
  · exact .inl (.inr ⟨o, e _ _ h⟩)
  · exact .inr h
theorem sqT_le {K : PySem.W.Frag} {H H' : Hp} {a : Addr} {xs : List V} (e : Le H H') (h : SqT K H a xs) : SqT K H' a xs := by
  rcases h with (h | ⟨o, h⟩) | h
  · exact .inl (.inl (e _ _ h))
  · exact .inl (.inr ⟨o, e _ _ h⟩)
  · exact .inr h
mutual
theorem dp_le {K : PySem.W.Frag} {H H' : Hp} (e : Le H H') : ∀ {v : V} {d : PyData}, Dp K H v d → Dp K H' v d
  | _, _, .non => .non
  | _, _, .bl b => .bl b
  | _, _, .int i => .int i
  | _, _, .str x => .str x
  | _, _, .lst h1 h2 => .lst (sqL_le e h1) (dpAll_le e h2)
  | _, _, .tup h1 h2 => .tup (sqT_le e h1) (dpAll_le e h2)
theorem dpAll_le {K : PySem.W.Frag} {H H' : Hp} (e : Le H H') : ∀ {vs : List V} {ds : List PyData}, DpAll K H vs ds → DpAll K H' vs ds
  | _, _, .nil => .nil
  | _, _, .cons h1 h2 => .cons (dp_le e h1) (dpAll_le e h2)
end
theorem DpAll.len {K : PySem.W.Frag} {H : Hp} : ∀ {vs : List V} {ds : List PyData}, DpAll K H vs ds → vs.length = ds.length
  | _, _, .nil => rfl
  | _, _, .cons _ h => congrArg Nat.succ (DpAll.len h)
theorem DpAll.get {K : PySem.W.Frag} {H : Hp} : ∀ {vs : List V} {ds : List PyData} {i : Nat} {v : V}, DpAll K H vs ds → vs[i]? = some v → ∃ d, ds[i]? = some d ∧ Dp K H v d
  | _, _, _, _, .nil, e => by simp at e
  | _, _, 0, _, .cons h _, e => by simp at e; subst e; exact ⟨_, rfl, h⟩
  | _, _, i + 1, v, .cons _ h, e => by
    obtain ⟨d, h1, h2⟩ := DpAll.get (i := i) h (by simpa using e)
    exact ⟨d, by simpa using h1, h2⟩
theorem DpAll.getD {K : PySem.W.Frag} {H : Hp} : ∀ {vs : List V} {ds : List PyData} {i : Nat} {d : PyData}, DpAll K H vs ds → ds[i]? = some d → ∃ v, vs[i]? = some v ∧ Dp K H v d
  | _, _, _, _, .nil, e => by simp at e
  | _, _, 0, _, .cons h _, e => by simp at e; subst e; exact ⟨_, rfl, h⟩
  | _, _, i + 1, v, .cons _ h, e => by
    obtain ⟨d, h1, h2⟩ := DpAll.getD (i := i) h (by simpa using e)
    exact ⟨d, by simpa using h1, h2⟩
theorem DpAll.append {K : PySem.W.Frag} {H : Hp} : ∀ {vs ws : List V} {ds es : List PyData}, DpAll K H vs ds → DpAll K H ws es → DpAll K H (vs ++ ws) (ds ++ es)
  | _, _, _, _, .nil, s => s
  | _, _, _, _, .cons r t, s => .cons r (DpAll.append t s)
theorem DpAll.ints {K : PySem.W.Frag} {H : Hp} : ∀ (ns : List Int), DpAll K H (ns.map V.int) (ns.map PyData.int)
  | [] => .nil
  | n :: ns => .cons (.int n) (DpAll.ints ns)
theorem DpAll.ints_of {K : PySem.W.Frag} {H : Hp} : ∀ {ns : List Int} {vs : List V}, DpAll K H vs (ns.map PyData.int) → vs = ns.map V.int
  | [], _, .nil => rfl
  | n :: ns, _, .cons h t => by
    cases h
    rw [DpAll.ints_of t]; rfl
theorem DpAll.set {K : PySem.W.Frag} {H : Hp} {v : V} {d : PyData} (r : Dp K H v d) : ∀ {vs : List V} {ds : List PyData} (i : Nat), DpAll K H vs ds → DpAll K H (vs.set i v) (ds.set i d)
  | _, _, _, .nil => .nil
  | _, _, 0, .cons _ t => .cons r t
  | _, _, i + 1, .cons q t => .cons q (DpAll.set r i t)

/-- the data of a new object and of what it needs, at addresses that were free -/
abbrev Fact := List V × List PyData
structure Kn (K : PySem.W.Frag) (H0 : Hp) (M : List Addr) (H : Hp) (L : List Cell) (F : List Fact) : Prop where
  cell : ∀ p ∈ L, H p.1 = some p.2
  nd : (L.map (·.1)).Nodup
  own : ∀ p ∈ L, H0 p.1 = none ∨ p.1 ∈ M
  fr : ∀ a o, H0 a = some o → a ∉ M → H a = some o
  fact : ∀ f ∈ F, DpAll K (hide H L) f.1 f.2
section
variable {K : PySem.W.Frag} {H0 H H' : Hp} {M : List Addr} {L : List Cell} {F : List Fact} {a p : Addr} {o : HO} {i j : Nat} {v : V} {d : PyData}
theorem Kn.at (k : Kn K H0 M H L F) (i : Nat) {a : Addr} {o : HO} (h : L[i]? = some (a, o)) : H a = some o := k.cell (a, o) (List.mem_of_getElem? h)
theorem Kn.le0 (k : Kn K H0 [] H L F) : Le H0 H := fun a o h => k.fr a o h (by simp)
theorem Kn.dps (k : Kn K H0 M H L F) (i : Nat) {vs : List V} {ds : List PyData} (h : F[i]? = some (vs, ds)) : DpAll K H vs ds :=
  dpAll_le (fun _ _ e => hide_le e) (k.fact (vs, ds) (List.mem_of_getElem? h))
theorem Kn.dpsZ (k : Kn K H0 M H L F) (i : Nat) {vs : List V} {ds : List PyData} (h : F[i]? = some (vs, ds)) : DpAll K (hide H L) vs ds :=
  k.fact (vs, ds) (List.mem_of_getElem? h)
theorem Kn.dp (k : Kn K H0 M H L F) (i : Nat) {v : V} {d : PyData} (h : F[i]? = some ([v], [d])) : Dp K H v d := by
  cases k.dps i h with
  | cons h _ => exact h
theorem Kn.dpZ (k : Kn K H0 M H L F) (i : Nat) {v : V} {d : PyData} (h : F[i]? = some ([v], [d])) : Dp K (hide H L) v d := by
  cases k.dpsZ i h with
  | cons h _ => exact h
theorem hide_upd_new {H : Hp} {L : List Cell} {p : Addr} {o : HO} (n : H p = none) : hide (upd H p o) (L ++ [(p, o)]) = hide H L := by
  funext b
  unfold hide
  by_cases e : b = p
  · subst e
    rw [if_pos (by simp)]
    split
    · rfl
    · exact n.symm
  · rw [upd_ne e]
    by_cases h : b ∈ L.map (·.1)
    · rw [if_pos h, if_pos (by simp only [List.map_append, List.mem_append]; exact .inl h)]
    · rw [if_neg h, if_neg (by simp only [List.map_append, List.mem_append, List.map_cons, List.map_nil, List.mem_singleton]; intro z; exact z.elim h e)]
/-- a new object, kept as a cell -/
theorem Kn.new (k : Kn K H0 M H L F) (n : H p = none) : Kn K H0 M (upd H p o) (L ++ [(p, o)]) F where
  cell := fun q hq => by
    rcases List.mem_append.mp hq with h | h
    · rw [upd_ne (ne_of_none (k.cell q h) n)]; exact k.cell q h
    · obtain rfl := List.mem_singleton.mp h; exact upd_same
  nd := by
    rw [List.map_append, List.nodup_append]
    refine ⟨k.nd, by simp, fun x hx y hy e => ?_⟩
    obtain ⟨q, hq, rfl⟩ := List.mem_map.mp hx
    have : y = p := by simpa using hy
    subst this
    exact ne_of_none (k.cell q hq) n e
  own := fun q hq => by
    rcases List.mem_append.mp hq with h | h
    · exact k.own q h
    · obtain rfl := List.mem_singleton.mp h
      cases e : H0 p with
      | none => exact .inl rfl
      | some u =>
        by_cases hm : p ∈ M
        · exact .inr hm
        · have := k.fr p u e hm
          rw [n] at this; cases this
  fr := fun b u e hm => by
    have := k.fr b u e hm
    rw [upd_ne (ne_of_none this n)]; exact this
  fact := fun f hf => by rw [hide_upd_new n]; exact k.fact f hf
theorem map_set_fst {L : List Cell} {i : Nat} {a : Addr} {o o' : HO} (h : L[i]? = some (a, o)) : (L.set i (a, o')).map (·.1) = L.map (·.1) := by
  rw [List.map_set]
  refine List.ext_getElem? fun j => ?_
  by_cases e : i = j
  · subst e
    have hl : i < L.length := (List.getElem?_eq_some_iff.mp h).1
    rw [List.getElem?_set_self (by simpa using hl), List.getElem?_map, h]; rfl
  · rw [List.getElem?_set_ne e]
theorem hide_set {H : Hp} {L : List Cell} {i : Nat} {a : Addr} {o o' : HO} (h : L[i]? = some (a, o)) : hide (upd H a o') (L.set i (a, o')) = hide H L := by
  funext b
  unfold hide
  rw [map_set_fst h]
  by_cases hb : b ∈ L.map (·.1)
  · rw [if_pos hb, if_pos hb]
  · rw [if_neg hb, if_neg hb]
    refine upd_ne ?_
    rintro rfl
    exact hb (List.mem_map.mpr ⟨_, List.mem_of_getElem? h, rfl⟩)
/-- a cell is changed -/
theorem Kn.set (k : Kn K H0 M H L F) (i : Nat) {a : Addr} {o o' : HO} (h : L[i]? = some (a, o)) : Kn K H0 M (upd H a o') (L.set i (a, o')) F where
  cell := fun q hq => by
    obtain ⟨j, hj⟩ := List.getElem?_of_mem hq
    by_cases e : i = j
    · subst e
      have hl : i < L.length := (List.getElem?_eq_some_iff.mp h).1
      rw [List.getElem?_set_self hl] at hj
      cases hj
      exact upd_same
    · rw [List.getElem?_set_ne e] at hj
      have hm := List.mem_of_getElem? hj
      have ne : q.1 ≠ a := fun z => e (nd_ix k.nd (x := a) (by rw [List.getElem?_map, h]; rfl) (by rw [List.getElem?_map, hj]; exact congrArg some z))
      rw [upd_ne ne]
      exact k.cell q hm
  nd := by rw [map_set_fst h]; exact k.nd
  own := fun q hq => by
    have : q.1 ∈ (L.set i (a, o')).map (·.1) := List.mem_map.mpr ⟨q, hq, rfl⟩
    rw [map_set_fst h] at this
    obtain ⟨r, hr, e⟩ := List.mem_map.mp this
    rw [← e]; exact k.own r hr
  fr := fun b u e hm => by
    have q := k.fr b u e hm
    have ne : b ≠ a := by
      rintro rfl
      rcases k.own _ (List.mem_of_getElem? h) with z | z
      · rw [e] at z; cases z
      · exact hm z
    rw [upd_ne ne]; exact q
  fact := fun f hf => by rw [hide_set h]; exact k.fact f hf
/-- a call that leaves all as it was -/
theorem Kn.grow (k : Kn K H0 M H L F) (s : Le H H') : Kn K H0 M H' L F where
  cell := fun q hq => s _ _ (k.cell q hq)
  nd := k.nd
  own := k.own
  fr := fun b u e hm => s _ _ (k.fr b u e hm)
  fact := fun f hf => dpAll_le (fun b u e => by
    by_cases hb : b ∈ L.map (·.1)
    · rw [hide_in hb] at e; cases e
    · rw [hide_out hb] at e ⊢; exact s _ _ e) (k.fact f hf)
theorem Kn.hide_le_grow (s : Le H H') : Le (hide H L) (hide H' L) := fun b u e => by
    by_cases hb : b ∈ L.map (·.1)
    · rw [hide_in hb] at e; cases e
    · rw [hide_out hb] at e ⊢; exact s _ _ e
theorem Kn.say (k : Kn K H0 M H L F) {vs : List V} {ds : List PyData} (h : DpAll K (hide H L) vs ds) : Kn K H0 M H L (F ++ [(vs, ds)]) where
  cell := k.cell
  nd := k.nd
  own := k.own
  fr := k.fr
  fact := fun f hf => by
    rcases List.mem_append.mp hf with z | z
    · exact k.fact f z
    · obtain rfl := List.mem_singleton.mp z; exact h
theorem Kn.say1 (k : Kn K H0 M H L F) {v : V} {d : PyData} (h : Dp K (hide H L) v d) : Kn K H0 M H L (F ++ [([v], [d])]) := k.say (.cons h .nil)
theorem Kn.only (k : Kn K H0 M H L F) {F' : List Fact} (h : ∀ f ∈ F', f ∈ F) : Kn K H0 M H L F' := ⟨k.cell, k.nd, k.own, k.fr, fun f hf => k.fact f (h f hf)⟩
theorem Kn.take (k : Kn K H0 M H L F) (n : Nat) : Kn K H0 M H L (F.take n) := k.only fun _ h => List.mem_of_mem_take h
/-- the last cell is let go: it is data from now on -/
theorem hide_le_snoc {H : Hp} {L : List Cell} {c : Cell} : Le (hide H (L ++ [c])) (hide H L) := fun b u e => by
  by_cases hb : b ∈ (L ++ [c]).map (·.1)
  · rw [hide_in hb] at e; cases e
  · rw [hide_out hb] at e
    rw [hide_out (fun z => hb (by rw [List.map_append]; exact List.mem_append_left _ z))]; exact e
theorem Kn.drop (k : Kn K H0 M H (L ++ [(p, o)]) F) : Kn K H0 M H L F where
  cell := fun q hq => k.cell q (List.mem_append_left _ hq)
  nd := by have := k.nd; rw [List.map_append, List.nodup_append] at this; exact this.1
  own := fun q hq => k.own q (List.mem_append_left _ hq)
  fr := k.fr
  fact := fun f hf => dpAll_le hide_le_snoc (k.fact f hf)
theorem Kn.last_at (k : Kn K H0 M H (L ++ [(p, o)]) F) : hide H L p = some o := by
  have nd := k.nd
  rw [List.map_append, List.nodup_append] at nd
  rw [hide_out (fun z => nd.2.2 _ z p (by simp) rfl)]
  exact k.cell (p, o) (by simp)
theorem Kn.freezeL {vs : List V} {ds : List PyData} (k : Kn K H0 M H (L ++ [(p, .lst vs)]) F) (h : DpAll K (hide H (L ++ [(p, .lst vs)])) vs ds) : Kn K H0 M H L (F ++ [([.ref p], [.list ds])]) :=
  k.drop.say1 (.lst (.inl (.inl k.last_at)) (dpAll_le hide_le_snoc h))
theorem Kn.freezeI {ns : List Int} (k : Kn K H0 M H (L ++ [(p, .lst (ns.map V.int))]) F) : Kn K H0 M H L (F ++ [([.ref p], [.list (ns.map PyData.int)])]) :=
  k.freezeL (DpAll.ints ns)
/-- the first cell -/
theorem Kn.nil (K : PySem.W.Frag) (H : Hp) : Kn K H [] H [] [] := ⟨fun _ h => (nomatch h), List.nodup_nil, fun _ h => (nomatch h), fun _ _ e _ => e, fun _ h => (nomatch h)⟩
theorem Kn.one {a : Addr} {o : HO} (h : H a = some o) : Kn K H [a] H [(a, o)] [] :=
  ⟨fun q hq => by obtain rfl := List.mem_singleton.mp hq; exact h, by simp, fun q hq => by obtain rfl := List.mem_singleton.mp hq; exact .inr (by simp), fun _ _ e _ => e, fun _ h => (nomatch h)⟩
theorem Kn.of (hf : ∀ f ∈ F, DpAll K H f.1 f.2) : Kn K H [] H [] F :=
  ⟨fun _ h => (nomatch h), List.nodup_nil, fun _ h => (nomatch h), fun _ _ e _ => e, fun f hf' => dpAll_le (fun b u e => by rw [hide_out (by simp)]; exact e) (hf f hf')⟩
theorem Dp.listI {ns : List Int} (h : Dp K H (.ref a) (.list (ns.map PyData.int))) : SqL K H a (ns.map V.int) := by
  cases h with
  | lst h1 h2 => rw [← DpAll.ints_of h2]; exact h1
theorem Dp.ofI {ns : List Int} (h : SqL K H a (ns.map V.int)) : Dp K H (.ref a) (.list (ns.map PyData.int)) := .lst h (DpAll.ints ns)
theorem Dp.list {ds : List PyData} (h : Dp K H v (.list ds)) : ∃ a vs, v = .ref a ∧ SqL K H a vs ∧ DpAll K H vs ds := by
  cases h with
  | lst h1 h2 => exact ⟨_, _, rfl, h1, h2⟩
theorem Dp.tuple {ds : List PyData} (h : Dp K H v (.tuple ds)) : ∃ a vs, v = .ref a ∧ SqT K H a vs ∧ DpAll K H vs ds := by
  cases h with
  | tup h1 h2 => exact ⟨_, _, rfl, h1, h2⟩
theorem Dp.int_of {n : Int} (h : Dp K H v (.int n)) : v = .int n := by cases h; rfl
theorem Dp.bool_of {n : Bool} (h : Dp K H v (.bool n)) : v = .bl n := by cases h; rfl
theorem Dp.none_of (h : Dp K H v .none) : v = .non := by cases h; rfl
theorem Dp.str_of {n : Str} (h : Dp K H v (.str n)) : v = .str n := by cases h; rfl
end

/-! ### readings, one step -/
section
variable {σ : St} {H : Hp} {Q : VK} {te ta tb tc : TE} {t u : TS} {n b c : St → Hp → Prop} {r : VK} {g : TG} {tt tu : TT} {x y v : V} {D : Ends}
theorem rd_seq (h : t ⟨u ⟨n, r, b, c⟩, r, b, c⟩ σ H) : tSeq t u ⟨n, r, b, c⟩ σ H := h
theorem rd_cut (M : St → Hp → Prop) (h1 : ∀ N : St → Hp → Prop, (∀ σ' H', M σ' H' → N σ' H') → t ⟨N, r, b, c⟩ σ H) (h2 : ∀ σ' H', M σ' H' → u ⟨n, r, b, c⟩ σ' H') : tSeq t u ⟨n, r, b, c⟩ σ H := h1 _ h2
theorem rd_seqA (h : te σ H fun x H1 => g x σ H1 (u ⟨n, r, b, c⟩)) : tSeq (tAsg te g) u ⟨n, r, b, c⟩ σ H := h
theorem rd_seqD (h : te σ H fun _ H1 => u ⟨n, r, b, c⟩ σ H1) : tSeq (tDrop te) u ⟨n, r, b, c⟩ σ H := h
theorem rd_asg (h : te σ H fun x H1 => g x σ H1 n) : tAsg te g ⟨n, r, b, c⟩ σ H := h
theorem rd_name {i : Nat} {Q : St → Hp → Prop} (h : Q (σ.set i (some v)) H) : gName i v σ H Q := h
theorem rd_ret (h : te σ H r) : tRet te ⟨n, r, b, c⟩ σ H := h
theorem rd_retN (h : r .non H) : tRetN ⟨n, r, b, c⟩ σ H := h
theorem rd_next (h : n σ H) : tNext ⟨n, r, b, c⟩ σ H := h
theorem rd_brk (h : b σ H) : tBreak ⟨n, r, b, c⟩ σ H := h
theorem rd_cont (h : c σ H) : tCont ⟨n, r, b, c⟩ σ H := h
theorem rd_drop (h : te σ H fun _ H1 => n σ H1) : tDrop te ⟨n, r, b, c⟩ σ H := h
theorem rd_ifS (h : tt σ H fun b H1 => if b = true then t D σ H1 else u D σ H1) : tIfS tt t u D σ H := h
theorem rd_var {i : Nat} (h : σ[i]? = some (some v)) (q : Q v H) : tVar i σ H Q := ⟨v, h, q⟩
theorem rd_c (q : Q v H) : tC v σ H Q := q
theorem rd_op {rr : R2} (h : ta σ H fun x H1 => tb σ H1 fun y H2 => rr x y H2 Q) : tOp rr ta tb σ H Q := h
theorem rd_un {rr : V → Hp → VK → Prop} (h : ta σ H fun x H1 => rr x H1 Q) : tUn rr ta σ H Q := h
theorem rd_I0 {f : Int → Int → V} {i j : Int} (h : Q (f i j) H) : rI0 f (.int i) (.int j) H Q := ⟨i, j, rfl, rfl, h⟩
theorem rd_I {C : Int → Int → Prop} {f : Int → Int → V} {i j : Int} (hc : C i j) (h : Q (f i j) H) : rI C f (.int i) (.int j) H Q := ⟨i, j, rfl, rfl, hc, h⟩
theorem rd_U {f : Int → V} {i : Int} (h : Q (f i) H) : rU f (.int i) H Q := ⟨i, rfl, h⟩
theorem rd_eqI {i j : Int} (h : Q (.bl (decide (i = j))) H) : rEq (.int i) (.int j) H Q := ⟨rfl, by
  have : decide (V.int i = V.int j) = decide (i = j) := by simp
  rw [this]; exact h⟩
theorem rd_neI {i j : Int} (h : Q (.bl (!decide (i = j))) H) : rNe (.int i) (.int j) H Q := ⟨rfl, by
  have : decide (V.int i = V.int j) = decide (i = j) := by simp
  rw [this]; exact h⟩
theorem rd_eqS {i j : Str} (h : Q (.bl (decide (i = j))) H) : rEq (.str i) (.str j) H Q := ⟨rfl, by
  have : decide (V.str i = V.str j) = decide (i = j) := by simp
  rw [this]; exact h⟩
theorem rd_neS {i j : Str} (h : Q (.bl (!decide (i = j))) H) : rNe (.str i) (.str j) H Q := ⟨rfl, by
  have : decide (V.str i = V.str j) = decide (i = j) := by simp
  rw [this]; exact h⟩
theorem rd_eqB {i j : Bool} (h : Q (.bl (decide (i = j))) H) : rEq (.bl i) (.bl j) H Q := ⟨rfl, by
  have : decide (V.bl i = V.bl j) = decide (i = j) := by simp
  rw [this]; exact h⟩
theorem rd_neB {i j : Bool} (h : Q (.bl (!decide (i = j))) H) : rNe (.bl i) (.bl j) H Q := ⟨rfl, by
  have : decide (V.bl i = V.bl j) = decide (i = j) := by simp
  rw [this]; exact h⟩
theorem rd_test {Q : Bool → Hp → Prop} (h : te σ H fun x H' => ∃ k, x = .bl k ∧ Q k H') : tTest te σ H Q := h
theorem rd_tB {Q : Bool → Hp → Prop} (h : te σ H fun x H' => ∃ k, x = .bl k ∧ Q k H') : tB te σ H Q := h
theorem rd_bl {k : Bool} {Q : Bool → Prop} (h : Q k) : ∃ j, V.bl k = .bl j ∧ Q j := ⟨k, rfl, h⟩
theorem rd_not {Q : Bool → Hp → Prop} (h : tt σ H fun c H1 => Q (!c) H1) : tNot tt σ H Q := h
theorem rd_and {Q : Bool → Hp → Prop} (h : tt σ H fun c H1 => if c = true then tu σ H1 Q else Q false H1) : tAnd tt tu σ H Q := h
theorem rd_or {Q : Bool → Hp → Prop} (h : tt σ H fun c H1 => if c = true then Q true H1 else tu σ H1 Q) : tOr tt tu σ H Q := h
theorem rd_andV (h : ta σ H fun x H1 => ∃ c, x = .bl c ∧ if c = true then tb σ H1 Q else Q (.bl false) H1) : tAndV ta tb σ H Q := h
theorem rd_orV (h : ta σ H fun x H1 => ∃ c, x = .bl c ∧ if c = true then Q (.bl true) H1 else tb σ H1 Q) : tOrV ta tb σ H Q := h
theorem rd_notV (h : ta σ H fun x H1 => ∃ c, x = .bl c ∧ Q (.bl (!c)) H1) : tNotV ta σ H Q := h
theorem rd_ifE (h : tt σ H fun c H1 => if c = true then ta σ H1 Q else tb σ H1 Q) : tIf tt ta tb σ H Q := h
theorem rd_chain {r1 r2 : R2} (h : ta σ H fun x H1 => tb σ H1 fun y H2 => r1 x y H2 fun z H3 => ∃ k, z = .bl k ∧ (if k = true then tc σ H3 fun w' H4 => r2 y w' H4 Q else Q (.bl false) H3)) : tChain r1 r2 ta tb tc σ H Q := h
theorem rd_nil {Q : List V → Hp → Prop} (h : Q [] H) : tNil σ H Q := h
theorem rd_cons {ts : TA} {Q : List V → Hp → Prop} (h : ta σ H fun x H1 => ts σ H1 fun xs H2 => Q (x :: xs) H2) : tCons ta ts σ H Q := h
theorem rd_CB {rc : List V → Hp → VK → Prop} {ts : TA} (h : ts σ H fun vs H1 => rc vs H1 Q) : tCB rc ts σ H Q := h
theorem rd_call {sp : Sp} {dvs : List V} {E : XK} {ts : TA} (h : ts σ H fun vs H1 => sp (vs ++ dvs) H1 Q E) : tCall sp dvs E ts σ H Q := h
theorem rd_callS {sp : Sp} {E : St → XK} {ts : TA} (h : ts σ H fun vs H1 => sp vs H1 Q (E σ)) : tCallS sp E ts σ H Q := h
theorem rd_tup {ts : TA} (h : ts σ H fun xs H1 => xs.length ≤ sizeLine ∧ ∀ p, H1 p = none → Q (.ref p) (upd H1 p (.tup xs))) : tTup ts σ H Q := h
theorem rd_lst {ts : TA} (h : ts σ H fun xs H1 => xs.length ≤ sizeLine ∧ ∀ p, H1 p = none → Q (.ref p) (upd H1 p (.lst xs))) : tLst ts σ H Q := h
theorem rd_gsub {to_ ti : TE} {ts : TSet} {Q : St → Hp → Prop} (h : to_ σ H fun o H1 => ti σ H1 fun i H2 => ts o i v H2 fun H3 => Q σ H3) : gSub to_ ti ts v σ H Q := h
theorem rd_gnil {Q : St → Hp → Prop} (h : Q σ H) : gNil [] σ H Q := ⟨rfl, h⟩
theorem rd_gcons {tu : TGs} {w : List V} {Q : St → Hp → Prop} (h : g v σ H fun σ' H' => tu w σ' H' Q) : gCons g tu (v :: w) σ H Q := ⟨v, w, rfl, h⟩
theorem rd_aug {i : Nat} {ti : TIp} (h : σ[i]? = some (some x)) (q : te σ H fun y H1 => ti x y H1 fun z H2 => n (σ.set i (some z)) H2) : tAug i te ti ⟨n, r, b, c⟩ σ H := ⟨x, h, q⟩
/-- a test -/
theorem rd_ite {p : Prop} [Decidable p] {A B : Prop} (h1 : p → A) (h2 : ¬ p → B) : if decide p = true then A else B := by
  by_cases hp : p
  · rw [decide_eq_true hp]; exact h1 hp
  · rw [decide_eq_false hp]; exact h2 hp
theorem rd_iteN {p : Prop} [Decidable p] {A B : Prop} (h1 : ¬ p → A) (h2 : p → B) : if (!decide p) = true then A else B := by
  by_cases hp : p
  · rw [decide_eq_true hp]; exact h2 hp
  · rw [decide_eq_false hp]; exact h1 hp
theorem rd_iteB {k : Bool} {A B : Prop} (h1 : k = true → A) (h2 : k = false → B) : if k = true then A else B := by
  cases k
  · exact h2 rfl
  · exact h1 rfl
theorem rd_T {p : Prop} [Decidable p] {A B : Prop} (hp : p) (h : A) : if decide p = true then A else B := by rw [decide_eq_true hp]; exact h
theorem rd_F {p : Prop} [Decidable p] {A B : Prop} (hp : ¬ p) (h : B) : if decide p = true then A else B := by rw [decide_eq_false hp]; exact h
theorem rd_NT {p : Prop} [Decidable p] {A B : Prop} (hp : ¬ p) (h : A) : if (!decide p) = true then A else B := by rw [decide_eq_false hp]; exact h
theorem rd_NF {p : Prop} [Decidable p] {A B : Prop} (hp : p) (h : B) : if (!decide p) = true then A else B := by rw [decide_eq_true hp]; exact h
theorem rd_tt {A B : Prop} (h : A) : if true = true then A else B := by rw [if_pos rfl]; exact h
theorem rd_ff {A B : Prop} (h : B) : if false = true then A else B := by rw [if_neg Bool.false_ne_true]; exact h
theorem rd_ntt {A B : Prop} (h : B) : if (!true) = true then A else B := by rw [if_neg (by decide)]; exact h
theorem rd_nff {A B : Prop} (h : A) : if (!false) = true then A else B := by rw [if_pos (by decide)]; exact h
/-- calls of built-ins -/
theorem rd_int {i : Int} {A : Prop} (h : Q (.int i) H) : (∃ j, [V.int i] = [.int j] ∧ Q (.int j) H) ∨ A := .inl ⟨i, rfl, h⟩
theorem cmul_l {i j : Int} (h : -18446744073709551616 < i) (h2 : i < 18446744073709551616) : CMul i j := .inl ⟨h, h2⟩
theorem cmul_r {i j : Int} (h : -18446744073709551616 < j) (h2 : j < 18446744073709551616) : CMul i j := .inr ⟨h, h2⟩
end
def rInt1 : List V → Hp → VK → Prop := fun xs H Q => (∃ i, xs = [.int i] ∧ Q (.int i) H) ∨ ∃ k, xs = [.bl k] ∧ Q (.int (if k then 1 else 0)) H
theorem rd_int1 {H : Hp} {Q : VK} {i : Int} (h : Q (.int i) H) : rInt1 [.int i] H Q := .inl ⟨i, rfl, h⟩
theorem rd_intB {H : Hp} {Q : VK} {k : Bool} (h : Q (.int (if k then 1 else 0)) H) : rInt1 [.bl k] H Q := .inr ⟨k, rfl, h⟩
def rAbs : List V → Hp → VK → Prop := fun xs H Q => ∃ i, xs = [.int i] ∧ Q (.int (if i < 0 then -i else i)) H
theorem rd_abs {H : Hp} {Q : VK} {i : Int} (h : Q (.int (if i < 0 then -i else i)) H) : rAbs [.int i] H Q := ⟨i, rfl, h⟩
def rLen (K : PySem.W.Frag) : List V → Hp → VK → Prop := fun xs H Q => ∃ p ys, xs = [.ref p] ∧ (SqL K H p ys ∨ SqT K H p ys) ∧ Q (.int (ys.length : Nat)) H
def rLenS : List V → Hp → VK → Prop := fun xs H Q => ∃ z : Str, xs = [.str z] ∧ z.length ≤ sizeLine ∧ Q (.int (z.length : Nat)) H
def rListOf (K : PySem.W.Frag) : List V → Hp → VK → Prop := fun xs H Q => ∃ p ys, xs = [.ref p] ∧ (SqL K H p ys ∨ SqT K H p ys) ∧ ∀ l, H l = none → Q (.ref l) (upd H l (.lst ys))
def rMax2 : List V → Hp → VK → Prop := fun xs H Q => ∃ i j, xs = [.int i, .int j] ∧ Q (.int (if j > i then j else i)) H
def rMin2 : List V → Hp → VK → Prop := fun xs H Q => ∃ i j, xs = [.int i, .int j] ∧ Q (.int (if j < i then j else i)) H
/-- raise X('..') -/
def tRaiseC (C : Addr) (E : XK) : TS := fun _ _ H => E (.ref C) none H
theorem rd_raise {C : Addr} {E : XK} {D : Ends} {σ : St} {H : Hp} (h : E (.ref C) none H) : tRaiseC C E D σ H := h
/-- operators -/
abbrev aAdd : R2 := rI0 fun i j => .int (i + j)
abbrev aSub : R2 := rI0 fun i j => .int (i - j)
abbrev aMul : R2 := rI CMul fun i j => .int (i * j)
abbrev aMod : R2 := rI (fun _ j => 0 < j) fun i j => .int (i % j)
abbrev aDiv : R2 := rI CDivW fun i j => .int (i / j)
abbrev aMulX : R2 := rI CMulX fun i j => .int (i * j)
abbrev aPow : R2 := rI CPow fun i j => .int (i ^ j.toNat)
abbrev aLt : R2 := rI0 fun i j => .bl (decide (i < j))
abbrev aLe : R2 := rI0 fun i j => .bl (decide (i ≤ j))
abbrev aGt : R2 := rI0 fun i j => .bl (decide (j < i))
abbrev aGe : R2 := rI0 fun i j => .bl (decide (j ≤ i))
abbrev aNeg : V → Hp → VK → Prop := rU fun i => .int (-i)
def rIsNone : R2 := fun x y H Q => y = .non ∧ Q (.bl (decide (x = .non))) H
def rNotNone : R2 := fun x y H Q => y = .non ∧ Q (.bl (!decide (x = .non))) H
def tTruth (K : PySem.W.Frag) (ta : TE) : TT := fun σ H Q => ta σ H fun x H' => ∃ k, TruV K x H' k ∧ Q k H'
/-- a module's constant -/
theorem pe_gi {X : Cx} {x : Str} {i : Int} {pos : Pos} (hg : Gl X x) (hm : ∃ t, X.mg x = some (.int i t)) (hd : (x == ("__debug__" : Str)) = false := by decide) : PE X (.Name x pos) (tC (.int i)) := by
  obtain ⟨t, e⟩ := hm
  exact pe_glob hg e ⟨_, rfl⟩ hd
theorem pe_gs {X : Cx} {x z : Str} {pos : Pos} (hg : Gl X x) (hm : ∃ t, X.mg x = some (.str z t)) (hd : (x == ("__debug__" : Str)) = false := by decide) : PE X (.Name x pos) (tC (.str z)) := by
  obtain ⟨t, e⟩ := hm
  exact pe_glob hg e ⟨_, rfl⟩ hd
/-! ### exceptions -/
def rIsX (K : PySem.W.Frag) (a : Addr) (cls : Value) (d : Option Addr) : List V → Hp → VK → Prop := fun xs H Q => ∃ D : Addr, cls = .ref D ∧ d = none ∧ ExcC K D ∧ rIsE K D a xs H Q
theorem call_isX {X : Cx} {a : Addr} {oe : Obj} {cls : Value} {d : Option Addr} {pn : List (Addr × Obj)} (hz : Zc cls d oe) (hf : ∃ vs, oe.data = .fields vs) : CallR (X.suite a ((a, oe) :: pn)) (.builtin "isinstance") (rIsX X.K a cls d) := by
  intro pins s σ H xs us Q I r h
  obtain ⟨D, rfl, rfl, C, h⟩ := h
  exact call_isE C hz hf pins s σ H xs us Q I r h
theorem rd_isX {K : PySem.W.Frag} {a D C : Addr} {H : Hp} {Q : VK} {b : Bool} (e : ExcC K D) (k : PySem.W.kitOne K (.ref D) (.ref C) = some b) (h : Q (.bl b) H) : rIsX K a (.ref D) none [.ref a, .ref C] H Q :=
  ⟨D, rfl, rfl, e, .ref C, .ref C, b, rfl, fun _ r => r, k, h⟩
theorem rd_isXt {K : PySem.W.Frag} {a D : Addr} {t : String} {H : Hp} {Q : VK} {b : Bool} (e : ExcC K D) (k : PySem.W.kitOne K (.ref D) (.type t) = some b) (h : Q (.bl b) H) : rIsX K a (.ref D) none [.ref a, .ty t] H Q :=
  ⟨D, rfl, rfl, e, .ty t, .type t, b, rfl, fun _ r => r, k, h⟩
def tTryAs (K : PySem.W.Frag) (c : Value) (i : Nat) (tb : WX → TS) (ts : Addr → Value → Option Addr → TS) (Wout : WX) : TS := fun D σ H => tb (wAs K c i ts Wout D) D σ H
def tTryOnly (K : PySem.W.Frag) (c : Value) (tb : WX → TS) (ts : Addr → Value → Option Addr → TS) (Wout : WX) : TS := fun D σ H => tb (wOnly K c ts Wout D) D σ H
theorem rd_isi {K : PySem.W.Frag} {H : Hp} {Q : VK} {x : V} {t u : Value} {c : V} {b : Bool} (hc : ClsV c u) (ty : TyX K H x t) (k : PySem.W.kitOne K t u = some b) (h : Q (.bl b) H) : rIsi K [x, c] H Q := ⟨x, c, t, u, b, rfl, hc, ty, k, h⟩
def rCatS : R2 := fun x y H Q => ∃ i j, x = .str i ∧ y = .str j ∧ i.length + j.length ≤ sizeLine ∧ Q (.str (i ++ j)) H
def sLt : R2 := fun x y H Q => ∃ i j, x = .str i ∧ y = .str j ∧ Q (.bl (decide (i.cps.toList < j.cps.toList))) H
/-! ### modular arithmetic of ints with conditions -/
section
variable {H : Hp} {Q : VK} {i j : Int}
theorem rd_mod (hc : 0 < j) (h : Q (.int (i % j)) H) : aMod (.int i) (.int j) H Q := ⟨i, j, rfl, rfl, hc, h⟩
theorem rd_div (hc : 0 < j) (hd : j < 4611686018427387904) (h : Q (.int (i / j)) H) : aDiv (.int i) (.int j) H Q := ⟨i, j, rfl, rfl, wide_div (b := 62) hc (by omega) (by decide) (by decide), h⟩
theorem rd_mulr (h1 : -18446744073709551616 < j) (h2 : j < 18446744073709551616) (h : Q (.int (i * j)) H) : aMul (.int i) (.int j) H Q := ⟨i, j, rfl, rfl, .inr ⟨h1, h2⟩, h⟩
theorem rd_mull (h1 : -18446744073709551616 < i) (h2 : i < 18446744073709551616) (h : Q (.int (i * j)) H) : aMul (.int i) (.int j) H Q := ⟨i, j, rfl, rfl, .inl ⟨h1, h2⟩, h⟩
theorem rd_pow (h1 : 0 ≤ j) (h2 : j ≤ 1000000) (h3 : i.natAbs < 18446744073709551616) (h : Q (.int (i ^ j.toNat)) H) : aPow (.int i) (.int j) H Q := ⟨i, j, rfl, rfl, ⟨h1, h2, h3⟩, h⟩
end
theorem szl {n : Nat} (h : n ≤ 1000000) : n ≤ sizeLine := Nat.le_trans h (by decide)
theorem szt {n : Nat} (h : n ≤ 1000000) : n < sizeLine := Nat.lt_of_le_of_lt h (by decide)
/-! ### reads off cells and facts -/
section
variable {K : PySem.W.Frag} {H0 H : Hp} {M : List Addr} {L : List Cell} {F : List Fact} {Q : VK} {p : Addr} {v : V}
theorem ix_cell (j : Nat) (k : Kn K H0 M H L F) {xs : List V} {i : Int} (h : L[j]? = some (p, .lst xs)) (hi : atI xs i = some v) (q : Q v H) : rIxL K (.ref p) (.int i) H Q :=
  ⟨p, xs, i, v, rfl, rfl, .inl (.inl (k.at j h)), hi, q⟩
theorem ix_cellT (j : Nat) (k : Kn K H0 M H L F) {xs : List V} {i : Int} (h : L[j]? = some (p, .tup xs)) (hi : atI xs i = some v) (q : Q v H) : rIxT K (.ref p) (.int i) H Q :=
  ⟨p, xs, i, v, rfl, rfl, .inl (.inl (k.at j h)), hi, q⟩
theorem ix_factI (j : Nat) (k : Kn K H0 M H L F) {ns : List Int} {i n : Int} (h : F[j]? = some ([.ref p], [.list (ns.map PyData.int)])) (hi : atI ns i = some n) (q : Q (.int n) H) : rIxL K (.ref p) (.int i) H Q := by
  refine ⟨p, ns.map V.int, i, .int n, rfl, rfl, (Dp.listI (k.dp j h)), ?_, q⟩
  unfold atI at hi ⊢
  rw [List.length_map]
  cases e : ixN ns.length i with
  | none => rw [e] at hi; simp at hi
  | some m =>
    rw [e] at hi
    have hi' : ns[m]? = some n := hi
    show (ns.map V.int)[m]? = some (.int n)
    rw [List.getElem?_map, hi']; rfl
theorem len_cell (j : Nat) (k : Kn K H0 M H L F) {xs : List V} (h : L[j]? = some (p, .lst xs)) (q : Q (.int (xs.length : Nat)) H) : rLen K [.ref p] H Q := ⟨p, xs, rfl, .inl (.inl (.inl (k.at j h))), q⟩
theorem len_cellT (j : Nat) (k : Kn K H0 M H L F) {xs : List V} (h : L[j]? = some (p, .tup xs)) (q : Q (.int (xs.length : Nat)) H) : rLen K [.ref p] H Q := ⟨p, xs, rfl, .inr (.inl (.inl (k.at j h))), q⟩
theorem len_fact (j : Nat) (k : Kn K H0 M H L F) {ds : List PyData} (h : F[j]? = some ([.ref p], [.list ds])) (q : Q (.int (ds.length : Nat)) H) : rLen K [.ref p] H Q := by
  obtain ⟨a, vs, e, h1, h2⟩ := (Dp.list (k.dp j h))
  cases e
  refine ⟨p, vs, rfl, .inl h1, ?_⟩
  rw [DpAll.len h2]; exact q
theorem of_cell (j : Nat) (k : Kn K H0 M H L F) {xs : List V} (h : L[j]? = some (p, .lst xs)) (q : ∀ l, H l = none → Q (.ref l) (upd H l (.lst xs))) : rListOf K [.ref p] H Q := ⟨p, xs, rfl, .inl (.inl (.inl (k.at j h))), q⟩
theorem of_factI (j : Nat) (k : Kn K H0 M H L F) {ns : List Int} (h : F[j]? = some ([.ref p], [.list (ns.map PyData.int)])) (q : ∀ l, H l = none → Q (.ref l) (upd H l (.lst (ns.map V.int)))) : rListOf K [.ref p] H Q := ⟨p, _, rfl, .inl (Dp.listI (k.dp j h)), q⟩
theorem app_cell (j : Nat) (k : Kn K H0 M H L F) {xs : List V} {x : V} (h : L[j]? = some (p, .lst xs)) (hl : xs.length < sizeLine) (q : Q .non (upd H p (.lst (xs ++ [x])))) : rAppend (.ref p) [x] H Q := ⟨p, xs, x, rfl, rfl, k.at j h, hl, q⟩
theorem set_cell (j : Nat) (k : Kn K H0 M H L F) {xs : List V} {i : Int} {m : Nat} {Q : Hp → Prop} (h : L[j]? = some (p, .lst xs)) (hi : ixN xs.length i = some m) (q : Q (upd H p (.lst (xs.set m v)))) : rSetL (.ref p) (.int i) v H Q := ⟨p, xs, i, m, rfl, rfl, k.at j h, hi, q⟩
end
theorem atI_of {α : Type} {xs : List α} {i : Int} {v : α} (h0 : 0 ≤ i) (h : xs[i.toNat]? = some v) : atI xs i = some v := by
  have hl : i.toNat < xs.length := (List.getElem?_eq_some_iff.mp h).1
  unfold atI ixN
  rw [if_pos h0, if_pos (by omega)]
  exact h
theorem ixN_of {n : Nat} {i : Int} (h0 : 0 ≤ i) (h : i < n) : ixN n i = some i.toNat := by
  unfold ixN; rw [if_pos h0, if_pos h]
end Pp

namespace Fp
theorem base : ∀ a < 256, a = 0 ∨ a ^ 65520 % 65521 = 1 := by decide +kernel
theorem nodiv : ∀ d < 256, d < 2 ∨ 65521 % d ≠ 0 := by decide +kernel
theorem sq_mod {p x r : Nat} (e : p = x + r) : x ^ 2 % p = r ^ 2 % p := by
  have h : x ^ 2 + r * p = r ^ 2 + x * p := by subst e; grind
  have h1 : (x ^ 2 + r * p) % p = x ^ 2 % p := Nat.add_mul_mod_self_right ..
  have h2 : (r ^ 2 + x * p) % p = r ^ 2 % p := Nat.add_mul_mod_self_right ..
  rw [← h1, ← h2, h]
theorem pow_even {p x r : Nat} (k : Nat) (e : p = x + r) : x ^ (2 * k) % p = r ^ (2 * k) % p := by
  rw [Nat.pow_mul, Nat.pow_mul, Nat.pow_mod (x ^ 2), sq_mod e, ← Nat.pow_mod]
/-- Fermat, by descent: 65521 = a q + r -/
theorem step {a q r e p : Nat} (h : p = a * q + r) (k : Nat) (he : e = 2 * k) (f1 : q ^ e % p = 1) (f2 : r ^ e % p = 1) : a ^ e % p = 1 := by
  have g := pow_even k h
  rw [← he, f2, Nat.mul_pow, Nat.mul_mod, f1, Nat.mul_one, Nat.mod_mod] at g
  exact g
theorem fermat (a : Nat) : a < 65521 → a ≠ 0 → a ^ 65520 % 65521 = 1 := by
  induction a using Nat.strongRecOn with
  | ind a ih =>
    intro ha h0
    by_cases hs : a < 256
    · exact (base a hs).resolve_left h0
    · have e : 65521 = a * (65521 / a) + 65521 % a := (Nat.div_add_mod 65521 a).symm
      have hr : 65521 % a < a := Nat.mod_lt _ (by omega)
      have hq1 : 1 ≤ 65521 / a := (Nat.le_div_iff_mul_le (by omega)).mpr (by omega)
      have hq : 65521 / a < 256 := by
        refine Nat.div_lt_of_lt_mul ?_
        omega
      have hr0 : 65521 % a ≠ 0 := by
        intro z
        rw [z, Nat.add_zero] at e
        have h2 : ¬ (65521 / a < 2) := by
          intro h2
          have : 65521 / a = 1 := by omega
          rw [this] at e; omega
        have h3 := (nodiv (65521 / a) hq).resolve_left h2
        exact h3 (Nat.mod_eq_zero_of_dvd ⟨a, by rw [Nat.mul_comm]; exact e⟩)
      have f1 := ih (65521 / a) (by omega) (by omega) (by omega)
      have f2 := ih (65521 % a) hr (by omega) hr0
      exact step e 32760 (by decide) f1 f2

/-- the field's inverse, as the program reckons it -/
@[irreducible] def inv (a : Int) : Int := (((a % 65521).toNat ^ 65519 % 65521 : Nat) : Int)
theorem inv_def (a e : Int) (he : e = 65519) : (if e = 0 then 1 else (((a % 65521).toNat ^ e.toNat % 65521 : Nat) : Int)) = inv a := by
  have h : e.toNat = 65519 := by rw [he]; decide
  rw [if_neg (by omega), h]
  unfold inv
  exact Eq.refl _
theorem inv_lt (a : Int) : inv a < 65521 := by unfold inv; omega
theorem inv_nn (a : Int) : 0 ≤ inv a := by unfold inv; omega
theorem inv_mul {a : Int} (h : a % 65521 ≠ 0) : a * inv a % 65521 = 1 := by
  have f := fermat (a % 65521).toNat (by omega) (by omega)
  have e : a = (((a % 65521).toNat : Nat) : Int) + 65521 * (a / 65521) := by omega
  unfold inv
  generalize (a % 65521).toNat = n at *
  have h1 : ∀ k, n ^ (k + 1) = n ^ k * n := fun k => Nat.pow_succ n k
  have h2 : n ^ 65520 = n ^ 65519 * n := h1 65519
  rw [h2] at f
  generalize n ^ 65519 = m at *
  generalize a / 65521 = d at *
  have g : n * (m % 65521) % 65521 = 1 := by rw [← f, Nat.mul_comm m n, Nat.mul_mod n m, Nat.mul_mod n (m % 65521), Nat.mod_mod]
  generalize m % 65521 = x at *
  have e2 : a * (x : Int) = ((n * x : Nat) : Int) + 65521 * (d * x) := by rw [e]; push_cast; grind
  rw [e2]
  omega
theorem inv_pos {a : Int} (h : a % 65521 ≠ 0) : 1 ≤ inv a := by
  have h1 := inv_mul h
  have h2 := inv_nn a
  by_cases z : inv a = 0
  · rw [z, Int.mul_zero] at h1; exact absurd h1 (by decide)
  · omega
theorem inv_congr {a b : Int} (h : a % 65521 = b % 65521) : inv a = inv b := by unfold inv; rw [h]
/-- one turn of square and multiply -/
theorem turn_odd {f b e n : Nat} (ho : e % 2 = 1) : (f * b % n) * (b * b % n) ^ (e / 2) % n = f * b ^ e % n := by
  have he : e = 2 * (e / 2) + 1 := by omega
  have : b ^ e = b * (b * b) ^ (e / 2) := by
    conv => lhs; rw [he]
    rw [Nat.pow_succ, Nat.pow_mul, Nat.mul_comm, Nat.pow_two]
  rw [this, Nat.mul_mod, Nat.mod_mod, ← Nat.pow_mod, ← Nat.mul_mod, Nat.mul_assoc]
theorem turn_even {f b e n : Nat} (ho : e % 2 = 0) : f * (b * b % n) ^ (e / 2) % n = f * b ^ e % n := by
  have he : e = 2 * (e / 2) := by omega
  have : b ^ e = (b * b) ^ (e / 2) := by
    conv => lhs; rw [he]
    rw [Nat.pow_mul, Nat.pow_two]
  rw [this, Nat.mul_mod, ← Nat.pow_mod, ← Nat.mul_mod]
end Fp

set_option hygiene false in
local macro_rules | `(tactic| walk_at "rd1") => `(tactic| first
  | with_reducible refine rd_seqA ?_
  | with_reducible refine rd_seqD ?_
  | with_reducible refine rd_asg ?_
  | ((with_reducible refine rd_name ?_); dsimp only [List.set])
  | with_reducible refine rd_bl ?_
  | ((with_reducible refine' rd_var ?xx ?_); (case xx => exact rfl))
  | with_reducible refine rd_c ?_
  | with_reducible refine rd_op ?_
  | with_reducible refine rd_test ?_
  | with_reducible refine rd_tB ?_
  | with_reducible refine rd_ifS ?_
  | with_reducible refine rd_cons ?_
  | with_reducible refine rd_nil ?_
  | with_reducible refine rd_I0 ?_
  | with_reducible refine rd_eqI ?_
  | with_reducible refine rd_neI ?_
  | with_reducible refine rd_tt ?_
  | with_reducible refine rd_ff ?_
  | with_reducible refine rd_ntt ?_
  | with_reducible refine rd_nff ?_
  | with_reducible refine rd_CB ?_
  | with_reducible refine rd_call ?_
  | with_reducible refine rd_callS ?_
  | with_reducible refine rd_int1 ?_
  | with_reducible refine rd_abs ?_
  | with_reducible refine rd_ret ?_
  | with_reducible refine rd_retN ?_
  | with_reducible refine rd_next ?_
  | with_reducible refine rd_brk ?_
  | with_reducible refine rd_cont ?_
  | with_reducible refine rd_drop ?_
  | ((with_reducible refine rd_mod ?xx ?_); case xx => first | decide | omega)
  | ((with_reducible refine rd_div ?xx ?yy ?_); (case xx => first | decide | omega); (case yy => first | decide | omega))
  | ((with_reducible refine rd_mulr ?xx ?yy ?_); (case xx => first | decide | omega); (case yy => first | decide | omega))
  | ((with_reducible refine rd_mull ?xx ?yy ?_); (case xx => first | decide | omega); (case yy => first | decide | omega))
  | ((with_reducible refine rd_pow ?xx ?yy ?zz ?_); (case xx => decide); (case yy => decide); (case zz => decide))
  | with_reducible refine rd_un ?_
  | with_reducible refine rd_U ?_
  | with_reducible refine rd_not ?_
  | with_reducible refine rd_and ?_
  | with_reducible refine rd_or ?_
  | with_reducible refine rd_andV ?_
  | with_reducible refine rd_orV ?_
  | with_reducible refine rd_notV ?_
  | with_reducible refine rd_ifE ?_
  | with_reducible refine rd_chain ?_
  | with_reducible refine rd_eqS ?_
  | with_reducible refine rd_neS ?_
  | with_reducible refine rd_eqB ?_
  | with_reducible refine rd_neB ?_
  | with_reducible refine rd_tup ?_
  | with_reducible refine rd_lst ?_
  | with_reducible refine rd_raise ?_
  | with_reducible refine rd_gsub ?_
  | with_reducible refine rd_gcons ?_
  | with_reducible refine rd_gnil ?_
  | with_reducible refine rd_intB ?_)
set_option hygiene false in
local macro_rules | `(tactic| walk_at "rd") => `(tactic| repeat walk_at "rd1")
set_option hygiene false in
local macro_rules | `(tactic| walk_at "ifT") => `(tactic| first | (refine rd_T ?xx ?_; (case xx => first | assumption | omega)) | (refine rd_NT ?xx ?_; (case xx => first | assumption | omega)))
set_option hygiene false in
local macro_rules | `(tactic| walk_at "ifF") => `(tactic| first | (refine rd_F ?xx ?_; (case xx => first | assumption | omega)) | (refine rd_NF ?xx ?_; (case xx => first | assumption | omega)))
set_option hygiene false in
local macro_rules | `(tactic| walk_at "if2") => `(tactic| first | refine rd_ite (fun hc => ?_) (fun hc => ?_) | refine rd_iteN (fun hc => ?_) (fun hc => ?_) | refine rd_iteB (fun hc => ?_) (fun hc => ?_))
set_option hygiene false in
local macro_rules | `(tactic| walk_at "ix") => `(tactic| first
  | (refine' ix_cell 0 k rfl ?xx ?_; (case xx => exact rfl)) | (refine' ix_cell 1 k rfl ?xx ?_; (case xx => exact rfl)) | (refine' ix_cell 2 k rfl ?xx ?_; (case xx => exact rfl)) | (refine' ix_cell 3 k rfl ?xx ?_; (case xx => exact rfl))
  | (refine' ix_cell 4 k rfl ?xx ?_; (case xx => exact rfl)) | (refine' ix_cell 5 k rfl ?xx ?_; (case xx => exact rfl)) | (refine' ix_cell 6 k rfl ?xx ?_; (case xx => exact rfl)) | (refine' ix_cell 7 k rfl ?xx ?_; (case xx => exact rfl)))
set_option hygiene false in
local macro_rules | `(tactic| walk_at "len") => `(tactic| first
  | refine len_cell 0 k rfl ?_ | refine len_cell 1 k rfl ?_ | refine len_cell 2 k rfl ?_ | refine len_cell 3 k rfl ?_ | refine len_cell 4 k rfl ?_ | refine len_cell 5 k rfl ?_
  | refine len_fact 0 k rfl ?_ | refine len_fact 1 k rfl ?_ | refine len_fact 2 k rfl ?_ | refine len_fact 3 k rfl ?_ | refine len_fact 4 k rfl ?_ | refine len_fact 5 k rfl ?_)
set_option hygiene false in
local macro_rules | `(tactic| walk_at "mk") => `(tactic| refine ⟨szl (by simp), fun p np => ?_⟩)
set_option hygiene false in
local macro_rules | `(tactic| walk_at "sq") => `(tactic| with_reducible refine rd_seq ?_)

namespace Law
open PySem PyProof.Rows L2 Pp
def top (i : Nat) : Stmt := PySem.Challenge.pw_paritypool_k00_inverse.main.body.getD i (.Pass ⟨0, 0, 0, 0⟩)
abbrev s_power : Stmt := top 6
abbrev nm_power : List Str := ["a", "exponent", "found", "base", "left"]
theorem sc_power : FnScope nm_power ["a", "exponent"] (defScope s_power) := ⟨rfl, rfl, rfl, by decide +kernel, rfl, by decide +kernel, by decide +kernel⟩
abbrev s_inverse : Stmt := top 7
abbrev nm_inverse : List Str := ["a"]
theorem sc_inverse : FnScope nm_inverse ["a"] (defScope s_inverse) := ⟨rfl, rfl, rfl, by decide +kernel, rfl, by decide +kernel, by decide +kernel⟩
abbrev s__law_pot : Stmt := top 9
abbrev nm__law_pot : List Str := ["_law_script", "_law_seed", "_law_cell"]
theorem sc__law_pot : FnScope nm__law_pot ["_law_script"] (defScope s__law_pot) := ⟨rfl, rfl, rfl, by decide +kernel, rfl, by decide +kernel, by decide +kernel⟩
abbrev s__law_next : Stmt := top 10
abbrev nm__law_next : List Str := ["_law_pot_here", "_law_limit", "_law_cell", "_law_found", "_law_mixed"]
theorem sc__law_next : FnScope nm__law_next ["_law_pot_here", "_law_limit"] (defScope s__law_next) := ⟨rfl, rfl, rfl, by decide +kernel, rfl, by decide +kernel, by decide +kernel⟩
abbrev s__law_is_int : Stmt := top 11
abbrev nm__law_is_int : List Str := ["_law_value"]
theorem sc__law_is_int : FnScope nm__law_is_int ["_law_value"] (defScope s__law_is_int) := ⟨rfl, rfl, rfl, by decide +kernel, rfl, by decide +kernel, by decide +kernel⟩
abbrev s__law_refused : Stmt := top 12
abbrev nm__law_refused : List Str := ["_law_a", "e"]
theorem sc__law_refused : FnScope nm__law_refused ["_law_a"] (defScope s__law_refused) := ⟨rfl, rfl, rfl, by decide +kernel, rfl, by decide +kernel, by decide +kernel⟩
abbrev s_law : Stmt := top 13
abbrev nm_law : List Str := ["_law_script", "_law_pot_here", "_law_a", "_law_found"]
theorem sc_law : FnScope nm_law ["_law_script"] (defScope s_law) := ⟨rfl, rfl, rfl, by decide +kernel, rfl, by decide +kernel, by decide +kernel⟩
structure Txt (K : PySem.W.Frag) (mg : Str → Option Value) : Type where
  d_power : FuncData
  F_power : FunD K "power" "power" (defArgs s_power) (defBody s_power) (defScope s_power) [] [] (He.ga K "power") d_power
  g_power : mg "power" = some (.ref (He.ga K "power"))
  d_inverse : FuncData
  F_inverse : FunD K "inverse" "inverse" (defArgs s_inverse) (defBody s_inverse) (defScope s_inverse) [] [] (He.ga K "inverse") d_inverse
  g_inverse : mg "inverse" = some (.ref (He.ga K "inverse"))
  d__law_pot : FuncData
  F__law_pot : FunD K "_law_pot" "_law_pot" (defArgs s__law_pot) (defBody s__law_pot) (defScope s__law_pot) [] [] (He.ga K "_law_pot") d__law_pot
  g__law_pot : mg "_law_pot" = some (.ref (He.ga K "_law_pot"))
  d__law_next : FuncData
  F__law_next : FunD K "_law_next" "_law_next" (defArgs s__law_next) (defBody s__law_next) (defScope s__law_next) [] [] (He.ga K "_law_next") d__law_next
  g__law_next : mg "_law_next" = some (.ref (He.ga K "_law_next"))
  d__law_is_int : FuncData
  F__law_is_int : FunD K "_law_is_int" "_law_is_int" (defArgs s__law_is_int) (defBody s__law_is_int) (defScope s__law_is_int) [] [] (He.ga K "_law_is_int") d__law_is_int
  g__law_is_int : mg "_law_is_int" = some (.ref (He.ga K "_law_is_int"))
  d__law_refused : FuncData
  F__law_refused : FunD K "_law_refused" "_law_refused" (defArgs s__law_refused) (defBody s__law_refused) (defScope s__law_refused) [] [] (He.ga K "_law_refused") d__law_refused
  g__law_refused : mg "_law_refused" = some (.ref (He.ga K "_law_refused"))
  d_law : FuncData
  F_law : FunD K "law" "law" (defArgs s_law) (defBody s_law) (defScope s_law) [] [] (He.ga K "law") d_law
  g_law : mg "law" = some (.ref (He.ga K "law"))
  z_ValueError : mg "ValueError" = none
  z_abs : mg "abs" = none
  z_bool : mg "bool" = none
  z_int : mg "int" = none
  z_isinstance : mg "isinstance" = none
  z_len : mg "len" = none
  z_list : mg "list" = none
  c_PRIME : ∃ t, mg "PRIME" = some (.int 65521 t)
  g_InvalidArgument : mg "InvalidArgument" = some (.ref (He.ga K "InvalidArgument"))
  g_NotEnoughPieces : mg "NotEnoughPieces" = some (.ref (He.ga K "NotEnoughPieces"))
  g_PoolError : mg "PoolError" = some (.ref (He.ga K "PoolError"))
  x_InvalidArgument : PySem.W.excIn K (He.ga K "InvalidArgument") [.type "ValueError", .type "Exception", .type "BaseException", .type "object"] "ValueError.__new__" = true
  k_InvalidArgument : PySem.W.keepIn K (.ref (He.ga K "InvalidArgument")) = true
  sb_InvalidArgument : PySem.W.subIn K (.ref (He.ga K "InvalidArgument")) (.type "BaseException") = some true
  ty_InvalidArgument : PySem.W.typeIn K (.ref (He.ga K "InvalidArgument")) = some (.type "type")
  xm_InvalidArgument_PoolError : PySem.W.exmOne K (.ref (He.ga K "InvalidArgument")) (.ref (He.ga K "PoolError")) = some true
  e1_InvalidArgument : PySem.W.findIn K (.ref (He.ga K "InvalidArgument")) "__getattribute__" = some (some (.builtin "BaseException.__getattribute__"))
  e2_InvalidArgument : PySem.W.findIn K (.ref (He.ga K "InvalidArgument")) "__getattr__" = some none
  e3_InvalidArgument : PySem.W.hasDictIn K (He.ga K "InvalidArgument") = true
  e4_InvalidArgument : PySem.W.findIn K (.ref (He.ga K "InvalidArgument")) "__class__" = some (some (.builtin "object.__class__"))
  e5_InvalidArgument : PySem.W.mroIn K (He.ga K "InvalidArgument") (.type "object") = some true
  ki_InvalidArgument_InvalidArgument : PySem.W.kitOne K (.ref (He.ga K "InvalidArgument")) (.ref (He.ga K "InvalidArgument")) = some true
  ki_InvalidArgument_NotEnoughPieces : PySem.W.kitOne K (.ref (He.ga K "InvalidArgument")) (.ref (He.ga K "NotEnoughPieces")) = some false
  ki_InvalidArgument_PoolError : PySem.W.kitOne K (.ref (He.ga K "InvalidArgument")) (.ref (He.ga K "PoolError")) = some true
  ki_InvalidArgument_ValueError : PySem.W.kitOne K (.ref (He.ga K "InvalidArgument")) (.type "ValueError") = some true
  e6 : PySem.W.specialIn K (.builtin "object.__class__") "__get__" = some (some (.builtin "getset_descriptor.__get__"))
  e7 : PySem.W.takesIn K (.builtin "object.__class__") = some true
def fa : List He.Fa := [.glo "power", .glo "inverse", .glo "_law_pot", .glo "_law_next", .glo "_law_is_int", .glo "_law_refused", .glo "law", .free "ValueError", .free "abs", .free "bool", .free "int", .free "isinstance", .free "len", .free "list", .int "PRIME" 65521, .glo "InvalidArgument", .glo "NotEnoughPieces", .glo "PoolError"]
def fn : List He.DefD := [⟨("power", none), "power", "power", defArgs s_power, defBody s_power, defScope s_power, [], []⟩, ⟨("inverse", none), "inverse", "inverse", defArgs s_inverse, defBody s_inverse, defScope s_inverse, [], []⟩, ⟨("_law_pot", none), "_law_pot", "_law_pot", defArgs s__law_pot, defBody s__law_pot, defScope s__law_pot, [], []⟩, ⟨("_law_next", none), "_law_next", "_law_next", defArgs s__law_next, defBody s__law_next, defScope s__law_next, [], []⟩, ⟨("_law_is_int", none), "_law_is_int", "_law_is_int", defArgs s__law_is_int, defBody s__law_is_int, defScope s__law_is_int, [], []⟩, ⟨("_law_refused", none), "_law_refused", "_law_refused", defArgs s__law_refused, defBody s__law_refused, defScope s__law_refused, [], []⟩, ⟨("law", none), "law", "law", defArgs s_law, defBody s_law, defScope s_law, [], []⟩]
def ex (K : PySem.W.Frag) : Bool := decide (PySem.W.excIn K (He.ga K "InvalidArgument") [.type "ValueError", .type "Exception", .type "BaseException", .type "object"] "ValueError.__new__" = true) && decide (PySem.W.keepIn K (.ref (He.ga K "InvalidArgument")) = true) && decide (PySem.W.subIn K (.ref (He.ga K "InvalidArgument")) (.type "BaseException") = some true) && decide (PySem.W.typeIn K (.ref (He.ga K "InvalidArgument")) = some (.type "type")) && decide (PySem.W.exmOne K (.ref (He.ga K "InvalidArgument")) (.ref (He.ga K "PoolError")) = some true) && decide (PySem.W.findIn K (.ref (He.ga K "InvalidArgument")) "__getattribute__" = some (some (.builtin "BaseException.__getattribute__"))) && decide (PySem.W.findIn K (.ref (He.ga K "InvalidArgument")) "__getattr__" = some none) && decide (PySem.W.hasDictIn K (He.ga K "InvalidArgument") = true) && decide (PySem.W.findIn K (.ref (He.ga K "InvalidArgument")) "__class__" = some (some (.builtin "object.__class__"))) && decide (PySem.W.mroIn K (He.ga K "InvalidArgument") (.type "object") = some true) && decide (PySem.W.kitOne K (.ref (He.ga K "InvalidArgument")) (.ref (He.ga K "InvalidArgument")) = some true) && decide (PySem.W.kitOne K (.ref (He.ga K "InvalidArgument")) (.ref (He.ga K "NotEnoughPieces")) = some false) && decide (PySem.W.kitOne K (.ref (He.ga K "InvalidArgument")) (.ref (He.ga K "PoolError")) = some true) && decide (PySem.W.kitOne K (.ref (He.ga K "InvalidArgument")) (.type "ValueError") = some true) && decide (PySem.W.specialIn K (.builtin "object.__class__") "__get__" = some (some (.builtin "getset_descriptor.__get__"))) && decide (PySem.W.takesIn K (.builtin "object.__class__") = some true)
theorem txt {K : PySem.W.Frag} {mg : Str → Option Value} {h : Heap} {w : World} (X : K.In h) (G : h.Ns mainGlobals mg) (c : He.SaysX fa fn [] [] ex w h K) : Nonempty (Txt K mg) := by
  obtain ⟨d0, e0⟩ := c.t.d.def_ 0 rfl
  obtain ⟨d1, e1⟩ := c.t.d.def_ 1 rfl
  obtain ⟨d2, e2⟩ := c.t.d.def_ 2 rfl
  obtain ⟨d3, e3⟩ := c.t.d.def_ 3 rfl
  obtain ⟨d4, e4⟩ := c.t.d.def_ 4 rfl
  obtain ⟨d5, e5⟩ := c.t.d.def_ 5 rfl
  obtain ⟨d6, e6⟩ := c.t.d.def_ 6 rfl
  have m := c.more
  unfold ex at m
  simp only [Bool.and_eq_true, decide_eq_true_eq] at m
  obtain ⟨⟨⟨⟨⟨⟨⟨⟨⟨⟨⟨⟨⟨⟨⟨m0, m1⟩, m2⟩, m3⟩, m4⟩, m5⟩, m6⟩, m7⟩, m8⟩, m9⟩, m10⟩, m11⟩, m12⟩, m13⟩, m14⟩, m15⟩ := m
  exact ⟨{ d_power := d0, F_power := e0, g_power := He.glo_ok X G (c.t.d.fact 0 (f := .glo "power") rfl), d_inverse := d1, F_inverse := e1, g_inverse := He.glo_ok X G (c.t.d.fact 1 (f := .glo "inverse") rfl), d__law_pot := d2, F__law_pot := e2, g__law_pot := He.glo_ok X G (c.t.d.fact 2 (f := .glo "_law_pot") rfl), d__law_next := d3, F__law_next := e3, g__law_next := He.glo_ok X G (c.t.d.fact 3 (f := .glo "_law_next") rfl), d__law_is_int := d4, F__law_is_int := e4, g__law_is_int := He.glo_ok X G (c.t.d.fact 4 (f := .glo "_law_is_int") rfl), d__law_refused := d5, F__law_refused := e5, g__law_refused := He.glo_ok X G (c.t.d.fact 5 (f := .glo "_law_refused") rfl), d_law := d6, F_law := e6, g_law := He.glo_ok X G (c.t.d.fact 6 (f := .glo "law") rfl), z_ValueError := He.free_ok X G (c.t.d.fact 7 (f := .free "ValueError") rfl), z_abs := He.free_ok X G (c.t.d.fact 8 (f := .free "abs") rfl), z_bool := He.free_ok X G (c.t.d.fact 9 (f := .free "bool") rfl), z_int := He.free_ok X G (c.t.d.fact 10 (f := .free "int") rfl), z_isinstance := He.free_ok X G (c.t.d.fact 11 (f := .free "isinstance") rfl), z_len := He.free_ok X G (c.t.d.fact 12 (f := .free "len") rfl), z_list := He.free_ok X G (c.t.d.fact 13 (f := .free "list") rfl), c_PRIME := He.int_ok X G (c.t.d.fact 14 (f := .int "PRIME" 65521) rfl), g_InvalidArgument := He.glo_ok X G (c.t.d.fact 15 (f := .glo "InvalidArgument") rfl), g_NotEnoughPieces := He.glo_ok X G (c.t.d.fact 16 (f := .glo "NotEnoughPieces") rfl), g_PoolError := He.glo_ok X G (c.t.d.fact 17 (f := .glo "PoolError") rfl), x_InvalidArgument := m0, k_InvalidArgument := m1, sb_InvalidArgument := m2, ty_InvalidArgument := m3, xm_InvalidArgument_PoolError := m4, e1_InvalidArgument := m5, e2_InvalidArgument := m6, e3_InvalidArgument := m7, e4_InvalidArgument := m8, e5_InvalidArgument := m9, ki_InvalidArgument_InvalidArgument := m10, ki_InvalidArgument_NotEnoughPieces := m11, ki_InvalidArgument_PoolError := m12, ki_InvalidArgument_ValueError := m13, e6 := m14, e7 := m15 }⟩
theorem b_power {K : PySem.W.Frag} {mg : Str → Option Value} (T : Txt K mg) : Binds K T.d_power ["a", "exponent"] [] := T.F_power.bindsN fun _ _ _ _ _ _ us hl => match us, hl with | [_, _], _ => rfl
theorem b_inverse {K : PySem.W.Frag} {mg : Str → Option Value} (T : Txt K mg) : Binds K T.d_inverse ["a"] [] := T.F_inverse.bindsN fun _ _ _ _ _ _ us hl => match us, hl with | [_], _ => rfl
theorem b__law_pot {K : PySem.W.Frag} {mg : Str → Option Value} (T : Txt K mg) : Binds K T.d__law_pot ["_law_script"] [] := T.F__law_pot.bindsN fun _ _ _ _ _ _ us hl => match us, hl with | [_], _ => rfl
theorem b__law_next {K : PySem.W.Frag} {mg : Str → Option Value} (T : Txt K mg) : Binds K T.d__law_next ["_law_pot_here", "_law_limit"] [] := T.F__law_next.bindsN fun _ _ _ _ _ _ us hl => match us, hl with | [_, _], _ => rfl
theorem b__law_is_int {K : PySem.W.Frag} {mg : Str → Option Value} (T : Txt K mg) : Binds K T.d__law_is_int ["_law_value"] [] := T.F__law_is_int.bindsN fun _ _ _ _ _ _ us hl => match us, hl with | [_], _ => rfl
theorem b__law_refused {K : PySem.W.Frag} {mg : Str → Option Value} (T : Txt K mg) : Binds K T.d__law_refused ["_law_a"] [] := T.F__law_refused.bindsN fun _ _ _ _ _ _ us hl => match us, hl with | [_], _ => rfl
theorem b_law {K : PySem.W.Frag} {mg : Str → Option Value} (T : Txt K mg) : Binds K T.d_law ["_law_script"] [] := T.F_law.bindsN fun _ _ _ _ _ _ us hl => match us, hl with | [_], _ => rfl
theorem ec_InvalidArgument {K : PySem.W.Frag} {mg : Str → Option Value} (T : Txt K mg) : ExcC K (He.ga K "InvalidArgument") := ⟨T.e1_InvalidArgument, T.e2_InvalidArgument, T.sb_InvalidArgument, T.e3_InvalidArgument, T.e4_InvalidArgument, T.e6, T.e7, T.e5_InvalidArgument⟩
def sp_power {K : PySem.W.Frag} {mg : Str → Option Value} (_ : Txt K mg) : Sp := fun vs H Q _ => ∃ (a e : Int), vs = [.int a, .int e] ∧ 0 ≤ e ∧ Q (.int (if e = 0 then 1 else (((a % 65521).toNat ^ e.toNat % 65521 : Nat) : Int))) H
def rd_power {K : PySem.W.Frag} {mg : Str → Option Value} (T : Txt K mg) (E : XK) : TS :=
  (tSeq (tAsg (tC (.int 1)) (gName 2))
    (tSeq (tAsg (tOp aMod (tCB rInt1 (tCons (tVar 0) tNil)) (tC (.int 65521))) (gName 3))
    (tSeq (tAsg (tVar 1) (gName 4))
    (tSeq (tWhile (tTest (tOp aGt (tVar 4) (tC (.int 0)))) (tSeq (tIfS (tTest (tOp rEq (tOp aMod (tCB rInt1 (tCons (tVar 4) tNil)) (tC (.int 2))) (tC (.int 1)))) (tAsg (tOp aMod (tOp aMul (tVar 2) (tVar 3)) (tC (.int 65521))) (gName 2)) tNext)
    (tSeq (tAsg (tOp aMod (tOp aMul (tVar 3) (tVar 3)) (tC (.int 65521))) (gName 3))
    (tAsg (tOp aDiv (tVar 4) (tC (.int 2))) (gName 4)))))
    (tRet (tVar 2))))))
set_option maxHeartbeats 4000000 in
theorem tm_power {P : Program} {w : World} {K : PySem.W.Frag} {mg : Str → Option Value} {base : Heap} (T : Txt K mg) {f : Addr} {cdv : Value} {A : Around} {outer : List Env} {s : Shared} {H : Hp} {E : XK} (hr : Room 0 (A.deeper (envOfC "power" (defScope s_power) s.heap.objs.size f cdv))) :
    PSs (cxOf (L2.CX P w) P w K mg base nm_power "power" (defScope s_power) f cdv A outer s H E) (defBody s_power) (rd_power T E) :=
  (pss_cons (ps_set (i := 2) sc_power.nd rfl (by first | exact Or.inl rfl | exact Or.inr rfl) pe_int)
    (pss_cons (ps_set (i := 3) sc_power.nd rfl (by first | exact Or.inl rfl | exact Or.inr rfl) (pe_op op_mod (pe_callTy call_int1 (by rfl) T.z_int (by decide +kernel) (pa_cons (pv 0) pa_nil)) (pe_gi rfl T.c_PRIME)))
    (pss_cons (ps_set (i := 4) sc_power.nd rfl (by first | exact Or.inl rfl | exact Or.inr rfl) (pv 1))
    (pss_cons (ps_while (passes_of rfl) (pt_cmpR op_gt (pv 4) pe_int (nomark _)) (pss_cons (ps_if (pt_cmpR op_eq (pe_op op_mod (pe_callTy call_int1 (by rfl) T.z_int (by decide +kernel) (pa_cons (pv 4) pa_nil)) pe_int) pe_int (nomark _)) (pss_one (ps_set (i := 2) sc_power.nd rfl (by first | exact Or.inl rfl | exact Or.inr rfl) (pe_op op_mod (pe_op op_mul (pv 2) (pv 3)) (pe_gi rfl T.c_PRIME)))) pss_nil)
    (pss_cons (ps_set (i := 3) sc_power.nd rfl (by first | exact Or.inl rfl | exact Or.inr rfl) (pe_op op_mod (pe_op op_mul (pv 3) (pv 3)) (pe_gi rfl T.c_PRIME)))
    (pss_one (ps_set (i := 4) sc_power.nd rfl (by first | exact Or.inl rfl | exact Or.inr rfl) (pe_op op_fdivW (pv 4) pe_int))))))
    (pss_one (ps_ret (pv 2)))))))
theorem pr_power {K : PySem.W.Frag} {mg : Str → Option Value} (T : Txt K mg) (vs : List V) (H : Hp) (Q : VK) (E : XK) (h : sp_power T vs H Q E) : rd_power T E ⟨fun _ H' => Q .non H', Q, fun _ _ => False, fun _ _ => False⟩ (start nm_power vs) H := by
  obtain ⟨a, e, rfl, he, q⟩ := h
  show rd_power T E _ [some _, some _, none, none, none] H
  unfold rd_power
  walk_at "rd"
  walk_at "sq"
  refine while_by (fun σ H' => H' = H ∧ ∃ f b l : Nat, σ = [some (.int a), some (.int e), some (.int f), some (.int b), some (.int l)] ∧ f * b ^ l % 65521 = (a % 65521).toNat ^ e.toNat % 65521 ∧ (e.toNat = 0 → l = 0 ∧ f = 1) ∧ (0 < e.toNat → l = 0 → f < 65521) ∧ (f < 65521) ∧ b < 65521)
    (fun σ _ => match σ with | [_, _, _, _, some (.int l)] => l.toNat | _ => 0) ?_ ?_ ?_
  · refine ⟨rfl, 1, (a % 65521).toNat, e.toNat, ?_, by rw [Nat.one_mul], fun h => ⟨h, rfl⟩, fun _ _ => by decide, by decide, by omega⟩
    rw [show ((a % 65521).toNat : Int) = a % 65521 by omega, show (e.toNat : Int) = e by omega]; rfl
  · rintro σ H' ⟨rfl, f, b, l, rfl, hf, h0, h1, h2, h3⟩
    walk_at "rd"
    refine rd_ite (fun hl => ?_) (fun hl => ?_)
    · walk_at "sq"
      walk_at "rd"
      refine rd_ite (fun ho => ?_) (fun ho => ?_)
      · walk_at "rd"
        refine ⟨⟨rfl, f * b % 65521, b * b % 65521, l / 2, by simp only [Int.natCast_emod, Int.natCast_mul, Int.natCast_ediv]; rfl, ?_, fun h => ?_, fun _ _ => Nat.mod_lt _ (by decide), Nat.mod_lt _ (by decide), Nat.mod_lt _ (by decide)⟩, ?_⟩
        · rw [Fp.turn_odd (by omega)]; exact hf
        · have := (h0 h).1; omega
        · show ((l : Int) / 2).toNat < (l : Int).toNat; omega
      · walk_at "rd"
        refine ⟨⟨rfl, f, b * b % 65521, l / 2, by simp only [Int.natCast_emod, Int.natCast_mul, Int.natCast_ediv]; rfl, ?_, fun h => ?_, fun _ _ => h2, h2, Nat.mod_lt _ (by decide)⟩, ?_⟩
        · rw [Fp.turn_even (by omega)]; exact hf
        · have := (h0 h).1; omega
        · show ((l : Int) / 2).toNat < (l : Int).toNat; omega
    · walk_at "rd"
      have hl0 : l = 0 := by omega
      subst hl0
      rw [Nat.pow_zero, Nat.mul_one, Nat.mod_eq_of_lt h2] at hf
      have : (f : Int) = (if e = 0 then 1 else (((a % 65521).toNat ^ e.toNat % 65521 : Nat) : Int)) := by
        split
        · rename_i hz
          have := (h0 (by omega)).2
          omega
        · rw [hf]
      rw [this]; exact q
  · intro σ H' Q Q' hq h
    obtain ⟨v, e1, e2⟩ := h
    refine ⟨v, e1, ?_⟩
    obtain ⟨i, j, e3, e4, k, e5, e6⟩ := e2
    exact ⟨i, j, e3, e4, k, e5, hq _ _ e6⟩
theorem ln_power {K : PySem.W.Frag} {mg : Str → Option Value} (T : Txt K mg) (vs : List V) (H : Hp) (Q : VK) (E : XK) (h : sp_power T vs H Q E) : vs.length = 2 := by
  first
    | (obtain ⟨_, rfl, _⟩ := h; rfl)
    | (obtain ⟨_, _, rfl, _⟩ := h; rfl)
    | (obtain ⟨_, _, _, rfl, _⟩ := h; rfl)
    | (obtain ⟨_, _, _, _, rfl, _⟩ := h; rfl)
    | (obtain ⟨_, _, _, _, _, rfl, _⟩ := h; rfl)
    | (obtain ⟨_, _, _, _, _, _, rfl, _⟩ := h; rfl)
    | (obtain ⟨_, _, _, _, _, _, _, rfl, _⟩ := h; rfl)
    | (obtain ⟨_, _, _, _, _, _, _, _, rfl, _⟩ := h; rfl)
theorem ok_power {P : Program} {w : World} {K : PySem.W.Frag} {mg : Str → Option Value} {base : Heap} (T : Txt K mg) : FnOk P w K mg base (L2.CX P w) 1 (He.ga K "power") T.d_power ["a", "exponent"] (sp_power T) :=
  T.F_power.ok sc_power (ln_power T) (fun cdv A outer s H vs Q E hr h => ⟨_, tm_power T hr, pr_power T vs H Q E h⟩)
def sp_inverse {K : PySem.W.Frag} {mg : Str → Option Value} (_ : Txt K mg) : Sp := fun vs H Q E => ∃ (a : Int), vs = [.int a] ∧ (a % 65521 ≠ 0 → Q (.int (Fp.inv a)) H) ∧ (a % 65521 = 0 → E (.ref (He.ga K "InvalidArgument")) none H)
def rd_inverse {K : PySem.W.Frag} {mg : Str → Option Value} (T : Txt K mg) (E : XK) : TS :=
  (tSeq (tIfS (tTest (tOp rEq (tOp aMod (tCB rInt1 (tCons (tVar 0) tNil)) (tC (.int 65521))) (tC (.int 0)))) (tRaiseC (He.ga K "InvalidArgument") E) tNext)
    (tRet (tCall (sp_power T) [] E (tCons (tVar 0) (tCons (tOp aSub (tC (.int 65521)) (tC (.int 2))) tNil)))))
set_option maxHeartbeats 4000000 in
theorem tm_inverse {P : Program} {w : World} {K : PySem.W.Frag} {mg : Str → Option Value} {base : Heap} (T : Txt K mg) {f : Addr} {cdv : Value} {A : Around} {outer : List Env} {s : Shared} {H : Hp} {E : XK} (hr : Room 1 (A.deeper (envOfC "inverse" (defScope s_inverse) s.heap.objs.size f cdv))) :
    PSs (cxOf (L2.CX P w) P w K mg base nm_inverse "inverse" (defScope s_inverse) f cdv A outer s H E) (defBody s_inverse) (rd_inverse T E) :=
  (pss_cons (ps_if (pt_cmpR op_eq (pe_op op_mod (pe_callTy call_int1 (by rfl) T.z_int (by decide +kernel) (pa_cons (pv 0) pa_nil)) (pe_gi rfl T.c_PRIME)) pe_int (nomark _)) (pss_one (ps_raise (W := fun cls d _ H => E cls d H) rfl (takes_of rfl rfl rfl rfl) (pmk_own PySem.F.excBase_ValueError T.x_InvalidArgument T.g_InvalidArgument T.k_InvalidArgument (raises_own T.sb_InvalidArgument T.ty_InvalidArgument) (by rfl)))) pss_nil)
    (pss_one (ps_ret (pe_call (E := E) (ok_power T) (hr.mono (by decide)) rfl T.g_power T.F_power.kp (b_power T) .nil (passes_call (takes_of rfl rfl rfl rfl) (fun _ _ _ _ h => h)) (pa_cons (pv 0) (pa_cons (pe_op op_sub (pe_gi rfl T.c_PRIME) pe_int) pa_nil))))))
theorem pr_inverse {K : PySem.W.Frag} {mg : Str → Option Value} (T : Txt K mg) (vs : List V) (H : Hp) (Q : VK) (E : XK) (h : sp_inverse T vs H Q E) : rd_inverse T E ⟨fun _ H' => Q .non H', Q, fun _ _ => False, fun _ _ => False⟩ (start nm_inverse vs) H := by
  obtain ⟨a, rfl, q, q2⟩ := h
  show rd_inverse T E _ [some _] H
  unfold rd_inverse
  walk_at "sq"
  walk_at "rd"
  refine rd_ite (fun hz => ?_) (fun hz => ?_)
  · walk_at "rd"
    exact q2 hz
  · walk_at "rd"
    refine ⟨a, _, rfl, by decide, ?_⟩
    rw [Fp.inv_def a _ (by decide)]
    exact q hz
theorem ln_inverse {K : PySem.W.Frag} {mg : Str → Option Value} (T : Txt K mg) (vs : List V) (H : Hp) (Q : VK) (E : XK) (h : sp_inverse T vs H Q E) : vs.length = 1 := by
  first
    | (obtain ⟨_, rfl, _⟩ := h; rfl)
    | (obtain ⟨_, _, rfl, _⟩ := h; rfl)
    | (obtain ⟨_, _, _, rfl, _⟩ := h; rfl)
    | (obtain ⟨_, _, _, _, rfl, _⟩ := h; rfl)
    | (obtain ⟨_, _, _, _, _, rfl, _⟩ := h; rfl)
    | (obtain ⟨_, _, _, _, _, _, rfl, _⟩ := h; rfl)
    | (obtain ⟨_, _, _, _, _, _, _, rfl, _⟩ := h; rfl)
    | (obtain ⟨_, _, _, _, _, _, _, _, rfl, _⟩ := h; rfl)
theorem ok_inverse {P : Program} {w : World} {K : PySem.W.Frag} {mg : Str → Option Value} {base : Heap} (T : Txt K mg) : FnOk P w K mg base (L2.CX P w) 2 (He.ga K "inverse") T.d_inverse ["a"] (sp_inverse T) :=
  T.F_inverse.ok sc_inverse (ln_inverse T) (fun cdv A outer s H vs Q E hr h => ⟨_, tm_inverse T hr, pr_inverse T vs H Q E h⟩)

/-- the pot: the script's copy at l, the place, the cell, the seed -/
def PotO (l : Addr) (o : HO) : Prop := ∃ i c s : Int, o = .lst [.ref l, .int i, .int c, .int s] ∧ 0 ≤ i ∧ 0 ≤ c ∧ 0 ≤ s
def sp__law_pot {K : PySem.W.Frag} {mg : Str → Option Value} (_ : Txt K mg) : Sp := fun vs H Q _ => ∃ (a : Addr) (ns : List Int), vs = [.ref a] ∧ SqL K H a (ns.map V.int) ∧ ns.length ≤ 63 ∧
  ∀ (p l : Addr) (o : HO) (H' : Hp), H l = none → upd H l (.lst (ns.map V.int)) p = none → PotO l o → H' = upd (upd H l (.lst (ns.map V.int))) p o → Q (.ref p) H'
def rd__law_pot {K : PySem.W.Frag} {mg : Str → Option Value} (T : Txt K mg) (E : XK) : TS :=
  (tSeq (tAsg (tC (.int 1)) (gName 1))
    (tSeq (tFor (iList K (tVar 0)) (gName 2) (tAsg (tOp aMod (tCB rInt1 (tCons (tOp aAdd (tOp aMul (tVar 1) (tC (.int 31))) (tVar 2)) tNil)) (tC (.int 2147483647))) (gName 1)))
    (tRet (tLst (tCons (tCB (rListOf K) (tCons (tVar 0) tNil)) (tCons (tC (.int 0)) (tCons (tC (.int 0)) (tCons (tVar 1) tNil))))))))
set_option maxHeartbeats 4000000 in
theorem tm__law_pot {P : Program} {w : World} {K : PySem.W.Frag} {mg : Str → Option Value} {base : Heap} (T : Txt K mg) {f : Addr} {cdv : Value} {A : Around} {outer : List Env} {s : Shared} {H : Hp} {E : XK} (hr : Room 0 (A.deeper (envOfC "_law_pot" (defScope s__law_pot) s.heap.objs.size f cdv))) :
    PSs (cxOf (L2.CX P w) P w K mg base nm__law_pot "_law_pot" (defScope s__law_pot) f cdv A outer s H E) (defBody s__law_pot) (rd__law_pot T E) :=
  (pss_cons (ps_set (i := 1) sc__law_pot.nd rfl (by first | exact Or.inl rfl | exact Or.inr rfl) pe_int)
    (pss_cons (ps_for (passes_of rfl) rfl (pi_list (pv 0)) (pg_name (i := 2) sc__law_pot.nd rfl (by first | exact Or.inl rfl | exact Or.inr rfl)) (pss_one (ps_set (i := 1) sc__law_pot.nd rfl (by first | exact Or.inl rfl | exact Or.inr rfl) (pe_op op_mod (pe_callTy call_int1 (by rfl) T.z_int (by decide +kernel) (pa_cons (pe_op op_add (pe_op op_mul (pv 1) pe_int) (pv 2)) pa_nil)) pe_int))))
    (pss_one (ps_ret (pe_lst (pa_cons (pe_callTy call_list_of (by rfl) T.z_list (by decide +kernel) (pa_cons (pv 0) pa_nil)) (pa_cons pe_int (pa_cons pe_int (pa_cons (pv 1) pa_nil)))))))))
theorem pr__law_pot {K : PySem.W.Frag} {mg : Str → Option Value} (T : Txt K mg) (vs : List V) (H : Hp) (Q : VK) (E : XK) (h : sp__law_pot T vs H Q E) : rd__law_pot T E ⟨fun _ H' => Q .non H', Q, fun _ _ => False, fun _ _ => False⟩ (start nm__law_pot vs) H := by
  obtain ⟨a, ns, rfl, hS, hl, q⟩ := h
  show rd__law_pot T E _ [some _, none, none] H
  unfold rd__law_pot
  walk_at "rd"
  walk_at "sq"
  refine ⟨_, rfl, a, rfl, ⟨_, hS⟩, for_list (K := K) (a := a) (xs := ns.map V.int) (fun i σ H' => H' = H ∧ ∃ (x : Option V) (s : Int), 0 ≤ s ∧ σ = [some (.ref a), some (.int s), x])
    ⟨rfl, none, 1, by decide, rfl⟩ (fun i σ H' _ ⟨e, _⟩ => e ▸ hS) ?_ ?_⟩
  · rintro i x σ H' hi ⟨rfl, x0, s, hs, rfl⟩
    obtain ⟨z, rfl⟩ : ∃ z, x = V.int z := by
      rw [List.getElem?_map] at hi
      cases e : ns[i]? with
      | none => rw [e] at hi; cases hi
      | some z => rw [e] at hi; exact ⟨z, (Option.some.inj hi).symm⟩
    walk_at "rd"
    exact ⟨rfl, some (.int z), _, by omega, rfl⟩
  · rintro σ H' ⟨rfl, x0, s, hs, rfl⟩
    walk_at "rd"
    refine ⟨a, ns.map V.int, rfl, .inl hS, fun l nl => ?_⟩
    walk_at "rd"
    refine ⟨szl (by simp), fun p np => ?_⟩
    exact q p l _ _ nl np ⟨0, 0, s, rfl, by decide, by decide, hs⟩ rfl
theorem ln__law_pot {K : PySem.W.Frag} {mg : Str → Option Value} (T : Txt K mg) (vs : List V) (H : Hp) (Q : VK) (E : XK) (h : sp__law_pot T vs H Q E) : vs.length = 1 := by
  first
    | (obtain ⟨_, rfl, _⟩ := h; rfl)
    | (obtain ⟨_, _, rfl, _⟩ := h; rfl)
    | (obtain ⟨_, _, _, rfl, _⟩ := h; rfl)
    | (obtain ⟨_, _, _, _, rfl, _⟩ := h; rfl)
    | (obtain ⟨_, _, _, _, _, rfl, _⟩ := h; rfl)
    | (obtain ⟨_, _, _, _, _, _, rfl, _⟩ := h; rfl)
    | (obtain ⟨_, _, _, _, _, _, _, rfl, _⟩ := h; rfl)
    | (obtain ⟨_, _, _, _, _, _, _, _, rfl, _⟩ := h; rfl)
theorem ok__law_pot {P : Program} {w : World} {K : PySem.W.Frag} {mg : Str → Option Value} {base : Heap} (T : Txt K mg) : FnOk P w K mg base (L2.CX P w) 1 (He.ga K "_law_pot") T.d__law_pot ["_law_script"] (sp__law_pot T) :=
  T.F__law_pot.ok sc__law_pot (ln__law_pot T) (fun cdv A outer s H vs Q E hr h => ⟨_, tm__law_pot T hr, pr__law_pot T vs H Q E h⟩)
def sp__law_next {K : PySem.W.Frag} {mg : Str → Option Value} (_ : Txt K mg) : Sp := fun vs H Q _ => ∃ (a l : Addr) (ns : List Int) (lim : Int) (o : HO), vs = [.ref a, .int lim] ∧ 0 < lim ∧ lim < 4611686018427387904 ∧ H a = some o ∧ PotO l o ∧ SqL K H l (ns.map V.int) ∧ l ≠ a ∧
  ∀ (r : Int) (o' : HO), 0 ≤ r → r < lim → PotO l o' → Q (.int r) (upd H a o')
def rd__law_next {K : PySem.W.Frag} {mg : Str → Option Value} (T : Txt K mg) (E : XK) : TS :=
  (tSeq (tIfS (tAnd (tTest (tOp rEq (tOp (rIxL K) (tVar 0) (tC (.int 2))) (tC (.int 0)))) (tTest (tOp aLt (tOp (rIxL K) (tVar 0) (tC (.int 1))) (tCB (Pp.rLen K) (tCons (tOp (rIxL K) (tVar 0) (tC (.int 0))) tNil))))) (tSeq (tAsg (tCB rAbs (tCons (tCB rInt1 (tCons (tOp (rIxL K) (tOp (rIxL K) (tVar 0) (tC (.int 0))) (tOp (rIxL K) (tVar 0) (tC (.int 1)))) tNil)) tNil)) (gName 2))
    (tSeq (tAsg (tOp aAdd (tOp (rIxL K) (tVar 0) (tC (.int 1))) (tC (.int 1))) (gSub (tVar 0) (tC (.int 1)) rSetL))
    (tSeq (tIfS (tTest (tOp aLt (tVar 2) (tOp aPow (tC (.int 10)) (tC (.int 18))))) (tRet (tOp aMod (tCB rInt1 (tCons (tVar 2) tNil)) (tVar 1))) tNext)
    (tAsg (tVar 2) (gSub (tVar 0) (tC (.int 2)) rSetL))))) tNext)
    (tSeq (tIfS (tTest (tOp aGt (tOp (rIxL K) (tVar 0) (tC (.int 2))) (tC (.int 0)))) (tSeq (tAsg (tOp aMod (tCB rInt1 (tCons (tOp (rIxL K) (tVar 0) (tC (.int 2))) tNil)) (tVar 1)) (gName 3))
    (tSeq (tAsg (tOp aDiv (tOp (rIxL K) (tVar 0) (tC (.int 2))) (tVar 1)) (gSub (tVar 0) (tC (.int 2)) rSetL))
    (tRet (tVar 3)))) tNext)
    (tSeq (tAsg (tOp aMod (tCB rInt1 (tCons (tOp aAdd (tOp aMul (tOp (rIxL K) (tVar 0) (tC (.int 3))) (tC (.int 48271))) (tC (.int 12345))) tNil)) (tC (.int 2147483647))) (gSub (tVar 0) (tC (.int 3)) rSetL))
    (tSeq (tAsg (tOp aMod (tCB rInt1 (tCons (tOp aAdd (tOp aMul (tOp (rIxL K) (tVar 0) (tC (.int 3))) (tC (.int 69621))) (tOp aDiv (tOp (rIxL K) (tVar 0) (tC (.int 3))) (tC (.int 127)))) tNil)) (tC (.int 2147483629))) (gName 4))
    (tRet (tOp aMod (tCB rInt1 (tCons (tVar 4) tNil)) (tVar 1)))))))
set_option maxHeartbeats 4000000 in
theorem tm__law_next {P : Program} {w : World} {K : PySem.W.Frag} {mg : Str → Option Value} {base : Heap} (T : Txt K mg) {f : Addr} {cdv : Value} {A : Around} {outer : List Env} {s : Shared} {H : Hp} {E : XK} (hr : Room 0 (A.deeper (envOfC "_law_next" (defScope s__law_next) s.heap.objs.size f cdv))) :
    PSs (cxOf (L2.CX P w) P w K mg base nm__law_next "_law_next" (defScope s__law_next) f cdv A outer s H E) (defBody s__law_next) (rd__law_next T E) :=
  (pss_cons (ps_if (PW.pt (pw_and (pt_cmpR op_eq (pe_ix ix_list (pv 0) pe_int (fun _ _ => rfl)) pe_int (nomark _)) (pw_and1 (pt_cmpR op_lt (pe_ix ix_list (pv 0) pe_int (fun _ _ => rfl)) (pe_callB call_len_seq (by rfl) T.z_len (by decide +kernel) (pa_cons (pe_ix ix_list (pv 0) pe_int (fun _ _ => rfl)) pa_nil)) (nomark _))))) (pss_cons (ps_set (i := 2) sc__law_next.nd rfl (by first | exact Or.inl rfl | exact Or.inr rfl) (pe_callB call_abs (by rfl) T.z_abs (by decide +kernel) (pa_cons (pe_callTy call_int1 (by rfl) T.z_int (by decide +kernel) (pa_cons (pe_ix ix_list (pe_ix ix_list (pv 0) pe_int (fun _ _ => rfl)) (pe_ix ix_list (pv 0) pe_int (fun _ _ => rfl)) (fun _ _ => rfl)) pa_nil)) pa_nil)))
    (pss_cons (ps_asg (pe_op op_add (pe_ix ix_list (pv 0) pe_int (fun _ _ => rfl)) pe_int) (pg_sub (pv 0) pe_int set_list))
    (pss_cons (ps_if (pt_cmpR op_lt (pv 2) (pe_op op_pow pe_int pe_int) (nomark _)) (pss_one (ps_ret (pe_op op_mod (pe_callTy call_int1 (by rfl) T.z_int (by decide +kernel) (pa_cons (pv 2) pa_nil)) (pv 1)))) pss_nil)
    (pss_one (ps_asg (pv 2) (pg_sub (pv 0) pe_int set_list)))))) pss_nil)
    (pss_cons (ps_if (pt_cmpR op_gt (pe_ix ix_list (pv 0) pe_int (fun _ _ => rfl)) pe_int (nomark _)) (pss_cons (ps_set (i := 3) sc__law_next.nd rfl (by first | exact Or.inl rfl | exact Or.inr rfl) (pe_op op_mod (pe_callTy call_int1 (by rfl) T.z_int (by decide +kernel) (pa_cons (pe_ix ix_list (pv 0) pe_int (fun _ _ => rfl)) pa_nil)) (pv 1)))
    (pss_cons (ps_asg (pe_op op_fdivW (pe_ix ix_list (pv 0) pe_int (fun _ _ => rfl)) (pv 1)) (pg_sub (pv 0) pe_int set_list))
    (pss_one (ps_ret (pv 3))))) pss_nil)
    (pss_cons (ps_asg (pe_op op_mod (pe_callTy call_int1 (by rfl) T.z_int (by decide +kernel) (pa_cons (pe_op op_add (pe_op op_mul (pe_ix ix_list (pv 0) pe_int (fun _ _ => rfl)) pe_int) pe_int) pa_nil)) pe_int) (pg_sub (pv 0) pe_int set_list))
    (pss_cons (ps_set (i := 4) sc__law_next.nd rfl (by first | exact Or.inl rfl | exact Or.inr rfl) (pe_op op_mod (pe_callTy call_int1 (by rfl) T.z_int (by decide +kernel) (pa_cons (pe_op op_add (pe_op op_mul (pe_ix ix_list (pv 0) pe_int (fun _ _ => rfl)) pe_int) (pe_op op_fdivW (pe_ix ix_list (pv 0) pe_int (fun _ _ => rfl)) pe_int)) pa_nil)) pe_int))
    (pss_one (ps_ret (pe_op op_mod (pe_callTy call_int1 (by rfl) T.z_int (by decide +kernel) (pa_cons (pv 4) pa_nil)) (pv 1))))))))
theorem pr__law_next {K : PySem.W.Frag} {mg : Str → Option Value} (T : Txt K mg) (vs : List V) (H : Hp) (Q : VK) (E : XK) (h : sp__law_next T vs H Q E) : rd__law_next T E ⟨fun _ H' => Q .non H', Q, fun _ _ => False, fun _ _ => False⟩ (start nm__law_next vs) H := by
  obtain ⟨a, l, ns, lim, o, rfl, h0, h1, ha, ⟨i, c, s, rfl, hi, hc, hs⟩, hL, hne, q⟩ := h
  have ix : ∀ {xs : List V} {j : Int} {v : V} {Q : VK} {H : Hp}, H a = some (.lst xs) → atI xs j = some v → Q v H → rIxL K (.ref a) (.int j) H Q := fun h1 h2 h3 => ⟨a, _, _, _, rfl, rfl, .inl (.inl h1), h2, h3⟩
  have st : ∀ {xs : List V} {j : Int} {m : Nat} {v : V} {Q : Hp → Prop} {H : Hp}, H a = some (.lst xs) → ixN xs.length j = some m → Q (upd H a (.lst (xs.set m v))) → rSetL (.ref a) (.int j) v H Q := fun h1 h2 h3 => ⟨a, _, _, _, rfl, rfl, h1, h2, h3⟩
  show rd__law_next T E _ [some _, some _, none, none, none] H
  unfold rd__law_next
  -- the second half, from any pot with the cell read or not
  have second : ∀ (H : Hp) (i c s : Int) (x1 x2 x3 : Option V), H a = some (.lst [.ref l, .int i, .int c, .int s]) → 0 ≤ i → 0 ≤ c → 0 ≤ s →
      (∀ (r : Int) (o' : HO), 0 ≤ r → r < lim → PotO l o' → Q (.int r) (upd H a o')) →
      tSeq (tIfS (tTest (tOp aGt (tOp (rIxL K) (tVar 0) (tC (.int 2))) (tC (.int 0)))) (tSeq (tAsg (tOp aMod (tCB rInt1 (tCons (tOp (rIxL K) (tVar 0) (tC (.int 2))) tNil)) (tVar 1)) (gName 3)) (tSeq (tAsg (tOp aDiv (tOp (rIxL K) (tVar 0) (tC (.int 2))) (tVar 1)) (gSub (tVar 0) (tC (.int 2)) rSetL)) (tRet (tVar 3)))) tNext)
        (tSeq (tAsg (tOp aMod (tCB rInt1 (tCons (tOp aAdd (tOp aMul (tOp (rIxL K) (tVar 0) (tC (.int 3))) (tC (.int 48271))) (tC (.int 12345))) tNil)) (tC (.int 2147483647))) (gSub (tVar 0) (tC (.int 3)) rSetL))
          (tSeq (tAsg (tOp aMod (tCB rInt1 (tCons (tOp aAdd (tOp aMul (tOp (rIxL K) (tVar 0) (tC (.int 3))) (tC (.int 69621))) (tOp aDiv (tOp (rIxL K) (tVar 0) (tC (.int 3))) (tC (.int 127)))) tNil)) (tC (.int 2147483629))) (gName 4))
            (tRet (tOp aMod (tCB rInt1 (tCons (tVar 4) tNil)) (tVar 1)))))
        ⟨fun _ H' => Q .non H', Q, fun _ _ => False, fun _ _ => False⟩ [some (.ref a), some (.int lim), x1, x2, x3] H := by
    intro H i c s x1 x2 x3 ha hi hc hs q
    walk_at "sq"
    walk_at "rd"
    refine' ix ha ?xx ?_; (case xx => exact rfl)
    walk_at "rd"
    refine rd_ite (fun hp => ?_) (fun hp => ?_)
    · walk_at "rd"
      refine' ix ha ?xx ?_; (case xx => exact rfl)
      walk_at "rd"
      refine' ix ha ?xx ?_; (case xx => exact rfl)
      walk_at "rd"
      refine' st ha ?xx ?_; (case xx => exact rfl)
      walk_at "rd"
      exact q _ _ (Int.emod_nonneg _ (by omega)) (Int.emod_lt_of_pos _ h0) ⟨i, c / lim, s, rfl, hi, Int.ediv_nonneg hc (by omega), hs⟩
    · walk_at "rd"
      refine' ix ha ?xx ?_; (case xx => exact rfl)
      walk_at "rd"
      refine' st ha ?xx ?_; (case xx => exact rfl)
      walk_at "rd"
      refine' ix upd_same ?xx ?_; (case xx => exact rfl)
      walk_at "rd"
      refine' ix upd_same ?xx ?_; (case xx => exact rfl)
      walk_at "rd"
      exact q _ _ (Int.emod_nonneg _ (by omega)) (Int.emod_lt_of_pos _ h0) ⟨i, c, _, rfl, hi, hc, by omega⟩
  walk_at "sq"
  walk_at "rd"
  refine' ix ha ?xx ?_; (case xx => exact rfl)
  walk_at "rd"
  have sec := second H i c s none none none ha hi hc hs q
  refine rd_ite (fun hp => ?_) (fun hp => ?_)
  · walk_at "rd"
    refine' ix ha ?xx ?_; (case xx => exact rfl)
    walk_at "rd"
    refine' ix ha ?xx ?_; (case xx => exact rfl)
    walk_at "rd"
    refine ⟨l, _, rfl, .inl hL, ?_⟩
    walk_at "rd"
    refine rd_ite (fun hp2 => ?_) (fun hp2 => ?_)
    · rw [List.length_map] at hp2
      walk_at "rd"
      refine' ix ha ?xx ?_; (case xx => exact rfl)
      walk_at "rd"
      refine' ix ha ?xx ?_; (case xx => exact rfl)
      obtain ⟨z, hz⟩ : ∃ z, ns[i.toNat]? = some z := ⟨_, List.getElem?_eq_getElem (show i.toNat < ns.length by omega)⟩
      refine ⟨l, _, i, .int z, rfl, rfl, hL, atI_of hi (by rw [List.getElem?_map, hz]; rfl), ?_⟩
      walk_at "rd"
      refine' ix ha ?xx ?_; (case xx => exact rfl)
      walk_at "rd"
      refine' st ha ?xx ?_; (case xx => exact rfl)
      walk_at "rd"
      have hcell : 0 ≤ (if z < 0 then -z else z) := by split <;> omega
      generalize (if z < 0 then -z else z) = cell at *
      walk_at "sq"
      walk_at "rd"
      refine rd_ite (fun hp3 => ?_) (fun hp3 => ?_)
      · walk_at "rd"
        exact q _ _ (Int.emod_nonneg _ (by omega)) (Int.emod_lt_of_pos _ h0) ⟨i + 1, c, s, rfl, by omega, hc, hs⟩
      · walk_at "rd"
        refine' st upd_same ?xx ?_; (case xx => exact rfl)
        exact second _ (i + 1) cell s _ _ _ upd_same (by omega) hcell hs (fun r o' a1 a2 a3 => by rw [upd_upd, upd_upd]; exact q r o' a1 a2 a3)
    · exact rd_next sec
  · exact rd_next sec
theorem ln__law_next {K : PySem.W.Frag} {mg : Str → Option Value} (T : Txt K mg) (vs : List V) (H : Hp) (Q : VK) (E : XK) (h : sp__law_next T vs H Q E) : vs.length = 2 := by
  first
    | (obtain ⟨_, rfl, _⟩ := h; rfl)
    | (obtain ⟨_, _, rfl, _⟩ := h; rfl)
    | (obtain ⟨_, _, _, rfl, _⟩ := h; rfl)
    | (obtain ⟨_, _, _, _, rfl, _⟩ := h; rfl)
    | (obtain ⟨_, _, _, _, _, rfl, _⟩ := h; rfl)
    | (obtain ⟨_, _, _, _, _, _, rfl, _⟩ := h; rfl)
    | (obtain ⟨_, _, _, _, _, _, _, rfl, _⟩ := h; rfl)
    | (obtain ⟨_, _, _, _, _, _, _, _, rfl, _⟩ := h; rfl)
theorem ok__law_next {P : Program} {w : World} {K : PySem.W.Frag} {mg : Str → Option Value} {base : Heap} (T : Txt K mg) : FnOk P w K mg base (L2.CX P w) 1 (He.ga K "_law_next") T.d__law_next ["_law_pot_here", "_law_limit"] (sp__law_next T) :=
  T.F__law_next.ok sc__law_next (ln__law_next T) (fun cdv A outer s H vs Q E hr h => ⟨_, tm__law_next T hr, pr__law_next T vs H Q E h⟩)
/-- a draw -/
theorem next_step {K : PySem.W.Frag} {mg : Str → Option Value} (T : Txt K mg) {H0 H : Hp} {M : List Addr} {L : List Cell} {F : List Fact} {Q : VK} {E : XK} {a l : Addr} {o : HO} {lim : Int} {ns : List Int} (k : Kn K H0 M H L F) (h : L[0]? = some (a, o)) (hp : PotO l o)
    (hf : L[1]? = some (l, .lst (ns.map V.int))) (h0 : 0 < lim) (h1 : lim < 4611686018427387904)
    (q : ∀ (r : Int) (o' : HO), 0 ≤ r → r < lim → PotO l o' → Kn K H0 M (upd H a o') (L.set 0 (a, o')) F → Q (.int r) (upd H a o')) : sp__law_next T [.ref a, .int lim] H Q E := by
  refine ⟨a, l, ns, lim, o, rfl, h0, h1, k.at 0 h, hp, .inl (.inl (k.at 1 hf)), ?_, fun r o' a1 a2 a3 => q r o' a1 a2 a3 (k.set 0 h)⟩
  rintro rfl
  have e1 : (L.map (·.1))[0]? = some l := by rw [List.getElem?_map, h]; rfl
  have e2 : (L.map (·.1))[1]? = some l := by rw [List.getElem?_map, hf]; rfl
  exact absurd (nd_ix k.nd e1 e2) (by decide)
/-- the pot is made -/
theorem pot_step {K : PySem.W.Frag} {mg : Str → Option Value} (T : Txt K mg) {H : Hp} {Q : VK} {E : XK} {a : Addr} {ns : List Int} (hS : SqL K H a (ns.map V.int)) (hl : ns.length ≤ 63)
    (q : ∀ (p l : Addr) (o : HO) (H' : Hp), PotO l o → Le H H' → Kn K H' [p, l] H' [(p, o), (l, .lst (ns.map V.int))] [] → Q (.ref p) H') : sp__law_pot T [.ref a] H Q E := by
  refine ⟨a, ns, rfl, hS, hl, fun p l o H' nl np hp e => q p l o H' hp (e ▸ (le_new nl).trans (le_new np)) ?_⟩
  subst e
  have ne : p ≠ l := fun z => by subst z; rw [upd_same] at np; cases np
  refine ⟨fun c hc => ?_, by simp [ne], fun c hc => .inr ?_, fun _ _ e _ => e, fun _ h => (nomatch h)⟩
  · rcases List.mem_cons.mp hc with rfl | hc
    · exact upd_same
    · obtain rfl := List.mem_singleton.mp hc
      show upd (upd H l _) p o l = _
      rw [upd_ne ne.symm]; exact upd_same
  · rcases List.mem_cons.mp hc with rfl | hc
    · simp
    · obtain rfl := List.mem_singleton.mp hc
      simp

def sp__law_is_int {K : PySem.W.Frag} {mg : Str → Option Value} (_ : Txt K mg) : Sp := fun vs H Q _ => ∃ (n : Int), vs = [.int n] ∧ Q (.bl true) H
def rd__law_is_int {K : PySem.W.Frag} {mg : Str → Option Value} (T : Txt K mg) (E : XK) : TS :=
  (tRet (tAndV (tCB (rIsi K) (tCons (tVar 0) (tCons (tC (.ty "int")) tNil))) (tNotV (tCB (rIsi K) (tCons (tVar 0) (tCons (tC (.ty "bool")) tNil))))))
set_option maxHeartbeats 4000000 in
theorem tm__law_is_int {P : Program} {w : World} {K : PySem.W.Frag} {mg : Str → Option Value} {base : Heap} (T : Txt K mg) {f : Addr} {cdv : Value} {A : Around} {outer : List Env} {s : Shared} {H : Hp} {E : XK} (hr : Room 0 (A.deeper (envOfC "_law_is_int" (defScope s__law_is_int) s.heap.objs.size f cdv))) :
    PSs (cxOf (L2.CX P w) P w K mg base nm__law_is_int "_law_is_int" (defScope s__law_is_int) f cdv A outer s H E) (defBody s__law_is_int) (rd__law_is_int T E) :=
  (pss_one (ps_ret (pe_and (pe_callB call_isi (by rfl) T.z_isinstance (by decide +kernel) (pa_cons (pv 0) (pa_cons (pe_bltn (by rfl) T.z_int (by decide +kernel) rfl) pa_nil))) (pe_one (pe_not (pe_callB call_isi (by rfl) T.z_isinstance (by decide +kernel) (pa_cons (pv 0) (pa_cons (pe_bltn (by rfl) T.z_bool (by decide +kernel) rfl) pa_nil))))))))
theorem pr__law_is_int {K : PySem.W.Frag} {mg : Str → Option Value} (T : Txt K mg) (vs : List V) (H : Hp) (Q : VK) (E : XK) (h : sp__law_is_int T vs H Q E) : rd__law_is_int T E ⟨fun _ H' => Q .non H', Q, fun _ _ => False, fun _ _ => False⟩ (start nm__law_is_int vs) H := by
  obtain ⟨n, rfl, q⟩ := h
  show rd__law_is_int T E _ [some _] H
  unfold rd__law_is_int
  walk_at "rd"
  refine rd_isi (b := true) (.ty _) (.base (.int n)) (kit_ty (by decide +kernel)) ?_
  walk_at "rd"
  refine rd_isi (b := false) (.ty _) (.base (.int n)) (kit_ty (by decide +kernel)) ?_
  walk_at "rd"
  exact q
theorem ln__law_is_int {K : PySem.W.Frag} {mg : Str → Option Value} (T : Txt K mg) (vs : List V) (H : Hp) (Q : VK) (E : XK) (h : sp__law_is_int T vs H Q E) : vs.length = 1 := by
  first
    | (obtain ⟨_, rfl, _⟩ := h; rfl)
    | (obtain ⟨_, _, rfl, _⟩ := h; rfl)
    | (obtain ⟨_, _, _, rfl, _⟩ := h; rfl)
    | (obtain ⟨_, _, _, _, rfl, _⟩ := h; rfl)
    | (obtain ⟨_, _, _, _, _, rfl, _⟩ := h; rfl)
    | (obtain ⟨_, _, _, _, _, _, rfl, _⟩ := h; rfl)
    | (obtain ⟨_, _, _, _, _, _, _, rfl, _⟩ := h; rfl)
    | (obtain ⟨_, _, _, _, _, _, _, _, rfl, _⟩ := h; rfl)
theorem ok__law_is_int {P : Program} {w : World} {K : PySem.W.Frag} {mg : Str → Option Value} {base : Heap} (T : Txt K mg) : FnOk P w K mg base (L2.CX P w) 1 (He.ga K "_law_is_int") T.d__law_is_int ["_law_value"] (sp__law_is_int T) :=
  T.F__law_is_int.ok sc__law_is_int (ln__law_is_int T) (fun cdv A outer s H vs Q E hr h => ⟨_, tm__law_is_int T hr, pr__law_is_int T vs H Q E h⟩)
def sp__law_refused {K : PySem.W.Frag} {mg : Str → Option Value} (_ : Txt K mg) : Sp := fun vs H Q _ => ∃ (n : Int), vs = [.int n] ∧ n % 65521 = 0 ∧ Q (.bl true) H
def rd__law_refused {K : PySem.W.Frag} {mg : Str → Option Value} (T : Txt K mg) (E : XK) : TS :=
  (tSeq (tTryAs K (.ref (He.ga K "PoolError")) 1 (fun W => (tDrop (tCallS (sp_inverse T) (WE W) (tCons (tVar 0) tNil)))) (fun a cls d => (tRet (tAndV (tCB (rIsX K a cls d) (tCons (tVar 1) (tCons (tC (.ref (He.ga K "InvalidArgument"))) tNil))) (tAndV (tCB (rIsX K a cls d) (tCons (tVar 1) (tCons (tC (.ty "ValueError")) tNil))) (tNotV (tCB (rIsX K a cls d) (tCons (tVar 1) (tCons (tC (.ref (He.ga K "NotEnoughPieces"))) tNil)))))))) (fun cls d _ H => E cls d H))
    (tRet (tC (.bl false))))
set_option maxHeartbeats 4000000 in
theorem tm__law_refused {P : Program} {w : World} {K : PySem.W.Frag} {mg : Str → Option Value} {base : Heap} (T : Txt K mg) {f : Addr} {cdv : Value} {A : Around} {outer : List Env} {s : Shared} {H : Hp} {E : XK} (hr : Room 2 (A.deeper (envOfC "_law_refused" (defScope s__law_refused) s.heap.objs.size f cdv))) :
    PSs (cxOf (L2.CX P w) P w K mg base nm__law_refused "_law_refused" (defScope s__law_refused) f cdv A outer s H E) (defBody s__law_refused) (rd__law_refused T E) :=
  (pss_cons (ps_try_as (i := 1) (tb := (fun W => (tDrop (tCallS (sp_inverse T) (WE W) (tCons (tVar 0) tNil))))) (ts := (fun a cls d => (tRet (tAndV (tCB (rIsX K a cls d) (tCons (tVar 1) (tCons (tC (.ref (He.ga K "InvalidArgument"))) tNil))) (tAndV (tCB (rIsX K a cls d) (tCons (tVar 1) (tCons (tC (.ty "ValueError")) tNil))) (tNotV (tCB (rIsX K a cls d) (tCons (tVar 1) (tCons (tC (.ref (He.ga K "NotEnoughPieces"))) tNil))))))))) (Wout := (fun cls d _ H => E cls d H)) rfl rfl sc__law_refused.nd rfl rfl ⟨rfl, by decide, (Or.inl T.g_PoolError)⟩ (takes_of rfl rfl rfl rfl) (fun W pn xe tk po => (pss_one (ps_expr (pe_callS (ok_inverse T) (hr.mono (by decide)) rfl T.g_inverse T.F_inverse.kp (b_inverse T) (fun σ => passAt tk σ) (pa_cons (pv 0) pa_nil))))) (fun a oe cls d pn hz hf => (pss_one (ps_ret (pe_and (pe_callB (call_isX hz hf) (by rfl) T.z_isinstance (by decide +kernel) (pa_cons (pv 1) (pa_cons (pe_glob rfl T.g_InvalidArgument rfl) pa_nil))) (pe_and (pe_callB (call_isX hz hf) (by rfl) T.z_isinstance (by decide +kernel) (pa_cons (pv 1) (pa_cons (pe_bltn (by rfl) T.z_ValueError (by decide +kernel) rfl) pa_nil))) (pe_one (pe_not (pe_callB (call_isX hz hf) (by rfl) T.z_isinstance (by decide +kernel) (pa_cons (pv 1) (pa_cons (pe_glob rfl T.g_NotEnoughPieces rfl) pa_nil)))))))))))
    (pss_one (ps_ret pe_bl)))
theorem pr__law_refused {K : PySem.W.Frag} {mg : Str → Option Value} (T : Txt K mg) (vs : List V) (H : Hp) (Q : VK) (E : XK) (h : sp__law_refused T vs H Q E) : rd__law_refused T E ⟨fun _ H' => Q .non H', Q, fun _ _ => False, fun _ _ => False⟩ (start nm__law_refused vs) H := by
  obtain ⟨n, rfl, hn, q⟩ := h
  show rd__law_refused T E _ [some _, none] H
  unfold rd__law_refused
  walk_at "sq"
  unfold tTryAs
  walk_at "rd"
  refine ⟨n, rfl, fun h => absurd hn h, fun _ => ?_⟩
  refine ⟨true, T.xm_InvalidArgument_PoolError, fun _ b nb => ?_, fun z => nomatch z⟩
  walk_at "rd"
  refine rd_isX (ec_InvalidArgument T) T.ki_InvalidArgument_InvalidArgument ?_
  walk_at "rd"
  refine rd_isXt (ec_InvalidArgument T) T.ki_InvalidArgument_ValueError ?_
  walk_at "rd"
  refine rd_isX (ec_InvalidArgument T) T.ki_InvalidArgument_NotEnoughPieces ?_
  walk_at "rd"
  exact q
theorem ln__law_refused {K : PySem.W.Frag} {mg : Str → Option Value} (T : Txt K mg) (vs : List V) (H : Hp) (Q : VK) (E : XK) (h : sp__law_refused T vs H Q E) : vs.length = 1 := by
  first
    | (obtain ⟨_, rfl, _⟩ := h; rfl)
    | (obtain ⟨_, _, rfl, _⟩ := h; rfl)
    | (obtain ⟨_, _, _, rfl, _⟩ := h; rfl)
    | (obtain ⟨_, _, _, _, rfl, _⟩ := h; rfl)
    | (obtain ⟨_, _, _, _, _, rfl, _⟩ := h; rfl)
    | (obtain ⟨_, _, _, _, _, _, rfl, _⟩ := h; rfl)
    | (obtain ⟨_, _, _, _, _, _, _, rfl, _⟩ := h; rfl)
    | (obtain ⟨_, _, _, _, _, _, _, _, rfl, _⟩ := h; rfl)
theorem ok__law_refused {P : Program} {w : World} {K : PySem.W.Frag} {mg : Str → Option Value} {base : Heap} (T : Txt K mg) : FnOk P w K mg base (L2.CX P w) 3 (He.ga K "_law_refused") T.d__law_refused ["_law_a"] (sp__law_refused T) :=
  T.F__law_refused.ok sc__law_refused (ln__law_refused T) (fun cdv A outer s H vs Q E hr h => ⟨_, tm__law_refused T hr, pr__law_refused T vs H Q E h⟩)
def sp_law {K : PySem.W.Frag} {mg : Str → Option Value} (_ : Txt K mg) : Sp := fun vs H Q _ => ∃ (a : Addr) (ns : List Int), vs = [.ref a] ∧ SqL K H a (ns.map V.int) ∧ ns.length ≤ 63 ∧ (∀ z ∈ ns, Builtin.Int.intBits z ≤ 1048576) ∧ ∀ H', Q (.bl true) H'
def rd_law {K : PySem.W.Frag} {mg : Str → Option Value} (T : Txt K mg) (E : XK) : TS :=
  (tSeq (tAsg (tCall (sp__law_pot T) [] E (tCons (tVar 0) tNil)) (gName 1))
    (tSeq (tAsg (tC (.int 0)) (gName 2))
    (tSeq (tIfS (tTest (tOp aGt (tCB (Pp.rLen K) (tCons (tVar 0) tNil)) (tC (.int 0)))) (tAsg (tOp (rIxL K) (tVar 0) (tC (.int 0))) (gName 2)) tNext)
    (tSeq (tIfS (tTest (tOp rEq (tCall (sp__law_next T) [] E (tCons (tVar 1) (tCons (tC (.int 3)) tNil))) (tC (.int 2)))) (tAsg (tOp aMul (tVar 2) (tC (.int 65521))) (gName 2)) tNext)
    (tSeq (tIfS (tTest (tOp rEq (tOp aMod (tCB rInt1 (tCons (tVar 2) tNil)) (tC (.int 65521))) (tC (.int 0)))) (tRet (tCall (sp__law_refused T) [] E (tCons (tVar 2) tNil))) tNext)
    (tSeq (tAsg (tCall (sp_inverse T) [] E (tCons (tVar 2) tNil)) (gName 3))
    (tSeq (tIfS (tOr (tNot (tB (tCall (sp__law_is_int T) [] E (tCons (tVar 3) tNil)))) (tNot (tTest (tChain aLe aLe (tC (.int 1)) (tVar 3) (tC (.int 65520)))))) (tRet (tC (.bl false))) tNext)
    (tRet (tAndV (tOp rEq (tOp aMod (tCB rInt1 (tCons (tOp aMul (tVar 2) (tVar 3)) tNil)) (tC (.int 65521))) (tC (.int 1))) (tOp rEq (tCall (sp_inverse T) [] E (tCons (tVar 2) tNil)) (tVar 3)))))))))))
set_option maxHeartbeats 4000000 in
theorem tm_law {P : Program} {w : World} {K : PySem.W.Frag} {mg : Str → Option Value} {base : Heap} (T : Txt K mg) {f : Addr} {cdv : Value} {A : Around} {outer : List Env} {s : Shared} {H : Hp} {E : XK} (hr : Room 3 (A.deeper (envOfC "law" (defScope s_law) s.heap.objs.size f cdv))) :
    PSs (cxOf (L2.CX P w) P w K mg base nm_law "law" (defScope s_law) f cdv A outer s H E) (defBody s_law) (rd_law T E) :=
  (pss_cons (ps_set (i := 1) sc_law.nd rfl (by first | exact Or.inl rfl | exact Or.inr rfl) (pe_call (E := E) (ok__law_pot T) (hr.mono (by decide)) rfl T.g__law_pot T.F__law_pot.kp (b__law_pot T) .nil (passes_call (takes_of rfl rfl rfl rfl) (fun _ _ _ _ h => h)) (pa_cons (pv 0) pa_nil)))
    (pss_cons (ps_set (i := 2) sc_law.nd rfl (by first | exact Or.inl rfl | exact Or.inr rfl) pe_int)
    (pss_cons (ps_if (pt_cmpR op_gt (pe_callB call_len_seq (by rfl) T.z_len (by decide +kernel) (pa_cons (pv 0) pa_nil)) pe_int (nomark _)) (pss_one (ps_set (i := 2) sc_law.nd rfl (by first | exact Or.inl rfl | exact Or.inr rfl) (pe_ix ix_list (pv 0) pe_int (fun _ _ => rfl)))) pss_nil)
    (pss_cons (ps_if (pt_cmpR op_eq (pe_call (E := E) (ok__law_next T) (hr.mono (by decide)) rfl T.g__law_next T.F__law_next.kp (b__law_next T) .nil (passes_call (takes_of rfl rfl rfl rfl) (fun _ _ _ _ h => h)) (pa_cons (pv 1) (pa_cons pe_int pa_nil))) pe_int (nomark _)) (pss_one (ps_set (i := 2) sc_law.nd rfl (by first | exact Or.inl rfl | exact Or.inr rfl) (pe_op op_mul (pv 2) pe_int))) pss_nil)
    (pss_cons (ps_if (pt_cmpR op_eq (pe_op op_mod (pe_callTy call_int1 (by rfl) T.z_int (by decide +kernel) (pa_cons (pv 2) pa_nil)) pe_int) pe_int (nomark _)) (pss_one (ps_ret (pe_call (E := E) (ok__law_refused T) (hr.mono (by decide)) rfl T.g__law_refused T.F__law_refused.kp (b__law_refused T) .nil (passes_call (takes_of rfl rfl rfl rfl) (fun _ _ _ _ h => h)) (pa_cons (pv 2) pa_nil)))) pss_nil)
    (pss_cons (ps_set (i := 3) sc_law.nd rfl (by first | exact Or.inl rfl | exact Or.inr rfl) (pe_call (E := E) (ok_inverse T) (hr.mono (by decide)) rfl T.g_inverse T.F_inverse.kp (b_inverse T) .nil (passes_call (takes_of rfl rfl rfl rfl) (fun _ _ _ _ h => h)) (pa_cons (pv 2) pa_nil)))
    (pss_cons (ps_if (PW.pt (pw_or (pt_not (pt_val (pe_call (E := E) (ok__law_is_int T) (hr.mono (by decide)) rfl T.g__law_is_int T.F__law_is_int.kp (b__law_is_int T) .nil (passes_call (takes_of rfl rfl rfl rfl) (fun _ _ _ _ h => h)) (pa_cons (pv 3) pa_nil)))) (pw_or1 (pt_not (pt_chain op_le op_le pe_int (pv 3) pe_int))))) (pss_one (ps_ret pe_bl)) pss_nil)
    (pss_one (ps_ret (pe_and (pe_cmpR op_eq (pe_op op_mod (pe_callTy call_int1 (by rfl) T.z_int (by decide +kernel) (pa_cons (pe_op op_mul (pv 2) (pv 3)) pa_nil)) pe_int) pe_int (nomark _)) (pe_one (pe_cmpR op_eq (pe_call (E := E) (ok_inverse T) (hr.mono (by decide)) rfl T.g_inverse T.F_inverse.kp (b_inverse T) .nil (passes_call (takes_of rfl rfl rfl rfl) (fun _ _ _ _ h => h)) (pa_cons (pv 2) pa_nil)) (pv 3) (nomark _)))))))))))))
theorem pr_law {K : PySem.W.Frag} {mg : Str → Option Value} (T : Txt K mg) (vs : List V) (H : Hp) (Q : VK) (E : XK) (h : sp_law T vs H Q E) : rd_law T E ⟨fun _ H' => Q .non H', Q, fun _ _ => False, fun _ _ => False⟩ (start nm_law vs) H := by
  obtain ⟨a, ns, rfl, hS, hl, hb, q⟩ := h
  show rd_law T E _ [some _, none, none, none] H
  unfold rd_law
  walk_at "rd"
  refine pot_step T hS hl fun p l o H' hp le k => ?_
  have hS' := sqL_le le hS
  walk_at "rd"
  refine rd_cut (fun σ H2 => H2 = H' ∧ ∃ n : Int, σ = [some (.ref a), some (.ref p), some (.int n), none]) (fun N hN => ?_) ?_
  · walk_at "rd"
    refine ⟨a, _, rfl, .inl hS', ?_⟩
    walk_at "rd"
    walk_at "if2"
    · walk_at "rd"
      obtain ⟨z, r, rfl⟩ : ∃ z r, ns = z :: r := by
        cases ns with
        | nil => simp at hc
        | cons z r => exact ⟨z, r, rfl⟩
      refine ⟨a, _, 0, .int z, rfl, rfl, hS', atI_of (by decide) rfl, ?_⟩
      walk_at "rd"
      exact hN _ _ ⟨rfl, _, rfl⟩
    · exact rd_next (hN _ _ ⟨rfl, _, rfl⟩)
  rintro σ H2 ⟨rfl, n, rfl⟩
  refine rd_cut (fun σ _ => ∃ n : Int, σ = [some (.ref a), some (.ref p), some (.int n), none]) (fun N hN => ?_) ?_
  · walk_at "rd"
    refine next_step T k rfl hp rfl (by decide) (by decide) fun r o' h0 h1 hp k => ?_
    walk_at "rd"
    walk_at "if2"
    · walk_at "rd"
      exact hN _ _ ⟨_, rfl⟩
    · exact rd_next (hN _ _ ⟨_, rfl⟩)
  rintro σ H3 ⟨n, rfl⟩
  walk_at "sq"
  walk_at "rd"
  walk_at "if2"
  · walk_at "rd"
    exact ⟨n, rfl, hc, q _⟩
  · walk_at "rd"
    refine ⟨n, rfl, fun _ => ?_, fun h => absurd h hc⟩
    have i1 := Fp.inv_lt n
    have i2 := Fp.inv_pos hc
    have i3 := Fp.inv_mul hc
    walk_at "rd"
    walk_at "sq"
    walk_at "rd"
    refine ⟨_, rfl, ?_⟩
    walk_at "rd"
    walk_at "ifT"
    walk_at "rd"
    walk_at "ifF"
    walk_at "rd"
    walk_at "ifT"
    walk_at "rd"
    refine ⟨n, rfl, fun _ => ?_, fun h => absurd h hc⟩
    walk_at "rd"
    have e : decide (Fp.inv n = Fp.inv n) = true := decide_eq_true (Eq.refl _)
    rw [e]
    exact q _
theorem ln_law {K : PySem.W.Frag} {mg : Str → Option Value} (T : Txt K mg) (vs : List V) (H : Hp) (Q : VK) (E : XK) (h : sp_law T vs H Q E) : vs.length = 1 := by
  first
    | (obtain ⟨_, rfl, _⟩ := h; rfl)
    | (obtain ⟨_, _, rfl, _⟩ := h; rfl)
    | (obtain ⟨_, _, _, rfl, _⟩ := h; rfl)
    | (obtain ⟨_, _, _, _, rfl, _⟩ := h; rfl)
    | (obtain ⟨_, _, _, _, _, rfl, _⟩ := h; rfl)
    | (obtain ⟨_, _, _, _, _, _, rfl, _⟩ := h; rfl)
    | (obtain ⟨_, _, _, _, _, _, _, rfl, _⟩ := h; rfl)
    | (obtain ⟨_, _, _, _, _, _, _, _, rfl, _⟩ := h; rfl)
theorem ok_law {P : Program} {w : World} {K : PySem.W.Frag} {mg : Str → Option Value} {base : Heap} (T : Txt K mg) : FnOk P w K mg base (L2.CX P w) 4 (He.ga K "law") T.d_law ["_law_script"] (sp_law T) :=
  T.F_law.ok sc_law (ln_law T) (fun cdv A outer s H vs Q E hr h => ⟨_, tm_law T hr, pr_law T vs H Q E h⟩)
abbrev R : PySem.W.OpenRow := PySem.W.OpenLaw.row PySem.Challenge.rw_paritypool_k00_inverse
abbrev hk : PySem.W.Hook := He.hookX 5 fa fn [] [] ex
def ob (s : PySem.W.SharedT) : He.AlX := He.obsX 5 fa fn [] [] ex (HandSHeadRun.getT s)
theorem ob_eq (s : PySem.W.SharedT) : ob s = hk.obs s.abs := He.obsX_eq (HandSHeadRun.getT_eq s)
def loose : List Str := (["PoolError", "InvalidArgument", "NotEnoughPieces", "PRIME", "power", "inverse", "_law_pot", "_law_next", "_law_is_int", "_law_refused"] : List Str)
theorem run (w : World) : HandSHeadRun.RunEq R (PySem.W.view R.prog [13]) hk ob 2000 loose w := by
  intro os
  kernel_rfl
theorem facts {P : Program} {w : World} {K : PySem.W.Frag} {h : Heap} {mg : Str → Option Value} {f : Addr} (X : K.In h) (G : h.Ns mainGlobals mg) (hfa : mg ("law" : Str) = some (.ref f)) (c : He.SaysX fa fn [] [] ex w h K) :
    ∃ (T : Txt K mg) (fd : FuncData), (∀ (s : Shared) (v : Value), BindsTo s fd ⟨[v], []⟩ [("_law_script", v)]) ∧ ∀ base : Heap, K.In base → base.Ns mainGlobals mg → FnOk P w K mg base (L2.CX P w) 4 f fd ["_law_script"] (sp_law T) := by
  obtain ⟨T⟩ := txt X G c
  have e := hfa.symm.trans T.g_law
  cases e
  have b := FunD.bindsA (ps := ["_law_script"]) T.F_law fun _ _ _ _ _ _ us hl => match us, hl with | [_], _ => rfl
  exact ⟨T, _, fun s v => b s [v] rfl, fun base _ _ => ok_law T⟩
/-- a law over a head by facts, the script's bits told -/
theorem walk_ofX {l : PySem.W.OpenLaw} {n k : Nat} {q : Program} {loose : List Str} {XP : (Str → Option Value) → Heap → Prop} {YP : World → Heap → Prop} {d : DefRec} {x : Str}
    (hn : l.most = some n) (hn2 : n ≤ sizeLine) (hdf : d.params.defaults = []) (hr : Room k callerA)
    (F : ∀ (w : World) (mg : Str → Option Value) (fa : Addr) (h : Heap), YP w h → h.Ns mainGlobals mg → mg d.name = some (.ref fa) →
      ∃ (K : PySem.W.Frag) (fd : FuncData) (sp : Sp), K.In h ∧ (∀ (s : Shared) (u : Value), BindsTo s fd ⟨[u], []⟩ [(x, u)]) ∧
        (∀ (H : Hp) (a : Addr) (ns : List Int), ns.length ≤ n → (∀ z ∈ ns, Builtin.Int.intBits z ≤ 1048576) → Only H → SqL K H a (ns.map V.int) → sp [.ref a] H (fun v _ => v = .bl true) fun _ _ _ => False) ∧
        ∀ base : Heap, K.In base → base.Ns mainGlobals mg → FnOk l.prog w K mg base (L2.CX l.prog w) k fa fd [x] sp) :
    PySem.W.WalkO q loose XP YP l.row.toRowW d [] (fun f vs => PySem.call f vs) := by
  refine Att.attach_callB hn hdf fun w s₀ s₁ mg mb fa o pm cd doc a vs ns G Y ho hd hcd hmg hobj hints hlen hbits hg => ?_
  obtain ⟨K, fd, sp, KX, hb, hsp, hF⟩ := F w mg fa _ Y G.T.g hmg
  exact law_call KX G.T.g G.T.b G.T.builtins G.T.nolimit hg hobj hints (Nat.le_trans hlen hn2) hr hF hb (fun H hO hS => hsp H a ns hlen hbits hO hS) fun H e s' h => by
    obtain ⟨_, _, _, _, _, _, _, _, _, _, _, _, z⟩ := h
    exact z.elim
end Law
open PySem PySem.W PySem.Calls PyProof.Rows
theorem PySem.Challenge.cw_paritypool_k00_inverse_holds : PySem.Challenge.rw_paritypool_k00_inverse.Holds := by
  w_on; o_law
  refine HandSHeadRun.head_any (r := OpenLaw.row PySem.Challenge.rw_paritypool_k00_inverse) (q := view (OpenLaw.row PySem.Challenge.rw_paritypool_k00_inverse).prog [13]) (H := Law.hk) (ob := Law.ob) (M := 2000) (loose := Law.loose) (d := HandSHeadRun.topDef (OpenLaw.row PySem.Challenge.rw_paritypool_k00_inverse).prog 13) (kwd := []) Law.ob_eq
    (by kernel_rfl) (fun s => by kernel_rfl) Law.run (by kernel_rfl) (by kernel_rfl) (by kernel_rfl) (by rfl) (by first | assumption | decide +kernel) (by decide +kernel) ⟨rfl, rfl, rfl, rfl, rfl, by decide +kernel⟩ ?hw ?hc
  case hw => w_witness2
  case hc =>
    refine Law.walk_ofX (l := PySem.Challenge.rw_paritypool_k00_inverse) (n := 63) (k := 4) (x := "_law_script") rfl (by decide) (by kernel_rfl) ⟨rfl, by decide, by decide⟩ ?F
    intro w mg fa h Y G hmg0
    obtain ⟨K, KX, c⟩ := Y
    have hmg : mg ("law" : PySem.Str) = some (.ref fa) := by
      have e : (HandSHeadRun.topDef (OpenLaw.row PySem.Challenge.rw_paritypool_k00_inverse).prog 13).name = ("law" : PySem.Str) := by kernel_rfl
      rw [← e]
      exact hmg0
    obtain ⟨T, fd, hb, hF⟩ := Law.facts (P := (PySem.Challenge.rw_paritypool_k00_inverse).prog) (w := w) KX G hmg c
    exact ⟨K, fd, Law.sp_law T, KX, hb, fun H a ns hl hbits _ hS => ⟨a, ns, rfl, hS, hl, hbits, fun _ => rfl⟩, hF⟩



