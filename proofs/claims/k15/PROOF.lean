import PyProof.Rows.All
import Wide.All
import OpenK.AllK
import Wide.FinOn
import PyProof.EqAt
import PyProof.EqKinds
import PyProof.TupleCall
import KE.KStateDown
import HandS.ForMost
import HandS.ForExc
import HandS.Style
import HandS.Flow
import HandS.More
import HandS.IsInst
import HandS.ExcIs
import HandS.Zip
import HandS.Wide
import HandS.WideBits
import HandS.Steps
import HandS.Defaults
import HandS.EndBits
import HandS.Head0
import HandS.Head1
import HandS.Head2
import HandS.HeadEnd
import HandS.HeadHook1
import HandS.HeadHook2
import HandS.HeadHook3
import HandS.HeadHook4
import KE.GoesEnumKw
import HandS.SortKw
import PySem.Challenge.RW_paritypool_k15_two_changed_words_are_fou
set_option Elab.async false
set_option linter.all false
set_option maxRecDepth 100000
set_option maxHeartbeats 2000000
namespace Pp
open PySem L2

/-! ### the symbolic heap -/
abbrev Cell := Addr × HO
/-- the heap without the cells -/
def hide (H : Hp) (L : List Cell) : Hp := fun a => if a ∈ L.map (·.1) then none else H a
theorem hide_in {H : Hp} {L : List Cell} {a : Addr} (h : a ∈ L.map (·.1)) : hide H L a = none := if_pos h
theorem hide_out {H : Hp} {L : List Cell} {a : Addr} (h : a ∉ L.map (·.1)) : hide H L a = H a := if_neg h
theorem hide_le {H : Hp} {L : List Cell} {a : Addr} {o : HO} (h : hide H L a = some o) : H a = some o := by
  unfold hide at h; split at h
  · cases h
  · exact h
def Le (H H' : Hp) : Prop := ∀ a o, H a = some o → H' a = some o
theorem Le.refl (H : Hp) : Le H H := fun _ _ h => h
theorem Le.trans {A B C : Hp} (x : Le A B) (y : Le B C) : Le A C := fun a o h => y a o (x a o h)
theorem le_new {H : Hp} {p : Addr} {o : HO} (n : H p = none) : Le H (upd H p o) := fun a u e => by
  rw [upd_ne (ne_of_none e n)]; exact e
theorem sqL_le {K : PySem.W.Frag} {H H' : Hp} {a : Addr} {xs : List V} (e : Le H H') (h : SqL K H a xs) : SqL K H' a xs := by
  rcases h with (h | ⟨o, h⟩) | h
  · exact .inl (.inl (e _ _ h))
  · exact .inl (.inr ⟨o, e _ _ h⟩)
  · exact .inr h
theorem sqT_le {K : PySem.W.Frag} {H H' : Hp} {a : Addr} {xs : List V} (e : Le H H') (h : SqT K H a xs) : SqT K H' a xs := by
  rcases h with (h | ⟨o, h⟩) | h
  · exact .inl (.inl (e _ _ h))
  · exact .inl (.inr ⟨o, e _ _ h⟩)
  · exact .inr h
mutual
theorem dp_le {K : PySem.W.Frag} {H H' : Hp} (e : Le H H') : ∀ {v : V} {d : PyData}, Dp K H v d → Dp K H' v d
  | _, _, .non => .non
  | _, _, .bl b => .bl b
  | _, _, .int i => .int i
  | _, _, .str x => .str x
  | _, _, .lst h1 h2 => .lst (sqL_le e h1) (dpAll_le e h2)
  | _, _, .tup h1 h2 => .tup (sqT_le e h1) (dpAll_le e h2)
theorem dpAll_le {K : PySem.W.Frag} {H H' : Hp} (e : Le H H') : ∀ {vs : List V} {ds : List PyData}, DpAll K H vs ds → DpAll K H' vs ds
  | _, _, .nil => .nil
  | _, _, .cons h1 h2 => .cons (dp_le e h1) (dpAll_le e h2)
end
theorem DpAll.len {K : PySem.W.Frag} {H : Hp} : ∀ {vs : List V} {ds : List PyData}, DpAll K H vs ds → vs.length = ds.length
  | _, _, .nil => rfl
  | _, _, .cons _ h => congrArg Nat.succ (DpAll.len h)
theorem DpAll.get {K : PySem.W.Frag} {H : Hp} : ∀ {vs : List V} {ds : List PyData} {i : Nat} {v : V}, DpAll K H vs ds → vs[i]? = some v → ∃ d, ds[i]? = some d ∧ Dp K H v d
  | _, _, _, _, .nil, e => by simp at e
  | _, _, 0, _, .cons h _, e => by simp at e; subst e; exact ⟨_, rfl, h⟩
  | _, _, i + 1, v, .cons _ h, e => by
    obtain ⟨d, h1, h2⟩ := DpAll.get (i := i) h (by simpa using e)
    exact ⟨d, by simpa using h1, h2⟩
theorem DpAll.getD {K : PySem.W.Frag} {H : Hp} : ∀ {vs : List V} {ds : List PyData} {i : Nat} {d : PyData}, DpAll K H vs ds → ds[i]? = some d → ∃ v, vs[i]? = some v ∧ Dp K H v d
  | _, _, _, _, .nil, e => by simp at e
  | _, _, 0, _, .cons h _, e => by simp at e; subst e; exact ⟨_, rfl, h⟩
  | _, _, i + 1, v, .cons _ h, e => by
    obtain ⟨d, h1, h2⟩ := DpAll.getD (i := i) h (by simpa using e)
    exact ⟨d, by simpa using h1, h2⟩
theorem DpAll.append {K : PySem.W.Frag} {H : Hp} : ∀ {vs ws : List V} {ds es : List PyData}, DpAll K H vs ds → DpAll K H ws es → DpAll K H (vs ++ ws) (ds ++ es)
  | _, _, _, _, .nil, s => s
  | _, _, _, _, .cons r t, s => .cons r (DpAll.append t s)
theorem DpAll.ints {K : PySem.W.Frag} {H : Hp} : ∀ (ns : List Int), DpAll K H (ns.map V.int) (ns.map PyData.int)
  | [] => .nil
  | n :: ns => .cons (.int n) (DpAll.ints ns)
theorem DpAll.ints_of {K : PySem.W.Frag} {H : Hp} : ∀ {ns : List Int} {vs : List V}, DpAll K H vs (ns.map PyData.int) → vs = ns.map V.int
  | [], _, .nil => rfl
  | n :: ns, _, .cons h t => by
    cases h
    rw [DpAll.ints_of t]; rfl
theorem DpAll.set {K : PySem.W.Frag} {H : Hp} {v : V} {d : PyData} (r : Dp K H v d) : ∀ {vs : List V} {ds : List PyData} (i : Nat), DpAll K H vs ds → DpAll K H (vs.set i v) (ds.set i d)
  | _, _, _, .nil => .nil
  | _, _, 0, .cons _ t => .cons r t
  | _, _, i + 1, .cons q t => .cons q (DpAll.set r i t)

/-- the data of a new object and of what it needs, at addresses that were free -/
abbrev Fact := List V × List PyData
structure Kn (K : PySem.W.Frag) (H0 : Hp) (M : List Addr) (H : Hp) (L : List Cell) (F : List Fact) : Prop where
  cell : ∀ p ∈ L, H p.1 = some p.2
  nd : (L.map (·.1)).Nodup
  own : ∀ p ∈ L, H0 p.1 = none ∨ p.1 ∈ M
  fr : ∀ a o, H0 a = some o → a ∉ M → H a = some o
  fact : ∀ f ∈ F, DpAll K (hide H L) f.1 f.2
section
variable {K : PySem.W.Frag} {H0 H H' : Hp} {M : List Addr} {L : List Cell} {F : List Fact} {a p : Addr} {o : HO} {i j : Nat} {v : V} {d : PyData}
theorem Kn.at (k : Kn K H0 M H L F) (i : Nat) {a : Addr} {o : HO} (h : L[i]? = some (a, o)) : H a = some o := k.cell (a, o) (List.mem_of_getElem? h)
theorem Kn.le0 (k : Kn K H0 [] H L F) : Le H0 H := fun a o h => k.fr a o h (by simp)
theorem Kn.dps (k : Kn K H0 M H L F) (i : Nat) {vs : List V} {ds : List PyData} (h : F[i]? = some (vs, ds)) : DpAll K H vs ds :=
  dpAll_le (fun _ _ e => hide_le e) (k.fact (vs, ds) (List.mem_of_getElem? h))
theorem Kn.dpsZ (k : Kn K H0 M H L F) (i : Nat) {vs : List V} {ds : List PyData} (h : F[i]? = some (vs, ds)) : DpAll K (hide H L) vs ds :=
  k.fact (vs, ds) (List.mem_of_getElem? h)
theorem Kn.dp (k : Kn K H0 M H L F) (i : Nat) {v : V} {d : PyData} (h : F[i]? = some ([v], [d])) : Dp K H v d := by
  cases k.dps i h with
  | cons h _ => exact h
theorem Kn.dpZ (k : Kn K H0 M H L F) (i : Nat) {v : V} {d : PyData} (h : F[i]? = some ([v], [d])) : Dp K (hide H L) v d := by
  cases k.dpsZ i h with
  | cons h _ => exact h
theorem hide_upd_new {H : Hp} {L : List Cell} {p : Addr} {o : HO} (n : H p = none) : hide (upd H p o) (L ++ [(p, o)]) = hide H L := by
  funext b
  unfold hide
  by_cases e : b = p
  · subst e
    rw [if_pos (by simp)]
    split
    · rfl
    · exact n.symm
  · rw [upd_ne e]
    by_cases h : b ∈ L.map (·.1)
    · rw [if_pos h, if_pos (by simp only [List.map_append, List.mem_append]; exact .inl h)]
    · rw [if_neg h, if_neg (by simp only [List.map_append, List.mem_append, List.map_cons, List.map_nil, List.mem_singleton]; intro z; exact z.elim h e)]
/-- a new object, kept as a cell -/
theorem Kn.new (k : Kn K H0 M H L F) (n : H p = none) : Kn K H0 M (upd H p o) (L ++ [(p, o)]) F where
  cell := fun q hq => by
    rcases List.mem_append.mp hq with h | h
    · rw [upd_ne (ne_of_none (k.cell q h) n)]; exact k.cell q h
    · obtain rfl := List.mem_singleton.mp h; exact upd_same
  nd := by
    rw [List.map_append, List.nodup_append]
    refine ⟨k.nd, by simp, fun x hx y hy e => ?_⟩
    obtain ⟨q, hq, rfl⟩ := List.mem_map.mp hx
    have : y = p := by simpa using hy
    subst this
    exact ne_of_none (k.cell q hq) n e
  own := fun q hq => by
    rcases List.mem_append.mp hq with h | h
    · exact k.own q h
    · obtain rfl := List.mem_singleton.mp h
      cases e : H0 p with
      | none => exact .inl rfl
      | some u =>
        by_cases hm : p ∈ M
        · exact .inr hm
        · have := k.fr p u e hm
          rw [n] at this; cases this
  fr := fun b u e hm => by
    have := k.fr b u e hm
    rw [upd_ne (ne_of_none this n)]; exact this
  fact := fun f hf => by rw [hide_upd_new n]; exact k.fact f hf
theorem map_set_fst {L : List Cell} {i : Nat} {a : Addr} {o o' : HO} (h : L[i]? = some (a, o)) : (L.set i (a, o')).map (·.1) = L.map (·.1) := by
  rw [List.map_set]
  refine List.ext_getElem? fun j => ?_
  by_cases e : i = j
  · subst e
    have hl : i < L.length := (List.getElem?_eq_some_iff.mp h).1
    rw [List.getElem?_set_self (by simpa using hl), List.getElem?_map, h]; rfl
  · rw [List.getElem?_set_ne e]
theorem hide_set {H : Hp} {L : List Cell} {i : Nat} {a : Addr} {o o' : HO} (h : L[i]? = some (a, o)) : hide (upd H a o') (L.set i (a, o')) = hide H L := by
  funext b
  unfold hide
  rw [map_set_fst h]
  by_cases hb : b ∈ L.map (·.1)
  · rw [if_pos hb, if_pos hb]
  · rw [if_neg hb, if_neg hb]
    refine upd_ne ?_
    rintro rfl
    exact hb (List.mem_map.mpr ⟨_, List.mem_of_getElem? h, rfl⟩)
/-- a cell is changed -/
theorem Kn.set (k : Kn K H0 M H L F) (i : Nat) {a : Addr} {o o' : HO} (h : L[i]? = some (a, o)) : Kn K H0 M (upd H a o') (L.set i (a, o')) F where
  cell := fun q hq => by
    obtain ⟨j, hj⟩ := List.getElem?_of_mem hq
    by_cases e : i = j
    · subst e
      have hl : i < L.length := (List.getElem?_eq_some_iff.mp h).1
      rw [List.getElem?_set_self hl] at hj
      cases hj
      exact upd_same
    · rw [List.getElem?_set_ne e] at hj
      have hm := List.mem_of_getElem? hj
      have ne : q.1 ≠ a := fun z => e (nd_ix k.nd (x := a) (by rw [List.getElem?_map, h]; rfl) (by rw [List.getElem?_map, hj]; exact congrArg some z))
      rw [upd_ne ne]
      exact k.cell q hm
  nd := by rw [map_set_fst h]; exact k.nd
  own := fun q hq => by
    have : q.1 ∈ (L.set i (a, o')).map (·.1) := List.mem_map.mpr ⟨q, hq, rfl⟩
    rw [map_set_fst h] at this
    obtain ⟨r, hr, e⟩ := List.mem_map.mp this
    rw [← e]; exact k.own r hr
  fr := fun b u e hm => by
    have q := k.fr b u e hm
    have ne : b ≠ a := by
      rintro rfl
      rcases k.own _ (List.mem_of_getElem? h) with z | z
      · rw [e] at z; cases z
      · exact hm z
    rw [upd_ne ne]; exact q
  fact := fun f hf => by rw [hide_set h]; exact k.fact f hf
/-- a call that leaves all as it was -/
theorem Kn.grow (k : Kn K H0 M H L F) (s : Le H H') : Kn K H0 M H' L F where
  cell := fun q hq => s _ _ (k.cell q hq)
  nd := k.nd
  own := k.own
  fr := fun b u e hm => s _ _ (k.fr b u e hm)
  fact := fun f hf => dpAll_le (fun b u e => by
    by_cases hb : b ∈ L.map (·.1)
    · rw [hide_in hb] at e; cases e
    · rw [hide_out hb] at e ⊢; exact s _ _ e) (k.fact f hf)
theorem Kn.hide_le_grow (s : Le H H') : Le (hide H L) (hide H' L) := fun b u e => by
    by_cases hb : b ∈ L.map (·.1)
    · rw [hide_in hb] at e; cases e
    · rw [hide_out hb] at e ⊢; exact s _ _ e
theorem Kn.say (k : Kn K H0 M H L F) {vs : List V} {ds : List PyData} (h : DpAll K (hide H L) vs ds) : Kn K H0 M H L (F ++ [(vs, ds)]) where
  cell := k.cell
  nd := k.nd
  own := k.own
  fr := k.fr
  fact := fun f hf => by
    rcases List.mem_append.mp hf with z | z
    · exact k.fact f z
    · obtain rfl := List.mem_singleton.mp z; exact h
theorem Kn.say1 (k : Kn K H0 M H L F) {v : V} {d : PyData} (h : Dp K (hide H L) v d) : Kn K H0 M H L (F ++ [([v], [d])]) := k.say (.cons h .nil)
theorem Kn.only (k : Kn K H0 M H L F) {F' : List Fact} (h : ∀ f ∈ F', f ∈ F) : Kn K H0 M H L F' := ⟨k.cell, k.nd, k.own, k.fr, fun f hf => k.fact f (h f hf)⟩
theorem Kn.take (k : Kn K H0 M H L F) (n : Nat) : Kn K H0 M H L (F.take n) := k.only fun _ h => List.mem_of_mem_take h
/-- the last cell is let go: it is data from now on -/
theorem hide_le_snoc {H : Hp} {L : List Cell} {c : Cell} : Le (hide H (L ++ [c])) (hide H L) := fun b u e => by
  by_cases hb : b ∈ (L ++ [c]).map (·.1)
  · rw [hide_in hb] at e; cases e
  · rw [hide_out hb] at e
    rw [hide_out (fun z => hb (by rw [List.map_append]; exact List.mem_append_left _ z))]; exact e
theorem Kn.drop (k : Kn K H0 M H (L ++ [(p, o)]) F) : Kn K H0 M H L F where
  cell := fun q hq => k.cell q (List.mem_append_left _ hq)
  nd := by have := k.nd; rw [List.map_append, List.nodup_append] at this; exact this.1
  own := fun q hq => k.own q (List.mem_append_left _ hq)
  fr := k.fr
  fact := fun f hf => dpAll_le hide_le_snoc (k.fact f hf)
theorem Kn.last_at (k : Kn K H0 M H (L ++ [(p, o)]) F) : hide H L p = some o := by
  have nd := k.nd
  rw [List.map_append, List.nodup_append] at nd
  rw [hide_out (fun z => nd.2.2 _ z p (by simp) rfl)]
  exact k.cell (p, o) (by simp)
theorem Kn.freezeL {vs : List V} {ds : List PyData} (k : Kn K H0 M H (L ++ [(p, .lst vs)]) F) (h : DpAll K (hide H (L ++ [(p, .lst vs)])) vs ds) : Kn K H0 M H L (F ++ [([.ref p], [.list ds])]) :=
  k.drop.say1 (.lst (.inl (.inl k.last_at)) (dpAll_le hide_le_snoc h))
theorem Kn.freezeI {ns : List Int} (k : Kn K H0 M H (L ++ [(p, .lst (ns.map V.int))]) F) : Kn K H0 M H L (F ++ [([.ref p], [.list (ns.map PyData.int)])]) :=
  k.freezeL (DpAll.ints ns)
/-- the first cell -/
theorem Kn.nil (K : PySem.W.Frag) (H : Hp) : Kn K H [] H [] [] := ⟨fun _ h => (nomatch h), List.nodup_nil, fun _ h => (nomatch h), fun _ _ e _ => e, fun _ h => (nomatch h)⟩
theorem Kn.one {a : Addr} {o : HO} (h : H a = some o) : Kn K H [a] H [(a, o)] [] :=
  ⟨fun q hq => by obtain rfl := List.mem_singleton.mp hq; exact h, by simp, fun q hq => by obtain rfl := List.mem_singleton.mp hq; exact .inr (by simp), fun _ _ e _ => e, fun _ h => (nomatch h)⟩
theorem Kn.of (hf : ∀ f ∈ F, DpAll K H f.1 f.2) : Kn K H [] H [] F :=
  ⟨fun _ h => (nomatch h), List.nodup_nil, fun _ h => (nomatch h), fun _ _ e _ => e, fun f hf' => dpAll_le (fun b u e => by rw [hide_out (by simp)]; exact e) (hf f hf')⟩
theorem Dp.listI {ns : List Int} (h : Dp K H (.ref a) (.list (ns.map PyData.int))) : SqL K H a (ns.map V.int) := by
  cases h with
  | lst h1 h2 => rw [← DpAll.ints_of h2]; exact h1
theorem Dp.ofI {ns : List Int} (h : SqL K H a (ns.map V.int)) : Dp K H (.ref a) (.list (ns.map PyData.int)) := .lst h (DpAll.ints ns)
theorem Dp.list {ds : List PyData} (h : Dp K H v (.list ds)) : ∃ a vs, v = .ref a ∧ SqL K H a vs ∧ DpAll K H vs ds := by
  cases h with
  | lst h1 h2 => exact ⟨_, _, rfl, h1, h2⟩
theorem Dp.tuple {ds : List PyData} (h : Dp K H v (.tuple ds)) : ∃ a vs, v = .ref a ∧ SqT K H a vs ∧ DpAll K H vs ds := by
  cases h with
  | tup h1 h2 => exact ⟨_, _, rfl, h1, h2⟩
theorem Dp.int_of {n : Int} (h : Dp K H v (.int n)) : v = .int n := by cases h; rfl
theorem Dp.bool_of {n : Bool} (h : Dp K H v (.bool n)) : v = .bl n := by cases h; rfl
theorem Dp.none_of (h : Dp K H v .none) : v = .non := by cases h; rfl
theorem Dp.str_of {n : Str} (h : Dp K H v (.str n)) : v = .str n := by cases h; rfl
end

/-! ### readings, one step -/
section
variable {σ : St} {H : Hp} {Q : VK} {te ta tb tc : TE} {t u : TS} {n b c : St → Hp → Prop} {r : VK} {g : TG} {tt tu : TT} {x y v : V} {D : Ends}
theorem rd_seq (h : t ⟨u ⟨n, r, b, c⟩, r, b, c⟩ σ H) : tSeq t u ⟨n, r, b, c⟩ σ H := h
theorem rd_cut (M : St → Hp → Prop) (h1 : ∀ N : St → Hp → Prop, (∀ σ' H', M σ' H' → N σ' H') → t ⟨N, r, b, c⟩ σ H) (h2 : ∀ σ' H', M σ' H' → u ⟨n, r, b, c⟩ σ' H') : tSeq t u ⟨n, r, b, c⟩ σ H := h1 _ h2
theorem rd_seqA (h : te σ H fun x H1 => g x σ H1 (u ⟨n, r, b, c⟩)) : tSeq (tAsg te g) u ⟨n, r, b, c⟩ σ H := h
theorem rd_seqD (h : te σ H fun _ H1 => u ⟨n, r, b, c⟩ σ H1) : tSeq (tDrop te) u ⟨n, r, b, c⟩ σ H := h
theorem rd_pass (h1 : ∀ N : St → Hp → Prop, N σ H → t ⟨N, r, b, c⟩ σ H) (h2 : u ⟨n, r, b, c⟩ σ H) : tSeq t u ⟨n, r, b, c⟩ σ H := h1 _ h2
theorem rd_yes {Q : Bool → Hp → Prop} (h : Q true H) : tYes σ H Q := h
theorem rd_asg (h : te σ H fun x H1 => g x σ H1 n) : tAsg te g ⟨n, r, b, c⟩ σ H := h
theorem rd_name {i : Nat} {Q : St → Hp → Prop} (h : Q (σ.set i (some v)) H) : gName i v σ H Q := h
theorem rd_ret (h : te σ H r) : tRet te ⟨n, r, b, c⟩ σ H := h
theorem rd_retN (h : r .non H) : tRetN ⟨n, r, b, c⟩ σ H := h
theorem rd_next (h : n σ H) : tNext ⟨n, r, b, c⟩ σ H := h
theorem rd_brk (h : b σ H) : tBreak ⟨n, r, b, c⟩ σ H := h
theorem rd_cont (h : c σ H) : tCont ⟨n, r, b, c⟩ σ H := h
theorem rd_drop (h : te σ H fun _ H1 => n σ H1) : tDrop te ⟨n, r, b, c⟩ σ H := h
theorem rd_ifS (h : tt σ H fun b H1 => if b = true then t D σ H1 else u D σ H1) : tIfS tt t u D σ H := h
theorem rd_var {i : Nat} (h : σ[i]? = some (some v)) (q : Q v H) : tVar i σ H Q := ⟨v, h, q⟩
theorem rd_c (q : Q v H) : tC v σ H Q := q
theorem rd_op {rr : R2} (h : ta σ H fun x H1 => tb σ H1 fun y H2 => rr x y H2 Q) : tOp rr ta tb σ H Q := h
theorem rd_un {rr : V → Hp → VK → Prop} (h : ta σ H fun x H1 => rr x H1 Q) : tUn rr ta σ H Q := h
theorem rd_I0 {f : Int → Int → V} {i j : Int} (h : Q (f i j) H) : rI0 f (.int i) (.int j) H Q := ⟨i, j, rfl, rfl, h⟩
theorem rd_I {C : Int → Int → Prop} {f : Int → Int → V} {i j : Int} (hc : C i j) (h : Q (f i j) H) : rI C f (.int i) (.int j) H Q := ⟨i, j, rfl, rfl, hc, h⟩
theorem rd_U {f : Int → V} {i : Int} (h : Q (f i) H) : rU f (.int i) H Q := ⟨i, rfl, h⟩
theorem rd_eqI {i j : Int} (h : Q (.bl (decide (i = j))) H) : rEq (.int i) (.int j) H Q := ⟨rfl, by
  have : decide (V.int i = V.int j) = decide (i = j) := by simp
  rw [this]; exact h⟩
theorem rd_neI {i j : Int} (h : Q (.bl (!decide (i = j))) H) : rNe (.int i) (.int j) H Q := ⟨rfl, by
  have : decide (V.int i = V.int j) = decide (i = j) := by simp
  rw [this]; exact h⟩
theorem rd_eqS {i j : Str} (h : Q (.bl (decide (i = j))) H) : rEq (.str i) (.str j) H Q := ⟨rfl, by
  have : decide (V.str i = V.str j) = decide (i = j) := by simp
  rw [this]; exact h⟩
theorem rd_neS {i j : Str} (h : Q (.bl (!decide (i = j))) H) : rNe (.str i) (.str j) H Q := ⟨rfl, by
  have : decide (V.str i = V.str j) = decide (i = j) := by simp
  rw [this]; exact h⟩
theorem rd_eqB {i j : Bool} (h : Q (.bl (decide (i = j))) H) : rEq (.bl i) (.bl j) H Q := ⟨rfl, by
  have : decide (V.bl i = V.bl j) = decide (i = j) := by simp
  rw [this]; exact h⟩
theorem rd_neB {i j : Bool} (h : Q (.bl (!decide (i = j))) H) : rNe (.bl i) (.bl j) H Q := ⟨rfl, by
  have : decide (V.bl i = V.bl j) = decide (i = j) := by simp
  rw [this]; exact h⟩
theorem rd_test {Q : Bool → Hp → Prop} (h : te σ H fun x H' => ∃ k, x = .bl k ∧ Q k H') : tTest te σ H Q := h
theorem rd_tB {Q : Bool → Hp → Prop} (h : te σ H fun x H' => ∃ k, x = .bl k ∧ Q k H') : tB te σ H Q := h
theorem rd_bl {k : Bool} {Q : Bool → Prop} (h : Q k) : ∃ j, V.bl k = .bl j ∧ Q j := ⟨k, rfl, h⟩
theorem rd_not {Q : Bool → Hp → Prop} (h : tt σ H fun c H1 => Q (!c) H1) : tNot tt σ H Q := h
theorem rd_and {Q : Bool → Hp → Prop} (h : tt σ H fun c H1 => if c = true then tu σ H1 Q else Q false H1) : tAnd tt tu σ H Q := h
theorem rd_or {Q : Bool → Hp → Prop} (h : tt σ H fun c H1 => if c = true then Q true H1 else tu σ H1 Q) : tOr tt tu σ H Q := h
theorem rd_andV (h : ta σ H fun x H1 => ∃ c, x = .bl c ∧ if c = true then tb σ H1 Q else Q (.bl false) H1) : tAndV ta tb σ H Q := h
theorem rd_orV (h : ta σ H fun x H1 => ∃ c, x = .bl c ∧ if c = true then Q (.bl true) H1 else tb σ H1 Q) : tOrV ta tb σ H Q := h
theorem rd_notV (h : ta σ H fun x H1 => ∃ c, x = .bl c ∧ Q (.bl (!c)) H1) : tNotV ta σ H Q := h
theorem rd_ifE (h : tt σ H fun c H1 => if c = true then ta σ H1 Q else tb σ H1 Q) : tIf tt ta tb σ H Q := h
theorem rd_chain {r1 r2 : R2} (h : ta σ H fun x H1 => tb σ H1 fun y H2 => r1 x y H2 fun z H3 => ∃ k, z = .bl k ∧ (if k = true then tc σ H3 fun w' H4 => r2 y w' H4 Q else Q (.bl false) H3)) : tChain r1 r2 ta tb tc σ H Q := h
theorem rd_nil {Q : List V → Hp → Prop} (h : Q [] H) : tNil σ H Q := h
theorem rd_cons {ts : TA} {Q : List V → Hp → Prop} (h : ta σ H fun x H1 => ts σ H1 fun xs H2 => Q (x :: xs) H2) : tCons ta ts σ H Q := h
theorem rd_CB {rc : List V → Hp → VK → Prop} {ts : TA} (h : ts σ H fun vs H1 => rc vs H1 Q) : tCB rc ts σ H Q := h
theorem rd_call {sp : Sp} {dvs : List V} {E : XK} {ts : TA} (h : ts σ H fun vs H1 => sp (vs ++ dvs) H1 Q E) : tCall sp dvs E ts σ H Q := h
theorem rd_callS {sp : Sp} {E : St → XK} {ts : TA} (h : ts σ H fun vs H1 => sp vs H1 Q (E σ)) : tCallS sp E ts σ H Q := h
theorem rd_tup {ts : TA} (h : ts σ H fun xs H1 => xs.length ≤ sizeLine ∧ ∀ p, H1 p = none → Q (.ref p) (upd H1 p (.tup xs))) : tTup ts σ H Q := h
theorem rd_lst {ts : TA} (h : ts σ H fun xs H1 => xs.length ≤ sizeLine ∧ ∀ p, H1 p = none → Q (.ref p) (upd H1 p (.lst xs))) : tLst ts σ H Q := h
theorem rd_gsub {to_ ti : TE} {ts : TSet} {Q : St → Hp → Prop} (h : to_ σ H fun o H1 => ti σ H1 fun i H2 => ts o i v H2 fun H3 => Q σ H3) : gSub to_ ti ts v σ H Q := h
theorem rd_gnil {Q : St → Hp → Prop} (h : Q σ H) : gNil [] σ H Q := ⟨rfl, h⟩
theorem rd_gcons {tu : TGs} {w : List V} {Q : St → Hp → Prop} (h : g v σ H fun σ' H' => tu w σ' H' Q) : gCons g tu (v :: w) σ H Q := ⟨v, w, rfl, h⟩
theorem rd_aug {i : Nat} {ti : TIp} (h : σ[i]? = some (some x)) (q : te σ H fun y H1 => ti x y H1 fun z H2 => n (σ.set i (some z)) H2) : tAug i te ti ⟨n, r, b, c⟩ σ H := ⟨x, h, q⟩
/-- a test -/
theorem rd_ite {p : Prop} [Decidable p] {A B : Prop} (h1 : p → A) (h2 : ¬ p → B) : if decide p = true then A else B := by
  by_cases hp : p
  · rw [decide_eq_true hp]; exact h1 hp
  · rw [decide_eq_false hp]; exact h2 hp
theorem rd_iteN {p : Prop} [Decidable p] {A B : Prop} (h1 : ¬ p → A) (h2 : p → B) : if (!decide p) = true then A else B := by
  by_cases hp : p
  · rw [decide_eq_true hp]; exact h2 hp
  · rw [decide_eq_false hp]; exact h1 hp
theorem rd_iteB {k : Bool} {A B : Prop} (h1 : k = true → A) (h2 : k = false → B) : if k = true then A else B := by
  cases k
  · exact h2 rfl
  · exact h1 rfl
theorem rd_T {p : Prop} [Decidable p] {A B : Prop} (hp : p) (h : A) : if decide p = true then A else B := by rw [decide_eq_true hp]; exact h
theorem rd_F {p : Prop} [Decidable p] {A B : Prop} (hp : ¬ p) (h : B) : if decide p = true then A else B := by rw [decide_eq_false hp]; exact h
theorem rd_NT {p : Prop} [Decidable p] {A B : Prop} (hp : ¬ p) (h : A) : if (!decide p) = true then A else B := by rw [decide_eq_false hp]; exact h
theorem rd_NF {p : Prop} [Decidable p] {A B : Prop} (hp : p) (h : B) : if (!decide p) = true then A else B := by rw [decide_eq_true hp]; exact h
theorem rd_tt {A B : Prop} (h : A) : if true = true then A else B := by rw [if_pos rfl]; exact h
theorem rd_tt' {b : Bool} {A B : Prop} (e : b = true) (h : A) : if b = true then A else B := by rw [if_pos e]; exact h
theorem rd_ff' {b : Bool} {A B : Prop} (e : b = false) (h : B) : if b = true then A else B := by rw [if_neg (by rw [e]; decide)]; exact h
theorem rd_ff {A B : Prop} (h : B) : if false = true then A else B := by rw [if_neg Bool.false_ne_true]; exact h
theorem rd_ntt {A B : Prop} (h : B) : if (!true) = true then A else B := by rw [if_neg (by decide)]; exact h
theorem rd_nff {A B : Prop} (h : A) : if (!false) = true then A else B := by rw [if_pos (by decide)]; exact h
/-- calls of built-ins -/
theorem rd_int {i : Int} {A : Prop} (h : Q (.int i) H) : (∃ j, [V.int i] = [.int j] ∧ Q (.int j) H) ∨ A := .inl ⟨i, rfl, h⟩
theorem cmul_l {i j : Int} (h : -18446744073709551616 < i) (h2 : i < 18446744073709551616) : CMul i j := .inl ⟨h, h2⟩
theorem cmul_r {i j : Int} (h : -18446744073709551616 < j) (h2 : j < 18446744073709551616) : CMul i j := .inr ⟨h, h2⟩
end
def rInt1 : List V → Hp → VK → Prop := fun xs H Q => (∃ i, xs = [.int i] ∧ Q (.int i) H) ∨ ∃ k, xs = [.bl k] ∧ Q (.int (if k then 1 else 0)) H
theorem rd_int1 {H : Hp} {Q : VK} {i : Int} (h : Q (.int i) H) : rInt1 [.int i] H Q := .inl ⟨i, rfl, h⟩
theorem rd_intB {H : Hp} {Q : VK} {k : Bool} (h : Q (.int (if k then 1 else 0)) H) : rInt1 [.bl k] H Q := .inr ⟨k, rfl, h⟩
def rAbs : List V → Hp → VK → Prop := fun xs H Q => ∃ i, xs = [.int i] ∧ Q (.int (if i < 0 then -i else i)) H
theorem rd_abs {H : Hp} {Q : VK} {i : Int} (h : Q (.int (if i < 0 then -i else i)) H) : rAbs [.int i] H Q := ⟨i, rfl, h⟩
def rLen (K : PySem.W.Frag) : List V → Hp → VK → Prop := fun xs H Q => ∃ p ys, xs = [.ref p] ∧ (SqL K H p ys ∨ SqT K H p ys) ∧ Q (.int (ys.length : Nat)) H
def rLenS : List V → Hp → VK → Prop := fun xs H Q => ∃ z : Str, xs = [.str z] ∧ z.length ≤ sizeLine ∧ Q (.int (z.length : Nat)) H
def rListOf (K : PySem.W.Frag) : List V → Hp → VK → Prop := fun xs H Q => ∃ p ys, xs = [.ref p] ∧ (SqL K H p ys ∨ SqT K H p ys) ∧ ∀ l, H l = none → Q (.ref l) (upd H l (.lst ys))
def rMax2 : List V → Hp → VK → Prop := fun xs H Q => ∃ i j, xs = [.int i, .int j] ∧ Q (.int (if j > i then j else i)) H
def rMin2 : List V → Hp → VK → Prop := fun xs H Q => ∃ i j, xs = [.int i, .int j] ∧ Q (.int (if j < i then j else i)) H
/-- raise X('..') -/
def tRaiseC (C : Addr) (E : XK) : TS := fun _ _ H => E (.ref C) none H
theorem rd_raise {C : Addr} {E : XK} {D : Ends} {σ : St} {H : Hp} (h : E (.ref C) none H) : tRaiseC C E D σ H := h
/-- operators -/
abbrev aAdd : R2 := rI0 fun i j => .int (i + j)
abbrev aSub : R2 := rI0 fun i j => .int (i - j)
abbrev aMul : R2 := rI CMul fun i j => .int (i * j)
abbrev aMod : R2 := rI (fun _ j => 0 < j) fun i j => .int (i % j)
abbrev aDiv : R2 := rI CDivW fun i j => .int (i / j)
abbrev aMulX : R2 := rI CMulX fun i j => .int (i * j)
abbrev aPow : R2 := rI CPow fun i j => .int (i ^ j.toNat)
abbrev aLt : R2 := rI0 fun i j => .bl (decide (i < j))
abbrev aLe : R2 := rI0 fun i j => .bl (decide (i ≤ j))
abbrev aGt : R2 := rI0 fun i j => .bl (decide (j < i))
abbrev aGe : R2 := rI0 fun i j => .bl (decide (j ≤ i))
abbrev aNeg : V → Hp → VK → Prop := rU fun i => .int (-i)
def rIsNone : R2 := fun x y H Q => y = .non ∧ Q (.bl (decide (x = .non))) H
def rNotNone : R2 := fun x y H Q => y = .non ∧ Q (.bl (!decide (x = .non))) H
def tTruth (K : PySem.W.Frag) (ta : TE) : TT := fun σ H Q => ta σ H fun x H' => ∃ k, TruV K x H' k ∧ Q k H'
/-- a module's constant -/
theorem pe_gi {X : Cx} {x : Str} {i : Int} {pos : Pos} (hg : Gl X x) (hm : ∃ t, X.mg x = some (.int i t)) (hd : (x == ("__debug__" : Str)) = false := by decide) : PE X (.Name x pos) (tC (.int i)) := by
  obtain ⟨t, e⟩ := hm
  exact pe_glob hg e ⟨_, rfl⟩ hd
theorem pe_gs {X : Cx} {x z : Str} {pos : Pos} (hg : Gl X x) (hm : ∃ t, X.mg x = some (.str z t)) (hd : (x == ("__debug__" : Str)) = false := by decide) : PE X (.Name x pos) (tC (.str z)) := by
  obtain ⟨t, e⟩ := hm
  exact pe_glob hg e ⟨_, rfl⟩ hd
/-! ### exceptions -/
def rIsX (K : PySem.W.Frag) (a : Addr) (cls : Value) (d : Option Addr) : List V → Hp → VK → Prop := fun xs H Q => ∃ D : Addr, cls = .ref D ∧ d = none ∧ ExcC K D ∧ rIsE K D a xs H Q
theorem call_isX {X : Cx} {a : Addr} {oe : Obj} {cls : Value} {d : Option Addr} {pn : List (Addr × Obj)} (hz : Zc cls d oe) (hf : ∃ vs, oe.data = .fields vs) : CallR (X.suite a ((a, oe) :: pn)) (.builtin "isinstance") (rIsX X.K a cls d) := by
  intro pins s σ H xs us Q I r h
  obtain ⟨D, rfl, rfl, C, h⟩ := h
  exact call_isE C hz hf pins s σ H xs us Q I r h
theorem rd_isX {K : PySem.W.Frag} {a D C : Addr} {H : Hp} {Q : VK} {b : Bool} (e : ExcC K D) (k : PySem.W.kitOne K (.ref D) (.ref C) = some b) (h : Q (.bl b) H) : rIsX K a (.ref D) none [.ref a, .ref C] H Q :=
  ⟨D, rfl, rfl, e, .ref C, .ref C, b, rfl, fun _ r => r, k, h⟩
theorem rd_isXt {K : PySem.W.Frag} {a D : Addr} {t : String} {H : Hp} {Q : VK} {b : Bool} (e : ExcC K D) (k : PySem.W.kitOne K (.ref D) (.type t) = some b) (h : Q (.bl b) H) : rIsX K a (.ref D) none [.ref a, .ty t] H Q :=
  ⟨D, rfl, rfl, e, .ty t, .type t, b, rfl, fun _ r => r, k, h⟩
def tTryAs (K : PySem.W.Frag) (c : Value) (i : Nat) (tb : WX → TS) (ts : Addr → Value → Option Addr → TS) (Wout : WX) : TS := fun D σ H => tb (wAs K c i ts Wout D) D σ H
def tTryOnly (K : PySem.W.Frag) (c : Value) (tb : WX → TS) (ts : Addr → Value → Option Addr → TS) (Wout : WX) : TS := fun D σ H => tb (wOnly K c ts Wout D) D σ H
theorem rd_isi {K : PySem.W.Frag} {H : Hp} {Q : VK} {x : V} {t u : Value} {c : V} {b : Bool} (hc : ClsV c u) (ty : TyX K H x t) (k : PySem.W.kitOne K t u = some b) (h : Q (.bl b) H) : rIsi K [x, c] H Q := ⟨x, c, t, u, b, rfl, hc, ty, k, h⟩
def rCatS : R2 := fun x y H Q => ∃ i j, x = .str i ∧ y = .str j ∧ i.length + j.length ≤ sizeLine ∧ Q (.str (i ++ j)) H
def sLt : R2 := fun x y H Q => ∃ i j, x = .str i ∧ y = .str j ∧ Q (.bl (decide (i.cps.toList < j.cps.toList))) H
/-! ### modular arithmetic of ints with conditions -/
section
variable {H : Hp} {Q : VK} {i j : Int}
theorem rd_mod (hc : 0 < j) (h : Q (.int (i % j)) H) : aMod (.int i) (.int j) H Q := ⟨i, j, rfl, rfl, hc, h⟩
theorem rd_div (hc : 0 < j) (hd : j < 4611686018427387904) (h : Q (.int (i / j)) H) : aDiv (.int i) (.int j) H Q := ⟨i, j, rfl, rfl, wide_div (b := 62) hc (by omega) (by decide) (by decide), h⟩
theorem rd_mulr (h1 : -18446744073709551616 < j) (h2 : j < 18446744073709551616) (h : Q (.int (i * j)) H) : aMul (.int i) (.int j) H Q := ⟨i, j, rfl, rfl, .inr ⟨h1, h2⟩, h⟩
theorem rd_mull (h1 : -18446744073709551616 < i) (h2 : i < 18446744073709551616) (h : Q (.int (i * j)) H) : aMul (.int i) (.int j) H Q := ⟨i, j, rfl, rfl, .inl ⟨h1, h2⟩, h⟩
theorem rd_pow (h1 : 0 ≤ j) (h2 : j ≤ 1000000) (h3 : i.natAbs < 18446744073709551616) (h : Q (.int (i ^ j.toNat)) H) : aPow (.int i) (.int j) H Q := ⟨i, j, rfl, rfl, ⟨h1, h2, h3⟩, h⟩
end
theorem szl {n : Nat} (h : n ≤ 1000000) : n ≤ sizeLine := Nat.le_trans h (by decide)
theorem szt {n : Nat} (h : n ≤ 1000000) : n < sizeLine := Nat.lt_of_le_of_lt h (by decide)
/-! ### reads off cells and facts -/
section
variable {K : PySem.W.Frag} {H0 H : Hp} {M : List Addr} {L : List Cell} {F : List Fact} {Q : VK} {p : Addr} {v : V}
theorem ix_cell (j : Nat) (k : Kn K H0 M H L F) {xs : List V} {i : Int} (h : L[j]? = some (p, .lst xs)) (hi : atI xs i = some v) (q : Q v H) : rIxL K (.ref p) (.int i) H Q :=
  ⟨p, xs, i, v, rfl, rfl, .inl (.inl (k.at j h)), hi, q⟩
theorem ix_cellT (j : Nat) (k : Kn K H0 M H L F) {xs : List V} {i : Int} (h : L[j]? = some (p, .tup xs)) (hi : atI xs i = some v) (q : Q v H) : rIxT K (.ref p) (.int i) H Q :=
  ⟨p, xs, i, v, rfl, rfl, .inl (.inl (k.at j h)), hi, q⟩
theorem ix_factI (j : Nat) (k : Kn K H0 M H L F) {ns : List Int} {i n : Int} (h : F[j]? = some ([.ref p], [.list (ns.map PyData.int)])) (hi : atI ns i = some n) (q : Q (.int n) H) : rIxL K (.ref p) (.int i) H Q := by
  refine ⟨p, ns.map V.int, i, .int n, rfl, rfl, (Dp.listI (k.dp j h)), ?_, q⟩
  unfold atI at hi ⊢
  rw [List.length_map]
  cases e : ixN ns.length i with
  | none => rw [e] at hi; simp at hi
  | some m =>
    rw [e] at hi
    have hi' : ns[m]? = some n := hi
    show (ns.map V.int)[m]? = some (.int n)
    rw [List.getElem?_map, hi']; rfl
theorem len_cell (j : Nat) (k : Kn K H0 M H L F) {xs : List V} (h : L[j]? = some (p, .lst xs)) (q : Q (.int (xs.length : Nat)) H) : rLen K [.ref p] H Q := ⟨p, xs, rfl, .inl (.inl (.inl (k.at j h))), q⟩
theorem len_cellT (j : Nat) (k : Kn K H0 M H L F) {xs : List V} (h : L[j]? = some (p, .tup xs)) (q : Q (.int (xs.length : Nat)) H) : rLen K [.ref p] H Q := ⟨p, xs, rfl, .inr (.inl (.inl (k.at j h))), q⟩
theorem len_fact (j : Nat) (k : Kn K H0 M H L F) {ds : List PyData} (h : F[j]? = some ([.ref p], [.list ds])) (q : Q (.int (ds.length : Nat)) H) : rLen K [.ref p] H Q := by
  obtain ⟨a, vs, e, h1, h2⟩ := (Dp.list (k.dp j h))
  cases e
  refine ⟨p, vs, rfl, .inl h1, ?_⟩
  rw [DpAll.len h2]; exact q
theorem of_cell (j : Nat) (k : Kn K H0 M H L F) {xs : List V} (h : L[j]? = some (p, .lst xs)) (q : ∀ l, H l = none → Q (.ref l) (upd H l (.lst xs))) : rListOf K [.ref p] H Q := ⟨p, xs, rfl, .inl (.inl (.inl (k.at j h))), q⟩
theorem of_factI (j : Nat) (k : Kn K H0 M H L F) {ns : List Int} (h : F[j]? = some ([.ref p], [.list (ns.map PyData.int)])) (q : ∀ l, H l = none → Q (.ref l) (upd H l (.lst (ns.map V.int)))) : rListOf K [.ref p] H Q := ⟨p, _, rfl, .inl (Dp.listI (k.dp j h)), q⟩
theorem app_cell (j : Nat) (k : Kn K H0 M H L F) {xs : List V} {x : V} (h : L[j]? = some (p, .lst xs)) (hl : xs.length < sizeLine) (q : Q .non (upd H p (.lst (xs ++ [x])))) : rAppend (.ref p) [x] H Q := ⟨p, xs, x, rfl, rfl, k.at j h, hl, q⟩
theorem set_cell (j : Nat) (k : Kn K H0 M H L F) {xs : List V} {i : Int} {m : Nat} {Q : Hp → Prop} (h : L[j]? = some (p, .lst xs)) (hi : ixN xs.length i = some m) (q : Q (upd H p (.lst (xs.set m v)))) : rSetL (.ref p) (.int i) v H Q := ⟨p, xs, i, m, rfl, rfl, k.at j h, hi, q⟩
end
theorem atI_of {α : Type} {xs : List α} {i : Int} {v : α} (h0 : 0 ≤ i) (h : xs[i.toNat]? = some v) : atI xs i = some v := by
  have hl : i.toNat < xs.length := (List.getElem?_eq_some_iff.mp h).1
  unfold atI ixN
  rw [if_pos h0, if_pos (by omega)]
  exact h
theorem ixN_of {n : Nat} {i : Int} (h0 : 0 ≤ i) (h : i < n) : ixN n i = some i.toNat := by
  unfold ixN; rw [if_pos h0, if_pos h]
/-! ### loops -/
/-- what a loop over J asks -/
def FW (J : It) (g : TG) (tb : TS) (D : Ends) (σ : St) (H : Hp) : Prop := ∃ W : Nat → Nat → St → Hp → Prop, (∃ m, W 0 m σ H) ∧ ∀ i m σ H, W i m σ H →
  (J.stop i H ∧ D.nx σ H) ∨ (J.go i H ∧ ∃ N : St → Hp → Prop, (∀ σ' H', N σ' H' → ∃ m', m' < m ∧ W (i + 1) m' σ' H') ∧ ∀ x H', J.yld i H x H' → g x σ H' fun σ2 H2 => tb { D with nx := N, ct := N, bk := D.nx } σ2 H2)
theorem rd_for {wi : TI} {g : TG} {tb : TS} {D : Ends} {σ : St} {H : Hp} (h : wi σ H fun J H1 => FW J g tb D σ H1) : tFor wi g tb D σ H := h
theorem rd_seqF {wi : TI} {g : TG} {tb u : TS} {n b c : St → Hp → Prop} {r : VK} {σ : St} {H : Hp} (h : wi σ H fun J H1 => FW J g tb ⟨u ⟨n, r, b, c⟩, r, b, c⟩ σ H1) : tSeq (tFor wi g tb) u ⟨n, r, b, c⟩ σ H := h
theorem fw_of {J : It} {g : TG} {tb : TS} {D : Ends} {σ : St} {H : Hp} (n : Nat) (Pv : Nat → St → Hp → Prop) (h0 : Pv 0 σ H) (hgo : ∀ i σ H, i < n → Pv i σ H → J.go i H) (hst : ∀ σ H, Pv n σ H → J.stop n H)
    (hs : ∀ i σ H x H', i < n → Pv i σ H → J.yld i H x H' → g x σ H' fun σ2 H2 => tb ⟨Pv (i + 1), D.rt, D.nx, Pv (i + 1)⟩ σ2 H2) (hd : ∀ σ H, Pv n σ H → D.nx σ H) : FW J g tb D σ H := by
  refine ⟨fun i m σ H => m = n - i ∧ i ≤ n ∧ Pv i σ H, ⟨n, rfl, Nat.zero_le _, h0⟩, ?_⟩
  rintro i m σ H ⟨rfl, hi, p⟩
  by_cases hlt : i < n
  · exact .inr ⟨hgo i σ H hlt p, Pv (i + 1), fun σ' H' p' => ⟨n - (i + 1), by omega, rfl, hlt, p'⟩, fun x H' y => hs i σ H x H' hlt p y⟩
  · have e : i = n := by omega
    subst e
    exact .inl ⟨hst σ H p, hd σ H p⟩
/-- what a comprehension over J asks, its list at A -/
def LW (J : It) (g : TG) (tt : TT) (te : TE) (vs : List Nat) (σ : St) (Q : VK) (H1 : Hp) : Prop := ∀ D, H1 D = none → ∃ W : Nat → Nat → Hp → Prop, (∃ m, W 0 m (upd H1 D (.lst []))) ∧ ∀ i m H, W i m H →
  (J.stop i H ∧ Q (.ref D) H) ∨ (J.go i H ∧ ∃ Nx : Hp → Prop, (∀ H', Nx H' → ∃ m', m' < m ∧ W (i + 1) m' H') ∧ ∀ x H', J.yld i H x H' → g x (wipe σ vs) H' fun σ2 H2 => wipe σ2 vs = wipe σ vs ∧ tt σ2 H2 fun b H3 =>
    if b = true then te σ2 H3 fun y H4 => ∃ acc, H4 D = some (.lst acc) ∧ acc.length < sizeLine ∧ Nx (upd H4 D (.lst (acc ++ [y]))) else Nx H3)
theorem rd_lc {wi : TI} {g : TG} {tt : TT} {te : TE} {vs : List Nat} {σ : St} {H : Hp} {Q : VK} (h : wi σ H fun J H1 => LW J g tt te vs σ Q H1) : tLc wi g tt te vs σ H Q := h
theorem lw_of {J : It} {g : TG} {tt : TT} {te : TE} {vs : List Nat} {σ : St} {H1 : Hp} {Q : VK} (n : Nat) (Pv : Addr → Nat → Hp → Prop) (h0 : ∀ D, H1 D = none → Pv D 0 (upd H1 D (.lst []))) (hgo : ∀ D i H, i < n → Pv D i H → J.go i H) (hst : ∀ D H, Pv D n H → J.stop n H)
    (hs : ∀ D i H x H', i < n → Pv D i H → J.yld i H x H' → g x (wipe σ vs) H' fun σ2 H2 => wipe σ2 vs = wipe σ vs ∧ tt σ2 H2 fun b H3 =>
      if b = true then te σ2 H3 fun y H4 => ∃ acc, H4 D = some (.lst acc) ∧ acc.length < sizeLine ∧ Pv D (i + 1) (upd H4 D (.lst (acc ++ [y]))) else Pv D (i + 1) H3) (hd : ∀ D H, H1 D = none → Pv D n H → Q (.ref D) H) : LW J g tt te vs σ Q H1 := by
  intro D hD
  refine ⟨fun i m H => m = n - i ∧ i ≤ n ∧ Pv D i H, ⟨n, rfl, Nat.zero_le _, h0 D hD⟩, ?_⟩
  rintro i m H ⟨rfl, hi, p⟩
  by_cases hlt : i < n
  · exact .inr ⟨hgo D i H hlt p, Pv D (i + 1), fun H' p' => ⟨n - (i + 1), by omega, rfl, hlt, p'⟩, fun x H' y => hs D i H x H' hlt p y⟩
  · have e : i = n := by omega
    subst e
    exact .inl ⟨hst D H p, hd D H hD p⟩
section
variable {K : PySem.W.Frag} {σ : St} {H : Hp} {a b : Addr} {xs ys : List V} {g : TG} {tb : TS} {D : Ends} {tl : TE}
/-! the iterators -/
theorem rd_iL {R : It → Hp → Prop} (h : tl σ H fun x H1 => ∃ a, x = .ref a ∧ (∃ xs, SqL K H1 a xs) ∧ R (Itl K a) H1) : iList K tl σ H R := h
theorem rd_iT {R : It → Hp → Prop} (h : tl σ H fun x H1 => ∃ a, x = .ref a ∧ (∃ xs, SqT K H1 a xs) ∧ R (Itt K a) H1) : iTup K tl σ H R := h
theorem rd_i1 {R : It → Hp → Prop} {ta : TA} (h : ta σ H fun vs H1 => ∃ j : Int, vs = [.int j] ∧ -(2 ^ 62) ≤ j ∧ j < 2 ^ 62 ∧ R (Itr 0 j.toNat) H1) : iRng1 ta σ H R := h
theorem rd_i2 {R : It → Hp → Prop} {ta : TA} (h : ta σ H fun vs H1 => ∃ i j : Int, vs = [.int i, .int j] ∧ (-(2 ^ 62) ≤ i ∧ i < 2 ^ 62 ∧ -(2 ^ 62) ≤ j ∧ j < 2 ^ 62) ∧ R (Itr i (j - i).toNat) H1) : iRng2 ta σ H R := h
theorem rd_i3 {R : It → Hp → Prop} {ta : TA} (h : ta σ H fun vs H1 => ∃ (i j c : Int) (n : Nat), vs = [.int i, .int j, .int c] ∧ RgC i j c n ∧ R (Itc i c n) H1) : iRng3 ta σ H R := h
theorem rd_iZ {R : It → Hp → Prop} {ta : TA} (h : ta σ H fun vs H1 => ∃ a b xs ys, vs = [.ref a, .ref b] ∧ SqL K H1 a xs ∧ SqL K H1 b ys ∧ R (Itz K a b) H1) : iZip K ta σ H R := h
theorem rd_iE {R : It → Hp → Prop} {ta : TA} (h : ta σ H fun vs H1 => ∃ a xs, vs = [.ref a] ∧ SqL K H1 a xs ∧ R (Ite K a) H1) : iEnum K ta σ H R := h
theorem rd_iR {R : It → Hp → Prop} {ta : TA} (h : ta σ H fun vs H1 => ∃ (a : Addr) (xs : List V), vs = [.ref a] ∧ SqL K H1 a xs ∧ R (Itv K a xs.length) H1) : iRev K ta σ H R := h
theorem rd_gtup {n : Nat} {t : TGs} {T : Addr} {Q : St → Hp → Prop} (hn : xs.length = n) (h : t xs σ (upd H T (.tup xs)) Q) : gTup K n t (.ref T) σ (upd H T (.tup xs)) Q := ⟨T, xs, rfl, .inl (.inl upd_same), hn, h⟩
/-! the loops -/
theorem fw_L (Pv : Nat → St → Hp → Prop) (h0 : Pv 0 σ H) (hl : ∀ i σ H, Pv i σ H → SqL K H a xs) (hs : ∀ i x σ H, xs[i]? = some x → Pv i σ H → g x σ H fun σ2 H2 => tb ⟨Pv (i + 1), D.rt, D.nx, Pv (i + 1)⟩ σ2 H2) (hd : ∀ σ H, Pv xs.length σ H → D.nx σ H) : FW (Itl K a) g tb D σ H :=
  for_list (K := K) (a := a) (xs := xs) Pv h0 (fun i σ H _ p => hl i σ H p) hs hd
theorem fw_T (Pv : Nat → St → Hp → Prop) (h0 : Pv 0 σ H) (hl : ∀ i σ H, Pv i σ H → SqT K H a xs) (hs : ∀ i x σ H, xs[i]? = some x → Pv i σ H → g x σ H fun σ2 H2 => tb ⟨Pv (i + 1), D.rt, D.nx, Pv (i + 1)⟩ σ2 H2) (hd : ∀ σ H, Pv xs.length σ H → D.nx σ H) : FW (Itt K a) g tb D σ H :=
  for_tup (K := K) (a := a) (xs := xs) Pv h0 (fun i σ H _ p => hl i σ H p) hs hd
theorem fw_R {lo : Int} {n : Nat} (Pv : Nat → St → Hp → Prop) (h0 : Pv 0 σ H) (hs : ∀ i σ H, i < n → Pv i σ H → g (.int (lo + i)) σ H fun σ2 H2 => tb ⟨Pv (i + 1), D.rt, D.nx, Pv (i + 1)⟩ σ2 H2) (hd : ∀ σ H, Pv n σ H → D.nx σ H) : FW (Itr lo n) g tb D σ H :=
  for_range Pv h0 hs hd
theorem fw_C {lo c : Int} {n : Nat} (Pv : Nat → St → Hp → Prop) (h0 : Pv 0 σ H) (hs : ∀ i σ H, i < n → Pv i σ H → g (.int (lo + (i : Nat) * c)) σ H fun σ2 H2 => tb ⟨Pv (i + 1), D.rt, D.nx, Pv (i + 1)⟩ σ2 H2) (hd : ∀ σ H, Pv n σ H → D.nx σ H) : FW (Itc lo c n) g tb D σ H :=
  for_rangeC Pv h0 hs hd
theorem fw_Z (hl : xs.length = ys.length) (Pv : Nat → St → Hp → Prop) (h0 : Pv 0 σ H) (hq : ∀ i σ H, Pv i σ H → SqL K H a xs ∧ SqL K H b ys)
    (hs : ∀ (i : Nat) (x y : V) (T : Addr) (σ : St) (H : Hp), xs[i]? = some x → ys[i]? = some y → Pv i σ H → H T = none → g (.ref T) σ (upd H T (.tup [x, y])) fun σ2 H2 => tb ⟨Pv (i + 1), D.rt, D.nx, Pv (i + 1)⟩ σ2 H2) (hd : ∀ σ H, Pv xs.length σ H → D.nx σ H) : FW (Itz K a b) g tb D σ H :=
  RZ.for_zipL hl Pv h0 hq hs hd
theorem fw_E (Pv : Nat → St → Hp → Prop) (h0 : Pv 0 σ H) (hq : ∀ i σ H, Pv i σ H → SqL K H a xs)
    (hs : ∀ (i : Nat) (x : V) (T : Addr) (σ : St) (H : Hp), xs[i]? = some x → Pv i σ H → H T = none → g (.ref T) σ (upd H T (.tup [.int (i : Nat), x])) fun σ2 H2 => tb ⟨Pv (i + 1), D.rt, D.nx, Pv (i + 1)⟩ σ2 H2) (hd : ∀ σ H, Pv xs.length σ H → D.nx σ H) : FW (Ite K a) g tb D σ H :=
  fw_of xs.length Pv h0 (fun i σ H hi p => ⟨xs, xs[i], hq i σ H p, by simp [hi]⟩) (fun σ H p => ⟨xs, hq _ σ H p, Nat.le_refl _⟩)
    (fun i σ H v H' hi p y => by
      obtain ⟨T, x, rfl, hT, rfl, hx⟩ := y
      exact hs i x T σ H (hx xs (hq i σ H p)) p hT) hd
theorem fw_V {n : Nat} (hn : n = xs.length) (Pv : Nat → St → Hp → Prop) (h0 : Pv 0 σ H) (hq : ∀ i σ H, Pv i σ H → SqL K H a xs)
    (hs : ∀ (i : Nat) (x : V) (σ : St) (H : Hp), i < n → xs[n - 1 - i]? = some x → Pv i σ H → g x σ H fun σ2 H2 => tb ⟨Pv (i + 1), D.rt, D.nx, Pv (i + 1)⟩ σ2 H2) (hd : ∀ σ H, Pv n σ H → D.nx σ H) : FW (Itv K a n) g tb D σ H :=
  fw_of n Pv h0 (fun i σ H hi p => ⟨hi, xs, xs[n - 1 - i]'(by omega), hq i σ H p, by simp⟩) (fun σ H p => Nat.le_refl _)
    (fun i σ H v H' hi p y => by
      obtain ⟨rfl, hx⟩ := y
      exact hs i v σ H' hi (hx xs (hq i σ H' p)) p) hd
/-! comprehensions: the items of a list, of a range, of a zip, each giving one value, the heap only read (new tuples beside) -/
variable {te : TE} {tt : TT} {vs : List Nat} {Q : VK}
/-- one value for each turn -/
theorem lw_map {J : It} {H1 : Hp} (zs : List V) (hz : zs.length < sizeLine) (hgo : ∀ i H, i < zs.length → Le H1 H → J.go i H) (hst : ∀ H, Le H1 H → J.stop zs.length H) (hy : ∀ i H x H', J.yld i H x H' → Le H H')
    (hs : ∀ (R : VK) i z H x H', zs[i]? = some z → Le H1 H → J.yld i H x H' → (∀ H4, Le H' H4 → R z H4) → g x (wipe σ vs) H' fun σ2 H2 => wipe σ2 vs = wipe σ vs ∧ te σ2 H2 R)
    (q : ∀ D H, H1 D = none → Le H1 H → H D = some (.lst zs) → Q (.ref D) H) : LW J g tYes te vs σ Q H1 := by
  refine lw_of zs.length (fun D i H => H1 D = none ∧ Le H1 H ∧ H D = some (.lst (zs.take i))) (fun D hD => ⟨hD, le_new hD, upd_same⟩) (fun D i H hi p => hgo i H hi p.2.1) (fun D H p => hst H p.2.1) ?_ (fun D H hD p => q D H hD p.2.1 (by rw [← List.take_length (l := zs)]; exact p.2.2))
  rintro D i H x H' hi ⟨hD, le, hacc⟩ y
  exact hs (fun y H4 => ∃ acc, H4 D = some (.lst acc) ∧ acc.length < sizeLine ∧ (H1 D = none ∧ Le H1 (upd H4 D (.lst (acc ++ [y]))) ∧ (upd H4 D (.lst (acc ++ [y]))) D = some (.lst (zs.take (i + 1))))) i zs[i] H x H' (by simp [hi]) le y (fun H4 le4 => by
    have leA := le.trans ((hy i H x H' y).trans le4)
    refine ⟨_, le4 _ _ (hy i H x H' y _ _ hacc), ?_, hD, fun b o eb => ?_, ?_⟩
    · rw [List.length_take]; omega
    · rw [upd_ne (ne_of_none eb hD)]; exact leA b o eb
    · rw [upd_same, List.take_succ_eq_append_getElem hi])
theorem lw_L {H1 : Hp} (zs : List V) (hS : SqL K H1 a xs) (hl : zs.length = xs.length) (hz : xs.length < sizeLine)
    (hs : ∀ (R : VK) (i : Nat) (x z : V) (H : Hp), xs[i]? = some x → zs[i]? = some z → Le H1 H → (∀ H4, Le H H4 → R z H4) → g x (wipe σ vs) H fun σ2 H2 => wipe σ2 vs = wipe σ vs ∧ te σ2 H2 R)
    (q : ∀ D H, H1 D = none → Le H1 H → H D = some (.lst zs) → Q (.ref D) H) : LW (Itl K a) g tYes te vs σ Q H1 :=
  lw_map zs (by omega) (fun i H hi le => ⟨xs, xs[i]'(by omega), sqL_le le hS, by simp⟩) (fun H le => ⟨xs, sqL_le le hS, by omega⟩) (fun i H x H' y => y.1 ▸ Le.refl _)
    (fun R i z H x H' hz le y k => by
      obtain ⟨rfl, hx⟩ := y
      exact hs R i x z H' (hx xs (sqL_le le hS)) hz le k) q
theorem lw_R {H1 : Hp} {lo : Int} {n : Nat} (zs : List V) (hl : zs.length = n) (hz : n < sizeLine)
    (hs : ∀ (R : VK) (i : Nat) (z : V) (H : Hp), i < n → zs[i]? = some z → Le H1 H → (∀ H4, Le H H4 → R z H4) → g (.int (lo + i)) (wipe σ vs) H fun σ2 H2 => wipe σ2 vs = wipe σ vs ∧ te σ2 H2 R)
    (q : ∀ D H, H1 D = none → Le H1 H → H D = some (.lst zs) → Q (.ref D) H) : LW (Itr lo n) g tYes te vs σ Q H1 :=
  lw_map zs (by omega) (fun i H hi le => by show i < n; omega) (fun H le => by show n ≤ zs.length; omega) (fun i H x H' y => y.1 ▸ Le.refl _)
    (fun R i z H x H' hz le y k => by
      obtain ⟨rfl, rfl⟩ := y
      exact hs R i z H' (by have := (List.getElem?_eq_some_iff.mp hz).1; omega) hz le k) q
theorem lw_Z {H1 : Hp} (zs : List V) (hS : SqL K H1 a xs) (hS2 : SqL K H1 b ys) (hl : zs.length = xs.length) (hl2 : xs.length = ys.length) (hz : xs.length < sizeLine)
    (hs : ∀ (R : VK) (i : Nat) (x y z : V) (T : Addr) (H : Hp), xs[i]? = some x → ys[i]? = some y → zs[i]? = some z → Le H1 H → H T = none → (∀ H4, Le (upd H T (.tup [x, y])) H4 → R z H4) → g (.ref T) (wipe σ vs) (upd H T (.tup [x, y])) fun σ2 H2 => wipe σ2 vs = wipe σ vs ∧ te σ2 H2 R)
    (q : ∀ D H, H1 D = none → Le H1 H → H D = some (.lst zs) → Q (.ref D) H) : LW (Itz K a b) g tYes te vs σ Q H1 :=
  lw_map zs (by omega) (fun i H hi le => ⟨xs, ys, xs[i]'(by omega), ys[i]'(by omega), sqL_le le hS, sqL_le le hS2, by simp, by simp⟩) (fun H le => ⟨xs, ys, sqL_le le hS, sqL_le le hS2, .inl (by omega)⟩)
    (fun i H x H' y => by obtain ⟨T, x1, y1, rfl, hT, rfl, _⟩ := y; exact le_new hT)
    (fun R i z H x H' hz le y k => by
      obtain ⟨T, x1, y1, rfl, hT, rfl, hx, hy⟩ := y
      exact hs R i x1 y1 z T H (hx xs (sqL_le le hS)) (hy ys (sqL_le le hS2)) hz le hT k) q
theorem lw_E {H1 : Hp} (zs : List V) (hS : SqL K H1 a xs) (hl : zs.length = xs.length) (hz : xs.length < sizeLine)
    (hs : ∀ (R : VK) (i : Nat) (x z : V) (T : Addr) (H : Hp), xs[i]? = some x → zs[i]? = some z → Le H1 H → H T = none → (∀ H4, Le (upd H T (.tup [.int (i : Nat), x])) H4 → R z H4) → g (.ref T) (wipe σ vs) (upd H T (.tup [.int (i : Nat), x])) fun σ2 H2 => wipe σ2 vs = wipe σ vs ∧ te σ2 H2 R)
    (q : ∀ D H, H1 D = none → Le H1 H → H D = some (.lst zs) → Q (.ref D) H) : LW (Ite K a) g tYes te vs σ Q H1 :=
  lw_map zs (by omega) (fun i H hi le => ⟨xs, xs[i]'(by omega), sqL_le le hS, by simp⟩) (fun H le => ⟨xs, sqL_le le hS, by omega⟩)
    (fun i H x H' y => by obtain ⟨T, x1, rfl, hT, rfl, _⟩ := y; exact le_new hT)
    (fun R i z H x H' hz le y k => by
      obtain ⟨T, x1, rfl, hT, rfl, hx⟩ := y
      exact hs R i x1 z T H (hx xs (sqL_le le hS)) hz le hT k) q
end
theorem Kn.ret {K : PySem.W.Frag} {H0 H H' : Hp} {M : List Addr} {L : List Cell} {F : List Fact} {p : Addr} {o : HO} (k : Kn K H0 M H L F) (n : H p = none) (le : Le H H') (e : H' p = some o) : Kn K H0 M H' (L ++ [(p, o)]) F where
  cell := fun q hq => by
    rcases List.mem_append.mp hq with h | h
    · exact le _ _ (k.cell q h)
    · obtain rfl := List.mem_singleton.mp h; exact e
  nd := (k.new (o := o) n).nd
  own := (k.new (o := o) n).own
  fr := fun b u e hm => le _ _ (k.fr b u e hm)
  fact := fun f hf => by
    have h1 := (k.new (o := o) n).fact f hf
    rw [hide_upd_new n] at h1
    refine dpAll_le (fun b u eb => ?_) h1
    by_cases hb : b ∈ L.map (·.1)
    · rw [hide_in hb] at eb; cases eb
    · rw [hide_out hb] at eb
      have ne : b ≠ p := ne_of_none eb n
      rw [hide_out (by simp only [List.map_append, List.mem_append, List.map_cons, List.map_nil, List.mem_singleton]; exact fun z => z.elim hb ne)]
      exact le _ _ eb
/-- a new list of ints comes back -/
def RL (ns : List Int) (H : Hp) (Q : VK) : Prop := ∀ p H', H p = none → Le H H' → H' p = some (.lst (ns.map V.int)) → Q (.ref p) H'
theorem Kn.fin {K : PySem.W.Frag} {H H' : Hp} {L : List Cell} {F : List Fact} {p : Addr} {ns : List Int} {Q : VK} (k : Kn K H [] H' L F) (i : Nat) (h : L[i]? = some (p, .lst (ns.map V.int))) (q : RL ns H Q) : Q (.ref p) H' := by
  refine q p H' ?_ k.le0 (k.at i h)
  rcases k.own _ (List.mem_of_getElem? h) with z | z
  · exact z
  · cases z
/-- all but the object at a stays -/
def LeBut (a : Addr) (H H' : Hp) : Prop := ∀ b o, b ≠ a → H b = some o → H' b = some o
theorem Kn.but {K : PySem.W.Frag} {H0 H H' : Hp} {M : List Addr} {L : List Cell} {F : List Fact} {a : Addr} {o o' : HO} (i : Nat) (k : Kn K H0 M H L F) (h : L[i]? = some (a, o)) (lb : LeBut a H H') (e : H' a = some o') : Kn K H0 M H' (L.set i (a, o')) F :=
  (k.set i h).grow fun b u eb => by
    by_cases hb : b = a
    · subst hb; rw [upd_same] at eb; cases eb; exact e
    · rw [upd_ne hb] at eb; exact lb b u hb eb
/-- a call that changes the object at a and gives a new one at p -/
theorem Kn.pret {K : PySem.W.Frag} {H0 H H' : Hp} {M : List Addr} {L : List Cell} {F : List Fact} {a p : Addr} {o o' x : HO} (i : Nat) (k : Kn K H0 M H L F) (h : L[i]? = some (a, o)) (n : H p = none) (lb : LeBut a H H') (e : H' a = some o') (ep : H' p = some x) : Kn K H0 M H' (L.set i (a, o') ++ [(p, x)]) F := by
  have ne : p ≠ a := (ne_of_none (k.at i h) n).symm
  refine (k.set i h (o' := o')).ret (by rw [upd_ne ne]; exact n) (fun b u eb => ?_) ep
  by_cases hb : b = a
  · subst hb; rw [upd_same] at eb; cases eb; exact e
  · rw [upd_ne hb] at eb; exact lb b u hb eb
theorem cat_cell {K : PySem.W.Frag} {H0 H : Hp} {M : List Addr} {L : List Cell} {F : List Fact} {Q : VK} {p r : Addr} {xs ys : List V} (i j : Nat) (k : Kn K H0 M H L F) (h1 : L[i]? = some (p, .lst xs)) (h2 : L[j]? = some (r, .lst ys)) (hl : xs.length + ys.length ≤ sizeLine)
    (q : ∀ l, H l = none → Q (.ref l) (upd H l (.lst (xs ++ ys)))) : rCat (.ref p) (.ref r) H Q := ⟨p, r, xs, ys, rfl, rfl, k.at i h1, k.at j h2, hl, q⟩
theorem flat_one {α : Type} (n : Nat) (x : α) : (List.replicate n [x]).flatten = List.replicate n x := by
  induction n with
  | zero => rfl
  | succ n ih => simp [List.replicate_succ, ih]
theorem rep_cell {K : PySem.W.Frag} {H0 H : Hp} {M : List Addr} {L : List Cell} {F : List Fact} {Q : VK} {p : Addr} {x : V} {n : Int} (i : Nat) (k : Kn K H0 M H L F) (h1 : L[i]? = some (p, .lst [x])) (hn : n ≤ 1000000) (hn2 : -1000000000 ≤ n)
    (q : ∀ l, H l = none → Q (.ref l) (upd H l (.lst (List.replicate n.toNat x)))) : rRep (.ref p) (.int n) H Q :=
  ⟨p, n, [x], rfl, rfl, k.at i h1, by omega, by omega, szl (by simp; omega), by rw [flat_one]; exact q⟩
theorem pop_cell {K : PySem.W.Frag} {H0 H : Hp} {M : List Addr} {L : List Cell} {F : List Fact} {Q : VK} {p : Addr} {xs : List V} {y : V} (i : Nat) (k : Kn K H0 M H L F) (h1 : L[i]? = some (p, .lst xs)) (hy : xs[xs.length - 1]? = some y) (q : Q y (upd H p (.lst xs.dropLast))) : rPop (.ref p) [] H Q :=
  ⟨p, xs, y, rfl, rfl, k.at i h1, hy, q⟩
theorem rd_bm0 {K : PySem.W.Frag} {T : String} {r : V → List V → Hp → VK → Prop} {to_ : TE} {σ : St} {H : Hp} {Q : VK} (h : to_ σ H fun x H1 => tyV K T x H1 ∧ r x [] H1 Q) : tBM0 K T r to_ σ H Q := h
theorem rd_bm {K : PySem.W.Frag} {T : String} {r : V → List V → Hp → VK → Prop} {to_ : TE} {t : TA} {σ : St} {H : Hp} {Q : VK} (h : to_ σ H fun x H1 => tyV K T x H1 ∧ t σ H1 fun xs H2 => r x xs H2 Q) : tBM K T r to_ t σ H Q := h
theorem tyL {K : PySem.W.Frag} {H0 H : Hp} {M : List Addr} {L : List Cell} {F : List Fact} {p : Addr} {xs : List V} (i : Nat) (k : Kn K H0 M H L F) (h1 : L[i]? = some (p, .lst xs)) : tyV K "list" (.ref p) H := .inl ⟨rfl, _, .inl (.inl (k.at i h1))⟩
theorem rd_truth {K : PySem.W.Frag} {ta : TE} {σ : St} {H : Hp} {Q : Bool → Hp → Prop} (h : ta σ H fun x H' => ∃ k, TruV K x H' k ∧ Q k H') : tTruth K ta σ H Q := h
theorem tru_cell {K : PySem.W.Frag} {H0 H : Hp} {M : List Addr} {L : List Cell} {F : List Fact} {p : Addr} {xs : List V} {Q : Bool → Prop} (i : Nat) (k : Kn K H0 M H L F) (h1 : L[i]? = some (p, .lst xs)) (q : Q (!xs.isEmpty)) : ∃ b, TruV K (.ref p) H b ∧ Q b := ⟨_, .inl ⟨xs, .inl (.inl (k.at i h1)), rfl⟩, q⟩
theorem rd_while {c : TT} {tb : TS} {D : Ends} {σ : St} {H : Hp} (W : Nat → St → Hp → Prop) (h0 : ∃ m, W m σ H) (hs : ∀ m σ H, W m σ H → c σ H fun b H1 => if b = true then ∃ N : St → Hp → Prop, (∀ σ' H', N σ' H' → ∃ m', m' < m ∧ W m' σ' H') ∧ tb { D with nx := N, ct := N, bk := D.nx } σ H1 else D.nx σ H1) : tWhile c tb D σ H := ⟨W, h0, hs⟩
theorem rd_max2 {H : Hp} {Q : VK} {i j : Int} (h : Q (.int (if j > i then j else i)) H) : rMax2 [.int i, .int j] H Q := ⟨i, j, rfl, h⟩
theorem rd_min2 {H : Hp} {Q : VK} {i j : Int} (h : Q (.int (if j < i then j else i)) H) : rMin2 [.int i, .int j] H Q := ⟨i, j, rfl, h⟩
section
variable {K : PySem.W.Frag} {H0 H H' : Hp} {M : List Addr} {L : List Cell} {F : List Fact} {a p : Addr} {o o' : HO}
theorem Kn.new' (k : Kn K H0 M H L F) (n : H p = none) (e : upd H p o = H') : Kn K H0 M H' (L ++ [(p, o)]) F := e ▸ k.new n
theorem Kn.set' (k : Kn K H0 M H L F) (i : Nat) (h : L[i]? = some (a, o)) (e : upd H a o' = H') : Kn K H0 M H' (L.set i (a, o')) F := e ▸ k.set i h
/-- a cell, its content said otherwise -/
theorem Kn.as (k : Kn K H0 M H L F) (i : Nat) (h : L[i]? = some (a, o)) (e : o = o') : Kn K H0 M H (L.set i (a, o')) F := by
  subst e
  have : L.set i (a, o) = L := by
    refine List.ext_getElem? fun j => ?_
    by_cases e : i = j
    · subst e
      rw [List.getElem?_set_self (List.getElem?_eq_some_iff.mp h).1, h]
    · rw [List.getElem?_set_ne e]
  rw [this]; exact k
end
/-! ### equal data -/
def Okd (n : Nat) (d : PyData) : Prop := d.canLay0 = true ∧ d.depth ≤ n
theorem okd_int (n : Nat) (i : Int) : Okd n (.int i) := ⟨rfl, Nat.zero_le _⟩
theorem okd_bool (n : Nat) (i : Bool) : Okd n (.bool i) := ⟨rfl, Nat.zero_le _⟩
theorem okd_none (n : Nat) : Okd n .none := ⟨rfl, Nat.zero_le _⟩
theorem okd_all {n : Nat} : ∀ {ds : List PyData}, (∀ d ∈ ds, Okd n d) → PyData.canLayAll0 ds = true ∧ PyData.depthAll ds ≤ n
  | [], _ => ⟨rfl, Nat.zero_le _⟩
  | d :: ds, h => by
    obtain ⟨h1, h2⟩ := h d List.mem_cons_self
    obtain ⟨h3, h4⟩ := okd_all (n := n) (ds := ds) fun e he => h e (List.mem_cons_of_mem _ he)
    refine ⟨by simp [PyData.canLayAll0, h1, h3], ?_⟩
    show max d.depth (PyData.depthAll ds) ≤ n
    omega
theorem okd_list {n : Nat} {ds : List PyData} (h : ∀ d ∈ ds, Okd n d) : Okd (n + 1) (.list ds) := by
  obtain ⟨h1, h2⟩ := okd_all h
  exact ⟨h1, Nat.succ_le_succ h2⟩
theorem okd_tuple {n : Nat} {ds : List PyData} (h : ∀ d ∈ ds, Okd n d) : Okd (n + 1) (.tuple ds) := by
  obtain ⟨h1, h2⟩ := okd_all h
  exact ⟨h1, Nat.succ_le_succ h2⟩
theorem okd_ints (n : Nat) (ns : List Int) : Okd (n + 1) (.list (ns.map PyData.int)) := okd_list fun d hd => by
  obtain ⟨i, _, rfl⟩ := List.mem_map.mp hd
  exact okd_int n i
theorem Okd.sh {n : Nat} {d : PyData} (h : Okd n d) (hn : n ≤ 64) : SeqAt.shaped d = true := by
  unfold SeqAt.shaped
  rw [h.1, decide_eq_true (Nat.le_trans h.2 hn)]; rfl
theorem eqv_same {d : PyData} {n : Nat} (h : Okd n d) : PyData.eqv d d = true := SeqAt.eqv_refl d h.1
theorem rd_eqD {K : PySem.W.Frag} {H : Hp} {Q : VK} {x y : V} {d e : PyData} (hd : Dp K H x d) (he : Dp K H y e) (sd : Okd 60 d) (se : Okd 60 e) (q : Q (.bl (PyData.eqv d e)) H) : rEqD K x y H Q := ⟨d, e, hd, he, sd.sh (by decide), se.sh (by decide), q⟩
theorem rd_neD {K : PySem.W.Frag} {H : Hp} {Q : VK} {x y : V} {d e : PyData} (hd : Dp K H x d) (he : Dp K H y e) (sd : Okd 60 d) (se : Okd 60 e) (q : Q (.bl (!PyData.eqv d e)) H) : rNeD K x y H Q := ⟨d, e, hd, he, sd.sh (by decide), se.sh (by decide), q⟩
theorem eqv_ints : ∀ (ns ms : List Int), PyData.eqvAll (ns.map PyData.int) (ms.map PyData.int) = decide (ns = ms)
  | [], [] => by simp [PyData.eqvAll]
  | [], _ :: _ => by simp [PyData.eqvAll]
  | _ :: _, [] => by simp [PyData.eqvAll]
  | n :: ns, m :: ms => by
    simp only [List.map_cons, PyData.eqvAll, PyData.eqv, eqv_ints ns ms]
    by_cases h : n = m <;> by_cases h2 : ns = ms <;> simp [h, h2]
theorem eqvL_ints (ns ms : List Int) : PyData.eqv (.list (ns.map PyData.int)) (.list (ms.map PyData.int)) = decide (ns = ms) := eqv_ints ns ms
theorem Okd.mono {n m : Nat} {d : PyData} (h : Okd n d) (l : n ≤ m) : Okd m d := ⟨h.1, Nat.le_trans h.2 l⟩
theorem cellI {K : PySem.W.Frag} {H0 H : Hp} {M : List Addr} {L : List Cell} {F : List Fact} {p : Addr} {ns : List Int} (k : Kn K H0 M H L F) (i : Nat) (h : L[i]? = some (p, .lst (ns.map V.int))) : Dp K H (.ref p) (.list (ns.map PyData.int)) := Dp.ofI (.inl (.inl (k.at i h)))
theorem cellS {K : PySem.W.Frag} {H0 H : Hp} {M : List Addr} {L : List Cell} {F : List Fact} {p : Addr} {xs : List V} (k : Kn K H0 M H L F) (i : Nat) (h : L[i]? = some (p, .lst xs)) : SqL K H p xs := .inl (.inl (k.at i h))
theorem cellT {K : PySem.W.Frag} {H0 H : Hp} {M : List Addr} {L : List Cell} {F : List Fact} {p : Addr} {xs : List V} (k : Kn K H0 M H L F) (i : Nat) (h : L[i]? = some (p, .tup xs)) : SqT K H p xs := .inl (.inl (k.at i h))
theorem cellTy {K : PySem.W.Frag} {H0 H : Hp} {M : List Addr} {L : List Cell} {F : List Fact} {p : Addr} {xs : List V} (k : Kn K H0 M H L F) (i : Nat) (h : L[i]? = some (p, .lst xs)) : TyX K H (.ref p) (.type "list") := .base (.lst (k.at i h))
/-- a cell is forgotten -/
theorem Kn.erase {K : PySem.W.Frag} {H0 H : Hp} {M : List Addr} {L : List Cell} {F : List Fact} (k : Kn K H0 M H L F) (i : Nat) : Kn K H0 M H (L.eraseIdx i) F where
  cell := fun q hq => k.cell q (List.mem_of_mem_eraseIdx hq)
  nd := ((List.eraseIdx_sublist L i).map _).nodup k.nd
  own := fun q hq => k.own q (List.mem_of_mem_eraseIdx hq)
  fr := k.fr
  fact := fun f hf => dpAll_le (fun b u e => by
    by_cases hb : b ∈ L.map (·.1)
    · rw [hide_in hb] at e; cases e
    · rw [hide_out hb] at e
      rw [hide_out (fun z => hb ?_)]
      · exact e
      · obtain ⟨c, hc, rfl⟩ := List.mem_map.mp z
        exact List.mem_map.mpr ⟨c, List.mem_of_mem_eraseIdx hc, rfl⟩) (k.fact f hf)
/-- what a callee has made (k2: from the heap at its call, nothing changed) comes beside -/
theorem Kn.join {K : PySem.W.Frag} {H0 H H' : Hp} {M : List Addr} {L C : List Cell} {F G : List Fact} (k : Kn K H0 M H L F) (k2 : Kn K H [] H' C G) : Kn K H0 M H' (L ++ C) F := by
  have no : ∀ c ∈ C, H c.1 = none := fun c hc => (k2.own c hc).resolve_right (by simp)
  have le := k2.le0
  refine ⟨fun c hc => ?_, ?_, fun c hc => ?_, fun b u e hm => le _ _ (k.fr b u e hm), fun f hf => dpAll_le (fun b u e => ?_) (k.fact f hf)⟩
  · rcases List.mem_append.mp hc with h | h
    · exact le _ _ (k.cell c h)
    · exact k2.cell c h
  · rw [List.map_append, List.nodup_append]
    refine ⟨k.nd, k2.nd, fun x hx y hy e => ?_⟩
    obtain ⟨c, hc, rfl⟩ := List.mem_map.mp hx
    obtain ⟨d, hd, rfl⟩ := List.mem_map.mp hy
    exact ne_of_none (k.cell c hc) (no d hd) e
  · rcases List.mem_append.mp hc with h | h
    · exact k.own c h
    · cases e : H0 c.1 with
      | none => exact .inl rfl
      | some u =>
        by_cases hm : c.1 ∈ M
        · exact .inr hm
        · have := k.fr _ u e hm
          rw [no c h] at this; cases this
  · by_cases hb : b ∈ L.map (·.1)
    · rw [hide_in hb] at e; cases e
    · rw [hide_out hb] at e
      rw [hide_out]
      · exact le _ _ e
      · intro z
        rw [List.map_append] at z
        rcases List.mem_append.mp z with z | z
        · exact hb z
        · obtain ⟨d, hd, rfl⟩ := List.mem_map.mp z
          rw [no d hd] at e; cases e
theorem sIx_some {n d : Nat} {i : Int} (h : 0 ≤ i) : HT.sIx n d (some i) = min i.toNat n := by
  unfold HT.sIx
  simp only []
  split <;> omega
theorem cut_to {xs : List V} {i : Int} (h : 0 ≤ i) : cutV xs none (some i) = xs.take i.toNat := by
  unfold cutV
  rw [sIx_some h]
  show (xs.drop 0).take (min i.toNat xs.length - 0) = _
  rw [List.drop_zero, Nat.sub_zero]
  by_cases e : i.toNat ≤ xs.length
  · rw [Nat.min_eq_left e]
  · rw [Nat.min_eq_right (by omega), List.take_of_length_le (Nat.le_refl _), List.take_of_length_le (by omega)]
theorem cut_from {xs : List V} {i : Int} (h : 0 ≤ i) : cutV xs (some i) none = xs.drop i.toNat := by
  unfold cutV
  rw [sIx_some h]
  show (xs.drop (min i.toNat xs.length)).take (xs.length - min i.toNat xs.length) = _
  by_cases e : i.toNat ≤ xs.length
  · rw [Nat.min_eq_left e, List.take_of_length_le (by simp)]
  · rw [Nat.min_eq_right (by omega), List.drop_of_length_le (Nat.le_refl _), List.drop_of_length_le (by omega)]; simp
theorem rd_sl {r : V → Option Int → Option Int → Hp → VK → Prop} {te : TE} {tl th : TO} {σ : St} {H : Hp} {Q : VK} (h : te σ H fun x H1 => tl σ H1 fun l H2 => th σ H2 fun u H3 => r x l u H3 Q) : tSl r te tl th σ H Q := h
theorem rd_nopart {σ : St} {H : Hp} {Q : Option Int → Hp → Prop} (h : Q none H) : tNoPart σ H Q := h
theorem rd_part {te : TE} {σ : St} {H : Hp} {Q : Option Int → Hp → Prop} (h : te σ H fun x H1 => ∃ i, x = .int i ∧ Q (some i) H1) : tPart te σ H Q := h
theorem rd_ex {i : Int} {Q : Int → Prop} (h : Q i) : ∃ j, V.int i = .int j ∧ Q j := ⟨i, rfl, h⟩
theorem sl_cell {K : PySem.W.Frag} {H0 H : Hp} {M : List Addr} {L : List Cell} {F : List Fact} {p : Addr} {xs : List V} {lo hi : Option Int} {Q : VK} (i : Nat) (k : Kn K H0 M H L F) (h : L[i]? = some (p, .lst xs)) (q : ∀ l, H l = none → Q (.ref l) (upd H l (.lst (cutV xs lo hi)))) : rSlL K (.ref p) lo hi H Q := ⟨p, xs, rfl, .inl (.inl (k.at i h)), q⟩
theorem cellTyT {K : PySem.W.Frag} {H0 H : Hp} {M : List Addr} {L : List Cell} {F : List Fact} {p : Addr} {xs : List V} (k : Kn K H0 M H L F) (i : Nat) (h : L[i]? = some (p, .tup xs)) : TyX K H (.ref p) (.type "tuple") := .base (.tup (k.at i h))
/-! ### pairs of ints -/
def ptD (q : Int × Int) : PyData := .tuple [.int q.1, .int q.2]
def ptsD (pts : List (Int × Int)) : PyData := .list (pts.map ptD)
theorem dp_pair {K : PySem.W.Frag} {H : Hp} {v : V} {q : Int × Int} (h : Dp K H v (ptD q)) : ∃ t, v = .ref t ∧ SqT K H t [.int q.1, .int q.2] := by
  obtain ⟨a, vs, e, h1, h2⟩ := Dp.tuple h
  cases h2 with
  | cons x1 r =>
    cases r with
    | cons x2 r =>
      cases r
      cases x1
      cases x2
      exact ⟨a, e, h1⟩
theorem pair_dp {K : PySem.W.Frag} {H : Hp} {t : Addr} {x y : Int} (h : SqT K H t [.int x, .int y]) : Dp K H (.ref t) (ptD (x, y)) := .tup h (.cons (.int _) (.cons (.int _) .nil))
theorem rd_gtupT {K : PySem.W.Frag} {n : Nat} {gs : TGs} {t : Addr} {xs : List V} {σ : St} {H : Hp} {Q : St → Hp → Prop} (hS : SqT K H t xs) (hn : xs.length = n) (h : gs xs σ H Q) : gTup K n gs (.ref t) σ H Q := ⟨t, xs, rfl, hS, hn, h⟩
theorem inV_ints (y : Int) (l : List Int) : inV (.int y) (l.map V.int) = decide (y ∈ l) := by
  unfold inV
  induction l with
  | nil => simp
  | cons a l ih =>
    rw [List.map_cons, List.any_cons, ih]
    by_cases h : a = y
    · subst h; simp [eqV]
    · have : eqV (.int a) (.int y) = false := by simp [eqV, h]
      rw [this]
      simp [h, Ne.symm h, eq_comm]
theorem flat_ints (l : List Int) : (l.map V.int).all flatV = true := by
  rw [List.all_eq_true]
  intro v hv
  obtain ⟨i, _, rfl⟩ := List.mem_map.mp hv
  rfl
theorem in_ints {K : PySem.W.Frag} {H : Hp} {Q : VK} {y : Int} {p : Addr} {l : List Int} (hS : SqL K H p (l.map V.int)) (h : Q (.bl (decide (y ∈ l))) H) : rIn K false (.int y) (.ref p) H Q := by
  refine ⟨p, _, rfl, .inl hS, rfl, flat_ints l, ?_⟩
  show Q (.bl (if false = true then _ else inV (.int y) (l.map V.int))) H
  rw [if_neg Bool.false_ne_true, inV_ints]; exact h
section
variable {K : PySem.W.Frag} {H0 H : Hp} {M : List Addr} {L : List Cell} {F : List Fact} {p t : Addr} {o : HO}
theorem not_mem_erase {α : Type} {l : List α} (nd : l.Nodup) {i : Nat} {x : α} (h : l[i]? = some x) : x ∉ l.eraseIdx i := by
  rw [List.mem_eraseIdx_iff_getElem?]
  rintro ⟨j, hj, e⟩
  exact hj (nd_ix nd e h)
theorem map_erase {α β : Type} (f : α → β) : ∀ (l : List α) (i : Nat), (l.eraseIdx i).map f = (l.map f).eraseIdx i
  | [], i => by simp
  | a :: l, 0 => rfl
  | a :: l, i + 1 => by simp [map_erase f l i]
/-- a cell let go: it may be data from now on -/
theorem Kn.out (k : Kn K H0 M H L F) (i : Nat) (h : L[i]? = some (p, o)) : Kn K H0 M H (L.eraseIdx i) F ∧ hide H (L.eraseIdx i) p = some o := by
  refine ⟨k.erase i, ?_⟩
  rw [hide_out]
  · exact k.at i h
  · rw [map_erase]
    exact not_mem_erase k.nd (by rw [List.getElem?_map, h]; rfl)
theorem Kn.sayAt (k : Kn K H0 M H L F) (j : Nat) {f : Fact} (h : DpAll K (hide H L) f.1 f.2) : Kn K H0 M H L (F.set j f) := ⟨k.cell, k.nd, k.own, k.fr, fun g hg => by
  rcases List.mem_or_eq_of_mem_set hg with z | z
  · exact k.fact g z
  · subst z; exact h⟩
/-- a new pair goes to the items of a list -/
theorem Kn.pairI (k : Kn K H0 M H L F) (i j : Nat) {x y : Int} {vs : List V} {pts : List (Int × Int)} (h : L[i]? = some (t, .tup [.int x, .int y])) (hj : F[j]? = some (vs, pts.map ptD)) : Kn K H0 M H (L.eraseIdx i) (F.set j (vs ++ [.ref t], (pts ++ [(x, y)]).map ptD)) := by
  obtain ⟨k1, e⟩ := k.out i h
  refine k1.sayAt j ?_
  show DpAll K _ (vs ++ [.ref t]) ((pts ++ [(x, y)]).map ptD)
  rw [List.map_append]
  exact DpAll.append (k1.dpsZ j hj) (.cons (pair_dp (.inl (.inl e))) .nil)
theorem DpAll.take : ∀ (n : Nat) {vs : List V} {ds : List PyData}, DpAll K H vs ds → DpAll K H (vs.take n) (ds.take n)
  | 0, _, _, _ => .nil
  | _ + 1, _, _, .nil => .nil
  | n + 1, _, _, .cons h r => .cons h (DpAll.take n r)
theorem DpAll.drop : ∀ (n : Nat) {vs : List V} {ds : List PyData}, DpAll K H vs ds → DpAll K H (vs.drop n) (ds.drop n)
  | 0, _, _, h => h
  | _ + 1, _, _, .nil => .nil
  | n + 1, _, _, .cons _ r => DpAll.drop n r
theorem okd_pts (pts : List (Int × Int)) : Okd 2 (ptsD pts) := okd_list fun d hd => by
  obtain ⟨q, _, rfl⟩ := List.mem_map.mp hd
  refine okd_tuple fun e he => ?_
  rcases List.mem_cons.mp he with rfl | he
  · exact okd_int 0 _
  · obtain rfl := List.mem_singleton.mp he; exact okd_int 0 _
theorem ix_tup0 {Q : VK} {x y : V} (h : SqT K H t [x, y]) (q : Q x H) : rIxT K (.ref t) (.int 0) H Q := ⟨t, _, 0, x, rfl, rfl, h, rfl, q⟩
theorem ix_tup1 {Q : VK} {x y : V} (h : SqT K H t [x, y]) (q : Q y H) : rIxT K (.ref t) (.int 1) H Q := ⟨t, _, 1, y, rfl, rfl, h, rfl, q⟩
end
theorem sq_pair {K : PySem.W.Frag} {H : Hp} {t : Addr} {q : Int × Int} (h : Dp K H (.ref t) (ptD q)) : SqT K H t [.int q.1, .int q.2] := by
  obtain ⟨t2, e, h⟩ := dp_pair h
  cases e; exact h
def rInsert : V → List V → Hp → VK → Prop := fun x vs H Q => ∃ (l : Addr) (xs : List V) (i : Int) (y : V), x = .ref l ∧ vs = [.int i, y] ∧ H l = some (.lst xs) ∧ xs.length < sizeLine ∧ 0 ≤ i ∧ i < 2 ^ 63 ∧
  Q .non (upd H l (.lst (xs.take i.toNat ++ [y] ++ xs.drop i.toNat)))
theorem ins_cell {K : PySem.W.Frag} {H0 H : Hp} {M : List Addr} {L : List Cell} {F : List Fact} {Q : VK} {p : Addr} {xs : List V} {y : V} {n : Int} (i : Nat) (k : Kn K H0 M H L F) (h : L[i]? = some (p, .lst xs)) (hl : xs.length < sizeLine) (h0 : 0 ≤ n) (h1 : n < 1000000000) (q : Q .non (upd H p (.lst (xs.take n.toNat ++ [y] ++ xs.drop n.toNat)))) : rInsert (.ref p) [.int n, y] H Q :=
  ⟨p, xs, n, y, rfl, rfl, k.at i h, hl, h0, by omega, q⟩
/-- a new pair put among the items of a list -/
theorem Kn.pairN {K : PySem.W.Frag} {H0 H : Hp} {M : List Addr} {L : List Cell} {F : List Fact} {t : Addr} (k : Kn K H0 M H L F) (i j n : Nat) {x y : Int} {vs : List V} {pts : List (Int × Int)} (h : L[i]? = some (t, .tup [.int x, .int y])) (hj : F[j]? = some (vs, pts.map ptD)) : Kn K H0 M H (L.eraseIdx i) (F.set j (vs.take n ++ [.ref t] ++ vs.drop n, (pts.take n ++ [(x, y)] ++ pts.drop n).map ptD)) := by
  obtain ⟨k1, e⟩ := k.out i h
  refine k1.sayAt j ?_
  show DpAll K _ (vs.take n ++ [.ref t] ++ vs.drop n) ((pts.take n ++ [(x, y)] ++ pts.drop n).map ptD)
  rw [List.map_append, List.map_append, List.map_take, List.map_drop]
  exact DpAll.append (DpAll.append (DpAll.take _ (k1.dpsZ j hj)) (.cons (pair_dp (.inl (.inl e))) .nil)) (DpAll.drop _ (k1.dpsZ j hj))
end Pp

namespace Fp
theorem base : ∀ a < 256, a = 0 ∨ a ^ 65520 % 65521 = 1 := by decide +kernel
theorem nodiv : ∀ d < 256, d < 2 ∨ 65521 % d ≠ 0 := by decide +kernel
theorem sq_mod {p x r : Nat} (e : p = x + r) : x ^ 2 % p = r ^ 2 % p := by
  have h : x ^ 2 + r * p = r ^ 2 + x * p := by subst e; grind
  have h1 : (x ^ 2 + r * p) % p = x ^ 2 % p := Nat.add_mul_mod_self_right ..
  have h2 : (r ^ 2 + x * p) % p = r ^ 2 % p := Nat.add_mul_mod_self_right ..
  rw [← h1, ← h2, h]
theorem pow_even {p x r : Nat} (k : Nat) (e : p = x + r) : x ^ (2 * k) % p = r ^ (2 * k) % p := by
  rw [Nat.pow_mul, Nat.pow_mul, Nat.pow_mod (x ^ 2), sq_mod e, ← Nat.pow_mod]
/-- Fermat, by descent: 65521 = a q + r -/
theorem step {a q r e p : Nat} (h : p = a * q + r) (k : Nat) (he : e = 2 * k) (f1 : q ^ e % p = 1) (f2 : r ^ e % p = 1) : a ^ e % p = 1 := by
  have g := pow_even k h
  rw [← he, f2, Nat.mul_pow, Nat.mul_mod, f1, Nat.mul_one, Nat.mod_mod] at g
  exact g
theorem fermat (a : Nat) : a < 65521 → a ≠ 0 → a ^ 65520 % 65521 = 1 := by
  induction a using Nat.strongRecOn with
  | ind a ih =>
    intro ha h0
    by_cases hs : a < 256
    · exact (base a hs).resolve_left h0
    · have e : 65521 = a * (65521 / a) + 65521 % a := (Nat.div_add_mod 65521 a).symm
      have hr : 65521 % a < a := Nat.mod_lt _ (by omega)
      have hq1 : 1 ≤ 65521 / a := (Nat.le_div_iff_mul_le (by omega)).mpr (by omega)
      have hq : 65521 / a < 256 := by
        refine Nat.div_lt_of_lt_mul ?_
        omega
      have hr0 : 65521 % a ≠ 0 := by
        intro z
        rw [z, Nat.add_zero] at e
        have h2 : ¬ (65521 / a < 2) := by
          intro h2
          have : 65521 / a = 1 := by omega
          rw [this] at e; omega
        have h3 := (nodiv (65521 / a) hq).resolve_left h2
        exact h3 (Nat.mod_eq_zero_of_dvd ⟨a, by rw [Nat.mul_comm]; exact e⟩)
      have f1 := ih (65521 / a) (by omega) (by omega) (by omega)
      have f2 := ih (65521 % a) hr (by omega) hr0
      exact step e 32760 (by decide) f1 f2

/-- the field's inverse, as the program reckons it -/
@[irreducible] def inv (a : Int) : Int := (((a % 65521).toNat ^ 65519 % 65521 : Nat) : Int)
theorem inv_def (a e : Int) (he : e = 65519) : (if e = 0 then 1 else (((a % 65521).toNat ^ e.toNat % 65521 : Nat) : Int)) = inv a := by
  have h : e.toNat = 65519 := by rw [he]; decide
  rw [if_neg (by omega), h]
  unfold inv
  exact Eq.refl _
theorem inv_lt (a : Int) : inv a < 65521 := by unfold inv; omega
theorem inv_nn (a : Int) : 0 ≤ inv a := by unfold inv; omega
theorem inv_mul {a : Int} (h : a % 65521 ≠ 0) : a * inv a % 65521 = 1 := by
  have f := fermat (a % 65521).toNat (by omega) (by omega)
  have e : a = (((a % 65521).toNat : Nat) : Int) + 65521 * (a / 65521) := by omega
  unfold inv
  generalize (a % 65521).toNat = n at *
  have h1 : ∀ k, n ^ (k + 1) = n ^ k * n := fun k => Nat.pow_succ n k
  have h2 : n ^ 65520 = n ^ 65519 * n := h1 65519
  rw [h2] at f
  generalize n ^ 65519 = m at *
  generalize a / 65521 = d at *
  have g : n * (m % 65521) % 65521 = 1 := by rw [← f, Nat.mul_comm m n, Nat.mul_mod n m, Nat.mul_mod n (m % 65521), Nat.mod_mod]
  generalize m % 65521 = x at *
  have e2 : a * (x : Int) = ((n * x : Nat) : Int) + 65521 * (d * x) := by rw [e]; push_cast; grind
  rw [e2]
  omega
theorem inv_pos {a : Int} (h : a % 65521 ≠ 0) : 1 ≤ inv a := by
  have h1 := inv_mul h
  have h2 := inv_nn a
  by_cases z : inv a = 0
  · rw [z, Int.mul_zero] at h1; exact absurd h1 (by decide)
  · omega
theorem inv_congr {a b : Int} (h : a % 65521 = b % 65521) : inv a = inv b := by unfold inv; rw [h]
/-- one turn of square and multiply -/
theorem turn_odd {f b e n : Nat} (ho : e % 2 = 1) : (f * b % n) * (b * b % n) ^ (e / 2) % n = f * b ^ e % n := by
  have he : e = 2 * (e / 2) + 1 := by omega
  have : b ^ e = b * (b * b) ^ (e / 2) := by
    conv => lhs; rw [he]
    rw [Nat.pow_succ, Nat.pow_mul, Nat.mul_comm, Nat.pow_two]
  rw [this, Nat.mul_mod, Nat.mod_mod, ← Nat.pow_mod, ← Nat.mul_mod, Nat.mul_assoc]
theorem turn_even {f b e n : Nat} (ho : e % 2 = 0) : f * (b * b % n) ^ (e / 2) % n = f * b ^ e % n := by
  have he : e = 2 * (e / 2) := by omega
  have : b ^ e = (b * b) ^ (e / 2) := by
    conv => lhs; rw [he]
    rw [Nat.pow_mul, Nat.pow_two]
  rw [this, Nat.mul_mod, ← Nat.pow_mod, ← Nat.mul_mod]
end Fp

namespace Po
/-- the value, over the integers -/
def ev : List Int → Int → Int
  | [], _ => 0
  | a :: r, x => a + x * ev r x
theorem ev_nil (x : Int) : ev [] x = 0 := rfl
theorem ev_cons (a : Int) (r : List Int) (x : Int) : ev (a :: r) x = a + x * ev r x := rfl
theorem ev_append (f g : List Int) (x : Int) : ev (f ++ g) x = ev f x + x ^ f.length * ev g x := by
  induction f with
  | nil => simp [ev]
  | cons a f ih => simp only [List.cons_append, ev, ih, List.length_cons, Int.pow_succ]; grind
theorem ev_replicate (n : Nat) (x : Int) : ev (List.replicate n 0) x = 0 := by
  induction n with
  | zero => rfl
  | succ n ih => simp [List.replicate_succ, ev, ih]
theorem ev_set {f : List Int} {k : Nat} {y z : Int} (h : f[k]? = some y) (x : Int) : ev (f.set k (y + z)) x = ev f x + z * x ^ k := by
  induction f generalizing k with
  | nil => simp at h
  | cons a f ih =>
    cases k with
    | zero => simp at h; subst h; simp [ev]; grind
    | succ k =>
      have h' : f[k]? = some y := by simpa using h
      simp only [List.set_cons_succ, ev, ih h', Int.pow_succ]; grind
/-- the sum, place by place -/
def add (f g : List Int) : List Int := List.zipWith (· + ·) (f ++ List.replicate (max f.length g.length - f.length) 0) (g ++ List.replicate (max f.length g.length - g.length) 0)
theorem ev_zip : ∀ (f g : List Int), f.length = g.length → ∀ x, ev (List.zipWith (· + ·) f g) x = ev f x + ev g x
  | [], [], _, x => rfl
  | a :: f, b :: g, h, x => by
    have ih := ev_zip f g (by simpa using h) x
    simp only [List.zipWith_cons_cons, ev, ih]; grind
theorem ev_add (f g : List Int) (x : Int) : ev (add f g) x = ev f x + ev g x := by
  unfold add
  rw [ev_zip _ _ (by simp; omega), ev_append, ev_append, ev_replicate, ev_replicate]; simp
theorem add_length (f g : List Int) : (add f g).length = max f.length g.length := by unfold add; simp; omega
/-- zeros at the end are dropped -/
def strip : List Int → List Int
  | [] => []
  | a :: r => if strip r = [] then (if a = 0 then [] else [a]) else a :: strip r
def red (ns : List Int) : List Int := strip (ns.map (· % 65521))
theorem strip_length (ns : List Int) : (strip ns).length ≤ ns.length := by
  induction ns with
  | nil => exact Nat.le_refl _
  | cons a r ih => simp only [strip]; split <;> (try split) <;> simp <;> omega
theorem strip_mem {ns : List Int} {x : Int} (h : x ∈ strip ns) : x ∈ ns := by
  induction ns with
  | nil => exact h
  | cons a r ih =>
    simp only [strip] at h
    split at h
    · split at h
      · cases h
      · simp at h; simp [h]
    · rcases List.mem_cons.mp h with e | e
      · simp [e]
      · exact List.mem_cons_of_mem _ (ih e)
theorem ev_strip (ns : List Int) (x : Int) : ev (strip ns) x = ev ns x := by
  induction ns with
  | nil => rfl
  | cons a r ih =>
    simp only [strip]
    split
    · rename_i h
      rw [h] at ih
      split
      · rename_i h2; simp only [ev] at ih ⊢; rw [← ih, h2]; simp
      · simp only [ev] at ih ⊢; rw [← ih]
    · simp only [ev, ih]
theorem ev_mod (ns : List Int) (x : Int) : ev (ns.map (· % 65521)) x % 65521 = ev ns x % 65521 := by
  induction ns with
  | nil => rfl
  | cons a r ih =>
    simp only [List.map_cons, ev]
    rw [Int.add_emod, Int.mul_emod, ih, ← Int.mul_emod, Int.emod_emod, ← Int.add_emod]
theorem ev_red (ns : List Int) (x : Int) : ev (red ns) x % 65521 = ev ns x % 65521 := by unfold red; rw [ev_strip, ev_mod]
theorem strip_last (ns : List Int) : strip ns = [] ∨ ∃ y, (strip ns)[(strip ns).length - 1]? = some y ∧ y ≠ 0 := by
  induction ns with
  | nil => exact .inl rfl
  | cons a r ih =>
    simp only [strip]
    split
    · split
      · exact .inl rfl
      · rename_i h; exact .inr ⟨a, rfl, h⟩
    · rename_i h
      rcases ih with z | ⟨y, h1, h2⟩
      · exact absurd z h
      · refine .inr ⟨y, ?_, h2⟩
        have hl : 0 < (strip r).length := List.length_pos_iff.mpr h
        rw [List.length_cons, Nat.add_sub_cancel, show (strip r).length = ((strip r).length - 1) + 1 by omega, List.getElem?_cons_succ]
        exact h1
theorem strip_snoc (ns : List Int) (a : Int) : strip (ns ++ [a]) = if a = 0 then strip ns else ns ++ [a] := by
  induction ns with
  | nil => simp [strip]
  | cons b r ih =>
    simp only [List.cons_append, strip, ih]
    by_cases h : a = 0
    · simp [h]
    · simp [h]
/-- a list whose last item is not 0 -/
theorem strip_id {ns : List Int} (h : ns = [] ∨ ∃ y, ns[ns.length - 1]? = some y ∧ y ≠ 0) : strip ns = ns := by
  rcases List.eq_nil_or_concat ns with e | ⟨l, a, e⟩
  · subst e; rfl
  · subst e
    rw [List.concat_eq_append, strip_snoc]
    rcases h with h | ⟨y, h, hy⟩
    · simp at h
    · rw [List.concat_eq_append] at h
      simp at h
      rw [if_neg (by rw [h]; exact hy)]
theorem strip_drop {ns : List Int} (h : ns[ns.length - 1]? = some 0) : strip ns.dropLast = strip ns := by
  rcases List.eq_nil_or_concat ns with e | ⟨l, a, e⟩
  · subst e; rfl
  · subst e
    rw [List.concat_eq_append] at *
    simp at h
    rw [strip_snoc, if_pos h, List.dropLast_concat]
def Words (ns : List Int) : Prop := ∀ y ∈ ns, 0 ≤ y ∧ y < 65521
theorem red_words (ns : List Int) : Words (red ns) := fun y hy => by
  obtain ⟨z, _, rfl⟩ := List.mem_map.mp (strip_mem hy)
  omega
/-- normal form -/
def Nf (ns : List Int) : Prop := Words ns ∧ (ns = [] ∨ ∃ y, ns[ns.length - 1]? = some y ∧ y ≠ 0)
theorem red_nf (ns : List Int) : Nf (red ns) := ⟨red_words ns, strip_last _⟩
theorem red_length (ns : List Int) : (red ns).length ≤ ns.length := by unfold red; refine Nat.le_trans (strip_length _) (by simp)
theorem strip_zeros (n : Nat) : strip (List.replicate n 0) = [] := by
  induction n with
  | zero => rfl
  | succ n ih => simp [List.replicate_succ, strip, ih]
theorem red_zeros (n : Nat) : red (List.replicate n 0) = [] := by unfold red; rw [List.map_replicate]; exact strip_zeros n
theorem prime_mul {a b : Int} (ha : a % 65521 ≠ 0) (hb : b % 65521 ≠ 0) : a * b % 65521 ≠ 0 := by
  intro h
  have h1 := Fp.inv_mul ha
  have e : (a * Fp.inv a) * b = (a * b) * Fp.inv a := by grind
  have h2 : (a * Fp.inv a) * b % 65521 = 0 := by rw [e, Int.mul_emod, h]; simp
  rw [Int.mul_emod, h1, Int.one_mul, Int.emod_emod] at h2
  exact hb h2
/-- a product's list: the top entry 0, the one below it the product of the leading ones -/
theorem red_top {fs : List Int} {n : Nat} {c : Int} (hl : fs.length = n + 2) (h0 : fs[n + 1]? = some 0) (h1 : fs[n]? = some c) (hc : c % 65521 ≠ 0) : (red fs).length = n + 1 := by
  rcases List.eq_nil_or_concat fs with e | ⟨l, a, e⟩
  · subst e; simp at hl
  · rw [List.concat_eq_append] at e
    subst e
    have hl2 : l.length = n + 1 := by simpa using hl
    have ha : a = 0 := by
      rw [List.getElem?_append_right (by omega), hl2] at h0; simpa using h0
    subst ha
    unfold red
    rw [List.map_append, show ([0] : List Int).map (· % 65521) = [0] from rfl, strip_snoc, if_pos rfl, strip_id]
    · simp [hl2]
    · refine .inr ⟨c % 65521, ?_, hc⟩
      rw [List.getElem?_append_left (by omega)] at h1
      rw [List.length_map, hl2, Nat.add_sub_cancel, List.getElem?_map, h1]; rfl
/-- one step of Horner's rule from the back -/
theorem horner {ns : List Int} {x t : Int} {i : Nat} {w : Int} (hi : i < ns.length) (hw : ns[ns.length - 1 - i]? = some w) (ht : t = ev (ns.drop (ns.length - i)) x % 65521) : (t * x + w) % 65521 = ev (ns.drop (ns.length - (i + 1))) x % 65521 := by
  have e : ns.drop (ns.length - (i + 1)) = w :: ns.drop (ns.length - i) := by
    have h1 : ns.length - (i + 1) = ns.length - 1 - i := by omega
    have hlt : ns.length - 1 - i < ns.length := by omega
    rw [h1, List.drop_eq_getElem_cons hlt]
    congr 1
    · rw [List.getElem?_eq_getElem hlt] at hw; exact Option.some.inj hw
    · congr 1; omega
  rw [e, ev, ht, Int.add_emod, Int.mul_emod, Int.emod_emod, ← Int.mul_emod, ← Int.add_emod]
  congr 1; grind
theorem ev_take {g : List Int} {j : Nat} {b : Int} (h : g[j]? = some b) (x : Int) : ev (g.take (j + 1)) x = ev (g.take j) x + b * x ^ j := by
  have hl : j < g.length := (List.getElem?_eq_some_iff.mp h).1
  have e : g[j] = b := by rw [List.getElem?_eq_getElem hl] at h; exact Option.some.inj h
  rw [List.take_succ_eq_append_getElem hl, ev_append, e, List.length_take, Nat.min_eq_left (by omega)]
  simp only [ev]; grind
/-- what the double loop of the product keeps: behind i rows -/
structure Row (f g fs : List Int) (i : Nat) : Prop where
  len : fs.length = f.length + g.length
  val : ∀ x, ev fs x = ev (f.take i) x * ev g x
  zer : ∀ m, i + g.length ≤ m + 1 → m < f.length + g.length → fs[m]? = some 0
  lead : ∀ c d, f[i - 1]? = some c → g[g.length - 1]? = some d → 0 < i → fs[i - 1 + (g.length - 1)]? = some (c * d)
  nul : i = 0 ∨ g.length = 0 → fs = List.replicate (f.length + g.length) 0
/-- .. within row i, behind j products -/
structure Cel (f g fs : List Int) (i : Nat) (a : Int) (j : Nat) : Prop where
  len : fs.length = f.length + g.length
  val : ∀ x, ev fs x = ev (f.take i) x * ev g x + a * x ^ i * ev (g.take j) x
  zer : ∀ m, i + g.length ≤ m → m < f.length + g.length → fs[m]? = some 0
  lead : ∀ d, g[g.length - 1]? = some d → fs[i + (g.length - 1)]? = some (if j = g.length then a * d else 0)
  nul : g.length = 0 → fs = List.replicate (f.length + g.length) 0
theorem Row.start (f g : List Int) : Row f g (List.replicate (f.length + g.length) 0) 0 where
  len := by simp
  val := fun x => by rw [ev_replicate]; simp [ev]
  zer := fun m _ h => by rw [List.getElem?_replicate, if_pos h]
  lead := fun _ _ _ _ h => absurd h (by omega)
  nul := fun _ => rfl
theorem Row.cel {f g fs : List Int} {i : Nat} {a : Int} (R : Row f g fs i) (hi : i < f.length) : Cel f g fs i a 0 where
  len := R.len
  val := fun x => by rw [R.val]; simp [ev]
  zer := fun m h1 h2 => R.zer m (by omega) h2
  lead := fun d hd => by
    have hl : g.length - 1 < g.length := (List.getElem?_eq_some_iff.mp hd).1
    rw [if_neg (by omega)]
    exact R.zer _ (by omega) (by omega)
  nul := fun h => R.nul (.inr h)
theorem Cel.turn {f g fs : List Int} {i j : Nat} {a b y : Int} (C : Cel f g fs i a j) (hi : i < f.length) (hb : g[j]? = some b) (hy : fs[i + j]? = some y) : Cel f g (fs.set (i + j) (y + a * b)) i a (j + 1) := by
  have hj : j < g.length := (List.getElem?_eq_some_iff.mp hb).1
  refine ⟨by rw [List.length_set]; exact C.len, fun x => ?_, fun m h1 h2 => ?_, fun d hd => ?_, fun h => absurd h (by omega)⟩
  · rw [ev_set hy, C.val, ev_take hb, Int.pow_add]; grind
  · rw [List.getElem?_set_ne (by omega)]; exact C.zer m h1 h2
  · have l := C.lead d hd
    rw [if_neg (by omega)] at l
    by_cases e : j + 1 = g.length
    · have e2 : i + j = i + (g.length - 1) := by omega
      rw [if_pos e, ← e2, List.getElem?_set_self (by rw [C.len]; omega)]
      rw [← e2, hy] at l
      have e3 : g.length - 1 = j := by omega
      rw [e3, hb] at hd
      cases hd
      cases l
      simp
    · rw [if_neg e, List.getElem?_set_ne (by omega)]; exact l
theorem Cel.row {f g fs : List Int} {i : Nat} {a : Int} (C : Cel f g fs i a g.length) (ha : f[i]? = some a) : Row f g fs (i + 1) where
  len := C.len
  val := fun x => by rw [C.val, ev_take ha, List.take_length]; grind
  zer := fun m h1 h2 => C.zer m (by omega) h2
  lead := fun c d hc hd _ => by
    rw [Nat.add_sub_cancel, ha] at hc
    cases hc
    have := C.lead d hd
    rw [if_pos rfl] at this
    exact this
  nul := fun h => C.nul (by omega)
theorem Row.fin {f g fs : List Int} (R : Row f g fs f.length) : fs.length = f.length + g.length ∧ (∀ x, ev fs x = ev f x * ev g x) ∧ (f.length = 0 ∨ g.length = 0 → red fs = []) ∧ (∀ c d, f[f.length - 1]? = some c → g[g.length - 1]? = some d → c % 65521 ≠ 0 → d % 65521 ≠ 0 → (red fs).length = f.length + g.length - 1) := by
  refine ⟨R.len, fun x => by rw [R.val, List.take_length], fun h => by rw [R.nul h, red_zeros], fun c d hc hd c0 d0 => ?_⟩
  have h1 : f.length - 1 < f.length := (List.getElem?_eq_some_iff.mp hc).1
  have h2 : g.length - 1 < g.length := (List.getElem?_eq_some_iff.mp hd).1
  have l := R.lead c d hc hd (by omega)
  have z := R.zer (f.length + g.length - 1) (by omega) (by omega)
  have := red_top (fs := fs) (n := f.length + g.length - 2) (c := c * d) (by rw [R.len]; omega) (by rw [← z]; congr 1; omega) (by rw [← l]; congr 1; omega) (prime_mul c0 d0)
  omega
/-! ### roots -/
/-- synthetic division by x - x0: the quotient, the rest -/
def sd (x0 : Int) : List Int → List Int × Int
  | [] => ([], 0)
  | [a] => ([], a)
  | a :: r => ((sd x0 r).2 :: (sd x0 r).1, a + x0 * (sd x0 r).2)
theorem sd_ev (x0 : Int) : ∀ (f : List Int) (x : Int), ev f x = (x - x0) * ev (sd x0 f).1 x + (sd x0 f).2
  | [], x => by simp [sd, ev]
  | [a], x => by simp [sd, ev]
  | a :: b :: r, x => by
    have ih := sd_ev x0 (b :: r) x
    show a + x * ev (b :: r) x = _
    rw [ih]
    simp only [sd, ev]; grind
theorem sd_len (x0 : Int) : ∀ f : List Int, (sd x0 f).1.length = f.length - 1
  | [] => rfl
  | [a] => rfl
  | a :: b :: r => by
    have ih := sd_len x0 (b :: r)
    show ((sd x0 (b :: r)).1).length + 1 = _
    rw [ih]; simp
theorem sd_zero (x0 : Int) : ∀ f : List Int, (∀ c ∈ (sd x0 f).1, c % 65521 = 0) → (sd x0 f).2 % 65521 = 0 → ∀ c ∈ f, c % 65521 = 0
  | [], _, _ => fun _ h => (nomatch h)
  | [a], _, h => fun c hc => by obtain rfl := List.mem_singleton.mp hc; exact h
  | a :: b :: r, h1, h2 => by
    have e1 : (sd x0 (b :: r)).2 % 65521 = 0 := h1 _ (by simp [sd])
    have ih := sd_zero x0 (b :: r) (fun c hc => h1 c (by simp [sd]; right; exact hc)) e1
    intro c hc
    rcases List.mem_cons.mp hc with rfl | hc
    · have h3 : (c + x0 * (sd x0 (b :: r)).2) % 65521 = 0 := h2
      rw [Int.add_emod, Int.mul_emod, e1] at h3
      simpa using h3
    · exact ih c hc
/-- a polynomial with as many roots as coefficients is 0 -/
theorem roots : ∀ (xs : List Int) (f : List Int), f.length ≤ xs.length → xs.Pairwise (fun x y => (x - y) % 65521 ≠ 0) → (∀ x ∈ xs, ev f x % 65521 = 0) → ∀ c ∈ f, c % 65521 = 0
  | [], f, h, _, _ => by
    have : f = [] := List.eq_nil_of_length_eq_zero (by simpa using h)
    subst this; exact fun _ h => (nomatch h)
  | x0 :: xs, f, h, hp, hr => by
    obtain ⟨hp1, hp2⟩ := List.pairwise_cons.mp hp
    have e0 : (sd x0 f).2 % 65521 = 0 := by
      have h1 := hr x0 List.mem_cons_self
      rw [sd_ev x0 f x0] at h1
      simpa using h1
    refine sd_zero x0 f (roots xs (sd x0 f).1 (by rw [sd_len]; simp at h; omega) hp2 fun x hx => ?_) e0
    have h1 := hr x (List.mem_cons_of_mem _ hx)
    rw [sd_ev x0 f x, Int.add_emod, e0, Int.add_zero, Int.emod_emod] at h1
    refine Classical.byContradiction fun h2 => ?_
    exact prime_mul (a := x - x0) (fun z => hp1 x hx (by omega)) h2 h1
def neg (f : List Int) : List Int := f.map (- ·)
theorem ev_neg (f : List Int) (x : Int) : ev (neg f) x = - ev f x := by
  induction f with
  | nil => rfl
  | cons a r ih => simp only [neg, List.map_cons, ev] at *; rw [ih]; grind
theorem neg_length (f : List Int) : (neg f).length = f.length := by simp [neg]
def pad (f : List Int) (n : Nat) : List Int := f ++ List.replicate (n - f.length) 0
theorem strip_pad (f : List Int) (n : Nat) : strip (pad f n) = strip f := by
  unfold pad
  generalize n - f.length = m
  induction f with
  | nil => simp [strip, strip_zeros]
  | cons a r ih => simp only [List.cons_append, strip, ih]
theorem zip_zero : ∀ (f g : List Int), f.length = g.length → Words f → Words g → (∀ c ∈ List.zipWith (· + ·) f (neg g), c % 65521 = 0) → f = g
  | [], [], _, _, _, _ => rfl
  | a :: f, b :: g, hl, hf, hg, h => by
    have ih := zip_zero f g (by simpa using hl) (fun y hy => hf y (List.mem_cons_of_mem _ hy)) (fun y hy => hg y (List.mem_cons_of_mem _ hy)) (fun c hc => h c (by simp only [neg, List.map_cons, List.zipWith_cons_cons, List.mem_cons]; right; exact hc))
    have h1 : (a + -b) % 65521 = 0 := h _ (by simp [neg])
    have ha := hf a List.mem_cons_self
    have hb := hg b List.mem_cons_self
    have : a = b := by omega
    rw [this, ih]
theorem pad_words {f : List Int} (h : Words f) (n : Nat) : Words (pad f n) := fun y hy => by
  rcases List.mem_append.mp hy with z | z
  · exact h y z
  · obtain ⟨_, rfl⟩ := List.mem_replicate.mp z; decide
theorem neg_pad (g : List Int) (n : Nat) : neg (pad g n) = pad (neg g) n := by simp [neg, pad]
/-- two polynomials in normal form that agree at enough places are one -/
theorem unique {f g xs : List Int} (hf : Nf f) (hg : Nf g) (h1 : f.length ≤ xs.length) (h2 : g.length ≤ xs.length) (hp : xs.Pairwise (fun x y => (x - y) % 65521 ≠ 0)) (h : ∀ x ∈ xs, ev f x % 65521 = ev g x % 65521) : f = g := by
  have e : ∀ c ∈ add f (neg g), c % 65521 = 0 := by
    refine roots xs _ (by rw [add_length, neg_length]; omega) hp fun x hx => ?_
    rw [ev_add, ev_neg]
    have := h x hx; omega
  unfold add at e
  rw [neg_length] at e
  have e2 : pad f (max f.length g.length) = pad g (max f.length g.length) := by
    refine zip_zero _ _ (by simp [pad]; omega) (pad_words hf.1 _) (pad_words hg.1 _) ?_
    rw [neg_pad]
    unfold pad
    rw [neg_length]
    exact e
  have e3 := congrArg strip e2
  rw [strip_pad, strip_pad, strip_id hf.2, strip_id hg.2] at e3
  exact e3
/-- the first n places -/
def places (n : Nat) : List Int := (List.range n).map fun (i : Nat) => (i : Int)
theorem places_len (n : Nat) : (places n).length = n := by simp [places]
theorem places_apart {n : Nat} (h : n ≤ 65521) : (places n).Pairwise (fun x y => (x - y) % 65521 ≠ 0) := by
  unfold places
  rw [List.pairwise_map]
  refine List.Pairwise.imp_of_mem ?_ List.pairwise_lt_range
  intro a b ha hb hab
  have := List.mem_range.mp ha
  have := List.mem_range.mp hb
  omega
theorem unique_all {f g : List Int} (hf : Nf f) (hg : Nf g) (h1 : f.length ≤ 60000) (h2 : g.length ≤ 60000) (h : ∀ x, ev f x % 65521 = ev g x % 65521) : f = g :=
  unique (xs := places 60000) hf hg (by rw [places_len]; exact h1) (by rw [places_len]; exact h2) (places_apart (by decide)) fun x _ => h x
/-! ### division -/
/-- c places are still to come -/
structure Div (f g qs rs : List Int) (n c : Nat) : Prop where
  lq : qs.length = n
  lr : rs.length = f.length
  val : ∀ x, (ev qs x * ev g x + ev rs x) % 65521 = ev f x % 65521
  zer : ∀ m, c + g.length ≤ m + 1 → m < f.length → rs[m]? = some 0
  qz : ∀ m, m < c → qs[m]? = some 0
structure DivI (g rs0 rs : List Int) (place : Nat) (factor : Int) (j : Nat) : Prop where
  lr : rs.length = rs0.length
  val : ∀ x, ev rs x % 65521 = (ev rs0 x - factor * x ^ place * ev (g.take j) x) % 65521
  keep : ∀ m, place + j ≤ m → rs[m]? = rs0[m]?
  last : j = g.length → 0 < g.length → rs[place + g.length - 1]? = some 0
theorem Div.start {f g : List Int} {n : Nat} (h : n + g.length = f.length + 1 ∨ n = 0 ∧ f.length < g.length) : Div f g (List.replicate n 0) f n n where
  lq := by simp
  lr := rfl
  val := fun x => by rw [ev_replicate]; simp
  zer := fun m h1 h2 => by omega
  qz := fun m hm => by rw [List.getElem?_replicate, if_pos hm]
theorem DivI.start {g rs0 : List Int} {place : Nat} {factor : Int} : DivI g rs0 rs0 place factor 0 where
  lr := rfl
  val := fun x => by simp [ev]
  keep := fun _ _ => rfl
  last := fun h1 h2 => by omega
theorem DivI.turn {g rs0 rs : List Int} {place j : Nat} {y lead b c z : Int} (D : DivI g rs0 rs place (y * lead % 65521) j) (hb : g[j]? = some b) (hz : rs[place + j]? = some z) (hc : g[g.length - 1]? = some c) (hl : c * lead % 65521 = 1) (hy : rs0[place + g.length - 1]? = some y) :
    DivI g rs0 (rs.set (place + j) ((z - (y * lead % 65521) * b) % 65521)) place (y * lead % 65521) (j + 1) := by
  have hj : j < g.length := (List.getElem?_eq_some_iff.mp hb).1
  have hp : place + j < rs.length := (List.getElem?_eq_some_iff.mp hz).1
  refine ⟨by rw [List.length_set]; exact D.lr, fun x => ?_, fun m h1 => ?_, fun h1 h2 => ?_⟩
  · have e : (z - (y * lead % 65521) * b) % 65521 = z + ((z - (y * lead % 65521) * b) % 65521 - z) := by omega
    rw [e, ev_set hz, ev_take hb]
    have v := D.val x
    generalize y * lead % 65521 = fa at *
    have e2 : ∃ t, (z - fa * b) % 65521 - z = - (fa * b) + 65521 * t := ⟨-((z - fa * b) / 65521), by omega⟩
    obtain ⟨t, e2⟩ := e2
    rw [e2]
    have e3 : ev rs x + (-(fa * b) + 65521 * t) * x ^ (place + j) = (ev rs x - fa * b * x ^ (place + j)) + 65521 * (t * x ^ (place + j)) := by grind
    have e4 : ev rs0 x - fa * x ^ place * (ev (g.take j) x + b * x ^ j) = (ev rs0 x - fa * x ^ place * ev (g.take j) x) - fa * b * x ^ (place + j) := by rw [Int.pow_add]; grind
    rw [e3, e4, Int.add_mul_emod_self_left, Int.sub_emod, v, ← Int.sub_emod]
  · rw [List.getElem?_set_ne (by omega)]; exact D.keep m (by omega)
  · have e : place + g.length - 1 = place + j := by omega
    have e2 : g.length - 1 = j := by omega
    rw [e, List.getElem?_set_self hp]
    rw [e2, hb] at hc
    cases hc
    rw [e, ← D.keep _ (by omega), hz] at hy
    obtain rfl : z = y := Option.some.inj hy
    congr 1
    have h3 : (z - z * lead % 65521 * b) % 65521 = (z - z * (b * lead)) % 65521 := by
      rw [Int.sub_emod, Int.mul_emod (z * lead % 65521), Int.emod_emod, ← Int.mul_emod, ← Int.sub_emod]
      congr 1; grind
    rw [h3, Int.sub_emod, Int.mul_emod, hl]
    simp
theorem Div.turn {f g qs rs rs' : List Int} {n c : Nat} {fa : Int} (D : Div f g qs rs n (c + 1)) (hn : n + g.length = f.length + 1) (I : DivI g rs rs' c fa g.length) (hg : 0 < g.length) : Div f g (qs.set c fa) rs' n c := by
  have hq := D.qz c (by omega)
  refine ⟨by rw [List.length_set]; exact D.lq, by rw [I.lr]; exact D.lr, fun x => ?_, fun m h1 h2 => ?_, fun m hm => ?_⟩
  · have e := ev_set (z := fa) hq x
    rw [Int.zero_add] at e
    have v := I.val x
    rw [List.take_length] at v
    rw [e, Int.add_emod, v, ← Int.add_emod, ← D.val x]
    congr 1; grind
  · by_cases h : m = c + g.length - 1
    · rw [h]; exact I.last rfl hg
    · rw [I.keep m (by omega)]; exact D.zer m (by omega) h2
  · rw [List.getElem?_set_ne (by omega)]; exact D.qz m (by omega)
theorem strip_short : ∀ (rs : List Int) (k : Nat), (∀ m, k ≤ m → m < rs.length → rs[m]? = some 0) → (strip rs).length ≤ k
  | [], k, _ => Nat.zero_le _
  | a :: r, 0, h => by
    have ih := strip_short r 0 (fun m _ h2 => by
      have := h (m + 1) (by omega) (by simp; omega)
      simpa using this)
    have h0 : a = 0 := by have := h 0 (by omega) (by simp); simpa using this
    have e : strip r = [] := List.eq_nil_of_length_eq_zero (by omega)
    simp [strip, e, h0]
  | a :: r, k + 1, h => by
    have ih := strip_short r k (fun m h1 h2 => by
      have := h (m + 1) (by omega) (by simp; omega)
      simpa using this)
    simp only [strip]
    split
    · split <;> simp
    · simp; omega
theorem red_short {rs : List Int} {k : Nat} (h : ∀ m, k ≤ m → m < rs.length → rs[m]? = some 0) : (red rs).length ≤ k := by
  unfold red
  refine strip_short _ k fun m h1 h2 => ?_
  rw [List.length_map] at h2
  rw [List.getElem?_map, h m h1 h2]; rfl
theorem ev_set_mod {f : List Int} {k : Nat} {y d : Int} (h : f[k]? = some y) (x : Int) : ev (f.set k ((y + d) % 65521)) x % 65521 = (ev f x + d * x ^ k) % 65521 := by
  have e : (y + d) % 65521 = y + (d + 65521 * (-((y + d) / 65521))) := by omega
  rw [e, ev_set h]
  have e2 : ev f x + (d + 65521 * -((y + d) / 65521)) * x ^ k = (ev f x + d * x ^ k) + 65521 * (-((y + d) / 65521) * x ^ k) := by grind
  rw [e2, Int.add_mul_emod_self_left]
theorem words_set {f : List Int} {k : Nat} {z : Int} (h : Words f) : Words (f.set k (z % 65521)) := fun y hy => by
  rcases List.mem_or_eq_of_mem_set hy with h1 | h1
  · exact h y h1
  · omega
theorem mod_add {a b c n : Int} (h : a % n = b % n) : (a + c) % n = (b + c) % n := by rw [Int.add_emod, h, ← Int.add_emod]
theorem words_strip {f : List Int} (h : Words f) : Words (strip f) := fun y hy => h y (strip_mem hy)
theorem words_zeros (n : Nat) : Words (List.replicate n 0) := fun y hy => by
  obtain ⟨_, rfl⟩ := List.mem_replicate.mp hy; decide
end Po

set_option maxHeartbeats 400000
namespace Pp
open PySem PySem.Spec PyProof.Rows L2
/-! ### enumerate(xs, start=k) -/
def IteS (K : PySem.W.Frag) (a : Addr) (c : Int) : It :=
  ⟨fun i H => ∃ (xs : List V) (x : V), SqL K H a xs ∧ xs[i]? = some x, fun i H v H' => ∃ T x, v = .ref T ∧ H T = none ∧ H' = upd H T (.tup [.int (c + (i : Nat)), x]) ∧ ∀ xs, SqL K H a xs → xs[i]? = some x, fun i H => ∃ xs : List V, SqL K H a xs ∧ xs.length = i⟩
theorem turn_enumS {P : Program} {w : World} {K : PySem.W.Frag} {elts : List Expr} {kk : Nat} {tpos : Pos} (a e it : Addr) (c : Int) :
    Turn P w K (.Tuple elts kk tpos) (IteS K a c) [e, it] e (fun i h => (∃ old, IsEnum h e it (c + ((i : Nat) : Int)) old) ∧ h.IsListIter it a i ∧ e ≠ it ∧ a ≠ it ∧ a ≠ e) where
  mem := by simp
  obj := fun i h st b hb => by
    obtain ⟨⟨old, he⟩, ⟨o, ho, hc, hd⟩, _⟩ := st
    have e' : b = e ∨ b = it := by simpa using hb
    rcases e' with z | z
    · rw [z]; exact ⟨_, he, fun v q => (nomatch q)⟩
    · rw [z]; exact ⟨o, ho, fun v q => by rw [hd] at q; cases q⟩
  keep := fun i h h' st k => let ⟨⟨old, he⟩, hi, hne⟩ := st; ⟨⟨old, k e (by simp) _ he⟩, hi.at fun o q => k it (by simp) o q, hne⟩
  item := by
    intro X hP hw hK hc i pins s σ H E I hf st hg
    subst hP hw hK
    obtain ⟨⟨old, he⟩, hit, hne, hai, hae⟩ := st
    obtain ⟨xs, x, hq, hx⟩ := hg
    obtain ⟨its, rv, p, hz⟩ := I.list hq
    obtain ⟨u, hu, ru⟩ := rv.get hx
    have hel : e < s.heap.objs.size := Heap.lt_size he
    have hil : it < s.heap.objs.size := by obtain ⟨_, q, _⟩ := hit; exact Heap.lt_size q
    have hlt : i < its.toArray.size := by have := (List.getElem?_eq_some_iff.mp hu).1; simpa using this
    refine wpAny_pyNext_enum_itemC (Draws.list (A := X.A.in1) (by exact (I.ok.hd hc)) it a hai its.toArray) he ⟨hit, p.isList⟩ hlt hne (by simp [hne, Ne.symm hae]) fun x' h' tk hP' ho hst' hT hsz hk => ?_
    have ex : x' = u := by
      have h1 : its[i]? = some x' := by simpa using hP'
      rw [hu] at h1; exact (Option.some.inj h1).symm
    subst ex
    obtain ⟨hit', _⟩ := hst'
    refine ⟨_, rfl, wpAny_letOwnedTupleGo_enum (s := { s with heap := h', toks := tk + 1 }) ho fun h'' he' sb => ?_⟩
    have hT2 : h''.get? s.heap.objs.size = some { cls := .type "tuple", data := .seq #[.int (c + (i : Nat)) tk, x'] } := (sb.2 _ (Nat.ne_of_gt hel)).trans hT
    have new : ObjOk X.prog X.w (upd H s.heap.objs.size (.tup [.int (c + (i : Nat)), x])) h'' s.heap.objs.size (.tup [.int (c + (i : Nat)), x]) :=
      ⟨by show 2 ≤ sizeLine; decide, [.int (c + (i : Nat)) tk, x'], .cons ⟨_, rfl⟩ (.cons ru .nil), ⟨_, hT2, rfl, _, rfl⟩⟩
    have I1 : Inv X pins σ (upd H s.heap.objs.size (.tup [.int (c + (i : Nat)), x])) { s with heap := h'', toks := tk + 1 } :=
      I.turnedNew (ch := [e, it]) (fun b ob hb q => (sb.2 b (fun z => hb (by simp [z]))).trans (hk b ob (fun z => hb (by simp [z])) (fun z => hb (by simp [z])) q)) hf (Nat.le_refl _) new
    refine ⟨.ref s.heap.objs.size, _, I1, rfl, ⟨_, x, rfl, I.hok.fresh (Nat.le_refl _), rfl, fun ys hy => by rw [I.list_inj hy hq]; exact hx⟩, ⟨⟨x', ?_⟩, hit'.at fun o q => (sb.2 it (Ne.symm hne)).trans q, hne, hai, hae⟩, fun b hb => ?_⟩
    · have e1 : c + ((i + 1 : Nat) : Int) = c + (i : Int) + 1 := by omega
      rw [e1]; exact he'
    · have hb' : b < s.heap.objs.size := by
        have e' : b = e ∨ b = it := by simpa using hb
        rcases e' with z | z
        · rw [z]; exact hel
        · rw [z]; exact hil
      rw [upd_ne (Nat.ne_of_lt hb')]
      exact (hf b hb).1
  done := by
    intro X hP hw hK hc i pins s σ H E I hf st hg
    subst hP hw hK
    obtain ⟨⟨old, he⟩, hit, hne, hai, hae⟩ := st
    obtain ⟨xs, hq, hx⟩ := hg
    obtain ⟨its, rv, p, hz⟩ := I.list hq
    obtain ⟨f0, f1, f2, f3, f4, f5⟩ := hf it (by simp)
    have hl := rv.length
    have e1 : i = its.toArray.size := by simp; omega
    subst e1
    exact wpAny_pyNext_enum_endD (Draws.list (A := X.A.in1) (by exact (I.ok.hd hc)) it a hai its.toArray) he ⟨hit, p.isList⟩ fun h' eb => ⟨rfl, I.turned (t' := s.toks) (fun b o hb q => eb b o hb q) f0 f1 f3 f4 f5⟩
  self := fun A i s Q E st h => let ⟨⟨_, he⟩, _⟩ := st; wpAny_pyIter_enum he h
section
variable {M : Model} {A : Around} {env : Env} {E : Value → Shared → Prop} {s : Shared}
theorem callWith_type_kwB {pos : Pos} {id : String} {first : List Value} {args : List (Bool × Sem Value)} {keywords : List (Option Str × Sem Value)} {Q : Value → Shared → Prop}
    (hplain : args.any (·.1) = false) (hkw : keywords.any (·.1.isNone) = false)
    (h : wpAny M A (evalArgs (.type id) true args keywords) (fun a s₁ => wpAny M A (call (.type id) (first ++ a.pos) a.kw) Q E s₁) E s) :
    wpAny M A (callWith pos (.type id) first args keywords) Q E s := by
  unfold callWith
  refine wpAny_bind (wpAny_holding (wpAny_mono h (fun a s₁ h₁ => wpAny_bind (wpAny_standAt ?_)) fun _ _ x => x))
  simp only [hplain, hkw, Bool.or_false]
  refine wpAny_bind (wpAny_pure ?_)
  exact wpAny_bind (wpAny_mono h₁ (fun r s₂ hr => wpAny_bind (wpAny_holding (wpAny_point (wpAny_pure hr)))) fun _ _ x => x)
theorem callWith_kwT {pos : Pos} {id : String} {e : Expr} {rest : List Expr} {kws : List Keyword} {Q : Value → Shared → Prop}
    (h : wpAny M A (spliced (backTo pos (starEach (e :: rest) env))) (fun vs s₁ => wpAny M A (evalAll ((backToKw pos (keywordEach kws env)).map (·.2)))
      (fun kvs s₂ => wpAny M A (call (.type id) vs (((backToKw pos (keywordEach kws env)).filterMap (·.1)).zip kvs)) Q E s₂) E s₁) E s)
    (he : backTo pos (starEach (e :: rest) env) = (false, eval e env) :: backTo pos (starEach rest env) := by rfl)
    (hplain : (backTo pos (starEach (e :: rest) env)).any (·.1) = false := by rfl)
    (hall : (backToKw pos (keywordEach kws env)).all (·.1.isSome) = true := by rfl)
    (hkw : (backToKw pos (keywordEach kws env)).any (·.1.isNone) = false := by rfl) :
    wpAny M A (callWith pos (.type id) [] (backTo pos (starEach (e :: rest) env)) (backToKw pos (keywordEach kws env))) Q E s := by
  refine callWith_type_kwB hplain hkw ?_
  rw [he] at h ⊢
  exact evalArgs_kwB hall h
end
def iEnumS (K : PySem.W.Frag) (c : Int) (ta : TA) : TI := fun σ H R => ta σ H fun vs H1 => ∃ a xs, vs = [.ref a] ∧ SqL K H1 a xs ∧ R (IteS K a c) H1
theorem pi_enumS {X : Cx} {e : Expr} {ta : TA} {p pos tpos kpos p2 : Pos} {elts : List Expr} {kk j : Nat} {c : Int} (hg : Gl X "enumerate") (hm : X.mg "enumerate" = none) (ha : PA X [e] ta) (hs : starEach [e] X.env = [(false, eval e X.env)] := by rfl)
    (h0 : -(2 ^ 63) ≤ c) (h1 : c < 2 ^ 63) :
    PI X (.Tuple elts kk tpos) (.Call (.Name "enumerate" p) [e] [⟨some (Str.ofString "start"), .Constant (.int c) j p2, kpos⟩] pos) (iEnumS X.K c ta) := by
  refine ⟨fun pins s σ H R I h => ?_⟩
  have hk : PK X [⟨some "start", .Constant (.int c) j p2, kpos⟩] (tCons (tC (.int c)) tNil) := pk_cons pe_int pk_nil
  refine wpAny_Call_Name_kw (ld_blt I hg hm boot_enumerate ?_)
  refine callWith_kwT (thn (ha.run pos pins s σ H _ I h) fun us s0 ⟨vs, H1, I0, r1, q1⟩ => thn (hk.run pos pins s0 σ H1 (fun zs H2 => zs = [.int c] ∧ H2 = H1) I0 ⟨rfl, rfl⟩) fun ws s1 ⟨zs, H2, I1, r2, ez, eH⟩ => ?_) (by rw [hs] <;> rfl) (by rw [hs] <;> rfl) rfl rfl
  subst ez eH
  obtain ⟨a, xs, ex, hq, q⟩ := q1
  subst ex
  cases r1 with
  | cons r rr =>
    cases rr
    cases r
    cases r2 with
    | cons rz rzz =>
      cases rzz
      obtain ⟨t, rfl⟩ := rz
      obtain ⟨its, rv, p', hz⟩ := I1.list hq
      refine enum_begins_start (k := c) (t := t) (begins_list a its.toArray) p'.isList h0 h1 fun h' he hit hsz hk => wpAny_pyIter_enum he ?_
      have I2 : Inv X pins σ H2 { s1 with heap := h' } := I1.kept (t' := s1.toks) hk
      have hal : a < s1.heap.objs.size := by obtain ⟨o, ho, _⟩ := p'.isList; exact Heap.lt_size ho
      refine ⟨s1.heap.objs.size + 1, [s1.heap.objs.size + 1, s1.heap.objs.size], _, _, H2, rfl, I2, turn_enumS a (s1.heap.objs.size + 1) s1.heap.objs.size c, ⟨⟨.none, by rw [Int.natCast_zero, Int.add_zero]; exact he⟩, ⟨_, hit, rfl, rfl⟩, Nat.succ_ne_self _, Nat.ne_of_lt hal, Nat.ne_of_lt (Nat.lt_succ_of_lt hal)⟩, fun b hb => ?_, q⟩
      have e' : b = s1.heap.objs.size + 1 ∨ b = s1.heap.objs.size := by simpa using hb
      have hle : s1.heap.objs.size ≤ b := by
        rcases e' with z | z
        · rw [z]; exact Nat.le_add_right _ _
        · rw [z]; exact Nat.le_refl _
      exact I1.fpOk hle (I1.hok.fresh hle)
theorem rd_iES {K : PySem.W.Frag} {c : Int} {R : It → Hp → Prop} {ta : TA} {σ : L2.St} {H : Hp} (h : ta σ H fun vs H1 => ∃ a xs, vs = [.ref a] ∧ SqL K H1 a xs ∧ R (IteS K a c) H1) : iEnumS K c ta σ H R := h
theorem lw_ES {K : PySem.W.Frag} {a : Addr} {c : Int} {xs : List V} {g : TG} {te : TE} {vs : List Nat} {σ : L2.St} {Q : VK} {H1 : Hp} (zs : List V) (hS : SqL K H1 a xs) (hl : zs.length = xs.length) (hz : xs.length < sizeLine)
    (hs : ∀ (R : VK) (i : Nat) (x z : V) (T : Addr) (H : Hp), xs[i]? = some x → zs[i]? = some z → Le H1 H → H T = none → (∀ H4, Le (upd H T (.tup [.int (c + (i : Nat)), x])) H4 → R z H4) → g (.ref T) (wipe σ vs) (upd H T (.tup [.int (c + (i : Nat)), x])) fun σ2 H2 => wipe σ2 vs = wipe σ vs ∧ te σ2 H2 R)
    (q : ∀ D H, H1 D = none → Le H1 H → H D = some (.lst zs) → Q (.ref D) H) : LW (IteS K a c) g tYes te vs σ Q H1 :=
  lw_map zs (by omega) (fun i H hi le => ⟨xs, xs[i]'(by omega), sqL_le le hS, by simp⟩) (fun H le => ⟨xs, sqL_le le hS, hl.symm⟩)
    (fun i H x H' y => by obtain ⟨T, x1, rfl, hT, rfl, _⟩ := y; exact le_new hT)
    (fun R i z H x H' hz le y k => by
      obtain ⟨T, x1, rfl, hT, rfl, hx⟩ := y
      exact hs R i x1 z T H (hx xs (sqL_le le hS)) hz le hT k) q
end Pp

namespace Sl
open Po
/-- the words times their places -/
def wl (ws : List Int) : List Int := ws.mapIdx fun i w => (1 + (i : Int)) * w
def s1 (ws : List Int) : Int := ws.sum % 65521
def s2 (ws : List Int) : Int := (wl ws).sum % 65521
def head (kind disk row ep se : Int) : List Int := [kind, disk, row, ep, se / 65521, se % 65521]
def due (kind disk row ep se : Int) (pl : List Int) : List Int := (head kind disk row ep se ++ pl) ++ [s1 (head kind disk row ep se ++ pl), s2 (head kind disk row ep se ++ pl)]
theorem wl_len (ws : List Int) : (wl ws).length = ws.length := by simp [wl]
theorem wl_get {ws : List Int} {i : Nat} {w : Int} (h : ws[i]? = some w) : (wl ws)[i]? = some ((1 + (i : Int)) * w) := by simp [wl, List.getElem?_mapIdx, h]
theorem sum_take {ws : List Int} {i : Nat} {w : Int} (h : ws[i]? = some w) : (ws.take (i + 1)).sum = (ws.take i).sum + w := by
  rw [List.take_add_one, h, List.sum_append]; simp
theorem s1_take {ws : List Int} {i : Nat} {w : Int} (h : ws[i]? = some w) : ((ws.take i).sum % 65521 + w) % 65521 = (ws.take (i + 1)).sum % 65521 := by rw [sum_take h]; omega
theorem s2_take {ws : List Int} {i : Nat} {w : Int} (h : ws[i]? = some w) : (((wl ws).take i).sum % 65521 + (0 + (i : Int) + 1) * w) % 65521 = ((wl ws).take (i + 1)).sum % 65521 := by
  rw [sum_take (wl_get h), show 0 + (i : Int) + 1 = 1 + (i : Int) by omega]; omega
theorem s1_range (ws : List Int) : 0 ≤ s1 ws ∧ s1 ws < 65521 := by unfold s1; omega
theorem s2_range (ws : List Int) : 0 ≤ s2 ws ∧ s2 ws < 65521 := by unfold s2; omega
/-- within the bounds -/
def Ok (kind disk row ep se : Int) : Prop := (1 ≤ kind ∧ kind ≤ 3) ∧ (0 ≤ disk ∧ disk < 8) ∧ (0 ≤ row ∧ row < 4000) ∧ (0 ≤ ep ∧ ep < 65521) ∧ 0 ≤ se ∧ se < 4293001441
theorem words_append {a b : List Int} (ha : Words a) (hb : Words b) : Words (a ++ b) := fun y hy => (List.mem_append.mp hy).elim (ha y) (hb y)
theorem head_words {kind disk row ep se : Int} (h : Ok kind disk row ep se) : Words (head kind disk row ep se) := by
  obtain ⟨⟨a, b⟩, ⟨c, d⟩, ⟨e, f⟩, ⟨g, i⟩, j, l⟩ := h
  intro y hy
  simp only [head, List.mem_cons, List.not_mem_nil, or_false] at hy
  rcases hy with rfl | rfl | rfl | rfl | rfl | rfl <;> omega
theorem sums_words (ws : List Int) : Words [s1 ws, s2 ws] := by
  intro y hy
  simp only [List.mem_cons, List.not_mem_nil, or_false] at hy
  rcases hy with rfl | rfl
  · exact s1_range ws
  · exact s2_range ws
theorem due_words {kind disk row ep se : Int} {pl : List Int} (h : Ok kind disk row ep se) (hp : Words pl) : Words (due kind disk row ep se pl) := words_append (words_append (head_words h) hp) (sums_words _)
theorem due_len (kind disk row ep se : Int) (pl : List Int) : (due kind disk row ep se pl).length = pl.length + 8 := by simp [due, head]
theorem due_take (kind disk row ep se : Int) (pl : List Int) : (due kind disk row ep se pl).take (((due kind disk row ep se pl).length : Int) - 2).toNat = head kind disk row ep se ++ pl := by
  rw [due_len]
  exact List.take_left' (by simp [head]; omega)
theorem due_drop (kind disk row ep se : Int) (pl : List Int) : (due kind disk row ep se pl).drop (((due kind disk row ep se pl).length : Int) - 2).toNat = [s1 (head kind disk row ep se ++ pl), s2 (head kind disk row ep se ++ pl)] := by
  rw [due_len]
  exact List.drop_left' (by simp [head]; omega)
theorem due_cut (kind disk row ep se : Int) (pl : List Int) : (due kind disk row ep se pl).take ((due kind disk row ep se pl).length - 2) = head kind disk row ep se ++ pl := by
  rw [due_len]
  exact List.take_left' (by simp [head])
theorem due_body (kind disk row ep se : Int) (pl : List Int) : ((due kind disk row ep se pl).take ((due kind disk row ep se pl).length - 2)).drop 6 = pl := by
  rw [due_cut]; rfl
/-- a sector that is whole, for this place -/
def Valid (ws : List Int) (kind disk row : Int) : Prop := 8 ≤ ws.length ∧ ws.length ≤ 1008 ∧ ws[0]? = some kind ∧ ws[1]? = some disk ∧ ws[2]? = some row ∧ Words ws ∧ (1 ≤ kind ∧ kind ≤ 3) ∧ disk < 8 ∧ row < 4000 ∧
  ws[ws.length - 2]? = some (s1 (ws.take (ws.length - 2))) ∧ ws[ws.length - 1]? = some (s2 (ws.take (ws.length - 2)))
theorem due_valid {kind disk row ep se : Int} {pl : List Int} (h : Ok kind disk row ep se) (hp : Words pl) (hl : pl.length ≤ 1000) : Valid (due kind disk row ep se pl) kind disk row := by
  have e := due_len kind disk row ep se pl
  refine ⟨by omega, by omega, rfl, rfl, rfl, due_words h hp, h.1, h.2.1.2, h.2.2.1.2, ?_, ?_⟩
  · rw [due_cut, due_len]
    unfold due
    rw [List.getElem?_append_right (by simp [head])]
    simp [head]
  · rw [due_cut, due_len]
    unfold due
    rw [List.getElem?_append_right (by simp [head])]
    simp [head]
end Sl

namespace Sl
open Po
/-- a linear form of the words -/
def dot (u : Nat → Int) : List Int → Nat → Int
  | [], _ => 0
  | w :: r, i => u i * w + dot u r (i + 1)
theorem dot_set (u : Nat → Int) {z y : Int} : ∀ (ws : List Int) (s k : Nat), ws[k]? = some y → dot u (ws.set k z) s = dot u ws s + u (s + k) * (z - y)
  | [], s, k, h => by simp at h
  | w :: r, s, 0, h => by
    simp at h; subst h
    simp only [List.set_cons_zero, dot, Nat.add_zero]; grind
  | w :: r, s, k + 1, h => by
    have ih := dot_set u (z := z) r (s + 1) k (by simpa using h)
    simp only [List.set_cons_succ, dot, ih]
    rw [show s + 1 + k = s + (k + 1) by omega]; grind
theorem dot_append (u : Nat → Int) : ∀ (a b : List Int) (s : Nat), dot u (a ++ b) s = dot u a s + dot u b (s + a.length)
  | [], b, s => by simp [dot]
  | w :: r, b, s => by
    have ih := dot_append u r b (s + 1)
    simp only [List.cons_append, dot, ih, List.length_cons]
    rw [show s + 1 + r.length = s + (r.length + 1) by omega]; grind
theorem dot_congr {u v : Nat → Int} : ∀ (a : List Int) (s : Nat), (∀ i, s ≤ i → i < s + a.length → u i = v i) → dot u a s = dot v a s
  | [], s, _ => rfl
  | w :: r, s, h => by
    have ih := dot_congr r (s + 1) fun i h1 h2 => h i (by omega) (by simp; omega)
    simp only [dot, ih]
    rw [h s (Nat.le_refl _) (by simp)]
theorem dot_one : ∀ (a : List Int) (s : Nat), dot (fun _ => 1) a s = a.sum
  | [], s => rfl
  | w :: r, s => by simp [dot, dot_one r (s + 1)]
theorem dot_wl (a : List Int) : dot (fun i => 1 + (i : Int)) a 0 = (wl a).sum := by
  suffices h : ∀ (a : List Int) (s : Nat), dot (fun i => 1 + (i : Int)) a s = (a.mapIdx fun i w => (1 + ((i + s : Nat) : Int)) * w).sum by
    have := h a 0
    rw [this]; rfl
  intro a
  induction a with
  | nil => intro s; rfl
  | cons w r ih =>
    intro s
    simp only [dot, ih, List.mapIdx_cons, List.sum_cons]
    congr 1
    · simp
    · congr 2
      funext i w
      rw [show i + (s + 1) = i + 1 + s by omega]
def ca (n i : Nat) : Int := if i + 2 < n then 1 else if i + 2 = n then -1 else 0
def cb (n i : Nat) : Int := if i + 2 < n then 1 + (i : Int) else if i + 2 = n then 0 else -1
theorem cut2 {ws : List Int} {x y : Int} (h : 2 ≤ ws.length) (hx : ws[ws.length - 2]? = some x) (hy : ws[ws.length - 1]? = some y) : ws = ws.take (ws.length - 2) ++ [x, y] := by
  have e1 : ws.drop (ws.length - 2) = [x, y] := by
    have h1 : ws.length - 2 < ws.length := by omega
    have h2 : ws.length - 1 < ws.length := by omega
    rw [List.drop_eq_getElem_cons h1, show ws.length - 2 + 1 = ws.length - 1 by omega, List.drop_eq_getElem_cons h2, List.drop_eq_nil_of_le (by omega)]
    rw [List.getElem?_eq_getElem h1] at hx
    rw [List.getElem?_eq_getElem h2] at hy
    rw [Option.some.inj hx, Option.some.inj hy]
  conv => lhs; rw [← List.take_append_drop (ws.length - 2) ws, e1]
theorem valid_a {ws : List Int} {k d r : Int} (V : Valid ws k d r) : dot (ca ws.length) ws 0 % 65521 = 0 ∧ dot (cb ws.length) ws 0 % 65521 = 0 := by
  obtain ⟨l0, l1, _, _, _, hw, _, _, _, h1, h2⟩ := V
  have e := cut2 (by omega) h1 h2
  have lt : (ws.take (ws.length - 2)).length = ws.length - 2 := by rw [List.length_take]; omega
  have z : ∀ u : Nat → Int, dot u ws 0 = dot u (ws.take (ws.length - 2)) 0 + (u (ws.length - 2) * s1 (ws.take (ws.length - 2)) + u (ws.length - 1) * s2 (ws.take (ws.length - 2))) := fun u => by
    conv => lhs; rw [e]
    rw [dot_append, lt]
    simp only [dot, Nat.zero_add]
    rw [show ws.length - 2 + 1 = ws.length - 1 by omega]; grind
  refine ⟨?_, ?_⟩
  · rw [z, dot_congr (v := fun _ => 1) _ _ (fun i _ hi => by unfold ca; rw [if_pos (by omega)]), dot_one]
    have c1 : ca ws.length (ws.length - 2) = -1 := by unfold ca; rw [if_neg (by omega), if_pos (by omega)]
    have c2 : ca ws.length (ws.length - 1) = 0 := by unfold ca; rw [if_neg (by omega), if_neg (by omega)]
    rw [c1, c2]; unfold s1; omega
  · rw [z, dot_congr (v := fun i => 1 + (i : Int)) _ _ (fun i _ hi => by unfold cb; rw [if_pos (by omega)]), dot_wl]
    have c1 : cb ws.length (ws.length - 2) = 0 := by unfold cb; rw [if_neg (by omega), if_pos (by omega)]
    have c2 : cb ws.length (ws.length - 1) = -1 := by unfold cb; rw [if_neg (by omega), if_neg (by omega)]
    rw [c1, c2]; unfold s2; omega
theorem det {n i j : Nat} (hn : n ≤ 1008) (hi : i < n) (hj : j < n) (h : i ≠ j) : (ca n i * cb n j - ca n j * cb n i) % 65521 ≠ 0 := by
  unfold ca cb
  split <;> split <;> (try split) <;> (try split) <;> omega
/-- two changed words are found -/
theorem two {ws : List Int} {k d r k' d' r' : Int} (V : Valid ws k d r) {i j : Nat} {x y c o : Int} (h : i ≠ j) (hx : ws[i]? = some x) (hy : ws[j]? = some y) (hc : c % 65521 ≠ 0) : ¬ Valid ((ws.set i ((x + c) % 65521)).set j ((y + o) % 65521)) k' d' r' := by
  intro W
  have hi : i < ws.length := (List.getElem?_eq_some_iff.mp hx).1
  have hj : j < ws.length := (List.getElem?_eq_some_iff.mp hy).1
  obtain ⟨a1, b1⟩ := valid_a V
  obtain ⟨a2, b2⟩ := valid_a W
  rw [List.length_set, List.length_set] at a2 b2
  have hy2 : (ws.set i ((x + c) % 65521))[j]? = some y := by rw [List.getElem?_set_ne h]; exact hy
  rw [dot_set _ _ _ _ hy2, dot_set _ _ _ _ hx, Nat.zero_add, Nat.zero_add] at a2 b2
  have dd := det V.2.1 hi hj h
  generalize ca ws.length i = ai at *
  generalize ca ws.length j = aj at *
  generalize cb ws.length i = bi at *
  generalize cb ws.length j = bj at *
  generalize dot (ca ws.length) ws 0 = A at *
  generalize dot (cb ws.length) ws 0 = B at *
  obtain ⟨s, hs⟩ : ∃ s, (x + c) % 65521 - x = c + 65521 * s := ⟨-((x + c) / 65521), by omega⟩
  obtain ⟨t, ht⟩ : ∃ t, (y + o) % 65521 - y = o + 65521 * t := ⟨-((y + o) / 65521), by omega⟩
  rw [hs, ht] at a2 b2
  have e1 : (ai * c + aj * o) % 65521 = 0 := by
    have : A + ai * (c + 65521 * s) + aj * (o + 65521 * t) = A + (ai * c + aj * o) + 65521 * (ai * s + aj * t) := by grind
    rw [this] at a2; omega
  have e2 : (bi * c + bj * o) % 65521 = 0 := by
    have : B + bi * (c + 65521 * s) + bj * (o + 65521 * t) = B + (bi * c + bj * o) + 65521 * (bi * s + bj * t) := by grind
    rw [this] at b2; omega
  refine prime_mul hc dd ?_
  have e3 : c * (ai * bj - aj * bi) = bj * (ai * c + aj * o) - aj * (bi * c + bj * o) := by grind
  rw [e3, Int.sub_emod, Int.mul_emod, e1, Int.mul_emod aj, e2]
  simp
theorem set_same {ws : List Int} {j : Nat} {y : Int} (hw : Words ws) (hy : ws[j]? = some y) : ws.set j ((y + 0) % 65521) = ws := by
  have := hw y (List.mem_of_getElem? hy)
  have hj : j < ws.length := (List.getElem?_eq_some_iff.mp hy).1
  rw [show (y + 0) % 65521 = y by omega]
  apply List.ext_getElem?
  intro m
  by_cases e : j = m
  · subst e; rw [List.getElem?_set_self hj, hy]
  · rw [List.getElem?_set_ne e]
theorem one {ws : List Int} {k d r k' d' r' : Int} (V : Valid ws k d r) {i : Nat} {x c : Int} (hx : ws[i]? = some x) (hc : c % 65521 ≠ 0) : ¬ Valid (ws.set i ((x + c) % 65521)) k' d' r' := by
  have hi : i < ws.length := (List.getElem?_eq_some_iff.mp hx).1
  have hl := V.1
  obtain ⟨j, hj, hij⟩ : ∃ j, j < ws.length ∧ i ≠ j := by
    by_cases e : i = 0
    · exact ⟨1, by omega, by omega⟩
    · exact ⟨0, by omega, by omega⟩
  have hy : ws[j]? = some ws[j] := List.getElem?_eq_getElem hj
  have W := two (k' := k') (d' := d') (r' := r') V (o := 0) hij hx hy hc
  intro Z
  refine W ?_
  have e : (ws.set i ((x + c) % 65521)).set j ((ws[j] + 0) % 65521) = ws.set i ((x + c) % 65521) := by
    refine set_same Z.2.2.2.2.2.1 ?_
    rw [List.getElem?_set_ne hij]; exact hy
  rw [e]; exact Z
end Sl

set_option hygiene false in
local macro_rules | `(tactic| walk_at "rd1") => `(tactic| first
  | with_reducible refine rd_seqA ?_
  | with_reducible refine rd_seqD ?_
  | with_reducible refine rd_asg ?_
  | ((with_reducible refine rd_name ?_); try dsimp only [List.set])
  | with_reducible refine rd_bl ?_
  | ((with_reducible refine' rd_var ?xx ?_); (case xx => exact rfl))
  | with_reducible refine rd_c ?_
  | with_reducible refine rd_op ?_
  | with_reducible refine rd_test ?_
  | with_reducible refine rd_tB ?_
  | with_reducible refine rd_ifS ?_
  | with_reducible refine rd_cons ?_
  | with_reducible refine rd_nil ?_
  | with_reducible refine rd_I0 ?_
  | with_reducible refine rd_eqI ?_
  | with_reducible refine rd_neI ?_
  | with_reducible refine rd_tt ?_
  | with_reducible refine rd_ff ?_
  | with_reducible refine rd_ntt ?_
  | with_reducible refine rd_nff ?_
  | with_reducible refine rd_CB ?_
  | with_reducible refine rd_call ?_
  | with_reducible refine rd_callS ?_
  | with_reducible refine rd_int1 ?_
  | with_reducible refine rd_abs ?_
  | with_reducible refine rd_ret ?_
  | with_reducible refine rd_retN ?_
  | with_reducible refine rd_next ?_
  | with_reducible refine rd_brk ?_
  | with_reducible refine rd_cont ?_
  | with_reducible refine rd_drop ?_
  | ((with_reducible refine rd_mod ?xx ?_); case xx => first | decide | omega)
  | ((with_reducible refine rd_div ?xx ?yy ?_); (case xx => first | decide | omega); (case yy => first | decide | omega))
  | ((with_reducible refine rd_mulr ?xx ?yy ?_); (case xx => first | decide | omega); (case yy => first | decide | omega))
  | ((with_reducible refine rd_mull ?xx ?yy ?_); (case xx => first | decide | omega); (case yy => first | decide | omega))
  | ((with_reducible refine rd_pow ?xx ?yy ?zz ?_); (case xx => decide); (case yy => decide); (case zz => decide))
  | with_reducible refine rd_un ?_
  | with_reducible refine rd_U ?_
  | with_reducible refine rd_not ?_
  | with_reducible refine rd_and ?_
  | with_reducible refine rd_or ?_
  | with_reducible refine rd_andV ?_
  | with_reducible refine rd_orV ?_
  | with_reducible refine rd_notV ?_
  | with_reducible refine rd_ifE ?_
  | with_reducible refine rd_chain ?_
  | with_reducible refine rd_eqS ?_
  | with_reducible refine rd_neS ?_
  | with_reducible refine rd_eqB ?_
  | with_reducible refine rd_neB ?_
  | with_reducible refine rd_tup ?_
  | with_reducible refine rd_lst ?_
  | with_reducible refine rd_raise ?_
  | with_reducible refine rd_sl ?_
  | with_reducible refine rd_nopart ?_
  | with_reducible refine rd_part ?_
  | with_reducible refine rd_ex ?_
  | with_reducible refine rd_yes ?_
  | with_reducible refine rd_bm0 ?_
  | with_reducible refine rd_bm ?_
  | with_reducible refine rd_truth ?_
  | with_reducible refine rd_max2 ?_
  | with_reducible refine rd_min2 ?_
  | with_reducible refine rd_for ?_
  | with_reducible refine rd_lc ?_
  | with_reducible refine rd_iL ?_
  | with_reducible refine rd_iT ?_
  | with_reducible refine rd_i1 ?_
  | with_reducible refine rd_i2 ?_
  | with_reducible refine rd_i3 ?_
  | with_reducible refine rd_iZ ?_
  | with_reducible refine rd_iE ?_
  | with_reducible refine rd_iR ?_
  | ((with_reducible refine' rd_gtup ?xx ?_); (case xx => exact rfl))
  | with_reducible refine rd_gsub ?_
  | with_reducible refine rd_gcons ?_
  | with_reducible refine rd_gnil ?_
  | with_reducible refine rd_intB ?_)
set_option hygiene false in
local macro_rules | `(tactic| walk_at "rd") => `(tactic| repeat walk_at "rd1")
set_option hygiene false in
local macro_rules | `(tactic| walk_at "ifT") => `(tactic| first | (refine rd_T ?xx ?_; (case xx => first | assumption | omega)) | (refine rd_NT ?xx ?_; (case xx => first | assumption | omega)))
set_option hygiene false in
local macro_rules | `(tactic| walk_at "ifF") => `(tactic| first | (refine rd_F ?xx ?_; (case xx => first | assumption | omega)) | (refine rd_NF ?xx ?_; (case xx => first | assumption | omega)))
set_option hygiene false in
local macro_rules | `(tactic| walk_at "if2") => `(tactic| first | refine rd_ite (fun hc => ?_) (fun hc => ?_) | refine rd_iteN (fun hc => ?_) (fun hc => ?_) | refine rd_iteB (fun hc => ?_) (fun hc => ?_))
set_option hygiene false in
local macro_rules | `(tactic| walk_at "ix") => `(tactic| first
  | (refine' ix_cell 0 k rfl ?xx ?_; (case xx => exact rfl)) | (refine' ix_cell 1 k rfl ?xx ?_; (case xx => exact rfl)) | (refine' ix_cell 2 k rfl ?xx ?_; (case xx => exact rfl)) | (refine' ix_cell 3 k rfl ?xx ?_; (case xx => exact rfl))
  | (refine' ix_cell 4 k rfl ?xx ?_; (case xx => exact rfl)) | (refine' ix_cell 5 k rfl ?xx ?_; (case xx => exact rfl)) | (refine' ix_cell 6 k rfl ?xx ?_; (case xx => exact rfl)) | (refine' ix_cell 7 k rfl ?xx ?_; (case xx => exact rfl)))
set_option hygiene false in
local macro_rules | `(tactic| walk_at "len") => `(tactic| first
  | refine len_cell 0 k rfl ?_ | refine len_cell 1 k rfl ?_ | refine len_cell 2 k rfl ?_ | refine len_cell 3 k rfl ?_ | refine len_cell 4 k rfl ?_ | refine len_cell 5 k rfl ?_
  | refine len_fact 0 k rfl ?_ | refine len_fact 1 k rfl ?_ | refine len_fact 2 k rfl ?_ | refine len_fact 3 k rfl ?_ | refine len_fact 4 k rfl ?_ | refine len_fact 5 k rfl ?_)
set_option hygiene false in
local macro_rules | `(tactic| walk_at "mk") => `(tactic| refine ⟨szl (by simp), fun p np => ?_⟩)
set_option hygiene false in
local macro_rules | `(tactic| walk_at "sq") => `(tactic| with_reducible refine rd_seq ?_)

namespace Law
open PySem PyProof.Rows L2 Pp
def top (i : Nat) : Stmt := PySem.Challenge.pw_paritypool_k15_two_changed_words_are_fou.main.body.getD i (.Pass ⟨0, 0, 0, 0⟩)
abbrev s_check_words : Stmt := top 9
abbrev nm_check_words : List Str := ["words", "weighted", "place", "word"]
theorem sc_check_words : FnScope nm_check_words ["words"] (defScope s_check_words) := ⟨rfl, rfl, rfl, by decide +kernel, rfl, by decide +kernel, by decide +kernel⟩
abbrev s_seal : Stmt := top 10
abbrev nm_seal : List Str := ["kind", "disk", "row", "stamp", "payload", "epoch", "serial", "words", "first", "second"]
theorem sc_seal : FnScope nm_seal ["kind", "disk", "row", "stamp", "payload"] (defScope s_seal) := ⟨rfl, rfl, rfl, by decide +kernel, rfl, by decide +kernel, by decide +kernel⟩
abbrev s_unseal : Stmt := top 11
abbrev nm_unseal : List Str := ["sector", "kind", "disk", "row", "words"]
theorem sc_unseal : FnScope nm_unseal ["sector", "kind", "disk", "row"] (defScope s_unseal) := ⟨rfl, rfl, rfl, by decide +kernel, rfl, by decide +kernel, by decide +kernel⟩
abbrev s__law_pot : Stmt := top 13
abbrev nm__law_pot : List Str := ["_law_script", "_law_seed", "_law_cell"]
theorem sc__law_pot : FnScope nm__law_pot ["_law_script"] (defScope s__law_pot) := ⟨rfl, rfl, rfl, by decide +kernel, rfl, by decide +kernel, by decide +kernel⟩
abbrev s__law_next : Stmt := top 14
abbrev nm__law_next : List Str := ["_law_pot_here", "_law_limit", "_law_cell", "_law_found", "_law_mixed"]
theorem sc__law_next : FnScope nm__law_next ["_law_pot_here", "_law_limit"] (defScope s__law_next) := ⟨rfl, rfl, rfl, by decide +kernel, rfl, by decide +kernel, by decide +kernel⟩
abbrev s__law_word : Stmt := top 15
abbrev nm__law_word : List Str := ["_law_pot_here", "_law_kind"]
theorem sc__law_word : FnScope nm__law_word ["_law_pot_here"] (defScope s__law_word) := ⟨rfl, rfl, rfl, by decide +kernel, rfl, by decide +kernel, by decide +kernel⟩
abbrev s__law_words : Stmt := top 16
abbrev nm__law_words : List Str := ["_law_pot_here", "_law_count", "_law_k"]
theorem sc__law_words : FnScope nm__law_words ["_law_pot_here", "_law_count"] (defScope s__law_words) := ⟨rfl, rfl, rfl, by decide +kernel, rfl, by decide +kernel, by decide +kernel⟩
abbrev s_law : Stmt := top 17
abbrev nm_law : List Str := ["_law_script", "_law_pot_here", "_law_kind", "_law_disk", "_law_row", "_law_count", "_law_stamp", "_law_sector", "_law_first", "_law_second", "_law_change", "_law_changed", "_law_other", "_law_k"]
theorem sc_law : FnScope nm_law ["_law_script"] (defScope s_law) := ⟨rfl, rfl, rfl, by decide +kernel, rfl, by decide +kernel, by decide +kernel⟩
structure Txt (K : PySem.W.Frag) (mg : Str → Option Value) : Type where
  d_check_words : FuncData
  F_check_words : FunD K "check_words" "check_words" (defArgs s_check_words) (defBody s_check_words) (defScope s_check_words) [] [] (He.ga K "check_words") d_check_words
  g_check_words : mg "check_words" = some (.ref (He.ga K "check_words"))
  d_seal : FuncData
  F_seal : FunD K "seal" "seal" (defArgs s_seal) (defBody s_seal) (defScope s_seal) [] [] (He.ga K "seal") d_seal
  g_seal : mg "seal" = some (.ref (He.ga K "seal"))
  d_unseal : FuncData
  F_unseal : FunD K "unseal" "unseal" (defArgs s_unseal) (defBody s_unseal) (defScope s_unseal) [] [] (He.ga K "unseal") d_unseal
  g_unseal : mg "unseal" = some (.ref (He.ga K "unseal"))
  d__law_pot : FuncData
  F__law_pot : FunD K "_law_pot" "_law_pot" (defArgs s__law_pot) (defBody s__law_pot) (defScope s__law_pot) [] [] (He.ga K "_law_pot") d__law_pot
  g__law_pot : mg "_law_pot" = some (.ref (He.ga K "_law_pot"))
  d__law_next : FuncData
  F__law_next : FunD K "_law_next" "_law_next" (defArgs s__law_next) (defBody s__law_next) (defScope s__law_next) [] [] (He.ga K "_law_next") d__law_next
  g__law_next : mg "_law_next" = some (.ref (He.ga K "_law_next"))
  d__law_word : FuncData
  F__law_word : FunD K "_law_word" "_law_word" (defArgs s__law_word) (defBody s__law_word) (defScope s__law_word) [] [] (He.ga K "_law_word") d__law_word
  g__law_word : mg "_law_word" = some (.ref (He.ga K "_law_word"))
  d__law_words : FuncData
  F__law_words : FunD K "_law_words" "_law_words" (defArgs s__law_words) (defBody s__law_words) (defScope s__law_words) [] [] (He.ga K "_law_words") d__law_words
  g__law_words : mg "_law_words" = some (.ref (He.ga K "_law_words"))
  d_law : FuncData
  F_law : FunD K "law" "law" (defArgs s_law) (defBody s_law) (defScope s_law) [] [] (He.ga K "law") d_law
  g_law : mg "law" = some (.ref (He.ga K "law"))
  z_abs : mg "abs" = none
  z_enumerate : mg "enumerate" = none
  z_int : mg "int" = none
  z_len : mg "len" = none
  z_list : mg "list" = none
  z_max : mg "max" = none
  z_min : mg "min" = none
  z_range : mg "range" = none
  z_sum : mg "sum" = none
  c_HEADER : ∃ t, mg "HEADER" = some (.int 6 t)
  c_MAX_DISKS : ∃ t, mg "MAX_DISKS" = some (.int 8 t)
  c_MAX_PAYLOAD : ∃ t, mg "MAX_PAYLOAD" = some (.int 1000 t)
  c_MAX_ROWS : ∃ t, mg "MAX_ROWS" = some (.int 4000 t)
  c_PRIME : ∃ t, mg "PRIME" = some (.int 65521 t)
  g_InvalidArgument : mg "InvalidArgument" = some (.ref (He.ga K "InvalidArgument"))
  x_InvalidArgument : PySem.W.excIn K (He.ga K "InvalidArgument") [.type "ValueError", .type "Exception", .type "BaseException", .type "object"] "ValueError.__new__" = true
  k_InvalidArgument : PySem.W.keepIn K (.ref (He.ga K "InvalidArgument")) = true
  sb_InvalidArgument : PySem.W.subIn K (.ref (He.ga K "InvalidArgument")) (.type "BaseException") = some true
  ty_InvalidArgument : PySem.W.typeIn K (.ref (He.ga K "InvalidArgument")) = some (.type "type")
def fa : List He.Fa := [.glo "check_words", .glo "seal", .glo "unseal", .glo "_law_pot", .glo "_law_next", .glo "_law_word", .glo "_law_words", .glo "law", .free "abs", .free "enumerate", .free "int", .free "len", .free "list", .free "max", .free "min", .free "range", .free "sum", .int "HEADER" 6, .int "MAX_DISKS" 8, .int "MAX_PAYLOAD" 1000, .int "MAX_ROWS" 4000, .int "PRIME" 65521, .glo "InvalidArgument"]
def fn : List He.DefD := [⟨("check_words", none), "check_words", "check_words", defArgs s_check_words, defBody s_check_words, defScope s_check_words, [], []⟩, ⟨("seal", none), "seal", "seal", defArgs s_seal, defBody s_seal, defScope s_seal, [], []⟩, ⟨("unseal", none), "unseal", "unseal", defArgs s_unseal, defBody s_unseal, defScope s_unseal, [], []⟩, ⟨("_law_pot", none), "_law_pot", "_law_pot", defArgs s__law_pot, defBody s__law_pot, defScope s__law_pot, [], []⟩, ⟨("_law_next", none), "_law_next", "_law_next", defArgs s__law_next, defBody s__law_next, defScope s__law_next, [], []⟩, ⟨("_law_word", none), "_law_word", "_law_word", defArgs s__law_word, defBody s__law_word, defScope s__law_word, [], []⟩, ⟨("_law_words", none), "_law_words", "_law_words", defArgs s__law_words, defBody s__law_words, defScope s__law_words, [], []⟩, ⟨("law", none), "law", "law", defArgs s_law, defBody s_law, defScope s_law, [], []⟩]
def ex (K : PySem.W.Frag) : Bool := decide (PySem.W.excIn K (He.ga K "InvalidArgument") [.type "ValueError", .type "Exception", .type "BaseException", .type "object"] "ValueError.__new__" = true) && decide (PySem.W.keepIn K (.ref (He.ga K "InvalidArgument")) = true) && decide (PySem.W.subIn K (.ref (He.ga K "InvalidArgument")) (.type "BaseException") = some true) && decide (PySem.W.typeIn K (.ref (He.ga K "InvalidArgument")) = some (.type "type"))
theorem txt {K : PySem.W.Frag} {mg : Str → Option Value} {h : Heap} {w : World} (X : K.In h) (G : h.Ns mainGlobals mg) (c : He.SaysX fa fn [] [] ex w h K) : Nonempty (Txt K mg) := by
  obtain ⟨d0, e0⟩ := c.t.d.def_ 0 rfl
  obtain ⟨d1, e1⟩ := c.t.d.def_ 1 rfl
  obtain ⟨d2, e2⟩ := c.t.d.def_ 2 rfl
  obtain ⟨d3, e3⟩ := c.t.d.def_ 3 rfl
  obtain ⟨d4, e4⟩ := c.t.d.def_ 4 rfl
  obtain ⟨d5, e5⟩ := c.t.d.def_ 5 rfl
  obtain ⟨d6, e6⟩ := c.t.d.def_ 6 rfl
  obtain ⟨d7, e7⟩ := c.t.d.def_ 7 rfl
  have m := c.more
  unfold ex at m
  simp only [Bool.and_eq_true, decide_eq_true_eq] at m
  obtain ⟨⟨⟨m0, m1⟩, m2⟩, m3⟩ := m
  exact ⟨{ d_check_words := d0, F_check_words := e0, g_check_words := He.glo_ok X G (c.t.d.fact 0 (f := .glo "check_words") rfl), d_seal := d1, F_seal := e1, g_seal := He.glo_ok X G (c.t.d.fact 1 (f := .glo "seal") rfl), d_unseal := d2, F_unseal := e2, g_unseal := He.glo_ok X G (c.t.d.fact 2 (f := .glo "unseal") rfl), d__law_pot := d3, F__law_pot := e3, g__law_pot := He.glo_ok X G (c.t.d.fact 3 (f := .glo "_law_pot") rfl), d__law_next := d4, F__law_next := e4, g__law_next := He.glo_ok X G (c.t.d.fact 4 (f := .glo "_law_next") rfl), d__law_word := d5, F__law_word := e5, g__law_word := He.glo_ok X G (c.t.d.fact 5 (f := .glo "_law_word") rfl), d__law_words := d6, F__law_words := e6, g__law_words := He.glo_ok X G (c.t.d.fact 6 (f := .glo "_law_words") rfl), d_law := d7, F_law := e7, g_law := He.glo_ok X G (c.t.d.fact 7 (f := .glo "law") rfl), z_abs := He.free_ok X G (c.t.d.fact 8 (f := .free "abs") rfl), z_enumerate := He.free_ok X G (c.t.d.fact 9 (f := .free "enumerate") rfl), z_int := He.free_ok X G (c.t.d.fact 10 (f := .free "int") rfl), z_len := He.free_ok X G (c.t.d.fact 11 (f := .free "len") rfl), z_list := He.free_ok X G (c.t.d.fact 12 (f := .free "list") rfl), z_max := He.free_ok X G (c.t.d.fact 13 (f := .free "max") rfl), z_min := He.free_ok X G (c.t.d.fact 14 (f := .free "min") rfl), z_range := He.free_ok X G (c.t.d.fact 15 (f := .free "range") rfl), z_sum := He.free_ok X G (c.t.d.fact 16 (f := .free "sum") rfl), c_HEADER := He.int_ok X G (c.t.d.fact 17 (f := .int "HEADER" 6) rfl), c_MAX_DISKS := He.int_ok X G (c.t.d.fact 18 (f := .int "MAX_DISKS" 8) rfl), c_MAX_PAYLOAD := He.int_ok X G (c.t.d.fact 19 (f := .int "MAX_PAYLOAD" 1000) rfl), c_MAX_ROWS := He.int_ok X G (c.t.d.fact 20 (f := .int "MAX_ROWS" 4000) rfl), c_PRIME := He.int_ok X G (c.t.d.fact 21 (f := .int "PRIME" 65521) rfl), g_InvalidArgument := He.glo_ok X G (c.t.d.fact 22 (f := .glo "InvalidArgument") rfl), x_InvalidArgument := m0, k_InvalidArgument := m1, sb_InvalidArgument := m2, ty_InvalidArgument := m3 }⟩
theorem b_check_words {K : PySem.W.Frag} {mg : Str → Option Value} (T : Txt K mg) : Binds K T.d_check_words ["words"] [] := T.F_check_words.bindsN fun _ _ _ _ _ _ us hl => match us, hl with | [_], _ => rfl
theorem b_seal {K : PySem.W.Frag} {mg : Str → Option Value} (T : Txt K mg) : Binds K T.d_seal ["kind", "disk", "row", "stamp", "payload"] [] := T.F_seal.bindsN fun _ _ _ _ _ _ us hl => match us, hl with | [_, _, _, _, _], _ => rfl
theorem b_unseal {K : PySem.W.Frag} {mg : Str → Option Value} (T : Txt K mg) : Binds K T.d_unseal ["sector", "kind", "disk", "row"] [] := T.F_unseal.bindsN fun _ _ _ _ _ _ us hl => match us, hl with | [_, _, _, _], _ => rfl
theorem b__law_pot {K : PySem.W.Frag} {mg : Str → Option Value} (T : Txt K mg) : Binds K T.d__law_pot ["_law_script"] [] := T.F__law_pot.bindsN fun _ _ _ _ _ _ us hl => match us, hl with | [_], _ => rfl
theorem b__law_next {K : PySem.W.Frag} {mg : Str → Option Value} (T : Txt K mg) : Binds K T.d__law_next ["_law_pot_here", "_law_limit"] [] := T.F__law_next.bindsN fun _ _ _ _ _ _ us hl => match us, hl with | [_, _], _ => rfl
theorem b__law_word {K : PySem.W.Frag} {mg : Str → Option Value} (T : Txt K mg) : Binds K T.d__law_word ["_law_pot_here"] [] := T.F__law_word.bindsN fun _ _ _ _ _ _ us hl => match us, hl with | [_], _ => rfl
theorem b__law_words {K : PySem.W.Frag} {mg : Str → Option Value} (T : Txt K mg) : Binds K T.d__law_words ["_law_pot_here", "_law_count"] [] := T.F__law_words.bindsN fun _ _ _ _ _ _ us hl => match us, hl with | [_, _], _ => rfl
theorem b_law {K : PySem.W.Frag} {mg : Str → Option Value} (T : Txt K mg) : Binds K T.d_law ["_law_script"] [] := T.F_law.bindsN fun _ _ _ _ _ _ us hl => match us, hl with | [_], _ => rfl
set_option hygiene false in
local macro_rules | `(tactic| walk_at "rd1") => `(tactic| with_reducible refine rd_iES ?_)
theorem ints_get {ns : List Int} {i : Nat} {x : V} (h : (ns.map V.int)[i]? = some x) : ∃ z, ns[i]? = some z ∧ x = .int z := by
  rw [List.getElem?_map] at h
  cases e : ns[i]? with
  | none => rw [e] at h; cases h
  | some z => rw [e] at h; exact ⟨z, rfl, (Option.some.inj h).symm⟩
theorem own0 {K : PySem.W.Frag} {H H' : Hp} {L : List Cell} {F : List Fact} {p : Addr} {o : HO} (k : Kn K H [] H' L F) (i : Nat) (h : L[i]? = some (p, o)) : H p = none := by
  rcases k.own _ (List.mem_of_getElem? h) with z | z
  · exact z
  · exact (nomatch z)
def sp_check_words {K : PySem.W.Frag} {mg : Str → Option Value} (_ : Txt K mg) : Sp := fun vs H Q _ => ∃ (a : Addr) (ws : List Int), vs = [.ref a] ∧ SqL K H a (ws.map V.int) ∧ ws.length ≤ 5000 ∧ Po.Words ws ∧
  ∀ t H', H t = none → Le H H' → H' t = some (.tup [.int (Sl.s1 ws), .int (Sl.s2 ws)]) → Q (.ref t) H'
def rd_check_words {K : PySem.W.Frag} {mg : Str → Option Value} (T : Txt K mg) (E : XK) : TS :=
  (tSeq (tAsg (tCB (rSum K) (tCons (tLc (Pp.iEnumS K 1 (tCons (tVar 0) tNil)) (gTup K 2 (gCons (gName 2) (gCons (gName 3) gNil))) tYes (tOp aMul (tVar 2) (tVar 3)) [2, 3]) tNil)) (gName 1))
    (tRet (tTup (tCons (tOp aMod (tCB (rSum K) (tCons (tVar 0) tNil)) (tC (.int 65521))) (tCons (tOp aMod (tVar 1) (tC (.int 65521))) tNil)))))
set_option maxHeartbeats 4000000 in
theorem tm_check_words {P : Program} {w : World} {K : PySem.W.Frag} {mg : Str → Option Value} {base : Heap} (T : Txt K mg) {f : Addr} {cdv : Value} {A : Around} {outer : List Env} {s : Shared} {H : Hp} {E : XK} (hr : Room 0 (A.deeper (envOfC "check_words" (defScope s_check_words) s.heap.objs.size f cdv))) :
    PSs (cxOf (L2.CX P w) P w K mg base nm_check_words "check_words" (defScope s_check_words) f cdv A outer s H E) (defBody s_check_words) (rd_check_words T E) :=
  (pss_cons (ps_set (i := 1) sc_check_words.nd rfl (by first | exact Or.inl rfl | exact Or.inr rfl) (pe_callB (cr_sum rfl) (by rfl) T.z_sum (by decide +kernel) (pa_cons (pe_lc (own := [("place", 2), ("word", 3)]) (g := (gTup K 2 (gCons (gName 2) (gCons (gName 3) gNil)))) (tt := tYes) (te := (tOp aMul (tVar 2) (tVar 3))) rfl sc_check_words.nd (Pp.pi_enumS (by rfl) T.z_enumerate (pa_cons (pv 0) pa_nil) rfl (by decide) (by decide)) (blkOk_by (own := [("place", 2), ("word", 3)]) (N := nm_check_words) (sc := defScope s_check_words) (by decide +kernel)) (fun _ _ _ _ _ => (pg_tup rfl (pgs_cons (pg_name (i := 2) sc_check_words.nd rfl (Or.inl rfl)) (pgs_cons (pg_name (i := 3) sc_check_words.nd rfl (Or.inl rfl)) pgs_nil)))) (fun _ _ _ _ _ => pts_nil) (fun _ _ _ _ _ => (pe_op op_mul (pv 2) (pv 3)))) pa_nil)))
    (pss_one (ps_ret (pe_tup (pa_cons (pe_op op_mod (pe_callB (cr_sum rfl) (by rfl) T.z_sum (by decide +kernel) (pa_cons (pv 0) pa_nil)) (pe_gi rfl T.c_PRIME)) (pa_cons (pe_op op_mod (pv 1) (pe_gi rfl T.c_PRIME)) pa_nil))))))
theorem pr_check_words {K : PySem.W.Frag} {mg : Str → Option Value} (T : Txt K mg) (vs : List V) (H : Hp) (Q : VK) (E : XK) (h : sp_check_words T vs H Q E) : rd_check_words T E ⟨fun _ H' => Q .non H', Q, fun _ _ => False, fun _ _ => False⟩ (start nm_check_words vs) H := by
  obtain ⟨a, ws, rfl, hS, hl, hw, q⟩ := h
  show rd_check_words T E _ [some _, none, none, none] H
  unfold rd_check_words
  have k := Kn.nil K H
  walk_at "rd"
  refine ⟨a, _, rfl, hS, lw_ES ((Sl.wl ws).map V.int) hS (by simp [Sl.wl]) (szt (by simp; omega)) (fun R i x z T' H' hx hz le hT q3 => ?_) fun p H' np le e => ?_⟩
  · obtain ⟨y, hy, rfl⟩ := ints_get hx
    obtain ⟨z1, hz1, rfl⟩ := ints_get hz
    rw [Sl.wl_get hy] at hz1
    cases hz1
    have y0 := hw y (List.mem_of_getElem? hy)
    refine rd_gtup rfl ?_
    walk_at "rd"
    refine ⟨rfl, ?_⟩
    walk_at "rd"
    exact q3 _ (Le.refl _)
  replace k := k.ret np le e
  try (simp only [List.set_cons_zero, List.set_cons_succ, List.cons_append, List.nil_append] at k)
  walk_at "rd"
  refine ⟨p, _, rfl, cellS k 0 rfl, ?_⟩
  walk_at "rd"
  refine ⟨a, ws, rfl, sqL_le k.le0 hS, ?_⟩
  walk_at "rd"
  refine ⟨szl (by simp), ?_⟩
  intro t n_t
  generalize e_t : upd _ t _ = H_t at *
  replace k := k.new' n_t e_t
  clear e_t
  try (simp only [List.set_cons_zero, List.set_cons_succ, List.cons_append, List.nil_append] at k)
  exact q t _ (own0 k 1 rfl) k.le0 (k.at 1 rfl)
theorem ln_check_words {K : PySem.W.Frag} {mg : Str → Option Value} (T : Txt K mg) (vs : List V) (H : Hp) (Q : VK) (E : XK) (h : sp_check_words T vs H Q E) : vs.length = 1 := by
  first
    | (obtain ⟨_, rfl, _⟩ := h; rfl)
    | (obtain ⟨_, _, rfl, _⟩ := h; rfl)
    | (obtain ⟨_, _, _, rfl, _⟩ := h; rfl)
    | (obtain ⟨_, _, _, _, rfl, _⟩ := h; rfl)
    | (obtain ⟨_, _, _, _, _, rfl, _⟩ := h; rfl)
    | (obtain ⟨_, _, _, _, _, _, rfl, _⟩ := h; rfl)
    | (obtain ⟨_, _, _, _, _, _, _, rfl, _⟩ := h; rfl)
    | (obtain ⟨_, _, _, _, _, _, _, _, rfl, _⟩ := h; rfl)
theorem ok_check_words {P : Program} {w : World} {K : PySem.W.Frag} {mg : Str → Option Value} {base : Heap} (T : Txt K mg) : FnOk P w K mg base (L2.CX P w) 1 (He.ga K "check_words") T.d_check_words ["words"] (sp_check_words T) :=
  T.F_check_words.ok sc_check_words (ln_check_words T) (fun cdv A outer s H vs Q E hr h => ⟨_, tm_check_words T hr, pr_check_words T vs H Q E h⟩)
def sp_seal {K : PySem.W.Frag} {mg : Str → Option Value} (_ : Txt K mg) : Sp := fun vs H Q E => ∃ (kind disk row : Int) (st : Addr) (ep se : Int) (a : Addr) (pl : List Int), vs = [.int kind, .int disk, .int row, .ref st, .ref a] ∧ SqT K H st [.int ep, .int se] ∧ H a = some (.lst (pl.map V.int)) ∧ Po.Words pl ∧
  (Sl.Ok kind disk row ep se ∧ pl.length ≤ 1000 → RL (Sl.due kind disk row ep se pl) H Q) ∧ (¬ (Sl.Ok kind disk row ep se ∧ pl.length ≤ 1000) → ∀ H', Le H H' → E (.ref (He.ga K "InvalidArgument")) none H')
def rd_seal {K : PySem.W.Frag} {mg : Str → Option Value} (T : Txt K mg) (E : XK) : TS :=
  (tSeq (tAsg (tVar 3) (gTup K 2 (gCons (gName 5) (gCons (gName 6) gNil))))
    (tSeq (tIfS (tOr (tNot (tTest (tChain aLe aLe (tC (.int 1)) (tVar 0) (tC (.int 3))))) (tOr (tNot (tTest (tChain aLe aLt (tC (.int 0)) (tVar 1) (tC (.int 8))))) (tNot (tTest (tChain aLe aLt (tC (.int 0)) (tVar 2) (tC (.int 4000))))))) (tRaiseC (He.ga K "InvalidArgument") E) tNext)
    (tSeq (tIfS (tOr (tNot (tTest (tChain aLe aLt (tC (.int 0)) (tVar 5) (tC (.int 65521))))) (tNot (tTest (tChain aLe aLt (tC (.int 0)) (tVar 6) (tOp aMul (tC (.int 65521)) (tC (.int 65521))))))) (tRaiseC (He.ga K "InvalidArgument") E) tNext)
    (tSeq (tIfS (tTest (tOp aGt (tCB (Pp.rLen K) (tCons (tVar 4) tNil)) (tC (.int 1000)))) (tRaiseC (He.ga K "InvalidArgument") E) tNext)
    (tSeq (tAsg (tLst (tCons (tVar 0) (tCons (tVar 1) (tCons (tVar 2) (tCons (tVar 5) (tCons (tOp aDiv (tVar 6) (tC (.int 65521))) (tCons (tOp aMod (tCB rInt1 (tCons (tVar 6) tNil)) (tC (.int 65521))) tNil))))))) (gName 7))
    (tSeq (tDrop (tBM K "list" rExtend (tVar 7) (tCons (tVar 4) tNil)))
    (tSeq (tAsg (tCall (sp_check_words T) [] E (tCons (tVar 7) tNil)) (gTup K 2 (gCons (gName 8) (gCons (gName 9) gNil))))
    (tSeq (tDrop (tBM K "list" rAppend (tVar 7) (tCons (tVar 8) tNil)))
    (tSeq (tDrop (tBM K "list" rAppend (tVar 7) (tCons (tVar 9) tNil)))
    (tRet (tVar 7)))))))))))
set_option maxHeartbeats 4000000 in
theorem tm_seal {P : Program} {w : World} {K : PySem.W.Frag} {mg : Str → Option Value} {base : Heap} (T : Txt K mg) {f : Addr} {cdv : Value} {A : Around} {outer : List Env} {s : Shared} {H : Hp} {E : XK} (hr : Room 1 (A.deeper (envOfC "seal" (defScope s_seal) s.heap.objs.size f cdv))) :
    PSs (cxOf (L2.CX P w) P w K mg base nm_seal "seal" (defScope s_seal) f cdv A outer s H E) (defBody s_seal) (rd_seal T E) :=
  (pss_cons (ps_asg (pv 3) (pg_tup rfl (pgs_cons (pg_name (i := 5) sc_seal.nd rfl (by first | exact Or.inl rfl | exact Or.inr rfl)) (pgs_cons (pg_name (i := 6) sc_seal.nd rfl (by first | exact Or.inl rfl | exact Or.inr rfl)) pgs_nil))))
    (pss_cons (ps_if (PW.pt (pw_or (pt_not (pt_chain op_le op_le pe_int (pv 0) pe_int)) (pw_or (pt_not (pt_chain op_le op_lt pe_int (pv 1) (pe_gi rfl T.c_MAX_DISKS))) (pw_or1 (pt_not (pt_chain op_le op_lt pe_int (pv 2) (pe_gi rfl T.c_MAX_ROWS))))))) (pss_one (ps_raise (W := fun cls d _ H => E cls d H) rfl (takes_of rfl rfl rfl rfl) (pmk_own PySem.F.excBase_ValueError T.x_InvalidArgument T.g_InvalidArgument T.k_InvalidArgument (raises_own T.sb_InvalidArgument T.ty_InvalidArgument) (by rfl)))) pss_nil)
    (pss_cons (ps_if (PW.pt (pw_or (pt_not (pt_chain op_le op_lt pe_int (pv 5) (pe_gi rfl T.c_PRIME))) (pw_or1 (pt_not (pt_chain op_le op_lt pe_int (pv 6) (pe_op op_mul (pe_gi rfl T.c_PRIME) (pe_gi rfl T.c_PRIME))))))) (pss_one (ps_raise (W := fun cls d _ H => E cls d H) rfl (takes_of rfl rfl rfl rfl) (pmk_own PySem.F.excBase_ValueError T.x_InvalidArgument T.g_InvalidArgument T.k_InvalidArgument (raises_own T.sb_InvalidArgument T.ty_InvalidArgument) (by rfl)))) pss_nil)
    (pss_cons (ps_if (pt_cmpR op_gt (pe_callB call_len_seq (by rfl) T.z_len (by decide +kernel) (pa_cons (pv 4) pa_nil)) (pe_gi rfl T.c_MAX_PAYLOAD) (nomark _)) (pss_one (ps_raise (W := fun cls d _ H => E cls d H) rfl (takes_of rfl rfl rfl rfl) (pmk_own PySem.F.excBase_ValueError T.x_InvalidArgument T.g_InvalidArgument T.k_InvalidArgument (raises_own T.sb_InvalidArgument T.ty_InvalidArgument) (by rfl)))) pss_nil)
    (pss_cons (ps_set (i := 7) sc_seal.nd rfl (by first | exact Or.inl rfl | exact Or.inr rfl) (pe_lst (pa_cons (pv 0) (pa_cons (pv 1) (pa_cons (pv 2) (pa_cons (pv 5) (pa_cons (pe_op op_fdivW (pv 6) (pe_gi rfl T.c_PRIME)) (pa_cons (pe_op op_mod (pe_callTy call_int1 (by rfl) T.z_int (by decide +kernel) (pa_cons (pv 6) pa_nil)) (pe_gi rfl T.c_PRIME)) pa_nil))))))))
    (pss_cons (ps_expr (pe_bm PySem.F.plainAttrs_list PySem.F.slot_list_extend PySem.F.type_list_extend mt_extend (pv 7) (pa_cons (pv 4) pa_nil)))
    (pss_cons (ps_asg (pe_call (E := E) (ok_check_words T) (hr.mono (by decide)) rfl T.g_check_words T.F_check_words.kp (b_check_words T) .nil (passes_call (takes_of rfl rfl rfl rfl) (fun _ _ _ _ h => h)) (pa_cons (pv 7) pa_nil)) (pg_tup rfl (pgs_cons (pg_name (i := 8) sc_seal.nd rfl (by first | exact Or.inl rfl | exact Or.inr rfl)) (pgs_cons (pg_name (i := 9) sc_seal.nd rfl (by first | exact Or.inl rfl | exact Or.inr rfl)) pgs_nil))))
    (pss_cons (ps_expr (pe_bm PySem.F.plainAttrs_list PySem.F.slot_list_append PySem.F.type_list_append mt_append (pv 7) (pa_cons (pv 8) pa_nil)))
    (pss_cons (ps_expr (pe_bm PySem.F.plainAttrs_list PySem.F.slot_list_append PySem.F.type_list_append mt_append (pv 7) (pa_cons (pv 9) pa_nil)))
    (pss_one (ps_ret (pv 7))))))))))))
theorem pr_seal {K : PySem.W.Frag} {mg : Str → Option Value} (T : Txt K mg) (vs : List V) (H : Hp) (Q : VK) (E : XK) (h : sp_seal T vs H Q E) : rd_seal T E ⟨fun _ H' => Q .non H', Q, fun _ _ => False, fun _ _ => False⟩ (start nm_seal vs) H := by
  obtain ⟨kind, disk, row, st, ep, se, a, pl, rfl, hst, ha, hw, q1, q2⟩ := h
  have hS : SqL K H a (pl.map V.int) := .inl (.inl ha)
  show rd_seal T E _ [some _, some _, some _, some _, some _, none, none, none, none, none] H
  unfold rd_seal
  have k := Kn.nil K H
  walk_at "rd"
  refine rd_gtupT hst rfl ?_
  by_cases hok : Sl.Ok kind disk row ep se
  · have hok2 := hok
    obtain ⟨⟨a1, a2⟩, ⟨b1, b2⟩, ⟨c1, c2⟩, ⟨d1, d2⟩, e1, e2⟩ := hok2
    walk_at "rd"
    walk_at "sq"
    walk_at "rd"
    walk_at "ifT"
    walk_at "rd"
    walk_at "ifF"
    walk_at "rd"
    walk_at "ifT"
    walk_at "rd"
    walk_at "ifF"
    walk_at "rd"
    walk_at "ifT"
    walk_at "rd"
    walk_at "ifF"
    walk_at "rd"
    walk_at "rd"
    walk_at "sq"
    walk_at "rd"
    walk_at "ifT"
    walk_at "rd"
    walk_at "ifF"
    walk_at "rd"
    walk_at "ifT"
    walk_at "rd"
    walk_at "ifF"
    walk_at "rd"
    walk_at "rd"
    walk_at "sq"
    walk_at "rd"
    refine ⟨a, _, rfl, .inl hS, ?_⟩
    rw [List.length_map]
    walk_at "rd"
    walk_at "if2"
    · walk_at "rd"
      exact q2 (fun z => by omega) _ (Le.refl _)
    walk_at "rd"
    refine ⟨szl (by simp), ?_⟩
    intro p n_p
    generalize e_p : upd _ p _ = H_p at *
    replace k := k.new' n_p e_p
    clear e_p
    try (simp only [List.set_cons_zero, List.set_cons_succ, List.cons_append, List.nil_append] at k)
    walk_at "rd"
    refine ⟨tyL 0 k rfl, ?_⟩
    walk_at "rd"
    refine ⟨p, a, _, _, rfl, rfl, k.at 0 rfl, k.le0 _ _ ha, szl (by simp; omega), ?_⟩
    generalize e_H2 : upd _ _ _ = H2 at *
    replace k := k.set' 0 rfl e_H2
    clear e_H2
    try (simp only [List.set_cons_zero, List.set_cons_succ, List.cons_append, List.nil_append] at k)
    replace k := k.as 0 rfl ((show _ = HO.lst ((Sl.head kind disk row ep se ++ pl).map V.int) by simp [Sl.head]))
    try (simp only [List.set_cons_zero, List.set_cons_succ, List.cons_append, List.nil_append] at k)
    walk_at "rd"
    refine ⟨p, _, rfl, cellS k 0 rfl, by simp [Sl.head]; omega, Sl.words_append (Sl.head_words hok) hw, fun t H3 nt le et => ?_⟩
    replace k := k.ret nt le et
    try (simp only [List.set_cons_zero, List.set_cons_succ, List.cons_append, List.nil_append] at k)
    refine rd_gtupT (cellT k 1 rfl) rfl ?_
    walk_at "rd"
    refine ⟨tyL 0 k rfl, ?_⟩
    walk_at "rd"
    refine app_cell 0 k rfl (szt (by simp [Sl.head]; omega)) ?_
    generalize e_H4 : upd _ _ _ = H4 at *
    replace k := k.set' 0 rfl e_H4
    clear e_H4
    try (simp only [List.set_cons_zero, List.set_cons_succ, List.cons_append, List.nil_append] at k)
    walk_at "rd"
    refine ⟨tyL 0 k rfl, ?_⟩
    walk_at "rd"
    refine app_cell 0 k rfl (szt (by simp [Sl.head]; omega)) ?_
    generalize e_H5 : upd _ _ _ = H5 at *
    replace k := k.set' 0 rfl e_H5
    clear e_H5
    try (simp only [List.set_cons_zero, List.set_cons_succ, List.cons_append, List.nil_append] at k)
    walk_at "rd"
    exact k.fin 0 (by simp [Sl.due]) (q1 ⟨hok, by omega⟩)
  · have q3 := q2 (fun z => hok z.1)
    unfold Sl.Ok at hok
    walk_at "rd"
    walk_at "sq"
    walk_at "rd"
    repeat' first | walk_at "rd1" | walk_at "if2" | walk_at "sq"
    all_goals first
      | exact q3 _ (Le.refl _)
      | (exfalso; omega)
      | skip
theorem ln_seal {K : PySem.W.Frag} {mg : Str → Option Value} (T : Txt K mg) (vs : List V) (H : Hp) (Q : VK) (E : XK) (h : sp_seal T vs H Q E) : vs.length = 5 := by
  first
    | (obtain ⟨_, rfl, _⟩ := h; rfl)
    | (obtain ⟨_, _, rfl, _⟩ := h; rfl)
    | (obtain ⟨_, _, _, rfl, _⟩ := h; rfl)
    | (obtain ⟨_, _, _, _, rfl, _⟩ := h; rfl)
    | (obtain ⟨_, _, _, _, _, rfl, _⟩ := h; rfl)
    | (obtain ⟨_, _, _, _, _, _, rfl, _⟩ := h; rfl)
    | (obtain ⟨_, _, _, _, _, _, _, rfl, _⟩ := h; rfl)
    | (obtain ⟨_, _, _, _, _, _, _, _, rfl, _⟩ := h; rfl)
theorem ok_seal {P : Program} {w : World} {K : PySem.W.Frag} {mg : Str → Option Value} {base : Heap} (T : Txt K mg) : FnOk P w K mg base (L2.CX P w) 2 (He.ga K "seal") T.d_seal ["kind", "disk", "row", "stamp", "payload"] (sp_seal T) :=
  T.F_seal.ok sc_seal (ln_seal T) (fun cdv A outer s H vs Q E hr h => ⟨_, tm_seal T hr, pr_seal T vs H Q E h⟩)

theorem cut_m2 {xs : List V} (h : 2 ≤ xs.length) : cutV xs none (some (-2)) = xs.take (xs.length - 2) := by
  unfold cutV
  show (xs.drop 0).take (HT.sIx xs.length xs.length (some (-2)) - 0) = _
  have e : HT.sIx xs.length xs.length (some (-2)) = xs.length - 2 := by
    unfold HT.sIx
    simp only []
    split <;> omega
  rw [List.drop_zero, e, Nat.sub_zero]
theorem atI_m {α : Type} {xs : List α} {i : Int} {v : α} (h0 : i < 0) (h1 : -(xs.length : Int) ≤ i) (h : xs[(i + xs.length).toNat]? = some v) : atI xs i = some v := by
  unfold atI ixN
  rw [if_neg (by omega), if_pos h1]
  exact h
theorem eqvT_ints (ns ms : List Int) : PyData.eqv (.tuple (ns.map PyData.int)) (.tuple (ms.map PyData.int)) = decide (ns = ms) := eqv_ints ns ms
def sp_unseal {K : PySem.W.Frag} {mg : Str → Option Value} (_ : Txt K mg) : Sp := fun vs H Q _ => ∃ (v : V) (kind disk row : Int), vs = [v, .int kind, .int disk, .int row] ∧
  ((v = .non ∧ Q .non H) ∨ ∃ (a : Addr) (ws : List Int), v = .ref a ∧ SqL K H a (ws.map V.int) ∧ (¬ Sl.Valid ws kind disk row → ∀ H', Le H H' → Q .non H') ∧
    (Sl.Valid ws kind disk row → ∀ x3 x4 x5, ws[3]? = some x3 → ws[4]? = some x4 → ws[5]? = some x5 → ∀ t t1 t2 H', Kn K H [] H' [(t1, .tup [.int x3, .int (x4 * 65521 + x5)]), (t2, .lst (((ws.take (ws.length - 2)).drop 6).map V.int)), (t, .tup [.ref t1, .ref t2])] [] → Q (.ref t) H'))
def rd_unseal {K : PySem.W.Frag} {mg : Str → Option Value} (T : Txt K mg) (E : XK) : TS :=
  (tSeq (tIfS (tOr (tTest (tOp rIsNone (tVar 0) (tC .non))) (tNot (tTest (tChain aLe aLe (tOp aAdd (tC (.int 6)) (tC (.int 2))) (tCB (Pp.rLen K) (tCons (tVar 0) tNil)) (tOp aAdd (tOp aAdd (tC (.int 6)) (tC (.int 2))) (tC (.int 1000))))))) (tRet (tC .non)) tNext)
    (tSeq (tIfS (tOr (tTest (tOp rNe (tOp (rIxL K) (tVar 0) (tC (.int 0))) (tVar 1))) (tOr (tTest (tOp rNe (tOp (rIxL K) (tVar 0) (tC (.int 1))) (tVar 2))) (tTest (tOp rNe (tOp (rIxL K) (tVar 0) (tC (.int 2))) (tVar 3))))) (tRet (tC .non)) tNext)
    (tSeq (tIfS (tOr (tTest (tOp aLt (tCB (rMin K) (tCons (tVar 0) tNil)) (tC (.int 0)))) (tTest (tOp aGe (tCB (rMax K) (tCons (tVar 0) tNil)) (tC (.int 65521))))) (tRet (tC .non)) tNext)
    (tSeq (tIfS (tOr (tNot (tTest (tChain aLe aLe (tC (.int 1)) (tVar 1) (tC (.int 3))))) (tOr (tTest (tOp aGe (tVar 2) (tC (.int 8)))) (tTest (tOp aGe (tVar 3) (tC (.int 4000)))))) (tRet (tC .non)) tNext)
    (tSeq (tAsg (tCB (rListOf K) (tCons (tSl (rSlL K) (tVar 0) tNoPart (tPart (tUn aNeg (tC (.int 2))))) tNil)) (gName 4))
    (tSeq (tIfS (tTest (tOp (rNeD K) (tCall (sp_check_words T) [] E (tCons (tVar 4) tNil)) (tTup (tCons (tOp (rIxL K) (tVar 0) (tUn aNeg (tC (.int 2)))) (tCons (tOp (rIxL K) (tVar 0) (tUn aNeg (tC (.int 1)))) tNil))))) (tRet (tC .non)) tNext)
    (tRet (tTup (tCons (tTup (tCons (tOp (rIxL K) (tVar 4) (tC (.int 3))) (tCons (tOp aAdd (tOp aMul (tOp (rIxL K) (tVar 4) (tC (.int 4))) (tC (.int 65521))) (tOp (rIxL K) (tVar 4) (tC (.int 5)))) tNil))) (tCons (tSl (rSlL K) (tVar 4) (tPart (tC (.int 6))) tNoPart) tNil))))))))))
set_option maxHeartbeats 4000000 in
theorem tm_unseal {P : Program} {w : World} {K : PySem.W.Frag} {mg : Str → Option Value} {base : Heap} (T : Txt K mg) {f : Addr} {cdv : Value} {A : Around} {outer : List Env} {s : Shared} {H : Hp} {E : XK} (hr : Room 1 (A.deeper (envOfC "unseal" (defScope s_unseal) s.heap.objs.size f cdv))) :
    PSs (cxOf (L2.CX P w) P w K mg base nm_unseal "unseal" (defScope s_unseal) f cdv A outer s H E) (defBody s_unseal) (rd_unseal T E) :=
  (pss_cons (ps_if (PW.pt (pw_or (pt_cmpR op_isN (pv 0) pe_non (nomark _)) (pw_or1 (pt_not (pt_chain op_le op_le (pe_op op_add (pe_gi rfl T.c_HEADER) pe_int) (pe_callB call_len_seq (by rfl) T.z_len (by decide +kernel) (pa_cons (pv 0) pa_nil)) (pe_op op_add (pe_op op_add (pe_gi rfl T.c_HEADER) pe_int) (pe_gi rfl T.c_MAX_PAYLOAD))))))) (pss_one (ps_ret pe_non)) pss_nil)
    (pss_cons (ps_if (PW.pt (pw_or (pt_cmpR op_ne (pe_ix ix_list (pv 0) pe_int (fun _ _ => rfl)) (pv 1) (nomark _)) (pw_or (pt_cmpR op_ne (pe_ix ix_list (pv 0) pe_int (fun _ _ => rfl)) (pv 2) (nomark _)) (pw_or1 (pt_cmpR op_ne (pe_ix ix_list (pv 0) pe_int (fun _ _ => rfl)) (pv 3) (nomark _)))))) (pss_one (ps_ret pe_non)) pss_nil)
    (pss_cons (ps_if (PW.pt (pw_or (pt_cmpR op_lt (pe_callB (cr_min rfl) (by rfl) T.z_min (by decide +kernel) (pa_cons (pv 0) pa_nil)) pe_int (nomark _)) (pw_or1 (pt_cmpR op_ge (pe_callB (cr_max rfl) (by rfl) T.z_max (by decide +kernel) (pa_cons (pv 0) pa_nil)) (pe_gi rfl T.c_PRIME) (nomark _))))) (pss_one (ps_ret pe_non)) pss_nil)
    (pss_cons (ps_if (PW.pt (pw_or (pt_not (pt_chain op_le op_le pe_int (pv 1) pe_int)) (pw_or (pt_cmpR op_ge (pv 2) (pe_gi rfl T.c_MAX_DISKS) (nomark _)) (pw_or1 (pt_cmpR op_ge (pv 3) (pe_gi rfl T.c_MAX_ROWS) (nomark _)))))) (pss_one (ps_ret pe_non)) pss_nil)
    (pss_cons (ps_set (i := 4) sc_unseal.nd rfl (by first | exact Or.inl rfl | exact Or.inr rfl) (pe_callTy call_list_of (by rfl) T.z_list (by decide +kernel) (pa_cons (pe_slice sl_list (pv 0) po_none (po_some (pe_un un_neg pe_int))) pa_nil)))
    (pss_cons (ps_if (pt_cmpR (op_neD hr.units) (pe_call (E := E) (ok_check_words T) (hr.mono (by decide)) rfl T.g_check_words T.F_check_words.kp (b_check_words T) .nil (passes_call (takes_of rfl rfl rfl rfl) (fun _ _ _ _ h => h)) (pa_cons (pv 4) pa_nil)) (pe_tup (pa_cons (pe_ix ix_list (pv 0) (pe_un un_neg pe_int) (fun _ _ => rfl)) (pa_cons (pe_ix ix_list (pv 0) (pe_un un_neg pe_int) (fun _ _ => rfl)) pa_nil))) (nomark _)) (pss_one (ps_ret pe_non)) pss_nil)
    (pss_one (ps_ret (pe_tup (pa_cons (pe_tup (pa_cons (pe_ix ix_list (pv 4) pe_int (fun _ _ => rfl)) (pa_cons (pe_op op_add (pe_op op_mul (pe_ix ix_list (pv 4) pe_int (fun _ _ => rfl)) (pe_gi rfl T.c_PRIME)) (pe_ix ix_list (pv 4) pe_int (fun _ _ => rfl))) pa_nil))) (pa_cons (pe_slice sl_list (pv 4) (po_some (pe_gi rfl T.c_HEADER)) po_none) pa_nil)))))))))))
theorem pr_unseal {K : PySem.W.Frag} {mg : Str → Option Value} (T : Txt K mg) (vs : List V) (H : Hp) (Q : VK) (E : XK) (h : sp_unseal T vs H Q E) : rd_unseal T E ⟨fun _ H' => Q .non H', Q, fun _ _ => False, fun _ _ => False⟩ (start nm_unseal vs) H := by
  obtain ⟨v, kind, disk, row, rfl, ⟨rfl, q⟩ | ⟨a, ws, rfl, hS, qn, qv⟩⟩ := h
  · show rd_unseal T E _ [some _, some _, some _, some _, none] H
    unfold rd_unseal
    walk_at "rd"
    walk_at "sq"
    walk_at "rd"
    refine ⟨rfl, ?_⟩
    rw [decide_eq_true rfl]
    walk_at "rd"
    exact q
  show rd_unseal T E _ [some _, some _, some _, some _, none] H
  unfold rd_unseal
  have k := Kn.nil K H
  walk_at "rd"
  walk_at "sq"
  walk_at "rd"
  refine ⟨rfl, ?_⟩
  rw [decide_eq_false (fun h => nomatch h)]
  walk_at "rd"
  refine ⟨a, _, rfl, .inl hS, ?_⟩
  rw [List.length_map]
  walk_at "rd"
  by_cases hlen : 8 ≤ ws.length ∧ ws.length ≤ 1008
  rotate_left
  · have q3 := qn (fun z => hlen ⟨z.1, z.2.1⟩) H (Le.refl H)
    repeat' first | walk_at "rd1" | walk_at "if2"
    all_goals first
      | exact q3
      | (exfalso; omega)
      | skip
  obtain ⟨l0, l1⟩ := hlen
  walk_at "ifT"
  walk_at "rd"
  walk_at "ifF"
  walk_at "rd"
  obtain ⟨w0, hw0⟩ : ∃ y, ws[0]? = some y := ⟨_, List.getElem?_eq_getElem (by omega)⟩
  obtain ⟨w1, hw1⟩ : ∃ y, ws[1]? = some y := ⟨_, List.getElem?_eq_getElem (by omega)⟩
  obtain ⟨w2, hw2⟩ : ∃ y, ws[2]? = some y := ⟨_, List.getElem?_eq_getElem (by omega)⟩
  obtain ⟨x3, hx3⟩ : ∃ y, ws[3]? = some y := ⟨_, List.getElem?_eq_getElem (by omega)⟩
  obtain ⟨x4, hx4⟩ : ∃ y, ws[4]? = some y := ⟨_, List.getElem?_eq_getElem (by omega)⟩
  obtain ⟨x5, hx5⟩ : ∃ y, ws[5]? = some y := ⟨_, List.getElem?_eq_getElem (by omega)⟩
  obtain ⟨u1, hu1⟩ : ∃ y, ws[ws.length - 2]? = some y := ⟨_, List.getElem?_eq_getElem (by omega)⟩
  obtain ⟨u2, hu2⟩ : ∃ y, ws[ws.length - 1]? = some y := ⟨_, List.getElem?_eq_getElem (by omega)⟩
  have at_ : ∀ {i : Nat} {y : Int}, ws[i]? = some y → (ws.map V.int)[i]? = some (.int y) := fun h => by rw [List.getElem?_map, h]; rfl
  have tk_ : ∀ {i : Nat} {y : Int}, i < ws.length - 2 → ws[i]? = some y → ((ws.take (ws.length - 2)).map V.int)[i]? = some (.int y) := fun h1 h2 => by rw [List.getElem?_map, List.getElem?_take, if_pos h1, h2]; rfl
  walk_at "rd"
  walk_at "sq"
  walk_at "rd"
  refine ⟨a, _, _, .int w0, rfl, rfl, hS, atI_of (by decide) (at_ hw0), ?_⟩
  walk_at "rd"
  walk_at "if2"
  · walk_at "rd"
    exact qn (fun z => hc (Option.some.inj (hw0.symm.trans z.2.2.1))) _ k.le0
  subst hc
  walk_at "rd"
  refine ⟨a, _, _, .int w1, rfl, rfl, hS, atI_of (by decide) (at_ hw1), ?_⟩
  walk_at "rd"
  walk_at "if2"
  · walk_at "rd"
    exact qn (fun z => hc (Option.some.inj (hw1.symm.trans z.2.2.2.1))) _ k.le0
  subst hc
  walk_at "rd"
  refine ⟨a, _, _, .int w2, rfl, rfl, hS, atI_of (by decide) (at_ hw2), ?_⟩
  walk_at "rd"
  walk_at "if2"
  · walk_at "rd"
    exact qn (fun z => hc (Option.some.inj (hw2.symm.trans z.2.2.2.2.1))) _ k.le0
  subst hc
  walk_at "rd"
  walk_at "sq"
  walk_at "rd"
  refine ⟨a, ws, rfl, hS, by omega, fun m hm hmin => ?_⟩
  walk_at "rd"
  walk_at "if2"
  · walk_at "rd"
    exact qn (fun z => by have := z.2.2.2.2.2.1 m hm; omega) _ k.le0
  walk_at "rd"
  refine ⟨a, ws, rfl, hS, by omega, fun M hM hmax => ?_⟩
  walk_at "rd"
  walk_at "if2"
  · walk_at "rd"
    exact qn (fun z => by have := z.2.2.2.2.2.1 M hM; omega) _ k.le0
  have hw : Po.Words ws := fun y hy => ⟨by have := hmin y hy; omega, by have := hmax y hy; omega⟩
  walk_at "rd"
  walk_at "sq"
  walk_at "rd"
  by_cases hk : (1 ≤ w0 ∧ w0 ≤ 3) ∧ w1 < 8 ∧ w2 < 4000
  rotate_left
  · have q3 := qn (fun z => hk ⟨z.2.2.2.2.2.2.1, z.2.2.2.2.2.2.2.1, z.2.2.2.2.2.2.2.2.1⟩) H (Le.refl H)
    repeat' first | walk_at "rd1" | walk_at "if2"
    all_goals first
      | exact q3
      | (exfalso; omega)
      | skip
  obtain ⟨⟨k1, k2⟩, k3, k4⟩ := hk
  walk_at "ifT"
  walk_at "rd"
  walk_at "ifF"
  walk_at "rd"
  walk_at "ifF"
  walk_at "rd"
  walk_at "ifF"
  walk_at "rd"
  refine ⟨a, _, rfl, hS, ?_⟩
  rw [cut_m2 (by rw [List.length_map]; omega), List.length_map, ← List.map_take]
  intro s1 n_s1
  generalize e_s1 : upd _ s1 _ = H_s1 at *
  replace k := k.new' n_s1 e_s1
  clear e_s1
  try (simp only [List.set_cons_zero, List.set_cons_succ, List.cons_append, List.nil_append] at k)
  walk_at "rd"
  refine of_cell 0 k rfl ?_
  intro wd n_wd
  generalize e_wd : upd _ wd _ = H_wd at *
  replace k := k.new' n_wd e_wd
  clear e_wd
  try (simp only [List.set_cons_zero, List.set_cons_succ, List.cons_append, List.nil_append] at k)
  walk_at "rd"
  walk_at "sq"
  walk_at "rd"
  refine ⟨wd, _, rfl, cellS k 1 rfl, by rw [List.length_take]; omega, fun y hy => hw y (List.mem_of_mem_take hy), fun t0 H3 n3 le3 e3 => ?_⟩
  replace k := k.ret n3 le3 e3
  try (simp only [List.set_cons_zero, List.set_cons_succ, List.cons_append, List.nil_append] at k)
  walk_at "rd"
  refine ⟨a, _, _, .int u1, rfl, rfl, sqL_le k.le0 hS, atI_m (by decide) (by rw [List.length_map]; omega) (by rw [List.length_map, show ((-2 : Int) + ws.length).toNat = ws.length - 2 by omega]; exact at_ hu1), ?_⟩
  walk_at "rd"
  refine ⟨a, _, _, .int u2, rfl, rfl, sqL_le k.le0 hS, atI_m (by decide) (by rw [List.length_map]; omega) (by rw [List.length_map, show ((-1 : Int) + ws.length).toNat = ws.length - 1 by omega]; exact at_ hu2), ?_⟩
  walk_at "rd"
  refine ⟨szl (by simp), ?_⟩
  intro t3 n_t3
  generalize e_t3 : upd _ t3 _ = H_t3 at *
  replace k := k.new' n_t3 e_t3
  clear e_t3
  try (simp only [List.set_cons_zero, List.set_cons_succ, List.cons_append, List.nil_append] at k)
  have ok2 : ∀ x y : Int, Okd 2 (.tuple ([x, y].map PyData.int)) := fun x y => okd_tuple fun d hd => by
    obtain ⟨z, _, rfl⟩ := List.mem_map.mp hd
    exact okd_int _ _
  refine rd_neD (pair_dp (cellT k 2 rfl)) (pair_dp (cellT k 3 rfl)) ((ok2 _ _).mono (by decide)) ((ok2 _ _).mono (by decide)) ?_
  have ee := eqvT_ints [Sl.s1 (ws.take (ws.length - 2)), Sl.s2 (ws.take (ws.length - 2))] [u1, u2]
  simp only [List.map_cons, List.map_nil] at ee
  unfold ptD
  rw [ee]
  walk_at "rd"
  walk_at "if2"
  · walk_at "rd"
    refine qn (fun z => hc ?_) _ k.le0
    have z1 := Option.some.inj (hu1.symm.trans z.2.2.2.2.2.2.2.2.2.1)
    have z2 := Option.some.inj (hu2.symm.trans z.2.2.2.2.2.2.2.2.2.2)
    rw [← z1, ← z2]
  have c1 : Sl.s1 (ws.take (ws.length - 2)) = u1 := (List.cons.inj hc).1
  have c2 : Sl.s2 (ws.take (ws.length - 2)) = u2 := (List.cons.inj (List.cons.inj hc).2).1
  have hV : Sl.Valid ws w0 w1 w2 := ⟨l0, l1, hw0, hw1, hw2, hw, ⟨k1, k2⟩, k3, k4, by rw [c1]; exact hu1, by rw [c2]; exact hu2⟩
  walk_at "rd"
  refine ix_cell (v := .int x3) 1 k rfl (atI_of (by decide) (tk_ (by show 3 < _; omega) hx3)) ?_
  walk_at "rd"
  refine ix_cell (v := .int x4) 1 k rfl (atI_of (by decide) (tk_ (by show 4 < _; omega) hx4)) ?_
  walk_at "rd"
  refine ix_cell (v := .int x5) 1 k rfl (atI_of (by decide) (tk_ (by show 5 < _; omega) hx5)) ?_
  walk_at "rd"
  refine ⟨szl (by simp), ?_⟩
  intro t1 n_t1
  generalize e_t1 : upd _ t1 _ = H_t1 at *
  replace k := k.new' n_t1 e_t1
  clear e_t1
  try (simp only [List.set_cons_zero, List.set_cons_succ, List.cons_append, List.nil_append] at k)
  walk_at "rd"
  refine sl_cell 1 k rfl ?_
  rw [cut_from (by decide), ← List.map_drop]
  intro t2 n_t2
  generalize e_t2 : upd _ t2 _ = H_t2 at *
  replace k := k.new' n_t2 e_t2
  clear e_t2
  try (simp only [List.set_cons_zero, List.set_cons_succ, List.cons_append, List.nil_append] at k)
  walk_at "rd"
  refine ⟨szl (by simp), ?_⟩
  intro t n_t
  generalize e_t : upd _ t _ = H_t at *
  replace k := k.new' n_t e_t
  clear e_t
  try (simp only [List.set_cons_zero, List.set_cons_succ, List.cons_append, List.nil_append] at k)
  replace k := k.erase 3
  simp only [List.eraseIdx_cons_zero, List.eraseIdx_cons_succ] at k
  replace k := k.erase 2
  simp only [List.eraseIdx_cons_zero, List.eraseIdx_cons_succ] at k
  replace k := k.erase 1
  simp only [List.eraseIdx_cons_zero, List.eraseIdx_cons_succ] at k
  replace k := k.erase 0
  simp only [List.eraseIdx_cons_zero, List.eraseIdx_cons_succ] at k
  exact qv hV x3 x4 x5 hx3 hx4 hx5 t t1 t2 _ k
theorem ln_unseal {K : PySem.W.Frag} {mg : Str → Option Value} (T : Txt K mg) (vs : List V) (H : Hp) (Q : VK) (E : XK) (h : sp_unseal T vs H Q E) : vs.length = 4 := by
  first
    | (obtain ⟨_, rfl, _⟩ := h; rfl)
    | (obtain ⟨_, _, rfl, _⟩ := h; rfl)
    | (obtain ⟨_, _, _, rfl, _⟩ := h; rfl)
    | (obtain ⟨_, _, _, _, rfl, _⟩ := h; rfl)
    | (obtain ⟨_, _, _, _, _, rfl, _⟩ := h; rfl)
    | (obtain ⟨_, _, _, _, _, _, rfl, _⟩ := h; rfl)
    | (obtain ⟨_, _, _, _, _, _, _, rfl, _⟩ := h; rfl)
    | (obtain ⟨_, _, _, _, _, _, _, _, rfl, _⟩ := h; rfl)
theorem ok_unseal {P : Program} {w : World} {K : PySem.W.Frag} {mg : Str → Option Value} {base : Heap} (T : Txt K mg) : FnOk P w K mg base (L2.CX P w) 2 (He.ga K "unseal") T.d_unseal ["sector", "kind", "disk", "row"] (sp_unseal T) :=
  T.F_unseal.ok sc_unseal (ln_unseal T) (fun cdv A outer s H vs Q E hr h => ⟨_, tm_unseal T hr, pr_unseal T vs H Q E h⟩)

/-- the pot: the script's copy at l, the place, the cell, the seed -/
def PotO (l : Addr) (o : HO) : Prop := ∃ i c s : Int, o = .lst [.ref l, .int i, .int c, .int s] ∧ 0 ≤ i ∧ 0 ≤ c ∧ 0 ≤ s
def sp__law_pot {K : PySem.W.Frag} {mg : Str → Option Value} (_ : Txt K mg) : Sp := fun vs H Q _ => ∃ (a : Addr) (ns : List Int), vs = [.ref a] ∧ SqL K H a (ns.map V.int) ∧ ns.length ≤ 63 ∧
  ∀ (p l : Addr) (o : HO) (H' : Hp), H l = none → upd H l (.lst (ns.map V.int)) p = none → PotO l o → H' = upd (upd H l (.lst (ns.map V.int))) p o → Q (.ref p) H'
def rd__law_pot {K : PySem.W.Frag} {mg : Str → Option Value} (T : Txt K mg) (E : XK) : TS :=
  (tSeq (tAsg (tC (.int 1)) (gName 1))
    (tSeq (tFor (iList K (tVar 0)) (gName 2) (tAsg (tOp aMod (tCB rInt1 (tCons (tOp aAdd (tOp aMul (tVar 1) (tC (.int 31))) (tVar 2)) tNil)) (tC (.int 2147483647))) (gName 1)))
    (tRet (tLst (tCons (tCB (rListOf K) (tCons (tVar 0) tNil)) (tCons (tC (.int 0)) (tCons (tC (.int 0)) (tCons (tVar 1) tNil))))))))
set_option maxHeartbeats 4000000 in
theorem tm__law_pot {P : Program} {w : World} {K : PySem.W.Frag} {mg : Str → Option Value} {base : Heap} (T : Txt K mg) {f : Addr} {cdv : Value} {A : Around} {outer : List Env} {s : Shared} {H : Hp} {E : XK} (hr : Room 0 (A.deeper (envOfC "_law_pot" (defScope s__law_pot) s.heap.objs.size f cdv))) :
    PSs (cxOf (L2.CX P w) P w K mg base nm__law_pot "_law_pot" (defScope s__law_pot) f cdv A outer s H E) (defBody s__law_pot) (rd__law_pot T E) :=
  (pss_cons (ps_set (i := 1) sc__law_pot.nd rfl (by first | exact Or.inl rfl | exact Or.inr rfl) pe_int)
    (pss_cons (ps_for (passes_of rfl) rfl (pi_list (pv 0)) (pg_name (i := 2) sc__law_pot.nd rfl (by first | exact Or.inl rfl | exact Or.inr rfl)) (pss_one (ps_set (i := 1) sc__law_pot.nd rfl (by first | exact Or.inl rfl | exact Or.inr rfl) (pe_op op_mod (pe_callTy call_int1 (by rfl) T.z_int (by decide +kernel) (pa_cons (pe_op op_add (pe_op op_mul (pv 1) pe_int) (pv 2)) pa_nil)) pe_int))))
    (pss_one (ps_ret (pe_lst (pa_cons (pe_callTy call_list_of (by rfl) T.z_list (by decide +kernel) (pa_cons (pv 0) pa_nil)) (pa_cons pe_int (pa_cons pe_int (pa_cons (pv 1) pa_nil)))))))))
theorem pr__law_pot {K : PySem.W.Frag} {mg : Str → Option Value} (T : Txt K mg) (vs : List V) (H : Hp) (Q : VK) (E : XK) (h : sp__law_pot T vs H Q E) : rd__law_pot T E ⟨fun _ H' => Q .non H', Q, fun _ _ => False, fun _ _ => False⟩ (start nm__law_pot vs) H := by
  obtain ⟨a, ns, rfl, hS, hl, q⟩ := h
  show rd__law_pot T E _ [some _, none, none] H
  unfold rd__law_pot
  walk_at "rd"
  walk_at "sq"
  refine ⟨_, rfl, a, rfl, ⟨_, hS⟩, for_list (K := K) (a := a) (xs := ns.map V.int) (fun i σ H' => H' = H ∧ ∃ (x : Option V) (s : Int), 0 ≤ s ∧ σ = [some (.ref a), some (.int s), x])
    ⟨rfl, none, 1, by decide, rfl⟩ (fun i σ H' _ ⟨e, _⟩ => e ▸ hS) ?_ ?_⟩
  · rintro i x σ H' hi ⟨rfl, x0, s, hs, rfl⟩
    obtain ⟨z, rfl⟩ : ∃ z, x = V.int z := by
      rw [List.getElem?_map] at hi
      cases e : ns[i]? with
      | none => rw [e] at hi; cases hi
      | some z => rw [e] at hi; exact ⟨z, (Option.some.inj hi).symm⟩
    walk_at "rd"
    exact ⟨rfl, some (.int z), _, by omega, rfl⟩
  · rintro σ H' ⟨rfl, x0, s, hs, rfl⟩
    walk_at "rd"
    refine ⟨a, ns.map V.int, rfl, .inl hS, fun l nl => ?_⟩
    walk_at "rd"
    refine ⟨szl (by simp), fun p np => ?_⟩
    exact q p l _ _ nl np ⟨0, 0, s, rfl, by decide, by decide, hs⟩ rfl
theorem ln__law_pot {K : PySem.W.Frag} {mg : Str → Option Value} (T : Txt K mg) (vs : List V) (H : Hp) (Q : VK) (E : XK) (h : sp__law_pot T vs H Q E) : vs.length = 1 := by
  first
    | (obtain ⟨_, rfl, _⟩ := h; rfl)
    | (obtain ⟨_, _, rfl, _⟩ := h; rfl)
    | (obtain ⟨_, _, _, rfl, _⟩ := h; rfl)
    | (obtain ⟨_, _, _, _, rfl, _⟩ := h; rfl)
    | (obtain ⟨_, _, _, _, _, rfl, _⟩ := h; rfl)
    | (obtain ⟨_, _, _, _, _, _, rfl, _⟩ := h; rfl)
    | (obtain ⟨_, _, _, _, _, _, _, rfl, _⟩ := h; rfl)
    | (obtain ⟨_, _, _, _, _, _, _, _, rfl, _⟩ := h; rfl)
theorem ok__law_pot {P : Program} {w : World} {K : PySem.W.Frag} {mg : Str → Option Value} {base : Heap} (T : Txt K mg) : FnOk P w K mg base (L2.CX P w) 1 (He.ga K "_law_pot") T.d__law_pot ["_law_script"] (sp__law_pot T) :=
  T.F__law_pot.ok sc__law_pot (ln__law_pot T) (fun cdv A outer s H vs Q E hr h => ⟨_, tm__law_pot T hr, pr__law_pot T vs H Q E h⟩)
def sp__law_next {K : PySem.W.Frag} {mg : Str → Option Value} (_ : Txt K mg) : Sp := fun vs H Q _ => ∃ (a l : Addr) (ns : List Int) (lim : Int) (o : HO), vs = [.ref a, .int lim] ∧ 0 < lim ∧ lim < 4611686018427387904 ∧ H a = some o ∧ PotO l o ∧ SqL K H l (ns.map V.int) ∧ l ≠ a ∧
  ∀ (r : Int) (o' : HO), 0 ≤ r → r < lim → PotO l o' → Q (.int r) (upd H a o')
def rd__law_next {K : PySem.W.Frag} {mg : Str → Option Value} (T : Txt K mg) (E : XK) : TS :=
  (tSeq (tIfS (tAnd (tTest (tOp rEq (tOp (rIxL K) (tVar 0) (tC (.int 2))) (tC (.int 0)))) (tTest (tOp aLt (tOp (rIxL K) (tVar 0) (tC (.int 1))) (tCB (Pp.rLen K) (tCons (tOp (rIxL K) (tVar 0) (tC (.int 0))) tNil))))) (tSeq (tAsg (tCB rAbs (tCons (tCB rInt1 (tCons (tOp (rIxL K) (tOp (rIxL K) (tVar 0) (tC (.int 0))) (tOp (rIxL K) (tVar 0) (tC (.int 1)))) tNil)) tNil)) (gName 2))
    (tSeq (tAsg (tOp aAdd (tOp (rIxL K) (tVar 0) (tC (.int 1))) (tC (.int 1))) (gSub (tVar 0) (tC (.int 1)) rSetL))
    (tSeq (tIfS (tTest (tOp aLt (tVar 2) (tOp aPow (tC (.int 10)) (tC (.int 18))))) (tRet (tOp aMod (tCB rInt1 (tCons (tVar 2) tNil)) (tVar 1))) tNext)
    (tAsg (tVar 2) (gSub (tVar 0) (tC (.int 2)) rSetL))))) tNext)
    (tSeq (tIfS (tTest (tOp aGt (tOp (rIxL K) (tVar 0) (tC (.int 2))) (tC (.int 0)))) (tSeq (tAsg (tOp aMod (tCB rInt1 (tCons (tOp (rIxL K) (tVar 0) (tC (.int 2))) tNil)) (tVar 1)) (gName 3))
    (tSeq (tAsg (tOp aDiv (tOp (rIxL K) (tVar 0) (tC (.int 2))) (tVar 1)) (gSub (tVar 0) (tC (.int 2)) rSetL))
    (tRet (tVar 3)))) tNext)
    (tSeq (tAsg (tOp aMod (tCB rInt1 (tCons (tOp aAdd (tOp aMul (tOp (rIxL K) (tVar 0) (tC (.int 3))) (tC (.int 48271))) (tC (.int 12345))) tNil)) (tC (.int 2147483647))) (gSub (tVar 0) (tC (.int 3)) rSetL))
    (tSeq (tAsg (tOp aMod (tCB rInt1 (tCons (tOp aAdd (tOp aMul (tOp (rIxL K) (tVar 0) (tC (.int 3))) (tC (.int 69621))) (tOp aDiv (tOp (rIxL K) (tVar 0) (tC (.int 3))) (tC (.int 127)))) tNil)) (tC (.int 2147483629))) (gName 4))
    (tRet (tOp aMod (tCB rInt1 (tCons (tVar 4) tNil)) (tVar 1)))))))
set_option maxHeartbeats 4000000 in
theorem tm__law_next {P : Program} {w : World} {K : PySem.W.Frag} {mg : Str → Option Value} {base : Heap} (T : Txt K mg) {f : Addr} {cdv : Value} {A : Around} {outer : List Env} {s : Shared} {H : Hp} {E : XK} (hr : Room 0 (A.deeper (envOfC "_law_next" (defScope s__law_next) s.heap.objs.size f cdv))) :
    PSs (cxOf (L2.CX P w) P w K mg base nm__law_next "_law_next" (defScope s__law_next) f cdv A outer s H E) (defBody s__law_next) (rd__law_next T E) :=
  (pss_cons (ps_if (PW.pt (pw_and (pt_cmpR op_eq (pe_ix ix_list (pv 0) pe_int (fun _ _ => rfl)) pe_int (nomark _)) (pw_and1 (pt_cmpR op_lt (pe_ix ix_list (pv 0) pe_int (fun _ _ => rfl)) (pe_callB call_len_seq (by rfl) T.z_len (by decide +kernel) (pa_cons (pe_ix ix_list (pv 0) pe_int (fun _ _ => rfl)) pa_nil)) (nomark _))))) (pss_cons (ps_set (i := 2) sc__law_next.nd rfl (by first | exact Or.inl rfl | exact Or.inr rfl) (pe_callB call_abs (by rfl) T.z_abs (by decide +kernel) (pa_cons (pe_callTy call_int1 (by rfl) T.z_int (by decide +kernel) (pa_cons (pe_ix ix_list (pe_ix ix_list (pv 0) pe_int (fun _ _ => rfl)) (pe_ix ix_list (pv 0) pe_int (fun _ _ => rfl)) (fun _ _ => rfl)) pa_nil)) pa_nil)))
    (pss_cons (ps_asg (pe_op op_add (pe_ix ix_list (pv 0) pe_int (fun _ _ => rfl)) pe_int) (pg_sub (pv 0) pe_int set_list))
    (pss_cons (ps_if (pt_cmpR op_lt (pv 2) (pe_op op_pow pe_int pe_int) (nomark _)) (pss_one (ps_ret (pe_op op_mod (pe_callTy call_int1 (by rfl) T.z_int (by decide +kernel) (pa_cons (pv 2) pa_nil)) (pv 1)))) pss_nil)
    (pss_one (ps_asg (pv 2) (pg_sub (pv 0) pe_int set_list)))))) pss_nil)
    (pss_cons (ps_if (pt_cmpR op_gt (pe_ix ix_list (pv 0) pe_int (fun _ _ => rfl)) pe_int (nomark _)) (pss_cons (ps_set (i := 3) sc__law_next.nd rfl (by first | exact Or.inl rfl | exact Or.inr rfl) (pe_op op_mod (pe_callTy call_int1 (by rfl) T.z_int (by decide +kernel) (pa_cons (pe_ix ix_list (pv 0) pe_int (fun _ _ => rfl)) pa_nil)) (pv 1)))
    (pss_cons (ps_asg (pe_op op_fdivW (pe_ix ix_list (pv 0) pe_int (fun _ _ => rfl)) (pv 1)) (pg_sub (pv 0) pe_int set_list))
    (pss_one (ps_ret (pv 3))))) pss_nil)
    (pss_cons (ps_asg (pe_op op_mod (pe_callTy call_int1 (by rfl) T.z_int (by decide +kernel) (pa_cons (pe_op op_add (pe_op op_mul (pe_ix ix_list (pv 0) pe_int (fun _ _ => rfl)) pe_int) pe_int) pa_nil)) pe_int) (pg_sub (pv 0) pe_int set_list))
    (pss_cons (ps_set (i := 4) sc__law_next.nd rfl (by first | exact Or.inl rfl | exact Or.inr rfl) (pe_op op_mod (pe_callTy call_int1 (by rfl) T.z_int (by decide +kernel) (pa_cons (pe_op op_add (pe_op op_mul (pe_ix ix_list (pv 0) pe_int (fun _ _ => rfl)) pe_int) (pe_op op_fdivW (pe_ix ix_list (pv 0) pe_int (fun _ _ => rfl)) pe_int)) pa_nil)) pe_int))
    (pss_one (ps_ret (pe_op op_mod (pe_callTy call_int1 (by rfl) T.z_int (by decide +kernel) (pa_cons (pv 4) pa_nil)) (pv 1))))))))
theorem pr__law_next {K : PySem.W.Frag} {mg : Str → Option Value} (T : Txt K mg) (vs : List V) (H : Hp) (Q : VK) (E : XK) (h : sp__law_next T vs H Q E) : rd__law_next T E ⟨fun _ H' => Q .non H', Q, fun _ _ => False, fun _ _ => False⟩ (start nm__law_next vs) H := by
  obtain ⟨a, l, ns, lim, o, rfl, h0, h1, ha, ⟨i, c, s, rfl, hi, hc, hs⟩, hL, hne, q⟩ := h
  have ix : ∀ {xs : List V} {j : Int} {v : V} {Q : VK} {H : Hp}, H a = some (.lst xs) → atI xs j = some v → Q v H → rIxL K (.ref a) (.int j) H Q := fun h1 h2 h3 => ⟨a, _, _, _, rfl, rfl, .inl (.inl h1), h2, h3⟩
  have st : ∀ {xs : List V} {j : Int} {m : Nat} {v : V} {Q : Hp → Prop} {H : Hp}, H a = some (.lst xs) → ixN xs.length j = some m → Q (upd H a (.lst (xs.set m v))) → rSetL (.ref a) (.int j) v H Q := fun h1 h2 h3 => ⟨a, _, _, _, rfl, rfl, h1, h2, h3⟩
  show rd__law_next T E _ [some _, some _, none, none, none] H
  unfold rd__law_next
  -- the second half, from any pot with the cell read or not
  have second : ∀ (H : Hp) (i c s : Int) (x1 x2 x3 : Option V), H a = some (.lst [.ref l, .int i, .int c, .int s]) → 0 ≤ i → 0 ≤ c → 0 ≤ s →
      (∀ (r : Int) (o' : HO), 0 ≤ r → r < lim → PotO l o' → Q (.int r) (upd H a o')) →
      tSeq (tIfS (tTest (tOp aGt (tOp (rIxL K) (tVar 0) (tC (.int 2))) (tC (.int 0)))) (tSeq (tAsg (tOp aMod (tCB rInt1 (tCons (tOp (rIxL K) (tVar 0) (tC (.int 2))) tNil)) (tVar 1)) (gName 3)) (tSeq (tAsg (tOp aDiv (tOp (rIxL K) (tVar 0) (tC (.int 2))) (tVar 1)) (gSub (tVar 0) (tC (.int 2)) rSetL)) (tRet (tVar 3)))) tNext)
        (tSeq (tAsg (tOp aMod (tCB rInt1 (tCons (tOp aAdd (tOp aMul (tOp (rIxL K) (tVar 0) (tC (.int 3))) (tC (.int 48271))) (tC (.int 12345))) tNil)) (tC (.int 2147483647))) (gSub (tVar 0) (tC (.int 3)) rSetL))
          (tSeq (tAsg (tOp aMod (tCB rInt1 (tCons (tOp aAdd (tOp aMul (tOp (rIxL K) (tVar 0) (tC (.int 3))) (tC (.int 69621))) (tOp aDiv (tOp (rIxL K) (tVar 0) (tC (.int 3))) (tC (.int 127)))) tNil)) (tC (.int 2147483629))) (gName 4))
            (tRet (tOp aMod (tCB rInt1 (tCons (tVar 4) tNil)) (tVar 1)))))
        ⟨fun _ H' => Q .non H', Q, fun _ _ => False, fun _ _ => False⟩ [some (.ref a), some (.int lim), x1, x2, x3] H := by
    intro H i c s x1 x2 x3 ha hi hc hs q
    walk_at "sq"
    walk_at "rd"
    refine' ix ha ?xx ?_; (case xx => exact rfl)
    walk_at "rd"
    refine rd_ite (fun hp => ?_) (fun hp => ?_)
    · walk_at "rd"
      refine' ix ha ?xx ?_; (case xx => exact rfl)
      walk_at "rd"
      refine' ix ha ?xx ?_; (case xx => exact rfl)
      walk_at "rd"
      refine' st ha ?xx ?_; (case xx => exact rfl)
      walk_at "rd"
      exact q _ _ (Int.emod_nonneg _ (by omega)) (Int.emod_lt_of_pos _ h0) ⟨i, c / lim, s, rfl, hi, Int.ediv_nonneg hc (by omega), hs⟩
    · walk_at "rd"
      refine' ix ha ?xx ?_; (case xx => exact rfl)
      walk_at "rd"
      refine' st ha ?xx ?_; (case xx => exact rfl)
      walk_at "rd"
      refine' ix upd_same ?xx ?_; (case xx => exact rfl)
      walk_at "rd"
      refine' ix upd_same ?xx ?_; (case xx => exact rfl)
      walk_at "rd"
      exact q _ _ (Int.emod_nonneg _ (by omega)) (Int.emod_lt_of_pos _ h0) ⟨i, c, _, rfl, hi, hc, by omega⟩
  walk_at "sq"
  walk_at "rd"
  refine' ix ha ?xx ?_; (case xx => exact rfl)
  walk_at "rd"
  have sec := second H i c s none none none ha hi hc hs q
  refine rd_ite (fun hp => ?_) (fun hp => ?_)
  · walk_at "rd"
    refine' ix ha ?xx ?_; (case xx => exact rfl)
    walk_at "rd"
    refine' ix ha ?xx ?_; (case xx => exact rfl)
    walk_at "rd"
    refine ⟨l, _, rfl, .inl hL, ?_⟩
    walk_at "rd"
    refine rd_ite (fun hp2 => ?_) (fun hp2 => ?_)
    · rw [List.length_map] at hp2
      walk_at "rd"
      refine' ix ha ?xx ?_; (case xx => exact rfl)
      walk_at "rd"
      refine' ix ha ?xx ?_; (case xx => exact rfl)
      obtain ⟨z, hz⟩ : ∃ z, ns[i.toNat]? = some z := ⟨_, List.getElem?_eq_getElem (show i.toNat < ns.length by omega)⟩
      refine ⟨l, _, i, .int z, rfl, rfl, hL, atI_of hi (by rw [List.getElem?_map, hz]; rfl), ?_⟩
      walk_at "rd"
      refine' ix ha ?xx ?_; (case xx => exact rfl)
      walk_at "rd"
      refine' st ha ?xx ?_; (case xx => exact rfl)
      walk_at "rd"
      have hcell : 0 ≤ (if z < 0 then -z else z) := by split <;> omega
      generalize (if z < 0 then -z else z) = cell at *
      walk_at "sq"
      walk_at "rd"
      refine rd_ite (fun hp3 => ?_) (fun hp3 => ?_)
      · walk_at "rd"
        exact q _ _ (Int.emod_nonneg _ (by omega)) (Int.emod_lt_of_pos _ h0) ⟨i + 1, c, s, rfl, by omega, hc, hs⟩
      · walk_at "rd"
        refine' st upd_same ?xx ?_; (case xx => exact rfl)
        exact second _ (i + 1) cell s _ _ _ upd_same (by omega) hcell hs (fun r o' a1 a2 a3 => by rw [upd_upd, upd_upd]; exact q r o' a1 a2 a3)
    · exact rd_next sec
  · exact rd_next sec
theorem ln__law_next {K : PySem.W.Frag} {mg : Str → Option Value} (T : Txt K mg) (vs : List V) (H : Hp) (Q : VK) (E : XK) (h : sp__law_next T vs H Q E) : vs.length = 2 := by
  first
    | (obtain ⟨_, rfl, _⟩ := h; rfl)
    | (obtain ⟨_, _, rfl, _⟩ := h; rfl)
    | (obtain ⟨_, _, _, rfl, _⟩ := h; rfl)
    | (obtain ⟨_, _, _, _, rfl, _⟩ := h; rfl)
    | (obtain ⟨_, _, _, _, _, rfl, _⟩ := h; rfl)
    | (obtain ⟨_, _, _, _, _, _, rfl, _⟩ := h; rfl)
    | (obtain ⟨_, _, _, _, _, _, _, rfl, _⟩ := h; rfl)
    | (obtain ⟨_, _, _, _, _, _, _, _, rfl, _⟩ := h; rfl)
theorem ok__law_next {P : Program} {w : World} {K : PySem.W.Frag} {mg : Str → Option Value} {base : Heap} (T : Txt K mg) : FnOk P w K mg base (L2.CX P w) 1 (He.ga K "_law_next") T.d__law_next ["_law_pot_here", "_law_limit"] (sp__law_next T) :=
  T.F__law_next.ok sc__law_next (ln__law_next T) (fun cdv A outer s H vs Q E hr h => ⟨_, tm__law_next T hr, pr__law_next T vs H Q E h⟩)
/-- a draw -/
theorem next_step {K : PySem.W.Frag} {mg : Str → Option Value} (T : Txt K mg) {H0 H : Hp} {M : List Addr} {L : List Cell} {F : List Fact} {Q : VK} {E : XK} {a l : Addr} {o : HO} {lim : Int} {ns : List Int} (k : Kn K H0 M H L F) (h : L[0]? = some (a, o)) (hp : PotO l o)
    (hf : L[1]? = some (l, .lst (ns.map V.int))) (h0 : 0 < lim) (h1 : lim < 4611686018427387904)
    (q : ∀ (r : Int) (o' : HO), 0 ≤ r → r < lim → PotO l o' → Kn K H0 M (upd H a o') (L.set 0 (a, o')) F → Q (.int r) (upd H a o')) : sp__law_next T [.ref a, .int lim] H Q E := by
  refine ⟨a, l, ns, lim, o, rfl, h0, h1, k.at 0 h, hp, .inl (.inl (k.at 1 hf)), ?_, fun r o' a1 a2 a3 => q r o' a1 a2 a3 (k.set 0 h)⟩
  rintro rfl
  have e1 : (L.map (·.1))[0]? = some l := by rw [List.getElem?_map, h]; rfl
  have e2 : (L.map (·.1))[1]? = some l := by rw [List.getElem?_map, hf]; rfl
  exact absurd (nd_ix k.nd e1 e2) (by decide)
/-- the pot is made -/
theorem pot_step {K : PySem.W.Frag} {mg : Str → Option Value} (T : Txt K mg) {H : Hp} {Q : VK} {E : XK} {a : Addr} {ns : List Int} (hS : SqL K H a (ns.map V.int)) (hl : ns.length ≤ 63)
    (q : ∀ (p l : Addr) (o : HO) (H' : Hp), PotO l o → Le H H' → Kn K H' [p, l] H' [(p, o), (l, .lst (ns.map V.int))] [] → Q (.ref p) H') : sp__law_pot T [.ref a] H Q E := by
  refine ⟨a, ns, rfl, hS, hl, fun p l o H' nl np hp e => q p l o H' hp (e ▸ (le_new nl).trans (le_new np)) ?_⟩
  subst e
  have ne : p ≠ l := fun z => by subst z; rw [upd_same] at np; cases np
  refine ⟨fun c hc => ?_, by simp [ne], fun c hc => .inr ?_, fun _ _ e _ => e, fun _ h => (nomatch h)⟩
  · rcases List.mem_cons.mp hc with rfl | hc
    · exact upd_same
    · obtain rfl := List.mem_singleton.mp hc
      show upd (upd H l _) p o l = _
      rw [upd_ne ne.symm]; exact upd_same
  · rcases List.mem_cons.mp hc with rfl | hc
    · simp
    · obtain rfl := List.mem_singleton.mp hc
      simp
/-! a def that draws: what it is given, what it leaves -/
structure PIn (H : Hp) (a l : Addr) (ns : List Int) (o : HO) : Prop where
  at0 : H a = some o
  pot : PotO l o
  at1 : H l = some (.lst (ns.map V.int))
  ne : l ≠ a
structure POut (H H' : Hp) (a l : Addr) (o : HO) : Prop where
  pot : PotO l o
  but : LeBut a H H'
  at0 : H' a = some o
section
variable {K : PySem.W.Frag} {H0 H H' : Hp} {M : List Addr} {L : List Cell} {F : List Fact} {a l p : Addr} {ns : List Int} {o o' x : HO}
theorem pin_of (k : Kn K H0 M H L F) (hp : PotO l o) (h0 : L[0]? = some (a, o)) (h1 : L[1]? = some (l, .lst (ns.map V.int))) : PIn H a l ns o := by
  refine ⟨k.at 0 h0, hp, k.at 1 h1, ?_⟩
  rintro rfl
  exact absurd (nd_ix k.nd (x := l) (by rw [List.getElem?_map, h0]; rfl) (by rw [List.getElem?_map, h1]; rfl)) (by decide)
theorem pout_kn (k : Kn K H0 M H L F) (h0 : L[0]? = some (a, o)) (P : POut H H' a l o') : Kn K H0 M H' (L.set 0 (a, o')) F := k.but 0 h0 P.but P.at0
theorem pout_new (k : Kn K H0 M H L F) (h0 : L[0]? = some (a, o)) (P : POut H H' a l o') (n : H p = none) (e : H' p = some x) : Kn K H0 M H' (L.set 0 (a, o') ++ [(p, x)]) F := k.pret 0 h0 n P.but P.at0 e
theorem pin_kn (P : PIn H a l ns o) : Kn K H [a, l] H [(a, o), (l, .lst (ns.map V.int))] [] := by
  refine ⟨fun c hc => ?_, by simp [P.ne.symm], fun c hc => .inr ?_, fun _ _ e _ => e, fun _ h => (nomatch h)⟩
  · rcases List.mem_cons.mp hc with rfl | hc
    · exact P.at0
    · obtain rfl := List.mem_singleton.mp hc; exact P.at1
  · rcases List.mem_cons.mp hc with rfl | hc
    · simp
    · obtain rfl := List.mem_singleton.mp hc; simp
theorem pout_of (P : PIn H a l ns o) (k : Kn K H [a, l] H' L F) (hp : PotO l o') (h0 : L[0]? = some (a, o')) (h1 : L[1]? = some (l, .lst (ns.map V.int))) : POut H H' a l o' := by
  refine ⟨hp, fun b u hb e => ?_, k.at 0 h0⟩
  by_cases hl : b = l
  · subst hl
    rw [P.at1] at e; cases e
    exact k.at 1 h1
  · exact k.fr b u e (by simp [hb, hl])
theorem pnew_of (k : Kn K H [a, l] H' L F) (i : Nat) (h0 : L[0]? = some (a, o)) (h1 : L[1]? = some (l, o')) (h : L[i]? = some (p, x)) (hi : 2 ≤ i) : H p = none := by
  rcases k.own _ (List.mem_of_getElem? h) with z | z
  · exact z
  · have e : p = a ∨ p = l := by simpa using z
    rcases e with rfl | rfl
    · exact absurd (nd_ix k.nd (x := p) (by rw [List.getElem?_map, h]; rfl) (by rw [List.getElem?_map, h0]; rfl)) (by omega)
    · exact absurd (nd_ix k.nd (x := p) (by rw [List.getElem?_map, h]; rfl) (by rw [List.getElem?_map, h1]; rfl)) (by omega)
end

def sp__law_word {K : PySem.W.Frag} {mg : Str → Option Value} (_ : Txt K mg) : Sp := fun vs H Q _ => ∃ (a l : Addr) (ns : List Int) (o : HO), vs = [.ref a] ∧ PIn H a l ns o ∧
  ∀ (r : Int) (o' : HO) (H' : Hp), 0 ≤ r → r < 65521 → POut H H' a l o' → Q (.int r) H'
def rd__law_word {K : PySem.W.Frag} {mg : Str → Option Value} (T : Txt K mg) (E : XK) : TS :=
  (tSeq (tAsg (tCall (sp__law_next T) [] E (tCons (tVar 0) (tCons (tC (.int 8)) tNil))) (gName 1))
    (tSeq (tIfS (tTest (tOp rEq (tVar 1) (tC (.int 0)))) (tRet (tC (.int 0))) tNext)
    (tSeq (tIfS (tTest (tOp rEq (tVar 1) (tC (.int 1)))) (tRet (tOp aSub (tC (.int 65520)) (tCall (sp__law_next T) [] E (tCons (tVar 0) (tCons (tC (.int 3)) tNil))))) tNext)
    (tSeq (tIfS (tTest (tOp aLt (tVar 1) (tC (.int 5)))) (tRet (tCall (sp__law_next T) [] E (tCons (tVar 0) (tCons (tC (.int 9)) tNil)))) tNext)
    (tRet (tCall (sp__law_next T) [] E (tCons (tVar 0) (tCons (tC (.int 65521)) tNil))))))))
set_option maxHeartbeats 4000000 in
theorem tm__law_word {P : Program} {w : World} {K : PySem.W.Frag} {mg : Str → Option Value} {base : Heap} (T : Txt K mg) {f : Addr} {cdv : Value} {A : Around} {outer : List Env} {s : Shared} {H : Hp} {E : XK} (hr : Room 1 (A.deeper (envOfC "_law_word" (defScope s__law_word) s.heap.objs.size f cdv))) :
    PSs (cxOf (L2.CX P w) P w K mg base nm__law_word "_law_word" (defScope s__law_word) f cdv A outer s H E) (defBody s__law_word) (rd__law_word T E) :=
  (pss_cons (ps_set (i := 1) sc__law_word.nd rfl (by first | exact Or.inl rfl | exact Or.inr rfl) (pe_call (E := E) (ok__law_next T) (hr.mono (by decide)) rfl T.g__law_next T.F__law_next.kp (b__law_next T) .nil (passes_call (takes_of rfl rfl rfl rfl) (fun _ _ _ _ h => h)) (pa_cons (pv 0) (pa_cons pe_int pa_nil))))
    (pss_cons (ps_if (pt_cmpR op_eq (pv 1) pe_int (nomark _)) (pss_one (ps_ret pe_int)) pss_nil)
    (pss_cons (ps_if (pt_cmpR op_eq (pv 1) pe_int (nomark _)) (pss_one (ps_ret (pe_op op_sub pe_int (pe_call (E := E) (ok__law_next T) (hr.mono (by decide)) rfl T.g__law_next T.F__law_next.kp (b__law_next T) .nil (passes_call (takes_of rfl rfl rfl rfl) (fun _ _ _ _ h => h)) (pa_cons (pv 0) (pa_cons pe_int pa_nil)))))) pss_nil)
    (pss_cons (ps_if (pt_cmpR op_lt (pv 1) pe_int (nomark _)) (pss_one (ps_ret (pe_call (E := E) (ok__law_next T) (hr.mono (by decide)) rfl T.g__law_next T.F__law_next.kp (b__law_next T) .nil (passes_call (takes_of rfl rfl rfl rfl) (fun _ _ _ _ h => h)) (pa_cons (pv 0) (pa_cons pe_int pa_nil))))) pss_nil)
    (pss_one (ps_ret (pe_call (E := E) (ok__law_next T) (hr.mono (by decide)) rfl T.g__law_next T.F__law_next.kp (b__law_next T) .nil (passes_call (takes_of rfl rfl rfl rfl) (fun _ _ _ _ h => h)) (pa_cons (pv 0) (pa_cons pe_int pa_nil)))))))))
theorem pr__law_word {K : PySem.W.Frag} {mg : Str → Option Value} (T : Txt K mg) (vs : List V) (H : Hp) (Q : VK) (E : XK) (h : sp__law_word T vs H Q E) : rd__law_word T E ⟨fun _ H' => Q .non H', Q, fun _ _ => False, fun _ _ => False⟩ (start nm__law_word vs) H := by
  obtain ⟨a, l, ns, o, rfl, P, q⟩ := h
  have k := pin_kn (K := K) P
  have hp := P.pot
  show rd__law_word T E _ [some _, none] H
  unfold rd__law_word
  walk_at "rd"
  refine next_step T k rfl hp rfl (by first | decide | omega) (by first | decide | omega) fun r o_r r0 r1 hp k => ?_
  generalize upd _ _ _ = H_r at *
  try (simp only [List.set_cons_zero, List.set_cons_succ, List.cons_append, List.nil_append] at k)
  walk_at "rd"
  walk_at "rd"
  walk_at "sq"
  walk_at "rd"
  walk_at "if2"
  · walk_at "rd"
    exact q _ _ _ (by decide) (by decide) (pout_of P k hp rfl rfl)
  walk_at "rd"
  walk_at "sq"
  walk_at "rd"
  walk_at "if2"
  · walk_at "rd"
    refine next_step T k rfl hp rfl (by first | decide | omega) (by first | decide | omega) fun s o_s s0 s1 hp k => ?_
    generalize upd _ _ _ = H_s at *
    try (simp only [List.set_cons_zero, List.set_cons_succ, List.cons_append, List.nil_append] at k)
    walk_at "rd"
    exact q _ _ _ (by omega) (by omega) (pout_of P k hp rfl rfl)
  walk_at "rd"
  walk_at "sq"
  walk_at "rd"
  walk_at "if2"
  · walk_at "rd"
    refine next_step T k rfl hp rfl (by first | decide | omega) (by first | decide | omega) fun s o_s s0 s1 hp k => ?_
    generalize upd _ _ _ = H_s at *
    try (simp only [List.set_cons_zero, List.set_cons_succ, List.cons_append, List.nil_append] at k)
    walk_at "rd"
    exact q _ _ _ (by omega) (by omega) (pout_of P k hp rfl rfl)
  walk_at "rd"
  refine next_step T k rfl hp rfl (by first | decide | omega) (by first | decide | omega) fun s o_s s0 s1 hp k => ?_
  generalize upd _ _ _ = H_s at *
  try (simp only [List.set_cons_zero, List.set_cons_succ, List.cons_append, List.nil_append] at k)
  walk_at "rd"
  exact q _ _ _ (by omega) (by omega) (pout_of P k hp rfl rfl)
theorem ln__law_word {K : PySem.W.Frag} {mg : Str → Option Value} (T : Txt K mg) (vs : List V) (H : Hp) (Q : VK) (E : XK) (h : sp__law_word T vs H Q E) : vs.length = 1 := by
  first
    | (obtain ⟨_, rfl, _⟩ := h; rfl)
    | (obtain ⟨_, _, rfl, _⟩ := h; rfl)
    | (obtain ⟨_, _, _, rfl, _⟩ := h; rfl)
    | (obtain ⟨_, _, _, _, rfl, _⟩ := h; rfl)
    | (obtain ⟨_, _, _, _, _, rfl, _⟩ := h; rfl)
    | (obtain ⟨_, _, _, _, _, _, rfl, _⟩ := h; rfl)
    | (obtain ⟨_, _, _, _, _, _, _, rfl, _⟩ := h; rfl)
    | (obtain ⟨_, _, _, _, _, _, _, _, rfl, _⟩ := h; rfl)
theorem ok__law_word {P : Program} {w : World} {K : PySem.W.Frag} {mg : Str → Option Value} {base : Heap} (T : Txt K mg) : FnOk P w K mg base (L2.CX P w) 2 (He.ga K "_law_word") T.d__law_word ["_law_pot_here"] (sp__law_word T) :=
  T.F__law_word.ok sc__law_word (ln__law_word T) (fun cdv A outer s H vs Q E hr h => ⟨_, tm__law_word T hr, pr__law_word T vs H Q E h⟩)
theorem word_step {K : PySem.W.Frag} {mg : Str → Option Value} (T : Txt K mg) {H0 H : Hp} {M : List Addr} {L : List Cell} {F : List Fact} {Q : VK} {E : XK} {a l : Addr} {o : HO} {ns : List Int} (k : Kn K H0 M H L F) (h : L[0]? = some (a, o)) (hp : PotO l o) (hf : L[1]? = some (l, .lst (ns.map V.int)))
    (q : ∀ (r : Int) (o' : HO) (H' : Hp), 0 ≤ r → r < 65521 → PotO l o' → Kn K H0 M H' (L.set 0 (a, o')) F → Q (.int r) H') : sp__law_word T [.ref a] H Q E :=
  ⟨a, l, ns, o, rfl, pin_of k hp h hf, fun r o' H' h0 h1 P => q r o' H' h0 h1 P.pot (pout_kn k h P)⟩
def sp__law_words {K : PySem.W.Frag} {mg : Str → Option Value} (_ : Txt K mg) : Sp := fun vs H Q _ => ∃ (a l : Addr) (ns : List Int) (o : HO) (c : Int), vs = [.ref a, .int c] ∧ PIn H a l ns o ∧ 0 ≤ c ∧ c ≤ 100000 ∧
  ∀ (ws : List Int) (o' : HO) (p : Addr) (H' : Hp), ws.length = c.toNat → (∀ y ∈ ws, 0 ≤ y ∧ y < 65521) → POut H H' a l o' → H p = none → H' p = some (.lst (ws.map V.int)) → Q (.ref p) H'
def rd__law_words {K : PySem.W.Frag} {mg : Str → Option Value} (T : Txt K mg) (E : XK) : TS :=
  (tRet (tLc (iRng1 (tCons (tVar 1) tNil)) (gName 2) tYes (tCall (sp__law_word T) [] E0 (tCons (tVar 0) tNil)) [2]))
set_option maxHeartbeats 4000000 in
theorem tm__law_words {P : Program} {w : World} {K : PySem.W.Frag} {mg : Str → Option Value} {base : Heap} (T : Txt K mg) {f : Addr} {cdv : Value} {A : Around} {outer : List Env} {s : Shared} {H : Hp} {E : XK} (hr : Room 2 (A.deeper (envOfC "_law_words" (defScope s__law_words) s.heap.objs.size f cdv))) :
    PSs (cxOf (L2.CX P w) P w K mg base nm__law_words "_law_words" (defScope s__law_words) f cdv A outer s H E) (defBody s__law_words) (rd__law_words T E) :=
  (pss_one (ps_ret (pe_lc (own := [("_law_k", 2)]) (g := (gName 2)) (tt := tYes) (te := (tCall (sp__law_word T) [] E0 (tCons (tVar 0) tNil))) rfl sc__law_words.nd (pi_range1 (by rfl) T.z_range (pa_cons (pv 1) pa_nil)) (blkOk_by (own := [("_law_k", 2)]) (N := nm__law_words) (sc := defScope s__law_words) (by decide +kernel)) (fun _ _ _ _ _ => (pg_name (i := 2) sc__law_words.nd rfl (Or.inl rfl))) (fun _ _ _ _ _ => pts_nil) (fun _ _ _ _ _ => (pe_call (E := E0) (ok__law_word T) (hr.mono (by decide)) rfl T.g__law_word T.F__law_word.kp (b__law_word T) .nil passL (pa_cons (pv 0) pa_nil))))))
theorem pr__law_words {K : PySem.W.Frag} {mg : Str → Option Value} (T : Txt K mg) (vs : List V) (H : Hp) (Q : VK) (E : XK) (h : sp__law_words T vs H Q E) : rd__law_words T E ⟨fun _ H' => Q .non H', Q, fun _ _ => False, fun _ _ => False⟩ (start nm__law_words vs) H := by
  obtain ⟨a, l, ns, o, c, rfl, P, c0, c1, q⟩ := h
  have k := pin_kn (K := K) P
  have hp := P.pot
  show rd__law_words T E _ [some _, some _, none] H
  unfold rd__law_words
  walk_at "rd"
  refine ⟨_, rfl, by omega, by omega, ?_⟩
  refine lw_of c.toNat (fun D i H' => ∃ (ws : List Int) (o : HO), ws.length = i ∧ (∀ y ∈ ws, 0 ≤ y ∧ y < 65521) ∧ PotO l o ∧ Kn K H [a, l] H' [(a, o), (l, .lst (ns.map V.int)), (D, .lst (ws.map V.int))] [])
    (fun D hD => ⟨[], o, rfl, (fun _ h => (nomatch h)), hp, k.new hD⟩) (fun D i H' hi _ => hi) (fun D H' _ => Nat.le_refl _) ?_ ?_
  · rintro D i H1 x H2 hi ⟨ws, o, hl, hw, hp, k⟩ ⟨rfl, rfl⟩
    refine rd_name ?_
    refine ⟨rfl, ?_⟩
    walk_at "rd"
    refine word_step T k rfl hp rfl fun r o' H' h0 h1 hp k => ?_
    try (simp only [List.set_cons_zero, List.set_cons_succ] at k)
    refine ⟨_, k.at 2 rfl, szt (by simp; omega), ws ++ [r], o', by simp [hl], fun y hy => ?_, hp, ?_⟩
    · rcases List.mem_append.mp hy with h | h
      · exact hw y h
      · obtain rfl := List.mem_singleton.mp h; exact ⟨h0, h1⟩
    · have := k.set 2 rfl (o' := .lst (ws.map V.int ++ [.int r]))
      simpa using this
  · rintro D H1 hD ⟨ws, o, hl, hw, hp, k⟩
    exact q ws o D H1 hl hw (pout_of P k hp rfl rfl) hD (k.at 2 rfl)
theorem ln__law_words {K : PySem.W.Frag} {mg : Str → Option Value} (T : Txt K mg) (vs : List V) (H : Hp) (Q : VK) (E : XK) (h : sp__law_words T vs H Q E) : vs.length = 2 := by
  first
    | (obtain ⟨_, rfl, _⟩ := h; rfl)
    | (obtain ⟨_, _, rfl, _⟩ := h; rfl)
    | (obtain ⟨_, _, _, rfl, _⟩ := h; rfl)
    | (obtain ⟨_, _, _, _, rfl, _⟩ := h; rfl)
    | (obtain ⟨_, _, _, _, _, rfl, _⟩ := h; rfl)
    | (obtain ⟨_, _, _, _, _, _, rfl, _⟩ := h; rfl)
    | (obtain ⟨_, _, _, _, _, _, _, rfl, _⟩ := h; rfl)
    | (obtain ⟨_, _, _, _, _, _, _, _, rfl, _⟩ := h; rfl)
theorem ok__law_words {P : Program} {w : World} {K : PySem.W.Frag} {mg : Str → Option Value} {base : Heap} (T : Txt K mg) : FnOk P w K mg base (L2.CX P w) 3 (He.ga K "_law_words") T.d__law_words ["_law_pot_here", "_law_count"] (sp__law_words T) :=
  T.F__law_words.ok sc__law_words (ln__law_words T) (fun cdv A outer s H vs Q E hr h => ⟨_, tm__law_words T hr, pr__law_words T vs H Q E h⟩)
theorem words_step {K : PySem.W.Frag} {mg : Str → Option Value} (T : Txt K mg) {H0 H : Hp} {M : List Addr} {L : List Cell} {F : List Fact} {Q : VK} {E : XK} {a l : Addr} {o : HO} {ns : List Int} {c : Int} (k : Kn K H0 M H L F) (h : L[0]? = some (a, o)) (hp : PotO l o) (hf : L[1]? = some (l, .lst (ns.map V.int))) (c0 : 0 ≤ c) (c1 : c ≤ 100000)
    (q : ∀ (ws : List Int) (o' : HO) (p : Addr) (H' : Hp), ws.length = c.toNat → (∀ y ∈ ws, 0 ≤ y ∧ y < 65521) → PotO l o' → Kn K H0 M H' (L.set 0 (a, o') ++ [(p, .lst (ws.map V.int))]) F → Q (.ref p) H') : sp__law_words T [.ref a, .int c] H Q E :=
  ⟨a, l, ns, o, c, rfl, pin_of k hp h hf, c0, c1, fun ws o' p H' h0 h1 P n e => q ws o' p H' h0 h1 P.pot (pout_new k h P n e)⟩

theorem neg_step {K : PySem.W.Frag} {mg : Str → Option Value} (T : Txt K mg) {H0 H : Hp} {M : List Addr} {L : List Cell} {F : List Fact} {Q : VK} {E : XK} {a : Addr} {ws : List Int} {kind disk row : Int} (k : Kn K H0 M H L F) (hS : SqL K H a (ws.map V.int)) (hn : ¬ Sl.Valid ws kind disk row)
    (q : ∀ H', Kn K H0 M H' L F → Q .non H') : sp_unseal T [.ref a, .int kind, .int disk, .int row] H Q E :=
  ⟨_, kind, disk, row, rfl, .inr ⟨a, ws, rfl, hS, fun _ H' le => q H' (k.grow le), fun z => absurd z hn⟩⟩
def sp_law {K : PySem.W.Frag} {mg : Str → Option Value} (_ : Txt K mg) : Sp := fun vs H Q _ => ∃ (a : Addr) (ns : List Int), vs = [.ref a] ∧ SqL K H a (ns.map V.int) ∧ ns.length ≤ 63 ∧ (∀ z ∈ ns, Builtin.Int.intBits z ≤ 1048576) ∧ ∀ H', Q (.bl true) H'
def rd_law {K : PySem.W.Frag} {mg : Str → Option Value} (T : Txt K mg) (E : XK) : TS :=
  (tSeq (tAsg (tCall (sp__law_pot T) [] E (tCons (tVar 0) tNil)) (gName 1))
    (tSeq (tAsg (tOp aAdd (tC (.int 1)) (tCall (sp__law_next T) [] E (tCons (tVar 1) (tCons (tC (.int 3)) tNil)))) (gName 2))
    (tSeq (tAsg (tCall (sp__law_next T) [] E (tCons (tVar 1) (tCons (tC (.int 8)) tNil))) (gName 3))
    (tSeq (tAsg (tCall (sp__law_next T) [] E (tCons (tVar 1) (tCons (tC (.int 4000)) tNil))) (gName 4))
    (tSeq (tAsg (tCall (sp__law_next T) [] E (tCons (tVar 1) (tCons (tC (.int 13)) tNil))) (gName 5))
    (tSeq (tIfS (tTest (tOp rEq (tCall (sp__law_next T) [] E (tCons (tVar 1) (tCons (tC (.int 16)) tNil))) (tC (.int 15)))) (tAsg (tOp aAdd (tC (.int 900)) (tCall (sp__law_next T) [] E (tCons (tVar 1) (tCons (tC (.int 101)) tNil)))) (gName 5)) tNext)
    (tSeq (tAsg (tTup (tCons (tCall (sp__law_next T) [] E (tCons (tVar 1) (tCons (tC (.int 65521)) tNil))) (tCons (tCall (sp__law_next T) [] E (tCons (tVar 1) (tCons (tOp aMul (tC (.int 65521)) (tC (.int 65521))) tNil))) tNil))) (gName 6))
    (tSeq (tAsg (tCall (sp_seal T) [] E (tCons (tVar 2) (tCons (tVar 3) (tCons (tVar 4) (tCons (tVar 6) (tCons (tCall (sp__law_words T) [] E (tCons (tVar 1) (tCons (tVar 5) tNil))) tNil)))))) (gName 7))
    (tSeq (tAsg (tCall (sp__law_next T) [] E (tCons (tVar 1) (tCons (tCB (Pp.rLen K) (tCons (tVar 7) tNil)) tNil))) (gName 8))
    (tSeq (tAsg (tOp aMod (tCB rInt1 (tCons (tOp aAdd (tOp aAdd (tVar 8) (tC (.int 1))) (tCall (sp__law_next T) [] E (tCons (tVar 1) (tCons (tOp aSub (tCB (Pp.rLen K) (tCons (tVar 7) tNil)) (tC (.int 1))) tNil)))) tNil)) (tCB (Pp.rLen K) (tCons (tVar 7) tNil))) (gName 9))
    (tSeq (tIfS (tTest (tOp rEq (tCall (sp__law_next T) [] E (tCons (tVar 1) (tCons (tC (.int 4)) tNil))) (tC (.int 3)))) (tAsg (tOp aSub (tOp aSub (tCB (Pp.rLen K) (tCons (tVar 7) tNil)) (tC (.int 1))) (tCall (sp__law_next T) [] E (tCons (tVar 1) (tCons (tC (.int 2)) tNil)))) (gName 9)) tNext)
    (tSeq (tAsg (tOp aAdd (tC (.int 1)) (tCall (sp__law_next T) [] E (tCons (tVar 1) (tCons (tC (.int 65520)) tNil)))) (gName 10))
    (tSeq (tAsg (tCB (rListOf K) (tCons (tVar 7) tNil)) (gName 11))
    (tSeq (tAsg (tOp aMod (tCB rInt1 (tCons (tOp aAdd (tOp (rIxL K) (tVar 11) (tVar 8)) (tVar 10)) tNil)) (tC (.int 65521))) (gSub (tVar 11) (tVar 8) rSetL))
    (tSeq (tIfS (tTest (tOp rNe (tVar 9) (tVar 8))) (tSeq (tAsg (tOp (rIxL K) (tLst (tCons (tC (.int 0)) (tCons (tOp aSub (tC (.int 65521)) (tVar 10)) (tCons (tVar 10) (tCons (tOp aAdd (tC (.int 1)) (tCall (sp__law_next T) [] E (tCons (tVar 1) (tCons (tC (.int 65520)) tNil)))) tNil))))) (tCall (sp__law_next T) [] E (tCons (tVar 1) (tCons (tC (.int 4)) tNil)))) (gName 12))
    (tAsg (tOp aMod (tCB rInt1 (tCons (tOp aAdd (tOp (rIxL K) (tVar 11) (tVar 9)) (tVar 12)) tNil)) (tC (.int 65521))) (gSub (tVar 11) (tVar 9) rSetL))) tNext)
    (tSeq (tIfS (tTest (tOp rNotNone (tCall (sp_unseal T) [] E (tCons (tVar 11) (tCons (tVar 2) (tCons (tVar 3) (tCons (tVar 4) tNil))))) (tC .non))) (tRet (tC (.bl false))) tNext)
    (tSeq (tIfS (tTest (tOp rNotNone (tCall (sp_unseal T) [] E (tCons (tVar 11) (tCons (tOp (rIxL K) (tVar 11) (tC (.int 0))) (tCons (tOp (rIxL K) (tVar 11) (tC (.int 1))) (tCons (tOp (rIxL K) (tVar 11) (tC (.int 2))) tNil))))) (tC .non))) (tRet (tC (.bl false))) tNext)
    (tSeq (tFor (iRng1 (tCons (tC (.int 4)) tNil)) (gName 13) (tIfS (tTest (tOp rNotNone (tCall (sp_unseal T) [] E (tCons (tVar 11) (tCons (tOp aAdd (tC (.int 1)) (tCall (sp__law_next T) [] E (tCons (tVar 1) (tCons (tC (.int 3)) tNil)))) (tCons (tCall (sp__law_next T) [] E (tCons (tVar 1) (tCons (tC (.int 8)) tNil))) (tCons (tCall (sp__law_next T) [] E (tCons (tVar 1) (tCons (tC (.int 4000)) tNil))) tNil))))) (tC .non))) (tRet (tC (.bl false))) tNext))
    (tRet (tC (.bl true)))))))))))))))))))))
set_option maxHeartbeats 4000000 in
theorem tm_law {P : Program} {w : World} {K : PySem.W.Frag} {mg : Str → Option Value} {base : Heap} (T : Txt K mg) {f : Addr} {cdv : Value} {A : Around} {outer : List Env} {s : Shared} {H : Hp} {E : XK} (hr : Room 3 (A.deeper (envOfC "law" (defScope s_law) s.heap.objs.size f cdv))) :
    PSs (cxOf (L2.CX P w) P w K mg base nm_law "law" (defScope s_law) f cdv A outer s H E) (defBody s_law) (rd_law T E) :=
  (pss_cons (ps_set (i := 1) sc_law.nd rfl (by first | exact Or.inl rfl | exact Or.inr rfl) (pe_call (E := E) (ok__law_pot T) (hr.mono (by decide)) rfl T.g__law_pot T.F__law_pot.kp (b__law_pot T) .nil (passes_call (takes_of rfl rfl rfl rfl) (fun _ _ _ _ h => h)) (pa_cons (pv 0) pa_nil)))
    (pss_cons (ps_set (i := 2) sc_law.nd rfl (by first | exact Or.inl rfl | exact Or.inr rfl) (pe_op op_add pe_int (pe_call (E := E) (ok__law_next T) (hr.mono (by decide)) rfl T.g__law_next T.F__law_next.kp (b__law_next T) .nil (passes_call (takes_of rfl rfl rfl rfl) (fun _ _ _ _ h => h)) (pa_cons (pv 1) (pa_cons pe_int pa_nil)))))
    (pss_cons (ps_set (i := 3) sc_law.nd rfl (by first | exact Or.inl rfl | exact Or.inr rfl) (pe_call (E := E) (ok__law_next T) (hr.mono (by decide)) rfl T.g__law_next T.F__law_next.kp (b__law_next T) .nil (passes_call (takes_of rfl rfl rfl rfl) (fun _ _ _ _ h => h)) (pa_cons (pv 1) (pa_cons pe_int pa_nil))))
    (pss_cons (ps_set (i := 4) sc_law.nd rfl (by first | exact Or.inl rfl | exact Or.inr rfl) (pe_call (E := E) (ok__law_next T) (hr.mono (by decide)) rfl T.g__law_next T.F__law_next.kp (b__law_next T) .nil (passes_call (takes_of rfl rfl rfl rfl) (fun _ _ _ _ h => h)) (pa_cons (pv 1) (pa_cons pe_int pa_nil))))
    (pss_cons (ps_set (i := 5) sc_law.nd rfl (by first | exact Or.inl rfl | exact Or.inr rfl) (pe_call (E := E) (ok__law_next T) (hr.mono (by decide)) rfl T.g__law_next T.F__law_next.kp (b__law_next T) .nil (passes_call (takes_of rfl rfl rfl rfl) (fun _ _ _ _ h => h)) (pa_cons (pv 1) (pa_cons pe_int pa_nil))))
    (pss_cons (ps_if (pt_cmpR op_eq (pe_call (E := E) (ok__law_next T) (hr.mono (by decide)) rfl T.g__law_next T.F__law_next.kp (b__law_next T) .nil (passes_call (takes_of rfl rfl rfl rfl) (fun _ _ _ _ h => h)) (pa_cons (pv 1) (pa_cons pe_int pa_nil))) pe_int (nomark _)) (pss_one (ps_set (i := 5) sc_law.nd rfl (by first | exact Or.inl rfl | exact Or.inr rfl) (pe_op op_add pe_int (pe_call (E := E) (ok__law_next T) (hr.mono (by decide)) rfl T.g__law_next T.F__law_next.kp (b__law_next T) .nil (passes_call (takes_of rfl rfl rfl rfl) (fun _ _ _ _ h => h)) (pa_cons (pv 1) (pa_cons pe_int pa_nil)))))) pss_nil)
    (pss_cons (ps_set (i := 6) sc_law.nd rfl (by first | exact Or.inl rfl | exact Or.inr rfl) (pe_tup (pa_cons (pe_call (E := E) (ok__law_next T) (hr.mono (by decide)) rfl T.g__law_next T.F__law_next.kp (b__law_next T) .nil (passes_call (takes_of rfl rfl rfl rfl) (fun _ _ _ _ h => h)) (pa_cons (pv 1) (pa_cons pe_int pa_nil))) (pa_cons (pe_call (E := E) (ok__law_next T) (hr.mono (by decide)) rfl T.g__law_next T.F__law_next.kp (b__law_next T) .nil (passes_call (takes_of rfl rfl rfl rfl) (fun _ _ _ _ h => h)) (pa_cons (pv 1) (pa_cons (pe_op op_mul pe_int pe_int) pa_nil))) pa_nil))))
    (pss_cons (ps_set (i := 7) sc_law.nd rfl (by first | exact Or.inl rfl | exact Or.inr rfl) (pe_call (E := E) (ok_seal T) (hr.mono (by decide)) rfl T.g_seal T.F_seal.kp (b_seal T) .nil (passes_call (takes_of rfl rfl rfl rfl) (fun _ _ _ _ h => h)) (pa_cons (pv 2) (pa_cons (pv 3) (pa_cons (pv 4) (pa_cons (pv 6) (pa_cons (pe_call (E := E) (ok__law_words T) (hr.mono (by decide)) rfl T.g__law_words T.F__law_words.kp (b__law_words T) .nil (passes_call (takes_of rfl rfl rfl rfl) (fun _ _ _ _ h => h)) (pa_cons (pv 1) (pa_cons (pv 5) pa_nil))) pa_nil)))))))
    (pss_cons (ps_set (i := 8) sc_law.nd rfl (by first | exact Or.inl rfl | exact Or.inr rfl) (pe_call (E := E) (ok__law_next T) (hr.mono (by decide)) rfl T.g__law_next T.F__law_next.kp (b__law_next T) .nil (passes_call (takes_of rfl rfl rfl rfl) (fun _ _ _ _ h => h)) (pa_cons (pv 1) (pa_cons (pe_callB call_len_seq (by rfl) T.z_len (by decide +kernel) (pa_cons (pv 7) pa_nil)) pa_nil))))
    (pss_cons (ps_set (i := 9) sc_law.nd rfl (by first | exact Or.inl rfl | exact Or.inr rfl) (pe_op op_mod (pe_callTy call_int1 (by rfl) T.z_int (by decide +kernel) (pa_cons (pe_op op_add (pe_op op_add (pv 8) pe_int) (pe_call (E := E) (ok__law_next T) (hr.mono (by decide)) rfl T.g__law_next T.F__law_next.kp (b__law_next T) .nil (passes_call (takes_of rfl rfl rfl rfl) (fun _ _ _ _ h => h)) (pa_cons (pv 1) (pa_cons (pe_op op_sub (pe_callB call_len_seq (by rfl) T.z_len (by decide +kernel) (pa_cons (pv 7) pa_nil)) pe_int) pa_nil)))) pa_nil)) (pe_callB call_len_seq (by rfl) T.z_len (by decide +kernel) (pa_cons (pv 7) pa_nil))))
    (pss_cons (ps_if (pt_cmpR op_eq (pe_call (E := E) (ok__law_next T) (hr.mono (by decide)) rfl T.g__law_next T.F__law_next.kp (b__law_next T) .nil (passes_call (takes_of rfl rfl rfl rfl) (fun _ _ _ _ h => h)) (pa_cons (pv 1) (pa_cons pe_int pa_nil))) pe_int (nomark _)) (pss_one (ps_set (i := 9) sc_law.nd rfl (by first | exact Or.inl rfl | exact Or.inr rfl) (pe_op op_sub (pe_op op_sub (pe_callB call_len_seq (by rfl) T.z_len (by decide +kernel) (pa_cons (pv 7) pa_nil)) pe_int) (pe_call (E := E) (ok__law_next T) (hr.mono (by decide)) rfl T.g__law_next T.F__law_next.kp (b__law_next T) .nil (passes_call (takes_of rfl rfl rfl rfl) (fun _ _ _ _ h => h)) (pa_cons (pv 1) (pa_cons pe_int pa_nil)))))) pss_nil)
    (pss_cons (ps_set (i := 10) sc_law.nd rfl (by first | exact Or.inl rfl | exact Or.inr rfl) (pe_op op_add pe_int (pe_call (E := E) (ok__law_next T) (hr.mono (by decide)) rfl T.g__law_next T.F__law_next.kp (b__law_next T) .nil (passes_call (takes_of rfl rfl rfl rfl) (fun _ _ _ _ h => h)) (pa_cons (pv 1) (pa_cons pe_int pa_nil)))))
    (pss_cons (ps_set (i := 11) sc_law.nd rfl (by first | exact Or.inl rfl | exact Or.inr rfl) (pe_callTy call_list_of (by rfl) T.z_list (by decide +kernel) (pa_cons (pv 7) pa_nil)))
    (pss_cons (ps_asg (pe_op op_mod (pe_callTy call_int1 (by rfl) T.z_int (by decide +kernel) (pa_cons (pe_op op_add (pe_ix ix_list (pv 11) (pv 8) (fun _ _ => rfl)) (pv 10)) pa_nil)) pe_int) (pg_sub (pv 11) (pv 8) set_list))
    (pss_cons (ps_if (pt_cmpR op_ne (pv 9) (pv 8) (nomark _)) (pss_cons (ps_set (i := 12) sc_law.nd rfl (by first | exact Or.inl rfl | exact Or.inr rfl) (pe_ix ix_list (pe_lst (pa_cons pe_int (pa_cons (pe_op op_sub pe_int (pv 10)) (pa_cons (pv 10) (pa_cons (pe_op op_add pe_int (pe_call (E := E) (ok__law_next T) (hr.mono (by decide)) rfl T.g__law_next T.F__law_next.kp (b__law_next T) .nil (passes_call (takes_of rfl rfl rfl rfl) (fun _ _ _ _ h => h)) (pa_cons (pv 1) (pa_cons pe_int pa_nil)))) pa_nil))))) (pe_call (E := E) (ok__law_next T) (hr.mono (by decide)) rfl T.g__law_next T.F__law_next.kp (b__law_next T) .nil (passes_call (takes_of rfl rfl rfl rfl) (fun _ _ _ _ h => h)) (pa_cons (pv 1) (pa_cons pe_int pa_nil))) (fun _ _ => rfl)))
    (pss_one (ps_asg (pe_op op_mod (pe_callTy call_int1 (by rfl) T.z_int (by decide +kernel) (pa_cons (pe_op op_add (pe_ix ix_list (pv 11) (pv 9) (fun _ _ => rfl)) (pv 12)) pa_nil)) pe_int) (pg_sub (pv 11) (pv 9) set_list)))) pss_nil)
    (pss_cons (ps_if (pt_cmpR op_notN (pe_call (E := E) (ok_unseal T) (hr.mono (by decide)) rfl T.g_unseal T.F_unseal.kp (b_unseal T) .nil (passes_call (takes_of rfl rfl rfl rfl) (fun _ _ _ _ h => h)) (pa_cons (pv 11) (pa_cons (pv 2) (pa_cons (pv 3) (pa_cons (pv 4) pa_nil))))) pe_non (nomark _)) (pss_one (ps_ret pe_bl)) pss_nil)
    (pss_cons (ps_if (pt_cmpR op_notN (pe_call (E := E) (ok_unseal T) (hr.mono (by decide)) rfl T.g_unseal T.F_unseal.kp (b_unseal T) .nil (passes_call (takes_of rfl rfl rfl rfl) (fun _ _ _ _ h => h)) (pa_cons (pv 11) (pa_cons (pe_ix ix_list (pv 11) pe_int (fun _ _ => rfl)) (pa_cons (pe_ix ix_list (pv 11) pe_int (fun _ _ => rfl)) (pa_cons (pe_ix ix_list (pv 11) pe_int (fun _ _ => rfl)) pa_nil))))) pe_non (nomark _)) (pss_one (ps_ret pe_bl)) pss_nil)
    (pss_cons (ps_for (passes_of rfl) rfl (pi_range1 (by rfl) T.z_range (pa_cons pe_int pa_nil)) (pg_name (i := 13) sc_law.nd rfl (by first | exact Or.inl rfl | exact Or.inr rfl)) (pss_one (ps_if (pt_cmpR op_notN (pe_call (E := E) (ok_unseal T) (hr.mono (by decide)) rfl T.g_unseal T.F_unseal.kp (b_unseal T) .nil (passes_call (takes_of rfl rfl rfl rfl) (fun _ _ _ _ h => h)) (pa_cons (pv 11) (pa_cons (pe_op op_add pe_int (pe_call (E := E) (ok__law_next T) (hr.mono (by decide)) rfl T.g__law_next T.F__law_next.kp (b__law_next T) .nil (passes_call (takes_of rfl rfl rfl rfl) (fun _ _ _ _ h => h)) (pa_cons (pv 1) (pa_cons pe_int pa_nil)))) (pa_cons (pe_call (E := E) (ok__law_next T) (hr.mono (by decide)) rfl T.g__law_next T.F__law_next.kp (b__law_next T) .nil (passes_call (takes_of rfl rfl rfl rfl) (fun _ _ _ _ h => h)) (pa_cons (pv 1) (pa_cons pe_int pa_nil))) (pa_cons (pe_call (E := E) (ok__law_next T) (hr.mono (by decide)) rfl T.g__law_next T.F__law_next.kp (b__law_next T) .nil (passes_call (takes_of rfl rfl rfl rfl) (fun _ _ _ _ h => h)) (pa_cons (pv 1) (pa_cons pe_int pa_nil))) pa_nil))))) pe_non (nomark _)) (pss_one (ps_ret pe_bl)) pss_nil)))
    (pss_one (ps_ret pe_bl))))))))))))))))))))
theorem pr_law {K : PySem.W.Frag} {mg : Str → Option Value} (T : Txt K mg) (vs : List V) (H : Hp) (Q : VK) (E : XK) (h : sp_law T vs H Q E) : rd_law T E ⟨fun _ H' => Q .non H', Q, fun _ _ => False, fun _ _ => False⟩ (start nm_law vs) H := by
  obtain ⟨a, ns, rfl, hS, hl, hb, q⟩ := h
  show rd_law T E _ [some _, none, none, none, none, none, none, none, none, none, none, none, none, none] H
  unfold rd_law
  walk_at "rd"
  refine pot_step T hS hl fun p l o H' hp le k => ?_
  walk_at "rd"
  refine next_step T k rfl hp rfl (by first | decide | omega) (by first | decide | omega) fun c o_c c0 c1 hp k => ?_
  generalize upd _ _ _ = H_c at *
  try (simp only [List.set_cons_zero, List.set_cons_succ, List.cons_append, List.nil_append] at k)
  walk_at "rd"
  refine next_step T k rfl hp rfl (by first | decide | omega) (by first | decide | omega) fun disk o_disk disk0 disk1 hp k => ?_
  generalize upd _ _ _ = H_disk at *
  try (simp only [List.set_cons_zero, List.set_cons_succ, List.cons_append, List.nil_append] at k)
  walk_at "rd"
  refine next_step T k rfl hp rfl (by first | decide | omega) (by first | decide | omega) fun row o_row row0 row1 hp k => ?_
  generalize upd _ _ _ = H_row at *
  try (simp only [List.set_cons_zero, List.set_cons_succ, List.cons_append, List.nil_append] at k)
  walk_at "rd"
  refine next_step T k rfl hp rfl (by first | decide | omega) (by first | decide | omega) fun cnt o_cnt cnt0 cnt1 hp k => ?_
  generalize upd _ _ _ = H_cnt at *
  try (simp only [List.set_cons_zero, List.set_cons_succ, List.cons_append, List.nil_append] at k)
  walk_at "rd"
  refine rd_cut (fun σ H5 => ∃ (o : HO) (n : Int), PotO l o ∧ 0 ≤ n ∧ n ≤ 1000 ∧ σ = [some (.ref a), some (.ref p), some (.int (1 + c)), some (.int disk), some (.int row), some (.int n), none, none, none, none, none, none, none, none] ∧
    Kn K H' [p, l] H5 [(p, o), (l, .lst (ns.map V.int))] []) (fun N hN => ?_) ?_
  · walk_at "rd"
    refine next_step T k rfl hp rfl (by first | decide | omega) (by first | decide | omega) fun r o_r r0 r1 hp k => ?_
    generalize upd _ _ _ = H_r at *
    try (simp only [List.set_cons_zero, List.set_cons_succ, List.cons_append, List.nil_append] at k)
    walk_at "rd"
    walk_at "if2"
    · walk_at "rd"
      refine next_step T k rfl hp rfl (by first | decide | omega) (by first | decide | omega) fun s o_s s0 s1 hp k => ?_
      generalize upd _ _ _ = H_s at *
      try (simp only [List.set_cons_zero, List.set_cons_succ, List.cons_append, List.nil_append] at k)
      walk_at "rd"
      exact hN _ _ ⟨_, _, hp, by omega, by omega, rfl, k⟩
    · exact rd_next (hN _ _ ⟨_, _, hp, by omega, by omega, rfl, k⟩)
  clear k hp
  rintro σ H5 ⟨o5, n, hp, n0, n1, rfl, k⟩
  walk_at "rd"
  refine next_step T k rfl hp rfl (by first | decide | omega) (by first | decide | omega) fun ep o_ep ep0 ep1 hp k => ?_
  generalize upd _ _ _ = H_ep at *
  try (simp only [List.set_cons_zero, List.set_cons_succ, List.cons_append, List.nil_append] at k)
  walk_at "rd"
  refine next_step T k rfl hp rfl (by first | decide | omega) (by first | decide | omega) fun se o_se se0 se1 hp k => ?_
  generalize upd _ _ _ = H_se at *
  try (simp only [List.set_cons_zero, List.set_cons_succ, List.cons_append, List.nil_append] at k)
  walk_at "rd"
  refine ⟨szl (by simp), ?_⟩
  intro st n_st
  generalize e_st : upd _ st _ = H_st at *
  replace k := k.new' n_st e_st
  clear e_st
  try (simp only [List.set_cons_zero, List.set_cons_succ, List.cons_append, List.nil_append] at k)
  walk_at "rd"
  have hok : Sl.Ok (1 + c) disk row ep se := by unfold Sl.Ok; omega
  refine words_step T k rfl hp rfl (by omega) (by omega) fun pl o6 pw H6 lpl hpl hp k => ?_
  try (simp only [List.set_cons_zero, List.set_cons_succ, List.cons_append, List.nil_append] at k)
  walk_at "rd"
  refine ⟨1 + c, disk, row, st, ep, se, pw, pl, rfl, cellT k 2 rfl, k.at 3 rfl, hpl, fun _ => ?_, fun h => absurd ⟨hok, by omega⟩ h⟩
  intro ps H7 n7 le7 e7
  replace k := k.ret n7 le7 e7
  have dl := Sl.due_len (1 + c) disk row ep se pl
  have VV := Sl.due_valid hok hpl (by omega)
  have dw := Sl.due_words hok hpl
  clear e7
  generalize Sl.due (1 + c) disk row ep se pl = ws at *
  try (simp only [List.set_cons_zero, List.set_cons_succ, List.cons_append, List.nil_append] at k)
  walk_at "rd"
  walk_at "len"
  try rw [List.length_map]
  walk_at "rd"
  refine next_step T k rfl hp rfl (by first | decide | omega) (by first | decide | omega) fun i o_i i0 i1 hp k => ?_
  generalize upd _ _ _ = H_i at *
  try (simp only [List.set_cons_zero, List.set_cons_succ, List.cons_append, List.nil_append] at k)
  walk_at "rd"
  walk_at "len"
  try rw [List.length_map]
  walk_at "rd"
  refine next_step T k rfl hp rfl (by first | decide | omega) (by first | decide | omega) fun r2 o_r2 r20 r21 hp k => ?_
  generalize upd _ _ _ = H_r2 at *
  try (simp only [List.set_cons_zero, List.set_cons_succ, List.cons_append, List.nil_append] at k)
  walk_at "rd"
  walk_at "len"
  try rw [List.length_map]
  walk_at "rd"
  refine rd_cut (fun σ H5 => ∃ (o : HO) (j : Int), PotO l o ∧ 0 ≤ j ∧ j < ws.length ∧ σ = [some (.ref a), some (.ref p), some (.int (1 + c)), some (.int disk), some (.int row), some (.int n), some (.ref st), some (.ref ps), some (.int i), some (.int j), none, none, none, none] ∧
    Kn K H' [p, l] H5 [(p, o), (l, .lst (ns.map V.int)), (st, .tup [.int ep, .int se]), (pw, .lst (pl.map V.int)), (ps, .lst (ws.map V.int))] []) (fun N hN => ?_) ?_
  · walk_at "rd"
    refine next_step T k rfl hp rfl (by first | decide | omega) (by first | decide | omega) fun r3 o_r3 r30 r31 hp k => ?_
    generalize upd _ _ _ = H_r3 at *
    try (simp only [List.set_cons_zero, List.set_cons_succ, List.cons_append, List.nil_append] at k)
    walk_at "rd"
    walk_at "if2"
    · walk_at "rd"
      walk_at "len"
      try rw [List.length_map]
      walk_at "rd"
      refine next_step T k rfl hp rfl (by first | decide | omega) (by first | decide | omega) fun r4 o_r4 r40 r41 hp k => ?_
      generalize upd _ _ _ = H_r4 at *
      try (simp only [List.set_cons_zero, List.set_cons_succ, List.cons_append, List.nil_append] at k)
      walk_at "rd"
      exact hN _ _ ⟨_, _, hp, by omega, by omega, rfl, k⟩
    · exact rd_next (hN _ _ ⟨_, _, hp, Int.emod_nonneg _ (by omega), Int.emod_lt_of_pos _ (by omega), rfl, k⟩)
  clear k hp
  rintro σ H8 ⟨o8, j, hp, j0, j1, rfl, k⟩
  walk_at "rd"
  refine next_step T k rfl hp rfl (by first | decide | omega) (by first | decide | omega) fun ch o_ch ch0 ch1 hp k => ?_
  generalize upd _ _ _ = H_ch at *
  try (simp only [List.set_cons_zero, List.set_cons_succ, List.cons_append, List.nil_append] at k)
  walk_at "rd"
  refine of_cell 4 k rfl ?_
  intro pc n_pc
  generalize e_pc : upd _ pc _ = H_pc at *
  replace k := k.new' n_pc e_pc
  clear e_pc
  try (simp only [List.set_cons_zero, List.set_cons_succ, List.cons_append, List.nil_append] at k)
  walk_at "rd"
  have hch : (1 + ch) % 65521 ≠ 0 := by omega
  obtain ⟨x, hx⟩ : ∃ x, ws[i.toNat]? = some x := ⟨_, List.getElem?_eq_getElem (by omega)⟩
  obtain ⟨y, hy⟩ : ∃ y, ws[j.toNat]? = some y := ⟨_, List.getElem?_eq_getElem (by omega)⟩
  refine ix_cell (v := .int x) 5 k rfl (atI_of i0 (by rw [List.getElem?_map, hx]; rfl)) ?_
  walk_at "rd"
  refine set_cell 5 k rfl (ixN_of (by omega) (by rw [List.length_map]; omega)) ?_
  rw [← List.map_set]
  generalize e_H9 : upd _ _ _ = H9 at *
  replace k := k.set' 5 rfl e_H9
  clear e_H9
  try (simp only [List.set_cons_zero, List.set_cons_succ, List.cons_append, List.nil_append] at k)
  refine rd_cut (fun σ H5 => ∃ (o : HO) (us : List Int) (x12 : Option V), PotO l o ∧ (∀ k' d' r', ¬ Sl.Valid us k' d' r') ∧ 3 ≤ us.length ∧ σ = [some (.ref a), some (.ref p), some (.int (1 + c)), some (.int disk), some (.int row), some (.int n), some (.ref st), some (.ref ps), some (.int i), some (.int j), some (.int (1 + ch)), some (.ref pc), x12, none] ∧
    Kn K H' [p, l] H5 [(p, o), (l, .lst (ns.map V.int)), (st, .tup [.int ep, .int se]), (pw, .lst (pl.map V.int)), (ps, .lst (ws.map V.int)), (pc, .lst (us.map V.int))] []) (fun N hN => ?_) ?_
  · walk_at "rd"
    walk_at "if2"
    · rename_i hij
      walk_at "rd"
      refine next_step T k rfl hp rfl (by first | decide | omega) (by first | decide | omega) fun r5 o_r5 r50 r51 hp k => ?_
      generalize upd _ _ _ = H_r5 at *
      try (simp only [List.set_cons_zero, List.set_cons_succ, List.cons_append, List.nil_append] at k)
      walk_at "rd"
      refine ⟨szl (by simp), ?_⟩
      intro ls n_ls
      generalize e_ls : upd _ ls _ = H_ls at *
      replace k := k.new' n_ls e_ls
      clear e_ls
      try (simp only [List.set_cons_zero, List.set_cons_succ, List.cons_append, List.nil_append] at k)
      replace k := k.as 6 rfl ((show _ = HO.lst ([0, 65521 - (1 + ch), 1 + ch, 1 + r5].map V.int) from rfl))
      try (simp only [List.set_cons_zero, List.set_cons_succ, List.cons_append, List.nil_append] at k)
      walk_at "rd"
      refine next_step T k rfl hp rfl (by first | decide | omega) (by first | decide | omega) fun r6 o_r6 r60 r61 hp k => ?_
      generalize upd _ _ _ = H_r6 at *
      try (simp only [List.set_cons_zero, List.set_cons_succ, List.cons_append, List.nil_append] at k)
      walk_at "rd"
      obtain ⟨ov, hov⟩ : ∃ ov, ([0, 65521 - (1 + ch), 1 + ch, 1 + r5] : List Int)[r6.toNat]? = some ov := ⟨_, List.getElem?_eq_getElem (by show r6.toNat < 4; omega)⟩
      refine ix_cell (v := .int ov) 6 k rfl (atI_of r60 (by rw [List.getElem?_map, hov]; rfl)) ?_
      walk_at "rd"
      have nij : i.toNat ≠ j.toNat := by omega
      refine ix_cell (v := .int y) 5 k rfl (atI_of j0 (by rw [List.getElem?_map, List.getElem?_set_ne nij, hy]; rfl)) ?_
      walk_at "rd"
      refine set_cell 5 k rfl (ixN_of (by omega) (by rw [List.length_map, List.length_set]; omega)) ?_
      rw [← List.map_set]
      generalize e_H10 : upd _ _ _ = H10 at *
      replace k := k.set' 5 rfl e_H10
      clear e_H10
      try (simp only [List.set_cons_zero, List.set_cons_succ, List.cons_append, List.nil_append] at k)
      replace k := k.erase 6
      simp only [List.eraseIdx_cons_zero, List.eraseIdx_cons_succ] at k
      exact hN _ _ ⟨_, _, _, hp, fun _ _ _ => Sl.two VV nij hx hy hch, by rw [List.length_set, List.length_set]; omega, rfl, k⟩
    · exact rd_next (hN _ _ ⟨_, _, _, hp, fun _ _ _ => Sl.one VV hx hch, by rw [List.length_set]; omega, rfl, k⟩)
  clear k hp
  rintro σ H11 ⟨o11, us, x12, hp, nv, lu, rfl, k⟩
  obtain ⟨u0, hu0⟩ : ∃ y, us[0]? = some y := ⟨_, List.getElem?_eq_getElem (by omega)⟩
  obtain ⟨u1, hu1⟩ : ∃ y, us[1]? = some y := ⟨_, List.getElem?_eq_getElem (by omega)⟩
  obtain ⟨u2, hu2⟩ : ∃ y, us[2]? = some y := ⟨_, List.getElem?_eq_getElem (by omega)⟩
  have at_ : ∀ {i : Nat} {y : Int}, us[i]? = some y → (us.map V.int)[i]? = some (.int y) := fun h => by rw [List.getElem?_map, h]; rfl
  walk_at "rd"
  walk_at "sq"
  walk_at "rd"
  refine neg_step T k (cellS k 5 rfl) (nv _ _ _) fun H12 k => ?_
  walk_at "rd"
  refine ⟨rfl, ?_⟩
  rw [decide_eq_true rfl]
  walk_at "rd"
  walk_at "sq"
  walk_at "rd"
  refine ix_cell (v := .int u0) 5 k rfl (atI_of (by decide) (at_ hu0)) ?_
  walk_at "rd"
  refine ix_cell (v := .int u1) 5 k rfl (atI_of (by decide) (at_ hu1)) ?_
  walk_at "rd"
  refine ix_cell (v := .int u2) 5 k rfl (atI_of (by decide) (at_ hu2)) ?_
  walk_at "rd"
  refine neg_step T k (cellS k 5 rfl) (nv _ _ _) fun H13 k => ?_
  walk_at "rd"
  refine ⟨rfl, ?_⟩
  rw [decide_eq_true rfl]
  walk_at "rd"
  walk_at "sq"
  walk_at "rd"
  refine ⟨_, rfl, by decide, by decide, ?_⟩
  refine fw_R (fun m σ H5 => ∃ (o : HO) (x13 : Option V), PotO l o ∧ σ = [some (.ref a), some (.ref p), some (.int (1 + c)), some (.int disk), some (.int row), some (.int n), some (.ref st), some (.ref ps), some (.int i), some (.int j), some (.int (1 + ch)), some (.ref pc), x12, x13] ∧
    Kn K H' [p, l] H5 [(p, o), (l, .lst (ns.map V.int)), (st, .tup [.int ep, .int se]), (pw, .lst (pl.map V.int)), (ps, .lst (ws.map V.int)), (pc, .lst (us.map V.int))] [])
    ⟨_, _, hp, rfl, k⟩ ?_ ?_
  · clear k hp
    rintro m σ H5 hm ⟨o, x13, hp, rfl, k⟩
    walk_at "rd"
    refine next_step T k rfl hp rfl (by first | decide | omega) (by first | decide | omega) fun a1 o_a1 a10 a11 hp k => ?_
    generalize upd _ _ _ = H_a1 at *
    try (simp only [List.set_cons_zero, List.set_cons_succ, List.cons_append, List.nil_append] at k)
    walk_at "rd"
    refine next_step T k rfl hp rfl (by first | decide | omega) (by first | decide | omega) fun a2 o_a2 a20 a21 hp k => ?_
    generalize upd _ _ _ = H_a2 at *
    try (simp only [List.set_cons_zero, List.set_cons_succ, List.cons_append, List.nil_append] at k)
    walk_at "rd"
    refine next_step T k rfl hp rfl (by first | decide | omega) (by first | decide | omega) fun a3 o_a3 a30 a31 hp k => ?_
    generalize upd _ _ _ = H_a3 at *
    try (simp only [List.set_cons_zero, List.set_cons_succ, List.cons_append, List.nil_append] at k)
    walk_at "rd"
    refine neg_step T k (cellS k 5 rfl) (nv _ _ _) fun H14 k => ?_
    walk_at "rd"
    refine ⟨rfl, ?_⟩
    rw [decide_eq_true rfl]
    walk_at "rd"
    exact ⟨_, _, hp, rfl, k⟩
  clear k hp
  rintro σ H5 ⟨o, x13, hp, rfl, k⟩
  walk_at "rd"
  exact q _
theorem ln_law {K : PySem.W.Frag} {mg : Str → Option Value} (T : Txt K mg) (vs : List V) (H : Hp) (Q : VK) (E : XK) (h : sp_law T vs H Q E) : vs.length = 1 := by
  first
    | (obtain ⟨_, rfl, _⟩ := h; rfl)
    | (obtain ⟨_, _, rfl, _⟩ := h; rfl)
    | (obtain ⟨_, _, _, rfl, _⟩ := h; rfl)
    | (obtain ⟨_, _, _, _, rfl, _⟩ := h; rfl)
    | (obtain ⟨_, _, _, _, _, rfl, _⟩ := h; rfl)
    | (obtain ⟨_, _, _, _, _, _, rfl, _⟩ := h; rfl)
    | (obtain ⟨_, _, _, _, _, _, _, rfl, _⟩ := h; rfl)
    | (obtain ⟨_, _, _, _, _, _, _, _, rfl, _⟩ := h; rfl)
theorem ok_law {P : Program} {w : World} {K : PySem.W.Frag} {mg : Str → Option Value} {base : Heap} (T : Txt K mg) : FnOk P w K mg base (L2.CX P w) 4 (He.ga K "law") T.d_law ["_law_script"] (sp_law T) :=
  T.F_law.ok sc_law (ln_law T) (fun cdv A outer s H vs Q E hr h => ⟨_, tm_law T hr, pr_law T vs H Q E h⟩)
abbrev R : PySem.W.OpenRow := PySem.W.OpenLaw.row PySem.Challenge.rw_paritypool_k15_two_changed_words_are_fou
abbrev hk : PySem.W.Hook := He.hookX 5 fa fn [] [] ex
def ob (s : PySem.W.SharedT) : He.AlX := He.obsX 5 fa fn [] [] ex (HandSHeadRun.getT s)
theorem ob_eq (s : PySem.W.SharedT) : ob s = hk.obs s.abs := He.obsX_eq (HandSHeadRun.getT_eq s)
def loose : List Str := (["PoolError", "InvalidArgument", "PRIME", "MAX_DISKS", "MAX_PAYLOAD", "MAX_ROWS", "HEADER", "check_words", "seal", "unseal", "_law_pot", "_law_next", "_law_word", "_law_words"] : List Str)
theorem run (w : World) : HandSHeadRun.RunEq R (PySem.W.view R.prog [17]) hk ob 3000 loose w := by
  intro os
  kernel_rfl
theorem facts {P : Program} {w : World} {K : PySem.W.Frag} {h : Heap} {mg : Str → Option Value} {f : Addr} (X : K.In h) (G : h.Ns mainGlobals mg) (hfa : mg ("law" : Str) = some (.ref f)) (c : He.SaysX fa fn [] [] ex w h K) :
    ∃ (T : Txt K mg) (fd : FuncData), (∀ (s : Shared) (v : Value), BindsTo s fd ⟨[v], []⟩ [("_law_script", v)]) ∧ ∀ base : Heap, K.In base → base.Ns mainGlobals mg → FnOk P w K mg base (L2.CX P w) 4 f fd ["_law_script"] (sp_law T) := by
  obtain ⟨T⟩ := txt X G c
  have e := hfa.symm.trans T.g_law
  cases e
  have b := FunD.bindsA (ps := ["_law_script"]) T.F_law fun _ _ _ _ _ _ us hl => match us, hl with | [_], _ => rfl
  exact ⟨T, _, fun s v => b s [v] rfl, fun base _ _ => ok_law T⟩
/-- a law over a head by facts, the script's bits told -/
theorem walk_ofX {l : PySem.W.OpenLaw} {n k : Nat} {q : Program} {loose : List Str} {XP : (Str → Option Value) → Heap → Prop} {YP : World → Heap → Prop} {d : DefRec} {x : Str}
    (hn : l.most = some n) (hn2 : n ≤ sizeLine) (hdf : d.params.defaults = []) (hr : Room k callerA)
    (F : ∀ (w : World) (mg : Str → Option Value) (fa : Addr) (h : Heap), YP w h → h.Ns mainGlobals mg → mg d.name = some (.ref fa) →
      ∃ (K : PySem.W.Frag) (fd : FuncData) (sp : Sp), K.In h ∧ (∀ (s : Shared) (u : Value), BindsTo s fd ⟨[u], []⟩ [(x, u)]) ∧
        (∀ (H : Hp) (a : Addr) (ns : List Int), ns.length ≤ n → (∀ z ∈ ns, Builtin.Int.intBits z ≤ 1048576) → Only H → SqL K H a (ns.map V.int) → sp [.ref a] H (fun v _ => v = .bl true) fun _ _ _ => False) ∧
        ∀ base : Heap, K.In base → base.Ns mainGlobals mg → FnOk l.prog w K mg base (L2.CX l.prog w) k fa fd [x] sp) :
    PySem.W.WalkO q loose XP YP l.row.toRowW d [] (fun f vs => PySem.call f vs) := by
  refine Att.attach_callB hn hdf fun w s₀ s₁ mg mb fa o pm cd doc a vs ns G Y ho hd hcd hmg hobj hints hlen hbits hg => ?_
  obtain ⟨K, fd, sp, KX, hb, hsp, hF⟩ := F w mg fa _ Y G.T.g hmg
  exact law_call KX G.T.g G.T.b G.T.builtins G.T.nolimit hg hobj hints (Nat.le_trans hlen hn2) hr hF hb (fun H hO hS => hsp H a ns hlen hbits hO hS) fun H e s' h => by
    obtain ⟨_, _, _, _, _, _, _, _, _, _, _, _, z⟩ := h
    exact z.elim
end Law
open PySem PySem.W PySem.Calls PyProof.Rows
theorem PySem.Challenge.cw_paritypool_k15_two_changed_words_are_fou_holds : PySem.Challenge.rw_paritypool_k15_two_changed_words_are_fou.Holds := by
  w_on; o_law
  refine HandSHeadRun.head_any (r := OpenLaw.row PySem.Challenge.rw_paritypool_k15_two_changed_words_are_fou) (q := view (OpenLaw.row PySem.Challenge.rw_paritypool_k15_two_changed_words_are_fou).prog [17]) (H := Law.hk) (ob := Law.ob) (M := 3000) (loose := Law.loose) (d := HandSHeadRun.topDef (OpenLaw.row PySem.Challenge.rw_paritypool_k15_two_changed_words_are_fou).prog 17) (kwd := []) Law.ob_eq
    (by kernel_rfl) (fun s => by kernel_rfl) Law.run (by kernel_rfl) (by kernel_rfl) (by kernel_rfl) (by rfl) (by first | assumption | decide +kernel) (by decide +kernel) ⟨rfl, rfl, rfl, rfl, rfl, by decide +kernel⟩ ?hw ?hc
  case hw => w_witness2
  case hc =>
    refine Law.walk_ofX (l := PySem.Challenge.rw_paritypool_k15_two_changed_words_are_fou) (n := 63) (k := 4) (x := "_law_script") rfl (by decide) (by kernel_rfl) ⟨rfl, by decide, by decide⟩ ?F
    intro w mg fa h Y G hmg0
    obtain ⟨K, KX, c⟩ := Y
    have hmg : mg ("law" : PySem.Str) = some (.ref fa) := by
      have e : (HandSHeadRun.topDef (OpenLaw.row PySem.Challenge.rw_paritypool_k15_two_changed_words_are_fou).prog 17).name = ("law" : PySem.Str) := by kernel_rfl
      rw [← e]
      exact hmg0
    obtain ⟨T, fd, hb, hF⟩ := Law.facts (P := (PySem.Challenge.rw_paritypool_k15_two_changed_words_are_fou).prog) (w := w) KX G hmg c
    exact ⟨K, fd, Law.sp_law T, KX, hb, fun H a ns hl hbits _ hS => ⟨a, ns, rfl, hS, hl, hbits, fun _ => rfl⟩, hF⟩



