import PyProof.Rows.All
import Wide.All
import OpenK.AllK
import Wide.FinOn
import PyProof.EqAt
import PyProof.EqKinds
import PyProof.TupleCall
import HandS.Base
import HandS.Call
import HandS.List
import HandS.Comp
import HandS.Ends
import HandS.Dict
import HandS.Iter
import HandS.Text
import HandS.More
import HandS.Exc
import HandS.ExcOwn
import HandS.Words
import HandS.WordsList
import HandS.WordsDict
import HandS.Defaults
import HandS.Star
import HandS.Wide
import HandS.Deep
import HandS.TupAny
import KE.KStateDown
import HandS.WordsExc
import HandS.Head0
import HandS.Head1
import HandS.Head2
import HandS.HeadEnd
import HandS.HeadHook1
import HandS.HeadHook2
import HandS.HeadHook3
import HandS.HeadHook4
import HandS.HeadWalk
import HandS.HeadNt
import HandS.IsInst
import HandS.Conv
import HandS.Style
import HandS.SetFor
import HandS.Property
import HandS.ClsMeth
import HandS.FStr
import KE.KSuper
import HandS.NoneIn
import HandS.Rev
import KE.GoesEnum
import HandS.Strs
import HandS.ExcIs
import HandS.CallSlots
import HandS.TryOnly
import HandS.TryMany
import HandS.SlotsOwn
import HandS.OwnEq
import HandS.RevRange
import HandS.StrMore
import HandS.ExcInit
import HandS.ExcField
import HandS.RaiseMore
import KE.IntTextLaws
import KE.KIntText
import PySem.Challenge.RW_flatthreads_k55_texts_of_no_thread
set_option Elab.async false
set_option linter.all false
set_option maxRecDepth 100000
set_option maxHeartbeats 0
/-! FT0: the ground of all our proofs: what is known of a heap (Z), the rules that the library lacks, operators for values of every kind. -/
namespace FT
open PySem PySem.Spec PyProof.Rows L2
/-! ### heaps that grow; what is known -/
def Ex (H H' : Hp) : Prop := ∀ a o, H a = some o → H' a = some o
theorem Ex.refl (H : Hp) : Ex H H := fun _ _ h => h
theorem Ex.trans {H H1 H2 : Hp} (a : Ex H H1) (b : Ex H1 H2) : Ex H H2 := fun x o h => b x o (a x o h)
theorem Ex.new {H : Hp} {p : Addr} {o : HO} (h : H p = none) : Ex H (upd H p o) := fun a u e => by
  rw [upd_ne (ne_of_none e h)]
  exact e
theorem Ex.free {H H' : Hp} {p : Addr} (e : Ex H H') (h : H' p = none) : H p = none := by
  cases h1 : H p with
  | none => rfl
  | some o => rw [e p o h1] at h; cases h
theorem Ex.rd {H H' : Hp} {a : Addr} {u : HO} (e : Ex H H') (h : Rd H a u) : Rd H' a u := by
  rcases h with h | ⟨o, h⟩
  · exact Or.inl (e a _ h)
  · exact Or.inr ⟨o, e a _ h⟩
theorem Ex.l {K : PySem.W.Frag} {H H' : Hp} {a : Addr} {xs : List V} (e : Ex H H') (h : SqL K H a xs) : SqL K H' a xs := by
  rcases h with h | h
  · exact Or.inl (e.rd h)
  · exact Or.inr h
theorem Ex.t {K : PySem.W.Frag} {H H' : Hp} {a : Addr} {xs : List V} (e : Ex H H') (h : SqT K H a xs) : SqT K H' a xs := by
  rcases h with h | h
  · exact Or.inl (e.rd h)
  · exact Or.inr h
mutual
theorem Ex.d {K : PySem.W.Frag} {H H' : Hp} (e : Ex H H') : ∀ {v : V} {d : PyData}, Dp K H v d → Dp K H' v d
  | _, _, .non => .non
  | _, _, .bl b => .bl b
  | _, _, .int i => .int i
  | _, _, .str x => .str x
  | _, _, .lst h a => .lst (e.l h) (e.da a)
  | _, _, .tup h a => .tup (e.t h) (e.da a)
theorem Ex.da {K : PySem.W.Frag} {H H' : Hp} (e : Ex H H') : ∀ {vs : List V} {ds : List PyData}, DpAll K H vs ds → DpAll K H' vs ds
  | _, _, .nil => .nil
  | _, _, .cons h a => .cons (e.d h) (e.da a)
end
theorem sq_l {K : PySem.W.Frag} {H : Hp} {a : Addr} {xs : List V} (h : H a = some (.lst xs)) : SqL K H a xs := Or.inl (Or.inl h)
theorem sq_t {K : PySem.W.Frag} {H : Hp} {a : Addr} {xs : List V} (h : H a = some (.tup xs)) : SqT K H a xs := Or.inl (Or.inl h)
/-- a piece of what is known: addresses and what stands there -/
abbrev Seg := List (Addr × HO)
/-- H holds B (what stays) and, apart from it and from one another, the pieces R (what may change) -/
structure Z (H B : Hp) (R : List Seg) : Prop where
  base : Ex B H
  here : ∀ r ∈ R, ∀ e ∈ r, H e.1 = some e.2
  off : ∀ r ∈ R, ∀ e ∈ r, B e.1 = none
  nd : (R.flatten.map (·.1)).Nodup
section
variable {H H' B : Hp} {R : List Seg} {p : Addr} {o o' : HO} {r : Seg}
theorem Z.start (H : Hp) : Z H H [] := ⟨Ex.refl H, fun _ h => (nomatch h), fun _ h => (nomatch h), List.nodup_nil⟩
theorem Z.at_ (S : Z H B R) (i j : Nat) (h1 : R[i]? = some r) (h2 : r[j]? = some (p, o)) : H p = some o :=
  S.here r (List.mem_of_getElem? h1) (p, o) (List.mem_of_getElem? h2)
theorem Z.no (S : Z H B R) (i j : Nat) (h1 : R[i]? = some r) (h2 : r[j]? = some (p, o)) : B p = none :=
  S.off r (List.mem_of_getElem? h1) (p, o) (List.mem_of_getElem? h2)
/-- the head piece's head -/
theorem Z.hd {q : Seg} (S : Z H B (((p, o) :: q) :: R)) : H p = some o := S.here _ List.mem_cons_self (p, o) List.mem_cons_self
theorem Z.ext (S : Z H B R) (e : Ex H H') : Z H' B R := ⟨S.base.trans e, fun r hr x hx => e _ _ (S.here r hr x hx), S.off, S.nd⟩
theorem flat_in {x : Addr} (h : x ∈ R.flatten.map (·.1)) : ∃ r ∈ R, ∃ e ∈ r, e.1 = x := by
  obtain ⟨e, he, q⟩ := List.mem_map.mp h
  obtain ⟨r, hr, h2⟩ := List.mem_flatten.mp he
  exact ⟨r, hr, e, h2, q⟩
theorem Z.addr (S : Z H B R) {x : Addr} (h : x ∈ R.flatten.map (·.1)) : ∃ o, H x = some o := by
  obtain ⟨r, hr, e, he, q⟩ := flat_in h
  exact ⟨e.2, by rw [← q]; exact S.here r hr e he⟩
/-- a new piece, fresh of what was -/
theorem Z.seg {s : Seg} (S : Z H B R) (e : Ex H H') (fr : ∀ x ∈ s, H x.1 = none) (hs : ∀ x ∈ s, H' x.1 = some x.2) (nd : (s.map (·.1)).Nodup) : Z H' B (s :: R) := by
  refine ⟨S.base.trans e, fun r hr x hx => ?_, fun r hr x hx => ?_, ?_⟩
  · rcases List.mem_cons.mp hr with q | q
    · rw [q] at hx; exact hs x hx
    · exact e _ _ (S.here r q x hx)
  · rcases List.mem_cons.mp hr with q | q
    · rw [q] at hx; exact S.base.free (fr x hx)
    · exact S.off r q x hx
  · rw [List.flatten_cons, List.map_append]
    refine List.nodup_append.mpr ⟨nd, S.nd, fun a ha b hb q => ?_⟩
    obtain ⟨x, hx, e1⟩ := List.mem_map.mp ha
    obtain ⟨o, ho⟩ := S.addr hb
    rw [← q, ← e1, fr x hx] at ho
    cases ho
theorem Z.add (S : Z H B R) (e : Ex H H') (n : H p = none) (h : H' p = some o) : Z H' B ([(p, o)] :: R) :=
  S.seg e (fun x hx => by rw [List.mem_singleton.mp hx]; exact n) (fun x hx => by rw [List.mem_singleton.mp hx]; exact h) (by simp)
theorem Z.new (S : Z H B R) (n : H p = none) : Z (upd H p o) B ([(p, o)] :: R) := S.add (Ex.new n) n upd_same
theorem flat_sub : ∀ {R' R : List Seg}, R'.Sublist R → R'.flatten.Sublist R.flatten
  | _, _, .slnil => List.Sublist.refl _
  | _, _, .cons a h => by
    rw [List.flatten_cons]
    exact (flat_sub h).trans (List.sublist_append_right _ _)
  | _, _, .cons₂ a h => by
    rw [List.flatten_cons, List.flatten_cons]
    exact (List.Sublist.refl _).append (flat_sub h)
/-- the pieces in another order, some left out -/
theorem Z.sub {R' : List Seg} (S : Z H B R) (h : R'.Sublist R) : Z H B R' :=
  ⟨S.base, fun r hr => S.here r (h.subset hr), fun r hr => S.off r (h.subset hr), S.nd.sublist ((flat_sub h).map _)⟩
theorem Z.tail (S : Z H B (r :: R)) : Z H B R := S.sub (List.sublist_cons_self r R)
theorem Z.perm {R' : List Seg} (S : Z H B R) (h : R.Perm R') : Z H B R' :=
  ⟨S.base, fun r hr => S.here r (h.mem_iff.mpr hr), fun r hr => S.off r (h.mem_iff.mpr hr), ((h.flatten.map _).nodup_iff).mp S.nd⟩
/-- the i-th piece to the front -/
theorem perm_pick : ∀ {R : List Seg} {i : Nat} {r : Seg}, R[i]? = some r → R.Perm (r :: R.eraseIdx i)
  | [], _, _, h => by simp at h
  | a :: l, 0, r, h => by
    obtain rfl : a = r := Option.some.inj h
    exact List.Perm.refl _
  | a :: l, i + 1, r, h => (List.Perm.cons a (perm_pick (R := l) (i := i) h)).trans (List.Perm.swap r a _)
theorem Z.pick (S : Z H B R) (i : Nat) (h : R[i]? = some r) : Z H B (r :: R.eraseIdx i) := S.perm (perm_pick h)
/-- one thing of the head piece is changed -/
theorem Z.put0 {pre post : Seg} (S : Z H B ((pre ++ (p, o) :: post) :: R)) : Z (upd H p o') B ((pre ++ (p, o') :: post) :: R) := by
  have hp : H p = some o := S.here _ List.mem_cons_self (p, o) (by simp)
  have hb : B p = none := S.off _ List.mem_cons_self (p, o) (by simp)
  have nd := S.nd
  have nd2 : ((((pre ++ (p, o') :: post) :: R).flatten).map (·.1)).Nodup := by
    simpa [List.flatten_cons, List.map_append] using nd
  have apart : ∀ r ∈ ((pre ++ (p, o') :: post) :: R), ∀ x ∈ r, x.1 = p → x = (p, o') := by
    intro r hr x hx e
    have nd3 := nd2
    rw [List.flatten_cons, List.map_append, List.map_append, List.map_cons] at nd3
    have nd4 : (pre.map (·.1) ++ (p :: (post.map (·.1) ++ R.flatten.map (·.1)))).Nodup := by simpa using nd3
    have hn := (List.perm_middle.nodup_iff.mp nd4)
    have hn1 := (List.nodup_cons.mp hn).1
    rcases List.mem_cons.mp hr with q | q
    · rw [q] at hx
      rcases List.mem_append.mp hx with h | h
      · exact (hn1 (List.mem_append_left _ (List.mem_map.mpr ⟨x, h, e⟩))).elim
      · rcases List.mem_cons.mp h with h | h
        · exact h
        · exact (hn1 (List.mem_append_right _ (List.mem_append_left _ (List.mem_map.mpr ⟨x, h, e⟩)))).elim
    · exact (hn1 (List.mem_append_right _ (List.mem_append_right _ (List.mem_map.mpr ⟨x, List.mem_flatten.mpr ⟨r, q, hx⟩, e⟩)))).elim
  refine ⟨fun a u e => ?_, fun r hr x hx => ?_, fun r hr x hx => ?_, nd2⟩
  · rw [upd_ne (ne_of_none e hb)]
    exact S.base a u e
  · by_cases e : x.1 = p
    · have q := apart r hr x hx e
      rw [q]
      exact upd_same
    · rw [upd_ne e]
      rcases List.mem_cons.mp hr with q | q
      · rw [q] at hx
        refine S.here _ List.mem_cons_self x ?_
        rcases List.mem_append.mp hx with h | h
        · exact List.mem_append_left _ h
        · rcases List.mem_cons.mp h with h | h
          · rw [h] at e; exact absurd rfl e
          · exact List.mem_append_right _ (List.mem_cons_of_mem _ h)
      · exact S.here r (List.mem_cons_of_mem _ q) x hx
  · by_cases e : x.1 = p
    · rw [e]; exact hb
    · rcases List.mem_cons.mp hr with q | q
      · rw [q] at hx
        refine S.off _ List.mem_cons_self x ?_
        rcases List.mem_append.mp hx with h | h
        · exact List.mem_append_left _ h
        · rcases List.mem_cons.mp h with h | h
          · rw [h] at e; exact absurd rfl e
          · exact List.mem_append_right _ (List.mem_cons_of_mem _ h)
      · exact S.off r (List.mem_cons_of_mem _ q) x hx
theorem Z.put {q : Seg} (S : Z H B (((p, o) :: q) :: R)) : Z (upd H p o') B (((p, o') :: q) :: R) := Z.put0 (pre := []) S
/-- .. of the piece at i, a single thing -/
theorem perm_set : ∀ {R : List Seg} {i : Nat} {r r' : Seg}, R[i]? = some r → (r' :: R.eraseIdx i).Perm (R.set i r')
  | [], _, _, _, h => by simp at h
  | a :: l, 0, r, r', h => List.Perm.refl _
  | a :: l, i + 1, r, r', h => (List.Perm.swap a r' _).trans (List.Perm.cons a (perm_set (R := l) (i := i) (r := r) h))
theorem Z.set (S : Z H B R) (i : Nat) {q : Seg} (h : R[i]? = some ((p, o) :: q)) : Z (upd H p o') B (R.set i ((p, o') :: q)) := ((S.pick i h).put (o' := o')).perm (perm_set h)
/-- what is known of B is known of H -/
theorem Z.l {K : PySem.W.Frag} {a : Addr} {xs : List V} (S : Z H B R) (h : SqL K B a xs) : SqL K H a xs := S.base.l h
theorem Z.t {K : PySem.W.Frag} {a : Addr} {xs : List V} (S : Z H B R) (h : SqT K B a xs) : SqT K H a xs := S.base.t h
theorem Z.d {K : PySem.W.Frag} {v : V} {d : PyData} (S : Z H B R) (h : Dp K B v d) : Dp K H v d := S.base.d h
/-- the pieces of one kind become what stays -/
def freeze (B : Hp) (r : Seg) : Hp := fun a => match r.lookup a with
  | some o => some o
  | none => B a
theorem lookup_in {a : Addr} {o : HO} : ∀ {r : Seg}, r.lookup a = some o → (a, o) ∈ r
  | [], h => by cases h
  | (b, u) :: t, h => by
    have h2 : (match a == b with | true => some u | false => t.lookup a) = some o := h
    cases q : (a == b) with
    | true =>
      rw [q] at h2
      have e : u = o := Option.some.inj h2
      rw [beq_iff_eq.mp q, e]
      exact List.mem_cons_self
    | false =>
      rw [q] at h2
      exact List.mem_cons_of_mem _ (lookup_in h2)
theorem lookup_of {a : Addr} {o : HO} : ∀ {r : Seg}, (r.map (·.1)).Nodup → (a, o) ∈ r → r.lookup a = some o
  | [], _, h => by cases h
  | (b, u) :: t, nd, h => by
    show (match a == b with | true => some u | false => t.lookup a) = some o
    rcases List.mem_cons.mp h with q | q
    · have e := Prod.mk.inj q
      rw [e.1, e.2]
      simp
    · have nb : a ≠ b := fun z => (List.nodup_cons.mp nd).1 (List.mem_map.mpr ⟨(a, o), q, z⟩)
      have e : (a == b) = false := by simpa using nb
      rw [e]
      exact lookup_of (List.nodup_cons.mp nd).2 q
theorem freeze_new {a : Addr} (hb : ∀ e ∈ r, B e.1 = none) : Ex B (freeze B r) := fun a o e => by
  unfold freeze
  cases q : r.lookup a with
  | none => exact e
  | some u =>
    have := hb _ (lookup_in q)
    rw [e] at this
    cases this
theorem freeze_at {a : Addr} (nd : (r.map (·.1)).Nodup) (h : (a, o) ∈ r) : freeze B r a = some o := by
  unfold freeze
  rw [lookup_of nd h]
theorem Z.nd0 (S : Z H B (r :: R)) : (r.map (·.1)).Nodup := by
  have := S.nd
  rw [List.flatten_cons, List.map_append] at this
  exact (List.nodup_append.mp this).1
theorem Z.freeze (S : Z H B (r :: R)) : Z H (freeze B r) R := by
  have nd := S.nd
  rw [List.flatten_cons, List.map_append] at nd
  obtain ⟨n1, n2, n3⟩ := List.nodup_append.mp nd
  refine ⟨fun a o e => ?_, fun x hx => S.here x (List.mem_cons_of_mem _ hx), fun x hx e he => ?_, n2⟩
  · unfold FT.freeze at e
    cases q : r.lookup a with
    | none => rw [q] at e; exact S.base a o e
    | some u =>
      rw [q] at e
      have e2 : u = o := Option.some.inj e
      rw [← e2]
      exact S.here r List.mem_cons_self (a, u) (lookup_in q)
  · unfold FT.freeze
    cases q : r.lookup e.1 with
    | none => exact S.off x (List.mem_cons_of_mem _ hx) e he
    | some u =>
      exact (n3 e.1 (List.mem_map.mpr ⟨(e.1, u), lookup_in q, rfl⟩) e.1 (List.mem_map.mpr ⟨e, List.mem_flatten.mpr ⟨x, hx, he⟩, rfl⟩) rfl).elim
theorem Z.le (S : Z H B (r :: R)) : Ex B (FT.freeze B r) := freeze_new (a := 0) (S.off r List.mem_cons_self)
/-- all but the piece r stays: for a callee that changes r alone -/
def cut (H : Hp) (r : Seg) : Hp := fun a => if a ∈ r.map (·.1) then none else H a
theorem Z.cut (S : Z H B (r :: R)) : Z H (cut H r) [r] := by
  refine ⟨fun a o e => ?_, fun x hx => ?_, fun x hx e he => ?_, ?_⟩
  · unfold FT.cut at e
    split at e
    · cases e
    · exact e
  · rw [List.mem_singleton.mp hx]
    exact S.here r List.mem_cons_self
  · rw [List.mem_singleton.mp hx] at he
    unfold FT.cut
    rw [if_pos (List.mem_map.mpr ⟨e, he, rfl⟩)]
  · simpa using S.nd0
theorem Z.cut_le (S : Z H B (r :: R)) : Ex B (FT.cut H r) := fun a o e => by
  unfold FT.cut
  rw [if_neg]
  · exact S.base a o e
  · intro h
    obtain ⟨x, hx, q⟩ := List.mem_map.mp h
    have := S.off r List.mem_cons_self x hx
    rw [q, e] at this
    cases this
theorem Z.cut_at (S : Z H B (r :: R)) {x : Seg} (hx : x ∈ R) {e : Addr × HO} (he : e ∈ x) : FT.cut H r e.1 = some e.2 := by
  unfold FT.cut
  rw [if_neg]
  · exact S.here x (List.mem_cons_of_mem _ hx) e he
  · intro h
    have nd := S.nd
    rw [List.flatten_cons, List.map_append] at nd
    exact (List.nodup_append.mp nd).2.2 e.1 h e.1 (List.mem_map.mpr ⟨e, List.mem_flatten.mpr ⟨x, hx, he⟩, rfl⟩) rfl
/-- behind such a callee: r' in r's place (the same addresses, or new ones), new pieces in front -/
theorem Z.back {r' : Seg} {N : List Seg} (S : Z H B (r :: R)) (T : Z H' (FT.cut H r) (r' :: N)) : Z H' B (r' :: (N ++ R)) := by
  refine ⟨S.cut_le.trans T.base, fun x hx e he => ?_, fun x hx e he => ?_, ?_⟩
  · rcases List.mem_cons.mp hx with q | q
    · rw [q] at he; exact T.here r' List.mem_cons_self e he
    · rcases List.mem_append.mp q with q | q
      · exact T.here x (List.mem_cons_of_mem _ q) e he
      · exact T.base _ _ (S.cut_at q he)
  · rcases List.mem_cons.mp hx with q | q
    · rw [q] at he; exact S.cut_le.free (T.off r' List.mem_cons_self e he)
    · rcases List.mem_append.mp q with q | q
      · exact S.cut_le.free (T.off x (List.mem_cons_of_mem _ q) e he)
      · exact S.off x (List.mem_cons_of_mem _ q) e he
  · have n1 := T.nd
    have n2 := S.tail.nd
    have e : (r' :: (N ++ R)).flatten = (r' :: N).flatten ++ R.flatten := by simp
    rw [e, List.map_append]
    refine List.nodup_append.mpr ⟨n1, n2, fun a ha b hb q => ?_⟩
    obtain ⟨x, hx, y, hy, e1⟩ := flat_in ha
    obtain ⟨x2, hx2, y2, hy2, e2⟩ := flat_in hb
    have h1 := T.off x hx y hy
    have h2 := S.cut_at hx2 hy2
    rw [e1, q, ← e2, h2] at h1
    cases h1
end
end FT

/-! FT1: operators for values of every kind, and the rules that the library lacks. -/
namespace FT
open PySem PySem.Spec PyProof.Rows L2
section
variable {X : Cx}
/-! ### rules -/
def CPowW (i j : Int) : Prop := 0 ≤ j ∧ (Builtin.Int.intBits i : Int) * j ≤ 2 ^ 27
theorem op_powW : OpR X (binaryOp .Pow) (rI CPowW fun i j => .int (i ^ j.toNat)) := opI fun _ _ _ _ _ _ _ hc q => pow_int hc.1 hc.2 q
def rMulS : R2 := fun x y H Q => ∃ (z : Str) (n : Int), x = .str z ∧ y = .int n ∧ MulOk z n ∧ Q (.str (Txt.mul z n)) H
theorem op_mulS : OpR X (binaryOp .Mult) rMulS := by
  intro pins s σ H x y v u Q I rx ry h
  obtain ⟨z, n, rfl, rfl, hc, q⟩ := h
  obtain ⟨t, rfl⟩ := rx
  obtain ⟨t', rfl⟩ := ry
  exact SB.mul hc fun t2 k => ⟨.str _, H, I.tok _, ⟨_, rfl⟩, q⟩
/-- xs[i] of a list, for xs[i] op= e -/
theorem get_list : PGet X (rIxL X.K) := by
  intro pins s σ H o i ov iv Q I ro ri h
  obtain ⟨p, xs, k, z, rfl, rfl, hq, he, q⟩ := h
  cases ro
  obtain ⟨t, rfl⟩ := ri
  obtain ⟨its, r, pl, hz⟩ := I.list hq
  obtain ⟨j, h1, h2, h3, h4, h5⟩ := atI_get he
  obtain ⟨w, ew, rw'⟩ := r.get h2
  have hl := r.length
  have hn := line63
  have fin : EP X pins σ Q w s := ⟨z, H, I, rw', q⟩
  by_cases h0 : 0 ≤ k
  · have hj : k.toNat = j := by
      rw [seqIndex_of h0 h5] at h1
      exact Option.some.inj h1
    exact wpAny_getItem_list pl.isList h0 (by omega) (by rw [hj]; simpa using ew) fin
  · have hj : (k + (its.toArray.size : Int)).toNat = j := by
      rw [seqIndex_neg (by omega) h4] at h1
      rw [List.size_toArray, ← hl]
      exact Option.some.inj h1
    exact wpAny_getItem_list_neg pl.isList (by omega) (by rw [List.size_toArray] <;> omega) (by omega) (by rw [hj]; simpa using ew) fin
/-- an int constant of the module -/
theorem pe_gi {x : Str} {i : Int} {pos : Pos} (h : ∃ t, X.mg x = some (.int i t)) (hg : Gl X x := by rfl) (hdb : (x == ("__debug__" : Str)) = false := by decide) : PE X (.Name x pos) (tC (.int i)) :=
  let ⟨t, e⟩ := h
  pe_glob hg e ⟨t, rfl⟩ hdb
theorem pe_gs {x z : Str} {pos : Pos} (h : ∃ t, X.mg x = some (.str z t)) (hg : Gl X x := by rfl) (hdb : (x == ("__debug__" : Str)) = false := by decide) : PE X (.Name x pos) (tC (.str z)) :=
  let ⟨t, e⟩ := h
  pe_glob hg e ⟨t, rfl⟩ hdb
/-- a def of the module as it stands: its promise -/
structure Gd (P : Program) (w : World) (K : PySem.W.Frag) (mg : Str → Option Value) (base : Heap) (k : Nat) (x : Str) (ps : List Str) (sp : Sp) : Prop where
  ex : ∃ fd, FnOk P w K mg base (L2.CX P w) k (He.ga K x) fd ps sp ∧ Binds K fd ps []
  gl : mg x = some (.ref (He.ga K x))
  kp : PySem.W.keepIn K (.ref (He.ga K x)) = true
/-- f(e, ..), nothing is raised -/
theorem pe_gd {k j : Nat} {x : Str} {ps : List Str} {sp : Sp} {e : Expr} {es : List Expr} {t : TA} {p pos : Pos} (G : Gd X.prog X.w X.K X.mg X.base k x ps sp) (hr : Room j X.A) (ha : PA X (e :: es) t) (hk : k ≤ j := by decide) (hg : Gl X x := by rfl)
    (hdb : (x == ("__debug__" : Str)) = false := by decide) (he : starEach (e :: es) X.env = (false, eval e X.env) :: starEach es X.env := by rfl) (hpl : (backTo pos (starEach es X.env)).any (·.1) = false := by rfl) :
    PE X (.Call (.Name x p) (e :: es) [] pos) (tCall sp [] E0 t) := by
  obtain ⟨fd, F, b⟩ := G.ex
  exact pe_call F (hr.mono hk) hg G.gl G.kp b .nil passL ha hdb he hpl
theorem pe_gd0 {k j : Nat} {x : Str} {ps : List Str} {sp : Sp} {p pos : Pos} (G : Gd X.prog X.w X.K X.mg X.base k x ps sp) (hr : Room j X.A) (hk : k ≤ j := by decide) (hg : Gl X x := by rfl)
    (hdb : (x == ("__debug__" : Str)) = false := by decide) : PE X (.Call (.Name x p) [] [] pos) (tCall sp [] E0 tNil) := by
  obtain ⟨fd, F, b⟩ := G.ex
  exact pe_call0 F (hr.mono hk) hg G.gl G.kp b .nil passL hdb
/-- f(e, ..), what is raised is wished for by W -/
theorem pe_gdX {W : WX} {k j : Nat} {x : Str} {ps : List Str} {sp : Sp} {e : Expr} {es : List Expr} {t : TA} {p pos : Pos} (tk : Takes X W) (G : Gd X.prog X.w X.K X.mg X.base k x ps sp) (hr : Room j X.A) (ha : PA X (e :: es) t) (hk : k ≤ j := by decide) (hg : Gl X x := by rfl)
    (hdb : (x == ("__debug__" : Str)) = false := by decide) (he : starEach (e :: es) X.env = (false, eval e X.env) :: starEach es X.env := by rfl) (hpl : (backTo pos (starEach es X.env)).any (·.1) = false := by rfl) :
    PE X (.Call (.Name x p) (e :: es) [] pos) (tCallS sp (WE W) t) := by
  obtain ⟨fd, F, b⟩ := G.ex
  exact pe_callS F (hr.mono hk) hg G.gl G.kp b (fun σ => passAt tk σ) ha hdb he hpl
/-! ### operators for every kind -/
def qAdd (K : PySem.W.Frag) : R2 := fun x y H Q => (rI0 fun i j => .int (i + j)) x y H Q ∨ (∃ i j, x = .str i ∧ y = .str j ∧ i.length + j.length ≤ sizeLine ∧ Q (.str (i ++ j)) H) ∨ rCat x y H Q ∨ rCatA K x y H Q
theorem op_qAdd : OpR X (binaryOp .Add) (qAdd X.K) := OpR.or op_add (OpR.or op_add_str (OpR.or op_cat op_catA))
def qSub : R2 := rI0 fun i j => .int (i - j)
theorem op_qSub : OpR X (binaryOp .Sub) qSub := op_sub
def qMul : R2 := fun x y H Q => (rI CMulW fun i j => .int (i * j)) x y H Q ∨ rMulS x y H Q ∨ rRep x y H Q
theorem op_qMul : OpR X (binaryOp .Mult) qMul := OpR.or op_mulW (OpR.or op_mulS op_rep)
def qDiv : R2 := rI CDivW fun i j => .int (i / j)
theorem op_qDiv : OpR X (binaryOp .FloorDiv) qDiv := op_fdivW
def qMod : R2 := rI (fun _ j => 0 < j) fun i j => .int (i % j)
theorem op_qMod : OpR X (binaryOp .Mod) qMod := op_mod
def qPow : R2 := rI CPowW fun i j => .int (i ^ j.toNat)
theorem op_qPow : OpR X (binaryOp .Pow) qPow := op_powW
def qLt : R2 := rI0 fun i j => .bl (decide (i < j))
def qLe : R2 := rI0 fun i j => .bl (decide (i ≤ j))
def qGt : R2 := rI0 fun i j => .bl (decide (j < i))
def qGe : R2 := rI0 fun i j => .bl (decide (j ≤ i))
theorem op_qLt : OpR X (compareOp .Lt) qLt := op_lt
theorem op_qLe : OpR X (compareOp .LtE) qLe := op_le
theorem op_qGt : OpR X (compareOp .Gt) qGt := op_gt
theorem op_qGe : OpR X (compareOp .GtE) qGe := op_ge
def qEq (K : PySem.W.Frag) : R2 := fun x y H Q => rEq x y H Q ∨ rEqD K x y H Q
def qNe (K : PySem.W.Frag) : R2 := fun x y H Q => rNe x y H Q ∨ rNeD K x y H Q
theorem op_qEq {k : Nat} (hr : Room k X.A) : OpR X (compareOp .Eq) (qEq X.K) := OpR.or op_eq (op_eqD (by have := hr.un; omega))
theorem op_qNe {k : Nat} (hr : Room k X.A) : OpR X (compareOp .NotEq) (qNe X.K) := OpR.or op_ne (op_neD (by have := hr.un; omega))
def qIn (K : PySem.W.Frag) : R2 := fun x y H Q => rIn K false x y H Q ∨ rInD K x y H Q ∨ (∃ i j, x = .str i ∧ y = .str j ∧ Q (.bl (!(Builtin.Str.occurrences j i 0 j.length 1).isEmpty)) H)
def qNotIn (K : PySem.W.Frag) : R2 := fun x y H Q => rIn K true x y H Q ∨ rNotInD K x y H Q ∨ (∃ i j, x = .str i ∧ y = .str j ∧ Q (.bl (!(!(Builtin.Str.occurrences j i 0 j.length 1).isEmpty))) H)
theorem op_qIn {k : Nat} (hr : Room k X.A) : OpR X (compareOp .In) (qIn X.K) := OpR.or op_in_seq (OpR.or (op_inD (by have := hr.un; omega)) op_in_str)
theorem op_qNotIn {k : Nat} (hr : Room k X.A) : OpR X (compareOp .NotIn) (qNotIn X.K) := OpR.or op_notIn_seq (OpR.or (op_notInD (by have := hr.un; omega)) op_notin_str)
def qIs : R2 := fun x y H Q => y = .non ∧ Q (.bl (decide (x = .non))) H
def qIsNot : R2 := fun x y H Q => y = .non ∧ Q (.bl (!decide (x = .non))) H
theorem op_qIs : OpR X (compareOp .Is) qIs := op_isN
theorem op_qIsNot : OpR X (compareOp .IsNot) qIsNot := op_notN
def qIx (K : PySem.W.Frag) : R2 := rIx K
theorem ix_q : IxR X (qIx X.K) := ix_seq
def qSl (K : PySem.W.Frag) : V → Option Int → Option Int → Hp → VK → Prop := fun x lo hi H Q => rSlL K x lo hi H Q ∨ rSlS x lo hi H Q ∨ rSlA K x lo hi H Q
theorem sl_q : SlR X (qSl X.K) := SlR.or sl_list (SlR.or sl_str sl_tupA)
def qLen (K : PySem.W.Frag) : List V → Hp → VK → Prop := fun xs H Q => ∃ x n, xs = [x] ∧ LenV K x H n ∧ Q (.int n) H
theorem call_qLen : CallR X (.builtin "len") (qLen X.K) := call_len
def qAbs : List V → Hp → VK → Prop := fun xs H Q => ∃ i, xs = [.int i] ∧ Q (.int (if i < 0 then -i else i)) H
theorem call_qAbs : CallR X (.builtin "abs") qAbs := call_abs
def qMax : List V → Hp → VK → Prop := fun xs H Q => ∃ i j, xs = [.int i, .int j] ∧ Q (.int (if j > i then j else i)) H
def qMin : List V → Hp → VK → Prop := fun xs H Q => ∃ i j, xs = [.int i, .int j] ∧ Q (.int (if j < i then j else i)) H
theorem call_qMax (hc : X.calm = true) : CallR X (.builtin "max") qMax := call_max2 hc
theorem call_qMin (hc : X.calm = true) : CallR X (.builtin "min") qMin := call_min2 hc
def qInt : List V → Hp → VK → Prop := fun xs H Q => ((∃ i, xs = [.int i] ∧ Q (.int i) H) ∨ ∃ k, xs = [.bl k] ∧ Q (.int (if k then 1 else 0)) H) ∨ ∃ a n, xs = [.str a] ∧ PySem.intText? a = some n ∧ a.length ≤ 640 ∧ Q (.int n) H
def qStr : List V → Hp → VK → Prop := fun xs H Q => ∃ i, xs = [.int i] ∧ i.natAbs.log2 < 1920 ∧ Q (.str (toString i)) H
theorem call_qStr : CallR X (.type "str") qStr := call_str_int
def qList (K : PySem.W.Frag) : List V → Hp → VK → Prop := fun xs H Q => ∃ p ys, xs = [.ref p] ∧ (SqL K H p ys ∨ SqT K H p ys) ∧ ∀ l, H l = none → Q (.ref l) (upd H l (.lst ys))
theorem call_qList : CallR X (.type "list") (qList X.K) := call_list_of
def qTuple (K : PySem.W.Frag) : List V → Hp → VK → Prop := fun xs H Q => ∃ p ys, xs = [.ref p] ∧ ((SqL K H p ys ∧ ∀ l, H l = none → Q (.ref l) (upd H l (.tup ys))) ∨ (SqT K H p ys ∧ Q (.ref p) H))
theorem call_qTuple : CallR X (.type "tuple") (qTuple X.K) := call_tuple_of
def qSum (K : PySem.W.Frag) : List V → Hp → VK → Prop := rSum K
theorem call_qSum (hc : X.calm = true) : CallR X (.builtin "sum") (qSum X.K) := cr_sum hc
/-- over a list or a tuple -/
def iSeq (K : PySem.W.Frag) (tl : TE) : TI := fun σ H R => tl σ H fun x H1 => (∃ a, x = .ref a ∧ (∃ xs, SqL K H1 a xs) ∧ R (Itl K a) H1) ∨ ∃ a, x = .ref a ∧ (∃ xs, SqT K H1 a xs) ∧ R (Itt K a) H1
theorem pi_seq {tg l : Expr} {tl : TE} (hl : PE X l tl) : PI X tg l (iSeq X.K tl) := by
  refine ⟨fun pins s σ H R I h => ?_⟩
  refine thn (hl.run pins s σ H _ I h) fun v s1 ⟨x, H1, I1, r1, q1⟩ => ?_
  rcases q1 with ⟨a, e, ⟨xs, hq⟩, q⟩ | ⟨a, e, ⟨xs, hq⟩, q⟩
  · subst e
    cases r1
    obtain ⟨its, rv, p, hz⟩ := I1.list hq
    refine wpAny_pyIter_list p.isList ?_
    refine ⟨s1.heap.objs.size, [s1.heap.objs.size], _, _, H1, rfl, I1.kept (t' := s1.toks) fun b o e => Heap.get?_push_of_some _ e, turn_list a _, ⟨_, Heap.get?_push_size _ rfl, rfl, rfl⟩, fun b hb => ?_, q⟩
    have e : b = s1.heap.objs.size := by simpa using hb
    subst e
    exact I1.fpOk (Nat.le_refl _) (I1.hok.fresh (Nat.le_refl _))
  · subst e
    cases r1
    obtain ⟨its, rv, p, hz⟩ := I1.tuple hq
    refine wpAny_pyIter_tuple (show s1.heap.IsTuple a its.toArray from p) ?_
    refine ⟨s1.heap.objs.size, [s1.heap.objs.size], _, _, H1, rfl, I1.kept (t' := s1.toks) fun b o e => Heap.get?_push_of_some _ e, turn_tuple a _, ⟨_, Heap.get?_push_size _ rfl, rfl, rfl⟩, fun b hb => ?_, q⟩
    have e : b = s1.heap.objs.size := by simpa using hb
    subst e
    exact I1.fpOk (Nat.le_refl _) (I1.hok.fresh (Nat.le_refl _))
end
end FT

/-! FT2: readings, step by step: one lemma a construct, over what is known (Z). -/
namespace FT
open PySem PySem.Spec PyProof.Rows L2
section
variable {K : PySem.W.Frag} {σ σ' : L2.St} {H H' B : Hp} {R : List Seg} {Q : VK} {x y z v w : V} {D : Ends} {E : XK} {ta tb tc te to : TE} {t u : TT} {ts tu : TS} {as : TA} {r : R2} {p a : Addr} {o : HO} {xs ys : List V} {i j : Int} {b : Bool}
/-! ### expressions -/
theorem x_var {n : Nat} (h : σ[n]? = some (some v)) (q : Q v H) : tVar n σ H Q := ⟨v, h, q⟩
theorem x_c (q : Q v H) : tC v σ H Q := q
theorem x_op (q : ta σ H fun x H1 => tb σ H1 fun y H2 => r x y H2 Q) : tOp r ta tb σ H Q := q
theorem x_un {r : V → Hp → VK → Prop} (q : ta σ H fun x H1 => r x H1 Q) : tUn r ta σ H Q := q
theorem x_neg (q : Q (.int (-i)) H) : (rU fun i => .int (-i)) (.int i) H Q := ⟨i, rfl, q⟩
theorem x_if (q : t σ H fun c H1 => if c = true then ta σ H1 Q else tb σ H1 Q) : tIf t ta tb σ H Q := q
theorem x_cb {r : List V → Hp → VK → Prop} (q : as σ H fun vs H1 => r vs H1 Q) : tCB r as σ H Q := q
theorem x_nil {Q : List V → Hp → Prop} (q : Q [] H) : tNil σ H Q := q
theorem x_cons {Q : List V → Hp → Prop} (q : ta σ H fun x H1 => as σ H1 fun xs H2 => Q (x :: xs) H2) : tCons ta as σ H Q := q
def mLst (xs : List V) (H : Hp) (Q : VK) : Prop := xs.length ≤ sizeLine ∧ ∀ p, H p = none → Q (.ref p) (upd H p (.lst xs))
def mTup (xs : List V) (H : Hp) (Q : VK) : Prop := xs.length ≤ sizeLine ∧ ∀ p, H p = none → Q (.ref p) (upd H p (.tup xs))
theorem x_lst (q : as σ H fun xs H1 => mLst xs H1 Q) : tLst as σ H Q := q
theorem x_tup (q : as σ H fun xs H1 => mTup xs H1 Q) : tTup as σ H Q := q
theorem z_lst (S : Z H B R) (hl : xs.length ≤ sizeLine) (q : ∀ p H', Z H' B ([(p, .lst xs)] :: R) → Q (.ref p) H') : mLst xs H Q := ⟨hl, fun p hp => q p _ (S.new hp)⟩
theorem z_tup (S : Z H B R) (hl : xs.length ≤ sizeLine) (q : ∀ p H', Z H' B ([(p, .tup xs)] :: R) → Q (.ref p) H') : mTup xs H Q := ⟨hl, fun p hp => q p _ (S.new hp)⟩
/-- .. the object does not matter -/
theorem z_gone (S : Z H B R) (hp : H p = none) : Z (upd H p o) B R := (S.new (o := o) hp).tail
theorem x_star {Q : List V → Hp → Prop} (q : te σ H fun x H1 => ∃ p xs, x = V.ref p ∧ (SqT K H1 p xs ∨ SqL K H1 p xs) ∧ as σ H1 fun ys H2 => Q (xs ++ ys) H2) : StX.tStar K te as σ H Q := q
theorem z_star {F : List V → Prop} (h : SqL K H p xs) (q : F xs) : ∃ p' xs', V.ref p = V.ref p' ∧ (SqT K H p' xs' ∨ SqL K H p' xs') ∧ F xs' := ⟨p, xs, rfl, Or.inr h, q⟩
theorem z_starT {F : List V → Prop} (h : SqT K H p xs) (q : F xs) : ∃ p' xs', V.ref p = V.ref p' ∧ (SqT K H p' xs' ∨ SqL K H p' xs') ∧ F xs' := ⟨p, xs, rfl, Or.inl h, q⟩
theorem x_call {sp : Sp} (q : as σ H fun vs H1 => sp vs H1 Q E) : tCall sp [] E as σ H Q := by
  show as σ H fun vs H1 => sp (vs ++ []) H1 Q E
  have e : (fun (vs : List V) (H1 : Hp) => sp (vs ++ []) H1 Q E) = fun vs H1 => sp vs H1 Q E := by
    funext vs H1
    rw [List.append_nil]
  rw [e]
  exact q
theorem x_callS {sp : Sp} {W : WX} (q : as σ H fun vs H1 => sp vs H1 Q (WE W σ)) : tCallS sp (WE W) as σ H Q := q
theorem x_bm0 {T : String} {r : V → List V → Hp → VK → Prop} (q : to σ H fun x H1 => tyV K T x H1 ∧ r x [] H1 Q) : tBM0 K T r to σ H Q := q
theorem x_bm {T : String} {r : V → List V → Hp → VK → Prop} (q : to σ H fun x H1 => tyV K T x H1 ∧ as σ H1 fun xs H2 => r x xs H2 Q) : tBM K T r to as σ H Q := q
theorem z_tyL {A : Prop} (h : SqL K H p xs) (q : A) : tyV K "list" (.ref p) H ∧ A := ⟨.inl ⟨rfl, _, h⟩, q⟩
theorem x_sl {r : V → Option Int → Option Int → Hp → VK → Prop} {tl th : TO} (q : te σ H fun x H1 => tl σ H1 fun l H2 => th σ H2 fun u H3 => r x l u H3 Q) : tSl r te tl th σ H Q := q
theorem x_nopart {Q : Option Int → Hp → Prop} (q : Q none H) : tNoPart σ H Q := q
theorem x_part {Q : Option Int → Hp → Prop} (q : te σ H fun x H1 => ∃ i, x = .int i ∧ Q (some i) H1) : tPart te σ H Q := q
theorem z_part {A : Int → Prop} (q : A i) : ∃ i', V.int i = V.int i' ∧ A i' := ⟨i, rfl, q⟩
/-! ### operators -/
theorem x_addI (q : Q (.int (i + j)) H) : qAdd K (.int i) (.int j) H Q := .inl ⟨i, j, rfl, rfl, q⟩
theorem x_addS {s1 s2 : Str} (hl : s1.length + s2.length ≤ sizeLine) (q : Q (.str (s1 ++ s2)) H) : qAdd K (.str s1) (.str s2) H Q := .inr (.inl ⟨s1, s2, rfl, rfl, hl, q⟩)
theorem x_subI (q : Q (.int (i - j)) H) : qSub (.int i) (.int j) H Q := ⟨i, j, rfl, rfl, q⟩
theorem x_mulI (h : CMulW i j) (q : Q (.int (i * j)) H) : qMul (.int i) (.int j) H Q := .inl ⟨i, j, rfl, rfl, h, q⟩
theorem x_mulS {s1 : Str} (h : MulOk s1 j) (q : Q (.str (Txt.mul s1 j)) H) : qMul (.str s1) (.int j) H Q := .inr (.inl ⟨s1, j, rfl, rfl, h, q⟩)
theorem x_divI (h : CDivW i j) (q : Q (.int (i / j)) H) : qDiv (.int i) (.int j) H Q := ⟨i, j, rfl, rfl, h, q⟩
theorem x_modI (h : 0 < j) (q : Q (.int (i % j)) H) : qMod (.int i) (.int j) H Q := ⟨i, j, rfl, rfl, h, q⟩
theorem x_powI (h : CPowW i j) (q : Q (.int (i ^ j.toNat)) H) : qPow (.int i) (.int j) H Q := ⟨i, j, rfl, rfl, h, q⟩
theorem x_ltI (q : Q (.bl (decide (i < j))) H) : qLt (.int i) (.int j) H Q := ⟨i, j, rfl, rfl, q⟩
theorem x_leI (q : Q (.bl (decide (i ≤ j))) H) : qLe (.int i) (.int j) H Q := ⟨i, j, rfl, rfl, q⟩
theorem x_gtI (q : Q (.bl (decide (j < i))) H) : qGt (.int i) (.int j) H Q := ⟨i, j, rfl, rfl, q⟩
theorem x_geI (q : Q (.bl (decide (j ≤ i))) H) : qGe (.int i) (.int j) H Q := ⟨i, j, rfl, rfl, q⟩
theorem x_is (q : Q (.bl (decide (x = .non))) H) : qIs x .non H Q := ⟨rfl, q⟩
theorem x_isnot (q : Q (.bl (!decide (x = .non))) H) : qIsNot x .non H Q := ⟨rfl, q⟩
theorem z_shape {d : PyData} (h : d.canLay0 = true) (h2 : d.depth ≤ 64) : SeqAt.shaped d = true := by
  unfold SeqAt.shaped
  rw [h, decide_eq_true h2] <;> rfl
theorem x_eqV (h : scal x y = true) (q : Q (.bl (decide (x = y))) H) : qEq K x y H Q := .inl ⟨h, q⟩
theorem x_neV (h : scal x y = true) (q : Q (.bl (!decide (x = y))) H) : qNe K x y H Q := .inl ⟨h, q⟩
theorem x_eqI (q : Q (.bl (decide (i = j))) H) : qEq K (.int i) (.int j) H Q := x_eqV rfl (by
  have e : decide (V.int i = V.int j) = decide (i = j) := by simp
  rw [e]
  exact q)
theorem x_neI (q : Q (.bl (!decide (i = j))) H) : qNe K (.int i) (.int j) H Q := x_neV rfl (by
  have e : decide (V.int i = V.int j) = decide (i = j) := by simp
  rw [e]
  exact q)
theorem x_eqS {s1 s2 : Str} (q : Q (.bl (decide (s1 = s2))) H) : qEq K (.str s1) (.str s2) H Q := x_eqV rfl (by
  have e : decide (V.str s1 = V.str s2) = decide (s1 = s2) := by simp
  rw [e]
  exact q)
theorem x_neS {s1 s2 : Str} (q : Q (.bl (!decide (s1 = s2))) H) : qNe K (.str s1) (.str s2) H Q := x_neV rfl (by
  have e : decide (V.str s1 = V.str s2) = decide (s1 = s2) := by simp
  rw [e]
  exact q)
theorem x_eqD {d e : PyData} (h1 : Dp K H x d) (h2 : Dp K H y e) (s1 : SeqAt.shaped d = true) (s2 : SeqAt.shaped e = true) (q : Q (.bl (PyData.eqv d e)) H) : qEq K x y H Q := .inr ⟨d, e, h1, h2, s1, s2, q⟩
theorem x_neD {d e : PyData} (h1 : Dp K H x d) (h2 : Dp K H y e) (s1 : SeqAt.shaped d = true) (s2 : SeqAt.shaped e = true) (q : Q (.bl (!PyData.eqv d e)) H) : qNe K x y H Q := .inr ⟨d, e, h1, h2, s1, s2, q⟩
theorem x_ixL (h : SqL K H p xs) (hv : atI xs i = some v) (q : Q v H) : qIx K (.ref p) (.int i) H Q := .inl ⟨p, xs, i, v, rfl, rfl, h, hv, q⟩
theorem x_ixT (h : SqT K H p xs) (hv : atI xs i = some v) (q : Q v H) : qIx K (.ref p) (.int i) H Q := .inr (.inl ⟨p, xs, i, v, rfl, rfl, h, hv, q⟩)
theorem x_max (q : Q (.int (if j > i then j else i)) H) : qMax [.int i, .int j] H Q := ⟨i, j, rfl, q⟩
theorem x_min (q : Q (.int (if j < i then j else i)) H) : qMin [.int i, .int j] H Q := ⟨i, j, rfl, q⟩
theorem x_abs (q : Q (.int (if i < 0 then -i else i)) H) : qAbs [.int i] H Q := ⟨i, rfl, q⟩
theorem x_lenL (h : SqL K H p xs) (q : Q (.int xs.length) H) : qLen K [.ref p] H Q := ⟨.ref p, xs.length, rfl, .inl ⟨xs, h, rfl⟩, q⟩
theorem x_lenT (h : SqT K H p xs) (q : Q (.int xs.length) H) : qLen K [.ref p] H Q := ⟨.ref p, xs.length, rfl, .inr ⟨xs, h, rfl⟩, q⟩
theorem x_lenS {s1 : Str} (h : s1.length ≤ sizeLine) (q : Q (.int s1.length) H) : qLen K [.str s1] H Q := ⟨.str s1, s1.length, rfl, ⟨h, rfl⟩, q⟩
theorem x_sum {ns : List Int} (h : SqL K H p (ns.map V.int)) (q : Q (.int ns.sum) H) : qSum K [.ref p] H Q := ⟨p, ns, rfl, h, q⟩
theorem x_str (h : i.natAbs.log2 < 1920) (q : Q (.str (toString i)) H) : qStr [.int i] H Q := ⟨i, rfl, h, q⟩
theorem z_listL (S : Z H B R) (h : SqL K H p xs) (q : ∀ l H', Z H' B ([(l, .lst xs)] :: R) → Q (.ref l) H') : qList K [.ref p] H Q := ⟨p, xs, rfl, .inl h, fun l hl => q l _ (S.new hl)⟩
theorem z_listT (S : Z H B R) (h : SqT K H p xs) (q : ∀ l H', Z H' B ([(l, .lst xs)] :: R) → Q (.ref l) H') : qList K [.ref p] H Q := ⟨p, xs, rfl, .inr h, fun l hl => q l _ (S.new hl)⟩
theorem z_tupleL (S : Z H B R) (h : SqL K H p xs) (q : ∀ l H', Z H' B ([(l, .tup xs)] :: R) → Q (.ref l) H') : qTuple K [.ref p] H Q := ⟨p, xs, rfl, .inl ⟨h, fun l hl => q l _ (S.new hl)⟩⟩
theorem z_slL {lo hi : Option Int} (S : Z H B R) (h : SqL K H p xs) (q : ∀ l H', Z H' B ([(l, .lst (cutV xs lo hi))] :: R) → Q (.ref l) H') : qSl K (.ref p) lo hi H Q := .inl ⟨p, xs, rfl, h, fun l hl => q l _ (S.new hl)⟩
theorem z_rep (S : Z H B R) (h : H p = some (.lst xs)) (h1 : 0 ≤ i) (h2 : i < 2 ^ 63) (hz : xs.length * i.toNat ≤ sizeLine) (q : ∀ l H', Z H' B ([(l, .lst (List.replicate i.toNat xs).flatten)] :: R) → Q (.ref l) H') : qMul (.ref p) (.int i) H Q :=
  .inr (.inr ⟨p, i, xs, rfl, rfl, h, by omega, h2, hz, fun l hl => q l _ (S.new hl)⟩)
theorem z_cat (S : Z H B R) (h : H p = some (.lst xs)) (h2 : H a = some (.lst ys)) (hz : xs.length + ys.length ≤ sizeLine) (q : ∀ l H', Z H' B ([(l, .lst (xs ++ ys))] :: R) → Q (.ref l) H') : qAdd K (.ref p) (.ref a) H Q :=
  .inr (.inr (.inl ⟨p, a, xs, ys, rfl, rfl, h, h2, hz, fun l hl => q l _ (S.new hl)⟩))
/-- append to the list of the piece at n -/
theorem z_append {n : Nat} {q' : Seg} (S : Z H B R) (h : R[n]? = some ((p, .lst xs) :: q')) (hz : xs.length < sizeLine) (q : ∀ H', Z H' B (R.set n ((p, .lst (xs ++ [y])) :: q')) → Q .non H') : rAppend (.ref p) [y] H Q :=
  ⟨p, xs, y, rfl, rfl, (S.at_ n 0 h rfl), hz, q _ (S.set n h)⟩
theorem z_setL {n : Nat} {q' : Seg} {k : Nat} {Q : Hp → Prop} (S : Z H B R) (h : R[n]? = some ((p, .lst xs) :: q')) (hk : ixN xs.length i = some k) (q : ∀ H', Z H' B (R.set n ((p, .lst (xs.set k v)) :: q')) → Q H') : rSetL (.ref p) (.int i) v H Q :=
  ⟨p, xs, i, k, rfl, rfl, S.at_ n 0 h rfl, hk, q _ (S.set n h)⟩
/-! ### tests -/
theorem x_test {Q : Bool → Hp → Prop} (q : te σ H fun x H1 => ∃ k, x = .bl k ∧ Q k H1) : tTest te σ H Q := q
theorem x_B {Q : Bool → Hp → Prop} (q : te σ H fun x H1 => ∃ k, x = .bl k ∧ Q k H1) : tB te σ H Q := q
theorem z_bl {A : Bool → Prop} (q : A b) : ∃ k, V.bl b = V.bl k ∧ A k := ⟨b, rfl, q⟩
theorem x_not {Q : Bool → Hp → Prop} (q : t σ H fun c H1 => Q (!c) H1) : tNot t σ H Q := q
theorem x_and {Q : Bool → Hp → Prop} (q : t σ H fun c H1 => if c = true then u σ H1 Q else Q false H1) : tAnd t u σ H Q := q
theorem x_or {Q : Bool → Hp → Prop} (q : t σ H fun c H1 => if c = true then Q true H1 else u σ H1 Q) : tOr t u σ H Q := q
theorem x_andV (q : ta σ H fun x H1 => ∃ c, x = .bl c ∧ if c = true then tb σ H1 Q else Q (.bl false) H1) : tAndV ta tb σ H Q := q
theorem x_orV (q : ta σ H fun x H1 => ∃ c, x = .bl c ∧ if c = true then Q (.bl true) H1 else tb σ H1 Q) : tOrV ta tb σ H Q := q
theorem x_notV (q : ta σ H fun x H1 => ∃ c, x = .bl c ∧ Q (.bl (!c)) H1) : tNotV ta σ H Q := q
theorem z_blE {A : Bool → Prop} (q : A b) : ∃ c, V.bl b = V.bl c ∧ A c := ⟨b, rfl, q⟩
theorem z_ite {P : Prop} [Decidable P] {A C : Prop} (h1 : P → A) (h2 : ¬ P → C) : if decide P = true then A else C := by
  by_cases h : P
  · rw [if_pos (decide_eq_true h)]; exact h1 h
  · rw [if_neg (fun z => h (of_decide_eq_true z))]; exact h2 h
theorem z_iteN {P : Prop} [Decidable P] {A C : Prop} (h1 : ¬ P → A) (h2 : P → C) : if (!decide P) = true then A else C := by
  by_cases h : P
  · rw [if_neg (by rw [decide_eq_true h]; decide)]; exact h2 h
  · rw [if_pos (by rw [decide_eq_false h]; decide)]; exact h1 h
theorem z_iteB {A C : Prop} (h1 : b = true → A) (h2 : b = false → C) : if b = true then A else C := by
  cases b with
  | true => rw [if_pos rfl]; exact h1 rfl
  | false => rw [if_neg (by decide)]; exact h2 rfl
theorem z_iteNB {A C : Prop} (h1 : b = false → A) (h2 : b = true → C) : if (!b) = true then A else C := by
  cases b with
  | true => exact (show (if False then A else C) from by rw [if_neg id]; exact h2 rfl) |> fun z => by simpa using z
  | false => exact (show (if True then A else C) from by rw [if_pos trivial]; exact h1 rfl) |> fun z => by simpa using z
/-! ### statements -/
theorem x_seq (q : ts { D with nx := tu D } σ H) : tSeq ts tu D σ H := q
theorem x_next (q : D.nx σ H) : tNext D σ H := q
theorem x_brk (q : D.bk σ H) : tBreak D σ H := q
theorem x_ct (q : D.ct σ H) : tCont D σ H := q
theorem x_drop (q : te σ H fun _ H1 => D.nx σ H1) : tDrop te D σ H := q
theorem x_ret (q : te σ H D.rt) : tRet te D σ H := q
theorem x_retN (q : D.rt .non H) : tRetN D σ H := q
theorem x_ifs (q : t σ H fun b H1 => if b = true then ts D σ H1 else tu D σ H1) : tIfS t ts tu D σ H := q
theorem x_asg {g : TG} (q : te σ H fun x H1 => g x σ H1 D.nx) : tAsg te g D σ H := q
theorem x_par {m n : Nat} (q : as σ H fun vs H1 => ∃ v w, vs = [v, w] ∧ D.nx ((σ.set m (some v)).set n (some w)) H1) : tPar m n as D σ H := q
theorem z_par {m n : Nat} (q : D.nx ((σ.set m (some v)).set n (some w)) H) : ∃ v' w', [v, w] = [v', w'] ∧ D.nx ((σ.set m (some v')).set n (some w')) H := ⟨v, w, rfl, q⟩
theorem x_gname {n : Nat} {Q : L2.St → Hp → Prop} (q : Q (σ.set n (some v)) H) : gName n v σ H Q := q
theorem x_gnil {Q : L2.St → Hp → Prop} (q : Q σ H) : gNil [] σ H Q := ⟨rfl, q⟩
theorem x_gcons {g : TG} {gs : TGs} {Q : L2.St → Hp → Prop} (q : g v σ H fun σ' H' => gs xs σ' H' Q) : gCons g gs (v :: xs) σ H Q := ⟨v, xs, rfl, q⟩
theorem x_gtup {n : Nat} {gs : TGs} {Q : L2.St → Hp → Prop} (h : SqT K H p xs) (hl : xs.length = n) (q : gs xs σ H Q) : gTup K n gs (.ref p) σ H Q := ⟨p, xs, rfl, h, hl, q⟩
theorem x_gsub {ti : TE} {st : TSet} {Q : L2.St → Hp → Prop} (q : to σ H fun o H1 => ti σ H1 fun i H2 => st o i v H2 fun H3 => Q σ H3) : gSub to ti st v σ H Q := q
theorem x_aug {n : Nat} {ip : TIp} (h : σ[n]? = some (some x)) (q : te σ H fun y H1 => ip x y H1 fun z H2 => D.nx (σ.set n (some z)) H2) : tAug n te ip D σ H := ⟨x, h, q⟩
theorem x_ipI {f : Int → Int → Int} (q : Q (.int (f i j)) H) : ipI f (.int i) (.int j) H Q := ⟨i, j, rfl, rfl, q⟩
theorem x_augS {ti : TE} {tg : V → V → Hp → VK → Prop} {ip : TIp} {st : TSet} (q : to σ H fun o H1 => ti σ H1 fun i H2 => tg o i H2 fun x H3 => te σ H3 fun y H4 => ip x y H4 fun z H5 => st o i z H5 fun H6 => D.nx σ H6) : tAugS to ti te tg ip st D σ H := q
theorem x_rixL (h : SqL K H p xs) (hv : atI xs i = some v) (q : Q v H) : rIxL K (.ref p) (.int i) H Q := ⟨p, xs, i, v, rfl, rfl, h, hv, q⟩
/-! ### loops -/
theorem loop_it {J : It} {g : TG} {n : Nat} (Pv : Nat → L2.St → Hp → Prop) (h0 : Pv 0 σ H) (hgo : ∀ i σ H, i < n → Pv i σ H → J.go i H) (hst : ∀ σ H, Pv n σ H → J.stop n H)
    (hs : ∀ i σ H x H', i < n → Pv i σ H → J.yld i H x H' → g x σ H' fun σ2 H2 => ts { D with nx := Pv (i + 1), ct := Pv (i + 1), bk := D.nx } σ2 H2) (hd : ∀ σ H, Pv n σ H → D.nx σ H) :
    ∃ W : Nat → Nat → L2.St → Hp → Prop, (∃ m, W 0 m σ H) ∧ ∀ i m σ H, W i m σ H → (J.stop i H ∧ D.nx σ H) ∨
      (J.go i H ∧ ∃ N : L2.St → Hp → Prop, (∀ σ' H', N σ' H' → ∃ m', m' < m ∧ W (i + 1) m' σ' H') ∧ ∀ x H', J.yld i H x H' → g x σ H' fun σ2 H2 => ts { D with nx := N, ct := N, bk := D.nx } σ2 H2) := by
  refine ⟨fun i m σ H => m = n - i ∧ i ≤ n ∧ Pv i σ H, ⟨n, by omega, Nat.zero_le _, h0⟩, ?_⟩
  rintro i m σ H ⟨rfl, hi, pv⟩
  by_cases hlt : i < n
  · exact .inr ⟨hgo i σ H hlt pv, Pv (i + 1), fun σ' H' p' => ⟨n - (i + 1), by omega, rfl, hlt, p'⟩, fun x H' y => hs i σ H x H' hlt pv y⟩
  · obtain rfl : i = n := by omega
    exact .inl ⟨hst σ H pv, hd σ H pv⟩
/-- what a for asks of the walk that has come -/
def mFor (g : TG) (tb : TS) (D : Ends) (σ : L2.St) (J : It) (H : Hp) : Prop := ∃ W : Nat → Nat → L2.St → Hp → Prop, (∃ m, W 0 m σ H) ∧ ∀ i m σ H, W i m σ H → (J.stop i H ∧ D.nx σ H) ∨
  (J.go i H ∧ ∃ N : L2.St → Hp → Prop, (∀ σ' H', N σ' H' → ∃ m', m' < m ∧ W (i + 1) m' σ' H') ∧ ∀ x H', J.yld i H x H' → g x σ H' fun σ2 H2 => tb { D with nx := N, ct := N, bk := D.nx } σ2 H2)
theorem x_for {wi : TI} {g : TG} (q : wi σ H fun J H1 => mFor g ts D σ J H1) : tFor wi g ts D σ H := q
theorem x_rng1 {Rr : It → Hp → Prop} (q : as σ H fun vs H1 => ∃ j : Int, vs = [.int j] ∧ -(2 ^ 62) ≤ j ∧ j < 2 ^ 62 ∧ Rr (Itr 0 j.toNat) H1) : iRng1 as σ H Rr := q
theorem x_rng2 {Rr : It → Hp → Prop} (q : as σ H fun vs H1 => ∃ i j : Int, vs = [.int i, .int j] ∧ (-(2 ^ 62) ≤ i ∧ i < 2 ^ 62 ∧ -(2 ^ 62) ≤ j ∧ j < 2 ^ 62) ∧ Rr (Itr i (j - i).toNat) H1) : iRng2 as σ H Rr := q
theorem z_rng1 {Rr : It → Hp → Prop} (n : Nat) (hn : j = (n : Int)) (hz : n < 2 ^ 62) (q : Rr (Itr 0 n) H) : ∃ j' : Int, [V.int j] = [.int j'] ∧ -(2 ^ 62) ≤ j' ∧ j' < 2 ^ 62 ∧ Rr (Itr 0 j'.toNat) H := by
  subst hn
  exact ⟨(n : Int), rfl, by omega, by omega, by rw [Int.toNat_natCast]; exact q⟩
theorem z_rng2 {Rr : It → Hp → Prop} (m n : Nat) (hi : i = (m : Int)) (hj : j = ((m + n : Nat) : Int)) (hz : m + n < 2 ^ 62) (q : Rr (Itr (m : Int) n) H) :
    ∃ i' j' : Int, [V.int i, V.int j] = [.int i', .int j'] ∧ (-(2 ^ 62) ≤ i' ∧ i' < 2 ^ 62 ∧ -(2 ^ 62) ≤ j' ∧ j' < 2 ^ 62) ∧ Rr (Itr i' (j' - i').toNat) H := by
  subst hi hj
  exact ⟨(m : Int), ((m + n : Nat) : Int), rfl, by omega, by rw [show (((m + n : Nat) : Int) - (m : Int)).toNat = n by omega]; exact q⟩
theorem z_for_rng {g : TG} {lo : Int} (n : Nat) (Pv : Nat → L2.St → Hp → Prop) (h0 : Pv 0 σ H) (hs : ∀ (i : Nat) σ H, i < n → Pv i σ H → g (.int (lo + (i : Int))) σ H fun σ2 H2 => ts { D with nx := Pv (i + 1), ct := Pv (i + 1), bk := D.nx } σ2 H2)
    (hd : ∀ σ H, Pv n σ H → D.nx σ H) : mFor g ts D σ (Itr lo n) H := by
  refine loop_it (n := n) Pv h0 (fun i _ _ h _ => h) (fun _ _ _ => Nat.le_refl _) (fun k σ H x H' hk pv y => ?_) hd
  obtain ⟨e1, e2⟩ := y
  subst e1 e2
  exact hs k σ _ hk pv
theorem x_enum {Rr : It → Hp → Prop} (q : as σ H fun vs H1 => ∃ a xs, vs = [.ref a] ∧ SqL K H1 a xs ∧ Rr (Ite K a) H1) : iEnum K as σ H Rr := q
theorem z_enum {Rr : It → Hp → Prop} (h : SqL K H a xs) (q : Rr (Ite K a) H) : ∃ a' xs, [V.ref a] = [.ref a'] ∧ SqL K H a' xs ∧ Rr (Ite K a') H := ⟨a, xs, rfl, h, q⟩
/-- over enumerate(a list): each turn (k, x); what is known at each turn -/
theorem z_for_enum {g : TG} (xs : List V) (Pv : Nat → L2.St → Hp → Prop) (h0 : Pv 0 σ H) (hl : ∀ i σ H, i ≤ xs.length → Pv i σ H → SqL K H a xs)
    (hs : ∀ (k : Nat) x T σ H H', xs[k]? = some x → Pv k σ H → Ex H H' → H T = none → H' T = some (.tup [.int (k : Int), x]) → g (.ref T) σ H' fun σ2 H2 => ts { D with nx := Pv (k + 1), ct := Pv (k + 1), bk := D.nx } σ2 H2)
    (hd : ∀ σ H, Pv xs.length σ H → D.nx σ H) : mFor g ts D σ (Ite K a) H := by
  refine loop_it (n := xs.length) Pv h0 (fun i σ H h p => ⟨xs, xs[i], hl i σ H (Nat.le_of_lt h) p, by simp [h]⟩) (fun σ H p => ⟨xs, hl _ σ H (Nat.le_refl _) p, Nat.le_refl _⟩) (fun k σ H v H' hk pv y => ?_) hd
  obtain ⟨T, x, rfl, hT, rfl, hx⟩ := y
  exact hs k x T σ H _ (hx xs (hl k σ H (Nat.le_of_lt hk) pv)) pv (Ex.new hT) hT upd_same
theorem x_seqI {Rr : It → Hp → Prop} (q : te σ H fun x H1 => (∃ a, x = .ref a ∧ (∃ xs, SqL K H1 a xs) ∧ Rr (Itl K a) H1) ∨ ∃ a, x = .ref a ∧ (∃ xs, SqT K H1 a xs) ∧ Rr (Itt K a) H1) : iSeq K te σ H Rr := q
theorem z_seqL {Rr : It → Hp → Prop} {A : Prop} (h : SqL K H a xs) (q : Rr (Itl K a) H) : (∃ a', V.ref a = .ref a' ∧ (∃ xs, SqL K H a' xs) ∧ Rr (Itl K a') H) ∨ A := .inl ⟨a, rfl, ⟨xs, h⟩, q⟩
theorem z_seqT {Rr : It → Hp → Prop} {A : Prop} (h : SqT K H a xs) (q : Rr (Itt K a) H) : A ∨ ∃ a', V.ref a = .ref a' ∧ (∃ xs, SqT K H a' xs) ∧ Rr (Itt K a') H := .inr ⟨a, rfl, ⟨xs, h⟩, q⟩
theorem z_for_list {g : TG} (xs : List V) (Pv : Nat → L2.St → Hp → Prop) (h0 : Pv 0 σ H) (hl : ∀ i σ H, i ≤ xs.length → Pv i σ H → SqL K H a xs)
    (hs : ∀ (k : Nat) x σ H, xs[k]? = some x → Pv k σ H → g x σ H fun σ2 H2 => ts { D with nx := Pv (k + 1), ct := Pv (k + 1), bk := D.nx } σ2 H2)
    (hd : ∀ σ H, Pv xs.length σ H → D.nx σ H) : mFor g ts D σ (Itl K a) H := for_list Pv h0 hl hs hd
theorem z_for_tup {g : TG} (xs : List V) (Pv : Nat → L2.St → Hp → Prop) (h0 : Pv 0 σ H) (hl : ∀ i σ H, i ≤ xs.length → Pv i σ H → SqT K H a xs)
    (hs : ∀ (k : Nat) x σ H, xs[k]? = some x → Pv k σ H → g x σ H fun σ2 H2 => ts { D with nx := Pv (k + 1), ct := Pv (k + 1), bk := D.nx } σ2 H2)
    (hd : ∀ σ H, Pv xs.length σ H → D.nx σ H) : mFor g ts D σ (Itt K a) H := for_tup Pv h0 hl hs hd
end
end FT

/-! FT3: comprehensions, kinds of values, raised errors, repr. -/
namespace FT
open PySem PySem.Spec PyProof.Rows L2
section
variable {K : PySem.W.Frag} {σ σ' : L2.St} {H H' B : Hp} {R : List Seg} {Q : VK} {x y z v w : V} {D : Ends} {E : XK} {ta tb tc te to : TE} {t u tt : TT} {ts tu : TS} {as : TA} {r : R2} {p a : Addr} {o : HO} {xs ys : List V} {i j : Int} {b : Bool}
/-! ### comprehensions -/
def mLc (g : TG) (tt : TT) (te : TE) (vs : List Nat) (σ : L2.St) (Q : VK) (J : It) (H1 : Hp) : Prop := ∀ D, H1 D = none → ∃ W : Nat → Nat → Hp → Prop, (∃ m, W 0 m (upd H1 D (.lst []))) ∧ ∀ i m H, W i m H →
  (J.stop i H ∧ Q (.ref D) H) ∨ (J.go i H ∧ ∃ Nx : Hp → Prop, (∀ H', Nx H' → ∃ m', m' < m ∧ W (i + 1) m' H') ∧ ∀ x H', J.yld i H x H' → g x (wipe σ vs) H' fun σ2 H2 => wipe σ2 vs = wipe σ vs ∧ tt σ2 H2 fun b H3 =>
    if b = true then te σ2 H3 fun y H4 => ∃ acc, H4 D = some (.lst acc) ∧ acc.length < sizeLine ∧ Nx (upd H4 D (.lst (acc ++ [y]))) else Nx H3)
theorem x_lc {wi : TI} {g : TG} {vs : List Nat} (q : wi σ H fun J H1 => mLc g tt te vs σ Q J H1) : tLc wi g tt te vs σ H Q := q
/-- the list at D grows by y -/
def mApp (D : Addr) (Nx : Hp → Prop) (y : V) (H4 : Hp) : Prop := ∃ acc, H4 D = some (.lst acc) ∧ acc.length < sizeLine ∧ Nx (upd H4 D (.lst (acc ++ [y])))
/-- a comprehension that lays L i behind i turns -/
theorem z_lc {J : It} {g : TG} {vs : List Nat} (S : Z H B R) (n : Nat) (L : Nat → List V) (h0 : L 0 = []) (hgo : ∀ i D H', i < n → Z H' B ([(D, .lst (L i))] :: R) → J.go i H') (hst : ∀ D H', Z H' B ([(D, .lst (L n))] :: R) → J.stop n H')
    (hs : ∀ i D H1 x H2, i < n → Z H1 B ([(D, .lst (L i))] :: R) → J.yld i H1 x H2 → g x (wipe σ vs) H2 fun σ2 H3 => wipe σ2 vs = wipe σ vs ∧ tt σ2 H3 fun b H4 =>
      if b = true then te σ2 H4 (mApp D fun H' => Z H' B ([(D, .lst (L (i + 1)))] :: R)) else Z H4 B ([(D, .lst (L (i + 1)))] :: R))
    (hq : ∀ D H', Z H' B ([(D, .lst (L n))] :: R) → Q (.ref D) H') : mLc g tt te vs σ Q J H := by
  intro D hD
  refine ⟨fun i m H => m = n - i ∧ i ≤ n ∧ Z H B ([(D, .lst (L i))] :: R), ⟨n, by omega, Nat.zero_le _, by rw [h0]; exact S.new hD⟩, ?_⟩
  rintro i m H1 ⟨rfl, hi, S1⟩
  by_cases hlt : i < n
  · exact .inr ⟨hgo i D H1 hlt S1, fun H' => Z H' B ([(D, .lst (L (i + 1)))] :: R), fun H' S' => ⟨n - (i + 1), by omega, rfl, hlt, S'⟩, fun x H' y => hs i D H1 x H' hlt S1 y⟩
  · obtain rfl : i = n := by omega
    exact .inl ⟨hst D H1 S1, hq D H1 S1⟩
theorem z_app {N : List Seg} {L : List V} {L' : List V} {Dd : Addr} (S : Z H B (N ++ [(Dd, .lst L)] :: R)) (hl : L.length < sizeLine) (e : L' = L ++ [y]) : mApp Dd (fun H' => Z H' B ([(Dd, .lst L')] :: R)) y H := by
  have hp : (N ++ [(Dd, .lst L)] :: R).Perm ([(Dd, HO.lst L)] :: (N ++ R)) := List.perm_middle
  have S1 := S.perm hp
  refine ⟨L, S1.hd, hl, ?_⟩
  rw [e]
  have S2 := S1.put (o' := .lst (L ++ [y]))
  exact S2.sub (List.Sublist.cons₂ _ (List.sublist_append_right N R))
theorem z_skip {N : List Seg} {L L' : List V} {Dd : Addr} (S : Z H B (N ++ [(Dd, .lst L)] :: R)) (e : L' = L) : Z H B ([(Dd, .lst L')] :: R) := by
  rw [e]
  exact S.sub (List.sublist_append_right N _)
theorem sz : sizeLine = 16777216 := rfl
theorem take_next {α : Type} {l : List α} {k : Nat} {y : α} (h : l[k]? = some y) : l.take (k + 1) = l.take k ++ [y] := by
  rw [List.take_add_one, h] <;> rfl
theorem ixN_nat {n k : Nat} (h : k < n) : ixN n (k : Int) = some k := by
  unfold L2.ixN
  rw [if_pos (by omega), if_pos (by omega), Int.toNat_natCast]
theorem atI_nat {α : Type} {l : List α} {k : Nat} {y : α} (h : l[k]? = some y) : atI l (k : Int) = some y := by
  unfold L2.atI
  rw [ixN_nat (List.getElem?_eq_some_iff.mp h).1]
  exact h
theorem atI_last {α : Type} {l : List α} {y : α} (h : l.getLast? = some y) : atI l (-1) = some y := by
  cases l with
  | nil => cases h
  | cons a l =>
    unfold L2.atI L2.ixN
    rw [if_neg (by decide), if_pos (by simp; omega)]
    have e : ((-1 : Int) + ((a :: l).length : Nat)).toNat = l.length := by simp; omega
    show (a :: l)[((-1 : Int) + ((a :: l).length : Nat)).toNat]? = some y
    rw [e]
    rw [List.getLast?_eq_getElem?] at h
    simpa using h
theorem cut_pre {xs : List V} {k : Nat} : cutV xs none (some (k : Int)) = xs.take k := by
  unfold L2.cutV
  rw [HT.sIx_nat, HT.sIx_none, Nat.sub_zero, List.drop_zero]
  by_cases h : k ≤ xs.length
  · rw [Nat.min_eq_left h]
  · rw [Nat.min_eq_right (by omega), List.take_length, List.take_of_length_le (by omega)]
theorem cut_suf {xs : List V} {k : Nat} : cutV xs (some (k : Int)) none = xs.drop k := by
  unfold L2.cutV
  rw [HT.sIx_nat, HT.sIx_none]
  by_cases h : k ≤ xs.length
  · rw [Nat.min_eq_left h, List.take_of_length_le (by simp)]
  · rw [Nat.min_eq_right (by omega), Nat.sub_self, List.take_zero, List.drop_of_length_le (by omega)]
/-- what a turn of a comprehension lays on the list at D -/
abbrev Gro (B : Hp) (R : List Seg) (D : Addr) (l : List V) (H : Hp) : Prop := Z H B ([(D, .lst l)] :: R)
theorem z_lcL {g : TG} {vs : List Nat} (S : Z H B R) (xs : List V) (L : Nat → List V) (h0 : L 0 = []) (hl : ∀ H', Z H' B R → SqL K H' a xs)
    (hs : ∀ k x D H1, xs[k]? = some x → Z H1 B ([(D, .lst (L k))] :: R) → g x (wipe σ vs) H1 fun σ2 H3 => wipe σ2 vs = wipe σ vs ∧ tt σ2 H3 fun b H4 => if b = true then te σ2 H4 (mApp D (Gro B R D (L (k + 1)))) else Gro B R D (L (k + 1)) H4)
    (hq : ∀ D H', Z H' B ([(D, .lst (L xs.length))] :: R) → Q (.ref D) H') : mLc g tt te vs σ Q (Itl K a) H := by
  refine z_lc S xs.length L h0 (fun i D H' h S' => ⟨xs, xs[i], hl _ S'.tail, by simp [h]⟩) (fun D H' S' => ⟨xs, hl _ S'.tail, Nat.le_refl _⟩) (fun i D H1 x H2 hi S1 y => ?_) hq
  obtain ⟨rfl, hx⟩ := y
  exact hs i x D _ (hx xs (hl _ S1.tail)) S1
theorem z_lcT {g : TG} {vs : List Nat} (S : Z H B R) (xs : List V) (L : Nat → List V) (h0 : L 0 = []) (hl : ∀ H', Z H' B R → SqT K H' a xs)
    (hs : ∀ k x D H1, xs[k]? = some x → Z H1 B ([(D, .lst (L k))] :: R) → g x (wipe σ vs) H1 fun σ2 H3 => wipe σ2 vs = wipe σ vs ∧ tt σ2 H3 fun b H4 => if b = true then te σ2 H4 (mApp D (Gro B R D (L (k + 1)))) else Gro B R D (L (k + 1)) H4)
    (hq : ∀ D H', Z H' B ([(D, .lst (L xs.length))] :: R) → Q (.ref D) H') : mLc g tt te vs σ Q (Itt K a) H := by
  refine z_lc S xs.length L h0 (fun i D H' h S' => ⟨xs, xs[i], hl _ S'.tail, by simp [h]⟩) (fun D H' S' => ⟨xs, hl _ S'.tail, Nat.le_refl _⟩) (fun i D H1 x H2 hi S1 y => ?_) hq
  obtain ⟨rfl, hx⟩ := y
  exact hs i x D _ (hx xs (hl _ S1.tail)) S1
theorem z_lcR {g : TG} {vs : List Nat} {lo : Int} (S : Z H B R) (n : Nat) (L : Nat → List V) (h0 : L 0 = [])
    (hs : ∀ (k : Nat) D H1, k < n → Z H1 B ([(D, .lst (L k))] :: R) → g (.int (lo + (k : Int))) (wipe σ vs) H1 fun σ2 H3 => wipe σ2 vs = wipe σ vs ∧ tt σ2 H3 fun b H4 => if b = true then te σ2 H4 (mApp D (Gro B R D (L (k + 1)))) else Gro B R D (L (k + 1)) H4)
    (hq : ∀ D H', Z H' B ([(D, .lst (L n))] :: R) → Q (.ref D) H') : mLc g tt te vs σ Q (Itr lo n) H := by
  refine z_lc S n L h0 (fun i D H' h S' => h) (fun D H' S' => Nat.le_refl _) (fun i D H1 x H2 hi S1 y => ?_) hq
  obtain ⟨rfl, rfl⟩ := y
  exact hs i D _ hi S1
theorem z_lcE {g : TG} {vs : List Nat} (S : Z H B R) (xs : List V) (L : Nat → List V) (h0 : L 0 = []) (hl : ∀ H', Z H' B R → SqL K H' a xs)
    (hs : ∀ (k : Nat) x D T H1, xs[k]? = some x → Z H1 B ([(T, .tup [.int (k : Int), x])] :: [(D, .lst (L k))] :: R) → g (.ref T) (wipe σ vs) H1 fun σ2 H3 => wipe σ2 vs = wipe σ vs ∧ tt σ2 H3 fun b H4 => if b = true then te σ2 H4 (mApp D (Gro B R D (L (k + 1)))) else Gro B R D (L (k + 1)) H4)
    (hq : ∀ D H', Z H' B ([(D, .lst (L xs.length))] :: R) → Q (.ref D) H') : mLc g tt te vs σ Q (Ite K a) H := by
  refine z_lc S xs.length L h0 (fun i D H' h S' => ⟨xs, xs[i], hl _ S'.tail, by simp [h]⟩) (fun D H' S' => ⟨xs, hl _ S'.tail, Nat.le_refl _⟩) (fun i D H1 x H2 hi S1 y => ?_) hq
  obtain ⟨T, x, rfl, hT, rfl, hx⟩ := y
  exact hs i x D T _ (hx xs (hl _ S1.tail)) (S1.new hT)
theorem z_lcZ {g : TG} {vs : List Nat} {c : Addr} (S : Z H B R) (xs ys : List V) (e : xs.length = ys.length) (L : Nat → List V) (h0 : L 0 = []) (hl : ∀ H', Z H' B R → SqL K H' a xs) (hl2 : ∀ H', Z H' B R → SqL K H' c ys)
    (hs : ∀ (k : Nat) x y D T H1, xs[k]? = some x → ys[k]? = some y → Z H1 B ([(T, .tup [x, y])] :: [(D, .lst (L k))] :: R) → g (.ref T) (wipe σ vs) H1 fun σ2 H3 => wipe σ2 vs = wipe σ vs ∧ tt σ2 H3 fun b H4 => if b = true then te σ2 H4 (mApp D (Gro B R D (L (k + 1)))) else Gro B R D (L (k + 1)) H4)
    (hq : ∀ D H', Z H' B ([(D, .lst (L xs.length))] :: R) → Q (.ref D) H') : mLc g tt te vs σ Q (Itz K a c) H := by
  refine z_lc S xs.length L h0 (fun i D H' h S' => ⟨xs, ys, xs[i], ys[i]'(e ▸ h), hl _ S'.tail, hl2 _ S'.tail, by simp [h], by simp [e ▸ h]⟩) (fun D H' S' => ⟨xs, ys, hl _ S'.tail, hl2 _ S'.tail, .inl (Nat.le_refl _)⟩) (fun i D H1 x H2 hi S1 y => ?_) hq
  obtain ⟨T, x, y, rfl, hT, rfl, hx, hy⟩ := y
  exact hs i x y D T _ (hx xs (hl _ S1.tail)) (hy ys (hl2 _ S1.tail)) (S1.new hT)
theorem x_wipe {vs : List Nat} {A : Prop} (h : wipe σ' vs = wipe σ vs) (q : A) : wipe σ' vs = wipe σ vs ∧ A := ⟨h, q⟩
theorem x_yes {Q : Bool → Hp → Prop} (q : Q true H) : tYes σ H Q := q
theorem z_iftrue {A C : Prop} (q : A) : if true = true then A else C := by rw [if_pos rfl]; exact q
theorem z_iffalse {A C : Prop} (q : C) : if false = true then A else C := by rw [if_neg (by decide)]; exact q
/-! ### sizes of ints -/
theorem natAbs_lt {i : Int} {n : Nat} (h0 : 0 ≤ i) (h : i < 2 ^ n) : i.natAbs < 2 ^ n := by
  have e : ((2 ^ n : Nat) : Int) = (2 : Int) ^ n := by rw [Int.natCast_pow]; rfl
  omega
theorem mulW {i j : Int} (h1 : 0 ≤ i) (h2 : i < 2 ^ 240) (h3 : 0 ≤ j) (h4 : j < 2 ^ 240) : CMulW i j :=
  wide_mul (a := 240) (b := 240) (natAbs_lt h1 h2) (natAbs_lt h3 h4) (by decide) (by decide) (by decide)
theorem log_lt {i : Int} {n : Nat} (h0 : 0 < i) (h : i < 2 ^ n) : i.natAbs.log2 < n := by
  rw [Nat.log2_lt (by omega)]
  exact natAbs_lt (by omega) h
theorem divW {i j : Int} (h1 : 0 < j) (h2 : j < 2 ^ 240) : CDivW i j := ⟨h1, by have := log_lt h1 h2; omega⟩
theorem powW {i j : Int} (h1 : 0 ≤ i) (h2 : i < 2 ^ 240) (h3 : 0 ≤ j) (h4 : j ≤ 1000) : CPowW i j := by
  refine ⟨h3, ?_⟩
  have hb : Builtin.Int.intBits i ≤ 240 := by
    unfold Builtin.Int.intBits
    split
    · omega
    · rename_i h
      have h0 : i ≠ 0 := by simpa using h
      have := log_lt (by omega) h2
      omega
  have h5 : (Builtin.Int.intBits i : Int) * j ≤ 240 * 1000 := Int.mul_le_mul (by omega) h4 h3 (by decide)
  omega
theorem emod_in {i j : Int} (h : 0 < j) : 0 ≤ i % j ∧ i % j < j := ⟨Int.emod_nonneg i (by omega), Int.emod_lt_of_pos i h⟩
theorem div_in {i j : Int} (h : 0 ≤ i) (h2 : 0 < j) : 0 ≤ i / j ∧ i / j ≤ i := ⟨Int.ediv_nonneg h (by omega), Int.ediv_le_self _ h⟩
/-! ### while -/
/-- what a while asks at each turn -/
def mWh (W : Nat → L2.St → Hp → Prop) (ts : TS) (D : Ends) (m : Nat) (σ : L2.St) (b : Bool) (H1 : Hp) : Prop := if b = true then ∃ N : L2.St → Hp → Prop, (∀ σ' H', N σ' H' → ∃ m', m' < m ∧ W m' σ' H') ∧ ts { D with nx := N, ct := N, bk := D.nx } σ H1 else D.nx σ H1
theorem z_while (W : Nat → L2.St → Hp → Prop) (m : Nat) (h0 : W m σ H) (hs : ∀ m σ H, W m σ H → t σ H (mWh W ts D m σ)) : tWhile t ts D σ H := ⟨W, ⟨m, h0⟩, hs⟩
theorem z_wT {W : Nat → L2.St → Hp → Prop} {m : Nat} (q : ts { D with nx := fun σ' H' => ∃ m', m' < m ∧ W m' σ' H', ct := fun σ' H' => ∃ m', m' < m ∧ W m' σ' H', bk := D.nx } σ H) : mWh W ts D m σ true H := by
  unfold mWh
  rw [if_pos rfl]
  exact ⟨_, fun _ _ h => h, q⟩
theorem z_wF {W : Nat → L2.St → Hp → Prop} {m : Nat} (q : D.nx σ H) : mWh W ts D m σ false H := by
  unfold mWh
  rw [if_neg (by decide)]
  exact q
/-! ### zip -/
theorem x_zip {Rr : It → Hp → Prop} (q : as σ H fun vs H1 => ∃ a b xs ys, vs = [.ref a, .ref b] ∧ SqL K H1 a xs ∧ SqL K H1 b ys ∧ Rr (Itz K a b) H1) : iZip K as σ H Rr := q
theorem z_zip {Rr : It → Hp → Prop} {b : Addr} (h : SqL K H a xs) (h2 : SqL K H b ys) (q : Rr (Itz K a b) H) : ∃ a' b' xs ys, [V.ref a, V.ref b] = [.ref a', .ref b'] ∧ SqL K H a' xs ∧ SqL K H b' ys ∧ Rr (Itz K a' b') H := ⟨a, b, xs, ys, rfl, h, h2, q⟩
/-! ### isinstance -/
def qIsi (K : PySem.W.Frag) : List V → Hp → VK → Prop := rIsi K
theorem call_qIsi {X : Cx} : CallR X (.builtin "isinstance") (qIsi X.K) := call_isi
/-- the value's type is the built-in T -/
abbrev Kd (K : PySem.W.Frag) (H : Hp) (v : V) (T : String) : Prop := TyX K H v (.type T)
theorem z_isi {T T0 : String} (h : Kd K H v T0) (e : kitB T0 T = some b) (q : Q (.bl b) H) : qIsi K [v, .ty T] H Q := ⟨v, .ty T, _, _, b, rfl, .ty T, h, kit_ty e, q⟩
theorem Kd.ext {T : String} (e : Ex H H') (h : Kd K H v T) : Kd K H' v T := by
  unfold Kd at h ⊢
  cases h with
  | base h =>
    cases h with
    | non => exact .base .non
    | bl x => exact .base (.bl x)
    | int i => exact .base (.int i)
    | str x => exact .base (.str x)
    | flt x => exact .base (.flt x)
    | lst q => exact .base (.lst (e _ _ q))
    | frz q => exact .base (.frz (e _ _ q))
    | tup q => exact .base (.tup (e _ _ q))
    | dK q => exact .base (.dK (e _ _ q))
    | dT q => exact .base (.dT (e _ _ q))
  | byt x => exact .byt x
  | set q => exact .set (e _ _ q)
  | kList q c => exact .kList q c
  | kTuple q c => exact .kTuple q c
  | kDict q c => exact .kDict q c
  | fTuple q => exact .fTuple (e _ _ q)
  | fDict q => exact .fDict (e _ _ q)
/-- whether a value is an int that is not a bool, from lo to hi -/
def isI (v : V) (lo : Int) (hi : Option Int) : Bool := match v with
  | .int i => decide (lo ≤ i) && (match hi with
    | none => true
    | some h => decide (i ≤ h))
  | _ => false
def hiV : Option Int → V
  | none => .non
  | some h => .int h
/-! ### raised errors of own classes without a field -/
abbrev wF (E : XK) : WX := fun cls d _ H => E cls d H
def tRaise (W : WX) (C : Addr) : TS := fun _ σ H => W (.ref C) none σ H
structure Xc (K : PySem.W.Frag) (mg : Str → Option Value) (x : Str) : Prop where
  gl : mg x = some (.ref (He.ga K x))
  ex : PySem.W.excIn K (He.ga K x) He.veBase "ValueError.__new__" = true
  kp : PySem.W.keepIn K (.ref (He.ga K x)) = true
  sb : PySem.W.subIn K (.ref (He.ga K x)) (.type "BaseException") = some true
  ty : PySem.W.typeIn K (.ref (He.ga K x)) = some (.type "type")
theorem ps_rs {X : Cx} {W : WX} {x m : Str} {j : Nat} {p p2 pos pos' : Pos} (tk : Takes X W) (T : Xc X.K X.mg x) (hc : X.calm = true := by rfl) (hg : Gl X x := by rfl) (hdb : (x == ("__debug__" : Str)) = false := by decide) :
    PS X (.Raise (some (.Call (.Name x p) [.Constant (.str m) j p2] [] pos)) none pos') (tRaise W (He.ga X.K x)) :=
  ps_raise hc tk (pmk_own PySem.F.excBase_ValueError T.ex T.gl T.kp (raises_own T.sb T.ty) hg hdb)
theorem x_raise {W : WX} {C : Addr} (q : W (.ref C) none σ H) : tRaise W C D σ H := q
/-! ### repr of data -/
def qRepr (K : PySem.W.Frag) : List V → Hp → VK → Prop := fun xs H Q => ∃ v d, xs = [v] ∧ Dp K H v d ∧ d.showable = true ∧ d.hasDict = false ∧ d.depth ≤ 60 ∧ d.shown.length ≤ sizeLine ∧ Q (.str d.shown) H
end
end FT

/-! FTG: a def that may ask for repr of lists: it runs only where no repr is under way (what the law's caller is known by). -/
namespace FT
open PySem PySem.Spec PyProof.Rows L2
/-- a def's promise where no repr is under way -/
structure FnG (P : Program) (w : World) (K : PySem.W.Frag) (mg : Str → Option Value) (base : Heap) (CX : CXT) (k : Nat) (f : Addr) (fd : FuncData) (ps : List Str) (sp : Sp) : Prop where
  len : ∀ vs H Q E, sp vs H Q E → vs.length = ps.length
  run : ∀ (A : Around) (outer : List Env) (s : Shared) (H : Hp) (args : Args) (us : List Value) (vs : List V) (Q : VK) (E : XK), A.guards = some [] → Room k A → Env0 P w K mg base A outer s H → BindsTo s fd args (ps.zip us) → Vals vs us → sp vs H Q E →
    codeAny (model P w) A (.call (.ref f) args) (CR CX outer P w H s Q E) s
theorem fnG_of {P : Program} {w : World} {K : PySem.W.Frag} {mg : Str → Option Value} {base : Heap} {x qual : Str} {params : Arguments} {body : List Stmt} {scope : Scope} {dvs : List V} {kws : List (Str × V)} {f : Addr} {fd : FuncData} {CX : CXT} {N ps : List Str} {k : Nat} {sp : Sp}
    (F : FunD K x qual params body scope dvs kws f fd) (S : FnScope N ps scope) (len : ∀ vs H Q E, sp vs H Q E → vs.length = ps.length)
    (hbody : ∀ (cdv : Value) (A : Around) (outer : List Env) (s : Shared) (H : Hp) (vs : List V) (Q : VK) (E : XK), A.guards = some [] → Room k (A.deeper (envOfC qual scope s.heap.objs.size f cdv)) → sp vs H Q E →
      ∃ t, PSs (cxOf CX P w K mg base N qual scope f cdv A outer s H E) body t ∧ t { nx := fun _ H' => Q .non H', rt := Q } (L2.start N vs) H) : FnG P w K mg base CX (k + 1) f fd ps sp := by
  obtain ⟨oc, od, dV, kV, doc, pm, an, cdv, ct, osl, rfl, lk, hcd, _, _⟩ := F.ex
  refine ⟨len, fun A outer s H args us vs Q E hgd hr e0 hb r hsp => ?_⟩
  have hl := len _ _ _ _ hsp
  have KX : K.In s.heap := e0.mod.kin.keeps fun b o e => (e0.bs b o e).1
  refine codeAny_call_function hr.depth (KX _ _ lk) rfl S.co S.gen rfl (PySem.W.codeRec_of KX hcd) (hb _ _ _ _ ?_)
  refine wpAny_newFunctionEnv_cells S.kind (fun ⟨n, v⟩ hy => ?_) fun env he s1 x => ?_
  · rcases S.par n (List.of_mem_zip hy).1 with q | q
    · exact .inl q
    · exact .inr ⟨q, PySem.W.cellsFrom_some _ _ _ (.inl q)⟩
  subst he
  refine ⟨(e0.mod.nolimit.keeps fun b o e => (e0.bs b o e).1).keeps x.toInCall.keep, codeAny_func ?_⟩
  obtain ⟨t, ht, hq⟩ := hbody cdv A outer s H vs Q E hgd (hr.deeper _) hsp
  have I : Inv (cxOf CX P w K mg base N qual scope f cdv A outer s H E) [] (L2.start N vs) H s1 := inv_start S hr.hd e0 hl r x
  refine wpAny_mono (ht.run [] s1 (L2.start N vs) H _ I hq) (fun fl s' hs => ?_) fun e s' hs => hs
  cases fl with
  | ret u =>
    obtain ⟨v, σ', H', J, rv, q⟩ := hs
    exact ⟨v, H', J.os, J.bare, J.base, J.hok, rv, q⟩
  | next =>
    obtain ⟨σ', H', J, q⟩ := hs
    exact ⟨.non, H', J.os, J.bare, J.base, J.hok, rfl, q⟩
  | brk => exact hs.elim fun _ z => z.elim fun _ z => z.2.elim
  | cont => exact hs.elim fun _ z => z.elim fun _ z => z.2.elim
/-- where it is called: it is like a def that may be called anywhere, but from here alone -/
theorem deeper_guards {A : Around} {env : Env} : (A.deeper env).guards = A.guards := rfl
/-- repr of data -/
theorem call_qRepr {X : Cx} {k : Nat} (hr : Room k X.A) (hgd : X.A.guards = some []) : CallR X (.builtin "repr") (qRepr X.K) := by
  intro pins s σ H xs us Q I r h
  obtain ⟨v, d, rfl, hd, h1, h2, h3, h4, q⟩ := h
  have hun := hr.un
  cases r with
  | cons ru rest =>
    cases rest
    rename_i u
    obtain ⟨as, rd⟩ := Dp.reads I d v u hd ru
    have hno : d.hasDict = true → sysModules ∉ as := fun z => by rw [h2] at z; cases z
    have fin : ∀ (h' : Heap) (tk : Nat) (u2 : Tok), (∀ b o, s.heap.get? b = some o → h'.get? b = some o) → EP X pins σ Q (.str d.shown u2) { s with heap := h', toks := tk } := fun h' tk u2 hk =>
      ⟨.str _, H, I.kept hk, ⟨_, rfl⟩, q⟩
    cases rd with
    | none => exact PySem.P.repr_of_none (fin _ _ _ fun _ _ e => e)
    | bool b => exact PySem.P.repr_of_bool (fin _ _ _ fun _ _ e => e)
    | int i t => exact PySem.P.repr_of_int (by simpa [PyData.showable] using h1) (fin _ _ _ fun _ _ e => e)
    | str x t => exact PySem.P.repr_of_str (fin _ _ _ fun _ _ e => e) h4
    | list a1 a2 a3 a4 => exact repr_of_reads' (.list a1 a2 a3 a4) h1 hno hgd (by omega) (fun _ _ e => e) (fun h' u2 tk hk => fin h' tk u2 hk) h4
    | tuple a1 a2 a3 a4 => exact repr_of_reads' (.tuple a1 a2 a3 a4) h1 hno hgd (by omega) (fun _ _ e => e) (fun h' u2 tk hk => fin h' tk u2 hk) h4
    | dict a1 a2 a3 a4 a5 => exact repr_of_reads' (.dict a1 a2 a3 a4 a5) h1 hno hgd (by omega) (fun _ _ e => e) (fun h' u2 tk hk => fin h' tk u2 hk) h4
/-- the head's end: the law's promise at the heap behind the top, where the caller stands -/
theorem law_callG {P : Program} {w : World} {K : PySem.W.Frag} {mg mb : Str → Option Value} {CX : CXT} {k : Nat} {fa a : Addr} {fd : FuncData} {x : Str} {sp : Sp} {s : Shared} {vs : List Value} {ns : List Int}
    (KX : K.In s.heap) (hns : s.heap.Ns mainGlobals mg) (hb : s.heap.Ns builtinsNs mb) (hbb : ∀ x : Str, x ≠ "__name__" → mb x = bootBuiltins x) (hlim : s.heap.NoLimit) (hg : s.gens = #[])
    (ha : s.heap.get? a = some { cls := .type "list", data := .seq vs.toArray }) (hi : IntsAre vs ns) (hl : ns.length ≤ sizeLine) (hr : Room k callerA)
    (F : ∀ base : Heap, K.In base → base.Ns mainGlobals mg → FnG P w K mg base CX k fa fd [x] sp) (hbind : ∀ (s : Shared) (u : Value), BindsTo s fd ⟨[u], []⟩ [(x, u)])
    (hsp : ∀ H : Hp, SqL K H a (ns.map V.int) → sp [.ref a] H (fun v _ => v = .bl true) fun _ _ _ => False)
    (hCX : ∀ H e s', CX [] H s (fun _ _ _ => False) e s' → False) :
    codeAny (model P w) callerA (.call (.ref fa) ⟨[.ref a], []⟩) (fun r s' => r = .ok (.ret (.bool true)) ∧ OldK s.heap s'.heap ∧ s'.os = s.os ∧ AllBare s'.gens) s := by
  have rv := vals_ints hi
  have go : ∀ H : Hp, (∀ b, H b = none ∨ (b = a ∧ K.lookup a = none ∧ ∃ o xs, H b = some (.frz o (.lst xs)))) → SqL K H a (ns.map V.int) → HOk P w H s.heap →
      codeAny (model P w) callerA (.call (.ref fa) ⟨[.ref a], []⟩) (fun r s' => r = .ok (.ret (.bool true)) ∧ OldK s.heap s'.heap ∧ s'.os = s.os ∧ AllBare s'.gens) s := by
    intro H hO hS hok
    have free : ∀ {b : Addr}, b ≠ a ∨ K.lookup a ≠ none → H b = none := fun {b} z => by
      rcases hO b with h | ⟨h1, h2, _⟩
      · exact h
      · rcases z with z | z
        · exact (z h1).elim
        · exact (z h2).elim
    have old : ∀ {b : Addr} {o : Obj}, s.heap.get? b = some o → H b = none → (hidT s.heap H).get? b = some o := fun e n => hidT_get e n
    have ns' : ∀ {b : Addr} {m : Str → Option Value}, s.heap.Ns b m → (hidT s.heap H).Ns b m := fun {b m} ⟨o, es, ep, e, d, r⟩ => by
      refine ⟨o, es, ep, old e (free (.inl fun z => ?_)), d, r⟩
      rw [z, ha] at e
      cases e
      have d' : Data.seq vs.toArray _ = Data.dict es ep := d
      cases d'
    have hK : K.In (hidT s.heap H) := fun b o e => old (KX b o e) (by
      by_cases z : b = a
      · exact free (.inr fun n => by rw [z, n] at e; cases e)
      · exact free (.inl z))
    have hM : Mod K mg (hidT s.heap H) := ⟨hK, ns' hns, ⟨mb, ns' hb, hbb⟩, let ⟨mc, h1, h2⟩ := hlim; ⟨mc, ns' h1, h2⟩⟩
    have e0 : Env0 P w K mg (hidT s.heap H) callerA [] s H := ⟨rfl, hM, fun b o e => of_hidT e, Nat.le_of_eq (hidT_size _ _), trivial, fun b hb => absurd (show b ∈ ([] : List Addr) from hb) (by simp), hok, .of_eq hg⟩
    refine codeAny_mono ((F _ hK (ns' hns)).run callerA [] s H ⟨[.ref a], []⟩ [.ref a] [.ref a] _ _ rfl hr e0 (hbind s (.ref a)) (.cons rfl .nil) (hsp H hS)) fun r s' h => ?_
    match r, h with
    | .error e, h => exact (hCX H e s' h).elim
    | .ok .next, h => exact False.elim h
    | .ok .brk, h => exact False.elim h
    | .ok .cont, h => exact False.elim h
    | .ok (.ret u), h =>
      obtain ⟨v, H', os, bare, un, hok', r', q⟩ := h
      obtain rfl : v = .bl true := q
      obtain rfl : u = Value.bool true := r'
      refine ⟨rfl, OldK.of_keep fun b o e => ?_, os, bare⟩
      rcases hO b with q | ⟨-, -, ob, xs, z⟩
      · exact un.keep b o e q (by intro z; exact absurd (show b ∈ ([] : List Addr) from z) (by simp)) (by simp)
      · obtain ⟨e1, _⟩ := hok b _ z
        obtain ⟨e2, _⟩ := hok' b _ (un.frzs b ob _ z)
        rw [e] at e1
        cases e1
        exact e2
  cases hk : K.lookup a with
  | some o =>
    have e := KX a o hk
    rw [ha] at e
    cases e
    exact go (fun _ => none) (fun _ => .inl rfl) (.inr ⟨_, vs.toArray, _, hk, rfl, rfl, rfl, by rw [List.size_toArray, hi.length]; exact hl, by simpa using rv⟩) fun b u z => nomatch z
  | none =>
    refine go (fun b => if b = a then some (.frz { cls := .type "list", data := .seq vs.toArray } (.lst (ns.map V.int))) else none) (fun b => ?_) (.inl (.inr ⟨{ cls := .type "list", data := .seq vs.toArray }, if_pos rfl⟩)) fun b u z => ?_
    · by_cases q : b = a
      · exact .inr ⟨q, hk, _, _, if_pos q⟩
      · exact .inl (if_neg q)
    · by_cases q : b = a
      · obtain rfl := q
        cases (if_pos rfl).symm.trans z
        exact ⟨ha, by rw [List.length_map]; exact hl, vs, _, rv, ha⟩
      · cases (if_neg q).symm.trans z
/-- what the law's def must keep -/
def LawG (l : PySem.W.OpenLaw) (w : World) (K : PySem.W.Frag) (CX : CXT) (k n : Nat) (x : Str) (mg : Str → Option Value) (fa : Addr) : Prop :=
  ∃ (fd : FuncData) (sp : Sp), (∀ (s : Shared) (u : Value), BindsTo s fd ⟨[u], []⟩ [(x, u)]) ∧
    (∀ (H : Hp) (a : Addr) (ns : List Int), ns.length ≤ n → (∀ z ∈ ns, Builtin.Int.intBits z ≤ 1048576) → SqL K H a (ns.map V.int) → sp [.ref a] H (fun v _ => v = .bl true) fun _ _ _ => False) ∧
    ∀ base : Heap, K.In base → base.Ns mainGlobals mg → FnG l.prog w K mg base CX k fa fd [x] sp
theorem walk_ofG {l : PySem.W.OpenLaw} {n k : Nat} {q : Program} {loose : List Str} {XP : (Str → Option Value) → Heap → Prop} {YP : World → Heap → Prop} {d : DefRec} {CX : World → CXT} {x : Str}
    (hn : l.most = some n) (hn2 : n ≤ sizeLine) (hdf : d.params.defaults = []) (hr : Room k callerA)
    (F : ∀ (w : World) (mg : Str → Option Value) (fa : Addr) (h : Heap), YP w h → h.Ns mainGlobals mg → mg d.name = some (.ref fa) → ∃ K : PySem.W.Frag, K.In h ∧ LawG l w K (CX w) k n x mg fa)
    (hCX : ∀ (w : World) (H : Hp) (s : Shared) (e : Value) (s' : Shared), CX w [] H s (fun _ _ _ => False) e s' → False) :
    PySem.W.WalkO q loose XP YP l.row.toRowW d [] (fun f vs => PySem.call f vs) := by
  refine Att.attach_callB hn hdf fun w s₀ s₁ mg mb fa o pm cd doc a vs ns G Y ho hd hcd hmg hobj hints hlen hbits hg => ?_
  obtain ⟨K, KX, fd, sp, hb, hsp, hF⟩ := F w mg fa _ Y G.T.g hmg
  exact law_callG KX G.T.g G.T.b G.T.builtins G.T.nolimit hg hobj hints (Nat.le_trans hlen hn2) hr hF hb (fun H hS => hsp H a ns hlen hbits hS) fun H e s' => hCX w H s₁ e s'
theorem cx_none {P : Program} {w : World} {H : Hp} {s : Shared} {e : Value} {s' : Shared} (z : L2.CX P w [] H s (fun _ _ _ => False) e s') : False := by
  obtain ⟨_, _, _, _, _, _, _, _, _, _, _, _, z⟩ := z
  exact z.elim
/-- a def that may be called anywhere may be called there -/
theorem FnG.of {P : Program} {w : World} {K : PySem.W.Frag} {mg : Str → Option Value} {base : Heap} {CX : CXT} {k : Nat} {f : Addr} {fd : FuncData} {ps : List Str} {sp : Sp} (F : FnOk P w K mg base CX k f fd ps sp) : FnG P w K mg base CX k f fd ps sp :=
  ⟨F.len, fun A outer s H args us vs Q E _ hr e0 hb hv hs => F.run A outer s H args us vs Q E hr e0 hb hv hs⟩
end FT

/-! FT4: pieces joined, changed inside; more rules. -/
namespace FT
open PySem PySem.Spec PyProof.Rows L2
section
variable {H H' B : Hp} {R : List Seg} {p : Addr} {o o' : HO} {r r' : Seg}
theorem Z.join (S : Z H B (r :: r' :: R)) : Z H B ((r ++ r') :: R) := by
  refine ⟨S.base, fun x hx e he => ?_, fun x hx e he => ?_, ?_⟩
  · rcases List.mem_cons.mp hx with q | q
    · rw [q] at he
      rcases List.mem_append.mp he with h | h
      · exact S.here r List.mem_cons_self e h
      · exact S.here r' (List.mem_cons_of_mem _ List.mem_cons_self) e h
    · exact S.here x (List.mem_cons_of_mem _ (List.mem_cons_of_mem _ q)) e he
  · rcases List.mem_cons.mp hx with q | q
    · rw [q] at he
      rcases List.mem_append.mp he with h | h
      · exact S.off r List.mem_cons_self e h
      · exact S.off r' (List.mem_cons_of_mem _ List.mem_cons_self) e h
    · exact S.off x (List.mem_cons_of_mem _ (List.mem_cons_of_mem _ q)) e he
  · have := S.nd
    simpa [List.flatten_cons, List.append_assoc] using this
theorem Z.reseg (S : Z H B (r :: R)) (h : r.Perm r') : Z H B (r' :: R) := by
  refine ⟨S.base, fun x hx e he => ?_, fun x hx e he => ?_, ?_⟩
  · rcases List.mem_cons.mp hx with q | q
    · rw [q] at he
      exact S.here r List.mem_cons_self e (h.mem_iff.mpr he)
    · exact S.here x (List.mem_cons_of_mem _ q) e he
  · rcases List.mem_cons.mp hx with q | q
    · rw [q] at he
      exact S.off r List.mem_cons_self e (h.mem_iff.mpr he)
    · exact S.off x (List.mem_cons_of_mem _ q) e he
  · have := S.nd
    rw [List.flatten_cons] at this ⊢
    exact ((h.append_right _).map _).nodup_iff.mp this
/-- the j-th thing of the i-th piece is changed -/
theorem Z.set2 (S : Z H B R) (i j : Nat) (h1 : R[i]? = some r) (h2 : r[j]? = some (p, o)) : Z (upd H p o') B (R.set i (r.set j (p, o'))) := by
  have S1 := S.pick i h1
  have hj : j < r.length := (List.getElem?_eq_some_iff.mp h2).1
  have e : r = r.take j ++ (p, o) :: r.drop (j + 1) := by
    have e1 : r.drop j = (p, o) :: r.drop (j + 1) := by
      rw [List.drop_eq_getElem_cons hj]
      congr 1
      exact (List.getElem?_eq_some_iff.mp h2).2
    rw [← e1, List.take_append_drop]
  rw [e] at S1
  have S2 := S1.put0 (o' := o')
  have e2 : r.take j ++ (p, o') :: r.drop (j + 1) = r.set j (p, o') := by
    rw [List.set_eq_take_append_cons_drop, if_pos hj]
  rw [e2] at S2
  exact S2.perm (perm_set h1)
/-- a piece that was taken to the front goes back -/
theorem Z.put_back (S : Z H B (r' :: R.eraseIdx i)) (h : R[i]? = some r) : Z H B (R.set i r') := S.perm (perm_set h)
end
section
variable {K : PySem.W.Frag} {σ σ' : L2.St} {H H' B : Hp} {R : List Seg} {Q : VK} {x y z v w : V} {D : Ends} {E : XK} {ta tb tc te to : TE} {t u tt : TT} {ts tu : TS} {as : TA} {r : R2} {p a : Addr} {o : HO} {xs ys : List V} {i j : Int} {b : Bool}
/-! ### more of lists -/
def rInsert : V → List V → Hp → VK → Prop := fun x vs H Q => ∃ (l : Addr) (xs : List V) (i : Int) (y : V), x = .ref l ∧ vs = [.int i, y] ∧ H l = some (.lst xs) ∧ xs.length < sizeLine ∧ 0 ≤ i ∧ i < 2 ^ 63 ∧
    Q .non (upd H l (.lst (xs.take i.toNat ++ [y] ++ xs.drop i.toNat)))
theorem mt_qInsert {X : Cx} : MtR X "list.insert" rInsert := mt_insert
theorem cut_sub {xs : List V} {lo hi : Option Int} {v : V} (h : v ∈ cutV xs lo hi) : v ∈ xs := by
  unfold L2.cutV at h
  exact List.mem_of_mem_drop (List.mem_of_mem_take h)
theorem cut_suffix {xs : List V} {k : Nat} (h : 0 < k) : cutV xs (some (-(k : Int))) none = xs.drop (xs.length - k) := by
  unfold L2.cutV
  have e : HT.sIx xs.length 0 (some (-(k : Int))) = xs.length - k := by
    show (if (-(k : Int)) < 0 then ((-(k : Int)) + (xs.length : Int)).toNat else min (-(k : Int)).toNat xs.length) = _
    rw [if_pos (by omega)]
    omega
  rw [e, HT.sIx_none, List.take_of_length_le (by simp)]
/-- list(range(j)) -/
theorem x_rg1 {Q : Int → Int → Hp → Prop} (q : ta σ H fun x H1 => ∃ n, x = .int n ∧ Q 0 n H1) : tRg1 ta σ H Q := q
theorem x_rg2 {Q : Int → Int → Hp → Prop} (q : ta σ H fun x H1 => tb σ H1 fun y H2 => ∃ i j, x = .int i ∧ y = .int j ∧ Q i j H2) : tRg2 ta tb σ H Q := q
theorem z_rg1 {A : Int → Prop} (q : A i) : ∃ n, V.int i = V.int n ∧ A n := ⟨i, rfl, q⟩
theorem z_rg2 {A : Int → Int → Prop} (q : A i j) : ∃ n m, V.int i = V.int n ∧ V.int j = V.int m ∧ A n m := ⟨i, j, rfl, rfl, q⟩
def mLstRg (Q : VK) (a b : Int) (H1 : Hp) : Prop := RgOk a b ∧ ∀ q, H1 q = none → Q (.ref q) (upd H1 q (.lst (rgV a b)))
theorem x_lstRg {te : L2.St → Hp → (Int → Int → Hp → Prop) → Prop} (q : te σ H (mLstRg Q)) : tLstRg te σ H Q := q
/-- the ints 0 .. n - 1 -/
def rng (n : Nat) : List V := (List.range n).map fun (i : Nat) => V.int (i : Int)
theorem rgV_nat (n : Nat) : rgV 0 (n : Int) = rng n := by
  unfold rgV rng
  have e : ((n : Int) - 0).toNat = n := by omega
  rw [e]
  refine List.map_congr_left fun i _ => ?_
  rw [Int.zero_add]
theorem z_lstRg (S : Z H B R) (n : Nat) (hj : j = (n : Int)) (hn : n ≤ 10000000) (q : ∀ p H', Z H' B ([(p, .lst (rng n))] :: R) → Q (.ref p) H') : mLstRg Q 0 j H := by
  subst hj
  refine ⟨RgOk.of_le (by omega) (by omega) (by omega) (by omega), fun p hp => ?_⟩
  rw [rgV_nat]
  exact q p _ (S.new hp)
/-- three at once -/
theorem x_par3 {m n l : Nat} (q : as σ H fun vs H1 => ∃ u v w, vs = [u, v, w] ∧ D.nx (((σ.set m (some u)).set n (some v)).set l (some w)) H1) : tPar3 m n l as D σ H := q
theorem z_par3 {m n l : Nat} (q : D.nx (((σ.set m (some x)).set n (some y)).set l (some z)) H) : ∃ u v w, [x, y, z] = [u, v, w] ∧ D.nx (((σ.set m (some u)).set n (some v)).set l (some w)) H := ⟨x, y, z, rfl, q⟩
theorem x_intI (q : Q (.int i) H) : qInt [.int i] H Q := .inl (.inl ⟨i, rfl, q⟩)
theorem x_intB (q : Q (.int (if b then 1 else 0)) H) : qInt [.bl b] H Q := .inl (.inr ⟨b, rfl, q⟩)
end
end FT

/-! FTS: an __init__ of an own class that begins with super().__init__(). -/
namespace FT
open PySem PySem.Spec PyProof.Rows L2
/-- around such a body: one name of the frame, the class's own cell beside it -/
def cxS (CX : CXT) (P : Program) (w : World) (K : PySem.W.Frag) (mg : Str → Option Value) (base : Heap) (qual : Str) (scope : Scope) (f : Addr) (cd : Value) (cc : Addr) (A : Around) (outer : List Env) (s : Shared) (H : Hp) (E : XK) : Cx where
  prog := P
  w := w
  K := K
  mg := mg
  base := base
  A := A.deeper (PySem.W.ksEnv qual scope s.heap.objs.size f cd cc)
  N := ["self"]
  s_0 := s
  H_0 := H
  env := PySem.W.ksEnv qual scope s.heap.objs.size f cd cc
  outer := outer
  stack := PySem.W.ksEnv qual scope s.heap.objs.size f cd cc :: outer
  ex := []
  calm := true
  fn := fun _ => false
  pn := []
  xe := fun e s' => wpAny (model P w) (A.deeper (PySem.W.ksEnv qual scope s.heap.objs.size f cd cc)) (leaving (PySem.W.ksEnv qual scope s.heap.objs.size f cd cc) e) (fun _ s'' => CX outer H s E e s'') (fun e' s'' => CX outer H s E e' s'') s'
theorem one_cell {x : Str} {cc c : Addr} (h : ([(("__class__" : Str), cc)] : List (Str × Addr)).lookup x = some c) : x = "__class__" ∧ c = cc := by
  have h2 := PySem.mem_of_lookup h
  have h3 := Prod.mk.inj (List.mem_singleton.mp h2)
  exact h3
theorem inv_super {CX : CXT} {P : Program} {w : World} {K : PySem.W.Frag} {mg : Str → Option Value} {base : Heap} {qual : Str} {scope : Scope} {f cc D : Addr} {cd : Value} {A : Around} {outer : List Env} {s : Shared} {H : Hp} {E : XK} {u cl : Value} {cld : Option Addr} {csl : Array (Option Value)} {v : V} {h₀ : Heap} {tk : Nat}
    (hk : scope.kind = .function) (hs : scope.names.lookup ("self" : Str) = some .local) (hf : ∀ y, scope.names.lookup y = some .cell ∨ scope.names.lookup y = some .free → y = "__class__") (hd : A.handled = none) (e0 : Env0 P w K mg base A outer s H)
    (hc : K.lookup cc = some ⟨cl, cld, .cell (some (.ref D)), csl⟩) (ns : h₀.Ns s.heap.objs.size fun x => ([(("self" : Str), u)] : List (Str × Value)).reverse.lookup x) (kp : ∀ b o, s.heap.get? b = some o → h₀.get? b = some o) (r : RelV v u) :
    Inv (cxS CX P w K mg base qual scope f cd cc A outer s H E) [] [some v] H { s with heap := h₀, toks := tk } := by
  have noA : ∀ b : Addr, b ∉ (cxS CX P w K mg base qual scope f cd cc A outer s H E).ex := fun b z => absurd (show b ∈ ([] : List Addr) from z) (by simp)
  have inB := e0.mod.kin _ _ hc
  refine ⟨⟨e0.mod, hk, rfl, rfl, Nat.le_refl _, fun x y c h1 h2 => ?_, fun y hy => ?_, fun y c h _ => ?_, fun _ => hd, Around.frames_deeper e0.frames, .inr ⟨rfl, rfl⟩, fun b z => absurd z (noA b), e0.bs, e0.bsz, fun b _ _ => noA b, fun b z => absurd z (noA b), e0.funs, e0.frf⟩,
    rfl, e0.bare, Un.kept kp, ⟨_, ns, fun i y w h1 h2 h3 => ?_⟩, fun y c h => ?_, e0.hok.fresh (Nat.le_refl _), fun y c h => ?_, fun p hp => absurd (show p ∈ ([] : List (Addr × Obj)) from hp) (by simp), e0.hok.kept kp, rfl⟩
  · rw [(one_cell h1).1, (one_cell h2).1]
  · have e : y = "__class__" := hf y hy
    subst e
    exact ⟨cc, rfl⟩
  · cases h
  · cases i with
    | succ i => cases h2
    | zero =>
      have e : ("self" : Str) = y := Option.some.inj h1
      subst e
      have e2 : v = w := Option.some.inj (Option.some.inj h2)
      subst e2
      refine ⟨u, r, .inl ⟨hs, ?_⟩⟩
      rfl
  · obtain ⟨-, rfl⟩ := one_cell h
    exact ⟨some (.ref D), ⟨_, kp _ _ (e0.bs _ _ inB).1, rfl⟩⟩
  · obtain ⟨-, rfl⟩ := one_cell h
    exact (e0.bs _ _ inB).2
/-- what such an __init__ is: found by the head -/
structure SupK (P : Program) (K : PySem.W.Frag) (mg : Str → Option Value) (D f f2 : Addr) (qual : Str) (params : Arguments) (body : List Stmt) (scope : Scope) : Prop where
  ex : ∃ (oc : Value) (od : Option Addr) (dV kV doc pm ct : Value) (an : Option Addr) (cc cda : Addr) (osl : Array (Option Value)) (ccl : Value) (cdd : Option Addr) (vs : Array Value) (ccs : Array (Option Value)) (file : Str) (tf : Tok) (cl : Value) (cld : Option Addr) (csl : Array (Option Value)),
    K.lookup f = some ⟨oc, od, .func (PySem.W.ksFn "__init__" qual params body scope dV kV doc pm an (.ref cda) ct cc), osl⟩ ∧ PySem.W.codeIn K (.ref cda) qual = true ∧ K.lookup cda = some ⟨ccl, cdd, .fields vs, ccs⟩ ∧ vs[2]? = some (.str file tf) ∧ ((P.main.file : Str) == file) = true ∧
    K.lookup cc = some ⟨cl, cld, .cell (some (.ref D)), csl⟩
  cls : ∃ cdD, PySem.W.clsIn K D = some cdD
  sub : PySem.W.mroIn K D (.ref D) = some true
  sup : mg "super" = none
  up : PySem.W.ks_superIn K D D "__init__" = some (some (.ref f2))
  fn : PySem.W.fnIn K f2 = true
  ty : PySem.W.typeIn K (.ref f2) = some (.type "function")
  third : PySem.W.nsIn K cStatics "thirdparty.any" = some none
theorem fn_super {P : Program} {w : World} {K : PySem.W.Frag} {mg : Str → Option Value} {base : Heap} {k : Nat} {D f f2 : Addr} {qual : Str} {params : Arguments} {body rest : List Stmt} {scope : Scope} {fd2 : FuncData} {sp sp2 : Sp} {p0 p1 p2 p3 p4 : Pos}
    (S : SupK P K mg D f f2 qual params body scope) (hbd : body = .Expr (.Call (.Attribute (.Call (.Name "super" p0) [] [] p1) "__init__" p2) [] [] p3) p4 :: rest)
    (hk : scope.kind = .function) (hco : scope.isCoroutine = false) (hgen : scope.isGenerator = false) (hs : scope.names.lookup ("self" : Str) = some .local) (hsu : scope.names.lookup ("super" : Str) = some .globalImplicit) (hcl : scope.names.lookup ("__class__" : Str) = some .free)
    (hnc : ∀ y ∈ scope.names, y.2 ≠ .cell) (hf : ∀ y ∈ scope.names, y.2 = .free → y.1 = "__class__") (hp : (params.posonlyargs ++ params.args).head?.map (·.arg) = some "self") (htop : (P.main.scope.names.lookup ("super" : Str)).isSome = false)
    (F2 : FnOk P w K mg base (L2.CX P w) k f2 fd2 ["self"] sp2) (b2 : ∀ (s : Shared) (u : Value), BindsTo s fd2 ⟨[u], []⟩ [("self", u)])
    (hi : ∀ (L : Addr) (cd : Value) (cc : Addr), interactive (PySem.W.ksEnv qual scope L f cd cc) = false)
    (hsw : ∀ (L : Addr) (cd : Value) (cc : Addr), swapsWith (.Call (.Attribute (.Call (.Name "super" p0) [] [] p1) "__init__" p2) [] [] p3) none p4.line (PySem.W.ksEnv qual scope L f cd cc) = pure false)
    (hev : ∀ (L : Addr) (cd : Value) (cc : Addr), ∃ pl, eval (.Call (.Attribute (.Call (.Name "super" p0) [] [] p1) "__init__" p2) [] [] p3) (PySem.W.ksEnv qual scope L f cd cc) = (do
      let ov ← attributeBase (.Call (.Name "super" p0) [] [] p1) "__init__" (PySem.W.ksEnv qual scope L f cd cc) (eval (.Call (.Name "super" p0) [] [] p1) (PySem.W.ksEnv qual scope L f cd cc))
      standAt p2.atName
      let (g, first) ← holding [ov] (getMethod ov "__init__" pl)
      callWith p3 g first (backTo p3 (starEach [] (PySem.W.ksEnv qual scope L f cd cc))) []))
    (len : ∀ vs H Q E, sp vs H Q E → ∃ x dx fs, vs = [.ref x] ∧ H x = some (.ins D dx fs))
    (hbody : ∀ (cdv : Value) (cc : Addr) (A : Around) (outer : List Env) (s : Shared) (H : Hp) (x : Addr) (Q : VK) (E : XK), Room k (A.deeper (PySem.W.ksEnv qual scope s.heap.objs.size f cdv cc)) → sp [.ref x] H Q E →
      ∃ t, PSs (cxS (L2.CX P w) P w K mg base qual scope f cdv cc A outer s H E) rest t ∧ sp2 [.ref x] H (fun _ H1 => t { nx := fun _ H' => Q .non H', rt := Q } [some (.ref x)] H1) (fun _ _ _ => False)) :
    ∃ fd, FnOk P w K mg base (L2.CX P w) (k + 1) f fd ["self"] sp ∧ (∃ oc od osl, K.lookup f = some ⟨oc, od, .func fd, osl⟩) ∧ ∃ dV kV doc pm ct an cdv cc, fd = PySem.W.ksFn "__init__" qual params body scope dV kV doc pm an cdv ct cc := by
  obtain ⟨oc, od, dV, kV, doc, pm, ct, an, cc, cda, osl, ccl, cdd, vs, ccs, file, tf, cl, cld, csl, lk, hcd, hcode, hvs, hfile, hcell⟩ := S.ex
  refine ⟨_, ⟨fun vs H Q E h => ?_, fun A outer s H args us vs Q E hr e0 hb r hsp => ?_⟩, ⟨oc, od, osl, lk⟩, dV, kV, doc, pm, ct, an, .ref cda, cc, rfl⟩
  · obtain ⟨x, dx, fs, rfl, -⟩ := len _ _ _ _ h
    rfl
  obtain ⟨x, dx, fs, rfl, hx⟩ := len _ _ _ _ hsp
  obtain ⟨u, rfl, ru⟩ := vals1 r
  have hu : u = Value.ref x := ru
  subst hu
  have KX : K.In s.heap := e0.mod.kin.keeps fun b o e => (e0.bs b o e).1
  have lim : s.heap.NoLimit := e0.mod.nolimit.keeps fun b o e => (e0.bs b o e).1
  obtain ⟨ar, har, hare⟩ : ∃ ar, (params.posonlyargs ++ params.args).head? = some ar ∧ ar.arg = "self" := by
    cases q : (params.posonlyargs ++ params.args).head? with
    | none => rw [q] at hp; cases hp
    | some ar => rw [q] at hp; exact ⟨ar, rfl, Option.some.inj hp⟩
  obtain ⟨t, ht, hq⟩ := hbody (.ref cda) cc A outer s H x Q E (hr.deeper _) hsp
  refine PySem.ks_codeAny_call_defAt (fd := PySem.W.ksFn "__init__" qual params body scope dV kV doc pm an (.ref cda) ct cc) (body := body) (binds := [("self", .ref x)]) hr.depth (KX _ _ lk) rfl lim (PySem.W.codeRec_of KX hcd) rfl hb hnc (fun y hy => ?_) (fun h₀ hns kp => ?_) hco hgen hk
  · rw [List.mem_singleton.mp hy]
    exact hs
  have I : Inv (cxS (L2.CX P w) P w K mg base qual scope f (.ref cda) cc A outer s H E) [] [some (.ref x)] H { s with heap := h₀, toks := s.toks + [(("self" : Str), Value.ref x)].length } :=
    inv_super hk hs (fun y hy => by
      rcases hy with hy | hy
      · exact absurd rfl (hnc _ (PySem.mem_of_lookup hy))
      · exact hf _ (PySem.mem_of_lookup hy) rfl) hr.hd e0 hcell hns kp (show RelV (.ref x) (.ref x) from rfl)
  subst hbd
  obtain ⟨cdD, hcD⟩ := S.cls
  -- what ends the body
  have fin : ∀ s', SP (cxS (L2.CX P w) P w K mg base qual scope f (.ref cda) cc A outer s H E) [] { nx := fun _ H' => Q .non H', rt := Q } .next s' → True := fun _ _ => trivial
  have out : ∀ (fl : Flow) s', SP (cxS (L2.CX P w) P w K mg base qual scope f (.ref cda) cc A outer s H E) [] { nx := fun _ H' => Q .non H', rt := Q } fl s' → CR (L2.CX P w) outer P w H s Q E (.ok (.ret (match fl with | .ret v => v | _ => .none))) s' := fun fl s' hs => by
    cases fl with
    | ret u =>
      obtain ⟨v, σ', H', J, rv, q⟩ := hs
      exact ⟨v, H', J.os, J.bare, J.base, J.hok, rv, q⟩
    | next =>
      obtain ⟨σ', H', J, q⟩ := hs
      exact ⟨.non, H', J.os, J.bare, J.base, J.hok, rfl, q⟩
    | brk => exact hs.elim fun _ z => z.elim fun _ z => z.2.elim
    | cont => exact hs.elim fun _ z => z.elim fun _ z => z.2.elim
  let EQ : Shared → Prop := fun s' => ∃ H1, Inv (cxS (L2.CX P w) P w K mg base qual scope f (.ref cda) cc A outer s H E) [] [some (.ref x)] H1 s' ∧ t { nx := fun _ H' => Q .non H', rt := Q } [some (.ref x)] H1
  refine ks_wpAt_execs_cons (PySem.wpAt_mono (ks_wpAt_Expr_any (Q := fun fl s' => fl = .next ∧ EQ s') (PySem.wpAt_mono (Q := fun _ s' => EQ s') ?call (fun _ s' hs => ⟨rfl, hs⟩) fun _ _ z => z) (hi _ _ _) (hsw _ _ _)) (fun fl s' hs => ?rest) fun _ _ z => z)
  case rest =>
    obtain ⟨rfl, H1, J, q⟩ := hs
    exact PySem.wpAt_of_wpAny (wpAny_mono (ht.run [] s' [some (.ref x)] H1 _ J q) out fun _ _ z => z)
  case call =>
    have KX1 := I.kIn
    obtain ⟨mA, O, _, _, _, _⟩ := ins_get I.hok hx
    obtain ⟨od1, J1, _⟩ := O.look
    obtain ⟨pl, he⟩ := hev s.heap.objs.size (.ref cda) cc
    refine ks_wpAt_MethodCall (pl := pl) (ks_wpAt_super_base (f := f) (fd := PySem.W.ksFn "__init__" qual params (.Expr (.Call (.Attribute (.Call (.Name "super" p0) [] [] p1) "__init__" p2) [] [] p3) p4 :: rest) scope dV kV doc pm an (.ref cda) ct cc) (ar := ar) hsu hcl (by decide) rfl (KX1 _ _ lk) rfl har rfl (KX1 _ _ hcode) rfl hvs hfile htop ?_) he
    have hE0 : ∀ {Q' : Value → Shared → Prop}, True := fun {_} => trivial
    refine PySem.W.ks_loadName_global hk hsu ?_
    obtain ⟨mb, hb1, hb2⟩ := I.mod.blt
    refine Calls.loadGlobal_builtin (I.mod.glob.keeps I.bk) S.sup (hb1.keeps I.bk) ((hb2 "super" (by decide)).trans (by decide +kernel : bootBuiltins "super" = some (.type "super"))) ⟨rfl, ?_⟩
    refine wpAny_loadName_free hk hcl rfl ⟨_, KX1 _ _ hcell, rfl⟩ ?_
    refine wpAny_loadName_local (v := .ref x) hk (by rw [hare]; exact hs) hns (by rw [hare] <;> rfl) ?_
    obtain ⟨oD, hD1, hD2⟩ : ∃ oD, h₀.get? D = some oD ∧ oD.data = .cls cdD := by
      unfold PySem.W.clsIn at hcD
      split at hcD
      · rename_i c d cd' sl ho
        cases hcD
        exact ⟨_, KX1 _ _ ho, rfl⟩
      · cases hcD
    refine ks_wpAny_isType_cls hD1 hD2 ⟨rfl, ?_⟩
    refine ks_wpAny_call_super hD1 hD2 J1.at_ J1.cls (fun c e => ?_) (PySem.W.looks_mroIn KX1 S.sub) (fun h1 eso kp1 => ?_)
    · have := J1.no
      unfold PySem.W.notCls at this
      rw [e] at this
      exact Bool.noConfusion this
    have I1 := I.kept (h' := h1) (t' := s.toks + [(("self" : Str), Value.ref x)].length) kp1
    have KX2 := I1.kIn
    obtain ⟨of2, hof2, hof2c⟩ : ∃ of, h1.get? f2 = some of ∧ of.cls = .type "function" := by
      have ht' : (K.lookup f2).map (·.cls) = some (.type "function") := S.ty
      cases z : K.lookup f2 with
      | none => rw [z] at ht'; cases ht'
      | some of => rw [z] at ht'; exact ⟨of, KX2 _ _ z, Option.some.inj ht'⟩
    have up := S.up
    unfold PySem.W.ks_superIn at up
    rw [hcD] at up
    have hne : x ≠ D := fun e => by
      rw [e] at J1
      have e2 := J1.at_
      rw [hD1] at e2
      have e3 := Option.some.inj e2
      have e4 := J1.no
      unfold PySem.W.notCls at e4
      rw [← e3, hD2] at e4
      cases e4
    refine ks_wpAny_getMethod_super eso (PySem.W.looks_opaque KX2 S.third) (l₀ := cdD.mro) ?_ rfl KX2 up hof2 hof2c hne (by decide) ?_
    · exact fun A Q E s k q => wpAny_bind ((PySem.W.looks_clsIn KX2 hcD) A _ E s k (wpAny_pure q))
    have hq1 : (h1.push { cls := .type "method", data := .fields #[.ref f2, .ref x] }).get? h1.objs.size = some { cls := .type "method", dict := none, data := .fields #[.ref f2, .ref x], slots := #[] } := Heap.get?_push_at rfl rfl
    have I2 := I1.kept (h' := h1.push { cls := .type "method", data := .fields #[.ref f2, .ref x] }) (t' := s.toks + [(("self" : Str), Value.ref x)].length + 1) fun b o e => Heap.get?_push_of_some _ e
    refine PySem.W.callWith_M0 (K := K) (g := f2) (self := .ref x) ⟨hq1, I2.kIn⟩ S.fn ?_
    refine wpAny_call (codeAny_mono (ks_codeAny_call_bound hq1 (F2.run _ _ _ H _ [.ref x] [.ref x] _ _ (hr.deeper _) I2.env0 (b2 _ _) (.cons rfl .nil) hq)) fun r s' hc => ?_)
    cases r with
    | error e => exact (passL (X := cxS (L2.CX P w) P w K mg base qual scope f (.ref cda) cc A outer s H E) [] _ H _ e s' I2 hc)
    | ok fl =>
      cases fl with
      | ret u =>
        obtain ⟨v, H1, J, rv, q⟩ := I2.after hc
        exact ⟨H1, J, q⟩
      | next => exact False.elim hc
      | brk => exact False.elim hc
      | cont => exact False.elim hc
end FT

/-! FTH: the head's Hook: facts by names, defs at any address, the __init__s that call super's, more facts by a Bool. -/
namespace FT
open PySem PySem.Spec PyProof.Rows L2
abbrev SupV : Type := Option (Str × Str × Arguments × FuncBody × Scope × Addr × List Str × Addr)
/-- an __init__ that begins with super().__init__(): its class, the class above -/
structure SupD where
  cls : Str
  up : Str
  qual : Str
  params : Arguments
  body : List Stmt
  scope : Scope
def supO (K : PySem.W.Frag) (d : SupD) : SupV := match K.lookup (He.ma K (He.ga K d.cls) "__init__") with
  | some ⟨_, _, .func fd, _⟩ => some (fd.name, fd.qualname, fd.params, fd.body, fd.scope, fd.globals, fd.closure.map (·.1), fd.builtins)
  | _ => none
def SupD.val (d : SupD) : SupV := some ("__init__", d.qual, d.params, .stmts d.body, d.scope, mainGlobals, ["__class__"], builtinsNs)
def fileB (K : PySem.W.Frag) (file : Str) (a : Addr) : Bool := match K.lookup a with
  | some ⟨_, _, .fields vs, _⟩ => (match vs[2]? with
    | some (Value.str f _) => file == f
    | _ => false)
  | _ => false
def cellB (K : PySem.W.Frag) (a D : Addr) : Bool := match K.lookup a with
  | some ⟨_, _, .cell (some (.ref b)), _⟩ => decide (b = D)
  | _ => false
def partB (K : PySem.W.Frag) (file : Str) (q : Str) (D : Addr) (fd : FuncData) : Bool := match fd.code, fd.closure with
  | .ref a, [(_, c)] => PySem.W.codeIn K (.ref a) q && (fileB K file a && cellB K c D)
  | _, _ => false
def supB (K : PySem.W.Frag) (file : Str) (d : SupD) : Bool := (match K.lookup (He.ma K (He.ga K d.cls) "__init__") with
  | some ⟨_, _, .func fd, _⟩ => partB K file d.qual (He.ga K d.cls) fd
  | _ => false) && ((PySem.W.clsIn K (He.ga K d.cls)).isSome && (decide (PySem.W.mroIn K (He.ga K d.cls) (.ref (He.ga K d.cls)) = some true) && (decide (PySem.W.nsIn K mainGlobals "super" = some none) &&
  (decide (PySem.W.ks_superIn K (He.ga K d.cls) (He.ga K d.cls) "__init__" = some (some (.ref (He.ma K (He.ga K d.up) "__init__")))) && (PySem.W.fnIn K (He.ma K (He.ga K d.up) "__init__") && (decide (PySem.W.typeIn K (.ref (He.ma K (He.ga K d.up) "__init__")) = some (.type "function")) &&
  decide (PySem.W.nsIn K cStatics "thirdparty.any" = some none)))))))
theorem ba2 {a b : Bool} (h : (a && b) = true) : a = true ∧ b = true := Bool.and_eq_true_iff.mp h
theorem partB_ok {K : PySem.W.Frag} {file q : Str} {D : Addr} {fd : FuncData} (h : partB K file q D fd = true) : ∃ a nm c, fd.code = .ref a ∧ fd.closure = [(nm, c)] ∧ PySem.W.codeIn K (.ref a) q = true ∧ fileB K file a = true ∧ cellB K c D = true := by
  unfold partB at h
  split at h
  · rename_i a nm c h1 h2
    obtain ⟨k1, k2⟩ := ba2 h
    obtain ⟨k3, k4⟩ := ba2 k2
    exact ⟨a, nm, c, h1, h2, k1, k3, k4⟩
  · cases h
theorem fileB_ok {K : PySem.W.Frag} {file : Str} {a : Addr} (h : fileB K file a = true) : ∃ ccl cdd vs ccs f tk, K.lookup a = some ⟨ccl, cdd, .fields vs, ccs⟩ ∧ vs[2]? = some (Value.str f tk) ∧ (file == f) = true := by
  unfold fileB at h
  split at h
  · rename_i ccl cdd vs ccs hcd
    split at h
    · rename_i f tk hv
      exact ⟨ccl, cdd, vs, ccs, f, tk, hcd, hv, h⟩
    · cases h
  · cases h
theorem cellB_ok {K : PySem.W.Frag} {a D : Addr} (h : cellB K a D = true) : ∃ cl cld csl, K.lookup a = some ⟨cl, cld, .cell (some (.ref D)), csl⟩ := by
  unfold cellB at h
  split at h
  · rename_i cl cld b csl hcl
    have e := of_decide_eq_true h
    subst e
    exact ⟨cl, cld, csl, hcl⟩
  · cases h
theorem SupD.ok {P : Program} {K : PySem.W.Frag} {h : Heap} {mg : Str → Option Value} {d : SupD} (X : K.In h) (G : h.Ns mainGlobals mg) (e : supO K d = d.val) (c : supB K P.main.file d = true) :
    SupK P K mg (He.ga K d.cls) (He.ma K (He.ga K d.cls) "__init__") (He.ma K (He.ga K d.up) "__init__") d.qual d.params d.body d.scope := by
  unfold supB at c
  obtain ⟨c1, c⟩ := ba2 c
  obtain ⟨c2, c⟩ := ba2 c
  obtain ⟨c3, c⟩ := ba2 c
  obtain ⟨c4, c⟩ := ba2 c
  obtain ⟨c5, c⟩ := ba2 c
  obtain ⟨c6, c⟩ := ba2 c
  obtain ⟨c7, c8⟩ := ba2 c
  refine ⟨?_, Option.isSome_iff_exists.mp c2, of_decide_eq_true c3, PySem.W.mg_none_of X G (of_decide_eq_true c4), of_decide_eq_true c5, c6, of_decide_eq_true c7, of_decide_eq_true c8⟩
  unfold supO at e
  cases q : K.lookup (He.ma K (He.ga K d.cls) "__init__") with
  | none => rw [q] at e; cases e
  | some o =>
    obtain ⟨oc, od, dt, osl⟩ := o
    rw [q] at e c1
    cases dt with
    | func fd =>
      obtain ⟨n1, n2, n3, n4, n5, n6, n7, n8, n9, n10, n11, n12, n13, n14, n15⟩ := fd
      have e2 : (some (n1, n2, n3, n4, n5, n6, n7.map (·.1), n15) : SupV) = d.val := e
      unfold SupD.val at e2
      simp only [Option.some.injEq, Prod.mk.injEq] at e2
      obtain ⟨h1, h2, h3, h4, h5, h6, h7, h8⟩ := e2
      subst h1 h2 h3 h4 h5 h6 h8
      obtain ⟨a, nm, c, k1, k2, k3, k4, k5⟩ := partB_ok c1
      dsimp only at k1 k2
      subst k1 k2
      have hnm : nm = "__class__" := (List.cons.inj h7).1
      subst hnm
      obtain ⟨ccl, cdd, vs, ccs, f, tk, m1, m2, m3⟩ := fileB_ok k4
      obtain ⟨cl, cld, csl, m4⟩ := cellB_ok k5
      exact ⟨oc, od, n8, n9, n10, n11, n14, n12, c, a, osl, ccl, cdd, vs, ccs, f, tk, cl, cld, csl, rfl, k3, m1, m2, m3, m4⟩
    | _ => cases e
/-! ### the Hook -/
abbrev AlF : Type := He.AlD × (Bool × List SupV)
def obsF (file : Str) (fa : List He.Fa) (fn : List He5.DefA) (su : List SupD) (ex : PySem.W.Frag → Bool) (K : PySem.W.Frag) : AlF := (He5.obsA fa fn K, (ex K && su.all (supB K file), su.map (supO K)))
def valF (fn : List He5.DefA) (su : List SupD) : AlF := (He5.valA fn, (true, su.map SupD.val))
structure SaysF (file : Str) (fa : List He.Fa) (fn : List He5.DefA) (su : List SupD) (ex : PySem.W.Frag → Bool) (K : PySem.W.Frag) : Prop where
  d : He5.SaysA fa fn K
  more : ex K = true
  sup : ∀ d ∈ su, supO K d = d.val ∧ supB K file d = true
theorem saysF_of {file : Str} {fa : List He.Fa} {fn : List He5.DefA} {su : List SupD} {ex : PySem.W.Frag → Bool} {K : PySem.W.Frag} (e : obsF file fa fn su ex K = valF fn su) : SaysF file fa fn su ex K := by
  have e1 : He5.obsA fa fn K = He5.valA fn := congrArg (fun z : AlF => z.1) e
  have e2 : (ex K && su.all (supB K file)) = true := congrArg (fun z : AlF => z.2.1) e
  have e3 : su.map (supO K) = su.map SupD.val := congrArg (fun z : AlF => z.2.2) e
  obtain ⟨h1, h2⟩ := ba2 e2
  refine ⟨e1, h1, fun d hd => ⟨?_, List.all_eq_true.mp h2 d hd⟩⟩
  obtain ⟨i, hi, hd2⟩ := List.mem_iff_getElem.mp hd
  have e4 : (su.map (supO K))[i]? = (su.map SupD.val)[i]? := by rw [e3]
  rw [List.getElem?_map, List.getElem?_map, List.getElem?_eq_getElem hi, hd2] at e4
  exact Option.some.inj e4
def kF (n : Nat) (g : Addr → Option Obj) : PySem.W.Frag := He.frG g (He5.asA g n)
def hookF (n : Nat) (file : Str) (fa : List He.Fa) (fn : List He5.DefA) (su : List SupD) (ex : PySem.W.Frag → Bool) : PySem.W.Hook where
  α := AlF
  obs := fun s => obsF file fa fn su ex (kF n s.heap.get?)
  val := fun _ => valF fn su
  says := fun _ h => ∃ K : PySem.W.Frag, K.In h ∧ SaysF file fa fn su ex K
  of := fun _ _ e => ⟨_, He.frG_in, saysF_of e⟩
  keeps := fun _ _ _ ⟨K, hK, c⟩ k => ⟨K, PySem.W.Frag.In.keeps hK k, c⟩
theorem obsF_eq {n : Nat} {file : Str} {fa : List He.Fa} {fn : List He5.DefA} {su : List SupD} {ex : PySem.W.Frag → Bool} {g : Addr → Option Obj} {s : Shared} (h : ∀ a, g a = s.heap.get? a) : obsF file fa fn su ex (kF n g) = (hookF n file fa fn su ex).obs s := by
  have e : g = s.heap.get? := funext h
  rw [e] <;> rfl
end FT

/-! FT5: more rules: xs[::-1], {k: v}, len of an own object. -/
namespace FT
open PySem PySem.Spec PyProof.Rows L2
section
variable {X : Cx} {e st kx vx : Expr} {te ts tk tv : TE} {to : TO} {p2 pos : Pos}
/-- xs[::-1] of a list -/
def tRev (K : PySem.W.Frag) (te : TE) (to : TO) : TE := fun σ H Q => te σ H fun x H1 => to σ H1 fun k H3 => k = some (-1) ∧ ∃ a xs, x = .ref a ∧ SqL K H3 a xs ∧ ∀ p, H3 p = none → Q (.ref p) (upd H3 p (.lst xs.reverse))
theorem pe_rev (he : PE X e te) (hs : PO X (some st) to) : PE X (.Subscript e (.Slice none none (some st) p2) pos) (tRev X.K te to) := by
  refine ⟨fun pins s σ H Q I h => ?_⟩
  refine Subscript_ (thn (he.run pins s σ H _ I h) fun v s1 ⟨x, H1, I1, r1, q1⟩ => ?_)
  refine wpAny_Slice ?_
  rw [evalPart_none]
  refine wpAny_pure (wpAny_pure ?_)
  refine thn (hs.run pins s1 σ H1 _ I1 q1) fun vk s3 ⟨k, H3, I3, pk, hk, a, xs, ex, hx, q⟩ => ?_
  subst ex hk
  cases r1
  have I4 : Inv X pins σ H3 { s3 with heap := s3.heap.push { cls := .type "slice", data := .fields #[.none, .none, vk] } } := I3.kept (t' := s3.toks) fun b ob q => Heap.get?_push_of_some _ q
  obtain ⟨its, r, ht, hz⟩ := I4.list hx
  have hlen := r.length
  show wpAny (model X.prog X.w) X.A (subscriptTail e (.Slice none none (some st) p2) (.ref a) (.ref s3.heap.objs.size)) (EP X pins σ Q) X.xe { s3 with heap := s3.heap.push { cls := .type "slice", data := .fields #[.none, .none, vk] } }
  refine tail_any (ops := [.ref a, .ref s3.heap.objs.size]) ht.isList.typeIs slot_list_getitem.lookup ?_ (by with_unfolding_all rfl)
  refine wpAny_getItem_list_slice ht.isList (Heap.IsSliceOf.new ..) .none .none pk (by decide) ?_ (by rw [List.size_toArray] <;> omega)
  rw [PySem.W.krv_pick]
  refine ⟨.ref _, _, I4.laid (t' := s3.toks) (o := .lst xs.reverse) (fun b ob q => Heap.get?_push_of_some _ q) (Nat.le_refl _) ?_, rfl, q _ (I4.hok.fresh (Nat.le_refl _))⟩
  exact ⟨by rw [List.length_reverse]; exact hz, _, 0, r.reverse, Heap.get?_push_size _ rfl⟩
/-- {k: v} -/
def tD1 (tk tv : TE) : TE := fun σ H Q => ∀ p, H p = none → tk σ (upd H p (.dK [])) fun x H1 => tv σ H1 fun y H2 => ∃ key : Key, x = kV key ∧ H2 p = some (.dK []) ∧ Q (.ref p) (upd H2 p (.dK [(key, y)]))
theorem pe_dict1 (hk : PE X kx tk) (hv : PE X vx tv) : PE X (.Dict [some kx] [vx] pos) (tD1 tk tv) := by
  refine ⟨fun pins s σ H Q I h => ?_⟩
  have hp := I.hok.fresh (a := s.heap.objs.size) (Nat.le_refl _)
  have I1 := I.laid (a := s.heap.objs.size) (o := .dK []) (h' := s.heap.push { cls := .type "dict", data := .dict #[] }) (t' := s.toks) (fun _ _ q => Heap.get?_push_of_some _ q) (Nat.le_refl _) (dk_empty s.heap I.big)
  refine wpAny_Dict_pairs (knd := mixKind X.prog X.w) (pairs := [(eval kx X.env, do let x ← eval vx X.env; standAt pos; pure x)]) (by first | rfl | simp [evalEachOpt, evalEach]) (by simp) (by simp) ?_
  show wpAny _ _ (do
    let kv ← eval kx X.env
    let vv ← holding [kv] (do let x ← eval vx X.env; standAt pos; pure x)
    return (kv, vv) :: (← holding [kv, vv] (evalPairs []))) _ _ _
  refine wpAny_bind (thn (hk.run pins _ σ _ _ I1 (h s.heap.objs.size hp)) fun kv s1 ⟨x, H1, I2, rx, q1⟩ => ?_)
  refine wpAny_bind (wpAny_holding (wpAny_bind (thn (hv.run pins s1 σ H1 _ I2 q1) fun vv s2 ⟨y, H2, I3, ry, key, ek, hd, q2⟩ => wpAny_bind (wpAny_standAt (wpAny_pure ?_)))))
  refine wpAny_bind (wpAny_holding (wpAny_pure (wpAny_pure ?_)))
  subst ek
  obtain ⟨z, hs, vs, rel, dd⟩ := dk_of I3.hok hd
  cases rel
  refine ⟨[(key, vv)], ⟨kV_is rx, rfl, True.intro⟩, dd, fun h' dd' hsb => ?_⟩
  have he : ∃ q, h'.get? s.heap.objs.size = some q := let ⟨q, _, _, hq, _⟩ := dd'; ⟨q, hq⟩
  refine ⟨.ref s.heap.objs.size, _, d_write I3 (by rw [hd]; exact True.intro) hsb he (dk_new (kvs := [(key, y)]) (by rw [sizeLine_eq]; simp) hs (.cons ⟨rfl, ry⟩ .nil) dd'), rfl, q2⟩
def qIsiT (K : PySem.W.Frag) : List V → Hp → VK → Prop := rIsiT K
theorem call_qIsiT : CallR X (.builtin "isinstance") (qIsiT X.K) := call_isiT
def kitLT (T : String) : Option Bool := PySem.W.kitAny [] (.type T) [.type "list", .type "tuple"]
def qListD : List V → Hp → VK → Prop := fun xs H Q => ∃ (a : Addr) (kvs : List (Key × V)), xs = [.ref a] ∧ Rd H a (.dK kvs) ∧ ∀ p, H p = none → Q (.ref p) (upd H p (.lst (kvs.map fun kv => kV kv.1)))
theorem call_qListD (hc : X.calm = true) : CallR X (.type "list") qListD := call_listD hc
/-- len(o), o of an own class with __len__ -/
def rLenO (C : Addr) (sp : Sp) : List V → Hp → VK → Prop := fun xs H Q => ∃ a dx fs, xs = [.ref a] ∧ H a = some (.ins C dx fs) ∧ sp [.ref a] H (fun v H1 => ∃ n : Nat, v = .int (n : Int) ∧ n < 2 ^ 62 ∧ Q (.int (n : Int)) H1) (fun _ _ _ => False)
theorem call_lenO {k : Nat} {C f : Addr} {fd : FuncData} {sp : Sp} (F : FnOk X.prog X.w X.K X.mg X.base (L2.CX X.prog X.w) k f fd ["self"] sp) (hb : Binds X.K fd ["self"] []) (hr : Room (k + 1) X.A) (hs : PySem.W.findIn X.K (.ref C) "__len__" = some (some (.ref f)))
    (hf : PySem.W.isFn X.K (.ref f) = true) : CallR X (.builtin "len") (rLenO C sp) := by
  intro pins s σ H xs us Q I r h
  obtain ⟨a, dx, fs, rfl, ha, q⟩ := h
  obtain ⟨u, rfl, ru⟩ := vals1 r
  have hu : u = Value.ref a := ru
  subst hu
  obtain ⟨mA, O, _, _, _, _⟩ := ins_get I.hok ha
  obtain ⟨od1, J1, _⟩ := O.look
  refine Calls.call_function_entry PySem.kind_len PySem.plain_len PySem.entry_len (PySem.args_len1 _) ?_
  unfold Builtin.«len»
  refine wpAny_bind (m := oneArg "len" _) (wpAny_pure ?_)
  refine wpAny_bind (m := callSpecial? (.ref a) (Str.ofString "__len__")) (PySem.W.special_fn I.kIn J1 hs (beq_iff_eq.mp hf) ?_)
  refine wpAny_call (codeAny_mono (F.run X.A.in1 X.stack s H ⟨[.ref a], []⟩ [.ref a] [.ref a] _ _ hr.in1 I.env0.in1 (hb s [.ref a] I.kIn rfl) (.cons rfl .nil) q) fun r s' hc => ?_)
  cases r with
  | error e => exact (passL (X := X) pins σ H s e s' I hc)
  | ok fl =>
    cases fl with
    | next => exact False.elim hc
    | brk => exact False.elim hc
    | cont => exact False.elim hc
    | ret u =>
      obtain ⟨v, H1, J, rv, n, rfl, hn, q2⟩ := I.after hc
      obtain ⟨t, rfl⟩ := rv
      refine wpAny_bind (wpAny_holding (wpAny_pure ?_))
      refine wpAny_bind (wpAny_letGo ?_)
      show wpAny _ _ (if (n : Int) < 0 then _ else _) _ _ _
      rw [if_neg (by omega)]
      show wpAny _ _ (if (n : Int) ≥ 2 ^ 63 then _ else _) _ _ _
      rw [if_neg (by omega)]
      exact wpAny_bind (wpAny_mkInt (wpAny_pure ⟨_, rfl, .int _, H1, J.tok _, ⟨_, rfl⟩, q2⟩))
end
section
variable {K : PySem.W.Frag} {σ σ' : L2.St} {H H' B : Hp} {R : List Seg} {Q : VK} {x y z v w : V} {D : Ends} {ta tb tc te to td ty tk tv : TE} {p a : Addr} {xs ys : List V} {i j : Int} {tO : TO}
theorem x_dinN (q : ty σ H fun y H1 => td σ H1 fun x H2 => (∃ a o, x = .ref a ∧ DGet H2 a y o ∧ Q (.bl o.isSome) H2) ∨ ∃ a kvs, x = .ref a ∧ y = .non ∧ Rd H2 a (.dK kvs) ∧ Q (.bl false) H2) : tDInN ty td σ H Q := q
theorem x_din (q : ty σ H fun y H1 => td σ H1 fun x H2 => ∃ a o, x = .ref a ∧ DGet H2 a y o ∧ Q (.bl o.isSome) H2) : tDIn ty td σ H Q := q
theorem x_dput (q : tv σ H fun v H1 => td σ H1 fun x H2 => ty σ H2 fun y H3 => ∃ a H4, x = .ref a ∧ DPut H3 a y v H4 ∧ D.nx σ H4) : sDPut td ty tv D σ H := q
def mRev (K : PySem.W.Frag) (Q : VK) (x : V) (k : Option Int) (H3 : Hp) : Prop := k = some (-1) ∧ ∃ a xs, x = .ref a ∧ SqL K H3 a xs ∧ ∀ p, H3 p = none → Q (.ref p) (upd H3 p (.lst xs.reverse))
theorem x_rev (q : te σ H fun x H1 => tO σ H1 fun k H3 => mRev K Q x k H3) : tRev K te tO σ H Q := q
theorem z_rev (S : Z H B R) (h : SqL K H p xs) (q : ∀ l H', Z H' B ([(l, .lst xs.reverse)] :: R) → Q (.ref l) H') : mRev K Q (.ref p) (some (-1)) H := ⟨rfl, p, xs, rfl, h, fun l hl => q l _ (S.new hl)⟩
def qPop : V → List V → Hp → VK → Prop := fun x vs H Q => rPop x vs H Q ∨ rPopAt x vs H Q
theorem mt_qPop {X : Cx} : MtM X "list.pop" qPop := fun pins s σ H x vs v us Q I rx rv h => by
  rcases h with h | h
  · exact mt_pop pins s σ H x vs v us Q I rx rv h
  · exact mt_popAt pins s σ H x vs v us Q I rx rv h
theorem z_pop0 {n : Nat} {q' : Seg} (S : Z H B R) (h : R[n]? = some ((p, .lst (y :: xs)) :: q')) (q : ∀ H', Z H' B (R.set n ((p, .lst xs) :: q')) → Q y H') : qPop (.ref p) [.int 0] H Q :=
  .inr ⟨p, y :: xs, 0, 0, y, rfl, rfl, S.at_ n 0 h rfl, by decide, by decide, seqIndex_of (by decide) (by simp), rfl, q _ (S.set n h)⟩
end
end FT

/-! FTC: methods, properties, keywords, class constants of own classes by names. -/
namespace FT
open PySem PySem.Spec PyProof.Rows L2
/-- a method of the class x as it stands: its promise -/
structure Gm (P : Program) (w : World) (K : PySem.W.Frag) (mg : Str → Option Value) (base : Heap) (k : Nat) (x m : Str) (ps : List Str) (sp : Sp) : Prop where
  cl : Cls K (He.ga K x)
  me : Meth K (He.ga K x) m (He.ma K (He.ga K x) m)
  ex : ∃ fd, FnOk P w K mg base (L2.CX P w) k (He.ma K (He.ga K x) m) fd ps sp ∧ Binds K fd ps []
section
variable {X : Cx} {k j : Nat} {x m : Str} {ps : List Str} {sp : Sp} {o e : Expr} {es : List Expr} {ta : TE} {t tk : TA} {apos pos : Pos} {pl : Sem Bool} {t1 t2 : TE}
theorem pe_gm (G : Gm X.prog X.w X.K X.mg X.base k x m ps sp) (hr : Room j X.A) (ho : PE X o ta) (ha : PA X (e :: es) t) (hk : k ≤ j := by decide)
    (hst : starEach (e :: es) X.env = (false, eval e X.env) :: starEach es X.env := by rfl) (hpl : (backTo pos (starEach es X.env)).any (·.1) = false := by rfl)
    (ht : eval (.Call (.Attribute o m apos) (e :: es) [] pos) X.env = (do
      let ov ← eval o X.env
      standAt apos.atName
      let (f, first) ← holding [ov] (getMethod ov m pl)
      callWith pos f first (backTo pos (starEach (e :: es) X.env)) (backToKw pos (keywordEach [] X.env))) := by rfl) :
    PE X (.Call (.Attribute o m apos) (e :: es) [] pos) (tMeth (He.ga X.K x) m sp [] E0 ta t) := by
  obtain ⟨fd, F, b⟩ := G.ex
  exact pe_meth (pl := pl) ho G.cl G.me F (hr.mono hk) b .nil passL ha hst hpl ht
theorem pe_gm0 (G : Gm X.prog X.w X.K X.mg X.base k x m ps sp) (hr : Room j X.A) (ho : PE X o ta) (hk : k ≤ j := by decide)
    (ht : eval (.Call (.Attribute o m apos) [] [] pos) X.env = (do
      let ov ← eval o X.env
      standAt apos.atName
      let (f, first) ← holding [ov] (getMethod ov m pl)
      callWith pos f first (backTo pos (starEach [] X.env)) (backToKw pos (keywordEach [] X.env))) := by rfl) :
    PE X (.Call (.Attribute o m apos) [] [] pos) (tMeth (He.ga X.K x) m sp [] E0 ta tNil) := by
  obtain ⟨fd, F, b⟩ := G.ex
  exact pe_meth0 (pl := pl) ho G.cl G.me F (hr.mono hk) b .nil passL ht
/-- .. where the defaults dvs fill up -/
structure Gmd (P : Program) (w : World) (K : PySem.W.Frag) (mg : Str → Option Value) (base : Heap) (k : Nat) (x m : Str) (ps : List Str) (sp : Sp) (dvs : List V) : Prop where
  cl : Cls K (He.ga K x)
  me : Meth K (He.ga K x) m (He.ma K (He.ga K x) m)
  ex : ∃ fd ds, FnOk P w K mg base (L2.CX P w) k (He.ma K (He.ga K x) m) fd ps sp ∧ Vals dvs ds ∧ Binds K fd ps ds
theorem pe_gmd0 {dvs : List V} (G : Gmd X.prog X.w X.K X.mg X.base k x m ps sp dvs) (hr : Room j X.A) (ho : PE X o ta) (hk : k ≤ j := by decide)
    (ht : eval (.Call (.Attribute o m apos) [] [] pos) X.env = (do
      let ov ← eval o X.env
      standAt apos.atName
      let (f, first) ← holding [ov] (getMethod ov m pl)
      callWith pos f first (backTo pos (starEach [] X.env)) (backToKw pos (keywordEach [] X.env))) := by rfl) :
    PE X (.Call (.Attribute o m apos) [] [] pos) (tMeth (He.ga X.K x) m sp dvs E0 ta tNil) := by
  obtain ⟨fd, ds, F, hd, b⟩ := G.ex
  exact pe_meth0 (pl := pl) ho G.cl G.me F (hr.mono hk) b hd passL ht
/-! ### keywords -/
structure Gmk (P : Program) (w : World) (K : PySem.W.Frag) (mg : Str → Option Value) (base : Heap) (k : Nat) (x m : Str) (ps ks : List Str) (sp : Sp) : Prop where
  cl : Cls K (He.ga K x)
  me : Meth K (He.ga K x) m (He.ma K (He.ga K x) m)
  ex : ∃ fd, FnOk P w K mg base (L2.CX P w) k (He.ma K (He.ga K x) m) fd ps sp ∧ KBn K fd ps 1 ks (fun us ws => us ++ ws) (fun vs zs => vs ++ zs)
theorem kbinds1 {K : PySem.W.Frag} {x qual : Str} {params : Arguments} {body : List Stmt} {scope : Scope} {dvs : List V} {f : Addr} {fd : FuncData} {ps : List Str} (F : FunD K x qual params body scope dvs [] f fd) (n : Nat) (ks : List Str) (hd : dvs ≠ [])
    (h : ∀ (T : Addr) (kV doc pm : Value) (an : Option Addr) (cdv ct : Value) (us its ws : List Value), us.length = n → its.length = dvs.length → ws.length = ks.length →
      ∃ k, bindArgs (PySem.W.fnOf x qual params body scope (.ref T) kV doc pm an cdv ct) ⟨us, ks.zip ws⟩ = seqItems? (.ref T) >>= k ∧ k (some its.toArray) = pure (ps.zip (us ++ ws))) : KBn K fd ps n ks (fun us ws => us ++ ws) (fun vs zs => vs ++ zs) := by
  obtain ⟨oc, od, dV, kV, doc, pm, an, cdv, ct, osl, rfl, lk, hcd, hD, hK⟩ := F.ex
  rcases hD with ⟨e, _⟩ | ⟨_, T, o, its, m, rfl, lT, oT, rT⟩
  · exact absurd e hd
  · refine ⟨fun s us ws X h1 h2 => ?_, fun r1 r2 => r1.append r2⟩
    obtain ⟨k, e1, e2⟩ := h T kV doc pm an cdv ct us its ws h1 rT.length.symm h2
    refine BindsTo.of_looks fun M => ?_
    rw [e1]
    exact looks_items X lT oT (.of_pure e2)
theorem kbindsN {K : PySem.W.Frag} {x qual : Str} {params : Arguments} {body : List Stmt} {scope : Scope} {f : Addr} {fd : FuncData} {ps : List Str} (F : FunD K x qual params body scope [] [] f fd) (n : Nat) (ks : List Str)
    (h : ∀ (kV doc pm : Value) (an : Option Addr) (cdv ct : Value) (us ws : List Value), us.length = n → ws.length = ks.length → bindArgs (PySem.W.fnOf x qual params body scope .none kV doc pm an cdv ct) ⟨us, ks.zip ws⟩ = pure (ps.zip (us ++ ws))) : KBn K fd ps n ks (fun us ws => us ++ ws) (fun vs zs => vs ++ zs) := by
  obtain ⟨oc, od, dV, kV, doc, pm, an, cdv, ct, osl, rfl, lk, hcd, hD, hK⟩ := F.ex
  rcases hD with ⟨_, rfl⟩ | ⟨e, _⟩
  · exact ⟨fun s us ws X h1 h2 => .of_eq (h kV doc pm an cdv ct us ws h1 h2), fun r1 r2 => r1.append r2⟩
  · exact absurd rfl e
theorem run_kbn {pins : List (Addr × Obj)} {σ : L2.St} {H : Hp} {s : Shared} {Q : VK} {us ws : List Value} {vs zs : List V} {E : XK} {CX : CXT} {k n : Nat} {f : Addr} {fd : FuncData} {ks : List Str} (F : FnOk X.prog X.w X.K X.mg X.base CX k f fd ps sp) (hr : Room k X.A) (hb : KBn X.K fd ps n ks (fun us ws => us ++ ws) (fun vs zs => vs ++ zs)) (hx : Passes CX X E)
    (I : Inv X pins σ H s) (r : Vals vs us) (rz : Vals zs ws) (h1 : us.length = n) (h2 : ws.length = ks.length) (h : sp (vs ++ zs) H Q E) : wpAny (model X.prog X.w) X.A (call (.ref f) us (ks.zip ws)) (EP X pins σ Q) X.xe s := by
  have r2 := hb.rel r rz
  refine wpAny_call (codeAny_mono (F.run X.A X.stack s H ⟨us, ks.zip ws⟩ (us ++ ws) (vs ++ zs) Q E hr I.env0 (hb.to s us ws I.kIn h1 h2) r2 h) fun r s' hq => ?_)
  cases r with
  | error e => exact hx pins σ H s e s' I hq
  | ok fl =>
    cases fl with
    | ret u => exact I.after hq
    | next => exact False.elim hq
    | brk => exact False.elim hq
    | cont => exact False.elim hq
/-- o.m(k = v, ..) -/
def tMethK (C : Addr) (m : Str) (sp : Sp) (n : Nat) (ta : TE) (tk : TA) : TE := fun σ H Q => ta σ H fun x H1 => ∃ a dx fs, x = .ref a ∧ H1 a = some (.ins C dx fs) ∧ fs.lookup m = none ∧ tk σ H1 fun zs H2 => zs.length = n ∧ sp (x :: zs) H2 Q E0
theorem pe_gmK {kws : List Keyword} {ks : List Str} {n : Nat} (G : Gmk X.prog X.w X.K X.mg X.base k x m ps ks sp) (hr : Room j X.A) (ho : PE X o ta) (hkw : PK X kws tk) (hn : ks.length = n := by rfl) (hk : k ≤ j := by decide) (hall : (backToKw pos (keywordEach kws X.env)).all (·.1.isSome) = true := by rfl)
    (hks : (backToKw pos (keywordEach kws X.env)).filterMap (·.1) = ks := by rfl) (hpl : ((backTo pos (starEach [] X.env)).any (·.1) || (backToKw pos (keywordEach kws X.env)).any (·.1.isNone)) = false := by rfl)
    (ht : eval (.Call (.Attribute o m apos) [] kws pos) X.env = (do
      let ov ← eval o X.env
      standAt apos.atName
      let (f, first) ← holding [ov] (getMethod ov m pl)
      callWith pos f first (backTo pos (starEach [] X.env)) (backToKw pos (keywordEach kws X.env))) := by rfl) :
    PE X (.Call (.Attribute o m apos) [] kws pos) (tMethK (He.ga X.K x) m sp n ta tk) := by
  subst hn
  obtain ⟨fd, F, b⟩ := G.ex
  refine ⟨fun pins s σ H Q I h => ?_⟩
  refine PySem.W.methodCall_KW (pl := pl) (thn (ho.run pins s σ H _ I h) fun u s1 ⟨x, H1, I1, rx, a, dx, fs, ex, ea, l, q⟩ => ?_) ht
  subst ex
  obtain rfl : u = Value.ref a := rx
  refine getmeth_ok I1 ea G.cl G.me l ?_
  refine PySem.W.callWith_KW0 (h₀ := X.base) (first := [.ref a]) I1.ok.mod.kin G.me.kp hall (thn (hkw.run pos pins s1 σ H1 _ I1 q) fun ws s2 ⟨zs, H2, I2, rz, hlen, q2⟩ => ⟨I2.kIn, ?_⟩) hpl
  rw [hks]
  exact run_kbn (us := [Value.ref a]) (vs := [V.ref a]) F (hr.mono hk) b passL I2 (.cons (show RelV (.ref a) (.ref a) from rfl) .nil) rz rfl (rz.length.symm.trans hlen) q2
/-- either way -/
def tOr2 (t1 t2 : TE) : TE := fun σ H Q => t1 σ H Q ∨ t2 σ H Q
theorem pe_or2 (h1 : PE X e t1) (h2 : PE X e t2) : PE X e (tOr2 t1 t2) := ⟨fun pins s σ H Q I h => h.elim (h1.run pins s σ H Q I) (h2.run pins s σ H Q I)⟩
/-! ### properties -/
structure Gp (P : Program) (w : World) (K : PySem.W.Frag) (mg : Str → Option Value) (base : Heap) (k : Nat) (x m : Str) (sp : Sp) : Prop where
  cl : Cls K (He.ga K x)
  ex : ∃ p g fd, PropOf K (He.ga K x) m p g ∧ FnOk P w K mg base (L2.CX P w) k g fd ["self"] sp ∧ Binds K fd ["self"] []
theorem pe_gp (G : Gp X.prog X.w X.K X.mg X.base k x m sp) (hr : Room j X.A) (ho : PE X o ta) (hk : k + 1 ≤ j := by decide) (hab : attributeBase o m X.env (eval o X.env) = eval o X.env := by rfl) : PE X (.Attribute o m pos) (tProp (He.ga X.K x) sp [] E0 ta) := by
  obtain ⟨p, g, fd, h1, F, b⟩ := G.ex
  exact pe_prop ho G.cl h1 F (hr.mono hk) b .nil passL hab
end
/-! ### making -/
structure Gn (P : Program) (w : World) (K : PySem.W.Frag) (mg : Str → Option Value) (base : Heap) (k : Nat) (x : Str) (sp : Sp) : Prop where
  make : Mk K (He.ga K x) (He.ma K (He.ga K x) "__init__")
  gl : mg x = some (.ref (He.ga K x))
  ex : ∃ fd, FnOk P w K mg base (L2.CX P w) k (He.ma K (He.ga K x) "__init__") fd ["self"] sp ∧ Binds K fd ["self"] []
theorem pe_gn {X : Cx} {k j : Nat} {x : Str} {sp : Sp} {p pos : Pos} (G : Gn X.prog X.w X.K X.mg X.base k x sp) (hr : Room j X.A) (hk : k + 1 ≤ j := by decide) (hg : Gl X x := by rfl) (hdb : (x == ("__debug__" : Str)) = false := by decide) :
    PE X (.Call (.Name x p) [] [] pos) (tMake (He.ga X.K x) sp [] E0 tNil) := by
  obtain ⟨fd, F, b⟩ := G.ex
  exact pe_make0 G.make F (hr.mono hk) hg G.gl b .nil passL hdb
/-- a piece of one thing stays from now on -/
theorem Z.frz {H B : Hp} {R : List Seg} {p : Addr} {o : HO} (S : Z H B R) (i : Nat) (h : R[i]? = some [(p, o)]) : ∃ B', Ex B B' ∧ B' p = some o ∧ Z H B' (R.eraseIdx i) :=
  ⟨_, (S.pick i h).le, freeze_at (by simp) (by simp), (S.pick i h).freeze⟩
theorem len_putF (f : Str) (y : V) : ∀ fs : List (Str × V), (putF f y fs).length ≤ fs.length + 1
  | [] => by simp [putF]
  | (g, v) :: r => by
    have ih := len_putF f y r
    unfold putF
    split
    · simp
    · simp only [List.length_cons]; omega
/-! ### their steps -/
section
variable {K : PySem.W.Frag} {σ σ' : L2.St} {H H' B : Hp} {R : List Seg} {Q : VK} {x y z v w : V} {D : Ends} {E : XK} {ta tb tv : TE} {as tk : TA} {p a C dx : Addr} {fs : List (Str × V)} {f m : Str} {sp : Sp} {dvs : List V}
def mFld (K : PySem.W.Frag) (f : Str) (Q : VK) (x : V) (H1 : Hp) : Prop := ∃ a C dx fs v, x = .ref a ∧ H1 a = some (.ins C dx fs) ∧ Cls K C ∧ NoAttr K C f ∧ fs.lookup f = some v ∧ Q v H1
theorem x_fld (q : ta σ H (mFld K f Q)) : tFld K ta f σ H Q := q
theorem z_fld (h : H p = some (.ins C dx fs)) (c : Cls K C) (n : NoAttr K C f) (l : fs.lookup f = some v) (q : Q v H) : mFld K f Q (.ref p) H := ⟨p, C, dx, fs, v, rfl, h, c, n, l, q⟩
def mSF (K : PySem.W.Frag) (f : Str) (D : Ends) (σ : L2.St) (y x : V) (H2 : Hp) : Prop := ∃ a C dx fs, x = .ref a ∧ H2 a = some (.ins C dx fs) ∧ Cls K C ∧ NoAttr K C f ∧ fs.length < 1000 ∧ D.nx σ (upd H2 a (.ins C dx (putF f y fs)))
theorem x_sfld (q : tv σ H fun y H1 => ta σ H1 (mSF K f D σ y)) : sFld K ta tv f D σ H := q
/-- stored in the object that heads the piece at n -/
theorem z_sfld {n : Nat} {q' : Seg} (S : Z H B R) (h : R[n]? = some ((p, .ins C dx fs) :: q')) (c : Cls K C) (nn : NoAttr K C f) (hl : fs.length < 1000) (q : ∀ H', Z H' B (R.set n ((p, .ins C dx (putF f y fs)) :: q')) → D.nx σ H') : mSF K f D σ y (.ref p) H :=
  ⟨p, C, dx, fs, rfl, S.at_ n 0 h rfl, c, nn, hl, q _ (S.set n h)⟩
theorem x_orL {t1 t2 : TE} (q : t1 σ H Q) : tOr2 t1 t2 σ H Q := .inl q
theorem x_orR {t1 t2 : TE} (q : t2 σ H Q) : tOr2 t1 t2 σ H Q := .inr q
def mMeth (C : Addr) (m : Str) (sp : Sp) (dvs : List V) (as : TA) (σ : L2.St) (Q : VK) (x : V) (H1 : Hp) : Prop := ∃ a dx fs, x = .ref a ∧ H1 a = some (.ins C dx fs) ∧ fs.lookup m = none ∧ as σ H1 fun vs H2 => sp (x :: (vs ++ dvs)) H2 Q E0
theorem x_meth (q : ta σ H (mMeth C m sp dvs as σ Q)) : tMeth C m sp dvs E0 ta as σ H Q := q
theorem z_meth (h : H p = some (.ins C dx fs)) (l : fs.lookup m = none) (q : as σ H fun vs H2 => sp (.ref p :: (vs ++ dvs)) H2 Q E0) : mMeth C m sp dvs as σ Q (.ref p) H := ⟨p, dx, fs, rfl, h, l, q⟩
def mMethK (C : Addr) (m : Str) (sp : Sp) (n : Nat) (tk : TA) (σ : L2.St) (Q : VK) (x : V) (H1 : Hp) : Prop := ∃ a dx fs, x = .ref a ∧ H1 a = some (.ins C dx fs) ∧ fs.lookup m = none ∧ tk σ H1 fun zs H2 => zs.length = n ∧ sp (x :: zs) H2 Q E0
theorem x_methK {n : Nat} (q : ta σ H (mMethK C m sp n tk σ Q)) : tMethK C m sp n ta tk σ H Q := q
theorem z_methK {n : Nat} (h : H p = some (.ins C dx fs)) (l : fs.lookup m = none) (q : tk σ H fun zs H2 => zs.length = n ∧ sp (.ref p :: zs) H2 Q E0) : mMethK C m sp n tk σ Q (.ref p) H := ⟨p, dx, fs, rfl, h, l, q⟩
def mProp (C : Addr) (sp : Sp) (Q : VK) (x : V) (H1 : Hp) : Prop := ∃ a dx fs, x = .ref a ∧ H1 a = some (.ins C dx fs) ∧ sp [.ref a] H1 Q E0
theorem x_prop (q : ta σ H (mProp C sp Q)) : tProp C sp [] E0 ta σ H Q := q
theorem z_prop (h : H p = some (.ins C dx fs)) (q : sp [.ref p] H Q E0) : mProp C sp Q (.ref p) H := ⟨p, dx, fs, rfl, h, q⟩
theorem x_make (q : ∀ x dx, H x = none → H dx = none → dx ≠ x → sp [.ref x] (upd (upd H dx (.own x)) x (.ins C dx [])) (fun v H2 => v = .non ∧ Q (.ref x) H2) E0) : tMake C sp [] E0 tNil σ H Q := q
theorem z_made (S : Z H B R) (h1 : H p = none) (h2 : H dx = none) (ne : dx ≠ p) : Z (upd (upd H dx (.own p)) p (.ins C dx [])) B ([(p, .ins C dx []), (dx, .own p)] :: R) := by
  have h3 : (upd H dx (.own p)) p = none := by rw [upd_ne ne.symm]; exact h1
  exact ((S.new (o := .own p) h2).new (o := .ins C dx []) h3).join
theorem x_cval (q : ta σ H fun x H1 => ∃ C mc v u, x = .ref C ∧ ClX.CRead K C mc ∧ ClX.CVal K C mc f v u ∧ Q v H1) : ClX.tCVal K ta f σ H Q := q
theorem z_cval {mc u : Value} {F : V → Prop} (r : ClX.CRead K C mc) (c : ClX.CVal K C mc f v u) (q : F v) : ∃ C' mc v u, V.ref C = .ref C' ∧ ClX.CRead K C' mc ∧ ClX.CVal K C' mc f v u ∧ F v := ⟨C, mc, v, u, rfl, r, c, q⟩
end
/-! ### texts of parts, len by names, sorted -/
def tJoin (ts : List TE) : TE := fun σ H Q => tJs ts Str.empty σ H fun out H1 => Q (.str out) H1
def qSorted (K : PySem.W.Frag) : List V → Hp → VK → Prop := rSorted K
theorem call_qSorted {X : Cx} : CallR X (.builtin "sorted") (qSorted X.K) := cr_sorted
structure Gl' (P : Program) (w : World) (K : PySem.W.Frag) (mg : Str → Option Value) (base : Heap) (k : Nat) (x : Str) (sp : Sp) : Prop where
  at_ : PySem.W.findIn K (.ref (He.ga K x)) "__len__" = some (some (.ref (He.ma K (He.ga K x) "__len__")))
  fn : PySem.W.isFn K (.ref (He.ma K (He.ga K x) "__len__")) = true
  ex : ∃ fd, FnOk P w K mg base (L2.CX P w) k (He.ma K (He.ga K x) "__len__") fd ["self"] sp ∧ Binds K fd ["self"] []
theorem call_gl {X : Cx} {k j : Nat} {x : Str} {sp : Sp} (G : Gl' X.prog X.w X.K X.mg X.base k x sp) (hr : Room j X.A) (hk : k + 1 ≤ j := by decide) : CallR X (.builtin "len") (rLenO (He.ga X.K x) sp) := by
  obtain ⟨fd, F, b⟩ := G.ex
  exact call_lenO F b (hr.mono hk) G.at_ G.fn
section
variable {K : PySem.W.Frag} {σ : L2.St} {H : Hp} {Q : VK} {p C dx : Addr} {fs : List (Str × V)} {sp : Sp} {te : TE} {s1 s2 : Str}
theorem z_lenO (h : H p = some (.ins C dx fs)) (q : sp [.ref p] H (fun v H1 => ∃ n : Nat, v = .int (n : Int) ∧ n < 2 ^ 62 ∧ Q (.int (n : Int)) H1) (fun _ _ _ => False)) : rLenO C sp [.ref p] H Q := ⟨p, dx, fs, rfl, h, q⟩
end
end FT

/-! FTZ: zip of a tuple and a list. -/
namespace FT
open PySem PySem.Spec PyProof.Rows L2
/-- the tuple at a and the list at b as they stand at each turn -/
def ItzM (K : PySem.W.Frag) (a b : Addr) : It :=
  ⟨fun i H => ∃ (xs ys : List V) (x y : V), SqT K H a xs ∧ SqL K H b ys ∧ xs[i]? = some x ∧ ys[i]? = some y,
    fun i H v H' => ∃ T x y, v = .ref T ∧ H T = none ∧ H' = upd H T (.tup [x, y]) ∧ (∀ xs, SqT K H a xs → xs[i]? = some x) ∧ ∀ ys, SqL K H b ys → ys[i]? = some y,
    fun i H => ∃ xs ys : List V, SqT K H a xs ∧ SqL K H b ys ∧ i ≤ xs.length ∧ i ≤ ys.length ∧ (i = xs.length ∨ i = ys.length)⟩
theorem turn_zipM {P : Program} {w : World} {K : PySem.W.Frag} {elts : List Expr} {kk : Nat} {tpos : Pos} {a b z TI TO i1 i2 : Addr} (D : ZipSep2 z TI TO i1 i2 [i1, a] [i2, b]) (ha : a ≠ i1) (hb : b ≠ i2) :
    Turn P w K (.Tuple elts kk tpos) (ItzM K a b) [z, TI, TO, i1, i2] z (fun i h => IsZip h z TI TO .none ∧ IsTupOf2 h TI (.ref i1) (.ref i2) ∧ (∃ x y, IsTupOf2 h TO x y) ∧ h.IsTupleIter i1 a i ∧ h.IsListIter i2 b i) where
  mem := by simp
  obj := fun i h st c hc => by
    obtain ⟨hz, hTI, ⟨x, y, hTO⟩, ⟨o1, e1, _, d1⟩, ⟨o2, e2, _, d2⟩⟩ := st
    have e' : c = z ∨ c = TI ∨ c = TO ∨ c = i1 ∨ c = i2 := by simpa using hc
    rcases e' with q | q | q | q | q
    · rw [q]; exact ⟨_, hz, fun v q => nomatch q⟩
    · rw [q]; exact ⟨_, hTI, fun v q => nomatch q⟩
    · rw [q]; exact ⟨_, hTO, fun v q => nomatch q⟩
    · rw [q]; exact ⟨o1, e1, fun v q => by rw [d1] at q; cases q⟩
    · rw [q]; exact ⟨o2, e2, fun v q => by rw [d2] at q; cases q⟩
  keep := fun i h h' st k => by
    obtain ⟨hz, hTI, ⟨x, y, hTO⟩, h1, h2⟩ := st
    exact ⟨k z (by simp) _ hz, k TI (by simp) _ hTI, ⟨x, y, k TO (by simp) _ hTO⟩, h1.at fun o q => k i1 (by simp) o q, h2.at fun o q => k i2 (by simp) o q⟩
  item := by
    intro X hP hw hK hc i pins s σ H E I hf st hg
    subst hP hw hK
    obtain ⟨hz, hTI, ⟨x0, y0, hTO⟩, h1, h2⟩ := st
    obtain ⟨xs, ys, x, y, hqx, hqy, hx, hy⟩ := hg
    obtain ⟨its, rv, p, _⟩ := I.tuple hqx
    obtain ⟨its2, rv2, p2, _⟩ := I.list hqy
    obtain ⟨u, hu, ru⟩ := rv.get hx
    obtain ⟨u2, hu2, ru2⟩ := rv2.get hy
    have hzl : z < s.heap.objs.size := Heap.lt_size hz
    have hh : X.A.in1.handled = none := I.ok.hd hc
    have l1 : i < its.toArray.size := by
      have := (List.getElem?_eq_some_iff.mp hu).1
      simpa using this
    have l2 : i < its2.toArray.size := by
      have := (List.getElem?_eq_some_iff.mp hu2).1
      simpa using this
    refine wpAny_pyNext_zipD2_item D (Draws.tuple hh i1 a ha its.toArray) (Draws.list hh i2 b hb its2.toArray) hz hTI hTO ⟨h1, p⟩ ⟨h2, p2.isList⟩ l1 l2 fun v1 v2 h' tk y1 y2 z' TO' st1 st2 hT hsz hk => ?_
    have e1 : v1 = u := by
      have : its.toArray[i]? = some u := by simpa using hu
      exact Option.some.inj (y1.symm.trans this)
    have e2 : v2 = u2 := by
      have : its2.toArray[i]? = some u2 := by simpa using hu2
      exact Option.some.inj (y2.symm.trans this)
    subst e1 e2
    refine ⟨_, rfl, wpAny_letOwnedTupleGo_zip (s := { s with heap := h', toks := tk }) z' fun h'' z'' sb => ?_⟩
    have hT2 : h''.get? s.heap.objs.size = some { cls := .type "tuple", data := .seq #[v1, v2] } := (sb.2 _ (Nat.ne_of_gt hzl)).trans hT
    have new : ObjOk X.prog X.w (upd H s.heap.objs.size (.tup [x, y])) h'' s.heap.objs.size (.tup [x, y]) :=
      ⟨by show 2 ≤ sizeLine; decide, [v1, v2], .cons ru (.cons ru2 .nil), ⟨_, hT2, rfl, _, rfl⟩⟩
    have I1 : Inv X pins σ (upd H s.heap.objs.size (.tup [x, y])) { s with heap := h'', toks := tk } :=
      I.turnedNew (t' := tk) (ch := [z, TI, TO, i1, i2]) (fun c o hb q => (sb.2 c (fun q' => hb (by simp [q']))).trans (hk c o (fun q' => hb (by simp [q'])) (fun q' => hb (by simp [q'])) (fun q' => hb (by simp [q'])) (fun q' => hb (by simp [q'])) q)) hf (Nat.le_refl _) new
    refine ⟨.ref s.heap.objs.size, _, I1, rfl, ⟨_, x, y, rfl, I.hok.fresh (Nat.le_refl _), rfl, fun l hl => by rw [I.tuple_inj hl hqx]; exact hx, fun l hl => by rw [I.list_inj hl hqy]; exact hy⟩, ⟨z'', ?_, ⟨v1, v2, ?_⟩, ?_, ?_⟩, fun c hcm => ?_⟩
    · exact (sb.2 _ D.TIz).trans (hk _ _ D.TIz D.TITO D.TIi1 D.TIi2 hTI)
    · exact (sb.2 _ D.TOz).trans TO'
    · exact st1.1.at fun o q => (sb.2 _ D.zi1.symm).trans q
    · exact st2.1.at fun o q => (sb.2 _ D.zi2.symm).trans q
    · have hlt : c < s.heap.objs.size := by
        have e' : c = z ∨ c = TI ∨ c = TO ∨ c = i1 ∨ c = i2 := by simpa using hcm
        rcases e' with q | q | q | q | q
        · rw [q]; exact hzl
        · rw [q]; exact Heap.lt_size hTI
        · rw [q]; exact Heap.lt_size hTO
        · rw [q]; obtain ⟨_, e1, _⟩ := h1; exact Heap.lt_size e1
        · rw [q]; obtain ⟨_, e2, _⟩ := h2; exact Heap.lt_size e2
      rw [upd_ne (Nat.ne_of_lt hlt)]
      exact (hf c hcm).1
  done := by
    intro X hP hw hK hc i pins s σ H E I hf st hg
    subst hP hw hK
    obtain ⟨hz, hTI, ⟨x0, y0, hTO⟩, h1, h2⟩ := st
    obtain ⟨xs, ys, hqx, hqy, hi1, hi2, hend⟩ := hg
    obtain ⟨its, rv, p, _⟩ := I.tuple hqx
    obtain ⟨its2, rv2, p2, _⟩ := I.list hqy
    have l1 := rv.length
    have l2 := rv2.length
    have hh : X.A.in1.handled = none := I.ok.hd hc
    have c1 : its.toArray.size = its.length := by simp
    have c2 : its2.toArray.size = its2.length := by simp
    exact wpAny_pyNext_zipD2_end D (Draws.tuple hh i1 a ha its.toArray) (Draws.list hh i2 b hb its2.toArray) hz hTI hTO ⟨h1, p⟩ ⟨h2, p2.isList⟩ (by omega) (by omega) (by omega) fun h' tk hk => ⟨rfl, I.turnedL (t' := tk) (ch := [z, TI, TO, i1, i2]) (fun c o hb q =>
      hk c o (fun q' => hb (by simp [q'])) (fun q' => hb (by simp [q'])) (fun q' => hb (by simp [q'])) (fun q' => hb (by simp [q'])) q) hf⟩
  self := fun A i s Q E st h => wpAny_pyIter_zip st.1 h
/-- zip(tuple, list) -/
def iZipM (K : PySem.W.Frag) (ta : TA) : TI := fun σ H R => ta σ H fun vs H1 => ∃ a b xs ys, vs = [.ref a, .ref b] ∧ SqT K H1 a xs ∧ SqL K H1 b ys ∧ R (ItzM K a b) H1
theorem pi_zipM {X : Cx} {e e2 : Expr} {ta : TA} {p pos tpos : Pos} {elts : List Expr} {kk : Nat} (hg : Gl X "zip") (hm : X.mg "zip" = none) (ha : PA X [e, e2] ta)
    (hs : starEach [e, e2] X.env = (false, eval e X.env) :: starEach [e2] X.env := by rfl) (hpl : (backTo pos (starEach [e2] X.env)).any (·.1) = false := by rfl) :
    PI X (.Tuple elts kk tpos) (.Call (.Name "zip" p) [e, e2] [] pos) (iZipM X.K ta) := by
  refine ⟨fun pins s σ H R I h => ?_⟩
  refine Call_ (ld_blt I hg hm PyProof.Rows.boot_zip (PyProof.Rows.callWith_type1 (thn (ha.run pos pins s σ H _ I h) fun us s1 ⟨vs, H1, I1, r1, q1⟩ => ?_) hs hpl))
  obtain ⟨a, b, xs, ys, ex, hqx, hqy, q⟩ := q1
  subst ex
  obtain ⟨u1, u2, rfl, r, r'⟩ := vals2 r1
  cases r
  cases r'
  obtain ⟨its, rv, p1, _⟩ := I1.tuple hqx
  obtain ⟨its2, rv2, p2, _⟩ := I1.list hqy
  obtain ⟨o1, ho1, _⟩ := id p1
  have la : a < s1.heap.objs.size := Heap.lt_size ho1
  have lb : b < s1.heap.objs.size := p2.lt
  refine zip_begins2 (begins_tuple a its.toArray) (begins_list b its2.toArray) p1 p2.isList fun h' hz hTI hTO h1 h2 hsz hk => wpAny_pyIter_zip hz ?_
  have I2 : Inv X pins σ H1 { s1 with heap := h' } := I1.kept (t' := s1.toks) hk
  have D := zip_sep2 (N := s1.heap.objs.size) (fp1 := [a]) (fp2 := [b]) (fun c hc => by rw [List.mem_singleton.mp hc]; exact la) (fun c hc => by rw [List.mem_singleton.mp hc]; exact lb)
  refine ⟨s1.heap.objs.size + 4, [s1.heap.objs.size + 4, s1.heap.objs.size + 2, s1.heap.objs.size + 3, s1.heap.objs.size, s1.heap.objs.size + 1], _, _, H1, rfl, I2, turn_zipM D (Nat.ne_of_lt la) (Nat.ne_of_lt (Nat.lt_succ_of_lt lb)), ⟨hz, hTI, ⟨_, _, hTO⟩, ⟨_, h1, rfl, rfl⟩, ⟨_, h2, rfl, rfl⟩⟩, fun c hcm => ?_, q⟩
  have hle : s1.heap.objs.size ≤ c := by
    have e' : c = s1.heap.objs.size + 4 ∨ c = s1.heap.objs.size + 2 ∨ c = s1.heap.objs.size + 3 ∨ c = s1.heap.objs.size ∨ c = s1.heap.objs.size + 1 := by simpa using hcm
    rcases e' with z | z | z | z | z
    · rw [z]; exact Nat.le_add_right _ _
    · rw [z]; exact Nat.le_add_right _ _
    · rw [z]; exact Nat.le_add_right _ _
    · rw [z]; exact Nat.le_refl _
    · rw [z]; exact Nat.le_add_right _ _
  exact I1.fpOk hle (I1.hok.fresh hle)
section
variable {K : PySem.W.Frag} {H : Hp} {σ : L2.St} {D : Ends} {ts : TS} {a b : Addr} {xs ys : List V}
theorem x_zipM {Rr : It → Hp → Prop} {as : TA} (q : as σ H fun vs H1 => ∃ a b xs ys, vs = [.ref a, .ref b] ∧ SqT K H1 a xs ∧ SqL K H1 b ys ∧ Rr (ItzM K a b) H1) : iZipM K as σ H Rr := q
theorem z_zipM {Rr : It → Hp → Prop} (h : SqT K H a xs) (h2 : SqL K H b ys) (q : Rr (ItzM K a b) H) : ∃ a' b' xs ys, [V.ref a, V.ref b] = [.ref a', .ref b'] ∧ SqT K H a' xs ∧ SqL K H b' ys ∧ Rr (ItzM K a' b') H := ⟨a, b, xs, ys, rfl, h, h2, q⟩
theorem z_for_zipM {g : TG} (xs ys : List V) (e : xs.length = ys.length) (Pv : Nat → L2.St → Hp → Prop) (h0 : Pv 0 σ H) (hl : ∀ i σ H, Pv i σ H → SqT K H a xs ∧ SqL K H b ys)
    (hs : ∀ (k : Nat) x y T σ H, xs[k]? = some x → ys[k]? = some y → Pv k σ H → H T = none → g (.ref T) σ (upd H T (.tup [x, y])) fun σ2 H2 => ts { D with nx := Pv (k + 1), ct := Pv (k + 1), bk := D.nx } σ2 H2)
    (hd : ∀ σ H, Pv xs.length σ H → D.nx σ H) : mFor g ts D σ (ItzM K a b) H := by
  refine ⟨fun i m σ H => m = xs.length - i ∧ i ≤ xs.length ∧ Pv i σ H, ⟨xs.length, by simp, Nat.zero_le _, h0⟩, ?_⟩
  rintro i m σ H ⟨rfl, hi, p⟩
  have hl' := hl i σ H p
  rcases Nat.lt_or_eq_of_le hi with hlt | rfl
  · refine .inr ⟨⟨xs, ys, xs[i], ys[i], hl'.1, hl'.2, by simp [hlt], by simp⟩, Pv (i + 1), fun σ' H' p' => ⟨xs.length - (i + 1), by omega, rfl, hlt, p'⟩, ?_⟩
    rintro v H' ⟨T, x, y, rfl, hn, rfl, h1, h2⟩
    exact hs i x y T σ H (h1 xs hl'.1) (h2 ys hl'.2) p hn
  · exact .inl ⟨⟨xs, ys, hl'.1, hl'.2, Nat.le_refl _, by omega, .inl rfl⟩, hd σ H p⟩
end
end FT

/-! FTY: zip of two tuples; one of two walks. -/
namespace FT
open PySem PySem.Spec PyProof.Rows L2
/-- the tuples at a and b -/
def ItzT (K : PySem.W.Frag) (a b : Addr) : It :=
  ⟨fun i H => ∃ (xs ys : List V) (x y : V), SqT K H a xs ∧ SqT K H b ys ∧ xs[i]? = some x ∧ ys[i]? = some y,
    fun i H v H' => ∃ T x y, v = .ref T ∧ H T = none ∧ H' = upd H T (.tup [x, y]) ∧ (∀ xs, SqT K H a xs → xs[i]? = some x) ∧ ∀ ys, SqT K H b ys → ys[i]? = some y,
    fun i H => ∃ xs ys : List V, SqT K H a xs ∧ SqT K H b ys ∧ i ≤ xs.length ∧ i ≤ ys.length ∧ (i = xs.length ∨ i = ys.length)⟩
theorem turn_zipT {P : Program} {w : World} {K : PySem.W.Frag} {elts : List Expr} {kk : Nat} {tpos : Pos} {a b z TI TO i1 i2 : Addr} (D : ZipSep2 z TI TO i1 i2 [i1, a] [i2, b]) (ha : a ≠ i1) (hb : b ≠ i2) :
    Turn P w K (.Tuple elts kk tpos) (ItzT K a b) [z, TI, TO, i1, i2] z (fun i h => IsZip h z TI TO .none ∧ IsTupOf2 h TI (.ref i1) (.ref i2) ∧ (∃ x y, IsTupOf2 h TO x y) ∧ h.IsTupleIter i1 a i ∧ h.IsTupleIter i2 b i) where
  mem := by simp
  obj := fun i h st c hc => by
    obtain ⟨hz, hTI, ⟨x, y, hTO⟩, ⟨o1, e1, _, d1⟩, ⟨o2, e2, _, d2⟩⟩ := st
    have e' : c = z ∨ c = TI ∨ c = TO ∨ c = i1 ∨ c = i2 := by simpa using hc
    rcases e' with q | q | q | q | q
    · rw [q]; exact ⟨_, hz, fun v q => nomatch q⟩
    · rw [q]; exact ⟨_, hTI, fun v q => nomatch q⟩
    · rw [q]; exact ⟨_, hTO, fun v q => nomatch q⟩
    · rw [q]; exact ⟨o1, e1, fun v q => by rw [d1] at q; cases q⟩
    · rw [q]; exact ⟨o2, e2, fun v q => by rw [d2] at q; cases q⟩
  keep := fun i h h' st k => by
    obtain ⟨hz, hTI, ⟨x, y, hTO⟩, h1, h2⟩ := st
    exact ⟨k z (by simp) _ hz, k TI (by simp) _ hTI, ⟨x, y, k TO (by simp) _ hTO⟩, h1.at fun o q => k i1 (by simp) o q, h2.at fun o q => k i2 (by simp) o q⟩
  item := by
    intro X hP hw hK hc i pins s σ H E I hf st hg
    subst hP hw hK
    obtain ⟨hz, hTI, ⟨x0, y0, hTO⟩, h1, h2⟩ := st
    obtain ⟨xs, ys, x, y, hqx, hqy, hx, hy⟩ := hg
    obtain ⟨its, rv, p, _⟩ := I.tuple hqx
    obtain ⟨its2, rv2, p2, _⟩ := I.tuple hqy
    obtain ⟨u, hu, ru⟩ := rv.get hx
    obtain ⟨u2, hu2, ru2⟩ := rv2.get hy
    have hzl : z < s.heap.objs.size := Heap.lt_size hz
    have hh : X.A.in1.handled = none := I.ok.hd hc
    have l1 : i < its.toArray.size := by
      have := (List.getElem?_eq_some_iff.mp hu).1
      simpa using this
    have l2 : i < its2.toArray.size := by
      have := (List.getElem?_eq_some_iff.mp hu2).1
      simpa using this
    refine wpAny_pyNext_zipD2_item D (Draws.tuple hh i1 a ha its.toArray) (Draws.tuple hh i2 b hb its2.toArray) hz hTI hTO ⟨h1, p⟩ ⟨h2, p2⟩ l1 l2 fun v1 v2 h' tk y1 y2 z' TO' st1 st2 hT hsz hk => ?_
    have e1 : v1 = u := by
      have : its.toArray[i]? = some u := by simpa using hu
      exact Option.some.inj (y1.symm.trans this)
    have e2 : v2 = u2 := by
      have : its2.toArray[i]? = some u2 := by simpa using hu2
      exact Option.some.inj (y2.symm.trans this)
    subst e1 e2
    refine ⟨_, rfl, wpAny_letOwnedTupleGo_zip (s := { s with heap := h', toks := tk }) z' fun h'' z'' sb => ?_⟩
    have hT2 : h''.get? s.heap.objs.size = some { cls := .type "tuple", data := .seq #[v1, v2] } := (sb.2 _ (Nat.ne_of_gt hzl)).trans hT
    have new : ObjOk X.prog X.w (upd H s.heap.objs.size (.tup [x, y])) h'' s.heap.objs.size (.tup [x, y]) :=
      ⟨by show 2 ≤ sizeLine; decide, [v1, v2], .cons ru (.cons ru2 .nil), ⟨_, hT2, rfl, _, rfl⟩⟩
    have I1 : Inv X pins σ (upd H s.heap.objs.size (.tup [x, y])) { s with heap := h'', toks := tk } :=
      I.turnedNew (t' := tk) (ch := [z, TI, TO, i1, i2]) (fun c o hb q => (sb.2 c (fun q' => hb (by simp [q']))).trans (hk c o (fun q' => hb (by simp [q'])) (fun q' => hb (by simp [q'])) (fun q' => hb (by simp [q'])) (fun q' => hb (by simp [q'])) q)) hf (Nat.le_refl _) new
    refine ⟨.ref s.heap.objs.size, _, I1, rfl, ⟨_, x, y, rfl, I.hok.fresh (Nat.le_refl _), rfl, fun l hl => by rw [I.tuple_inj hl hqx]; exact hx, fun l hl => by rw [I.tuple_inj hl hqy]; exact hy⟩, ⟨z'', ?_, ⟨v1, v2, ?_⟩, ?_, ?_⟩, fun c hcm => ?_⟩
    · exact (sb.2 _ D.TIz).trans (hk _ _ D.TIz D.TITO D.TIi1 D.TIi2 hTI)
    · exact (sb.2 _ D.TOz).trans TO'
    · exact st1.1.at fun o q => (sb.2 _ D.zi1.symm).trans q
    · exact st2.1.at fun o q => (sb.2 _ D.zi2.symm).trans q
    · have hlt : c < s.heap.objs.size := by
        have e' : c = z ∨ c = TI ∨ c = TO ∨ c = i1 ∨ c = i2 := by simpa using hcm
        rcases e' with q | q | q | q | q
        · rw [q]; exact hzl
        · rw [q]; exact Heap.lt_size hTI
        · rw [q]; exact Heap.lt_size hTO
        · rw [q]; obtain ⟨_, e1, _⟩ := h1; exact Heap.lt_size e1
        · rw [q]; obtain ⟨_, e2, _⟩ := h2; exact Heap.lt_size e2
      rw [upd_ne (Nat.ne_of_lt hlt)]
      exact (hf c hcm).1
  done := by
    intro X hP hw hK hc i pins s σ H E I hf st hg
    subst hP hw hK
    obtain ⟨hz, hTI, ⟨x0, y0, hTO⟩, h1, h2⟩ := st
    obtain ⟨xs, ys, hqx, hqy, hi1, hi2, hend⟩ := hg
    obtain ⟨its, rv, p, _⟩ := I.tuple hqx
    obtain ⟨its2, rv2, p2, _⟩ := I.tuple hqy
    have l1 := rv.length
    have l2 := rv2.length
    have hh : X.A.in1.handled = none := I.ok.hd hc
    have c1 : its.toArray.size = its.length := by simp
    have c2 : its2.toArray.size = its2.length := by simp
    exact wpAny_pyNext_zipD2_end D (Draws.tuple hh i1 a ha its.toArray) (Draws.tuple hh i2 b hb its2.toArray) hz hTI hTO ⟨h1, p⟩ ⟨h2, p2⟩ (by omega) (by omega) (by omega) fun h' tk hk => ⟨rfl, I.turnedL (t' := tk) (ch := [z, TI, TO, i1, i2]) (fun c o hb q =>
      hk c o (fun q' => hb (by simp [q'])) (fun q' => hb (by simp [q'])) (fun q' => hb (by simp [q'])) (fun q' => hb (by simp [q'])) q) hf⟩
  self := fun A i s Q E st h => wpAny_pyIter_zip st.1 h
/-- zip(tuple, tuple) -/
def iZipT (K : PySem.W.Frag) (ta : TA) : TI := fun σ H R => ta σ H fun vs H1 => ∃ a b xs ys, vs = [.ref a, .ref b] ∧ SqT K H1 a xs ∧ SqT K H1 b ys ∧ R (ItzT K a b) H1
theorem pi_zipT {X : Cx} {e e2 : Expr} {ta : TA} {p pos tpos : Pos} {elts : List Expr} {kk : Nat} (hg : Gl X "zip") (hm : X.mg "zip" = none) (ha : PA X [e, e2] ta)
    (hs : starEach [e, e2] X.env = (false, eval e X.env) :: starEach [e2] X.env := by rfl) (hpl : (backTo pos (starEach [e2] X.env)).any (·.1) = false := by rfl) :
    PI X (.Tuple elts kk tpos) (.Call (.Name "zip" p) [e, e2] [] pos) (iZipT X.K ta) := by
  refine ⟨fun pins s σ H R I h => ?_⟩
  refine Call_ (ld_blt I hg hm PyProof.Rows.boot_zip (PyProof.Rows.callWith_type1 (thn (ha.run pos pins s σ H _ I h) fun us s1 ⟨vs, H1, I1, r1, q1⟩ => ?_) hs hpl))
  obtain ⟨a, b, xs, ys, ex, hqx, hqy, q⟩ := q1
  subst ex
  obtain ⟨u1, u2, rfl, r, r'⟩ := vals2 r1
  cases r
  cases r'
  obtain ⟨its, rv, p1, _⟩ := I1.tuple hqx
  obtain ⟨its2, rv2, p2, _⟩ := I1.tuple hqy
  obtain ⟨o1, ho1, _⟩ := id p1
  have la : a < s1.heap.objs.size := Heap.lt_size ho1
  obtain ⟨o2, ho2, _⟩ := id p2
  have lb : b < s1.heap.objs.size := Heap.lt_size ho2
  refine zip_begins2 (begins_tuple a its.toArray) (begins_tuple b its2.toArray) p1 p2 fun h' hz hTI hTO h1 h2 hsz hk => wpAny_pyIter_zip hz ?_
  have I2 : Inv X pins σ H1 { s1 with heap := h' } := I1.kept (t' := s1.toks) hk
  have D := zip_sep2 (N := s1.heap.objs.size) (fp1 := [a]) (fp2 := [b]) (fun c hc => by rw [List.mem_singleton.mp hc]; exact la) (fun c hc => by rw [List.mem_singleton.mp hc]; exact lb)
  refine ⟨s1.heap.objs.size + 4, [s1.heap.objs.size + 4, s1.heap.objs.size + 2, s1.heap.objs.size + 3, s1.heap.objs.size, s1.heap.objs.size + 1], _, _, H1, rfl, I2, turn_zipT D (Nat.ne_of_lt la) (Nat.ne_of_lt (Nat.lt_succ_of_lt lb)), ⟨hz, hTI, ⟨_, _, hTO⟩, ⟨_, h1, rfl, rfl⟩, ⟨_, h2, rfl, rfl⟩⟩, fun c hcm => ?_, q⟩
  have hle : s1.heap.objs.size ≤ c := by
    have e' : c = s1.heap.objs.size + 4 ∨ c = s1.heap.objs.size + 2 ∨ c = s1.heap.objs.size + 3 ∨ c = s1.heap.objs.size ∨ c = s1.heap.objs.size + 1 := by simpa using hcm
    rcases e' with z | z | z | z | z
    · rw [z]; exact Nat.le_add_right _ _
    · rw [z]; exact Nat.le_add_right _ _
    · rw [z]; exact Nat.le_add_right _ _
    · rw [z]; exact Nat.le_refl _
    · rw [z]; exact Nat.le_add_right _ _
  exact I1.fpOk hle (I1.hok.fresh hle)
/-- one of two walks -/
def iOr2 (i1 i2 : TI) : TI := fun σ H R => i1 σ H R ∨ i2 σ H R
theorem pi_or2 {X : Cx} {tg e : Expr} {i1 i2 : TI} (h1 : PI X tg e i1) (h2 : PI X tg e i2) : PI X tg e (iOr2 i1 i2) := ⟨fun pins s σ H R I h => h.elim (h1.run pins s σ H R I) (h2.run pins s σ H R I)⟩
section
variable {K : PySem.W.Frag} {σ : L2.St} {H H' B : Hp} {R : List Seg} {Q : VK} {te : TE} {tt : TT} {a b : Addr} {Rr : It → Hp → Prop} {as : TA} {xs ys : List V}
theorem x_iorL {i1 i2 : TI} (q : i1 σ H Rr) : iOr2 i1 i2 σ H Rr := .inl q
theorem x_iorR {i1 i2 : TI} (q : i2 σ H Rr) : iOr2 i1 i2 σ H Rr := .inr q
theorem x_zipT (q : as σ H fun vs H1 => ∃ a b xs ys, vs = [.ref a, .ref b] ∧ SqT K H1 a xs ∧ SqT K H1 b ys ∧ Rr (ItzT K a b) H1) : iZipT K as σ H Rr := q
theorem z_zipT (h : SqT K H a xs) (h2 : SqT K H b ys) (q : Rr (ItzT K a b) H) : ∃ a' b' xs ys, [V.ref a, V.ref b] = [.ref a', .ref b'] ∧ SqT K H a' xs ∧ SqT K H b' ys ∧ Rr (ItzT K a' b') H := ⟨a, b, xs, ys, rfl, h, h2, q⟩
theorem z_lcZT {g : TG} {vs : List Nat} (S : Z H B R) (xs ys : List V) (e : xs.length = ys.length) (L : Nat → List V) (h0 : L 0 = []) (hl : ∀ H', Z H' B R → SqT K H' a xs) (hl2 : ∀ H', Z H' B R → SqT K H' b ys)
    (hs : ∀ (k : Nat) x y D T H1, xs[k]? = some x → ys[k]? = some y → Z H1 B ([(T, .tup [x, y])] :: [(D, .lst (L k))] :: R) → g (.ref T) (wipe σ vs) H1 fun σ2 H3 => wipe σ2 vs = wipe σ vs ∧ tt σ2 H3 fun b H4 => if b = true then te σ2 H4 (mApp D (Gro B R D (L (k + 1)))) else Gro B R D (L (k + 1)) H4)
    (hq : ∀ D H', Z H' B ([(D, .lst (L xs.length))] :: R) → Q (.ref D) H') : mLc g tt te vs σ Q (ItzT K a b) H := by
  refine z_lc S xs.length L h0 (fun i D H' h S' => ⟨xs, ys, xs[i], ys[i]'(e ▸ h), hl _ S'.tail, hl2 _ S'.tail, by simp [h], by simp [e ▸ h]⟩) (fun D H' S' => ⟨xs, ys, hl _ S'.tail, hl2 _ S'.tail, Nat.le_refl _, by omega, .inl rfl⟩) (fun i D H1 x H2 hi S1 y => ?_) hq
  obtain ⟨T, x, y, rfl, hT, rfl, hx, hy⟩ := y
  exact hs i x y D T _ (hx xs (hl _ S1.tail)) (hy ys (hl2 _ S1.tail)) (S1.new hT)
end
end FT

/-! FTA: what a law's own text asks of its classes, by Bools of the Frag. -/
namespace FT
open PySem PySem.Spec PyProof.Rows L2
/-- a property's getter -/
def pg (K : PySem.W.Frag) (C : Addr) (m : Str) : Addr := match PySem.W.recIn K (He.ma K C m) "property" with
  | some (.ref g :: _) => g
  | _ => 0
def prR (K : PySem.W.Frag) (p : Addr) : Bool := match PySem.W.recIn K p "property" with
  | some (.ref _ :: _) => true
  | _ => false
def prB (K : PySem.W.Frag) (x m : Str) : Bool := He.eqO (PySem.W.findIn K (.ref (He.ga K x)) m) (some (some (.ref (He.ma K (He.ga K x) m)))) && (He.eqO (PySem.W.specialIn K (.ref (He.ma K (He.ga K x) m)) "__get__") (some (some (.builtin "property.__get__"))) &&
  (decide (PySem.W.takesIn K (.ref (He.ma K (He.ga K x) m)) = some true) && prR K (He.ma K (He.ga K x) m)))
theorem prB_ok {K : PySem.W.Frag} {x m : Str} (h : prB K x m = true) : PropOf K (He.ga K x) m (He.ma K (He.ga K x) m) (pg K (He.ga K x) m) := by
  obtain ⟨h1, h⟩ := ba2 h
  obtain ⟨h2, h⟩ := ba2 h
  obtain ⟨h3, h4⟩ := ba2 h
  refine ⟨He.eqO_ok h1, He.eqO_ok h2, of_decide_eq_true h3, ?_⟩
  unfold prR at h4
  unfold pg
  split at h4
  · rename_i g rest e
    rw [e]
    exact ⟨rest, rfl⟩
  · cases h4
/-- an int of the class -/
def cvB (K : PySem.W.Frag) (x f : Str) (i : Int) : Bool := PySem.W.readsIn K (He.ga K x) (.type "type") && (He.eqO (PySem.W.specialIn K (.ref (He.ga K x)) "__getattribute__") (some (some (.builtin "type.__getattribute__"))) && (match PySem.W.findCls K (.ref (He.ga K x)) (.type "type") f with
  | some (.val (.int j _)) => decide (j = i)
  | _ => false))
theorem cvB_ok {K : PySem.W.Frag} {x f : Str} {i : Int} (h : cvB K x f i = true) : ∃ mc u, ClX.CRead K (He.ga K x) mc ∧ ClX.CVal K (He.ga K x) mc f (.int i) u := by
  obtain ⟨h1, h⟩ := ba2 h
  obtain ⟨h2, h3⟩ := ba2 h
  split at h3
  · rename_i j t e
    have e2 := of_decide_eq_true h3
    subst e2
    exact ⟨.type "type", .int j t, ⟨h1, He.eqO_ok h2⟩, ⟨e, ⟨t, rfl⟩⟩⟩
  · cases h3
/-- a method that both classes have, one def -/
def eqM (K : PySem.W.Frag) (x y m : Str) : Bool := decide (He.ma K (He.ga K x) m = He.ma K (He.ga K y) m)
def eqP (K : PySem.W.Frag) (x y m : Str) : Bool := decide (pg K (He.ga K x) m = pg K (He.ga K y) m)
/-- no defaults -/
def dfB (K : PySem.W.Frag) (a : Addr) : Bool := match K.lookup a with
  | some ⟨_, _, .func fd, _⟩ => (match fd.defaults with
    | .none => true
    | _ => false)
  | _ => false
theorem dfB_ok {K : PySem.W.Frag} {a : Addr} {oc : Value} {od : Option Addr} {osl : Array (Option Value)} {fd : FuncData} (h : dfB K a = true) (e : K.lookup a = some ⟨oc, od, .func fd, osl⟩) : fd.defaults = .none := by
  unfold dfB at h
  rw [e] at h
  dsimp only at h
  split at h
  · assumption
  · cases h
/-- own len -/
def lnB (K : PySem.W.Frag) (x : Str) : Bool := He.eqO (PySem.W.findIn K (.ref (He.ga K x)) "__len__") (some (some (.ref (He.ma K (He.ga K x) "__len__")))) && PySem.W.isFn K (.ref (He.ma K (He.ga K x) "__len__"))
theorem lnB_ok {K : PySem.W.Frag} {x : Str} (h : lnB K x = true) : PySem.W.findIn K (.ref (He.ga K x)) "__len__" = some (some (.ref (He.ma K (He.ga K x) "__len__"))) ∧ PySem.W.isFn K (.ref (He.ma K (He.ga K x) "__len__")) = true := ⟨He.eqO_ok (ba2 h).1, (ba2 h).2⟩
theorem ex_at {l : List (PySem.W.Frag → Bool)} {K : PySem.W.Frag} (h : (l.all fun p => p K) = true) (i : Nat) {p : PySem.W.Frag → Bool} (hp : l[i]? = some p) : p K = true := List.all_eq_true.mp h p (List.mem_of_getElem? hp)
theorem eqM_ok {K : PySem.W.Frag} {x y m : Str} (h : eqM K x y m = true) : He.ma K (He.ga K x) m = He.ma K (He.ga K y) m := of_decide_eq_true h
theorem eqP_ok {K : PySem.W.Frag} {x y m : Str} (h : eqP K x y m = true) : pg K (He.ga K x) m = pg K (He.ga K y) m := of_decide_eq_true h
/-- a def that is never called -/
theorem fn_false {P : Program} {w : World} {K : PySem.W.Frag} {mg : Str → Option Value} {base : Heap} {CX : CXT} {k : Nat} {f : Addr} {fd : FuncData} {ps : List Str} : FnOk P w K mg base CX k f fd ps (fun _ _ _ _ => False) :=
  ⟨fun _ _ _ _ h => h.elim, fun _ _ _ _ _ _ _ _ _ _ _ _ _ h => h.elim⟩
theorem vals_nil {ds : List Value} (h : Vals [] ds) : ds = [] := by cases h; rfl
section
variable {X : Cx}
theorem ip_ext : PIp X .Add rExt2 := iop_ext
theorem pj_nil : PJ X [] [] := .nil
theorem call_qInt : CallR X (.type "int") qInt := by
  intro pins s σ H xs us Q I rs h
  rcases h with h | h
  · exact call_int1 pins s σ H xs us Q I rs h
  · exact call_int_str pins s σ H xs us Q I rs h
end
end FT

/-! FTE: a list or a tuple, as b tells; enumerate over either. -/
namespace FT
open PySem PySem.Spec PyProof.Rows L2
def SqB (b : Bool) (K : PySem.W.Frag) (H : Hp) (a : Addr) (xs : List V) : Prop := if b = true then SqT K H a xs else SqL K H a xs
theorem SqB.l {K : PySem.W.Frag} {H : Hp} {a : Addr} {xs : List V} (h : SqL K H a xs) : SqB false K H a xs := h
theorem SqB.t {K : PySem.W.Frag} {H : Hp} {a : Addr} {xs : List V} (h : SqT K H a xs) : SqB true K H a xs := h
theorem Ex.b {b : Bool} {K : PySem.W.Frag} {H H' : Hp} {a : Addr} {xs : List V} (e : Ex H H') (h : SqB b K H a xs) : SqB b K H' a xs := by
  cases b with
  | true => exact e.t h
  | false => exact e.l h
theorem Z.b {b : Bool} {K : PySem.W.Frag} {H B : Hp} {R : List Seg} {a : Addr} {xs : List V} (S : Z H B R) (h : SqB b K B a xs) : SqB b K H a xs := S.base.b h
/-! ### enumerate over a tuple -/
theorem meets_enum1 {v : Value} {o : Obj} {Hq : Heap → Prop} (Bg : Begins v o Hq) :
    Meets (Builtin.«enumerate.__new__» ⟨[.type "enumerate", v], []⟩) (fun _ R s => Hq s.heap ∧
      R (.ok (.ret (.ref (s.heap.push o).objs.size))) { s with heap := (s.heap.push o).push { cls := .type "enumerate", data := .fields #[.none, .bool false, .ref s.heap.objs.size, rawInt 0, .none, .none] } }) :=
  .of_wp fun prog w A R s hh => by
    obtain ⟨hp, g, d, tk, os⟩ := s
    obtain ⟨hq, hr⟩ := hh
    have hsub := sub_enumerate
    have it : ∀ {A' : Around} {E : Value → Shared → Prop} {Q : Value → Shared → Prop}, Q (.ref hp.objs.size) ⟨hp.push o, g, d, tk, os⟩ → wpAny (model prog w) A' (pyIter v) Q E ⟨hp, g, d, tk, os⟩ :=
      fun q => Bg.iter prog w _ _ ⟨hp, g, d, tk, os⟩ _ hq q
    wp_walk using it
    refine wpAny_stack_any fun st => wpAny_pure ?_
    split
    · rename_i c _ _ _ _ _
      by_cases hc : (c == Value.type "enumerate") = true
      · rw [hc]
        wp_walk using it
        exact ⟨_, rfl, hr⟩
      · rw [Bool.eq_false_iff.mpr hc]
        wp_walk using it
        exact ⟨_, rfl, hr⟩
    · wp_walk using it
      exact ⟨_, rfl, hr⟩
theorem enum1_begins {prog : Program} {w : World} {A : Around} {E : Value → Shared → Prop} {s : Shared} {v : Value} {o : Obj} {Hq : Heap → Prop} {Q : Value → Shared → Prop} (Bg : Begins v o Hq) (h1 : Hq s.heap)
    (h : ∀ h', IsEnum h' (s.heap.objs.size + 1) s.heap.objs.size 0 .none → h'.get? s.heap.objs.size = some o → (∀ b o, s.heap.get? b = some o → h'.get? b = some o) → Q (.ref (s.heap.objs.size + 1)) { s with heap := h' }) :
    wpAny (model prog w) A (call (.type "enumerate") [v]) Q E s := by
  refine callType_new PySem.F.called_enumerate (by decide) (PySem.F.typeCall_enumerate_1 _) (PySem.F.newCall_enumerate_1 _) (fun obj => PySem.F.args_object_init_2 obj _) PySem.F.entry_enumerate_new (meets_enum1 Bg) ⟨h1, ?_⟩
  have sz1 : (s.heap.push o).objs.size = s.heap.objs.size + 1 := Heap.size_push ..
  show _ ∧ _
  rw [sz1]
  have en : IsEnum ((s.heap.push o).push { cls := .type "enumerate", data := .fields #[.none, .bool false, .ref s.heap.objs.size, rawInt 0, .none, .none] }) (s.heap.objs.size + 1) s.heap.objs.size 0 .none := by
    have z := Heap.get?_push_size (s.heap.push o) (o := { cls := .type "enumerate", data := .fields #[.none, .bool false, .ref s.heap.objs.size, rawInt 0, .none, .none] }) rfl
    rw [sz1] at z
    exact z
  exact ⟨⟨_, en, rfl⟩, h _ en (Heap.get?_push_of_some _ (Heap.get?_push_size _ Bg.free)) fun b o x => Heap.get?_push_of_some _ (Heap.get?_push_of_some _ x)⟩
/-- the tuple at a, each item in a new pair -/
def Itet (K : PySem.W.Frag) (a : Addr) : It :=
  ⟨fun i H => ∃ (xs : List V) (x : V), SqT K H a xs ∧ xs[i]? = some x, fun i H v H' => ∃ T x, v = .ref T ∧ H T = none ∧ H' = upd H T (.tup [.int (i : Nat), x]) ∧ ∀ xs, SqT K H a xs → xs[i]? = some x, fun i H => ∃ xs : List V, SqT K H a xs ∧ xs.length = i⟩
theorem turn_enumT {P : Program} {w : World} {K : PySem.W.Frag} {elts : List Expr} {kk : Nat} {tpos : Pos} {a e it : Addr} (hai : a ≠ it) (hae : a ≠ e) :
    Turn P w K (.Tuple elts kk tpos) (Itet K a) [e, it] e (fun i h => (∃ old, IsEnum h e it ((i : Nat) : Int) old) ∧ h.IsTupleIter it a i ∧ e ≠ it) where
  mem := by simp
  obj := fun i h st b hb => by
    obtain ⟨⟨old, he⟩, ⟨o, ho, hc, hd⟩, _⟩ := st
    have e' : b = e ∨ b = it := by simpa using hb
    rcases e' with z | z
    · rw [z]; exact ⟨_, he, fun v q => nomatch q⟩
    · rw [z]; exact ⟨o, ho, fun v q => by rw [hd] at q; cases q⟩
  keep := fun i h h' st k => let ⟨⟨old, he⟩, hi, hne⟩ := st; ⟨⟨old, k e (by simp) _ he⟩, hi.at fun o q => k it (by simp) o q, hne⟩
  item := by
    intro X hP hw hK hc i pins s σ H E I hf st hg
    subst hP hw hK
    obtain ⟨⟨old, he⟩, hit, hne⟩ := st
    obtain ⟨xs, x, hq, hx⟩ := hg
    obtain ⟨its, rv, p, hz⟩ := I.tuple hq
    obtain ⟨u, hu, ru⟩ := rv.get hx
    have hel : e < s.heap.objs.size := Heap.lt_size he
    have hil : it < s.heap.objs.size := by obtain ⟨_, q, _⟩ := hit; exact Heap.lt_size q
    have hh : X.A.in1.handled = none := I.ok.hd hc
    have hlt : i < its.toArray.size := by
      have := (List.getElem?_eq_some_iff.mp hu).1
      simpa using this
    refine wpAny_pyNext_enum_itemD (Draws.tuple hh it a hai its.toArray) he ⟨hit, p⟩ hlt hne (by simp [hne, Ne.symm hae]) fun y h' tk hy ho hst' hT hsz hk => ?_
    have ey : y = u := by
      have : its.toArray[i]? = some u := by simpa using hu
      exact Option.some.inj (hy.symm.trans this)
    subst ey
    refine ⟨_, rfl, wpAny_letOwnedTupleGo_enum (s := { s with heap := h', toks := tk + 1 }) ho fun h'' he' sb => ?_⟩
    have hT2 : h''.get? s.heap.objs.size = some { cls := .type "tuple", data := .seq #[.int i tk, y] } := (sb.2 _ (Nat.ne_of_gt hel)).trans hT
    have new : ObjOk X.prog X.w (upd H s.heap.objs.size (.tup [.int (i : Nat), x])) h'' s.heap.objs.size (.tup [.int (i : Nat), x]) :=
      ⟨by show 2 ≤ sizeLine; decide, [.int i tk, y], .cons ⟨_, rfl⟩ (.cons ru .nil), ⟨_, hT2, rfl, _, rfl⟩⟩
    have I1 : Inv X pins σ (upd H s.heap.objs.size (.tup [.int (i : Nat), x])) { s with heap := h'', toks := tk + 1 } :=
      I.turnedNew (t' := tk + 1) (ch := [e, it]) (fun b ob hb q => (sb.2 b (fun z => hb (by simp [z]))).trans (hk b ob (fun z => hb (by simp [z])) (fun z => hb (by simp [z])) q)) hf (Nat.le_refl _) new
    refine ⟨.ref s.heap.objs.size, _, I1, rfl, ⟨_, x, rfl, I.hok.fresh (Nat.le_refl _), rfl, fun ys hy => by rw [I.tuple_inj hy hq]; exact hx⟩, ⟨⟨y, ?_⟩, hst'.1.at fun o q => (sb.2 it (Ne.symm hne)).trans q, hne⟩, fun b hb => ?_⟩
    · have e1 : ((i + 1 : Nat) : Int) = (i : Int) + 1 := by omega
      rw [e1]; exact he'
    · have hb' : b < s.heap.objs.size := by
        have e' : b = e ∨ b = it := by simpa using hb
        rcases e' with z | z
        · rw [z]; exact hel
        · rw [z]; exact hil
      rw [upd_ne (Nat.ne_of_lt hb')]
      exact (hf b hb).1
  done := by
    intro X hP hw hK hc i pins s σ H E I hf st hg
    subst hP hw hK
    obtain ⟨⟨old, he⟩, hit, hne⟩ := st
    obtain ⟨xs, hq, hx⟩ := hg
    obtain ⟨its, rv, p, hz⟩ := I.tuple hq
    obtain ⟨f0, f1, f2, f3, f4, f5⟩ := hf it (by simp)
    have hl := rv.length
    have hh : X.A.in1.handled = none := I.ok.hd hc
    have hsz : i = its.toArray.size := by simp; omega
    refine wpAny_pyNext_enum_endD (Draws.tuple hh it a hai its.toArray) he (by rw [← hsz]; exact ⟨hit, p⟩) fun h' eb => ⟨rfl, I.turned (t' := s.toks) (fun b o hb q => eb b o hb q) f0 f1 f3 f4 f5⟩
  self := fun A i s Q E st h => let ⟨⟨_, he⟩, _⟩ := st; wpAny_pyIter_enum he h
/-- enumerate over a list or a tuple -/
def iEnumB (K : PySem.W.Frag) (ta : TA) : TI := fun σ H R => ta σ H fun vs H1 => ∃ a, vs = [.ref a] ∧ ((∃ xs, SqL K H1 a xs ∧ R (Ite K a) H1) ∨ ∃ xs, SqT K H1 a xs ∧ R (Itet K a) H1)
theorem pi_enumB {X : Cx} {e : Expr} {ta : TA} {p pos tpos : Pos} {elts : List Expr} {kk : Nat} (hg : Gl X "enumerate") (hm : X.mg "enumerate" = none) (ha : PA X [e] ta) (hs : starEach [e] X.env = [(false, eval e X.env)] := by rfl) :
    PI X (.Tuple elts kk tpos) (.Call (.Name "enumerate" p) [e] [] pos) (iEnumB X.K ta) := by
  refine ⟨fun pins s σ H R I h => ?_⟩
  refine Call_ (ld_blt I hg hm boot_enumerate (PyProof.Rows.callWith_type1 (thn (ha.run pos pins s σ H _ I h) fun us s1 ⟨vs, H1, I1, r1, q1⟩ => ?_) hs rfl))
  obtain ⟨a, ex, hq⟩ := q1
  subst ex
  cases r1 with
  | cons r rr =>
    cases rr
    cases r
    have new : ∀ {J : It} {St : Nat → Heap → Prop} {h' : Heap}, Turn X.prog X.w X.K (.Tuple elts kk tpos) J [s1.heap.objs.size + 1, s1.heap.objs.size] (s1.heap.objs.size + 1) St → St 0 h' → IsEnum h' (s1.heap.objs.size + 1) s1.heap.objs.size 0 .none → (∀ b o, s1.heap.get? b = some o → h'.get? b = some o) → R J H1 →
        wpAny (model X.prog X.w) X.A (pyIter (.ref (s1.heap.objs.size + 1))) (PIE X pins σ (.Tuple elts kk tpos) R) X.xe { s1 with heap := h' } := by
      intro J St h' tn st he hk q
      refine wpAny_pyIter_enum he ?_
      have I2 : Inv X pins σ H1 { s1 with heap := h' } := I1.kept (t' := s1.toks) hk
      refine ⟨s1.heap.objs.size + 1, [s1.heap.objs.size + 1, s1.heap.objs.size], _, _, H1, rfl, I2, tn, st, fun b hb => ?_, q⟩
      have e' : b = s1.heap.objs.size + 1 ∨ b = s1.heap.objs.size := by simpa using hb
      have hle : s1.heap.objs.size ≤ b := by
        rcases e' with z | z
        · rw [z]; exact Nat.le_add_right _ _
        · rw [z]; exact Nat.le_refl _
      exact I1.fpOk hle (I1.hok.fresh hle)
    rcases hq with ⟨xs, hq, q⟩ | ⟨xs, hq, q⟩
    · obtain ⟨its, rv, p', hz⟩ := I1.list hq
      refine enum1_begins (begins_list a its.toArray) p'.isList fun h' he hit hk => ?_
      exact new (turn_enum a (s1.heap.objs.size + 1) s1.heap.objs.size) ⟨⟨.none, he⟩, ⟨_, hit, rfl, rfl⟩, Nat.succ_ne_self _⟩ he hk q
    · obtain ⟨its, rv, p', hz⟩ := I1.tuple hq
      have la : a < s1.heap.objs.size := by obtain ⟨o1, ho1, _⟩ := id p'; exact Heap.lt_size ho1
      refine enum1_begins (begins_tuple a its.toArray) p' fun h' he hit hk => ?_
      exact new (turn_enumT (Nat.ne_of_lt la) (Nat.ne_of_lt (Nat.lt_succ_of_lt la))) ⟨⟨.none, he⟩, ⟨_, hit, rfl, rfl⟩, Nat.succ_ne_self _⟩ he hk q
section
variable {K : PySem.W.Frag} {σ : L2.St} {H : Hp} {D : Ends} {ts : TS} {a : Addr} {xs : List V} {as : TA} {b : Bool} {Q : VK} {v : V} {i : Int}
theorem x_enumB {Rr : It → Hp → Prop} (q : as σ H fun vs H1 => ∃ a, vs = [.ref a] ∧ ((∃ xs, SqL K H1 a xs ∧ Rr (Ite K a) H1) ∨ ∃ xs, SqT K H1 a xs ∧ Rr (Itet K a) H1)) : iEnumB K as σ H Rr := q
/-- the walk over enumerate(a list or a tuple) -/
theorem z_for_enumB {g : TG} (b : Bool) (xs : List V) (Pv : Nat → L2.St → Hp → Prop) (h0 : Pv 0 σ H) (hl : ∀ i σ H, i ≤ xs.length → Pv i σ H → SqB b K H a xs)
    (hs : ∀ (k : Nat) x T σ H H', xs[k]? = some x → Pv k σ H → Ex H H' → H T = none → H' T = some (.tup [.int (k : Int), x]) → g (.ref T) σ H' fun σ2 H2 => ts { D with nx := Pv (k + 1), ct := Pv (k + 1), bk := D.nx } σ2 H2)
    (hd : ∀ σ H, Pv xs.length σ H → D.nx σ H) : ∃ a', [V.ref a] = [.ref a'] ∧ ((∃ xs, SqL K H a' xs ∧ mFor g ts D σ (Ite K a') H) ∨ ∃ xs, SqT K H a' xs ∧ mFor g ts D σ (Itet K a') H) := by
  refine ⟨a, rfl, ?_⟩
  have h1 := hl 0 σ H (Nat.zero_le _) h0
  cases b with
  | false =>
    refine .inl ⟨xs, h1, loop_it (n := xs.length) Pv h0 (fun i σ H h p => ⟨xs, xs[i], hl i σ H (Nat.le_of_lt h) p, by simp [h]⟩) (fun σ H p => ⟨xs, hl _ σ H (Nat.le_refl _) p, Nat.le_refl _⟩) (fun k σ H v H' hk pv y => ?_) hd⟩
    obtain ⟨T, x, rfl, hT, rfl, hx⟩ := y
    exact hs k x T σ H _ (hx xs (hl k σ H (Nat.le_of_lt hk) pv)) pv (Ex.new hT) hT upd_same
  | true =>
    refine .inr ⟨xs, h1, loop_it (n := xs.length) Pv h0 (fun i σ H h p => ⟨xs, xs[i], hl i σ H (Nat.le_of_lt h) p, by simp [h]⟩) (fun σ H p => ⟨xs, hl _ σ H (Nat.le_refl _) p, rfl⟩) (fun k σ H v H' hk pv y => ?_) hd⟩
    obtain ⟨T, x, rfl, hT, rfl, hx⟩ := y
    exact hs k x T σ H _ (hx xs (hl k σ H (Nat.le_of_lt hk) pv)) pv (Ex.new hT) hT upd_same
theorem x_ixB (h : SqB b K H a xs) (hv : atI xs i = some v) (q : Q v H) : qIx K (.ref a) (.int i) H Q := by
  cases b with
  | false => exact x_ixL h hv q
  | true => exact x_ixT h hv q
theorem x_lenB (h : SqB b K H a xs) (q : Q (.int xs.length) H) : qLen K [.ref a] H Q := by
  cases b with
  | false => exact x_lenL h q
  | true => exact x_lenT h q
/-- tuple(e) -/
theorem z_tupleB {B : Hp} {R : List Seg} (S : Z H B R) (h : SqB b K B a xs) (q : ∀ l B' H', Ex B B' → SqT K B' l xs → Z H' B' R → Q (.ref l) H') : qTuple K [.ref a] H Q := by
  cases b with
  | false =>
    refine z_tupleL S (S.l h) fun l H' S' => ?_
    obtain ⟨B', x, hb, S2⟩ := S'.frz 0 rfl
    exact q l B' H' x (sq_t hb) S2
  | true => exact ⟨a, xs, rfl, .inr ⟨S.t h, q a B H (Ex.refl B) h S⟩⟩
end
end FT

/-! FTSet: sorted(set(a tuple of ints)). -/
namespace FT
open PySem PySem.Spec PyProof.Rows L2
/-- set(a tuple of ints) -/
def rSetTup (K : PySem.W.Frag) (w : World) : List V → Hp → VK → Prop := fun xs H Q => ∃ (p : Addr) (ns : List Int), xs = [V.ref p] ∧ SqT K H p (ns.map V.int) ∧ ns.length ≤ 1000 ∧ ∀ a n, H a = none → n ≤ ns.length → Q (.ref a) (upd H a (SetO w a (fun j => decide (j ∈ ns)) n))
theorem call_setTup {X : Cx} (hc : X.calm = true) : CallR X (.type "set") (rSetTup X.K X.w) := by
  intro pins s σ H xs us Q I r h
  obtain ⟨p, ns, rfl, hq, hl, q⟩ := h
  rw [Vals.ref1 r]
  obtain ⟨its, rv, pt, hz⟩ := I.tuple hq
  refine call_set_tupI ns (I.ok.hd hc) (show s.heap.IsTuple p its.toArray from pt) (ints_of_vals rv) (by unfold scanBound; omega) fun h' tk c R1 hcn k => ?_
  exact ⟨.ref _, upd H s.heap.objs.size (SetO X.w s.heap.objs.size (fun j => decide (j ∈ ns)) c), I.laid (t' := tk) k (Nat.le_refl _) (setO_new R1), rfl, q _ c (I.hok.fresh (Nat.le_refl _)) hcn⟩
/-- what follows from what te gives -/
def tMono (te : TE) : TE := fun σ H Q => ∃ P : VK, te σ H P ∧ ∀ x H', P x H' → Q x H'
theorem pe_mono {X : Cx} {e : Expr} {te : TE} (he : PE X e te) : PE X e (tMono te) := ⟨fun pins s σ H Q I ⟨P, h, m⟩ => wpAny_mono (he.run pins s σ H P I h) (fun v s' ⟨x, H1, I1, r, q⟩ => ⟨x, H1, I1, r, m x H1 q⟩) fun _ _ z => z⟩
/-- sorted(set(e)), e a tuple of ints: a new list -/
def mSortSet (K : PySem.W.Frag) (Q : VK) (x : V) (H1 : Hp) : Prop := ∃ (p : Addr) (ns : List Int), x = V.ref p ∧ SqT K H1 p (ns.map V.int) ∧ ns.length < 64 ∧ ∀ (l a : Addr) (o : HO) (ms : List Int), H1 a = none → upd H1 a o l = none → ms.Pairwise (· < ·) → (∀ k, k ∈ ms ↔ k ∈ ns) → Q (.ref l) (upd (upd H1 a o) l (.lst (ms.map V.int)))
def tSortSet (K : PySem.W.Frag) (te : TE) : TE := fun σ H Q => te σ H (mSortSet K Q)
theorem pe_sortSet {X : Cx} {e : Expr} {te : TE} {p1 p2 pos1 pos2 : Pos} (hc : X.calm = true) (hg : Gl X "sorted") (hm : X.mg "sorted" = none) (hg2 : Gl X "set") (hm2 : X.mg "set" = none) (he : PE X e te)
    (hs2 : starEach [e] X.env = [(false, eval e X.env)] := by rfl) (hs1 : starEach [.Call (.Name "set" p2) [e] [] pos2] X.env = [(false, eval (.Call (.Name "set" p2) [e] [] pos2) X.env)] := by rfl) :
    PE X (.Call (.Name "sorted" p1) [.Call (.Name "set" p2) [e] [] pos2] [] pos1) (tSortSet X.K te) := by
  have h1 : PE X (.Call (.Name "set" p2) [e] [] pos2) (tCB (rSetTup X.K X.w) (tCons (tMono te) tNil)) := pe_callTy (call_setTup hc) hg2 hm2 (by decide +kernel) (pa_cons (pe_mono he) pa_nil (hs := hs2)) (he := hs2) (hpl := rfl)
  have h2 : PE X (.Call (.Name "sorted" p1) [.Call (.Name "set" p2) [e] [] pos2] [] pos1) (tCB (rSortedSet X.w) (tCons (tCB (rSetTup X.K X.w) (tCons (tMono te) tNil)) tNil)) := pe_callB (cr_sortedSet hc) hg hm (by decide +kernel) (pa_cons h1 pa_nil (hs := hs1)) (he := hs1) (hpl := rfl)
  refine ⟨fun pins s σ H Q I h => h2.run pins s σ H Q I ⟨mSortSet X.K Q, h, ?_⟩⟩
  rintro x H1 ⟨p, ns, rfl, hq, hl, q⟩
  refine ⟨p, ns, rfl, hq, by omega, fun a n ha hn => ⟨a, _, n, rfl, upd_same, by omega, fun ms l hp hm _ hnl => ?_⟩⟩
  exact q l a _ ms ha hnl hp fun k => (hm k).trans decide_eq_true_iff
theorem x_sortSet {K : PySem.W.Frag} {te : TE} {σ : L2.St} {H : Hp} {Q : VK} (q : te σ H (mSortSet K Q)) : tSortSet K te σ H Q := q
theorem z_sortSet {K : PySem.W.Frag} {H B : Hp} {R : List Seg} {Q : VK} {p : Addr} {ns : List Int} (S : Z H B R) (h : SqT K H p (ns.map V.int)) (hl : ns.length < 64) (q : ∀ (l : Addr) (ms : List Int) (H' : Hp), ms.Pairwise (· < ·) → (∀ k, k ∈ ms ↔ k ∈ ns) → Z H' B ([(l, .lst (ms.map V.int))] :: R) → Q (.ref l) H') : mSortSet K Q (.ref p) H :=
  ⟨p, ns, rfl, h, hl, fun l a o ms ha hn hp hm => q l ms _ hp hm ((z_gone S ha).new hn)⟩
end FT

/-! FTO: class methods by names, positional and by keyword; C() where a local name holds the class. -/
namespace FT
open PySem PySem.Spec PyProof.Rows L2
/-- a class method of the class x: its promise (the class comes first) -/
structure Go (P : Program) (w : World) (K : PySem.W.Frag) (mg : Str → Option Value) (base : Heap) (k : Nat) (x m : Str) (ps : List Str) (sp : Sp) : Prop where
  ex : ∃ mc p g fd, ClX.CRead K (He.ga K x) mc ∧ ClX.CMet K (He.ga K x) mc m p g ∧ FnOk P w K mg base (L2.CX P w) k g fd ps sp ∧ Binds K fd ps []
structure Gok (P : Program) (w : World) (K : PySem.W.Frag) (mg : Str → Option Value) (base : Heap) (k : Nat) (x m : Str) (ps ks : List Str) (sp : Sp) : Prop where
  ex : ∃ mc p g fd, ClX.CRead K (He.ga K x) mc ∧ ClX.CMet K (He.ga K x) mc m p g ∧ FnOk P w K mg base (L2.CX P w) k g fd ps sp ∧ KBn K fd ps 1 ks (fun us ws => us ++ ws) (fun vs zs => vs ++ zs)
section
variable {X : Cx} {k j : Nat} {x m : Str} {ps : List Str} {sp : Sp} {o e : Expr} {es : List Expr} {ta : TE} {t tk : TA} {apos pos p : Pos} {pl : Sem Bool}
theorem fnR_of {P : Program} {w : World} {K : PySem.W.Frag} {mg : Str → Option Value} {base : Heap} {f : Addr} {fd : FuncData} (F : FnOk P w K mg base (L2.CX P w) k f fd ps sp) (b : Binds K fd ps []) : FnR P w K mg base (L2.CX P w) k f sp := by
  intro A outer s H us vs Q E hr e0 r hs
  have hl : us.length = ps.length := by rw [← r.length]; exact F.len _ _ _ _ hs
  have hb := b s us (e0.mod.kin.keeps fun b o e => (e0.bs b o e).1) (by rw [List.append_nil]; exact hl)
  rw [List.append_nil] at hb
  exact F.run A outer s H ⟨us, []⟩ us vs Q E hr e0 hb r hs
/-- C.m(e, ..) -/
theorem pe_go (G : Go X.prog X.w X.K X.mg X.base k x m ps sp) (hr : Room j X.A) (ho : PE X o ta) (ha : PA X (e :: es) t) (hk : k ≤ j := by decide)
    (hst : starEach (e :: es) X.env = (false, eval e X.env) :: starEach es X.env := by rfl) (hpl : (backTo pos (starEach es X.env)).any (·.1) = false := by rfl)
    (ht : eval (.Call (.Attribute o m apos) (e :: es) [] pos) X.env = (do
      let ov ← eval o X.env
      standAt apos.atName
      let (f, first) ← holding [ov] (getMethod ov m pl)
      callWith pos f first (backTo pos (starEach (e :: es) X.env)) (backToKw pos (keywordEach [] X.env))) := by rfl) :
    PE X (.Call (.Attribute o m apos) (e :: es) [] pos) (ClX.tCMeth (He.ga X.K x) sp E0 ta t) := by
  obtain ⟨mc, p, g, fd, r, c, F, b⟩ := G.ex
  exact ClX.pe_cmeth (pl := pl) ho r c (fnR_of F b) (hr.mono hk) passL ha hst hpl ht
/-- .. what is raised is wished for by W -/
def tCMethS (C : Addr) (sp : Sp) (W : WX) (ta : TE) (t : TA) : TE := fun σ H Q => ta σ H fun x H1 => x = .ref C ∧ t σ H1 fun vs H2 => sp (.ref C :: vs) H2 Q (WE W σ)
/-- C.m(k = e, ..) -/
def tCMethK (C : Addr) (sp : Sp) (n : Nat) (ta : TE) (tk : TA) : TE := fun σ H Q => ta σ H fun x H1 => x = .ref C ∧ tk σ H1 fun zs H2 => zs.length = n ∧ sp (.ref C :: zs) H2 Q E0
theorem pe_gok {kws : List Keyword} {ks : List Str} {n : Nat} (G : Gok X.prog X.w X.K X.mg X.base k x m ps ks sp) (hr : Room j X.A) (ho : PE X o ta) (hkw : PK X kws tk) (hn : ks.length = n := by rfl) (hk : k ≤ j := by decide) (hall : (backToKw pos (keywordEach kws X.env)).all (·.1.isSome) = true := by rfl)
    (hks : (backToKw pos (keywordEach kws X.env)).filterMap (·.1) = ks := by rfl) (hpl : ((backTo pos (starEach [] X.env)).any (·.1) || (backToKw pos (keywordEach kws X.env)).any (·.1.isNone)) = false := by rfl)
    (ht : eval (.Call (.Attribute o m apos) [] kws pos) X.env = (do
      let ov ← eval o X.env
      standAt apos.atName
      let (f, first) ← holding [ov] (getMethod ov m pl)
      callWith pos f first (backTo pos (starEach [] X.env)) (backToKw pos (keywordEach kws X.env))) := by rfl) :
    PE X (.Call (.Attribute o m apos) [] kws pos) (tCMethK (He.ga X.K x) sp n ta tk) := by
  subst hn
  obtain ⟨mc, p, g, fd, r, c, F, b⟩ := G.ex
  refine ⟨fun pins s σ H Q I h => ?_⟩
  refine PySem.W.methodCall_KW (pl := pl) (thn (ho.run pins s σ H _ I h) fun u s1 ⟨y, H1, I1, rx, ex, q⟩ => ?_) ht
  subst ex
  obtain rfl : u = Value.ref (He.ga X.K x) := rx
  refine ClX.getmethcm_ok I1 r c fun s2 I2 => ?_
  refine PySem.W.callWith_of (P := fun h => PySem.W.MethP X.K s1.heap.objs.size g (.ref (He.ga X.K x)) h) hpl (fun h z => PySem.W.keeps_M c.fi h z) (PyProof.Rows.evalArgs_kw2_nil hall (thn (hkw.run pos _ s2 σ H1 _ I2 q) fun ws s3 ⟨zs, H2, I3, rz, hlen, q2⟩ => ⟨⟨ClX.pin_at I3, I3.kIn⟩, ?_⟩))
  rw [hks]
  refine thn (Q := EP X ((s1.heap.objs.size, PySem.W.methodObj (.ref g) (.ref (He.ga X.K x))) :: pins) σ Q) (wpAny_call (PySem.W.method_call (ClX.pin_at I3) ?_)) fun _ _ y => ClX.unpinE y
  have r2 : Vals (V.ref (He.ga X.K x) :: zs) (Value.ref (He.ga X.K x) :: ws) := .cons rfl rz
  have hb := b.to s3 [Value.ref (He.ga X.K x)] ws I3.kIn rfl (rz.length.symm.trans hlen)
  refine codeAny_mono (F.run X.A X.stack s3 H2 ⟨[Value.ref (He.ga X.K x)], ks.zip ws⟩ _ _ Q E0 (hr.mono hk) I3.env0 hb r2 q2) fun r s' hq => ?_
  cases r with
  | error e => exact passL (X := X) _ σ H2 s3 e s' I3 hq
  | ok fl =>
    cases fl with
    | ret u => exact I3.after hq
    | next => exact False.elim hq
    | brk => exact False.elim hq
    | cont => exact False.elim hq
/-- C(), the slot i holds the class x -/
def tMakeL (i : Nat) (C : Addr) (sp : Sp) : TE := fun σ H Q => σ[i]? = some (some (.ref C)) ∧ ∀ x dx, H x = none → H dx = none → dx ≠ x → sp [.ref x] (upd (upd H dx (.own x)) x (.ins C dx [])) (fun v H2 => v = .non ∧ Q (.ref x) H2) E0
theorem pe_mkL {i : Nat} {y : Str} (G : Gn X.prog X.w X.K X.mg X.base k x sp) (hr : Room j X.A) (hN : X.N[i]? = some y := by rfl) (hv : Vis X.env.scope y := by first | exact Or.inl rfl | exact Or.inr (Or.inl rfl) | exact Or.inr rfl) (hk : k + 1 ≤ j := by decide)
    (hdb : (y == ("__debug__" : Str)) = false := by decide) (hcd : (y == ("__classdict__" : Str)) = false := by decide) : PE X (.Call (.Name y p) [] [] pos) (tMakeL i (He.ga X.K x) sp) := by
  obtain ⟨fd, F, b⟩ := G.ex
  refine ⟨fun pins s σ H Q I h => ?_⟩
  obtain ⟨hs, hq⟩ := h
  refine wpAny_Call_Name_kw (thn ((pe_var (pos := p) hN hv hdb hcd).run pins s σ H (fun v H1 => v = .ref (He.ga X.K x) ∧ H1 = H) I ⟨.ref (He.ga X.K x), hs, rfl, rfl⟩) fun u s1 ⟨v, H1, I1, r1, q1⟩ => ?_)
  obtain ⟨rfl, rfl⟩ := q1
  cases r1
  exact PySem.W.callWith_K0 I1.kIn G.make.kp (run_make (us := []) G.make F (hr.mono hk) b .nil passL I1 .nil hq)
end
section
variable {K : PySem.W.Frag} {σ : L2.St} {H : Hp} {Q : VK} {C : Addr} {sp : Sp} {ta : TE} {t tk : TA} {n i : Nat}
def mGo (C : Addr) (sp : Sp) (t : TA) (σ : L2.St) (Q : VK) (x : V) (H1 : Hp) : Prop := x = .ref C ∧ t σ H1 fun vs H2 => sp (.ref C :: vs) H2 Q E0
theorem x_go (q : ta σ H (mGo C sp t σ Q)) : ClX.tCMeth C sp E0 ta t σ H Q := q
theorem z_go (q : t σ H fun vs H2 => sp (.ref C :: vs) H2 Q E0) : mGo C sp t σ Q (.ref C) H := ⟨rfl, q⟩
def mGok (C : Addr) (sp : Sp) (n : Nat) (t : TA) (σ : L2.St) (Q : VK) (x : V) (H1 : Hp) : Prop := x = .ref C ∧ t σ H1 fun vs H2 => vs.length = n ∧ sp (.ref C :: vs) H2 Q E0
theorem x_gok (q : ta σ H (mGok C sp n tk σ Q)) : tCMethK C sp n ta tk σ H Q := q
theorem z_gok (q : t σ H fun vs H2 => vs.length = n ∧ sp (.ref C :: vs) H2 Q E0) : mGok C sp n t σ Q (.ref C) H := ⟨rfl, q⟩
theorem x_mkL (h : σ[i]? = some (some (.ref C))) (q : ∀ x dx, H x = none → H dx = none → dx ≠ x → sp [.ref x] (upd (upd H dx (.own x)) x (.ins C dx [])) (fun v H2 => v = .non ∧ Q (.ref x) H2) E0) : tMakeL i C sp σ H Q := ⟨h, q⟩
end
/-! ### what the head finds -/
def crB (K : PySem.W.Frag) (x : Str) : Bool := PySem.W.readsIn K (He.ga K x) (.type "type") && He.eqO (PySem.W.specialIn K (.ref (He.ga K x)) "__getattribute__") (some (some (.builtin "type.__getattribute__")))
theorem crB_ok {K : PySem.W.Frag} {x : Str} (h : crB K x = true) : ClX.CRead K (He.ga K x) (.type "type") := ⟨(ba2 h).1, He.eqO_ok (ba2 h).2⟩
def cmB (K : PySem.W.Frag) (x m : Str) : Bool := He5.wrapB K (He.ga K x) "classmethod" "classmethod.__get__" m && PySem.W.fnIn K (He5.wf K (He.ga K x) "classmethod" m)
theorem cmB_ok {K : PySem.W.Frag} {x m : Str} (h : cmB K x m = true) : ClX.CMet K (He.ga K x) (.type "type") m (He.ma K (He.ga K x) m) (He5.wf K (He.ga K x) "classmethod" m) := He5.cmet_of (ba2 h).1 (ba2 h).2
def eqW (K : PySem.W.Frag) (x y m : Str) : Bool := decide (He5.wf K (He.ga K x) "classmethod" m = He5.wf K (He.ga K y) "classmethod" m)
theorem eqW_ok {K : PySem.W.Frag} {x y m : Str} (h : eqW K x y m = true) : He5.wf K (He.ga K x) "classmethod" m = He5.wf K (He.ga K y) "classmethod" m := of_decide_eq_true h
end FT

/-! FM1: threads: order, newest order, depths, the comments below: the functions. Plain Lean. -/
namespace FM
abbrev T3 := List (Option Nat)
/-- a thread: each comment answers none or an earlier one -/
def Th (T : T3) : Prop := ∀ i j : Nat, T[i]? = some (some j) → j < i
def par (T : T3) (c : Nat) : Option Nat := T.getD c none
def inFam (T : T3) (fam : List Nat) (c : Nat) : Bool := match par T c with
  | none => false
  | some p => fam.contains p
/-- how many of l stand in the family fam, one behind another -/
def run (T : T3) (fam : List Nat) : List Nat → Nat
  | [] => 0
  | c :: r => if inFam T fam c = true then 1 + run T (fam ++ [c]) r else 0
def idx (l : List Nat) (a : Nat) : Nat := l.findIdx (· == a)
def ins (l : List Nat) (p k : Nat) : List Nat := l.take p ++ [k] ++ l.drop p
/-- where a comment that answers o goes -/
def place (T : T3) (l : List Nat) : Option Nat → Nat
  | none => l.length
  | some a => idx l a + 1 + run T [a] (l.drop (idx l a + 1))
def ordN (T : T3) : Nat → List Nat
  | 0 => []
  | k + 1 => ins (ordN T k) (place T (ordN T k) (par T k)) k
def ordL (T : T3) : List Nat := ordN T T.length
def newP (l : List Nat) : Option Nat → Nat
  | none => 0
  | some a => idx l a + 1
def newN (T : T3) : Nat → List Nat
  | 0 => []
  | k + 1 => ins (newN T k) (newP (newN T k) (par T k)) k
def newL (T : T3) : List Nat := newN T T.length
def depO (l : List Nat) : Option Nat → Nat
  | none => 0
  | some a => l.getD a 0 + 1
def depN (T : T3) : Nat → List Nat
  | 0 => []
  | k + 1 => depN T k ++ [depO (depN T k) (par T k)]
def depL (T : T3) : List Nat := depN T T.length
/-- the comments below c among the first n, from c's family on -/
def belN (T : T3) (c : Nat) : Nat → List Nat
  | 0 => []
  | k + 1 => if inFam T (c :: belN T c k) k = true then belN T c k ++ [k] else belN T c k
def belL (T : T3) (c : Nat) : List Nat := belN T c T.length
def hidL (T : T3) (F : List Nat) : List Nat := F.flatMap (belL T)
def shoL (T : T3) (F O : List Nat) : List Nat := O.filter fun c => !(hidL T F).contains c
theorem par_lt {T : T3} (h : Th T) {c p : Nat} (e : par T c = some p) : p < c := by
  refine h c p ?_
  unfold par at e
  rw [List.getD_eq_getElem?_getD] at e
  cases q : T[c]? with
  | none => rw [q] at e; cases e
  | some o => rw [q] at e; exact congrArg some e
/-! ### permutations -/
theorem ins_perm (l : List Nat) (p k : Nat) : (ins l p k).Perm (k :: l) := by
  unfold ins
  have h1 : (l.take p ++ [k] ++ l.drop p).Perm ([k] ++ l.take p ++ l.drop p) := (List.perm_append_comm).append_right _
  refine h1.trans ?_
  rw [List.append_assoc, List.take_append_drop]
  exact List.Perm.refl _
theorem mem_ordN {T : T3} {n c : Nat} : c ∈ ordN T n ↔ c < n := by
  induction n with
  | zero => simp [ordN]
  | succ k ih =>
    rw [ordN, (ins_perm _ _ _).mem_iff, List.mem_cons, ih]
    omega
theorem len_ordN {T : T3} {n : Nat} : (ordN T n).length = n := by
  induction n with
  | zero => rfl
  | succ k ih => rw [ordN, (ins_perm _ _ _).length_eq, List.length_cons, ih]
theorem nd_ordN {T : T3} {n : Nat} : (ordN T n).Nodup := by
  induction n with
  | zero => exact List.nodup_nil
  | succ k ih =>
    rw [ordN, (ins_perm _ _ _).nodup_iff, List.nodup_cons]
    exact ⟨fun h => by have := mem_ordN.mp h; omega, ih⟩
theorem mem_newN {T : T3} {n c : Nat} : c ∈ newN T n ↔ c < n := by
  induction n with
  | zero => simp [newN]
  | succ k ih =>
    rw [newN, (ins_perm _ _ _).mem_iff, List.mem_cons, ih]
    omega
theorem len_newN {T : T3} {n : Nat} : (newN T n).length = n := by
  induction n with
  | zero => rfl
  | succ k ih => rw [newN, (ins_perm _ _ _).length_eq, List.length_cons, ih]
theorem nd_newN {T : T3} {n : Nat} : (newN T n).Nodup := by
  induction n with
  | zero => exact List.nodup_nil
  | succ k ih =>
    rw [newN, (ins_perm _ _ _).nodup_iff, List.nodup_cons]
    exact ⟨fun h => by have := mem_newN.mp h; omega, ih⟩
theorem idx_lt {l : List Nat} {a : Nat} (h : a ∈ l) : idx l a < l.length := List.findIdx_lt_length_of_exists ⟨a, h, by simp⟩
theorem idx_get {l : List Nat} {a : Nat} (h : a ∈ l) : l[idx l a]'(idx_lt h) = a := by
  have := List.findIdx_getElem (p := fun x => x == a) (w := idx_lt h)
  exact beq_iff_eq.mp this
theorem run_le (T : T3) : ∀ (l : List Nat) (fam : List Nat), run T fam l ≤ l.length
  | [], _ => Nat.le_refl _
  | c :: r, fam => by
    rw [run]
    split
    · have := run_le T r (fam ++ [c])
      rw [List.length_cons]
      omega
    · exact Nat.zero_le _
theorem place_le {T : T3} {l : List Nat} {o : Option Nat} (h : ∀ a, o = some a → a ∈ l) : place T l o ≤ l.length := by
  cases o with
  | none => exact Nat.le_refl _
  | some a =>
    have h1 := idx_lt (h a rfl)
    have h2 := run_le T (l.drop (idx l a + 1)) [a]
    rw [List.length_drop] at h2
    show idx l a + 1 + run T [a] (l.drop (idx l a + 1)) ≤ l.length
    omega
theorem len_depN {T : T3} {n : Nat} : (depN T n).length = n := by
  induction n with
  | zero => rfl
  | succ k ih => rw [depN, List.length_append, ih] <;> rfl
theorem mem_belN {T : T3} {c n k : Nat} (h : k ∈ belN T c n) : k < n := by
  induction n with
  | zero => simp [belN] at h
  | succ m ih =>
    rw [belN] at h
    split at h
    · rcases List.mem_append.mp h with h | h
      · have := ih h; omega
      · rw [List.mem_singleton.mp h]; omega
    · have := ih h; omega
end FM

/-! FM2: the orders are walks over the answers. Plain Lean. -/
namespace FM
/-- what a walk by a stack finds: w waits, ch tells who comes behind a comment -/
inductive Flat (ch : Nat → List Nat) : List Nat → List Nat → Prop
  | nil : Flat ch [] []
  | cons {c : Nat} {w r : List Nat} (h : Flat ch (ch c ++ w) r) : Flat ch (c :: w) (c :: r)
theorem Flat.app {ch : Nat → List Nat} {u s v r : List Nat} (h : Flat ch u s) (h2 : Flat ch v r) : Flat ch (u ++ v) (s ++ r) := by
  induction h with
  | nil => exact h2
  | @cons c w r' _ ih =>
    show Flat ch (c :: (w ++ v)) (c :: (r' ++ r))
    refine .cons ?_
    rw [← List.append_assoc]
    exact ih
theorem Flat.split {ch : Nat → List Nat} {x r : List Nat} (h : Flat ch x r) : ∀ {u v : List Nat}, x = u ++ v → ∃ s t, r = s ++ t ∧ Flat ch u s ∧ Flat ch v t := by
  induction h with
  | nil =>
    intro u v e
    have e2 := List.append_eq_nil_iff.mp e.symm
    rw [e2.1, e2.2]
    exact ⟨[], [], rfl, .nil, .nil⟩
  | @cons c w r h ih =>
    intro u v e
    cases u with
    | nil =>
      rw [List.nil_append] at e
      subst e
      exact ⟨[], c :: r, rfl, .nil, .cons h⟩
    | cons d u =>
      rw [List.cons_append] at e
      obtain ⟨rfl, rfl⟩ := List.cons.inj e
      obtain ⟨s, t, e2, h1, h2⟩ := ih (u := ch c ++ u) (v := v) (by rw [List.append_assoc])
      exact ⟨c :: s, t, by rw [e2] <;> rfl, .cons h1, h2⟩
theorem Flat.mem {ch : Nat → List Nat} {w r : List Nat} (h : Flat ch w r) : ∀ x ∈ w, x ∈ r := by
  induction h with
  | nil => exact fun x hx => hx
  | @cons c w r h ih =>
    intro x hx
    rcases List.mem_cons.mp hx with e | e
    · rw [e]; exact List.mem_cons_self
    · exact List.mem_cons_of_mem _ (ih x (List.mem_append_right _ e))
theorem Flat.kid {ch : Nat → List Nat} {w r : List Nat} (h : Flat ch w r) : ∀ p ∈ r, ∀ d ∈ ch p, d ∈ r := by
  induction h with
  | nil => exact fun p hp => nomatch hp
  | @cons c w r h ih =>
    intro p hp d hd
    rcases List.mem_cons.mp hp with e | e
    · rw [e] at hd
      exact List.mem_cons_of_mem _ (h.mem d (List.mem_append_left _ hd))
    · exact List.mem_cons_of_mem _ (ih p e d hd)
/-- who is not asked may change -/
theorem Flat.other {ch ch' : Nat → List Nat} {w r : List Nat} (h : Flat ch w r) (e : ∀ c ∈ r, ch' c = ch c) : Flat ch' w r := by
  induction h with
  | nil => exact .nil
  | @cons c w r h ih =>
    refine .cons ?_
    rw [e c List.mem_cons_self]
    exact ih fun x hx => e x (List.mem_cons_of_mem _ hx)
/-- where a stands: what is ahead, its own, what is behind; a changed ch at a alone changes its own alone -/
theorem Flat.at_ {ch : Nat → List Nat} {a : Nat} {w r : List Nat} (h : Flat ch w r) : a ∈ r → r.Nodup → ∃ r1 s r2, r = r1 ++ a :: (s ++ r2) ∧ Flat ch (ch a) s ∧
    ∀ (ch' : Nat → List Nat) (s' : List Nat), (∀ c ∈ r, c ≠ a → ch' c = ch c) → Flat ch' (ch' a) s' → Flat ch' w (r1 ++ a :: (s' ++ r2)) := by
  induction h with
  | nil => exact fun ha => nomatch ha
  | @cons c w r h ih =>
    intro ha nd
    obtain ⟨n1, n2⟩ := List.nodup_cons.mp nd
    by_cases e : c = a
    · subst e
      obtain ⟨s, t, e1, h1, h2⟩ := h.split rfl
      subst e1
      refine ⟨[], s, t, rfl, h1, fun ch' s' hc hs => ?_⟩
      refine .cons (hs.app (h2.other fun x hx => hc x (List.mem_cons_of_mem _ (List.mem_append_right _ hx)) fun z => ?_))
      exact n1 (z ▸ List.mem_append_right _ hx)
    · have ha2 : a ∈ r := (List.mem_cons.mp ha).elim (fun z => absurd z.symm e) id
      obtain ⟨r1, s, r2, e1, h1, h2⟩ := ih ha2 n2
      refine ⟨c :: r1, s, r2, by rw [e1] <;> rfl, h1, fun ch' s' hc hs => ?_⟩
      have h3 := h2 ch' s' (fun x hx => hc x (List.mem_cons_of_mem _ hx)) hs
      refine .cons ?_
      rw [hc c List.mem_cons_self e]
      exact h3
/-- those among the first n that answer o -/
def kids (T : T3) (n : Nat) (o : Option Nat) : List Nat := (List.range n).filter fun i => par T i == o
theorem kids_succ (T : T3) (n : Nat) (o : Option Nat) : kids T (n + 1) o = if par T n = o then kids T n o ++ [n] else kids T n o := by
  unfold kids
  rw [List.range_succ, List.filter_append]
  by_cases h : par T n = o
  · rw [if_pos h]; simp [h]
  · rw [if_neg h]; simp [h]
theorem mem_kids {T : T3} {n : Nat} {o : Option Nat} {i : Nat} : i ∈ kids T n o ↔ i < n ∧ par T i = o := by
  unfold kids
  rw [List.mem_filter, List.mem_range, beq_iff_eq]
theorem kids_none {T : T3} (h : Th T) {n a : Nat} (hn : n ≤ a + 1) : kids T n (some a) = [] := by
  refine List.eq_nil_iff_forall_not_mem.mpr fun i hi => ?_
  obtain ⟨h1, h2⟩ := mem_kids.mp hi
  have := par_lt h h2
  omega
/-- the walk over the first n: oldest first, or newest first -/
def chO (T : T3) (n : Nat) (c : Nat) : List Nat := kids T n (some c)
def chN (T : T3) (n : Nat) (c : Nat) : List Nat := (kids T n (some c)).reverse
theorem ins_end (l : List Nat) (k : Nat) : ins l l.length k = l ++ [k] := by simp [ins]
theorem ins_at (a b : List Nat) (k : Nat) : ins (a ++ b) a.length k = a ++ k :: b := by simp [ins]
theorem idx_app {r1 : List Nat} {a : Nat} {t : List Nat} (h : a ∉ r1) : idx (r1 ++ a :: t) a = r1.length := by
  unfold idx
  rw [List.findIdx_append]
  have e : r1.findIdx (fun x => x == a) = r1.length := by
    rw [List.findIdx_eq_length]
    intro x hx
    refine beq_eq_false_iff_ne.mpr fun z => ?_
    subst z
    exact h hx
  rw [e, if_neg (Nat.lt_irrefl _)]
  simp [List.findIdx_cons]
theorem flat_lone {ch : Nat → List Nat} {k : Nat} (h : ch k = []) : Flat ch [k] [k] := .cons (by rw [h]; exact .nil)
/-- the family grows by all of s -/
theorem run_all {T : T3} {n : Nat} {w s : List Nat} (h : Flat (chO T n) w s) : ∀ (fam t : List Nat), (∀ x ∈ w, inFam T fam x = true) → run T fam (s ++ t) = s.length + run T (fam ++ s) t := by
  induction h with
  | nil => intro fam t _; simp
  | @cons c w r h ih =>
    intro fam t hw
    rw [List.cons_append, run, if_pos (hw c List.mem_cons_self), ih (fam ++ [c]) t fun x hx => ?_]
    · rw [List.length_cons, List.append_assoc]
      show 1 + (r.length + _) = r.length + 1 + _
      rw [List.singleton_append]
      omega
    · rcases List.mem_append.mp hx with e | e
      · have h2 := (mem_kids.mp e).2
        unfold inFam
        rw [h2]
        simp
      · have h2 := hw x (List.mem_cons_of_mem _ e)
        unfold inFam at h2 ⊢
        cases q : par T x with
        | none => rw [q] at h2; cases h2
        | some p =>
          rw [q] at h2
          have h3 : p ∈ fam := by simpa using h2
          simp [h3]
theorem ord_walk {T : T3} (h : Th T) : ∀ n, Flat (chO T n) (kids T n none) (ordN T n)
  | 0 => .nil
  | k + 1 => by
    have ih := ord_walk h k
    have same : ∀ a, par T k = some a → ∀ c, c ≠ a → chO T (k + 1) c = chO T k c := fun a ha c hc => by
      unfold chO
      rw [kids_succ, if_neg (fun z => hc (Option.some.inj (z.symm.trans ha)))]
    have lone : chO T (k + 1) k = [] := kids_none h (Nat.le_refl _)
    cases hp : par T k with
    | none =>
      rw [kids_succ, if_pos hp, ordN, hp]
      show Flat _ _ (ins (ordN T k) (ordN T k).length k)
      rw [ins_end]
      refine Flat.app (ih.other fun c hc => ?_) (flat_lone lone)
      unfold chO
      rw [kids_succ, if_neg (by rw [hp]; exact nofun)]
    | some a =>
      have ha : a ∈ ordN T k := mem_ordN.mpr (par_lt h hp)
      obtain ⟨r1, s, r2, e1, h1, h2⟩ := ih.at_ ha nd_ordN
      have nd : (r1 ++ a :: (s ++ r2)).Nodup := by rw [← e1]; exact nd_ordN
      have na : a ∉ r1 := fun z => by
        have := (List.nodup_append.mp nd).2.2 a z a List.mem_cons_self
        exact this rfl
      have nd2 : (s ++ r2).Nodup := (List.nodup_cons.mp (List.nodup_append.mp nd).2.1).2
      have hk : chO T (k + 1) a = chO T k a ++ [k] := by
        unfold chO
        rw [kids_succ, if_pos hp]
      have hs' : Flat (chO T (k + 1)) (chO T (k + 1) a) (s ++ [k]) := by
        rw [hk]
        refine Flat.app (h1.other fun c hc => same a hp c fun z => ?_) (flat_lone lone)
        subst z
        exact (List.nodup_cons.mp (List.nodup_append.mp nd).2.1).1 (List.mem_append_left _ hc)
      have h3 := h2 (chO T (k + 1)) (s ++ [k]) (fun c _ hc => same a hp c hc) hs'
      rw [kids_succ, if_neg (by rw [hp]; exact nofun), ordN, hp, e1]
      have hidx : idx (r1 ++ a :: (s ++ r2)) a = r1.length := idx_app na
      have hdrop : (r1 ++ a :: (s ++ r2)).drop (r1.length + 1) = s ++ r2 := by
        rw [show r1.length + 1 = r1.length + 1 from rfl, ← List.drop_drop, List.drop_left] <;> rfl
      have hr2 : run T (a :: s) r2 = 0 := by
        cases r2 with
        | nil => rfl
        | cons d r2 =>
          rw [run, if_neg]
          intro z
          unfold inFam at z
          cases q : par T d with
          | none => rw [q] at z; cases z
          | some p =>
            rw [q] at z
            have hd : d < k := mem_ordN.mp (by rw [e1]; simp)
            have hmem : d ∈ chO T k p := mem_kids.mpr ⟨hd, q⟩
            have hp2 : p = a ∨ p ∈ s := by simpa using z
            have hds : d ∈ s := by
              rcases hp2 with e | e
              · rw [e] at hmem
                exact h1.mem d hmem
              · exact h1.kid p e d hmem
            exact (List.nodup_append.mp nd2).2.2 d hds d List.mem_cons_self rfl
      have hpl : place T (r1 ++ a :: (s ++ r2)) (some a) = (r1 ++ a :: s).length := by
        show idx _ a + 1 + run T [a] (List.drop (idx _ a + 1) _) = _
        rw [hidx, hdrop, run_all h1 [a] r2 fun x hx => ?_]
        · show r1.length + 1 + (s.length + run T (a :: s) r2) = _
          rw [hr2, List.length_append, List.length_cons]
          omega
        · unfold inFam
          rw [(mem_kids.mp hx).2]
          simp
      rw [hpl, show r1 ++ a :: (s ++ r2) = (r1 ++ a :: s) ++ r2 by simp, ins_at]
      simpa using h3
theorem new_walk {T : T3} (h : Th T) : ∀ n, Flat (chN T n) (kids T n none).reverse (newN T n)
  | 0 => .nil
  | k + 1 => by
    have ih := new_walk h k
    have same : ∀ a, par T k = some a → ∀ c, c ≠ a → chN T (k + 1) c = chN T k c := fun a ha c hc => by
      unfold chN
      rw [kids_succ, if_neg (fun z => hc (Option.some.inj (z.symm.trans ha)))]
    have lone : chN T (k + 1) k = [] := by
      unfold chN
      rw [kids_none h (Nat.le_refl _)] <;> rfl
    cases hp : par T k with
    | none =>
      rw [kids_succ, if_pos hp, newN, hp, List.reverse_append]
      show Flat _ _ (ins (newN T k) 0 k)
      refine Flat.app (u := [k]) (s := [k]) (flat_lone lone) (ih.other fun c hc => ?_)
      unfold chN
      rw [kids_succ, if_neg (by rw [hp]; exact nofun)]
    | some a =>
      have ha : a ∈ newN T k := mem_newN.mpr (par_lt h hp)
      obtain ⟨r1, s, r2, e1, h1, h2⟩ := ih.at_ ha nd_newN
      have nd : (r1 ++ a :: (s ++ r2)).Nodup := by rw [← e1]; exact nd_newN
      have na : a ∉ r1 := fun z => by
        have := (List.nodup_append.mp nd).2.2 a z a List.mem_cons_self
        exact this rfl
      have hk : chN T (k + 1) a = [k] ++ chN T k a := by
        unfold chN
        rw [kids_succ, if_pos hp, List.reverse_append] <;> rfl
      have hs' : Flat (chN T (k + 1)) (chN T (k + 1) a) ([k] ++ s) := by
        rw [hk]
        refine Flat.app (flat_lone lone) (h1.other fun c hc => same a hp c fun z => ?_)
        subst z
        exact (List.nodup_cons.mp (List.nodup_append.mp nd).2.1).1 (List.mem_append_left _ hc)
      have h3 := h2 (chN T (k + 1)) ([k] ++ s) (fun c _ hc => same a hp c hc) hs'
      rw [kids_succ, if_neg (by rw [hp]; exact nofun), newN, hp, e1]
      have hidx : idx (r1 ++ a :: (s ++ r2)) a = r1.length := idx_app na
      have hpl : newP (r1 ++ a :: (s ++ r2)) (some a) = (r1 ++ [a]).length := by
        show idx _ a + 1 = _
        rw [hidx, List.length_append] <;> rfl
      rw [hpl, show r1 ++ a :: (s ++ r2) = (r1 ++ [a]) ++ (s ++ r2) by simp, ins_at]
      simpa using h3
/-! ### depths -/
theorem depN_get {T : T3} (h : Th T) : ∀ (n c : Nat), c < n → (depN T n).getD c 0 = depO (depN T n) (par T c)
  | 0, c, hc => by omega
  | k + 1, c, hc => by
    have low : ∀ b, b < k → (depN T (k + 1)).getD b 0 = (depN T k).getD b 0 := fun b hb => by
      rw [depN, List.getD_eq_getElem?_getD, List.getD_eq_getElem?_getD, List.getElem?_append_left (by rw [len_depN]; exact hb)]
    have lowO : ∀ o, (∀ b, o = some b → b < k) → depO (depN T (k + 1)) o = depO (depN T k) o := fun o ho => by
      cases o with
      | none => rfl
      | some b =>
        show (depN T (k + 1)).getD b 0 + 1 = (depN T k).getD b 0 + 1
        rw [low b (ho b rfl)]
    by_cases e : c = k
    · subst e
      rw [lowO _ fun b hb => par_lt h hb]
      rw [depN, List.getD_eq_getElem?_getD, List.getElem?_append_right (by rw [len_depN]; exact Nat.le_refl _), len_depN]
      simp
    · have hc2 : c < k := by omega
      rw [low c hc2, depN_get h k c hc2, lowO _ fun b hb => by have := par_lt h hb; omega]
theorem depL_get {T : T3} (h : Th T) {c : Nat} (hc : c < T.length) : (depL T).getD c 0 = depO (depL T) (par T c) := depN_get h _ c hc
/-! ### below -/
theorem belN_low {T : T3} (h : Th T) {c : Nat} : ∀ n, n ≤ c + 1 → belN T c n = []
  | 0, _ => rfl
  | k + 1, hk => by
    rw [belN, belN_low h k (by omega), if_neg]
    intro z
    unfold inFam at z
    cases q : par T k with
    | none => rw [q] at z; cases z
    | some p =>
      rw [q] at z
      have e : p = c := by simpa using z
      have := par_lt h q
      omega
end FM

/-! FM3: a new comment alone makes the difference of two orders. Plain Lean. -/
namespace FM
theorem par_snoc {T : T3} {o : Option Nat} {c : Nat} (h : c < T.length) : par (T ++ [o]) c = par T c := by
  unfold par
  rw [List.getD_eq_getElem?_getD, List.getD_eq_getElem?_getD, List.getElem?_append_left h]
theorem run_congr {T T' : T3} : ∀ (l fam : List Nat), (∀ c ∈ l, par T c = par T' c) → run T fam l = run T' fam l
  | [], _, _ => rfl
  | c :: r, fam, h => by
    have e : inFam T fam c = inFam T' fam c := by
      unfold inFam
      rw [h c List.mem_cons_self]
    show (if inFam T fam c = true then 1 + run T (fam ++ [c]) r else 0) = (if inFam T' fam c = true then 1 + run T' (fam ++ [c]) r else 0)
    rw [e, run_congr r (fam ++ [c]) fun x hx => h x (List.mem_cons_of_mem _ hx)]
theorem place_congr {T T' : T3} {l : List Nat} {o : Option Nat} (h : ∀ c ∈ l, par T c = par T' c) : place T l o = place T' l o := by
  cases o with
  | none => rfl
  | some a =>
    show idx l a + 1 + run T [a] (l.drop (idx l a + 1)) = idx l a + 1 + run T' [a] (l.drop (idx l a + 1))
    rw [run_congr _ _ fun x hx => h x (List.mem_of_mem_drop hx)]
theorem ordN_congr {T T' : T3} : ∀ (n : Nat), (∀ c, c < n → par T c = par T' c) → ordN T n = ordN T' n
  | 0, _ => rfl
  | n + 1, h => by
    show ins (ordN T n) (place T (ordN T n) (par T n)) n = ins (ordN T' n) (place T' (ordN T' n) (par T' n)) n
    rw [ordN_congr n fun c hc => h c (by omega), h n (by omega), place_congr fun c hc => h c (by have := mem_ordN.mp hc; omega)]
theorem newN_congr {T T' : T3} : ∀ (n : Nat), (∀ c, c < n → par T c = par T' c) → newN T n = newN T' n
  | 0, _ => rfl
  | n + 1, h => by
    show ins (newN T n) (newP (newN T n) (par T n)) n = ins (newN T' n) (newP (newN T' n) (par T' n)) n
    rw [newN_congr n fun c hc => h c (by omega), h n (by omega)]
theorem filter_ins {l : List Nat} {p k : Nat} (h : k ∉ l) : (ins l p k).filter (fun c => !decide (c = k)) = l := by
  have f : ∀ m : List Nat, (∀ c ∈ m, c ∈ l) → m.filter (fun c => !decide (c = k)) = m := fun m hm => List.filter_eq_self.mpr fun c hc => by
    have : c ≠ k := fun e => h (e ▸ hm c hc)
    simp [this]
  unfold ins
  rw [List.filter_append, List.filter_append, f _ fun c hc => List.mem_of_mem_take hc, f _ fun c hc => List.mem_of_mem_drop hc]
  simp
theorem ordL_snoc (T : T3) (o : Option Nat) : (ordL (T ++ [o])).filter (fun c => !decide (c = T.length)) = ordL T := by
  unfold ordL
  rw [List.length_append]
  show (ins (ordN (T ++ [o]) T.length) _ T.length).filter _ = _
  rw [filter_ins fun hc => Nat.lt_irrefl _ (mem_ordN.mp hc)]
  exact ordN_congr _ fun c hc => par_snoc hc
theorem newL_snoc (T : T3) (o : Option Nat) : (newL (T ++ [o])).filter (fun c => !decide (c = T.length)) = newL T := by
  unfold newL
  rw [List.length_append]
  show (ins (newN (T ++ [o]) T.length) _ T.length).filter _ = _
  rw [filter_ins fun hc => Nat.lt_irrefl _ (mem_newN.mp hc)]
  exact newN_congr _ fun c hc => par_snoc hc
end FM

local macro_rules | `(tactic| walk_at "zh") => `(tactic| first
  | assumption
  | ((refine' FT.Z.at_ ?zS 0 0 ?z1 ?z2); (case zS => assumption); (case z1 => rfl); (case z2 => rfl))
  | ((refine' FT.Z.at_ ?zS 1 0 ?z1 ?z2); (case zS => assumption); (case z1 => rfl); (case z2 => rfl))
  | ((refine' FT.Z.at_ ?zS 2 0 ?z1 ?z2); (case zS => assumption); (case z1 => rfl); (case z2 => rfl))
  | ((refine' FT.Z.at_ ?zS 3 0 ?z1 ?z2); (case zS => assumption); (case z1 => rfl); (case z2 => rfl))
  | ((refine' FT.Z.at_ ?zS 4 0 ?z1 ?z2); (case zS => assumption); (case z1 => rfl); (case z2 => rfl))
  | ((refine' FT.Z.at_ ?zS 5 0 ?z1 ?z2); (case zS => assumption); (case z1 => rfl); (case z2 => rfl)))
local macro_rules | `(tactic| walk_at "zl") => `(tactic| first
  | assumption
  | ((refine' FT.Z.l ?zS ?z1); (case zS => assumption); (case z1 => assumption))
  | ((refine' FT.sq_l ?zk); (case zk => walk_at "zh")))
local macro_rules | `(tactic| walk_at "zt") => `(tactic| first
  | assumption
  | ((refine' FT.Z.t ?zS ?z1); (case zS => assumption); (case z1 => assumption))
  | ((refine' FT.sq_t ?zk); (case zk => walk_at "zh")))
local macro_rules | `(tactic| walk_at "zn") => `(tactic| first | decide | omega | (simp; done) | (simp; omega) | (simp [FT.sz]; done) | (simp [FT.sz]; omega) | (simp [FT.sz] at *; omega))
local macro_rules | `(tactic| walk_at "z1") => `(tactic| first
  | with_reducible refine FT.x_seq ?_
  | with_reducible refine FT.x_asg ?_
  | (with_reducible refine FT.x_gname ?_; try dsimp only [List.set])
  | ((with_reducible refine' FT.x_var ?zh ?zq); (case zh => rfl))
  | with_reducible refine FT.x_c ?_
  | with_reducible refine FT.x_op ?_
  | with_reducible refine FT.x_nil ?_
  | with_reducible refine FT.x_cons ?_
  | with_reducible refine FT.x_cb ?_
  | with_reducible refine FT.x_call ?_
  | with_reducible refine FT.x_callS ?_
  | with_reducible refine FT.x_test ?_
  | with_reducible refine FT.x_B ?_
  | with_reducible refine FT.z_bl ?_
  | with_reducible refine FT.z_blE ?_
  | with_reducible refine FT.x_ifs ?_
  | with_reducible refine FT.x_if ?_
  | with_reducible refine FT.x_not ?_
  | with_reducible refine FT.x_and ?_
  | with_reducible refine FT.x_or ?_
  | with_reducible refine FT.x_andV ?_
  | with_reducible refine FT.x_orV ?_
  | with_reducible refine FT.x_notV ?_
  | with_reducible refine FT.x_un ?_
  | with_reducible refine FT.x_neg ?_
  | with_reducible refine FT.x_ret ?_
  | with_reducible refine FT.x_retN ?_
  | with_reducible refine FT.x_drop ?_
  | with_reducible refine FT.x_next ?_
  | with_reducible refine FT.x_brk ?_
  | with_reducible refine FT.x_ct ?_
  | with_reducible refine FT.x_addI ?_
  | with_reducible refine FT.x_subI ?_
  | with_reducible refine FT.x_ltI ?_
  | with_reducible refine FT.x_leI ?_
  | with_reducible refine FT.x_gtI ?_
  | with_reducible refine FT.x_geI ?_
  | with_reducible refine FT.x_eqI ?_
  | with_reducible refine FT.x_neI ?_
  | with_reducible refine FT.x_eqS ?_
  | with_reducible refine FT.x_neS ?_
  | with_reducible refine FT.x_is ?_
  | with_reducible refine FT.x_isnot ?_
  | with_reducible refine FT.x_max ?_
  | with_reducible refine FT.x_min ?_
  | with_reducible refine FT.x_abs ?_
  | with_reducible refine FT.x_ipI ?_
  | with_reducible refine FT.x_lst ?_
  | with_reducible refine FT.x_tup ?_
  | with_reducible refine FT.x_sl ?_
  | with_reducible refine FT.x_nopart ?_
  | with_reducible refine FT.x_part ?_
  | with_reducible refine FT.z_part ?_
  | with_reducible refine FT.x_bm ?_
  | with_reducible refine FT.x_bm0 ?_
  | with_reducible refine FT.x_gcons ?_
  | with_reducible refine FT.x_gnil ?_
  | with_reducible refine FT.x_gsub ?_
  | with_reducible refine FT.x_augS ?_
  | ((with_reducible refine' FT.x_aug ?zh ?zq); (case zh => rfl))
  | with_reducible refine FT.x_par ?_
  | (with_reducible refine FT.z_par ?_; try dsimp only [List.set])
  | with_reducible refine FT.x_par3 ?_
  | (with_reducible refine FT.z_par3 ?_; try dsimp only [List.set])
  | with_reducible refine FT.x_intI ?_
  | with_reducible refine FT.x_intB ?_
  | with_reducible refine FT.x_lstRg ?_
  | with_reducible refine FT.x_rg1 ?_
  | with_reducible refine FT.x_rg2 ?_
  | with_reducible refine FT.z_rg1 ?_
  | with_reducible refine FT.z_rg2 ?_
  | with_reducible refine FT.x_fld ?_
  | with_reducible refine FT.x_sfld ?_
  | with_reducible refine FT.x_meth ?_
  | with_reducible refine FT.x_methK ?_
  | with_reducible refine FT.x_prop ?_
  | with_reducible refine FT.x_go ?_
  | with_reducible refine FT.x_gok ?_
  | with_reducible refine FT.z_go ?_
  | with_reducible refine FT.z_gok ?_
  | with_reducible refine FT.x_cval ?_
  | with_reducible refine FT.x_dinN ?_
  | with_reducible refine FT.x_din ?_
  | with_reducible refine FT.x_dput ?_
  | with_reducible refine FT.x_dget ?_
  | with_reducible refine FT.x_inG ?_
  | with_reducible refine FT.x_notInG ?_
  | with_reducible refine FT.x_strI ?_
  | with_reducible refine FT.z_strI ?_
  | with_reducible refine FT.x_callK ?_
  | with_reducible refine FT.x_rsO ?_
  | with_reducible refine FT.x_rev ?_
  | with_reducible refine FT.x_for ?_
  | with_reducible refine FT.x_rng1 ?_
  | with_reducible refine FT.x_rng2 ?_
  | with_reducible refine FT.x_enum ?_
  | with_reducible refine FT.x_enumB ?_
  | with_reducible refine FT.x_sortSet ?_
  | with_reducible refine FT.x_seqI ?_
  | with_reducible refine FT.x_star ?_
  | with_reducible refine FT.x_lc ?_
  | with_reducible refine FT.x_zip ?_
  | with_reducible refine FT.x_yes ?_
  | with_reducible refine FT.z_iftrue ?_
  | with_reducible refine FT.z_iffalse ?_
  | with_reducible refine FT.x_raise ?_
  | ((with_reducible refine' FT.x_wipe ?zh ?zq); (case zh => rfl))
  | ((with_reducible refine' FT.z_zip ?zh ?zl ?zq); (case zh => walk_at "zl"); (case zl => walk_at "zl"))
  | ((with_reducible refine' FT.z_enum ?zh ?zq); (case zh => walk_at "zl"))
  | ((with_reducible refine' FT.z_star ?zh ?zq); (case zh => walk_at "zl"))
  | ((with_reducible refine' FT.z_tyL ?zh ?zq); (case zh => walk_at "zl"))
  | ((with_reducible refine' FT.x_lenL ?zh ?zq); (case zh => walk_at "zl"))
  | ((with_reducible refine' FT.x_lenT ?zh ?zq); (case zh => walk_at "zt"))
  | ((with_reducible refine' FT.z_seqL ?zh ?zq); (case zh => walk_at "zl"))
  | ((with_reducible refine' FT.z_seqT ?zh ?zq); (case zh => walk_at "zt"))
  | ((with_reducible refine' FT.x_gtup ?zh ?zl ?zq); (case zh => walk_at "zt"); (case zl => rfl))
  | ((with_reducible refine' FT.z_lst ?zh ?zl ?zq); (case zh => assumption); (case zl => walk_at "zn"))
  | ((with_reducible refine' FT.z_tup ?zh ?zl ?zq); (case zh => assumption); (case zl => walk_at "zn")))
local macro_rules | `(tactic| walk_at "z") => `(tactic| repeat walk_at "z1")
local macro_rules | `(tactic| walk_at "zi") => `(tactic| repeat ((fail_if_success with_reducible refine FT.x_ifs ?_); (fail_if_success with_reducible refine FT.x_if ?_); (fail_if_success with_reducible refine FT.x_for ?_); walk_at "z1"))
local macro_rules | `(tactic| walk_at "len") => `(tactic| (intro h; first
  | exact h.1
  | (obtain ⟨h2, _⟩ := h; exact congrArg List.length h2)
  | (obtain ⟨_, h2, _⟩ := h; exact congrArg List.length h2)
  | (obtain ⟨_, _, h2, _⟩ := h; exact congrArg List.length h2)
  | (obtain ⟨_, _, _, h2, _⟩ := h; exact congrArg List.length h2)
  | (obtain ⟨_, _, _, _, h2, _⟩ := h; exact congrArg List.length h2)
  | (obtain ⟨_, _, _, _, _, h2, _⟩ := h; exact congrArg List.length h2)
  | (obtain ⟨_, _, _, _, _, _, h2, _⟩ := h; exact congrArg List.length h2)
  | (obtain ⟨_, _, _, _, _, _, _, h2, _⟩ := h; exact congrArg List.length h2)
  | (obtain ⟨_, _, _, _, _, _, _, _, h2, _⟩ := h; exact congrArg List.length h2)
  | (obtain ⟨_, _, _, _, _, _, _, _, _, h2, _⟩ := h; exact congrArg List.length h2)
  | (obtain ⟨_, _, _, _, _, _, _, _, _, _, h2, _⟩ := h; exact congrArg List.length h2)
  | (obtain ⟨_, _, _, _, _, _, _, _, _, _, _, h2, _⟩ := h; exact congrArg List.length h2)
  | (obtain ⟨_, _, _, _, _, _, _, _, _, _, _, _, h2, _⟩ := h; exact congrArg List.length h2)
  | (obtain ⟨_, _, _, _, _, _, _, _, _, _, _, _, _, h2, _⟩ := h; exact congrArg List.length h2)
  | (obtain ⟨_, _, _, _, _, _, _, _, _, _, _, _, _, _, h2, _⟩ := h; exact congrArg List.length h2)
  | (obtain ⟨_, _, _, _, _, _, _, _, _, _, _, _, _, _, _, h2, _⟩ := h; exact congrArg List.length h2)
  | (obtain ⟨_, _, _, _, _, _, _, _, _, _, _, _, _, _, _, _, h2, _⟩ := h; exact congrArg List.length h2)
  | (obtain ⟨_, _, _, _, _, _, _, _, _, _, _, _, _, _, _, _, _, h2, _⟩ := h; exact congrArg List.length h2)
  | (obtain ⟨_, _, _, _, _, _, _, _, _, _, _, _, _, _, _, _, _, _, h2, _⟩ := h; exact congrArg List.length h2)
  | (obtain ⟨_, _, _, _, _, _, _, _, _, _, _, _, _, _, _, _, _, _, _, h2, _⟩ := h; exact congrArg List.length h2)
  | (obtain ⟨_, _, _, _, _, _, _, _, _, _, _, _, _, _, _, _, _, _, _, _, h2, _⟩ := h; exact congrArg List.length h2)
  | (obtain ⟨_, _, _, _, _, _, _, _, _, _, _, _, _, _, _, _, _, _, _, _, _, h2, _⟩ := h; exact congrArg List.length h2)))

namespace FT
open PySem PySem.Spec PyProof.Rows L2
abbrev DD (Q : VK) : Ends := { nx := fun _ H' => Q .non H', rt := Q }
end FT
namespace FT
open PySem PySem.Spec PyProof.Rows L2
/-! ### the deck -/
theorem set_at {R : List Seg} {i : Nat} {r r' : Seg} (h : R[i]? = some r) : (R.set i r')[i]? = some r' := by
  rw [List.getElem?_set_self (List.getElem?_eq_some_iff.mp h).1]
/-- the pools as they stand -/
def pools (ps : List Addr) (vs : List (Int × Int × Int)) : Seg := List.zipWith (fun p (v : Int × Int × Int) => (p, HO.lst [.int v.1, .int v.2.1, .int v.2.2])) ps vs
theorem pools_get {ps : List Addr} {vs : List (Int × Int × Int)} {j : Nat} {p : Addr} {v : Int × Int × Int} (h1 : ps[j]? = some p) (h2 : vs[j]? = some v) : (pools ps vs)[j]? = some (p, HO.lst [.int v.1, .int v.2.1, .int v.2.2]) := by
  unfold pools
  rw [List.getElem?_zipWith, h1, h2]
theorem pools_set {ps : List Addr} {vs : List (Int × Int × Int)} {j : Nat} {p : Addr} {v' : Int × Int × Int} (h1 : ps[j]? = some p) : (pools ps vs).set j (p, HO.lst [.int v'.1, .int v'.2.1, .int v'.2.2]) = pools ps (vs.set j v') := by
  unfold pools
  refine List.ext_getElem? fun k => ?_
  rw [List.getElem?_set, List.getElem?_zipWith, List.getElem?_zipWith, List.getElem?_set]
  by_cases e : j = k
  · subst e
    rw [if_pos rfl, if_pos rfl, h1]
    have hl := (List.getElem?_eq_some_iff.mp h1).1
    by_cases h : j < vs.length
    · rw [if_pos (by simp; omega), if_pos h]
    · rw [if_neg (by simp; omega), if_neg h]
  · rw [if_neg e, if_neg e]
theorem pools_app {ps : List Addr} {vs : List (Int × Int × Int)} (h : ps.length = vs.length) (p : Addr) (v : Int × Int × Int) : pools (ps ++ [p]) (vs ++ [v]) = pools ps vs ++ [(p, HO.lst [.int v.1, .int v.2.1, .int v.2.2])] := by
  unfold pools
  rw [List.zipWith_append h] <;> rfl
/-- a deck at d, n draws done -/
def Deck (seg : Seg) (d : Addr) (n : Nat) : Prop := ∃ (pl : Addr) (ps : List Addr) (vs : List (Int × Int × Int)), seg = (d, .lst [.ref pl, .int (n : Int)]) :: (pl, .lst (ps.map .ref)) :: pools ps vs ∧ ps.length = vs.length ∧ 0 < ps.length ∧ ps.length ≤ 63 ∧ ∀ v ∈ vs, 0 ≤ v.2.2 ∧ v.2.2 ≤ 4000 + (n : Int)
/-- a comment that may be answered by the comment many: none, or a number below many -/
def ov : Option Nat → V
  | none => .non
  | some j => .int (j : Int)
def okP (many : Nat) (o : Option Nat) : Prop := ∀ j, o = some j → j < many
def sp__law_deck (K : PySem.W.Frag) : Sp := fun vs H Q _ => ∃ (s : Addr) (ns : List Int), vs = [.ref s] ∧ SqL K H s (ns.map V.int) ∧ ∀ d seg H', Deck seg d 0 → Z H' H [seg] → Q (.ref d) H'
def sp__law_draw (K : PySem.W.Frag) : Sp := fun vs H Q _ => ∃ (d : Addr) (n : Nat) (many : Int) (B : Hp) (R : List Seg) (i : Nat) (seg : Seg), vs = [.ref d, .int many] ∧ Deck seg d n ∧ Z H B R ∧ R[i]? = some seg ∧ n < 2 ^ 60 ∧ 0 < many ∧ many < 2 ^ 200 ∧
  ∀ (x : Int) seg' H', 0 ≤ x → x < many → Deck seg' d (n + 1) → Z H' B (R.set i seg') → Q (.int x) H'
def sp__law_parent (K : PySem.W.Frag) : Sp := fun vs H Q _ => ∃ (d : Addr) (n : Nat) (many style : Nat) (B : Hp) (R : List Seg) (i : Nat) (seg : Seg), vs = [.ref d, .int (many : Int), .int (style : Int)] ∧ Deck seg d n ∧ Z H B R ∧ R[i]? = some seg ∧ n < 2 ^ 60 ∧ many ≤ 1000 ∧ style < 6 ∧
  ∀ (x : Option Nat) seg' H', okP many x → Deck seg' d (n + 1) → Z H' B (R.set i seg') → Q (ov x) H'
/-- a thread: each comment answers none or an earlier one -/
def Th (T : List (Option Nat)) : Prop := ∀ i x, T[i]? = some x → okP i x
def sp__law_thread (K : PySem.W.Frag) : Sp := fun vs H Q _ => ∃ (d : Addr) (n : Nat) (most : Nat) (B : Hp) (R : List Seg) (i : Nat) (seg : Seg), vs = [.ref d, .int (most : Int)] ∧ Deck seg d n ∧ Z H B R ∧ R[i]? = some seg ∧ n < 2 ^ 59 ∧ most ≤ 1000 ∧
  ∀ p (T : List (Option Nat)) n' seg' H', Th T → T.length ≤ most → n' ≤ n + 2000 → Deck seg' d n' → Z H' B ([(p, .lst (T.map ov))] :: R.set i seg') → Q (.ref p) H'
end FT
namespace FT
open PySem PySem.Spec PyProof.Rows L2
/-- slots: _law_script, _law_pools, _law_k, _law_cell -/
def t__law_deck (K : PySem.W.Frag) (E : XK) : TS :=
  (tSeq (tAsg (tLst tNil) (gName 1))
  (tSeq (tFor (iRng1 (tCons (tCB qMax (tCons (tC (.int 1)) (tCons (tCB qMin (tCons (tC (.int 63)) (tCons (tCB (qLen K) (tCons (tVar 0) tNil)) tNil))) tNil))) tNil)) (gName 2) (tSeq (tAsg (tC (.int 0)) (gName 3))
  (tSeq (tIfS (tTest (tOp qLt (tVar 2) (tCB (qLen K) (tCons (tVar 0) tNil)))) (tAsg (tOp (qIx K) (tVar 0) (tVar 2)) (gName 3)) tNext)
  (tDrop (tBM K "list" rAppend (tVar 1) (tCons (tLst (tCons (tVar 3) (tCons (tCB qInt (tCons (tOp qGe (tVar 3) (tOp qPow (tC (.int 10)) (tC (.int 18)))) tNil)) (tCons (tOp (qAdd K) (tOp qMul (tC (.int 53)) (tVar 2)) (tC (.int 29))) tNil)))) tNil))))))
  (tRet (tLst (tCons (tVar 1) (tCons (tC (.int 0)) tNil))))))
/-- slots: _law_deck_here, _law_many, _law_pool, _law_found, _law_mixed -/
def t__law_draw (K : PySem.W.Frag) (E : XK) : TS :=
  (tSeq (tAsg (tOp (qIx K) (tOp (qIx K) (tVar 0) (tC (.int 0))) (tOp qMod (tOp (qIx K) (tVar 0) (tC (.int 1))) (tCB (qLen K) (tCons (tOp (qIx K) (tVar 0) (tC (.int 0))) tNil)))) (gName 2))
  (tSeq (tAsg (tOp (qAdd K) (tOp (qIx K) (tVar 0) (tC (.int 1))) (tC (.int 1))) (gSub (tVar 0) (tC (.int 1)) rSetL))
  (tSeq (tIfS (tAnd (tTest (tOp (qEq K) (tOp (qIx K) (tVar 2) (tC (.int 1))) (tC (.int 1)))) (tTest (tOp qGt (tOp (qIx K) (tVar 2) (tC (.int 0))) (tC (.int 0))))) (tSeq (tAsg (tOp qMod (tOp (qIx K) (tVar 2) (tC (.int 0))) (tVar 1)) (gName 3))
  (tSeq (tAsg (tOp qDiv (tOp (qIx K) (tVar 2) (tC (.int 0))) (tVar 1)) (gSub (tVar 2) (tC (.int 0)) rSetL))
  (tRet (tVar 3)))) tNext)
  (tSeq (tAsg (tOp (qAdd K) (tOp (qIx K) (tVar 2) (tC (.int 2))) (tC (.int 1))) (gSub (tVar 2) (tC (.int 2)) rSetL))
  (tSeq (tAsg (tOp (qAdd K) (tOp qMod (tOp (qIx K) (tVar 2) (tC (.int 0))) (tC (.int 162259276829213363391578010288127))) (tOp qMul (tC (.int 982451653)) (tOp (qIx K) (tVar 2) (tC (.int 2))))) (gName 4))
  (tSeq (tAsg (tOp qMod (tOp qPow (tVar 4) (tC (.int 3))) (tC (.int 618970019642690137449562111))) (gName 4))
  (tSeq (tAsg (tOp qMod (tOp qPow (tOp (qAdd K) (tVar 4) (tOp qMul (tC (.int 49979687)) (tOp (qIx K) (tVar 2) (tC (.int 2))))) (tC (.int 3))) (tC (.int 162259276829213363391578010288127))) (gName 4))
  (tRet (tOp qMod (tOp qDiv (tVar 4) (tC (.int 131072))) (tVar 1))))))))))
/-- slots: _law_deck_here, _law_many, _law_style, _law_able, _law_some, _law_few -/
def t__law_parent (K : PySem.W.Frag) (E : XK) : TS :=
  (tSeq (tAsg (tOp (qAdd K) (tLst (tCons (tC .non) tNil)) (tLstRg (tRg1 (tVar 1)))) (gName 3))
  (tSeq (tAsg (tLst (tCons (tVar 3) (tCons (tOp (qAdd K) (tSl (qSl K) (tVar 3) tNoPart (tPart (tC (.int 1)))) (tSl (qSl K) (tVar 3) (tPart (tUn (rU fun i => .int (-i)) (tC (.int 1)))) tNoPart)) (tCons (tSl (qSl K) (tVar 3) tNoPart (tPart (tC (.int 2)))) (tCons (tSl (qSl K) (tVar 3) (tPart (tUn (rU fun i => .int (-i)) (tC (.int 3)))) tNoPart) (tCons (tSl (qSl K) (tVar 3) tNoPart (tPart (tC (.int 4)))) (tCons (tOp (qAdd K) (tOp qMul (tSl (qSl K) (tVar 3) tNoPart (tPart (tC (.int 1)))) (tC (.int 3))) (tVar 3)) tNil))))))) (gName 4))
  (tSeq (tAsg (tOp (qIx K) (tVar 4) (tVar 2)) (gName 5))
  (tRet (tOp (qIx K) (tVar 5) (tCall (sp__law_draw K) [] E0 (tCons (tVar 0) (tCons (tCB (qLen K) (tCons (tVar 5) tNil)) tNil))))))))
/-- slots: _law_deck_here, _law_most, _law_many, _law_style, _law_found, _law_spot -/
def t__law_thread (K : PySem.W.Frag) (E : XK) : TS :=
  (tSeq (tPar3 2 3 4 (tCons (tLst (tCons (tCall (sp__law_draw K) [] E0 (tCons (tVar 0) (tCons (tOp (qAdd K) (tCB qMin (tCons (tVar 1) (tCons (tC (.int 6)) tNil))) (tC (.int 1))) tNil))) (tCons (tCall (sp__law_draw K) [] E0 (tCons (tVar 0) (tCons (tOp (qAdd K) (tVar 1) (tC (.int 1))) tNil))) (tCons (tVar 1) tNil)))) (tCons (tCall (sp__law_draw K) [] E0 (tCons (tVar 0) (tCons (tC (.int 6)) tNil))) (tCons (tLst tNil) tNil))))
  (tSeq (tFor (iRng1 (tCons (tOp (qIx K) (tVar 2) (tCall (sp__law_draw K) [] E0 (tCons (tVar 0) (tCons (tC (.int 3)) tNil)))) tNil)) (gName 5) (tDrop (tBM K "list" rAppend (tVar 4) (tCons (tCall (sp__law_parent K) [] E0 (tCons (tVar 0) (tCons (tVar 5) (tCons (tVar 3) tNil)))) tNil))))
  (tRet (tVar 4))))
end FT
namespace FT
open PySem PySem.Spec PyProof.Rows L2
theorem pure__law_draw {K : PySem.W.Frag} {E : XK} {H : Hp} {Q : VK} {vs : List V} (h : sp__law_draw K vs H Q E) : t__law_draw K E (DD Q) (L2.start ["_law_deck_here", "_law_many", "_law_pool", "_law_found", "_law_mixed"] vs) H := by
  obtain ⟨d, n, many, B, R, i, seg, rfl, ⟨pl, ps, vs, rfl, hl, hp0, hp1, hv⟩, S, hi, hn, hm0, hm1, q⟩ := h
  show t__law_draw K E (DD Q) [some (.ref d), some (.int many), none, none, none] H
  have g0 : ∀ {H' : Hp} {p : Addr} {xs : List V} {i : Nat} {v : V} {Q : VK}, H' p = some (.lst xs) → xs[i]? = some v → Q v H' → qIx K (.ref p) (.int (i : Int)) H' Q := fun h1 h2 q => x_ixL (sq_l h1) (atI_nat h2) q
  have hd := S.at_ i 0 hi rfl
  have hpl := S.at_ i 1 hi rfl
  -- the pool
  have hj : n % ps.length < ps.length := Nat.mod_lt _ hp0
  obtain ⟨p, hp⟩ : ∃ p, ps[n % ps.length]? = some p := ⟨_, List.getElem?_eq_getElem hj⟩
  obtain ⟨v, hv1⟩ : ∃ v, vs[n % ps.length]? = some v := ⟨_, List.getElem?_eq_getElem (by omega)⟩
  have hseg : ((d, HO.lst [.ref pl, .int (n : Int)]) :: (pl, .lst (ps.map .ref)) :: pools ps vs)[2 + n % ps.length]? = some (p, HO.lst [.int v.1, .int v.2.1, .int v.2.2]) := by
    rw [show 2 + n % ps.length = (n % ps.length + 1) + 1 by omega, List.getElem?_cons_succ, List.getElem?_cons_succ]
    exact pools_get hp hv1
  have hb := hv v (List.mem_of_getElem? hv1)
  unfold t__law_draw
  walk_at "z"
  refine g0 (i := 0) hd rfl ?_
  walk_at "z"
  refine g0 (i := 1) hd rfl ?_
  walk_at "z"
  refine g0 (i := 0) hd rfl ?_
  walk_at "z"
  have e1 : (n : Int) % ((ps.map V.ref).length : Int) = ((n % ps.length : Nat) : Int) := by rw [List.length_map, Int.natCast_emod]
  refine x_modI (by rw [List.length_map]; omega) ?_
  rw [e1]
  refine g0 hpl (v := .ref p) (by rw [List.getElem?_map, hp] <;> rfl) ?_
  walk_at "z"
  refine g0 (i := 1) hd rfl ?_
  walk_at "z"
  refine ⟨d, _, 1, 1, rfl, rfl, hd, ixN_nat (k := 1) (by simp), ?_⟩
  have S1 := S.set2 i 0 hi rfl (o' := .lst [.ref pl, .int ((n : Int) + 1)])
  have hi1 : (R.set i _)[i]? = some ((d, .lst [.ref pl, .int ((n : Int) + 1)]) :: (pl, .lst (ps.map .ref)) :: pools ps vs) := set_at hi
  have hseg1 : ((d, HO.lst [.ref pl, .int ((n : Int) + 1)]) :: (pl, .lst (ps.map .ref)) :: pools ps vs)[2 + n % ps.length]? = some (p, HO.lst [.int v.1, .int v.2.1, .int v.2.2]) := by
    rw [show 2 + n % ps.length = (n % ps.length + 1) + 1 by omega, List.getElem?_cons_succ, List.getElem?_cons_succ]
    exact pools_get hp hv1
  change tSeq _ _ _ _ (upd H d (.lst [.ref pl, .int ((n : Int) + 1)]))
  have hpo := S1.at_ i _ hi1 hseg1
  generalize hH1 : upd H d (.lst [.ref pl, .int ((n : Int) + 1)]) = H1 at S1 hpo
  -- behind: the pool changed to v'
  have fin : ∀ (v' : Int × Int × Int) (x : Int), 0 ≤ x → x < many → 0 ≤ v'.2.2 → v'.2.2 ≤ 4000 + ((n : Int) + 1) → Q (.int x) (upd H1 p (.lst [.int v'.1, .int v'.2.1, .int v'.2.2])) := by
    intro v' x h0 h1 h2 h3
    have S2 := S1.set2 i _ hi1 hseg1 (o' := .lst [.int v'.1, .int v'.2.1, .int v'.2.2])
    rw [List.set_set] at S2
    refine q x _ _ h0 h1 ⟨pl, ps, vs.set (n % ps.length) v', ?_, by rw [List.length_set]; exact hl, hp0, hp1, fun y hy => ?_⟩ S2
    · rw [show 2 + n % ps.length = (n % ps.length + 1) + 1 by omega, List.set_cons_succ, List.set_cons_succ, pools_set hp] <;> rfl
    · rcases List.mem_or_eq_of_mem_set hy with e | e
      · have := hv y e
        omega
      · rw [e]
        omega
  walk_at "z"
  refine g0 (i := 1) hpo rfl ?_
  walk_at "z"
  have thn : 0 < v.1 → (tSeq (tAsg (tOp qMod (tOp (qIx K) (tVar 2) (tC (.int 0))) (tVar 1)) (gName 3))
      (tSeq (tAsg (tOp qDiv (tOp (qIx K) (tVar 2) (tC (.int 0))) (tVar 1)) (gSub (tVar 2) (tC (.int 0)) rSetL)) (tRet (tVar 3)))) (DD Q) [some (.ref d), some (.int many), some (.ref p), none, none] H1 := by
    intro hv0
    walk_at "z"
    refine g0 (i := 0) hpo rfl ?_
    walk_at "z"
    refine x_modI hm0 ?_
    walk_at "z"
    refine g0 (i := 0) hpo rfl ?_
    walk_at "z"
    refine x_divI (divW hm0 (by omega)) ?_
    walk_at "z"
    refine ⟨p, _, 0, 0, rfl, rfl, hpo, ixN_nat (k := 0) (by simp), ?_⟩
    walk_at "z"
    have h1 := emod_in (i := v.1) hm0
    exact fin (v.1 / many, v.2.1, v.2.2) _ h1.1 h1.2 hb.1 (by show v.2.2 ≤ _; omega)
  have els : (tSeq (tAsg (tOp (qAdd K) (tOp (qIx K) (tVar 2) (tC (.int 2))) (tC (.int 1))) (gSub (tVar 2) (tC (.int 2)) rSetL))
      (tSeq (tAsg (tOp (qAdd K) (tOp qMod (tOp (qIx K) (tVar 2) (tC (.int 0))) (tC (.int 162259276829213363391578010288127))) (tOp qMul (tC (.int 982451653)) (tOp (qIx K) (tVar 2) (tC (.int 2))))) (gName 4))
      (tSeq (tAsg (tOp qMod (tOp qPow (tVar 4) (tC (.int 3))) (tC (.int 618970019642690137449562111))) (gName 4))
      (tSeq (tAsg (tOp qMod (tOp qPow (tOp (qAdd K) (tVar 4) (tOp qMul (tC (.int 49979687)) (tOp (qIx K) (tVar 2) (tC (.int 2))))) (tC (.int 3))) (tC (.int 162259276829213363391578010288127))) (gName 4))
      (tRet (tOp qMod (tOp qDiv (tVar 4) (tC (.int 131072))) (tVar 1))))))) (DD Q) [some (.ref d), some (.int many), some (.ref p), none, none] H1 := by
    walk_at "z"
    refine g0 (i := 2) hpo rfl ?_
    walk_at "z"
    refine ⟨p, _, 2, 2, rfl, rfl, hpo, ixN_nat (k := 2) (by simp), ?_⟩
    have hq : (upd H1 p (.lst [.int v.1, .int v.2.1, .int (v.2.2 + 1)])) p = some (.lst [.int v.1, .int v.2.1, .int (v.2.2 + 1)]) := upd_same
    change tSeq _ _ _ _ (upd H1 p (.lst [.int v.1, .int v.2.1, .int (v.2.2 + 1)]))
    walk_at "z"
    refine g0 (i := 0) hq rfl ?_
    walk_at "z"
    refine x_modI (by decide) ?_
    walk_at "z"
    refine g0 (i := 2) hq rfl ?_
    walk_at "z"
    have m1 := emod_in (i := v.1) (j := 162259276829213363391578010288127) (by decide)
    generalize v.1 % 162259276829213363391578010288127 = x1 at m1
    refine x_mulI (mulW (by omega) (by omega) (by omega) (by omega)) ?_
    walk_at "z"
    refine x_powI (powW (by omega) (by omega) (by omega) (by omega)) ?_
    walk_at "z"
    refine x_modI (by decide) ?_
    walk_at "z"
    refine g0 (i := 2) hq rfl ?_
    walk_at "z"
    have m2 := emod_in (i := (x1 + 982451653 * (v.2.2 + 1)) ^ (3 : Int).toNat) (j := 618970019642690137449562111) (by decide)
    generalize (x1 + 982451653 * (v.2.2 + 1)) ^ (3 : Int).toNat % 618970019642690137449562111 = x2 at m2
    refine x_mulI (mulW (by omega) (by omega) (by omega) (by omega)) ?_
    walk_at "z"
    refine x_powI (powW (by omega) (by omega) (by omega) (by omega)) ?_
    walk_at "z"
    refine x_modI (by decide) ?_
    walk_at "z"
    refine x_divI (divW (by omega) (by omega)) ?_
    walk_at "z"
    refine x_modI hm0 ?_
    have m3 := emod_in (i := (x2 + 49979687 * (v.2.2 + 1)) ^ (3 : Int).toNat % 162259276829213363391578010288127 / 131072) hm0
    exact fin (v.1, v.2.1, v.2.2 + 1) _ m3.1 m3.2 (by show 0 ≤ v.2.2 + 1; omega) (by show v.2.2 + 1 ≤ _; omega)
  refine z_ite (fun c1 => ?_) (fun c1 => ?_)
  · refine x_test ?_
    walk_at "z"
    refine g0 (i := 0) hpo rfl ?_
    walk_at "z"
    refine z_ite (fun c2 => thn c2) (fun c2 => els)
  · walk_at "z1"
    exact els
theorem pure__law_deck {K : PySem.W.Frag} {E : XK} {H : Hp} {Q : VK} {vs : List V} (h : sp__law_deck K vs H Q E) : t__law_deck K E (DD Q) (L2.start ["_law_script", "_law_pools", "_law_k", "_law_cell"] vs) H := by
  obtain ⟨s, ns, rfl, hs, q⟩ := h
  show t__law_deck K E (DD Q) [some (.ref s), none, none, none] H
  have S := Z.start H
  unfold t__law_deck
  walk_at "z"
  intro pl H1 S1
  walk_at "z"
  have e1 : (if (if ((ns.map V.int).length : Int) < 63 then ((ns.map V.int).length : Int) else 63) > 1 then (if ((ns.map V.int).length : Int) < 63 then ((ns.map V.int).length : Int) else 63) else 1) = ((max 1 (min 63 ns.length) : Nat) : Int) := by
    rw [List.length_map]
    split <;> split <;> omega
  refine z_rng1 (max 1 (min 63 ns.length)) e1 (by omega) ?_
  refine z_for_rng _ (fun i σ H' => ∃ (o2 o3 : Option V) (ps : List Addr) (vs : List (Int × Int × Int)), σ = [some (.ref s), some (.ref pl), o2, o3] ∧ Z H' H [(pl, .lst (ps.map .ref)) :: pools ps vs] ∧ ps.length = i ∧ vs.length = i ∧ ∀ v ∈ vs, 0 ≤ v.2.2 ∧ v.2.2 ≤ 4000) ⟨_, _, [], [], rfl, S1, rfl, rfl, fun v hv => nomatch hv⟩ ?_ ?_
  · rintro k σ H2 hk ⟨_, _, ps, vs, rfl, S2, h1, h2, h3⟩
    rw [Int.zero_add]
    have hs2 := S2.l hs
    walk_at "z"
    -- behind: the pool of a cell
    have fin : ∀ c : Int, tDrop (tBM K "list" rAppend (tVar 1) (tCons (tLst (tCons (tVar 3) (tCons (tCB qInt (tCons (tOp qGe (tVar 3) (tOp qPow (tC (.int 10)) (tC (.int 18)))) tNil)) (tCons (tOp (qAdd K) (tOp qMul (tC (.int 53)) (tVar 2)) (tC (.int 29))) tNil)))) tNil))
        { nx := fun σ H' => ∃ (o2 o3 : Option V) (ps : List Addr) (vs : List (Int × Int × Int)), σ = [some (.ref s), some (.ref pl), o2, o3] ∧ Z H' H [(pl, .lst (ps.map .ref)) :: pools ps vs] ∧ ps.length = k + 1 ∧ vs.length = k + 1 ∧ ∀ v ∈ vs, 0 ≤ v.2.2 ∧ v.2.2 ≤ 4000, rt := Q, bk := tRet (tLst (tCons (tVar 1) (tCons (tC (V.int 0)) tNil))) (DD Q),
          ct := fun σ H' => ∃ (o2 o3 : Option V) (ps : List Addr) (vs : List (Int × Int × Int)), σ = [some (.ref s), some (.ref pl), o2, o3] ∧ Z H' H [(pl, .lst (ps.map .ref)) :: pools ps vs] ∧ ps.length = k + 1 ∧ vs.length = k + 1 ∧ ∀ v ∈ vs, 0 ≤ v.2.2 ∧ v.2.2 ≤ 4000 }
        [some (.ref s), some (.ref pl), some (.int (k : Int)), some (.int c)] H2 := by
      intro c
      walk_at "z"
      refine x_powI (powW (by decide) (by decide) (by decide) (by decide)) ?_
      walk_at "z"
      refine x_mulI (mulW (by omega) (by omega) (by omega) (by omega)) ?_
      walk_at "z"
      intro q0 H3 S3
      have S4 := S3.join
      have S5 := S4.reseg (r' := (pl, .lst (ps.map .ref)) :: pools (ps ++ [q0]) (vs ++ [(c, (if decide ((10 : Int) ^ (18 : Int).toNat ≤ c) = true then 1 else 0), 53 * (k : Int) + 29)])) (by
        rw [pools_app (by omega)]
        exact List.perm_append_comm (l₁ := [_]))
      walk_at "z"
      refine z_append (n := 0) S5 rfl (by simp [sz]; omega) (fun H4 S6 => ?_)
      have e2 : ps.map V.ref ++ [V.ref q0] = (ps ++ [q0]).map V.ref := by simp
      rw [e2] at S6
      refine ⟨_, _, ps ++ [q0], _, rfl, S6, by simp [h1], by simp [h2], fun v hv => ?_⟩
      rcases List.mem_append.mp hv with hv | hv
      · exact h3 v hv
      · rw [List.mem_singleton.mp hv]
        exact ⟨by show 0 ≤ 53 * (k : Int) + 29; omega, by show 53 * (k : Int) + 29 ≤ 4000; omega⟩
    refine z_ite (fun c => ?_) (fun c => ?_)
    · walk_at "z"
      have hl : k < ns.length := by simpa using c
      refine x_ixL (v := .int ns[k]) hs2 (atI_nat (by simp [hl])) ?_
      exact fin _
    · exact fin 0
  · rintro σ H2 ⟨_, _, ps, vs, rfl, S2, h1, h2, h3⟩
    walk_at "z"
    intro d H3 S3
    exact q d _ H3 ⟨pl, ps, vs, rfl, by omega, by omega, by omega, fun v hv => by have := h3 v hv; omega⟩ S3.join
/-- not empty, each a comment that may be answered -/
def OkL (many : Nat) (xs : List V) : Prop := xs ≠ [] ∧ ∀ v ∈ xs, ∃ o, v = ov o ∧ okP many o
theorem OkL.sub {many : Nat} {xs ys : List V} (h : OkL many xs) (hn : ys ≠ []) (hs : ∀ v ∈ ys, v ∈ xs) : OkL many ys := ⟨hn, fun v hv => h.2 v (hs v hv)⟩
theorem OkL.app {many : Nat} {xs ys : List V} (h : OkL many xs) (h2 : OkL many ys) : OkL many (xs ++ ys) := ⟨by simp [h.1], fun v hv => (List.mem_append.mp hv).elim (h.2 v) (h2.2 v)⟩
theorem pure__law_parent {K : PySem.W.Frag} {E : XK} {H : Hp} {Q : VK} {vs : List V} (h : sp__law_parent K vs H Q E) : t__law_parent K E (DD Q) (L2.start ["_law_deck_here", "_law_many", "_law_style", "_law_able", "_law_some", "_law_few"] vs) H := by
  obtain ⟨d, n, many, style, B, R, i, seg, rfl, hD, S, hi, hn, hm, hst, q⟩ := h
  show t__law_parent K E (DD Q) [some (.ref d), some (.int (many : Int)), some (.int (style : Int)), none, none, none] H
  unfold t__law_parent
  walk_at "z"
  intro p0 H0 S0
  walk_at "z"
  refine z_lstRg S0 many rfl (by omega) fun p1 H1 S1 => ?_
  walk_at "z"
  refine z_cat S1 (S1.at_ 1 0 rfl rfl) (S1.at_ 0 0 rfl rfl) (by simp [sz, rng] <;> omega) (fun a H2 S2' => ?_)
  have S2 : Z H2 B ([(a, .lst ([.non] ++ rng many))] :: R) := S2'.sub (by simp)
  have hA : OkL many ([.non] ++ rng many) := by
    refine ⟨by simp, fun v hv => ?_⟩
    rcases List.mem_append.mp hv with h | h
    · rw [List.mem_singleton.mp h]
      exact ⟨none, rfl, fun j hj => nomatch hj⟩
    · obtain ⟨j, hj, rfl⟩ := List.mem_map.mp h
      refine ⟨some j, rfl, fun k hk => ?_⟩
      cases hk
      exact List.mem_range.mp hj
  have hAl : ([V.non] ++ rng many).length = many + 1 := by simp [rng] <;> omega
  generalize hab : [V.non] ++ rng many = able at S2 hA hAl
  have hne : able ≠ [] := hA.1
  walk_at "z"
  refine z_slL S2 (sq_l (S2.at_ 0 0 rfl rfl)) fun l1 H3 S3 => ?_
  walk_at "z"
  refine z_slL S3 (sq_l (S3.at_ 1 0 rfl rfl)) fun l2 H4 S4 => ?_
  walk_at "z"
  rw [show (1 : Int) = ((1 : Nat) : Int) from rfl, cut_pre, show (-((1 : Nat) : Int)) = (-((1 : Nat) : Int)) from rfl, cut_suffix (by decide)] at S4
  refine z_cat S4 (S4.at_ 1 0 rfl rfl) (S4.at_ 0 0 rfl rfl) (by simp [sz, hAl] <;> omega) (fun l3 H5 S5 => ?_)
  walk_at "z"
  refine z_slL S5 (sq_l (S5.at_ 3 0 rfl rfl)) fun l4 H6 S6 => ?_
  walk_at "z"
  refine z_slL S6 (sq_l (S6.at_ 4 0 rfl rfl)) fun l5 H7 S7 => ?_
  walk_at "z"
  refine z_slL S7 (sq_l (S7.at_ 5 0 rfl rfl)) fun l6 H8 S8 => ?_
  walk_at "z"
  refine z_slL S8 (sq_l (S8.at_ 6 0 rfl rfl)) fun l7 H9 S9 => ?_
  walk_at "z"
  rw [show (1 : Int) = ((1 : Nat) : Int) from rfl, show (2 : Int) = ((2 : Nat) : Int) from rfl, show (3 : Int) = ((3 : Nat) : Int) from rfl, show (4 : Int) = ((4 : Nat) : Int) from rfl, cut_pre, cut_pre, cut_pre, cut_suffix (by decide)] at S9
  refine z_rep S9 (S9.at_ 0 0 rfl rfl) (by decide) (by decide) (by simp [sz, hAl] <;> omega) (fun l8 H10 S10 => ?_)
  walk_at "z"
  refine z_cat S10 (S10.at_ 0 0 rfl rfl) (S10.at_ 8 0 rfl rfl) (by simp [sz, hAl] <;> omega) (fun l9 H11 S11 => ?_)
  walk_at "z"
  intro ls H12 S12
  have take_ok : ∀ k, 0 < k → OkL many (able.take k) := fun k hk => hA.sub (by
    intro e
    rcases List.take_eq_nil_iff.mp e with e | e
    · omega
    · exact hne e) fun v hv => List.mem_of_mem_take hv
  have drop_ok : ∀ k, 0 < k → OkL many (able.drop (able.length - k)) := fun k hk => hA.sub (by
    intro e
    have := List.drop_eq_nil_iff.mp e
    omega) fun v hv => List.mem_of_mem_drop hv
  have rep_ok : OkL many (List.replicate (3 : Int).toNat (able.take 1)).flatten := (take_ok 1 (by decide)).sub (by
    intro e
    have h1 := List.flatten_eq_nil_iff.mp e (able.take 1) (by simp)
    exact (take_ok 1 (by decide)).1 h1) fun v hv => by
      obtain ⟨l, hl, hv⟩ := List.mem_flatten.mp hv
      rw [List.eq_of_mem_replicate hl] at hv
      exact hv
  obtain ⟨few, xs, k, hat, hk, hok, hlen⟩ : ∃ (few : Addr) (xs : List V) (k : Nat), ([V.ref a, V.ref l3, V.ref l4, V.ref l5, V.ref l6, V.ref l9] : List V)[style]? = some (.ref few) ∧
      (∀ (H' : Hp) (R' : List Seg), Z H' B ([(ls, .lst [V.ref a, V.ref l3, V.ref l4, V.ref l5, V.ref l6, V.ref l9])] :: [(l9, .lst ((List.replicate (3 : Int).toNat (able.take 1)).flatten ++ able))] :: [(l8, .lst (List.replicate (3 : Int).toNat (able.take 1)).flatten)] :: [(l7, .lst (able.take 1))] ::
        [(l6, .lst (able.take 4))] :: [(l5, .lst (able.drop (able.length - 3)))] :: [(l4, .lst (able.take 2))] :: [(l3, .lst (able.take 1 ++ able.drop (able.length - 1)))] :: [(l2, .lst (able.drop (able.length - 1)))] :: [(l1, .lst (able.take 1))] :: [(a, .lst able)] :: R') → H' few = some (.lst xs)) ∧ OkL many xs ∧ xs.length ≤ 4000 := by
    match style, hst with
    | 0, _ => exact ⟨a, _, 10, rfl, fun H' R' S' => S'.at_ 10 0 rfl rfl, hA, by omega⟩
    | 1, _ => exact ⟨l3, _, 7, rfl, fun H' R' S' => S'.at_ 7 0 rfl rfl, (take_ok 1 (by decide)).app (drop_ok 1 (by decide)), by simp <;> omega⟩
    | 2, _ => exact ⟨l4, _, 6, rfl, fun H' R' S' => S'.at_ 6 0 rfl rfl, take_ok 2 (by decide), by simp <;> omega⟩
    | 3, _ => exact ⟨l5, _, 5, rfl, fun H' R' S' => S'.at_ 5 0 rfl rfl, drop_ok 3 (by decide), by simp <;> omega⟩
    | 4, _ => exact ⟨l6, _, 4, rfl, fun H' R' S' => S'.at_ 4 0 rfl rfl, take_ok 4 (by decide), by simp <;> omega⟩
    | 5, _ => exact ⟨l9, _, 1, rfl, fun H' R' S' => S'.at_ 1 0 rfl rfl, rep_ok.app hA, by simp <;> omega⟩
  have hH := hk _ _ S12
  walk_at "z"
  refine x_ixL (sq_l (S12.at_ 0 0 rfl rfl)) (atI_nat hat) ?_
  walk_at "z"
  have hpos : 0 < xs.length := List.length_pos_iff.mpr hok.1
  refine ⟨d, n, _, B, _, i + 11, seg, rfl, hD, S12, hi, hn, by omega, by omega, fun x seg' H13 h0 h1 hD' S13 => ?_⟩
  have hH2 := hk _ _ S13
  obtain ⟨m, rfl⟩ : ∃ m : Nat, x = (m : Int) := ⟨x.toNat, by omega⟩
  have hm2 : m < xs.length := by omega
  obtain ⟨o, ho, hoo⟩ := hok.2 xs[m] (List.getElem_mem hm2)
  refine x_ixL (sq_l hH2) (atI_nat (y := ov o) (by rw [List.getElem?_eq_getElem hm2, ho])) ?_
  refine q o seg' H13 hoo hD' (S13.sub ?_)
  show (R.set i seg').Sublist (_ :: _ :: _ :: _ :: _ :: _ :: _ :: _ :: _ :: _ :: _ :: R.set i seg')
  repeat' first | exact List.Sublist.refl _ | refine List.Sublist.cons _ ?_
theorem Th.snoc {T : List (Option Nat)} {x : Option Nat} (h : Th T) (hx : okP T.length x) : Th (T ++ [x]) := fun i y hy => by
  by_cases hi : i < T.length
  · rw [List.getElem?_append_left hi] at hy
    exact h i y hy
  · rw [List.getElem?_append_right (by omega)] at hy
    cases hz : i - T.length with
    | zero =>
      rw [hz] at hy
      cases hy
      have e : i = T.length := by omega
      rw [e]
      exact hx
    | succ k => rw [hz] at hy; simp at hy
theorem pure__law_thread {K : PySem.W.Frag} {E : XK} {H : Hp} {Q : VK} {vs : List V} (h : sp__law_thread K vs H Q E) : t__law_thread K E (DD Q) (L2.start ["_law_deck_here", "_law_most", "_law_many", "_law_style", "_law_found", "_law_spot"] vs) H := by
  obtain ⟨d, n, most, B, R, i, seg, rfl, hD, S, hi, hn, hm, q⟩ := h
  show t__law_thread K E (DD Q) [some (.ref d), some (.int (most : Int)), none, none, none, none] H
  unfold t__law_thread
  walk_at "z"
  refine ⟨d, n, _, B, R, i, seg, rfl, hD, S, hi, by omega, by split <;> omega, by split <;> omega, fun x1 s1 H1 a1 b1 D1 S1 => ?_⟩
  have hi1 := set_at (r' := s1) hi
  walk_at "z"
  refine ⟨d, n + 1, _, B, _, i, s1, rfl, D1, S1, hi1, by omega, by omega, by omega, fun x2 s2 H2 a2 b2 D2 S2 => ?_⟩
  rw [List.set_set] at S2
  have hi2 := set_at (r' := s2) hi
  walk_at "z"
  intro pm H3 S3
  walk_at "z"
  refine ⟨d, n + 2, _, B, _, i + 1, s2, rfl, D2, S3, hi2, by omega, by omega, by omega, fun x3 s3 H4 a3 b3 D3 S4 => ?_⟩
  rw [List.set_cons_succ, List.set_set] at S4
  have hi3 := set_at (r' := s3) hi
  walk_at "z"
  intro pf H5 S5
  walk_at "z"
  refine ⟨d, n + 3, _, B, _, i + 2, s3, rfl, D3, S5, hi3, by omega, by omega, by omega, fun x4 s4 H6 a4 b4 D4 S6 => ?_⟩
  rw [List.set_cons_succ, List.set_cons_succ, List.set_set] at S6
  have hi4 := set_at (r' := s4) hi
  -- how many
  obtain ⟨k, hk, hat⟩ : ∃ k : Nat, k ≤ most ∧ ([.int x1, .int x2, .int (most : Int)] : List V)[x4.toNat]? = some (.int (k : Int)) := by
    have h1 : x1 ≤ (most : Int) := by
      have := b1
      split at this <;> omega
    match hx : x4.toNat, (by omega : x4.toNat < 3) with
    | 0, _ => exact ⟨x1.toNat, by omega, by show some (V.int x1) = _; congr 2; omega⟩
    | 1, _ => exact ⟨x2.toNat, by omega, by show some (V.int x2) = _; congr 2; omega⟩
    | 2, _ => exact ⟨most, by omega, rfl⟩
  obtain ⟨m4, rfl⟩ : ∃ m : Nat, x4 = (m : Int) := ⟨x4.toNat, by omega⟩
  rw [Int.toNat_natCast] at hat
  obtain ⟨style, rfl⟩ : ∃ m : Nat, x3 = (m : Int) := ⟨x3.toNat, by omega⟩
  refine x_ixL (sq_l (S6.at_ 1 0 rfl rfl)) (atI_nat hat) ?_
  walk_at "z"
  refine z_rng1 k rfl (by omega) ?_
  refine z_for_rng k (fun j σ H' => ∃ (o5 : Option V) (T : List (Option Nat)) (n' : Nat) (s' : Seg), σ = [some (.ref d), some (.int (most : Int)), some (.ref pm), some (.int (style : Int)), some (.ref pf), o5] ∧ Th T ∧ T.length = j ∧ n' ≤ n + 4 + j ∧ Deck s' d n' ∧
    Z H' B ([(pf, .lst (T.map ov))] :: R.set i s')) ⟨_, [], n + 4, s4, rfl, fun i x hx => by simp at hx, rfl, by omega, D4, S6.sub (by simp)⟩ ?_ ?_
  · rintro j σ H7 hj ⟨_, T, n', s', rfl, hT, hl, hn', hD', S7⟩
    have hi5 := set_at (r' := s') hi
    rw [Int.zero_add]
    walk_at "z"
    refine ⟨d, n', j, style, B, _, i + 1, s', rfl, hD', S7, hi5, by omega, by omega, by omega, fun x s'' H8 hx hD'' S8 => ?_⟩
    rw [List.set_cons_succ, List.set_set] at S8
    walk_at "z"
    refine z_append (n := 0) S8 rfl (by simp [sz, hl]; omega) (fun H9 S9 => ?_)
    have e : T.map ov ++ [ov x] = (T ++ [x]).map ov := by simp
    rw [e] at S9
    exact ⟨_, T ++ [x], n' + 1, s'', rfl, hT.snoc (by rw [hl]; exact hx), by simp [hl], by omega, hD'', S9⟩
  · rintro σ H7 ⟨_, T, n', s', rfl, hT, hl, hn', hD', S7⟩
    walk_at "z"
    exact q pf T n' s' H7 hT (by omega) (by omega) hD' S7
end FT

namespace FT
open PySem PySem.Spec PyProof.Rows L2
/-! ### promises -/
def nV (ns : List Nat) : List V := ns.map fun (n : Nat) => V.int (n : Int)
@[simp] theorem nV_len (ns : List Nat) : (nV ns).length = ns.length := by simp [nV]
theorem nV_get {ns : List Nat} {i : Nat} (h : i < ns.length) : (nV ns)[i]? = some (V.int ((ns.getD i 0 : Nat) : Int)) := by
  unfold nV
  rw [List.getElem?_map, List.getD_eq_getElem?_getD, List.getElem?_eq_getElem h] <;> rfl
theorem nV_int (ns : List Nat) : nV ns = (ns.map fun (n : Nat) => (n : Int)).map V.int := by
  unfold nV
  rw [List.map_map] <;> rfl
/-- the value's kind is known, as far as is_integer looks -/
def KdI (K : PySem.W.Frag) (H : Hp) (v : V) : Prop := ∃ T b1 b2, Kd K H v T ∧ kitB T "int" = some b1 ∧ kitB T "bool" = some b2 ∧ ((b1 && !b2) = true ↔ ∃ i, v = .int i)
theorem kdI_int (K : PySem.W.Frag) (H : Hp) (i : Int) : KdI K H (.int i) := ⟨"int", true, false, .base (.int i), by decide +kernel, by decide +kernel, ⟨fun _ => ⟨i, rfl⟩, fun _ => rfl⟩⟩
theorem isI_not {v : V} {lo : Int} {hi : Option Int} (h : ¬ ∃ i, v = .int i) : isI v lo hi = false := by
  cases v <;> first | rfl | exact absurd ⟨_, rfl⟩ h
def sp_is_integer (K : PySem.W.Frag) : Sp := fun vs H Q _ => ∃ v lo hi, vs = [v, .int lo, hiV hi] ∧ KdI K H v ∧ Q (.bl (isI v lo hi)) H
end FT
namespace FT
open PySem PySem.Spec PyProof.Rows L2
/-! ### threads: promises -/
theorem kd_list {K : PySem.W.Frag} {H : Hp} {a : Addr} {xs : List V} (h : SqL K H a xs) : Kd K H (.ref a) "list" := by
  rcases h with (h | ⟨o, h⟩) | ⟨o, its, n, h, c, _⟩
  · exact .base (.lst h)
  · exact .base (.frz h)
  · exact .kList h c
theorem kd_tup {K : PySem.W.Frag} {H : Hp} {a : Addr} {xs : List V} (h : SqT K H a xs) : Kd K H (.ref a) "tuple" := by
  rcases h with (h | ⟨o, h⟩) | ⟨o, its, n, h, c, _⟩
  · exact .base (.tup h)
  · exact .fTuple h
  · exact .kTuple h c
theorem kdI_ov (K : PySem.W.Frag) (H : Hp) (o : Option Nat) : KdI K H (ov o) := by
  cases o with
  | some j => exact kdI_int K H j
  | none => exact ⟨"NoneType", false, false, .base .non, by decide +kernel, by decide +kernel, by
    constructor
    · intro h; cases h
    · rintro ⟨i, h⟩; cases h⟩
theorem ov_get {T : FM.T3} {i : Nat} (h : i < T.length) : (T.map ov)[i]? = some (ov (FM.par T i)) := by
  unfold FM.par
  rw [List.getElem?_map, List.getD_eq_getElem?_getD, List.getElem?_eq_getElem h] <;> rfl
theorem nV_at {ns : List Nat} {i : Nat} (h : i < ns.length) : (nV ns)[i]? = some (V.int ((ns[i] : Nat) : Int)) := by
  unfold nV
  rw [List.getElem?_map, List.getElem?_eq_getElem h] <;> rfl
theorem flat_nV (ns : List Nat) : (nV ns).all flatV = true := List.all_eq_true.mpr fun v hv => by
  obtain ⟨n, _, rfl⟩ := List.mem_map.mp hv
  rfl
theorem flat_ov (o : Option Nat) : flatV (ov o) = true := by cases o <;> rfl
theorem inV_nV (o : Option Nat) (ns : List Nat) : inV (ov o) (nV ns) = (match o with
    | none => false
    | some p => ns.contains p) := by
  unfold inV nV
  rw [List.any_map]
  cases o with
  | none =>
    refine List.any_eq_false.mpr fun n _ => ?_
    exact Bool.false_ne_true
  | some p =>
    show _ = ns.contains p
    rw [List.contains_eq_any_beq]
    refine congrArg (fun f => List.any ns f) (funext fun n => ?_)
    show ((n : Int) == (p : Int)) = (p == n)
    by_cases h : p = n
    · subst h
      rw [beq_self_eq_true, beq_self_eq_true]
    · have : ¬ (n : Int) = (p : Int) := by omega
      rw [beq_eq_false_iff_ne.mpr this, beq_eq_false_iff_ne.mpr h]
def sp_require_comment (K : PySem.W.Frag) : Sp := fun vs H Q E => ∃ (many : Int) (v : V), vs = [.int many, v] ∧ KdI K H v ∧ (isI v 0 (some (many - 1)) = true → Q .non H) ∧ (isI v 0 (some (many - 1)) = false → E (.ref (He.ga K "InvalidComment")) none H)
/-- an item that can stand at k in a thread -/
def ansOk (k : Nat) (v : V) : Bool := decide (v = .non) || isI v 0 (some ((k : Int) - 1))
def thV (xs : List V) : Bool := (List.range xs.length).all fun k => ansOk k (xs.getD k .non)
/-- any value: a list, or none -/
def sp_is_thread (K : PySem.W.Frag) : Sp := fun vs H Q _ => ∃ v, vs = [v] ∧
  ((∃ (a : Addr) (xs : List V), v = .ref a ∧ SqL K H a xs ∧ xs.length ≤ 1000 ∧ (∀ (k : Nat) (x : V), xs[k]? = some x → x = .non ∨ ∀ H', Ex H H' → KdI K H' x) ∧ ∀ H', Ex H H' → Q (.bl (thV xs)) H') ∨
    ∃ T0, Kd K H v T0 ∧ kitB T0 "list" = some false ∧ Q (.bl false) H)
theorem ansOk_ov (k : Nat) (o : Option Nat) : ansOk k (ov o) = true ↔ okP k o := by
  cases o with
  | none => exact ⟨fun _ j h => (nomatch h), fun _ => rfl⟩
  | some j =>
    show (decide (V.int (j : Int) = .non) || (decide ((0 : Int) ≤ (j : Int)) && decide ((j : Int) ≤ (k : Int) - 1))) = true ↔ _
    rw [decide_eq_false (by intro z; cases z), Bool.false_or, Bool.and_eq_true, decide_eq_true_iff, decide_eq_true_iff]
    constructor
    · intro h i e
      cases e
      omega
    · intro h
      have := h j rfl
      omega
theorem thV_iff (T : FM.T3) : thV (T.map ov) = true ↔ FM.Th T := by
  unfold thV
  rw [List.all_eq_true]
  constructor
  · intro h i j e
    have hi := (List.getElem?_eq_some_iff.mp e).1
    have := h i (by rw [List.length_map]; exact List.mem_range.mpr hi)
    rw [List.getD_eq_getElem?_getD, List.getElem?_map, e] at this
    exact (ansOk_ov i (some j)).mp this j rfl
  · intro h i hi
    rw [List.length_map, List.mem_range] at hi
    rw [List.getD_eq_getElem?_getD, List.getElem?_map, List.getElem?_eq_getElem hi]
    refine (ansOk_ov i T[i]).mpr fun j e => h i j ?_
    rw [List.getElem?_eq_getElem hi, e]
theorem isth_in {K : PySem.W.Frag} {H : Hp} {Q : VK} {E : XK} {a : Addr} {T : FM.T3} (ha : SqL K H a (T.map ov)) (hT : FM.Th T) (hl : T.length ≤ 1000) (q : ∀ H', Ex H H' → Q (.bl true) H') : sp_is_thread K [.ref a] H Q E := by
  refine ⟨_, rfl, .inl ⟨a, T.map ov, rfl, ha, by rw [List.length_map]; exact hl, fun k x hx => .inr fun H' _ => ?_, fun H' ex => ?_⟩⟩
  · rw [List.getElem?_map] at hx
    cases e : T[k]? with
    | none => rw [e] at hx; cases hx
    | some o =>
      rw [e] at hx
      cases hx
      exact kdI_ov K H' o
  · rw [(thV_iff T).mpr hT]
    exact q H' ex
/-- a new list of ints -/
abbrev NewL (H : Hp) (ns : List Nat) (Q : VK) : Prop := ∀ p H', Ex H H' → H p = none → H' p = some (.lst (nV ns)) → Q (.ref p) H'
def sp_order_in (K : PySem.W.Frag) : Sp := fun vs H Q _ => ∃ (a : Addr) (b : Bool) (T : FM.T3), vs = [.ref a] ∧ SqB b K H a (T.map ov) ∧ FM.Th T ∧ T.length ≤ 1000 ∧ NewL H (FM.ordL T) Q
def sp_newest_in (K : PySem.W.Frag) : Sp := fun vs H Q _ => ∃ (a : Addr) (b : Bool) (T : FM.T3), vs = [.ref a] ∧ SqB b K H a (T.map ov) ∧ FM.Th T ∧ T.length ≤ 1000 ∧ NewL H (FM.newL T) Q
def sp_depths_in (K : PySem.W.Frag) : Sp := fun vs H Q _ => ∃ (a : Addr) (T : FM.T3), vs = [.ref a] ∧ (SqL K H a (T.map ov) ∨ SqT K H a (T.map ov)) ∧ FM.Th T ∧ T.length ≤ 1000 ∧ NewL H (FM.depL T) Q
end FT
namespace FT
open PySem PySem.Spec PyProof.Rows L2
/-- slots: value, low, high -/
def t_is_integer (K : PySem.W.Frag) (E : XK) : TS :=
  (tSeq (tIfS (tOr (tNot (tB (tCB (qIsi K) (tCons (tVar 0) (tCons (tC (.ty "int")) tNil))))) (tB (tCB (qIsi K) (tCons (tVar 0) (tCons (tC (.ty "bool")) tNil))))) (tRet (tC (.bl false))) tNext)
  (tRet (tAndV (tOp qLe (tVar 1) (tVar 0)) (tOrV (tOp qIs (tVar 2) (tC .non)) (tOp qLe (tVar 0) (tVar 2))))))
/-- slots: many, value -/
def t_require_comment (K : PySem.W.Frag) (E : XK) : TS :=
  (tIfS (tNot (tB (tCall (sp_is_integer K) [] E0 (tCons (tVar 1) (tCons (tC (.int 0)) (tCons (tOp qSub (tVar 0) (tC (.int 1))) tNil)))))) (tRaise (wF E) (He.ga K "InvalidComment")) tNext)
/-- slots: value, comment, answers -/
def t_is_thread (K : PySem.W.Frag) (E : XK) : TS :=
  (tSeq (tIfS (tNot (tB (tCB (qIsi K) (tCons (tVar 0) (tCons (tC (.ty "list")) tNil))))) (tRet (tC (.bl false))) tNext)
  (tRet (tCB (rAll K) (tCons (tLc (iEnum K (tCons (tVar 0) tNil)) (gTup K 2 (gCons (gName 1) (gCons (gName 2) gNil))) tYes (tOrV (tOp qIs (tVar 2) (tC .non)) (tCall (sp_is_integer K) [] E0 (tCons (tVar 2) (tCons (tC (.int 0)) (tCons (tOp qSub (tVar 1) (tC (.int 1))) tNil))))) [1, 2]) tNil))))
/-- slots: thread, found, comment, answers, place, family -/
def t_order_in (K : PySem.W.Frag) (E : XK) : TS :=
  (tSeq (tAsg (tLst tNil) (gName 1))
  (tSeq (tFor (iEnumB K (tCons (tVar 0) tNil)) (gTup K 2 (gCons (gName 2) (gCons (gName 3) gNil))) (tSeq (tAsg (tCB (qLen K) (tCons (tVar 1) tNil)) (gName 4))
  (tSeq (tIfS (tTest (tOp qIsNot (tVar 3) (tC .non))) (tSeq (tAsg (tLst (tCons (tVar 3) tNil)) (gName 5))
  (tSeq (tAsg (tOp (qAdd K) (tBM K "list" (rIndex K) (tVar 1) (tCons (tVar 3) tNil)) (tC (.int 1))) (gName 4))
  (tWhile (tAnd (tTest (tOp qLt (tVar 4) (tCB (qLen K) (tCons (tVar 1) tNil)))) (tTest (tOp (qIn K) (tOp (qIx K) (tVar 0) (tOp (qIx K) (tVar 1) (tVar 4))) (tVar 5)))) (tSeq (tDrop (tBM K "list" rAppend (tVar 5) (tCons (tOp (qIx K) (tVar 1) (tVar 4)) tNil)))
  (tAug 4 (tC (.int 1)) (ipI fun i j => i + j)))))) tNext)
  (tDrop (tBM K "list" rInsert (tVar 1) (tCons (tVar 4) (tCons (tVar 2) tNil)))))))
  (tRet (tVar 1))))
/-- slots: thread, found, comment, answers -/
def t_newest_in (K : PySem.W.Frag) (E : XK) : TS :=
  (tSeq (tAsg (tLst tNil) (gName 1))
  (tSeq (tFor (iEnumB K (tCons (tVar 0) tNil)) (gTup K 2 (gCons (gName 2) (gCons (gName 3) gNil))) (tDrop (tBM K "list" rInsert (tVar 1) (tCons (tIf (tTest (tOp qIs (tVar 3) (tC .non))) (tC (.int 0)) (tOp (qAdd K) (tBM K "list" (rIndex K) (tVar 1) (tCons (tVar 3) tNil)) (tC (.int 1)))) (tCons (tVar 2) tNil)))))
  (tRet (tVar 1))))
/-- slots: thread, found, answers -/
def t_depths_in (K : PySem.W.Frag) (E : XK) : TS :=
  (tSeq (tAsg (tLst tNil) (gName 1))
  (tSeq (tFor (iSeq K (tVar 0)) (gName 2) (tDrop (tBM K "list" rAppend (tVar 1) (tCons (tIf (tTest (tOp qIs (tVar 2) (tC .non))) (tC (.int 0)) (tOp (qAdd K) (tOp (qIx K) (tVar 1) (tVar 2)) (tC (.int 1)))) tNil))))
  (tRet (tVar 1))))
end FT
namespace FT
open PySem PySem.Spec PyProof.Rows L2
theorem pure_is_integer0 {K : PySem.W.Frag} {E : XK} {H : Hp} {Q : VK} {v : V} {lo : Int} {hi : Option Int} (k : KdI K H v) (q : Q (.bl (isI v lo hi)) H) : t_is_integer K E (DD Q) [some v, some (.int lo), some (hiV hi)] H := by
  obtain ⟨T, b1, b2, h0, h1, h2, h3⟩ := k
  unfold t_is_integer
  walk_at "z"
  refine z_isi h0 h1 ?_
  walk_at "z"
  have no : (b1 && !b2) = false → Q (.bl false) H := fun e => by
    rw [isI_not (fun z => by rw [h3.mpr z] at e; cases e)] at q
    exact q
  have out : (b1 && !b2) = true → (tRet (tAndV (tOp qLe (tVar 1) (tVar 0)) (tOrV (tOp qIs (tVar 2) (tC .non)) (tOp qLe (tVar 0) (tVar 2))))) (DD Q) [some v, some (.int lo), some (hiV hi)] H := fun e => by
    obtain ⟨i, rfl⟩ := h3.mp e
    walk_at "z"
    refine z_ite (fun c => ?_) (fun c => ?_)
    · walk_at "z"
      cases hi with
      | none =>
        have e2 : isI (.int i) lo none = true := by simp [isI, c]
        rw [e2] at q
        refine z_ite (fun _ => q) (fun z => absurd rfl z)
      | some hh =>
        refine z_ite (fun z => by cases z) (fun _ => ?_)
        show tOp qLe (tVar 0) (tVar 2) [some (.int i), some (.int lo), some (.int hh)] H _
        walk_at "z"
        have e2 : isI (.int i) lo (some hh) = decide (i ≤ hh) := by simp [isI, c]
        rw [e2] at q
        exact q
    · have e2 : isI (.int i) lo hi = false := by simp [isI, c]
      rw [e2] at q
      exact q
  refine z_iteNB (fun e1 => ?_) (fun e1 => ?_)
  · walk_at "z"
    exact no (by rw [e1]; rfl)
  · walk_at "z"
    refine z_isi h0 h2 ?_
    walk_at "z"
    refine z_iteB (fun e2 => ?_) (fun e2 => ?_)
    · walk_at "z"
      exact no (by rw [e1, e2]; rfl)
    · exact out (by rw [e1, e2]; rfl)
theorem pure_is_integer {K : PySem.W.Frag} {E : XK} {H : Hp} {Q : VK} {vs : List V} (h : sp_is_integer K vs H Q E) : t_is_integer K E (DD Q) (L2.start ["value", "low", "high"] vs) H := by
  obtain ⟨v, lo, hi, rfl, k, q⟩ := h
  exact pure_is_integer0 k q
end FT
namespace FT
open PySem PySem.Spec PyProof.Rows L2
theorem idx_facts {l : List Nat} {a : Nat} (h : a ∈ l) : ∃ z, (nV l)[FM.idx l a]? = some z ∧ eqV z (.int (a : Int)) = true ∧ ∀ (m : Nat) (z' : V), m < FM.idx l a → (nV l)[m]? = some z' → eqV z' (.int (a : Int)) = false := by
  have hl := FM.idx_lt h
  refine ⟨_, nV_at hl, ?_, fun m z' hm hz => ?_⟩
  · rw [FM.idx_get h]
    simp [eqV]
  · have hm2 : m < l.length := by omega
    rw [nV_at hm2] at hz
    cases hz
    have := List.not_of_lt_findIdx (p := fun x => x == a) (xs := l) (i := m) hm
    have hne : ¬ l[m] = a := by simpa using this
    have : ¬ ((l[m] : Nat) : Int) = (a : Int) := by omega
    simp [eqV, this]
theorem ins_nV (l : List Nat) (p k : Nat) : (nV l).take p ++ [V.int (k : Int)] ++ (nV l).drop p = nV (FM.ins l p k) := by
  unfold nV FM.ins
  simp [List.map_take, List.map_drop]
theorem pure_order_in {K : PySem.W.Frag} {E : XK} {H : Hp} {Q : VK} {vs : List V} (h : sp_order_in K vs H Q E) : t_order_in K E (DD Q) (L2.start ["thread", "found", "comment", "answers", "place", "family"] vs) H := by
  obtain ⟨a, bb, T, rfl, ha, hT, hl, q⟩ := h
  show t_order_in K E (DD Q) [some (.ref a), none, none, none, none, none] H
  have S := Z.start H
  unfold t_order_in
  walk_at "z"
  intro f H1 S1
  walk_at "z"
  refine z_for_enumB bb (T.map ov) (fun k σ H' => ∃ o2 o3 o4 o5, σ = [some (.ref a), some (.ref f), o2, o3, o4, o5] ∧ Z H' H [[(f, .lst (nV (FM.ordN T k)))]]) ⟨_, _, _, _, rfl, S1⟩ ?_ ?_ ?_
  · rintro i σ H' - ⟨_, _, _, _, -, S2⟩
    exact S2.b ha
  · rintro k x T0 σ H2 H3 hx ⟨_, _, _, _, rfl, S2⟩ ex hT0 hT1
    have hk : k < T.length := by
      have := (List.getElem?_eq_some_iff.mp hx).1
      rwa [List.length_map] at this
    rw [ov_get hk] at hx
    cases hx
    have S3 := S2.ext ex
    have hlen : ((nV (FM.ordN T k)).length : Int) = (k : Int) := by rw [nV_len, FM.len_ordN]
    walk_at "z"
    rw [hlen]
    -- behind: the place is known
    have fin : ∀ (H4 : Hp) (N : List Seg) (o5 : Option V), Z H4 H (N ++ [[(f, .lst (nV (FM.ordN T k)))]]) →
        tDrop (tBM K "list" rInsert (tVar 1) (tCons (tVar 4) (tCons (tVar 2) tNil)))
          { nx := fun σ H' => ∃ o2 o3 o4 o5, σ = [some (.ref a), some (.ref f), o2, o3, o4, o5] ∧ Z H' H [[(f, .lst (nV (FM.ordN T (k + 1))))]], rt := Q, bk := tRet (tVar 1) (DD Q),
            ct := fun σ H' => ∃ o2 o3 o4 o5, σ = [some (.ref a), some (.ref f), o2, o3, o4, o5] ∧ Z H' H [[(f, .lst (nV (FM.ordN T (k + 1))))]] }
          [some (.ref a), some (.ref f), some (.int (k : Int)), some (ov (FM.par T k)), some (.int ((FM.place T (FM.ordN T k) (FM.par T k) : Nat) : Int)), o5] H4 := by
      intro H4 N o5 S4
      have S5 : Z H4 H [[(f, .lst (nV (FM.ordN T k)))]] := S4.sub (List.sublist_append_right N _)
      have hp : FM.place T (FM.ordN T k) (FM.par T k) ≤ (FM.ordN T k).length := FM.place_le fun b hb => FM.mem_ordN.mpr (FM.par_lt hT hb)
      rw [FM.len_ordN] at hp
      walk_at "z"
      refine ⟨f, _, _, _, rfl, rfl, S5.hd, by rw [nV_len, FM.len_ordN, sz]; omega, by omega, by omega, ?_⟩
      rw [Int.toNat_natCast, ins_nV]
      exact ⟨_, _, _, _, rfl, S5.put⟩
    cases hpar : FM.par T k with
    | none =>
      refine (z_iteN (fun c => absurd rfl c) (fun _ => ?_))
      rw [hpar] at fin
      have e : FM.place T (FM.ordN T k) none = k := FM.len_ordN
      rw [e] at fin
      exact fin H3 [] _ S3
    | some b =>
      have hb : b ∈ FM.ordN T k := FM.mem_ordN.mpr (FM.par_lt hT hpar)
      refine (z_iteN (fun _ => ?_) (fun c => nomatch c))
      rw [hpar] at fin
      show tSeq _ _ _ [some (.ref a), some (.ref f), some (.int (k : Int)), some (.int (b : Int)), some (.int (k : Int)), _] H3
      walk_at "z"
      intro fam H4 S4
      walk_at "z"
      obtain ⟨z, hz1, hz2, hz3⟩ := idx_facts hb
      refine ⟨f, nV (FM.ordN T k), .int (b : Int), FM.idx (FM.ordN T k) b, z, rfl, rfl, sq_l (S4.at_ 1 0 rfl rfl), rfl, flat_nV _, hz1, hz2, hz3, ?_⟩
      walk_at "z"
      have hil := FM.idx_lt hb
      rw [FM.len_ordN] at hil
      refine z_while (fun m σ H' => ∃ (j : Nat) (fm : List Nat), σ = [some (.ref a), some (.ref f), some (.int (k : Int)), some (.int (b : Int)), some (.int ((FM.idx (FM.ordN T k) b + 1 + j : Nat) : Int)), some (.ref fam)] ∧ Z H' H [[(fam, .lst (nV fm))], [(f, .lst (nV (FM.ordN T k)))]] ∧ m = k - (FM.idx (FM.ordN T k) b + 1 + j) ∧
        FM.idx (FM.ordN T k) b + 1 + j ≤ k ∧ fm.length = j + 1 ∧ j + FM.run T fm ((FM.ordN T k).drop (FM.idx (FM.ordN T k) b + 1 + j)) = FM.run T [b] ((FM.ordN T k).drop (FM.idx (FM.ordN T k) b + 1))) _ ⟨0, [b], rfl, S4, rfl, by omega, rfl, by simp⟩ ?_
      rintro m σ H5 ⟨j, fm, rfl, S5, rfl, hj, hfm, hrun⟩
      walk_at "z"
      rw [hlen]
      have out : FM.run T fm ((FM.ordN T k).drop (FM.idx (FM.ordN T k) b + 1 + j)) = 0 → tDrop (tBM K "list" rInsert (tVar 1) (tCons (tVar 4) (tCons (tVar 2) tNil)))
          { nx := fun σ H' => ∃ o2 o3 o4 o5, σ = [some (.ref a), some (.ref f), o2, o3, o4, o5] ∧ Z H' H [[(f, .lst (nV (FM.ordN T (k + 1))))]], rt := Q, bk := tRet (tVar 1) (DD Q),
            ct := fun σ H' => ∃ o2 o3 o4 o5, σ = [some (.ref a), some (.ref f), o2, o3, o4, o5] ∧ Z H' H [[(f, .lst (nV (FM.ordN T (k + 1))))]] }
          [some (.ref a), some (.ref f), some (.int (k : Int)), some (.int (b : Int)), some (.int ((FM.idx (FM.ordN T k) b + 1 + j : Nat) : Int)), some (.ref fam)] H5 := fun hz => by
        have e : FM.place T (FM.ordN T k) (some b) = FM.idx (FM.ordN T k) b + 1 + j := by
          show FM.idx (FM.ordN T k) b + 1 + FM.run T [b] ((FM.ordN T k).drop (FM.idx (FM.ordN T k) b + 1)) = _
          omega
        rw [← e]
        exact fin H5 [_] _ S5
      refine z_ite (fun c1 => ?_) (fun c1 => ?_)
      · have hp : FM.idx (FM.ordN T k) b + 1 + j < (FM.ordN T k).length := by rw [FM.len_ordN]; omega
        have hc : (FM.ordN T k)[FM.idx (FM.ordN T k) b + 1 + j] < T.length := by
          have := FM.mem_ordN.mp (List.getElem_mem hp)
          omega
        rw [List.drop_eq_getElem_cons hp, FM.run] at hrun out
        refine x_test ?_
        walk_at "z"
        refine x_ixL (sq_l (S5.at_ 1 0 rfl rfl)) (atI_nat (nV_at hp)) ?_
        refine x_ixB (S5.b ha) (atI_nat (ov_get hc)) ?_
        walk_at "z"
        refine .inl ⟨fam, nV fm, rfl, .inl (sq_l (S5.at_ 0 0 rfl rfl)), flat_ov _, flat_nV _, ?_⟩
        rw [if_neg (by decide), inV_nV]
        have ein : (match FM.par T (FM.ordN T k)[FM.idx (FM.ordN T k) b + 1 + j] with
            | none => false
            | some p => fm.contains p) = FM.inFam T fm (FM.ordN T k)[FM.idx (FM.ordN T k) b + 1 + j] := rfl
        rw [ein]
        cases hin : FM.inFam T fm (FM.ordN T k)[FM.idx (FM.ordN T k) b + 1 + j] with
        | true =>
          rw [hin, if_pos rfl] at hrun
          refine z_bl (z_wT ?_)
          walk_at "z"
          refine x_ixL (sq_l (S5.at_ 1 0 rfl rfl)) (atI_nat (nV_at hp)) ?_
          walk_at "z"
          refine z_append (n := 0) S5 rfl (by rw [nV_len, hfm, sz]; omega) (fun H6 S6 => ?_)
          walk_at "z"
          have e2 : nV fm ++ [V.int (((FM.ordN T k)[FM.idx (FM.ordN T k) b + 1 + j] : Nat) : Int)] = nV (fm ++ [(FM.ordN T k)[FM.idx (FM.ordN T k) b + 1 + j]]) := by simp [nV]
          rw [e2] at S6
          refine ⟨k - (FM.idx (FM.ordN T k) b + 1 + (j + 1)), by omega, j + 1, _, ?_, S6, rfl, by omega, by simp [hfm], ?_⟩
          · have e3 : ((FM.idx (FM.ordN T k) b + 1 + j : Nat) : Int) + 1 = ((FM.idx (FM.ordN T k) b + 1 + (j + 1) : Nat) : Int) := by omega
            rw [e3] <;> rfl
          · rw [show FM.idx (FM.ordN T k) b + 1 + (j + 1) = FM.idx (FM.ordN T k) b + 1 + j + 1 by omega]
            omega
        | false =>
          rw [hin, if_neg (by decide)] at out
          exact z_bl (z_wF (out rfl))
      · refine z_wF (out ?_)
        have e : FM.idx (FM.ordN T k) b + 1 + j = (FM.ordN T k).length := by rw [FM.len_ordN]; omega
        rw [e, List.drop_length] <;> rfl
  · rintro σ H' ⟨_, _, _, _, rfl, S2⟩
    walk_at "z"
    rw [List.length_map] at S2
    exact q f H' S2.base (S2.no 0 0 rfl rfl) S2.hd
theorem pure_newest_in {K : PySem.W.Frag} {E : XK} {H : Hp} {Q : VK} {vs : List V} (h : sp_newest_in K vs H Q E) : t_newest_in K E (DD Q) (L2.start ["thread", "found", "comment", "answers"] vs) H := by
  obtain ⟨a, bb, T, rfl, ha, hT, hl, q⟩ := h
  show t_newest_in K E (DD Q) [some (.ref a), none, none, none] H
  have S := Z.start H
  unfold t_newest_in
  walk_at "z"
  intro f H1 S1
  walk_at "z"
  refine z_for_enumB bb (T.map ov) (fun k σ H' => ∃ o2 o3, σ = [some (.ref a), some (.ref f), o2, o3] ∧ Z H' H [[(f, .lst (nV (FM.newN T k)))]]) ⟨_, _, rfl, S1⟩ ?_ ?_ ?_
  · rintro i σ H' - ⟨_, _, -, S2⟩
    exact S2.b ha
  · rintro k x T0 σ H2 H3 hx ⟨_, _, rfl, S2⟩ ex hT0 hT1
    have hk : k < T.length := by
      have := (List.getElem?_eq_some_iff.mp hx).1
      rwa [List.length_map] at this
    rw [ov_get hk] at hx
    cases hx
    have S3 := S2.ext ex
    have hp : FM.newP (FM.newN T k) (FM.par T k) ≤ k := by
      cases hpar : FM.par T k with
      | none => exact Nat.zero_le _
      | some b =>
        have := FM.idx_lt (l := FM.newN T k) (FM.mem_newN.mpr (FM.par_lt hT hpar))
        rw [FM.len_newN] at this
        exact this
    have fin : ∀ x, x = V.int ((FM.newP (FM.newN T k) (FM.par T k) : Nat) : Int) → rInsert (.ref f) [x, .int (k : Int)] H3 fun _ H1 => ∃ o2 o3, ([some (.ref a), some (.ref f), some (.int (k : Int)), some (ov (FM.par T k))] : L2.St) = [some (.ref a), some (.ref f), o2, o3] ∧ Z H1 H [[(f, .lst (nV (FM.newN T (k + 1))))]] := by
      rintro x rfl
      refine ⟨f, _, _, _, rfl, rfl, S3.hd, by rw [nV_len, FM.len_newN, sz]; omega, by omega, by omega, ?_⟩
      rw [Int.toNat_natCast, ins_nV]
      exact ⟨_, _, rfl, S3.put⟩
    walk_at "z"
    cases hpar : FM.par T k with
    | none =>
      refine z_ite (fun _ => ?_) (fun c => absurd rfl c)
      rw [hpar] at fin
      walk_at "z"
      exact fin _ rfl
    | some b =>
      have hb : b ∈ FM.newN T k := FM.mem_newN.mpr (FM.par_lt hT hpar)
      refine z_ite (fun c => nomatch c) (fun _ => ?_)
      rw [hpar] at fin
      obtain ⟨z, hz1, hz2, hz3⟩ := idx_facts hb
      walk_at "z"
      refine ⟨f, nV (FM.newN T k), .int (b : Int), FM.idx (FM.newN T k) b, z, rfl, rfl, sq_l S3.hd, rfl, flat_nV _, hz1, hz2, hz3, ?_⟩
      walk_at "z"
      exact fin _ rfl
  · rintro σ H' ⟨_, _, rfl, S2⟩
    walk_at "z"
    rw [List.length_map] at S2
    exact q f H' S2.base (S2.no 0 0 rfl rfl) S2.hd
theorem pure_depths_in {K : PySem.W.Frag} {E : XK} {H : Hp} {Q : VK} {vs : List V} (h : sp_depths_in K vs H Q E) : t_depths_in K E (DD Q) (L2.start ["thread", "found", "answers"] vs) H := by
  obtain ⟨a, T, rfl, ha, hT, hl, q⟩ := h
  show t_depths_in K E (DD Q) [some (.ref a), none, none] H
  have S := Z.start H
  unfold t_depths_in
  walk_at "z"
  intro f H1 S1
  walk_at "z"
  have step : ∀ (k : Nat) (x : V) (σ : L2.St) (H2 : Hp), (T.map ov)[k]? = some x → (∃ o2, σ = [some (.ref a), some (.ref f), o2] ∧ Z H2 H [[(f, .lst (nV (FM.depN T k)))]]) →
      gName 2 x σ H2 fun σ2 H3 => (tDrop (tBM K "list" rAppend (tVar 1) (tCons (tIf (tTest (tOp qIs (tVar 2) (tC .non))) (tC (.int 0)) (tOp (qAdd K) (tOp (qIx K) (tVar 1) (tVar 2)) (tC (.int 1)))) tNil)))
        { nx := fun σ H' => ∃ o2, σ = [some (.ref a), some (.ref f), o2] ∧ Z H' H [[(f, .lst (nV (FM.depN T (k + 1))))]], rt := Q, bk := tRet (tVar 1) (DD Q),
          ct := fun σ H' => ∃ o2, σ = [some (.ref a), some (.ref f), o2] ∧ Z H' H [[(f, .lst (nV (FM.depN T (k + 1))))]] } σ2 H3 := by
    rintro k x σ H2 hx ⟨_, rfl, S2⟩
    have hk : k < T.length := by
      have := (List.getElem?_eq_some_iff.mp hx).1
      rwa [List.length_map] at this
    rw [ov_get hk] at hx
    cases hx
    walk_at "z"
    have fin : ∀ y, y = V.int ((FM.depO (FM.depN T k) (FM.par T k) : Nat) : Int) → rAppend (.ref f) [y] H2 fun _ H1 => ∃ o2, ([some (.ref a), some (.ref f), some (ov (FM.par T k))] : L2.St) = [some (.ref a), some (.ref f), o2] ∧ Z H1 H [[(f, .lst (nV (FM.depN T (k + 1))))]] := by
      rintro y rfl
      refine z_append (n := 0) S2 rfl (by rw [nV_len, FM.len_depN, sz]; omega) (fun H3 S3 => ⟨_, rfl, ?_⟩)
      have e : nV (FM.depN T k) ++ [V.int ((FM.depO (FM.depN T k) (FM.par T k) : Nat) : Int)] = nV (FM.depN T (k + 1)) := by
        rw [FM.depN]
        simp [nV]
      rw [e] at S3
      exact S3
    cases hpar : FM.par T k with
    | none =>
      refine z_ite (fun _ => ?_) (fun c => absurd rfl c)
      rw [hpar] at fin
      walk_at "z"
      exact fin _ rfl
    | some b =>
      refine z_ite (fun c => nomatch c) (fun _ => ?_)
      rw [hpar] at fin
      have hb : b < (FM.depN T k).length := by
        rw [FM.len_depN]
        exact FM.par_lt hT hpar
      walk_at "z"
      refine x_ixL (sq_l S2.hd) (atI_nat (nV_get hb)) ?_
      walk_at "z"
      exact fin _ rfl
  have done : ∀ (σ : L2.St) (H2 : Hp), (∃ o2, σ = [some (.ref a), some (.ref f), o2] ∧ Z H2 H [[(f, .lst (nV (FM.depN T (T.map ov).length)))]]) → tRet (tVar 1) (DD Q) σ H2 := by
    rintro σ H' ⟨_, rfl, S2⟩
    walk_at "z"
    rw [List.length_map] at S2
    exact q f H' S2.base (S2.no 0 0 rfl rfl) S2.hd
  rcases ha with ha | ha
  · refine z_seqL (S1.l ha) ?_
    exact z_for_list (T.map ov) (fun k σ H' => ∃ o2, σ = [some (.ref a), some (.ref f), o2] ∧ Z H' H [[(f, .lst (nV (FM.depN T k)))]]) ⟨_, rfl, S1⟩ (fun i σ H' _ ⟨_, _, S2⟩ => S2.l ha) step done
  · refine z_seqT (S1.t ha) ?_
    exact z_for_tup (T.map ov) (fun k σ H' => ∃ o2, σ = [some (.ref a), some (.ref f), o2] ∧ Z H' H [[(f, .lst (nV (FM.depN T k)))]]) ⟨_, rfl, S1⟩ (fun i σ H' _ ⟨_, _, S2⟩ => S2.t ha) step done
theorem pure_require_comment {K : PySem.W.Frag} {E : XK} {H : Hp} {Q : VK} {vs : List V} (h : sp_require_comment K vs H Q E) : t_require_comment K E (DD Q) (L2.start ["many", "value"] vs) H := by
  obtain ⟨many, v, rfl, k, q1, q2⟩ := h
  show t_require_comment K E (DD Q) [some (.int many), some v] H
  unfold t_require_comment
  walk_at "z"
  refine ⟨v, 0, some (many - 1), rfl, k, ?_⟩
  walk_at "z"
  refine z_iteNB (fun e => ?_) (fun e => ?_)
  · exact q2 e
  · exact q1 e
theorem pure_is_thread {K : PySem.W.Frag} {E : XK} {H : Hp} {Q : VK} {vs : List V} (h : sp_is_thread K vs H Q E) : t_is_thread K E (DD Q) (L2.start ["value", "comment", "answers"] vs) H := by
  obtain ⟨v, rfl, h⟩ := h
  show t_is_thread K E (DD Q) [some v, none, none] H
  have S := Z.start H
  unfold t_is_thread
  walk_at "z"
  rcases h with ⟨a, xs, rfl, ha, hl, hkd, q⟩ | ⟨T0, hk, hb, q⟩
  · refine z_isi (b := true) (kd_list ha) (by decide +kernel) ?_
    refine z_bl ?_
    refine z_iffalse ?_
    walk_at "z"
    refine z_lcE S xs (fun k => (List.range k).map fun i => V.bl (ansOk i (xs.getD i .non))) rfl (fun H' S' => S'.l ha) (fun k x D T0 H1 hx S1 => ?_) (fun D H1 S1 => ?_)
    · have hk : k < xs.length := (List.getElem?_eq_some_iff.mp hx).1
      have hg : xs.getD k .non = x := by rw [List.getD_eq_getElem?_getD, hx] <;> rfl
      have fin : ∀ b, b = V.bl (ansOk k x) → mApp D (Gro H [] D ((List.range (k + 1)).map fun i => V.bl (ansOk i (xs.getD i .non)))) b H1 := by
        rintro b rfl
        refine z_app (N := [_]) S1 (by rw [List.length_map, List.length_range, sz]; omega) ?_
        rw [List.range_succ, List.map_append]
        show _ = _ ++ [V.bl (ansOk k x)]
        rw [← hg] <;> rfl
      walk_at "z"
      refine z_ite (fun e => ?_) (fun e => ?_)
      · refine fin _ ?_
        unfold ansOk
        rw [decide_eq_true e] <;> rfl
      · walk_at "z"
        have hki : KdI K H1 x := by
          rcases hkd k x hx with e2 | e2
          · exact absurd e2 e
          · exact e2 H1 S1.base
        refine ⟨x, 0, some ((k : Int) - 1), rfl, hki, ?_⟩
        refine fin _ ?_
        unfold ansOk
        rw [decide_eq_false e, Bool.false_or]
    · refine ⟨D, (List.range xs.length).map fun i => ansOk i (xs.getD i .non), rfl, ?_, ?_⟩
      · rw [List.map_map]
        exact sq_l S1.hd
      · rw [List.all_map]
        exact q H1 S1.base
  · refine z_isi (b := false) hk hb ?_
    refine z_bl ?_
    refine z_iftrue ?_
    walk_at "z"
    exact q
end FT

namespace FT
open PySem PySem.Spec PyProof.Rows L2
/-! ### the law's own views of a thread -/
def sp__law_below (K : PySem.W.Frag) : Sp := fun vs H Q _ => ∃ (a : Addr) (T : FM.T3) (c : Nat), vs = [.ref a, .int (c : Int)] ∧ SqL K H a (T.map ov) ∧ FM.Th T ∧ T.length ≤ 1000 ∧ c < T.length ∧ NewL H (FM.belL T c) Q
def ordB (T : FM.T3) (nw : Bool) : List Nat := if nw = true then FM.newL T else FM.ordL T
def sp__law_walk (K : PySem.W.Frag) : Sp := fun vs H Q _ => ∃ (a : Addr) (T : FM.T3) (nw : Bool), vs = [.ref a, .bl nw] ∧ SqL K H a (T.map ov) ∧ FM.Th T ∧ T.length ≤ 1000 ∧ NewL H (ordB T nw) Q
def sp__law_depth (K : PySem.W.Frag) : Sp := fun vs H Q _ => ∃ (a : Addr) (T : FM.T3) (c : Nat), vs = [.ref a, .int (c : Int)] ∧ SqL K H a (T.map ov) ∧ FM.Th T ∧ T.length ≤ 1000 ∧ c < T.length ∧ Q (.int (((FM.depL T).getD c 0 : Nat) : Int)) H
def sp__law_seen (K : PySem.W.Frag) : Sp := fun vs H Q _ => ∃ (a b : Addr) (T : FM.T3) (F : List Nat) (nw : Bool), vs = [.ref a, .ref b, .bl nw] ∧ SqL K H a (T.map ov) ∧ SqL K H b (nV F) ∧ FM.Th T ∧ T.length ≤ 1000 ∧ F.length ≤ 1000 ∧ (∀ c ∈ F, c < T.length) ∧ NewL H (FM.shoL T F (ordB T nw)) Q
end FT
namespace FT
open PySem PySem.Spec PyProof.Rows L2
/-- slots: _law_some, _law_one, _law_found, _law_spot -/
def t__law_below (K : PySem.W.Frag) (E : XK) : TS :=
  (tSeq (tAsg tDNewK (gName 2))
  (tSeq (tFor (iRng2 (tCons (tOp (qAdd K) (tVar 1) (tC (.int 1))) (tCons (tCB (qLen K) (tCons (tVar 0) tNil)) tNil))) (gName 3) (tIfS (tOr (tTest (tOp (qEq K) (tOp (qIx K) (tVar 0) (tVar 3)) (tVar 1))) (tB (tDInN (tOp (qIx K) (tVar 0) (tVar 3)) (tVar 2)))) (sDPut (tVar 2) (tVar 3) (tC (.int 1))) tNext))
  (tRet (tCB qListD (tCons (tVar 2) tNil)))))
/-- slots: _law_some, _law_is_newest, _law_waiting, _law_found, _law_one, _law_later, _law_spot -/
def t__law_walk (K : PySem.W.Frag) (E : XK) : TS :=
  (tSeq (tAsg (tLc (iRng1 (tCons (tCB (qLen K) (tCons (tVar 0) tNil)) tNil)) (gName 6) (tTest (tOp qIs (tOp (qIx K) (tVar 0) (tVar 6)) (tC .non))) (tVar 6) [6]) (gName 2))
  (tSeq (tAsg (tIf (tNot (tB (tVar 1))) (tVar 2) (tRev K (tVar 2) (tPart (tUn (rU fun i => .int (-i)) (tC (.int 1)))))) (gName 2))
  (tSeq (tAsg (tLst tNil) (gName 3))
  (tSeq (tWhile (tTest (tOp (qNe K) (tVar 2) (tLst tNil))) (tSeq (tAsg (tBM K "list" qPop (tVar 2) (tCons (tC (.int 0)) tNil)) (gName 4))
  (tSeq (tDrop (tBM K "list" rAppend (tVar 3) (tCons (tVar 4) tNil)))
  (tSeq (tAsg (tLc (iRng1 (tCons (tCB (qLen K) (tCons (tVar 0) tNil)) tNil)) (gName 6) (tTest (tOp (qEq K) (tOp (qIx K) (tVar 0) (tVar 6)) (tVar 4))) (tVar 6) [6]) (gName 5))
  (tAsg (tOp (qAdd K) (tIf (tNot (tB (tVar 1))) (tVar 5) (tRev K (tVar 5) (tPart (tUn (rU fun i => .int (-i)) (tC (.int 1)))))) (tVar 2)) (gName 2))))))
  (tRet (tVar 3))))))
/-- slots: _law_some, _law_one, _law_depth_here -/
def t__law_depth (K : PySem.W.Frag) (E : XK) : TS :=
  (tSeq (tAsg (tC (.int 0)) (gName 2))
  (tSeq (tWhile (tTest (tOp qIsNot (tOp (qIx K) (tVar 0) (tVar 1)) (tC .non))) (tPar 1 2 (tCons (tOp (qIx K) (tVar 0) (tVar 1)) (tCons (tOp (qAdd K) (tVar 2) (tC (.int 1))) tNil))))
  (tRet (tVar 2))))
/-- slots: _law_some, _law_hidden_by, _law_is_newest, _law_hidden, _law_one -/
def t__law_seen (K : PySem.W.Frag) (E : XK) : TS :=
  (tSeq (tAsg (tLst tNil) (gName 3))
  (tSeq (tFor (iSeq K (tVar 1)) (gName 4) (tAsg (tOp (qAdd K) (tVar 3) (tCall (sp__law_below K) [] E0 (tCons (tVar 0) (tCons (tVar 4) tNil)))) (gName 3)))
  (tRet (tLc (iSeq K (tCall (sp__law_walk K) [] E0 (tCons (tVar 0) (tCons (tVar 2) tNil)))) (gName 4) (tTest (tOp (qNotIn K) (tVar 4) (tVar 3))) (tVar 4) [4]))))
end FT
namespace FT
open PySem PySem.Spec PyProof.Rows L2
theorem ov_mem {T : FM.T3} {k : Nat} {x : V} (h : (T.map ov)[k]? = some x) : k < T.length ∧ x = ov (FM.par T k) := by
  have hk := (List.getElem?_eq_some_iff.mp h).1
  rw [List.length_map] at hk
  rw [ov_get hk] at h
  exact ⟨hk, (Option.some.inj h).symm⟩
theorem pure__law_depth {K : PySem.W.Frag} {E : XK} {H : Hp} {Q : VK} {vs : List V} (h : sp__law_depth K vs H Q E) : t__law_depth K E (DD Q) (L2.start ["_law_some", "_law_one", "_law_depth_here"] vs) H := by
  obtain ⟨a, T, c, rfl, ha, hT, hl, hc, q⟩ := h
  show t__law_depth K E (DD Q) [some (.ref a), some (.int (c : Int)), none] H
  unfold t__law_depth
  walk_at "z"
  refine z_while (fun m σ H' => ∃ (b d : Nat), σ = [some (.ref a), some (.int (b : Int)), some (.int (d : Int))] ∧ H = H' ∧ b < T.length ∧ m = b ∧ d + (FM.depL T).getD b 0 = (FM.depL T).getD c 0) _ ⟨c, 0, rfl, rfl, hc, rfl, by omega⟩ ?_
  rintro m σ H' ⟨b, d, rfl, rfl, hb, rfl, hd⟩
  walk_at "z"
  refine x_ixL ha (atI_nat (ov_get hb)) ?_
  walk_at "z"
  rw [FM.depL_get hT hb] at hd
  cases hp : FM.par T m with
  | none =>
    rw [hp] at hd
    refine z_wF ?_
    walk_at "z"
    have e : d = (FM.depL T).getD c 0 := hd
    rw [e]
    exact q
  | some p =>
    rw [hp] at hd
    have hpm := FM.par_lt hT hp
    refine z_wT ?_
    walk_at "z"
    refine x_ixL ha (atI_nat (ov_get hb)) ?_
    walk_at "z"
    rw [hp]
    refine ⟨p, hpm, p, d + 1, rfl, rfl, by omega, rfl, ?_⟩
    have e : FM.depO (FM.depL T) (some p) = (FM.depL T).getD p 0 + 1 := rfl
    rw [e] at hd
    omega
theorem len_belN (T : FM.T3) (c : Nat) : ∀ n, (FM.belN T c n).length ≤ n
  | 0 => Nat.le_refl _
  | k + 1 => by
    have ih := len_belN T c k
    rw [FM.belN]
    split
    · rw [List.length_append, List.length_singleton]; omega
    · omega
/-- the keys of a dict of comments -/
def kvI (l : List Nat) (v : V) : List (Key × V) := l.map fun (n : Nat) => (Sum.inl (n : Int), v)
theorem kvI_val (l : List Nat) (v : V) (k : Nat) : (valV (kvI l v) (Sum.inl (k : Int))).isSome = l.contains k := by
  induction l with
  | nil => rfl
  | cons n l ih =>
    unfold kvI at ih ⊢
    rw [List.map_cons, List.contains_cons]
    by_cases e : n = k
    · subst e
      rw [valV_pos rfl, beq_self_eq_true] <;> rfl
    · rw [valV_neg (fun z => e (by have := Sum.inl.inj z; omega)), ih, beq_eq_false_iff_ne.mpr (fun z => e z.symm), Bool.false_or]
theorem kvI_keys (l : List Nat) (v : V) : (kvI l v).map (fun kv => kV kv.1) = nV l := by
  unfold kvI nV
  rw [List.map_map] <;> rfl
theorem kvI_put {l : List Nat} {v : V} {k : Nat} (h : l.contains k = false) : putK (kvI l v) (Sum.inl (k : Int)) v = kvI (l ++ [k]) v := by
  rw [putK_new]
  · unfold kvI
    rw [List.map_append] <;> rfl
  · have := kvI_val l v k
    rw [h] at this
    cases q : valV (kvI l v) (Sum.inl (k : Int)) with
    | none => rfl
    | some _ => rw [q] at this; cases this
theorem not_bel {T : FM.T3} {c n : Nat} : (FM.belN T c n).contains n = false := by
  refine Bool.eq_false_iff.mpr fun h => ?_
  have := FM.mem_belN (List.contains_iff_mem.mp h)
  omega
theorem pure__law_below {K : PySem.W.Frag} {E : XK} {H : Hp} {Q : VK} {vs : List V} (h : sp__law_below K vs H Q E) : t__law_below K E (DD Q) (L2.start ["_law_some", "_law_one", "_law_found", "_law_spot"] vs) H := by
  obtain ⟨a, T, c, rfl, ha, hT, hl, hc, q⟩ := h
  show t__law_below K E (DD Q) [some (.ref a), some (.int (c : Int)), none, none] H
  have S := Z.start H
  unfold t__law_below
  walk_at "z"
  refine fun d hd => ?_
  have S1 := S.new (o := .dK []) hd
  generalize upd H d (.dK []) = H1 at S1
  walk_at "z"
  have hlen : ((T.map ov).length : Int) = ((c + 1 + (T.length - (c + 1)) : Nat) : Int) := by rw [List.length_map]; omega
  rw [hlen]
  refine z_rng2 (c + 1) (T.length - (c + 1)) (by omega) rfl (by omega) ?_
  refine z_for_rng _ (fun i σ H' => ∃ o3, σ = [some (.ref a), some (.int (c : Int)), some (.ref d), o3] ∧ Z H' H [[(d, .dK (kvI (FM.belN T c (c + 1 + i)) (.int 1)))]]) ⟨_, rfl, ?_⟩ ?_ ?_
  · rw [FM.belN_low hT _ (Nat.le_refl _)]
    exact S1
  · rintro i σ H2 hi ⟨_, rfl, S2⟩
    have hk : c + 1 + i < T.length := by omega
    have e1 : ((c + 1 : Nat) : Int) + (i : Int) = ((c + 1 + i : Nat) : Int) := by omega
    rw [e1]
    have bel : FM.belN T c (c + 1 + (i + 1)) = if FM.inFam T (c :: FM.belN T c (c + 1 + i)) (c + 1 + i) = true then FM.belN T c (c + 1 + i) ++ [c + 1 + i] else FM.belN T c (c + 1 + i) := rfl
    -- both ways
    have yes : FM.inFam T (c :: FM.belN T c (c + 1 + i)) (c + 1 + i) = true → (sDPut (tVar 2) (tVar 3) (tC (.int 1)))
        { nx := fun σ H' => ∃ o3, σ = [some (.ref a), some (.int (c : Int)), some (.ref d), o3] ∧ Z H' H [[(d, .dK (kvI (FM.belN T c (c + 1 + (i + 1))) (.int 1)))]], rt := Q, bk := tRet (tCB qListD (tCons (tVar 2) tNil)) (DD Q),
          ct := fun σ H' => ∃ o3, σ = [some (.ref a), some (.int (c : Int)), some (.ref d), o3] ∧ Z H' H [[(d, .dK (kvI (FM.belN T c (c + 1 + (i + 1))) (.int 1)))]] }
        [some (.ref a), some (.int (c : Int)), some (.ref d), some (.int ((c + 1 + i : Nat) : Int))] H2 := fun hin => by
      rw [bel, if_pos hin]
      refine ⟨_, rfl, _, rfl, d, _, rfl, DPut.k (k := Sum.inl ((c + 1 + i : Nat) : Int)) S2.hd ?_, ?_⟩
      · have := len_belN T c (c + 1 + i)
        unfold kvI
        rw [List.length_map, sz]
        omega
      · rw [kvI_put not_bel]
        exact ⟨_, rfl, S2.put⟩
    have no : FM.inFam T (c :: FM.belN T c (c + 1 + i)) (c + 1 + i) = false → ∃ o3, ([some (.ref a), some (.int (c : Int)), some (.ref d), some (.int ((c + 1 + i : Nat) : Int))] : L2.St) = [some (.ref a), some (.int (c : Int)), some (.ref d), o3] ∧ Z H2 H [[(d, .dK (kvI (FM.belN T c (c + 1 + (i + 1))) (.int 1)))]] := fun hin => by
      rw [bel, hin, if_neg (by decide)]
      exact ⟨_, rfl, S2⟩
    walk_at "z"
    refine x_ixL (S2.l ha) (atI_nat (ov_get hk)) ?_
    walk_at "z"
    refine x_eqV (by cases FM.par T (c + 1 + i) <;> rfl) ?_
    refine z_bl ?_
    unfold FM.inFam at yes no
    cases hp : FM.par T (c + 1 + i) with
    | none =>
      rw [hp] at yes no
      refine z_ite (fun z => nomatch z) (fun _ => ?_)
      refine x_B ?_
      walk_at "z"
      refine x_ixL (S2.l ha) (atI_nat (ov_get hk)) ?_
      walk_at "z"
      rw [hp]
      refine .inr ⟨d, _, rfl, rfl, .inl S2.hd, ?_⟩
      refine z_bl (z_iffalse ?_)
      walk_at "z"
      exact no rfl
    | some p =>
      rw [hp] at yes no
      have econ : (c :: FM.belN T c (c + 1 + i)).contains p = (p == c || (FM.belN T c (c + 1 + i)).contains p) := List.contains_cons
      refine z_ite (fun z => ?_) (fun z => ?_)
      · have e : p = c := by have := V.int.inj z; omega
        refine z_iftrue (yes ?_)
        show (c :: FM.belN T c (c + 1 + i)).contains p = true
        rw [econ, beq_iff_eq.mpr e] <;> rfl
      · have e : (p == c) = false := beq_eq_false_iff_ne.mpr fun e => z (by rw [e] <;> rfl)
        rw [e, Bool.false_or] at econ
        refine x_B ?_
        walk_at "z"
        refine x_ixL (S2.l ha) (atI_nat (ov_get hk)) ?_
        walk_at "z"
        rw [hp]
        refine .inl ⟨d, _, rfl, DGet.k (k := Sum.inl (p : Int)) S2.hd, ?_⟩
        rw [kvI_val]
        refine z_bl (z_iteB (fun z2 => yes ?_) (fun z2 => ?_))
        · show (c :: FM.belN T c (c + 1 + i)).contains p = true
          rw [econ]; exact z2
        · walk_at "z"
          refine no ?_
          show (c :: FM.belN T c (c + 1 + i)).contains p = false
          rw [econ]; exact z2
  · rintro σ H2 ⟨_, rfl, S2⟩
    rw [show c + 1 + (T.length - (c + 1)) = T.length by omega] at S2
    walk_at "z"
    refine ⟨d, _, rfl, .inl S2.hd, fun p hp => ?_⟩
    rw [kvI_keys]
    have S3 := S2.new (o := .lst (nV (FM.belN T c T.length))) hp
    exact q p _ S3.base (S3.no 0 0 rfl rfl) S3.hd
theorem dpA_nV {K : PySem.W.Frag} {H : Hp} : ∀ ns : List Nat, DpAll K H (nV ns) (ns.map fun (n : Nat) => PyData.int (n : Int))
  | [] => .nil
  | n :: ns => .cons (.int _) (dpA_nV ns)
/-- the data of a list of ints -/
abbrev dI (ns : List Nat) : PyData := .list (ns.map fun (n : Nat) => PyData.int (n : Int))
theorem dp_nV {K : PySem.W.Frag} {H : Hp} {p : Addr} {ns : List Nat} (h : SqL K H p (nV ns)) : Dp K H (.ref p) (dI ns) := .lst h (dpA_nV ns)
theorem layA_I : ∀ ns : List Nat, PyData.canLayAll0 (ns.map fun (n : Nat) => PyData.int (n : Int)) = true
  | [] => rfl
  | n :: ns => by simp only [List.map_cons, PyData.canLayAll0, PyData.canLay0, layA_I ns, Bool.and_self]
theorem depA_I : ∀ ns : List Nat, PyData.depthAll (ns.map fun (n : Nat) => PyData.int (n : Int)) = 0
  | [] => rfl
  | n :: ns => by
    simp only [List.map_cons, PyData.depthAll, PyData.depth, depA_I ns]
    decide
theorem shp_I (ns : List Nat) : SeqAt.shaped (dI ns) = true := z_shape (by simp only [PyData.canLay0]; exact layA_I ns) (by simp [PyData.depth, depA_I ns])
theorem Flat_le {ch : Nat → List Nat} {w r : List Nat} (h : FM.Flat ch w r) : w.length ≤ r.length := by
  induction h with
  | nil => exact Nat.le_refl _
  | cons _ ih => simp at ih ⊢; omega
def chB (T : FM.T3) (nw : Bool) (c : Nat) : List Nat := if nw = true then FM.chN T T.length c else FM.chO T T.length c
theorem walkB {T : FM.T3} (h : FM.Th T) (nw : Bool) : FM.Flat (chB T nw) (if nw = true then (FM.kids T T.length none).reverse else FM.kids T T.length none) (ordB T nw) := by
  cases nw with
  | true => exact FM.new_walk h _
  | false => exact FM.ord_walk h _
theorem len_ordB (T : FM.T3) (nw : Bool) : (ordB T nw).length = T.length := by
  cases nw with
  | true => exact FM.len_newN
  | false => exact FM.len_ordN
theorem mem_ordB {T : FM.T3} {nw : Bool} {c : Nat} : c ∈ ordB T nw ↔ c < T.length := by
  cases nw with
  | true => exact FM.mem_newN
  | false => exact FM.mem_ordN
theorem rev_nV (l : List Nat) : (nV l).reverse = nV l.reverse := by
  unfold nV
  rw [List.map_reverse]
theorem kids_le (T : FM.T3) (n : Nat) (o : Option Nat) : (FM.kids T n o).length ≤ n := by
  unfold FM.kids
  refine Nat.le_trans (List.length_filter_le _ _) ?_
  rw [List.length_range]
  exact Nat.le_refl _
theorem pure__law_walk {K : PySem.W.Frag} {E : XK} {H : Hp} {Q : VK} {vs : List V} (h : sp__law_walk K vs H Q E) : t__law_walk K E (DD Q) (L2.start ["_law_some", "_law_is_newest", "_law_waiting", "_law_found", "_law_one", "_law_later", "_law_spot"] vs) H := by
  obtain ⟨a, T, nw, rfl, ha, hT, hl, q⟩ := h
  show t__law_walk K E (DD Q) [some (.ref a), some (.bl nw), none, none, none, none, none] H
  have S := Z.start H
  unfold t__law_walk
  walk_at "z"
  refine z_rng1 T.length (by rw [List.length_map]) (by omega) ?_
  refine z_lcR S T.length (fun k => nV (FM.kids T k none)) rfl (fun k D H1 hk S1 => ?_) (fun D H1 S1 => ?_)
  · rw [show ((0 : Int) + (k : Int)) = ((k : Nat) : Int) by omega]
    walk_at "z"
    refine x_ixL (S1.l ha) (atI_nat (ov_get hk)) ?_
    walk_at "z"
    rw [FM.kids_succ]
    cases hp : FM.par T k with
    | none =>
      refine z_ite (fun _ => ?_) (fun z => absurd rfl z)
      walk_at "z"
      rw [if_pos rfl]
      exact z_app (N := []) S1 (by have := kids_le T k none; rw [nV_len, sz]; omega) (by simp [nV])
    | some p =>
      refine z_ite (fun z => nomatch z) (fun _ => ?_)
      rw [if_neg nofun]
      exact S1
  · walk_at "z"
    -- the roots, in the walk's order
    have go : ∀ (wl : Addr) (w0 : List Nat) (H2 : Hp), Z H2 H [[(wl, .lst (nV w0))]] → w0 = (if nw = true then (FM.kids T T.length none).reverse else FM.kids T T.length none) →
        (tSeq (tAsg (tLst tNil) (gName 3))
        (tSeq (tWhile (tTest (tOp (qNe K) (tVar 2) (tLst tNil))) (tSeq (tAsg (tBM K "list" qPop (tVar 2) (tCons (tC (.int 0)) tNil)) (gName 4))
        (tSeq (tDrop (tBM K "list" rAppend (tVar 3) (tCons (tVar 4) tNil)))
        (tSeq (tAsg (tLc (iRng1 (tCons (tCB (qLen K) (tCons (tVar 0) tNil)) tNil)) (gName 6) (tTest (tOp (qEq K) (tOp (qIx K) (tVar 0) (tVar 6)) (tVar 4))) (tVar 6) [6]) (gName 5))
        (tAsg (tOp (qAdd K) (tIf (tNot (tB (tVar 1))) (tVar 5) (tRev K (tVar 5) (tPart (tUn (rU fun i => .int (-i)) (tC (.int 1)))))) (tVar 2)) (gName 2))))))
        (tRet (tVar 3)))) (DD Q) [some (.ref a), some (.bl nw), some (.ref wl), none, none, none, none] H2 := by
      intro wl w0 H2 S2 hw0
      walk_at "z"
      intro fl H3 S3
      walk_at "z"
      refine z_while (fun m σ H' => ∃ (wl : Addr) (o4 o5 o6 : Option V) (w fo r : List Nat), σ = [some (.ref a), some (.bl nw), some (.ref wl), some (.ref fl), o4, o5, o6] ∧ Z H' H [[(fl, .lst (nV fo))], [(wl, .lst (nV w))]] ∧ FM.Flat (chB T nw) w r ∧ fo ++ r = ordB T nw ∧ m = r.length) _
        ⟨wl, _, _, _, w0, [], ordB T nw, rfl, S3, by rw [hw0]; exact walkB hT nw, rfl, rfl⟩ ?_
      rintro m σ H4 ⟨wl, _, _, _, w, fo, r, rfl, S4, hfl, hcat, rfl⟩
      have hlen : fo.length + r.length = T.length := by rw [← len_ordB T nw, ← hcat, List.length_append]
      refine x_test ?_
      walk_at "z"
      intro e H5 S5
      refine x_neD (dp_nV (sq_l (S5.at_ 2 0 rfl rfl))) (dp_nV (ns := []) (sq_l (S5.at_ 0 0 rfl rfl))) (shp_I w) (shp_I []) ?_
      refine z_bl ?_
      cases hfl with
      | nil =>
        have e1 : PyData.eqv (dI []) (dI []) = true := by simp [PyData.eqv, PyData.eqvAll]
        rw [e1]
        refine z_wF ?_
        walk_at "z"
        rw [List.append_nil] at hcat
        have hr := S5.at_ 1 0 rfl rfl
        rw [hcat] at hr
        exact q fl H5 S5.base (S5.no 1 0 rfl rfl) hr
      | @cons c w r h =>
        have e1 : PyData.eqv (dI (c :: w)) (dI []) = false := by simp [PyData.eqv, PyData.eqvAll]
        rw [e1]
        refine z_wT ?_
        have hw := Flat_le h
        rw [List.length_append] at hw
        rw [List.length_cons] at hlen
        have S6 : Z H5 H [[(fl, .lst (nV fo))], [(wl, .lst (nV (c :: w)))]] := S5.tail
        walk_at "z"
        refine z_pop0 (n := 1) S6 rfl (fun H6 S7 => ?_)
        walk_at "z"
        refine z_append (n := 0) S7 rfl (by rw [nV_len, sz]; omega) (fun H7 S8 => ?_)
        have e2 : nV fo ++ [V.int (c : Int)] = nV (fo ++ [c]) := by simp [nV]
        rw [e2] at S8
        have S9 : Z H7 H [[(fl, .lst (nV (fo ++ [c])))], [(wl, .lst (nV w))]] := S8
        walk_at "z"
        refine z_rng1 T.length (by rw [List.length_map]) (by omega) ?_
        refine z_lcR S9 T.length (fun k => nV (FM.kids T k (some c))) rfl (fun k D H1 hk S1 => ?_) (fun D H8 S10 => ?_)
        · rw [show ((0 : Int) + (k : Int)) = ((k : Nat) : Int) by omega]
          walk_at "z"
          refine x_ixL (S1.l ha) (atI_nat (ov_get hk)) ?_
          walk_at "z"
          refine x_eqV (by cases FM.par T k <;> rfl) ?_
          refine z_bl ?_
          rw [FM.kids_succ]
          refine z_ite (fun z => ?_) (fun z => ?_)
          · have e3 : FM.par T k = some c := by
              cases hp : FM.par T k with
              | none => rw [hp] at z; cases z
              | some p =>
                rw [hp] at z
                have := V.int.inj z
                congr 1
                omega
            rw [if_pos e3]
            walk_at "z"
            exact z_app (N := []) S1 (by have := kids_le T k (some c); rw [nV_len, sz]; omega) (by simp [nV])
          · rw [if_neg (fun e3 => z (by rw [e3] <;> rfl))]
            exact S1
        · have hk2 := kids_le T T.length (some c)
          walk_at "z"
          cases nw with
          | true =>
            refine z_iffalse ?_
            walk_at "z"
            refine z_rev S10 (sq_l (S10.at_ 0 0 rfl rfl)) fun lt H9 S11 => ?_
            walk_at "z"
            refine z_cat S11 (S11.at_ 0 0 rfl rfl) (S11.at_ 3 0 rfl rfl) (by rw [rev_nV, nV_len, nV_len, List.length_reverse, sz]; omega) (fun nl H10 S12 => ?_)
            have e4 : (nV (FM.kids T T.length (some c))).reverse ++ nV w = nV (chB T true c ++ w) := by
              rw [rev_nV]
              show _ = nV ((FM.kids T T.length (some c)).reverse ++ w)
              simp [nV]
            rw [e4] at S12
            refine ⟨r.length, by simp, nl, _, _, _, chB T true c ++ w, fo ++ [c], r, rfl, (S12.pick 3 rfl).sub (by simp), h, by rw [← hcat]; simp, rfl⟩
          | false =>
            refine z_iftrue ?_
            walk_at "z"
            refine z_cat S10 (S10.at_ 0 0 rfl rfl) (S10.at_ 2 0 rfl rfl) (by rw [nV_len, nV_len, sz]; omega) (fun nl H10 S12 => ?_)
            have e4 : nV (FM.kids T T.length (some c)) ++ nV w = nV (chB T false c ++ w) := by
              show _ = nV (FM.kids T T.length (some c) ++ w)
              simp [nV]
            rw [e4] at S12
            refine ⟨r.length, by simp, nl, _, _, _, chB T false c ++ w, fo ++ [c], r, rfl, (S12.pick 2 rfl).sub (by simp), h, by rw [← hcat]; simp, rfl⟩
    cases nw with
    | true =>
      refine z_iffalse ?_
      walk_at "z"
      refine z_rev S1 (sq_l (S1.at_ 0 0 rfl rfl)) fun lt H9 S11 => ?_
      rw [rev_nV] at S11
      exact go lt _ H9 (S11.sub (by simp)) rfl
    | false =>
      refine z_iftrue (x_var (v := .ref D) rfl ?_)
      exact go D _ H1 S1 rfl
theorem hid_app (T : FM.T3) (F : List Nat) (c : Nat) : FM.hidL T (F ++ [c]) = FM.hidL T F ++ FM.belL T c := by
  unfold FM.hidL
  rw [List.flatMap_append]
  simp
theorem len_hid (T : FM.T3) : ∀ F : List Nat, (FM.hidL T F).length ≤ F.length * T.length
  | [] => by simp [FM.hidL]
  | c :: F => by
    have ih := len_hid T F
    have h1 := len_belN T c T.length
    unfold FM.hidL at ih ⊢
    rw [List.flatMap_cons, List.length_append, List.length_cons, Nat.add_mul]
    unfold FM.belL
    unfold FM.belL at ih
    omega
theorem inV_int (c : Nat) (ns : List Nat) : inV (.int (c : Int)) (nV ns) = ns.contains c := inV_nV (some c) ns
theorem take_snoc {l : List Nat} {k : Nat} (h : k < l.length) : l.take (k + 1) = l.take k ++ [l[k]] := by
  rw [List.take_succ_eq_append_getElem h]
theorem filter_snoc (p : Nat → Bool) (l : List Nat) (x : Nat) : (l ++ [x]).filter p = if p x = true then l.filter p ++ [x] else l.filter p := by
  rw [List.filter_append]
  cases h : p x <;> simp [h]
theorem pure__law_seen {K : PySem.W.Frag} {E : XK} {H : Hp} {Q : VK} {vs : List V} (h : sp__law_seen K vs H Q E) : t__law_seen K E (DD Q) (L2.start ["_law_some", "_law_hidden_by", "_law_is_newest", "_law_hidden", "_law_one"] vs) H := by
  obtain ⟨a, b, T, F, nw, rfl, ha, hb, hT, hl, hF, hin, q⟩ := h
  show t__law_seen K E (DD Q) [some (.ref a), some (.ref b), some (.bl nw), none, none] H
  have S := Z.start H
  unfold t__law_seen
  walk_at "z"
  intro h0 H1 S1
  walk_at "z"
  refine z_for_list (nV F) (fun k σ H' => ∃ (hd : Addr) (o4 : Option V), σ = [some (.ref a), some (.ref b), some (.bl nw), some (.ref hd), o4] ∧ Z H' H [[(hd, .lst (nV (FM.hidL T (F.take k))))]]) ⟨h0, _, rfl, S1⟩ (fun i σ H' _ ⟨_, _, _, S2⟩ => S2.l hb) ?_ ?_
  · rintro k x σ H2 hx ⟨hd, _, rfl, S2⟩
    have hk : k < F.length := by
      have := (List.getElem?_eq_some_iff.mp hx).1
      rwa [nV_len] at this
    rw [nV_at hk] at hx
    cases hx
    walk_at "z"
    refine ⟨a, T, F[k], rfl, S2.l ha, hT, hl, hin _ (List.getElem_mem hk), fun p H3 ex hn hp => ?_⟩
    have S3 := S2.add ex hn hp
    have h1 := len_hid T (F.take k)
    have h2 := len_belN T F[k] T.length
    have h3 : (F.take k).length * T.length ≤ 1000 * 1000 := Nat.mul_le_mul (by rw [List.length_take]; omega) hl
    refine z_cat S3 (S3.at_ 1 0 rfl rfl) (S3.at_ 0 0 rfl rfl) (by rw [nV_len, nV_len, sz]; unfold FM.belL; omega) (fun nl H4 S4 => ?_)
    have e : nV (FM.hidL T (F.take k)) ++ nV (FM.belL T F[k]) = nV (FM.hidL T (F.take (k + 1))) := by
      rw [take_snoc hk, hid_app]
      simp [nV]
    rw [e] at S4
    exact ⟨nl, _, rfl, S4.sub (by simp)⟩
  · rintro σ H2 ⟨hd, _, rfl, S2⟩
    rw [nV_len, List.take_length] at S2
    walk_at "z"
    refine ⟨a, T, nw, rfl, S2.l ha, hT, hl, fun p H3 ex hn hp => ?_⟩
    have S3 := S2.add ex hn hp
    walk_at "z"
    refine z_lcL S3 (nV (ordB T nw)) (fun k => nV (FM.shoL T F ((ordB T nw).take k))) rfl (fun H' S' => sq_l (S'.at_ 0 0 rfl rfl)) (fun k x D H4 hx S4 => ?_) (fun D H4 S4 => ?_)
    · have hk : k < (ordB T nw).length := by
        have := (List.getElem?_eq_some_iff.mp hx).1
        rwa [nV_len] at this
      rw [nV_at hk] at hx
      cases hx
      walk_at "z"
      refine .inl ⟨hd, _, rfl, .inl (sq_l (S4.at_ 2 0 rfl rfl)), rfl, flat_nV _, ?_⟩
      rw [if_pos rfl, inV_int]
      refine z_bl ?_
      have e : FM.shoL T F ((ordB T nw).take (k + 1)) = if (!(FM.hidL T F).contains (ordB T nw)[k]) = true then FM.shoL T F ((ordB T nw).take k) ++ [(ordB T nw)[k]] else FM.shoL T F ((ordB T nw).take k) := by
        rw [take_snoc hk]
        exact filter_snoc _ _ _
      rw [e]
      refine z_iteNB (fun z => ?_) (fun z => ?_)
      · rw [z]
        walk_at "z"
        have hle : (FM.shoL T F ((ordB T nw).take k)).length ≤ 1000 := by
          refine Nat.le_trans (List.length_filter_le _ _) ?_
          rw [List.length_take, len_ordB]
          omega
        exact z_app (N := []) S4 (by rw [nV_len, sz]; omega) (by simp [nV])
      · rw [z]
        exact S4
    · rw [nV_len, List.take_length] at S4
      exact q D H4 S4.base (S4.no 0 0 rfl rfl) S4.hd
end FT

namespace FT
open PySem PySem.Spec PyProof.Rows L2
/-! ### forums -/
def fnm (nw : Bool) : Str := if nw = true then "NewestForum" else "Forum"
def fcl (K : PySem.W.Frag) (nw : Bool) : Addr := if nw = true then He.ga K "NewestForum" else He.ga K "Forum"
/-- what the classes have -/
structure ClsF (K : PySem.W.Frag) : Prop where
  cl : ∀ nw, Cls K (fcl K nw)
  n1 : ∀ nw, NoAttr K (fcl K nw) "class_name"
  n2 : ∀ nw, NoAttr K (fcl K nw) "state"
  n3 : ∀ nw, NoAttr K (fcl K nw) "past"
  most : ∀ nw, ∃ mc u, ClX.CRead K (fcl K nw) mc ∧ ClX.CVal K (fcl K nw) mc "MOST" (.int 40) u
/-- thread, folded, order -/
structure S3 where
  T : FM.T3
  F : List Nat
  O : List Nat
deriving DecidableEq
/-- a state's tuples -/
def StA (K : PySem.W.Frag) (B : Hp) (st : Addr) (s : S3) : Prop := ∃ a b c, SqT K B st [.ref a, .ref b, .ref c] ∧ SqT K B a (s.T.map ov) ∧ SqT K B b (nV s.F) ∧ SqT K B c (nV s.O)
theorem StA.ext {K : PySem.W.Frag} {B B' : Hp} {st : Addr} {s : S3} (e : Ex B B') (h : StA K B st s) : StA K B' st s := by
  obtain ⟨a, b, c, h1, h2, h3, h4⟩ := h
  exact ⟨a, b, c, e.t h1, e.t h2, e.t h3, e.t h4⟩
def flds (nm : Str) (st ps : Addr) : List (Str × V) := [("class_name", .str nm), ("state", .ref st), ("past", .ref ps)]
/-- the object at p, of the class at C, named nm: its state, the states before -/
structure Fo0 (K : PySem.W.Frag) (B : Hp) (seg : Seg) (p C : Addr) (nm : Str) (cur : S3) (past : List S3) : Prop where
  ex : ∃ (dx ps st : Addr) (sts : List Addr), seg = [(p, .ins C dx (flds nm st ps)), (dx, .own p), (ps, .lst (sts.map .ref))] ∧ StA K B st cur ∧ sts.length = past.length ∧ ∀ (i : Nat) (t : Addr) (s : S3), sts[i]? = some t → past[i]? = some s → StA K B t s
theorem Fo0.ext {K : PySem.W.Frag} {B B' : Hp} {seg : Seg} {p C : Addr} {nm : Str} {cur : S3} {past : List S3} (e : Ex B B') (h : Fo0 K B seg p C nm cur past) : Fo0 K B' seg p C nm cur past := by
  obtain ⟨dx, ps, st, sts, h1, h2, h3, h4⟩ := h.ex
  exact ⟨⟨dx, ps, st, sts, h1, h2.ext e, h3, fun i t s a b => (h4 i t s a b).ext e⟩⟩
/-- what holds of a state: a thread of at most 40 comments, its order, comments that are folded -/
structure Ok3 (nw : Bool) (s : S3) : Prop where
  th : FM.Th s.T
  len : s.T.length ≤ 40
  ord : s.O = ordB s.T nw
  fol : ∀ c ∈ s.F, c < s.T.length
  asc : s.F.Pairwise (· < ·)
/-- a forum -/
structure Fo (K : PySem.W.Frag) (B : Hp) (seg : Seg) (p : Addr) (nw : Bool) (cur : S3) (past : List S3) : Prop where
  cf : ClsF K
  ob : Fo0 K B seg p (fcl K nw) (fnm nw) cur past
  ok : Ok3 nw cur
  oks : ∀ s ∈ past, Ok3 nw s
  pl : past.length ≤ 100000
theorem Fo.ext {K : PySem.W.Frag} {B B' : Hp} {seg : Seg} {p : Addr} {nw : Bool} {cur : S3} {past : List S3} (e : Ex B B') (h : Fo K B seg p nw cur past) : Fo K B' seg p nw cur past := ⟨h.cf, h.ob.ext e, h.ok, h.oks, h.pl⟩
/-- __init__ of Forum: the object as it was made -/
def sp_Forum___init__ (K : PySem.W.Frag) : Sp := fun vs H Q _ => ∃ (x dx : Addr) (nw : Bool) (B : Hp) (R : List Seg), vs = [.ref x] ∧ ClsF K ∧ Z H B ([(x, .ins (fcl K nw) dx []), (dx, .own x)] :: R) ∧
  ∀ B' seg H', Ex B B' → Fo0 K B' seg x (fcl K nw) "Forum" ⟨[], [], []⟩ [] → Z H' B' (seg :: R) → Q .non H'
def sp_NewestForum___init__ (K : PySem.W.Frag) : Sp := fun vs H Q _ => ∃ (x dx : Addr) (B : Hp) (R : List Seg), vs = [.ref x] ∧ ClsF K ∧ Z H B ([(x, .ins (fcl K true) dx []), (dx, .own x)] :: R) ∧
  ∀ B' seg H', Ex B B' → Fo0 K B' seg x (fcl K true) "NewestForum" ⟨[], [], []⟩ [] → Z H' B' (seg :: R) → Q .non H'
def sp_Forum_sorted_in (K : PySem.W.Frag) : Sp := fun vs H Q _ => ∃ (x : V) (a : Addr) (b : Bool) (T : FM.T3), vs = [x, .ref a] ∧ SqB b K H a (T.map ov) ∧ FM.Th T ∧ T.length ≤ 1000 ∧ NewL H (ordB T false) Q
def sp_NewestForum_sorted_in (K : PySem.W.Frag) : Sp := fun vs H Q _ => ∃ (x : V) (a : Addr) (b : Bool) (T : FM.T3), vs = [x, .ref a] ∧ SqB b K H a (T.map ov) ∧ FM.Th T ∧ T.length ≤ 1000 ∧ NewL H (ordB T true) Q
/-- ascending lists that hold the same -/
theorem asc_ext {l m : List Nat} (h1 : l.Pairwise (· < ·)) (h2 : m.Pairwise (· < ·)) (h : ∀ x, x ∈ l ↔ x ∈ m) : l = m := by
  induction l generalizing m with
  | nil =>
    cases m with
    | nil => rfl
    | cons y m => exact absurd ((h y).mpr List.mem_cons_self) (by simp)
  | cons x l ih =>
    cases m with
    | nil => exact absurd ((h x).mp List.mem_cons_self) (by simp)
    | cons y m =>
      obtain ⟨a1, a2⟩ := List.pairwise_cons.mp h1
      obtain ⟨b1, b2⟩ := List.pairwise_cons.mp h2
      have e : x = y := by
        rcases List.mem_cons.mp ((h x).mp List.mem_cons_self) with e | e
        · exact e
        · rcases List.mem_cons.mp ((h y).mpr List.mem_cons_self) with e2 | e2
          · exact e2.symm
          · have := a1 y e2
            have := b1 x e
            omega
      subst e
      rw [ih a2 b2 fun z => ?_]
      constructor
      · intro hz
        rcases List.mem_cons.mp ((h z).mp (List.mem_cons_of_mem _ hz)) with e | e
        · have := a1 z hz
          omega
        · exact e
      · intro hz
        rcases List.mem_cons.mp ((h z).mpr (List.mem_cons_of_mem _ hz)) with e | e
        · have := b1 z hz
          omega
        · exact e
theorem asc_len : ∀ {l : List Nat} {n : Nat}, l.Pairwise (· < ·) → (∀ x ∈ l, x < n) → l.length ≤ n
  | [], n, _, _ => Nat.zero_le _
  | x :: l, n, h, hb => by
    obtain ⟨a1, a2⟩ := List.pairwise_cons.mp h
    have h2 : (l.map (· - 1)).Pairwise (· < ·) := by
      rw [List.pairwise_map]
      refine List.Pairwise.imp_of_mem (fun {y z} hy hz hyz => ?_) a2
      have := a1 y hy
      have := a1 z hz
      omega
    have hn : n ≠ 0 := fun e => by have := hb x List.mem_cons_self; omega
    have h3 := asc_len (l := l.map (· - 1)) (n := n - 1) h2 fun y hy => by
      obtain ⟨z, hz, rfl⟩ := List.mem_map.mp hy
      have := a1 z hz
      have := hb z (List.mem_cons_of_mem _ hz)
      show z - 1 < n - 1
      omega
    rw [List.length_map] at h3
    rw [List.length_cons]
    omega
termination_by l => l.length
theorem Ok3.fl {nw : Bool} {s : S3} (h : Ok3 nw s) : s.F.length ≤ 40 := Nat.le_trans (asc_len h.asc h.fol) h.len
/-- the folded ones with one more -/
def addF (F : List Nat) (c : Nat) : List Nat := if c ∈ F then F else F.filter (fun x => decide (x < c)) ++ c :: F.filter (fun x => decide (c < x))
theorem mem_addF {F : List Nat} {c x : Nat} : x ∈ addF F c ↔ x = c ∨ x ∈ F := by
  unfold addF
  split
  · rename_i h
    exact ⟨.inr, fun z => z.elim (fun e => by rw [e]; exact h) id⟩
  · rename_i h
    rw [List.mem_append, List.mem_cons, List.mem_filter, List.mem_filter, decide_eq_true_iff, decide_eq_true_iff]
    constructor
    · rintro (⟨z, _⟩ | z | ⟨z, _⟩)
      · exact .inr z
      · exact .inl z
      · exact .inr z
    · rintro (z | z)
      · exact .inr (.inl z)
      · have hne : x ≠ c := fun e => h (by rw [← e]; exact z)
        by_cases hx : x < c
        · exact .inl ⟨z, hx⟩
        · exact .inr (.inr ⟨z, by omega⟩)
theorem asc_addF {F : List Nat} {c : Nat} (h : F.Pairwise (· < ·)) : (addF F c).Pairwise (· < ·) := by
  unfold addF
  split
  · exact h
  · refine List.pairwise_append.mpr ⟨h.sublist List.filter_sublist, List.pairwise_cons.mpr ⟨fun x hx => of_decide_eq_true (List.mem_filter.mp hx).2, h.sublist List.filter_sublist⟩, fun x hx y hy => ?_⟩
    have h1 : x < c := of_decide_eq_true (List.mem_filter.mp hx).2
    rcases List.mem_cons.mp hy with e | e
    · rw [e]; exact h1
    · have : c < y := of_decide_eq_true (List.mem_filter.mp e).2
      omega
/-- .. without one -/
def rmF (F : List Nat) (c : Nat) : List Nat := F.filter fun x => !decide (x = c)
theorem mem_rmF {F : List Nat} {c x : Nat} : x ∈ rmF F c ↔ x ∈ F ∧ x ≠ c := by
  unfold rmF
  rw [List.mem_filter]
  simp
def sp_below_in (K : PySem.W.Frag) : Sp := fun vs H Q _ => ∃ (a : Addr) (b : Bool) (T : FM.T3) (c : Nat), vs = [.ref a, .int (c : Int)] ∧ SqB b K H a (T.map ov) ∧ FM.Th T ∧ T.length ≤ 1000 ∧ c < T.length ∧ NewL H (FM.belL T c) Q
def sp_shown_in (K : PySem.W.Frag) : Sp := fun vs H Q _ => ∃ (a b c : Addr) (T : FM.T3) (F O : List Nat), vs = [.ref a, .ref b, .ref c] ∧ SqT K H a (T.map ov) ∧ SqT K H b (nV F) ∧ SqT K H c (nV O) ∧ FM.Th T ∧ T.length ≤ 1000 ∧ (∀ c ∈ F, c < T.length) ∧ F.length ≤ 1000 ∧ O.length ≤ 1000 ∧ NewL H (FM.shoL T F O) Q
/-- change: a new thread (a list or a tuple), comments folded -/
def sp_Forum_change (K : PySem.W.Frag) : Sp := fun vs H Q _ => ∃ (p a b : Addr) (ba bb : Bool) (T : FM.T3) (F : List Nat) (B : Hp) (R : List Seg) (i : Nat) (seg : Seg) (nw : Bool) (cur : S3) (past : List S3), vs = [.ref p, .ref a, .ref b] ∧ Z H B R ∧ R[i]? = some seg ∧ Fo K B seg p nw cur past ∧ past.length < 100000 ∧
  SqB ba K B a (T.map ov) ∧ FM.Th T ∧ T.length ≤ 40 ∧ SqB bb K B b (nV F) ∧ (∀ c ∈ F, c < T.length) ∧ F.Pairwise (· < ·) ∧
  ∀ B' seg' H', Ex B B' → Fo K B' seg' p nw ⟨T, F, ordB T nw⟩ (past ++ [cur]) → Z H' B' (R.set i seg') → Q .non H'
/-- fold, unfold, undo -/
def sp_Forum_fold (K : PySem.W.Frag) : Sp := fun vs H Q E => ∃ (p : Addr) (v : V) (B : Hp) (R : List Seg) (i : Nat) (seg : Seg) (nw : Bool) (cur : S3) (past : List S3), vs = [.ref p, v] ∧ Z H B R ∧ R[i]? = some seg ∧ Fo K B seg p nw cur past ∧ past.length < 100000 ∧ KdI K H v ∧
  (isI v 0 (some ((cur.T.length : Int) - 1)) = false → E (.ref (He.ga K "InvalidComment")) none H) ∧
  (∀ c : Nat, v = .int (c : Int) → c < cur.T.length → ∀ B' seg' H', Ex B B' → Fo K B' seg' p nw ⟨cur.T, addF cur.F c, ordB cur.T nw⟩ (past ++ [cur]) → Z H' B' (R.set i seg') → Q .non H')
def sp_Forum_unfold (K : PySem.W.Frag) : Sp := fun vs H Q E => ∃ (p : Addr) (v : V) (B : Hp) (R : List Seg) (i : Nat) (seg : Seg) (nw : Bool) (cur : S3) (past : List S3), vs = [.ref p, v] ∧ Z H B R ∧ R[i]? = some seg ∧ Fo K B seg p nw cur past ∧ past.length < 100000 ∧ KdI K H v ∧
  (isI v 0 (some ((cur.T.length : Int) - 1)) = false → E (.ref (He.ga K "InvalidComment")) none H) ∧
  (∀ c : Nat, v = .int (c : Int) → c < cur.T.length → c ∉ cur.F → E (.ref (He.ga K "NotFolded")) none H) ∧
  (∀ c : Nat, v = .int (c : Int) → c < cur.T.length → c ∈ cur.F → ∀ B' seg' H', Ex B B' → Fo K B' seg' p nw ⟨cur.T, rmF cur.F c, ordB cur.T nw⟩ (past ++ [cur]) → Z H' B' (R.set i seg') → Q .non H')
def sp_Forum_undo (K : PySem.W.Frag) : Sp := fun vs H Q E => ∃ (p : Addr) (B : Hp) (R : List Seg) (i : Nat) (seg : Seg) (nw : Bool) (cur : S3) (past : List S3), vs = [.ref p] ∧ Z H B R ∧ R[i]? = some seg ∧ Fo K B seg p nw cur past ∧
  (past = [] → ∀ H', Z H' B R → E (.ref (He.ga K "NothingToUndo")) none H') ∧
  (∀ ps s, past = ps ++ [s] → ∀ seg' H', Fo K B seg' p nw s ps → Z H' B (R.set i seg') → Q .non H')
/-- post -/
def sp_Forum_post (K : PySem.W.Frag) : Sp := fun vs H Q E => ∃ (p : Addr) (v : V) (B : Hp) (R : List Seg) (i : Nat) (seg : Seg) (nw : Bool) (cur : S3) (past : List S3), vs = [.ref p, v] ∧ Z H B R ∧ R[i]? = some seg ∧ Fo K B seg p nw cur past ∧ past.length < 100000 ∧ (v = .non ∨ KdI K H v) ∧
  (v ≠ .non → isI v 0 (some ((cur.T.length : Int) - 1)) = false → E (.ref (He.ga K "InvalidComment")) none H) ∧
  ((v = .non ∨ isI v 0 (some ((cur.T.length : Int) - 1)) = true) → cur.T.length = 40 → E (.ref (He.ga K "TooMany")) none H) ∧
  (∀ o : Option Nat, v = ov o → okP cur.T.length o → cur.T.length < 40 → ∀ B' seg' H', Ex B B' → Fo K B' seg' p nw ⟨cur.T ++ [o], cur.F, ordB (cur.T ++ [o]) nw⟩ (past ++ [cur]) → Z H' B' (R.set i seg') → Q (.int (cur.T.length : Int)) H')
/-- what is read off a forum: a new list -/
def spRead (K : PySem.W.Frag) (g : S3 → List V) : Sp := fun vs H Q _ => ∃ (p : Addr) (B : Hp) (R : List Seg) (i : Nat) (seg : Seg) (nw : Bool) (cur : S3) (past : List S3), vs = [.ref p] ∧ Z H B R ∧ R[i]? = some seg ∧ Fo K B seg p nw cur past ∧
  ∀ l H', Z H' B ([(l, .lst (g cur))] :: R) → Q (.ref l) H'
def sp_Forum_thread (K : PySem.W.Frag) : Sp := spRead K fun s => s.T.map ov
def sp_Forum_order (K : PySem.W.Frag) : Sp := spRead K fun s => nV s.O
def sp_Forum_folded (K : PySem.W.Frag) : Sp := spRead K fun s => nV s.F
def sp_Forum___len__ (K : PySem.W.Frag) : Sp := fun vs H Q _ => ∃ (p : Addr) (B : Hp) (R : List Seg) (i : Nat) (seg : Seg) (nw : Bool) (cur : S3) (past : List S3), vs = [.ref p] ∧ Z H B R ∧ R[i]? = some seg ∧ Fo K B seg p nw cur past ∧ Q (.int (cur.T.length : Int)) H
end FT
namespace FT
open PySem PySem.Spec PyProof.Rows L2
/-- slots: thread, comment, family, later, answers -/
def t_below_in (K : PySem.W.Frag) (E : XK) : TS :=
  (tSeq (tAsg (tD1 (tVar 1) (tC (.bl true))) (gName 2))
  (tSeq (tFor (iEnumB K (tCons (tVar 0) tNil)) (gTup K 2 (gCons (gName 3) (gCons (gName 4) gNil))) (tIfS (tB (tDInN (tVar 4) (tVar 2))) (sDPut (tVar 2) (tVar 3) (tC (.bl true))) tNext))
  (tRet (tSl (qSl K) (tCB qListD (tCons (tVar 2) tNil)) (tPart (tC (.int 1))) tNoPart))))
/-- slots: thread, folded, order, hidden, comment -/
def t_shown_in (K : PySem.W.Frag) (E : XK) : TS :=
  (tSeq (tAsg (tLst tNil) (gName 3))
  (tSeq (tFor (iSeq K (tVar 1)) (gName 4) (tAug 3 (tCall (sp_below_in K) [] E0 (tCons (tVar 0) (tCons (tVar 4) tNil))) rExt2))
  (tRet (tLc (iSeq K (tVar 2)) (gName 4) (tTest (tOp (qNotIn K) (tVar 4) (tVar 3))) (tVar 4) [4]))))
/-- slots: self -/
def t_Forum___init__ (K : PySem.W.Frag) (E : XK) : TS :=
  (tSeq (sFld K (tVar 0) (tC (.str "Forum")) "class_name")
  (tSeq (sFld K (tVar 0) (tTup (tCons (tTup tNil) (tCons (tTup tNil) (tCons (tTup tNil) tNil)))) "state")
  (sFld K (tVar 0) (tLst tNil) "past")))
/-- slots: self, thread -/
def t_Forum_sorted_in (K : PySem.W.Frag) (E : XK) : TS :=
  (tRet (tCall (sp_order_in K) [] E0 (tCons (tVar 1) tNil)))
/-- slots: self, thread, folded -/
def t_Forum_change (K : PySem.W.Frag) (E : XK) : TS :=
  (tSeq (tDrop (tBM K "list" rAppend (tFld K (tVar 0) "past") (tCons (tFld K (tVar 0) "state") tNil)))
  (sFld K (tVar 0) (tTup (tCons (tCB (qTuple K) (tCons (tVar 1) tNil)) (tCons (tCB (qTuple K) (tCons (tVar 2) tNil)) (tCons (tCB (qTuple K) (tCons (tOr2 (tMeth (He.ga K "Forum") "sorted_in" (sp_Forum_sorted_in K) [] E0 (tVar 0) (tCons (tVar 1) tNil)) (tMeth (He.ga K "NewestForum") "sorted_in" (sp_NewestForum_sorted_in K) [] E0 (tVar 0) (tCons (tVar 1) tNil))) tNil)) tNil)))) "state"))
/-- slots: self, answers, thread, folded, order -/
def t_Forum_post (K : PySem.W.Frag) (E : XK) : TS :=
  (tSeq (tAsg (tFld K (tVar 0) "state") (gTup K 3 (gCons (gName 2) (gCons (gName 3) (gCons (gName 4) gNil)))))
  (tSeq (tIfS (tTest (tOp qIsNot (tVar 1) (tC .non))) (tDrop (tCallS (sp_require_comment K) (WE (wF E)) (tCons (tCB (qLen K) (tCons (tVar 2) tNil)) (tCons (tVar 1) tNil)))) tNext)
  (tSeq (tIfS (tTest (tOp qGe (tCB (qLen K) (tCons (tVar 2) tNil)) (ClX.tCVal K (tC (.ref (He.ga K "Forum"))) "MOST"))) (tRaise (wF E) (He.ga K "TooMany")) tNext)
  (tSeq (tDrop (tOr2 (tMeth (He.ga K "Forum") "change" (sp_Forum_change K) [] E0 (tVar 0) (tCons (tLst (StX.tStar K (tVar 2) (tCons (tVar 1) tNil))) (tCons (tVar 3) tNil))) (tMeth (He.ga K "NewestForum") "change" (sp_Forum_change K) [] E0 (tVar 0) (tCons (tLst (StX.tStar K (tVar 2) (tCons (tVar 1) tNil))) (tCons (tVar 3) tNil)))))
  (tRet (tCB (qLen K) (tCons (tVar 2) tNil)))))))
/-- slots: self, comment, thread, folded, order -/
def t_Forum_fold (K : PySem.W.Frag) (E : XK) : TS :=
  (tSeq (tAsg (tFld K (tVar 0) "state") (gTup K 3 (gCons (gName 2) (gCons (gName 3) (gCons (gName 4) gNil)))))
  (tSeq (tDrop (tCallS (sp_require_comment K) (WE (wF E)) (tCons (tCB (qLen K) (tCons (tVar 2) tNil)) (tCons (tVar 1) tNil))))
  (tDrop (tOr2 (tMeth (He.ga K "Forum") "change" (sp_Forum_change K) [] E0 (tVar 0) (tCons (tVar 2) (tCons (tSortSet K (tOp (qAdd K) (tVar 3) (tTup (tCons (tVar 1) tNil)))) tNil))) (tMeth (He.ga K "NewestForum") "change" (sp_Forum_change K) [] E0 (tVar 0) (tCons (tVar 2) (tCons (tSortSet K (tOp (qAdd K) (tVar 3) (tTup (tCons (tVar 1) tNil)))) tNil)))))))
/-- slots: self, comment, thread, folded, order, other -/
def t_Forum_unfold (K : PySem.W.Frag) (E : XK) : TS :=
  (tSeq (tAsg (tFld K (tVar 0) "state") (gTup K 3 (gCons (gName 2) (gCons (gName 3) (gCons (gName 4) gNil)))))
  (tSeq (tDrop (tCallS (sp_require_comment K) (WE (wF E)) (tCons (tCB (qLen K) (tCons (tVar 2) tNil)) (tCons (tVar 1) tNil))))
  (tSeq (tIfS (tTest (tOp (qNotIn K) (tVar 1) (tVar 3))) (tRaise (wF E) (He.ga K "NotFolded")) tNext)
  (tDrop (tOr2 (tMeth (He.ga K "Forum") "change" (sp_Forum_change K) [] E0 (tVar 0) (tCons (tVar 2) (tCons (tLc (iSeq K (tVar 3)) (gName 5) (tTest (tOp (qNe K) (tVar 5) (tVar 1))) (tVar 5) [5]) tNil))) (tMeth (He.ga K "NewestForum") "change" (sp_Forum_change K) [] E0 (tVar 0) (tCons (tVar 2) (tCons (tLc (iSeq K (tVar 3)) (gName 5) (tTest (tOp (qNe K) (tVar 5) (tVar 1))) (tVar 5) [5]) tNil))))))))
/-- slots: self -/
def t_Forum_undo (K : PySem.W.Frag) (E : XK) : TS :=
  (tSeq (tIfS (tTest (tOp (qEq K) (tFld K (tVar 0) "past") (tLst tNil))) (tRaise (wF E) (He.ga K "NothingToUndo")) tNext)
  (sFld K (tVar 0) (tBM0 K "list" qPop (tFld K (tVar 0) "past")) "state"))
/-- slots: self -/
def t_Forum_thread (K : PySem.W.Frag) (E : XK) : TS :=
  (tRet (tCB (qList K) (tCons (tOp (qIx K) (tFld K (tVar 0) "state") (tC (.int 0))) tNil)))
/-- slots: self -/
def t_Forum_order (K : PySem.W.Frag) (E : XK) : TS :=
  (tRet (tCB (qList K) (tCons (tOp (qIx K) (tFld K (tVar 0) "state") (tC (.int 2))) tNil)))
/-- slots: self -/
def t_Forum_folded (K : PySem.W.Frag) (E : XK) : TS :=
  (tRet (tCB (qList K) (tCons (tOp (qIx K) (tFld K (tVar 0) "state") (tC (.int 1))) tNil)))
/-- slots: self -/
def t_Forum_shown (K : PySem.W.Frag) (E : XK) : TS :=
  (tRet (tCall (sp_shown_in K) [] E0 (tCons (tOp (qIx K) (tFld K (tVar 0) "state") (tC (.int 0))) (tCons (tOp (qIx K) (tFld K (tVar 0) "state") (tC (.int 1))) (tCons (tOp (qIx K) (tFld K (tVar 0) "state") (tC (.int 2))) tNil)))))
/-- slots: self -/
def t_Forum___len__ (K : PySem.W.Frag) (E : XK) : TS :=
  (tRet (tCB (qLen K) (tCons (tOp (qIx K) (tFld K (tVar 0) "state") (tC (.int 0))) tNil)))
/-- slots: self, thread -/
def t_NewestForum_sorted_in (K : PySem.W.Frag) (E : XK) : TS :=
  (tRet (tCall (sp_newest_in K) [] E0 (tCons (tVar 1) tNil)))
end FT
namespace FT
open PySem PySem.Spec PyProof.Rows L2
theorem k12 : ¬ (("class_name" : Str) = "state") := by decide +kernel
theorem k13 : ¬ (("class_name" : Str) = "past") := by decide +kernel
theorem k23 : ¬ (("state" : Str) = "past") := by decide +kernel
theorem flds_cn (nm : Str) (st ps : Addr) : (flds nm st ps).lookup ("class_name" : Str) = some (.str nm) := by
  unfold flds
  rw [List.lookup_cons, beq_self_eq_true]
theorem flds_st (nm : Str) (st ps : Addr) : (flds nm st ps).lookup ("state" : Str) = some (.ref st) := by
  unfold flds
  rw [List.lookup_cons, beq_eq_false_iff_ne.mpr (fun z => k12 z.symm), List.lookup_cons, beq_self_eq_true]
theorem flds_ps (nm : Str) (st ps : Addr) : (flds nm st ps).lookup ("past" : Str) = some (.ref ps) := by
  unfold flds
  rw [List.lookup_cons, beq_eq_false_iff_ne.mpr (fun z => k13 z.symm), List.lookup_cons, beq_eq_false_iff_ne.mpr (fun z => k23 z.symm), List.lookup_cons, beq_self_eq_true]
theorem flds_no {nm : Str} {st ps : Addr} {m : Str} (h1 : ¬ m = "class_name") (h2 : ¬ m = "state") (h3 : ¬ m = "past") : (flds nm st ps).lookup m = none := by
  unfold flds
  rw [List.lookup_cons, beq_eq_false_iff_ne.mpr h1, List.lookup_cons, beq_eq_false_iff_ne.mpr h2, List.lookup_cons, beq_eq_false_iff_ne.mpr h3] <;> rfl
theorem flds_put (nm : Str) (st st' ps : Addr) : putF "state" (.ref st') (flds nm st ps) = flds nm st' ps := by
  unfold flds
  show (if ("class_name" : Str) = "state" then _ else (("class_name" : Str), V.str nm) :: (if ("state" : Str) = "state" then [(("state" : Str), V.ref st'), ("past", .ref ps)] else _)) = _
  rw [if_neg k12, if_pos rfl]
theorem flds_name (nm nm' : Str) (st ps : Addr) : putF "class_name" (.str nm') (flds nm st ps) = flds nm' st ps := by
  unfold flds
  show (if ("class_name" : Str) = "class_name" then [(("class_name" : Str), V.str nm'), ("state", .ref st), ("past", .ref ps)] else _) = _
  rw [if_pos rfl]
theorem flds_new (nm : Str) (st ps : Addr) : putF "past" (.ref ps) (putF "state" (.ref st) (putF "class_name" (.str nm) [])) = flds nm st ps := by
  have e1 : putF "class_name" (.str nm) [] = [(("class_name" : Str), V.str nm)] := rfl
  have e2 : putF "state" (.ref st) [(("class_name" : Str), V.str nm)] = [(("class_name" : Str), V.str nm), ("state", .ref st)] := by
    show (if ("class_name" : Str) = "state" then _ else (("class_name" : Str), V.str nm) :: putF "state" (.ref st) []) = _
    rw [if_neg k12] <;> rfl
  rw [e1, e2]
  show (if ("class_name" : Str) = "past" then _ else (("class_name" : Str), V.str nm) :: (if ("state" : Str) = "past" then _ else (("state" : Str), V.ref st) :: putF "past" (.ref ps) [])) = _
  rw [if_neg k13, if_neg k23] <;> rfl
/-- the forum's parts, as they stand in H -/
theorem Fo0.open_ {K : PySem.W.Frag} {H B : Hp} {R : List Seg} {i : Nat} {seg : Seg} {p C : Addr} {nm : Str} {cur : S3} {past : List S3} (F : Fo0 K B seg p C nm cur past) (S : Z H B R) (h : R[i]? = some seg) :
    ∃ (dx ps st : Addr) (sts : List Addr) (a b c : Addr), seg = [(p, .ins C dx (flds nm st ps)), (dx, .own p), (ps, .lst (sts.map .ref))] ∧ H p = some (.ins C dx (flds nm st ps)) ∧ H ps = some (.lst (sts.map .ref)) ∧
      SqT K B st [.ref a, .ref b, .ref c] ∧ SqT K B a (cur.T.map ov) ∧ SqT K B b (nV cur.F) ∧ SqT K B c (nV cur.O) ∧ sts.length = past.length ∧ (∀ (i : Nat) (t : Addr) (s : S3), sts[i]? = some t → past[i]? = some s → StA K B t s) := by
  obtain ⟨dx, ps, st, sts, rfl, ⟨a, b, c, h1, h2, h3, h4⟩, h5, h6⟩ := F.ex
  exact ⟨dx, ps, st, sts, a, b, c, rfl, S.at_ i 0 h rfl, S.at_ i 2 h rfl, h1, h2, h3, h4, h5, h6⟩
section
variable {K : PySem.W.Frag} {H B : Hp} {Q : VK} {σ : L2.St} {R : List Seg} {i j : Nat} {seg : Seg} {p : Addr} {nw : Bool} {cur : S3} {past : List S3}
theorem Fo.hp (F : Fo K B seg p nw cur past) (S : Z H B R) (hi : R[i]? = some seg) : ∃ dx st ps, H p = some (.ins (fcl K nw) dx (flds (fnm nw) st ps)) := by
  obtain ⟨dx, ps, st, sts, a, b, c, rfl, hp, -⟩ := F.ob.open_ S hi
  exact ⟨dx, st, ps, hp⟩
/-- a property, of whichever class -/
theorem or_pr {sp : Sp} (S : Z H B R) (hi : R[i]? = some seg) (F : Fo K B seg p nw cur past) (hσ : σ[j]? = some (some (.ref p))) (q : sp [.ref p] H Q E0) :
    tOr2 (tProp (He.ga K "Forum") sp [] E0 (tVar j)) (tProp (He.ga K "NewestForum") sp [] E0 (tVar j)) σ H Q := by
  obtain ⟨dx, st, ps, hp⟩ := F.hp S hi
  cases nw with
  | false => exact x_orL (x_var hσ (z_prop hp q))
  | true => exact x_orR (x_var hσ (z_prop hp q))
theorem or_meth {m : Str} {sp : Sp} {dvs : List V} {as : TA} (S : Z H B R) (hi : R[i]? = some seg) (F : Fo K B seg p nw cur past) (hσ : σ[j]? = some (some (.ref p))) (h1 : ¬ m = "class_name") (h2 : ¬ m = "state") (h3 : ¬ m = "past") (q : as σ H fun vs H2 => sp (.ref p :: (vs ++ dvs)) H2 Q E0) :
    tOr2 (tMeth (He.ga K "Forum") m sp dvs E0 (tVar j) as) (tMeth (He.ga K "NewestForum") m sp dvs E0 (tVar j) as) σ H Q := by
  obtain ⟨dx, st, ps, hp⟩ := F.hp S hi
  cases nw with
  | false => exact x_orL (x_var hσ (z_meth hp (flds_no h1 h2 h3) q))
  | true => exact x_orR (x_var hσ (z_meth hp (flds_no h1 h2 h3) q))
theorem or_len {sp : Sp} (S : Z H B R) (hi : R[i]? = some seg) (F : Fo K B seg p nw cur past) (hσ : σ[j]? = some (some (.ref p))) (q : sp [.ref p] H (fun v H1 => ∃ n : Nat, v = .int (n : Int) ∧ n < 2 ^ 62 ∧ Q (.int (n : Int)) H1) (fun _ _ _ => False)) :
    tOr2 (tCB (rLenO (He.ga K "Forum") sp) (tCons (tVar j) tNil)) (tCB (rLenO (He.ga K "NewestForum") sp) (tCons (tVar j) tNil)) σ H Q := by
  obtain ⟨dx, st, ps, hp⟩ := F.hp S hi
  cases nw with
  | false => exact x_orL (x_var hσ (z_lenO hp q))
  | true => exact x_orR (x_var hσ (z_lenO hp q))
end
theorem or_methK {K : PySem.W.Frag} {H B : Hp} {Q : VK} {σ : L2.St} {R : List Seg} {i j n : Nat} {seg : Seg} {p : Addr} {nw : Bool} {cur : S3} {past : List S3} {m : Str} {sp : Sp} {tk : TA} (S : Z H B R) (hi : R[i]? = some seg) (F : Fo K B seg p nw cur past) (hσ : σ[j]? = some (some (.ref p))) (h1 : ¬ m = "class_name") (h2 : ¬ m = "state") (h3 : ¬ m = "past") (q : tk σ H fun zs H2 => zs.length = n ∧ sp (.ref p :: zs) H2 Q E0) :
    tOr2 (tMethK (He.ga K "Forum") m sp n (tVar j) tk) (tMethK (He.ga K "NewestForum") m sp n (tVar j) tk) σ H Q := by
  obtain ⟨dx, st, ps, hp⟩ := F.hp S hi
  cases nw with
  | false => exact x_orL (x_var hσ (z_methK hp (flds_no h1 h2 h3) q))
  | true => exact x_orR (x_var hσ (z_methK hp (flds_no h1 h2 h3) q))
theorem pure_Forum___init__ {K : PySem.W.Frag} {E : XK} {H : Hp} {Q : VK} {vs : List V} (h : sp_Forum___init__ K vs H Q E) : t_Forum___init__ K E (DD Q) (L2.start ["self"] vs) H := by
  obtain ⟨x, dx, nw, B, R, rfl, cf, S, q⟩ := h
  show t_Forum___init__ K E (DD Q) [some (.ref x)] H
  unfold t_Forum___init__
  walk_at "z"
  refine z_sfld (n := 0) S rfl (cf.cl nw) (cf.n1 nw) (by decide) fun H1 S1 => ?_
  walk_at "z"
  intro e1 H2 S2
  walk_at "z"
  intro e2 H3 S3
  walk_at "z"
  intro e3 H4 S4
  walk_at "z"
  intro st H5 S5
  walk_at "z"
  refine z_sfld (n := 4) S5 rfl (cf.cl nw) (cf.n2 nw) (Nat.lt_of_le_of_lt (len_putF _ _ _) (by decide)) fun H6 S6 => ?_
  walk_at "z"
  intro ps H7 S7
  walk_at "z"
  refine z_sfld (n := 5) S7 rfl (cf.cl nw) (cf.n3 nw) (Nat.lt_of_le_of_lt (Nat.le_trans (len_putF _ _ _) (Nat.succ_le_succ (len_putF _ _ _))) (by decide)) fun H8 S8 => ?_
  rw [flds_new] at S8
  have S9 : Z H8 B ([(ps, .lst [])] :: [(st, .tup [V.ref e1, V.ref e2, V.ref e3])] :: [(e3, .tup [])] :: [(e2, .tup [])] :: [(e1, .tup [])] :: [(x, .ins (fcl K nw) dx (flds "Forum" st ps)), (dx, .own x)] :: R) := S8
  obtain ⟨B1, x1, b1, S10⟩ := S9.frz 1 rfl
  obtain ⟨B2, x2, b2, S11⟩ := S10.frz 1 rfl
  obtain ⟨B3, x3, b3, S12⟩ := S11.frz 1 rfl
  obtain ⟨B4, x4, b4, S13⟩ := S12.frz 1 rfl
  have S14 : Z H8 B4 (([(x, .ins (fcl K nw) dx (flds "Forum" st ps)), (dx, .own x)] ++ [(ps, .lst [])]) :: R) := (S13.pick 1 rfl).join
  exact q B4 _ H8 (((x1.trans x2).trans x3).trans x4) ⟨⟨dx, ps, st, [], rfl, ⟨e1, e2, e3, sq_t (x4 _ _ (x3 _ _ (x2 _ _ b1))), sq_t b4, sq_t (x4 _ _ b3), sq_t (x4 _ _ (x3 _ _ b2))⟩, rfl, fun i t s h => by simp at h⟩⟩ S14
theorem at0 {α : Type} {l : List α} {y : α} (h : l[0]? = some y) : atI l 0 = some y := atI_nat (k := 0) h
theorem at1 {α : Type} {l : List α} {y : α} (h : l[1]? = some y) : atI l 1 = some y := atI_nat (k := 1) h
theorem at2 {α : Type} {l : List α} {y : α} (h : l[2]? = some y) : atI l 2 = some y := atI_nat (k := 2) h
theorem pure_Forum_sorted_in {K : PySem.W.Frag} {E : XK} {H : Hp} {Q : VK} {vs : List V} (h : sp_Forum_sorted_in K vs H Q E) : t_Forum_sorted_in K E (DD Q) (L2.start ["self", "thread"] vs) H := by
  obtain ⟨x, a, b, T, rfl, ha, hT, hl, q⟩ := h
  show t_Forum_sorted_in K E (DD Q) [some x, some (.ref a)] H
  unfold t_Forum_sorted_in
  walk_at "z"
  exact ⟨a, b, T, rfl, ha, hT, hl, q⟩
theorem pure_NewestForum_sorted_in {K : PySem.W.Frag} {E : XK} {H : Hp} {Q : VK} {vs : List V} (h : sp_NewestForum_sorted_in K vs H Q E) : t_NewestForum_sorted_in K E (DD Q) (L2.start ["self", "thread"] vs) H := by
  obtain ⟨x, a, b, T, rfl, ha, hT, hl, q⟩ := h
  show t_NewestForum_sorted_in K E (DD Q) [some x, some (.ref a)] H
  unfold t_NewestForum_sorted_in
  walk_at "z"
  exact ⟨a, b, T, rfl, ha, hT, hl, q⟩
theorem pure_Forum_thread {K : PySem.W.Frag} {E : XK} {H : Hp} {Q : VK} {vs : List V} (h : sp_Forum_thread K vs H Q E) : t_Forum_thread K E (DD Q) (L2.start ["self"] vs) H := by
  obtain ⟨p, B, R, i, seg, nw, cur, past, rfl, S, hi, F, q⟩ := h
  show t_Forum_thread K E (DD Q) [some (.ref p)] H
  obtain ⟨dx, ps, st, sts, a, b, c, rfl, hp, hps, h1, h2, h3, h4, -, -⟩ := F.ob.open_ S hi
  unfold t_Forum_thread
  walk_at "z"
  refine z_fld hp (F.cf.cl nw) (F.cf.n2 nw) (flds_st _ _ _) ?_
  walk_at "z"
  refine x_ixT (S.t h1) (at0 rfl) ?_
  walk_at "z"
  exact z_listT S (S.t h2) q
theorem pure_Forum_order {K : PySem.W.Frag} {E : XK} {H : Hp} {Q : VK} {vs : List V} (h : sp_Forum_order K vs H Q E) : t_Forum_order K E (DD Q) (L2.start ["self"] vs) H := by
  obtain ⟨p, B, R, i, seg, nw, cur, past, rfl, S, hi, F, q⟩ := h
  show t_Forum_order K E (DD Q) [some (.ref p)] H
  obtain ⟨dx, ps, st, sts, a, b, c, rfl, hp, hps, h1, h2, h3, h4, -, -⟩ := F.ob.open_ S hi
  unfold t_Forum_order
  walk_at "z"
  refine z_fld hp (F.cf.cl nw) (F.cf.n2 nw) (flds_st _ _ _) ?_
  walk_at "z"
  refine x_ixT (S.t h1) (at2 rfl) ?_
  walk_at "z"
  exact z_listT S (S.t h4) q
theorem pure_Forum_folded {K : PySem.W.Frag} {E : XK} {H : Hp} {Q : VK} {vs : List V} (h : sp_Forum_folded K vs H Q E) : t_Forum_folded K E (DD Q) (L2.start ["self"] vs) H := by
  obtain ⟨p, B, R, i, seg, nw, cur, past, rfl, S, hi, F, q⟩ := h
  show t_Forum_folded K E (DD Q) [some (.ref p)] H
  obtain ⟨dx, ps, st, sts, a, b, c, rfl, hp, hps, h1, h2, h3, h4, -, -⟩ := F.ob.open_ S hi
  unfold t_Forum_folded
  walk_at "z"
  refine z_fld hp (F.cf.cl nw) (F.cf.n2 nw) (flds_st _ _ _) ?_
  walk_at "z"
  refine x_ixT (S.t h1) (at1 rfl) ?_
  walk_at "z"
  exact z_listT S (S.t h3) q
theorem pure_Forum___len__ {K : PySem.W.Frag} {E : XK} {H : Hp} {Q : VK} {vs : List V} (h : sp_Forum___len__ K vs H Q E) : t_Forum___len__ K E (DD Q) (L2.start ["self"] vs) H := by
  obtain ⟨p, B, R, i, seg, nw, cur, past, rfl, S, hi, F, q⟩ := h
  show t_Forum___len__ K E (DD Q) [some (.ref p)] H
  obtain ⟨dx, ps, st, sts, a, b, c, rfl, hp, hps, h1, h2, h3, h4, -, -⟩ := F.ob.open_ S hi
  unfold t_Forum___len__
  walk_at "z"
  refine z_fld hp (F.cf.cl nw) (F.cf.n2 nw) (flds_st _ _ _) ?_
  walk_at "z"
  refine x_ixT (S.t h1) (at0 rfl) ?_
  walk_at "z"
  rw [List.length_map]
  exact q
theorem pure_Forum_change {K : PySem.W.Frag} {E : XK} {H : Hp} {Q : VK} {vs : List V} (h : sp_Forum_change K vs H Q E) : t_Forum_change K E (DD Q) (L2.start ["self", "thread", "folded"] vs) H := by
  obtain ⟨p, a0, b0, ba, bb, T, Fd, B, R, i, seg, nw, cur, past, rfl, S, hi, F, hpl, ha0, hT, hl, hb0, hin, hfl, q⟩ := h
  show t_Forum_change K E (DD Q) [some (.ref p), some (.ref a0), some (.ref b0)] H
  obtain ⟨dx, ps, st, sts, a, b, c, rfl, hp, hps, h1, h2, h3, h4, h5, h6⟩ := F.ob.open_ S hi
  unfold t_Forum_change
  walk_at "z"
  refine z_fld hp (F.cf.cl nw) (F.cf.n3 nw) (flds_ps _ _ _) ?_
  refine z_tyL (sq_l hps) ?_
  walk_at "z"
  refine z_fld hp (F.cf.cl nw) (F.cf.n2 nw) (flds_st _ _ _) ?_
  walk_at "z"
  have hsz : (sts.map V.ref).length < sizeLine := by rw [List.length_map, h5, sz]; omega
  refine ⟨ps, _, _, rfl, rfl, hps, hsz, ?_⟩
  have S1 := S.set2 i 2 hi rfl (o' := .lst (sts.map V.ref ++ [V.ref st]))
  have hi1 : (R.set i [(p, HO.ins (fcl K nw) dx (flds (fnm nw) st ps)), (dx, .own p), (ps, .lst (sts.map V.ref ++ [V.ref st]))])[i]? = some _ := set_at hi
  have S1 : Z (upd H ps (.lst (sts.map V.ref ++ [V.ref st]))) B (R.set i [(p, HO.ins (fcl K nw) dx (flds (fnm nw) st ps)), (dx, .own p), (ps, .lst (sts.map V.ref ++ [V.ref st]))]) := S1
  have hp1 := S1.at_ i 0 hi1 rfl
  generalize upd H ps (.lst (sts.map V.ref ++ [V.ref st])) = H1 at S1 hp1
  -- the new states
  have new : ∀ (B' : Hp) (st' a' b' c' : Addr) (H' : Hp), Ex B B' → SqT K B' st' [.ref a', .ref b', .ref c'] → SqT K B' a' (T.map ov) → SqT K B' b' (nV Fd) → SqT K B' c' (nV (ordB T nw)) →
      Z H' B' (R.set i [(p, HO.ins (fcl K nw) dx (flds (fnm nw) st' ps)), (dx, .own p), (ps, .lst (sts.map V.ref ++ [V.ref st]))]) → Q .non H' := by
    intro B' st' a' b' c' H' ex k1 k2 k3 k4 S'
    refine q B' _ H' ex ⟨F.cf, ⟨⟨dx, ps, st', sts ++ [st], by simp, ⟨a', b', c', k1, k2, k3, k4⟩, by simp [h5], fun j t s hj hs => ?_⟩⟩, ⟨hT, hl, rfl, hin, hfl⟩, fun s hs => ?_, by simp; omega⟩ S'
    · by_cases hj2 : j < sts.length
      · rw [List.getElem?_append_left hj2] at hj
        rw [List.getElem?_append_left (by omega)] at hs
        exact (h6 j t s hj hs).ext ex
      · rw [List.getElem?_append_right (by omega)] at hj
        rw [List.getElem?_append_right (by omega), ← h5] at hs
        cases hz : j - sts.length with
        | succ x => rw [hz] at hj; simp at hj
        | zero =>
          rw [hz] at hj hs
          cases hj
          cases hs
          exact StA.ext ex ⟨a, b, c, h1, h2, h3, h4⟩
    · rcases List.mem_append.mp hs with e | e
      · exact F.oks s e
      · rw [List.mem_singleton.mp e]
        exact F.ok
  walk_at "z"
  refine z_tupleB S1 ha0 fun a' B2 H2 x2 k2' S2 => ?_
  walk_at "z"
  -- behind: the folded ones' tuple b' stands; N: what came in front
  have rest : ∀ (b' : Addr) (H3 B3 : Hp), Ex B B3 → SqT K B3 a' (T.map ov) → SqT K B3 b' (nV Fd) → Z H3 B3 (R.set i [(p, HO.ins (fcl K nw) dx (flds (fnm nw) st ps)), (dx, .own p), (ps, .lst (sts.map V.ref ++ [V.ref st]))]) →
      (tCons (tCB (qTuple K) (tCons (tOr2 (tMeth (He.ga K "Forum") "sorted_in" (sp_Forum_sorted_in K) [] E0 (tVar 0) (tCons (tVar 1) tNil)) (tMeth (He.ga K "NewestForum") "sorted_in" (sp_NewestForum_sorted_in K) [] E0 (tVar 0) (tCons (tVar 1) tNil))) tNil)) tNil)
        [some (.ref p), some (.ref a0), some (.ref b0)] H3 fun xs H4 => mTup (.ref a' :: .ref b' :: xs) H4 fun y H5 => tVar 0 [some (.ref p), some (.ref a0), some (.ref b0)] H5 (mSF K "state" { nx := fun _ H' => Q .non H', rt := Q } [some (.ref p), some (.ref a0), some (.ref b0)] y) := by
    intro b' H3 B3 ex3 k2 k3 S3
    have hp3 := S3.at_ i 0 hi1 rfl
    have last : ∀ (l : Addr) (H4 : Hp), Ex H3 H4 → H3 l = none → H4 l = some (.lst (nV (ordB T nw))) → qTuple K [.ref l] H4 fun x H5 => mTup [.ref a', .ref b', x] H5 fun y H6 => tVar 0 [some (.ref p), some (.ref a0), some (.ref b0)] H6 (mSF K "state" { nx := fun _ H' => Q .non H', rt := Q } [some (.ref p), some (.ref a0), some (.ref b0)] y) := by
      intro l H4 ex hn hl4
      have S4 := S3.add ex hn hl4
      refine z_tupleL S4 (sq_l hl4) fun c' H5 S5 => ?_
      walk_at "z"
      intro st' H6 S6
      walk_at "z"
      refine z_sfld (n := i + 3) S6 hi1 (F.cf.cl nw) (F.cf.n2 nw) (by show 3 < 1000; decide) fun H7 S7 => ?_
      rw [flds_put] at S7
      have S8 : Z H7 B3 ([(st', .tup [V.ref a', V.ref b', V.ref c'])] :: [(c', .tup (nV (ordB T nw)))] :: [(l, .lst (nV (ordB T nw)))] :: R.set i [(p, HO.ins (fcl K nw) dx (flds (fnm nw) st' ps)), (dx, .own p), (ps, .lst (sts.map V.ref ++ [V.ref st]))]) := by
        have e := S7
        rw [List.set_cons_succ, List.set_cons_succ, List.set_cons_succ, List.set_set] at e
        exact e
      obtain ⟨B4, x4, b4, S9⟩ := S8.frz 0 rfl
      obtain ⟨B5, x5, b5, S10⟩ := S9.frz 0 rfl
      exact new B5 st' a' b' c' H7 ((ex3.trans x4).trans x5) (sq_t (x5 _ _ b4)) ((x4.trans x5).t k2) ((x4.trans x5).t k3) (sq_t b5) S10.tail
    have e0 : Ex B H3 := ex3.trans S3.base
    cases nw with
    | false =>
      refine x_cons ?_
      refine x_cb ?_
      refine x_cons ?_
      refine x_orL ?_
      walk_at "z"
      refine z_meth hp3 (flds_no (by decide +kernel) (by decide +kernel) (by decide +kernel)) ?_
      walk_at "z"
      refine ⟨.ref p, a0, ba, T, rfl, e0.b ha0, hT, by omega, fun l H4 ex hn h4' => ?_⟩
      walk_at "z"
      exact last l H4 ex hn h4'
    | true =>
      refine x_cons ?_
      refine x_cb ?_
      refine x_cons ?_
      refine x_orR ?_
      walk_at "z"
      refine z_meth hp3 (flds_no (by decide +kernel) (by decide +kernel) (by decide +kernel)) ?_
      walk_at "z"
      refine ⟨.ref p, a0, ba, T, rfl, e0.b ha0, hT, by omega, fun l H4 ex hn h4' => ?_⟩
      walk_at "z"
      exact last l H4 ex hn h4'
  refine z_tupleB S2 (x2.b hb0) fun b' B3 H3 x3 k3 S3 => ?_
  exact rest b' H3 B3 (x2.trans x3) (x3.t k2') k3 S3
theorem th_snoc {T : FM.T3} {o : Option Nat} (h : FM.Th T) (ho : okP T.length o) : FM.Th (T ++ [o]) := fun i j hy => by
  by_cases hi : i < T.length
  · rw [List.getElem?_append_left hi] at hy
    exact h i j hy
  · rw [List.getElem?_append_right (by omega)] at hy
    cases hz : i - T.length with
    | zero =>
      rw [hz] at hy
      have e : i = T.length := by omega
      rw [e]
      exact ho j (Option.some.inj hy)
    | succ k => rw [hz] at hy; simp at hy
theorem pure_Forum_post {K : PySem.W.Frag} {E : XK} {H : Hp} {Q : VK} {vs : List V} (h : sp_Forum_post K vs H Q E) : t_Forum_post K E (DD Q) (L2.start ["self", "answers", "thread", "folded", "order"] vs) H := by
  obtain ⟨p, v, B, R, i, seg, nw, cur, past, rfl, S, hi, F, hpl, hv, q1, q2, q3⟩ := h
  show t_Forum_post K E (DD Q) [some (.ref p), some v, none, none, none] H
  obtain ⟨dx, ps, st, sts, a, b, c, rfl, hp, hps, h1, h2, h3, h4, h5, h6⟩ := F.ob.open_ S hi
  have hlen := F.ok.len
  unfold t_Forum_post
  walk_at "z"
  refine z_fld hp (F.cf.cl nw) (F.cf.n2 nw) (flds_st _ _ _) ?_
  walk_at "z"
  have hn : ((cur.T.map ov).length : Int) = (cur.T.length : Int) := by rw [List.length_map]
  -- behind the first test: v is in order
  have rest : (v = .non ∨ isI v 0 (some ((cur.T.length : Int) - 1)) = true) →
      (tSeq (tIfS (tTest (tOp qGe (tCB (qLen K) (tCons (tVar 2) tNil)) (ClX.tCVal K (tC (.ref (He.ga K "Forum"))) "MOST"))) (tRaise (wF E) (He.ga K "TooMany")) tNext)
      (tSeq (tDrop (tOr2 (tMeth (He.ga K "Forum") "change" (sp_Forum_change K) [] E0 (tVar 0) (tCons (tLst (StX.tStar K (tVar 2) (tCons (tVar 1) tNil))) (tCons (tVar 3) tNil))) (tMeth (He.ga K "NewestForum") "change" (sp_Forum_change K) [] E0 (tVar 0) (tCons (tLst (StX.tStar K (tVar 2) (tCons (tVar 1) tNil))) (tCons (tVar 3) tNil)))))
      (tRet (tCB (qLen K) (tCons (tVar 2) tNil))))) (DD Q) [some (.ref p), some v, some (.ref a), some (.ref b), some (.ref c)] H := by
    intro hok
    obtain ⟨mc, u, hr, hc⟩ := F.cf.most false
    walk_at "z"
    rw [hn]
    refine z_cval hr hc ?_
    walk_at "z"
    refine z_ite (fun z => ?_) (fun z => ?_)
    · walk_at "z"
      exact q2 hok (by omega)
    · walk_at "z"
      obtain ⟨o, rfl, ho⟩ : ∃ o : Option Nat, v = ov o ∧ okP cur.T.length o := by
        rcases hok with e | e
        · exact ⟨none, e, fun j hj => nomatch hj⟩
        · cases v with
          | int j =>
            simp [isI] at e
            exact ⟨some j.toNat, by show V.int j = V.int ((j.toNat : Nat) : Int); congr 1; omega, fun k hk => by cases hk; omega⟩
          | _ => cases e
      have args : ∀ (Q2 : List V → Hp → Prop), (∀ (l : Addr) (H2 B2 : Hp), Ex B B2 → B2 l = some (.lst ((cur.T ++ [o]).map ov)) → Z H2 B2 R → Q2 [.ref l, .ref b] H2) →
          (tCons (tLst (StX.tStar K (tVar 2) (tCons (tVar 1) tNil))) (tCons (tVar 3) tNil)) [some (.ref p), some (ov o), some (.ref a), some (.ref b), some (.ref c)] H Q2 := by
        intro Q2 hq2
        walk_at "z"
        refine z_starT (S.t h2) ?_
        walk_at "z"
        intro l H2 S2
        have e : cur.T.map ov ++ [ov o] = (cur.T ++ [o]).map ov := by simp
        rw [e] at S2
        obtain ⟨B2, x2, b2, S3⟩ := S2.frz 0 rfl
        walk_at "z"
        exact hq2 l H2 B2 x2 b2 S3
      have chg : ∀ (l : Addr) (H2 B2 : Hp), Ex B B2 → B2 l = some (.lst ((cur.T ++ [o]).map ov)) → Z H2 B2 R → sp_Forum_change K (.ref p :: ([.ref l, .ref b] ++ [])) H2 (fun _ H3 => (tRet (tCB (qLen K) (tCons (tVar 2) tNil))) (DD Q) [some (.ref p), some (ov o), some (.ref a), some (.ref b), some (.ref c)] H3) E0 := by
        intro l H2 B2 x2 b2 S2
        refine ⟨p, l, b, false, true, cur.T ++ [o], cur.F, B2, R, i, _, nw, cur, past, rfl, S2, hi, F.ext x2, hpl, SqB.l (sq_l b2), th_snoc F.ok.th ho, by simp; omega, SqB.t (x2.t h3), fun d hd => by have := F.ok.fol d hd; simp; omega, F.ok.asc, fun B' seg' H' ex F' S' => ?_⟩
        have k2 : SqT K B' a (cur.T.map ov) := (x2.trans ex).t h2
        walk_at "z"
        rw [hn]
        exact q3 o rfl ho (by omega) B' seg' H' (x2.trans ex) F' S'
      cases nw with
      | false =>
        refine x_orL ?_
        walk_at "z"
        refine z_meth hp (flds_no (by decide +kernel) (by decide +kernel) (by decide +kernel)) ?_
        exact args _ fun l H2 B2 x2 b2 S2 => chg l H2 B2 x2 b2 S2
      | true =>
        refine x_orR ?_
        walk_at "z"
        refine z_meth hp (flds_no (by decide +kernel) (by decide +kernel) (by decide +kernel)) ?_
        exact args _ fun l H2 B2 x2 b2 S2 => chg l H2 B2 x2 b2 S2
  refine z_iteN (fun z => ?_) (fun z => ?_)
  · walk_at "z"
    rw [hn]
    refine ⟨(cur.T.length : Int), v, rfl, hv.elim (fun e => absurd e z) id, fun e => ?_, fun e => ?_⟩
    · exact rest (.inr e)
    · exact q1 z e
  · exact rest (.inl z)
theorem bel_gt {T : FM.T3} (h : FM.Th T) {c x : Nat} : ∀ n, x ∈ FM.belN T c n → c < x
  | 0, hx => by simp [FM.belN] at hx
  | n + 1, hx => by
    by_cases hn : n ≤ c
    · rw [FM.belN_low h (n + 1) (by omega)] at hx
      simp at hx
    · rw [FM.belN] at hx
      split at hx
      · rcases List.mem_append.mp hx with e | e
        · exact bel_gt h n e
        · rw [List.mem_singleton.mp e]; omega
      · exact bel_gt h n hx
theorem inFam_some {T : FM.T3} {fam : List Nat} {k : Nat} (h : FM.inFam T fam k = true) : ∃ p, FM.par T k = some p ∧ p ∈ fam := by
  unfold FM.inFam at h
  cases hp : FM.par T k with
  | none => rw [hp] at h; cases h
  | some p => rw [hp] at h; exact ⟨p, rfl, List.contains_iff_mem.mp h⟩
/-- a comment that comes below c is none of the family so far -/
theorem bel_new {T : FM.T3} (h : FM.Th T) {c k : Nat} (hin : FM.inFam T (c :: FM.belN T c k) k = true) : (c :: FM.belN T c k).contains k = false := by
  obtain ⟨p, hp, hm⟩ := inFam_some hin
  have hlt := FM.par_lt h hp
  have hge : c ≤ p := by
    rcases List.mem_cons.mp hm with e | e
    · omega
    · exact Nat.le_of_lt (bel_gt h k e)
  refine Bool.eq_false_iff.mpr fun z => ?_
  rcases List.mem_cons.mp (List.contains_iff_mem.mp z) with e | e
  · omega
  · have := FM.mem_belN e
    omega
theorem pure_below_in {K : PySem.W.Frag} {E : XK} {H : Hp} {Q : VK} {vs : List V} (h : sp_below_in K vs H Q E) : t_below_in K E (DD Q) (L2.start ["thread", "comment", "family", "later", "answers"] vs) H := by
  obtain ⟨a, bb, T, c, rfl, ha, hT, hl, hc, q⟩ := h
  show t_below_in K E (DD Q) [some (.ref a), some (.int (c : Int)), none, none, none] H
  have S := Z.start H
  unfold t_below_in
  walk_at "z"
  intro d hd
  refine x_var rfl (x_c ⟨Sum.inl (c : Int), rfl, upd_same, ?_⟩)
  have S1 : Z (upd (upd H d (.dK [])) d (.dK [(Sum.inl (c : Int), .bl true)])) H [[(d, .dK (kvI [c] (.bl true)))]] := (S.new (o := .dK []) hd).put
  generalize upd (upd H d (.dK [])) d (.dK [(Sum.inl (c : Int), .bl true)]) = H1 at S1 ⊢
  walk_at "z"
  refine z_for_enumB bb (T.map ov) (fun k σ H' => ∃ o3 o4, σ = [some (.ref a), some (.int (c : Int)), some (.ref d), o3, o4] ∧ Z H' H [[(d, .dK (kvI (c :: FM.belN T c k) (.bl true)))]]) ⟨_, _, rfl, S1⟩ (fun i σ H' _ ⟨_, _, _, S2⟩ => S2.b ha) ?_ ?_
  · rintro k x T0 σ H2 H3 hx ⟨_, _, rfl, S2⟩ ex hT0 hT1
    have hk : k < T.length := by
      have := (List.getElem?_eq_some_iff.mp hx).1
      rwa [List.length_map] at this
    rw [ov_get hk] at hx
    cases hx
    have S3 := S2.ext ex
    have bel : FM.belN T c (k + 1) = if FM.inFam T (c :: FM.belN T c k) k = true then FM.belN T c k ++ [k] else FM.belN T c k := rfl
    walk_at "z"
    have fin : DGet H3 d (ov (FM.par T k)) none ∨ True → True := fun _ => trivial
    cases hp : FM.par T k with
    | none =>
      refine .inr ⟨d, _, rfl, rfl, .inl S3.hd, ?_⟩
      refine z_bl (z_iffalse ?_)
      walk_at "z"
      have e : FM.inFam T (c :: FM.belN T c k) k = false := by unfold FM.inFam; rw [hp]
      rw [bel, e]
      exact ⟨_, _, rfl, S3⟩
    | some p =>
      refine .inl ⟨d, _, rfl, DGet.k (k := Sum.inl (p : Int)) S3.hd, ?_⟩
      rw [kvI_val]
      have e : FM.inFam T (c :: FM.belN T c k) k = (c :: FM.belN T c k).contains p := by unfold FM.inFam; rw [hp]
      refine z_bl (z_iteB (fun z => ?_) (fun z => ?_))
      · rw [z] at e
        refine x_dput ?_
        walk_at "z"
        refine ⟨d, _, rfl, DPut.k (k := Sum.inl (k : Int)) S3.hd ?_, ?_⟩
        · have := len_belN T c k
          unfold kvI
          rw [List.length_map, List.length_cons, sz]
          omega
        · rw [kvI_put (bel_new hT e), bel, if_pos e]
          exact ⟨_, _, rfl, S3.put⟩
      · rw [z] at e
        walk_at "z"
        rw [bel, e]
        exact ⟨_, _, rfl, S3⟩
  · rintro σ H2 ⟨_, _, rfl, S2⟩
    rw [List.length_map] at S2
    walk_at "z"
    refine ⟨d, _, rfl, .inl S2.hd, fun p hp => ?_⟩
    rw [kvI_keys]
    have S3 := S2.new (o := .lst (nV (c :: FM.belN T c T.length))) hp
    walk_at "z"
    refine z_slL S3 (sq_l S3.hd) fun l H4 S4 => ?_
    have e : cutV (nV (c :: FM.belN T c T.length)) (some 1) none = nV (FM.belL T c) := cut_suf (k := 1)
    rw [e] at S4
    exact q l H4 S4.base (S4.no 0 0 rfl rfl) S4.hd
/-- the lists that += writes -/
theorem z_ext {H B : Hp} {R : List Seg} {Q : VK} {p a : Addr} {xs ys : List V} {n : Nat} {q' : Seg} (S : Z H B R) (h : R[n]? = some ((p, .lst xs) :: q')) (h2 : H a = some (.lst ys)) (hz : xs.length + ys.length ≤ sizeLine) (q : ∀ H', Z H' B (R.set n ((p, .lst (xs ++ ys)) :: q')) → Q (.ref p) H') : rExt2 (.ref p) (.ref a) H Q :=
  ⟨p, a, xs, ys, rfl, rfl, S.at_ n 0 h rfl, h2, hz, q _ (S.set n h)⟩
theorem pure_shown_in {K : PySem.W.Frag} {E : XK} {H : Hp} {Q : VK} {vs : List V} (h : sp_shown_in K vs H Q E) : t_shown_in K E (DD Q) (L2.start ["thread", "folded", "order", "hidden", "comment"] vs) H := by
  obtain ⟨a, b, c, T, F, O, rfl, ha, hb, hc, hT, hl, hin, hF, hO, q⟩ := h
  show t_shown_in K E (DD Q) [some (.ref a), some (.ref b), some (.ref c), none, none] H
  have S := Z.start H
  unfold t_shown_in
  walk_at "z"
  intro h0 H1 S1
  have hb1 : SqT K H1 b (nV F) := S1.t hb
  walk_at "z"
  refine z_for_tup (nV F) (fun k σ H' => ∃ o4, σ = [some (.ref a), some (.ref b), some (.ref c), some (.ref h0), o4] ∧ Z H' H [[(h0, .lst (nV (FM.hidL T (F.take k))))]]) ⟨_, rfl, S1⟩ (fun i σ H' _ ⟨_, _, S2⟩ => S2.t hb) ?_ ?_
  · rintro k x σ H2 hx ⟨_, rfl, S2⟩
    have hk : k < F.length := by
      have := (List.getElem?_eq_some_iff.mp hx).1
      rwa [nV_len] at this
    rw [nV_at hk] at hx
    cases hx
    walk_at "z"
    refine ⟨a, true, T, F[k], rfl, SqB.t (S2.t ha), hT, hl, hin _ (List.getElem_mem hk), fun p H3 ex hn hp => ?_⟩
    have S3 := S2.add ex hn hp
    have h1 := len_hid T (F.take k)
    have h2 := len_belN T F[k] T.length
    have h3 : (F.take k).length * T.length ≤ 1000 * 1000 := Nat.mul_le_mul (by rw [List.length_take]; omega) hl
    refine z_ext (n := 1) S3 rfl (S3.at_ 0 0 rfl rfl) (by rw [nV_len, nV_len, sz]; unfold FM.belL; omega) fun H4 S4 => ?_
    have e : nV (FM.hidL T (F.take k)) ++ nV (FM.belL T F[k]) = nV (FM.hidL T (F.take (k + 1))) := by
      rw [take_snoc hk, hid_app]
      simp [nV]
    rw [e] at S4
    exact ⟨_, rfl, S4.tail⟩
  · rintro σ H2 ⟨_, rfl, S2⟩
    rw [nV_len, List.take_length] at S2
    walk_at "z"
    have hc2 : SqT K H2 c (nV O) := S2.t hc
    refine z_lcT S2 (nV O) (fun k => nV (FM.shoL T F (O.take k))) rfl (fun H' S' => S'.t hc) (fun k x D H4 hx S4 => ?_) (fun D H4 S4 => ?_)
    · have hk : k < O.length := by
        have := (List.getElem?_eq_some_iff.mp hx).1
        rwa [nV_len] at this
      rw [nV_at hk] at hx
      cases hx
      walk_at "z"
      refine .inl ⟨h0, _, rfl, .inl (sq_l (S4.at_ 1 0 rfl rfl)), rfl, flat_nV _, ?_⟩
      rw [if_pos rfl, inV_int]
      refine z_bl ?_
      have e : FM.shoL T F (O.take (k + 1)) = if (!(FM.hidL T F).contains O[k]) = true then FM.shoL T F (O.take k) ++ [O[k]] else FM.shoL T F (O.take k) := by
        rw [take_snoc hk]
        exact filter_snoc _ _ _
      rw [e]
      refine z_iteNB (fun z => ?_) (fun z => ?_)
      · rw [z]
        walk_at "z"
        have hle : (FM.shoL T F (O.take k)).length ≤ 1000 := by
          refine Nat.le_trans (List.length_filter_le _ _) ?_
          rw [List.length_take]
          omega
        exact z_app (N := []) S4 (by rw [nV_len, sz]; omega) (by simp [nV])
      · rw [z]
        exact S4
    · rw [nV_len, List.take_length] at S4
      exact q D H4 S4.base (S4.no 0 0 rfl rfl) S4.hd
/-! ### data -/
theorem lay_nV : ∀ ns : List Nat, PyData.canLayAll0 (ns.map fun (n : Nat) => PyData.int (n : Int)) = true
  | [] => rfl
  | n :: ns => by simp only [List.map_cons, PyData.canLayAll0, PyData.canLay0, lay_nV ns, Bool.and_self]
theorem dep_nV : ∀ ns : List Nat, PyData.depthAll (ns.map fun (n : Nat) => PyData.int (n : Int)) = 0
  | [] => rfl
  | n :: ns => by simp only [List.map_cons, PyData.depthAll, PyData.depth, dep_nV ns, Nat.max_self]
theorem shp_nV (ns : List Nat) : SeqAt.shaped (.list (ns.map fun (n : Nat) => PyData.int (n : Int))) = true :=
  z_shape (by simp only [PyData.canLay0]; exact lay_nV ns) (by simp only [PyData.depth, dep_nV]; omega)
theorem eqv_nV (ns : List Nat) : PyData.eqv (.list (ns.map fun (n : Nat) => PyData.int (n : Int))) (.list (ns.map fun (n : Nat) => PyData.int (n : Int))) = true :=
  PySem.SeqAt.eqv_refl _ (by simp only [PyData.canLay0]; exact lay_nV ns)
theorem ne_nV {K : PySem.W.Frag} {H : Hp} {Q : VK} {a b : Addr} {ns : List Nat} (h1 : SqL K H a (nV ns)) (h2 : SqL K H b (nV ns)) (q : Q (.bl false) H) : qNe K (.ref a) (.ref b) H Q := by
  refine x_neD (.lst h1 (dpA_nV ns)) (.lst h2 (dpA_nV ns)) (shp_nV ns) (shp_nV ns) ?_
  rw [eqv_nV]
  exact q
def dOv (o : Option Nat) : PyData := match o with
  | none => .none
  | some j => .int (j : Int)
theorem dpA_ov {K : PySem.W.Frag} {H : Hp} : ∀ T : List (Option Nat), DpAll K H (T.map ov) (T.map dOv)
  | [] => .nil
  | none :: T => .cons .non (dpA_ov T)
  | some j :: T => .cons (.int _) (dpA_ov T)
theorem lay_ov : ∀ T : List (Option Nat), PyData.canLayAll0 (T.map dOv) = true
  | [] => rfl
  | none :: T => by simp only [List.map_cons, dOv, PyData.canLayAll0, PyData.canLay0, lay_ov T, Bool.and_self]
  | some j :: T => by simp only [List.map_cons, dOv, PyData.canLayAll0, PyData.canLay0, lay_ov T, Bool.and_self]
theorem dep_ov : ∀ T : List (Option Nat), PyData.depthAll (T.map dOv) = 0
  | [] => rfl
  | none :: T => by simp only [List.map_cons, dOv, PyData.depthAll, PyData.depth, dep_ov T, Nat.max_self]
  | some j :: T => by simp only [List.map_cons, dOv, PyData.depthAll, PyData.depth, dep_ov T, Nat.max_self]
theorem ne_ov {K : PySem.W.Frag} {H : Hp} {Q : VK} {a b : Addr} {T : List (Option Nat)} (h1 : SqL K H a (T.map ov)) (h2 : SqL K H b (T.map ov)) (q : Q (.bl false) H) : qNe K (.ref a) (.ref b) H Q := by
  have sh : SeqAt.shaped (.list (T.map dOv)) = true := z_shape (by simp only [PyData.canLay0]; exact lay_ov T) (by simp only [PyData.depth, dep_ov]; omega)
  refine x_neD (.lst h1 (dpA_ov T)) (.lst h2 (dpA_ov T)) sh sh ?_
  rw [PySem.SeqAt.eqv_refl _ (by simp only [PyData.canLay0]; exact lay_ov T)]
  exact q
theorem eqvA_map {α : Type} [DecidableEq α] {f : α → PyData} (hf : ∀ x y, PyData.eqv (f x) (f y) = decide (x = y)) : ∀ l m : List α, PyData.eqvAll (l.map f) (m.map f) = decide (l = m)
  | [], [] => rfl
  | [], y :: m => rfl
  | x :: l, [] => rfl
  | x :: l, y :: m => by
    simp only [List.map_cons, PyData.eqvAll, hf, eqvA_map hf l m, List.cons.injEq]
    by_cases h1 : x = y <;> by_cases h2 : l = m <;> simp [h1, h2]
theorem eqv_N (n m : Nat) : PyData.eqv (.int (n : Int)) (.int (m : Int)) = decide (n = m) := by
  simp only [PyData.eqv]
  by_cases h : n = m
  · rw [h]; simp
  · rw [decide_eq_false h, beq_eq_false_iff_ne.mpr (by omega)]
theorem eqv_Ov (x y : Option Nat) : PyData.eqv (dOv x) (dOv y) = decide (x = y) := by
  cases x <;> cases y <;> simp only [dOv] <;> first | rfl | skip
  rename_i n m
  rw [eqv_N]
  by_cases h : n = m <;> simp [h]
/-- a comparison of two lists of numbers, of two threads -/
theorem eq_nV {K : PySem.W.Frag} {H : Hp} {Q : VK} {a b : Addr} {l m : List Nat} (h1 : SqL K H a (nV l)) (h2 : SqL K H b (nV m)) (q : Q (.bl (decide (l = m))) H) : qEq K (.ref a) (.ref b) H Q := by
  refine x_eqD (.lst h1 (dpA_nV l)) (.lst h2 (dpA_nV m)) (shp_nV l) (shp_nV m) ?_
  rw [PyData.eqv, eqvA_map eqv_N]
  exact q
theorem neq_nV {K : PySem.W.Frag} {H : Hp} {Q : VK} {a b : Addr} {l m : List Nat} (h1 : SqL K H a (nV l)) (h2 : SqL K H b (nV m)) (q : Q (.bl (!decide (l = m))) H) : qNe K (.ref a) (.ref b) H Q := by
  refine x_neD (.lst h1 (dpA_nV l)) (.lst h2 (dpA_nV m)) (shp_nV l) (shp_nV m) ?_
  rw [PyData.eqv, eqvA_map eqv_N]
  exact q
theorem shp_ov (T : List (Option Nat)) : SeqAt.shaped (.list (T.map dOv)) = true := z_shape (by simp only [PyData.canLay0]; exact lay_ov T) (by simp only [PyData.depth, dep_ov]; omega)
theorem eq_ov {K : PySem.W.Frag} {H : Hp} {Q : VK} {a b : Addr} {l m : List (Option Nat)} (h1 : SqL K H a (l.map ov)) (h2 : SqL K H b (m.map ov)) (q : Q (.bl (decide (l = m))) H) : qEq K (.ref a) (.ref b) H Q := by
  refine x_eqD (.lst h1 (dpA_ov l)) (.lst h2 (dpA_ov m)) (shp_ov l) (shp_ov m) ?_
  rw [PyData.eqv, eqvA_map eqv_Ov]
  exact q
theorem neq_ov {K : PySem.W.Frag} {H : Hp} {Q : VK} {a b : Addr} {l m : List (Option Nat)} (h1 : SqL K H a (l.map ov)) (h2 : SqL K H b (m.map ov)) (q : Q (.bl (!decide (l = m))) H) : qNe K (.ref a) (.ref b) H Q := by
  refine x_neD (.lst h1 (dpA_ov l)) (.lst h2 (dpA_ov m)) (shp_ov l) (shp_ov m) ?_
  rw [PyData.eqv, eqvA_map eqv_Ov]
  exact q
/-- a state's data -/
def dS3 (s : S3) : PyData := .tuple [.tuple (s.T.map dOv), .tuple (s.F.map fun (n : Nat) => PyData.int (n : Int)), .tuple (s.O.map fun (n : Nat) => PyData.int (n : Int))]
theorem dp_S3 {K : PySem.W.Frag} {B : Hp} {st : Addr} {s : S3} (h : StA K B st s) : Dp K B (.ref st) (dS3 s) := by
  obtain ⟨a, b, c, h1, h2, h3, h4⟩ := h
  exact .tup h1 (.cons (.tup h2 (dpA_ov _)) (.cons (.tup h3 (dpA_nV _)) (.cons (.tup h4 (dpA_nV _)) .nil)))
theorem lay_S3 (s : S3) : (dS3 s).canLay0 = true := by
  simp only [dS3, PyData.canLay0, PyData.canLayAll0, lay_ov, lay_nV, Bool.and_self]
theorem dep_S3 (s : S3) : (dS3 s).depth = 2 := by
  simp only [dS3, PyData.depth, PyData.depthAll, dep_ov, dep_nV]
  decide
theorem lay_S3s : ∀ l : List S3, PyData.canLayAll0 (l.map dS3) = true
  | [] => rfl
  | s :: l => by simp only [List.map_cons, PyData.canLayAll0, lay_S3, lay_S3s l, Bool.and_self]
theorem dep_S3s : ∀ l : List S3, PyData.depthAll (l.map dS3) ≤ 2
  | [] => by decide
  | s :: l => by
    have := dep_S3s l
    simp only [List.map_cons, PyData.depthAll, dep_S3]
    omega
theorem dpA_S3 {K : PySem.W.Frag} {B : Hp} : ∀ (sts : List Addr) (l : List S3), sts.length = l.length → (∀ (i : Nat) (t : Addr) (s : S3), sts[i]? = some t → l[i]? = some s → StA K B t s) → DpAll K B (sts.map .ref) (l.map dS3)
  | [], [], _, _ => .nil
  | t :: sts, s :: l, e, h => .cons (dp_S3 (h 0 t s rfl rfl)) (dpA_S3 sts l (Nat.succ.inj e) fun i t s a b => h (i + 1) t s a b)
  | [], _ :: _, e, _ => nomatch e
  | _ :: _, [], e, _ => nomatch e
theorem shp_S3s (l : List S3) : SeqAt.shaped (.list (l.map dS3)) = true := z_shape (by simp only [PyData.canLay0]; exact lay_S3s l) (by
  have := dep_S3s l
  simp only [PyData.depth]
  omega)
/-! ### fold, unfold, undo -/
theorem KdI.ext {K : PySem.W.Frag} {H H' : Hp} {v : V} (e : Ex H H') (h : KdI K H v) : KdI K H' v := by
  obtain ⟨T, b1, b2, h1, h2⟩ := h
  exact ⟨T, b1, b2, Kd.ext e h1, h2⟩
theorem isI_nat {v : V} {n : Nat} (h : isI v 0 (some ((n : Int) - 1)) = true) : ∃ c : Nat, v = .int (c : Int) ∧ c < n := by
  cases v with
  | int j =>
    simp [isI] at h
    exact ⟨j.toNat, by congr 1; omega, by omega⟩
  | _ => cases h
theorem nV_ints {ms : List Int} (h : ∀ k ∈ ms, 0 ≤ k) : ms.map V.int = nV (ms.map Int.toNat) := by
  unfold nV
  rw [List.map_map]
  refine List.map_congr_left fun k hk => ?_
  have := h k hk
  show V.int k = V.int ((k.toNat : Nat) : Int)
  rw [Int.toNat_of_nonneg this]
/-- change with the thread as it was -/
theorem chg_ok {K : PySem.W.Frag} {H B : Hp} {R : List Seg} {i : Nat} {seg : Seg} {p a b : Addr} {bb : Bool} {nw : Bool} {cur : S3} {past : List S3} {Q : VK} {F' : List Nat} (S : Z H B R) (hi : R[i]? = some seg) (F : Fo K B seg p nw cur past) (hpl : past.length < 100000)
    (ha : SqT K B a (cur.T.map ov)) (hb : SqB bb K B b (nV F')) (h1 : ∀ c ∈ F', c < cur.T.length) (h2 : F'.Pairwise (· < ·)) (q : ∀ B' seg' H', Ex B B' → Fo K B' seg' p nw ⟨cur.T, F', ordB cur.T nw⟩ (past ++ [cur]) → Z H' B' (R.set i seg') → Q .non H') :
    sp_Forum_change K [.ref p, .ref a, .ref b] H Q E0 :=
  ⟨p, a, b, true, bb, cur.T, F', B, R, i, seg, nw, cur, past, rfl, S, hi, F, hpl, SqB.t ha, F.ok.th, F.ok.len, hb, h1, h2, q⟩
theorem pure_Forum_fold {K : PySem.W.Frag} {E : XK} {H : Hp} {Q : VK} {vs : List V} (h : sp_Forum_fold K vs H Q E) : t_Forum_fold K E (DD Q) (L2.start ["self", "comment", "thread", "folded", "order"] vs) H := by
  obtain ⟨p, v, B, R, i, seg, nw, cur, past, rfl, S, hi, F, hpl, hk, q1, q2⟩ := h
  show t_Forum_fold K E (DD Q) [some (.ref p), some v, none, none, none] H
  obtain ⟨dx, ps, st, sts, a, b, c, rfl, hp, hps, h1, h2, h3, h4, h5, h6⟩ := F.ob.open_ S hi
  have hlen := F.ok.len
  unfold t_Forum_fold
  walk_at "z"
  refine z_fld hp (F.cf.cl nw) (F.cf.n2 nw) (flds_st _ _ _) ?_
  walk_at "z"
  have hn : ((cur.T.map ov).length : Int) = (cur.T.length : Int) := by rw [List.length_map]
  rw [hn]
  refine ⟨(cur.T.length : Int), v, rfl, hk, fun e => ?_, fun e => q1 e⟩
  obtain ⟨m, rfl, hm⟩ := isI_nat e
  walk_at "z"
  refine or_meth S hi F rfl (by decide +kernel) (by decide +kernel) (by decide +kernel) ?_
  walk_at "z"
  intro l1 H1 S1
  have hf := F.ok.fl
  have cat : ∀ (y : Addr) (B1 H2 : Hp), Ex B B1 → Z H2 B1 R → SqT K B1 y (nV (cur.F ++ [m])) → mSortSet K (fun x H3 => (tNil) ([some (.ref p), some (.int (m : Int)), some (.ref a), some (.ref b), some (.ref c)] : L2.St) H3 fun xs H4 => sp_Forum_change K (V.ref p :: ((V.ref a :: x :: xs) ++ [])) H4 (fun x H' => (DD Q).nx ([some (.ref p), some (.int (m : Int)), some (.ref a), some (.ref b), some (.ref c)] : L2.St) H') E0) (.ref y) H2 := by
    intro y B1 H2 x1 S2 hy
    rw [nV_int] at hy
    refine z_sortSet S2 (S2.t hy) (by simp; omega) fun l ms H3 hms hmem S3 => ?_
    have hpos : ∀ k ∈ ms, 0 ≤ k := fun k hk => by
      obtain ⟨n, _, e⟩ := List.mem_map.mp ((hmem k).mp hk)
      omega
    have enat : ms.map Int.toNat = addF cur.F m := by
      refine asc_ext ?_ (asc_addF F.ok.asc) fun x => ?_
      · rw [List.pairwise_map]
        refine List.Pairwise.imp_of_mem (fun {y z} hy hz hyz => ?_) hms
        have := hpos y hy
        have := hpos z hz
        omega
      · rw [mem_addF, List.mem_map]
        constructor
        · rintro ⟨k, hk, rfl⟩
          obtain ⟨n, hn, e⟩ := List.mem_map.mp ((hmem k).mp hk)
          rw [← e, Int.toNat_natCast]
          rcases List.mem_append.mp hn with z | z
          · exact .inr z
          · exact .inl (List.mem_singleton.mp z)
        · intro z
          refine ⟨(x : Int), (hmem _).mpr (List.mem_map.mpr ⟨x, ?_, rfl⟩), Int.toNat_natCast x⟩
          rcases z with z | z
          · exact List.mem_append_right _ (List.mem_singleton.mpr z)
          · exact List.mem_append_left _ z
    rw [nV_ints hpos, enat] at S3
    obtain ⟨B2, x2, b2, S4⟩ := S3.frz 0 rfl
    walk_at "z"
    refine chg_ok (bb := false) S4 hi (F.ext (x1.trans x2)) hpl ((x1.trans x2).t h2) (SqB.l (sq_l b2)) (fun d hd => ?_) (asc_addF F.ok.asc) fun B' seg' H' ex F' S' => ?_
    · rcases mem_addF.mp hd with e | e
      · omega
      · exact F.ok.fol d e
    · exact q2 m rfl hm B' seg' H' ((x1.trans x2).trans ex) F' S'
  have e1 : nV cur.F ++ [V.int (m : Int)] = nV (cur.F ++ [m]) := by simp [nV]
  obtain ⟨B1, x1, b1, S2⟩ := S1.frz 0 rfl
  refine .inr (.inr (.inr ⟨b, l1, nV cur.F, [.int (m : Int)], rfl, rfl, S1.t h3, sq_t (S1.at_ 0 0 rfl rfl), by rw [nV_len, sz]; simp; omega, fun e => ?_, fun _ e => by simp at e, fun e _ y hy => ?_⟩))
  · rw [e] at e1
    exact cat l1 B1 H1 x1 S2 (by rw [← e1]; exact sq_t b1)
  · have S3 := S2.new (o := .tup (nV cur.F ++ [V.int (m : Int)])) hy
    rw [e1] at S3 ⊢
    obtain ⟨B2, x2, b2, S4⟩ := S3.frz 0 rfl
    exact cat y B2 _ (x1.trans x2) S4 (sq_t b2)
theorem pure_Forum_unfold {K : PySem.W.Frag} {E : XK} {H : Hp} {Q : VK} {vs : List V} (h : sp_Forum_unfold K vs H Q E) : t_Forum_unfold K E (DD Q) (L2.start ["self", "comment", "thread", "folded", "order", "other"] vs) H := by
  obtain ⟨p, v, B, R, i, seg, nw, cur, past, rfl, S, hi, F, hpl, hk, q1, q2, q3⟩ := h
  show t_Forum_unfold K E (DD Q) [some (.ref p), some v, none, none, none, none] H
  obtain ⟨dx, ps, st, sts, a, b, c, rfl, hp, hps, h1, h2, h3, h4, h5, h6⟩ := F.ob.open_ S hi
  have hlen := F.ok.len
  unfold t_Forum_unfold
  walk_at "z"
  refine z_fld hp (F.cf.cl nw) (F.cf.n2 nw) (flds_st _ _ _) ?_
  walk_at "z"
  have hn : ((cur.T.map ov).length : Int) = (cur.T.length : Int) := by rw [List.length_map]
  rw [hn]
  refine ⟨(cur.T.length : Int), v, rfl, hk, fun e => ?_, fun e => q1 e⟩
  obtain ⟨m, rfl, hm⟩ := isI_nat e
  walk_at "z"
  refine .inl ⟨b, nV cur.F, rfl, .inr (S.t h3), rfl, flat_nV _, ?_⟩
  rw [if_pos rfl, inV_int]
  refine z_bl (z_iteNB (fun z => ?_) (fun z => ?_))
  · walk_at "z"
    exact q2 m rfl hm fun z2 => by rw [List.contains_iff_mem.mpr z2] at z; cases z
  · walk_at "z"
    have hm2 : m ∈ cur.F := List.contains_iff_mem.mp z
    refine or_meth S hi F rfl (by decide +kernel) (by decide +kernel) (by decide +kernel) ?_
    walk_at "z"
    refine z_lcT S (nV cur.F) (fun k => nV (rmF (cur.F.take k) m)) rfl (fun H' S' => S'.t h3) (fun k x D H4 hx S4 => ?_) (fun D H4 S4 => ?_)
    · have hk : k < cur.F.length := by
        have := (List.getElem?_eq_some_iff.mp hx).1
        rwa [nV_len] at this
      rw [nV_at hk] at hx
      cases hx
      walk_at "z"
      have e : rmF (cur.F.take (k + 1)) m = if (!decide (cur.F[k] = m)) = true then rmF (cur.F.take k) m ++ [cur.F[k]] else rmF (cur.F.take k) m := by
        rw [take_snoc hk]
        exact filter_snoc _ _ _
      rw [e]
      have ed : decide (((cur.F[k] : Nat) : Int) = (m : Int)) = decide (cur.F[k] = m) := decide_eq_decide.mpr (by omega)
      rw [ed]
      refine z_iteNB (fun z => ?_) (fun z => ?_)
      · rw [z]
        walk_at "z"
        have hle : (rmF (cur.F.take k) m).length ≤ 1000 := by
          refine Nat.le_trans (List.length_filter_le _ _) ?_
          have := F.ok.fl
          rw [List.length_take]
          omega
        exact z_app (N := []) S4 (by rw [nV_len, sz]; omega) (by simp [nV])
      · rw [z]
        exact S4
    · rw [nV_len, List.take_length] at S4
      obtain ⟨B1, x1, b1, S5⟩ := S4.frz 0 rfl
      walk_at "z"
      refine chg_ok (bb := false) S5 hi (F.ext x1) hpl (x1.t h2) (SqB.l (sq_l b1)) (fun d hd => F.ok.fol d (mem_rmF.mp hd).1) (F.ok.asc.sublist List.filter_sublist) fun B' seg' H' ex F' S' => ?_
      exact q3 m rfl hm hm2 B' seg' H' (x1.trans ex) F' S'
theorem pure_Forum_undo {K : PySem.W.Frag} {E : XK} {H : Hp} {Q : VK} {vs : List V} (h : sp_Forum_undo K vs H Q E) : t_Forum_undo K E (DD Q) (L2.start ["self"] vs) H := by
  obtain ⟨p, B, R, i, seg, nw, cur, past, rfl, S, hi, F, q1, q2⟩ := h
  show t_Forum_undo K E (DD Q) [some (.ref p)] H
  obtain ⟨dx, ps, st, sts, a, b, c, rfl, hp, hps, h1, h2, h3, h4, h5, h6⟩ := F.ob.open_ S hi
  unfold t_Forum_undo
  walk_at "z"
  refine z_fld hp (F.cf.cl nw) (F.cf.n3 nw) (flds_ps _ _ _) ?_
  walk_at "z"
  intro e1 H1 S1
  refine x_eqD (d := .list (past.map dS3)) (e := .list []) (.lst (sq_l (S1.at_ (i + 1) 2 hi rfl)) (S1.base.da (dpA_S3 sts past h5 h6))) (.lst (sq_l (S1.at_ 0 0 rfl rfl)) .nil) (shp_S3s _) rfl ?_
  rcases List.eq_nil_or_concat past with e | ⟨ps', s, e⟩
  · subst e
    refine ⟨true, rfl, z_iftrue ?_⟩
    walk_at "z"
    exact q1 rfl H1 S1.tail
  · rw [List.concat_eq_append] at e
    have ef : PyData.eqv (.list (past.map dS3)) (.list []) = false := by
      rw [e]
      cases ps' with
      | nil => rfl
      | cons _ _ => rfl
    rw [ef]
    refine ⟨false, rfl, z_iffalse ?_⟩
    walk_at "z"
    have hp1 := S1.at_ (i + 1) 0 hi rfl
    have hps1 := S1.at_ (i + 1) 2 hi rfl
    refine z_fld hp1 (F.cf.cl nw) (F.cf.n3 nw) (flds_ps _ _ _) ?_
    refine z_tyL (sq_l hps1) ?_
    have hl : sts.length = ps'.length + 1 := by rw [h5, e, List.length_append]; rfl
    obtain ⟨t, ht⟩ : ∃ t, sts[ps'.length]? = some t := ⟨_, List.getElem?_eq_getElem (by omega)⟩
    have hst : StA K B t s := h6 ps'.length t s ht (by rw [e, List.getElem?_append_right (Nat.le_refl _), Nat.sub_self] <;> rfl)
    refine .inl ⟨ps, sts.map .ref, .ref t, rfl, rfl, hps1, by rw [List.length_map, hl, List.getElem?_map, Nat.add_sub_cancel, ht] <;> rfl, ?_⟩
    have S2 := S1.tail.set2 i 2 hi rfl (o' := .lst ((sts.map V.ref).dropLast))
    have hi2 : (R.set i [(p, HO.ins (fcl K nw) dx (flds (fnm nw) st ps)), (dx, .own p), (ps, .lst ((sts.map V.ref).dropLast))])[i]? = some _ := set_at hi
    have S2 : Z (upd H1 ps (.lst ((sts.map V.ref).dropLast))) B (R.set i [(p, HO.ins (fcl K nw) dx (flds (fnm nw) st ps)), (dx, .own p), (ps, .lst ((sts.map V.ref).dropLast))]) := S2
    generalize upd H1 ps (.lst ((sts.map V.ref).dropLast)) = H2 at S2 ⊢
    walk_at "z"
    refine z_sfld (n := i) S2 hi2 (F.cf.cl nw) (F.cf.n2 nw) (by show 3 < 1000; decide) fun H3 S3 => ?_
    rw [flds_put, List.set_set] at S3
    have ed : (sts.map V.ref).dropLast = (sts.take ps'.length).map V.ref := by
      rw [List.dropLast_eq_take, List.length_map, hl, Nat.add_sub_cancel, List.map_take]
    rw [ed] at S3
    refine q2 ps' s e _ H3 ⟨F.cf, ⟨⟨dx, ps, t, sts.take ps'.length, rfl, hst, by rw [List.length_take]; omega, fun j t' s' hj hs => ?_⟩⟩, F.oks s (by rw [e]; simp), fun s' hs => F.oks s' (by rw [e]; exact List.mem_append_left _ hs), by have := F.pl; rw [e, List.length_append] at this; omega⟩ S3
    have hjl : j < ps'.length := (List.getElem?_eq_some_iff.mp hs).1
    rw [List.getElem?_take_of_lt hjl] at hj
    exact h6 j t' s' hj (by rw [e, List.getElem?_append_left hjl]; exact hs)
end FT

namespace FT
open PySem PySem.Spec PyProof.Rows L2
/-! ### rows of a forum -/
theorem sho_nil (T : FM.T3) (O : List Nat) : FM.shoL T [] O = O := by
  unfold FM.shoL FM.hidL
  refine List.filter_eq_self.mpr fun c _ => ?_
  simp
theorem sho_congr (T : FM.T3) {F G : List Nat} (h : ∀ c, c ∈ F ↔ c ∈ G) (O : List Nat) : FM.shoL T F O = FM.shoL T G O := by
  unfold FM.shoL
  refine List.filter_congr fun c _ => ?_
  have e : (FM.hidL T F).contains c = (FM.hidL T G).contains c := by
    rw [Bool.eq_iff_iff, List.contains_iff_mem, List.contains_iff_mem]
    unfold FM.hidL
    rw [List.mem_flatMap, List.mem_flatMap]
    exact ⟨fun ⟨x, h1, h2⟩ => ⟨x, (h x).mp h1, h2⟩, fun ⟨x, h1, h2⟩ => ⟨x, (h x).mpr h1, h2⟩⟩
  rw [e]
/-- a comment's row -/
def nS (n : Nat) : Str := (toString ((n : Nat) : Int) : String)
def moreS (T : FM.T3) (F : List Nat) (c : Nat) : Str := if F.contains c = true then (" +" : Str) ++ nS (FM.belL T c).length else ("" : Str)
def rowS (d c : Nat) (more : Str) : Str := Txt.mul "  " (d : Int) ++ nS c ++ more
def rowsL (T : FM.T3) (F O : List Nat) : List Str := O.map fun c => rowS ((FM.depL T).getD c 0) c (moreS T F c)
theorem rows_congr (T : FM.T3) {F G : List Nat} (h : ∀ c, c ∈ F ↔ c ∈ G) (O : List Nat) : rowsL T F O = rowsL T G O := by
  unfold rowsL
  refine List.map_congr_left fun c _ => ?_
  have e : F.contains c = G.contains c := by
    rw [Bool.eq_iff_iff, List.contains_iff_mem, List.contains_iff_mem]
    exact h c
  unfold moreS
  rw [e]
def sp_Forum_shown (K : PySem.W.Frag) : Sp := spRead K fun s => nV (FM.shoL s.T s.F s.O)
def sp_Forum_lines (K : PySem.W.Frag) : Sp := spRead K fun s => (rowsL s.T s.F (FM.shoL s.T s.F s.O)).map V.str
def sp__law_rows (K : PySem.W.Frag) : Sp := fun vs H Q _ => ∃ (a b : Addr) (T : FM.T3) (G : List Nat) (nw : Bool), vs = [.ref a, .ref b, .bl nw] ∧ SqL K H a (T.map ov) ∧ SqL K H b (nV G) ∧ FM.Th T ∧ T.length ≤ 1000 ∧ G.length ≤ 1000 ∧ (∀ c ∈ G, c < T.length) ∧
  ∀ l H', Ex H H' → H l = none → H' l = some (.lst ((rowsL T G (FM.shoL T G (ordB T nw))).map V.str)) → Q (.ref l) H'
end FT
namespace FT
open PySem PySem.Spec PyProof.Rows L2

/-- slots: self, thread, folded, order, depths, found, comment, more -/
def t_Forum_lines (K : PySem.W.Frag) (E : XK) : TS :=
  (tSeq (tAsg (tFld K (tVar 0) "state") (gTup K 3 (gCons (gName 1) (gCons (gName 2) (gCons (gName 3) gNil)))))
  (tSeq (tPar 4 5 (tCons (tCall (sp_depths_in K) [] E0 (tCons (tVar 1) tNil)) (tCons (tLst tNil) tNil)))
  (tSeq (tFor (iSeq K (tCall (sp_shown_in K) [] E0 (tCons (tVar 1) (tCons (tVar 2) (tCons (tVar 3) tNil))))) (gName 6) (tSeq (tAsg (tIf (tTest (tOp (qIn K) (tVar 6) (tVar 2))) (tJoin [(tC (.str " +")), (tFmt (tCB (qLen K) (tCons (tCall (sp_below_in K) [] E0 (tCons (tVar 1) (tCons (tVar 6) tNil))) tNil)))]) (tC (.str ""))) (gName 7))
  (tDrop (tBM K "list" rAppend (tVar 5) (tCons (tOp (qAdd K) (tOp (qAdd K) (tOp qMul (tC (.str "  ")) (tOp (qIx K) (tVar 4) (tVar 6))) (tCB qStr (tCons (tVar 6) tNil))) (tVar 7)) tNil)))))
  (tRet (tVar 5)))))
/-- slots: _law_some, _law_hidden_by, _law_is_newest, _law_found, _law_one, _law_more -/
def t__law_rows (K : PySem.W.Frag) (E : XK) : TS :=
  (tSeq (tAsg (tLst tNil) (gName 3))
  (tSeq (tFor (iSeq K (tCall (sp__law_seen K) [] E0 (tCons (tVar 0) (tCons (tVar 1) (tCons (tVar 2) tNil))))) (gName 4) (tSeq (tAsg (tIf (tTest (tOp (qIn K) (tVar 4) (tVar 1))) (tOp (qAdd K) (tC (.str " +")) (tCB qStr (tCons (tCB (qLen K) (tCons (tCall (sp__law_below K) [] E0 (tCons (tVar 0) (tCons (tVar 4) tNil))) tNil)) tNil))) (tC (.str ""))) (gName 5))
  (tDrop (tBM K "list" rAppend (tVar 3) (tCons (tOp (qAdd K) (tOp (qAdd K) (tOp qMul (tC (.str "  ")) (tCall (sp__law_depth K) [] E0 (tCons (tVar 0) (tCons (tVar 4) tNil)))) (tCB qStr (tCons (tVar 4) tNil))) (tVar 5)) tNil)))))
  (tRet (tVar 3))))
end FT
namespace FT
open PySem PySem.Spec PyProof.Rows L2
theorem nV_snoc {O : List Nat} {k : Nat} (h : k < O.length) : nV (O.take (k + 1)) = nV (O.take k) ++ [V.int ((O[k] : Nat) : Int)] := by
  rw [take_snoc h]
  simp only [nV, List.map_append, List.map_cons, List.map_nil]
theorem pure_Forum_shown {K : PySem.W.Frag} {E : XK} {H : Hp} {Q : VK} {vs : List V} (h : sp_Forum_shown K vs H Q E) : t_Forum_shown K E (DD Q) (L2.start ["self"] vs) H := by
  obtain ⟨p, B, R, i, seg, nw, cur, past, rfl, S, hi, F, q⟩ := h
  show t_Forum_shown K E (DD Q) [some (.ref p)] H
  obtain ⟨dx, ps, st, sts, a, b, c, rfl, hp, hps, h1, h2, h3, h4, -, -⟩ := F.ob.open_ S hi
  unfold t_Forum_shown
  walk_at "z"
  refine z_fld hp (F.cf.cl nw) (F.cf.n2 nw) (flds_st _ _ _) ?_
  walk_at "z"
  refine x_ixT (S.t h1) (at0 rfl) ?_
  walk_at "z"
  refine z_fld hp (F.cf.cl nw) (F.cf.n2 nw) (flds_st _ _ _) ?_
  walk_at "z"
  refine x_ixT (S.t h1) (at1 rfl) ?_
  walk_at "z"
  refine z_fld hp (F.cf.cl nw) (F.cf.n2 nw) (flds_st _ _ _) ?_
  walk_at "z"
  refine x_ixT (S.t h1) (at2 rfl) ?_
  walk_at "z"
  have hO : cur.O.length ≤ 1000 := by rw [F.ok.ord, len_ordB]; have := F.ok.len; omega
  refine ⟨a, b, c, cur.T, cur.F, cur.O, rfl, S.t h2, S.t h3, S.t h4, F.ok.th, by have := F.ok.len; omega, F.ok.fol, by have := F.ok.fl; omega, hO, fun l H' ex hn hl => ?_⟩
  exact q l H' (S.add ex hn hl)
/-! ### texts -/
theorem len_nS {n : Nat} (h : n ≤ 1000) : (nS n).length ≤ 4 := toString_length_le (v := (n : Int)) (by omega) (k := 4) (by decide) (by omega)
theorem log_nat {n : Nat} (h : n ≤ 1000) : ((n : Nat) : Int).natAbs.log2 < 1920 := by
  rw [Int.natAbs_natCast]
  have := Nat.log2_le_self n
  omega
theorem ind_ok {d : Nat} (h : d ≤ 1000) : MulOk ("  " : Str) (d : Int) := mulOk_of 2 1000 (by decide) (by omega) (by omega) (by decide) (by decide)
theorem len_ind {d : Nat} (h : d ≤ 1000) : (Txt.mul ("  " : Str) (d : Int)).length ≤ 2000 := len_mul_leN (L := 2) (N := 1000) (by decide) (by omega)
theorem len_more {T : FM.T3} {F : List Nat} {c : Nat} (hT : T.length ≤ 1000) : (moreS T F c).length ≤ 6 := by
  unfold moreS
  split
  · have h1 := len_belN T c T.length
    have h2 := len_nS (n := (FM.belL T c).length) (by unfold FM.belL; omega)
    rw [strLen_append]
    have h3 : ((" +" : Str)).length = 2 := rfl
    omega
  · exact Nat.zero_le _
theorem len_row {d c : Nat} {m : Str} (hd : d ≤ 1000) (hc : c ≤ 1000) (hm : m.length ≤ 6) : (rowS d c m).length ≤ 2010 := by
  have h1 := len_ind hd
  have h2 := len_nS hc
  unfold rowS
  rw [strLen_append, strLen_append]
  omega
theorem depO_le {T : FM.T3} (h : FM.Th T) : ∀ c, c < T.length → (FM.depL T).getD c 0 ≤ c := by
  intro c
  induction c using Nat.strongRecOn with
  | _ c ih =>
    intro hc
    rw [FM.depL_get h hc]
    cases hp : FM.par T c with
    | none => exact Nat.zero_le _
    | some p =>
      have h1 := FM.par_lt h hp
      have := ih p h1 (by omega)
      show (FM.depL T).getD p 0 + 1 ≤ c
      omega
theorem add_ok2 {d c : Nat} {m : Str} (h : (rowS d c m).length ≤ 2010) : (Txt.mul ("  " : Str) (d : Int) ++ ((toString ((c : Nat) : Int) : String) : Str)).length + m.length ≤ sizeLine := by
  unfold rowS nS at h
  rw [strLen_append] at h
  rw [sz]
  omega
theorem add_ok1 {d c : Nat} {m : Str} (h : (rowS d c m).length ≤ 2010) : (Txt.mul ("  " : Str) (d : Int)).length + ((toString ((c : Nat) : Int) : String) : Str).length ≤ sizeLine := by
  unfold rowS nS at h
  rw [strLen_append, strLen_append] at h
  rw [sz]
  omega
theorem at_dep {T : FM.T3} {c : Nat} (h : c < T.length) : atI (nV (FM.depL T)) (c : Int) = some (.int (((FM.depL T).getD c 0 : Nat) : Int)) := by
  have hl : (FM.depL T).length = T.length := FM.len_depN
  have h2 : c < (FM.depL T).length := by omega
  refine atI_nat ?_
  rw [nV_at h2, List.getD_eq_getElem?_getD, List.getElem?_eq_getElem h2]
  rfl
theorem pure_Forum_lines {K : PySem.W.Frag} {E : XK} {H : Hp} {Q : VK} {vs : List V} (h : sp_Forum_lines K vs H Q E) : t_Forum_lines K E (DD Q) (L2.start ["self", "thread", "folded", "order", "depths", "found", "comment", "more"] vs) H := by
  obtain ⟨p, B, R, i, seg, nw, cur, past, rfl, S, hi, F, q⟩ := h
  show t_Forum_lines K E (DD Q) [some (.ref p), none, none, none, none, none, none, none] H
  obtain ⟨dx, ps, st, sts, a, b, c, rfl, hp, hps, h1, h2, h3, h4, -, -⟩ := F.ob.open_ S hi
  have q : ∀ l H', Z H' B ([(l, .lst ((rowsL cur.T cur.F (FM.shoL cur.T cur.F cur.O)).map V.str))] :: R) → Q (.ref l) H' := q
  have hlen := F.ok.len
  have hlt : ∀ c ∈ cur.O, c < cur.T.length := by
    rw [F.ok.ord]
    exact fun c hc => mem_ordB.mp hc
  unfold t_Forum_lines
  walk_at "z"
  refine z_fld hp (F.cf.cl nw) (F.cf.n2 nw) (flds_st _ _ _) ?_
  walk_at "z"
  refine ⟨a, cur.T, rfl, .inr (S.t h2), F.ok.th, by omega, fun dl H1 ex hn hd => ?_⟩
  have S1 := S.add ex hn hd
  walk_at "z"
  intro fl H2 S2
  walk_at "z"
  have hO : cur.O.length ≤ 1000 := by rw [F.ok.ord, len_ordB]; omega
  refine ⟨a, b, c, cur.T, cur.F, cur.O, rfl, S2.t h2, S2.t h3, S2.t h4, F.ok.th, by omega, F.ok.fol, by have := F.ok.fl; omega, hO, fun sl H3 ex3 hn3 hs3 => ?_⟩
  have S3 := S2.add ex3 hn3 hs3
  have hlt2 : ∀ c ∈ FM.shoL cur.T cur.F cur.O, c < cur.T.length := fun c hc => hlt c (List.mem_filter.mp hc).1
  have hO2 : (FM.shoL cur.T cur.F cur.O).length ≤ 1000 := Nat.le_trans (List.length_filter_le _ _) hO
  generalize FM.shoL cur.T cur.F cur.O = SO at hs3 S3 hlt2 hO2 q
  walk_at "z"
  refine z_for_list (nV SO) (fun k σ H' => ∃ o6 o7, σ = [some (.ref p), some (.ref a), some (.ref b), some (.ref c), some (.ref dl), some (.ref fl), o6, o7] ∧
    Z H' B ([(sl, .lst (nV SO))] :: [(fl, .lst ((rowsL cur.T cur.F (SO.take k)).map V.str))] :: [(dl, .lst (nV (FM.depL cur.T)))] :: R)) ⟨_, _, rfl, S3⟩ (fun j σ H' _ ⟨_, _, _, S4⟩ => sq_l (S4.at_ 0 0 rfl rfl)) ?_ ?_
  · rintro k x σ H' hx ⟨o6, o7, rfl, S4⟩
    have hk : k < SO.length := by
      have := (List.getElem?_eq_some_iff.mp hx).1
      rwa [nV_len] at this
    rw [nV_at hk] at hx
    cases hx
    walk_at "z"
    refine .inl ⟨b, nV cur.F, rfl, .inr (S4.t h3), rfl, flat_nV _, ?_⟩
    rw [if_neg (by decide), inV_int]
    have hc : SO[k] < cur.T.length := hlt2 _ (List.getElem_mem hk)
    have hd := Nat.le_trans (depO_le F.ok.th _ hc) (Nat.le_of_lt hc)
    have fin : ∀ (m : Str) (H4 : Hp), m = moreS cur.T cur.F SO[k] → Ex H' H4 → (tDrop (tBM K "list" rAppend (tVar 5) (tCons (tOp (qAdd K) (tOp (qAdd K) (tOp qMul (tC (.str "  ")) (tOp (qIx K) (tVar 4) (tVar 6))) (tCB qStr (tCons (tVar 6) tNil))) (tVar 7)) tNil)))
        { nx := fun σ H' => ∃ o6 o7, σ = [some (.ref p), some (.ref a), some (.ref b), some (.ref c), some (.ref dl), some (.ref fl), o6, o7] ∧ Z H' B ([(sl, .lst (nV SO))] :: [(fl, .lst ((rowsL cur.T cur.F (SO.take (k + 1))).map V.str))] :: [(dl, .lst (nV (FM.depL cur.T)))] :: R), rt := Q, bk := tRet (tVar 5) (DD Q),
          ct := fun σ H' => ∃ o6 o7, σ = [some (.ref p), some (.ref a), some (.ref b), some (.ref c), some (.ref dl), some (.ref fl), o6, o7] ∧ Z H' B ([(sl, .lst (nV SO))] :: [(fl, .lst ((rowsL cur.T cur.F (SO.take (k + 1))).map V.str))] :: [(dl, .lst (nV (FM.depL cur.T)))] :: R) }
        [some (.ref p), some (.ref a), some (.ref b), some (.ref c), some (.ref dl), some (.ref fl), some (.int ((SO[k] : Nat) : Int)), some (.str m)] H4 := by
      rintro m H4 rfl ex4
      have S5 := S4.ext ex4
      walk_at "z"
      refine x_ixL (sq_l (S5.at_ 2 0 rfl rfl)) (at_dep hc) ?_
      refine x_mulS (ind_ok (by omega)) ?_
      walk_at "z"
      refine x_str (log_nat (by omega)) ?_
      walk_at "z"
      have hr := len_row (m := moreS cur.T cur.F SO[k]) (Nat.le_trans hd (show cur.T.length ≤ 1000 by omega)) (show SO[k] ≤ 1000 by omega) (len_more (by omega))
      refine x_addS (add_ok1 hr) ?_
      walk_at "z"
      refine x_addS (add_ok2 hr) ?_
      walk_at "z"
      refine z_append (n := 1) S5 rfl (by rw [List.length_map, rowsL, List.length_map, List.length_take, sz]; omega) (fun H5 S6 => ⟨_, _, rfl, ?_⟩)
      rw [rowsL, take_snoc hk, List.map_append, List.map_append]
      exact S6
    refine z_bl (z_iteB (fun z => ?_) (fun z => ?_))
    · refine ⟨_, rfl, ?_, ?_⟩
      · decide
      · show tCB (qLen K) (tCons (tCall (sp_below_in K) [] E0 (tCons (tVar 1) (tCons (tVar 6) tNil))) tNil) _ _ _
        walk_at "z"
        refine ⟨a, true, cur.T, SO[k], rfl, SqB.t (S4.t h2), F.ok.th, by omega, hc, fun bl H4 ex4 hn4 hb4 => ?_⟩
        walk_at "z"
        refine .inr ⟨_, rfl, ?_, ?_⟩
        · rw [nV_len]
          have := len_belN cur.T SO[k] cur.T.length
          exact log_nat (by unfold FM.belL; omega)
        · have e : Str.empty ++ (" +" : Str) ++ ((toString (((nV (FM.belL cur.T SO[k])).length : Nat) : Int) : String) : Str) = moreS cur.T cur.F SO[k] := by
            unfold moreS
            rw [if_pos z, nV_len]
            rfl
          refine ⟨_, rfl, ?_, ?_⟩
          · rw [e]
            exact Nat.le_trans (len_more (by omega)) (by decide)
          · exact fin _ H4 e ex4
    · refine x_c (fin _ H' ?_ (Ex.refl H'))
      unfold moreS
      rw [z, if_neg (by decide)]
  · rintro σ H' ⟨o6, o7, rfl, S4⟩
    rw [nV_len, List.take_length] at S4
    walk_at "z"
    exact q fl H' (S4.sub (List.Sublist.cons _ (List.Sublist.cons₂ _ (List.sublist_cons_self _ _))))
theorem pure__law_rows {K : PySem.W.Frag} {E : XK} {H : Hp} {Q : VK} {vs : List V} (h : sp__law_rows K vs H Q E) : t__law_rows K E (DD Q) (L2.start ["_law_some", "_law_hidden_by", "_law_is_newest", "_law_found", "_law_one", "_law_more"] vs) H := by
  obtain ⟨a, b, T, G, nw, rfl, ha, hb, hT, hl, hG, hin, q⟩ := h
  show t__law_rows K E (DD Q) [some (.ref a), some (.ref b), some (.bl nw), none, none, none] H
  have S := Z.start H
  unfold t__law_rows
  walk_at "z"
  intro fl H1 S1
  walk_at "z"
  refine ⟨a, b, T, G, nw, rfl, S1.l ha, S1.l hb, hT, hl, hG, hin, fun sl H2 ex hn hs => ?_⟩
  have S2 := S1.add ex hn hs
  have hlt2 : ∀ c ∈ FM.shoL T G (ordB T nw), c < T.length := fun c hc => mem_ordB.mp (List.mem_filter.mp hc).1
  have hO2 : (FM.shoL T G (ordB T nw)).length ≤ 1000 := Nat.le_trans (List.length_filter_le _ _) (by rw [len_ordB]; omega)
  generalize FM.shoL T G (ordB T nw) = SO at hs S2 hlt2 hO2 q
  walk_at "z"
  refine z_for_list (nV SO) (fun k σ H' => ∃ o6 o7, σ = [some (.ref a), some (.ref b), some (.bl nw), some (.ref fl), o6, o7] ∧
    Z H' H ([(sl, .lst (nV SO))] :: [(fl, .lst ((rowsL T G (SO.take k)).map V.str))] :: [])) ⟨_, _, rfl, S2⟩ (fun j σ H' _ ⟨_, _, _, S4⟩ => sq_l (S4.at_ 0 0 rfl rfl)) ?_ ?_
  · rintro k x σ H' hx ⟨o6, o7, rfl, S4⟩
    have hk : k < SO.length := by
      have := (List.getElem?_eq_some_iff.mp hx).1
      rwa [nV_len] at this
    rw [nV_at hk] at hx
    cases hx
    walk_at "z"
    refine .inl ⟨b, nV G, rfl, .inl (S4.l hb), rfl, flat_nV _, ?_⟩
    rw [if_neg (by decide), inV_int]
    have hc : SO[k] < T.length := hlt2 _ (List.getElem_mem hk)
    have hd := Nat.le_trans (depO_le hT _ hc) (Nat.le_of_lt hc)
    have hm := len_more (T := T) (F := G) (c := SO[k]) hl
    have fin : ∀ (m : Str) (H4 : Hp), m = moreS T G SO[k] → Ex H' H4 → (tDrop (tBM K "list" rAppend (tVar 3) (tCons (tOp (qAdd K) (tOp (qAdd K) (tOp qMul (tC (.str "  ")) (tCall (sp__law_depth K) [] E0 (tCons (tVar 0) (tCons (tVar 4) tNil)))) (tCB qStr (tCons (tVar 4) tNil))) (tVar 5)) tNil)))
        { nx := fun σ H' => ∃ o6 o7, σ = [some (.ref a), some (.ref b), some (.bl nw), some (.ref fl), o6, o7] ∧ Z H' H ([(sl, .lst (nV SO))] :: [(fl, .lst ((rowsL T G (SO.take (k + 1))).map V.str))] :: []), rt := Q, bk := tRet (tVar 3) (DD Q),
          ct := fun σ H' => ∃ o6 o7, σ = [some (.ref a), some (.ref b), some (.bl nw), some (.ref fl), o6, o7] ∧ Z H' H ([(sl, .lst (nV SO))] :: [(fl, .lst ((rowsL T G (SO.take (k + 1))).map V.str))] :: []) }
        [some (.ref a), some (.ref b), some (.bl nw), some (.ref fl), some (.int ((SO[k] : Nat) : Int)), some (.str m)] H4 := by
      rintro m H4 rfl ex4
      have S5 := S4.ext ex4
      walk_at "z"
      refine ⟨a, T, SO[k], rfl, S5.l ha, hT, hl, hc, ?_⟩
      refine x_mulS (ind_ok (by omega)) ?_
      walk_at "z"
      refine x_str (log_nat (by omega)) ?_
      walk_at "z"
      have hr := len_row (m := moreS T G SO[k]) (Nat.le_trans hd (show T.length ≤ 1000 by omega)) (show SO[k] ≤ 1000 by omega) hm
      refine x_addS (add_ok1 hr) ?_
      walk_at "z"
      refine x_addS (add_ok2 hr) ?_
      walk_at "z"
      refine z_append (n := 1) S5 rfl (by rw [List.length_map, rowsL, List.length_map, List.length_take, sz]; omega) (fun H5 S6 => ⟨_, _, rfl, ?_⟩)
      rw [rowsL, take_snoc hk, List.map_append, List.map_append]
      exact S6
    refine z_bl (z_iteB (fun z => ?_) (fun z => ?_))
    · have e : (" +" : Str) ++ ((toString (((nV (FM.belL T SO[k])).length : Nat) : Int) : String) : Str) = moreS T G SO[k] := by
        unfold moreS
        rw [if_pos z, nV_len]
        rfl
      walk_at "z"
      refine ⟨a, T, SO[k], rfl, S4.l ha, hT, hl, hc, fun bl H4 ex4 hn4 hb4 => ?_⟩
      walk_at "z"
      refine x_str ?_ ?_
      · rw [nV_len]
        have := len_belN T SO[k] T.length
        exact log_nat (by unfold FM.belL; omega)
      · refine x_addS ?_ ?_
        · rw [← e, strLen_append] at hm
          rw [sz]
          omega
        · exact fin _ H4 e ex4
    · refine x_c (fin _ H' ?_ (Ex.refl H'))
      unfold moreS
      rw [z, if_neg (by decide)]
  · rintro σ H' ⟨o6, o7, rfl, S4⟩
    rw [nV_len, List.take_length] at S4
    walk_at "z"
    exact q fl H' S4.base (S4.no 1 0 rfl rfl) (S4.at_ 1 0 rfl rfl)
end FT

namespace FT
open PySem PySem.Spec PyProof.Rows L2
/-! ### _law_same: values with the same data (lists, ints, bools, texts, None) -/
theorem z_isiLT {K : PySem.W.Frag} {H : Hp} {Q : VK} {v : V} {tp : Addr} {T0 : String} {b : Bool} (h : Kd K H v T0) (hT : H tp = some (.tup [.ty "list", .ty "tuple"])) (e : PySem.W.kitAny K (.type T0) [.type "list", .type "tuple"] = some b) (q : Q (.bl b) H) : qIsiT K [v, .ref tp] H Q :=
  ⟨v, tp, _, _, _, b, rfl, hT, .cons (.ty _) (.cons (.ty _) .nil), h, e, q⟩
/-- data of lists and tuples -/
inductive Dl (K : PySem.W.Frag) (H : Hp) : Nat → V → V → Prop
  | non (n : Nat) : Dl K H n .non .non
  | bl (n : Nat) (b : Bool) : Dl K H n (.bl b) (.bl b)
  | int (n : Nat) (i : Int) : Dl K H n (.int i) (.int i)
  | str (n : Nat) (x : Str) : Dl K H n (.str x) (.str x)
  | lst (n : Nat) {a b : Addr} {xs ys : List V} : SqL K H a xs → SqL K H b ys → xs.length = ys.length → (∀ (i : Nat) x y, xs[i]? = some x → ys[i]? = some y → Dl K H n x y) → Dl K H (n + 1) (.ref a) (.ref b)
  | tup (n : Nat) {a b : Addr} {xs ys : List V} : SqT K H a xs → SqT K H b ys → xs.length = ys.length → (∀ (i : Nat) x y, xs[i]? = some x → ys[i]? = some y → Dl K H n x y) → Dl K H (n + 1) (.ref a) (.ref b)
def spSame (K : PySem.W.Frag) : Nat → Sp
  | 0 => fun _ _ _ _ => False
  | n + 1 => fun vs H Q _ => ∃ x y, vs = [x, y] ∧ Dl K H n x y ∧ ∀ H', Ex H H' → Q (.bl true) H'
def sp__law_same (K : PySem.W.Frag) : Sp := spSame K 5
end FT
namespace FT
open PySem PySem.Spec PyProof.Rows L2

/-- slots: _law_found, _law_due, _law_one, _law_two -/
def t__law_same (n : Nat) (K : PySem.W.Frag) (E : XK) : TS :=
  (tSeq (tIfS (tB (tCB (qIsiT K) (tCons (tVar 1) (tCons (tTup (tCons (tC (.ty "list")) (tCons (tC (.ty "tuple")) tNil))) tNil)))) (tSeq (tIfS (tOr (tTest (tOp (qNe K) (tCB (qIsi K) (tCons (tVar 0) (tCons (tC (.ty "list")) tNil))) (tCB (qIsi K) (tCons (tVar 1) (tCons (tC (.ty "list")) tNil))))) (tTest (tOp (qNe K) (tCB (qIsi K) (tCons (tVar 0) (tCons (tC (.ty "tuple")) tNil))) (tCB (qIsi K) (tCons (tVar 1) (tCons (tC (.ty "tuple")) tNil)))))) (tRet (tC (.bl false))) tNext)
  (tSeq (tIfS (tTest (tOp (qNe K) (tCB (qLen K) (tCons (tVar 0) tNil)) (tCB (qLen K) (tCons (tVar 1) tNil)))) (tRet (tC (.bl false))) tNext)
  (tRet (tOp (qEq K) (tLc (iOr2 (iZip K (tCons (tVar 0) (tCons (tVar 1) tNil))) (iZipT K (tCons (tVar 0) (tCons (tVar 1) tNil)))) (gTup K 2 (gCons (gName 2) (gCons (gName 3) gNil))) (tNot (tB (tCall (spSame K n) [] E0 (tCons (tVar 2) (tCons (tVar 3) tNil))))) (tC (.int 1)) [2, 3]) (tLst tNil))))) tNext)
  (tSeq (tIfS (tOr (tTest (tOp qIs (tVar 1) (tC .non))) (tTest (tOp qIs (tVar 0) (tC .non)))) (tRet (tAndV (tOp qIs (tVar 1) (tC .non)) (tOp qIs (tVar 0) (tC .non)))) tNext)
  (tRet (tAndV (tOp (qEq K) (tCB (qIsi K) (tCons (tVar 0) (tCons (tC (.ty "bool")) tNil))) (tCB (qIsi K) (tCons (tVar 1) (tCons (tC (.ty "bool")) tNil)))) (tOp (qEq K) (tVar 0) (tVar 1))))))
end FT
namespace FT
open PySem PySem.Spec PyProof.Rows L2
theorem Dl.ext {K : PySem.W.Frag} {H H' : Hp} (e : Ex H H') {n : Nat} {x y : V} (h : Dl K H n x y) : Dl K H' n x y := by
  induction h with
  | non n => exact .non n
  | bl n b => exact .bl n b
  | int n i => exact .int n i
  | str n x => exact .str n x
  | lst n h1 h2 h3 _ ih => exact .lst n (e.l h1) (e.l h2) h3 ih
  | tup n h1 h2 h3 _ ih => exact .tup n (e.t h1) (e.t h2) h3 ih
theorem pure__law_same {K : PySem.W.Frag} {E : XK} {H : Hp} {Q : VK} {vs : List V} {n : Nat} (h : spSame K (n + 1) vs H Q E) : t__law_same n K E (DD Q) (L2.start ["_law_found", "_law_due", "_law_one", "_law_two"] vs) H := by
  obtain ⟨x, y, rfl, d, q⟩ := h
  show t__law_same n K E (DD Q) [some x, some y, none, none] H
  have S := Z.start H
  unfold t__law_same
  walk_at "z"
  cases d with
  | lst n h1 h2 h3 h4 =>
    intro tp H1 S1
    walk_at "z"
    refine z_isiLT (kd_list (S1.l h2)) (S1.at_ 0 0 rfl rfl) rfl ?_
    refine z_bl (z_iftrue ?_)
    walk_at "z"
    refine z_isi (b := true) (kd_list (S1.l h1)) (by decide +kernel) ?_
    walk_at "z"
    refine z_isi (b := true) (kd_list (S1.l h2)) (by decide +kernel) ?_
    refine x_neV rfl ?_
    refine z_bl (z_iffalse ?_)
    walk_at "z"
    refine z_isi (b := false) (kd_list (S1.l h1)) (by decide +kernel) ?_
    walk_at "z"
    refine z_isi (b := false) (kd_list (S1.l h2)) (by decide +kernel) ?_
    refine x_neV rfl ?_
    refine z_bl (z_iffalse ?_)
    walk_at "z"
    rw [show (!decide (((List.length _ : Nat) : Int) = ((List.length _ : Nat) : Int))) = false from by rw [h3]; simp]
    refine z_iffalse ?_
    walk_at "z"
    refine x_iorL ?_
    walk_at "z"
    refine z_lcZ S1 _ _ h3 (fun _ => []) rfl (fun H' S' => S'.l h1) (fun H' S' => S'.l h2) (fun k x y D T H4 hx hy S4 => ?_) (fun D H4 S4 => ?_)
    · walk_at "z"
      refine ⟨x, y, rfl, (h4 k x y hx hy).ext S4.base, fun H5 ex5 => ?_⟩
      refine z_bl (z_iffalse ?_)
      exact z_skip (N := [_]) (S4.ext ex5) rfl
    · walk_at "z"
      intro p H5 S5
      refine x_eqD (d := .list []) (e := .list []) (.lst (sq_l (S5.at_ 1 0 rfl rfl)) .nil) (.lst (sq_l (S5.at_ 0 0 rfl rfl)) .nil) rfl rfl ?_
      exact q H5 S5.base
  | tup n h1 h2 h3 h4 =>
    intro tp H1 S1
    walk_at "z"
    refine z_isiLT (kd_tup (S1.t h2)) (S1.at_ 0 0 rfl rfl) rfl ?_
    refine z_bl (z_iftrue ?_)
    walk_at "z"
    refine z_isi (b := false) (kd_tup (S1.t h1)) (by decide +kernel) ?_
    walk_at "z"
    refine z_isi (b := false) (kd_tup (S1.t h2)) (by decide +kernel) ?_
    refine x_neV rfl ?_
    refine z_bl (z_iffalse ?_)
    walk_at "z"
    refine z_isi (b := true) (kd_tup (S1.t h1)) (by decide +kernel) ?_
    walk_at "z"
    refine z_isi (b := true) (kd_tup (S1.t h2)) (by decide +kernel) ?_
    refine x_neV rfl ?_
    refine z_bl (z_iffalse ?_)
    walk_at "z"
    rw [show (!decide (((List.length _ : Nat) : Int) = ((List.length _ : Nat) : Int))) = false from by rw [h3]; simp]
    refine z_iffalse ?_
    walk_at "z"
    refine x_iorR ?_
    refine x_zipT ?_
    walk_at "z"
    refine z_zipT (S1.t h1) (S1.t h2) ?_
    refine z_lcZT S1 _ _ h3 (fun _ => []) rfl (fun H' S' => S'.t h1) (fun H' S' => S'.t h2) (fun k x y D T H4 hx hy S4 => ?_) (fun D H4 S4 => ?_)
    · walk_at "z"
      refine ⟨x, y, rfl, (h4 k x y hx hy).ext S4.base, fun H5 ex5 => ?_⟩
      refine z_bl (z_iffalse ?_)
      exact z_skip (N := [_]) (S4.ext ex5) rfl
    · walk_at "z"
      intro p H5 S5
      refine x_eqD (d := .list []) (e := .list []) (.lst (sq_l (S5.at_ 1 0 rfl rfl)) .nil) (.lst (sq_l (S5.at_ 0 0 rfl rfl)) .nil) rfl rfl ?_
      exact q H5 S5.base
  | non n =>
    intro tp H1 S1
    walk_at "z"
    refine z_isiLT (T0 := "NoneType") (.base .non) (S1.at_ 0 0 rfl rfl) rfl ?_
    refine z_bl (z_iffalse ?_)
    walk_at "z"
    refine z_iftrue (z_iftrue ?_)
    walk_at "z"
    refine ⟨_, rfl, ?_⟩
    walk_at "z"
    exact q _ S1.base
  | int n i =>
    intro tp H1 S1
    walk_at "z"
    refine z_isiLT (T0 := "int") (.base (.int i)) (S1.at_ 0 0 rfl rfl) rfl ?_
    refine z_bl (z_iffalse ?_)
    walk_at "z"
    refine z_iffalse ?_
    walk_at "z"
    refine z_iffalse ?_
    walk_at "z"
    refine z_isi (b := false) (.base (.int i)) (by decide +kernel) ?_
    walk_at "z"
    refine z_isi (b := false) (.base (.int i)) (by decide +kernel) ?_
    refine x_eqV rfl ?_
    refine ⟨_, rfl, z_iftrue ?_⟩
    walk_at "z"
    first | (refine x_eqV (x := .int i) (y := .int i) rfl ?_) | skip
    rw [decide_eq_true rfl]
    exact q _ S1.base
  | bl n i =>
    intro tp H1 S1
    walk_at "z"
    refine z_isiLT (T0 := "bool") (.base (.bl i)) (S1.at_ 0 0 rfl rfl) rfl ?_
    refine z_bl (z_iffalse ?_)
    walk_at "z"
    refine z_iffalse ?_
    walk_at "z"
    refine z_iffalse ?_
    walk_at "z"
    refine z_isi (b := true) (.base (.bl i)) (by decide +kernel) ?_
    walk_at "z"
    refine z_isi (b := true) (.base (.bl i)) (by decide +kernel) ?_
    refine x_eqV rfl ?_
    refine ⟨_, rfl, z_iftrue ?_⟩
    walk_at "z"
    first | (refine x_eqV (x := .bl i) (y := .bl i) rfl ?_) | skip
    rw [decide_eq_true rfl]
    exact q _ S1.base
  | str n i =>
    intro tp H1 S1
    walk_at "z"
    refine z_isiLT (T0 := "str") (.base (.str i)) (S1.at_ 0 0 rfl rfl) rfl ?_
    refine z_bl (z_iffalse ?_)
    walk_at "z"
    refine z_iffalse ?_
    walk_at "z"
    refine z_iffalse ?_
    walk_at "z"
    refine z_isi (b := false) (.base (.str i)) (by decide +kernel) ?_
    walk_at "z"
    refine z_isi (b := false) (.base (.str i)) (by decide +kernel) ?_
    refine x_eqV rfl ?_
    refine ⟨_, rfl, z_iftrue ?_⟩
    walk_at "z"
    first | (refine x_eqV (x := .str i) (y := .str i) rfl ?_) | skip
    rw [decide_eq_true rfl]
    exact q _ S1.base
end FT

namespace FT
open PySem PySem.Spec PyProof.Rows L2
/-- a list that is known: it stays, or it is a thing of a piece -/
def Kn (K : PySem.W.Frag) (B : Hp) (R : List Seg) (a : Addr) (xs : List V) : Prop := SqL K B a xs ∨ ∃ r ∈ R, (a, HO.lst xs) ∈ r
section
variable {K : PySem.W.Frag} {H B B' : Hp} {R R' : List Seg} {r : Seg} {a : Addr} {xs : List V}
theorem Kn.l (h : Kn K B R a xs) (S : Z H B R) : SqL K H a xs := by
  rcases h with h | ⟨r, h1, h2⟩
  · exact S.l h
  · exact sq_l (S.here r h1 _ h2)
theorem Kn.up (h : Kn K B R a xs) : Kn K B (r :: R) a xs := by
  rcases h with h | ⟨r, h1, h2⟩
  · exact .inl h
  · exact .inr ⟨r, List.mem_cons_of_mem _ h1, h2⟩
theorem Kn.sub (h : Kn K B R a xs) (hs : ∀ r ∈ R, r ∈ R') : Kn K B R' a xs := by
  rcases h with h | ⟨r, h1, h2⟩
  · exact .inl h
  · exact .inr ⟨r, hs r h1, h2⟩
theorem Kn.ext (e : Ex B B') (h : Kn K B R a xs) : Kn K B' R a xs := by
  rcases h with h | h
  · exact .inl (e.l h)
  · exact .inr h
theorem Kn.at_ {q : Seg} (i : Nat) (h : R[i]? = some ((a, .lst xs) :: q)) : Kn K B R a xs := .inr ⟨_, List.mem_of_getElem? h, List.mem_cons_self⟩
end
/-- _law_shows: the forum in piece i, the comments' answers at a, the hidden comments' list at b -/
def sp__law_shows (K : PySem.W.Frag) : Sp := fun vs H Q _ => ∃ (p a b : Addr) (B : Hp) (R : List Seg) (i : Nat) (seg : Seg) (nw : Bool) (cur : S3) (past : List S3) (G : List Nat), vs = [.ref p, .ref a, .ref b, .bl nw] ∧ Z H B R ∧ R[i]? = some seg ∧ Fo K B seg p nw cur past ∧ G.Nodup ∧ (∀ c, c ∈ G ↔ c ∈ cur.F) ∧
  Kn K B R a (cur.T.map ov) ∧ Kn K B R b (nV G) ∧ ∀ H', Z H' B R → Q (.bl true) H'
theorem sort_asc {G F : List Nat} {ns : List Int} (h1 : G.Nodup) (h2 : ∀ c, c ∈ G ↔ c ∈ F) (hF : F.Pairwise (· < ·)) (hp : ns.Perm (G.map fun (n : Nat) => (n : Int))) (hs : ns.Pairwise (· ≤ ·)) : ns.map V.int = nV F := by
  have hpos : ∀ k ∈ ns, 0 ≤ k := fun k hk => by
    obtain ⟨n, _, e⟩ := List.mem_map.mp (hp.mem_iff.mp hk)
    omega
  rw [nV_ints hpos]
  congr 1
  refine asc_ext ?_ hF fun x => ?_
  · have hnd : ns.Nodup := hp.nodup_iff.mpr (List.pairwise_map.mpr (h1.imp fun {a b} h e => h (by omega)))
    rw [List.pairwise_map]
    refine List.Pairwise.imp_of_mem (fun {y z} hy hz hyz => ?_) (hs.and hnd)
    have := hpos y hy
    have := hpos z hz
    have := hyz.1
    have := hyz.2
    omega
  · rw [← h2, List.mem_map]
    constructor
    · rintro ⟨k, hk, rfl⟩
      obtain ⟨n, hn, e⟩ := List.mem_map.mp (hp.mem_iff.mp hk)
      rw [← e, Int.toNat_natCast]
      exact hn
    · intro z
      exact ⟨(x : Int), hp.mem_iff.mpr (List.mem_map.mpr ⟨x, z, rfl⟩), Int.toNat_natCast x⟩
theorem same_len {G F : List Nat} (h1 : G.Nodup) (h2 : ∀ c, c ∈ G ↔ c ∈ F) (hF : F.Pairwise (· < ·)) : G.length = F.length := by
  have hn : F.Nodup := hF.imp fun {a b} h => by omega
  exact ((List.perm_ext_iff_of_nodup h1 hn).mpr fun c => h2 c).length_eq
end FT
namespace FT
open PySem PySem.Spec PyProof.Rows L2

/-- slots: _law_forum, _law_some, _law_hidden_by, _law_is_newest, _law_found, _law_due -/
def t__law_shows (K : PySem.W.Frag) (E : XK) : TS :=
  (tSeq (tAsg (tLst (tCons (tOr2 (tProp (He.ga K "Forum") (sp_Forum_thread K) [] E0 (tVar 0)) (tProp (He.ga K "NewestForum") (sp_Forum_thread K) [] E0 (tVar 0))) (tCons (tOr2 (tProp (He.ga K "Forum") (sp_Forum_order K) [] E0 (tVar 0)) (tProp (He.ga K "NewestForum") (sp_Forum_order K) [] E0 (tVar 0))) (tCons (tOr2 (tProp (He.ga K "Forum") (sp_Forum_folded K) [] E0 (tVar 0)) (tProp (He.ga K "NewestForum") (sp_Forum_folded K) [] E0 (tVar 0))) (tCons (tOr2 (tProp (He.ga K "Forum") (sp_Forum_shown K) [] E0 (tVar 0)) (tProp (He.ga K "NewestForum") (sp_Forum_shown K) [] E0 (tVar 0))) (tCons (tOr2 (tMeth (He.ga K "Forum") "lines" (sp_Forum_lines K) [] E0 (tVar 0) tNil) (tMeth (He.ga K "NewestForum") "lines" (sp_Forum_lines K) [] E0 (tVar 0) tNil)) (tCons (tOr2 (tCB (rLenO (He.ga K "Forum") (sp_Forum___len__ K)) (tCons (tVar 0) tNil)) (tCB (rLenO (He.ga K "NewestForum") (sp_Forum___len__ K)) (tCons (tVar 0) tNil))) tNil))))))) (gName 4))
  (tSeq (tAsg (tLst (tCons (tCB (qList K) (tCons (tVar 1) tNil)) (tCons (tCall (sp__law_walk K) [] E0 (tCons (tVar 1) (tCons (tVar 3) tNil))) (tCons (tCB (qSorted K) (tCons (tVar 2) tNil)) (tCons (tCall (sp__law_seen K) [] E0 (tCons (tVar 1) (tCons (tVar 2) (tCons (tVar 3) tNil)))) tNil))))) (gName 5))
  (tRet (tCall (sp__law_same K) [] E0 (tCons (tVar 4) (tCons (tOp (qAdd K) (tVar 5) (tLst (tCons (tCall (sp__law_rows K) [] E0 (tCons (tVar 1) (tCons (tVar 2) (tCons (tVar 3) tNil)))) (tCons (tCB (qLen K) (tCons (tVar 1) tNil)) tNil)))) tNil))))))
end FT
namespace FT
open PySem PySem.Spec PyProof.Rows L2
theorem pure_NewestForum___init__ {K : PySem.W.Frag} {E : XK} {H : Hp} {Q : VK} {x : Addr} (h : sp_NewestForum___init__ K [.ref x] H Q E) :
    sp_Forum___init__ K [.ref x] H (fun _ H1 => (sFld K (tVar 0) (tC (.str "NewestForum")) "class_name") { nx := fun _ H' => Q .non H', rt := Q } [some (.ref x)] H1) (fun _ _ _ => False) := by
  obtain ⟨y, dx, B, R, e, cf, S, q⟩ := h
  cases e
  refine ⟨x, dx, true, B, R, rfl, cf, S, fun B' seg H' ex F S' => ?_⟩
  obtain ⟨dx', ps, st, sts, rfl, hst, h5, h6⟩ := F.ex
  walk_at "z"
  refine z_sfld (n := 0) S' rfl (cf.cl true) (cf.n1 true) (show 3 < 1000 by decide) fun H1 S1 => ?_
  rw [flds_name] at S1
  exact q B' _ H1 ex ⟨⟨dx', ps, st, sts, rfl, hst, h5, h6⟩⟩ S1
theorem dl_same {K : PySem.W.Frag} {H : Hp} {n : Nat} {a b : Addr} {xs : List V} (h1 : SqL K H a xs) (h2 : SqL K H b xs) (h : ∀ v ∈ xs, Dl K H n v v) : Dl K H (n + 1) (.ref a) (.ref b) :=
  .lst n h1 h2 rfl fun i x y hx hy => by
    cases hx.symm.trans hy
    exact h _ (List.mem_of_getElem? hx)
theorem dl_ov {K : PySem.W.Frag} {H : Hp} {n : Nat} {T : FM.T3} : ∀ v ∈ T.map ov, Dl K H n v v := fun v hv => by
  obtain ⟨o, -, rfl⟩ := List.mem_map.mp hv
  cases o with
  | none => exact .non n
  | some k => exact .int n _
theorem dl_nV {K : PySem.W.Frag} {H : Hp} {n : Nat} {ns : List Nat} : ∀ v ∈ nV ns, Dl K H n v v := fun v hv => by
  obtain ⟨o, -, rfl⟩ := List.mem_map.mp hv
  exact .int n _
theorem dl_str {K : PySem.W.Frag} {H : Hp} {n : Nat} {ns : List Str} : ∀ v ∈ ns.map V.str, Dl K H n v v := fun v hv => by
  obtain ⟨o, -, rfl⟩ := List.mem_map.mp hv
  exact .str n _
theorem pure__law_shows {K : PySem.W.Frag} {E : XK} {H : Hp} {Q : VK} {vs : List V} (h : sp__law_shows K vs H Q E) : t__law_shows K E (DD Q) (L2.start ["_law_forum", "_law_some", "_law_hidden_by", "_law_is_newest", "_law_found", "_law_due"] vs) H := by
  obtain ⟨p, a, b, B, R, i, seg, nw, cur, past, G, rfl, S, hi, F, hG1, hG2, ha, hb, q⟩ := h
  show t__law_shows K E (DD Q) [some (.ref p), some (.ref a), some (.ref b), some (.bl nw), none, none] H
  have hlen := F.ok.len
  have hGl : G.length ≤ 40 := by rw [same_len hG1 hG2 F.ok.asc]; exact F.ok.fl
  have hGin : ∀ c ∈ G, c < cur.T.length := fun c hc => F.ok.fol c ((hG2 c).mp hc)
  unfold t__law_shows
  walk_at "z"
  refine or_pr S hi F rfl ⟨p, B, R, i, seg, nw, cur, past, rfl, S, hi, F, fun l1 H1 S1 => ?_⟩
  walk_at "z"
  refine or_pr S1 (i := i + 1) hi F rfl ⟨p, B, _, i + 1, seg, nw, cur, past, rfl, S1, hi, F, fun l2 H2 S2 => ?_⟩
  walk_at "z"
  refine or_pr S2 (i := i + 2) hi F rfl ⟨p, B, _, i + 2, seg, nw, cur, past, rfl, S2, hi, F, fun l3 H3 S3 => ?_⟩
  walk_at "z"
  refine or_pr S3 (i := i + 3) hi F rfl ⟨p, B, _, i + 3, seg, nw, cur, past, rfl, S3, hi, F, fun l4 H4 S4 => ?_⟩
  walk_at "z"
  refine or_meth S4 (i := i + 4) hi F rfl (by decide +kernel) (by decide +kernel) (by decide +kernel) ⟨p, B, _, i + 4, seg, nw, cur, past, rfl, S4, hi, F, fun l5 H5 S5 => ?_⟩
  walk_at "z"
  refine or_len S5 (i := i + 5) hi F rfl ⟨p, B, _, i + 5, seg, nw, cur, past, rfl, S5, hi, F, ?_⟩
  refine ⟨cur.T.length, rfl, by have := F.ok.len; omega, ?_⟩
  walk_at "z"
  intro fl H6 S6
  walk_at "z"
  refine z_listL S6 (ha.up.up.up.up.up.up.l S6) fun d1 H7 S7 => ?_
  walk_at "z"
  refine ⟨a, cur.T, nw, rfl, ha.up.up.up.up.up.up.up.l S7, F.ok.th, by omega, fun d2 H8 ex8 hn8 h8 => ?_⟩
  have S8 := S7.add ex8 hn8 h8
  walk_at "z"
  refine ⟨b, G.map fun (n : Nat) => (n : Int), rfl, by rw [← nV_int]; exact hb.up.up.up.up.up.up.up.up.l S8, by rw [List.length_map]; omega, fun ns' d3 hp hs hn3 => ?_⟩
  rw [sort_asc hG1 hG2 F.ok.asc hp hs]
  have S9 : Z (upd H8 d3 (.lst (nV cur.F))) B ([(d3, .lst (nV cur.F))] :: _) := S8.new hn3
  generalize upd H8 d3 (.lst (nV cur.F)) = H9 at S9 ⊢
  walk_at "z"
  refine ⟨a, b, cur.T, G, nw, rfl, ha.up.up.up.up.up.up.up.up.up.l S9, hb.up.up.up.up.up.up.up.up.up.l S9, F.ok.th, by omega, by omega, hGin, fun d4 H10 ex10 hn10 h10 => ?_⟩
  rw [sho_congr _ hG2] at h10
  have S10 := S9.add ex10 hn10 h10
  walk_at "z"
  intro g1 H11 S11
  walk_at "z"
  refine ⟨a, b, cur.T, G, nw, rfl, ha.up.up.up.up.up.up.up.up.up.up.up.l S11, hb.up.up.up.up.up.up.up.up.up.up.up.l S11, F.ok.th, by omega, by omega, hGin, fun d5 H12 ex12 hn12 h12 => ?_⟩
  rw [sho_congr _ hG2, rows_congr _ hG2] at h12
  have S12 := S11.add ex12 hn12 h12
  walk_at "z"
  refine x_lenL (ha.up.up.up.up.up.up.up.up.up.up.up.up.l S12) ?_
  rw [List.length_map]
  walk_at "z"
  intro g2 H13 S13
  refine z_cat S13 (S13.at_ 2 0 rfl rfl) (S13.at_ 0 0 rfl rfl) (show 6 ≤ sizeLine by decide) fun g3 H14 S14 => ?_
  walk_at "z"
  refine ⟨.ref fl, .ref g3, rfl, ?_, fun H15 ex15 => q H15 ?_⟩
  · refine .lst 3 (sq_l (S14.at_ 8 0 rfl rfl)) (sq_l (S14.at_ 0 0 rfl rfl)) rfl fun k x y hx hy => ?_
    have hO := F.ok.ord
    match k, hx, hy with
    | 0, hx, hy => cases hx; cases hy; exact dl_same (sq_l (S14.at_ 13 0 rfl rfl)) (sq_l (S14.at_ 7 0 rfl rfl)) dl_ov
    | 1, hx, hy => cases hx; cases hy; exact dl_same (xs := nV cur.O) (sq_l (S14.at_ 12 0 rfl rfl)) (by rw [hO]; exact sq_l (S14.at_ 6 0 rfl rfl)) dl_nV
    | 2, hx, hy => cases hx; cases hy; exact dl_same (xs := nV cur.F) (sq_l (S14.at_ 11 0 rfl rfl)) (sq_l (S14.at_ 5 0 rfl rfl)) dl_nV
    | 3, hx, hy => cases hx; cases hy; exact dl_same (xs := nV (FM.shoL cur.T cur.F cur.O)) (sq_l (S14.at_ 10 0 rfl rfl)) (by rw [hO]; exact sq_l (S14.at_ 4 0 rfl rfl)) dl_nV
    | 4, hx, hy => cases hx; cases hy; exact dl_same (xs := (rowsL cur.T cur.F (FM.shoL cur.T cur.F cur.O)).map V.str) (sq_l (S14.at_ 9 0 rfl rfl)) (by rw [hO]; exact sq_l (S14.at_ 2 0 rfl rfl)) dl_str
    | 5, hx, hy => cases hx; cases hy; exact .int 3 _
    | k + 6, hx, hy => simp at hx
  · exact ((S14.ext ex15).sub (by repeat (first | exact List.Sublist.refl _ | apply List.Sublist.cons)))
end FT

namespace FT
open PySem PySem.Spec PyProof.Rows L2
/-! ### deeds -/
inductive Deed where
  | post (o : Option Nat)
  | fold (c : Nat)
  | unfold (c : Nat)
def Deed.nm : Deed → Str
  | .post _ => "post"
  | .fold _ => "fold"
  | .unfold _ => "unfold"
def Deed.v : Deed → V
  | .post o => ov o
  | .fold c => .int (c : Int)
  | .unfold c => .int (c : Int)
/-- possible in a state with the thread T and the folded comments G -/
def Deed.ok (T : FM.T3) (G : List Nat) : Deed → Prop
  | .post o => okP T.length o ∧ T.length < 40
  | .fold c => c < T.length
  | .unfold c => c < T.length ∧ c ∈ G
def Deed.T (T : FM.T3) : Deed → FM.T3
  | .post o => T ++ [o]
  | _ => T
/-- the law's list of hidden ones -/
def Deed.G (G : List Nat) : Deed → List Nat
  | .post _ => G
  | .fold c => if G.contains c = true then G else G ++ [c]
  | .unfold c => rmF G c
/-- the forum's -/
def Deed.F (F : List Nat) : Deed → List Nat
  | .post _ => F
  | .fold c => addF F c
  | .unfold c => rmF F c
def Deed.st (s : S3) (nw : Bool) (d : Deed) : S3 := ⟨d.T s.T, d.F s.F, ordB (d.T s.T) nw⟩
def Deed.res (T : FM.T3) : Deed → V
  | .post _ => .int (T.length : Int)
  | _ => .non
/-- what the law knows of a state: a tuple of the thread and the hidden ones -/
def LSt (K : PySem.W.Frag) (B : Hp) (s : Addr) (T : FM.T3) (G : List Nat) : Prop := ∃ a b, SqT K B s [.ref a, .ref b] ∧ B a = some (.lst (T.map ov)) ∧ B b = some (.lst (nV G))
theorem LSt.ext {K : PySem.W.Frag} {B B' : Hp} {s : Addr} {T : FM.T3} {G : List Nat} (e : Ex B B') (h : LSt K B s T G) : LSt K B' s T G := by
  obtain ⟨a, b, h1, h2, h3⟩ := h
  exact ⟨a, b, e.t h1, e _ _ h2, e _ _ h3⟩
structure LOk (T : FM.T3) (G : List Nat) : Prop where
  th : FM.Th T
  len : T.length ≤ 40
  nd : G.Nodup
  lt : ∀ c ∈ G, c < T.length
def sp__law_deed (K : PySem.W.Frag) : Sp := fun vs H Q _ => ∃ (d s : Addr) (n style : Nat) (B : Hp) (R : List Seg) (i : Nat) (seg : Seg) (T : FM.T3) (G : List Nat), vs = [.ref d, .ref s, .int (style : Int)] ∧ Deck seg d n ∧ Z H B R ∧ R[i]? = some seg ∧ n < 2 ^ 59 ∧ style < 6 ∧ LSt K B s T G ∧ LOk T G ∧
  ∀ (r dd s' : Addr) (de : Deed) n' seg' B' H', Ex B B' → n' ≤ n + 10 → Deck seg' d n' → de.ok T G → SqT K B' r [.ref dd, .ref s'] → SqT K B' dd [.str de.nm, de.v] → LSt K B' s' (de.T T) (de.G G) → Z H' B' (R.set i seg') → Q (.ref r) H'
def sp__law_done (K : PySem.W.Frag) : Sp := fun vs H Q _ => ∃ (p dd : Addr) (b : Bool) (B : Hp) (R : List Seg) (i : Nat) (seg : Seg) (nw : Bool) (cur : S3) (past : List S3) (de : Deed), vs = [.ref p, .ref dd, .bl b] ∧ Z H B R ∧ R[i]? = some seg ∧ Fo K B seg p nw cur past ∧ past.length < 100000 ∧ SqT K B dd [.str de.nm, de.v] ∧ de.ok cur.T cur.F ∧
  ∀ B' seg' H', Ex B B' → Fo K B' seg' p nw (de.st cur nw) (past ++ [cur]) → Z H' B' (R.set i seg') → Q (de.res cur.T) H'
def sp__law_told (K : PySem.W.Frag) : Sp := fun vs H Q _ => ∃ (s dd : Addr) (T : FM.T3) (G : List Nat) (de : Deed), vs = [.ref s, .ref dd] ∧ LSt K H s T G ∧ SqT K H dd [.str de.nm, de.v] ∧ Q (de.res T) H
/-- of: the states behind each post -/
def preS (T : FM.T3) (nw : Bool) (k : Nat) : S3 := ⟨T.take k, [], ordB (T.take k) nw⟩
def sp_Forum_of (K : PySem.W.Frag) : Sp := fun vs H Q _ => ∃ (a : Addr) (nw : Bool) (T : FM.T3) (B : Hp) (R : List Seg), vs = [.ref (fcl K nw), .ref a] ∧ ClsF K ∧ Z H B R ∧ Kn K B R a (T.map ov) ∧ FM.Th T ∧ T.length ≤ 40 ∧
  ∀ B' seg p H', Ex B B' → Fo K B' seg p nw ⟨T, [], ordB T nw⟩ ((List.range T.length).map (preS T nw)) → Z H' B' (seg :: R) → Q (.ref p) H'
end FT
namespace FT
open PySem PySem.Spec PyProof.Rows L2

/-- slots: cls, thread, found, answers -/
def t_Forum_of (K : PySem.W.Frag) (E : XK) : TS :=
  (tSeq (tIfS (tNot (tB (tCall (sp_is_thread K) [] E0 (tCons (tVar 1) tNil)))) (tRaise (wF E) (He.ga K "InvalidThread")) tNext)
  (tSeq (tAsg (tOr2 (tMakeL 0 (He.ga K "Forum") (sp_Forum___init__ K)) (tMakeL 0 (He.ga K "NewestForum") (sp_NewestForum___init__ K))) (gName 2))
  (tSeq (tFor (iSeq K (tVar 1)) (gName 3) (tDrop (tOr2 (tMeth (He.ga K "Forum") "post" (sp_Forum_post K) [] E0 (tVar 2) (tCons (tVar 3) tNil)) (tMeth (He.ga K "NewestForum") "post" (sp_Forum_post K) [] E0 (tVar 2) (tCons (tVar 3) tNil)))))
  (tRet (tVar 2)))))
/-- slots: _law_deck_here, _law_state, _law_style, _law_some, _law_hidden_by, _law_way, _law_parent_here, _law_one, _law_other -/
def t__law_deed (K : PySem.W.Frag) (E : XK) : TS :=
  (tSeq (tAsg (tVar 1) (gTup K 2 (gCons (gName 3) (gCons (gName 4) gNil))))
  (tSeq (tAsg (tCall (sp__law_draw K) [] E0 (tCons (tVar 0) (tCons (tC (.int 6)) tNil))) (gName 5))
  (tSeq (tIfS (tOr (tTest (tOp (qEq K) (tVar 3) (tLst tNil))) (tAnd (tTest (tOp qLt (tVar 5) (tC (.int 3)))) (tTest (tOp qLt (tCB (qLen K) (tCons (tVar 3) tNil)) (tC (.int 40)))))) (tSeq (tAsg (tCall (sp__law_parent K) [] E0 (tCons (tVar 0) (tCons (tCB (qLen K) (tCons (tVar 3) tNil)) (tCons (tVar 2) tNil)))) (gName 6))
  (tRet (tTup (tCons (tTup (tCons (tC (.str "post")) (tCons (tVar 6) tNil))) (tCons (tTup (tCons (tOp (qAdd K) (tVar 3) (tLst (tCons (tVar 6) tNil))) (tCons (tVar 4) tNil))) tNil))))) tNext)
  (tSeq (tAsg (tCall (sp__law_draw K) [] E0 (tCons (tVar 0) (tCons (tCB (qLen K) (tCons (tVar 3) tNil)) tNil))) (gName 7))
  (tSeq (tIfS (tAnd (tTest (tOp (qEq K) (tVar 5) (tC (.int 5)))) (tTest (tOp (qNe K) (tVar 4) (tLst tNil)))) (tSeq (tAsg (tOp (qIx K) (tVar 4) (tCall (sp__law_draw K) [] E0 (tCons (tVar 0) (tCons (tCB (qLen K) (tCons (tVar 4) tNil)) tNil)))) (gName 7))
  (tRet (tTup (tCons (tTup (tCons (tC (.str "unfold")) (tCons (tVar 7) tNil))) (tCons (tTup (tCons (tVar 3) (tCons (tLc (iSeq K (tVar 4)) (gName 8) (tTest (tOp (qNe K) (tVar 8) (tVar 7))) (tVar 8) [8]) tNil))) tNil))))) tNext)
  (tRet (tTup (tCons (tTup (tCons (tC (.str "fold")) (tCons (tVar 7) tNil))) (tCons (tTup (tCons (tVar 3) (tCons (tOp (qAdd K) (tVar 4) (tOp qMul (tLst (tCons (tVar 7) tNil)) (tCB qInt (tCons (tOp (qNotIn K) (tVar 7) (tVar 4)) tNil)))) tNil))) tNil)))))))))
/-- slots: _law_forum, _law_deed_here, _law_is_named -/
def t__law_done (K : PySem.W.Frag) (E : XK) : TS :=
  (tSeq (tIfS (tTest (tOp (qEq K) (tOp (qIx K) (tVar 1) (tC (.int 0))) (tC (.str "post")))) (tRet (tIf (tB (tVar 2)) (tOr2 (tMethK (He.ga K "Forum") "post" (sp_Forum_post K) 1 (tVar 0) (tCons (tOp (qIx K) (tVar 1) (tC (.int 1))) tNil)) (tMethK (He.ga K "NewestForum") "post" (sp_Forum_post K) 1 (tVar 0) (tCons (tOp (qIx K) (tVar 1) (tC (.int 1))) tNil))) (tOr2 (tMeth (He.ga K "Forum") "post" (sp_Forum_post K) [] E0 (tVar 0) (tCons (tOp (qIx K) (tVar 1) (tC (.int 1))) tNil)) (tMeth (He.ga K "NewestForum") "post" (sp_Forum_post K) [] E0 (tVar 0) (tCons (tOp (qIx K) (tVar 1) (tC (.int 1))) tNil))))) tNext)
  (tSeq (tIfS (tTest (tOp (qEq K) (tOp (qIx K) (tVar 1) (tC (.int 0))) (tC (.str "fold")))) (tRet (tIf (tB (tVar 2)) (tOr2 (tMethK (He.ga K "Forum") "fold" (sp_Forum_fold K) 1 (tVar 0) (tCons (tOp (qIx K) (tVar 1) (tC (.int 1))) tNil)) (tMethK (He.ga K "NewestForum") "fold" (sp_Forum_fold K) 1 (tVar 0) (tCons (tOp (qIx K) (tVar 1) (tC (.int 1))) tNil))) (tOr2 (tMeth (He.ga K "Forum") "fold" (sp_Forum_fold K) [] E0 (tVar 0) (tCons (tOp (qIx K) (tVar 1) (tC (.int 1))) tNil)) (tMeth (He.ga K "NewestForum") "fold" (sp_Forum_fold K) [] E0 (tVar 0) (tCons (tOp (qIx K) (tVar 1) (tC (.int 1))) tNil))))) tNext)
  (tRet (tIf (tB (tVar 2)) (tOr2 (tMethK (He.ga K "Forum") "unfold" (sp_Forum_unfold K) 1 (tVar 0) (tCons (tOp (qIx K) (tVar 1) (tC (.int 1))) tNil)) (tMethK (He.ga K "NewestForum") "unfold" (sp_Forum_unfold K) 1 (tVar 0) (tCons (tOp (qIx K) (tVar 1) (tC (.int 1))) tNil))) (tOr2 (tMeth (He.ga K "Forum") "unfold" (sp_Forum_unfold K) [] E0 (tVar 0) (tCons (tOp (qIx K) (tVar 1) (tC (.int 1))) tNil)) (tMeth (He.ga K "NewestForum") "unfold" (sp_Forum_unfold K) [] E0 (tVar 0) (tCons (tOp (qIx K) (tVar 1) (tC (.int 1))) tNil)))))))
/-- slots: _law_state, _law_deed_here -/
def t__law_told (K : PySem.W.Frag) (E : XK) : TS :=
  (tRet (tIf (tTest (tOp (qEq K) (tOp (qIx K) (tVar 1) (tC (.int 0))) (tC (.str "post")))) (tCB (qLen K) (tCons (tOp (qIx K) (tVar 0) (tC (.int 0))) tNil)) (tC .non)))
end FT
namespace FT
open PySem PySem.Spec PyProof.Rows L2
/-! ### what follows is kept apart -/
theorem split_t {t : TT} {σ : L2.St} {H : Hp} {Qb : Bool → Hp → Prop} (P : Bool → Hp → Prop) (h2 : ∀ Q' : Bool → Hp → Prop, (∀ c H', P c H' → Q' c H') → t σ H Q') (h1 : ∀ c H', P c H' → Qb c H') : t σ H Qb := h2 Qb h1
theorem split_e {te : TE} {σ : L2.St} {H : Hp} {Q : VK} (P : VK) (h2 : ∀ Q' : VK, (∀ x H', P x H' → Q' x H') → te σ H Q') (h1 : ∀ x H', P x H' → Q x H') : te σ H Q := h2 Q h1
theorem split_s {ts : TS} {D : Ends} {σ : L2.St} {H : Hp} (P : L2.St → Hp → Prop) (h2 : ∀ N : L2.St → Hp → Prop, (∀ σ' H', P σ' H' → N σ' H') → ts { D with nx := N } σ H) (h1 : ∀ σ' H', P σ' H' → D.nx σ' H') : ts D σ H := h2 D.nx h1
theorem ordB_snoc (T : FM.T3) (o : Option Nat) (nw : Bool) : (ordB (T ++ [o]) nw).filter (fun c => !decide (c = T.length)) = ordB T nw := by
  unfold ordB
  cases nw with
  | true => exact FM.newL_snoc T o
  | false => exact FM.ordL_snoc T o
theorem post_ok {K : PySem.W.Frag} {H B : Hp} {R : List Seg} {i : Nat} {seg : Seg} {p : Addr} {nw : Bool} {cur : S3} {past : List S3} {Q : VK} {o : Option Nat} (S : Z H B R) (hi : R[i]? = some seg) (F : Fo K B seg p nw cur past) (hpl : past.length < 100000) (hok : okP cur.T.length o) (hlt : cur.T.length < 40)
    (q : ∀ B' seg' H', Ex B B' → Fo K B' seg' p nw ⟨cur.T ++ [o], cur.F, ordB (cur.T ++ [o]) nw⟩ (past ++ [cur]) → Z H' B' (R.set i seg') → Q (.int (cur.T.length : Int)) H') : sp_Forum_post K [.ref p, ov o] H Q E0 := by
  refine ⟨p, ov o, B, R, i, seg, nw, cur, past, rfl, S, hi, F, hpl, ?_, fun h1 h2 => ?_, fun _ h => absurd h (by omega), fun o' e _ _ B' seg' H' ex F' S' => ?_⟩
  · cases o with
    | none => exact .inl rfl
    | some j => exact .inr ⟨"int", true, false, .base (.int _), by decide +kernel, by decide +kernel, by simp [ov]⟩
  · cases o with
    | none => exact absurd rfl h1
    | some j =>
      have := hok j rfl
      have e : isI (ov (some j)) 0 (some ((cur.T.length : Int) - 1)) = true := by
        show (decide ((0 : Int) ≤ (j : Int)) && decide ((j : Int) ≤ (cur.T.length : Int) - 1)) = true
        rw [decide_eq_true (by omega), decide_eq_true (by omega)] <;> rfl
      rw [e] at h2
      cases h2
  · have : o' = o := by
      cases o <;> cases o' <;> simp [ov] at e
      · rfl
      · congr 1
        omega
    subst this
    exact q B' seg' H' ex F' S'
theorem ok3_nil (nw : Bool) : Ok3 nw ⟨[], [], []⟩ := ⟨fun i j h => by simp at h, by simp, by cases nw <;> rfl, by simp, by simp⟩
theorem mk_forum {K : PySem.W.Frag} {H B : Hp} {R : List Seg} {Q : VK} {σ : L2.St} (S : Z H B R) (cf : ClsF K) (q : ∀ B' seg x H', Ex B B' → Fo K B' seg x false ⟨[], [], []⟩ [] → Z H' B' (seg :: R) → Q (.ref x) H') :
    tMake (He.ga K "Forum") (sp_Forum___init__ K) [] E0 tNil σ H Q :=
  x_make fun x dx h1 h2 ne => ⟨x, dx, false, B, R, rfl, cf, z_made S h1 h2 ne, fun B' seg H' e F S' => ⟨rfl, q B' seg x H' e ⟨cf, F, ok3_nil false, by simp, by simp⟩ S'⟩⟩
theorem mk_newest {K : PySem.W.Frag} {H B : Hp} {R : List Seg} {Q : VK} {σ : L2.St} (S : Z H B R) (cf : ClsF K) (q : ∀ B' seg x H', Ex B B' → Fo K B' seg x true ⟨[], [], []⟩ [] → Z H' B' (seg :: R) → Q (.ref x) H') :
    tMake (He.ga K "NewestForum") (sp_NewestForum___init__ K) [] E0 tNil σ H Q :=
  x_make fun x dx h1 h2 ne => ⟨x, dx, B, R, rfl, cf, z_made S h1 h2 ne, fun B' seg H' e F S' => ⟨rfl, q B' seg x H' e ⟨cf, F, ok3_nil true, by simp, by simp⟩ S'⟩⟩
theorem isI_in {c n : Nat} (h : c < n) : isI (.int (c : Int)) 0 (some ((n : Int) - 1)) = true := by
  show (decide ((0 : Int) ≤ (c : Int)) && decide ((c : Int) ≤ (n : Int) - 1)) = true
  rw [decide_eq_true (by omega), decide_eq_true (by omega)] <;> rfl
theorem fold_ok {K : PySem.W.Frag} {H B : Hp} {R : List Seg} {i : Nat} {seg : Seg} {p : Addr} {nw : Bool} {cur : S3} {past : List S3} {Q : VK} {c : Nat} (S : Z H B R) (hi : R[i]? = some seg) (F : Fo K B seg p nw cur past) (hpl : past.length < 100000) (hc : c < cur.T.length)
    (q : ∀ B' seg' H', Ex B B' → Fo K B' seg' p nw ⟨cur.T, addF cur.F c, ordB cur.T nw⟩ (past ++ [cur]) → Z H' B' (R.set i seg') → Q .non H') : sp_Forum_fold K [.ref p, .int (c : Int)] H Q E0 := by
  refine ⟨p, .int (c : Int), B, R, i, seg, nw, cur, past, rfl, S, hi, F, hpl, kdI_int K H c, fun e => ?_, fun c' e _ B' seg' H' ex F' S' => ?_⟩
  · rw [isI_in hc] at e
    cases e
  · have : c' = c := by have := V.int.inj e; omega
    subst this
    exact q B' seg' H' ex F' S'
theorem unfold_ok {K : PySem.W.Frag} {H B : Hp} {R : List Seg} {i : Nat} {seg : Seg} {p : Addr} {nw : Bool} {cur : S3} {past : List S3} {Q : VK} {c : Nat} (S : Z H B R) (hi : R[i]? = some seg) (F : Fo K B seg p nw cur past) (hpl : past.length < 100000) (hc : c < cur.T.length) (hm : c ∈ cur.F)
    (q : ∀ B' seg' H', Ex B B' → Fo K B' seg' p nw ⟨cur.T, rmF cur.F c, ordB cur.T nw⟩ (past ++ [cur]) → Z H' B' (R.set i seg') → Q .non H') : sp_Forum_unfold K [.ref p, .int (c : Int)] H Q E0 := by
  refine ⟨p, .int (c : Int), B, R, i, seg, nw, cur, past, rfl, S, hi, F, hpl, kdI_int K H c, fun e => ?_, fun c' e _ hn => ?_, fun c' e _ _ B' seg' H' ex F' S' => ?_⟩
  · rw [isI_in hc] at e
    cases e
  · have : c' = c := by have := V.int.inj e; omega
    subst this
    exact absurd hm hn
  · have : c' = c := by have := V.int.inj e; omega
    subst this
    exact q B' seg' H' ex F' S'
/-! ### of -/
theorem or_mkL {K : PySem.W.Frag} {H B : Hp} {R : List Seg} {Q : VK} {σ : L2.St} {i : Nat} {nw : Bool} (S : Z H B R) (cf : ClsF K) (hσ : σ[i]? = some (some (.ref (fcl K nw)))) (q : ∀ B' seg x H', Ex B B' → Fo K B' seg x nw ⟨[], [], []⟩ [] → Z H' B' (seg :: R) → Q (.ref x) H') :
    tOr2 (tMakeL i (He.ga K "Forum") (sp_Forum___init__ K)) (tMakeL i (He.ga K "NewestForum") (sp_NewestForum___init__ K)) σ H Q := by
  cases nw with
  | false => exact x_orL (x_mkL hσ fun x dx h1 h2 ne => ⟨x, dx, false, B, R, rfl, cf, z_made S h1 h2 ne, fun B' seg H' e F S' => ⟨rfl, q B' seg x H' e ⟨cf, F, ok3_nil false, by simp, by simp⟩ S'⟩⟩)
  | true => exact x_orR (x_mkL hσ fun x dx h1 h2 ne => ⟨x, dx, B, R, rfl, cf, z_made S h1 h2 ne, fun B' seg H' e F S' => ⟨rfl, q B' seg x H' e ⟨cf, F, ok3_nil true, by simp, by simp⟩ S'⟩⟩)
theorem preS_snoc {T : FM.T3} {nw : Bool} {k : Nat} (h : k < T.length) : preS T nw (k + 1) = ⟨T.take k ++ [FM.par T k], [], ordB (T.take k ++ [FM.par T k]) nw⟩ := by
  have e : T.take (k + 1) = T.take k ++ [FM.par T k] := by
    rw [List.take_succ_eq_append_getElem h]
    unfold FM.par
    rw [List.getD_eq_getElem?_getD, List.getElem?_eq_getElem h]
    rfl
  unfold preS
  rw [e]
theorem pure_Forum_of {K : PySem.W.Frag} {E : XK} {H : Hp} {Q : VK} {vs : List V} (h : sp_Forum_of K vs H Q E) : t_Forum_of K E (DD Q) (L2.start ["cls", "thread", "found", "answers"] vs) H := by
  obtain ⟨a, nw, T, B, R, rfl, cf, S, ha, hT, hl, q⟩ := h
  show t_Forum_of K E (DD Q) [some (.ref (fcl K nw)), some (.ref a), none, none] H
  unfold t_Forum_of
  walk_at "z"
  refine isth_in (ha.l S) hT (by omega) fun H1 ex => ?_
  refine z_bl (z_iffalse ?_)
  have S1 := S.ext ex
  walk_at "z"
  refine or_mkL S1 cf rfl fun B1 seg x H2 e1 F S2 => ?_
  have ha2 : SqL K H2 a (T.map ov) := (ha.ext e1).up.l S2
  walk_at "z"
  have e0 : (⟨[], [], []⟩ : S3) = preS T nw 0 := by cases nw <;> rfl
  rw [e0] at F
  refine z_for_list (T.map ov) (fun k σ H' => ∃ o3 B' seg, σ = [some (.ref (fcl K nw)), some (.ref a), some (.ref x), o3] ∧ Ex B B' ∧ Fo K B' seg x nw (preS T nw k) ((List.range k).map (preS T nw)) ∧ Z H' B' (seg :: R)) ⟨_, B1, seg, rfl, e1, F, S2⟩ (fun i σ H' _ ⟨_, B', seg, _, e', _, S'⟩ => (ha.ext e').up.l S') ?_ ?_
  · rintro k y σ H' hx ⟨_, B', seg', rfl, e', F', S'⟩
    have hk : k < T.length := by
      have := (List.getElem?_eq_some_iff.mp hx).1
      rwa [List.length_map] at this
    rw [ov_get hk] at hx
    cases hx
    have hpk : (preS T nw k).T.length = k := by
      show (T.take k).length = k
      rw [List.length_take]
      omega
    walk_at "z"
    refine or_meth S' (i := 0) rfl F' rfl (by decide +kernel) (by decide +kernel) (by decide +kernel) ?_
    walk_at "z"
    refine post_ok (o := FM.par T k) S' (i := 0) rfl F' (by simp; omega) (fun j hj => by rw [hpk]; exact FM.par_lt hT hj) (by omega) fun B2 seg2 H3 e2 F2 Sx => ?_
    refine ⟨_, B2, seg2, rfl, e'.trans e2, ?_, Sx⟩
    have e3 : (⟨(preS T nw k).T ++ [FM.par T k], (preS T nw k).F, ordB ((preS T nw k).T ++ [FM.par T k]) nw⟩ : S3) = preS T nw (k + 1) := (preS_snoc hk).symm
    rw [e3] at F2
    rw [List.range_succ, List.map_append]
    exact F2
  · rintro σ H' ⟨_, B', seg', rfl, e', F', S'⟩
    rw [List.length_map] at F'
    have e3 : preS T nw T.length = ⟨T, [], ordB T nw⟩ := by
      unfold preS
      rw [List.take_length]
    rw [e3] at F'
    walk_at "z"
    exact q B' seg' x H' e' F' S'
/-! ### the law's deeds -/
theorem pure__law_told {K : PySem.W.Frag} {E : XK} {H : Hp} {Q : VK} {vs : List V} (h : sp__law_told K vs H Q E) : t__law_told K E (DD Q) (L2.start ["_law_state", "_law_deed_here"] vs) H := by
  obtain ⟨s, dd, T, G, de, rfl, ⟨a, b, h1, h2, h3⟩, hd, q⟩ := h
  show t__law_told K E (DD Q) [some (.ref s), some (.ref dd)] H
  unfold t__law_told
  walk_at "z"
  refine x_ixT hd (at0 rfl) ?_
  walk_at "z"
  cases de with
  | post o =>
    refine z_ite (fun _ => ?_) (fun z => absurd rfl z)
    walk_at "z"
    refine x_ixT h1 (at0 rfl) ?_
    refine x_lenL (sq_l h2) ?_
    rw [List.length_map]
    exact q
  | fold c =>
    refine z_ite (fun z => absurd z (by show ¬ ("fold" : Str) = "post"; decide +kernel)) (fun _ => ?_)
    walk_at "z"
    exact q
  | unfold c =>
    refine z_ite (fun z => absurd z (by show ¬ ("unfold" : Str) = "post"; decide +kernel)) (fun _ => ?_)
    walk_at "z"
    exact q
theorem pure__law_done {K : PySem.W.Frag} {E : XK} {H : Hp} {Q : VK} {vs : List V} (h : sp__law_done K vs H Q E) : t__law_done K E (DD Q) (L2.start ["_law_forum", "_law_deed_here", "_law_is_named"] vs) H := by
  obtain ⟨p, dd, b, B, R, i, seg, nw, cur, past, de, rfl, S, hi, F, hpl, hd, hok, q⟩ := h
  show t__law_done K E (DD Q) [some (.ref p), some (.ref dd), some (.bl b)] H
  unfold t__law_done
  walk_at "z"
  refine x_ixT (S.t hd) (at0 rfl) ?_
  walk_at "z"
  cases de with
  | post o =>
    refine z_ite (fun _ => ?_) (fun z => absurd rfl z)
    walk_at "z"
    refine z_iteB (fun _ => ?_) (fun _ => ?_)
    · refine or_methK S hi F rfl (by decide +kernel) (by decide +kernel) (by decide +kernel) ?_
      walk_at "z"
      refine x_ixT (S.t hd) (at1 rfl) ?_
      walk_at "z"
      exact ⟨rfl, post_ok S hi F hpl hok.1 hok.2 q⟩
    · refine or_meth S hi F rfl (by decide +kernel) (by decide +kernel) (by decide +kernel) ?_
      walk_at "z"
      refine x_ixT (S.t hd) (at1 rfl) ?_
      walk_at "z"
      exact post_ok S hi F hpl hok.1 hok.2 q
  | fold c =>
    refine z_ite (fun z => absurd z (by show ¬ ("fold" : Str) = "post"; decide +kernel)) (fun _ => ?_)
    walk_at "z"
    refine x_ixT (S.t hd) (at0 rfl) ?_
    walk_at "z"
    refine z_ite (fun _ => ?_) (fun z => absurd rfl z)
    walk_at "z"
    refine z_iteB (fun _ => ?_) (fun _ => ?_)
    · refine or_methK S hi F rfl (by decide +kernel) (by decide +kernel) (by decide +kernel) ?_
      walk_at "z"
      refine x_ixT (S.t hd) (at1 rfl) ?_
      walk_at "z"
      exact ⟨rfl, fold_ok S hi F hpl hok q⟩
    · refine or_meth S hi F rfl (by decide +kernel) (by decide +kernel) (by decide +kernel) ?_
      walk_at "z"
      refine x_ixT (S.t hd) (at1 rfl) ?_
      walk_at "z"
      exact fold_ok S hi F hpl hok q
  | unfold c =>
    refine z_ite (fun z => absurd z (by show ¬ ("unfold" : Str) = "post"; decide +kernel)) (fun _ => ?_)
    walk_at "z"
    refine x_ixT (S.t hd) (at0 rfl) ?_
    walk_at "z"
    refine z_ite (fun z => absurd z (by show ¬ ("unfold" : Str) = "fold"; decide +kernel)) (fun _ => ?_)
    walk_at "z"
    refine z_iteB (fun _ => ?_) (fun _ => ?_)
    · refine or_methK S hi F rfl (by decide +kernel) (by decide +kernel) (by decide +kernel) ?_
      walk_at "z"
      refine x_ixT (S.t hd) (at1 rfl) ?_
      walk_at "z"
      exact ⟨rfl, unfold_ok S hi F hpl hok.1 hok.2 q⟩
    · refine or_meth S hi F rfl (by decide +kernel) (by decide +kernel) (by decide +kernel) ?_
      walk_at "z"
      refine x_ixT (S.t hd) (at1 rfl) ?_
      walk_at "z"
      exact unfold_ok S hi F hpl hok.1 hok.2 q
theorem nodup_len : ∀ (n : Nat) (l : List Nat), l.Nodup → (∀ x ∈ l, x < n) → l.length ≤ n
  | 0, l, _, h => by
    cases l with
    | nil => exact Nat.le_refl _
    | cons x l => exact absurd (h x List.mem_cons_self) (by omega)
  | n + 1, l, hn, h => by
    have h2 := nodup_len n (l.erase n) (hn.erase n) fun x hx => by
      have h3 := (List.Nodup.mem_erase_iff hn).mp hx
      have := h x h3.2
      have := h3.1
      omega
    by_cases hm : n ∈ l
    · have := List.length_erase_of_mem hm
      omega
    · rw [List.erase_of_not_mem hm] at h2
      omega
theorem nV_one (c : Nat) : [V.int (c : Int)] = nV [c] := rfl
theorem pure__law_deed {K : PySem.W.Frag} {E : XK} {H : Hp} {Q : VK} {vs : List V} (h : sp__law_deed K vs H Q E) : t__law_deed K E (DD Q) (L2.start ["_law_deck_here", "_law_state", "_law_style", "_law_some", "_law_hidden_by", "_law_way", "_law_parent_here", "_law_one", "_law_other"] vs) H := by
  obtain ⟨d, s, n, style, B, R, i, seg, T, G, rfl, D, S, hi, hn, hst, ⟨a, b, h1, h2, h3⟩, L, q⟩ := h
  show t__law_deed K E (DD Q) [some (.ref d), some (.ref s), some (.int (style : Int)), none, none, none, none, none, none] H
  have hl := L.len
  have hGl : G.length ≤ 40 := Nat.le_trans (nodup_len _ _ L.nd L.lt) hl
  unfold t__law_deed
  walk_at "z"
  refine ⟨d, n, 6, B, R, i, seg, rfl, D, S, hi, by omega, by decide, by decide, fun w seg1 H1 hw0 hw1 D1 S1 => ?_⟩
  have hi1 : (R.set i seg1)[i]? = some seg1 := set_at hi
  walk_at "zi"
  refine x_ifs ?_
  refine split_t (fun c H' => (c = true → T.length < 40) ∧ (c = false → T ≠ []) ∧ Z H' B (R.set i seg1)) (fun Q' k => ?_) (fun c H2 ⟨k1, k2, S2⟩ => ?_)
  · walk_at "z"
    intro e1 H2 S2
    refine eq_ov (l := T) (m := []) (sq_l (S2.base _ _ h2)) (sq_l (S2.at_ 0 0 rfl rfl)) ?_
    refine z_bl (z_ite (fun z => ?_) (fun z => ?_))
    · exact k true H2 ⟨fun _ => by rw [z]; decide, fun z => (nomatch z), S2.tail⟩
    · walk_at "z"
      refine z_ite (fun z1 => ?_) (fun z1 => ?_)
      · walk_at "z"
        refine x_lenL (sq_l (S2.base _ _ h2)) ?_
        rw [List.length_map]
        walk_at "z"
        exact k _ H2 ⟨fun e => by have := of_decide_eq_true e; omega, fun _ => z, S2.tail⟩
      · exact k false H2 ⟨fun e => (nomatch e), fun _ => z, S2.tail⟩
  · cases c with
    | true =>
      have hlt := k1 rfl
      refine z_iftrue ?_
      walk_at "z"
      refine x_lenL (sq_l (S2.base _ _ h2)) ?_
      rw [List.length_map]
      walk_at "z"
      refine ⟨d, n + 1, T.length, style, B, _, i, seg1, rfl, D1, S2, hi1, by omega, by omega, hst, fun o seg2 H3 ho D2 S3 => ?_⟩
      walk_at "z"
      intro t1 H4 S4
      walk_at "z"
      intro l1 H5 S5
      refine z_cat S5 (S5.base _ _ h2) (S5.at_ 0 0 rfl rfl) (by rw [List.length_map, sz]; simp; omega) fun l2 H6 S6 => ?_
      have e : T.map ov ++ [ov o] = (T ++ [o]).map ov := by simp
      rw [e] at S6
      walk_at "z"
      intro t2 H7 S7
      walk_at "z"
      intro t3 H8 S8
      rw [List.set_set] at S8
      obtain ⟨B1, x1, b1, S9⟩ := S8.frz 0 rfl
      obtain ⟨B2, x2, b2, S10⟩ := S9.frz 0 rfl
      obtain ⟨B3, x3, b3, S11⟩ := S10.frz 0 rfl
      obtain ⟨B4, x4, b4, S12⟩ := S11.tail.frz 0 rfl
      refine q t3 t1 t2 (.post o) (n + 1 + 1) seg2 B4 H8 (((x1.trans x2).trans x3).trans x4) (by omega) D2 ⟨ho, hlt⟩ (sq_t (x4 _ _ (x3 _ _ (x2 _ _ b1)))) (sq_t b4) ⟨l2, b, sq_t (x4 _ _ (x3 _ _ b2)), x4 _ _ b3, (((x1.trans x2).trans x3).trans x4) _ _ h3⟩ S12
    | false =>
      have hne := k2 rfl
      have hpos : 0 < T.length := List.length_pos_iff.mpr hne
      refine z_iffalse ?_
      walk_at "z"
      refine x_lenL (sq_l (S2.base _ _ h2)) ?_
      rw [List.length_map]
      walk_at "z"
      refine ⟨d, n + 1, T.length, B, _, i, seg1, rfl, D1, S2, hi1, by omega, by omega, by omega, fun x seg2 H3 hx0 hx1 D2 S3 => ?_⟩
      rw [List.set_set] at S3
      have hi2 : (R.set i seg2)[i]? = some seg2 := set_at hi
      obtain ⟨c, rfl⟩ : ∃ c : Nat, x = (c : Int) := ⟨x.toNat, by omega⟩
      have hc : c < T.length := by omega
      walk_at "zi"
      refine x_ifs ?_
      refine split_t (fun b H' => (b = true → G ≠ []) ∧ Z H' B (R.set i seg2)) (fun Q' k => ?_) (fun b' H4 ⟨k3, S4⟩ => ?_)
      · walk_at "z"
        refine z_ite (fun z => ?_) (fun z => ?_)
        · walk_at "z"
          intro e1 H4 S4
          refine neq_nV (l := G) (m := []) (sq_l (S4.base _ _ h3)) (sq_l (S4.at_ 0 0 rfl rfl)) ?_
          refine z_bl ?_
          exact k _ H4 ⟨fun e => by simpa using e, S4.tail⟩
        · exact k false H3 ⟨fun e => (nomatch e), S3⟩
      · cases b' with
        | true =>
          have hG := k3 rfl
          have hGp : 0 < G.length := List.length_pos_iff.mpr hG
          refine z_iftrue ?_
          walk_at "z"
          refine x_lenL (sq_l (S4.base _ _ h3)) ?_
          rw [nV_len]
          walk_at "z"
          refine ⟨d, n + 1 + 1, G.length, B, _, i, seg2, rfl, D2, S4, hi2, by omega, by omega, by omega, fun y seg3 H5 hy0 hy1 D3 S5 => ?_⟩
          rw [List.set_set] at S5
          obtain ⟨j, rfl⟩ : ∃ j : Nat, y = (j : Int) := ⟨y.toNat, by omega⟩
          have hj : j < G.length := by omega
          refine x_ixL (sq_l (S5.base _ _ h3)) (atI_nat (nV_at hj)) ?_
          walk_at "z"
          intro t1 H6 S6
          walk_at "z"
          have hbl : SqL K H6 b (nV G) := sq_l (S6.base _ _ h3)
          walk_at "z"
          refine z_lcL S6 (nV G) (fun k => nV (rmF (G.take k) G[j])) rfl (fun H' S' => sq_l (S'.base _ _ h3)) (fun k x D H4 hx S4 => ?_) (fun D H7 S7 => ?_)
          · have hk : k < G.length := by
              have := (List.getElem?_eq_some_iff.mp hx).1
              rwa [nV_len] at this
            rw [nV_at hk] at hx
            cases hx
            walk_at "z"
            have e : rmF (G.take (k + 1)) G[j] = if (!decide (G[k] = G[j])) = true then rmF (G.take k) G[j] ++ [G[k]] else rmF (G.take k) G[j] := by
              rw [take_snoc hk]
              exact filter_snoc _ _ _
            rw [e]
            have ed : decide (((G[k] : Nat) : Int) = ((G[j] : Nat) : Int)) = decide (G[k] = G[j]) := decide_eq_decide.mpr (by omega)
            rw [ed]
            refine z_iteNB (fun z => ?_) (fun z => ?_)
            · rw [z]
              walk_at "z"
              have hle : (rmF (G.take k) G[j]).length ≤ 1000 := by
                refine Nat.le_trans (List.length_filter_le _ _) ?_
                rw [List.length_take]
                omega
              exact z_app (N := []) S4 (by rw [nV_len, sz]; omega) (by simp [nV])
            · rw [z]
              exact S4
          · rw [nV_len, List.take_length] at S7
            walk_at "z"
            intro t2 H8 S8
            walk_at "z"
            intro t3 H9 S9
            obtain ⟨B1, x1, b1, S10⟩ := S9.frz 0 rfl
            obtain ⟨B2, x2, b2, S11⟩ := S10.frz 0 rfl
            obtain ⟨B3, x3, b3, S12⟩ := S11.frz 0 rfl
            obtain ⟨B4, x4, b4, S13⟩ := S12.frz 0 rfl
            refine q t3 t1 t2 (.unfold G[j]) (n + 1 + 1 + 1) seg3 B4 H9 (((x1.trans x2).trans x3).trans x4) (by omega) D3 ⟨L.lt _ (List.getElem_mem hj), List.getElem_mem hj⟩ (sq_t (x4 _ _ (x3 _ _ (x2 _ _ b1)))) (sq_t b4) ⟨a, D, sq_t (x4 _ _ (x3 _ _ b2)), (((x1.trans x2).trans x3).trans x4) _ _ h2, x4 _ _ b3⟩ S13
        | false =>
          refine z_iffalse ?_
          walk_at "z"
          intro t1 H5 S5
          walk_at "z"
          intro l1 H6 S6
          walk_at "z"
          refine .inl ⟨b, nV G, rfl, .inl (sq_l (S6.base _ _ h3)), rfl, flat_nV _, ?_⟩
          rw [if_pos rfl, inV_int]
          walk_at "z"
          have fin : ∀ (m : Nat), (m = if G.contains c = true then 0 else 1) → ∀ l2 H7, Z H7 B ([(l2, .lst (List.replicate m [V.int (c : Int)]).flatten)] :: [(l1, .lst [V.int (c : Int)])] :: [(t1, .tup [.str "fold", .int (c : Int)])] :: R.set i seg2) →
              qAdd K (.ref b) (.ref l2) H7 fun x H8 => tNil ([some (.ref d), some (.ref s), some (.int (style : Int)), some (.ref a), some (.ref b), some (.int w), none, some (.int (c : Int)), none] : L2.St) H8 fun xs H9 => mTup (.ref a :: x :: xs) H9 fun x H10 => tNil ([some (.ref d), some (.ref s), some (.int (style : Int)), some (.ref a), some (.ref b), some (.int w), none, some (.int (c : Int)), none] : L2.St) H10 fun xs H11 => mTup (.ref t1 :: x :: xs) H11 Q := by
            intro m hm l2 H7 S7
            refine z_cat S7 (S7.base _ _ h3) (S7.at_ 0 0 rfl rfl) ?_ fun l3 H8 S8 => ?_
            · rw [nV_len, sz]
              have : (List.replicate m [V.int (c : Int)]).flatten.length ≤ 1 := by
                rw [hm]
                split <;> simp
              omega
            have e : nV G ++ (List.replicate m [V.int (c : Int)]).flatten = nV ((Deed.fold c).G G) := by
              show _ = nV (if G.contains c = true then G else G ++ [c])
              rw [hm]
              split <;> simp [nV]
            rw [e] at S8
            walk_at "z"
            intro t2 H9 S9
            walk_at "z"
            intro t3 H10 S10
            obtain ⟨B1, x1, b1, S11⟩ := S10.frz 0 rfl
            obtain ⟨B2, x2, b2, S12⟩ := S11.frz 0 rfl
            obtain ⟨B3, x3, b3, S13⟩ := S12.frz 0 rfl
            obtain ⟨B4, x4, b4, S14⟩ := S13.tail.tail.frz 0 rfl
            exact q t3 t1 t2 (.fold c) (n + 1 + 1) seg2 B4 H10 (((x1.trans x2).trans x3).trans x4) (by omega) D2 hc (sq_t (x4 _ _ (x3 _ _ (x2 _ _ b1)))) (sq_t b4) ⟨a, l3, sq_t (x4 _ _ (x3 _ _ b2)), (((x1.trans x2).trans x3).trans x4) _ _ h2, x4 _ _ b3⟩ S14
          cases hcon : G.contains c with
          | true =>
            refine z_rep S6 (S6.at_ 0 0 rfl rfl) (by decide) (by decide) (by simp) fun l2 H7 S7 => ?_
            exact fin 0 (by rw [hcon]; rfl) l2 H7 S7
          | false =>
            refine z_rep S6 (S6.at_ 0 0 rfl rfl) (by decide) (by decide) (by rw [sz]; simp) fun l2 H7 S7 => ?_
            exact fin 1 (by rw [hcon]; rfl) l2 H7 S7
theorem Deed.okF {T : FM.T3} {G F : List Nat} (h : ∀ c, c ∈ G ↔ c ∈ F) {de : Deed} (hk : de.ok T G) : de.ok T F := by
  cases de with
  | post o => exact hk
  | fold c => exact hk
  | unfold c => exact ⟨hk.1, (h c).mp hk.2⟩
theorem Deed.same {G F : List Nat} (h : ∀ c, c ∈ G ↔ c ∈ F) (de : Deed) : ∀ c, c ∈ de.G G ↔ c ∈ de.F F := by
  cases de with
  | post o => exact h
  | fold d =>
    intro c
    show c ∈ (if G.contains d = true then G else G ++ [d]) ↔ c ∈ addF F d
    rw [mem_addF, ← h c]
    split
    · rename_i z
      have := List.contains_iff_mem.mp z
      exact ⟨.inr, fun z => z.elim (fun e => by rw [e]; exact this) id⟩
    · rw [List.mem_append, List.mem_singleton]
      exact ⟨fun z => z.symm, fun z => z.symm⟩
  | unfold d =>
    intro c
    show c ∈ rmF G d ↔ c ∈ rmF F d
    rw [mem_rmF, mem_rmF, h c]
theorem Deed.lok {T : FM.T3} {G : List Nat} (L : LOk T G) {de : Deed} (hk : de.ok T G) : LOk (de.T T) (de.G G) := by
  cases de with
  | post o => exact ⟨th_snoc L.th hk.1, by have := hk.2; show (T ++ [o]).length ≤ 40; rw [List.length_append, List.length_singleton]; omega, L.nd, fun c hc => by have := L.lt c hc; show c < (T ++ [o]).length; rw [List.length_append, List.length_singleton]; omega⟩
  | fold d =>
    have hd : d < T.length := hk
    refine ⟨L.th, L.len, ?_, ?_⟩
    · show (if G.contains d = true then G else G ++ [d]).Nodup
      split
      · exact L.nd
      · rename_i z
        refine List.nodup_append.mpr ⟨L.nd, by simp, fun a ha b hb e => z ?_⟩
        rw [List.mem_singleton.mp hb] at e
        rw [← e]
        exact List.contains_iff_mem.mpr ha
    · intro c hc
      have hc2 : c ∈ (if G.contains d = true then G else G ++ [d]) := hc
      split at hc2
      · exact L.lt c hc2
      · rcases List.mem_append.mp hc2 with z | z
        · exact L.lt c z
        · rw [List.mem_singleton.mp z]; exact hd
  | unfold d => exact ⟨L.th, L.len, L.nd.sublist List.filter_sublist, fun c hc => L.lt c (mem_rmF.mp hc).1⟩
theorem Deed.dl {K : PySem.W.Frag} {H : Hp} {n : Nat} (T : FM.T3) (de : Deed) : Dl K H n (de.res T) (de.res T) := by
  cases de with
  | post o => exact .int n _
  | fold c => exact .non n
  | unfold c => exact .non n
end FT

/-! FTX: calls of methods whose errors are caught; except clauses of own classes. -/
namespace FT
open PySem PySem.Spec PyProof.Rows L2
section
variable {X : Cx} {k j : Nat} {x m : Str} {ps ks : List Str} {sp : Sp} {o e : Expr} {es : List Expr} {ta : TE} {t tk : TA} {apos pos : Pos} {pl : Sem Bool} {W : WX} {dvs : List V} {kws : List Keyword}
/-- o.m(e, ..), what is raised is wished for by W -/
def tMethS (C : Addr) (m : Str) (sp : Sp) (dvs : List V) (W : WX) (ta : TE) (t : TA) : TE := fun σ H Q => ta σ H fun x H1 => ∃ a dx fs, x = .ref a ∧ H1 a = some (.ins C dx fs) ∧ fs.lookup m = none ∧ t σ H1 fun vs H2 => sp (x :: (vs ++ dvs)) H2 Q (WE W σ)
theorem pe_gmS (tk : Takes X W) (G : Gm X.prog X.w X.K X.mg X.base k x m ps sp) (hr : Room j X.A) (ho : PE X o ta) (ha : PA X (e :: es) t) (hk : k ≤ j := by decide)
    (hst : starEach (e :: es) X.env = (false, eval e X.env) :: starEach es X.env := by rfl) (hpl : (backTo pos (starEach es X.env)).any (·.1) = false := by rfl)
    (ht : eval (.Call (.Attribute o m apos) (e :: es) [] pos) X.env = (do
      let ov ← eval o X.env
      standAt apos.atName
      let (f, first) ← holding [ov] (getMethod ov m pl)
      callWith pos f first (backTo pos (starEach (e :: es) X.env)) (backToKw pos (keywordEach [] X.env))) := by rfl) :
    PE X (.Call (.Attribute o m apos) (e :: es) [] pos) (tMethS (He.ga X.K x) m sp [] W ta t) := by
  obtain ⟨fd, F, b⟩ := G.ex
  refine ⟨fun pins s σ H Q I h => ?_⟩
  refine PySem.W.methodCall_KW (pl := pl) (thn (ho.run pins s σ H _ I h) fun u s1 ⟨x, H1, I1, rx, a, dx, fs, ex, ea, l, q⟩ => ?_) ht
  subst ex
  obtain rfl : u = Value.ref a := rx
  refine getmeth_ok I1 ea G.cl G.me l ?_
  refine PySem.W.callWith_K (first := [.ref a]) (h₀ := X.base) I1.ok.mod.kin G.me.kp (thn (ha.run pos pins s1 σ H1 _ I1 q) fun us s2 ⟨vs, H2, I2, r, q2⟩ => ⟨I2.kIn, ?_⟩) hst hpl
  exact run_fnSD (E := fun σ => WE W σ) (us := .ref a :: us) (vs := .ref a :: vs) F (hr.mono hk) b .nil (passAt tk σ) I2 (.cons rfl r) q2
theorem pe_gm0S (tk : Takes X W) (G : Gm X.prog X.w X.K X.mg X.base k x m ps sp) (hr : Room j X.A) (ho : PE X o ta) (hk : k ≤ j := by decide)
    (ht : eval (.Call (.Attribute o m apos) [] [] pos) X.env = (do
      let ov ← eval o X.env
      standAt apos.atName
      let (f, first) ← holding [ov] (getMethod ov m pl)
      callWith pos f first (backTo pos (starEach [] X.env)) (backToKw pos (keywordEach [] X.env))) := by rfl) :
    PE X (.Call (.Attribute o m apos) [] [] pos) (tMethS (He.ga X.K x) m sp [] W ta tNil) := by
  obtain ⟨fd, F, b⟩ := G.ex
  refine ⟨fun pins s σ H Q I h => ?_⟩
  refine PySem.W.methodCall_KW (pl := pl) (thn (ho.run pins s σ H _ I h) fun u s1 ⟨x, H1, I1, rx, a, dx, fs, ex, ea, l, q⟩ => ?_) ht
  subst ex
  obtain rfl : u = Value.ref a := rx
  refine getmeth_ok I1 ea G.cl G.me l ?_
  refine PySem.W.callWith_K0 I1.kIn G.me.kp ?_
  exact run_fnSD (E := fun σ => WE W σ) (us := [.ref a]) (vs := [.ref a]) F (hr.mono hk) b .nil (passAt tk σ) I1 (.cons rfl .nil) q
/-- o.m(k = e, ..) -/
def tMethKS (C : Addr) (m : Str) (sp : Sp) (n : Nat) (W : WX) (ta : TE) (tk : TA) : TE := fun σ H Q => ta σ H fun x H1 => ∃ a dx fs, x = .ref a ∧ H1 a = some (.ins C dx fs) ∧ fs.lookup m = none ∧ tk σ H1 fun zs H2 => zs.length = n ∧ sp (x :: zs) H2 Q (WE W σ)
theorem run_kbnS {pins : List (Addr × Obj)} {σ : L2.St} {H : Hp} {s : Shared} {Q : VK} {us ws : List Value} {vs zs : List V} {E : L2.St → XK} {CX : CXT} {k n : Nat} {f : Addr} {fd : FuncData} {ks : List Str} (F : FnOk X.prog X.w X.K X.mg X.base CX k f fd ps sp) (hr : Room k X.A) (hb : KBn X.K fd ps n ks (fun us ws => us ++ ws) (fun vs zs => vs ++ zs)) (hx : PassesAt CX X σ (E σ))
    (I : Inv X pins σ H s) (r : Vals vs us) (rz : Vals zs ws) (h1 : us.length = n) (h2 : ws.length = ks.length) (h : sp (vs ++ zs) H Q (E σ)) : wpAny (model X.prog X.w) X.A (call (.ref f) us (ks.zip ws)) (EP X pins σ Q) X.xe s := by
  have r2 := hb.rel r rz
  refine wpAny_call (codeAny_mono (F.run X.A X.stack s H ⟨us, ks.zip ws⟩ (us ++ ws) (vs ++ zs) Q (E σ) hr I.env0 (hb.to s us ws I.kIn h1 h2) r2 h) fun r s' hq => ?_)
  cases r with
  | error e => exact hx pins H s e s' I hq
  | ok fl =>
    cases fl with
    | ret u => exact I.after hq
    | next => exact False.elim hq
    | brk => exact False.elim hq
    | cont => exact False.elim hq
theorem pe_gmKS {n : Nat} (tkx : Takes X W) (G : Gmk X.prog X.w X.K X.mg X.base k x m ps ks sp) (hr : Room j X.A) (ho : PE X o ta) (hkw : PK X kws tk) (hn : ks.length = n := by rfl) (hk : k ≤ j := by decide) (hall : (backToKw pos (keywordEach kws X.env)).all (·.1.isSome) = true := by rfl)
    (hks : (backToKw pos (keywordEach kws X.env)).filterMap (·.1) = ks := by rfl) (hpl : ((backTo pos (starEach [] X.env)).any (·.1) || (backToKw pos (keywordEach kws X.env)).any (·.1.isNone)) = false := by rfl)
    (ht : eval (.Call (.Attribute o m apos) [] kws pos) X.env = (do
      let ov ← eval o X.env
      standAt apos.atName
      let (f, first) ← holding [ov] (getMethod ov m pl)
      callWith pos f first (backTo pos (starEach [] X.env)) (backToKw pos (keywordEach kws X.env))) := by rfl) :
    PE X (.Call (.Attribute o m apos) [] kws pos) (tMethKS (He.ga X.K x) m sp n W ta tk) := by
  subst hn
  obtain ⟨fd, F, b⟩ := G.ex
  refine ⟨fun pins s σ H Q I h => ?_⟩
  refine PySem.W.methodCall_KW (pl := pl) (thn (ho.run pins s σ H _ I h) fun u s1 ⟨x, H1, I1, rx, a, dx, fs, ex, ea, l, q⟩ => ?_) ht
  subst ex
  obtain rfl : u = Value.ref a := rx
  refine getmeth_ok I1 ea G.cl G.me l ?_
  refine PySem.W.callWith_KW0 (h₀ := X.base) (first := [.ref a]) I1.ok.mod.kin G.me.kp hall (thn (hkw.run pos pins s1 σ H1 _ I1 q) fun ws s2 ⟨zs, H2, I2, rz, hlen, q2⟩ => ⟨I2.kIn, ?_⟩) hpl
  rw [hks]
  exact run_kbnS (E := fun σ => WE W σ) (us := [Value.ref a]) (vs := [V.ref a]) F (hr.mono hk) b (passAt tkx σ) I2 (.cons (show RelV (.ref a) (.ref a) from rfl) .nil) rz rfl (rz.length.symm.trans hlen) q2
/-! ### isinstance(e, T) of a caught error -/
/-- return isinstance(e, T), the slot i is e -/
def tRetIsE (K : PySem.W.Frag) (i : Nat) (cv : Value) (a : Addr) (cls : Value) (d : Option Addr) : TS := fun D σ H => ∃ D0 b, cls = .ref D0 ∧ d = none ∧ σ[i]? = some (some (.ref a)) ∧ ExcC K D0 ∧ PySem.W.kitOne K (.ref D0) cv = some b ∧ D.rt (.bl b) H
theorem pss_isE {i : Nat} {n : Str} {T : String} {a : Addr} {oe : Obj} {cls : Value} {d : Option Addr} {pn : List (Addr × Obj)} {c : Str} {p1 p2 p3 p4 p5 : Pos} (hz : Zc cls d oe) (hf : ∃ vs, oe.data = .fields vs) (hg : Gl (X.suite a ((a, oe) :: pn)) "isinstance") (hm : X.mg "isinstance" = none)
    (hv : PE (X.suite a ((a, oe) :: pn)) (.Name n p2) (tVar i)) (hT : PE (X.suite a ((a, oe) :: pn)) (.Name c p3) (tC (.ty T)))
    (h1 : starEach [.Name n p2, .Name c p3] (X.suite a ((a, oe) :: pn)).env = (false, eval (.Name n p2) (X.suite a ((a, oe) :: pn)).env) :: starEach [.Name c p3] (X.suite a ((a, oe) :: pn)).env := by rfl) (h2 : (backTo p4 (starEach [.Name c p3] (X.suite a ((a, oe) :: pn)).env)).any (·.1) = false := by rfl)
    (h3 : starEach [.Name c p3] (X.suite a ((a, oe) :: pn)).env = (false, eval (.Name c p3) (X.suite a ((a, oe) :: pn)).env) :: starEach [] (X.suite a ((a, oe) :: pn)).env := by rfl) :
    PSs (X.suite a ((a, oe) :: pn)) [.Return (some (.Call (.Name "isinstance" p1) [.Name n p2, .Name c p3] [] p4)) p5] (tRetIsE X.K i (.type T) a cls d) := by
  refine ⟨fun pins s σ H D I h => ?_⟩
  obtain ⟨D0, b, rfl, rfl, hσ, C, hk, q⟩ := h
  refine (pss_one (ps_ret (pe_callB (call_isE C hz hf) hg hm (by decide +kernel) (pa_cons hv (pa_cons hT pa_nil (hs := h3)) (hs := h1)) (he := h1) (hpl := h2)))).run pins s σ H D I ?_
  refine ⟨.ref a, hσ, ?_⟩
  exact ⟨.ty T, .type T, b, rfl, fun u r => r, hk, q⟩
end
/-- an own error class: it is caught by its own clause, it is a ValueError -/
structure ErrF (K : PySem.W.Frag) (x : Str) : Prop where
  own : PySem.W.exmOne K (.ref (He.ga K x)) (.ref (He.ga K x)) = some true
  isv : PySem.W.kitOne K (.ref (He.ga K x)) (.type "ValueError") = some true
  exc : ExcC K (He.ga K x)
def errB (K : PySem.W.Frag) (x : Str) : Bool := decide (PySem.W.exmOne K (.ref (He.ga K x)) (.ref (He.ga K x)) = some true) && (decide (PySem.W.kitOne K (.ref (He.ga K x)) (.type "ValueError") = some true) &&
  (He.eqO (PySem.W.findIn K (.ref (He.ga K x)) "__getattribute__") (some (some (.builtin "BaseException.__getattribute__"))) && (He.eqO (PySem.W.findIn K (.ref (He.ga K x)) "__getattr__") (some none) &&
  (decide (PySem.W.subIn K (.ref (He.ga K x)) (.type "BaseException") = some true) && (PySem.W.hasDictIn K (He.ga K x) && (He.eqO (PySem.W.findIn K (.ref (He.ga K x)) "__class__") (some (some (.builtin "object.__class__"))) &&
  (He.eqO (PySem.W.specialIn K (.builtin "object.__class__") "__get__") (some (some (.builtin "getset_descriptor.__get__"))) && (decide (PySem.W.takesIn K (.builtin "object.__class__") = some true) && decide (PySem.W.mroIn K (He.ga K x) (.type "object") = some true)))))))))
theorem errB_ok {K : PySem.W.Frag} {x : Str} (h : errB K x = true) : ErrF K x := by
  obtain ⟨h1, h⟩ := ba2 h
  obtain ⟨h2, h⟩ := ba2 h
  obtain ⟨h3, h⟩ := ba2 h
  obtain ⟨h4, h⟩ := ba2 h
  obtain ⟨h5, h⟩ := ba2 h
  obtain ⟨h6, h⟩ := ba2 h
  obtain ⟨h7, h⟩ := ba2 h
  obtain ⟨h8, h⟩ := ba2 h
  obtain ⟨h9, h10⟩ := ba2 h
  exact ⟨of_decide_eq_true h1, of_decide_eq_true h2, ⟨He.eqO_ok h3, He.eqO_ok h4, of_decide_eq_true h5, h6, He.eqO_ok h7, He.eqO_ok h8, of_decide_eq_true h9, of_decide_eq_true h10⟩⟩
end FT

namespace FT
open PySem PySem.Spec PyProof.Rows L2
/-! ### what was shown before each change -/
structure HistR (K : PySem.W.Frag) (B : Hp) (refs : List Addr) (ss : List S3) : Prop where
  len : refs.length = ss.length
  at_ : ∀ (i : Nat) (r : Addr) (s : S3), refs[i]? = some r → ss[i]? = some s → ∃ G, LSt K B r s.T G ∧ LOk s.T G ∧ ∀ c, c ∈ G ↔ c ∈ s.F
theorem HistR.ext {K : PySem.W.Frag} {B B' : Hp} {refs : List Addr} {ss : List S3} (e : Ex B B') (h : HistR K B refs ss) : HistR K B' refs ss :=
  ⟨h.len, fun i r s a b => let ⟨G, h1, h2⟩ := h.at_ i r s a b; ⟨G, h1.ext e, h2⟩⟩
theorem HistR.snoc {K : PySem.W.Frag} {B : Hp} {refs : List Addr} {ss : List S3} {r : Addr} {s : S3} {G : List Nat} (h : HistR K B refs ss) (h1 : LSt K B r s.T G) (h2 : LOk s.T G) (h3 : ∀ c, c ∈ G ↔ c ∈ s.F) : HistR K B (refs ++ [r]) (ss ++ [s]) := by
  refine ⟨by rw [List.length_append, List.length_append, h.len] <;> rfl, fun i r' s' a b => ?_⟩
  by_cases hi : i < refs.length
  · rw [List.getElem?_append_left hi] at a
    rw [List.getElem?_append_left (by rw [← h.len]; exact hi)] at b
    exact h.at_ i r' s' a b
  · rw [List.getElem?_append_right (by omega)] at a
    rw [List.getElem?_append_right (by rw [← h.len]; omega), ← h.len] at b
    cases hz : i - refs.length with
    | zero =>
      rw [hz] at a b
      cases a
      cases b
      exact ⟨G, h1, h2, h3⟩
    | succ k => rw [hz] at a; simp at a
theorem HistR.pop {K : PySem.W.Frag} {B : Hp} {refs : List Addr} {ss : List S3} {s : S3} (h : HistR K B refs (ss ++ [s])) : HistR K B refs.dropLast ss := by
  have hl := h.len
  rw [List.length_append, List.length_singleton] at hl
  refine ⟨by rw [List.length_dropLast]; omega, fun i r s' a b => ?_⟩
  have hi : i < ss.length := (List.getElem?_eq_some_iff.mp b).1
  refine h.at_ i r s' ?_ (by rw [List.getElem?_append_left hi]; exact b)
  rw [List.dropLast_eq_take, List.getElem?_take_of_lt (by omega)] at a
  exact a
theorem HistR.last {K : PySem.W.Frag} {B : Hp} {refs : List Addr} {ss : List S3} {s : S3} (h : HistR K B refs (ss ++ [s])) : ∃ r G, refs.getLast? = some r ∧ LSt K B r s.T G ∧ LOk s.T G ∧ ∀ c, c ∈ G ↔ c ∈ s.F := by
  have hl := h.len
  rw [List.length_append, List.length_singleton] at hl
  obtain ⟨r, hr⟩ : ∃ r, refs[ss.length]? = some r := ⟨_, List.getElem?_eq_getElem (by omega)⟩
  obtain ⟨G, h1, h2, h3⟩ := h.at_ ss.length r s hr (by rw [List.getElem?_append_right (Nat.le_refl _), Nat.sub_self] <;> rfl)
  refine ⟨r, G, ?_, h1, h2, h3⟩
  rw [List.getLast?_eq_getElem?, hl, Nat.add_sub_cancel]
  exact hr
def sp__law_nothing (K : PySem.W.Frag) : Sp := fun vs H Q _ => ∃ (p : Addr) (B : Hp) (R : List Seg) (i : Nat) (seg : Seg) (nw : Bool) (cur : S3), vs = [.ref p] ∧ Z H B R ∧ R[i]? = some seg ∧ Fo K B seg p nw cur [] ∧ ErrF K "NothingToUndo" ∧ ∀ H', Z H' B R → Q (.bl true) H'
/-- _law_back: the past list and the forum are the first pieces -/
def sp__law_back (K : PySem.W.Frag) : Sp := fun vs H Q _ => ∃ (p la : Addr) (B : Hp) (R : List Seg) (seg : Seg) (nw : Bool) (cur : S3) (past : List S3) (refs : List Addr), vs = [.ref p, .ref la, .bl nw] ∧ Z H B ([(la, .lst (refs.map .ref))] :: seg :: R) ∧ Fo K B seg p nw cur past ∧ HistR K B refs (past ++ [cur]) ∧ ErrF K "NothingToUndo" ∧
  ∀ H', Z H' B R → Q (.bl true) H'
end FT
namespace FT
open PySem PySem.Spec PyProof.Rows L2

/-- slots: _law_forum, e -/
def t__law_nothing (K : PySem.W.Frag) (E : XK) : TS :=
  (tSeq (fun D σ H => (fun (W : WX) => (tDrop (tOr2 (tMethS (He.ga K "Forum") "undo" (sp_Forum_undo K) [] W (tVar 0) tNil) (tMethS (He.ga K "NewestForum") "undo" (sp_Forum_undo K) [] W (tVar 0) tNil)))) (wAs K (.ref (He.ga K "NothingToUndo")) 1 (tRetIsE K 1 (.type "ValueError")) (wF E) D) D σ H)
  (tRet (tC (.bl false))))
/-- slots: _law_forum, _law_past, _law_is_newest -/
def t__law_back (K : PySem.W.Frag) (E : XK) : TS :=
  (tSeq (tWhile (tTest (tOp qGt (tCB (qLen K) (tCons (tVar 1) tNil)) (tC (.int 1)))) (tSeq (tDrop (tBM0 K "list" qPop (tVar 1)))
  (tIfS (tOr (tTest (tOp qIsNot (tOr2 (tMeth (He.ga K "Forum") "undo" (sp_Forum_undo K) [] E0 (tVar 0) tNil) (tMeth (He.ga K "NewestForum") "undo" (sp_Forum_undo K) [] E0 (tVar 0) tNil)) (tC .non))) (tNot (tB (tCall (sp__law_shows K) [] E0 (tCons (tVar 0) (tCons (tOp (qIx K) (tOp (qIx K) (tVar 1) (tUn (rU fun i => .int (-i)) (tC (.int 1)))) (tC (.int 0))) (tCons (tOp (qIx K) (tOp (qIx K) (tVar 1) (tUn (rU fun i => .int (-i)) (tC (.int 1)))) (tC (.int 1))) (tCons (tVar 2) tNil)))))))) (tRet (tC (.bl false))) tNext)))
  (tRet (tAndV (tCall (sp__law_nothing K) [] E0 (tCons (tVar 0) tNil)) (tCall (sp__law_shows K) [] E0 (tCons (tVar 0) (tCons (tOp (qIx K) (tOp (qIx K) (tVar 1) (tC (.int 0))) (tC (.int 0))) (tCons (tOp (qIx K) (tOp (qIx K) (tVar 1) (tC (.int 0))) (tC (.int 1))) (tCons (tVar 2) tNil))))))))
end FT
namespace FT
open PySem PySem.Spec PyProof.Rows L2
theorem or_methS {K : PySem.W.Frag} {H B : Hp} {Q : VK} {σ : L2.St} {R : List Seg} {i j : Nat} {seg : Seg} {p : Addr} {nw : Bool} {cur : S3} {past : List S3} {m : Str} {sp : Sp} {dvs : List V} {W : WX} {as : TA} (S : Z H B R) (hi : R[i]? = some seg) (F : Fo K B seg p nw cur past) (hσ : σ[j]? = some (some (.ref p))) (h1 : ¬ m = "class_name") (h2 : ¬ m = "state") (h3 : ¬ m = "past") (q : as σ H fun vs H2 => sp (.ref p :: (vs ++ dvs)) H2 Q (WE W σ)) :
    tOr2 (tMethS (He.ga K "Forum") m sp dvs W (tVar j) as) (tMethS (He.ga K "NewestForum") m sp dvs W (tVar j) as) σ H Q := by
  obtain ⟨dx, st, ps, hp⟩ := F.hp S hi
  cases nw with
  | false => exact x_orL (x_var hσ ⟨p, dx, _, rfl, hp, flds_no h1 h2 h3, q⟩)
  | true => exact x_orR (x_var hσ ⟨p, dx, _, rfl, hp, flds_no h1 h2 h3, q⟩)
theorem undo_ok {K : PySem.W.Frag} {H B : Hp} {R : List Seg} {i : Nat} {seg : Seg} {p : Addr} {nw : Bool} {cur s : S3} {ps : List S3} {Q : VK} (S : Z H B R) (hi : R[i]? = some seg) (F : Fo K B seg p nw cur (ps ++ [s]))
    (q : ∀ seg' H', Fo K B seg' p nw s ps → Z H' B (R.set i seg') → Q .non H') : sp_Forum_undo K [.ref p] H Q E0 := by
  refine ⟨p, B, R, i, seg, nw, cur, ps ++ [s], rfl, S, hi, F, fun e => by simp at e, fun ps' s' e seg' H' F' S' => ?_⟩
  obtain ⟨e1, e2⟩ := List.append_inj' e rfl
  cases e2
  subst e1
  exact q seg' H' F' S'
theorem z_popL {H B : Hp} {R : List Seg} {Q : VK} {p : Addr} {xs : List V} {y : V} {n : Nat} {q' : Seg} (S : Z H B R) (h : R[n]? = some ((p, .lst xs) :: q')) (hy : xs.getLast? = some y) (q : ∀ H', Z H' B (R.set n ((p, .lst xs.dropLast) :: q')) → Q y H') : qPop (.ref p) [] H Q :=
  .inl ⟨p, xs, y, rfl, rfl, S.at_ n 0 h rfl, by rw [← List.getLast?_eq_getElem?]; exact hy, q _ (S.set n h)⟩
theorem pure__law_nothing {K : PySem.W.Frag} {E : XK} {H : Hp} {Q : VK} {vs : List V} (h : sp__law_nothing K vs H Q E) : t__law_nothing K E (DD Q) (L2.start ["_law_forum", "e"] vs) H := by
  obtain ⟨p, B, R, i, seg, nw, cur, rfl, S, hi, F, ef, q⟩ := h
  show t__law_nothing K E (DD Q) [some (.ref p), none] H
  unfold t__law_nothing
  refine x_seq ?_
  refine x_drop ?_
  refine or_methS S hi F rfl (by decide +kernel) (by decide +kernel) (by decide +kernel) ?_
  walk_at "z"
  refine ⟨p, B, R, i, seg, nw, cur, [], rfl, S, hi, F, fun _ H' S' => ?_, fun ps s e => by simp at e⟩
  exact ⟨true, ef.own, fun _ a ha => ⟨He.ga K "NothingToUndo", true, rfl, rfl, rfl, ef.exc, ef.isv, q H' S'⟩, fun z => nomatch z⟩
theorem getLast_map {refs : List Addr} {r : Addr} (h : refs.getLast? = some r) : (refs.map V.ref).getLast? = some (.ref r) := by
  rw [List.getLast?_map, h] <;> rfl
theorem pure__law_back {K : PySem.W.Frag} {E : XK} {H : Hp} {Q : VK} {vs : List V} (h : sp__law_back K vs H Q E) : t__law_back K E (DD Q) (L2.start ["_law_forum", "_law_past", "_law_is_newest"] vs) H := by
  obtain ⟨p, la, B, R, seg, nw, cur, past, refs, rfl, S, F, hh, ef, q⟩ := h
  show t__law_back K E (DD Q) [some (.ref p), some (.ref la), some (.bl nw)] H
  unfold t__law_back
  refine x_seq ?_
  refine z_while (fun m σ H' => ∃ (seg : Seg) (cur : S3) (past : List S3) (refs : List Addr), σ = [some (.ref p), some (.ref la), some (.bl nw)] ∧ m = past.length ∧ Z H' B ([(la, .lst (refs.map .ref))] :: seg :: R) ∧ Fo K B seg p nw cur past ∧ HistR K B refs (past ++ [cur])) past.length ⟨seg, cur, past, refs, rfl, rfl, S, F, hh⟩ ?_
  clear S F hh
  rintro m σ H1 ⟨seg, cur, past, refs, rfl, rfl, S, F, hh⟩
  have hl := hh.len
  rw [List.length_append, List.length_singleton] at hl
  walk_at "z"
  rw [List.length_map, hl]
  rcases List.eq_nil_or_concat past with e | ⟨ps, s, e⟩
  · subst e
    refine z_wF ?_
    obtain ⟨r, G, hr, ⟨a, b, h1, h2, h3⟩, Lo, hG⟩ := HistR.last (ss := []) hh
    have hr0 : (refs.map V.ref)[0]? = some (.ref r) := by
      have h2 := getLast_map hr
      rw [List.getLast?_eq_getElem?, List.length_map, hl] at h2
      exact h2
    walk_at "z"
    refine ⟨p, B, _, 1, seg, nw, cur, rfl, S, rfl, F, ef, fun H2 S2 => ?_⟩
    refine z_blE (z_iftrue ?_)
    walk_at "z"
    refine x_ixL (sq_l (S2.at_ 0 0 rfl rfl)) (at0 hr0) ?_
    walk_at "z"
    refine x_ixT (S2.t h1) (at0 rfl) ?_
    walk_at "z"
    refine x_ixL (sq_l (S2.at_ 0 0 rfl rfl)) (at0 hr0) ?_
    walk_at "z"
    refine x_ixT (S2.t h1) (at1 rfl) ?_
    walk_at "z"
    exact ⟨p, a, b, B, _, 1, seg, nw, cur, [], G, rfl, S2, rfl, F, Lo.nd, hG, .inl (sq_l h2), .inl (sq_l h3), fun H3 S3 => q H3 S3.tail.tail⟩
  · rw [List.concat_eq_append] at e
    subst e
    obtain ⟨r0, _, hr0, _⟩ := hh.last
    have hp := hh.pop
    obtain ⟨r, G, hr, ⟨a, b, h1, h2, h3⟩, Lo, hG⟩ := hp.last
    have ed : decide ((1 : Int) < (((ps ++ [s]).length + 1 : Nat) : Int)) = true := by
      rw [List.length_append, List.length_singleton]
      exact decide_eq_true (by omega)
    rw [ed]
    refine z_wT ?_
    walk_at "z"
    refine z_popL (n := 0) S rfl (getLast_map hr0) fun H2 S2 => ?_
    have S2 : Z H2 B ([(la, .lst (refs.dropLast.map .ref))] :: seg :: R) := by
      rw [← List.map_dropLast] at S2
      exact S2
    walk_at "z"
    refine or_meth S2 (i := 1) rfl F rfl (by decide +kernel) (by decide +kernel) (by decide +kernel) ?_
    walk_at "z"
    refine undo_ok S2 (i := 1) rfl F fun seg' H3 F' S3 => ?_
    have S3 : Z H3 B ([(la, .lst (refs.dropLast.map .ref))] :: seg' :: R) := S3
    walk_at "z"
    refine z_iteN (fun z => absurd rfl z) (fun _ => ?_)
    walk_at "z"
    refine x_ixL (sq_l (S3.at_ 0 0 rfl rfl)) (atI_last (getLast_map hr)) ?_
    walk_at "z"
    refine x_ixT (S3.t h1) (at0 rfl) ?_
    walk_at "z"
    refine x_ixL (sq_l (S3.at_ 0 0 rfl rfl)) (atI_last (getLast_map hr)) ?_
    walk_at "z"
    refine x_ixT (S3.t h1) (at1 rfl) ?_
    walk_at "z"
    refine ⟨p, a, b, B, _, 1, seg', nw, s, ps, G, rfl, S3, rfl, F', Lo.nd, hG, .inl (sq_l h2), .inl (sq_l h3), fun H4 S4 => ?_⟩
    refine z_bl (z_iffalse ?_)
    walk_at "z"
    exact ⟨ps.length, by rw [List.length_append, List.length_singleton]; omega, seg', s, ps, _, rfl, rfl, S4, F', hp⟩
end FT

/-! FTQ: == by an own __eq__, isinstance of own classes. -/
namespace FT
open PySem PySem.Spec PyProof.Rows L2
/-- the class x has an own ==: its promise -/
structure Gq (P : Program) (w : World) (K : PySem.W.Frag) (mg : Str → Option Value) (base : Heap) (k : Nat) (x : Str) (sp : Sp) : Prop where
  at_ : PySem.W.findIn K (.ref (He.ga K x)) "__eq__" = some (some (.ref (He.ma K (He.ga K x) "__eq__")))
  fn : PySem.W.isFn K (.ref (He.ma K (He.ga K x) "__eq__")) = true
  ex : ∃ fd, FnOk P w K mg base (L2.CX P w) k (He.ma K (He.ga K x) "__eq__") fd ["self", "other"] sp ∧ Binds K fd ["self", "other"] []
def eqB (K : PySem.W.Frag) (x : Str) : Bool := He.eqO (PySem.W.findIn K (.ref (He.ga K x)) "__eq__") (some (some (.ref (He.ma K (He.ga K x) "__eq__")))) && PySem.W.isFn K (.ref (He.ma K (He.ga K x) "__eq__"))
theorem eqB_ok {K : PySem.W.Frag} {x : Str} (h : eqB K x = true) : PySem.W.findIn K (.ref (He.ga K x)) "__eq__" = some (some (.ref (He.ma K (He.ga K x) "__eq__"))) ∧ PySem.W.isFn K (.ref (He.ma K (He.ga K x) "__eq__")) = true := ⟨He.eqO_ok (ba2 h).1, (ba2 h).2⟩
/-- the wish of a comparison: a truth value -/
abbrev qBl (Q : VK) : VK := fun v H' => ∃ b, v = .bl b ∧ Q (.bl b) H'
/-- x == y, x of the class at C, y of no class below it -/
def rEqO (K : PySem.W.Frag) (C : Addr) (sp : Sp) : R2 := fun x y H Q => ∃ a dx fs t, x = .ref a ∧ H a = some (.ins C dx fs) ∧ TyX K H y t ∧ PySem.W.notFirst K C t = true ∧ sp [x, y] H (qBl Q) E0
/-- x == y, x of the class at D, y of the class at C below it: y is asked first -/
def rEqR (K : PySem.W.Frag) (C D : Addr) (sp : Sp) : R2 := fun x y H Q => ∃ a dx fs b dy gs, x = .ref a ∧ y = .ref b ∧ H a = some (.ins D dx fs) ∧ H b = some (.ins C dy gs) ∧ (Value.ref D != Value.ref C) = true ∧ PySem.W.subIn K (.ref C) (.ref D) = some true ∧ sp [y, x] H (qBl Q) E0
section
variable {X : Cx} {k j : Nat} {x : Str} {sp : Sp} {D : Addr}
theorem run_eq {pins : List (Addr × Obj)} {σ : L2.St} {H : Hp} {s : Shared} {Q : VK} {u v : Value} {y z : V} (G : Gq X.prog X.w X.K X.mg X.base k x sp) (hr : Room j X.A) (hk : k ≤ j) (I : Inv X pins σ H s) (ry : RelV y u) (rz : RelV z v) (h : sp [y, z] H (qBl Q) E0) :
    wpAny (model X.prog X.w) X.A (call (.ref (He.ma X.K (He.ga X.K x) "__eq__")) [u, v]) (fun r s' => ∃ b, r = .bool b ∧ EP X pins σ Q (.bool b) s') X.xe s := by
  obtain ⟨fd, F, b⟩ := G.ex
  have r2 : Vals [y, z] [u, v] := .cons ry (.cons rz .nil)
  have hb := b s [u, v] I.kIn rfl
  rw [List.append_nil] at hb
  refine wpAny_call (codeAny_mono (F.run X.A X.stack s H ⟨[u, v], []⟩ [u, v] [y, z] (qBl Q) E0 (hr.mono hk) I.env0 hb r2 h) fun r s' hq => ?_)
  cases r with
  | error e => exact passL (X := X) pins σ H s e s' I hq
  | ok fl =>
    cases fl with
    | ret w =>
      obtain ⟨z, H', I', rz, bb, ez, q⟩ := I.after hq
      subst ez
      cases rz
      exact ⟨bb, rfl, .bl bb, H', I', rfl, q⟩
    | next => exact False.elim hq
    | brk => exact False.elim hq
    | cont => exact False.elim hq
theorem op_eqO (G : Gq X.prog X.w X.K X.mg X.base k x sp) (hr : Room j X.A) (hk : k ≤ j := by decide) : OpR X (compareOp .Eq) (rEqO X.K (He.ga X.K x) sp) := by
  intro pins s σ H y z v u Q I ry rz h
  obtain ⟨a, dx, fs, t, rfl, ha, ty, hn, q⟩ := h
  cases (show v = Value.ref a from ry)
  obtain ⟨mA, O, _⟩ := ins_get I.hok ha
  obtain ⟨od, J, _⟩ := O.look
  obtain ⟨P, Zk, hp, _⟩ := kit_of I rz ty
  obtain ⟨m, hF⟩ := I.fr
  show wpAny _ _ (richCompare .Eq _ _) _ _ _
  refine PySem.W.cmp_K (op := .Eq) (tb := t) hr.units0 hF I.ok.mod.kin J (Zk.ty _ _ I.kIn hp) hn G.at_ G.fn ?_
  refine wpAny_mono (run_eq G hr hk I (show RelV (.ref a) (.ref a) from rfl) rz q) (fun r s' hq => ?_) fun _ _ z => z
  obtain ⟨b, rfl, e⟩ := hq
  exact e
theorem cmp_R {prog : Program} {w : World} {A : Around} {E : Value → Shared → Prop} {s : Shared} {K : PySem.W.Frag} {y C f : Addr} {oy : Obj} {od : Option Obj} {a ta : Value} {Q : Value → Shared → Prop}
    (hu : A.units < cLine) (X : K.In s.heap) (ha : PySem.W.Looks (model prog w) s.heap (typeOf a) ta) (hne : (ta != Value.ref C) = true) (hsub : PySem.W.subIn K (.ref C) ta = some true) (I : PySem.W.InstAt s.heap y oy C od) (hone : oneThing? .Eq a (.ref y) = none)
    (hs : PySem.W.findIn K (.ref C) "__eq__" = some (some (.ref f))) (hf : PySem.W.isFn K (.ref f) = true)
    (h : wpAny (model prog w) A (call (.ref f) [.ref y, a]) (PySem.W.CmpBack Q) E s) : wpAny (model prog w) A (richCompare .Eq a (.ref y)) Q E s := by
  have one : wpAny (model prog w) A (tryCompare (.ref y) "__eq__" a) (fun r s' => ∃ v, r = some v ∧ Q v s') E s := by
    unfold tryCompare
    refine wpAny_bind (PySem.W.ifBound_K X I hs hf (wpAny_mono h (fun v s' hv => ?_) fun _ _ e => e))
    cases v <;> first | exact hv.elim | exact wpAny_pure ⟨_, rfl, hv⟩
  unfold richCompare
  simp only [hone]
  refine wpAny_holding (wpAny_bind (wpAny_cRoomFor hu ?_))
  refine wpAny_bind (ha.here (wpAny_bind (I.type.here ?_)))
  rw [if_pos hne]
  refine wpAny_bind ((PySem.W.looks_subIn X hsub).here ?_)
  simp only [if_true]
  refine wpAny_bind (wpAny_mono one (fun r s' z => ?_) fun _ _ e => e)
  obtain ⟨v, rfl, hq⟩ := z
  show wpAny _ _ (rule _ >>= fun _ => pure v) _ _ _
  exact wpAny_bind (by first | exact wpAny_rule (wpAny_pure hq) | exact wpAny_pure (wpAny_pure hq))
theorem op_eqR (G : Gq X.prog X.w X.K X.mg X.base k x sp) (hr : Room j X.A) (hk : k ≤ j := by decide) : OpR X (compareOp .Eq) (rEqR X.K (He.ga X.K x) D sp) := by
  intro pins s σ H y z v u Q I ry rz h
  obtain ⟨a, dx, fs, b, dy, gs, rfl, rfl, ha, hb, hne, hsub, q⟩ := h
  cases (show v = Value.ref a from ry)
  cases (show u = Value.ref b from rz)
  obtain ⟨mA, O, _⟩ := ins_get I.hok ha
  obtain ⟨od, J, _⟩ := O.look
  obtain ⟨mB, O', _⟩ := ins_get I.hok hb
  obtain ⟨od', J', _⟩ := O'.look
  show wpAny _ _ (richCompare .Eq _ _) _ _ _
  refine cmp_R hr.units0 I.kIn J.type hne hsub J' (oneThing_ref ..) G.at_ G.fn ?_
  refine wpAny_mono (run_eq G hr hk I (show RelV (.ref b) (.ref b) from rfl) (show RelV (.ref a) (.ref a) from rfl) q) (fun r s' hq => ?_) fun _ _ z => z
  obtain ⟨b, rfl, e⟩ := hq
  exact e
end
/-- one of two tests -/
def tOr2T (a b : TT) : TT := fun σ H Q => a σ H Q ∨ b σ H Q
theorem pt_or2 {X : Cx} {e : Expr} {a b : TT} (h1 : PT X e a) (h2 : PT X e b) : PT X e (tOr2T a b) := ⟨fun pins s σ H Q I h => h.elim (h1.run pins s σ H Q I) (h2.run pins s σ H Q I)⟩
theorem x_torL {a b : TT} {σ : L2.St} {H : Hp} {Q : Bool → Hp → Prop} (h : a σ H Q) : tOr2T a b σ H Q := .inl h
theorem x_torR {a b : TT} {σ : L2.St} {H : Hp} {Q : Bool → Hp → Prop} (h : b σ H Q) : tOr2T a b σ H Q := .inr h
end FT

namespace FT
open PySem PySem.Spec PyProof.Rows L2
/-! ### isinstance and == of forums -/
structure InsF (K : PySem.W.Frag) : Prop where
  ha : ∀ nw, PySem.W.findIn K (.ref (fcl K nw)) "__class__" = some (some (.builtin "object.__class__"))
  hn : PySem.W.specialIn K (.builtin "object.__class__") "__get__" = some (some (.builtin "getset_descriptor.__get__"))
  ht : PySem.W.takesIn K (.builtin "object.__class__") = some true
  hm : ∀ nw, PySem.W.mroIn K (fcl K nw) (.type "object") = some true
  k1 : ∀ nw, PySem.W.kitOne K (.ref (fcl K nw)) (.ref (He.ga K "Forum")) = some true
  k2 : ∀ nw, PySem.W.kitOne K (.ref (fcl K nw)) (.ref (He.ga K "NewestForum")) = some nw
  nf : ∀ a b, (a = b ∨ a = true) → PySem.W.notFirst K (fcl K a) (.ref (fcl K b)) = true
  ne : (Value.ref (He.ga K "Forum") != Value.ref (He.ga K "NewestForum")) = true
  sf : PySem.W.subIn K (.ref (He.ga K "NewestForum")) (.ref (He.ga K "Forum")) = some true
def insB (K : PySem.W.Frag) : Bool := He.eqO (PySem.W.specialIn K (.builtin "object.__class__") "__get__") (some (some (.builtin "getset_descriptor.__get__"))) && (decide (PySem.W.takesIn K (.builtin "object.__class__") = some true) &&
  ((Value.ref (He.ga K "Forum") != Value.ref (He.ga K "NewestForum")) && (decide (PySem.W.subIn K (.ref (He.ga K "NewestForum")) (.ref (He.ga K "Forum")) = some true) && ([false, true].all fun nw =>
    He.eqO (PySem.W.findIn K (.ref (fcl K nw)) "__class__") (some (some (.builtin "object.__class__"))) && (decide (PySem.W.mroIn K (fcl K nw) (.type "object") = some true) && (decide (PySem.W.kitOne K (.ref (fcl K nw)) (.ref (He.ga K "Forum")) = some true) &&
      (decide (PySem.W.kitOne K (.ref (fcl K nw)) (.ref (He.ga K "NewestForum")) = some nw) && (PySem.W.notFirst K (fcl K nw) (.ref (fcl K nw)) && PySem.W.notFirst K (fcl K true) (.ref (fcl K nw))))))))))
theorem insB_ok {K : PySem.W.Frag} (h : insB K = true) : InsF K := by
  obtain ⟨h1, h⟩ := ba2 h
  obtain ⟨h2, h⟩ := ba2 h
  obtain ⟨h3, h⟩ := ba2 h
  obtain ⟨h4, h⟩ := ba2 h
  have g := fun nw : Bool => List.all_eq_true.mp h nw (by cases nw <;> decide)
  have g1 := fun nw => ba2 (g nw)
  have g2 := fun nw => ba2 (g1 nw).2
  have g3 := fun nw => ba2 (g2 nw).2
  have g4 := fun nw => ba2 (g3 nw).2
  have g5 := fun nw => ba2 (g4 nw).2
  refine ⟨fun nw => He.eqO_ok (g1 nw).1, He.eqO_ok h1, of_decide_eq_true h2, fun nw => of_decide_eq_true (g2 nw).1, fun nw => of_decide_eq_true (g3 nw).1, fun nw => of_decide_eq_true (g4 nw).1, fun a b e => ?_, h3, of_decide_eq_true h4⟩
  rcases e with e | e
  · rw [e]; exact (g5 b).1
  · rw [e]; exact (g5 b).2
theorem InsF.ty {K : PySem.W.Frag} {H B : Hp} {R : List Seg} {i : Nat} {seg : Seg} {p : Addr} {nw : Bool} {cur : S3} {past : List S3} (I : InsF K) (S : Z H B R) (hi : R[i]? = some seg) (F : Fo K B seg p nw cur past) : TyX K H (.ref p) (.ref (fcl K nw)) := by
  obtain ⟨dx, st, ps, hp⟩ := F.hp S hi
  exact .base (TyOf.ins hp (F.cf.cl nw) (I.ha nw) I.hn I.ht (I.hm nw))
/-- isinstance(o, an own class) -/
theorem z_isiC {K : PySem.W.Frag} {H : Hp} {Q : VK} {v : V} {C : Addr} {t : Value} {b : Bool} (h : TyX K H v t) (e : PySem.W.kitOne K t (.ref C) = some b) (q : Q (.bl b) H) : qIsi K [v, .ref C] H Q := ⟨v, .ref C, t, .ref C, b, rfl, .own C, h, e, q⟩
/-- ==: another forum, or a value that is none -/
def sp_Forum___eq__ (K : PySem.W.Frag) : Sp := fun vs H Q _ => ∃ (p : Addr) (y : V) (B : Hp) (R : List Seg) (i : Nat) (seg : Seg) (nw : Bool) (cur : S3) (past : List S3), vs = [.ref p, y] ∧ Z H B R ∧ R[i]? = some seg ∧ Fo K B seg p nw cur past ∧ InsF K ∧
  ((∃ (q : Addr) (j : Nat) (seg' : Seg) (nw' : Bool) (cur' : S3) (past' : List S3), y = .ref q ∧ R[j]? = some seg' ∧ Fo K B seg' q nw' cur' past' ∧ Q (.bl (decide (nw = nw') && decide (cur = cur'))) H) ∨
    ∃ t, TyX K H y t ∧ PySem.W.kitOne K t (.ref (He.ga K "Forum")) = some false ∧ Q (.bl false) H)
end FT
namespace FT
open PySem PySem.Spec PyProof.Rows L2

/-- slots: self, other -/
def t_Forum___eq__ (K : PySem.W.Frag) (E : XK) : TS :=
  (tSeq (tIfS (tNot (tB (tCB (qIsi K) (tCons (tVar 1) (tCons (tC (.ref (He.ga K "Forum"))) tNil))))) (tRet (tC (.bl false))) tNext)
  (tRet (tAndV (tOp (qEq K) (tFld K (tVar 0) "class_name") (tFld K (tVar 1) "class_name")) (tOp (qEq K) (tFld K (tVar 0) "state") (tFld K (tVar 1) "state")))))
end FT
namespace FT
open PySem PySem.Spec PyProof.Rows L2
theorem eqv_S3 (s t : S3) : PyData.eqv (dS3 s) (dS3 t) = decide (s = t) := by
  obtain ⟨T, F, O⟩ := s
  obtain ⟨T', F', O'⟩ := t
  simp only [dS3, PyData.eqv, PyData.eqvAll, eqvA_map eqv_N, eqvA_map eqv_Ov, Bool.and_true]
  by_cases h1 : T = T' <;> by_cases h2 : F = F' <;> by_cases h3 : O = O' <;> simp [h1, h2, h3]
theorem fnm_eq (a b : Bool) : decide (fnm a = fnm b) = decide (a = b) := by cases a <;> cases b <;> decide +kernel
theorem pure_Forum___eq__ {K : PySem.W.Frag} {E : XK} {H : Hp} {Q : VK} {vs : List V} (h : sp_Forum___eq__ K vs H Q E) : t_Forum___eq__ K E (DD Q) (L2.start ["self", "other"] vs) H := by
  obtain ⟨p, y, B, R, i, seg, nw, cur, past, rfl, S, hi, F, I, hy⟩ := h
  show t_Forum___eq__ K E (DD Q) [some (.ref p), some y] H
  unfold t_Forum___eq__
  walk_at "z"
  rcases hy with ⟨q, j, seg', nw', cur', past', rfl, hj, F', k⟩ | ⟨t, ht, hk, k⟩
  · refine z_isiC (I.ty S hj F') (I.k1 nw') ?_
    refine z_bl (z_iffalse ?_)
    obtain ⟨dx, ps, st, sts, a, b, c, rfl, hp, hps, h1, h2, h3, h4, -, -⟩ := F.ob.open_ S hi
    obtain ⟨dx', ps', st', sts', a', b', c', rfl, hp', hps', h1', h2', h3', h4', -, -⟩ := F'.ob.open_ S hj
    walk_at "z"
    refine z_fld hp (F.cf.cl nw) (F.cf.n1 nw) (flds_cn _ _ _) ?_
    walk_at "z"
    refine z_fld hp' (F.cf.cl nw') (F.cf.n1 nw') (flds_cn _ _ _) ?_
    walk_at "z"
    rw [fnm_eq]
    refine z_ite (fun e => ?_) (fun e => ?_)
    · walk_at "z"
      refine z_fld hp (F.cf.cl nw) (F.cf.n2 nw) (flds_st _ _ _) ?_
      walk_at "z"
      refine z_fld hp' (F.cf.cl nw') (F.cf.n2 nw') (flds_st _ _ _) ?_
      refine x_eqD (d := dS3 cur) (e := dS3 cur') (S.d (dp_S3 ⟨a, b, c, h1, h2, h3, h4⟩)) (S.d (dp_S3 ⟨a', b', c', h1', h2', h3', h4'⟩)) (z_shape (lay_S3 _) (by rw [dep_S3]; decide)) (z_shape (lay_S3 _) (by rw [dep_S3]; decide)) ?_
      rw [eqv_S3]
      rw [decide_eq_true e, Bool.true_and] at k
      exact k
    · rw [decide_eq_false e, Bool.false_and] at k
      exact k
  · refine z_isiC ht hk ?_
    refine z_bl (z_iftrue ?_)
    walk_at "z"
    exact k
theorem pr_at {K : PySem.W.Frag} {H B : Hp} {Q : VK} {R : List Seg} {i : Nat} {seg : Seg} {p : Addr} {nw : Bool} {cur : S3} {past : List S3} {sp : Sp} (S : Z H B R) (hi : R[i]? = some seg) (F : Fo K B seg p nw cur past) (q : sp [.ref p] H Q E0) : mProp (fcl K nw) sp Q (.ref p) H := by
  obtain ⟨dx, st, ps, hp⟩ := F.hp S hi
  exact z_prop hp q
theorem Z.drop1 {H B : Hp} {R : List Seg} {r : Seg} (S : Z H B (r :: R)) : Z H B R := S.tail
/-- a text that can be laid -/
abbrev TxOk (x : Str) : Prop := ∀ c ∈ x.cps.toList, c < 0x110000
theorem TxOk.ok {x : Str} (h : TxOk x) : PyData.strOk x = true := by
  unfold PyData.strOk
  rw [Array.all_eq_true']
  intro c hc
  exact decide_eq_true (h c (Array.mem_toList_iff.mpr hc))
theorem tx_of (s : String) : TxOk (Str.ofString s) := by
  rw [Str.ofString_eq_toList]
  intro c hc
  obtain ⟨k, -, rfl⟩ := List.mem_map.mp (show c ∈ s.toList.map Char.toNat from hc)
  have := k.valid
  show k.val.toNat < 0x110000
  rcases this with h | ⟨_, h⟩
  · exact Nat.lt_trans h (by decide)
  · exact h
theorem tx_app {a b : Str} (ha : TxOk a) (hb : TxOk b) : TxOk (a ++ b) := by
  intro c hc
  have hc : c ∈ (a.cps ++ b.cps).toList := hc
  rw [Array.toList_append] at hc
  exact (List.mem_append.mp hc).elim (ha c) (hb c)
theorem tx_mul {a : Str} (ha : TxOk a) (n : Int) : TxOk (Txt.mul a n) := by
  unfold Txt.mul
  split
  · intro c hc
    exact absurd hc (by simp [Str.empty])
  · split
    · exact ha
    · have go : ∀ (k : Nat) (acc : Array Nat), (∀ c ∈ acc.toList, c < 0x110000) → ∀ c ∈ ((List.replicate k a.cps).foldl (· ++ ·) acc).toList, c < 0x110000 := by
        intro k
        induction k with
        | zero => exact fun acc h => h
        | succ k ih =>
          intro acc h
          rw [List.replicate_succ, List.foldl_cons]
          refine ih _ fun c hc => ?_
          rw [Array.toList_append] at hc
          exact (List.mem_append.mp hc).elim (h c) (ha c)
      exact go _ #[] (by simp)
theorem tx_row (d c : Nat) {m : Str} (h : TxOk m) : TxOk (rowS d c m) := tx_app (tx_app (tx_mul (tx_of _) _) (tx_of _)) h
theorem tx_more (T : FM.T3) (F : List Nat) (c : Nat) : TxOk (moreS T F c) := by
  unfold moreS
  split
  · exact tx_app (tx_of _) (tx_of _)
  · exact tx_of _
theorem tx_rows (T : FM.T3) (F O : List Nat) : ∀ x ∈ rowsL T F O, TxOk x := fun x hx => by
  obtain ⟨c, -, rfl⟩ := List.mem_map.mp hx
  exact tx_row _ _ (tx_more T F c)
theorem shp_str {l : List Str} (h : ∀ x ∈ l, TxOk x) : SeqAt.shaped (.list (l.map PyData.str)) = true ∧ (PyData.list (l.map PyData.str)).canLay0 = true := by
  have h1 : ∀ l : List Str, (∀ x ∈ l, TxOk x) → PyData.canLayAll0 (l.map PyData.str) = true := fun l => by
    induction l with
    | nil => exact fun _ => rfl
    | cons x l ih =>
      intro h
      simp only [List.map_cons, PyData.canLayAll0, PyData.canLay0, ih fun y hy => h y (List.mem_cons_of_mem _ hy), TxOk.ok (h x List.mem_cons_self), Bool.and_self]
  have h2 : ∀ l : List Str, PyData.depthAll (l.map PyData.str) = 0 := fun l => by
    induction l with
    | nil => rfl
    | cons x l ih => simp only [List.map_cons, PyData.depthAll, PyData.depth, ih, Nat.max_self]
  have h3 : (PyData.list (l.map PyData.str)).canLay0 = true := by simp only [PyData.canLay0]; exact h1 l h
  exact ⟨z_shape h3 (by simp only [PyData.depth, h2]; omega), h3⟩
theorem dpA_str {K : PySem.W.Frag} {H : Hp} : ∀ l : List Str, DpAll K H (l.map V.str) (l.map PyData.str)
  | [] => .nil
  | x :: l => .cons (.str x) (dpA_str l)
/-- two lists of the same lines, of the same numbers -/
theorem ne_str {K : PySem.W.Frag} {H : Hp} {Q : VK} {a b : Addr} {l : List Str} (h : ∀ x ∈ l, TxOk x) (h1 : SqL K H a (l.map V.str)) (h2 : SqL K H b (l.map V.str)) (q : Q (.bl false) H) : qNe K (.ref a) (.ref b) H Q := by
  refine x_neD (.lst h1 (dpA_str l)) (.lst h2 (dpA_str l)) (shp_str h).1 (shp_str h).1 ?_
  rw [PySem.SeqAt.eqv_refl _ (shp_str h).2]
  exact q
theorem shp_int (l : List Int) : SeqAt.shaped (.list (l.map PyData.int)) = true ∧ (PyData.list (l.map PyData.int)).canLay0 = true := by
  have h1 : ∀ l : List Int, PyData.canLayAll0 (l.map PyData.int) = true := fun l => by
    induction l with
    | nil => rfl
    | cons x l ih => simp only [List.map_cons, PyData.canLayAll0, PyData.canLay0, ih, Bool.and_self]
  have h2 : ∀ l : List Int, PyData.depthAll (l.map PyData.int) = 0 := fun l => by
    induction l with
    | nil => rfl
    | cons x l ih => simp only [List.map_cons, PyData.depthAll, PyData.depth, ih, Nat.max_self]
  have h3 : (PyData.list (l.map PyData.int)).canLay0 = true := by simp only [PyData.canLay0]; exact h1 l
  exact ⟨z_shape h3 (by simp only [PyData.depth, h2]; omega), h3⟩
theorem dpA_int {K : PySem.W.Frag} {H : Hp} : ∀ l : List Int, DpAll K H (l.map V.int) (l.map PyData.int)
  | [] => .nil
  | x :: l => .cons (.int x) (dpA_int l)
theorem ne_int {K : PySem.W.Frag} {H : Hp} {Q : VK} {a b : Addr} {l : List Int} (h1 : SqL K H a (l.map V.int)) (h2 : SqL K H b (l.map V.int)) (q : Q (.bl false) H) : qNe K (.ref a) (.ref b) H Q := by
  refine x_neD (.lst h1 (dpA_int l)) (.lst h2 (dpA_int l)) (shp_int l).1 (shp_int l).1 ?_
  rw [PySem.SeqAt.eqv_refl _ (shp_int l).2]
  exact q
/-- a forum of either kind -/
theorem x_ofnw {K : PySem.W.Frag} {H : Hp} {Q : VK} {σ : L2.St} {i : Nat} {nw : Bool} {as : TA} (hσ : σ[i]? = some (some (.bl nw))) (q : ClX.tCMeth (fcl K nw) (sp_Forum_of K) E0 (tC (.ref (fcl K nw))) as σ H Q) :
    tIf (tB (tVar i)) (ClX.tCMeth (He.ga K "NewestForum") (sp_Forum_of K) E0 (tC (.ref (He.ga K "NewestForum"))) as) (ClX.tCMeth (He.ga K "Forum") (sp_Forum_of K) E0 (tC (.ref (He.ga K "Forum"))) as) σ H Q := by
  refine x_if (x_B (x_var hσ (z_bl ?_)))
  cases nw with
  | true => exact z_iftrue q
  | false => exact z_iffalse q
theorem set_self {R : List Seg} {i : Nat} {f : Seg} (h : R[i]? = some f) : R.set i f = R := by
  refine List.ext_getElem? fun k => ?_
  rw [List.getElem?_set]
  by_cases e : i = k
  · subst e
    rw [if_pos rfl, if_pos (List.getElem?_eq_some_iff.mp h).1, h]
  · rw [if_neg e]
/-! ### texts of rows -/
theorem app_nil (x : Str) : x ++ ("" : Str) = x := by
  show (⟨x.cps ++ ("" : Str).cps⟩ : Str) = x
  have e : ("" : Str).cps = #[] := by decide +kernel
  rw [e, Array.append_empty]
theorem mul_cps (n : Nat) : (Txt.mul ("  " : Str) (n : Int)).cps.toList = List.replicate (2 * n) 32 := by
  have e0 : ("  " : Str).cps = #[32, 32] := by decide +kernel
  have go : ∀ (k : Nat) (acc : Array Nat), ((List.replicate k #[32, 32]).foldl (· ++ ·) acc).toList = acc.toList ++ List.replicate (2 * k) 32 := by
    intro k
    induction k with
    | zero => intro acc; simp
    | succ k ih =>
      intro acc
      rw [List.replicate_succ, List.foldl_cons, ih, Array.toList_append, List.append_assoc, show 2 * (k + 1) = 2 + 2 * k by omega, ← List.replicate_append_replicate]
      rfl
  unfold Txt.mul
  split
  · rename_i h
    have : n = 0 := by omega
    subst this
    rfl
  · split
    · rename_i h1 h2
      rcases Bool.or_eq_true_iff.mp h2 with z | z
      · have : n = 1 := by have := beq_iff_eq.mp z; omega
        subst this
        rw [e0]
        rfl
      · exact absurd (beq_iff_eq.mp z) (by decide +kernel)
    · show ((List.replicate (n : Int).toNat ("  " : Str).cps).foldl (· ++ ·) #[]).toList = _
      rw [e0, Int.toNat_natCast, go]
      rfl
theorem mul_len (n : Nat) : (Txt.mul ("  " : Str) (n : Int)).length = 2 * n := by
  show (Txt.mul ("  " : Str) (n : Int)).cps.size = _
  rw [← Array.length_toList, mul_cps, List.length_replicate]
theorem str_ext {x y : Str} (h : x.cps.toList = y.cps.toList) : x = y := by
  cases x
  cases y
  congr 1
  exact Array.toList_inj.mp h
theorem app_cps (x y : Str) : (x ++ y).cps.toList = x.cps.toList ++ y.cps.toList := by
  show (x.cps ++ y.cps).toList = _
  rw [Array.toList_append]
theorem lstrip_row (d : Nat) (y : Str) (h : ∀ c, y.cps.toList.head? = some c → c ≠ 32) : Txt.lstripChars (Txt.mul "  " (d : Int) ++ y) " " = y := by
  have e0 : (" " : Str).cps = #[32] := by decide +kernel
  unfold Txt.lstripChars
  rw [PyProof.Rows.stripBy_eq, e0]
  have el : (Txt.mul ("  " : Str) (d : Int) ++ y).cps.toList = List.replicate (2 * d) 32 ++ y.cps.toList := by rw [app_cps, mul_cps]
  have g32 : (#[32] : Array Nat).contains 32 = true := by simp
  have tk : ∀ n : Nat, ((List.replicate n 32 ++ y.cps.toList).takeWhile (#[32] : Array Nat).contains).length = n := by
    intro n
    induction n with
    | zero =>
      rw [List.replicate_zero, List.nil_append]
      cases hy : y.cps.toList with
      | nil => rfl
      | cons c l =>
        have hc := h c (by rw [hy] <;> rfl)
        rw [List.takeWhile_cons, if_neg (by simp; exact hc)] <;> rfl
    | succ n ih => rw [List.replicate_succ, List.cons_append, List.takeWhile_cons, if_pos g32, List.length_cons, ih]
  have lo : stripLo (#[32] : Array Nat).contains true (Txt.mul ("  " : Str) (d : Int) ++ y) = 2 * d := by
    unfold stripLo
    rw [if_pos rfl, el, tk]
  have hi : ∀ k, stripHi (#[32] : Array Nat).contains false (Txt.mul ("  " : Str) (d : Int) ++ y) k = (Txt.mul ("  " : Str) (d : Int) ++ y).length := fun k => rfl
  rw [lo, hi]
  refine str_ext ?_
  have es : (Txt.mul ("  " : Str) (d : Int) ++ y).length = (Txt.mul ("  " : Str) (d : Int) ++ y).cps.toList.length := (Array.length_toList).symm
  show ((Txt.mul ("  " : Str) (d : Int) ++ y).cps.extract (2 * d) (Txt.mul ("  " : Str) (d : Int) ++ y).length).toList = y.cps.toList
  rw [Array.toList_extract, es, List.extract_eq_take_drop, el, List.drop_left' (by rw [List.length_replicate]), List.take_of_length_le (by rw [List.length_append, List.length_replicate]; omega)]
end FT

/-! FTT: texts: lstrip of signs, split, int of a text; reversed(range(..)). -/
namespace FT
open PySem PySem.Spec PyProof.Rows L2
def qLstrip : V → List V → Hp → VK → Prop := fun x xs H Q => ∃ a b, x = .str a ∧ xs = [.str b] ∧ a.length ≤ sizeLine ∧ Q (.str (Txt.lstripChars a b)) H
theorem mt_qLstrip {X : Cx} : MtM X "str.lstrip" qLstrip := mt_lstripChars
def qSplit : V → List V → Hp → VK → Prop := fun x xs H Q => ∃ a b, x = .str a ∧ xs = [.str b] ∧ (b.length == 0) = false ∧ a.length + 2 ≤ sizeLine ∧ rNewStrs (Txt.split a b) H Q
theorem mt_qSplit {X : Cx} : MtM X "str.split" qSplit := mt_split
def qIntS : List V → Hp → VK → Prop := fun xs H Q => ∃ a n, xs = [.str a] ∧ PySem.intText? a = some n ∧ a.length ≤ 640 ∧ Q (.int n) H
theorem call_qIntS {X : Cx} : CallR X (.type "int") qIntS := call_int_str
section
variable {K : PySem.W.Frag} {σ : L2.St} {H H' B : Hp} {R : List Seg} {Q : VK} {D : Ends} {ts : TS}
theorem z_split {a b : Str} (S : Z H B R) (hb : (b.length == 0) = false) (ha : a.length + 2 ≤ sizeLine) (q : ∀ l H', Z H' B ([(l, .lst ((Txt.split a b).map V.str))] :: R) → Q (.ref l) H') : qSplit (.str a) [.str b] H Q := ⟨a, b, rfl, rfl, hb, ha, fun l hl => q l _ (S.new hl)⟩
/-- for c in reversed(range(n)) -/
theorem z_for_rev {g : TG} {n : Nat} (Pv : Nat → L2.St → Hp → Prop) (h0 : Pv 0 σ H) (hs : ∀ (k : Nat) σ H, k < n → Pv k σ H → g (.int ((n - 1 - k : Nat) : Int)) σ H fun σ2 H2 => ts { D with nx := Pv (k + 1), ct := Pv (k + 1), bk := D.nx } σ2 H2) (hd : ∀ σ H, Pv n σ H → D.nx σ H) :
    mFor g ts D σ (Itc (0 + ((((n : Int) - 0).toNat : Nat) : Int) - 1) (-1) ((n : Int) - 0).toNat) H := by
  have e : ((n : Int) - 0).toNat = n := by omega
  rw [e]
  refine loop_it (n := n) Pv h0 (fun i σ H h p => h) (fun σ H p => Nat.le_refl _) (fun k σ H v H' hk pv y => ?_) hd
  obtain ⟨rfl, rfl⟩ := y
  have e2 : (0 + (n : Int) - 1 + (k : Int) * (-1)) = ((n - 1 - k : Nat) : Int) := by omega
  rw [e2]
  exact hs k σ _ hk pv
end
theorem x_revR {σ : L2.St} {H : Hp} {tr : L2.St → Hp → (Int → Int → Hp → Prop) → Prop} {Rr : It → Hp → Prop} (q : tr σ H fun a b H1 => -(2 ^ 62) ≤ a ∧ a < 2 ^ 62 ∧ -(2 ^ 62) ≤ b ∧ b < 2 ^ 62 ∧ Rr (Itc (a + (((b - a).toNat : Nat) : Int) - 1) (-1) (b - a).toNat) H1) : iRevR tr σ H Rr := q
end FT

/-! FTI: errors of own classes that hold a field (own __init__); defs of the module called by keywords alone. -/
namespace FT
open PySem PySem.Spec PyProof.Rows L2
/-- the class object at C is such a one -/
def oexOne (C : Addr) : Option Obj → Bool
  | some ⟨.type "type", _, .cls cd, sl⟩ => (match cd.mro, sl.toList with
    | .ref C2 :: bm, [_, _, _, _, some (.builtin n), _] => decide (C2 = C) && (decide (n = "ValueError.__new__") && (!cd.hasDel && (cd.hasDict && PySem.HandSPX.refsVE bm)))
    | _, _ => false)
  | _ => false
def oexB (K : PySem.W.Frag) (x : Str) : Bool := oexOne (He.ga K x) (K.lookup (He.ga K x)) && (He.eqO (PySem.W.findIn K (.ref (He.ga K x)) "__setattr__") (some (some (.builtin "object.__setattr__"))) && (decide (PySem.W.subIn K (.ref (He.ga K x)) (.type "BaseException") = some true) &&
  (decide (PySem.W.typeIn K (.ref (He.ga K x)) = some (.type "type")) && (PySem.W.keepIn K (.ref (He.ga K x)) && (He.eqO (PySem.W.findIn K (.ref (He.ga K x)) "__init__") (some (some (.ref (He.ma K (He.ga K x) "__init__")))) && decide (PySem.W.typeIn K (.ref (He.ma K (He.ga K x) "__init__")) = some (.type "function")))))))
/-- what an error class x with its own __init__ has -/
structure Xo (K : PySem.W.Frag) (x : Str) : Prop where
  oc : OexC K (He.ga K x)
  ini : PySem.W.findIn K (.ref (He.ga K x)) "__init__" = some (some (.ref (He.ma K (He.ga K x) "__init__")))
  ti : PySem.W.typeIn K (.ref (He.ma K (He.ga K x) "__init__")) = some (.type "function")
theorem oexOne_ok {K : PySem.W.Frag} {C : Addr} (h : oexOne C (K.lookup C) = true) : ∃ nm q N bs bm sn sub ab col dd k0 k1 k2 k3 k5, K.lookup C = some (excClassObj nm q C N bs bm true sn sub ab col dd k0 k1 k2 k3 k5 "ValueError.__new__") ∧ PySem.HandSPX.refsVE bm = true := by
  generalize hL : K.lookup C = L at h
  unfold oexOne at h
  split at h
  · rename_i dd cd sl
    split at h
    · rename_i C2 bm k0 k1 k2 k3 n k5 hm hs
      obtain ⟨h1, h⟩ := ba2 h
      obtain ⟨h2, h⟩ := ba2 h
      obtain ⟨h3, h⟩ := ba2 h
      obtain ⟨h4, h5⟩ := ba2 h
      have e1 := of_decide_eq_true h1
      have e2 := of_decide_eq_true h2
      subst e1 e2
      obtain ⟨nm, bs, mro, ns, qn, hd, sn, sub, ab, col, dl⟩ := cd
      dsimp only at hm h3 h4
      have e3 : dl = false := by cases dl <;> simp_all
      subst hm e3 h4
      obtain ⟨l⟩ := sl
      have e4 : l = [k0, k1, k2, k3, some (.builtin "ValueError.__new__"), k5] := hs
      subst e4
      exact ⟨nm, qn, ns, bs, bm, sn, sub, ab, col, dd, k0, k1, k2, k3, k5, rfl, h5⟩
    · cases h
  · cases h
theorem oexB_ok {K : PySem.W.Frag} {x : Str} (h : oexB K x = true) : Xo K x := by
  obtain ⟨h1, h⟩ := ba2 h
  obtain ⟨h2, h⟩ := ba2 h
  obtain ⟨h3, h⟩ := ba2 h
  obtain ⟨h4, h⟩ := ba2 h
  obtain ⟨h5, h⟩ := ba2 h
  obtain ⟨h6, h7⟩ := ba2 h
  exact ⟨⟨oexOne_ok h1, He.eqO_ok h2, of_decide_eq_true h3, of_decide_eq_true h4, h5⟩, He.eqO_ok h6, of_decide_eq_true h7⟩
/-- an error class with its __init__'s promise; dvs fill up -/
structure Gi (P : Program) (w : World) (K : PySem.W.Frag) (mg : Str → Option Value) (base : Heap) (k : Nat) (x : Str) (ps : List Str) (sp : Sp) (dvs : List V) : Prop where
  xo : Xo K x
  gl : mg x = some (.ref (He.ga K x))
  ex : ∃ fd ds, FnOk P w K mg base (L2.CX P w) k (He.ma K (He.ga K x) "__init__") fd ps sp ∧ Vals dvs ds ∧ Binds K fd ps ds
/-- raise x(e, ..) -/
def tRaiseO (W : WX) (C : Addr) (sp : Sp) (dvs : List V) (ta : TA) : TS := fun _ σ H => tMkO C sp dvs ta σ H fun cls d H' => W cls d σ H'
theorem passN {CX : CXT} {X : Cx} (h : Passes CX X E0) : Passes CX X fun _ _ _ => False := h
section
variable {X : Cx} {k j : Nat} {x : Str} {ps ks : List Str} {sp : Sp} {dvs : List V} {e : Expr} {es : List Expr} {ta tk : TA} {p pos pos' : Pos} {W : WX} {kws : List Keyword}
theorem ps_rsO (tkW : Takes X W) (G : Gi X.prog X.w X.K X.mg X.base k x ps sp dvs) (hr : Room j X.A) (ha : PA X (e :: es) ta) (hk : k + 1 ≤ j := by decide) (hc : X.calm = true := by rfl) (hg : Gl X x := by rfl)
    (hdb : (x == ("__debug__" : Str)) = false := by decide) (he : starEach (e :: es) X.env = (false, eval e X.env) :: starEach es X.env := by rfl) (hpl : (backTo pos (starEach es X.env)).any (·.1) = false := by rfl) :
    PS X (.Raise (some (.Call (.Name x p) (e :: es) [] pos)) none pos') (tRaiseO W (He.ga X.K x) sp dvs ta) := by
  obtain ⟨fd, ds, F, hd, b⟩ := G.ex
  exact ps_raise hc tkW (pmk_oex G.xo.oc G.xo.ini G.xo.ti F (hr.mono hk) b hd passL hg G.gl ha hdb he hpl)
/-- x() -/
theorem pmk_oex0 {CX : CXT} {C fI : Addr} {fd : FuncData} {ds : List Value} (T : OexC X.K C) (iC : PySem.W.findIn X.K (.ref C) "__init__" = some (some (.ref fI))) (tI : PySem.W.typeIn X.K (.ref fI) = some (.type "function"))
    (F1 : FnOk X.prog X.w X.K X.mg X.base CX k fI fd ps sp) (hr : Room (k + 1) X.A) (hb : Binds X.K fd ps ds) (hd : Vals dvs ds) (hx : Passes CX X (fun _ _ _ => False)) (hg : Gl X x) (hm : X.mg x = some (.ref C)) (hdb : (x == ("__debug__" : Str)) = false := by decide) :
    PMk X (.Call (.Name x p) [] [] pos) (tMkO C sp dvs tNil) := by
  intro pins s σ H Q I h
  obtain ⟨nm, q, N, bs, bm, sn, sub, ab, col, dd, k0, k1, k2, k3, k5, hC, hbm⟩ := T.cls
  refine wpAny_Call_Name_kw (ld_glob I hg hm ?_ hdb)
  refine PySem.W.callWith_K0 I.kIn T.kC ?_
  obtain ⟨hz, q1⟩ := h
  obtain ⟨h0, g0, d0, t0, os0⟩ := s
  have z1 : h0.objs.size ≤ h0.objs.size + 1 := Nat.le_succ _
  have z2 : H (h0.objs.size + 1) = none := I.hok.fresh z1
  have z3 := q1 (h0.objs.size + 1) z2
  have z4 : ∀ b o, h0.get? b = some o → ((h0.push (PySem.W.kdv_tup [])).push (PySem.HandSPX.excO C h0.objs.size)).get? b = some o := fun b o e => Heap.get?_push_of_some _ (Heap.get?_push_of_some _ e)
  have z5 : ((h0.push (PySem.W.kdv_tup [])).push (PySem.HandSPX.excO C h0.objs.size)).get? (h0.objs.size + 1) = some (PySem.HandSPX.excO C h0.objs.size) := by heap_get
  have I2 : Inv X pins σ (upd H (h0.objs.size + 1) (exo (h0.objs.size + 1) C none)) ⟨(h0.push (PySem.W.kdv_tup [])).push (PySem.HandSPX.excO C h0.objs.size), g0, d0, t0, os0⟩ := I.laid z4 z1 (exo_ok z5)
  have r2 : Vals (V.ref (h0.objs.size + 1) :: dvs) (Value.ref (h0.objs.size + 1) :: ds) := .cons rfl hd
  have hl : (Value.ref (h0.objs.size + 1) :: ds).length = ps.length := r2.length.symm.trans (F1.len _ _ _ _ z3)
  refine wpAny_call (PySem.HandSPX.call_own F.excBase_ValueError (fun Y => PySem.HandSPX.refsVE_contains Y bm hbm) (I.kIn _ _ hC) (PySem.W.looks_findIn I.kIn iC) (fun self => PySem.W.bind_fn I.kIn self tI) (by decide : ([] : List Value).length ≤ sizeLine)
    (codeAny_mono (F1.run _ X.stack _ _ ⟨[Value.ref (h0.objs.size + 1)], []⟩ (Value.ref (h0.objs.size + 1) :: ds) _ _ (fun _ _ _ => False) (hr.make C [] []) (I2.env0.make C [] []) (hb _ [Value.ref (h0.objs.size + 1)] I2.kIn hl) r2 z3) fun r s' hq' => ?_))
  cases r with
  | error er => exact hx pins σ _ _ er s' I2 hq'
  | ok fl =>
    cases fl with
    | ret u =>
      obtain ⟨v, H2, os2, bare2, un2, hok2, rv, ev, d, fs, ea, ed, hd1, q2⟩ := hq'
      subst ev
      obtain ⟨h2, g2, d2, t2, os'⟩ := s'
      exact ⟨rv, mk_end (raises_own T.exC T.tyC) I z1 z4 un2 hok2 os2 bare2 ea ed hd1 q2⟩
    | next => exact False.elim hq'
    | brk => exact False.elim hq'
    | cont => exact False.elim hq'
theorem ps_rsO0 (tkW : Takes X W) (G : Gi X.prog X.w X.K X.mg X.base k x ps sp dvs) (hr : Room j X.A) (hk : k + 1 ≤ j := by decide) (hc : X.calm = true := by rfl) (hg : Gl X x := by rfl) (hdb : (x == ("__debug__" : Str)) = false := by decide) :
    PS X (.Raise (some (.Call (.Name x p) [] [] pos)) none pos') (tRaiseO W (He.ga X.K x) sp dvs tNil) := by
  obtain ⟨fd, ds, F, hd, b⟩ := G.ex
  exact ps_raise hc tkW (pmk_oex0 G.xo.oc G.xo.ini G.xo.ti F (hr.mono hk) b hd passL hg G.gl hdb)
/-! ### f(k = e, ..) -/
structure Gdk (P : Program) (w : World) (K : PySem.W.Frag) (mg : Str → Option Value) (base : Heap) (k : Nat) (x : Str) (ps ks : List Str) (sp : Sp) : Prop where
  ex : ∃ fd, FnOk P w K mg base (L2.CX P w) k (He.ga K x) fd ps sp ∧ KBn K fd ps 0 ks (fun us ws => us ++ ws) (fun vs zs => vs ++ zs)
  gl : mg x = some (.ref (He.ga K x))
  kp : PySem.W.keepIn K (.ref (He.ga K x)) = true
def tCallK (sp : Sp) (n : Nat) (E : L2.St → XK) (tk : TA) : TE := fun σ H Q => tk σ H fun zs H2 => zs.length = n ∧ sp zs H2 Q (E σ)
theorem pe_gdk0 {E : L2.St → XK} (hx : ∀ σ, PassesAt (L2.CX X.prog X.w) X σ (E σ)) (G : Gdk X.prog X.w X.K X.mg X.base k x ps ks sp) (hr : Room j X.A) (hkw : PK X kws tk) (n : Nat) (hn : ks.length = n := by rfl) (hk : k ≤ j := by decide) (hg : Gl X x := by rfl)
    (hall : (backToKw pos (keywordEach kws X.env)).all (·.1.isSome) = true := by rfl) (hks : (backToKw pos (keywordEach kws X.env)).filterMap (·.1) = ks := by rfl)
    (hpl : ((backTo pos (starEach [] X.env)).any (·.1) || (backToKw pos (keywordEach kws X.env)).any (·.1.isNone)) = false := by rfl) (hdb : (x == ("__debug__" : Str)) = false := by decide) :
    PE X (.Call (.Name x p) [] kws pos) (tCallK sp n E tk) := by
  subst hn
  obtain ⟨fd, F, b⟩ := G.ex
  refine ⟨fun pins s σ H Q I h => ?_⟩
  refine wpAny_Call_Name_kw (ld_glob I hg G.gl ?_ hdb)
  refine PySem.W.callWith_KW0 (h₀ := X.base) (first := []) I.ok.mod.kin G.kp hall (thn (hkw.run pos pins s σ H _ I h) fun ws s2 ⟨zs, H2, I2, rz, hlen, q2⟩ => ⟨I2.kIn, ?_⟩) hpl
  rw [hks]
  exact run_kbnS (E := E) (us := []) (vs := []) F (hr.mono hk) b (hx σ) I2 .nil rz rfl (rz.length.symm.trans hlen) q2
theorem pe_gdk {n : Nat} (G : Gdk X.prog X.w X.K X.mg X.base k x ps ks sp) (hr : Room j X.A) (hkw : PK X kws tk) (hn : ks.length = n := by rfl) (hk : k ≤ j := by decide) (hg : Gl X x := by rfl)
    (hall : (backToKw pos (keywordEach kws X.env)).all (·.1.isSome) = true := by rfl) (hks : (backToKw pos (keywordEach kws X.env)).filterMap (·.1) = ks := by rfl)
    (hpl : ((backTo pos (starEach [] X.env)).any (·.1) || (backToKw pos (keywordEach kws X.env)).any (·.1.isNone)) = false := by rfl) (hdb : (x == ("__debug__" : Str)) = false := by decide) :
    PE X (.Call (.Name x p) [] kws pos) (tCallK sp n (fun _ => E0) tk) :=
  pe_gdk0 (E := fun _ => E0) (fun σ pins H s e s' I hq => passL pins σ H s e s' I hq) G hr hkw n hn hk hg hall hks hpl hdb
theorem pe_gdkX {n : Nat} (tkW : Takes X W) (G : Gdk X.prog X.w X.K X.mg X.base k x ps ks sp) (hr : Room j X.A) (hkw : PK X kws tk) (hn : ks.length = n := by rfl) (hk : k ≤ j := by decide) (hg : Gl X x := by rfl)
    (hall : (backToKw pos (keywordEach kws X.env)).all (·.1.isSome) = true := by rfl) (hks : (backToKw pos (keywordEach kws X.env)).filterMap (·.1) = ks := by rfl)
    (hpl : ((backTo pos (starEach [] X.env)).any (·.1) || (backToKw pos (keywordEach kws X.env)).any (·.1.isNone)) = false := by rfl) (hdb : (x == ("__debug__" : Str)) = false := by decide) :
    PE X (.Call (.Name x p) [] kws pos) (tCallK sp n (WE W) tk) := pe_gdk0 (fun σ => passAt tkW σ) G hr hkw n hn hk hg hall hks hpl hdb
end
/-- a statement that is never reached -/
def tNo : TS := fun _ _ _ => False
theorem ps_no {X : Cx} {st : Stmt} : PS X st tNo := ⟨fun _ _ _ _ _ _ h => h.elim⟩
section
variable {K : PySem.W.Frag} {σ : L2.St} {H : Hp} {Q : VK} {x : V} {xs : List V} {D : Ends} {as : TA} {sp : Sp} {n : Nat} {E : L2.St → XK}
def mRaiO (W : WX) (C : Addr) (sp : Sp) (dvs : List V) (σ : L2.St) (vs : List V) (H1 : Hp) : Prop := vs.length ≤ 1000 ∧ ∀ a, H1 a = none → sp (.ref a :: (vs ++ dvs)) (upd H1 a (exo a C none))
  (fun v H2 => v = .non ∧ ∃ (d : Addr) (fs : List (Str × V)), H2 a = some (exo a C (some d)) ∧ H2 d = some (exd d fs) ∧ H1 d = none ∧ W (.ref C) (some d) σ (upd (del H2 a) d (.xd fs))) (fun _ _ _ => False)
theorem x_rsO {W : WX} {C : Addr} {dvs : List V} (q : as σ H fun vs H1 => mRaiO W C sp dvs σ vs H1) : tRaiseO W C sp dvs as D σ H := q
theorem x_dget {td ty : TE} (q : td σ H fun x H1 => ty σ H1 fun y H2 => ∃ a v, x = .ref a ∧ DGet H2 a y (some v) ∧ Q v H2) : tDGet td ty σ H Q := q
theorem x_callK (q : as σ H fun vs H1 => vs.length = n ∧ sp vs H1 Q (E σ)) : tCallK sp n E as σ H Q := q
end
theorem Z.keep {H H' B : Hp} {R : List Seg} {p : Addr} {o : HO} (S : Z H B R) (e : Ex H H') (n : H p = none) (h : H' p = some o) : ∃ B', Ex B B' ∧ B' p = some o ∧ Z H' B' R := (S.add e n h).frz 0 rfl
/-! ### a def that asks repr, called where no repr is under way -/
structure GdG (P : Program) (w : World) (K : PySem.W.Frag) (mg : Str → Option Value) (base : Heap) (k : Nat) (x : Str) (ps : List Str) (sp : Sp) : Prop where
  ex : ∃ fd, FnG P w K mg base (L2.CX P w) k (He.ga K x) fd ps sp ∧ Binds K fd ps []
  gl : mg x = some (.ref (He.ga K x))
  kp : PySem.W.keepIn K (.ref (He.ga K x)) = true
theorem pe_gdG {X : Cx} {k j : Nat} {x : Str} {ps : List Str} {sp : Sp} {e : Expr} {es : List Expr} {t : TA} {p pos : Pos} (hgd : X.A.guards = some []) (G : GdG X.prog X.w X.K X.mg X.base k x ps sp) (hr : Room j X.A) (ha : PA X (e :: es) t) (hk : k ≤ j := by decide) (hg : Gl X x := by rfl)
    (hdb : (x == ("__debug__" : Str)) = false := by decide) (he : starEach (e :: es) X.env = (false, eval e X.env) :: starEach es X.env := by rfl) (hpl : (backTo pos (starEach es X.env)).any (·.1) = false := by rfl) :
    PE X (.Call (.Name x p) (e :: es) [] pos) (tCall sp [] E0 t) := by
  obtain ⟨fd, F, b⟩ := G.ex
  refine ⟨fun pins s σ H Q I h => ?_⟩
  refine wpAny_Call_Name_kw (ld_glob I hg G.gl ?_ hdb)
  refine PySem.W.callWith_K (h₀ := X.base) I.ok.mod.kin G.kp (thn (ha.run pos pins s σ H _ I h) fun us s1 ⟨vs, H1, I1, r, q⟩ => ⟨I1.kIn, ?_⟩) he hpl
  have r2 : Vals (vs ++ []) (us ++ []) := r.append .nil
  have hl : (us ++ []).length = ps.length := by rw [← r2.length]; exact F.len _ _ _ _ q
  refine wpAny_call (codeAny_mono (F.run X.A X.stack s1 H1 ⟨us, []⟩ (us ++ []) (vs ++ []) Q E0 hgd (hr.mono hk) I1.env0 (b s1 us I1.kIn hl) r2 q) fun r s' hq => ?_)
  cases r with
  | error e => exact passL pins σ H1 s1 e s' I1 hq
  | ok fl =>
    cases fl with
    | ret u => exact I1.after hq
    | next => exact False.elim hq
    | brk => exact False.elim hq
    | cont => exact False.elim hq
/-- an error of the own class u is caught by the own class v -/
abbrev ExM (K : PySem.W.Frag) (u v : Str) : Prop := PySem.W.exmOne K (.ref (He.ga K u)) (.ref (He.ga K v)) = some true
def exmB (K : PySem.W.Frag) (u v : Str) : Bool := decide (PySem.W.exmOne K (.ref (He.ga K u)) (.ref (He.ga K v)) = some true)
end FT

/-! FTW: words and numbers of texts: one sign in a text, join, a walk over a text's signs. -/
namespace FT
open PySem PySem.Spec PyProof.Rows L2
open TL (tl)
def qInG : R2 := fun x y H Q => ∃ (c : Nat) (z : Str), x = .str ⟨#[c]⟩ ∧ y = .str z ∧ Q (.bl (decide (c ∈ tl z))) H
theorem op_qInG {X : Cx} : OpR X (compareOp .In) qInG := op_in_sign
def qNotInG : R2 := fun x y H Q => ∃ (c : Nat) (z : Str), x = .str ⟨#[c]⟩ ∧ y = .str z ∧ Q (.bl (!decide (c ∈ tl z))) H
theorem op_qNotInG {X : Cx} : OpR X (compareOp .NotIn) qNotInG := op_notIn_sign
def qJoin (K : PySem.W.Frag) : V → List V → Hp → VK → Prop := fun x xs H Q => ∃ a p, ∃ ys : List Str, x = .str a ∧ xs = [.ref p] ∧ (SqL K H p (ys.map V.str) ∨ SqT K H p (ys.map V.str)) ∧ (ys.map (·.length)).sum + ys.length * a.length ≤ 16777216 ∧ Q (.str (Txt.join a ys)) H
theorem mt_qJoin {X : Cx} : MtM X "str.join" (qJoin X.K) := mt_join
section
variable {K : PySem.W.Frag} {σ σ' : L2.St} {H H' B : Hp} {R : List Seg} {Q : VK} {D : Ends} {te : TE} {tt : TT} {z : Str} {i : Int} {c : Nat} {p : Addr}
theorem x_ixS (hl : z.length ≤ sizeLine) (hv : atI (tl z) i = some c) (q : Q (.str ⟨#[c]⟩) H) : qIx K (.str z) (.int i) H Q := .inr (.inr ⟨z, i, c, rfl, rfl, hl, hv, q⟩)
theorem x_inG (q : Q (.bl (decide (c ∈ tl z))) H) : qInG (.str ⟨#[c]⟩) (.str z) H Q := ⟨c, z, rfl, rfl, q⟩
theorem x_notInG (q : Q (.bl (!decide (c ∈ tl z))) H) : qNotInG (.str ⟨#[c]⟩) (.str z) H Q := ⟨c, z, rfl, rfl, q⟩
theorem x_strI {Rr : It → Hp → Prop} (q : te σ H fun v H1 => ∃ x, v = .str x ∧ Rr (Its x) H1) : iStr te σ H Rr := q
theorem z_strI {A : Str → Prop} (q : A z) : ∃ x, V.str z = .str x ∧ A x := ⟨z, rfl, q⟩
theorem x_join {ys : List Str} (h : SqL K H p (ys.map V.str)) (hz : (ys.map (·.length)).sum + ys.length * z.length ≤ 16777216) (q : Q (.str (Txt.join z ys)) H) : qJoin K (.str z) [.ref p] H Q := ⟨z, p, ys, rfl, rfl, .inl h, hz, q⟩
theorem x_intS {n : Int} (h : PySem.intText? z = some n) (hl : z.length ≤ 640) (q : Q (.int n) H) : qInt [.str z] H Q := .inr ⟨z, n, rfl, h, hl, q⟩
theorem z_lcS {g : TG} {vs : List Nat} (S : Z H B R) (z : Str) (L : Nat → List V) (h0 : L 0 = [])
    (hs : ∀ (k : Nat) c D H1, (tl z)[k]? = some c → Z H1 B ([(D, .lst (L k))] :: R) → g (.str ⟨#[c]⟩) (wipe σ vs) H1 fun σ2 H3 => wipe σ2 vs = wipe σ vs ∧ tt σ2 H3 fun b H4 => if b = true then te σ2 H4 (mApp D (Gro B R D (L (k + 1)))) else Gro B R D (L (k + 1)) H4)
    (hq : ∀ D H', Z H' B ([(D, .lst (L z.length))] :: R) → Q (.ref D) H') : mLc g tt te vs σ Q (Its z) H := by
  refine z_lc S z.length L h0 (fun i D H' h S' => h) (fun D H' S' => Nat.le_refl _) (fun i D H1 x H2 hi S1 y => ?_) hq
  obtain ⟨rfl, c, hc, rfl⟩ := y
  exact hs i c D _ (by rw [show tl z = z.cps.toList from rfl, Array.getElem?_toList]; exact hc) S1
/-- a list that is added up -/
theorem sum_len {n : Nat} : ∀ {ys : List Str}, (∀ y ∈ ys, y.length ≤ n) → (ys.map (·.length)).sum ≤ ys.length * n
  | [], _ => by simp
  | y :: ys, h => by
    have h1 := h y List.mem_cons_self
    have h2 := sum_len (ys := ys) fun x hx => h x (List.mem_cons_of_mem _ hx)
    rw [List.map_cons, List.sum_cons, List.length_cons, Nat.succ_mul]
    omega
end
/-! ### numbers -/
def isDg (c : Nat) : Bool := decide (c ∈ tl ("0123456789" : Str))
theorem isDg_iff (c : Nat) : isDg c = true ↔ 48 ≤ c ∧ c ≤ 57 := by
  have e : tl ("0123456789" : Str) = [48, 49, 50, 51, 52, 53, 54, 55, 56, 57] := by decide +kernel
  unfold isDg
  rw [e, decide_eq_true_iff]
  simp only [List.mem_cons, List.not_mem_nil, or_false]
  omega
/-- the number that a word stands for -/
def numS (w : Str) : Option Nat := if tl w = [] then none else if (tl w).all isDg = false then none else if (tl w).head? = some 48 ∧ w ≠ "0" then none else some (PySem.NumText.digitsVal (tl w))
theorem all_dg {l : List Nat} (h : l.all isDg = true) : PySem.NumText.AllDigits l := fun c hc => (isDg_iff c).mp (List.all_eq_true.mp h c hc)
theorem int_dg {w : Str} (h : (tl w).all isDg = true) (h1 : tl w ≠ []) (h2 : w.length ≤ 4300) : PySem.intText? w = some ((PySem.NumText.digitsVal (tl w) : Nat) : Int) := PySem.intText_digits (all_dg h) h1 h2
theorem tl_nil {w : Str} : tl w = [] ↔ w = "" := ⟨fun h => TL.ext_tl (h.trans (by decide +kernel)), fun h => by rw [h]; decide +kernel⟩
end FT

/-! FTJ: int(text) of up to 4300 digits. -/
namespace FT
open PySem PySem.Spec PySem.Calls PySem.NumText PyProof.Rows L2
/-- nobody has turned the limit of digits -/
abbrev DigF (K : PySem.W.Frag) : Prop := PySem.W.nsIn K cStatics "sys.int_max_str_digits" = some none
theorem looks_dig {K : PySem.W.Frag} {M : Model} {h : Heap} (X : K.In h) (e : DigF K) : PySem.W.Looks M h Builtin.intMaxStrDigits 4300 := by
  unfold Builtin.intMaxStrDigits
  exact (PySem.W.looks_nsIn X e).andThen (PySem.W.Looks.of_pure rfl)
theorem wp_textL {M : Model} {A : Around} {E : Value → Shared → Prop} {s : Shared} {Q : Value → Shared → Prop} {v : Value} {text : List Nat} {n : Int}
    (hs : ¬ (text.takeWhile (· != 0)).length ≤ 640) (hd : PySem.W.Looks M s.heap Builtin.intMaxStrDigits 4300) (hr : (int_private% "readNumeral") 4300 10 (text.takeWhile (· != 0)) = (int_private% "Numeral.value") n)
    (ha : ((text.takeWhile (· != 0)).length == text.length) = true) (h : Q (.int n s.toks) { s with toks := s.toks + 1 }) :
    wpAny M A ((int_private% "intFromText") v text 10) Q E s := by
  obtain ⟨hp, g, d, tk, os⟩ := s
  repeat (any_goals (first
    | assumption
    | (with_reducible refine wpAny_ite_false (decide_eq_false hs) ?_)
    | (with_reducible refine wpAny_ite_true (decide_eq_true ha) ?_)
    | (with_reducible refine hd.at ?_)
    | wp_step))
  all_goals (try rw [hr])
  all_goals (try dsimp only)
  repeat (any_goals (first
    | assumption
    | (with_reducible refine wpAny_ite_false (decide_eq_false hs) ?_)
    | (with_reducible refine wpAny_ite_true (decide_eq_true ha) ?_)
    | wp_step))
structure Held (p : Prop) : Prop where
  out : p
theorem meets_textL {x : PySem.Str} {u : Tok} {n : Int} (h1 : x.length ≤ 4300) (hn : PySem.intText? x = some n) :
    Meets (Builtin.«int.__new__» ⟨[.type "int", .str x u], []⟩) fun _ R s => (∃ K : PySem.W.Frag, K.In s.heap ∧ DigF K) ∧ R (.ok (.ret (.int n s.toks))) { s with toks := s.toks + 1 } := by
  intro prog w A R s ⟨⟨K, X, e⟩, h⟩
  by_cases hl : x.length ≤ 640
  · exact (PySem.W.KIN.gives_text hl hn).meets prog w A R s h
  have hd := looks_dig (M := model prog w) X e
  refine wpAny_mono (Q := fun fin s' => ∃ v, fin = .done (.ret v) ∧ v = .int n s.toks ∧ s' = { s with toks := s.toks + 1 }) ?_ (fun fin s' ⟨v, e1, e2, e3⟩ => by subst e1 e2 e3; exact h) fun _ _ z => z
  obtain ⟨hp, g, d, tk, os⟩ := s
  have f1 := F.conv_sub_int
  have f2 := F.madeHere_int
  have f3 := PySem.W.KIN.str_int
  have f4 := PySem.W.KIN.str_idx
  have f5 := PySem.W.KIN.str_trunc
  have f6 : typeOf (.str x u) = pure (.type "str") := rfl
  by_cases hs : (numSeenOf x).length ≤ 640
  · have hr : (int_private% "readNumeral") 0 10 (numSeenOf x) = (int_private% "Numeral.value") n ∧ ((numSeenOf x).length == (numTextOf x).length) = true := by
      rcases read0 x hs with ⟨m, h1, h2, h3⟩ | ⟨h1, _⟩
      · rw [hn] at h1
        injection h1 with h1
        subst h1
        exact ⟨h3, h2⟩
      · rw [hn] at h1
        cases h1
    have hk := Held.mk (And.intro hs hr)
    clear hs hr h1 hl hn
    repeat (any_goals (first
      | assumption
      | ((with_reducible show wpAny _ _ ((int_private% "intFromText") _ _ _) _ _ _); refine PySem.W.KIN.wp_text hk.out.1 hk.out.2.1 hk.out.2.2 ?_)
      | wp_step))
    all_goals first | exact ⟨_, rfl, rfl, rfl⟩ | skip
  · have hr : (int_private% "readNumeral") 4300 10 (numSeenOf x) = (int_private% "Numeral.value") n ∧ ((numSeenOf x).length == (numTextOf x).length) = true := by
      rcases read4300 x (by rw [sizeLine_eq]; omega) with ⟨m, h1, h2, h3⟩ | ⟨h1, _⟩
      · rw [hn] at h1
        injection h1 with h1
        subst h1
        exact ⟨h3, h2⟩
      · rw [hn] at h1
        cases h1
    have hk := Held.mk (And.intro hs hr)
    clear hs hr h1 hl hn
    repeat (any_goals (first
      | assumption
      | ((with_reducible show wpAny _ _ ((int_private% "intFromText") _ _ _) _ _ _); refine wp_textL hk.out.1 hd hk.out.2.1 hk.out.2.2 ?_)
      | wp_step))
    all_goals first | exact ⟨_, rfl, rfl, rfl⟩ | skip
def qIntL (K : PySem.W.Frag) : List V → Hp → VK → Prop := fun xs H Q => ∃ a n, xs = [.str a] ∧ PySem.intText? a = some n ∧ a.length ≤ 4300 ∧ DigF K ∧ Q (.int n) H
theorem call_qIntL {X : Cx} : CallR X (.type "int") (qIntL X.K) := by
  intro pins s σ H xs us Q I rs h
  obtain ⟨a, n, rfl, hn, hl, hd, h⟩ := h
  cases rs with
  | cons r1 rs =>
    cases rs
    obtain ⟨t, rfl⟩ := r1
    exact call_int_1 (meets_textL hl hn) ⟨⟨X.K, I.kIn, hd⟩, rfl, ⟨.int n, H, I.tok _, ⟨_, rfl⟩, h⟩⟩
def digB (K : PySem.W.Frag) : Bool := He.eqO (PySem.W.nsIn K cStatics "sys.int_max_str_digits") (some none)
theorem digB_ok {K : PySem.W.Frag} (h : digB K = true) : DigF K := He.eqO_ok h
end FT

/-! FTK: several except clauses, with a name or without. -/
namespace FT
open PySem PySem.Spec PyProof.Rows L2
/-- a clause: its class, the slot of its name, its suite -/
structure Cl where
  c : Value
  i : Option Nat
  ts : Addr → Value → Option Addr → TS
/-- what a suite that holds the error in slot i asks -/
def clRun (i : Option Nat) (ts : Addr → Value → Option Addr → TS) (D : Ends) (a : Addr) (cls : Value) (d : Option Addr) (σ : L2.St) (H : Hp) : Prop := match i with
  | none => ts a cls d D σ H
  | some i => ts a cls d { nx := fun σ' H' => D.nx (σ'.set i none) H', rt := D.rt, bk := fun σ' H' => D.bk (σ'.set i none) H', ct := fun σ' H' => D.ct (σ'.set i none) H' } (σ.set i (some (.ref a))) H
def wAll (K : PySem.W.Frag) (Wout : WX) (D : Ends) : List Cl → WX
  | [] => Wout
  | k :: r => fun cls d σ H => ∃ b, PySem.W.exmOne K cls k.c = some b ∧ (b = true → ∀ a, H a = none → clRun k.i k.ts D a cls d σ H) ∧ (b = false → wAll K Wout D r cls d σ H)
inductive Hds (X : Cx) : List ExceptHandler → List Cl → Prop
  | nil : Hds X [] []
  | plain {x : Str} {c : Value} {ts : Addr → Value → Option Addr → TS} {b₀ : Stmt} {suite : List Stmt} {np pos' : Pos} {hds : List ExceptHandler} {l : List Cl} (hc : Names X x c)
      (hsu : ∀ (a : Addr) (oe : Obj) (cls : Value) (d : Option Addr) (pn : List (Addr × Obj)), Zc cls d oe → (∃ vs, oe.data = .fields vs) → PSs (X.suite a ((a, oe) :: pn)) (b₀ :: suite) (ts a cls d)) (r : Hds X hds l) :
      Hds X (.ExceptHandler (some (.Name x np)) none (b₀ :: suite) pos' :: hds) (⟨c, none, ts⟩ :: l)
  | named {x n : Str} {i : Nat} {c : Value} {ts : Addr → Value → Option Addr → TS} {b₀ : Stmt} {suite : List Stmt} {np pos' : Pos} {hds : List ExceptHandler} {l : List Cl} (hc : Names X x c) (hi : X.N[i]? = some n) (hln : X.env.kindOf n = some .local)
      (hsu : ∀ (a : Addr) (oe : Obj) (cls : Value) (d : Option Addr) (pn : List (Addr × Obj)), Zc cls d oe → (∃ vs, oe.data = .fields vs) → PSs (X.suite a ((a, oe) :: pn)) (b₀ :: suite) (ts a cls d)) (r : Hds X hds l) :
      Hds X (.ExceptHandler (some (.Name x np)) (some n) (b₀ :: suite) pos' :: hds) (⟨c, some i, ts⟩ :: l)
section
variable {X : Cx} {body : List Stmt} {h₀ : ExceptHandler} {hds : List ExceptHandler} {l : List Cl} {pos : Pos} {tb : WX → TS} {Wout : WX}
theorem ps_try_all (hs : X.stack = X.env :: X.outer) (hf : X.env.frame = some X.env.locals) (hN : X.N.Nodup) (tk : Takes X Wout)
    (hb : ∀ (W : WX) (pn : List (Addr × Obj)) (xe : Value → Shared → Prop), Takes (X.tr pn xe) W → PassesOwn (model X.prog X.w) X.A X.env xe → PSs (X.tr pn xe) body (tb W))
    (hh : Hds X (h₀ :: hds) l) : PS X (.Try body (h₀ :: hds) [] [] pos) (fun D σ H => tb (wAll X.K Wout D l) D σ H) := by
  refine ⟨fun pins s σ H D I h => ?_⟩
  have xok := I.ok
  have xfr : X.A.frames = some (X.env :: X.outer) := by rw [xok.frames, hs]
  refine wpAny_Try_except ?_
  refine wpAny_mono ((hb (wAll X.K Wout D l) (X.pn ++ pins) (fun e q₁ => wpAny (model X.prog X.w) X.A (noteFrame e X.env) (fun _ q₂ => wpAny (model X.prog X.w) X.A (setFlight e none) (fun _ q₃ =>
    wpAny (model X.prog X.w) X.A (handleBy e X.env (h₀ :: hds)) (SP X pins D) X.xe q₃) X.xe q₂) X.xe q₁) (fun u r xx => ?_) PassesOwn.looking).run [] s σ H D (I.toTry _) h) (fun f r hsp => ?_) (fun e r he => he)
  · obtain ⟨a, B, sI, pinsB, σB, HB, cls, d, rfl, JB, nb, up, sky, na, os, ag, w⟩ := xx
    have J : Inv X pins σB HB sI := JB.ofTry xok
    have skyB : Sky B (X.env :: X.outer) a (Zc cls d) X.env.locals r.heap := by rw [← hs]; exact sky
    show wpAny (model X.prog X.w) X.A (noteFrame (.ref a) X.env) _ _ _
    refine Sky.land Zc.steady xfr hf skyB fun g3 fl3 up3 => ?_
    have J3 : Inv X pins σB HB { r with heap := g3 } := J.landed nb fl3.1 (up.trans up3) os ag
    obtain ⟨oe3, us3, hg3, hz3, hd3⟩ := fl3.there
    have offFr : a ∉ frs (X.env :: X.outer) := fun hm => by
      obtain ⟨_, o1, e1, hnf⟩ := fl3.2.2.1.mem hm
      rw [hg3] at e1
      cases e1
      exact hnf _ hd3
    have nL : a ≠ X.env.locals := fun z => offFr (List.mem_filterMap.mpr ⟨X.env, List.mem_cons_self, by rw [hf, z]⟩)
    have nF : a ∉ X.fs := fun hm => by
      obtain ⟨e, he, q⟩ := List.mem_filterMap.mp hm
      exact offFr (List.mem_filterMap.mpr ⟨e, List.mem_cons_of_mem _ he, q⟩)
    have S3 := J3.suite hg3 hd3 na nL nF
    have go : ∀ {hx : List ExceptHandler} {lx : List Cl}, Hds X hx lx → wAll X.K Wout D lx cls d σB HB →
        wpAny (model X.prog X.w) X.A (handleBy (.ref a) X.env hx) (SP X pins D) X.xe { r with heap := g3 } := by
      intro hx lx hk
      -- whether the class fits
      have look : ∀ {x : Str} {c : Value} {np : Pos} {b : Bool} {Q : Bool → Shared → Prop} {E : Value → Shared → Prop}, Names X x c → PySem.W.exmOne X.K cls c = some b → Q b { r with heap := g3 } →
          wpAny (model X.prog X.w) (X.A.mark (some (.ref a))) (eval (.Name x np) X.env) (fun v q => wpAny (model X.prog X.w) (X.A.mark (some (.ref a))) (excMatches (.ref a) v) Q E q) E { r with heap := g3 } := by
        intro x c np b Q E hc hb1 q
        have LT : PySem.W.Looks (model X.prog X.w) g3 (typeOf (.ref a)) cls := fun A Q E s k q => wpAny_typeOf_ref (k _ _ hg3) (by rw [hz3.1]; exact q)
        have LM := PySem.W.exm_one (M := model X.prog X.w) (J3.kIn) LT hb1
        obtain ⟨hg, hdbg, hm | ⟨hm, hv, hnn⟩⟩ := hc
        · exact ld_glob (X := X.suite a ((a, oe3) :: (X.pn ++ pins))) S3 hg hm (LM.here q) hdbg
        · exact ld_blt (X := X.suite a ((a, oe3) :: (X.pn ++ pins))) S3 hg hm hv (LM.here q) hnn hdbg
      induction hk with
      | nil =>
        intro w
        refine wpAny_handleBy_nil ?_
        obtain ⟨k1, k2, k3, oe, us, T, oT, tt, he, hz, hd, h1, hr⟩ := id fl3
        unfold PySem.passOn
        refine wpAny_bind (wpAny_field he hd h1 ?_)
        rw [if_neg (show ¬ ((Value.ref T == Value.none) = true) from by simp)]
        have last : wpAny (model X.prog X.w) X.A (setFlight (.ref a) X.env.frame) (fun _ q4 => wpAny (model X.prog X.w) X.A (throw (.ref a) : Sem Flow) (SP X pins D) X.xe q4) X.xe { r with heap := g3 } := by
          rw [hf]
          refine HandSPX.setFlight_upZ fl3 fun g4 hh4 up4 => wpAny_throw (tk _ _ ?_)
          exact ⟨a, B, sI, pins, σB, HB, cls, d, rfl, J, nb, (up.trans up3).trans up4, .inr (.inr (by rw [hs]; exact hh4)), na, os, ag, w⟩
        first
          | exact wpAny_bind (wpAny_pure (wpAny_bind last))
          | exact wpAny_bind last
      | @plain x c ts b₀ suite np pos' hds2 l2 hc hsu rr ih =>
        intro w
        obtain ⟨b, hb1, hyes, hno⟩ := w
        refine wpAny_handleBy_cons (codeAny_handlers_test ?_) (by intro q; cases q)
        refine look hc hb1 ?_
        cases b with
        | true =>
          refine codeAny_handlers_suite ?_
          refine HandSPX.lands_againZ fl3 fun g4 fl4 up4 => ?_
          have J4 : Inv X pins σB HB { r with heap := g4 } := J.landed nb fl4.1 ((up.trans up3).trans up4) os ag
          obtain ⟨oe4, us4, hg4, hz4, hd4⟩ := fl4.there
          have S4 := J4.suite hg4 hd4 na nL nF
          refine wpAny_mono ((hsu a oe4 cls d (X.pn ++ pins) hz4 ⟨_, hd4⟩).run [] _ _ HB _ S4 (hyes rfl a na)) (fun f s6 hsp => ?_) (fun _ _ z => False.elim z)
          cases f with
          | next =>
            obtain ⟨σ6, H6, S6, q6⟩ := hsp
            exact ⟨_, _, S6.unsuite xok, q6⟩
          | brk =>
            obtain ⟨σ6, H6, S6, q6⟩ := hsp
            exact ⟨_, _, S6.unsuite xok, q6⟩
          | cont =>
            obtain ⟨σ6, H6, S6, q6⟩ := hsp
            exact ⟨_, _, S6.unsuite xok, q6⟩
          | ret u =>
            obtain ⟨v6, σ6, H6, S6, r6, q6⟩ := hsp
            exact ⟨_, _, _, S6.unsuite xok, r6, q6⟩
        | false =>
          show wpAny _ X.A (handleBy (.ref a) X.env hds2) _ _ _
          exact ih (hno rfl)
      | @named x n i c ts b₀ suite np pos' hds2 l2 hc hi hln hsu rr ih =>
        intro w
        obtain ⟨b, hb1, hyes, hno⟩ := w
        refine wpAny_handleBy_cons (codeAny_handlers_test ?_) (by intro q; cases q)
        refine look hc hb1 ?_
        cases b with
        | true =>
          refine codeAny_handlers_suite_as ?_
          refine HandSPX.lands_againZ fl3 fun g4 fl4 up4 => ?_
          have J4 : Inv X pins σB HB { r with heap := g4 } := J.landed nb fl4.1 ((up.trans up3).trans up4) os ag
          obtain ⟨oe4, us4, hg4, hz4, hd4⟩ := fl4.there
          have S4 := J4.suite hg4 hd4 na nL nF
          refine store_ok (X := X.suite a ((a, oe4) :: (X.pn ++ pins))) (v := .ref a) S4 hN hi (.inl hln) rfl (fun s5 S5 => ?_) (.inr hln)
          refine wpAny_mono ((hsu a oe4 cls d (X.pn ++ pins) hz4 ⟨_, hd4⟩).run [] s5 _ HB _ S5 (hyes rfl a na)) (fun f s6 hsp => ?_) (fun _ _ z => False.elim z)
          have off : ∀ {σ6 : L2.St} {H6 : Hp} {Q : Shared → Prop}, Inv (X.suite a ((a, oe4) :: (X.pn ++ pins))) [] σ6 H6 s6 → (∀ s7, Inv X pins (σ6.set i none) H6 s7 → Q s7) →
              wpAny (model X.prog X.w) X.A (do bindName X.env n .none; unbindBehindTheSuite X.env n pos') (fun _ s7 => Q s7) X.xe s6 := fun {σ6 H6 Q} S6 hq => gone_ok (S6.unsuite xok) hN hi hln hq
          cases f with
          | next =>
            obtain ⟨σ6, H6, S6, q6⟩ := hsp
            exact off S6 fun s7 J7 => ⟨_, _, J7, q6⟩
          | brk =>
            obtain ⟨σ6, H6, S6, q6⟩ := hsp
            exact off S6 fun s7 J7 => ⟨_, _, J7, q6⟩
          | cont =>
            obtain ⟨σ6, H6, S6, q6⟩ := hsp
            exact off S6 fun s7 J7 => ⟨_, _, J7, q6⟩
          | ret u =>
            obtain ⟨v6, σ6, H6, S6, r6, q6⟩ := hsp
            exact off S6 fun s7 J7 => ⟨_, _, _, J7, r6, q6⟩
        | false =>
          show wpAny _ X.A (handleBy (.ref a) X.env hds2) _ _ _
          exact ih (hno rfl)
    exact go hh w
  · cases f with
    | next =>
      obtain ⟨σE, HE, JE, q⟩ := hsp
      exact wpAny_execs_nil ⟨σE, HE, JE.ofTry xok, q⟩
    | brk =>
      obtain ⟨σE, HE, JE, q⟩ := hsp
      exact ⟨σE, HE, JE.ofTry xok, q⟩
    | cont =>
      obtain ⟨σE, HE, JE, q⟩ := hsp
      exact ⟨σE, HE, JE.ofTry xok, q⟩
    | ret u =>
      obtain ⟨v, σE, HE, JE, rv, q⟩ := hsp
      exact ⟨v, σE, HE, JE.ofTry xok, rv, q⟩
end
def xf2B (K : PySem.W.Frag) (x f : Str) : Bool := xfB K (He.ga K x) && He.eqO (PySem.W.findIn K (.ref (He.ga K x)) f) (some none)
theorem xf2B_ok {K : PySem.W.Frag} {x f : Str} (h : xf2B K x f = true) : XfC K (He.ga K x) ∧ PySem.W.findIn K (.ref (He.ga K x)) f = some none := ⟨xfB_ok (ba2 h).1, He.eqO_ok (ba2 h).2⟩
end FT

local macro_rules | `(tactic| walk_at "zh") => `(tactic| first
  | assumption
  | ((refine' FT.Z.at_ ?zS 0 0 ?z1 ?z2); (case zS => assumption); (case z1 => rfl); (case z2 => rfl))
  | ((refine' FT.Z.at_ ?zS 1 0 ?z1 ?z2); (case zS => assumption); (case z1 => rfl); (case z2 => rfl))
  | ((refine' FT.Z.at_ ?zS 2 0 ?z1 ?z2); (case zS => assumption); (case z1 => rfl); (case z2 => rfl))
  | ((refine' FT.Z.at_ ?zS 3 0 ?z1 ?z2); (case zS => assumption); (case z1 => rfl); (case z2 => rfl))
  | ((refine' FT.Z.at_ ?zS 4 0 ?z1 ?z2); (case zS => assumption); (case z1 => rfl); (case z2 => rfl))
  | ((refine' FT.Z.at_ ?zS 5 0 ?z1 ?z2); (case zS => assumption); (case z1 => rfl); (case z2 => rfl)))
local macro_rules | `(tactic| walk_at "zl") => `(tactic| first
  | assumption
  | ((refine' FT.Z.l ?zS ?z1); (case zS => assumption); (case z1 => assumption))
  | ((refine' FT.sq_l ?zk); (case zk => walk_at "zh")))
local macro_rules | `(tactic| walk_at "zt") => `(tactic| first
  | assumption
  | ((refine' FT.Z.t ?zS ?z1); (case zS => assumption); (case z1 => assumption))
  | ((refine' FT.sq_t ?zk); (case zk => walk_at "zh")))
local macro_rules | `(tactic| walk_at "zn") => `(tactic| first | decide | omega | (simp; done) | (simp; omega) | (simp [FT.sz]; done) | (simp [FT.sz]; omega) | (simp [FT.sz] at *; omega))
local macro_rules | `(tactic| walk_at "z1") => `(tactic| first
  | with_reducible refine FT.x_seq ?_
  | with_reducible refine FT.x_asg ?_
  | (with_reducible refine FT.x_gname ?_; try dsimp only [List.set])
  | ((with_reducible refine' FT.x_var ?zh ?zq); (case zh => rfl))
  | with_reducible refine FT.x_c ?_
  | with_reducible refine FT.x_op ?_
  | with_reducible refine FT.x_nil ?_
  | with_reducible refine FT.x_cons ?_
  | with_reducible refine FT.x_cb ?_
  | with_reducible refine FT.x_call ?_
  | with_reducible refine FT.x_callS ?_
  | with_reducible refine FT.x_test ?_
  | with_reducible refine FT.x_B ?_
  | with_reducible refine FT.z_bl ?_
  | with_reducible refine FT.z_blE ?_
  | with_reducible refine FT.x_ifs ?_
  | with_reducible refine FT.x_if ?_
  | with_reducible refine FT.x_not ?_
  | with_reducible refine FT.x_and ?_
  | with_reducible refine FT.x_or ?_
  | with_reducible refine FT.x_andV ?_
  | with_reducible refine FT.x_orV ?_
  | with_reducible refine FT.x_notV ?_
  | with_reducible refine FT.x_un ?_
  | with_reducible refine FT.x_neg ?_
  | with_reducible refine FT.x_ret ?_
  | with_reducible refine FT.x_retN ?_
  | with_reducible refine FT.x_drop ?_
  | with_reducible refine FT.x_next ?_
  | with_reducible refine FT.x_brk ?_
  | with_reducible refine FT.x_ct ?_
  | with_reducible refine FT.x_addI ?_
  | with_reducible refine FT.x_subI ?_
  | with_reducible refine FT.x_ltI ?_
  | with_reducible refine FT.x_leI ?_
  | with_reducible refine FT.x_gtI ?_
  | with_reducible refine FT.x_geI ?_
  | with_reducible refine FT.x_eqI ?_
  | with_reducible refine FT.x_neI ?_
  | with_reducible refine FT.x_eqS ?_
  | with_reducible refine FT.x_neS ?_
  | with_reducible refine FT.x_is ?_
  | with_reducible refine FT.x_isnot ?_
  | with_reducible refine FT.x_max ?_
  | with_reducible refine FT.x_min ?_
  | with_reducible refine FT.x_abs ?_
  | with_reducible refine FT.x_ipI ?_
  | with_reducible refine FT.x_lst ?_
  | with_reducible refine FT.x_tup ?_
  | with_reducible refine FT.x_sl ?_
  | with_reducible refine FT.x_nopart ?_
  | with_reducible refine FT.x_part ?_
  | with_reducible refine FT.z_part ?_
  | with_reducible refine FT.x_bm ?_
  | with_reducible refine FT.x_bm0 ?_
  | with_reducible refine FT.x_gcons ?_
  | with_reducible refine FT.x_gnil ?_
  | with_reducible refine FT.x_gsub ?_
  | with_reducible refine FT.x_augS ?_
  | ((with_reducible refine' FT.x_aug ?zh ?zq); (case zh => rfl))
  | with_reducible refine FT.x_par ?_
  | (with_reducible refine FT.z_par ?_; try dsimp only [List.set])
  | with_reducible refine FT.x_par3 ?_
  | (with_reducible refine FT.z_par3 ?_; try dsimp only [List.set])
  | with_reducible refine FT.x_intI ?_
  | with_reducible refine FT.x_intB ?_
  | with_reducible refine FT.x_lstRg ?_
  | with_reducible refine FT.x_rg1 ?_
  | with_reducible refine FT.x_rg2 ?_
  | with_reducible refine FT.z_rg1 ?_
  | with_reducible refine FT.z_rg2 ?_
  | with_reducible refine FT.x_fld ?_
  | with_reducible refine FT.x_sfld ?_
  | with_reducible refine FT.x_meth ?_
  | with_reducible refine FT.x_methK ?_
  | with_reducible refine FT.x_prop ?_
  | with_reducible refine FT.x_go ?_
  | with_reducible refine FT.x_gok ?_
  | with_reducible refine FT.z_go ?_
  | with_reducible refine FT.z_gok ?_
  | with_reducible refine FT.x_cval ?_
  | with_reducible refine FT.x_dinN ?_
  | with_reducible refine FT.x_din ?_
  | with_reducible refine FT.x_dput ?_
  | with_reducible refine FT.x_dget ?_
  | with_reducible refine FT.x_inG ?_
  | with_reducible refine FT.x_notInG ?_
  | with_reducible refine FT.x_strI ?_
  | with_reducible refine FT.z_strI ?_
  | with_reducible refine FT.x_callK ?_
  | with_reducible refine FT.x_rsO ?_
  | with_reducible refine FT.x_rev ?_
  | with_reducible refine FT.x_for ?_
  | with_reducible refine FT.x_rng1 ?_
  | with_reducible refine FT.x_rng2 ?_
  | with_reducible refine FT.x_enum ?_
  | with_reducible refine FT.x_enumB ?_
  | with_reducible refine FT.x_sortSet ?_
  | with_reducible refine FT.x_seqI ?_
  | with_reducible refine FT.x_star ?_
  | with_reducible refine FT.x_lc ?_
  | with_reducible refine FT.x_zip ?_
  | with_reducible refine FT.x_yes ?_
  | with_reducible refine FT.z_iftrue ?_
  | with_reducible refine FT.z_iffalse ?_
  | with_reducible refine FT.x_raise ?_
  | ((with_reducible refine' FT.x_wipe ?zh ?zq); (case zh => rfl))
  | ((with_reducible refine' FT.z_zip ?zh ?zl ?zq); (case zh => walk_at "zl"); (case zl => walk_at "zl"))
  | ((with_reducible refine' FT.z_enum ?zh ?zq); (case zh => walk_at "zl"))
  | ((with_reducible refine' FT.z_star ?zh ?zq); (case zh => walk_at "zl"))
  | ((with_reducible refine' FT.z_tyL ?zh ?zq); (case zh => walk_at "zl"))
  | ((with_reducible refine' FT.x_lenL ?zh ?zq); (case zh => walk_at "zl"))
  | ((with_reducible refine' FT.x_lenT ?zh ?zq); (case zh => walk_at "zt"))
  | ((with_reducible refine' FT.z_seqL ?zh ?zq); (case zh => walk_at "zl"))
  | ((with_reducible refine' FT.z_seqT ?zh ?zq); (case zh => walk_at "zt"))
  | ((with_reducible refine' FT.x_gtup ?zh ?zl ?zq); (case zh => walk_at "zt"); (case zl => rfl))
  | ((with_reducible refine' FT.z_lst ?zh ?zl ?zq); (case zh => assumption); (case zl => walk_at "zn"))
  | ((with_reducible refine' FT.z_tup ?zh ?zl ?zq); (case zh => assumption); (case zl => walk_at "zn")))
local macro_rules | `(tactic| walk_at "z") => `(tactic| repeat walk_at "z1")
local macro_rules | `(tactic| walk_at "zi") => `(tactic| repeat ((fail_if_success with_reducible refine FT.x_ifs ?_); (fail_if_success with_reducible refine FT.x_if ?_); (fail_if_success with_reducible refine FT.x_for ?_); walk_at "z1"))
local macro_rules | `(tactic| walk_at "len") => `(tactic| (intro h; first
  | exact h.1
  | (obtain ⟨h2, _⟩ := h; exact congrArg List.length h2)
  | (obtain ⟨_, h2, _⟩ := h; exact congrArg List.length h2)
  | (obtain ⟨_, _, h2, _⟩ := h; exact congrArg List.length h2)
  | (obtain ⟨_, _, _, h2, _⟩ := h; exact congrArg List.length h2)
  | (obtain ⟨_, _, _, _, h2, _⟩ := h; exact congrArg List.length h2)
  | (obtain ⟨_, _, _, _, _, h2, _⟩ := h; exact congrArg List.length h2)
  | (obtain ⟨_, _, _, _, _, _, h2, _⟩ := h; exact congrArg List.length h2)
  | (obtain ⟨_, _, _, _, _, _, _, h2, _⟩ := h; exact congrArg List.length h2)
  | (obtain ⟨_, _, _, _, _, _, _, _, h2, _⟩ := h; exact congrArg List.length h2)
  | (obtain ⟨_, _, _, _, _, _, _, _, _, h2, _⟩ := h; exact congrArg List.length h2)
  | (obtain ⟨_, _, _, _, _, _, _, _, _, _, h2, _⟩ := h; exact congrArg List.length h2)
  | (obtain ⟨_, _, _, _, _, _, _, _, _, _, _, h2, _⟩ := h; exact congrArg List.length h2)
  | (obtain ⟨_, _, _, _, _, _, _, _, _, _, _, _, h2, _⟩ := h; exact congrArg List.length h2)
  | (obtain ⟨_, _, _, _, _, _, _, _, _, _, _, _, _, h2, _⟩ := h; exact congrArg List.length h2)
  | (obtain ⟨_, _, _, _, _, _, _, _, _, _, _, _, _, _, h2, _⟩ := h; exact congrArg List.length h2)
  | (obtain ⟨_, _, _, _, _, _, _, _, _, _, _, _, _, _, _, h2, _⟩ := h; exact congrArg List.length h2)
  | (obtain ⟨_, _, _, _, _, _, _, _, _, _, _, _, _, _, _, _, h2, _⟩ := h; exact congrArg List.length h2)
  | (obtain ⟨_, _, _, _, _, _, _, _, _, _, _, _, _, _, _, _, _, h2, _⟩ := h; exact congrArg List.length h2)
  | (obtain ⟨_, _, _, _, _, _, _, _, _, _, _, _, _, _, _, _, _, _, h2, _⟩ := h; exact congrArg List.length h2)
  | (obtain ⟨_, _, _, _, _, _, _, _, _, _, _, _, _, _, _, _, _, _, _, h2, _⟩ := h; exact congrArg List.length h2)
  | (obtain ⟨_, _, _, _, _, _, _, _, _, _, _, _, _, _, _, _, _, _, _, _, h2, _⟩ := h; exact congrArg List.length h2)
  | (obtain ⟨_, _, _, _, _, _, _, _, _, _, _, _, _, _, _, _, _, _, _, _, _, h2, _⟩ := h; exact congrArg List.length h2)))

namespace FM
/-! ### parts of threads. Plain Lean. -/
theorem Flat.det {ch : Nat → List Nat} {w r : List Nat} (h : Flat ch w r) : ∀ {r' : List Nat}, Flat ch w r' → r = r' := by
  induction h with
  | nil => intro r' h; cases h; rfl
  | @cons c w r h ih => intro r' h'; cases h' with | cons h2 => rw [ih h2]
theorem Flat.map {ch ch' : Nat → List Nat} {g : Nat → Nat} {w r : List Nat} (h : Flat ch w r) (e : ∀ c ∈ r, ch' (g c) = (ch c).map g) : Flat ch' (w.map g) (r.map g) := by
  induction h with
  | nil => exact .nil
  | @cons c w r h ih =>
    refine .cons ?_
    rw [e c List.mem_cons_self, ← List.map_append]
    exact ih fun x hx => e x (List.mem_cons_of_mem _ hx)
theorem Flat.one {ch : Nat → List Nat} {a : Nat} {s : List Nat} (h : Flat ch (ch a) s) : Flat ch [a] (a :: s) := .cons (by rw [List.append_nil]; exact h)
/-- both orders at once -/
def oB (T : T3) (nw : Bool) : List Nat := if nw = true then newL T else ordL T
def rB (nw : Bool) (l : List Nat) : List Nat := if nw = true then l.reverse else l
def chB (T : T3) (nw : Bool) (c : Nat) : List Nat := rB nw (kids T T.length (some c))
theorem walkB {T : T3} (h : Th T) (nw : Bool) : Flat (chB T nw) (rB nw (kids T T.length none)) (oB T nw) := by
  cases nw with
  | false => exact ord_walk h T.length
  | true => exact new_walk h T.length
theorem memB {T : T3} {nw : Bool} {c : Nat} : c ∈ oB T nw ↔ c < T.length := by
  cases nw with
  | false => exact mem_ordN
  | true => exact mem_newN
theorem ndB (T : T3) (nw : Bool) : (oB T nw).Nodup := by
  cases nw with
  | false => exact nd_ordN
  | true => exact nd_newN
theorem lenB (T : T3) (nw : Bool) : (oB T nw).length = T.length := by
  cases nw with
  | false => exact len_ordN
  | true => exact len_newN
theorem rB_map (nw : Bool) (l : List Nat) (g : Nat → Nat) : rB nw (l.map g) = (rB nw l).map g := by
  unfold rB
  split
  · exact (List.map_reverse).symm
  · rfl
theorem rB_app (nw : Bool) (l m : List Nat) : rB nw (l ++ m) = if nw = true then rB nw m ++ rB nw l else rB nw l ++ rB nw m := by
  cases nw <;> simp [rB]
/-! a beginning -/
theorem oB_snoc (T : T3) (o : Option Nat) (nw : Bool) : (oB (T ++ [o]) nw).filter (fun c => !decide (c = T.length)) = oB T nw := by
  cases nw with
  | false => exact ordL_snoc T o
  | true => exact newL_snoc T o
theorem oB_take (nw : Bool) (k : Nat) : ∀ (n : Nat) (T : T3), T.length = n → (oB T nw).filter (fun c => decide (c < k)) = oB (T.take k) nw
  | 0, T, h => by
    have e : T = [] := List.eq_nil_of_length_eq_zero h
    subst e
    rw [List.take_nil]
    cases nw <;> rfl
  | n + 1, T, h => by
    by_cases hk : T.length ≤ k
    · rw [List.take_of_length_le hk]
      exact List.filter_eq_self.mpr fun c hc => decide_eq_true (by have := memB.mp hc; omega)
    · obtain ⟨T', o, e⟩ : ∃ T' o, T = T' ++ [o] := by
        rcases List.eq_nil_or_concat T with e | ⟨l, a, e⟩
        · rw [e] at h; cases h
        · exact ⟨l, a, by rw [e, List.concat_eq_append]⟩
      subst e
      rw [List.length_append, List.length_singleton] at h hk
      rw [List.take_append_of_le_length (by omega), ← oB_take nw k n T' (by omega), ← oB_snoc T' o nw, List.filter_filter]
      refine List.filter_congr fun c hc => ?_
      by_cases q : c < k
      · rw [decide_eq_true q, decide_eq_false (show ¬ c = T'.length by omega)]
        rfl
      · rw [decide_eq_false q]
        rfl
/-! two threads -/
def shift (n : Nat) (T : T3) : T3 := T.map fun o => o.map (· + n)
theorem par_shift {T U : T3} (i : Nat) : par (T ++ shift T.length U) (T.length + i) = (par U i).map (· + T.length) := by
  unfold par shift
  rw [List.getD_eq_getElem?_getD, List.getElem?_append_right (by omega), Nat.add_sub_cancel_left, List.getElem?_map, List.getD_eq_getElem?_getD]
  cases U[i]? with
  | none => rfl
  | some o => rfl
theorem par_app {T U : T3} {c : Nat} (h : c < T.length) : par (T ++ U) c = par T c := by
  unfold par
  rw [List.getD_eq_getElem?_getD, List.getElem?_append_left h, ← List.getD_eq_getElem?_getD]
theorem kids_two {T U : T3} (o : Option Nat) : kids (T ++ shift T.length U) (T.length + U.length) o = kids T T.length o ++ ((List.range U.length).filter fun i => (par U i).map (· + T.length) == o).map (· + T.length) := by
  unfold kids
  rw [List.range_add, List.filter_append]
  congr 1
  · refine List.filter_congr fun i hi => ?_
    rw [par_app (List.mem_range.mp hi)]
  · rw [List.filter_map]
    have e : ((fun i => par (T ++ shift T.length U) i == o) ∘ fun x => T.length + x) = fun i => (par U i).map (· + T.length) == o := by
      funext i
      show (par (T ++ shift T.length U) (T.length + i) == o) = _
      rw [par_shift]
    rw [e]
    exact List.map_congr_left fun x _ => Nat.add_comm _ _
theorem th_two {T U : T3} (h1 : Th T) (h2 : Th U) : Th (T ++ shift T.length U) := by
  intro i j e
  by_cases hi : i < T.length
  · rw [List.getElem?_append_left hi] at e
    exact h1 i j e
  · rw [List.getElem?_append_right (by omega)] at e
    unfold shift at e
    rw [List.getElem?_map] at e
    cases q : U[i - T.length]? with
    | none => rw [q] at e; cases e
    | some o =>
      rw [q] at e
      cases o with
      | none => cases e
      | some p =>
        have := h2 _ _ q
        simp at e
        omega
theorem oB_two {T U : T3} (h1 : Th T) (h2 : Th U) (nw : Bool) : oB (T ++ shift T.length U) nw = if nw = true then (oB U nw).map (· + T.length) ++ oB T nw else oB T nw ++ (oB U nw).map (· + T.length) := by
  have hl : (T ++ shift T.length U).length = T.length + U.length := by rw [List.length_append, shift, List.length_map]
  have w := walkB (th_two h1 h2) nw
  rw [hl] at w
  have hc1 : ∀ c, c < T.length → chB (T ++ shift T.length U) nw c = chB T nw c := fun c hc => by
    unfold chB
    rw [hl, kids_two]
    have e : ((List.range U.length).filter fun i => (par U i).map (· + T.length) == some c) = [] := by
      refine List.filter_eq_nil_iff.mpr fun i _ z => ?_
      have z := beq_iff_eq.mp z
      cases q : par U i with
      | none => rw [q] at z; cases z
      | some p => rw [q] at z; simp at z; omega
    rw [e, List.map_nil, List.append_nil]
  have hc2 : ∀ c, chB (T ++ shift T.length U) nw (c + T.length) = (chB U nw c).map (· + T.length) := fun c => by
    unfold chB
    rw [hl, kids_two]
    have e1 : kids T T.length (some (c + T.length)) = [] := by
      refine List.eq_nil_iff_forall_not_mem.mpr fun i hi => ?_
      obtain ⟨k1, k2⟩ := mem_kids.mp hi
      have := par_lt h1 k2
      omega
    have e2 : ((List.range U.length).filter fun i => (par U i).map (· + T.length) == some (c + T.length)) = kids U U.length (some c) := by
      unfold kids
      refine List.filter_congr fun i _ => ?_
      cases q : par U i with
      | none => rfl
      | some p =>
        show (some (p + T.length) == some (c + T.length)) = (some p == some c)
        rw [Bool.eq_iff_iff, beq_iff_eq, beq_iff_eq]
        constructor
        · intro z; have := Option.some.inj z; congr 1; omega
        · intro z; rw [Option.some.inj z]
    rw [e1, e2, List.nil_append, rB_map]
  have w1 : Flat (chB (T ++ shift T.length U) nw) (rB nw (kids T T.length none)) (oB T nw) := (walkB h1 nw).other fun c hc => hc1 c (memB.mp hc)
  have w2 : Flat (chB (T ++ shift T.length U) nw) ((rB nw (kids U U.length none)).map (· + T.length)) ((oB U nw).map (· + T.length)) := (walkB h2 nw).map fun c _ => hc2 c
  have e0 : rB nw (kids (T ++ shift T.length U) (T.length + U.length) none) = if nw = true then (rB nw (kids U U.length none)).map (· + T.length) ++ rB nw (kids T T.length none) else rB nw (kids T T.length none) ++ (rB nw (kids U U.length none)).map (· + T.length) := by
    rw [kids_two]
    have e2 : ((List.range U.length).filter fun i => (par U i).map (· + T.length) == none) = kids U U.length none := by
      unfold kids
      refine List.filter_congr fun i _ => ?_
      cases par U i <;> rfl
    rw [e2, rB_app, rB_map]
  rw [e0] at w
  cases nw with
  | true => exact w.det (w2.app w1)
  | false => exact w.det (w1.app w2)
/-! a part -/
theorem bel_iff {T : T3} {c x : Nat} : ∀ n, x ∈ belN T c n ↔ x < n ∧ inFam T (c :: belN T c x) x = true
  | 0 => by simp [belN]
  | n + 1 => by
    have e : belN T c (n + 1) = if inFam T (c :: belN T c n) n = true then belN T c n ++ [n] else belN T c n := rfl
    rw [e]
    by_cases hx : x = n
    · subst hx
      have no : x ∉ belN T c x := fun z => by have := ((bel_iff x).mp z).1; omega
      split
      · rename_i q
        exact ⟨fun _ => ⟨by omega, q⟩, fun _ => List.mem_append_right _ (List.mem_singleton.mpr rfl)⟩
      · rename_i q
        exact ⟨fun z => absurd z no, fun z => absurd z.2 q⟩
    · have go : x ∈ belN T c n ↔ x < n + 1 ∧ inFam T (c :: belN T c x) x = true := by
        rw [bel_iff n]
        constructor
        · exact fun z => ⟨by omega, z.2⟩
        · exact fun z => ⟨by omega, z.2⟩
      split
      · rw [List.mem_append, List.mem_singleton]
        exact ⟨fun z => go.mp (z.elim id fun e => absurd e hx), fun z => .inl (go.mpr z)⟩
      · exact go
theorem bel_asc {T : T3} {c : Nat} : ∀ n, (belN T c n).Pairwise (· < ·)
  | 0 => .nil
  | n + 1 => by
    have e : belN T c (n + 1) = if inFam T (c :: belN T c n) n = true then belN T c n ++ [n] else belN T c n := rfl
    rw [e]
    split
    · exact List.pairwise_append.mpr ⟨bel_asc n, List.pairwise_singleton _ _, fun x hx y hy => by rw [List.mem_singleton.mp hy]; exact ((bel_iff n).mp hx).1⟩
    · exact bel_asc n
theorem in_fam {T : T3} {fam : List Nat} {x : Nat} : inFam T fam x = true ↔ ∃ p, par T x = some p ∧ p ∈ fam := by
  unfold inFam
  cases q : par T x with
  | none => exact ⟨fun z => (nomatch z), fun ⟨p, z, _⟩ => (nomatch z)⟩
  | some p => exact ⟨fun z => ⟨p, rfl, List.contains_iff_mem.mp z⟩, fun ⟨p', z, h⟩ => by cases z; exact List.contains_iff_mem.mpr h⟩
/-- below: whose answered one is it or below it -/
theorem bel_par {T : T3} (h : Th T) {c x : Nat} (hc : c < T.length) : x ∈ belL T c ↔ x < T.length ∧ ∃ p, par T x = some p ∧ p ∈ c :: belL T c := by
  have hm : ∀ p, p ∈ belL T c ↔ p < T.length ∧ inFam T (c :: belN T c p) p = true := fun p => bel_iff T.length
  rw [hm x, in_fam]
  constructor
  · rintro ⟨h1, p, h2, h3⟩
    refine ⟨h1, p, h2, ?_⟩
    rcases List.mem_cons.mp h3 with e | e
    · rw [e]; exact List.mem_cons_self
    · obtain ⟨k1, k2⟩ := (bel_iff x).mp e
      exact List.mem_cons_of_mem _ ((hm p).mpr ⟨by omega, k2⟩)
  · rintro ⟨h1, p, h2, h3⟩
    refine ⟨h1, p, h2, ?_⟩
    have hp := par_lt h h2
    rcases List.mem_cons.mp h3 with e | e
    · rw [e]; exact List.mem_cons_self
    · exact List.mem_cons_of_mem _ ((bel_iff x).mpr ⟨hp, ((hm p).mp e).2⟩)
theorem bel_over {T : T3} (h : Th T) {c x : Nat} (hc : c < T.length) : ∀ n, x ≤ n → x ∈ belL T c → c < x
  | 0, hx, hm => by
    obtain ⟨h1, p, h2, h3⟩ := (bel_par h hc).mp hm
    have := par_lt h h2
    omega
  | n + 1, hx, hm => by
    obtain ⟨h1, p, h2, h3⟩ := (bel_par h hc).mp hm
    have hp := par_lt h h2
    rcases List.mem_cons.mp h3 with e | e
    · omega
    · have := bel_over h hc n (show p ≤ n by omega) e
      omega
/-- the part's old numbers, its thread -/
def oldL (T : T3) (a : Nat) : List Nat := a :: belL T a
def partT (T : T3) (a : Nat) : T3 := none :: (belL T a).map fun c => some (idx (oldL T a) ((par T c).getD 0))
section
variable {T : T3} {a : Nat}
theorem old_asc (h : Th T) (ha : a < T.length) : (oldL T a).Pairwise (· < ·) := List.pairwise_cons.mpr ⟨fun x hx => bel_over h ha x (Nat.le_refl _) hx, bel_asc _⟩
theorem old_lt (ha : a < T.length) {x : Nat} (hx : x ∈ oldL T a) : x < T.length := by
  rcases List.mem_cons.mp hx with e | e
  · rw [e]; exact ha
  · exact ((bel_iff _).mp e).1
theorem asc_nd {l : List Nat} (h : l.Pairwise (· < ·)) : l.Nodup := h.imp fun z => by omega
theorem idx_of {l : List Nat} (nd : l.Nodup) {i x : Nat} (h : l[i]? = some x) : idx l x = i := by
  obtain ⟨hi, e⟩ := List.getElem?_eq_some_iff.mp h
  have hx : x ∈ l := List.mem_of_getElem? h
  have e2 := idx_get hx
  exact (List.getElem_inj nd).mp (e2.trans e.symm)
theorem asc_idx {l : List Nat} (h : l.Pairwise (· < ·)) {i j x y : Nat} (hi : l[i]? = some x) (hj : l[j]? = some y) : i < j ↔ x < y := by
  obtain ⟨i1, rfl⟩ := List.getElem?_eq_some_iff.mp hi
  obtain ⟨j1, rfl⟩ := List.getElem?_eq_some_iff.mp hj
  have hp := List.pairwise_iff_getElem.mp h
  constructor
  · exact hp i j i1 j1
  · intro z
    rcases Nat.lt_trichotomy i j with e | e | e
    · exact e
    · subst e; omega
    · have := hp j i j1 i1 e; omega
theorem part_len : (partT T a).length = (oldL T a).length := by
  unfold partT oldL
  rw [List.length_cons, List.length_cons, List.length_map]
/-- who answers whom in the part -/
theorem part_par (h : Th T) (ha : a < T.length) {i x : Nat} (hx : (oldL T a)[i]? = some x) : (i = 0 ∧ x = a ∧ par (partT T a) i = none) ∨ ∃ p j, 0 < i ∧ par T x = some p ∧ (oldL T a)[j]? = some p ∧ j < i ∧ par (partT T a) i = some j := by
  cases i with
  | zero =>
    cases hx
    exact .inl ⟨rfl, rfl, rfl⟩
  | succ i =>
    have hx : (belL T a)[i]? = some x := hx
    obtain ⟨h1, p, h2, h3⟩ := (bel_par h ha).mp (List.mem_of_getElem? hx)
    have h4 : p ∈ oldL T a := h3
    have hj : (oldL T a)[idx (oldL T a) p]? = some p := by
      rw [List.getElem?_eq_getElem (idx_lt h4), idx_get h4]
    have hlt := par_lt h h2
    refine .inr ⟨p, idx (oldL T a) p, by omega, h2, hj, (asc_idx (old_asc h ha) hj (j := i + 1) hx).mpr hlt, ?_⟩
    unfold par partT
    rw [List.getD_eq_getElem?_getD]
    show (((belL T a).map fun c => some (idx (oldL T a) ((par T c).getD 0)))[i]?).getD none = _
    rw [List.getElem?_map, hx]
    show some (idx (oldL T a) ((par T x).getD 0)) = _
    rw [h2]
    rfl
theorem part_th (h : Th T) (ha : a < T.length) : Th (partT T a) := by
  intro i j e
  have hi := (List.getElem?_eq_some_iff.mp e).1
  rw [part_len] at hi
  have e2 : par (partT T a) i = some j := by
    unfold par
    rw [List.getD_eq_getElem?_getD, e]
    rfl
  rcases part_par h ha (List.getElem?_eq_getElem hi) with ⟨_, _, z⟩ | ⟨p, k, _, _, _, hk, z⟩
  · rw [z] at e2; cases e2
  · rw [z] at e2; cases e2; exact hk
theorem asc_filter_range (n : Nat) (p : Nat → Bool) : ((List.range n).filter p).Pairwise (· < ·) := List.Pairwise.filter p List.pairwise_lt_range
theorem part_kids (h : Th T) (ha : a < T.length) {i x : Nat} (hx : (oldL T a)[i]? = some x) : kids T T.length (some x) = (kids (partT T a) (partT T a).length (some i)).map fun j => (oldL T a).getD j 0 := by
  have nd := asc_nd (old_asc h ha)
  have gd : ∀ j y, (oldL T a)[j]? = some y → (oldL T a).getD j 0 = y := fun j y e => by rw [List.getD_eq_getElem?_getD, e]; rfl
  refine FT.asc_ext (asc_filter_range _ _) ?_ fun d => ?_
  · rw [List.pairwise_map]
    refine List.Pairwise.imp_of_mem (fun {u v} hu hv huv => ?_) (asc_filter_range _ _)
    have h1 := (mem_kids.mp hu).1
    have h2 := (mem_kids.mp hv).1
    rw [part_len] at h1 h2
    rw [gd u _ (List.getElem?_eq_getElem h1), gd v _ (List.getElem?_eq_getElem h2)]
    exact (asc_idx (old_asc h ha) (List.getElem?_eq_getElem h1) (List.getElem?_eq_getElem h2)).mp huv
  · rw [mem_kids, List.mem_map]
    constructor
    · rintro ⟨h1, h2⟩
      have hd : d ∈ belL T a := (bel_par h ha).mpr ⟨h1, x, h2, List.mem_of_getElem? hx⟩
      have hd2 : d ∈ oldL T a := List.mem_cons_of_mem _ hd
      have hj : (oldL T a)[idx (oldL T a) d]? = some d := by rw [List.getElem?_eq_getElem (idx_lt hd2), idx_get hd2]
      refine ⟨idx (oldL T a) d, mem_kids.mpr ⟨by rw [part_len]; exact idx_lt hd2, ?_⟩, gd _ _ hj⟩
      rcases part_par h ha hj with ⟨_, e, _⟩ | ⟨p, k, _, k2, k3, _, k5⟩
      · have := bel_over h ha d (Nat.le_refl _) hd
        omega
      · rw [h2] at k2
        cases k2
        rw [k5, ← idx_of nd k3, idx_of nd hx]
    · rintro ⟨j, hj, rfl⟩
      obtain ⟨h1, h2⟩ := mem_kids.mp hj
      rw [part_len] at h1
      have hjx := List.getElem?_eq_getElem h1
      rw [gd j _ hjx]
      refine ⟨old_lt ha (List.mem_of_getElem? hjx), ?_⟩
      rcases part_par h ha hjx with ⟨_, _, z⟩ | ⟨p, k, _, k2, k3, _, k5⟩
      · rw [z] at h2; cases h2
      · rw [k5] at h2
        cases h2
        rw [hx] at k3
        cases k3
        exact k2
/-- the part stands side by side, in the order that it has alone -/
theorem part_order (h : Th T) (ha : a < T.length) (nw : Bool) : ∃ r1 r2, oB T nw = r1 ++ ((oB (partT T a) nw).map fun j => (oldL T a).getD j 0) ++ r2 ∧ a ∉ r1 ∧ (oB (partT T a) nw).head? = some 0 := by
  have w := walkB h nw
  obtain ⟨r1, s, r2, e, ws, -⟩ := w.at_ (memB.mpr ha) (ndB T nw)
  have wp := walkB (part_th h ha) nw
  have k0 : kids (partT T a) (partT T a).length none = [0] := by
    refine FT.asc_ext (asc_filter_range _ _) (List.pairwise_singleton _ _) fun j => ?_
    rw [mem_kids, List.mem_singleton]
    constructor
    · rintro ⟨h1, h2⟩
      rw [part_len] at h1
      rcases part_par h ha (List.getElem?_eq_getElem h1) with ⟨z, _⟩ | ⟨p, k, _, _, _, _, k5⟩
      · exact z
      · rw [k5] at h2; cases h2
    · rintro rfl
      exact ⟨by rw [part_len]; exact Nat.succ_pos _, rfl⟩
  rw [k0] at wp
  have er : rB nw [0] = [0] := by cases nw <;> rfl
  rw [er] at wp
  have wm := wp.map (ch' := chB T nw) (g := fun j => (oldL T a).getD j 0) fun i hi => by
    have h1 := memB.mp hi
    rw [part_len] at h1
    have hx := List.getElem?_eq_getElem h1
    show rB nw (kids T T.length (some ((oldL T a).getD i 0))) = _
    rw [List.getD_eq_getElem?_getD, hx]
    rw [Option.getD_some, part_kids h ha hx, rB_map]
    rfl
  have ee := wm.det (Flat.one ws)
  refine ⟨r1, r2, ?_, ?_, ?_⟩
  · rw [ee, e]
    simp
    rfl
  · have nd := ndB T nw
    rw [e] at nd
    exact fun z => (List.nodup_append.mp nd).2.2 a z a List.mem_cons_self rfl
  · generalize oB (partT T a) nw = o at wp
    cases wp with
    | cons h => rfl
/-- depths -/
theorem part_depth (h : Th T) (ha : a < T.length) : ∀ (n i x : Nat), i ≤ n → (oldL T a)[i]? = some x → (depL T).getD x 0 = (depL T).getD a 0 + (depL (partT T a)).getD i 0
  | n, i, x, hn, hx => by
    have hi := (List.getElem?_eq_some_iff.mp hx).1
    have hxl := old_lt ha (List.mem_of_getElem? hx)
    rw [depL_get (part_th h ha) (by rw [part_len]; exact hi)]
    rcases part_par h ha hx with ⟨_, e, z⟩ | ⟨p, j, h0, k2, k3, k4, k5⟩
    · rw [e, z]
      rfl
    · cases n with
      | zero => omega
      | succ n =>
        have ih := part_depth h ha n j p (by omega) k3
        rw [k5, depL_get h hxl, k2]
        show (depL T).getD p 0 + 1 = (depL T).getD a 0 + ((depL (partT T a)).getD j 0 + 1)
        rw [ih]
        omega
end
end FM
namespace FM
/-! ### neighbours in the order, threads out of orders. Plain Lean; needs F53a's part in namespace FM (Flat.det .. oB_take). -/
/-- y may wait behind x: it is less deep, or a later answer to the same comment -/
def Beh (T : T3) (D : Nat → Nat) (x y : Nat) : Prop := D y < D x ∨ (D y = D x ∧ par T y = par T x ∧ x < y)
/-- depths, and who answers whom -/
structure Dep (T : T3) (D : Nat → Nat) (ch : Nat → List Nat) (r : List Nat) : Prop where
  kid : ∀ c ∈ r, ∀ d ∈ ch c, par T d = some c ∧ D d = D c + 1
  asc : ∀ c ∈ r, (ch c).Pairwise (· < ·)
theorem beh_step {T : T3} {D : Nat → Nat} {ch : Nat → List Nat} {c : Nat} {w : List Nat} (hk : ∀ d ∈ ch c, par T d = some c ∧ D d = D c + 1) (ha : (ch c).Pairwise (· < ·)) (hw : (c :: w).Pairwise (Beh T D)) : (ch c ++ w).Pairwise (Beh T D) := by
  obtain ⟨h1, h2⟩ := List.pairwise_cons.mp hw
  refine List.pairwise_append.mpr ⟨?_, h2, fun d hd y hy => ?_⟩
  · refine List.Pairwise.imp_of_mem (fun {x y} hx hy hxy => ?_) ha
    obtain ⟨a1, a2⟩ := hk x hx
    obtain ⟨b1, b2⟩ := hk y hy
    exact .inr ⟨by omega, by rw [a1, b1], hxy⟩
  · obtain ⟨a1, a2⟩ := hk d hd
    rcases h1 y hy with z | ⟨z, _⟩
    · exact .inl (by omega)
    · exact .inl (by omega)
/-- what stands next to one another -/
theorem adj {T : T3} {D : Nat → Nat} {ch : Nat → List Nat} {w r : List Nat} (h : Flat ch w r) : Dep T D ch r → w.Pairwise (Beh T D) → ∀ r1 x y r2, r = r1 ++ x :: y :: r2 → (y ∈ ch x ∧ D y = D x + 1) ∨ (ch x = [] ∧ Beh T D x y) := by
  induction h with
  | nil => intro _ _ r1 x y r2 e; simp at e
  | @cons c w r h ih =>
    intro dp hw r1 x y r2 e
    have hs := beh_step (dp.kid c List.mem_cons_self) (dp.asc c List.mem_cons_self) hw
    cases r1 with
    | cons z r1 =>
      rw [List.cons_append] at e
      obtain ⟨_, e⟩ := List.cons.inj e
      exact ih ⟨fun a ha => dp.kid a (List.mem_cons_of_mem _ ha), fun a ha => dp.asc a (List.mem_cons_of_mem _ ha)⟩ hs r1 x y r2 e
    | nil =>
      obtain ⟨e1, e2⟩ := List.cons.inj e
      subst e1
      rw [e2] at h
      cases hc : ch c with
      | nil =>
        rw [hc, List.nil_append] at h
        cases h with
        | @cons _ w' _ _ => exact .inr ⟨rfl, (List.pairwise_cons.mp hw).1 y List.mem_cons_self⟩
      | cons d ds =>
        rw [hc] at h
        cases h with
        | cons _ =>
          have hd : y ∈ ch c := by rw [hc]; exact List.mem_cons_self
          refine .inl ⟨by rw [← hc]; exact hd, (dp.kid c List.mem_cons_self y hd).2⟩
theorem adj_head {ch : Nat → List Nat} {w r : List Nat} (h : Flat ch w r) : r.head? = w.head? := by
  cases h <;> rfl
/-! ### the neighbours when a comment arrives -/
def leftO (O : List Nat) (c : Nat) : List Nat := O.filter fun x => decide (x < c + 1)
def front (O : List Nat) (c : Nat) : Option Nat := if 0 < idx (leftO O c) c then (leftO O c)[idx (leftO O c) c - 1]? else none
def behind (O : List Nat) (c : Nat) : Option Nat := (leftO O c)[idx (leftO O c) c + 1]?
theorem left_oB (T : T3) (nw : Bool) (c : Nat) : leftO (oB T nw) c = oB (T.take (c + 1)) nw := oB_take nw (c + 1) T.length T rfl
theorem th_take {T : T3} (h : Th T) (k : Nat) : Th (T.take k) := fun i j e => by
  rw [List.getElem?_take] at e
  split at e
  · exact h i j e
  · cases e
theorem par_take {T : T3} {k c : Nat} (h : c < k) : par (T.take k) c = par T c := by
  unfold par
  rw [List.getD_eq_getElem?_getD, List.getElem?_take_of_lt h, ← List.getD_eq_getElem?_getD]
theorem ins_idx {l : List Nat} {p k : Nat} (hk : k ∉ l) (hp : p ≤ l.length) : idx (ins l p k) k = p := by
  unfold ins
  rw [List.append_assoc, List.singleton_append]
  rw [idx_app fun z => hk (List.mem_of_mem_take z), List.length_take]
  omega
/-- the newest order tells the answered comment -/
theorem front_new {T : T3} (h : Th T) {c : Nat} (hc : c < T.length) : front (newL T) c = par T c := by
  have e : leftO (newL T) c = ins (newN T c) (newP (newN T c) (par T c)) c := by
    have e1 : leftO (newL T) c = newL (T.take (c + 1)) := left_oB T true c
    rw [e1]
    unfold newL
    rw [List.length_take, Nat.min_eq_left (by omega)]
    show ins (newN (T.take (c + 1)) c) (newP (newN (T.take (c + 1)) c) (par (T.take (c + 1)) c)) c = _
    rw [newN_congr c fun x hx => par_take (by omega), par_take (by omega)]
  have no : c ∉ newN T c := fun z => Nat.lt_irrefl _ (mem_newN.mp z)
  unfold front
  rw [e]
  cases hp : par T c with
  | none =>
    have : idx (ins (newN T c) (newP (newN T c) none) c) c = 0 := ins_idx no (Nat.zero_le _)
    rw [this, if_neg (Nat.lt_irrefl _)]
  | some a =>
    have ha : a ∈ newN T c := mem_newN.mpr (par_lt h hp)
    have hi := idx_lt ha
    have : idx (ins (newN T c) (newP (newN T c) (some a)) c) c = idx (newN T c) a + 1 := ins_idx no (by show idx (newN T c) a + 1 ≤ _; omega)
    rw [this, if_pos (by omega), Nat.add_sub_cancel]
    unfold ins
    show ((newN T c).take (idx (newN T c) a + 1) ++ [c] ++ _)[idx (newN T c) a]? = some a
    rw [List.append_assoc, List.getElem?_append_left (by rw [List.length_take]; omega), List.getElem?_take_of_lt (by omega), List.getElem?_eq_getElem hi, idx_get ha]
/-! ### the order: how deep the neighbours are -/
def depF (T : T3) (c : Nat) : Nat := (depL T).getD c 0
theorem depF_none {T : T3} (h : Th T) {c : Nat} (hc : c < T.length) (e : par T c = none) : depF T c = 0 := by
  unfold depF
  rw [depL_get h hc, e]
  rfl
theorem depF_some {T : T3} (h : Th T) {c p : Nat} (hc : c < T.length) (e : par T c = some p) : depF T c = depF T p + 1 := by
  unfold depF
  rw [depL_get h hc, e]
  rfl
theorem dep_ord {T : T3} (h : Th T) {n : Nat} (hn : n ≤ T.length) : Dep T (depF T) (chO T n) (ordN T n) := by
  refine ⟨fun c hc d hd => ?_, fun c hc => List.Pairwise.filter _ List.pairwise_lt_range⟩
  obtain ⟨h1, h2⟩ := mem_kids.mp hd
  exact ⟨h2, depF_some h (by omega) h2⟩
theorem top_beh {T : T3} (h : Th T) {n : Nat} (hn : n ≤ T.length) : (kids T n none).Pairwise (Beh T (depF T)) := by
  refine List.Pairwise.imp_of_mem (fun {x y} hx hy hxy => ?_) (show (kids T n none).Pairwise (· < ·) from List.Pairwise.filter _ List.pairwise_lt_range)
  obtain ⟨x1, x2⟩ := mem_kids.mp hx
  obtain ⟨y1, y2⟩ := mem_kids.mp hy
  exact .inr ⟨by rw [depF_none h (by omega) x2, depF_none h (by omega) y2], by rw [x2, y2], hxy⟩
/-- what are_depths_of asks of a comment -/
theorem ord_neigh {T : T3} (h : Th T) {c : Nat} (hc : c < T.length) : (front (ordL T) c = none → depF T c = 0) ∧ (∀ f, front (ordL T) c = some f → depF T c ≤ depF T f + 1) ∧ (∀ b, behind (ordL T) c = some b → depF T b < depF T c) := by
  have e : leftO (ordL T) c = ordN T (c + 1) := by
    have e1 : leftO (ordL T) c = ordL (T.take (c + 1)) := left_oB T false c
    rw [e1]
    unfold ordL
    rw [List.length_take, Nat.min_eq_left (by omega)]
    exact ordN_congr (c + 1) fun x hx => par_take hx
  have fl := ord_walk h (c + 1)
  have dp := dep_ord h (n := c + 1) (by omega)
  have tb := top_beh h (n := c + 1) (by omega)
  have ad := adj fl dp tb
  have hm : c ∈ ordN T (c + 1) := mem_ordN.mpr (by omega)
  have nd : (ordN T (c + 1)).Nodup := nd_ordN
  have hi := idx_lt hm
  have hg : (ordN T (c + 1))[idx (ordN T (c + 1)) c]? = some c := by rw [List.getElem?_eq_getElem hi, idx_get hm]
  unfold front behind
  rw [e]
  generalize hl : ordN T (c + 1) = l at *
  generalize hx : idx l c = i at *
  have sp : l = l.take i ++ c :: l.drop (i + 1) := by
    have e2 := (List.getElem?_eq_some_iff.mp hg).2
    have e3 := List.drop_eq_getElem_cons hi
    rw [e2] at e3
    rw [← e3, List.take_append_drop]
  refine ⟨fun z => ?_, fun f z => ?_, fun b z => ?_⟩
  · -- the first one
    by_cases h0 : 0 < i
    · rw [if_pos h0, List.getElem?_eq_none_iff] at z
      omega
    · have hi0 : i = 0 := by omega
      have hh := adj_head fl
      rw [sp, hi0, List.take_zero, List.nil_append, List.head?_cons] at hh
      have hk : c ∈ kids T (c + 1) none := List.mem_of_mem_head? (by rw [← hh]; rfl)
      exact depF_none h hc (mem_kids.mp hk).2
  · by_cases h0 : 0 < i
    · rw [if_pos h0] at z
      obtain ⟨j, rfl⟩ : ∃ j, i = j + 1 := ⟨i - 1, by omega⟩
      rw [Nat.add_sub_cancel] at z
      have sp2 : l = l.take j ++ f :: c :: l.drop (j + 1 + 1) := by
        have t2 : l.take (j + 1) = l.take j ++ [f] := by rw [List.take_add_one, z] <;> rfl
        rw [t2, List.append_assoc] at sp
        exact sp
      rcases ad _ _ _ _ sp2 with ⟨_, q⟩ | ⟨_, q | ⟨q, _⟩⟩ <;> omega
    · rw [if_neg h0] at z
      cases z
  · have sp3 : l = l.take i ++ c :: b :: l.drop (i + 1 + 1) := by
      have hb := (List.getElem?_eq_some_iff.mp z).1
      have : l.drop (i + 1) = b :: l.drop (i + 1 + 1) := by
        rw [List.drop_eq_getElem_cons hb]
        congr 1
        exact (List.getElem?_eq_some_iff.mp z).2
      rw [this] at sp
      exact sp
    have hbm : b ∈ l := List.mem_of_getElem? z
    have hbl : b < c + 1 := by rw [← hl] at hbm; exact mem_ordN.mp hbm
    rcases ad _ _ _ _ sp3 with ⟨q, _⟩ | ⟨_, q | ⟨_, _, q⟩⟩
    · obtain ⟨q1, q2⟩ := mem_kids.mp q
      have := par_lt h q2
      omega
    · exact q
    · omega
/-! ### a thread out of an order and depths -/
/-- l: the comments that c is below, from the top -/
inductive Anc (T : T3) : Nat → List Nat → Prop
  | top {c : Nat} : par T c = none → Anc T c []
  | kid {c p : Nat} {l : List Nat} : par T c = some p → Anc T p l → Anc T c (l ++ [p])
theorem Anc.last {T : T3} {c : Nat} {l : List Nat} (h : Anc T c l) : l.getLast? = par T c := by
  cases h with
  | top e => rw [e] <;> rfl
  | kid e _ => rw [e]; simp
theorem Anc.len {T : T3} (hT : Th T) {c : Nat} {l : List Nat} (h : Anc T c l) : c < T.length → l.length = depF T c := by
  induction h with
  | top e => exact fun hc => by rw [depF_none hT hc e] <;> rfl
  | kid e _ ih =>
    intro hc
    have := par_lt hT e
    rw [List.length_append, List.length_singleton, ih (by omega), depF_some hT hc e]
/-- the path behind some comments -/
def pathF (D : Nat → Nat) : List Nat → List Nat → List Nat
  | path, [] => path
  | path, c :: r => pathF D (path.take (D c) ++ [c]) r
theorem pathF_snoc (D : Nat → Nat) (c : Nat) : ∀ (r path : List Nat), pathF D path (r ++ [c]) = (pathF D path r).take (D c) ++ [c]
  | [], _ => rfl
  | d :: r, path => pathF_snoc D c r _
theorem path_ok {T : T3} (hT : Th T) {ch : Nat → List Nat} {w r : List Nat} (h : Flat ch w r) : ∀ path : List Nat, Dep T (depF T) ch r → (∀ x ∈ r, x < T.length) → w.Pairwise (Beh T (depF T)) → (∀ x ∈ w, Anc T x (path.take (depF T x))) → ∀ r1 c r2, r = r1 ++ c :: r2 → Anc T c ((pathF (depF T) path r1).take (depF T c)) := by
  induction h with
  | nil => intro _ _ _ _ _ r1 c r2 e; simp at e
  | @cons a w r h ih =>
    intro path dp hlt hw hp r1 c r2 e
    have hA := hp a List.mem_cons_self
    have hl := hA.len hT (hlt a List.mem_cons_self)
    have hs := beh_step (dp.kid a List.mem_cons_self) (dp.asc a List.mem_cons_self) hw
    cases r1 with
    | nil =>
      obtain ⟨e1, _⟩ := List.cons.inj e
      subst e1
      exact hA
    | cons z r1 =>
      rw [List.cons_append] at e
      obtain ⟨e1, e2⟩ := List.cons.inj e
      subst e1
      refine ih (path.take (depF T a) ++ [a]) ⟨fun x hx => dp.kid x (List.mem_cons_of_mem _ hx), fun x hx => dp.asc x (List.mem_cons_of_mem _ hx)⟩ (fun x hx => hlt x (List.mem_cons_of_mem _ hx)) hs (fun x hx => ?_) r1 c r2 e2
      rcases List.mem_append.mp hx with q | q
      · obtain ⟨q1, q2⟩ := dp.kid a List.mem_cons_self x q
        rw [q2, List.take_of_length_le (by rw [List.length_append, List.length_singleton, hl]; exact Nat.le_refl _)]
        exact .kid q1 hA
      · have hle : depF T x ≤ depF T a := by
          rcases (List.pairwise_cons.mp hw).1 x q with z | ⟨z, _⟩ <;> omega
        rw [List.take_append_of_le_length (by rw [hl]; exact hle), List.take_take, Nat.min_eq_left hle]
        exact hp x (List.mem_cons_of_mem _ q)
/-- .. at each comment of the order -/
theorem path_ord {T : T3} (h : Th T) {k c : Nat} (hk : (ordL T)[k]? = some c) : ((pathF (depF T) [] ((ordL T).take k)).take (depF T c)).getLast? = par T c := by
  have hi := (List.getElem?_eq_some_iff.mp hk).1
  have e2 := (List.getElem?_eq_some_iff.mp hk).2
  have e3 := List.drop_eq_getElem_cons hi
  rw [e2] at e3
  refine (path_ok h (ord_walk h T.length) [] (dep_ord h (Nat.le_refl _)) (fun x hx => mem_ordN.mp hx) (top_beh h (Nat.le_refl _)) (fun x hx => ?_) ((ordL T).take k) c ((ordL T).drop (k + 1)) ?_).last
  · rw [List.take_nil]
    exact .top (mem_kids.mp hx).2
  · rw [← e3, List.take_append_drop]
    rfl
/-- what is found so far -/
def thrN (T : T3) (l : List Nat) : T3 := (List.range T.length).map fun c => if l.contains c = true then par T c else none
theorem thrN_all {T : T3} : thrN T (ordL T) = T := by
  refine List.ext_getElem? fun i => ?_
  unfold thrN
  rw [List.getElem?_map]
  by_cases hi : i < T.length
  · rw [List.getElem?_range hi]
    show some (if (ordL T).contains i = true then par T i else none) = _
    have hc : (ordL T).contains i = true := List.contains_iff_mem.mpr (mem_ordN.mpr hi)
    rw [if_pos hc]
    unfold par
    rw [List.getD_eq_getElem?_getD, List.getElem?_eq_getElem hi] <;> rfl
  · rw [List.getElem?_eq_none (by simpa using hi), List.getElem?_eq_none (by omega)] <;> rfl
end FM
namespace FM
/-! ### threads out of rows (depth, number). Plain Lean; needs F53m and F50a. -/
/-- one row: the path behind it, what is found -/
def stepL (s : List Nat × T3) (x : Nat × Nat) : List Nat × T3 := (s.1.take x.1 ++ [x.2], match (s.1.take x.1).getLast? with
  | none => s.2
  | some a => s.2.set x.2 (some a))
def runL (ls : List (Nat × Nat)) (s : List Nat × T3) : List Nat × T3 := ls.foldl stepL s
def thrL (ls : List (Nat × Nat)) : T3 := (runL ls ([], List.replicate ls.length none)).2
theorem runL_snoc (ls : List (Nat × Nat)) (x : Nat × Nat) (s : List Nat × T3) : runL (ls ++ [x]) s = stepL (runL ls s) x := by
  unfold runL
  rw [List.foldl_append]
  rfl
theorem len_runL : ∀ (ls : List (Nat × Nat)) (s : List Nat × T3), (runL ls s).2.length = s.2.length
  | [], _ => rfl
  | x :: ls, s => by
    show (runL ls (stepL s x)).2.length = _
    rw [len_runL ls]
    unfold stepL
    dsimp only
    split
    · rfl
    · rw [List.length_set]
theorem len_thrL (ls : List (Nat × Nat)) : (thrL ls).length = ls.length := by
  unfold thrL
  rw [len_runL, List.length_replicate]
theorem path_len : ∀ (ls : List (Nat × Nat)) (s : List Nat × T3), (runL ls s).1.length ≤ s.1.length + ls.length
  | [], _ => Nat.le_refl _
  | x :: ls, s => by
    have h := path_len ls (stepL s x)
    have e : (stepL s x).1.length ≤ s.1.length + 1 := by
      show (s.1.take x.1 ++ [x.2]).length ≤ _
      rw [List.length_append, List.length_take, List.length_singleton]
      omega
    show (runL ls (stepL s x)).1.length ≤ _
    rw [List.length_cons]
    omega
/-- the rows of a thread, in a sequence -/
def rowsD (T : T3) (O : List Nat) : List (Nat × Nat) := O.map fun c => (depF T c, c)
theorem runL_rows (T : T3) : ∀ (O : List Nat) (s : List Nat × T3), (runL (rowsD T O) s).1 = pathF (depF T) s.1 O
  | [], _ => rfl
  | c :: O, s => by
    show (runL (rowsD T O) (stepL s (depF T c, c))).1 = _
    rw [runL_rows T O]
    rfl
/-- deeper things stand ahead -/
abbrev Dec (D : Nat → Nat) (w : List Nat) : Prop := w.Pairwise fun x y => D y ≤ D x
/-- depths, and who answers whom -/
def Kid (T : T3) (D : Nat → Nat) (ch : Nat → List Nat) (r : List Nat) : Prop := ∀ c ∈ r, ∀ d ∈ ch c, par T d = some c ∧ D d = D c + 1
theorem dec_step {T : T3} {D : Nat → Nat} {ch : Nat → List Nat} {c : Nat} {w : List Nat} (hk : ∀ d ∈ ch c, par T d = some c ∧ D d = D c + 1) (hw : Dec D (c :: w)) : Dec D (ch c ++ w) := by
  obtain ⟨h1, h2⟩ := List.pairwise_cons.mp hw
  refine List.pairwise_append.mpr ⟨List.pairwise_of_forall_mem_list fun x hx y hy => ?_, h2, fun d hd y hy => ?_⟩
  · have := (hk x hx).2
    have := (hk y hy).2
    omega
  · have := (hk d hd).2
    have := h1 y hy
    omega
theorem path_ok2 {T : T3} (hT : Th T) {ch : Nat → List Nat} {w r : List Nat} (h : Flat ch w r) : ∀ path : List Nat, Kid T (depF T) ch r → (∀ x ∈ r, x < T.length) → Dec (depF T) w → (∀ x ∈ w, Anc T x (path.take (depF T x))) → ∀ r1 c r2, r = r1 ++ c :: r2 → Anc T c ((pathF (depF T) path r1).take (depF T c)) := by
  induction h with
  | nil => intro _ _ _ _ _ r1 c r2 e; simp at e
  | @cons a w r h ih =>
    intro path dp hlt hw hp r1 c r2 e
    have hA := hp a List.mem_cons_self
    have hl := hA.len hT (hlt a List.mem_cons_self)
    have hs := dec_step (dp a List.mem_cons_self) hw
    cases r1 with
    | nil =>
      obtain ⟨e1, _⟩ := List.cons.inj e
      subst e1
      exact hA
    | cons z r1 =>
      rw [List.cons_append] at e
      obtain ⟨e1, e2⟩ := List.cons.inj e
      subst e1
      refine ih (path.take (depF T a) ++ [a]) (fun x hx => dp x (List.mem_cons_of_mem _ hx)) (fun x hx => hlt x (List.mem_cons_of_mem _ hx)) hs (fun x hx => ?_) r1 c r2 e2
      rcases List.mem_append.mp hx with q | q
      · obtain ⟨q1, q2⟩ := dp a List.mem_cons_self x q
        rw [q2, List.take_of_length_le (by rw [List.length_append, List.length_singleton, hl]; exact Nat.le_refl _)]
        exact .kid q1 hA
      · have hle : depF T x ≤ depF T a := (List.pairwise_cons.mp hw).1 x q
        rw [List.take_append_of_le_length (by rw [hl]; exact hle), List.take_take, Nat.min_eq_left hle]
        exact hp x (List.mem_cons_of_mem _ q)
/-- what stands next to one another -/
theorem adj2 {T : T3} {D : Nat → Nat} {ch : Nat → List Nat} {w r : List Nat} (h : Flat ch w r) : Kid T D ch r → Dec D w → ∀ r1 x y r2, r = r1 ++ x :: y :: r2 → D y ≤ D x + 1 := by
  induction h with
  | nil => intro _ _ r1 x y r2 e; simp at e
  | @cons c w r h ih =>
    intro dp hw r1 x y r2 e
    have hs := dec_step (dp c List.mem_cons_self) hw
    cases r1 with
    | cons z r1 =>
      rw [List.cons_append] at e
      obtain ⟨_, e⟩ := List.cons.inj e
      exact ih (fun a ha => dp a (List.mem_cons_of_mem _ ha)) hs r1 x y r2 e
    | nil =>
      obtain ⟨e1, e2⟩ := List.cons.inj e
      subst e1
      have hh := adj_head h
      rw [e2] at hh
      cases hc : ch c ++ w with
      | nil => rw [hc] at hh; cases hh
      | cons d ds =>
        rw [hc] at hh
        have ed : y = d := Option.some.inj hh
        subst ed
        have hy : y ∈ ch c ++ w := by rw [hc]; exact List.mem_cons_self
        rcases List.mem_append.mp hy with q | q
        · have := (dp c List.mem_cons_self y q).2
          omega
        · have := (List.pairwise_cons.mp hw).1 y q
          omega
theorem kidB {T : T3} (h : Th T) (nw : Bool) : Kid T (depF T) (chB T nw) (oB T nw) := fun c hc d hd => by
  have hm : d ∈ kids T T.length (some c) := by
    unfold chB rB at hd
    split at hd
    · exact List.mem_reverse.mp hd
    · exact hd
  obtain ⟨h1, h2⟩ := mem_kids.mp hm
  exact ⟨h2, depF_some h h1 h2⟩
theorem topB {T : T3} (nw : Bool) {x : Nat} (hx : x ∈ rB nw (kids T T.length none)) : x < T.length ∧ par T x = none := by
  unfold rB at hx
  split at hx
  · exact mem_kids.mp (List.mem_reverse.mp hx)
  · exact mem_kids.mp hx
theorem decB {T : T3} (h : Th T) (nw : Bool) : Dec (depF T) (rB nw (kids T T.length none)) := List.pairwise_of_forall_mem_list fun x hx y hy => by
  obtain ⟨x1, x2⟩ := topB nw hx
  obtain ⟨y1, y2⟩ := topB nw hy
  rw [depF_none h x1 x2, depF_none h y1 y2]
  exact Nat.le_refl _
/-- what a comment answers stands at the end of its path -/
theorem pathB {T : T3} (h : Th T) (nw : Bool) {r1 r2 : List Nat} {c : Nat} (e : oB T nw = r1 ++ c :: r2) : ((pathF (depF T) [] r1).take (depF T c)).getLast? = par T c :=
  (path_ok2 h (walkB h nw) [] (kidB h nw) (fun x hx => memB.mp hx) (decB h nw) (fun x hx => by rw [List.take_nil]; exact .top (topB nw hx).2) r1 c r2 e).last
/-- rows of a thread lead back to it -/
theorem runL_at (T : T3) : ∀ (r r1 : List Nat) (F : T3), (∀ r2 c r3, r = r2 ++ c :: r3 → ((pathF (depF T) [] (r1 ++ r2)).take (depF T c)).getLast? = par T c) → (∀ c ∈ r, c < F.length) → r.Nodup → ∀ i, (runL (rowsD T r) (pathF (depF T) [] r1, F)).2[i]? = if i ∈ r ∧ par T i ≠ none then some (par T i) else F[i]?
  | [], _, F, _, _, _, i => by
    rw [if_neg (by simp)] <;> rfl
  | c :: r, r1, F, hp, hl, nd, i => by
    have h0 := hp [] c r rfl
    rw [List.append_nil] at h0
    obtain ⟨n1, n2⟩ := List.nodup_cons.mp nd
    have step : stepL (pathF (depF T) [] r1, F) (depF T c, c) = (pathF (depF T) [] (r1 ++ [c]), match par T c with
        | none => F
        | some a => F.set c (some a)) := by
      unfold stepL
      dsimp only
      rw [h0, pathF_snoc]
    show (runL (rowsD T r) (stepL (pathF (depF T) [] r1, F) (depF T c, c))).2[i]? = _
    rw [step]
    have hlen : ∀ G : T3, G = (match par T c with
        | none => F
        | some a => F.set c (some a)) → G.length = F.length := fun G e => by
      rw [e]
      cases par T c with
      | none => rfl
      | some a => exact List.length_set
    rw [runL_at T r (r1 ++ [c]) _ (fun r2 d r3 e => by
      have := hp (c :: r2) d r3 (by rw [e] <;> rfl)
      rw [List.append_assoc]
      exact this) (fun d hd => by rw [hlen _ rfl]; exact hl d (List.mem_cons_of_mem _ hd)) n2 i]
    by_cases hi : i ∈ r ∧ par T i ≠ none
    · rw [if_pos hi, if_pos ⟨List.mem_cons_of_mem _ hi.1, hi.2⟩]
    · rw [if_neg hi]
      by_cases hc : i = c
      · subst hc
        cases hq : par T i with
        | none =>
          rw [if_neg (by simp)]
        | some a =>
          rw [if_pos ⟨List.mem_cons_self, by simp⟩]
          exact List.getElem?_set_self (hl i List.mem_cons_self)
      · have h2 : ¬ (i ∈ c :: r ∧ par T i ≠ none) := fun ⟨a, b⟩ => by
          rcases List.mem_cons.mp a with a | a
          · exact hc a
          · exact hi ⟨a, b⟩
        rw [if_neg h2]
        cases par T c with
        | none => rfl
        | some a => exact List.getElem?_set_ne (Ne.symm hc)
theorem thrL_rows {T : T3} (h : Th T) (nw : Bool) : thrL (rowsD T (oB T nw)) = T := by
  refine List.ext_getElem? fun i => ?_
  unfold thrL
  have e := runL_at T (oB T nw) [] (List.replicate (rowsD T (oB T nw)).length none) (fun r2 c r3 e => by rw [List.nil_append]; exact pathB h nw e) (fun c hc => by
    rw [List.length_replicate]
    unfold rowsD
    rw [List.length_map, lenB]
    exact memB.mp hc) (ndB T nw) i
  have e0 : pathF (depF T) [] [] = [] := rfl
  rw [e0] at e
  rw [e]
  have hr : (rowsD T (oB T nw)).length = T.length := by unfold rowsD; rw [List.length_map, lenB]
  rw [hr, List.getElem?_replicate]
  by_cases hi : i < T.length
  · have hm : i ∈ oB T nw := memB.mpr hi
    have hg : T[i]? = some (par T i) := by
      unfold par
      rw [List.getD_eq_getElem?_getD, List.getElem?_eq_getElem hi] <;> rfl
    rw [hg]
    by_cases hp : par T i = none
    · rw [if_neg (fun z => z.2 hp), if_pos hi, hp]
    · rw [if_pos ⟨hm, hp⟩]
  · have hm : i ∉ oB T nw := fun z => hi (memB.mp z)
    rw [if_neg (fun z => hm z.1), if_neg hi, List.getElem?_eq_none (by omega)]
/-! ### which rows can stand -/
def room (ls : List (Nat × Nat)) : Nat := match ls.getLast? with
  | none => 0
  | some x => x.1 + 1
/-- row k, behind the rows ls -/
def okR (k : Nat) (ls : List (Nat × Nat)) (x : Nat × Nat) : Bool := decide (x.1 ≤ room ls) && (!(ls.map (·.2)).contains x.2 && !decide (k = 40))
theorem room_snoc (ls : List (Nat × Nat)) (x : Nat × Nat) : room (ls ++ [x]) = x.1 + 1 := by
  unfold room
  rw [List.getLast?_append]
  rfl
/-- the rows of a thread can stand -/
theorem ok_rows {T : T3} (h : Th T) (hl : T.length ≤ 40) (nw : Bool) {k c : Nat} (hk : (oB T nw)[k]? = some c) : okR k (rowsD T ((oB T nw).take k)) (depF T c, c) = true := by
  have hi := (List.getElem?_eq_some_iff.mp hk).1
  have hg := (List.getElem?_eq_some_iff.mp hk).2
  have hd := List.drop_eq_getElem_cons hi
  rw [hg] at hd
  have sp : oB T nw = (oB T nw).take k ++ c :: (oB T nw).drop (k + 1) := by rw [← hd, List.take_append_drop]
  have nd := ndB T nw
  unfold okR
  rw [Bool.and_eq_true, Bool.and_eq_true, decide_eq_true_iff]
  refine ⟨?_, ?_, ?_⟩
  · cases k with
    | zero =>
      have hh := adj_head (walkB h nw)
      rw [List.head?_eq_getElem?, hk] at hh
      have hm := List.mem_of_mem_head? hh.symm
      have e0 := depF_none h (topB nw hm).1 (topB nw hm).2
      show depF T c ≤ _
      omega
    | succ j =>
      have hj : j < (oB T nw).length := by omega
      have ht : (oB T nw).take (j + 1) = (oB T nw).take j ++ [(oB T nw)[j]] := List.take_succ_eq_append_getElem hj
      have e : rowsD T ((oB T nw).take (j + 1)) = rowsD T ((oB T nw).take j) ++ [(depF T (oB T nw)[j], (oB T nw)[j])] := by
        rw [ht]
        unfold rowsD
        rw [List.map_append] <;> rfl
      rw [e, room_snoc]
      refine adj2 (walkB h nw) (kidB h nw) (decB h nw) ((oB T nw).take j) (oB T nw)[j] c ((oB T nw).drop (j + 1 + 1)) ?_
      rw [ht, List.append_assoc] at sp
      exact sp
  · rw [Bool.not_eq_true', ← Bool.not_eq_true, List.contains_iff_mem]
    intro hm
    have e : (rowsD T ((oB T nw).take k)).map (·.2) = (oB T nw).take k := by
      unfold rowsD
      rw [List.map_map]
      exact List.map_id' _
    rw [e] at hm
    rw [sp] at nd
    exact (List.nodup_append.mp nd).2.2 c hm c List.mem_cons_self rfl
  · rw [lenB] at hi
    rw [Bool.not_eq_true', decide_eq_false_iff_not]
    omega
/-- a tree of a thread -/
def treeOk (ls : List (Nat × Nat)) : Prop := (ls.map (·.2)).Perm (List.range ls.length) ∧ Th (thrL ls) ∧ ordL (thrL ls) = ls.map (·.2)
theorem tree_rows {T : T3} (h : Th T) (nw : Bool) : treeOk (rowsD T (oB T nw)) ↔ oB T nw = ordL T := by
  have e : (rowsD T (oB T nw)).map (·.2) = oB T nw := by
    unfold rowsD
    rw [List.map_map]
    exact List.map_id' _
  have hr : (rowsD T (oB T nw)).length = T.length := by unfold rowsD; rw [List.length_map, lenB]
  unfold treeOk
  rw [e, thrL_rows h nw, hr]
  constructor
  · exact fun z => z.2.2.symm
  · intro z
    refine ⟨?_, h, z.symm⟩
    refine (List.perm_ext_iff_of_nodup (ndB T nw) List.nodup_range).mpr fun a => ?_
    rw [memB, List.mem_range]
end FM
namespace FT
open PySem PySem.Spec PyProof.Rows L2
/-- a value that is no thread: a list, or none -/
def BadT (K : PySem.W.Frag) (H : Hp) (v : V) : Prop := (∃ (a : Addr) (xs : List V), v = .ref a ∧ SqL K H a xs ∧ xs.length ≤ 1000 ∧ (∀ (k : Nat) (x : V), xs[k]? = some x → x = .non ∨ ∀ H', Ex H H' → KdI K H' x) ∧ thV xs = false) ∨ ∃ T0, Kd K H v T0 ∧ kitB T0 "list" = some false
def sp_require_thread (K : PySem.W.Frag) : Sp := fun vs H Q E => ∃ v, vs = [v] ∧ ((∃ (a : Addr) (T : FM.T3), v = .ref a ∧ SqL K H a (T.map ov) ∧ FM.Th T ∧ T.length ≤ 1000 ∧ ∀ H', Ex H H' → Q .non H') ∨ (BadT K H v ∧ ∀ H', Ex H H' → E (.ref (He.ga K "InvalidThread")) none H'))
theorem reqth_in {K : PySem.W.Frag} {H : Hp} {Q : VK} {E : XK} {a : Addr} {T : FM.T3} (ha : SqL K H a (T.map ov)) (hT : FM.Th T) (hl : T.length ≤ 1000) (q : ∀ H', Ex H H' → Q .non H') : sp_require_thread K [.ref a] H Q E := ⟨_, rfl, .inl ⟨a, T, rfl, ha, hT, hl, q⟩⟩
def spOf (K : PySem.W.Frag) (g : FM.T3 → List Nat) : Sp := fun vs H Q _ => ∃ (a : Addr) (T : FM.T3), vs = [.ref a] ∧ SqL K H a (T.map ov) ∧ FM.Th T ∧ T.length ≤ 1000 ∧ NewL H (g T) Q
def sp_order_of (K : PySem.W.Frag) : Sp := spOf K FM.ordL
def sp_newest_of (K : PySem.W.Frag) : Sp := spOf K FM.newL
def sp_depths_of (K : PySem.W.Frag) : Sp := spOf K FM.depL
def sp_below_of (K : PySem.W.Frag) : Sp := fun vs H Q _ => ∃ (a : Addr) (T : FM.T3) (c : Nat), vs = [.ref a, .int (c : Int)] ∧ SqL K H a (T.map ov) ∧ FM.Th T ∧ T.length ≤ 1000 ∧ c < T.length ∧ NewL H (FM.belL T c) Q
/-- a new thread -/
abbrev NewT (H : Hp) (T : FM.T3) (Q : VK) : Prop := ∀ p H', Ex H H' → H p = none → H' p = some (.lst (T.map ov)) → Q (.ref p) H'
def sp_has_order_form (K : PySem.W.Frag) : Sp := fun vs H Q _ => ∃ (a : Addr) (O : List Nat), vs = [.ref a] ∧ SqL K H a (nV O) ∧ O.Perm (List.range O.length) ∧ O.length ≤ 60 ∧ ∀ H', Ex H H' → Q (.bl true) H'
def sp_require_order (K : PySem.W.Frag) : Sp := fun vs H Q _ => ∃ (a : Addr) (O : List Nat), vs = [.ref a] ∧ SqL K H a (nV O) ∧ O.Perm (List.range O.length) ∧ O.length ≤ 60 ∧ ∀ H', Ex H H' → Q .non H'
/-- a new list of the neighbours -/
def NewN (K : PySem.W.Frag) (H : Hp) (O : List Nat) (Q : VK) : Prop := ∀ l (ts : List Addr) H', Ex H H' → H l = none → H' l = some (.lst (ts.map .ref)) → ts.length = O.length → (∀ (c : Nat) (t : Addr), ts[c]? = some t → H t = none ∧ SqT K H' t [ov (FM.front O c), ov (FM.behind O c)]) → Q (.ref l) H'
def sp_neighbours_in (K : PySem.W.Frag) : Sp := fun vs H Q _ => ∃ (a : Addr) (O : List Nat), vs = [.ref a] ∧ SqL K H a (nV O) ∧ O.Perm (List.range O.length) ∧ O.length ≤ 60 ∧ NewN K H O Q
def sp_are_depths_of (K : PySem.W.Frag) : Sp := fun vs H Q _ => ∃ (a b : Addr) (T : FM.T3), vs = [.ref a, .ref b] ∧ SqL K H a (nV (FM.ordL T)) ∧ SqL K H b (nV (FM.depL T)) ∧ FM.Th T ∧ T.length ≤ 60 ∧ ∀ H', Ex H H' → Q (.bl true) H'
/-- depths by number: a list, or a dict -/
def DepD (K : PySem.W.Frag) (H : Hp) (b : Addr) (ls : List (Nat × Nat)) : Prop := (∃ L : List V, SqL K H b L ∧ ∀ x ∈ ls, L[x.2]? = some (.int (x.1 : Int))) ∨ ∀ x ∈ ls, DGet H b (.int (x.2 : Int)) (some (.int (x.1 : Int)))
def sp_thread_in (K : PySem.W.Frag) : Sp := fun vs H Q _ => ∃ (a b : Addr) (ls : List (Nat × Nat)), vs = [.ref a, .ref b] ∧ SqL K H a (nV (ls.map (·.2))) ∧ (∀ H', Ex H H' → DepD K H' b ls) ∧ (∀ x ∈ ls, x.2 < ls.length) ∧ ls.length ≤ 60 ∧ NewT H (FM.thrL ls) Q
def sp_thread_of (K : PySem.W.Frag) : Sp := fun vs H Q _ => ∃ (a b : Addr) (T : FM.T3), vs = [.ref a, .ref b] ∧ SqL K H a (nV (FM.ordL T)) ∧ SqL K H b (nV (FM.depL T)) ∧ FM.Th T ∧ T.length ≤ 60 ∧ NewT H T Q
def sp_thread_of_newest (K : PySem.W.Frag) : Sp := fun vs H Q _ => ∃ (a : Addr) (T : FM.T3), vs = [.ref a] ∧ SqL K H a (nV (FM.newL T)) ∧ FM.Th T ∧ T.length ≤ 60 ∧ NewT H T Q
end FT
namespace FT
open PySem PySem.Spec PyProof.Rows L2

/-- slots: value, item -/
def t_has_order_form (K : PySem.W.Frag) (E : XK) : TS :=
  (tSeq (tIfS (tOr (tNot (tB (tCB (qIsi K) (tCons (tVar 0) (tCons (tC (.ty "list")) tNil))))) (tNot (tB (tCB (rAll K) (tCons (tLc (iSeq K (tVar 0)) (gName 1) tYes (tCall (sp_is_integer K) [] E0 (tCons (tVar 1) (tCons (tC (.int 0)) (tCons (tOp qSub (tCB (qLen K) (tCons (tVar 0) tNil)) (tC (.int 1))) tNil)))) [1]) tNil))))) (tRet (tC (.bl false))) tNext)
  (tRet (tOp (qEq K) (tCB (qSorted K) (tCons (tVar 0) tNil)) (tLstRg (tRg1 (tCB (qLen K) (tCons (tVar 0) tNil)))))))
/-- slots: value -/
def t_require_order (K : PySem.W.Frag) (E : XK) : TS :=
  (tIfS (tNot (tB (tCall (sp_has_order_form K) [] E0 (tCons (tVar 0) tNil)))) (tRaise (wF E) (He.ga K "InvalidOrder")) tNext)
/-- slots: order, found, left, comment, place -/
def t_neighbours_in (K : PySem.W.Frag) (E : XK) : TS :=
  (tSeq (tPar 1 2 (tCons (tLst tNil) (tCons (tCB (qList K) (tCons (tVar 0) tNil)) tNil)))
  (tSeq (tFor (iRevR (tRg1 (tCB (qLen K) (tCons (tVar 0) tNil)))) (gName 3) (tSeq (tAsg (tBM K "list" (rIndex K) (tVar 2) (tCons (tVar 3) tNil)) (gName 4))
  (tSeq (tDrop (tBM K "list" rAppend (tVar 1) (tCons (tTup (tCons (tIf (tTest (tOp qGt (tVar 4) (tC (.int 0)))) (tOp (qIx K) (tVar 2) (tOp qSub (tVar 4) (tC (.int 1)))) (tC .non)) (tCons (tIf (tTest (tOp qLt (tOp (qAdd K) (tVar 4) (tC (.int 1))) (tCB (qLen K) (tCons (tVar 2) tNil)))) (tOp (qIx K) (tVar 2) (tOp (qAdd K) (tVar 4) (tC (.int 1)))) (tC .non)) tNil))) tNil)))
  (tDrop (tBM K "list" rRemI (tVar 2) (tCons (tVar 3) tNil))))))
  (tRet (tRev K (tVar 1) (tPart (tUn (rU fun i => .int (-i)) (tC (.int 1))))))))
/-- slots: value -/
def t_require_thread (K : PySem.W.Frag) (E : XK) : TS :=
  (tIfS (tNot (tB (tCall (sp_is_thread K) [] E0 (tCons (tVar 0) tNil)))) (tRaise (wF E) (He.ga K "InvalidThread")) tNext)
/-- slots: order, value, comment, front, behind, most, depth -/
def t_are_depths_of (K : PySem.W.Frag) (E : XK) : TS :=
  (tSeq (tIfS (tOr (tNot (tB (tCB (qIsi K) (tCons (tVar 1) (tCons (tC (.ty "list")) tNil))))) (tTest (tOp (qNe K) (tCB (qLen K) (tCons (tVar 1) tNil)) (tCB (qLen K) (tCons (tVar 0) tNil))))) (tRet (tC (.bl false))) tNext)
  (tSeq (tIfS (tNot (tB (tCB (rAll K) (tCons (tLc (iSeq K (tVar 1)) (gName 6) tYes (tCall (sp_is_integer K) [] E0 (tCons (tVar 6) (tCons (tC (.int 0)) (tCons (tC .non) tNil)))) [6]) tNil)))) (tRet (tC (.bl false))) tNext)
  (tSeq (tFor (iEnum K (tCons (tCall (sp_neighbours_in K) [] E0 (tCons (tVar 0) tNil)) tNil)) (gTup K 2 (gCons (gName 2) (gCons (gTup K 2 (gCons (gName 3) (gCons (gName 4) gNil))) gNil))) (tSeq (tAsg (tIf (tTest (tOp qIs (tVar 3) (tC .non))) (tC (.int 0)) (tOp (qAdd K) (tOp (qIx K) (tVar 1) (tVar 3)) (tC (.int 1)))) (gName 5))
  (tIfS (tOr (tTest (tOp qGt (tOp (qIx K) (tVar 1) (tVar 2)) (tVar 5))) (tAnd (tTest (tOp qIsNot (tVar 4) (tC .non))) (tTest (tOp qLe (tOp (qIx K) (tVar 1) (tVar 2)) (tOp (qIx K) (tVar 1) (tVar 4)))))) (tRet (tC (.bl false))) tNext)))
  (tRet (tC (.bl true))))))
/-- slots: order, depths, found, path, comment -/
def t_thread_in (K : PySem.W.Frag) (E : XK) : TS :=
  (tSeq (tPar 2 3 (tCons (tOp qMul (tLst (tCons (tC .non) tNil)) (tCB (qLen K) (tCons (tVar 0) tNil))) (tCons (tLst tNil) tNil)))
  (tSeq (tFor (iSeq K (tVar 0)) (gName 4) (tSeq (tAsg (tSl (qSl K) (tVar 3) tNoPart (tPart (tOr2 (tOp (qIx K) (tVar 1) (tVar 4)) (tDGet (tVar 1) (tVar 4))))) (gName 3))
  (tSeq (tIfS (tTest (tOp (qNe K) (tVar 3) (tLst tNil))) (tAsg (tOp (qIx K) (tVar 3) (tUn (rU fun i => .int (-i)) (tC (.int 1)))) (gSub (tVar 2) (tVar 4) rSetL)) tNext)
  (tDrop (tBM K "list" rAppend (tVar 3) (tCons (tVar 4) tNil))))))
  (tRet (tVar 2))))
/-- slots: thread -/
def t_order_of (K : PySem.W.Frag) (E : XK) : TS :=
  (tSeq (tDrop (tCallS (sp_require_thread K) (WE (wF E)) (tCons (tVar 0) tNil)))
  (tRet (tCall (sp_order_in K) [] E0 (tCons (tVar 0) tNil))))
/-- slots: thread -/
def t_newest_of (K : PySem.W.Frag) (E : XK) : TS :=
  (tSeq (tDrop (tCallS (sp_require_thread K) (WE (wF E)) (tCons (tVar 0) tNil)))
  (tRet (tCall (sp_newest_in K) [] E0 (tCons (tVar 0) tNil))))
/-- slots: thread -/
def t_depths_of (K : PySem.W.Frag) (E : XK) : TS :=
  (tSeq (tDrop (tCallS (sp_require_thread K) (WE (wF E)) (tCons (tVar 0) tNil)))
  (tRet (tCall (sp_depths_in K) [] E0 (tCons (tVar 0) tNil))))
/-- slots: order, depths -/
def t_thread_of (K : PySem.W.Frag) (E : XK) : TS :=
  (tSeq (tDrop (tCallS (sp_require_order K) (WE (wF E)) (tCons (tVar 0) tNil)))
  (tSeq (tIfS (tNot (tB (tCall (sp_are_depths_of K) [] E0 (tCons (tVar 0) (tCons (tVar 1) tNil))))) (tRaise (wF E) (He.ga K "InvalidDepths")) tNext)
  (tRet (tCall (sp_thread_in K) [] E0 (tCons (tVar 0) (tCons (tVar 1) tNil))))))
/-- slots: order, front, behind -/
def t_thread_of_newest (K : PySem.W.Frag) (E : XK) : TS :=
  (tSeq (tDrop (tCallS (sp_require_order K) (WE (wF E)) (tCons (tVar 0) tNil)))
  (tRet (tLc (iSeq K (tCall (sp_neighbours_in K) [] E0 (tCons (tVar 0) tNil))) (gTup K 2 (gCons (gName 1) (gCons (gName 2) gNil))) tYes (tVar 1) [1, 2])))
/-- slots: thread, comment, found, later, answers -/
def t_below_of (K : PySem.W.Frag) (E : XK) : TS :=
  (tSeq (tDrop (tCallS (sp_require_thread K) (WE (wF E)) (tCons (tVar 0) tNil)))
  (tSeq (tDrop (tCallS (sp_require_comment K) (WE (wF E)) (tCons (tCB (qLen K) (tCons (tVar 0) tNil)) (tCons (tVar 1) tNil))))
  (tSeq (tAsg (tLst tNil) (gName 2))
  (tSeq (tFor (iEnum K (tCons (tVar 0) tNil)) (gTup K 2 (gCons (gName 3) (gCons (gName 4) gNil))) (tIfS (tOr (tTest (tOp (qEq K) (tVar 4) (tVar 1))) (tTest (tOp (qIn K) (tVar 4) (tVar 2)))) (tDrop (tBM K "list" rAppend (tVar 2) (tCons (tVar 3) tNil))) tNext))
  (tRet (tVar 2))))))
end FT
namespace FT
open PySem PySem.Spec PyProof.Rows L2
theorem ex_none {H H1 : Hp} {p : Addr} (e : Ex H H1) (h : H1 p = none) : H p = none := by
  cases q : H p with
  | none => rfl
  | some o => rw [e p o q] at h; cases h
/-- a thread's order and depths -/
theorem thin_in {K : PySem.W.Frag} {H : Hp} {Q : VK} {E : XK} {a b : Addr} {T : FM.T3} (ha : SqL K H a (nV (FM.ordL T))) (hb : SqL K H b (nV (FM.depL T))) (hT : FM.Th T) (hl : T.length ≤ 60) (q : NewT H T Q) : sp_thread_in K [.ref a, .ref b] H Q E := by
  have e1 : (FM.rowsD T (FM.ordL T)).map (·.2) = FM.ordL T := by
    unfold FM.rowsD
    rw [List.map_map]
    exact List.map_id' _
  have e2 : (FM.rowsD T (FM.ordL T)).length = T.length := by
    unfold FM.rowsD
    rw [List.length_map]
    exact FM.len_ordN
  refine ⟨a, b, FM.rowsD T (FM.ordL T), rfl, by rw [e1]; exact ha, fun H' ex => .inl ⟨_, ex.l hb, fun x hx => ?_⟩, fun x hx => ?_, by omega, ?_⟩
  · obtain ⟨c, hc, rfl⟩ := List.mem_map.mp hx
    have hcl : c < T.length := FM.mem_ordN.mp hc
    have hcd : c < (FM.depL T).length := by
      have : (FM.depL T).length = T.length := FM.len_depN
      omega
    show (nV (FM.depL T))[c]? = some (.int ((FM.depF T c : Nat) : Int))
    unfold FM.depF nV
    rw [List.getElem?_map, List.getD_eq_getElem?_getD, List.getElem?_eq_getElem hcd] <;> rfl
  · obtain ⟨c, hc, rfl⟩ := List.mem_map.mp hx
    rw [e2]
    exact FM.mem_ordN.mp hc
  · have e3 : FM.thrL (FM.rowsD T (FM.ordL T)) = T := FM.thrL_rows hT false
    rw [e3]
    exact q
theorem pure_require_thread {K : PySem.W.Frag} {E : XK} {H : Hp} {Q : VK} {vs : List V} (h : sp_require_thread K vs H Q E) : t_require_thread K E (DD Q) (L2.start ["value"] vs) H := by
  obtain ⟨v, rfl, h⟩ := h
  show t_require_thread K E (DD Q) [some v] H
  unfold t_require_thread
  walk_at "z"
  rcases h with ⟨a, T, rfl, ha, hT, hl, q⟩ | ⟨⟨a, xs, rfl, ha, hl, hk, hb⟩ | ⟨T0, hk, hb⟩, q⟩
  · refine isth_in ha hT hl fun H1 ex => ?_
    refine z_bl (z_iffalse ?_)
    walk_at "z"
    exact q H1 ex
  · refine ⟨_, rfl, .inl ⟨a, xs, rfl, ha, hl, hk, fun H1 ex => ?_⟩⟩
    rw [hb]
    refine z_bl (z_iftrue ?_)
    walk_at "z"
    exact q H1 ex
  · refine ⟨_, rfl, .inr ⟨T0, hk, hb, ?_⟩⟩
    refine z_bl (z_iftrue ?_)
    walk_at "z"
    exact q H (Ex.refl H)
theorem pure_order_of {K : PySem.W.Frag} {E : XK} {H : Hp} {Q : VK} {vs : List V} (h : sp_order_of K vs H Q E) : t_order_of K E (DD Q) (L2.start ["thread"] vs) H := by
  obtain ⟨a, T, rfl, ha, hT, hl, q⟩ := h
  show t_order_of K E (DD Q) [some (.ref a)] H
  unfold t_order_of
  walk_at "z"
  refine reqth_in ha hT hl fun H1 ex => ?_
  walk_at "z"
  exact ⟨a, false, T, rfl, ex.l ha, hT, hl, fun p H2 ex2 hn hp => q p H2 (ex.trans ex2) (ex_none ex hn) hp⟩
theorem pure_newest_of {K : PySem.W.Frag} {E : XK} {H : Hp} {Q : VK} {vs : List V} (h : sp_newest_of K vs H Q E) : t_newest_of K E (DD Q) (L2.start ["thread"] vs) H := by
  obtain ⟨a, T, rfl, ha, hT, hl, q⟩ := h
  show t_newest_of K E (DD Q) [some (.ref a)] H
  unfold t_newest_of
  walk_at "z"
  refine reqth_in ha hT hl fun H1 ex => ?_
  walk_at "z"
  exact ⟨a, false, T, rfl, ex.l ha, hT, hl, fun p H2 ex2 hn hp => q p H2 (ex.trans ex2) (ex_none ex hn) hp⟩
theorem pure_depths_of {K : PySem.W.Frag} {E : XK} {H : Hp} {Q : VK} {vs : List V} (h : sp_depths_of K vs H Q E) : t_depths_of K E (DD Q) (L2.start ["thread"] vs) H := by
  obtain ⟨a, T, rfl, ha, hT, hl, q⟩ := h
  show t_depths_of K E (DD Q) [some (.ref a)] H
  unfold t_depths_of
  walk_at "z"
  refine reqth_in ha hT hl fun H1 ex => ?_
  walk_at "z"
  exact ⟨a, T, rfl, .inl (ex.l ha), hT, hl, fun p H2 ex2 hn hp => q p H2 (ex.trans ex2) (ex_none ex hn) hp⟩
theorem pure_below_of {K : PySem.W.Frag} {E : XK} {H : Hp} {Q : VK} {vs : List V} (h : sp_below_of K vs H Q E) : t_below_of K E (DD Q) (L2.start ["thread", "comment", "found", "later", "answers"] vs) H := by
  obtain ⟨a, T, c, rfl, ha, hT, hl, hc, q⟩ := h
  show t_below_of K E (DD Q) [some (.ref a), some (.int (c : Int)), none, none, none] H
  unfold t_below_of
  walk_at "z"
  refine reqth_in ha hT hl fun H1 ex => ?_
  have ha1 := ex.l ha
  walk_at "z"
  rw [List.length_map]
  refine ⟨(T.length : Int), .int (c : Int), rfl, kdI_int K H1 c, fun _ => ?_, fun e => ?_⟩
  · have S := Z.start H1
    walk_at "z"
    intro f H2 S2
    walk_at "z"
    refine z_for_enum (T.map ov) (fun k σ H' => ∃ o3 o4, σ = [some (.ref a), some (.int (c : Int)), some (.ref f), o3, o4] ∧ Z H' H1 [[(f, .lst (nV (FM.belN T c k)))]]) ⟨_, _, rfl, S2⟩ (fun i σ H' _ ⟨_, _, _, S3⟩ => S3.l ha1) ?_ ?_
    · rintro k x T0 σ H3 H4 hx ⟨_, _, rfl, S3⟩ ex4 hT0 hT1
      have hk : k < T.length := by
        have := (List.getElem?_eq_some_iff.mp hx).1
        rwa [List.length_map] at this
      rw [ov_get hk] at hx
      cases hx
      have S4 := S3.ext ex4
      have bel : FM.belN T c (k + 1) = if FM.inFam T (c :: FM.belN T c k) k = true then FM.belN T c k ++ [k] else FM.belN T c k := rfl
      have hbl := len_belN T c k
      walk_at "z"
      have yes : FM.inFam T (c :: FM.belN T c k) k = true → ∃ o3 o4, ([some (.ref a), some (.int (c : Int)), some (.ref f), some (.int (k : Int)), some (ov (FM.par T k))] : L2.St) = [some (.ref a), some (.int (c : Int)), some (.ref f), o3, o4] ∧ Z (upd H4 f (.lst (nV (FM.belN T c k ++ [k])))) H1 [[(f, .lst (nV (FM.belN T c (k + 1))))]] := fun e => by
        rw [bel, if_pos e]
        exact ⟨_, _, rfl, S4.put⟩
      have app : FM.inFam T (c :: FM.belN T c k) k = true → ∀ D : Ends, (∀ σ' H', (∃ o3 o4, σ' = [some (.ref a), some (.int (c : Int)), some (.ref f), o3, o4] ∧ Z H' H1 [[(f, .lst (nV (FM.belN T c (k + 1))))]]) → D.nx σ' H') → tDrop (tBM K "list" rAppend (tVar 2) (tCons (tVar 3) tNil)) D [some (.ref a), some (.int (c : Int)), some (.ref f), some (.int (k : Int)), some (ov (FM.par T k))] H4 := fun e D hD => by
        walk_at "z"
        refine z_append (n := 0) S4 rfl (by rw [nV_len, sz]; omega) fun H5 S5 => ?_
        have em : nV (FM.belN T c k) ++ [V.int (k : Int)] = nV (FM.belN T c k ++ [k]) := by simp [nV]
        rw [em] at S5
        exact hD _ _ ⟨_, _, rfl, by rw [bel, if_pos e]; exact S5⟩
      refine x_eqV (by cases FM.par T k <;> rfl) ?_
      have ein : ∀ p, FM.par T k = some p → FM.inFam T (c :: FM.belN T c k) k = (decide (p = c) || (FM.belN T c k).contains p) := fun p hp => by
        unfold FM.inFam
        rw [hp]
        show (c :: FM.belN T c k).contains p = _
        rw [List.contains_cons]
        by_cases e : p = c
        · rw [e, decide_eq_true rfl, beq_self_eq_true]
        · rw [decide_eq_false e, beq_eq_false_iff_ne.mpr e]
      cases hp : FM.par T k with
      | none =>
        rw [hp] at app
        have e0 : FM.inFam T (c :: FM.belN T c k) k = false := by unfold FM.inFam; rw [hp]
        refine z_bl (z_ite (fun z => nomatch z) (fun _ => ?_))
        walk_at "z"
        refine .inl ⟨f, nV (FM.belN T c k), rfl, .inl (sq_l (S4.at_ 0 0 rfl rfl)), rfl, flat_nV _, ?_⟩
        rw [if_neg (by decide), show inV (ov none) (nV (FM.belN T c k)) = false from inV_nV none _]
        refine z_bl (z_iffalse ?_)
        walk_at "z"
        rw [bel, e0]
        exact ⟨_, _, rfl, S4⟩
      | some p =>
        rw [hp] at app
        have e1 := ein p hp
        refine z_bl (z_ite (fun z => ?_) (fun z => ?_))
        · have hpc : p = c := by have := V.int.inj z; omega
          rw [decide_eq_true hpc, Bool.true_or] at e1
          refine z_iftrue ?_
          exact app e1 _ fun σ' H' x => x
        · have hpc : ¬ p = c := fun e => z (by rw [e]; rfl)
          rw [decide_eq_false hpc, Bool.false_or] at e1
          walk_at "z"
          refine .inl ⟨f, nV (FM.belN T c k), rfl, .inl (sq_l (S4.at_ 0 0 rfl rfl)), rfl, flat_nV _, ?_⟩
          rw [if_neg (by decide), show inV (ov (some p)) (nV (FM.belN T c k)) = (FM.belN T c k).contains p from inV_int p _, ← e1]
          refine z_bl (z_iteB (fun z2 => ?_) (fun z2 => ?_))
          · exact app z2 _ fun σ' H' x => x
          · walk_at "z"
            rw [bel, z2]
            exact ⟨_, _, rfl, S4⟩
    · rintro σ H3 ⟨_, _, rfl, S3⟩
      rw [List.length_map] at S3
      walk_at "z"
      exact q f H3 (ex.trans S3.base) (ex_none ex (S3.no 0 0 rfl rfl)) S3.hd
  · rw [isI_in hc] at e
    cases e
theorem pure_has_order_form {K : PySem.W.Frag} {E : XK} {H : Hp} {Q : VK} {vs : List V} (h : sp_has_order_form K vs H Q E) : t_has_order_form K E (DD Q) (L2.start ["value", "item"] vs) H := by
  obtain ⟨a, O, rfl, ha, hO, hl, q⟩ := h
  show t_has_order_form K E (DD Q) [some (.ref a), none] H
  have S := Z.start H
  have hlt : ∀ c ∈ O, c < O.length := fun c hc => List.mem_range.mp (hO.mem_iff.mp hc)
  unfold t_has_order_form
  walk_at "z"
  refine z_isi (b := true) (kd_list ha) (by decide +kernel) ?_
  refine z_bl ?_
  refine z_iffalse ?_
  walk_at "z"
  refine z_lcL S (nV O) (fun k => List.replicate k (.bl true)) rfl (fun H' S' => S'.l ha) (fun k x D H1 hx S1 => ?_) (fun D H1 S1 => ?_)
  · have hk : k < O.length := by
      have := (List.getElem?_eq_some_iff.mp hx).1
      rwa [nV_len] at this
    rw [nV_at hk] at hx
    cases hx
    have hc := hlt _ (List.getElem_mem hk)
    walk_at "z"
    rw [nV_len]
    refine ⟨.int ((O[k] : Nat) : Int), 0, some ((O.length : Int) - 1), rfl, kdI_int K _ _, ?_⟩
    have e : isI (.int ((O[k] : Nat) : Int)) 0 (some ((O.length : Int) - 1)) = true := by
      simp only [isI]
      rw [decide_eq_true (by omega), decide_eq_true (by omega)] <;> rfl
    rw [e]
    exact z_app (N := []) S1 (by rw [List.length_replicate, sz]; omega) (by rw [List.replicate_succ'])
  · rw [nV_len] at S1
    refine ⟨D, List.replicate O.length true, rfl, ?_, ?_⟩
    · rw [List.map_replicate]
      exact sq_l S1.hd
    · have e : (List.replicate O.length true).all id = true := List.all_eq_true.mpr fun x hx => List.eq_of_mem_replicate hx
      rw [e]
      refine z_bl (z_iffalse ?_)
      have S2 := S1.tail
      walk_at "z"
      refine ⟨a, O.map fun (n : Nat) => (n : Int), rfl, by rw [← nV_int]; exact S2.l ha, by rw [List.length_map]; omega, fun ns p hp hs hn => ?_⟩
      have S3 := S2.new (o := .lst (ns.map V.int)) hn
      generalize upd H1 p (.lst (ns.map V.int)) = H2 at S3 ⊢
      walk_at "z"
      have nd : O.Nodup := hO.nodup_iff.mpr List.nodup_range
      rw [sort_asc nd (fun c => hO.mem_iff) List.pairwise_lt_range hp hs] at S3
      refine z_lstRg S3 O.length (by rw [nV_len]) (by omega) fun p2 H3 S4 => ?_
      have S4 : Z H3 H ([(p2, .lst (nV (List.range O.length)))] :: _) := S4
      refine eq_nV (l := List.range O.length) (m := List.range O.length) (sq_l (S4.at_ 1 0 rfl rfl)) (sq_l (S4.at_ 0 0 rfl rfl)) ?_
      rw [decide_eq_true rfl]
      exact q H3 S4.base
theorem pure_require_order {K : PySem.W.Frag} {E : XK} {H : Hp} {Q : VK} {vs : List V} (h : sp_require_order K vs H Q E) : t_require_order K E (DD Q) (L2.start ["value"] vs) H := by
  obtain ⟨a, O, rfl, ha, hO, hl, q⟩ := h
  show t_require_order K E (DD Q) [some (.ref a)] H
  unfold t_require_order
  walk_at "z"
  refine ⟨a, O, rfl, ha, hO, hl, fun H1 ex => ?_⟩
  refine z_bl (z_iffalse ?_)
  walk_at "z"
  exact q H1 ex
theorem pure_thread_of {K : PySem.W.Frag} {E : XK} {H : Hp} {Q : VK} {vs : List V} (h : sp_thread_of K vs H Q E) : t_thread_of K E (DD Q) (L2.start ["order", "depths"] vs) H := by
  obtain ⟨a, b, T, rfl, ha, hb, hT, hl, q⟩ := h
  show t_thread_of K E (DD Q) [some (.ref a), some (.ref b)] H
  have hp : (FM.ordL T).Perm (List.range (FM.ordL T).length) := by
    have e : (FM.ordL T).length = T.length := FM.len_ordN
    rw [e]
    exact (List.perm_ext_iff_of_nodup FM.nd_ordN List.nodup_range).mpr fun x => by
      show x ∈ FM.ordN T T.length ↔ _
      rw [FM.mem_ordN, List.mem_range]
  have hlo : (FM.ordL T).length ≤ 60 := by
    have e : (FM.ordL T).length = T.length := FM.len_ordN
    omega
  unfold t_thread_of
  walk_at "z"
  refine ⟨a, FM.ordL T, rfl, ha, hp, hlo, fun H1 ex => ?_⟩
  walk_at "z"
  refine ⟨a, b, T, rfl, ex.l ha, ex.l hb, hT, hl, fun H2 ex2 => ?_⟩
  refine z_bl (z_iffalse ?_)
  walk_at "z"
  exact thin_in (ex2.l (ex.l ha)) (ex2.l (ex.l hb)) hT hl fun p H3 ex3 hn hp => q p H3 ((ex.trans ex2).trans ex3) (ex_none (ex.trans ex2) hn) hp
theorem pure_thread_of_newest {K : PySem.W.Frag} {E : XK} {H : Hp} {Q : VK} {vs : List V} (h : sp_thread_of_newest K vs H Q E) : t_thread_of_newest K E (DD Q) (L2.start ["order", "front", "behind"] vs) H := by
  obtain ⟨a, T, rfl, ha, hT, hl, q⟩ := h
  show t_thread_of_newest K E (DD Q) [some (.ref a), none, none] H
  have el : (FM.newL T).length = T.length := FM.len_newN
  have hp : (FM.newL T).Perm (List.range (FM.newL T).length) := by
    rw [el]
    exact (List.perm_ext_iff_of_nodup FM.nd_newN List.nodup_range).mpr fun x => by
      show x ∈ FM.newN T T.length ↔ _
      rw [FM.mem_newN, List.mem_range]
  unfold t_thread_of_newest
  walk_at "z"
  refine ⟨a, FM.newL T, rfl, ha, hp, by omega, fun H1 ex => ?_⟩
  walk_at "z"
  refine ⟨a, FM.newL T, rfl, ex.l ha, hp, by omega, fun l ts H2 ex2 hn hl2 hts ht => ?_⟩
  have hlS : SqL K H2 l (ts.map .ref) := sq_l hl2
  walk_at "z"
  have S := Z.start H2
  refine z_lcL S (ts.map .ref) (fun k => (T.take k).map ov) rfl (fun H' S' => S'.l hlS) (fun k x D H3 hx S1 => ?_) (fun D H3 S1 => ?_)
  · obtain ⟨t, htm, rfl⟩ : ∃ t, ts[k]? = some t ∧ x = .ref t := by
      rw [List.getElem?_map] at hx
      cases hq : ts[k]? with
      | none => rw [hq] at hx; cases hx
      | some t => rw [hq] at hx; cases hx; exact ⟨t, rfl, rfl⟩
    have hk : k < T.length := by
      have := (List.getElem?_eq_some_iff.mp htm).1
      omega
    have h1 := S1.t (ht k t htm).2
    walk_at "z"
    rw [FM.front_new hT hk]
    refine z_app (N := []) S1 (by rw [List.length_map, List.length_take, sz]; omega) ?_
    have ek : T[k]? = some (FM.par T k) := by
      unfold FM.par
      rw [List.getD_eq_getElem?_getD, List.getElem?_eq_getElem hk] <;> rfl
    rw [take_next ek, List.map_append] <;> rfl
  · rw [List.length_map, hts, el, List.take_length] at S1
    exact q D H3 ((ex.trans ex2).trans S1.base) (ex_none (ex.trans ex2) (S1.no 0 0 rfl rfl)) S1.hd
theorem thrN_get {T : FM.T3} {l : List Nat} {i : Nat} (hi : i < T.length) : (FM.thrN T l)[i]? = some (if l.contains i = true then FM.par T i else none) := by
  unfold FM.thrN
  rw [List.getElem?_map, List.getElem?_range hi] <;> rfl
theorem thrN_len {T : FM.T3} {l : List Nat} : (FM.thrN T l).length = T.length := by
  unfold FM.thrN
  rw [List.length_map, List.length_range]
theorem thrN_snoc {T : FM.T3} {l : List Nat} {c : Nat} (hc : c < T.length) : FM.thrN T (l ++ [c]) = (FM.thrN T l).set c (FM.par T c) := by
  refine List.ext_getElem? fun i => ?_
  by_cases hi : i < T.length
  · rw [thrN_get hi, List.getElem?_set, thrN_get hi, thrN_len]
    by_cases e : c = i
    · subst e
      rw [if_pos rfl, if_pos hc]
      have : (l ++ [c]).contains c = true := List.contains_iff_mem.mpr (List.mem_append_right _ (List.mem_singleton.mpr rfl))
      rw [if_pos this]
    · rw [if_neg e]
      have : (l ++ [c]).contains i = l.contains i := by
        rw [Bool.eq_iff_iff, List.contains_iff_mem, List.contains_iff_mem, List.mem_append, List.mem_singleton]
        exact ⟨fun z => z.elim id fun z => absurd z.symm e, .inl⟩
      rw [this]
  · rw [List.getElem?_eq_none (by rw [thrN_len]; omega), List.getElem?_eq_none (by rw [List.length_set, thrN_len]; omega)]
theorem thrN_none {T : FM.T3} {l : List Nat} {c : Nat} (hc : c < T.length) (hp : FM.par T c = none) : FM.thrN T (l ++ [c]) = FM.thrN T l := by
  rw [thrN_snoc hc, hp]
  refine List.ext_getElem? fun i => ?_
  rw [List.getElem?_set]
  by_cases e : c = i
  · subst e
    rw [if_pos rfl, thrN_get hc, if_pos (by rw [thrN_len]; exact hc), hp]
    split <;> rfl
  · rw [if_neg e]
theorem pure_thread_in {K : PySem.W.Frag} {E : XK} {H : Hp} {Q : VK} {vs : List V} (h : sp_thread_in K vs H Q E) : t_thread_in K E (DD Q) (L2.start ["order", "depths", "found", "path", "comment"] vs) H := by
  obtain ⟨a, b, ls, rfl, ha, hb, hlt, hl, q⟩ := h
  show t_thread_in K E (DD Q) [some (.ref a), some (.ref b), none, none, none] H
  have S := Z.start H
  unfold t_thread_in
  walk_at "z"
  intro l1 H1 S1
  walk_at "z"
  rw [nV_len, List.length_map]
  refine z_rep S1 (S1.at_ 0 0 rfl rfl) (by omega) (by omega) (by rw [sz]; simp; omega) fun f H2 S2 => ?_
  have e0 : (List.replicate ((ls.length : Int).toNat) [V.non]).flatten = (List.replicate ls.length (none : Option Nat)).map ov := by
    rw [Int.toNat_natCast, List.map_replicate]
    simp [ov]
  rw [e0] at S2
  have S2 : Z H2 H [[(f, .lst ((List.replicate ls.length (none : Option Nat)).map ov))]] := S2.sub (.cons_cons _ (.cons _ .slnil))
  generalize hs0 : (([], List.replicate ls.length none) : List Nat × FM.T3) = s0
  have hl0 : s0.2.length = ls.length := by rw [← hs0]; exact List.length_replicate
  have hp0 : s0.1.length = 0 := by rw [← hs0] <;> rfl
  walk_at "z"
  intro pl H3 S3
  have S3 : Z H3 H [[(pl, .lst (nV (FM.runL (ls.take 0) s0).1))], [(f, .lst ((FM.runL (ls.take 0) s0).2.map ov))]] := by
    rw [← hs0]
    exact S3
  have ha3 := S3.l ha
  walk_at "z"
  refine z_for_list (nV (ls.map (·.2))) (fun k σ H' => ∃ (pl : Addr) (o4 : Option V), σ = [some (.ref a), some (.ref b), some (.ref f), some (.ref pl), o4] ∧ Z H' H [[(pl, .lst (nV (FM.runL (ls.take k) s0).1))], [(f, .lst ((FM.runL (ls.take k) s0).2.map ov))]]) ⟨pl, _, rfl, S3⟩ (fun i σ H' _ ⟨_, _, _, S'⟩ => S'.l ha) ?_ ?_
  · rintro k x σ H4 hx ⟨pl, _, rfl, S4⟩
    have hk : k < ls.length := by
      have := (List.getElem?_eq_some_iff.mp hx).1
      rwa [nV_len, List.length_map] at this
    obtain ⟨y, hy⟩ : ∃ y, ls[k]? = some y := ⟨_, List.getElem?_eq_getElem hk⟩
    have hym := List.mem_of_getElem? hy
    have htk : ls.take (k + 1) = ls.take k ++ [y] := take_next hy
    obtain ⟨d, c⟩ := y
    have hc : c < ls.length := hlt _ hym
    unfold nV at hx
    rw [List.getElem?_map, List.getElem?_map, hy] at hx
    cases hx
    have hrun := FM.runL_snoc (ls.take k) (d, c) s0
    have hF : (FM.runL (ls.take k) s0).2.length = ls.length := by rw [FM.len_runL, hl0]
    have hPl : (FM.runL (ls.take k) s0).1.length ≤ 60 := by
      have := FM.path_len (ls.take k) s0
      rw [hp0, List.length_take] at this
      omega
    rw [← htk] at hrun
    generalize FM.runL (ls.take (k + 1)) s0 = s2 at hrun ⊢
    generalize FM.runL (ls.take k) s0 = s1 at S4 hrun hF hPl
    subst hrun
    walk_at "zi"
    refine split_e (fun x H' => x = .int (d : Int) ∧ H' = H4) (fun Q' kk => ?_) ?_
    · rcases hb H4 S4.base with ⟨L, hL, hd⟩ | hd
      · refine x_orL ?_
        walk_at "z"
        refine x_ixL hL (atI_nat (hd _ hym)) ?_
        exact kk _ _ ⟨rfl, rfl⟩
      · refine x_orR ?_
        walk_at "z"
        exact ⟨b, _, rfl, hd _ hym, kk _ _ ⟨rfl, rfl⟩⟩
    rintro x H5 ⟨rfl, rfl⟩
    walk_at "zi"
    refine z_slL S4 (sq_l (S4.at_ 0 0 rfl rfl)) fun p2 H5 S5 => ?_
    have ecut : cutV (nV s1.1) none (some (d : Int)) = nV (s1.1.take d) := by
      rw [cut_pre]
      unfold nV
      rw [List.map_take]
    rw [ecut] at S5
    have S5 : Z H5 H [[(p2, .lst (nV (s1.1.take d)))], [(f, .lst (s1.2.map ov))]] := S5.sub (.cons_cons _ (.cons _ (List.Sublist.refl _)))
    have hst : FM.stepL s1 (d, c) = (s1.1.take d ++ [c], match (s1.1.take d).getLast? with
      | none => s1.2
      | some a => s1.2.set c (some a)) := rfl
    have hP2 : (s1.1.take d).length ≤ 60 := by rw [List.length_take]; omega
    rw [hst]
    generalize s1.1.take d = P at S5 hP2 ⊢
    walk_at "zi"
    refine split_s (fun σ' H' => σ' = [some (.ref a), some (.ref b), some (.ref f), some (.ref p2), some (.int (c : Int))] ∧ Z H' H [[(p2, .lst (nV P))], [(f, .lst ((match P.getLast? with
      | none => s1.2
      | some a => s1.2.set c (some a)).map ov))]]) (fun Nn kk => ?_) ?_
    · refine x_ifs ?_
      walk_at "z"
      intro e1 H6 S6
      refine neq_nV (l := P) (m := []) (sq_l (S6.at_ 1 0 rfl rfl)) (sq_l (S6.at_ 0 0 rfl rfl)) ?_
      have S7 := S6.tail
      refine z_bl (z_iteN (fun z => ?_) (fun z => ?_))
      · obtain ⟨p, hp⟩ : ∃ p, P.getLast? = some p := by
          cases hq : P.getLast? with
          | none => exact absurd (List.getLast?_eq_none_iff.mp hq) z
          | some p => exact ⟨p, rfl⟩
        have hl2 : (nV P).getLast? = some (.int (p : Int)) := by
          unfold nV
          rw [List.getLast?_map, hp] <;> rfl
        rw [hp] at kk
        walk_at "z"
        refine x_ixL (sq_l (S7.at_ 0 0 rfl rfl)) (atI_last hl2) ?_
        walk_at "z"
        refine z_setL (n := 1) (k := c) S7 rfl (ixN_nat (by rw [List.length_map]; omega)) fun H7 S8 => ?_
        have es : (s1.2.map ov).set c (.int (p : Int)) = (s1.2.set c (some p)).map ov := by
          rw [List.map_set] <;> rfl
        rw [es] at S8
        exact kk _ _ ⟨rfl, S8⟩
      · rw [z] at kk
        walk_at "z"
        refine kk _ _ ⟨rfl, ?_⟩
        rw [z] at S7
        exact S7
    rintro σ' H6 ⟨rfl, S6⟩
    dsimp only
    walk_at "z"
    refine z_append (n := 0) S6 rfl (by rw [nV_len, sz]; omega) fun H7 S7 => ?_
    have em : nV P ++ [V.int (c : Int)] = nV (P ++ [c]) := by simp [nV]
    rw [em] at S7
    exact ⟨p2, _, rfl, S7⟩
  · rintro σ H4 ⟨pl, _, rfl, S4⟩
    rw [nV_len, List.length_map, List.take_length] at S4
    walk_at "z"
    have et : (FM.runL ls s0).2 = FM.thrL ls := by rw [← hs0] <;> rfl
    rw [et] at S4
    exact q f H4 S4.base (S4.no 1 0 rfl rfl) (S4.at_ 1 0 rfl rfl)
theorem map_erase {α β : Type} (g : α → β) : ∀ (l : List α) (i : Nat), (l.eraseIdx i).map g = (l.map g).eraseIdx i
  | [], _ => rfl
  | a :: l, 0 => rfl
  | a :: l, i + 1 => by rw [List.eraseIdx_cons_succ, List.map_cons, List.map_cons, List.eraseIdx_cons_succ, map_erase g l i]
theorem filter_ne {l : List Nat} {c : Nat} : ∀ {i : Nat}, l.Nodup → l[i]? = some c → l.eraseIdx i = l.filter fun x => !decide (x = c) := by
  induction l with
  | nil => intro i _ h; simp at h
  | cons a l ih =>
    intro i nd h
    obtain ⟨n1, n2⟩ := List.nodup_cons.mp nd
    cases i with
    | zero =>
      cases h
      rw [List.eraseIdx_cons_zero, List.filter_cons, if_neg (by simp)]
      exact (List.filter_eq_self.mpr fun x hx => by simp; intro e; exact n1 (e ▸ hx)).symm
    | succ i =>
      have hm : c ∈ l := List.mem_of_getElem? (show l[i]? = some c from h)
      rw [List.eraseIdx_cons_succ, List.filter_cons, if_pos (by simp; intro e; exact n1 (e ▸ hm)), ih n2 h]
theorem pure_neighbours_in {K : PySem.W.Frag} {E : XK} {H : Hp} {Q : VK} {vs : List V} (h : sp_neighbours_in K vs H Q E) : t_neighbours_in K E (DD Q) (L2.start ["order", "found", "left", "comment", "place"] vs) H := by
  obtain ⟨a, O, rfl, ha, hO, hl, q⟩ := h
  show t_neighbours_in K E (DD Q) [some (.ref a), none, none, none, none] H
  have S := Z.start H
  unfold t_neighbours_in
  walk_at "z"
  intro f H1 S1
  walk_at "z"
  refine z_listL S1 (S1.l ha) fun lf H2 S2 => ?_
  have e0 : O.filter (fun x => decide (x < O.length - 0)) = O := List.filter_eq_self.mpr fun x hx => decide_eq_true (by have := List.mem_range.mp (hO.mem_iff.mp hx); omega)
  walk_at "z"
  refine x_revR (x_rg1 ?_)
  walk_at "z"
  rw [nV_len]
  refine ⟨by omega, by omega, by omega, by omega, ?_⟩
  have hmem : ∀ c, c ∈ O ↔ c < O.length := fun c => by rw [hO.mem_iff, List.mem_range]
  have nd : O.Nodup := hO.nodup_iff.mpr List.nodup_range
  refine z_for_rev (n := O.length) (fun k σ H' => ∃ (o3 o4 : Option V) (B' : Hp) (ts : List Addr), σ = [some (.ref a), some (.ref f), some (.ref lf), o3, o4] ∧ Ex H B' ∧ ts.length = k ∧ (∀ (i : Nat) (t : Addr), ts[i]? = some t → H t = none ∧ SqT K B' t [ov (FM.front O (O.length - 1 - i)), ov (FM.behind O (O.length - 1 - i))]) ∧
    Z H' B' [[(lf, .lst (nV (O.filter fun x => decide (x < O.length - k))))], [(f, .lst (ts.map .ref))]]) ⟨_, _, H, [], rfl, Ex.refl _, rfl, fun i t e => by simp at e, by rw [e0]; exact S2⟩ ?_ ?_
  · rintro k σ H3 hk ⟨o3, o4, B', ts, rfl, ex, hts, ht, S3⟩
    generalize hc : O.length - 1 - k = c
    have hcl : c < O.length := by omega
    have ek : O.length - k = c + 1 := by omega
    rw [ek] at S3
    have S3 : Z H3 B' [[(lf, .lst (nV (FM.leftO O c)))], [(f, .lst (ts.map .ref))]] := S3
    have hm : c ∈ FM.leftO O c := List.mem_filter.mpr ⟨(hmem c).mpr hcl, decide_eq_true (by omega)⟩
    have hll : (FM.leftO O c).length ≤ 60 := Nat.le_trans (List.length_filter_le _ _) hl
    have hi := FM.idx_lt hm
    have hg := FM.idx_get hm
    obtain ⟨z, hz1, hz2, hz3⟩ := idx_facts hm
    walk_at "z"
    refine ⟨lf, nV (FM.leftO O c), .int (c : Int), FM.idx (FM.leftO O c) c, z, rfl, rfl, sq_l (S3.at_ 0 0 rfl rfl), rfl, flat_nV _, hz1, hz2, hz3, ?_⟩
    walk_at "zi"
    refine split_e (fun x H' => x = ov (FM.front O c) ∧ H' = H3) (fun Q' kk => ?_) ?_
    · refine x_if ?_
      walk_at "z"
      refine z_ite (fun z => ?_) (fun z => ?_)
      · have h0 : 0 < FM.idx (FM.leftO O c) c := by omega
        have hp : FM.idx (FM.leftO O c) c - 1 < (FM.leftO O c).length := by omega
        walk_at "z"
        have e1 : ((FM.idx (FM.leftO O c) c : Nat) : Int) - 1 = ((FM.idx (FM.leftO O c) c - 1 : Nat) : Int) := by omega
        rw [e1]
        refine x_ixL (sq_l (S3.at_ 0 0 rfl rfl)) (atI_nat (nV_at hp)) ?_
        refine kk _ _ ⟨?_, rfl⟩
        unfold FM.front
        rw [if_pos h0, List.getElem?_eq_getElem hp] <;> rfl
      · walk_at "z"
        refine kk _ _ ⟨?_, rfl⟩
        unfold FM.front
        rw [if_neg (by omega)] <;> rfl
    rintro x H4 ⟨rfl, rfl⟩
    walk_at "zi"
    refine split_e (fun x H' => x = ov (FM.behind O c) ∧ H' = H4) (fun Q' kk => ?_) ?_
    · refine x_if ?_
      walk_at "z"
      rw [nV_len]
      refine z_ite (fun z => ?_) (fun z => ?_)
      · have hp : FM.idx (FM.leftO O c) c + 1 < (FM.leftO O c).length := by omega
        walk_at "z"
        have e1 : ((FM.idx (FM.leftO O c) c : Nat) : Int) + 1 = ((FM.idx (FM.leftO O c) c + 1 : Nat) : Int) := by omega
        rw [e1]
        refine x_ixL (sq_l (S3.at_ 0 0 rfl rfl)) (atI_nat (nV_at hp)) ?_
        refine kk _ _ ⟨?_, rfl⟩
        unfold FM.behind
        rw [List.getElem?_eq_getElem hp] <;> rfl
      · walk_at "z"
        refine kk _ _ ⟨?_, rfl⟩
        unfold FM.behind
        rw [List.getElem?_eq_none (by omega)] <;> rfl
    rintro x H5 ⟨rfl, rfl⟩
    walk_at "z"
    intro t H6 S4
    have htn : H t = none := ex_none ex (S4.no 0 0 rfl rfl)
    obtain ⟨B2, e2, b2, S5⟩ := S4.frz 0 rfl
    have S5 : Z H6 B2 [[(lf, .lst (nV (FM.leftO O c)))], [(f, .lst (ts.map .ref))]] := S5
    walk_at "z"
    refine z_append (n := 1) S5 rfl (by rw [List.length_map, sz]; omega) fun H7 S6 => ?_
    have em : ts.map V.ref ++ [V.ref t] = (ts ++ [t]).map V.ref := by rw [List.map_append] <;> rfl
    rw [em] at S6
    have S6 : Z H7 B2 [[(lf, .lst (nV (FM.leftO O c)))], [(f, .lst ((ts ++ [t]).map .ref))]] := S6
    walk_at "z"
    have hnd : (FM.leftO O c).Nodup := nd.sublist List.filter_sublist
    have her : (FM.leftO O c).eraseIdx (FM.idx (FM.leftO O c) c) = O.filter fun x => decide (x < O.length - (k + 1)) := by
      rw [filter_ne hnd (by rw [List.getElem?_eq_getElem hi, hg])]
      unfold FM.leftO
      rw [List.filter_filter]
      refine List.filter_congr fun x _ => ?_
      by_cases h1 : x = c
      · subst h1
        rw [decide_eq_true rfl, decide_eq_false (show ¬ x < O.length - (k + 1) by omega)] <;> rfl
      · rw [decide_eq_false h1]
        by_cases h2 : x < c + 1
        · rw [decide_eq_true h2, decide_eq_true (show x < O.length - (k + 1) by omega)] <;> rfl
        · rw [decide_eq_false h2, decide_eq_false (show ¬ x < O.length - (k + 1) by omega)] <;> rfl
    refine ⟨lf, (FM.leftO O c).map fun (n : Nat) => (n : Int), (c : Int), FM.idx (FM.leftO O c) c, rfl, rfl, by rw [← nV_int]; exact S6.at_ 0 0 rfl rfl, by rw [List.getElem?_map, List.getElem?_eq_getElem hi, hg] <;> rfl, fun m hm2 e => ?_, ?_⟩
    · rw [List.getElem?_map, List.getElem?_eq_getElem (by omega)] at e
      have e3 : (FM.leftO O c)[m]'(by omega) = c := by
        have e9 : (((FM.leftO O c)[m]'(by omega) : Nat) : Int) = (c : Int) := Option.some.inj e
        exact Int.ofNat.inj e9
      have := (List.getElem_inj hnd (i := m) (j := FM.idx (FM.leftO O c) c) (h₀ := by omega) (h₁ := hi)).mp (e3.trans hg.symm)
      omega
    · have S7 := S6.set 0 (o' := .lst (nV ((FM.leftO O c).eraseIdx (FM.idx (FM.leftO O c) c)))) rfl
      have e4 : ((((FM.leftO O c).map fun (n : Nat) => (n : Int)).eraseIdx (FM.idx (FM.leftO O c) c)).map V.int) = nV ((FM.leftO O c).eraseIdx (FM.idx (FM.leftO O c) c)) := by
        rw [nV_int]
        congr 1
        exact (map_erase _ _ _).symm
      rw [e4]
      rw [her] at S7 ⊢
      refine ⟨_, _, B2, ts ++ [t], rfl, ex.trans e2, by rw [List.length_append, hts] <;> rfl, fun i t' h' => ?_, S7⟩
      by_cases hi2 : i < ts.length
      · rw [List.getElem?_append_left hi2] at h'
        obtain ⟨g1, g2⟩ := ht i t' h'
        exact ⟨g1, e2.t g2⟩
      · rw [List.getElem?_append_right (by omega)] at h'
        have hi3 : i = k := by
          have := (List.getElem?_eq_some_iff.mp h').1
          simp at this
          omega
        subst hi3
        rw [hts, Nat.sub_self] at h'
        cases h'
        rw [hc]
        exact ⟨htn, sq_t b2⟩
  · rintro σ H3 ⟨o3, o4, B', ts, rfl, ex, hts, ht, S3⟩
    walk_at "z"
    refine z_rev S3 (sq_l (S3.at_ 1 0 rfl rfl)) fun l H4 S4 => ?_
    rw [← List.map_reverse] at S4
    refine q l ts.reverse H4 (ex.trans S4.base) (ex_none ex (S4.no 0 0 rfl rfl)) (S4.at_ 0 0 rfl rfl) (by rw [List.length_reverse, hts]) fun c t h => ?_
    have hcl : c < ts.length := by
      have := (List.getElem?_eq_some_iff.mp h).1
      rwa [List.length_reverse] at this
    rw [List.getElem?_reverse hcl] at h
    obtain ⟨g1, g2⟩ := ht _ t h
    have e5 : O.length - 1 - (ts.length - 1 - c) = c := by omega
    rw [e5] at g2
    exact ⟨g1, S4.t g2⟩
theorem pure_are_depths_of {K : PySem.W.Frag} {E : XK} {H : Hp} {Q : VK} {vs : List V} (h : sp_are_depths_of K vs H Q E) : t_are_depths_of K E (DD Q) (L2.start ["order", "value", "comment", "front", "behind", "most", "depth"] vs) H := by
  obtain ⟨a, b, T, rfl, ha, hb, hT, hl, q⟩ := h
  show t_are_depths_of K E (DD Q) [some (.ref a), some (.ref b), none, none, none, none, none] H
  have S := Z.start H
  have el : (FM.ordL T).length = T.length := FM.len_ordN
  have ed : (FM.depL T).length = T.length := FM.len_depN
  have hp : (FM.ordL T).Perm (List.range (FM.ordL T).length) := by
    rw [el]
    exact (List.perm_ext_iff_of_nodup FM.nd_ordN List.nodup_range).mpr fun x => by
      show x ∈ FM.ordN T T.length ↔ _
      rw [FM.mem_ordN, List.mem_range]
  unfold t_are_depths_of
  walk_at "z"
  refine z_isi (b := true) (kd_list hb) (by decide +kernel) ?_
  refine z_bl ?_
  refine z_iffalse ?_
  walk_at "z"
  rw [nV_len, nV_len, ed, el, decide_eq_true rfl]
  refine z_iffalse ?_
  walk_at "z"
  refine z_lcL S (nV (FM.depL T)) (fun k => List.replicate k (.bl true)) rfl (fun H' S' => S'.l hb) (fun k x D H1 hx S1 => ?_) (fun D H1 S1 => ?_)
  · have hk : k < (FM.depL T).length := by
      have := (List.getElem?_eq_some_iff.mp hx).1
      rwa [nV_len] at this
    rw [nV_at hk] at hx
    cases hx
    walk_at "z"
    refine ⟨.int (((FM.depL T)[k] : Nat) : Int), 0, none, rfl, kdI_int K _ _, ?_⟩
    have e : isI (.int (((FM.depL T)[k] : Nat) : Int)) 0 none = true := by
      simp only [isI]
      rw [decide_eq_true (by omega)] <;> rfl
    rw [e]
    exact z_app (N := []) S1 (by rw [List.length_replicate, sz]; omega) (by rw [List.replicate_succ'])
  rw [nV_len] at S1
  refine ⟨D, List.replicate (FM.depL T).length true, rfl, ?_, ?_⟩
  · rw [List.map_replicate]
    exact sq_l S1.hd
  have e : (List.replicate (FM.depL T).length true).all id = true := List.all_eq_true.mpr fun x hx => List.eq_of_mem_replicate hx
  rw [e]
  refine z_bl (z_iffalse ?_)
  have S2 := S1.tail
  walk_at "z"
  refine ⟨a, FM.ordL T, rfl, S2.l ha, hp, by omega, fun l ts H2 ex2 hn hl2 hts ht => ?_⟩
  have ex3 : Ex H H2 := S2.base.trans ex2
  have hlS : SqL K H2 l (ts.map .ref) := sq_l hl2
  walk_at "z"
  have hd : ∀ c, c < T.length → (nV (FM.depL T))[c]? = some (.int ((FM.depF T c : Nat) : Int)) := fun c hc => by
    unfold FM.depF nV
    rw [List.getElem?_map, List.getD_eq_getElem?_getD, List.getElem?_eq_getElem (by omega)] <;> rfl
  refine z_for_enum (ts.map .ref) (fun k σ H' => ∃ o2 o3 o4 o5 o6, σ = [some (.ref a), some (.ref b), o2, o3, o4, o5, o6] ∧ Ex H2 H') ⟨_, _, _, _, _, rfl, Ex.refl _⟩ (fun i σ H' _ ⟨_, _, _, _, _, _, e'⟩ => e'.l hlS) ?_ ?_
  · rintro k x T0 σ H3 H4 hx ⟨_, _, _, _, _, rfl, e3⟩ e4 hT0 hT1
    obtain ⟨t, htm, rfl⟩ : ∃ t, ts[k]? = some t ∧ x = .ref t := by
      rw [List.getElem?_map] at hx
      cases hq : ts[k]? with
      | none => rw [hq] at hx; cases hx
      | some t => rw [hq] at hx; cases hx; exact ⟨t, rfl, rfl⟩
    have hk : k < T.length := by
      have := (List.getElem?_eq_some_iff.mp htm).1
      omega
    obtain ⟨n1, n2, n3⟩ := FM.ord_neigh hT hk
    have h1 := (e3.trans e4).t (ht k t htm).2
    have hb4 := (ex3.trans (e3.trans e4)).l hb
    have e34 := e3.trans e4
    have hfr : ∀ f, FM.front (FM.ordL T) k = some f → f < T.length := fun f hf => by
      unfold FM.front at hf
      split at hf
      · exact FM.mem_ordN.mp ((List.mem_filter.mp (List.mem_of_getElem? hf)).1)
      · cases hf
    have hbr : ∀ f, FM.behind (FM.ordL T) k = some f → f < T.length := fun f hf => FM.mem_ordN.mp ((List.mem_filter.mp (List.mem_of_getElem? hf)).1)
    walk_at "zi"
    refine split_e (fun x H' => ∃ m : Nat, x = .int (m : Int) ∧ FM.depF T k ≤ m ∧ H' = H4) (fun Q' kk => ?_) ?_
    · refine x_if ?_
      walk_at "z"
      cases hf : FM.front (FM.ordL T) k with
      | none =>
        refine z_ite (fun _ => ?_) (fun z => absurd rfl z)
        walk_at "z"
        exact kk _ _ ⟨0, rfl, by rw [n1 hf]; exact Nat.le_refl _, rfl⟩
      | some f =>
        refine z_ite (fun z => nomatch z) (fun _ => ?_)
        have eo : ov (some f) = .int (f : Int) := rfl
        rw [eo]
        walk_at "z"
        refine x_ixL hb4 (atI_nat (hd f (hfr f hf))) ?_
        walk_at "z"
        exact kk _ _ ⟨FM.depF T f + 1, rfl, n2 f hf, rfl⟩
    rintro x H5 ⟨m, rfl, hm, rfl⟩
    walk_at "zi"
    refine x_ifs ?_
    walk_at "z"
    refine x_ixL hb4 (atI_nat (hd k hk)) ?_
    walk_at "z"
    refine z_ite (fun z => absurd z (by omega)) (fun _ => ?_)
    walk_at "z"
    cases hbe : FM.behind (FM.ordL T) k with
    | none =>
      refine z_iteN (fun z => absurd rfl z) (fun _ => ?_)
      walk_at "z"
      exact ⟨_, _, _, _, _, rfl, e34⟩
    | some g =>
      refine z_iteN (fun _ => ?_) (fun z => nomatch z)
      have eo : ov (some g) = .int (g : Int) := rfl
      rw [eo]
      walk_at "z"
      refine x_ixL hb4 (atI_nat (hd k hk)) ?_
      walk_at "z"
      refine x_ixL hb4 (atI_nat (hd g (hbr g hbe))) ?_
      walk_at "z"
      have := n3 g hbe
      refine z_ite (fun z => absurd z (by omega)) (fun _ => ?_)
      walk_at "z"
      exact ⟨_, _, _, _, _, rfl, e34⟩
  · rintro σ H3 ⟨_, _, _, _, _, rfl, e3⟩
    walk_at "z"
    exact q H3 (ex3.trans e3)
end FT

namespace FT
open PySem PySem.Spec PyProof.Rows L2
open TL (tl)
/-! ### texts and trees: promises -/
/-- the longest word that is read as a number here -/
def numB : Nat := 4300
structure TxE (K : PySem.W.Frag) : Prop where
  xo : Xo K "InvalidText"
  no : PySem.W.findIn K (.ref (He.ga K "InvalidText")) "index" = some none
  dig : DigF K
def txB (K : PySem.W.Frag) : Bool := oexB K "InvalidText" && (He.eqO (PySem.W.findIn K (.ref (He.ga K "InvalidText")) "index") (some none) && digB K)
theorem txB_ok {K : PySem.W.Frag} (h : txB K = true) : TxE K := ⟨oexB_ok (ba2 h).1, He.eqO_ok (ba2 (ba2 h).2).1, digB_ok (ba2 (ba2 h).2).2⟩
def sp_InvalidText___init__ (K : PySem.W.Frag) : Sp := fun vs H Q _ => ∃ (a : Addr) (v : V), vs = [.ref a, v] ∧ TxE K ∧ H a = some (exo a (He.ga K "InvalidText") none) ∧
  ∀ dx, H dx = none → dx ≠ a → Q .non (upd (upd H dx (exd dx [("index", v)])) a (exo a (He.ga K "InvalidText") (some dx)))
/-- InvalidText(v) leaves -/
def RaiT (K : PySem.W.Frag) (v : V) (H : Hp) (E : XK) : Prop := ∀ d H', Ex H H' → H d = none → H' d = some (.xd [(("index" : Str), v)]) → E (.ref (He.ga K "InvalidText")) (some d) H'
theorem RaiT.ext {K : PySem.W.Frag} {v : V} {H H1 : Hp} {E : XK} (h : RaiT K v H E) (e : Ex H H1) : RaiT K v H1 E := fun d H' e2 n k => h d H' (e.trans e2) (by
  cases q : H d with
  | none => rfl
  | some o => rw [e d o q] at n; cases n) k
theorem z_raiT {K : PySem.W.Frag} {W : WX} {σ : L2.St} {H : Hp} {v : V} {vs dvs : List V} (T : TxE K) (e : vs ++ dvs = [v]) (q : RaiT K v H fun c d H' => W c d σ H') : mRaiO W (He.ga K "InvalidText") (sp_InvalidText___init__ K) dvs σ vs H := by
  refine ⟨?_, fun a ha => ?_⟩
  · have := congrArg List.length e
    rw [List.length_append] at this
    simp at this
    omega
  · rw [e]
    refine ⟨a, v, rfl, T, upd_same, fun dx hdx hne => ⟨rfl, dx, [("index", v)], upd_same, by rw [upd_ne hne, upd_same], by rw [upd_ne hne] at hdx; exact hdx, ?_⟩⟩
    have hd : H dx = none := by rw [upd_ne hne] at hdx; exact hdx
    refine q dx _ (fun b o hb => ?_) hd upd_same
    have h1 := ne_of_none hb hd
    have h2 := ne_of_none hb ha
    rw [upd_ne h1, del_ne h2, upd_ne h2, upd_ne h1, upd_ne h2]
    exact hb
def sp_number_in (K : PySem.W.Frag) : Sp := fun vs H Q _ => ∃ w : Str, vs = [.str w] ∧ w.length ≤ numB ∧ DigF K ∧ ∀ H', Ex H H' → Q (ov (numS w)) H'
def sp_require_string (K : PySem.W.Frag) : Sp := fun vs H Q E => ∃ v, vs = [v] ∧ ((∃ x, v = .str x ∧ Q .non H) ∨ ∃ T0, Kd K H v T0 ∧ kitB T0 "str" = some false ∧ TxE K ∧ RaiT K .non H E)
def wordO : Option Nat → Str
  | none => "-"
  | some n => nS n
def sp_word_of (K : PySem.W.Frag) : Sp := fun vs H Q _ => ∃ o : Option Nat, vs = [ov o] ∧ (∀ j, o = some j → j ≤ 1000) ∧ Q (.str (wordO o)) H
/-- the text of a thread -/
def pageT (T : FM.T3) : Str := Txt.join " " (T.map wordO)
def treeT (T : FM.T3) : Str := Txt.join "\n" (rowsL T [] (FM.ordL T))
def sp_thread_text (K : PySem.W.Frag) : Sp := fun vs H Q _ => ∃ (a : Addr) (T : FM.T3), vs = [.ref a] ∧ SqL K H a (T.map ov) ∧ FM.Th T ∧ T.length ≤ 1000 ∧ ∀ H', Ex H H' → Q (.str (pageT T)) H'
def spTx (K : PySem.W.Frag) (g : FM.T3 → Str) : Sp := fun vs H Q E => ∃ v, vs = [v] ∧ ((∃ (a : Addr) (T : FM.T3), v = .ref a ∧ SqL K H a (T.map ov) ∧ FM.Th T ∧ T.length ≤ 1000 ∧ ∀ H', Ex H H' → Q (.str (g T)) H') ∨ (BadT K H v ∧ ∀ H', Ex H H' → E (.ref (He.ga K "InvalidThread")) none H'))
def sp_format_thread (K : PySem.W.Frag) : Sp := spTx K pageT
def sp_format_tree (K : PySem.W.Frag) : Sp := spTx K treeT
theorem tx_in {K : PySem.W.Frag} {g : FM.T3 → Str} {H : Hp} {Q : VK} {E : XK} {a : Addr} {T : FM.T3} (ha : SqL K H a (T.map ov)) (hT : FM.Th T) (hl : T.length ≤ 1000) (q : ∀ H', Ex H H' → Q (.str (g T)) H') : spTx K g [.ref a] H Q E := ⟨_, rfl, .inl ⟨a, T, rfl, ha, hT, hl, q⟩⟩
/-- the words of a text -/
def partsOf (x sep : Str) : List Str := if x = "" then [] else Txt.split x sep
/-- the word w cannot stand at i -/
def badW (i : Nat) (w : Str) : Bool := decide (i = 40) || (decide (w ≠ "-") && (match numS w with
  | none => true
  | some n => decide (i ≤ n)))
/-- k is the first of n that is bad -/
def Fst (p : Nat → Bool) (n k : Nat) : Prop := k < n ∧ p k = true ∧ ∀ i, i < k → p i = false
def sp_parse_thread (K : PySem.W.Frag) : Sp := fun vs H Q E => ∃ v, vs = [v] ∧ TxE K ∧
  ((∃ x, v = .str x ∧ x.length + 2 ≤ 100000 ∧ (∀ w ∈ partsOf x " ", w.length ≤ numB) ∧ (∀ k, Fst (fun i => badW i ((partsOf x " ").getD i "")) (partsOf x " ").length k → RaiT K (.int (k : Int)) H E) ∧
      ((∀ i, i < (partsOf x " ").length → badW i ((partsOf x " ").getD i "") = false) → NewT H ((partsOf x " ").map numS) Q)) ∨
    ∃ T0, Kd K H v T0 ∧ kitB T0 "str" = some false ∧ RaiT K .non H E)
/-- a line's depth and number -/
def lineOf (r : Str) : Option (Nat × Nat) := match numS (Txt.lstripChars r " ") with
  | none => none
  | some n => if (r.length - (Txt.lstripChars r " ").length) % 2 = 0 then some ((r.length - (Txt.lstripChars r " ").length) / 2, n) else none
def sp_line_in (K : PySem.W.Frag) : Sp := fun vs H Q _ => ∃ r : Str, vs = [.str r] ∧ r.length ≤ 100000 ∧ (Txt.lstripChars r " ").length ≤ numB ∧ DigF K ∧ (lineOf r = none → ∀ H', Ex H H' → Q .non H') ∧
  (∀ d n, lineOf r = some (d, n) → ∀ t H', Ex H H' → H t = none → H' t = some (.tup [.int (d : Int), .int (n : Int)]) → Q (.ref t) H')
/-- the rows up to k, if all can stand -/
def prsK (rows : List Str) : Nat → Option (List (Nat × Nat))
  | 0 => some []
  | k + 1 => match prsK rows k with
    | none => none
    | some ls => match lineOf (rows.getD k "") with
      | none => none
      | some x => if FM.okR k ls x = true then some (ls ++ [x]) else none
def sp_parse_tree (K : PySem.W.Frag) : Sp := fun vs H Q E => ∃ v, vs = [v] ∧ TxE K ∧
  ((∃ x, v = .str x ∧ x.length + 2 ≤ 100000 ∧ (∀ w ∈ partsOf x "\n", w.length ≤ 100000 ∧ (Txt.lstripChars w " ").length ≤ numB) ∧
      (∀ k, k < (partsOf x "\n").length → prsK (partsOf x "\n") k ≠ none → prsK (partsOf x "\n") (k + 1) = none → RaiT K (.int (k : Int)) H E) ∧
      (∀ ls, prsK (partsOf x "\n") (partsOf x "\n").length = some ls → (¬ FM.treeOk ls → RaiT K (.int ((partsOf x "\n").length : Int)) H E) ∧ (FM.treeOk ls → NewT H (FM.thrL ls) Q))) ∨
    ∃ T0, Kd K H v T0 ∧ kitB T0 "str" = some false ∧ RaiT K .non H E)
end FT
namespace FT
open PySem PySem.Spec PyProof.Rows L2

/-- slots: self, index -/
def t_InvalidText___init__ (K : PySem.W.Frag) (E : XK) : TS :=
  (tOst K "index" (tVar 0) (tVar 1))
/-- slots: word, sign -/
def t_number_in (K : PySem.W.Frag) (E : XK) : TS :=
  (tSeq (tIfS (tOr (tTest (tOp (qEq K) (tVar 0) (tC (.str "")))) (tNot (tB (tCB (rAll K) (tCons (tLc (iStr (tVar 0)) (gName 1) tYes (tOp qInG (tVar 1) (tC (.str "0123456789"))) [1]) tNil))))) (tRet (tC .non)) tNext)
  (tRet (tIf (tAnd (tTest (tOp (qEq K) (tOp (qIx K) (tVar 0) (tC (.int 0))) (tC (.str "0")))) (tTest (tOp (qNe K) (tVar 0) (tC (.str "0"))))) (tC .non) (tCB (qIntL K) (tCons (tVar 0) tNil)))))
/-- slots: text -/
def t_require_string (K : PySem.W.Frag) (E : XK) : TS :=
  (tIfS (tNot (tB (tCB (qIsi K) (tCons (tVar 0) (tCons (tC (.ty "str")) tNil))))) (tRaiseO (wF E) (He.ga K "InvalidText") (sp_InvalidText___init__ K) [.non] tNil) tNext)
/-- slots: answers -/
def t_word_of (K : PySem.W.Frag) (E : XK) : TS :=
  (tRet (tIf (tTest (tOp qIs (tVar 0) (tC .non))) (tC (.str "-")) (tCB qStr (tCons (tVar 0) tNil))))
/-- slots: thread, answers -/
def t_thread_text (K : PySem.W.Frag) (E : XK) : TS :=
  (tRet (tBM K "str" (qJoin K) (tC (.str " ")) (tCons (tLc (iSeq K (tVar 0)) (gName 1) tYes (tCall (sp_word_of K) [] E0 (tCons (tVar 1) tNil)) [1]) tNil)))
/-- slots: thread -/
def t_format_thread (K : PySem.W.Frag) (E : XK) : TS :=
  (tSeq (tDrop (tCallS (sp_require_thread K) (WE (wF E)) (tCons (tVar 0) tNil)))
  (tRet (tCall (sp_thread_text K) [] E0 (tCons (tVar 0) tNil))))
/-- slots: text, found, index, word, number -/
def t_parse_thread (K : PySem.W.Frag) (E : XK) : TS :=
  (tSeq (tDrop (tCallS (sp_require_string K) (WE (wF E)) (tCons (tVar 0) tNil)))
  (tSeq (tAsg (tLst tNil) (gName 1))
  (tSeq (tFor (iEnum K (tCons (tIf (tTest (tOp (qNe K) (tVar 0) (tC (.str "")))) (tBM K "str" qSplit (tVar 0) (tCons (tC (.str " ")) tNil)) (tLst tNil)) tNil)) (gTup K 2 (gCons (gName 2) (gCons (gName 3) gNil))) (tSeq (tAsg (tCall (sp_number_in K) [] E0 (tCons (tVar 3) tNil)) (gName 4))
  (tSeq (tIfS (tOr (tTest (tOp (qEq K) (tVar 2) (tC (.int 40)))) (tAnd (tTest (tOp (qNe K) (tVar 3) (tC (.str "-")))) (tOr (tTest (tOp qIs (tVar 4) (tC .non))) (tTest (tOp qGe (tVar 4) (tVar 2)))))) (tRaiseO (wF E) (He.ga K "InvalidText") (sp_InvalidText___init__ K) [] (tCons (tVar 2) tNil)) tNext)
  (tDrop (tBM K "list" rAppend (tVar 1) (tCons (tVar 4) tNil))))))
  (tRet (tVar 1)))))
/-- slots: thread, depths, comment -/
def t_format_tree (K : PySem.W.Frag) (E : XK) : TS :=
  (tSeq (tDrop (tCallS (sp_require_thread K) (WE (wF E)) (tCons (tVar 0) tNil)))
  (tSeq (tAsg (tCall (sp_depths_in K) [] E0 (tCons (tVar 0) tNil)) (gName 1))
  (tRet (tBM K "str" (qJoin K) (tC (.str "\n")) (tCons (tLc (iSeq K (tCall (sp_order_in K) [] E0 (tCons (tVar 0) tNil))) (gName 2) tYes (tOp (qAdd K) (tOp qMul (tC (.str "  ")) (tOp (qIx K) (tVar 1) (tVar 2))) (tCB qStr (tCons (tVar 2) tNil))) [2]) tNil)))))
/-- slots: row, word, spaces, number -/
def t_line_in (K : PySem.W.Frag) (E : XK) : TS :=
  (tSeq (tAsg (tBM K "str" qLstrip (tVar 0) (tCons (tC (.str " ")) tNil)) (gName 1))
  (tSeq (tPar 2 3 (tCons (tOp qSub (tCB (qLen K) (tCons (tVar 0) tNil)) (tCB (qLen K) (tCons (tVar 1) tNil))) (tCons (tCall (sp_number_in K) [] E0 (tCons (tVar 1) tNil)) tNil)))
  (tRet (tIf (tOr (tTest (tOp qIs (tVar 3) (tC .non))) (tTest (tOp (qNe K) (tOp qMod (tVar 2) (tCB (qLen K) (tCons (tC (.str "  ")) tNil))) (tC (.int 0))))) (tC .non) (tTup (tCons (tOp qDiv (tVar 2) (tCB (qLen K) (tCons (tC (.str "  ")) tNil))) (tCons (tVar 3) tNil)))))))
/-- slots: text, order, levels, deepest, index, row, parts, found -/
def t_parse_tree (K : PySem.W.Frag) (E : XK) : TS :=
  (tSeq (tDrop (tCallS (sp_require_string K) (WE (wF E)) (tCons (tVar 0) tNil)))
  (tSeq (tPar3 1 2 3 (tCons (tLst tNil) (tCons tDNewK (tCons (tC (.int 0)) tNil))))
  (tSeq (tFor (iEnum K (tCons (tIf (tTest (tOp (qNe K) (tVar 0) (tC (.str "")))) (tBM K "str" qSplit (tVar 0) (tCons (tC (.str "\n")) tNil)) (tLst tNil)) tNil)) (gTup K 2 (gCons (gName 4) (gCons (gName 5) gNil))) (tSeq (tAsg (tCall (sp_line_in K) [] E0 (tCons (tVar 5) tNil)) (gName 6))
  (tSeq (tIfS (tOr (tTest (tOp qIs (tVar 6) (tC .non))) (tOr (tTest (tOp qGt (tOp (qIx K) (tVar 6) (tC (.int 0))) (tVar 3))) (tOr (tB (tDIn (tOp (qIx K) (tVar 6) (tC (.int 1))) (tVar 2))) (tTest (tOp (qEq K) (tVar 4) (tC (.int 40))))))) (tRaiseO (wF E) (He.ga K "InvalidText") (sp_InvalidText___init__ K) [] (tCons (tVar 4) tNil)) tNext)
  (tSeq (tDrop (tBM K "list" rAppend (tVar 1) (tCons (tOp (qIx K) (tVar 6) (tC (.int 1))) tNil)))
  (tSeq (sDPut (tVar 2) (tOp (qIx K) (tVar 6) (tC (.int 1))) (tOp (qIx K) (tVar 6) (tC (.int 0))))
  (tAsg (tOp (qAdd K) (tOp (qIx K) (tVar 6) (tC (.int 0))) (tC (.int 1))) (gName 3)))))))
  (tSeq (tIfS (tTest (tOp (qNe K) (tCB (qSorted K) (tCons (tVar 1) tNil)) (tLstRg (tRg1 (tCB (qLen K) (tCons (tVar 1) tNil)))))) (tRaiseO (wF E) (He.ga K "InvalidText") (sp_InvalidText___init__ K) [] (tCons (tCB (qLen K) (tCons (tVar 1) tNil)) tNil)) tNext)
  (tSeq (tAsg (tCall (sp_thread_in K) [] E0 (tCons (tVar 1) (tCons (tVar 2) tNil))) (gName 7))
  (tSeq (tIfS (tOr (tNot (tB (tCall (sp_is_thread K) [] E0 (tCons (tVar 7) tNil)))) (tTest (tOp (qNe K) (tCall (sp_order_in K) [] E0 (tCons (tVar 7) tNil)) (tVar 1)))) (tRaiseO (wF E) (He.ga K "InvalidText") (sp_InvalidText___init__ K) [] (tCons (tCB (qLen K) (tCons (tVar 1) tNil)) tNil)) tNext)
  (tRet (tVar 7))))))))
end FT
namespace FT
open PySem PySem.Spec PyProof.Rows L2
open TL (tl)
/-! ### texts and trees: walks -/
theorem numS_nil {w : Str} (h : tl w = []) : numS w = none := by unfold numS; rw [if_pos h]
theorem numS_bad {w : Str} (h : (tl w).all isDg = false) : numS w = none := by
  unfold numS
  by_cases h0 : tl w = []
  · rw [if_pos h0]
  · rw [if_neg h0, if_pos h]
theorem numS_zero {w : Str} (h : (tl w).head? = some 48) (h2 : w ≠ "0") : numS w = none := by
  unfold numS
  split
  · rfl
  · split
    · rfl
    · rw [if_pos ⟨h, h2⟩]
theorem numS_ok {w : Str} (h0 : tl w ≠ []) (h : (tl w).all isDg = true) (h2 : ¬ ((tl w).head? = some 48 ∧ w ≠ "0")) : numS w = some (PySem.NumText.digitsVal (tl w)) := by
  unfold numS
  rw [if_neg h0, if_neg (by rw [h]; decide), if_neg h2]
theorem one_zero (c : Nat) : ((⟨#[c]⟩ : Str) = "0") ↔ c = 48 := by
  have e : tl ("0" : Str) = [48] := by decide +kernel
  constructor
  · intro h
    have h2 := congrArg tl h
    rw [e] at h2
    exact (List.cons.inj h2).1
  · intro h
    subst h
    exact TL.ext_tl (by rw [e] <;> rfl)
theorem pure_number_in {K : PySem.W.Frag} {E : XK} {H : Hp} {Q : VK} {vs : List V} (h : sp_number_in K vs H Q E) : t_number_in K E (DD Q) (L2.start ["word", "sign"] vs) H := by
  obtain ⟨w, rfl, hl, hdg, q⟩ := h
  show t_number_in K E (DD Q) [some (.str w), none] H
  have S := Z.start H
  have hl2 : w.length ≤ 4300 := hl
  unfold t_number_in
  walk_at "zi"
  refine x_ifs ?_
  walk_at "z"
  refine z_ite (fun z => ?_) (fun z => ?_)
  · walk_at "z"
    have q2 := q H (Ex.refl H)
    rw [numS_nil (by rw [z]; decide +kernel)] at q2
    exact q2
  have hne : tl w ≠ [] := fun e => z (tl_nil.mp e)
  walk_at "z"
  refine z_lcS S w (fun k => ((tl w).take k).map fun c => V.bl (isDg c)) rfl (fun k c D H1 hc S1 => ?_) (fun D H1 S1 => ?_)
  · walk_at "z"
    refine z_app (N := []) S1 (by rw [List.length_map, List.length_take, ← TL.len_tl, sz]; omega) ?_
    rw [take_next hc, List.map_append]
    rfl
  · rw [TL.len_tl, List.take_length] at S1
    refine ⟨D, (tl w).map isDg, rfl, ?_, ?_⟩
    · rw [List.map_map]
      exact sq_l S1.hd
    rw [List.all_map]
    have ea : (tl w).all (id ∘ isDg) = (tl w).all isDg := rfl
    rw [ea]
    refine z_bl (z_iteNB (fun za => ?_) (fun za => ?_))
    · walk_at "z"
      have q2 := q H1 S1.base
      rw [numS_bad za] at q2
      exact q2
    obtain ⟨c, r, hc⟩ : ∃ c r, tl w = c :: r := by
      cases hq : tl w with
      | nil => exact absurd hq hne
      | cons c r => exact ⟨c, r, rfl⟩
    have hh : (tl w).head? = some c := by rw [hc] <;> rfl
    have hq := q H1 S1.base
    have fin : ¬ (c = 48 ∧ w ≠ "0") → qIntL K [.str w] H1 (DD Q).rt := fun hn => by
      rw [numS_ok hne za (fun z => hn ⟨by rw [hh] at z; exact Option.some.inj z.1, z.2⟩)] at hq
      exact ⟨w, _, rfl, int_dg za hne (by omega), hl2, hdg, hq⟩
    walk_at "z"
    refine x_ixS (by rw [sz]; omega) (at0 (by rw [hc] <;> rfl)) ?_
    walk_at "z"
    refine z_ite (fun z1 => ?_) (fun z1 => ?_)
    · walk_at "z"
      refine z_iteN (fun z2 => ?_) (fun z2 => ?_)
      · walk_at "z"
        rw [numS_zero (by rw [hh, (one_zero c).mp z1]) z2] at hq
        exact hq
      · walk_at "z"
        exact fin fun z => z.2 z2
    · walk_at "z"
      exact fin fun z => z1 ((one_zero c).mpr z.1)
theorem pure_InvalidText___init__ {K : PySem.W.Frag} {E : XK} {H : Hp} {Q : VK} {vs : List V} (h : sp_InvalidText___init__ K vs H Q E) : t_InvalidText___init__ K E (DD Q) (L2.start ["self", "index"] vs) H := by
  obtain ⟨a, v, rfl, T, ha, q⟩ := h
  exact ⟨v, rfl, .ref a, rfl, a, _, rfl, T.xo.oc, T.no, .inl ⟨ha, q⟩⟩
theorem pure_require_string {K : PySem.W.Frag} {E : XK} {H : Hp} {Q : VK} {vs : List V} (h : sp_require_string K vs H Q E) : t_require_string K E (DD Q) (L2.start ["text"] vs) H := by
  obtain ⟨v, rfl, h⟩ := h
  show t_require_string K E (DD Q) [some v] H
  unfold t_require_string
  walk_at "z"
  rcases h with ⟨x, rfl, q⟩ | ⟨T0, hk, hb, T, q⟩
  · refine z_isi (T0 := "str") (b := true) (.base (.str x)) (by decide +kernel) ?_
    refine z_bl (z_iffalse ?_)
    walk_at "z"
    exact q
  · refine z_isi hk hb ?_
    refine z_bl (z_iftrue ?_)
    walk_at "z"
    exact z_raiT T rfl q
theorem pure_word_of {K : PySem.W.Frag} {E : XK} {H : Hp} {Q : VK} {vs : List V} (h : sp_word_of K vs H Q E) : t_word_of K E (DD Q) (L2.start ["answers"] vs) H := by
  obtain ⟨o, rfl, hj, q⟩ := h
  show t_word_of K E (DD Q) [some (ov o)] H
  unfold t_word_of
  walk_at "z"
  cases o with
  | none =>
    refine z_ite (fun _ => ?_) (fun z => absurd rfl z)
    walk_at "z"
    exact q
  | some n =>
    refine z_ite (fun z => nomatch z) (fun _ => ?_)
    have eo : ov (some n) = .int (n : Int) := rfl
    rw [eo]
    walk_at "z"
    exact x_str (log_nat (hj n rfl)) q
theorem th_lt {T : FM.T3} (h : FM.Th T) {k j : Nat} (hk : T[k]? = some (some j)) : j < T.length := by
  have h1 := h k j hk
  have h2 := (List.getElem?_eq_some_iff.mp hk).1
  omega
theorem len_wordO {o : Option Nat} (h : ∀ j, o = some j → j ≤ 1000) : (wordO o).length ≤ 4 := by
  cases o with
  | none => decide +kernel
  | some n => exact len_nS (h n rfl)
theorem pure_thread_text {K : PySem.W.Frag} {E : XK} {H : Hp} {Q : VK} {vs : List V} (h : sp_thread_text K vs H Q E) : t_thread_text K E (DD Q) (L2.start ["thread", "answers"] vs) H := by
  obtain ⟨a, T, rfl, ha, hT, hl, q⟩ := h
  show t_thread_text K E (DD Q) [some (.ref a), none] H
  have S := Z.start H
  unfold t_thread_text
  walk_at "z"
  refine ⟨rfl, ?_⟩
  walk_at "z"
  refine z_lcL S (T.map ov) (fun k => (T.take k).map fun o => V.str (wordO o)) rfl (fun H' S' => S'.l ha) (fun k x D H1 hx S1 => ?_) (fun D H1 S1 => ?_)
  · have hk : k < T.length := by
      have := (List.getElem?_eq_some_iff.mp hx).1
      rwa [List.length_map] at this
    have ht : T[k]? = some T[k] := List.getElem?_eq_getElem hk
    rw [List.getElem?_map, ht] at hx
    cases hx
    walk_at "z"
    refine ⟨T[k], rfl, fun j hj => ?_, ?_⟩
    · rw [hj] at ht
      have := th_lt hT ht
      omega
    · refine z_app (N := []) S1 (by rw [List.length_map, List.length_take, sz]; omega) ?_
      rw [take_next ht, List.map_append]
      rfl
  · rw [List.length_map, List.take_length] at S1
    have hw : ∀ y ∈ T.map wordO, y.length ≤ 4 := fun y hy => by
      obtain ⟨o, ho, rfl⟩ := List.mem_map.mp hy
      obtain ⟨k, hk, rfl⟩ := List.getElem_of_mem ho
      refine len_wordO fun j hj => ?_
      have := th_lt hT (by rw [List.getElem?_eq_getElem hk, hj])
      omega
    have hs := sum_len hw
    rw [List.length_map] at hs
    have h1 : (" " : Str).length = 1 := by decide +kernel
    refine x_join (ys := T.map wordO) (by rw [List.map_map]; exact sq_l S1.hd) (by rw [List.length_map, h1]; omega) ?_
    exact q H1 S1.base
theorem pure_format_thread {K : PySem.W.Frag} {E : XK} {H : Hp} {Q : VK} {vs : List V} (h : sp_format_thread K vs H Q E) : t_format_thread K E (DD Q) (L2.start ["thread"] vs) H := by
  obtain ⟨v, rfl, h⟩ := h
  show t_format_thread K E (DD Q) [some v] H
  unfold t_format_thread
  walk_at "z"
  rcases h with ⟨a, T, rfl, ha, hT, hl, q⟩ | ⟨hb, q⟩
  · refine reqth_in ha hT hl fun H1 ex => ?_
    walk_at "z"
    exact ⟨a, T, rfl, ex.l ha, hT, hl, fun H2 ex2 => q H2 (ex.trans ex2)⟩
  · exact ⟨v, rfl, .inr ⟨hb, q⟩⟩
theorem rows_plain (T : FM.T3) (O : List Nat) : rowsL T [] O = O.map fun c => Txt.mul "  " ((FM.depF T c : Nat) : Int) ++ nS c := by
  unfold rowsL
  refine List.map_congr_left fun c _ => ?_
  show Txt.mul "  " ((FM.depF T c : Nat) : Int) ++ nS c ++ ("" : Str) = _
  rw [app_nil]
theorem pure_format_tree {K : PySem.W.Frag} {E : XK} {H : Hp} {Q : VK} {vs : List V} (h : sp_format_tree K vs H Q E) : t_format_tree K E (DD Q) (L2.start ["thread", "depths", "comment"] vs) H := by
  obtain ⟨v, rfl, h⟩ := h
  show t_format_tree K E (DD Q) [some v, none, none] H
  unfold t_format_tree
  walk_at "z"
  rcases h with ⟨a, T, rfl, ha, hT, hl, q⟩ | ⟨hb, q⟩
  rotate_left
  · exact ⟨v, rfl, .inr ⟨hb, q⟩⟩
  refine reqth_in ha hT hl fun H1 ex => ?_
  have S1 := (Z.start H).ext ex
  walk_at "z"
  refine ⟨a, T, rfl, .inl (S1.l ha), hT, hl, fun ld H2 e2 n2 k2 => ?_⟩
  have S2 : Z H2 H ([(ld, .lst (nV (FM.depL T)))] :: []) := S1.add e2 n2 k2
  walk_at "z"
  refine ⟨rfl, ?_⟩
  walk_at "z"
  refine ⟨a, false, T, rfl, S2.l ha, hT, hl, fun lo H3 e3 n3 k3 => ?_⟩
  have S3 := S2.add e3 n3 k3
  have hlo : (FM.ordL T).length = T.length := FM.len_ordN
  walk_at "z"
  refine z_lcL S3 (nV (FM.ordL T)) (fun k => ((FM.ordL T).take k).map fun c => V.str (Txt.mul "  " ((FM.depF T c : Nat) : Int) ++ nS c)) rfl (fun H' S' => sq_l (S'.at_ 0 0 rfl rfl)) (fun k x D H1 hx S4 => ?_) (fun D H4 S4 => ?_)
  · have hk : k < (FM.ordL T).length := by
      have := (List.getElem?_eq_some_iff.mp hx).1
      rwa [nV_len] at this
    have ht : (FM.ordL T)[k]? = some (FM.ordL T)[k] := List.getElem?_eq_getElem hk
    have hc : (FM.ordL T)[k] < T.length := FM.mem_ordN.mp (List.getElem_mem hk)
    rw [nV_at hk] at hx
    cases hx
    generalize (FM.ordL T)[k] = c at ht hc ⊢
    have hdl := depO_le hT c hc
    have hn := len_nS (n := c) (by omega)
    have hi := len_ind (d := FM.depF T c) (by show (FM.depL T).getD c 0 ≤ _; omega)
    walk_at "z"
    refine x_ixL (sq_l (S4.at_ 2 0 rfl rfl)) (at_dep hc) ?_
    refine x_mulS (ind_ok (by omega)) ?_
    walk_at "z"
    refine x_str (log_nat (by omega)) ?_
    refine x_addS (by
      have e1 : (Txt.mul ("  " : Str) (((FM.depL T).getD c 0 : Nat) : Int)).length ≤ 2000 := hi
      have e2 : ((toString ((c : Nat) : Int) : String) : Str).length ≤ 4 := hn
      rw [sz]
      omega) ?_
    refine z_app (N := []) S4 (by rw [List.length_map, List.length_take, sz]; omega) ?_
    rw [take_next ht, List.map_append]
    rfl
  · rw [nV_len, List.take_length] at S4
    have hw : ∀ y ∈ rowsL T [] (FM.ordL T), y.length ≤ 2010 := fun y hy => by
      unfold rowsL at hy
      obtain ⟨c, hc, rfl⟩ := List.mem_map.mp hy
      have hcl : c < T.length := FM.mem_ordN.mp hc
      have hdl := depO_le hT c hcl
      exact len_row (by omega) (by omega) (by show ("" : Str).length ≤ 6; decide +kernel)
    have hs := sum_len hw
    have hrl : (rowsL T [] (FM.ordL T)).length = T.length := by unfold rowsL; rw [List.length_map, hlo]
    rw [hrl] at hs
    have h1 : ("\n" : Str).length = 1 := by decide +kernel
    refine x_join (ys := rowsL T [] (FM.ordL T)) (by rw [rows_plain, List.map_map]; exact sq_l S4.hd) (by rw [hrl, h1]; omega) ?_
    exact q H4 S4.base
theorem split_len (x y : Str) (hy : tl y ≠ []) (hk : ¬ Builtin.Str.strKind x < Builtin.Str.strKind y) : (Txt.split x y).length ≤ x.length + 1 := by
  have e := congrArg List.length (TL.split_spl x y hy hk)
  rw [List.length_map] at e
  rw [e, TL.len_tl]
  generalize tl y = S at hy
  generalize tl x = L
  have key : ∀ (L : List Nat) (k : Nat) (acc : List Nat), (TL.spl S k acc L).length ≤ L.length + 1 := by
    intro L
    induction L with
    | nil => intro k acc; rw [TL.spl_nil]; simp
    | cons c r ih =>
      intro k acc
      cases k with
      | succ k =>
        have e2 : TL.spl S (k + 1) acc (c :: r) = TL.spl S k acc r := rfl
        rw [e2, List.length_cons]
        have := ih k acc
        omega
      | zero =>
        by_cases h : TL.pre S (c :: r) = true
        · rw [TL.spl_hit h, List.length_cons, List.length_cons]
          have := ih (S.length - 1) []
          omega
        · rw [TL.spl_miss (by simpa using h), List.length_cons]
          have := ih 0 (acc ++ [c])
          omega
  exact key L 0 []
theorem pure_parse_thread {K : PySem.W.Frag} {E : XK} {H : Hp} {Q : VK} {vs : List V} (h : sp_parse_thread K vs H Q E) : t_parse_thread K E (DD Q) (L2.start ["text", "found", "index", "word", "number"] vs) H := by
  obtain ⟨v, rfl, T, h⟩ := h
  show t_parse_thread K E (DD Q) [some v, none, none, none, none] H
  have S := Z.start H
  unfold t_parse_thread
  walk_at "z"
  rcases h with ⟨x, rfl, hx, hw, hr, hq⟩ | ⟨T0, hk, hb, q⟩
  rotate_left
  · exact ⟨v, rfl, .inr ⟨T0, hk, hb, T, q⟩⟩
  refine ⟨_, rfl, .inl ⟨x, rfl, ?_⟩⟩
  walk_at "zi"
  intro f H1 S1
  walk_at "zi"
  refine x_for ?_
  walk_at "zi"
  refine split_e (fun y H' => ∃ l B', y = .ref l ∧ B' l = some (.lst ((partsOf x " ").map V.str)) ∧ Ex H B' ∧ Z H' B' [[(f, .lst [])]]) (fun Q' kk => ?_) ?_
  · refine x_if ?_
    walk_at "z"
    refine z_iteN (fun z => ?_) (fun z => ?_)
    · walk_at "z"
      refine ⟨rfl, ?_⟩
      walk_at "z"
      refine z_split S1 (by decide +kernel) (by rw [sz]; omega) fun l H2 S2 => ?_
      obtain ⟨B', e, k, S3⟩ := S2.frz 0 rfl
      refine kk _ _ ⟨l, B', rfl, ?_, e, S3⟩
      unfold partsOf
      rw [if_neg z]
      exact k
    · walk_at "z"
      intro l H2 S2
      obtain ⟨B', e, k, S3⟩ := S2.frz 0 rfl
      refine kk _ _ ⟨l, B', rfl, ?_, e, S3⟩
      unfold partsOf
      rw [if_pos z]
      exact k
  rintro y H2 ⟨l, B', rfl, hl, ex, S2⟩
  clear S1
  generalize hP : partsOf x " " = P at *
  have hlq : SqL K H2 l (P.map V.str) := sq_l (S2.base _ _ hl)
  walk_at "z"
  refine z_for_enum (P.map V.str) (fun k σ H' => ∃ o2 o3 o4, σ = [some (.str x), some (.ref f), o2, o3, o4] ∧ (∀ i, i < k → badW i (P.getD i "") = false) ∧ k ≤ 40 ∧ Z H' B' [[(f, .lst (((P.take k).map numS).map ov))]]) ⟨_, _, _, rfl, fun i h => by omega, by omega, S2⟩ (fun i σ H' _ ⟨_, _, _, _, _, _, S'⟩ => sq_l (S'.base _ _ hl)) ?_ ?_
  · rintro k y T0 σ H3 H4 hy ⟨o2, o3, o4, rfl, hbad, hk40, S3⟩ ex4 hT0 hT1
    have hk : k < P.length := by
      have := (List.getElem?_eq_some_iff.mp hy).1
      rwa [List.length_map] at this
    have hg : P[k]? = some (P.getD k "") := by rw [List.getD_eq_getElem?_getD, List.getElem?_eq_getElem hk] <;> rfl
    have hwl := hw _ (List.mem_of_getElem? hg)
    generalize hwk : P.getD k "" = w at hg hwl
    rw [List.getElem?_map, hg] at hy
    cases hy
    have S4 := S3.ext ex4
    walk_at "zi"
    refine ⟨w, rfl, hwl, T.dig, fun H5 ex5 => ?_⟩
    have S5 := S4.ext ex5
    walk_at "zi"
    refine x_ifs ?_
    refine split_t (fun c H' => c = badW k w ∧ H' = H5) (fun Q' kk => ?_) ?_
    · walk_at "z"
      refine z_ite (fun z => ?_) (fun z => ?_)
      · exact kk _ _ ⟨by unfold badW; rw [decide_eq_true (by omega)] <;> rfl, rfl⟩
      have e40 : decide (k = 40) = false := decide_eq_false (by omega)
      walk_at "z"
      refine z_iteN (fun z1 => ?_) (fun z1 => ?_)
      · have e1 : decide (w ≠ "-") = true := decide_eq_true z1
        walk_at "z"
        cases hn : numS w with
        | none =>
          refine z_ite (fun _ => ?_) (fun z2 => absurd rfl z2)
          exact kk _ _ ⟨by unfold badW; rw [e40, e1, hn] <;> rfl, rfl⟩
        | some n =>
          refine z_ite (fun z2 => nomatch z2) (fun _ => ?_)
          have eo : ov (some n) = .int (n : Int) := rfl
          rw [eo]
          walk_at "z"
          refine kk _ _ ⟨?_, rfl⟩
          unfold badW
          rw [e40, e1, hn]
          show decide ((k : Int) ≤ (n : Int)) = decide (k ≤ n)
          exact decide_eq_decide.mpr (by omega)
      · exact kk _ _ ⟨by unfold badW; rw [e40, decide_eq_false (fun z2 => z2 z1)] <;> rfl, rfl⟩
    rintro c H6 ⟨rfl, rfl⟩
    refine z_iteB (fun zb => ?_) (fun zb => ?_)
    · walk_at "z"
      have e := hr k ⟨hk, by show badW k (P.getD k "") = true; rw [hwk]; exact zb, hbad⟩
      exact z_raiT T rfl (e.ext (ex.trans S5.base))
    · walk_at "z"
      have hk2 : k < 40 := by
        rcases Nat.lt_or_ge k 40 with h | h
        · exact h
        · have : k = 40 := by omega
          unfold badW at zb
          rw [decide_eq_true this] at zb
          cases zb
      refine z_append (n := 0) S5 rfl (by rw [List.length_map, List.length_map, List.length_take, sz]; omega) fun H7 S6 => ?_
      refine ⟨_, _, _, rfl, fun i hi => ?_, by omega, ?_⟩
      · rcases Nat.lt_or_ge i k with h | h
        · exact hbad i h
        · have : i = k := by omega
          subst this
          rw [hwk]
          exact zb
      · rw [take_next hg, List.map_append, List.map_append]
        exact S6
  · rintro σ H3 ⟨o2, o3, o4, rfl, hbad, hk40, S3⟩
    rw [List.length_map] at hbad
    rw [List.length_map, List.take_length] at S3
    walk_at "z"
    exact hq hbad f H3 (ex.trans S3.base) (by
      have h1 := S3.no 0 0 rfl rfl
      cases z : H f with
      | none => rfl
      | some o => rw [ex _ _ z] at h1; cases h1) S3.hd
theorem len_lstrip (r b : Str) : (Txt.lstripChars r b).length ≤ r.length := by
  unfold Txt.lstripChars
  rw [PyProof.Rows.stripBy_eq]
  show (r.cps.extract _ _).size ≤ r.cps.size
  rw [Array.size_extract]
  omega
theorem pure_line_in {K : PySem.W.Frag} {E : XK} {H : Hp} {Q : VK} {vs : List V} (h : sp_line_in K vs H Q E) : t_line_in K E (DD Q) (L2.start ["row", "word", "spaces", "number"] vs) H := by
  obtain ⟨r, rfl, hr, hw, hdg, q1, q2⟩ := h
  show t_line_in K E (DD Q) [some (.str r), none, none, none] H
  have S := Z.start H
  have hle := len_lstrip r " "
  unfold lineOf at q1 q2
  unfold t_line_in
  walk_at "z"
  refine ⟨rfl, ?_⟩
  walk_at "z"
  refine ⟨_, _, rfl, rfl, by rw [sz]; omega, ?_⟩
  generalize Txt.lstripChars r " " = w at *
  walk_at "z"
  refine x_lenS (by rw [sz]; omega) ?_
  walk_at "z"
  refine x_lenS (by rw [sz]; omega) ?_
  walk_at "z"
  have em : (r.length : Int) - (w.length : Int) = ((r.length - w.length : Nat) : Int) := by omega
  rw [em]
  generalize r.length - w.length = m at *
  refine ⟨w, rfl, hw, hdg, fun H1 ex => ?_⟩
  have S1 := S.ext ex
  have e2 : ("  " : Str).length = 2 := by decide +kernel
  walk_at "z"
  cases hn : numS w with
  | none =>
    refine z_ite (fun _ => ?_) (fun z => absurd rfl z)
    walk_at "z"
    exact q1 (by rw [hn]) H1 ex
  | some n =>
    refine z_ite (fun z => nomatch z) (fun _ => ?_)
    have eo : ov (some n) = .int (n : Int) := rfl
    rw [eo]
    walk_at "z"
    refine x_lenS (by decide +kernel) ?_
    rw [e2]
    refine x_modI (by decide) ?_
    walk_at "z"
    refine z_iteN (fun z => ?_) (fun z => ?_)
    · walk_at "z"
      refine q1 ?_ H1 ex
      rw [hn]
      show (if m % 2 = 0 then some (m / 2, n) else none) = none
      rw [if_neg (by omega)]
    · walk_at "z"
      refine x_lenS (by decide +kernel) ?_
      rw [e2]
      refine x_divI (divW (by decide) (by decide)) ?_
      walk_at "z"
      intro t H2 S2
      have ed : ((m : Nat) : Int) / ((2 : Nat) : Int) = ((m / 2 : Nat) : Int) := by omega
      rw [ed] at S2
      refine q2 (m / 2) n ?_ t H2 S2.base (S2.no 0 0 rfl rfl) S2.hd
      rw [hn]
      show (if m % 2 = 0 then some (m / 2, n) else none) = _
      rw [if_pos (by omega)]
/-! ### the dict of levels -/
def kvD (ls : List (Nat × Nat)) : List (Key × V) := ls.map fun x => (Sum.inl (x.2 : Int), V.int (x.1 : Int))
theorem kvD_some : ∀ (ls : List (Nat × Nat)) (n : Nat), (valV (kvD ls) (Sum.inl (n : Int))).isSome = (ls.map (·.2)).contains n
  | [], n => rfl
  | x :: ls, n => by
    have ih := kvD_some ls n
    show (valV ((Sum.inl (x.2 : Int), V.int (x.1 : Int)) :: kvD ls) (Sum.inl (n : Int))).isSome = _
    rw [List.map_cons, List.contains_cons]
    by_cases e : x.2 = n
    · subst e
      rw [valV_pos rfl]
      simp
    · have e2 : ¬ (Sum.inl (x.2 : Int) : Key) = Sum.inl (n : Int) := fun z => e (by have := Sum.inl.inj z; omega)
      rw [valV_neg e2, ih]
      have e3 : (n == x.2) = false := by simp; omega
      rw [e3, Bool.false_or]
theorem kvD_get : ∀ (ls : List (Nat × Nat)), (ls.map (·.2)).Nodup → ∀ x ∈ ls, valV (kvD ls) (Sum.inl (x.2 : Int)) = some (.int (x.1 : Int))
  | [], _, x, h => by cases h
  | y :: ls, nd, x, h => by
    rw [List.map_cons] at nd
    obtain ⟨n1, n2⟩ := List.nodup_cons.mp nd
    show valV ((Sum.inl (y.2 : Int), V.int (y.1 : Int)) :: kvD ls) _ = _
    rcases List.mem_cons.mp h with e | e
    · rw [e]
      exact valV_pos rfl
    · have e2 : ¬ (Sum.inl (y.2 : Int) : Key) = Sum.inl (x.2 : Int) := fun z => n1 (by
        have e3 : y.2 = x.2 := by have := Sum.inl.inj z; omega
        rw [e3]
        exact List.mem_map.mpr ⟨x, e, rfl⟩)
      rw [valV_neg e2]
      exact kvD_get ls n2 x e
theorem kvD_put {ls : List (Nat × Nat)} {x : Nat × Nat} (h : (ls.map (·.2)).contains x.2 = false) : putK (kvD ls) (Sum.inl (x.2 : Int)) (.int (x.1 : Int)) = kvD (ls ++ [x]) := by
  unfold putK
  have e : ((kvD ls).any fun kv => decide (kv.1 = (Sum.inl (x.2 : Int) : Key))) = false := by
    rw [valV_any, kvD_some, h]
  rw [e]
  unfold kvD
  rw [List.map_append]
  rfl
theorem prsK_len (rows : List Str) : ∀ {k : Nat} {ls : List (Nat × Nat)}, prsK rows k = some ls → ls.length = k ∧ (ls.map (·.2)).Nodup ∧ k ≤ 40
  | 0, ls, h => by
    cases h
    exact ⟨rfl, List.nodup_nil, by omega⟩
  | k + 1, ls, h => by
    unfold prsK at h
    cases hp : prsK rows k with
    | none => rw [hp] at h; cases h
    | some l0 =>
      rw [hp] at h
      obtain ⟨h1, h2, h3⟩ := prsK_len rows hp
      cases hl : lineOf (rows.getD k "") with
      | none => rw [hl] at h; cases h
      | some x =>
        rw [hl] at h
        dsimp only at h
        split at h
        · rename_i ho
          cases h
          unfold FM.okR at ho
          rw [Bool.and_eq_true, Bool.and_eq_true, Bool.not_eq_true', Bool.not_eq_true', decide_eq_false_iff_not] at ho
          refine ⟨by rw [List.length_append, h1] <;> rfl, ?_, by omega⟩
          rw [List.map_append]
          refine List.nodup_append.mpr ⟨h2, by simp, fun a ha b hb e => ?_⟩
          have hb2 : b = x.2 := by simpa using hb
          have := ho.2.1
          rw [← Bool.not_eq_true, List.contains_iff_mem] at this
          exact this (by rw [← hb2, ← e]; exact ha)
        · cases h
theorem prsK_step {rows : List Str} {k : Nat} {ls : List (Nat × Nat)} (h : prsK rows k = some ls) : prsK rows (k + 1) = match lineOf (rows.getD k "") with
    | none => none
    | some x => if FM.okR k ls x = true then some (ls ++ [x]) else none := by
  show (match prsK rows k with
    | none => none
    | some ls => match lineOf (rows.getD k "") with
      | none => none
      | some x => if FM.okR k ls x = true then some (ls ++ [x]) else none) = _
  rw [h]
theorem perm_range_lt {l : List Nat} (h : l.Perm (List.range l.length)) : ∀ c ∈ l, c < l.length := fun c hc => List.mem_range.mp (h.mem_iff.mp hc)
theorem ex_no {H B : Hp} {p : Addr} (e : Ex H B) (h : B p = none) : H p = none := by
  cases z : H p with
  | none => rfl
  | some o => rw [e _ _ z] at h; cases h
theorem pure_parse_tree {K : PySem.W.Frag} {E : XK} {H : Hp} {Q : VK} {vs : List V} (h : sp_parse_tree K vs H Q E) : t_parse_tree K E (DD Q) (L2.start ["text", "order", "levels", "deepest", "index", "row", "parts", "found"] vs) H := by
  obtain ⟨v, rfl, T, h⟩ := h
  show t_parse_tree K E (DD Q) [some v, none, none, none, none, none, none, none] H
  have S := Z.start H
  unfold t_parse_tree
  walk_at "z"
  rcases h with ⟨x, rfl, hx, hw, hr, hq⟩ | ⟨T0, hk, hb, q⟩
  rotate_left
  · exact ⟨v, rfl, .inr ⟨T0, hk, hb, T, q⟩⟩
  refine ⟨_, rfl, .inl ⟨x, rfl, ?_⟩⟩
  walk_at "zi"
  intro f H1 S1
  walk_at "zi"
  intro dc hdc
  have S1 : Z (upd H1 dc (.dK [])) H ([(dc, .dK [])] :: [[(f, .lst [])]]) := S1.new hdc
  generalize upd H1 dc (.dK []) = H1 at S1 ⊢
  walk_at "zi"
  refine x_for ?_
  walk_at "zi"
  refine split_e (fun y H' => ∃ l B', y = .ref l ∧ B' l = some (.lst ((partsOf x "\n").map V.str)) ∧ Ex H B' ∧ Z H' B' [[(dc, .dK (kvD []))], [(f, .lst (nV []))]]) (fun Q' kk => ?_) ?_
  · refine x_if ?_
    walk_at "z"
    refine z_iteN (fun z => ?_) (fun z => ?_)
    · walk_at "z"
      refine ⟨rfl, ?_⟩
      walk_at "z"
      refine z_split S1 (by decide +kernel) (by rw [sz]; omega) fun l H2 S2 => ?_
      obtain ⟨B', e, k, S3⟩ := S2.frz 0 rfl
      refine kk _ _ ⟨l, B', rfl, ?_, e, S3⟩
      unfold partsOf
      rw [if_neg z]
      exact k
    · walk_at "z"
      intro l H2 S2
      obtain ⟨B', e, k, S3⟩ := S2.frz 0 rfl
      refine kk _ _ ⟨l, B', rfl, ?_, e, S3⟩
      unfold partsOf
      rw [if_pos z]
      exact k
  rintro y H2 ⟨l, B', rfl, hl, ex, S2⟩
  clear S1
  generalize hP : partsOf x "\n" = P at *
  have hlq : SqL K H2 l (P.map V.str) := sq_l (S2.base _ _ hl)
  walk_at "z"
  refine z_for_enum (P.map V.str) (fun k σ H' => ∃ (o4 o5 o6 : Option V) (B2 : Hp) (ls : List (Nat × Nat)), σ = [some (.str x), some (.ref f), some (.ref dc), some (.int (FM.room ls : Int)), o4, o5, o6, none] ∧ prsK P k = some ls ∧ Ex B' B2 ∧ Z H' B2 [[(dc, .dK (kvD ls))], [(f, .lst (nV (ls.map (·.2))))]]) ⟨_, _, _, B', [], rfl, rfl, Ex.refl _, S2⟩ (fun i σ H' _ ⟨_, _, _, B2, _, _, _, e2, S'⟩ => sq_l (S'.base _ _ (e2 _ _ hl))) ?_ ?_
  · rintro k y T0 σ H3 H4 hy ⟨o4, o5, o6, B2, ls, rfl, hpk, ex2, S3⟩ ex4 hT0 hT1
    have hk : k < P.length := by
      have := (List.getElem?_eq_some_iff.mp hy).1
      rwa [List.length_map] at this
    obtain ⟨hll, hnd, hk40⟩ := prsK_len P hpk
    have hstep := prsK_step hpk
    have hg : P[k]? = some (P.getD k "") := by rw [List.getD_eq_getElem?_getD, List.getElem?_eq_getElem hk] <;> rfl
    have hwl := hw _ (List.mem_of_getElem? hg)
    have hrai := hr k hk (by rw [hpk]; exact fun z => nomatch z)
    generalize hwk : P.getD k "" = w at hg hwl hstep
    rw [List.getElem?_map, hg] at hy
    cases hy
    have S4 := S3.ext ex4
    have S4 : Z H4 B2 [[(dc, .dK (kvD ls))], [(f, .lst (nV (ls.map (·.2))))]] := S4
    walk_at "zi"
    refine ⟨w, rfl, hwl.1, hwl.2, T.dig, fun hn H5 ex5 => ?_, fun d n hdn t H5 ex5 hnt ht => ?_⟩
    · have S5 := S4.ext ex5
      rw [hn] at hstep
      walk_at "z"
      refine z_ite (fun _ => ?_) (fun z => absurd rfl z)
      walk_at "z"
      exact z_raiT T rfl ((hrai hstep).ext (ex.trans (ex2.trans S5.base)))
    · rw [hdn] at hstep
      dsimp only at hstep
      obtain ⟨B3, ex3, kt, S5⟩ := S4.keep ex5 hnt ht
      have htq : SqT K H5 t [.int (d : Int), .int (n : Int)] := S5.t (sq_t kt)
      walk_at "zi"
      refine x_ifs ?_
      refine split_t (fun c H' => c = (!FM.okR k ls (d, n)) ∧ H' = H5) (fun Q' kk => ?_) ?_
      · walk_at "z"
        refine z_ite (fun z => nomatch z) (fun _ => ?_)
        walk_at "z"
        refine x_ixT htq (at0 rfl) ?_
        walk_at "z"
        refine z_ite (fun z => ?_) (fun z => ?_)
        · refine kk _ _ ⟨?_, rfl⟩
          unfold FM.okR
          rw [decide_eq_false (by show ¬ d ≤ FM.room ls; omega)] <;> rfl
        have e1 : decide (d ≤ FM.room ls) = true := decide_eq_true (by omega)
        walk_at "z"
        refine x_ixT htq (at1 rfl) ?_
        walk_at "z"
        refine ⟨dc, _, rfl, DGet.k (k := Sum.inl (n : Int)) (S5.at_ 0 0 rfl rfl), ?_⟩
        rw [kvD_some]
        refine z_bl (z_iteB (fun z2 => ?_) (fun z2 => ?_))
        · refine kk _ _ ⟨?_, rfl⟩
          unfold FM.okR
          rw [e1, z2] <;> rfl
        walk_at "z"
        refine kk _ _ ⟨?_, rfl⟩
        unfold FM.okR
        rw [e1, z2]
        show decide ((k : Int) = 40) = !(true && (!false && !decide (k = 40)))
        have e2 : decide ((k : Int) = 40) = decide (k = 40) := decide_eq_decide.mpr (by omega)
        rw [e2]
        cases decide (k = 40) <;> rfl
      rintro c H6 ⟨rfl, rfl⟩
      refine z_iteNB (fun zb => ?_) (fun zb => ?_)
      · walk_at "z"
        rw [if_neg (by rw [zb]; decide)] at hstep
        exact z_raiT T rfl ((hrai hstep).ext (ex.trans (ex2.trans (ex3.trans S5.base))))
      · rw [if_pos zb] at hstep
        have hn : (ls.map (·.2)).contains n = false := by
          unfold FM.okR at zb
          rw [Bool.and_eq_true, Bool.and_eq_true, Bool.not_eq_true'] at zb
          exact zb.2.1
        walk_at "z"
        refine x_ixT htq (at1 rfl) ?_
        walk_at "z"
        refine z_append (n := 1) S5 rfl (by rw [nV_len, List.length_map, sz]; omega) fun H7 S6 => ?_
        have S6 : Z H7 B3 [[(dc, .dK (kvD ls))], [(f, .lst (nV (ls.map (·.2)) ++ [.int (n : Int)]))]] := S6
        have htq2 : SqT K H7 t [.int (d : Int), .int (n : Int)] := S6.t (sq_t kt)
        walk_at "z"
        refine x_ixT htq2 (at0 rfl) ?_
        walk_at "z"
        refine x_ixT htq2 (at1 rfl) ?_
        refine ⟨dc, _, rfl, DPut.k (k := Sum.inl (n : Int)) (S6.at_ 0 0 rfl rfl) (by unfold kvD; rw [List.length_map, sz]; omega), ?_⟩
        have S7 := S6.set 0 (o' := .dK (putK (kvD ls) (Sum.inl (n : Int)) (.int (d : Int)))) rfl
        rw [kvD_put (x := (d, n)) hn] at S7 ⊢
        have S7 : Z (upd H7 dc (.dK (kvD (ls ++ [(d, n)])))) B3 [[(dc, .dK (kvD (ls ++ [(d, n)])))], [(f, .lst (nV (ls.map (·.2)) ++ [.int (n : Int)]))]] := S7
        generalize upd H7 dc (.dK (kvD (ls ++ [(d, n)]))) = H8 at S7 ⊢
        have htq3 : SqT K H8 t [.int (d : Int), .int (n : Int)] := S7.t (sq_t kt)
        walk_at "z"
        refine x_ixT htq3 (at0 rfl) ?_
        walk_at "z"
        refine ⟨some (.int (k : Int)), some (.str w), some (.ref t), B3, ls ++ [(d, n)], ?_, hstep, ex2.trans ex3, ?_⟩
        · rw [FM.room_snoc] <;> rfl
        · rw [List.map_append]
          have en : nV (ls.map (·.2) ++ [(d, n)].map (·.2)) = nV (ls.map (·.2)) ++ [.int (n : Int)] := by simp [nV]
          rw [en]
          exact S7
  · rintro σ H3 ⟨o4, o5, o6, B2, ls, rfl, hpk, ex2, S3⟩
    rw [List.length_map] at hpk
    obtain ⟨hll, hnd, hk40⟩ := prsK_len P hpk
    obtain ⟨hno, hyes⟩ := hq ls hpk
    have exB := ex.trans ex2
    walk_at "zi"
    have hml : (ls.map (·.2)).length = ls.length := List.length_map _
    refine split_s (fun σ' H' => (ls.map (·.2)).Perm (List.range ls.length) ∧ σ' = [some (.str x), some (.ref f), some (.ref dc), some (.int (FM.room ls : Int)), o4, o5, o6, none] ∧ Z H' B2 [[(dc, .dK (kvD ls))], [(f, .lst (nV (ls.map (·.2))))]]) (fun N kk => ?_) ?_
    · refine x_ifs ?_
      walk_at "z"
      refine ⟨f, (ls.map (·.2)).map fun (n : Nat) => (n : Int), rfl, by rw [← nV_int]; exact sq_l (S3.at_ 1 0 rfl rfl), by rw [List.length_map, List.length_map]; omega, fun ns p hp hs hn => ?_⟩
      have S4 := S3.new (o := .lst (ns.map V.int)) hn
      generalize upd H3 p (.lst (ns.map V.int)) = H4 at S4 ⊢
      have hns : ∀ i ∈ ns, 0 ≤ i := fun i hi => by
        obtain ⟨n, _, rfl⟩ := List.mem_map.mp (hp.mem_iff.mp hi)
        omega
      rw [nV_ints hns] at S4
      walk_at "z"
      refine z_lstRg S4 ls.length (by rw [nV_len, hml]) (by omega) fun p2 H5 S5 => ?_
      have S5 : Z H5 B2 ([(p2, .lst (nV (List.range ls.length)))] :: [(p, .lst (nV (ns.map Int.toNat)))] :: [[(dc, .dK (kvD ls))], [(f, .lst (nV (ls.map (·.2))))]]) := S5
      refine neq_nV (l := ns.map Int.toNat) (m := List.range ls.length) (sq_l (S5.at_ 1 0 rfl rfl)) (sq_l (S5.at_ 0 0 rfl rfl)) ?_
      have S6 := S5.tail.tail
      have hpn : (ns.map Int.toNat).Perm (ls.map (·.2)) := by
        have := hp.map Int.toNat
        rw [List.map_map] at this
        have e : (ls.map (·.2)).map (Int.toNat ∘ fun (n : Nat) => (n : Int)) = ls.map (·.2) := by
          have : (Int.toNat ∘ fun (n : Nat) => (n : Int)) = id := by
            funext n
            exact Int.toNat_natCast n
          rw [this, List.map_id]
        rw [e] at this
        exact this
      refine z_bl (z_iteN (fun z => ?_) (fun z => ?_))
      · walk_at "z"
        rw [nV_len, hml]
        have hbad : ¬ FM.treeOk ls := fun ht => z (by
          have e := sort_asc hnd (fun c => ht.1.mem_iff) List.pairwise_lt_range hp hs
          have e2 := congrArg (List.map Int.toNat) (show ns = (List.range ls.length).map (fun (n : Nat) => (n : Int)) from by
            have := e
            rw [nV_int] at this
            exact List.map_inj_right (fun _ _ h => V.int.inj h) |>.mp this)
          rw [e2, List.map_map]
          have : (Int.toNat ∘ fun (n : Nat) => (n : Int)) = id := by
            funext n
            exact Int.toNat_natCast n
          rw [this, List.map_id])
        rw [hll]
        exact z_raiT T rfl ((hno hbad).ext (exB.trans S6.base))
      · walk_at "z"
        exact kk _ _ ⟨by rw [← z]; exact hpn.symm, rfl, S6⟩
    rintro σ' H4 ⟨hperm, rfl, S4⟩
    dsimp only
    have hlt : ∀ y ∈ ls, y.2 < ls.length := fun y hy => by
      have h1 := perm_range_lt (l := ls.map (·.2)) (by rw [hml]; exact hperm) y.2 (List.mem_map.mpr ⟨y, hy, rfl⟩)
      rwa [hml] at h1
    walk_at "zi"
    refine ⟨f, dc, ls, rfl, sq_l (S4.at_ 1 0 rfl rfl), fun H' e => .inr fun y hy => ?_, hlt, by omega, fun p H5 e5 n5 k5 => ?_⟩
    · have := DGet.k (k := Sum.inl (y.2 : Int)) ((S4.ext e).at_ 0 0 rfl rfl)
      rw [kvD_get ls hnd y hy] at this
      exact this
    have S5 := S4.add e5 n5 k5
    have hTl : (FM.thrL ls).length = ls.length := FM.len_thrL ls
    walk_at "zi"
    refine split_s (fun σ' H' => FM.treeOk ls ∧ σ' = [some (.str x), some (.ref f), some (.ref dc), some (.int (FM.room ls : Int)), o4, o5, o6, some (.ref p)] ∧ Z H' B2 [[(p, .lst ((FM.thrL ls).map ov))]]) (fun N kk => ?_) ?_
    · refine x_ifs ?_
      walk_at "z"
      have hxs : ∀ (k : Nat) (y : V), ((FM.thrL ls).map ov)[k]? = some y → y = .non ∨ ∀ H', Ex H5 H' → KdI K H' y := fun k y hy => .inr fun H' _ => by
        rw [List.getElem?_map] at hy
        cases e : (FM.thrL ls)[k]? with
        | none => rw [e] at hy; cases hy
        | some o => rw [e] at hy; cases hy; exact kdI_ov K H' o
      refine ⟨_, rfl, .inl ⟨p, (FM.thrL ls).map ov, rfl, sq_l (S5.at_ 0 0 rfl rfl), by rw [List.length_map]; omega, hxs, fun H6 e6 => ?_⟩⟩
      have S6 := S5.ext e6
      by_cases hth : FM.Th (FM.thrL ls)
      · rw [(thV_iff _).mpr hth]
        refine z_bl (z_iffalse ?_)
        walk_at "z"
        refine ⟨p, false, FM.thrL ls, rfl, sq_l (S6.at_ 0 0 rfl rfl), hth, by omega, fun l7 H7 e7 n7 k7 => ?_⟩
        have S7 := S6.ext e7
        walk_at "z"
        refine neq_nV (l := FM.ordL (FM.thrL ls)) (m := ls.map (·.2)) (sq_l k7) (sq_l (S7.at_ 2 0 rfl rfl)) ?_
        refine z_bl (z_iteN (fun z => ?_) (fun z => ?_))
        · walk_at "z"
          rw [nV_len, hml, hll]
          exact z_raiT T rfl ((hno fun ht => z ht.2.2).ext (exB.trans S7.base))
        · walk_at "z"
          exact kk _ _ ⟨⟨hperm, hth, z⟩, rfl, S7.sub (.cons_cons _ (.cons _ (.cons _ .slnil)))⟩
      · have hf : thV ((FM.thrL ls).map ov) = false := by
          rw [← Bool.not_eq_true]
          exact fun z => hth ((thV_iff _).mp z)
        rw [hf]
        refine z_bl (z_iftrue ?_)
        walk_at "z"
        rw [nV_len, hml, hll]
        exact z_raiT T rfl ((hno fun ht => hth ht.2.1).ext (exB.trans S6.base))
    rintro σ' H6 ⟨htr, rfl, S6⟩
    dsimp only
    walk_at "z"
    exact hyes htr p H6 (exB.trans S6.base) (ex_no exB (S6.no 0 0 rfl rfl)) S6.hd
end FT

namespace FT
open PySem PySem.Spec PyProof.Rows L2
open TL (tl)
/-! ### what is written is read back. Plain Lean -/
theorem tl_nS (n : Nat) : tl (nS n) = TL.numL n := TL.tl_num n
theorem numL_head : ∀ n : Nat, (TL.numL n).head? = some 48 → n = 0 := by
  intro n
  induction n using Nat.strongRecOn with
  | _ n ih =>
    intro h
    by_cases hn : n < 10
    · rw [TL.numL_lt hn] at h
      have : 48 + n = 48 := Option.some.inj h
      omega
    · rw [TL.numL_step (by omega)] at h
      have hne := TL.numL_ne (n / 10)
      cases hq : TL.numL (n / 10) with
      | nil => exact absurd hq hne
      | cons c r =>
        rw [hq] at h
        have h2 : (TL.numL (n / 10)).head? = some 48 := by
          rw [hq]
          exact h
        have := ih (n / 10) (by omega) h2
        omega
theorem num_nS (n : Nat) : numS (nS n) = some n := by
  have h0 : tl (nS n) ≠ [] := by rw [tl_nS]; exact TL.numL_ne n
  have h1 : (tl (nS n)).all isDg = true := by
    rw [tl_nS]
    exact List.all_eq_true.mpr fun c hc => (isDg_iff c).mpr (TL.numL_digits n c hc)
  rw [numS_ok h0 h1, tl_nS, TL.numL_val]
  rintro ⟨h2, h3⟩
  rw [tl_nS] at h2
  have := numL_head n h2
  subst this
  exact h3 (by decide +kernel)
theorem num_word (o : Option Nat) : numS (wordO o) = o := by
  cases o with
  | none => decide +kernel
  | some n => exact num_nS n
theorem word_ne (o : Option Nat) : wordO o ≠ "" := by
  cases o with
  | none => decide +kernel
  | some n =>
    intro h
    have := tl_nil.mpr h
    rw [show wordO (some n) = nS n from rfl, tl_nS] at this
    exact TL.numL_ne n this
theorem word_free (o : Option Nat) : 32 ∉ tl (wordO o) := by
  cases o with
  | none => decide +kernel
  | some n =>
    show 32 ∉ tl (nS n)
    rw [tl_nS]
    exact TL.numL_free (.inl (by decide))
theorem sp_tl : tl (" " : Str) = [32] := by decide +kernel
theorem nl_tl : tl ("\n" : Str) = [10] := by decide +kernel
theorem join_nil (s : Str) : Txt.join s [] = "" := by
  rw [TL.join_eq]
  refine TL.ext_tl ?_
  rw [TL.tl_join]
  show ([] : List Nat) = tl ("" : Str)
  decide +kernel
theorem parts_join {s : Str} {c : Nat} (es : tl s = [c]) (hk : s.cps.all (· < 256) = true) {ws : List Str} (hne : ∀ w ∈ ws, w ≠ "") (hf : ∀ w ∈ ws, c ∉ tl w) : partsOf (Txt.join s ws) s = ws := by
  cases ws with
  | nil =>
    unfold partsOf
    rw [if_pos (join_nil s)]
  | cons w r =>
    have hsp := TL.split_join es hk (parts := w :: r) (by simp) hf
    unfold partsOf
    rw [if_neg]
    · exact hsp
    · intro h
      have h2 := congrArg tl h
      rw [TL.join_eq, TL.tl_join] at h2
      have h3 : tl w ≠ [] := fun e => hne w List.mem_cons_self (tl_nil.mp e)
      have h4 : tl ("" : Str) = [] := by decide +kernel
      rw [h4] at h2
      cases r with
      | nil => exact h3 h2
      | cons z r =>
        have h5 : tl w ++ (tl s ++ TL.joinL (tl s) ((z :: r).map tl)) = [] := h2
        exact h3 (List.append_eq_nil_iff.mp h5).1
theorem page_parts (T : FM.T3) : partsOf (pageT T) " " = T.map wordO := parts_join sp_tl (by decide +kernel) (fun w hw => by
  obtain ⟨o, _, rfl⟩ := List.mem_map.mp hw
  exact word_ne o) fun w hw => by
  obtain ⟨o, _, rfl⟩ := List.mem_map.mp hw
  exact word_free o
theorem page_back (T : FM.T3) : (partsOf (pageT T) " ").map numS = T := by
  rw [page_parts, List.map_map]
  have e : numS ∘ wordO = id := funext num_word
  rw [e, List.map_id]
theorem page_inj {T U : FM.T3} (h : pageT T = pageT U) : T = U := by rw [← page_back T, h, page_back]
theorem page_bad {T : FM.T3} (hT : FM.Th T) (hl : T.length ≤ 40) : ∀ i, i < (partsOf (pageT T) " ").length → badW i ((partsOf (pageT T) " ").getD i "") = false := by
  rw [page_parts]
  intro i hi
  rw [List.length_map] at hi
  rw [List.getD_eq_getElem?_getD, List.getElem?_map, List.getElem?_eq_getElem hi]
  show badW i (wordO T[i]) = false
  unfold badW
  rw [num_word, decide_eq_false (by omega), Bool.false_or]
  cases ho : T[i] with
  | none =>
    have : decide (wordO none ≠ "-") = false := by decide +kernel
    rw [this] <;> rfl
  | some j =>
    have := hT i j (by rw [List.getElem?_eq_getElem hi, ho])
    dsimp only
    rw [decide_eq_false (show ¬ i ≤ j by omega), Bool.and_false]
theorem row_tl (d c : Nat) : tl (rowS d c "") = List.replicate (2 * d) 32 ++ TL.numL c := by
  unfold rowS
  rw [app_nil]
  show (Txt.mul "  " (d : Int) ++ nS c).cps.toList = _
  rw [app_cps, mul_cps]
  congr 1
  exact tl_nS c
theorem tree_parts (T : FM.T3) (O : List Nat) : partsOf (Txt.join "\n" (rowsL T [] O)) "\n" = rowsL T [] O := parts_join nl_tl (by decide +kernel) (fun w hw e => by
  obtain ⟨c, _, rfl⟩ := List.mem_map.mp hw
  have := tl_nil.mpr e
  rw [show moreS T [] c = "" from rfl, row_tl] at this
  exact TL.numL_ne c (List.append_eq_nil_iff.mp this).2) fun w hw => by
  obtain ⟨c, _, rfl⟩ := List.mem_map.mp hw
  rw [show moreS T [] c = "" from rfl, row_tl]
  intro h
  rcases List.mem_append.mp h with h | h
  · have := List.eq_of_mem_replicate h
    omega
  · exact TL.numL_free (.inl (by decide)) h
theorem len_app2 (a b : Str) : (a ++ b).length = a.length + b.length := by
  rw [TL.len_tl, TL.len_tl, TL.len_tl, TL.tl_append, List.length_append]
theorem strip_row (d c : Nat) : Txt.lstripChars (rowS d c "") " " = nS c := by
  unfold rowS
  rw [app_nil]
  refine lstrip_row d (nS c) fun x hx e => ?_
  have hm := List.mem_of_mem_head? hx
  have h2 : x ∈ TL.numL c := by rw [← tl_nS]; exact hm
  have := TL.numL_digits c x h2
  omega
theorem line_row (d c : Nat) : lineOf (rowS d c "") = some (d, c) := by
  unfold lineOf
  rw [strip_row, num_nS]
  have e : (rowS d c "").length - (nS c).length = 2 * d := by
    rw [TL.len_tl, TL.len_tl, row_tl, tl_nS, List.length_append, List.length_replicate]
    omega
  rw [e]
  dsimp only
  rw [if_pos (by omega)]
  congr 2
  omega
theorem prs_oB {T : FM.T3} (hT : FM.Th T) (hl : T.length ≤ 40) (nw : Bool) : ∀ k, k ≤ T.length → prsK (rowsL T [] (FM.oB T nw)) k = some (FM.rowsD T ((FM.oB T nw).take k))
  | 0, _ => rfl
  | k + 1, h => by
    have ih := prs_oB hT hl nw k (by omega)
    have hlen : (FM.oB T nw).length = T.length := FM.lenB T nw
    have hk : (FM.oB T nw)[k]? = some ((FM.oB T nw)[k]'(by omega)) := List.getElem?_eq_getElem (by omega)
    generalize (FM.oB T nw)[k]'(by omega) = c at hk
    have hr : (rowsL T [] (FM.oB T nw)).getD k "" = rowS (FM.depF T c) c "" := by
      unfold rowsL
      rw [List.getD_eq_getElem?_getD, List.getElem?_map, hk]
      rfl
    rw [prsK_step ih, hr, line_row]
    dsimp only
    rw [if_pos (FM.ok_rows hT hl nw hk), take_next hk]
    unfold FM.rowsD
    rw [List.map_append]
    rfl
theorem prs_all {T : FM.T3} (hT : FM.Th T) (hl : T.length ≤ 40) (nw : Bool) : prsK (rowsL T [] (FM.oB T nw)) (rowsL T [] (FM.oB T nw)).length = some (FM.rowsD T (FM.oB T nw)) := by
  have hlen : (rowsL T [] (FM.oB T nw)).length = T.length := by
    unfold rowsL
    rw [List.length_map, FM.lenB]
  rw [hlen, prs_oB hT hl nw T.length (Nat.le_refl _), List.take_of_length_le (by rw [FM.lenB]; exact Nat.le_refl _)]
theorem tree_inj {T U : FM.T3} (hT : FM.Th T) (hU : FM.Th U) (hl : T.length ≤ 40) (hl2 : U.length ≤ 40) (h : treeT T = treeT U) : T = U := by
  have h1 := tree_parts T (FM.ordL T)
  have h2 := tree_parts U (FM.ordL U)
  have h3 : Txt.join "\n" (rowsL T [] (FM.ordL T)) = Txt.join "\n" (rowsL U [] (FM.ordL U)) := h
  rw [h3, h2] at h1
  have p1 := prs_all hT hl false
  have p2 := prs_all hU hl2 false
  have h4 : rowsL U [] (FM.oB U false) = rowsL T [] (FM.oB T false) := h1
  rw [h4, p1] at p2
  have p3 := Option.some.inj p2
  rw [← FM.thrL_rows hT false, p3, FM.thrL_rows hU false]
/-! ### the calls for a text of a thread -/
theorem word_len {T : FM.T3} (hT : FM.Th T) (hl : T.length ≤ 1000) : ∀ w ∈ T.map wordO, w.length ≤ 4 := fun y hy => by
  obtain ⟨o, ho, rfl⟩ := List.mem_map.mp hy
  obtain ⟨k, hk, rfl⟩ := List.getElem_of_mem ho
  refine len_wordO fun j hj => ?_
  have := th_lt hT (by rw [List.getElem?_eq_getElem hk, hj])
  omega
theorem join_len (s : Str) : ∀ ws : List Str, (Txt.join s ws).length ≤ (ws.map (·.length)).sum + ws.length * s.length
  | [] => by
    have e : ("" : Str).length = 0 := by decide +kernel
    rw [join_nil, e]
    exact Nat.zero_le _
  | [w] => by
    rw [TL.join_eq, TL.len_tl, TL.tl_join]
    show (tl w).length ≤ _
    rw [← TL.len_tl]
    simp
  | w :: z :: r => by
    have ih := join_len s (z :: r)
    rw [TL.join_eq, TL.len_tl, TL.tl_join] at ih ⊢
    show (tl w ++ (tl s ++ TL.joinL (tl s) ((z :: r).map tl))).length ≤ _
    have e1 : ((w :: z :: r).map (·.length)).sum = w.length + ((z :: r).map (·.length)).sum := by
      rw [List.map_cons, List.sum_cons]
    have e2 : (w :: z :: r).length * s.length = (z :: r).length * s.length + s.length := Nat.succ_mul _ _
    rw [e1, e2, List.length_append, List.length_append, ← TL.len_tl, ← TL.len_tl]
    omega
theorem page_len {T : FM.T3} (hT : FM.Th T) (hl : T.length ≤ 40) : (pageT T).length ≤ 200 := by
  have h := join_len " " (T.map wordO)
  have hs := sum_len (word_len hT (by omega))
  rw [List.length_map] at hs h
  have h1 : (" " : Str).length = 1 := by decide +kernel
  rw [h1] at h
  unfold pageT
  omega
theorem rows_len {T : FM.T3} (hT : FM.Th T) (hl : T.length ≤ 40) (nw : Bool) : ∀ w ∈ rowsL T [] (FM.oB T nw), w.length ≤ 2010 := fun y hy => by
  unfold rowsL at hy
  obtain ⟨c, hc, rfl⟩ := List.mem_map.mp hy
  have hcl : c < T.length := FM.memB.mp hc
  have hdl := depO_le hT c hcl
  exact len_row (by omega) (by omega) (by show ("" : Str).length ≤ 6; decide +kernel)
theorem tree_len {T : FM.T3} (hT : FM.Th T) (hl : T.length ≤ 40) (nw : Bool) : (Txt.join "\n" (rowsL T [] (FM.oB T nw))).length ≤ 90000 := by
  have h := join_len "\n" (rowsL T [] (FM.oB T nw))
  have hs := sum_len (rows_len hT hl nw)
  have hr : (rowsL T [] (FM.oB T nw)).length = T.length := by unfold rowsL; rw [List.length_map, FM.lenB]
  rw [hr] at hs h
  have h1 : ("\n" : Str).length = 1 := by decide +kernel
  rw [h1] at h
  omega
theorem pth_in {K : PySem.W.Frag} {H : Hp} {Q : VK} {E : XK} {T : FM.T3} (X : TxE K) (hT : FM.Th T) (hl : T.length ≤ 40) (q : NewT H T Q) : sp_parse_thread K [.str (pageT T)] H Q E := by
  refine ⟨_, rfl, X, .inl ⟨_, rfl, by have := page_len hT hl; omega, fun w hw => ?_, fun k hk => ?_, fun _ => ?_⟩⟩
  · rw [page_parts] at hw
    have := word_len hT (by omega) w hw
    unfold numB
    omega
  · have := page_bad hT hl k hk.1
    have h2 := hk.2.1
    dsimp only at h2
    rw [this] at h2
    cases h2
  · rw [page_back]
    exact q
/-- the rows of either order: a tree, or not -/
theorem ptr_rows {K : PySem.W.Frag} {H : Hp} {Q : VK} {E : XK} {T : FM.T3} (nw : Bool) (X : TxE K) (hT : FM.Th T) (hl : T.length ≤ 40) (q1 : FM.oB T nw = FM.ordL T → NewT H T Q) (q2 : FM.oB T nw ≠ FM.ordL T → RaiT K (.int (T.length : Int)) H E) : sp_parse_tree K [.str (Txt.join "\n" (rowsL T [] (FM.oB T nw)))] H Q E := by
  have hr : (rowsL T [] (FM.oB T nw)).length = T.length := by unfold rowsL; rw [List.length_map, FM.lenB]
  refine ⟨_, rfl, X, .inl ⟨_, rfl, by have := tree_len hT hl nw; omega, fun w hw => ?_, fun k hk h1 h2 => ?_, fun ls hls => ?_⟩⟩
  · rw [tree_parts] at hw
    have h1 := rows_len hT hl nw w hw
    obtain ⟨c, hc, rfl⟩ := List.mem_map.mp hw
    have hcl : c < T.length := FM.memB.mp hc
    refine ⟨by omega, ?_⟩
    rw [show moreS T [] c = "" from rfl, strip_row]
    have := len_nS (n := c) (by omega)
    unfold numB
    omega
  · rw [tree_parts] at hk h2
    rw [hr] at hk
    rw [prs_oB hT hl nw (k + 1) (by omega)] at h2
    cases h2
  · rw [tree_parts, prs_all hT hl nw] at hls
    cases hls
    rw [tree_parts, hr, FM.thrL_rows hT nw]
    exact ⟨fun z => q2 fun e => z ((FM.tree_rows hT nw).mpr e), fun z => q1 ((FM.tree_rows hT nw).mp z)⟩
theorem ptr_in {K : PySem.W.Frag} {H : Hp} {Q : VK} {E : XK} {T : FM.T3} (X : TxE K) (hT : FM.Th T) (hl : T.length ≤ 40) (q : NewT H T Q) : sp_parse_tree K [.str (treeT T)] H Q E :=
  ptr_rows false X hT hl (fun _ => q) fun z => absurd rfl z
/-! ### repr of a thread -/
theorem small_int {n : Nat} (h : n ≤ 1000) : ((n : Nat) : Int).natAbs.log2 < 1920 := log_nat h
theorem ov_show : ∀ {T : FM.T3}, (∀ j, some j ∈ T → j ≤ 1000) → PyData.showableAll (T.map dOv) = true ∧ PyData.leavesShortAll 1921 (T.map dOv) = true ∧ PyData.weightAll (T.map dOv) ≤ 162 * T.length ∧ PyData.depthAll (T.map dOv) = 0 ∧ PyData.hasDictAll (T.map dOv) = false
  | [], _ => ⟨rfl, rfl, by simp [PyData.weightAll], rfl, rfl⟩
  | o :: T, h => by
    obtain ⟨h1, h2, h3, h4, h5⟩ := ov_show (T := T) fun x hx => h x (List.mem_cons_of_mem _ hx)
    cases o with
    | none =>
      refine ⟨?_, ?_, ?_, ?_, ?_⟩
      · simp only [List.map_cons, dOv, PyData.showableAll, PyData.showable, h1, Bool.and_self]
      · have e : (PyData.shown .none).length ≤ 1921 := by decide +kernel
        simp only [List.map_cons, dOv, PyData.leavesShortAll, PyData.leavesShort, h2, Bool.and_true]
      · have e : PyData.weight .none ≤ 161 := by decide +kernel
        simp only [List.map_cons, dOv, PyData.weightAll, List.length_cons]
        omega
      · simp only [List.map_cons, dOv, PyData.depthAll, PyData.depth, h4]
        decide
      · simp only [List.map_cons, dOv, PyData.hasDictAll, PyData.hasDict, h5]
        decide
    | some n =>
      have hs := small_int (h n List.mem_cons_self)
      refine ⟨?_, ?_, ?_, ?_, ?_⟩
      · simp only [List.map_cons, dOv, PyData.showableAll, PyData.showable, h1, decide_eq_true hs, Bool.and_self]
      · have e : (PyData.shown (.int (n : Int))).length ≤ 1921 := by
          simp only [PyData.shown]
          exact int_text_len_1921 hs
        simp only [List.map_cons, dOv, PyData.leavesShortAll, PyData.leavesShort, h2, decide_eq_true e, Bool.and_self]
      · have e : PyData.weight (.int (n : Int)) ≤ 161 := by
          simp only [PyData.weight]
          split
          · omega
          · rename_i z
            have z2 : n ≠ 0 := fun z2 => by rw [z2] at z; exact z rfl
            have h6 : n < 2 ^ 160 := Nat.lt_of_le_of_lt (h n List.mem_cons_self) (by decide)
            have := (Nat.log2_lt z2).mpr h6
            rw [Int.natAbs_natCast]
            omega
        simp only [List.map_cons, dOv, PyData.weightAll, List.length_cons]
        omega
      · simp only [List.map_cons, dOv, PyData.depthAll, PyData.depth, h4]
        decide
      · simp only [List.map_cons, dOv, PyData.hasDictAll, PyData.hasDict, h5]
        decide
theorem z_reprT {K : PySem.W.Frag} {H : Hp} {Q : VK} {p : Addr} {T : FM.T3} (h : SqL K H p (T.map ov)) (hT : FM.Th T) (hl : T.length ≤ 50) (q : Q (.str (PyData.shown (.list (T.map dOv)))) H) : qRepr K [.ref p] H Q := by
  obtain ⟨h1, h2, h3, h4, h5⟩ := ov_show (T := T) fun j hj => by
    obtain ⟨k, hk, e⟩ := List.getElem_of_mem hj
    have := th_lt hT (by rw [List.getElem?_eq_getElem hk, e])
    omega
  refine ⟨.ref p, _, rfl, .lst h (dpA_ov T), by simpa [PyData.showable] using h1, by simpa [PyData.hasDict] using h5, by simp [PyData.depth, h4], ?_, q⟩
  have := PyData.shown_le 1921 (by decide) (.list (T.map dOv)) (by simpa [PyData.leavesShort] using h2)
  simp only [PyData.weight] at this
  rw [sz]
  omega
theorem th_dec {T : FM.T3} (h : ∀ i : Fin T.length, ∀ j, T[i] = some j → j < i.val) : FM.Th T := fun i j e => by
  obtain ⟨h1, h2⟩ := List.getElem?_eq_some_iff.mp e
  exact h ⟨i, h1⟩ j h2
end FT

namespace FT
open PySem PySem.Spec PyProof.Rows L2
open TL (tl)
/-! ### texts of any signs. Plain Lean -/
theorem tx_sub {x y : Str} (h : ∀ c ∈ tl y, c ∈ tl x) (hx : TxOk x) : TxOk y := fun c hc => hx c (h c hc)
theorem tl_cut (z : Str) (lo hi : Option Int) : ∀ c ∈ tl (cutS z lo hi), c ∈ tl z := fun c hc => by
  have h : c ∈ (z.cps.toList.drop (HT.sIx z.length 0 lo)).take (HT.sIx z.length z.length hi - HT.sIx z.length 0 lo) := hc
  exact List.mem_of_mem_drop (List.mem_of_mem_take h)
theorem tx_cut {z : Str} (h : TxOk z) (lo hi : Option Int) : TxOk (cutS z lo hi) := tx_sub (tl_cut z lo hi) h
theorem spl_mem {S : List Nat} : ∀ (L : List Nat) (k : Nat) (acc p : List Nat), p ∈ TL.spl S k acc L → p.length ≤ acc.length + L.length ∧ ∀ c ∈ p, c ∈ acc ∨ c ∈ L
  | [], k, acc, p, h => by
    rw [TL.spl_nil] at h
    rw [List.mem_singleton.mp h]
    exact ⟨Nat.le_add_right _ _, fun c hc => .inl hc⟩
  | c :: r, k + 1, acc, p, h => by
    obtain ⟨h1, h2⟩ := spl_mem r k acc p h
    refine ⟨by rw [List.length_cons]; omega, fun d hd => ?_⟩
    rcases h2 d hd with z | z
    · exact .inl z
    · exact .inr (List.mem_cons_of_mem _ z)
  | c :: r, 0, acc, p, h => by
    by_cases hp : TL.pre S (c :: r) = true
    · rw [TL.spl_hit hp] at h
      rcases List.mem_cons.mp h with e | h
      · rw [e]
        exact ⟨Nat.le_add_right _ _, fun d hd => .inl hd⟩
      · obtain ⟨h1, h2⟩ := spl_mem r _ [] p h
        refine ⟨by rw [List.length_cons]; rw [List.length_nil] at h1; omega, fun d hd => ?_⟩
        rcases h2 d hd with z | z
        · cases z
        · exact .inr (List.mem_cons_of_mem _ z)
    · rw [TL.spl_miss (by simpa using hp)] at h
      obtain ⟨h1, h2⟩ := spl_mem r 0 (acc ++ [c]) p h
      refine ⟨by rw [List.length_append, List.length_singleton] at h1; rw [List.length_cons]; omega, fun d hd => ?_⟩
      rcases h2 d hd with z | z
      · rcases List.mem_append.mp z with z | z
        · exact .inl z
        · rw [List.mem_singleton.mp z]; exact .inr List.mem_cons_self
      · exact .inr (List.mem_cons_of_mem _ z)
theorem split_mem {x y w : Str} (hy : tl y ≠ []) (hk : y.cps.all (· < 256) = true) (h : w ∈ Txt.split x y) : w.length ≤ x.length ∧ ∀ c ∈ tl w, c ∈ tl x := by
  have e := TL.split_spl x y hy (TL.kind_ok hk)
  have hm : tl w ∈ (Txt.split x y).map tl := List.mem_map.mpr ⟨w, h, rfl⟩
  rw [e] at hm
  obtain ⟨h1, h2⟩ := spl_mem _ _ _ _ hm
  refine ⟨by rw [TL.len_tl, TL.len_tl]; rw [List.length_nil] at h1; omega, fun c hc => ?_⟩
  rcases h2 c hc with z | z
  · cases z
  · exact z
theorem split_ne (x y : Str) (hy : tl y ≠ []) (hk : y.cps.all (· < 256) = true) : 0 < (Txt.split x y).length ∧ (Txt.split x y).length ≤ x.length + 1 := by
  refine ⟨?_, split_len x y hy (TL.kind_ok hk)⟩
  have e := congrArg List.length (TL.split_spl x y hy (TL.kind_ok hk))
  rw [List.length_map] at e
  rw [e]
  have key : ∀ (L : List Nat) (k : Nat) (acc : List Nat), 0 < (TL.spl (tl y) k acc L).length := by
    intro L
    induction L with
    | nil => intro k acc; rw [TL.spl_nil]; exact Nat.one_pos
    | cons c r ih =>
      intro k acc
      cases k with
      | succ k => exact ih k acc
      | zero =>
        by_cases h : TL.pre (tl y) (c :: r) = true
        · rw [TL.spl_hit h]; exact Nat.succ_pos _
        · rw [TL.spl_miss (by simpa using h)]; exact ih 0 _
  exact key _ _ _
theorem joinL_mem {S : List Nat} : ∀ (ps : List (List Nat)) (c : Nat), c ∈ TL.joinL S ps → c ∈ S ∨ ∃ p ∈ ps, c ∈ p
  | [], c, h => by cases h
  | [p], c, h => .inr ⟨p, List.mem_cons_self, h⟩
  | p :: q :: r, c, h => by
    have h2 : c ∈ p ++ (S ++ TL.joinL S (q :: r)) := h
    rcases List.mem_append.mp h2 with z | z
    · exact .inr ⟨p, List.mem_cons_self, z⟩
    · rcases List.mem_append.mp z with z | z
      · exact .inl z
      · rcases joinL_mem (q :: r) c z with z | ⟨p2, h3, h4⟩
        · exact .inl z
        · exact .inr ⟨p2, List.mem_cons_of_mem _ h3, h4⟩
theorem tx_join {s : Str} {ws : List Str} (hs : TxOk s) (h : ∀ w ∈ ws, TxOk w) : TxOk (Txt.join s ws) := fun c hc => by
  have hc2 : c ∈ tl (Txt.join s ws) := hc
  rw [TL.join_eq, TL.tl_join] at hc2
  rcases joinL_mem _ c hc2 with z | ⟨p, hp, z⟩
  · exact hs c z
  · obtain ⟨w, hw, rfl⟩ := List.mem_map.mp hp
    exact h w hw c z
theorem parts_ok {x s : Str} (hs : tl s ≠ []) (hk : s.cps.all (· < 256) = true) : ∀ w ∈ partsOf x s, w.length ≤ x.length ∧ ∀ c ∈ tl w, c ∈ tl x := fun w hw => by
  unfold partsOf at hw
  split at hw
  · cases hw
  · exact split_mem hs hk hw
theorem fst_or (p : Nat → Bool) : ∀ n, (∀ i, i < n → p i = false) ∨ ∃ k, Fst p n k
  | 0 => .inl fun i h => by omega
  | n + 1 => by
    rcases fst_or p n with h | ⟨k, h1, h2, h3⟩
    · cases hp : p n with
      | true => exact .inr ⟨n, by omega, hp, h⟩
      | false =>
        refine .inl fun i hi => ?_
        rcases Nat.lt_or_ge i n with z | z
        · exact h i z
        · have : i = n := by omega
          rw [this]
          exact hp
    · exact .inr ⟨k, by omega, h2, h3⟩
theorem tx_lit (s : String) : TxOk (Str.ofString s) := tx_of s
/-! ### the law k55: promises -/
def sp__law_page (K : PySem.W.Frag) : Sp := fun vs H Q _ => ∃ (a : Addr) (T : FM.T3), vs = [.ref a] ∧ SqL K H a (T.map ov) ∧ FM.Th T ∧ T.length ≤ 40 ∧ ∀ H', Ex H H' → Q (.str (pageT T)) H'
def sp__law_number (K : PySem.W.Frag) : Sp := fun vs H Q _ => ∃ w : Str, vs = [.str w] ∧ w.length ≤ numB ∧ TxOk w ∧ DigF K ∧ ∀ H', Ex H H' → Q (ov (numS w)) H'
abbrev badP (x : Str) : Nat → Bool := fun i => badW i ((partsOf x " ").getD i "")
def sp__law_read (K : PySem.W.Frag) : Sp := fun vs H Q _ => ∃ x, vs = [.str x] ∧ x.length ≤ 2000 ∧ TxOk x ∧ DigF K ∧ (∀ k, Fst (badP x) (partsOf x " ").length k → ∀ H', Ex H H' → Q (.int (k : Int)) H') ∧
  ((∀ i, i < (partsOf x " ").length → badP x i = false) → NewT H ((partsOf x " ").map numS) Q)
def sp5__law_told (K : PySem.W.Frag) : Sp := fun vs H Q _ => ∃ (v : V) (w : Int), vs = [v, .int w] ∧ TxE K ∧ ExM K "InvalidText" "InvalidText" ∧
  ((∃ x, v = .str x ∧ x.length ≤ 2000 ∧ (∀ k, Fst (badP x) (partsOf x " ").length k → ∀ t H', Ex H H' → H t = none → H' t = some (.tup [.int (k : Int)]) → Q (.ref t) H') ∧ ((∀ i, i < (partsOf x " ").length → badP x i = false) → NewT H ((partsOf x " ").map numS) Q)) ∨
    ∃ T0, Kd K H v T0 ∧ kitB T0 "str" = some false ∧ ∀ t H', Ex H H' → H t = none → H' t = some (.tup [.non]) → Q (.ref t) H')
def sp__law_right (K : PySem.W.Frag) : Sp := fun vs H Q _ => ∃ v, vs = [v] ∧ TxE K ∧ ExM K "InvalidText" "InvalidText" ∧ ((∃ x, v = .str x ∧ x.length ≤ 2000 ∧ TxOk x) ∨ ∃ T0, (∀ H', Ex H H' → Kd K H' v T0) ∧ kitB T0 "str" = some false) ∧ ∀ H', Ex H H' → Q (.bl true) H'
def sp__law_spoiled (K : PySem.W.Frag) : Sp := fun vs H Q _ => ∃ (d : Addr) (n : Nat) (x : Str) (B : Hp) (sd : Seg), vs = [.ref d, .str x] ∧ Deck sd d n ∧ Z H B [sd] ∧ n < 2 ^ 59 ∧ x.length ≤ 1900 ∧ TxOk x ∧
  ∀ (y : Str) n' sd' H', y.length ≤ 1900 → TxOk y → n' ≤ n + 10 → Deck sd' d n' → Z H' B [sd'] → Q (.str y) H'
end FT
namespace FT
open PySem PySem.Spec PyProof.Rows L2

/-- slots: _law_some, _law_parent_here -/
def t__law_page (K : PySem.W.Frag) (E : XK) : TS :=
  (tRet (tBM K "str" (qJoin K) (tC (.str " ")) (tCons (tLc (iSeq K (tVar 0)) (gName 1) tYes (tIf (tTest (tOp qIs (tVar 1) (tC .non))) (tC (.str "-")) (tCB qStr (tCons (tVar 1) tNil))) [1]) tNil)))
/-- slots: _law_word, _law_odd, _law_sign -/
def t__law_number (K : PySem.W.Frag) (E : XK) : TS :=
  (tSeq (tAsg (tLc (iStr (tVar 0)) (gName 2) (tTest (tOp qNotInG (tVar 2) (tC (.str "0123456789")))) (tVar 2) [2]) (gName 1))
  (tSeq (tIfS (tOr (tTest (tOp (qNe K) (tVar 1) (tLst tNil))) (tOr (tTest (tOp (qEq K) (tVar 0) (tC (.str "")))) (tAnd (tTest (tOp (qEq K) (tOp (qIx K) (tVar 0) (tC (.int 0))) (tC (.str "0")))) (tTest (tOp (qNe K) (tVar 0) (tC (.str "0"))))))) (tRet (tC .non)) tNext)
  (tRet (tCB (qIntL K) (tCons (tVar 0) tNil)))))
/-- slots: _law_page_here, _law_found, _law_spot, _law_word, _law_number_here -/
def t__law_read (K : PySem.W.Frag) (E : XK) : TS :=
  (tSeq (tAsg (tLst tNil) (gName 1))
  (tSeq (tFor (iEnum K (tCons (tIf (tTest (tOp (qNe K) (tVar 0) (tC (.str "")))) (tBM K "str" qSplit (tVar 0) (tCons (tC (.str " ")) tNil)) (tLst tNil)) tNil)) (gTup K 2 (gCons (gName 2) (gCons (gName 3) gNil))) (tSeq (tAsg (tCall (sp__law_number K) [] E0 (tCons (tVar 3) tNil)) (gName 4))
  (tSeq (tIfS (tOr (tTest (tOp qGt (tVar 2) (tC (.int 39)))) (tAnd (tTest (tOp (qNe K) (tVar 3) (tC (.str "-")))) (tOr (tTest (tOp qIs (tVar 4) (tC .non))) (tTest (tOp qGe (tVar 4) (tVar 2)))))) (tRet (tVar 2)) tNext)
  (tDrop (tBM K "list" rAppend (tVar 1) (tCons (tVar 4) tNil))))))
  (tRet (tVar 1))))
/-- slots: _law_thing, _law_way, e -/
def t5__law_told (K : PySem.W.Frag) (E : XK) : TS :=
  (fun D σ H => (fun (W : WX) => (tRet (tIf (tTest (tOp (qEq K) (tVar 1) (tC (.int 0)))) (tCallS (sp_parse_thread K) (WE W) (tCons (tVar 0) tNil)) (tCallK (sp_parse_thread K) 1 (WE W) (tCons (tVar 0) tNil))))) (wAll K (wF E) D [⟨(.ref (He.ga K "InvalidText")), some 2, fun a cls d => (tRet (tTup (tCons (tXf a cls d (He.ga K "InvalidText") "index" (tVar 2)) tNil)))⟩, ⟨(.ref (He.ga K "ThreadError")), none, fun a cls d => (tRet (tTup (tCons (tC (.str "odd")) tNil)))⟩]) D σ H)
end FT
namespace FT
open PySem PySem.Spec PyProof.Rows L2
open TL (tl)
theorem pure__law_page {K : PySem.W.Frag} {E : XK} {H : Hp} {Q : VK} {vs : List V} (h : sp__law_page K vs H Q E) : t__law_page K E (DD Q) (L2.start ["_law_some", "_law_parent_here"] vs) H := by
  obtain ⟨a, T, rfl, ha, hT, hl, q⟩ := h
  show t__law_page K E (DD Q) [some (.ref a), none] H
  have S := Z.start H
  unfold t__law_page
  walk_at "z"
  refine ⟨rfl, ?_⟩
  walk_at "z"
  refine z_lcL S (T.map ov) (fun k => (T.take k).map fun o => V.str (wordO o)) rfl (fun H' S' => S'.l ha) (fun k x D H1 hx S1 => ?_) (fun D H1 S1 => ?_)
  · have hk : k < T.length := by
      have := (List.getElem?_eq_some_iff.mp hx).1
      rwa [List.length_map] at this
    have ht : T[k]? = some T[k] := List.getElem?_eq_getElem hk
    rw [List.getElem?_map, ht] at hx
    cases hx
    generalize T[k] = o at ht ⊢
    have fin : mApp D (Gro H [] D ((T.take (k + 1)).map fun o => V.str (wordO o))) (.str (wordO o)) H1 := by
      refine z_app (N := []) S1 (by rw [List.length_map, List.length_take, sz]; omega) ?_
      rw [take_next ht, List.map_append]
      rfl
    walk_at "z"
    cases o with
    | none =>
      refine z_ite (fun _ => ?_) (fun z => absurd rfl z)
      walk_at "z"
      exact fin
    | some n =>
      refine z_ite (fun z => nomatch z) (fun _ => ?_)
      have eo : ov (some n) = .int (n : Int) := rfl
      rw [eo]
      walk_at "z"
      have := th_lt hT ht
      exact x_str (log_nat (by omega)) fin
  · rw [List.length_map, List.take_length] at S1
    walk_at "z"
    have hs := sum_len (word_len hT (by omega))
    rw [List.length_map] at hs
    have h1 : (" " : Str).length = 1 := by decide +kernel
    refine x_join (ys := T.map wordO) (by rw [List.map_map]; exact sq_l S1.hd) (by rw [List.length_map, h1]; omega) ?_
    exact q H1 S1.base
theorem eqv_nil (l : List Str) : PyData.eqv (.list (l.map PyData.str)) (.list []) = decide (l = []) := by
  cases l with
  | nil => decide +kernel
  | cons x l => simp [PyData.eqv, PyData.eqvAll]
theorem ne_nilS {K : PySem.W.Frag} {H : Hp} {Q : VK} {a b : Addr} {l : List Str} (h : ∀ x ∈ l, TxOk x) (h1 : SqL K H a (l.map V.str)) (h2 : SqL K H b []) (q : Q (.bl (!decide (l = []))) H) : qNe K (.ref a) (.ref b) H Q := by
  refine x_neD (d := .list (l.map PyData.str)) (e := .list []) (.lst h1 (dpA_str l)) (.lst h2 .nil) (shp_str h).1 rfl ?_
  rw [eqv_nil]
  exact q
theorem filter_all {l : List Nat} : (l.filter fun c => !isDg c) = [] ↔ l.all isDg = true := by
  rw [List.filter_eq_nil_iff, List.all_eq_true]
  constructor
  · intro h c hc
    have := h c hc
    simpa using this
  · intro h c hc
    rw [h c hc]
    decide
theorem pure__law_number {K : PySem.W.Frag} {E : XK} {H : Hp} {Q : VK} {vs : List V} (h : sp__law_number K vs H Q E) : t__law_number K E (DD Q) (L2.start ["_law_word", "_law_odd", "_law_sign"] vs) H := by
  obtain ⟨w, rfl, hl, htx, hdg, q⟩ := h
  show t__law_number K E (DD Q) [some (.str w), none, none] H
  have S := Z.start H
  have hl2 : w.length ≤ 4300 := hl
  unfold t__law_number
  walk_at "z"
  refine z_lcS S w (fun k => (((tl w).take k).filter fun c => !isDg c).map fun c => V.str ⟨#[c]⟩) rfl (fun k c D H1 hc S1 => ?_) (fun D H1 S1 => ?_)
  · walk_at "z"
    have e : (((tl w).take (k + 1)).filter fun c => !isDg c) = if (!isDg c) = true then (((tl w).take k).filter fun c => !isDg c) ++ [c] else ((tl w).take k).filter fun c => !isDg c := by
      rw [take_next hc]
      exact filter_snoc _ _ _
    rw [e]
    have ed : (!decide (c ∈ tl ("0123456789" : Str))) = !isDg c := rfl
    rw [ed]
    refine z_iteNB (fun z => ?_) (fun z => ?_)
    · rw [z]
      walk_at "z"
      have hle : (((tl w).take k).filter fun c => !isDg c).length ≤ 4300 := by
        refine Nat.le_trans (List.length_filter_le _ _) ?_
        rw [List.length_take, ← TL.len_tl]
        omega
      exact z_app (N := []) S1 (by rw [List.length_map, sz]; omega) (by simp)
    · rw [z]
      exact S1
  · rw [TL.len_tl, List.take_length] at S1
    have hmap : (((tl w).filter fun c => !isDg c).map fun c => V.str ⟨#[c]⟩) = ((((tl w).filter fun c => !isDg c).map fun c => (⟨#[c]⟩ : Str))).map V.str := by rw [List.map_map] <;> rfl
    have hok : ∀ x ∈ ((tl w).filter fun c => !isDg c).map (fun c => (⟨#[c]⟩ : Str)), TxOk x := fun x hx => by
      obtain ⟨c, hc, rfl⟩ := List.mem_map.mp hx
      intro d hd
      have : d = c := by simpa using hd
      rw [this]
      exact htx c (List.mem_filter.mp hc).1
    have ded : decide ((((tl w).filter fun c => !isDg c).map fun c => (⟨#[c]⟩ : Str)) = []) = (tl w).all isDg := by
      rw [Bool.eq_iff_iff, decide_eq_true_iff, List.map_eq_nil_iff]
      exact filter_all
    walk_at "zi"
    refine x_ifs ?_
    refine split_t (fun c H' => c = (numS w).isNone ∧ Z H' H []) (fun Q' kk => ?_) ?_
    · walk_at "z"
      intro e0 H2 S2
      refine ne_nilS hok (by rw [← hmap]; exact sq_l (S2.at_ 1 0 rfl rfl)) (sq_l (S2.at_ 0 0 rfl rfl)) ?_
      rw [ded]
      have S3 := S2.tail.tail
      refine z_bl (z_iteNB (fun za => ?_) (fun za => ?_))
      · exact kk _ _ ⟨by rw [numS_bad za] <;> rfl, S3⟩
      walk_at "z"
      refine z_ite (fun z => ?_) (fun z => ?_)
      · exact kk _ _ ⟨by rw [numS_nil (by rw [z]; decide +kernel)] <;> rfl, S3⟩
      have hne : tl w ≠ [] := fun e => z (tl_nil.mp e)
      obtain ⟨c, r, hc⟩ : ∃ c r, tl w = c :: r := by
        cases hq : tl w with
        | nil => exact absurd hq hne
        | cons c r => exact ⟨c, r, rfl⟩
      have hh : (tl w).head? = some c := by rw [hc] <;> rfl
      have fin : ¬ (c = 48 ∧ w ≠ "0") → false = (numS w).isNone := fun hn => by
        rw [numS_ok hne za (fun z => hn ⟨by rw [hh] at z; exact Option.some.inj z.1, z.2⟩)] <;> rfl
      walk_at "z"
      refine x_ixS (by rw [sz]; omega) (at0 (by rw [hc] <;> rfl)) ?_
      walk_at "z"
      refine z_ite (fun z1 => ?_) (fun z1 => ?_)
      · walk_at "z"
        refine kk _ _ ⟨?_, S3⟩
        by_cases z2 : w = "0"
        · rw [decide_eq_true z2]
          exact fin fun z => z.2 z2
        · rw [decide_eq_false z2, numS_zero (by rw [hh, (one_zero c).mp z1]) z2] <;> rfl
      · exact kk _ _ ⟨fin fun z => z1 ((one_zero c).mpr z.1), S3⟩
    rintro c H2 ⟨rfl, S2⟩
    cases hn : numS w with
    | none =>
      refine z_iftrue ?_
      walk_at "z"
      have q2 := q H2 S2.base
      rw [hn] at q2
      exact q2
    | some n =>
      refine z_iffalse ?_
      walk_at "z"
      have h0 : tl w ≠ [] := fun e => by rw [numS_nil e] at hn; cases hn
      have h1 : (tl w).all isDg = true := by
        cases ha : (tl w).all isDg with
        | true => rfl
        | false => rw [numS_bad ha] at hn; cases hn
      have h2 : n = PySem.NumText.digitsVal (tl w) := by
        unfold numS at hn
        rw [if_neg h0, if_neg (by rw [h1]; decide)] at hn
        split at hn
        · cases hn
        · exact (Option.some.inj hn).symm
      have q2 := q H2 S2.base
      rw [hn, h2] at q2
      exact ⟨w, _, rfl, int_dg h1 h0 (by omega), hl2, hdg, q2⟩
theorem pure__law_read {K : PySem.W.Frag} {E : XK} {H : Hp} {Q : VK} {vs : List V} (h : sp__law_read K vs H Q E) : t__law_read K E (DD Q) (L2.start ["_law_page_here", "_law_found", "_law_spot", "_law_word", "_law_number_here"] vs) H := by
  obtain ⟨x, rfl, hx, htx, hdg, hr, hq⟩ := h
  show t__law_read K E (DD Q) [some (.str x), none, none, none, none] H
  have S := Z.start H
  have hw := parts_ok (x := x) (s := " ") (by decide +kernel) (by decide +kernel)
  unfold t__law_read
  walk_at "zi"
  intro f H1 S1
  walk_at "zi"
  refine x_for ?_
  walk_at "zi"
  refine split_e (fun y H' => ∃ l B', y = .ref l ∧ B' l = some (.lst ((partsOf x " ").map V.str)) ∧ Ex H B' ∧ Z H' B' [[(f, .lst [])]]) (fun Q' kk => ?_) ?_
  · refine x_if ?_
    walk_at "z"
    refine z_iteN (fun z => ?_) (fun z => ?_)
    · walk_at "z"
      refine ⟨rfl, ?_⟩
      walk_at "z"
      refine z_split S1 (by decide +kernel) (by rw [sz]; omega) fun l H2 S2 => ?_
      obtain ⟨B', e, k, S3⟩ := S2.frz 0 rfl
      refine kk _ _ ⟨l, B', rfl, ?_, e, S3⟩
      unfold partsOf
      rw [if_neg z]
      exact k
    · walk_at "z"
      intro l H2 S2
      obtain ⟨B', e, k, S3⟩ := S2.frz 0 rfl
      refine kk _ _ ⟨l, B', rfl, ?_, e, S3⟩
      unfold partsOf
      rw [if_pos z]
      exact k
  rintro y H2 ⟨l, B', rfl, hl, ex, S2⟩
  clear S1
  unfold badP at hr hq
  generalize hP : partsOf x " " = P at *
  have hlq : SqL K H2 l (P.map V.str) := sq_l (S2.base _ _ hl)
  walk_at "z"
  refine z_for_enum (P.map V.str) (fun k σ H' => ∃ o2 o3 o4, σ = [some (.str x), some (.ref f), o2, o3, o4] ∧ (∀ i, i < k → badW i (P.getD i "") = false) ∧ k ≤ 40 ∧ Z H' B' [[(f, .lst (((P.take k).map numS).map ov))]]) ⟨_, _, _, rfl, fun i h => by omega, by omega, S2⟩ (fun i σ H' _ ⟨_, _, _, _, _, _, S'⟩ => sq_l (S'.base _ _ hl)) ?_ ?_
  · rintro k y T0 σ H3 H4 hy ⟨o2, o3, o4, rfl, hbad, hk40, S3⟩ ex4 hT0 hT1
    have hk : k < P.length := by
      have := (List.getElem?_eq_some_iff.mp hy).1
      rwa [List.length_map] at this
    have hg : P[k]? = some (P.getD k "") := by rw [List.getD_eq_getElem?_getD, List.getElem?_eq_getElem hk] <;> rfl
    have hwl := hw _ (List.mem_of_getElem? hg)
    generalize hwk : P.getD k "" = w at hg hwl
    rw [List.getElem?_map, hg] at hy
    cases hy
    have S4 := S3.ext ex4
    walk_at "zi"
    refine ⟨w, rfl, by unfold numB; omega, tx_sub hwl.2 htx, hdg, fun H5 ex5 => ?_⟩
    have S5 := S4.ext ex5
    walk_at "zi"
    refine x_ifs ?_
    refine split_t (fun c H' => c = badW k w ∧ H' = H5) (fun Q' kk => ?_) ?_
    · walk_at "z"
      refine z_ite (fun z => ?_) (fun z => ?_)
      · exact kk _ _ ⟨by unfold badW; rw [decide_eq_true (by omega)] <;> rfl, rfl⟩
      have e40 : decide (k = 40) = false := decide_eq_false (by omega)
      walk_at "z"
      refine z_iteN (fun z1 => ?_) (fun z1 => ?_)
      · have e1 : decide (w ≠ "-") = true := decide_eq_true z1
        walk_at "z"
        cases hn : numS w with
        | none =>
          refine z_ite (fun _ => ?_) (fun z2 => absurd rfl z2)
          exact kk _ _ ⟨by unfold badW; rw [e40, e1, hn] <;> rfl, rfl⟩
        | some n =>
          refine z_ite (fun z2 => nomatch z2) (fun _ => ?_)
          have eo : ov (some n) = .int (n : Int) := rfl
          rw [eo]
          walk_at "z"
          refine kk _ _ ⟨?_, rfl⟩
          unfold badW
          rw [e40, e1, hn]
          show decide ((k : Int) ≤ (n : Int)) = decide (k ≤ n)
          exact decide_eq_decide.mpr (by omega)
      · exact kk _ _ ⟨by unfold badW; rw [e40, decide_eq_false (fun z2 => z2 z1)] <;> rfl, rfl⟩
    rintro c H6 ⟨rfl, rfl⟩
    refine z_iteB (fun zb => ?_) (fun zb => ?_)
    · walk_at "z"
      exact hr k ⟨hk, by show badW k (P.getD k "") = true; rw [hwk]; exact zb, hbad⟩ _ (ex.trans S5.base)
    · walk_at "z"
      have hk2 : k < 40 := by
        rcases Nat.lt_or_ge k 40 with h | h
        · exact h
        · have : k = 40 := by omega
          unfold badW at zb
          rw [decide_eq_true this] at zb
          cases zb
      refine z_append (n := 0) S5 rfl (by rw [List.length_map, List.length_map, List.length_take, sz]; omega) fun H7 S6 => ?_
      refine ⟨_, _, _, rfl, fun i hi => ?_, by omega, ?_⟩
      · rcases Nat.lt_or_ge i k with h | h
        · exact hbad i h
        · have : i = k := by omega
          subst this
          rw [hwk]
          exact zb
      · rw [take_next hg, List.map_append, List.map_append]
        exact S6
  · rintro σ H3 ⟨o2, o3, o4, rfl, hbad, hk40, S3⟩
    rw [List.length_map] at hbad
    rw [List.length_map, List.take_length] at S3
    walk_at "z"
    exact hq hbad f H3 (ex.trans S3.base) (ex_no ex (S3.no 0 0 rfl rfl)) S3.hd
theorem pure5__law_told {K : PySem.W.Frag} {E : XK} {H : Hp} {Q : VK} {vs : List V} (h : sp5__law_told K vs H Q E) : t5__law_told K E (DD Q) (L2.start ["_law_thing", "_law_way", "e"] vs) H := by
  obtain ⟨v, w, rfl, X, em, h⟩ := h
  show t5__law_told K E (DD Q) [some v, some (.int w), none] H
  have S := Z.start H
  unfold t5__law_told
  dsimp only
  -- the clause of InvalidText
  have out : ∀ {H1 : Hp} {d : Addr} {u : V}, Ex H H1 → H d = none → H1 d = some (.xd [(("index" : Str), u)]) → (∀ t H', Ex H H' → H t = none → H' t = some (.tup [u]) → Q (.ref t) H') →
      wAll K (wF E) (DD Q) [⟨(.ref (He.ga K "InvalidText")), some 2, fun a cls d => (tRet (tTup (tCons (tXf a cls d (He.ga K "InvalidText") "index" (tVar 2)) tNil)))⟩, ⟨(.ref (He.ga K "ThreadError")), none, fun a cls d => (tRet (tTup (tCons (tC (.str "odd")) tNil)))⟩] (.ref (He.ga K "InvalidText")) (some d) [some v, some (.int w), none] H1 := by
    intro H1 d u ex hd h1 q
    refine ⟨true, em, fun _ a ha => ?_, fun z => nomatch z⟩
    have S1 := (S.ext ex)
    unfold clRun
    dsimp only [List.set]
    refine x_ret (x_tup (x_cons ?_))
    refine ⟨_, rfl, rfl, rfl, d, _, u, rfl, h1, rfl, ?_⟩
    refine x_nil (z_tup S1 (by simp [sz]) fun t H2 S2 => ?_)
    exact q t H2 S2.base (S2.no 0 0 rfl rfl) S2.hd
  rcases h with ⟨x, rfl, hx, h1, h2⟩ | ⟨T0, hk, hb, q⟩
  · have call : ∀ {Q2 : VK} {E2 : XK}, (∀ k, Fst (badP x) (partsOf x " ").length k → RaiT K (.int (k : Int)) H E2) → ((∀ i, i < (partsOf x " ").length → badP x i = false) → NewT H ((partsOf x " ").map numS) Q2) → sp_parse_thread K [.str x] H Q2 E2 := by
      intro Q2 E2 a b
      refine ⟨_, rfl, X, .inl ⟨x, rfl, by omega, fun w hw => ?_, a, b⟩⟩
      have := (parts_ok (x := x) (s := " ") (by decide +kernel) (by decide +kernel) w hw).1
      unfold numB
      omega
    walk_at "z"
    refine z_ite (fun z => ?_) (fun z => ?_)
    · walk_at "z"
      exact call (fun k hk d H' ex hd h => out ex hd h (h1 k hk)) (fun z => h2 z)
    · walk_at "z"
      exact ⟨rfl, call (fun k hk d H' ex hd h => out ex hd h (h1 k hk)) (fun z => h2 z)⟩
  · walk_at "z"
    refine z_ite (fun z => ?_) (fun z => ?_)
    · walk_at "z"
      exact ⟨_, rfl, X, .inr ⟨T0, hk, hb, fun d H' ex hd h => out ex hd h q⟩⟩
    · walk_at "z"
      exact ⟨rfl, _, rfl, X, .inr ⟨T0, hk, hb, fun d H' ex hd h => out ex hd h q⟩⟩
end FT

namespace FT
open PySem PySem.Spec PyProof.Rows L2

/-- slots: _law_thing, _law_due, _law_found -/
def t__law_right (K : PySem.W.Frag) (E : XK) : TS :=
  (tSeq (tAsg (tTup (tCons (tC .non) tNil)) (gName 1))
  (tSeq (tIfS (tB (tCB (qIsi K) (tCons (tVar 0) (tCons (tC (.ty "str")) tNil)))) (tSeq (tAsg (tCall (sp__law_read K) [] E0 (tCons (tVar 0) tNil)) (gName 2))
  (tAsg (tIf (tB (tCB (qIsi K) (tCons (tVar 2) (tCons (tC (.ty "list")) tNil)))) (tVar 2) (tTup (tCons (tVar 2) tNil))) (gName 1))) tNext)
  (tRet (tCall (sp__law_same K) [] E0 (tCons (tLst (tCons (tCall (sp5__law_told K) [] E0 (tCons (tVar 0) (tCons (tC (.int 0)) tNil))) (tCons (tCall (sp5__law_told K) [] E0 (tCons (tVar 0) (tCons (tC (.int 1)) tNil))) tNil))) (tCons (tLst (tCons (tVar 1) (tCons (tVar 1) tNil))) tNil))))))
/-- slots: _law_deck_here, _law_page_here, _law_spot, _law_words, _law_at, _law_signs, _law_odd, _law_sign, _law_word, _law_some -/
def t__law_spoiled (K : PySem.W.Frag) (E : XK) : TS :=
  (tSeq (tPar 2 3 (tCons (tCall (sp__law_draw K) [] E0 (tCons (tVar 0) (tCons (tOp (qAdd K) (tCB (qLen K) (tCons (tVar 1) tNil)) (tC (.int 1))) tNil))) (tCons (tBM K "str" qSplit (tVar 1) (tCons (tC (.str " ")) tNil)) tNil)))
  (tSeq (tPar 4 5 (tCons (tCall (sp__law_draw K) [] E0 (tCons (tVar 0) (tCons (tCB (qLen K) (tCons (tVar 3) tNil)) tNil))) (tCons (tLst (tCons (tC (.str " ")) (tCons (tC (.str "-")) (tCons (tC (.str "0")) (tCons (tC (.str "1")) (tCons (tC (.str "9")) (tCons (tC (.str "a")) (tCons (tC (.str "\n")) (tCons (tC (.str "")) (tCons (tC (.str "+")) (tCons (tC (.str ".")) tNil))))))))))) tNil)))
  (tSeq (tAsg (tLst (tCons (tC (.str "")) (tCons (tC (.str "--")) (tCons (tC (.str "-1")) (tCons (tC (.str "00")) (tCons (tC (.str "01")) (tCons (tC (.str "-")) (tCons (tC (.str "0")) (tCons (tC (.str "39")) (tCons (tC (.str "40")) (tCons (tC (.str "1.0")) (tCons (tC (.str "None")) (tCons (tOp qMul (tC (.str "1")) (tC (.int 60))) (tCons (tC (.str "x")) tNil)))))))))))))) (gName 6))
  (tSeq (tPar 7 8 (tCons (tOp (qIx K) (tVar 5) (tCall (sp__law_draw K) [] E0 (tCons (tVar 0) (tCons (tCB (qLen K) (tCons (tVar 5) tNil)) tNil)))) (tCons (tOp (qIx K) (tVar 6) (tCall (sp__law_draw K) [] E0 (tCons (tVar 0) (tCons (tCB (qLen K) (tCons (tVar 6) tNil)) tNil)))) tNil)))
  (tSeq (tAsg (tLst (tCons (tOp (qAdd K) (tOp (qAdd K) (tSl (qSl K) (tVar 1) tNoPart (tPart (tVar 2))) (tVar 7)) (tSl (qSl K) (tVar 1) (tPart (tVar 2)) tNoPart)) (tCons (tOp (qAdd K) (tSl (qSl K) (tVar 1) tNoPart (tPart (tVar 2))) (tSl (qSl K) (tVar 1) (tPart (tOp (qAdd K) (tVar 2) (tC (.int 1)))) tNoPart)) (tCons (tOp (qAdd K) (tOp (qAdd K) (tSl (qSl K) (tVar 1) tNoPart (tPart (tVar 2))) (tVar 7)) (tSl (qSl K) (tVar 1) (tPart (tOp (qAdd K) (tVar 2) (tC (.int 1)))) tNoPart)) tNil)))) (gName 9))
  (tSeq (tAsg (tOp (qAdd K) (tVar 9) (tLst (tCons (tBM K "str" (qJoin K) (tC (.str " ")) (tCons (tOp (qAdd K) (tSl (qSl K) (tVar 3) tNoPart (tPart (tVar 4))) (tSl (qSl K) (tVar 3) (tPart (tOp (qAdd K) (tVar 4) (tC (.int 1)))) tNoPart)) tNil)) (tCons (tBM K "str" (qJoin K) (tC (.str " ")) (tCons (tOp (qAdd K) (tSl (qSl K) (tVar 3) tNoPart (tPart (tOp (qAdd K) (tVar 4) (tC (.int 1))))) (tSl (qSl K) (tVar 3) (tPart (tVar 4)) tNoPart)) tNil)) tNil)))) (gName 9))
  (tSeq (tAsg (tOp (qAdd K) (tVar 9) (tLst (tCons (tBM K "str" (qJoin K) (tC (.str " ")) (tCons (tOp (qAdd K) (tOp (qAdd K) (tSl (qSl K) (tVar 3) tNoPart (tPart (tVar 4))) (tLst (tCons (tVar 8) tNil))) (tSl (qSl K) (tVar 3) (tPart (tOp (qAdd K) (tVar 4) (tC (.int 1)))) tNoPart)) tNil)) (tCons (tBM K "str" (qJoin K) (tC (.str " ")) (tCons (tOp (qAdd K) (tSl (qSl K) (tVar 3) (tPart (tVar 4)) tNoPart) (tSl (qSl K) (tVar 3) tNoPart (tPart (tVar 4)))) tNil)) tNil)))) (gName 9))
  (tRet (tSl (qSl K) (tOp (qIx K) (tVar 9) (tCall (sp__law_draw K) [] E0 (tCons (tVar 0) (tCons (tCB (qLen K) (tCons (tVar 9) tNil)) tNil)))) tNoPart (tPart (tC (.int 1900))))))))))))
/-- slots: _law_script, _law_deck_here, _law_lap, _law_turn, _law_page_here, _law_change, _law_thing, _law_fixed -/
def t_law (K : PySem.W.Frag) (E : XK) : TS :=
  (tSeq (tAsg (tCall (sp__law_deck K) [] E0 (tCons (tVar 0) tNil)) (gName 1))
  (tSeq (tFor (iRng1 (tCons (tCB qMax (tCons (tC (.int 3)) (tCons (tCB qMin (tCons (tC (.int 8)) (tCons (tCB (qLen K) (tCons (tVar 0) tNil)) tNil))) tNil))) tNil)) (gName 2) (tSeq (tFor (iRng1 (tCons (tC (.int 6)) tNil)) (gName 3) (tSeq (tAsg (tCall (sp__law_page K) [] E0 (tCons (tCall (sp__law_thread K) [] E0 (tCons (tVar 1) (tCons (tOp (qIx K) (tLst (tCons (tC (.int 8)) (tCons (tC (.int 40)) tNil))) (tCall (sp__law_draw K) [] E0 (tCons (tVar 1) (tCons (tC (.int 2)) tNil)))) tNil))) tNil)) (gName 4))
  (tSeq (tFor (iRng1 (tCons (tCall (sp__law_draw K) [] E0 (tCons (tVar 1) (tCons (tC (.int 4)) tNil))) tNil)) (gName 5) (tAsg (tCall (sp__law_spoiled K) [] E0 (tCons (tVar 1) (tCons (tVar 4) tNil))) (gName 4)))
  (tIfS (tNot (tB (tCall (sp__law_right K) [] E0 (tCons (tVar 4) tNil)))) (tRet (tC (.bl false))) tNext))))
  (tFor (iSeq K (tLst (tCons (tC .non) (tCons (tC (.int 0)) (tCons (tC (.bl true)) (tCons (tTup tNil) (tCons (tLst tNil) (tCons (tLst (tCons (tC (.str "-")) tNil)) (tCons (tLst (tCons (tC .non) tNil)) (tCons tDNewK (tCons (tTup (tCons (tC (.str "- 0")) tNil)) (tCons (tOp qPow (tC (.int 10)) (tC (.int 40))) tNil)))))))))))) (gName 6) (tIfS (tNot (tB (tCall (sp__law_right K) [] E0 (tCons (tVar 6) tNil)))) (tRet (tC (.bl false))) tNext))))
  (tSeq (tAsg (tLst (tCons (tC (.str "")) (tCons (tC (.str " ")) (tCons (tC (.str "-")) (tCons (tC (.str "0")) (tCons (tC (.str "- 0")) (tCons (tC (.str "- 1")) (tCons (tC (.str "- 0 ")) (tCons (tC (.str " -")) (tCons (tC (.str "-  0")) (tCons (tC (.str "- 00")) (tCons (tC (.str "- -")) (tCons (tC (.str "- -0")) (tCons (tC (.str "- 0\n0")) (tCons (tC (.str "- 0 1 2 4")) tNil))))))))))))))) (gName 7))
  (tSeq (tAsg (tOp (qAdd K) (tVar 7) (tLst (tCons (tBM K "str" (qJoin K) (tC (.str " ")) (tCons (tOp qMul (tLst (tCons (tC (.str "-")) tNil)) (tC (.int 40))) tNil)) (tCons (tBM K "str" (qJoin K) (tC (.str " ")) (tCons (tOp qMul (tLst (tCons (tC (.str "-")) tNil)) (tC (.int 41))) tNil)) (tCons (tBM K "str" (qJoin K) (tC (.str " ")) (tCons (tOp (qAdd K) (tOp qMul (tLst (tCons (tC (.str "-")) tNil)) (tC (.int 40))) (tLst (tCons (tC (.str "x")) tNil))) tNil)) (tCons (tBM K "str" (qJoin K) (tC (.str " ")) (tCons (tOp qMul (tLst (tCons (tC (.str "0")) tNil)) (tC (.int 41))) tNil)) tNil)))))) (gName 7))
  (tSeq (tDrop (tBM K "list" rAppend (tVar 7) (tCons (tOp (qAdd K) (tOp qMul (tC (.str "- ")) (tC (.int 999))) (tC (.str "-"))) tNil)))
  (tRet (tOp (qEq K) (tLc (iSeq K (tVar 7)) (gName 4) (tNot (tB (tCall (sp__law_right K) [] E0 (tCons (tVar 4) tNil)))) (tVar 4) [4]) (tLst tNil))))))))
end FT
namespace FT
open PySem PySem.Spec PyProof.Rows L2
open TL (tl)
theorem dl_tup1 {K : PySem.W.Frag} {H : Hp} {n : Nat} {a b : Addr} {u : V} (h1 : SqT K H a [u]) (h2 : SqT K H b [u]) (h : Dl K H n u u) : Dl K H (n + 1) (.ref a) (.ref b) :=
  .tup n h1 h2 rfl fun i x y hx hy => by
    match i, hx, hy with
    | 0, hx, hy => cases hx; cases hy; exact h
    | i + 1, hx, hy => simp at hx
theorem dl_pair {K : PySem.W.Frag} {H : Hp} {n : Nat} {a b : Addr} {x1 x2 y1 y2 : V} (h1 : SqL K H a [x1, x2]) (h2 : SqL K H b [y1, y2]) (d1 : Dl K H n x1 y1) (d2 : Dl K H n x2 y2) : Dl K H (n + 1) (.ref a) (.ref b) :=
  .lst n h1 h2 rfl fun i x y hx hy => by
    match i, hx, hy with
    | 0, hx, hy => cases hx; cases hy; exact d1
    | 1, hx, hy => cases hx; cases hy; exact d2
    | i + 2, hx, hy => simp at hx
theorem pure__law_right {K : PySem.W.Frag} {E : XK} {H : Hp} {Q : VK} {vs : List V} (h : sp__law_right K vs H Q E) : t__law_right K E (DD Q) (L2.start ["_law_thing", "_law_due", "_law_found"] vs) H := by
  obtain ⟨v, rfl, X, em, h, q⟩ := h
  show t__law_right K E (DD Q) [some v, none, none] H
  have S := Z.start H
  unfold t__law_right
  walk_at "zi"
  intro t0 H1 S1
  obtain ⟨B1, e1, k1, S2⟩ := S1.frz 0 rfl
  have S2 : Z H1 B1 [] := S2
  walk_at "zi"
  rcases h with ⟨x, rfl, hx, htx⟩ | ⟨T0, hk, hb⟩
  · refine x_ifs ?_
    walk_at "z"
    refine z_isi (T0 := "str") (b := true) (.base (.str x)) (by decide +kernel) ?_
    refine z_bl (z_iftrue ?_)
    walk_at "zi"
    rcases fst_or (badP x) (partsOf x " ").length with hgood | ⟨k, hk⟩
    · have nofst : ∀ k, ¬ Fst (badP x) (partsOf x " ").length k := fun k ⟨a, b, c⟩ => by
        rw [hgood k a] at b
        cases b
      refine ⟨x, rfl, hx, htx, X.dig, fun k hk => absurd hk (nofst k), fun _ l H3 e3 n3 k3 => ?_⟩
      obtain ⟨B2, x2, hl2, S3⟩ := S2.keep e3 n3 k3
      walk_at "z"
      refine z_isi (b := true) (kd_list (sq_l (S3.base _ _ hl2))) (by decide +kernel) ?_
      refine z_bl (z_iftrue ?_)
      walk_at "z"
      refine ⟨_, 0, rfl, X, em, .inl ⟨x, rfl, hx, fun k hk => absurd hk (nofst k), fun _ l4 H4 e4 n4 k4 => ?_⟩⟩
      obtain ⟨B3, x3, hl3, S4⟩ := S3.keep e4 n4 k4
      walk_at "z"
      refine ⟨_, 1, rfl, X, em, .inl ⟨x, rfl, hx, fun k hk => absurd hk (nofst k), fun _ l5 H5 e5 n5 k5 => ?_⟩⟩
      obtain ⟨B4, x4, hl4, S5⟩ := S4.keep e5 n5 k5
      walk_at "z"
      intro m1 H6 S6
      walk_at "z"
      intro m2 H7 S7
      refine ⟨_, _, rfl, dl_pair (sq_l (S7.at_ 1 0 rfl rfl)) (sq_l (S7.at_ 0 0 rfl rfl)) (dl_same (sq_l (S7.base _ _ (x4 _ _ hl3))) (sq_l (S7.base _ _ (x4 _ _ (x3 _ _ hl2)))) dl_ov) (dl_same (sq_l (S7.base _ _ hl4)) (sq_l (S7.base _ _ (x4 _ _ (x3 _ _ hl2)))) dl_ov), fun H8 e8 => ?_⟩
      exact q H8 ((((e1.trans x2).trans x3).trans x4).trans (S7.ext e8).base)
    · have nogood : ¬ ∀ i, i < (partsOf x " ").length → badP x i = false := fun z => by
        have := z k hk.1
        rw [hk.2.1] at this
        cases this
      have uniq : ∀ j, Fst (badP x) (partsOf x " ").length j → j = k := fun j hj => by
        rcases Nat.lt_trichotomy j k with z | z | z
        · have := hk.2.2 j z
          rw [hj.2.1] at this
          cases this
        · exact z
        · have := hj.2.2 k z
          rw [hk.2.1] at this
          cases this
      refine ⟨x, rfl, hx, htx, X.dig, fun j hj H3 e3 => ?_, fun z => absurd z nogood⟩
      obtain rfl := uniq j hj
      have S3 := S2.ext e3
      walk_at "z"
      refine z_isi (T0 := "int") (b := false) (.base (.int (j : Int))) (by decide +kernel) ?_
      refine z_bl (z_iffalse ?_)
      walk_at "z"
      intro t1 H4 S4
      obtain ⟨B2, x2, hl2, S5⟩ := S4.frz 0 rfl
      have S5 : Z H4 B2 [] := S5
      walk_at "z"
      refine ⟨_, 0, rfl, X, em, .inl ⟨x, rfl, hx, fun i hi t H6 e6 n6 k6 => ?_, fun z => absurd z nogood⟩⟩
      obtain rfl := uniq i hi
      obtain ⟨B3, x3, hl3, S6⟩ := S5.keep e6 n6 k6
      walk_at "z"
      refine ⟨_, 1, rfl, X, em, .inl ⟨x, rfl, hx, fun i2 hi2 t5 H7 e7 n7 k7 => ?_, fun z => absurd z nogood⟩⟩
      obtain rfl := uniq i2 hi2
      obtain ⟨B4, x4, hl4, S7⟩ := S6.keep e7 n7 k7
      walk_at "z"
      intro m1 H8 S8
      walk_at "z"
      intro m2 H9 S9
      refine ⟨_, _, rfl, dl_pair (sq_l (S9.at_ 1 0 rfl rfl)) (sq_l (S9.at_ 0 0 rfl rfl)) (dl_tup1 (sq_t (S9.base _ _ (x4 _ _ hl3))) (sq_t (S9.base _ _ (x4 _ _ (x3 _ _ hl2)))) (.int _ _)) (dl_tup1 (sq_t (S9.base _ _ hl4)) (sq_t (S9.base _ _ (x4 _ _ (x3 _ _ hl2)))) (.int _ _)), fun H10 e10 => ?_⟩
      exact q H10 ((((e1.trans x2).trans x3).trans x4).trans (S9.ext e10).base)
  · refine x_ifs ?_
    walk_at "z"
    refine z_isi (hk H1 (e1.trans S2.base)) hb ?_
    refine z_bl (z_iffalse ?_)
    walk_at "z"
    refine ⟨_, 0, rfl, X, em, .inr ⟨T0, hk H1 (e1.trans S2.base), hb, fun t H3 e3 n3 k3 => ?_⟩⟩
    obtain ⟨B2, x2, hl2, S3⟩ := S2.keep e3 n3 k3
    walk_at "z"
    refine ⟨_, 1, rfl, X, em, .inr ⟨T0, hk H3 ((e1.trans x2).trans S3.base), hb, fun t2 H4 e4 n4 k4 => ?_⟩⟩
    obtain ⟨B3, x3, hl3, S4⟩ := S3.keep e4 n4 k4
    walk_at "z"
    intro m1 H5 S5
    walk_at "z"
    intro m2 H6 S6
    have k1' := x3 _ _ (x2 _ _ k1)
    refine ⟨_, _, rfl, dl_pair (sq_l (S6.at_ 1 0 rfl rfl)) (sq_l (S6.at_ 0 0 rfl rfl)) (dl_tup1 (sq_t (S6.base _ _ (x3 _ _ hl2))) (sq_t (S6.base _ _ k1')) (.non _)) (dl_tup1 (sq_t (S6.base _ _ hl3)) (sq_t (S6.base _ _ k1')) (.non _)), fun H7 e7 => ?_⟩
    exact q H7 (((e1.trans x2).trans x3).trans (S6.ext e7).base)
theorem z_slS {K : PySem.W.Frag} {H : Hp} {Q : VK} {z : Str} {lo hi : Option Int} (h : z.length ≤ sizeLine) (q : Q (.str (cutS z lo hi)) H) : qSl K (.str z) lo hi H Q := .inr (.inl ⟨z, rfl, h, q⟩)
theorem cut_le {z : Str} (k : Nat) : (cutS z none (some (k : Int))).length ≤ k := by
  show (((z.cps.toList.drop (HT.sIx z.length 0 none)).take (HT.sIx z.length z.length (some (k : Int)) - HT.sIx z.length 0 none)).toArray).size ≤ k
  rw [HT.sIx_nat, HT.sIx_none, List.size_toArray, List.length_take]
  omega
theorem cutV_str (l : List Str) (lo hi : Option Int) : ∃ m : List Str, cutV (l.map V.str) lo hi = m.map V.str ∧ ∀ w ∈ m, w ∈ l := by
  unfold cutV
  refine ⟨(l.drop (HT.sIx l.length 0 lo)).take (HT.sIx l.length l.length hi - HT.sIx l.length 0 lo), ?_, fun w hw => List.mem_of_mem_drop (List.mem_of_mem_take hw)⟩
  rw [List.length_map, List.map_take, List.map_drop]
theorem cutV_len {xs : List V} (lo hi : Option Int) : (cutV xs lo hi).length ≤ xs.length := by
  unfold cutV
  rw [List.length_take, List.length_drop]
  omega
/-- words: texts of known signs, not too long -/
def WsOk (l : List Str) : Prop := l.length ≤ 4000 ∧ ∀ w ∈ l, TxOk w ∧ w.length ≤ 2000
theorem ws_join {l : List Str} (h : WsOk l) : TxOk (Txt.join " " l) ∧ (Txt.join " " l).length ≤ 9000000 ∧ (l.map (·.length)).sum + l.length * (" " : Str).length ≤ 16777216 := by
  have h1 : (" " : Str).length = 1 := by decide +kernel
  have hs := sum_len (n := 2000) fun w hw => (h.2 w hw).2
  have hl := h.1
  have hj := join_len " " l
  have hm : l.length * 2000 ≤ 4000 * 2000 := Nat.mul_le_mul_right _ hl
  rw [h1] at hj ⊢
  exact ⟨tx_join (tx_lit " ") fun w hw => (h.2 w hw).1, by omega, by omega⟩
theorem Z.low {H B B' : Hp} {R : List Seg} (S : Z H B' R) (e : Ex B B') : Z H B R := ⟨e.trans S.base, S.here, fun r hr x hx => e.free (S.off r hr x hx), S.nd⟩
def sgL : List Str := [" ", "-", "0", "1", "9", "a", "\n", "", "+", "."]
def odL : List Str := ["", "--", "-1", "00", "01", "-", "0", "39", "40", "1.0", "None", Txt.mul "1" 60, "x"]
theorem sg_ok : ∀ w ∈ sgL, TxOk w ∧ w.length ≤ 1 := fun w hw => by
  have h : ∀ w ∈ sgL, ((tl w).all fun c => decide (c < 0x110000)) = true ∧ w.length ≤ 1 := by decide +kernel
  exact ⟨fun c hc => of_decide_eq_true (List.all_eq_true.mp (h w hw).1 c hc), (h w hw).2⟩
theorem od_ok : ∀ w ∈ odL, TxOk w ∧ w.length ≤ 60 := fun w hw => by
  have h : ∀ w ∈ odL, ((tl w).all fun c => decide (c < 0x110000)) = true ∧ w.length ≤ 60 := by decide +kernel
  exact ⟨fun c hc => of_decide_eq_true (List.all_eq_true.mp (h w hw).1 c hc), (h w hw).2⟩
/-- a text of known signs, not too long -/
def BigOk (y : Str) : Prop := TxOk y ∧ y.length ≤ 9000000
theorem pure__law_spoiled {K : PySem.W.Frag} {E : XK} {H : Hp} {Q : VK} {vs : List V} (h : sp__law_spoiled K vs H Q E) : t__law_spoiled K E (DD Q) (L2.start ["_law_deck_here", "_law_page_here", "_law_spot", "_law_words", "_law_at", "_law_signs", "_law_odd", "_law_sign", "_law_word", "_law_some"] vs) H := by
  obtain ⟨d, n, x, B, sd, rfl, D, S, hn, hx, htx, q⟩ := h
  show t__law_spoiled K E (DD Q) [some (.ref d), some (.str x), none, none, none, none, none, none, none, none] H
  have hlx : x.length ≤ sizeLine := by rw [sz]; omega
  unfold t__law_spoiled
  walk_at "z"
  refine x_lenS hlx ?_
  walk_at "z"
  refine ⟨d, n, (x.length : Int) + 1, B, _, 0, sd, rfl, D, S, rfl, by omega, by omega, by omega, fun x1 s1 H1 h0 h1 D1 S1 => ?_⟩
  have S1 : Z H1 B [s1] := S1
  obtain ⟨spot, rfl⟩ : ∃ c : Nat, x1 = (c : Int) := ⟨x1.toNat, by omega⟩
  walk_at "z"
  refine ⟨rfl, ?_⟩
  walk_at "z"
  refine z_split S1 (by decide +kernel) (by rw [sz]; omega) fun lw H2 S2 => ?_
  have hsn := split_ne x " " (by decide +kernel) (by decide +kernel)
  have hsm : ∀ w ∈ Txt.split x " ", w.length ≤ x.length ∧ ∀ c ∈ tl w, c ∈ tl x := fun w hw => split_mem (by decide +kernel) (by decide +kernel) hw
  generalize Txt.split x " " = W at S2 hsn hsm
  have hW : WsOk W := ⟨by omega, fun w hw => ⟨tx_sub (hsm w hw).2 htx, by have := (hsm w hw).1; omega⟩⟩
  obtain ⟨B1, e1, hlw, S3⟩ := S2.frz 0 rfl
  have S3 : Z H2 B1 [s1] := S3
  clear S S1 S2
  walk_at "z"
  refine x_lenL (sq_l (S3.base _ _ hlw)) ?_
  rw [List.length_map]
  walk_at "z"
  refine ⟨d, n + 1, (W.length : Int), B1, _, 0, s1, rfl, D1, S3, rfl, by omega, by omega, by omega, fun x2 s2 H3 h2 h3 D2 S4 => ?_⟩
  have S4 : Z H3 B1 [s2] := S4
  obtain ⟨at_, rfl⟩ : ∃ c : Nat, x2 = (c : Int) := ⟨x2.toNat, by omega⟩
  walk_at "z"
  intro lg H4 S5
  have S5 : Z H4 B1 ([(lg, .lst (sgL.map V.str))] :: [s2]) := S5
  obtain ⟨B2, e2, hlg, S6⟩ := S5.frz 0 rfl
  have S6 : Z H4 B2 [s2] := S6
  have hlw2 := e2 _ _ hlw
  clear S3 S4 S5
  walk_at "z"
  refine x_mulS (mulOk_of 1 60 (by decide +kernel) (by decide) (by decide) (by decide) (by decide)) ?_
  walk_at "z"
  intro lo H5 S7
  have S7 : Z H5 B2 ([(lo, .lst (odL.map V.str))] :: [s2]) := S7
  obtain ⟨B3, e3, hlo, S8⟩ := S7.frz 0 rfl
  have S8 : Z H5 B3 [s2] := S8
  have hlw3 := e3 _ _ hlw2
  have hlg3 := e3 _ _ hlg
  clear S6 S7
  walk_at "z"
  refine x_lenL (sq_l (S8.base _ _ hlg3)) ?_
  walk_at "z"
  refine ⟨d, n + 1 + 1, 10, B3, _, 0, s2, rfl, D2, S8, rfl, by omega, by decide, by decide, fun x3 s3 H6 h4 h5 D3 S9 => ?_⟩
  have S9 : Z H6 B3 [s3] := S9
  obtain ⟨i3, rfl⟩ : ∃ c : Nat, x3 = (c : Int) := ⟨x3.toNat, by omega⟩
  obtain ⟨sg, hsg⟩ : ∃ w, sgL[i3]? = some w := ⟨_, List.getElem?_eq_getElem (by show i3 < 10; omega)⟩
  have hsgo := sg_ok sg (List.mem_of_getElem? hsg)
  refine x_ixL (v := .str sg) (sq_l (S9.base _ _ hlg3)) (atI_nat (by rw [List.getElem?_map, hsg] <;> rfl)) ?_
  walk_at "z"
  refine x_lenL (sq_l (S9.base _ _ hlo)) ?_
  walk_at "z"
  refine ⟨d, n + 1 + 1 + 1, 13, B3, _, 0, s3, rfl, D3, S9, rfl, by omega, by decide, by decide, fun x4 s4 H7 h6 h7 D4 S10 => ?_⟩
  have S10 : Z H7 B3 [s4] := S10
  obtain ⟨i4, rfl⟩ : ∃ c : Nat, x4 = (c : Int) := ⟨x4.toNat, by omega⟩
  obtain ⟨od, hod⟩ : ∃ w, odL[i4]? = some w := ⟨_, List.getElem?_eq_getElem (by show i4 < 13; omega)⟩
  have hodo := od_ok od (List.mem_of_getElem? hod)
  refine x_ixL (v := .str od) (sq_l (S10.base _ _ hlo)) (atI_nat (by rw [List.getElem?_map, hod] <;> rfl)) ?_
  walk_at "z"
  have cl : ∀ lo hi, (cutS x lo hi).length ≤ 1900 := fun lo hi => Nat.le_trans (cutS_length x lo hi) hx
  have ct : ∀ lo hi, TxOk (cutS x lo hi) := fun lo hi => tx_cut htx lo hi
  -- three texts
  refine z_slS hlx ?_
  walk_at "z"
  refine x_addS (by have := cl none (some (spot : Int)); rw [sz]; omega) ?_
  walk_at "z"
  refine z_slS hlx ?_
  refine x_addS (by rw [len_app2]; have := cl none (some (spot : Int)); have := cl (some (spot : Int)) none; rw [sz]; omega) ?_
  walk_at "z"
  refine z_slS hlx ?_
  walk_at "z"
  refine z_slS hlx ?_
  refine x_addS (by have := cl none (some (spot : Int)); have := cl (some ((spot : Int) + 1)) none; rw [sz]; omega) ?_
  walk_at "z"
  refine z_slS hlx ?_
  walk_at "z"
  refine x_addS (by have := cl none (some (spot : Int)); rw [sz]; omega) ?_
  walk_at "z"
  refine z_slS hlx ?_
  refine x_addS (by rw [len_app2]; have := cl none (some (spot : Int)); have := cl (some ((spot : Int) + 1)) none; rw [sz]; omega) ?_
  have b1 : BigOk (cutS x none (some (spot : Int)) ++ sg ++ cutS x (some (spot : Int)) none) := ⟨tx_app (tx_app (ct _ _) hsgo.1) (ct _ _), by
    rw [len_app2, len_app2]; have := cl none (some (spot : Int)); have := cl (some (spot : Int)) none; omega⟩
  have b2 : BigOk (cutS x none (some (spot : Int)) ++ cutS x (some ((spot : Int) + 1)) none) := ⟨tx_app (ct _ _) (ct _ _), by
    rw [len_app2]; have := cl none (some (spot : Int)); have := cl (some ((spot : Int) + 1)) none; omega⟩
  have b3 : BigOk (cutS x none (some (spot : Int)) ++ sg ++ cutS x (some ((spot : Int) + 1)) none) := ⟨tx_app (tx_app (ct _ _) hsgo.1) (ct _ _), by
    rw [len_app2, len_app2]; have := cl none (some (spot : Int)); have := cl (some ((spot : Int) + 1)) none; omega⟩
  generalize cutS x none (some (spot : Int)) ++ sg ++ cutS x (some (spot : Int)) none = y1 at b1 ⊢
  generalize cutS x none (some (spot : Int)) ++ cutS x (some ((spot : Int) + 1)) none = y2 at b2 ⊢
  generalize cutS x none (some (spot : Int)) ++ sg ++ cutS x (some ((spot : Int) + 1)) none = y3 at b3 ⊢
  walk_at "z"
  intro a1 H8 S11
  have S11 : Z H8 B3 ([(a1, .lst ([y1, y2, y3].map V.str))] :: [s4]) := S11
  clear S8 S9 S10
  -- what two cuts of the words make
  have two : ∀ (lo1 hi1 lo2 hi2 : Option Int), ∃ M : List Str, cutV (W.map V.str) lo1 hi1 ++ cutV (W.map V.str) lo2 hi2 = M.map V.str ∧ WsOk M := fun lo1 hi1 lo2 hi2 => by
    obtain ⟨m1, r1, r2⟩ := cutV_str W lo1 hi1
    obtain ⟨m2, r3, r4⟩ := cutV_str W lo2 hi2
    have l1 := cutV_len (xs := W.map V.str) lo1 hi1
    have l2 := cutV_len (xs := W.map V.str) lo2 hi2
    rw [r1, List.length_map, List.length_map] at l1
    rw [r3, List.length_map, List.length_map] at l2
    refine ⟨m1 ++ m2, by rw [r1, r3, List.map_append], by rw [List.length_append]; omega, fun w hw => ?_⟩
    rcases List.mem_append.mp hw with z | z
    · exact hW.2 w (r2 w z)
    · exact hW.2 w (r4 w z)
  have lenc : ∀ (lo1 hi1 lo2 hi2 : Option Int), (cutV (W.map V.str) lo1 hi1).length + (cutV (W.map V.str) lo2 hi2).length ≤ sizeLine := fun lo1 hi1 lo2 hi2 => by
    have l1 := cutV_len (xs := W.map V.str) lo1 hi1
    have l2 := cutV_len (xs := W.map V.str) lo2 hi2
    rw [List.length_map] at l1 l2
    rw [sz]
    omega
  walk_at "z"
  refine ⟨rfl, ?_⟩
  walk_at "z"
  refine z_slL S11 (sq_l (S11.base _ _ hlw3)) fun c1 H9 S12 => ?_
  walk_at "z"
  refine z_slL S12 (sq_l (S12.base _ _ hlw3)) fun c2 H10 S13 => ?_
  refine z_cat S13 (S13.at_ 1 0 rfl rfl) (S13.at_ 0 0 rfl rfl) (lenc _ _ _ _) fun c3 H11 S14 => ?_
  obtain ⟨M1, em1, wm1⟩ := two none (some (at_ : Int)) (some ((at_ : Int) + 1)) none
  rw [em1] at S14
  have S14 : Z H11 B3 ([(c3, .lst (M1.map V.str))] :: [(a1, .lst ([y1, y2, y3].map V.str))] :: [s4]) := S14.sub (.cons_cons _ (.cons _ (.cons _ (List.Sublist.refl _))))
  have j1 := ws_join wm1
  walk_at "z"
  refine x_join (ys := M1) (sq_l (S14.at_ 0 0 rfl rfl)) j1.2.2 ?_
  have S15 := S14.tail
  clear S11 S12 S13 S14
  walk_at "z"
  refine ⟨rfl, ?_⟩
  walk_at "z"
  refine z_slL S15 (sq_l (S15.base _ _ hlw3)) fun c1 H9 S12 => ?_
  walk_at "z"
  refine z_slL S12 (sq_l (S12.base _ _ hlw3)) fun c2 H10 S13 => ?_
  refine z_cat S13 (S13.at_ 1 0 rfl rfl) (S13.at_ 0 0 rfl rfl) (lenc _ _ _ _) fun c3 H11 S14 => ?_
  obtain ⟨M2, em2, wm2⟩ := two none (some ((at_ : Int) + 1)) (some (at_ : Int)) none
  rw [em2] at S14
  have S14 : Z H11 B3 ([(c3, .lst (M2.map V.str))] :: [(a1, .lst ([y1, y2, y3].map V.str))] :: [s4]) := S14.sub (.cons_cons _ (.cons _ (.cons _ (List.Sublist.refl _))))
  have j2 := ws_join wm2
  walk_at "z"
  refine x_join (ys := M2) (sq_l (S14.at_ 0 0 rfl rfl)) j2.2.2 ?_
  have S16 := S14.tail
  clear S15 S12 S13 S14
  walk_at "z"
  intro a2 H12 S17
  refine z_cat S17 (S17.at_ 1 0 rfl rfl) (S17.at_ 0 0 rfl rfl) (by simp [sz]) fun a3 H13 S18 => ?_
  have S18 : Z H13 B3 ([(a3, .lst ([y1, y2, y3, Txt.join " " M1, Txt.join " " M2].map V.str))] :: [s4]) := S18.sub (.cons_cons _ (.cons _ (.cons _ (List.Sublist.refl _))))
  clear S16 S17
  walk_at "z"
  refine ⟨rfl, ?_⟩
  walk_at "z"
  refine z_slL S18 (sq_l (S18.base _ _ hlw3)) fun c1 H9 S12 => ?_
  walk_at "z"
  intro c5 H14 S19
  refine z_cat S19 (S19.at_ 1 0 rfl rfl) (S19.at_ 0 0 rfl rfl) (by
    have l1 := cutV_len (xs := W.map V.str) none (some (at_ : Int))
    rw [List.length_map] at l1
    rw [sz]
    simp
    omega) fun c6 H15 S20 => ?_
  walk_at "z"
  refine z_slL S20 (sq_l (S20.base _ _ hlw3)) fun c7 H16 S21 => ?_
  refine z_cat S21 (S21.at_ 1 0 rfl rfl) (S21.at_ 0 0 rfl rfl) (by
    have l1 := cutV_len (xs := W.map V.str) none (some (at_ : Int))
    have l2 := cutV_len (xs := W.map V.str) (some ((at_ : Int) + 1)) none
    rw [List.length_map] at l1 l2
    rw [List.length_append, sz]
    simp
    omega) fun c8 H17 S22 => ?_
  obtain ⟨M3, em3, wm3⟩ : ∃ M : List Str, (cutV (W.map V.str) none (some (at_ : Int)) ++ [V.str od]) ++ cutV (W.map V.str) (some ((at_ : Int) + 1)) none = M.map V.str ∧ WsOk M := by
    obtain ⟨m1, r1, r2⟩ := cutV_str W none (some (at_ : Int))
    obtain ⟨m2, r3, r4⟩ := cutV_str W (some ((at_ : Int) + 1)) none
    have l1 := cutV_len (xs := W.map V.str) none (some (at_ : Int))
    have l2 := cutV_len (xs := W.map V.str) (some ((at_ : Int) + 1)) none
    rw [r1, List.length_map, List.length_map] at l1
    rw [r3, List.length_map, List.length_map] at l2
    refine ⟨m1 ++ [od] ++ m2, by rw [r1, r3, List.map_append, List.map_append] <;> rfl, by rw [List.length_append, List.length_append, List.length_singleton]; omega, fun w hw => ?_⟩
    rcases List.mem_append.mp hw with z | z
    · rcases List.mem_append.mp z with z | z
      · exact hW.2 w (r2 w z)
      · rw [List.mem_singleton.mp z]
        exact ⟨hodo.1, by have := hodo.2; omega⟩
    · exact hW.2 w (r4 w z)
  rw [em3] at S22
  have S22 : Z H17 B3 ([(c8, .lst (M3.map V.str))] :: [(a3, .lst ([y1, y2, y3, Txt.join " " M1, Txt.join " " M2].map V.str))] :: [s4]) := S22.sub (.cons_cons _ (.cons _ (.cons _ (.cons _ (.cons _ (List.Sublist.refl _))))))
  have j3 := ws_join wm3
  walk_at "z"
  refine x_join (ys := M3) (sq_l (S22.at_ 0 0 rfl rfl)) j3.2.2 ?_
  have S23 := S22.tail
  clear S18 S12 S19 S20 S21 S22
  walk_at "z"
  refine ⟨rfl, ?_⟩
  walk_at "z"
  refine z_slL S23 (sq_l (S23.base _ _ hlw3)) fun c1 H9 S12 => ?_
  walk_at "z"
  refine z_slL S12 (sq_l (S12.base _ _ hlw3)) fun c2 H10 S13 => ?_
  refine z_cat S13 (S13.at_ 1 0 rfl rfl) (S13.at_ 0 0 rfl rfl) (lenc _ _ _ _) fun c3 H11 S14 => ?_
  obtain ⟨M4, em4, wm4⟩ := two (some (at_ : Int)) none none (some (at_ : Int))
  rw [em4] at S14
  have S14 : Z H11 B3 ([(c3, .lst (M4.map V.str))] :: [(a3, .lst ([y1, y2, y3, Txt.join " " M1, Txt.join " " M2].map V.str))] :: [s4]) := S14.sub (.cons_cons _ (.cons _ (.cons _ (List.Sublist.refl _))))
  have j4 := ws_join wm4
  walk_at "z"
  refine x_join (ys := M4) (sq_l (S14.at_ 0 0 rfl rfl)) j4.2.2 ?_
  have S16 := S14.tail
  clear S23 S12 S13 S14
  walk_at "z"
  intro a4 H18 S24
  refine z_cat S24 (S24.at_ 1 0 rfl rfl) (S24.at_ 0 0 rfl rfl) (by simp [sz]) fun a5 H19 S25 => ?_
  have S25 : Z H19 B3 ([(a5, .lst ([y1, y2, y3, Txt.join " " M1, Txt.join " " M2, Txt.join " " M3, Txt.join " " M4].map V.str))] :: [s4]) := S25.sub (.cons_cons _ (.cons _ (.cons _ (List.Sublist.refl _))))
  clear S16 S24
  have hall : ∀ y ∈ [y1, y2, y3, Txt.join " " M1, Txt.join " " M2, Txt.join " " M3, Txt.join " " M4], BigOk y := fun y hy => by
    rcases List.mem_cons.mp hy with e | hy
    · rw [e]; exact b1
    rcases List.mem_cons.mp hy with e | hy
    · rw [e]; exact b2
    rcases List.mem_cons.mp hy with e | hy
    · rw [e]; exact b3
    rcases List.mem_cons.mp hy with e | hy
    · rw [e]; exact ⟨j1.1, j1.2.1⟩
    rcases List.mem_cons.mp hy with e | hy
    · rw [e]; exact ⟨j2.1, j2.2.1⟩
    rcases List.mem_cons.mp hy with e | hy
    · rw [e]; exact ⟨j3.1, j3.2.1⟩
    · rw [List.mem_singleton.mp hy]; exact ⟨j4.1, j4.2.1⟩
  have hYl : [y1, y2, y3, Txt.join " " M1, Txt.join " " M2, Txt.join " " M3, Txt.join " " M4].length = 7 := rfl
  generalize [y1, y2, y3, Txt.join " " M1, Txt.join " " M2, Txt.join " " M3, Txt.join " " M4] = Y at S25 hall hYl
  walk_at "z"
  rw [List.length_map, hYl]
  refine ⟨d, n + 1 + 1 + 1 + 1, 7, B3, _, 1, s4, rfl, D4, S25, rfl, by omega, by decide, by decide, fun x5 s5 H20 h8 h9 D5 S26 => ?_⟩
  have S26 : Z H20 B3 ([(a5, .lst (Y.map V.str))] :: [s5]) := S26
  obtain ⟨i5, rfl⟩ : ∃ c : Nat, x5 = (c : Int) := ⟨x5.toNat, by omega⟩
  obtain ⟨y, hy⟩ : ∃ y, Y[i5]? = some y := ⟨_, List.getElem?_eq_getElem (by omega)⟩
  have hyo := hall y (List.mem_of_getElem? hy)
  refine x_ixL (v := .str y) (sq_l (S26.at_ 0 0 rfl rfl)) (atI_nat (by rw [List.getElem?_map, hy] <;> rfl)) ?_
  walk_at "z"
  refine z_slS (by have := hyo.2; rw [sz]; omega) ?_
  exact q _ (n + 1 + 1 + 1 + 1 + 1) s5 H20 (cut_le 1900) (tx_cut hyo.1 _ _) (by omega) D5 (S26.tail.low ((e1.trans e2).trans e3))
def fixL : List Str := ["", " ", "-", "0", "- 0", "- 1", "- 0 ", " -", "-  0", "- 00", "- -", "- -0", "- 0\n0", "- 0 1 2 4", Txt.join " " (List.replicate 40 "-"), Txt.join " " (List.replicate 41 "-"), Txt.join " " (List.replicate 40 ("-" : Str) ++ [("x" : Str)]), Txt.join " " (List.replicate 41 "0"), Txt.mul "- " 999 ++ "-"]
theorem fix_ok : ∀ w ∈ fixL, TxOk w ∧ w.length ≤ 2000 := fun w hw => by
  have h : ∀ w ∈ fixL, ((tl w).all fun c => decide (c < 0x110000)) = true ∧ w.length ≤ 2000 := by decide +kernel
  exact ⟨fun c hc => of_decide_eq_true (List.all_eq_true.mp (h w hw).1 c hc), (h w hw).2⟩
theorem rep_str (n : Nat) (w : Str) : (List.replicate n [V.str w]).flatten = (List.replicate n w).map V.str := by
  induction n with
  | zero => rfl
  | succ n ih =>
    rw [List.replicate_succ, List.replicate_succ, List.flatten_cons, ih, List.map_cons] <;> rfl
def sp_law (K : PySem.W.Frag) : Sp := fun vs H Q _ => ∃ (a : Addr) (ns : List Int), vs = [.ref a] ∧ SqL K H a (ns.map V.int) ∧ ns.length ≤ 63 ∧ TxE K ∧ ExM K "InvalidText" "InvalidText" ∧ ∀ H', Q (.bl true) H'
theorem page_tx (T : FM.T3) : TxOk (pageT T) := tx_join (tx_lit " ") fun w hw => by
  obtain ⟨o, _, rfl⟩ := List.mem_map.mp hw
  cases o with
  | none => exact tx_lit "-"
  | some n => exact tx_lit _
theorem pure_law {K : PySem.W.Frag} {E : XK} {H : Hp} {Q : VK} {vs : List V} (h : sp_law K vs H Q E) : t_law K E (DD Q) (L2.start ["_law_script", "_law_deck_here", "_law_lap", "_law_turn", "_law_page_here", "_law_change", "_law_thing", "_law_fixed"] vs) H := by
  obtain ⟨s, ns, rfl, hs, hl, X, em, q⟩ := h
  show t_law K E (DD Q) [some (.ref s), none, none, none, none, none, none, none] H
  unfold t_law
  walk_at "z"
  refine ⟨s, ns, rfl, hs, fun d seg0 H1 D0 S1 => ?_⟩
  have hs1 := S1.l hs
  walk_at "z"
  refine z_rng1 (max 3 (min 8 ns.length)) ?_ (by omega) ?_
  · simp only [List.length_map]
    split <;> split <;> omega
  refine z_for_rng _ (fun i σ H' => ∃ (o2 o3 o4 o5 o6 : Option V) (B : Hp) (n : Nat) (s' : Seg), σ = [some (.ref s), some (.ref d), o2, o3, o4, o5, o6, none] ∧ n ≤ 60000 * i ∧ Deck s' d n ∧ Z H' B [s']) ⟨_, _, _, _, _, H, 0, seg0, rfl, by omega, D0, S1⟩ ?_ ?_
  · rintro lap σ H2 hlap ⟨o2, o3, o4, o5, o6, B, n, s', rfl, hn, D, S⟩
    walk_at "zi"
    refine x_for ?_
    walk_at "z"
    refine z_rng1 6 rfl (by decide) ?_
    refine z_for_rng 6 (fun j σ H' => ∃ (o3 o4 o5 : Option V) (B : Hp) (m : Nat) (s2 : Seg), σ = [some (.ref s), some (.ref d), some (.int (0 + (lap : Int))), o3, o4, o5, o6, none] ∧ m ≤ n + 9000 * j ∧ Deck s2 d m ∧ Z H' B [s2]) ⟨_, _, _, B, n, s', rfl, by omega, D, S⟩ ?_ ?_
    · rintro j σ H3 hj ⟨_, _, _, B, m, s2, rfl, hm, D2, S2⟩
      walk_at "z"
      intro lm H4 S3
      walk_at "z"
      refine ⟨d, m, 2, B, _, 1, s2, rfl, D2, S3, rfl, by omega, by decide, by decide, fun x1 s3 H5 h0 h1 D3 S4 => ?_⟩
      have S4 : Z H5 B ([(lm, .lst [.int 8, .int 40])] :: [s3]) := S4
      obtain ⟨most, hm40, hat⟩ : ∃ c : Nat, c ≤ 40 ∧ atI ([.int 8, .int 40] : List V) x1 = some (.int (c : Int)) := by
        have : x1 = 0 ∨ x1 = 1 := by omega
        rcases this with e | e
        · rw [e]; exact ⟨8, by omega, at0 rfl⟩
        · rw [e]; exact ⟨40, by omega, at1 rfl⟩
      refine x_ixL (sq_l (S4.at_ 0 0 rfl rfl)) hat ?_
      walk_at "z"
      refine ⟨d, m + 1, most, B, _, 1, s3, rfl, D3, S4, rfl, by omega, by omega, fun p T n1 s4 H6 hT hTl hn1 D4 S5 => ?_⟩
      have S5 : Z H6 B ([(p, .lst (T.map ov))] :: [(lm, .lst [.int 8, .int 40])] :: [s4]) := S5
      have hT' : FM.Th T := fun i j hij => hT i (some j) hij j rfl
      walk_at "z"
      refine ⟨p, T, rfl, sq_l (S5.at_ 0 0 rfl rfl), hT', by omega, fun H7 e7 => ?_⟩
      have S6 : Z H7 B [s4] := (S5.ext e7).tail.tail
      have hpl := page_len hT' (by omega : T.length ≤ 40)
      have hpt := page_tx T
      generalize pageT T = y0 at hpl hpt ⊢
      clear S2 S3 S4 S5
      walk_at "z"
      refine ⟨d, n1, 4, B, _, 0, s4, rfl, D4, S6, rfl, by omega, by decide, by decide, fun x2 s5 H8 h2 h3 D5 S7 => ?_⟩
      have S7 : Z H8 B [s5] := S7
      obtain ⟨ch, rfl⟩ : ∃ c : Nat, x2 = (c : Int) := ⟨x2.toNat, by omega⟩
      walk_at "z"
      refine z_rng1 ch rfl (by omega) ?_
      refine z_for_rng ch (fun i σ H' => ∃ (o5 : Option V) (y : Str) (m2 : Nat) (s6 : Seg), σ = [some (.ref s), some (.ref d), some (.int (0 + (lap : Int))), some (.int (0 + (j : Int))), some (.str y), o5, o6, none] ∧ m2 ≤ n1 + 1 + 10 * i ∧ y.length ≤ 1900 ∧ TxOk y ∧ Deck s6 d m2 ∧ Z H' B [s6]) ⟨_, y0, n1 + 1, s5, rfl, by omega, by omega, hpt, D5, S7⟩ ?_ ?_
      · rintro i σ H9 hi ⟨_, y, m2, s6, rfl, hm2, hy, hyt, D6, S8⟩
        walk_at "z"
        refine ⟨d, m2, y, B, s6, rfl, D6, S8, by omega, hy, hyt, fun y2 m3 s7 H10 hy2 hyt2 hm3 D7 S9 => ?_⟩
        walk_at "z"
        exact ⟨_, y2, m3, s7, rfl, by omega, hy2, hyt2, D7, S9⟩
      · rintro σ H9 ⟨_, y, m2, s6, rfl, hm2, hy, hyt, D6, S8⟩
        walk_at "z"
        refine ⟨_, rfl, X, em, .inl ⟨y, rfl, by omega, hyt⟩, fun H10 e10 => ?_⟩
        refine z_bl (z_iffalse ?_)
        walk_at "z"
        exact ⟨_, _, _, B, m2, s6, rfl, by omega, D6, S8.ext e10⟩
    · rintro σ H3 ⟨o3', o4', o5', B, m, s2, rfl, hm, D2, S2⟩
      dsimp only
      walk_at "zi"
      try dsimp only
      refine x_for ?_
      walk_at "z"
      intro t1 H4 S3
      walk_at "z"
      intro l1 H5 S4
      walk_at "z"
      intro l2 H6 S5
      walk_at "z"
      intro l3 H7 S6
      walk_at "z"
      intro dc hdc
      have S7 := S6.new (o := .dK []) hdc
      generalize upd H7 dc (.dK []) = H8 at S7 ⊢
      walk_at "z"
      intro t2 H9 S8
      walk_at "z"
      refine x_powI (powW (by decide) (by decide) (by decide) (by decide)) ?_
      walk_at "z"
      intro lt H10 S9
      obtain ⟨B1, e1, k1, S10⟩ := S9.frz 0 rfl
      obtain ⟨B2, e2, k2, S11⟩ := S10.frz 0 rfl
      obtain ⟨B3, e3, k3, S12⟩ := S11.frz 0 rfl
      obtain ⟨B4, e4, k4, S13⟩ := S12.frz 0 rfl
      obtain ⟨B5, e5, k5, S14⟩ := S13.frz 0 rfl
      obtain ⟨B6, e6, k6, S15⟩ := S14.frz 0 rfl
      obtain ⟨B7, e7, k7, S16⟩ := S15.frz 0 rfl
      have S16 : Z H10 B7 [s2] := S16
      have f2 := e7 _ _ (e6 _ _ (e5 _ _ (e4 _ _ (e3 _ _ k2))))
      have f3 := e7 _ _ (e6 _ _ (e5 _ _ (e4 _ _ k3)))
      have f4 := e7 _ _ (e6 _ _ (e5 _ _ k4))
      have f5 := e7 _ _ (e6 _ _ k5)
      have f6 := e7 _ _ k6
      have f1 := e7 _ _ (e6 _ _ (e5 _ _ (e4 _ _ (e3 _ _ (e2 _ _ k1)))))
      clear S2 S3 S4 S5 S6 S7 S8 S9 S10 S11 S12 S13 S14 S15
      have hlt : SqL K H10 lt [.non, .int 0, .bl true, .ref t1, .ref l1, .ref l2, .ref l3, .ref dc, .ref t2, .int ((10 : Int) ^ (40 : Int).toNat)] := sq_l (S16.base _ _ f1)
      have kinds : ∀ (k : Nat) (x : V), ([.non, .int 0, .bl true, .ref t1, .ref l1, .ref l2, .ref l3, .ref dc, .ref t2, .int ((10 : Int) ^ (40 : Int).toNat)] : List V)[k]? = some x → ∃ T0, (∀ H', Ex B7 H' → Kd K H' x T0) ∧ kitB T0 "str" = some false := by
        intro k x hx
        match k, hx with
        | 0, hx => cases hx; exact ⟨"NoneType", fun _ _ => .base .non, by decide +kernel⟩
        | 1, hx => cases hx; exact ⟨"int", fun _ _ => .base (.int _), by decide +kernel⟩
        | 2, hx => cases hx; exact ⟨"bool", fun _ _ => .base (.bl _), by decide +kernel⟩
        | 3, hx => cases hx; exact ⟨"tuple", fun _ e => kd_tup (sq_t (e _ _ k7)), by decide +kernel⟩
        | 4, hx => cases hx; exact ⟨"list", fun _ e => kd_list (sq_l (e _ _ f6)), by decide +kernel⟩
        | 5, hx => cases hx; exact ⟨"list", fun _ e => kd_list (sq_l (e _ _ f5)), by decide +kernel⟩
        | 6, hx => cases hx; exact ⟨"list", fun _ e => kd_list (sq_l (e _ _ f4)), by decide +kernel⟩
        | 7, hx => cases hx; exact ⟨"dict", fun _ e => .base (.dK (e _ _ f3)), by decide +kernel⟩
        | 8, hx => cases hx; exact ⟨"tuple", fun _ e => kd_tup (sq_t (e _ _ f2)), by decide +kernel⟩
        | 9, hx => cases hx; exact ⟨"int", fun _ _ => .base (.int _), by decide +kernel⟩
        | k + 10, hx => simp at hx
      walk_at "z"
      refine z_for_list _ (fun k σ H' => ∃ (o6 : Option V), σ = [some (.ref s), some (.ref d), some (.int (0 + (lap : Int))), o3', o4', o5', o6, none] ∧ Z H' B7 [s2]) ⟨_, rfl, S16⟩ (fun i σ H' _ ⟨_, _, S'⟩ => sq_l (S'.base _ _ f1)) ?_ ?_
      · rintro k x σ H11 hx ⟨_, rfl, S17⟩
        obtain ⟨T0, hk, hb⟩ := kinds k x hx
        walk_at "z"
        refine ⟨_, rfl, X, em, .inr ⟨T0, fun H' e => hk H' (S17.base.trans e), hb⟩, fun H12 e12 => ?_⟩
        refine z_bl (z_iffalse ?_)
        walk_at "z"
        exact ⟨_, rfl, S17.ext e12⟩
      · rintro σ H11 ⟨_, rfl, S17⟩
        exact ⟨_, _, _, _, _, B7, m, s2, rfl, by omega, D2, S17⟩
  · rintro σ H2 ⟨o2, o3, o4, o5, o6, B, n, s', rfl, hn, D, S⟩
    walk_at "z"
    intro a1 H3 S1
    walk_at "z"
    refine ⟨rfl, ?_⟩
    walk_at "z"
    intro b1 H4 S2
    walk_at "z"
    refine z_rep S2 (S2.at_ 0 0 rfl rfl) (by decide) (by decide) (by simp [sz]) fun b2 H5 S3 => ?_
    rw [rep_str] at S3
    walk_at "z"
    refine x_join (ys := List.replicate 40 "-") (sq_l (S3.at_ 0 0 rfl rfl)) (by decide +kernel) ?_
    have S4 := S3.tail.tail
    clear S2 S3
    walk_at "z"
    refine ⟨rfl, ?_⟩
    walk_at "z"
    intro b1 H4 S2
    walk_at "z"
    refine z_rep S2 (S2.at_ 0 0 rfl rfl) (by decide) (by decide) (by simp [sz]) fun b2 H5 S3 => ?_
    rw [rep_str] at S3
    walk_at "z"
    refine x_join (ys := List.replicate 41 "-") (sq_l (S3.at_ 0 0 rfl rfl)) (by decide +kernel) ?_
    have S5 := S3.tail.tail
    clear S2 S3 S4
    walk_at "z"
    refine ⟨rfl, ?_⟩
    walk_at "z"
    intro b1 H4 S2
    walk_at "z"
    refine z_rep S2 (S2.at_ 0 0 rfl rfl) (by decide) (by decide) (by simp [sz]) fun b2 H5 S3 => ?_
    rw [rep_str] at S3
    walk_at "z"
    intro b3 H6 S4
    refine z_cat S4 (S4.at_ 1 0 rfl rfl) (S4.at_ 0 0 rfl rfl) (by decide +kernel) fun b4 H7 S6 => ?_
    have ex : (List.replicate 40 ("-" : Str) : List Str).map V.str ++ [V.str "x"] = (List.replicate 40 ("-" : Str) ++ [("x" : Str)] : List Str).map V.str := by rw [List.map_append] <;> rfl
    have S6 : Z H7 B ([(b4, .lst ((List.replicate 40 ("-" : Str) : List Str).map V.str ++ [V.str "x"]))] :: _) := S6
    rw [ex] at S6
    walk_at "z"
    refine x_join (ys := List.replicate 40 ("-" : Str) ++ [("x" : Str)]) (sq_l (S6.at_ 0 0 rfl rfl)) (by decide +kernel) ?_
    have S7 := S6.tail.tail.tail.tail
    clear S2 S3 S4 S5 S6
    walk_at "z"
    refine ⟨rfl, ?_⟩
    walk_at "z"
    intro b1 H4 S2
    walk_at "z"
    refine z_rep S2 (S2.at_ 0 0 rfl rfl) (by decide) (by decide) (by simp [sz]) fun b2 H5 S3 => ?_
    rw [rep_str] at S3
    walk_at "z"
    refine x_join (ys := List.replicate 41 "0") (sq_l (S3.at_ 0 0 rfl rfl)) (by decide +kernel) ?_
    have S5 := S3.tail.tail
    clear S2 S3 S7
    walk_at "z"
    intro b5 H8 S6
    refine z_cat S6 (S6.at_ 1 0 rfl rfl) (S6.at_ 0 0 rfl rfl) (by simp [sz]) fun b6 H9 S7 => ?_
    have S7 : Z H9 B ([[(b6, .lst ((fixL.take 18).map V.str))], s']) := S7.sub (.cons_cons _ (.cons _ (.cons _ (List.Sublist.refl _))))
    clear S5 S6
    walk_at "z"
    refine x_mulS (mulOk_of 2 1000 (by decide +kernel) (by decide) (by decide) (by decide) (by decide)) ?_
    walk_at "z"
    refine x_addS (by decide +kernel) ?_
    walk_at "z"
    refine z_append (n := 0) S7 rfl (by decide +kernel) fun H10 S8 => ?_
    have S8 : Z H10 B ([[(b6, .lst (fixL.map V.str))], s']) := S8
    clear S7
    walk_at "z"
    refine z_lcL S8 (fixL.map V.str) (fun _ => []) rfl (fun H' S' => sq_l (S'.at_ 0 0 rfl rfl)) (fun k x D2 H11 hx S9 => ?_) (fun D2 H11 S9 => ?_)
    · obtain ⟨w, hw, rfl⟩ : ∃ w, fixL[k]? = some w ∧ x = .str w := by
        rw [List.getElem?_map] at hx
        cases e : fixL[k]? with
        | none => rw [e] at hx; cases hx
        | some w => rw [e] at hx; cases hx; exact ⟨w, rfl, rfl⟩
      have hok := fix_ok w (List.mem_of_getElem? hw)
      walk_at "z"
      refine ⟨_, rfl, X, em, .inl ⟨w, rfl, hok.2, hok.1⟩, fun H12 e12 => ?_⟩
      refine z_bl (z_iffalse ?_)
      exact S9.ext e12
    · walk_at "z"
      intro e0 H12 S10
      refine x_eqD (d := .list []) (e := .list []) (.lst (sq_l (S10.at_ 1 0 rfl rfl)) .nil) (.lst (sq_l (S10.at_ 0 0 rfl rfl)) .nil) rfl rfl ?_
      have ee : PyData.eqv (.list []) (.list []) = true := by decide +kernel
      rw [ee]
      exact q _
theorem law_in {K : PySem.W.Frag} {H : Hp} {a : Addr} {ns : List Int} (tx : TxE K) (em : ExM K "InvalidText" "InvalidText") (hl : ns.length ≤ 63) (hb : ∀ z ∈ ns, Builtin.Int.intBits z ≤ 1048576) (h : SqL K H a (ns.map V.int)) : sp_law K [.ref a] H (fun v _ => v = .bl true) fun _ _ _ => False := ⟨a, ns, rfl, h, hl, tx, em, fun _ => rfl⟩
end FT

namespace R55
open PySem PySem.Spec PyProof.Rows L2 FT
abbrev PP : Program := PySem.Challenge.pw_flatthreads_k55_texts_of_no_thread
def top (i : Nat) : Stmt := PP.main.body.getD i (.Pass ⟨0, 0, 0, 0⟩)
abbrev st__law_deck : Stmt := (top 11)
theorem sc__law_deck : FnScope ["_law_script", "_law_pools", "_law_k", "_law_cell"] ["_law_script"] (defScope st__law_deck) := ⟨rfl, rfl, rfl, by decide +kernel, rfl, by decide +kernel, by decide +kernel⟩
abbrev st__law_page : Stmt := (top 16)
theorem sc__law_page : FnScope ["_law_some", "_law_parent_here"] ["_law_some"] (defScope st__law_page) := ⟨rfl, rfl, rfl, by decide +kernel, rfl, by decide +kernel, by decide +kernel⟩
abbrev st__law_draw : Stmt := (top 12)
theorem sc__law_draw : FnScope ["_law_deck_here", "_law_many", "_law_pool", "_law_found", "_law_mixed"] ["_law_deck_here", "_law_many"] (defScope st__law_draw) := ⟨rfl, rfl, rfl, by decide +kernel, rfl, by decide +kernel, by decide +kernel⟩
abbrev st__law_parent : Stmt := (top 14)
theorem sc__law_parent : FnScope ["_law_deck_here", "_law_many", "_law_style", "_law_able", "_law_some", "_law_few"] ["_law_deck_here", "_law_many", "_law_style"] (defScope st__law_parent) := ⟨rfl, rfl, rfl, by decide +kernel, rfl, by decide +kernel, by decide +kernel⟩
abbrev st__law_thread : Stmt := (top 15)
theorem sc__law_thread : FnScope ["_law_deck_here", "_law_most", "_law_many", "_law_style", "_law_found", "_law_spot"] ["_law_deck_here", "_law_most"] (defScope st__law_thread) := ⟨rfl, rfl, rfl, by decide +kernel, rfl, by decide +kernel, by decide +kernel⟩
abbrev st__law_spoiled : Stmt := (top 21)
theorem sc__law_spoiled : FnScope ["_law_deck_here", "_law_page_here", "_law_spot", "_law_words", "_law_at", "_law_signs", "_law_odd", "_law_sign", "_law_word", "_law_some"] ["_law_deck_here", "_law_page_here"] (defScope st__law_spoiled) := ⟨rfl, rfl, rfl, by decide +kernel, rfl, by decide +kernel, by decide +kernel⟩
abbrev st__law_number : Stmt := (top 17)
theorem sc__law_number : FnScope ["_law_word", "_law_odd", "_law_sign"] ["_law_word"] (defScope st__law_number) := ⟨rfl, rfl, rfl, by decide +kernel, rfl, by decide +kernel, by decide +kernel⟩
abbrev st__law_read : Stmt := (top 18)
theorem sc__law_read : FnScope ["_law_page_here", "_law_found", "_law_spot", "_law_word", "_law_number_here"] ["_law_page_here"] (defScope st__law_read) := ⟨rfl, rfl, rfl, by decide +kernel, rfl, by decide +kernel, by decide +kernel⟩
abbrev st__law_same : Stmt := (top 13)
theorem sc__law_same : FnScope ["_law_found", "_law_due", "_law_one", "_law_two"] ["_law_found", "_law_due"] (defScope st__law_same) := ⟨rfl, rfl, rfl, by decide +kernel, rfl, by decide +kernel, by decide +kernel⟩
abbrev st_InvalidText___init__ : Stmt := (inClass (top 2) 0)
theorem sc_InvalidText___init__ : FnScope ["self", "index"] ["self", "index"] (defScope st_InvalidText___init__) := ⟨rfl, rfl, rfl, by decide +kernel, rfl, by decide +kernel, by decide +kernel⟩
abbrev st_require_string : Stmt := (top 8)
theorem sc_require_string : FnScope ["text"] ["text"] (defScope st_require_string) := ⟨rfl, rfl, rfl, by decide +kernel, rfl, by decide +kernel, by decide +kernel⟩
abbrev st_number_in : Stmt := (top 7)
theorem sc_number_in : FnScope ["word", "sign"] ["word"] (defScope st_number_in) := ⟨rfl, rfl, rfl, by decide +kernel, rfl, by decide +kernel, by decide +kernel⟩
abbrev st_parse_thread : Stmt := (top 9)
theorem sc_parse_thread : FnScope ["text", "found", "index", "word", "number"] ["text"] (defScope st_parse_thread) := ⟨rfl, rfl, rfl, by decide +kernel, rfl, by decide +kernel, by decide +kernel⟩
abbrev st__law_told : Stmt := (top 19)
theorem sc__law_told : FnScope ["_law_thing", "_law_way", "e"] ["_law_thing", "_law_way"] (defScope st__law_told) := ⟨rfl, rfl, rfl, by decide +kernel, rfl, by decide +kernel, by decide +kernel⟩
abbrev st__law_right : Stmt := (top 20)
theorem sc__law_right : FnScope ["_law_thing", "_law_due", "_law_found"] ["_law_thing"] (defScope st__law_right) := ⟨rfl, rfl, rfl, by decide +kernel, rfl, by decide +kernel, by decide +kernel⟩
abbrev st_law : Stmt := (top 22)
theorem sc_law : FnScope ["_law_script", "_law_deck_here", "_law_lap", "_law_turn", "_law_page_here", "_law_change", "_law_thing", "_law_fixed"] ["_law_script"] (defScope st_law) := ⟨rfl, rfl, rfl, by decide +kernel, rfl, by decide +kernel, by decide +kernel⟩
/-- what the top has made -/
structure Tp (K : PySem.W.Frag) (mg : Str → Option Value) : Prop where
  x_ThreadError : Xc K mg "ThreadError"
  f_all : mg "all" = none
  f_bool : mg "bool" = none
  f_enumerate : mg "enumerate" = none
  f_int : mg "int" = none
  f_isinstance : mg "isinstance" = none
  f_len : mg "len" = none
  f_list : mg "list" = none
  f_max : mg "max" = none
  f_min : mg "min" = none
  f_range : mg "range" = none
  f_str : mg "str" = none
  f_tuple : mg "tuple" = none
  f_zip : mg "zip" = none
  g_InvalidText : mg "InvalidText" = some (.ref (He.ga K "InvalidText"))
  i_MOST_COMMENTS : ∃ t, mg "MOST_COMMENTS" = some (.int 40 t)
  s_DIGITS : ∃ t, mg "DIGITS" = some (.str "0123456789" t)
  s_NONE : ∃ t, mg "NONE" = some (.str "-" t)
  xf_InvalidText_index : XfC K (He.ga K "InvalidText") ∧ PySem.W.findIn K (.ref (He.ga K "InvalidText")) "index" = some none
section
variable {w : World} {K : PySem.W.Frag} {mg : Str → Option Value} {base : Heap} {f : Addr} {fd : FuncData}
theorem ok__law_deck (T : Tp K mg)  (F : FunD K "_law_deck" "_law_deck" (defArgs st__law_deck) (defBody st__law_deck) (defScope st__law_deck) [] [] f fd) : FnOk PP w K mg base (L2.CX PP w) 1 f fd ["_law_script"] (sp__law_deck K) := by
  refine F.ok sc__law_deck (fun vs H Q E => ?_) (fun cdv A outer s H vs Q E hr h => ⟨t__law_deck K E, ?_, pure__law_deck h⟩)
  · walk_at "len"
  · have tk := takes_of (X := cxOf (L2.CX PP w) PP w K mg base ["_law_script", "_law_pools", "_law_k", "_law_cell"] "_law_deck" (defScope st__law_deck) f cdv A outer s H E) rfl rfl rfl rfl
    have hu := hu_of hr
    exact (pss_cons (ps_set (i := 1) sc__law_deck.nd rfl (Or.inl rfl) (pe_lst pa_nil))
  (pss_cons (ps_for (passes_of rfl) rfl (pi_range1 rfl T.f_range (pa_cons (pe_callB (call_qMax rfl) (by rfl) T.f_max (by decide +kernel) (pa_cons pe_int (pa_cons (pe_callB (call_qMin rfl) (by rfl) T.f_min (by decide +kernel) (pa_cons pe_int (pa_cons (pe_callB call_qLen (by rfl) T.f_len (by decide +kernel) (pa_cons (pv 0) pa_nil)) pa_nil))) pa_nil))) pa_nil)) (pg_name (i := 2) sc__law_deck.nd rfl (Or.inl rfl)) (pss_cons (ps_set (i := 3) sc__law_deck.nd rfl (Or.inl rfl) pe_int)
  (pss_cons (ps_if (pt_cmpR op_qLt (pv 2) (pe_callB call_qLen (by rfl) T.f_len (by decide +kernel) (pa_cons (pv 0) pa_nil)) (nomark _)) (pss_one (ps_set (i := 3) sc__law_deck.nd rfl (Or.inl rfl) (pe_ix ix_q (pv 0) (pv 2) (fun _ _ => rfl)))) pss_nil)
  (pss_one (ps_expr (pe_bm PySem.F.plainAttrs_list PySem.F.slot_list_append PySem.F.type_list_append mt_append (pv 1) (pa_cons (pe_lst (pa_cons (pv 3) (pa_cons (pe_callTy call_qInt (by rfl) T.f_int (by decide +kernel) (pa_cons (pe_cmpR op_qGe (pv 3) (pe_op op_qPow pe_int pe_int) (nomark _)) pa_nil)) (pa_cons (pe_op op_qAdd (pe_op op_qMul pe_int (pv 2)) pe_int) pa_nil)))) pa_nil)))))))
  (pss_one (ps_ret (pe_lst (pa_cons (pv 1) (pa_cons pe_int pa_nil)))))))
theorem ok__law_page (T : Tp K mg)  (F : FunD K "_law_page" "_law_page" (defArgs st__law_page) (defBody st__law_page) (defScope st__law_page) [] [] f fd) : FnOk PP w K mg base (L2.CX PP w) 1 f fd ["_law_some"] (sp__law_page K) := by
  refine F.ok sc__law_page (fun vs H Q E => ?_) (fun cdv A outer s H vs Q E hr h => ⟨t__law_page K E, ?_, pure__law_page h⟩)
  · walk_at "len"
  · have tk := takes_of (X := cxOf (L2.CX PP w) PP w K mg base ["_law_some", "_law_parent_here"] "_law_page" (defScope st__law_page) f cdv A outer s H E) rfl rfl rfl rfl
    have hu := hu_of hr
    exact (pss_one (ps_ret (pe_bm PySem.F.plainAttrs_str PySem.F.slot_str_join PySem.F.type_str_join mt_qJoin pe_str (pa_cons (pe_lc (own := [("_law_parent_here", 1)]) (g := (gName 1)) (tt := tYes) rfl sc__law_page.nd (pi_seq (pv 0)) (blkOk_by (own := [("_law_parent_here", 1)]) (N := ["_law_some", "_law_parent_here"]) (sc := defScope st__law_page) (by decide +kernel)) (fun _ _ _ _ _ => (pg_name (i := 1) sc__law_page.nd rfl (Or.inl rfl))) (fun _ _ _ _ _ => pts_nil) (fun _ _ _ _ _ => (pe_ifExp (pt_cmpR op_qIs (pv 1) pe_non (nomark _)) pe_str (pe_callTy call_qStr (by rfl) T.f_str (by decide +kernel) (pa_cons (pv 1) pa_nil))))) pa_nil))))
theorem ok__law_draw (T : Tp K mg)  (F : FunD K "_law_draw" "_law_draw" (defArgs st__law_draw) (defBody st__law_draw) (defScope st__law_draw) [] [] f fd) : FnOk PP w K mg base (L2.CX PP w) 1 f fd ["_law_deck_here", "_law_many"] (sp__law_draw K) := by
  refine F.ok sc__law_draw (fun vs H Q E => ?_) (fun cdv A outer s H vs Q E hr h => ⟨t__law_draw K E, ?_, pure__law_draw h⟩)
  · walk_at "len"
  · have tk := takes_of (X := cxOf (L2.CX PP w) PP w K mg base ["_law_deck_here", "_law_many", "_law_pool", "_law_found", "_law_mixed"] "_law_draw" (defScope st__law_draw) f cdv A outer s H E) rfl rfl rfl rfl
    have hu := hu_of hr
    exact (pss_cons (ps_set (i := 2) sc__law_draw.nd rfl (Or.inl rfl) (pe_ix ix_q (pe_ix ix_q (pv 0) pe_int (fun _ _ => rfl)) (pe_op op_qMod (pe_ix ix_q (pv 0) pe_int (fun _ _ => rfl)) (pe_callB call_qLen (by rfl) T.f_len (by decide +kernel) (pa_cons (pe_ix ix_q (pv 0) pe_int (fun _ _ => rfl)) pa_nil))) (fun _ _ => rfl)))
  (pss_cons (ps_asg (pe_op op_qAdd (pe_ix ix_q (pv 0) pe_int (fun _ _ => rfl)) pe_int) (pg_sub (pv 0) pe_int set_list))
  (pss_cons (ps_if (PW.pt (pw_and (pt_cmpR (op_qEq hr) (pe_ix ix_q (pv 2) pe_int (fun _ _ => rfl)) pe_int (nomark _)) (pw_and1 (pt_cmpR op_qGt (pe_ix ix_q (pv 2) pe_int (fun _ _ => rfl)) pe_int (nomark _))))) (pss_cons (ps_set (i := 3) sc__law_draw.nd rfl (Or.inl rfl) (pe_op op_qMod (pe_ix ix_q (pv 2) pe_int (fun _ _ => rfl)) (pv 1)))
  (pss_cons (ps_asg (pe_op op_qDiv (pe_ix ix_q (pv 2) pe_int (fun _ _ => rfl)) (pv 1)) (pg_sub (pv 2) pe_int set_list))
  (pss_one (ps_ret (pv 3))))) pss_nil)
  (pss_cons (ps_asg (pe_op op_qAdd (pe_ix ix_q (pv 2) pe_int (fun _ _ => rfl)) pe_int) (pg_sub (pv 2) pe_int set_list))
  (pss_cons (ps_set (i := 4) sc__law_draw.nd rfl (Or.inl rfl) (pe_op op_qAdd (pe_op op_qMod (pe_ix ix_q (pv 2) pe_int (fun _ _ => rfl)) pe_int) (pe_op op_qMul pe_int (pe_ix ix_q (pv 2) pe_int (fun _ _ => rfl)))))
  (pss_cons (ps_set (i := 4) sc__law_draw.nd rfl (Or.inl rfl) (pe_op op_qMod (pe_op op_qPow (pv 4) pe_int) pe_int))
  (pss_cons (ps_set (i := 4) sc__law_draw.nd rfl (Or.inl rfl) (pe_op op_qMod (pe_op op_qPow (pe_op op_qAdd (pv 4) (pe_op op_qMul pe_int (pe_ix ix_q (pv 2) pe_int (fun _ _ => rfl)))) pe_int) pe_int))
  (pss_one (ps_ret (pe_op op_qMod (pe_op op_qDiv (pv 4) pe_int) (pv 1)))))))))))
theorem ok__law_parent (T : Tp K mg) (G__law_draw : Gd PP w K mg base 1 "_law_draw" ["_law_deck_here", "_law_many"] (sp__law_draw K)) (F : FunD K "_law_parent" "_law_parent" (defArgs st__law_parent) (defBody st__law_parent) (defScope st__law_parent) [] [] f fd) : FnOk PP w K mg base (L2.CX PP w) 2 f fd ["_law_deck_here", "_law_many", "_law_style"] (sp__law_parent K) := by
  refine F.ok sc__law_parent (fun vs H Q E => ?_) (fun cdv A outer s H vs Q E hr h => ⟨t__law_parent K E, ?_, pure__law_parent h⟩)
  · walk_at "len"
  · have tk := takes_of (X := cxOf (L2.CX PP w) PP w K mg base ["_law_deck_here", "_law_many", "_law_style", "_law_able", "_law_some", "_law_few"] "_law_parent" (defScope st__law_parent) f cdv A outer s H E) rfl rfl rfl rfl
    have hu := hu_of hr
    exact (pss_cons (ps_set (i := 3) sc__law_parent.nd rfl (Or.inl rfl) (pe_op op_qAdd (pe_lst (pa_cons pe_non pa_nil)) (pe_listRg rfl (by rfl) T.f_list (prg_1 (by rfl) T.f_range (pv 1)))))
  (pss_cons (ps_set (i := 4) sc__law_parent.nd rfl (Or.inl rfl) (pe_lst (pa_cons (pv 3) (pa_cons (pe_op op_qAdd (pe_slice sl_q (pv 3) po_none (po_some pe_int)) (pe_slice sl_q (pv 3) (po_some (pe_un un_neg pe_int)) po_none)) (pa_cons (pe_slice sl_q (pv 3) po_none (po_some pe_int)) (pa_cons (pe_slice sl_q (pv 3) (po_some (pe_un un_neg pe_int)) po_none) (pa_cons (pe_slice sl_q (pv 3) po_none (po_some pe_int)) (pa_cons (pe_op op_qAdd (pe_op op_qMul (pe_slice sl_q (pv 3) po_none (po_some pe_int)) pe_int) (pv 3)) pa_nil))))))))
  (pss_cons (ps_set (i := 5) sc__law_parent.nd rfl (Or.inl rfl) (pe_ix ix_q (pv 4) (pv 2) (fun _ _ => rfl)))
  (pss_one (ps_ret (pe_ix ix_q (pv 5) (pe_gd G__law_draw hr (pa_cons (pv 0) (pa_cons (pe_callB call_qLen (by rfl) T.f_len (by decide +kernel) (pa_cons (pv 5) pa_nil)) pa_nil))) (fun _ _ => rfl)))))))
theorem ok__law_thread (T : Tp K mg) (G__law_draw : Gd PP w K mg base 1 "_law_draw" ["_law_deck_here", "_law_many"] (sp__law_draw K)) (G__law_parent : Gd PP w K mg base 2 "_law_parent" ["_law_deck_here", "_law_many", "_law_style"] (sp__law_parent K)) (F : FunD K "_law_thread" "_law_thread" (defArgs st__law_thread) (defBody st__law_thread) (defScope st__law_thread) [] [] f fd) : FnOk PP w K mg base (L2.CX PP w) 3 f fd ["_law_deck_here", "_law_most"] (sp__law_thread K) := by
  refine F.ok sc__law_thread (fun vs H Q E => ?_) (fun cdv A outer s H vs Q E hr h => ⟨t__law_thread K E, ?_, pure__law_thread h⟩)
  · walk_at "len"
  · have tk := takes_of (X := cxOf (L2.CX PP w) PP w K mg base ["_law_deck_here", "_law_most", "_law_many", "_law_style", "_law_found", "_law_spot"] "_law_thread" (defScope st__law_thread) f cdv A outer s H E) rfl rfl rfl rfl
    have hu := hu_of hr
    exact (pss_cons (ps_par3 (i := 2) (j := 3) (l := 4) (by rfl) sc__law_thread.nd rfl rfl rfl (by decide) (by decide) (by decide) rfl rfl rfl (pa_cons (pe_lst (pa_cons (pe_gd G__law_draw hr (pa_cons (pv 0) (pa_cons (pe_op op_qAdd (pe_callB (call_qMin rfl) (by rfl) T.f_min (by decide +kernel) (pa_cons (pv 1) (pa_cons pe_int pa_nil))) pe_int) pa_nil))) (pa_cons (pe_gd G__law_draw hr (pa_cons (pv 0) (pa_cons (pe_op op_qAdd (pv 1) pe_int) pa_nil))) (pa_cons (pv 1) pa_nil)))) (pa_cons (pe_gd G__law_draw hr (pa_cons (pv 0) (pa_cons pe_int pa_nil))) (pa_cons (pe_lst pa_nil) pa_nil))) (by rfl))
  (pss_cons (ps_for (passes_of rfl) rfl (pi_range1 rfl T.f_range (pa_cons (pe_ix ix_q (pv 2) (pe_gd G__law_draw hr (pa_cons (pv 0) (pa_cons pe_int pa_nil))) (fun _ _ => rfl)) pa_nil)) (pg_name (i := 5) sc__law_thread.nd rfl (Or.inl rfl)) (pss_one (ps_expr (pe_bm PySem.F.plainAttrs_list PySem.F.slot_list_append PySem.F.type_list_append mt_append (pv 4) (pa_cons (pe_gd G__law_parent hr (pa_cons (pv 0) (pa_cons (pv 5) (pa_cons (pv 3) pa_nil)))) pa_nil)))))
  (pss_one (ps_ret (pv 4)))))
theorem ok__law_spoiled (T : Tp K mg) (G__law_draw : Gd PP w K mg base 1 "_law_draw" ["_law_deck_here", "_law_many"] (sp__law_draw K)) (F : FunD K "_law_spoiled" "_law_spoiled" (defArgs st__law_spoiled) (defBody st__law_spoiled) (defScope st__law_spoiled) [] [] f fd) : FnOk PP w K mg base (L2.CX PP w) 2 f fd ["_law_deck_here", "_law_page_here"] (sp__law_spoiled K) := by
  refine F.ok sc__law_spoiled (fun vs H Q E => ?_) (fun cdv A outer s H vs Q E hr h => ⟨t__law_spoiled K E, ?_, pure__law_spoiled h⟩)
  · walk_at "len"
  · have tk := takes_of (X := cxOf (L2.CX PP w) PP w K mg base ["_law_deck_here", "_law_page_here", "_law_spot", "_law_words", "_law_at", "_law_signs", "_law_odd", "_law_sign", "_law_word", "_law_some"] "_law_spoiled" (defScope st__law_spoiled) f cdv A outer s H E) rfl rfl rfl rfl
    have hu := hu_of hr
    exact (pss_cons (ps_par (i := 2) (j := 3) (by rfl) sc__law_spoiled.nd rfl rfl (by decide) rfl rfl (pa_cons (pe_gd G__law_draw hr (pa_cons (pv 0) (pa_cons (pe_op op_qAdd (pe_callB call_qLen (by rfl) T.f_len (by decide +kernel) (pa_cons (pv 1) pa_nil)) pe_int) pa_nil))) (pa_cons (pe_bm PySem.F.plainAttrs_str PySem.F.slot_str_split PySem.F.type_str_split mt_qSplit (pv 1) (pa_cons pe_str pa_nil)) pa_nil)) (by rfl))
  (pss_cons (ps_par (i := 4) (j := 5) (by rfl) sc__law_spoiled.nd rfl rfl (by decide) rfl rfl (pa_cons (pe_gd G__law_draw hr (pa_cons (pv 0) (pa_cons (pe_callB call_qLen (by rfl) T.f_len (by decide +kernel) (pa_cons (pv 3) pa_nil)) pa_nil))) (pa_cons (pe_lst (pa_cons pe_str (pa_cons pe_str (pa_cons pe_str (pa_cons pe_str (pa_cons pe_str (pa_cons pe_str (pa_cons pe_str (pa_cons pe_str (pa_cons pe_str (pa_cons pe_str pa_nil))))))))))) pa_nil)) (by rfl))
  (pss_cons (ps_set (i := 6) sc__law_spoiled.nd rfl (Or.inl rfl) (pe_lst (pa_cons pe_str (pa_cons pe_str (pa_cons pe_str (pa_cons pe_str (pa_cons pe_str (pa_cons pe_str (pa_cons pe_str (pa_cons pe_str (pa_cons pe_str (pa_cons pe_str (pa_cons pe_str (pa_cons (pe_op op_qMul pe_str pe_int) (pa_cons pe_str pa_nil)))))))))))))))
  (pss_cons (ps_par (i := 7) (j := 8) (by rfl) sc__law_spoiled.nd rfl rfl (by decide) rfl rfl (pa_cons (pe_ix ix_q (pv 5) (pe_gd G__law_draw hr (pa_cons (pv 0) (pa_cons (pe_callB call_qLen (by rfl) T.f_len (by decide +kernel) (pa_cons (pv 5) pa_nil)) pa_nil))) (fun _ _ => rfl)) (pa_cons (pe_ix ix_q (pv 6) (pe_gd G__law_draw hr (pa_cons (pv 0) (pa_cons (pe_callB call_qLen (by rfl) T.f_len (by decide +kernel) (pa_cons (pv 6) pa_nil)) pa_nil))) (fun _ _ => rfl)) pa_nil)) (by rfl))
  (pss_cons (ps_set (i := 9) sc__law_spoiled.nd rfl (Or.inl rfl) (pe_lst (pa_cons (pe_op op_qAdd (pe_op op_qAdd (pe_slice sl_q (pv 1) po_none (po_some (pv 2))) (pv 7)) (pe_slice sl_q (pv 1) (po_some (pv 2)) po_none)) (pa_cons (pe_op op_qAdd (pe_slice sl_q (pv 1) po_none (po_some (pv 2))) (pe_slice sl_q (pv 1) (po_some (pe_op op_qAdd (pv 2) pe_int)) po_none)) (pa_cons (pe_op op_qAdd (pe_op op_qAdd (pe_slice sl_q (pv 1) po_none (po_some (pv 2))) (pv 7)) (pe_slice sl_q (pv 1) (po_some (pe_op op_qAdd (pv 2) pe_int)) po_none)) pa_nil)))))
  (pss_cons (ps_set (i := 9) sc__law_spoiled.nd rfl (Or.inl rfl) (pe_op op_qAdd (pv 9) (pe_lst (pa_cons (pe_bm PySem.F.plainAttrs_str PySem.F.slot_str_join PySem.F.type_str_join mt_qJoin pe_str (pa_cons (pe_op op_qAdd (pe_slice sl_q (pv 3) po_none (po_some (pv 4))) (pe_slice sl_q (pv 3) (po_some (pe_op op_qAdd (pv 4) pe_int)) po_none)) pa_nil)) (pa_cons (pe_bm PySem.F.plainAttrs_str PySem.F.slot_str_join PySem.F.type_str_join mt_qJoin pe_str (pa_cons (pe_op op_qAdd (pe_slice sl_q (pv 3) po_none (po_some (pe_op op_qAdd (pv 4) pe_int))) (pe_slice sl_q (pv 3) (po_some (pv 4)) po_none)) pa_nil)) pa_nil)))))
  (pss_cons (ps_set (i := 9) sc__law_spoiled.nd rfl (Or.inl rfl) (pe_op op_qAdd (pv 9) (pe_lst (pa_cons (pe_bm PySem.F.plainAttrs_str PySem.F.slot_str_join PySem.F.type_str_join mt_qJoin pe_str (pa_cons (pe_op op_qAdd (pe_op op_qAdd (pe_slice sl_q (pv 3) po_none (po_some (pv 4))) (pe_lst (pa_cons (pv 8) pa_nil))) (pe_slice sl_q (pv 3) (po_some (pe_op op_qAdd (pv 4) pe_int)) po_none)) pa_nil)) (pa_cons (pe_bm PySem.F.plainAttrs_str PySem.F.slot_str_join PySem.F.type_str_join mt_qJoin pe_str (pa_cons (pe_op op_qAdd (pe_slice sl_q (pv 3) (po_some (pv 4)) po_none) (pe_slice sl_q (pv 3) po_none (po_some (pv 4)))) pa_nil)) pa_nil)))))
  (pss_one (ps_ret (pe_slice sl_q (pe_ix ix_q (pv 9) (pe_gd G__law_draw hr (pa_cons (pv 0) (pa_cons (pe_callB call_qLen (by rfl) T.f_len (by decide +kernel) (pa_cons (pv 9) pa_nil)) pa_nil))) (fun _ _ => rfl)) po_none (po_some pe_int)))))))))))
theorem ok__law_number (T : Tp K mg)  (F : FunD K "_law_number" "_law_number" (defArgs st__law_number) (defBody st__law_number) (defScope st__law_number) [] [] f fd) : FnOk PP w K mg base (L2.CX PP w) 1 f fd ["_law_word"] (sp__law_number K) := by
  refine F.ok sc__law_number (fun vs H Q E => ?_) (fun cdv A outer s H vs Q E hr h => ⟨t__law_number K E, ?_, pure__law_number h⟩)
  · walk_at "len"
  · have tk := takes_of (X := cxOf (L2.CX PP w) PP w K mg base ["_law_word", "_law_odd", "_law_sign"] "_law_number" (defScope st__law_number) f cdv A outer s H E) rfl rfl rfl rfl
    have hu := hu_of hr
    exact (pss_cons (ps_setLc (i := 1) (own := [("_law_sign", 2)]) (g := (gName 2)) (tt := (tTest (tOp qNotInG (tVar 2) (tC (.str "0123456789"))))) rfl sc__law_number.nd rfl rfl (sw_true rfl rfl rfl (by decide +kernel)) (pi_str (pv 0)) (blkOk_by (own := [("_law_sign", 2)]) (N := ["_law_word", "_law_odd", "_law_sign"]) (sc := defScope st__law_number) (by decide +kernel)) (fun _ _ _ _ _ => (pg_name (i := 2) sc__law_number.nd rfl (Or.inl rfl))) (fun _ _ _ _ _ => (pts_one (pt_cmpR op_qNotInG (pv 2) pe_str (by rfl)))) (fun _ _ _ _ _ => (pv 2)))
  (pss_cons (ps_if (PW.pt (pw_or (pt_cmpR (op_qNe hr) (pv 1) (pe_lst pa_nil) (nomark _)) (pw_or (pt_cmpR (op_qEq hr) (pv 0) pe_str (nomark _)) (pw_or1 (PW.pt (pw_and (pt_cmpR (op_qEq hr) (pe_ix ix_q (pv 0) pe_int (fun _ _ => rfl)) pe_str (nomark _)) (pw_and1 (pt_cmpR (op_qNe hr) (pv 0) pe_str (nomark _))))))))) (pss_one (ps_ret pe_non)) pss_nil)
  (pss_one (ps_ret (pe_callTy call_qIntL (by rfl) T.f_int (by decide +kernel) (pa_cons (pv 0) pa_nil))))))
theorem ok__law_read (T : Tp K mg) (G__law_number : Gd PP w K mg base 1 "_law_number" ["_law_word"] (sp__law_number K)) (F : FunD K "_law_read" "_law_read" (defArgs st__law_read) (defBody st__law_read) (defScope st__law_read) [] [] f fd) : FnOk PP w K mg base (L2.CX PP w) 2 f fd ["_law_page_here"] (sp__law_read K) := by
  refine F.ok sc__law_read (fun vs H Q E => ?_) (fun cdv A outer s H vs Q E hr h => ⟨t__law_read K E, ?_, pure__law_read h⟩)
  · walk_at "len"
  · have tk := takes_of (X := cxOf (L2.CX PP w) PP w K mg base ["_law_page_here", "_law_found", "_law_spot", "_law_word", "_law_number_here"] "_law_read" (defScope st__law_read) f cdv A outer s H E) rfl rfl rfl rfl
    have hu := hu_of hr
    exact (pss_cons (ps_set (i := 1) sc__law_read.nd rfl (Or.inl rfl) (pe_lst pa_nil))
  (pss_cons (ps_for (passes_of rfl) rfl (pi_enum (by rfl) T.f_enumerate (pa_cons (pe_ifExp (pt_cmpR (op_qNe hr) (pv 0) pe_str (nomark _)) (pe_bm PySem.F.plainAttrs_str PySem.F.slot_str_split PySem.F.type_str_split mt_qSplit (pv 0) (pa_cons pe_str pa_nil)) (pe_lst pa_nil)) pa_nil)) (pg_tup rfl (pgs_cons (pg_name (i := 2) sc__law_read.nd rfl (Or.inl rfl)) (pgs_cons (pg_name (i := 3) sc__law_read.nd rfl (Or.inl rfl)) pgs_nil))) (pss_cons (ps_set (i := 4) sc__law_read.nd rfl (Or.inl rfl) (pe_gd G__law_number hr (pa_cons (pv 3) pa_nil)))
  (pss_cons (ps_if (PW.pt (pw_or (pt_cmpR op_qGt (pv 2) pe_int (nomark _)) (pw_or1 (PW.pt (pw_and (pt_cmpR (op_qNe hr) (pv 3) pe_str (nomark _)) (pw_and1 (PW.pt (pw_or (pt_cmpR op_qIs (pv 4) pe_non (nomark _)) (pw_or1 (pt_cmpR op_qGe (pv 4) (pv 2) (nomark _))))))))))) (pss_one (ps_ret (pv 2))) pss_nil)
  (pss_one (ps_expr (pe_bm PySem.F.plainAttrs_list PySem.F.slot_list_append PySem.F.type_list_append mt_append (pv 1) (pa_cons (pv 4) pa_nil)))))))
  (pss_one (ps_ret (pv 1)))))
theorem ok__law_same {n k : Nat} (T : Tp K mg) (G__law_same : Gd PP w K mg base k "_law_same" ["_law_found", "_law_due"] (spSame K n)) (F : FunD K "_law_same" "_law_same" (defArgs st__law_same) (defBody st__law_same) (defScope st__law_same) [] [] f fd) : FnOk PP w K mg base (L2.CX PP w) (k + 1) f fd ["_law_found", "_law_due"] (spSame K (n + 1)) := by
  refine F.ok sc__law_same (fun vs H Q E => ?_) (fun cdv A outer s H vs Q E hr h => ⟨t__law_same n K E, ?_, pure__law_same h⟩)
  · walk_at "len"
  · have tk := takes_of (X := cxOf (L2.CX PP w) PP w K mg base ["_law_found", "_law_due", "_law_one", "_law_two"] "_law_same" (defScope st__law_same) f cdv A outer s H E) rfl rfl rfl rfl
    have hu := hu_of hr
    exact (pss_cons (ps_if (pt_val (pe_callB call_qIsiT (by rfl) T.f_isinstance (by decide +kernel) (pa_cons (pv 1) (pa_cons (pe_tup (pa_cons (pe_bltn (v := .ty "list") (u := .type "list") rfl T.f_list (by decide +kernel) rfl) (pa_cons (pe_bltn (v := .ty "tuple") (u := .type "tuple") rfl T.f_tuple (by decide +kernel) rfl) pa_nil))) pa_nil)))) (pss_cons (ps_if (PW.pt (pw_or (pt_cmpR (op_qNe hr) (pe_callB call_qIsi (by rfl) T.f_isinstance (by decide +kernel) (pa_cons (pv 0) (pa_cons (pe_bltn (v := .ty "list") (u := .type "list") rfl T.f_list (by decide +kernel) rfl) pa_nil))) (pe_callB call_qIsi (by rfl) T.f_isinstance (by decide +kernel) (pa_cons (pv 1) (pa_cons (pe_bltn (v := .ty "list") (u := .type "list") rfl T.f_list (by decide +kernel) rfl) pa_nil))) (nomark _)) (pw_or1 (pt_cmpR (op_qNe hr) (pe_callB call_qIsi (by rfl) T.f_isinstance (by decide +kernel) (pa_cons (pv 0) (pa_cons (pe_bltn (v := .ty "tuple") (u := .type "tuple") rfl T.f_tuple (by decide +kernel) rfl) pa_nil))) (pe_callB call_qIsi (by rfl) T.f_isinstance (by decide +kernel) (pa_cons (pv 1) (pa_cons (pe_bltn (v := .ty "tuple") (u := .type "tuple") rfl T.f_tuple (by decide +kernel) rfl) pa_nil))) (nomark _))))) (pss_one (ps_ret pe_bl)) pss_nil)
  (pss_cons (ps_if (pt_cmpR (op_qNe hr) (pe_callB call_qLen (by rfl) T.f_len (by decide +kernel) (pa_cons (pv 0) pa_nil)) (pe_callB call_qLen (by rfl) T.f_len (by decide +kernel) (pa_cons (pv 1) pa_nil)) (nomark _)) (pss_one (ps_ret pe_bl)) pss_nil)
  (pss_one (ps_ret (pe_cmpR (op_qEq hr) (pe_lc (own := [("_law_one", 2), ("_law_two", 3)]) (g := (gTup K 2 (gCons (gName 2) (gCons (gName 3) gNil)))) (tt := (tNot (tB (tCall (spSame K n) [] E0 (tCons (tVar 2) (tCons (tVar 3) tNil)))))) rfl sc__law_same.nd (pi_or2 (pi_zip (by rfl) T.f_zip (pa_cons (pv 0) (pa_cons (pv 1) pa_nil))) (pi_zipT (by rfl) T.f_zip (pa_cons (pv 0) (pa_cons (pv 1) pa_nil)))) (blkOk_by (own := [("_law_one", 2), ("_law_two", 3)]) (N := ["_law_found", "_law_due", "_law_one", "_law_two"]) (sc := defScope st__law_same) (by decide +kernel)) (fun _ _ _ _ _ => (pg_tup rfl (pgs_cons (pg_name (i := 2) sc__law_same.nd rfl (Or.inl rfl)) (pgs_cons (pg_name (i := 3) sc__law_same.nd rfl (Or.inl rfl)) pgs_nil)))) (fun _ _ _ _ _ => (pts_one (pt_not (pt_val (pe_gd (hk := Nat.le_refl _) G__law_same hr (pa_cons (pv 2) (pa_cons (pv 3) pa_nil))))))) (fun _ _ _ _ _ => pe_int)) (pe_lst pa_nil) (nomark _)))))) pss_nil)
  (pss_cons (ps_if (PW.pt (pw_or (pt_cmpR op_qIs (pv 1) pe_non (nomark _)) (pw_or1 (pt_cmpR op_qIs (pv 0) pe_non (nomark _))))) (pss_one (ps_ret (pe_and (pe_cmpR op_qIs (pv 1) pe_non (nomark _)) (pe_one (pe_cmpR op_qIs (pv 0) pe_non (nomark _)))))) pss_nil)
  (pss_one (ps_ret (pe_and (pe_cmpR (op_qEq hr) (pe_callB call_qIsi (by rfl) T.f_isinstance (by decide +kernel) (pa_cons (pv 0) (pa_cons (pe_bltn (v := .ty "bool") (u := .type "bool") rfl T.f_bool (by decide +kernel) rfl) pa_nil))) (pe_callB call_qIsi (by rfl) T.f_isinstance (by decide +kernel) (pa_cons (pv 1) (pa_cons (pe_bltn (v := .ty "bool") (u := .type "bool") rfl T.f_bool (by decide +kernel) rfl) pa_nil))) (nomark _)) (pe_one (pe_cmpR (op_qEq hr) (pv 0) (pv 1) (nomark _))))))))
theorem ok_InvalidText___init__ (T : Tp K mg)  (F : FunD K "__init__" "InvalidText.__init__" (defArgs st_InvalidText___init__) (defBody st_InvalidText___init__) (defScope st_InvalidText___init__) [.non] [] f fd) : FnOk PP w K mg base (L2.CX PP w) 1 f fd ["self", "index"] (sp_InvalidText___init__ K) := by
  refine F.ok sc_InvalidText___init__ (fun vs H Q E => ?_) (fun cdv A outer s H vs Q E hr h => ⟨t_InvalidText___init__ K E, ?_, pure_InvalidText___init__ h⟩)
  · walk_at "len"
  · have tk := takes_of (X := cxOf (L2.CX PP w) PP w K mg base ["self", "index"] "InvalidText.__init__" (defScope st_InvalidText___init__) f cdv A outer s H E) rfl rfl rfl rfl
    have hu := hu_of hr
    exact (pss_one (ps_ost (pv 0) (pv 1)))
theorem ok_require_string (T : Tp K mg) (J_InvalidText : Gi PP w K mg base 1 "InvalidText" ["self", "index"] (sp_InvalidText___init__ K) [.non]) (F : FunD K "require_string" "require_string" (defArgs st_require_string) (defBody st_require_string) (defScope st_require_string) [] [] f fd) : FnOk PP w K mg base (L2.CX PP w) 3 f fd ["text"] (sp_require_string K) := by
  refine F.ok sc_require_string (fun vs H Q E => ?_) (fun cdv A outer s H vs Q E hr h => ⟨t_require_string K E, ?_, pure_require_string h⟩)
  · walk_at "len"
  · have tk := takes_of (X := cxOf (L2.CX PP w) PP w K mg base ["text"] "require_string" (defScope st_require_string) f cdv A outer s H E) rfl rfl rfl rfl
    have hu := hu_of hr
    exact (pss_one (ps_if (pt_not (pt_val (pe_callB call_qIsi (by rfl) T.f_isinstance (by decide +kernel) (pa_cons (pv 0) (pa_cons (pe_bltn (v := .ty "str") (u := .type "str") rfl T.f_str (by decide +kernel) rfl) pa_nil))))) (pss_one (ps_rsO0 tk J_InvalidText hr)) pss_nil))
theorem ok_number_in (T : Tp K mg)  (F : FunD K "number_in" "number_in" (defArgs st_number_in) (defBody st_number_in) (defScope st_number_in) [] [] f fd) : FnOk PP w K mg base (L2.CX PP w) 1 f fd ["word"] (sp_number_in K) := by
  refine F.ok sc_number_in (fun vs H Q E => ?_) (fun cdv A outer s H vs Q E hr h => ⟨t_number_in K E, ?_, pure_number_in h⟩)
  · walk_at "len"
  · have tk := takes_of (X := cxOf (L2.CX PP w) PP w K mg base ["word", "sign"] "number_in" (defScope st_number_in) f cdv A outer s H E) rfl rfl rfl rfl
    have hu := hu_of hr
    exact (pss_cons (ps_if (PW.pt (pw_or (pt_cmpR (op_qEq hr) (pv 0) pe_str (nomark _)) (pw_or1 (pt_not (pt_val (pe_callB (cr_all rfl) (by rfl) T.f_all (by decide +kernel) (pa_cons (pe_lc (own := [("sign", 1)]) (g := (gName 1)) (tt := tYes) rfl sc_number_in.nd (pi_str (pv 0)) (blkOk_by (own := [("sign", 1)]) (N := ["word", "sign"]) (sc := defScope st_number_in) (by decide +kernel)) (fun _ _ _ _ _ => (pg_name (i := 1) sc_number_in.nd rfl (Or.inl rfl))) (fun _ _ _ _ _ => pts_nil) (fun _ _ _ _ _ => (pe_cmpR op_qInG (pv 1) (pe_gs T.s_DIGITS) (by rfl)))) pa_nil))))))) (pss_one (ps_ret pe_non)) pss_nil)
  (pss_one (ps_ret (pe_ifExp (PW.pt (pw_and (pt_cmpR (op_qEq hr) (pe_ix ix_q (pv 0) pe_int (fun _ _ => rfl)) pe_str (nomark _)) (pw_and1 (pt_cmpR (op_qNe hr) (pv 0) pe_str (nomark _))))) pe_non (pe_callTy call_qIntL (by rfl) T.f_int (by decide +kernel) (pa_cons (pv 0) pa_nil))))))
theorem ok_parse_thread (T : Tp K mg) (G_require_string : Gd PP w K mg base 3 "require_string" ["text"] (sp_require_string K)) (G_number_in : Gd PP w K mg base 1 "number_in" ["word"] (sp_number_in K)) (I_InvalidText : Gi PP w K mg base 1 "InvalidText" ["self", "index"] (sp_InvalidText___init__ K) []) (F : FunD K "parse_thread" "parse_thread" (defArgs st_parse_thread) (defBody st_parse_thread) (defScope st_parse_thread) [] [] f fd) : FnOk PP w K mg base (L2.CX PP w) 4 f fd ["text"] (sp_parse_thread K) := by
  refine F.ok sc_parse_thread (fun vs H Q E => ?_) (fun cdv A outer s H vs Q E hr h => ⟨t_parse_thread K E, ?_, pure_parse_thread h⟩)
  · walk_at "len"
  · have tk := takes_of (X := cxOf (L2.CX PP w) PP w K mg base ["text", "found", "index", "word", "number"] "parse_thread" (defScope st_parse_thread) f cdv A outer s H E) rfl rfl rfl rfl
    have hu := hu_of hr
    exact (pss_cons (ps_expr (pe_gdX tk G_require_string hr (pa_cons (pv 0) pa_nil)))
  (pss_cons (ps_set (i := 1) sc_parse_thread.nd rfl (Or.inl rfl) (pe_lst pa_nil))
  (pss_cons (ps_for (passes_of rfl) rfl (pi_enum (by rfl) T.f_enumerate (pa_cons (pe_ifExp (pt_cmpR (op_qNe hr) (pv 0) pe_str (nomark _)) (pe_bm PySem.F.plainAttrs_str PySem.F.slot_str_split PySem.F.type_str_split mt_qSplit (pv 0) (pa_cons pe_str pa_nil)) (pe_lst pa_nil)) pa_nil)) (pg_tup rfl (pgs_cons (pg_name (i := 2) sc_parse_thread.nd rfl (Or.inl rfl)) (pgs_cons (pg_name (i := 3) sc_parse_thread.nd rfl (Or.inl rfl)) pgs_nil))) (pss_cons (ps_set (i := 4) sc_parse_thread.nd rfl (Or.inl rfl) (pe_gd G_number_in hr (pa_cons (pv 3) pa_nil)))
  (pss_cons (ps_if (PW.pt (pw_or (pt_cmpR (op_qEq hr) (pv 2) (pe_gi T.i_MOST_COMMENTS) (nomark _)) (pw_or1 (PW.pt (pw_and (pt_cmpR (op_qNe hr) (pv 3) (pe_gs T.s_NONE) (nomark _)) (pw_and1 (PW.pt (pw_or (pt_cmpR op_qIs (pv 4) pe_non (nomark _)) (pw_or1 (pt_cmpR op_qGe (pv 4) (pv 2) (nomark _))))))))))) (pss_one (ps_rsO tk I_InvalidText hr (pa_cons (pv 2) pa_nil))) pss_nil)
  (pss_one (ps_expr (pe_bm PySem.F.plainAttrs_list PySem.F.slot_list_append PySem.F.type_list_append mt_append (pv 1) (pa_cons (pv 4) pa_nil)))))))
  (pss_one (ps_ret (pv 1))))))
theorem ok__law_told (T : Tp K mg) (G_parse_thread : Gd PP w K mg base 4 "parse_thread" ["text"] (sp_parse_thread K)) (Fk_parse_thread : Gdk PP w K mg base 4 "parse_thread" ["text"] ["text"] (sp_parse_thread K)) (F : FunD K "_law_told" "_law_told" (defArgs st__law_told) (defBody st__law_told) (defScope st__law_told) [] [] f fd) : FnOk PP w K mg base (L2.CX PP w) 5 f fd ["_law_thing", "_law_way"] (sp5__law_told K) := by
  refine F.ok sc__law_told (fun vs H Q E => ?_) (fun cdv A outer s H vs Q E hr h => ⟨t5__law_told K E, ?_, pure5__law_told h⟩)
  · walk_at "len"
  · have tk := takes_of (X := cxOf (L2.CX PP w) PP w K mg base ["_law_thing", "_law_way", "e"] "_law_told" (defScope st__law_told) f cdv A outer s H E) rfl rfl rfl rfl
    have hu := hu_of hr
    exact (pss_one (ps_try_all (tb := fun W => (tRet (tIf (tTest (tOp (qEq K) (tVar 1) (tC (.int 0)))) (tCallS (sp_parse_thread K) (WE W) (tCons (tVar 0) tNil)) (tCallK (sp_parse_thread K) 1 (WE W) (tCons (tVar 0) tNil))))) (Wout := (wF E)) (l := [⟨(.ref (He.ga K "InvalidText")), some 2, fun a cls d => (tRet (tTup (tCons (tXf a cls d (He.ga K "InvalidText") "index" (tVar 2)) tNil)))⟩, ⟨(.ref (He.ga K "ThreadError")), none, fun a cls d => (tRet (tTup (tCons (tC (.str "odd")) tNil)))⟩]) rfl rfl sc__law_told.nd tk (fun W pn xe tk2 _ => (pss_one (ps_ret (pe_ifExp (pt_cmpR (op_qEq hr) (pv 1) pe_int (nomark _)) (pe_gdX tk2 G_parse_thread hr (pa_cons (pv 0) pa_nil)) (pe_gdkX tk2 Fk_parse_thread hr (pk_cons (pv 0) pk_nil)))))) (Hds.named (i := 2) ⟨rfl, by decide, .inl T.g_InvalidText⟩ rfl rfl (fun a oe cls d pn hz hf => (pss_one (ps_ret (pe_tup (pa_cons (pe_xf T.xf_InvalidText_index.1 T.xf_InvalidText_index.2 hz hf (pv 2)) pa_nil))))) (Hds.plain ⟨rfl, by decide, .inl T.x_ThreadError.gl⟩ (fun a oe cls d pn hz hf => (pss_one (ps_ret (pe_tup (pa_cons pe_str pa_nil))))) Hds.nil))))
theorem ok__law_right (T : Tp K mg) (G__law_read : Gd PP w K mg base 2 "_law_read" ["_law_page_here"] (sp__law_read K)) (G__law_same : Gd PP w K mg base 6 "_law_same" ["_law_found", "_law_due"] (sp__law_same K)) (G__law_told : Gd PP w K mg base 5 "_law_told" ["_law_thing", "_law_way"] (sp5__law_told K)) (F : FunD K "_law_right" "_law_right" (defArgs st__law_right) (defBody st__law_right) (defScope st__law_right) [] [] f fd) : FnOk PP w K mg base (L2.CX PP w) 7 f fd ["_law_thing"] (sp__law_right K) := by
  refine F.ok sc__law_right (fun vs H Q E => ?_) (fun cdv A outer s H vs Q E hr h => ⟨t__law_right K E, ?_, pure__law_right h⟩)
  · walk_at "len"
  · have tk := takes_of (X := cxOf (L2.CX PP w) PP w K mg base ["_law_thing", "_law_due", "_law_found"] "_law_right" (defScope st__law_right) f cdv A outer s H E) rfl rfl rfl rfl
    have hu := hu_of hr
    exact (pss_cons (ps_set (i := 1) sc__law_right.nd rfl (Or.inl rfl) (pe_tup (pa_cons pe_non pa_nil)))
  (pss_cons (ps_if (pt_val (pe_callB call_qIsi (by rfl) T.f_isinstance (by decide +kernel) (pa_cons (pv 0) (pa_cons (pe_bltn (v := .ty "str") (u := .type "str") rfl T.f_str (by decide +kernel) rfl) pa_nil)))) (pss_cons (ps_set (i := 2) sc__law_right.nd rfl (Or.inl rfl) (pe_gd G__law_read hr (pa_cons (pv 0) pa_nil)))
  (pss_one (ps_set (i := 1) sc__law_right.nd rfl (Or.inl rfl) (pe_ifExp (pt_val (pe_callB call_qIsi (by rfl) T.f_isinstance (by decide +kernel) (pa_cons (pv 2) (pa_cons (pe_bltn (v := .ty "list") (u := .type "list") rfl T.f_list (by decide +kernel) rfl) pa_nil)))) (pv 2) (pe_tup (pa_cons (pv 2) pa_nil)))))) pss_nil)
  (pss_one (ps_ret (pe_gd G__law_same hr (pa_cons (pe_lst (pa_cons (pe_gd G__law_told hr (pa_cons (pv 0) (pa_cons pe_int pa_nil))) (pa_cons (pe_gd G__law_told hr (pa_cons (pv 0) (pa_cons pe_int pa_nil))) pa_nil))) (pa_cons (pe_lst (pa_cons (pv 1) (pa_cons (pv 1) pa_nil))) pa_nil)))))))
theorem ok_law (T : Tp K mg) (G__law_deck : Gd PP w K mg base 1 "_law_deck" ["_law_script"] (sp__law_deck K)) (G__law_page : Gd PP w K mg base 1 "_law_page" ["_law_some"] (sp__law_page K)) (G__law_thread : Gd PP w K mg base 3 "_law_thread" ["_law_deck_here", "_law_most"] (sp__law_thread K)) (G__law_draw : Gd PP w K mg base 1 "_law_draw" ["_law_deck_here", "_law_many"] (sp__law_draw K)) (G__law_spoiled : Gd PP w K mg base 2 "_law_spoiled" ["_law_deck_here", "_law_page_here"] (sp__law_spoiled K)) (G__law_right : Gd PP w K mg base 7 "_law_right" ["_law_thing"] (sp__law_right K)) (F : FunD K "law" "law" (defArgs st_law) (defBody st_law) (defScope st_law) [] [] f fd) : FnG PP w K mg base (L2.CX PP w) 8 f fd ["_law_script"] (sp_law K) := by
  refine fnG_of F sc_law (fun vs H Q E => ?_) (fun cdv A outer s H vs Q E hgd hr h => ⟨t_law K E, ?_, pure_law h⟩)
  · walk_at "len"
  · have tk := takes_of (X := cxOf (L2.CX PP w) PP w K mg base ["_law_script", "_law_deck_here", "_law_lap", "_law_turn", "_law_page_here", "_law_change", "_law_thing", "_law_fixed"] "law" (defScope st_law) f cdv A outer s H E) rfl rfl rfl rfl
    have hu := hu_of hr
    exact (pss_cons (ps_set (i := 1) sc_law.nd rfl (Or.inl rfl) (pe_gd G__law_deck hr (pa_cons (pv 0) pa_nil)))
  (pss_cons (ps_for (passes_of rfl) rfl (pi_range1 rfl T.f_range (pa_cons (pe_callB (call_qMax rfl) (by rfl) T.f_max (by decide +kernel) (pa_cons pe_int (pa_cons (pe_callB (call_qMin rfl) (by rfl) T.f_min (by decide +kernel) (pa_cons pe_int (pa_cons (pe_callB call_qLen (by rfl) T.f_len (by decide +kernel) (pa_cons (pv 0) pa_nil)) pa_nil))) pa_nil))) pa_nil)) (pg_name (i := 2) sc_law.nd rfl (Or.inl rfl)) (pss_cons (ps_for (passes_of rfl) rfl (pi_range1 rfl T.f_range (pa_cons pe_int pa_nil)) (pg_name (i := 3) sc_law.nd rfl (Or.inl rfl)) (pss_cons (ps_set (i := 4) sc_law.nd rfl (Or.inl rfl) (pe_gd G__law_page hr (pa_cons (pe_gd G__law_thread hr (pa_cons (pv 1) (pa_cons (pe_ix ix_q (pe_lst (pa_cons pe_int (pa_cons pe_int pa_nil))) (pe_gd G__law_draw hr (pa_cons (pv 1) (pa_cons pe_int pa_nil))) (fun _ _ => rfl)) pa_nil))) pa_nil)))
  (pss_cons (ps_for (passes_of rfl) rfl (pi_range1 rfl T.f_range (pa_cons (pe_gd G__law_draw hr (pa_cons (pv 1) (pa_cons pe_int pa_nil))) pa_nil)) (pg_name (i := 5) sc_law.nd rfl (Or.inl rfl)) (pss_one (ps_set (i := 4) sc_law.nd rfl (Or.inl rfl) (pe_gd G__law_spoiled hr (pa_cons (pv 1) (pa_cons (pv 4) pa_nil))))))
  (pss_one (ps_if (pt_not (pt_val (pe_gd G__law_right hr (pa_cons (pv 4) pa_nil)))) (pss_one (ps_ret pe_bl)) pss_nil)))))
  (pss_one (ps_for (passes_of rfl) rfl (pi_seq (pe_lst (pa_cons pe_non (pa_cons pe_int (pa_cons pe_bl (pa_cons (pe_tup pa_nil) (pa_cons (pe_lst pa_nil) (pa_cons (pe_lst (pa_cons pe_str pa_nil)) (pa_cons (pe_lst (pa_cons pe_non pa_nil)) (pa_cons pe_dnewK (pa_cons (pe_tup (pa_cons pe_str pa_nil)) (pa_cons (pe_op op_qPow pe_int pe_int) pa_nil)))))))))))) (pg_name (i := 6) sc_law.nd rfl (Or.inl rfl)) (pss_one (ps_if (pt_not (pt_val (pe_gd G__law_right hr (pa_cons (pv 6) pa_nil)))) (pss_one (ps_ret pe_bl)) pss_nil))))))
  (pss_cons (ps_set (i := 7) sc_law.nd rfl (Or.inl rfl) (pe_lst (pa_cons pe_str (pa_cons pe_str (pa_cons pe_str (pa_cons pe_str (pa_cons pe_str (pa_cons pe_str (pa_cons pe_str (pa_cons pe_str (pa_cons pe_str (pa_cons pe_str (pa_cons pe_str (pa_cons pe_str (pa_cons pe_str (pa_cons pe_str pa_nil))))))))))))))))
  (pss_cons (ps_set (i := 7) sc_law.nd rfl (Or.inl rfl) (pe_op op_qAdd (pv 7) (pe_lst (pa_cons (pe_bm PySem.F.plainAttrs_str PySem.F.slot_str_join PySem.F.type_str_join mt_qJoin pe_str (pa_cons (pe_op op_qMul (pe_lst (pa_cons pe_str pa_nil)) pe_int) pa_nil)) (pa_cons (pe_bm PySem.F.plainAttrs_str PySem.F.slot_str_join PySem.F.type_str_join mt_qJoin pe_str (pa_cons (pe_op op_qMul (pe_lst (pa_cons pe_str pa_nil)) pe_int) pa_nil)) (pa_cons (pe_bm PySem.F.plainAttrs_str PySem.F.slot_str_join PySem.F.type_str_join mt_qJoin pe_str (pa_cons (pe_op op_qAdd (pe_op op_qMul (pe_lst (pa_cons pe_str pa_nil)) pe_int) (pe_lst (pa_cons pe_str pa_nil))) pa_nil)) (pa_cons (pe_bm PySem.F.plainAttrs_str PySem.F.slot_str_join PySem.F.type_str_join mt_qJoin pe_str (pa_cons (pe_op op_qMul (pe_lst (pa_cons pe_str pa_nil)) pe_int) pa_nil)) pa_nil)))))))
  (pss_cons (ps_expr (pe_bm PySem.F.plainAttrs_list PySem.F.slot_list_append PySem.F.type_list_append mt_append (pv 7) (pa_cons (pe_op op_qAdd (pe_op op_qMul pe_str pe_int) pe_str) pa_nil)))
  (pss_one (ps_ret (pe_cmpR (op_qEq hr) (pe_lc (own := [("_law_page_here", 4)]) (g := (gName 4)) (tt := (tNot (tB (tCall (sp__law_right K) [] E0 (tCons (tVar 4) tNil))))) rfl sc_law.nd (pi_seq (pv 7)) (blkOk_by (own := [("_law_page_here", 4)]) (N := ["_law_script", "_law_deck_here", "_law_lap", "_law_turn", "_law_page_here", "_law_change", "_law_thing", "_law_fixed"]) (sc := defScope st_law) (by decide +kernel)) (fun _ _ _ _ _ => (pg_name (i := 4) sc_law.nd rfl (Or.inl rfl))) (fun _ _ _ _ _ => (pts_one (pt_not (pt_val (pe_gd G__law_right hr (pa_cons (pv 4) pa_nil)))))) (fun _ _ _ _ _ => (pv 4))) (pe_lst pa_nil) (nomark _)))))))))
end
def d__law_deck : He5.DefA := ⟨fun K => He.ga K "_law_deck", "_law_deck", "_law_deck", defArgs st__law_deck, defBody st__law_deck, defScope st__law_deck, [], []⟩
def d__law_page : He5.DefA := ⟨fun K => He.ga K "_law_page", "_law_page", "_law_page", defArgs st__law_page, defBody st__law_page, defScope st__law_page, [], []⟩
def d__law_draw : He5.DefA := ⟨fun K => He.ga K "_law_draw", "_law_draw", "_law_draw", defArgs st__law_draw, defBody st__law_draw, defScope st__law_draw, [], []⟩
def d__law_parent : He5.DefA := ⟨fun K => He.ga K "_law_parent", "_law_parent", "_law_parent", defArgs st__law_parent, defBody st__law_parent, defScope st__law_parent, [], []⟩
def d__law_thread : He5.DefA := ⟨fun K => He.ga K "_law_thread", "_law_thread", "_law_thread", defArgs st__law_thread, defBody st__law_thread, defScope st__law_thread, [], []⟩
def d__law_spoiled : He5.DefA := ⟨fun K => He.ga K "_law_spoiled", "_law_spoiled", "_law_spoiled", defArgs st__law_spoiled, defBody st__law_spoiled, defScope st__law_spoiled, [], []⟩
def d__law_number : He5.DefA := ⟨fun K => He.ga K "_law_number", "_law_number", "_law_number", defArgs st__law_number, defBody st__law_number, defScope st__law_number, [], []⟩
def d__law_read : He5.DefA := ⟨fun K => He.ga K "_law_read", "_law_read", "_law_read", defArgs st__law_read, defBody st__law_read, defScope st__law_read, [], []⟩
def d__law_same : He5.DefA := ⟨fun K => He.ga K "_law_same", "_law_same", "_law_same", defArgs st__law_same, defBody st__law_same, defScope st__law_same, [], []⟩
def d_InvalidText___init__ : He5.DefA := ⟨fun K => He.ma K (He.ga K "InvalidText") "__init__", "__init__", "InvalidText.__init__", defArgs st_InvalidText___init__, defBody st_InvalidText___init__, defScope st_InvalidText___init__, [.non], []⟩
def d_require_string : He5.DefA := ⟨fun K => He.ga K "require_string", "require_string", "require_string", defArgs st_require_string, defBody st_require_string, defScope st_require_string, [], []⟩
def d_number_in : He5.DefA := ⟨fun K => He.ga K "number_in", "number_in", "number_in", defArgs st_number_in, defBody st_number_in, defScope st_number_in, [], []⟩
def d_parse_thread : He5.DefA := ⟨fun K => He.ga K "parse_thread", "parse_thread", "parse_thread", defArgs st_parse_thread, defBody st_parse_thread, defScope st_parse_thread, [], []⟩
def d__law_told : He5.DefA := ⟨fun K => He.ga K "_law_told", "_law_told", "_law_told", defArgs st__law_told, defBody st__law_told, defScope st__law_told, [], []⟩
def d__law_right : He5.DefA := ⟨fun K => He.ga K "_law_right", "_law_right", "_law_right", defArgs st__law_right, defBody st__law_right, defScope st__law_right, [], []⟩
def d_law : He5.DefA := ⟨fun K => He.ga K "law", "law", "law", defArgs st_law, defBody st_law, defScope st_law, [], []⟩
def fn : List He5.DefA := [d__law_deck, d__law_page, d__law_draw, d__law_parent, d__law_thread, d__law_spoiled, d__law_number, d__law_read, d__law_same, d_InvalidText___init__, d_require_string, d_number_in, d_parse_thread, d__law_told, d__law_right, d_law]
def fa : List He.Fa := [.exc "ThreadError", .glo "ThreadError", .free "all", .free "bool", .free "enumerate", .free "int", .free "isinstance", .free "len", .free "list", .free "max", .free "min", .free "range", .free "str", .free "tuple", .free "zip", .glo "InvalidText", .int "MOST_COMMENTS" 40, .str "DIGITS" "0123456789", .str "NONE" "-", .glo "law", .glo "_law_deck", .glo "_law_page", .glo "_law_draw", .glo "_law_parent", .glo "_law_thread", .glo "_law_spoiled", .glo "_law_number", .glo "_law_read", .glo "_law_same", .glo "require_string", .glo "number_in", .glo "parse_thread", .glo "_law_told", .glo "_law_right"]
def exl : List (PySem.W.Frag → Bool) := [fun K => xf2B K "InvalidText" "index", fun K => txB K, fun K => exmB K "InvalidText" "InvalidText"]
def ex (K : PySem.W.Frag) : Bool := exl.all fun p => p K
def su : List SupD := []
abbrev RR : PySem.W.OpenRow := PySem.W.OpenLaw.row PySem.Challenge.rw_flatthreads_k55_texts_of_no_thread
def names : List Str := [("__name__" : Str), ("ThreadError" : Str), ("InvalidText" : Str), ("DIGITS" : Str), ("NONE" : Str), ("MOST_COMMENTS" : Str), ("number_in" : Str), ("require_string" : Str), ("parse_thread" : Str), ("_law_deck" : Str), ("_law_draw" : Str), ("_law_same" : Str), ("_law_parent" : Str), ("_law_thread" : Str), ("_law_page" : Str), ("_law_number" : Str), ("_law_read" : Str), ("_law_told" : Str), ("_law_right" : Str), ("_law_spoiled" : Str)]
abbrev hk : PySem.W.Hook := hookF 5 PP.main.file fa fn su ex
def ob (s : PySem.W.SharedT) : AlF := obsF PP.main.file fa fn su ex (kF 5 (HandSHeadRun.getT s))
theorem ob_eq (s : PySem.W.SharedT) : ob s = hk.obs s.abs := obsF_eq (HandSHeadRun.getT_eq s)
theorem run (w : World) : HandSHeadRun.RunEq RR (PySem.W.view RR.prog [22]) hk ob 4000 names w := by
  intro os
  kernel_rfl
theorem facts {w : World} {K : PySem.W.Frag} {h : Heap} {mg : Str → Option Value} {f : Addr} (X : K.In h) (G : h.Ns mainGlobals mg) (hfa : mg ("law" : Str) = some (.ref f)) (c : SaysF PP.main.file fa fn su ex K) : LawG PySem.Challenge.rw_flatthreads_k55_texts_of_no_thread w K (L2.CX PP w) 8 63 "_law_script" mg f := by
  have cd := c.d
  have T : Tp K mg := ⟨⟨He.glo_ok X G (cd.fact 1 rfl), (He.exc_ok (cd.fact 0 rfl)).1, (He.exc_ok (cd.fact 0 rfl)).2.1, (He.exc_ok (cd.fact 0 rfl)).2.2.1, (He.exc_ok (cd.fact 0 rfl)).2.2.2⟩, He.free_ok X G (cd.fact 2 rfl), He.free_ok X G (cd.fact 3 rfl), He.free_ok X G (cd.fact 4 rfl), He.free_ok X G (cd.fact 5 rfl), He.free_ok X G (cd.fact 6 rfl), He.free_ok X G (cd.fact 7 rfl), He.free_ok X G (cd.fact 8 rfl), He.free_ok X G (cd.fact 9 rfl), He.free_ok X G (cd.fact 10 rfl), He.free_ok X G (cd.fact 11 rfl), He.free_ok X G (cd.fact 12 rfl), He.free_ok X G (cd.fact 13 rfl), He.free_ok X G (cd.fact 14 rfl), He.glo_ok X G (cd.fact 15 rfl), He.int_ok X G (cd.fact 16 rfl), He.str_ok X G (cd.fact 17 rfl), He.str_ok X G (cd.fact 18 rfl), xf2B_ok (ex_at c.more 0 rfl)⟩
  obtain ⟨fd__law_deck, F__law_deck⟩ := cd.def_ 0 (d := d__law_deck) rfl
  obtain ⟨fd__law_page, F__law_page⟩ := cd.def_ 1 (d := d__law_page) rfl
  obtain ⟨fd__law_draw, F__law_draw⟩ := cd.def_ 2 (d := d__law_draw) rfl
  obtain ⟨fd__law_parent, F__law_parent⟩ := cd.def_ 3 (d := d__law_parent) rfl
  obtain ⟨fd__law_thread, F__law_thread⟩ := cd.def_ 4 (d := d__law_thread) rfl
  obtain ⟨fd__law_spoiled, F__law_spoiled⟩ := cd.def_ 5 (d := d__law_spoiled) rfl
  obtain ⟨fd__law_number, F__law_number⟩ := cd.def_ 6 (d := d__law_number) rfl
  obtain ⟨fd__law_read, F__law_read⟩ := cd.def_ 7 (d := d__law_read) rfl
  obtain ⟨fd__law_same, F__law_same⟩ := cd.def_ 8 (d := d__law_same) rfl
  obtain ⟨fd_InvalidText___init__, F_InvalidText___init__⟩ := cd.def_ 9 (d := d_InvalidText___init__) rfl
  obtain ⟨fd_require_string, F_require_string⟩ := cd.def_ 10 (d := d_require_string) rfl
  obtain ⟨fd_number_in, F_number_in⟩ := cd.def_ 11 (d := d_number_in) rfl
  obtain ⟨fd_parse_thread, F_parse_thread⟩ := cd.def_ 12 (d := d_parse_thread) rfl
  obtain ⟨fd__law_told, F__law_told⟩ := cd.def_ 13 (d := d__law_told) rfl
  obtain ⟨fd__law_right, F__law_right⟩ := cd.def_ 14 (d := d__law_right) rfl
  obtain ⟨fd_law, F_law⟩ := cd.def_ 15 (d := d_law) rfl
  have e := hfa.symm.trans (He.glo_ok X G (cd.fact 19 rfl))
  cases e
  have b := FunD.bindsA (ps := ["_law_script"]) F_law fun _ _ _ _ _ _ us hl => match us, hl with | [_], _ => rfl
  have tx : TxE K := txB_ok (ex_at c.more 1 rfl)
  have em_InvalidText_InvalidText : ExM K "InvalidText" "InvalidText" := of_decide_eq_true (ex_at c.more 2 rfl)
  refine ⟨fd_law, sp_law K, fun s v => b s [v] rfl, fun H a ns hl hb hS => law_in tx em_InvalidText_InvalidText hl hb hS, fun base _ _ => ?_⟩
  have Ok__law_deck : FnOk PP w K mg base (L2.CX PP w) 1 (He.ga K "_law_deck") fd__law_deck ["_law_script"] (sp__law_deck K) := ok__law_deck T  F__law_deck
  have G__law_deck : Gd PP w K mg base 1 "_law_deck" ["_law_script"] (sp__law_deck K) := ⟨⟨fd__law_deck, Ok__law_deck, FunD.bindsN F__law_deck fun _ _ _ _ _ _ us hl => match us, hl with | [_], _ => rfl⟩, He.glo_ok X G (cd.fact 20 rfl), F__law_deck.kp⟩
  have Ok__law_page : FnOk PP w K mg base (L2.CX PP w) 1 (He.ga K "_law_page") fd__law_page ["_law_some"] (sp__law_page K) := ok__law_page T  F__law_page
  have G__law_page : Gd PP w K mg base 1 "_law_page" ["_law_some"] (sp__law_page K) := ⟨⟨fd__law_page, Ok__law_page, FunD.bindsN F__law_page fun _ _ _ _ _ _ us hl => match us, hl with | [_], _ => rfl⟩, He.glo_ok X G (cd.fact 21 rfl), F__law_page.kp⟩
  have Ok__law_draw : FnOk PP w K mg base (L2.CX PP w) 1 (He.ga K "_law_draw") fd__law_draw ["_law_deck_here", "_law_many"] (sp__law_draw K) := ok__law_draw T  F__law_draw
  have G__law_draw : Gd PP w K mg base 1 "_law_draw" ["_law_deck_here", "_law_many"] (sp__law_draw K) := ⟨⟨fd__law_draw, Ok__law_draw, FunD.bindsN F__law_draw fun _ _ _ _ _ _ us hl => match us, hl with | [_, _], _ => rfl⟩, He.glo_ok X G (cd.fact 22 rfl), F__law_draw.kp⟩
  have Ok__law_parent : FnOk PP w K mg base (L2.CX PP w) 2 (He.ga K "_law_parent") fd__law_parent ["_law_deck_here", "_law_many", "_law_style"] (sp__law_parent K) := ok__law_parent T G__law_draw F__law_parent
  have G__law_parent : Gd PP w K mg base 2 "_law_parent" ["_law_deck_here", "_law_many", "_law_style"] (sp__law_parent K) := ⟨⟨fd__law_parent, Ok__law_parent, FunD.bindsN F__law_parent fun _ _ _ _ _ _ us hl => match us, hl with | [_, _, _], _ => rfl⟩, He.glo_ok X G (cd.fact 23 rfl), F__law_parent.kp⟩
  have Ok__law_thread : FnOk PP w K mg base (L2.CX PP w) 3 (He.ga K "_law_thread") fd__law_thread ["_law_deck_here", "_law_most"] (sp__law_thread K) := ok__law_thread T G__law_draw G__law_parent F__law_thread
  have G__law_thread : Gd PP w K mg base 3 "_law_thread" ["_law_deck_here", "_law_most"] (sp__law_thread K) := ⟨⟨fd__law_thread, Ok__law_thread, FunD.bindsN F__law_thread fun _ _ _ _ _ _ us hl => match us, hl with | [_, _], _ => rfl⟩, He.glo_ok X G (cd.fact 24 rfl), F__law_thread.kp⟩
  have Ok__law_spoiled : FnOk PP w K mg base (L2.CX PP w) 2 (He.ga K "_law_spoiled") fd__law_spoiled ["_law_deck_here", "_law_page_here"] (sp__law_spoiled K) := ok__law_spoiled T G__law_draw F__law_spoiled
  have G__law_spoiled : Gd PP w K mg base 2 "_law_spoiled" ["_law_deck_here", "_law_page_here"] (sp__law_spoiled K) := ⟨⟨fd__law_spoiled, Ok__law_spoiled, FunD.bindsN F__law_spoiled fun _ _ _ _ _ _ us hl => match us, hl with | [_, _], _ => rfl⟩, He.glo_ok X G (cd.fact 25 rfl), F__law_spoiled.kp⟩
  have Ok__law_number : FnOk PP w K mg base (L2.CX PP w) 1 (He.ga K "_law_number") fd__law_number ["_law_word"] (sp__law_number K) := ok__law_number T  F__law_number
  have G__law_number : Gd PP w K mg base 1 "_law_number" ["_law_word"] (sp__law_number K) := ⟨⟨fd__law_number, Ok__law_number, FunD.bindsN F__law_number fun _ _ _ _ _ _ us hl => match us, hl with | [_], _ => rfl⟩, He.glo_ok X G (cd.fact 26 rfl), F__law_number.kp⟩
  have Ok__law_read : FnOk PP w K mg base (L2.CX PP w) 2 (He.ga K "_law_read") fd__law_read ["_law_page_here"] (sp__law_read K) := ok__law_read T G__law_number F__law_read
  have G__law_read : Gd PP w K mg base 2 "_law_read" ["_law_page_here"] (sp__law_read K) := ⟨⟨fd__law_read, Ok__law_read, FunD.bindsN F__law_read fun _ _ _ _ _ _ us hl => match us, hl with | [_], _ => rfl⟩, He.glo_ok X G (cd.fact 27 rfl), F__law_read.kp⟩
  have S__law_same : ∀ n, FnOk PP w K mg base (L2.CX PP w) (n + 1) (He.ga K "_law_same") fd__law_same ["_law_found", "_law_due"] (spSame K n) := by
    intro n
    induction n with
    | zero => exact fn_false
    | succ n ih => exact ok__law_same T ⟨⟨fd__law_same, ih, FunD.bindsN F__law_same fun _ _ _ _ _ _ us hl => match us, hl with | [_, _], _ => rfl⟩, He.glo_ok X G (cd.fact 28 rfl), F__law_same.kp⟩ F__law_same
  have Ok__law_same : FnOk PP w K mg base (L2.CX PP w) 6 (He.ga K "_law_same") fd__law_same ["_law_found", "_law_due"] (sp__law_same K) := S__law_same 5
  have G__law_same : Gd PP w K mg base 6 "_law_same" ["_law_found", "_law_due"] (sp__law_same K) := ⟨⟨fd__law_same, Ok__law_same, FunD.bindsN F__law_same fun _ _ _ _ _ _ us hl => match us, hl with | [_, _], _ => rfl⟩, He.glo_ok X G (cd.fact 28 rfl), F__law_same.kp⟩
  have Ok_InvalidText___init__ : FnOk PP w K mg base (L2.CX PP w) 1 (He.ma K (He.ga K "InvalidText") "__init__") fd_InvalidText___init__ ["self", "index"] (sp_InvalidText___init__ K) := ok_InvalidText___init__ T  F_InvalidText___init__
  have J_InvalidText : Gi PP w K mg base 1 "InvalidText" ["self", "index"] (sp_InvalidText___init__ K) [.non] := by
    obtain ⟨ds, hds, bds⟩ := FunD.binds1 (ps := ["self", "index"]) F_InvalidText___init__ 1 0 (by exact List.cons_ne_nil _ _) rfl (fun _ _ _ _ _ _ _ us its hl hi => match us, its, hl, hi with | [_], [_], _, _ => ⟨_, rfl, rfl⟩)
    exact ⟨tx.xo, He.glo_ok X G (cd.fact 15 rfl), fd_InvalidText___init__, ds, Ok_InvalidText___init__, hds, bds⟩
  have Ok_require_string : FnOk PP w K mg base (L2.CX PP w) 3 (He.ga K "require_string") fd_require_string ["text"] (sp_require_string K) := ok_require_string T J_InvalidText F_require_string
  have G_require_string : Gd PP w K mg base 3 "require_string" ["text"] (sp_require_string K) := ⟨⟨fd_require_string, Ok_require_string, FunD.bindsN F_require_string fun _ _ _ _ _ _ us hl => match us, hl with | [_], _ => rfl⟩, He.glo_ok X G (cd.fact 29 rfl), F_require_string.kp⟩
  have Ok_number_in : FnOk PP w K mg base (L2.CX PP w) 1 (He.ga K "number_in") fd_number_in ["word"] (sp_number_in K) := ok_number_in T  F_number_in
  have G_number_in : Gd PP w K mg base 1 "number_in" ["word"] (sp_number_in K) := ⟨⟨fd_number_in, Ok_number_in, FunD.bindsN F_number_in fun _ _ _ _ _ _ us hl => match us, hl with | [_], _ => rfl⟩, He.glo_ok X G (cd.fact 30 rfl), F_number_in.kp⟩
  have I_InvalidText : Gi PP w K mg base 1 "InvalidText" ["self", "index"] (sp_InvalidText___init__ K) [] := by
    obtain ⟨ds, hds, bds⟩ := FunD.binds1 (ps := ["self", "index"]) F_InvalidText___init__ 2 1 (by exact List.cons_ne_nil _ _) rfl (fun _ _ _ _ _ _ _ us its hl hi => match us, its, hl, hi with | [_, _], [_], _, _ => ⟨_, rfl, rfl⟩)
    exact ⟨tx.xo, He.glo_ok X G (cd.fact 15 rfl), fd_InvalidText___init__, ds, Ok_InvalidText___init__, hds, bds⟩
  have Ok_parse_thread : FnOk PP w K mg base (L2.CX PP w) 4 (He.ga K "parse_thread") fd_parse_thread ["text"] (sp_parse_thread K) := ok_parse_thread T G_require_string G_number_in I_InvalidText F_parse_thread
  have G_parse_thread : Gd PP w K mg base 4 "parse_thread" ["text"] (sp_parse_thread K) := ⟨⟨fd_parse_thread, Ok_parse_thread, FunD.bindsN F_parse_thread fun _ _ _ _ _ _ us hl => match us, hl with | [_], _ => rfl⟩, He.glo_ok X G (cd.fact 31 rfl), F_parse_thread.kp⟩
  have Fk_parse_thread : Gdk PP w K mg base 4 "parse_thread" ["text"] ["text"] (sp_parse_thread K) := ⟨⟨fd_parse_thread, Ok_parse_thread, kbindsN (ps := ["text"]) F_parse_thread 0 ["text"] (fun _ _ _ _ _ _ us ws hl hw => match us, ws, hl, hw with | [], [_], _, _ => rfl)⟩, He.glo_ok X G (cd.fact 31 rfl), F_parse_thread.kp⟩
  have Ok__law_told : FnOk PP w K mg base (L2.CX PP w) 5 (He.ga K "_law_told") fd__law_told ["_law_thing", "_law_way"] (sp5__law_told K) := ok__law_told T G_parse_thread Fk_parse_thread F__law_told
  have G__law_told : Gd PP w K mg base 5 "_law_told" ["_law_thing", "_law_way"] (sp5__law_told K) := ⟨⟨fd__law_told, Ok__law_told, FunD.bindsN F__law_told fun _ _ _ _ _ _ us hl => match us, hl with | [_, _], _ => rfl⟩, He.glo_ok X G (cd.fact 32 rfl), F__law_told.kp⟩
  have Ok__law_right : FnOk PP w K mg base (L2.CX PP w) 7 (He.ga K "_law_right") fd__law_right ["_law_thing"] (sp__law_right K) := ok__law_right T G__law_read G__law_same G__law_told F__law_right
  have G__law_right : Gd PP w K mg base 7 "_law_right" ["_law_thing"] (sp__law_right K) := ⟨⟨fd__law_right, Ok__law_right, FunD.bindsN F__law_right fun _ _ _ _ _ _ us hl => match us, hl with | [_], _ => rfl⟩, He.glo_ok X G (cd.fact 33 rfl), F__law_right.kp⟩
  exact ok_law T G__law_deck G__law_page G__law_thread G__law_draw G__law_spoiled G__law_right F_law
end R55
open PySem PySem.W PySem.Calls PyProof.Rows
theorem PySem.Challenge.cw_flatthreads_k55_texts_of_no_thread_holds : PySem.Challenge.rw_flatthreads_k55_texts_of_no_thread.Holds := by
  w_on; o_law
  refine HandSHeadRun.head_any (r := R55.RR) (q := view R55.RR.prog [22]) (H := R55.hk) (ob := R55.ob) (M := 4000) (loose := R55.names) (d := HandSHeadRun.topDef R55.RR.prog 22) (kwd := []) R55.ob_eq
    (by kernel_rfl) (fun s => by kernel_rfl) R55.run (by kernel_rfl) (by kernel_rfl) (by kernel_rfl) (by rfl) (by first | assumption | decide +kernel) (by decide +kernel) ⟨rfl, rfl, rfl, rfl, rfl, by decide +kernel⟩ ?hw ?hc
  case hw => w_witness2
  case hc =>
    refine FT.walk_ofG (l := PySem.Challenge.rw_flatthreads_k55_texts_of_no_thread) (n := 63) (k := 8) (x := "_law_script") (CX := fun w => L2.CX R55.PP w) rfl (by decide) (by kernel_rfl) ⟨rfl, by decide, by decide⟩ ?F ?C
    case F =>
      intro w mg fa h Y G hmg0
      obtain ⟨K, KX, c⟩ := Y
      have hmg : mg ("law" : PySem.Str) = some (.ref fa) := by
        have e : (HandSHeadRun.topDef R55.RR.prog 22).name = ("law" : PySem.Str) := by kernel_rfl
        rw [← e]
        exact hmg0
      exact ⟨K, KX, R55.facts KX G hmg c⟩
    case C =>
      intro w H s e s' z
      exact FT.cx_none z

