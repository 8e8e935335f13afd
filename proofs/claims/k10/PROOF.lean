import PyProof.Rows.All
import Wide.All
import OpenK.AllK
import Wide.FinOn
import KE.KStateDown
import HandS.ForMost
import HandS.ForExc
import HandS.Wide
import HandS.TupAny
import HandS.TupMul
import HandS.TupLe
import HandS.Sort
import HandS.Style
import HandS.IsInst
import HandS.Defaults
import HandS.Property
import HandS.Head0
import HandS.Head1
import HandS.Head2
import HandS.EndBits
import HandS.HeadEnd
import HandS.HeadHook1
import HandS.HeadHook2
import HandS.HeadHook3
import HandS.HeadHook4
import HandS.HeadWalk
import PySem.Challenge.RW_windowada_k10_kinds_of_operators
set_option Elab.async false
set_option linter.all false
set_option maxRecDepth 100000
/-! Steps over the hand layer: a ledger (what this code owns on the heap), one lemma for each reading, a word that takes one step. -/
namespace Q
open PySem PySem.Spec PyProof.Rows L2

/-! ### the ledger -/
abbrev Cell := Addr × HO
def Imm : HO → Bool
  | .tup _ => true
  | .frz _ _ => true
  | _ => false
/-- all that stood is kept but what stood at A (what never changes is kept there, too); nothing is freed -/
structure Keep (A : List Addr) (H H' : Hp) : Prop where
  k : ∀ b o, H b = some o → (b ∉ A ∨ Imm o = true) → H' b = some o
  d : ∀ b, H' b = none → H b = none
theorem Keep.refl (A : List Addr) (H : Hp) : Keep A H H := ⟨fun _ _ e _ => e, fun _ e => e⟩
theorem Keep.trans {A : List Addr} {H H1 H2 : Hp} (a : Keep A H H1) (b : Keep A H1 H2) : Keep A H H2 :=
  ⟨fun c o e q => b.k c o (a.k c o e q) q, fun c e => a.d c (b.d c e)⟩
theorem Keep.mono {A B : List Addr} {H H' : Hp} (a : Keep A H H') (s : ∀ b ∈ A, b ∈ B) : Keep B H H' :=
  ⟨fun c o e q => a.k c o e (q.imp (fun n z => n (s c z)) id), a.d⟩
theorem Keep.nil {B : List Addr} {H H' : Hp} (a : Keep [] H H') : Keep B H H' := a.mono fun _ z => nomatch z
/-- A the cells that stood at the entry H0; L what is known and owned now -/
structure SH (A : List Addr) (H0 H : Hp) (L : List Cell) : Prop where
  hs : ∀ c ∈ L, H c.1 = some c.2
  nd : (L.map (·.1)).Nodup
  kp : Keep A H0 H
  ow : ∀ c ∈ L, c.1 ∈ A ∨ H0 c.1 = none
section
variable {A B : List Addr} {H0 H H' : Hp} {L L' : List Cell} {a p : Addr} {o o' : HO}
theorem SH.start (hs : ∀ c ∈ L, H c.1 = some c.2) (nd : (L.map (·.1)).Nodup) : SH (L.map (·.1)) H H L :=
  ⟨hs, nd, Keep.refl _ _, fun c hc => .inl (List.mem_map_of_mem hc)⟩
theorem SH.start0 : SH [] H H [] := ⟨(fun _ h => nomatch h), List.nodup_nil, Keep.refl _ _, (fun _ h => nomatch h)⟩
theorem SH.start1 (h : H a = some o) : SH [a] H H [(a, o)] := SH.start (L := [(a, o)]) (by intro c hc; rcases List.mem_singleton.mp hc with rfl; exact h) (by simp)
theorem SH.get (S : SH A H0 H L) (i : Nat) (e : L[i]? = some (a, o)) : H a = some o := S.hs _ (List.mem_of_getElem? e)
theorem SH.imm (S : SH A H0 H L) (h : H0 a = some o) (e : Imm o = true) : H a = some o := S.kp.k a o h (.inr e)
theorem SH.new (S : SH A H0 H L) (o : HO) (hp : H p = none) : SH A H0 (upd H p o) ((p, o) :: L) := by
  have hne : ∀ c ∈ L, c.1 ≠ p := fun c hc z => by
    have := S.hs c hc
    rw [z, hp] at this
    cases this
  refine ⟨fun c hc => ?_, ?_, ⟨fun b u e q => ?_, fun b e => ?_⟩, fun c hc => ?_⟩
  · rcases List.mem_cons.mp hc with rfl | hc
    · exact upd_same
    · rw [upd_ne (hne c hc)]
      exact S.hs c hc
  · rw [List.map_cons, List.nodup_cons]
    refine ⟨fun z => ?_, S.nd⟩
    obtain ⟨c, hc, e⟩ := List.mem_map.mp z
    exact hne c hc e
  · have h1 := S.kp.k b u e q
    rw [upd_ne (ne_of_none h1 hp)]
    exact h1
  · by_cases hb : b = p
    · rw [hb, upd_same] at e
      cases e
    · rw [upd_ne hb] at e
      exact S.kp.d b e
  · rcases List.mem_cons.mp hc with rfl | hc
    · exact .inr (S.kp.d _ hp)
    · exact S.ow c hc
theorem mem_set_cell {L : List Cell} {i : Nat} {c d : Cell} (h : c ∈ L.set i d) : c = d ∨ ∃ j, j ≠ i ∧ L[j]? = some c := by
  obtain ⟨j, hj, e⟩ := List.mem_iff_getElem.mp h
  by_cases q : j = i
  · left
    subst q
    rw [List.getElem_set_self] at e
    exact e.symm
  · right
    refine ⟨j, q, ?_⟩
    rw [List.length_set] at hj
    rw [List.getElem_set_ne (Ne.symm q)] at e
    rw [List.getElem?_eq_getElem hj, e]
theorem map_set_key {L : List Cell} {i : Nat} {a : Addr} {o o' : HO} (e : L[i]? = some (a, o)) : (L.set i (a, o')).map (·.1) = L.map (·.1) := by
  apply List.ext_getElem?
  intro j
  rw [List.getElem?_map, List.getElem?_map, List.getElem?_set]
  by_cases q : i = j
  · subst q
    obtain ⟨hi, e2⟩ := List.getElem?_eq_some_iff.mp e
    rw [if_pos rfl, if_pos hi, e]
    rfl
  · rw [if_neg q]
theorem nodup_key {L : List Cell} (nd : (L.map (·.1)).Nodup) {i j : Nat} {c d : Cell} (h1 : L[i]? = some c) (h2 : L[j]? = some d) (ne : j ≠ i) : d.1 ≠ c.1 := fun z => by
  have e1 : (L.map (·.1))[i]? = some c.1 := by rw [List.getElem?_map, h1]; rfl
  have e2 : (L.map (·.1))[j]? = some c.1 := by rw [List.getElem?_map, h2]; exact congrArg some z
  obtain ⟨l1, q1⟩ := List.getElem?_eq_some_iff.mp e1
  obtain ⟨l2, q2⟩ := List.getElem?_eq_some_iff.mp e2
  exact ne ((List.getElem_inj nd).mp (q2.trans q1.symm))
theorem SH.set (S : SH A H0 H L) (i : Nat) (e : L[i]? = some (a, o)) (im : Imm o = false) (o' : HO) : SH A H0 (upd H a o') (L.set i (a, o')) := by
  have ha := S.get i e
  refine ⟨fun c hc => ?_, ?_, ⟨fun b u q z => ?_, fun b q => ?_⟩, fun c hc => ?_⟩
  · rcases mem_set_cell hc with rfl | ⟨j, nj, ej⟩
    · exact upd_same
    · rw [upd_ne (nodup_key S.nd e ej nj)]
      exact S.hs c (List.mem_of_getElem? ej)
  · rw [map_set_key e]
    exact S.nd
  · have h1 := S.kp.k b u q z
    have nb : b ≠ a := fun y => by
      subst y
      rw [ha] at h1
      cases h1
      rcases z with z | z
      · rcases S.ow _ (List.mem_of_getElem? e) with w | w
        · exact z w
        · rw [q] at w
          cases w
      · rw [im] at z
        cases z
    rw [upd_ne nb]
    exact h1
  · by_cases hb : b = a
    · rw [hb, upd_same] at q
      cases q
    · rw [upd_ne hb] at q
      exact S.kp.d b q
  · rcases mem_set_cell hc with rfl | ⟨j, nj, ej⟩
    · exact S.ow (a, o) (List.mem_of_getElem? e)
    · exact S.ow c (List.mem_of_getElem? ej)
/-- behind a call that changed at most what stands at the keys of U (their new cells), each of them a cell of L -/
theorem SH.call0 (S : SH A H0 H L) (k : Keep [] H H') : SH A H0 H' L :=
  ⟨fun c hc => k.k _ _ (S.hs c hc) (.inl (by simp)), S.nd, S.kp.trans k.nil, S.ow⟩
theorem SH.call1 (S : SH A H0 H L) (i : Nat) (e : L[i]? = some (a, o)) (im : Imm o = false) (k : Keep [a] H H') (h : H' a = some o') : SH A H0 H' (L.set i (a, o')) := by
  have ha := S.get i e
  refine ⟨fun c hc => ?_, by rw [map_set_key e]; exact S.nd, ⟨fun b u q z => ?_, fun b q => S.kp.d b (k.d b q)⟩, fun c hc => ?_⟩
  · rcases mem_set_cell hc with rfl | ⟨j, nj, ej⟩
    · exact h
    · exact k.k _ _ (S.hs c (List.mem_of_getElem? ej)) (.inl fun z => nodup_key S.nd e ej nj (List.mem_singleton.mp z))
  · have h1 := S.kp.k b u q z
    refine k.k b u h1 ?_
    rcases z with z | z
    · refine .inl fun y => ?_
      have y' := List.mem_singleton.mp y
      subst y'
      rcases S.ow _ (List.mem_of_getElem? e) with w | w
      · exact z w
      · rw [q] at w
        cases w
    · exact .inr z
  · rcases mem_set_cell hc with rfl | ⟨j, nj, ej⟩
    · exact S.ow (a, o) (List.mem_of_getElem? e)
    · exact S.ow c (List.mem_of_getElem? ej)
/-- a new object of a callee -/
theorem SH.add (S : SH A H0 H L) (S' : SH A H0 H' L') (ks : ∀ c ∈ L', H c.1 ≠ none) (n : H p = none) (h : H' p = some o) : SH A H0 H' ((p, o) :: L') := by
  refine ⟨fun c hc => ?_, ?_, S'.kp, fun c hc => ?_⟩
  · rcases List.mem_cons.mp hc with rfl | hc
    · exact h
    · exact S'.hs c hc
  · rw [List.map_cons, List.nodup_cons]
    refine ⟨fun z => ?_, S'.nd⟩
    obtain ⟨c, hc, e⟩ := List.mem_map.mp z
    exact ks c hc (e ▸ n)
  · rcases List.mem_cons.mp hc with rfl | hc
    · exact .inr (S.kp.d _ n)
    · exact S'.ow c hc
theorem SH.call0n (S : SH A H0 H L) (k : Keep [] H H') (n : H p = none) (h : H' p = some o) : SH A H0 H' ((p, o) :: L) :=
  S.add (S.call0 k) (fun c hc => by rw [S.hs c hc]; exact nofun) n h
theorem SH.call1n {q : Addr} {u : HO} (S : SH A H0 H L) (i : Nat) (e : L[i]? = some (a, o)) (im : Imm o = false) (k : Keep [a] H H') (h : H' a = some o') (n : H q = none) (h2 : H' q = some u) : SH A H0 H' ((q, u) :: L.set i (a, o')) := by
  refine S.add (S.call1 i e im k h) (fun c hc => ?_) n h2
  rcases mem_set_cell hc with rfl | ⟨j, nj, ej⟩
  · rw [S.get i e]
    exact nofun
  · rw [S.hs c (List.mem_of_getElem? ej)]
    exact nofun
theorem SH.sub (S : SH A H0 H L) (s : L'.Sublist L) : SH A H0 H L' :=
  ⟨fun c hc => S.hs c (s.subset hc), (s.map _).nodup S.nd, S.kp, fun c hc => S.ow c (s.subset hc)⟩
theorem SH.drop1 {c : Cell} (S : SH A H0 H (c :: L)) : SH A H0 H L := S.sub (List.sublist_cons_self _ _)
theorem SH.perm (S : SH A H0 H L) (p : L.Perm L') : SH A H0 H L' :=
  ⟨fun c hc => S.hs c (p.mem_iff.mpr hc), (p.map _).nodup_iff.mp S.nd, S.kp, fun c hc => S.ow c (p.mem_iff.mpr hc)⟩
/-- what this code did, seen from outside -/
theorem SH.done (S : SH A H0 H L) : Keep A H0 H := S.kp
theorem SH.ne (S : SH A H0 H L) {i j : Nat} {c d : Cell} (h1 : L[i]? = some c) (h2 : L[j]? = some d) (ne : j ≠ i) : d.1 ≠ c.1 := nodup_key S.nd h1 h2 ne
end

theorem SH.fr0 {H0 H : Hp} {L : List Cell} {p : Addr} {o : HO} (S : SH [] H0 H L) (i : Nat) (e : L[i]? = some (p, o)) : H0 p = none := (S.ow (p, o) (List.mem_of_getElem? e)).elim (fun z => nomatch z) id
theorem SH.fr1 {H0 H : Hp} {L : List Cell} {p a : Addr} {o u : HO} (S : SH [a] H0 H L) (i j : Nat) (e : L[i]? = some (p, o)) (e2 : L[j]? = some (a, u)) (ne : i ≠ j) : H0 p = none :=
  (S.ow (p, o) (List.mem_of_getElem? e)).elim (fun z => absurd (List.mem_singleton.mp z) (nodup_key S.nd e2 e ne)) id
theorem SH.frn {A : List Addr} {H0 H : Hp} {L : List Cell} {p : Addr} {o : HO} (S : SH A H0 H L) (i : Nat) (e : L[i]? = some (p, o)) (n : p ∉ A) : H0 p = none := (S.ow (p, o) (List.mem_of_getElem? e)).elim (fun z => absurd z n) id
/-- the script (or another list that nobody changes) -/
def Scr (K : PySem.W.Frag) (H : Hp) (a : Addr) (xs : List V) : Prop :=
  (∃ o, H a = some (.frz o (.lst xs))) ∨
    ∃ (o : Obj) (its : Array Value) (n : Nat), K.lookup a = some o ∧ o.cls = .type "list" ∧ o.dict = none ∧ o.data = .seq its n ∧ its.size ≤ sizeLine ∧ Vals xs its.toList
theorem Scr.sq {K : PySem.W.Frag} {H : Hp} {a : Addr} {xs : List V} (h : Scr K H a xs) : SqL K H a xs := by
  rcases h with ⟨o, h⟩ | h
  · exact .inl (.inr ⟨o, h⟩)
  · exact .inr h
theorem Scr.keep {K : PySem.W.Frag} {A : List Addr} {H H' : Hp} {a : Addr} {xs : List V} (h : Scr K H a xs) (k : Keep A H H') : Scr K H' a xs := by
  rcases h with ⟨o, h⟩ | h
  · exact .inl ⟨o, k.k _ _ h (.inr rfl)⟩
  · exact .inr h
theorem Scr.of {K : PySem.W.Frag} {H : Hp} {a : Addr} {xs : List V} (h : SqL K H a xs) (O : Only H) : Scr K H a xs := by
  rcases h with (h | ⟨o, h⟩) | h
  · rcases O a with q | ⟨o, ys, q⟩
    · rw [q] at h
      cases h
    · rw [q] at h
      cases h
  · exact .inl ⟨o, h⟩
  · exact .inr h

/-! ### operators for several kinds of values -/
section
variable {X : Cx}
def CDivX (_ j : Int) : Prop := j ≠ 0 ∧ j.natAbs.log2 < 9000
theorem op_fdivX : OpR X (binaryOp .FloorDiv) (rI CDivX fun i j => .int (i.fdiv j)) := opI fun _ _ _ _ _ _ _ hc q => floordiv_int hc.1 q (.inl (PyProof.noPylong_of_log2 hc.2))
def rAddX (K : PySem.W.Frag) : R2 := fun x y H Q => rI0 (fun i j => .int (i + j)) x y H Q ∨ (∃ i j, x = .str i ∧ y = .str j ∧ i.length + j.length ≤ sizeLine ∧ Q (.str (i ++ j)) H) ∨ rCat x y H Q ∨ rCatA K x y H Q
theorem xAdd : OpR X (binaryOp .Add) (rAddX X.K) := op_add.or (op_add_str.or (op_cat.or op_catA))
def rMulX (K : PySem.W.Frag) : R2 := fun x y H Q => rI CMul (fun i j => .int (i * j)) x y H Q ∨ rI CMulW (fun i j => .int (i * j)) x y H Q ∨ rRep x y H Q ∨ rRepT K x y H Q
theorem xMul : OpR X (binaryOp .Mult) (rMulX X.K) := op_mul.or (op_mulW.or (op_rep.or op_repT))
def rDivX : R2 := fun x y H Q => rI CDivW (fun i j => .int (i / j)) x y H Q ∨ rI CDivX (fun i j => .int (i.fdiv j)) x y H Q
theorem xDiv : OpR X (binaryOp .FloorDiv) rDivX := op_fdivW.or op_fdivX
def rModX : R2 := fun x y H Q => rI (fun _ j => 0 < j) (fun i j => .int (i % j)) x y H Q ∨ rI (fun _ j => j ≠ 0) (fun i j => .int (i.fmod j)) x y H Q
theorem xMod : OpR X (binaryOp .Mod) rModX := op_mod.or op_modN
def rEqX (K : PySem.W.Frag) : R2 := fun x y H Q => rEq x y H Q ∨ rEqD K x y H Q
def rNeX (K : PySem.W.Frag) : R2 := fun x y H Q => rNe x y H Q ∨ rNeD K x y H Q
theorem xEq (hu : X.A.units + 64 < cLine) : OpR X (compareOp .Eq) (rEqX X.K) := op_eq.or (op_eqD hu)
theorem xNe (hu : X.A.units + 64 < cLine) : OpR X (compareOp .NotEq) (rNeX X.K) := op_ne.or (op_neD hu)
def rInX (K : PySem.W.Frag) (neg : Bool) : R2 := rIn K neg
theorem xIn : OpR X (compareOp .In) (rInX X.K false) := op_in_seq
theorem xNotIn : OpR X (compareOp .NotIn) (rInX X.K true) := op_notIn_seq
def rIsX : R2 := fun x y H Q => (y = .non ∧ Q (.bl (decide (x = .non))) H) ∨ (∃ a b, x = .bl a ∧ y = .bl b ∧ Q (.bl (decide (a = b))) H)
def rIsNotX : R2 := fun x y H Q => (y = .non ∧ Q (.bl (!decide (x = .non))) H) ∨ (∃ a b, x = .bl a ∧ y = .bl b ∧ Q (.bl (!decide (a = b))) H)
theorem xIs : OpR X (compareOp .Is) rIsX := op_isN.or op_is_bl
theorem xIsNot : OpR X (compareOp .IsNot) rIsNotX := op_notN.or op_isnot_bl
def rIxX (K : PySem.W.Frag) : R2 := rIx K
theorem xIx : IxR X (rIxX X.K) := ix_seq
def rSlX (K : PySem.W.Frag) : V → Option Int → Option Int → Hp → VK → Prop := fun x lo hi H Q => rSlL K x lo hi H Q ∨ rSlT K x lo hi H Q
theorem xSl : SlR X (rSlX X.K) := sl_list.or sl_tup
theorem CallR.or {f : Value} {r r' : List V → Hp → VK → Prop} (h : CallR X f r) (h' : CallR X f r') : CallR X f (fun xs H Q => r xs H Q ∨ r' xs H Q) := by
  intro pins s σ H xs us Q I r1 q
  rcases q with q | q
  · exact h pins s σ H xs us Q I r1 q
  · exact h' pins s σ H xs us Q I r1 q
def rInt : List V → Hp → VK → Prop := fun xs H Q => (∃ i, xs = [.int i] ∧ Q (.int i) H) ∨ ∃ k, xs = [.bl k] ∧ Q (.int (if k then 1 else 0)) H
theorem x_int : CallR X (.type "int") rInt := call_int1
def rLenX (K : PySem.W.Frag) : List V → Hp → VK → Prop := fun xs H Q => ∃ x n, xs = [x] ∧ LenV K x H n ∧ Q (.int n) H
theorem x_len : CallR X (.builtin "len") (rLenX X.K) := call_len
def rAbs : List V → Hp → VK → Prop := fun xs H Q => ∃ i, xs = [.int i] ∧ Q (.int (if i < 0 then -i else i)) H
theorem x_abs : CallR X (.builtin "abs") rAbs := call_abs
def rIsiX (K : PySem.W.Frag) : List V → Hp → VK → Prop := fun xs H Q => rIsi K xs H Q ∨ rIsiT K xs H Q
theorem x_isinstance : CallR X (.builtin "isinstance") (rIsiX X.K) := CallR.or call_isi call_isiT
def rListX (K : PySem.W.Frag) : List V → Hp → VK → Prop := fun xs H Q => ∃ p ys, xs = [.ref p] ∧ (SqL K H p ys ∨ SqT K H p ys) ∧ ∀ l, H l = none → Q (.ref l) (upd H l (.lst ys))
theorem x_list : CallR X (.type "list") (rListX X.K) := call_list_of
def rTupX (K : PySem.W.Frag) : List V → Hp → VK → Prop := fun xs H Q => ∃ p ys, xs = [.ref p] ∧ ((SqL K H p ys ∧ ∀ l, H l = none → Q (.ref l) (upd H l (.tup ys))) ∨ (SqT K H p ys ∧ Q (.ref p) H))
theorem x_tuple : CallR X (.type "tuple") (rTupX X.K) := call_tuple_of
def rMax2 : List V → Hp → VK → Prop := fun xs H Q => ∃ i j, xs = [.int i, .int j] ∧ Q (.int (if j > i then j else i)) H
theorem x_max2 (hc : X.calm = true) : CallR X (.builtin "max") rMax2 := call_max2 hc
def rMin2 : List V → Hp → VK → Prop := fun xs H Q => ∃ i j, xs = [.int i, .int j] ∧ Q (.int (if j < i then j else i)) H
theorem x_min2 (hc : X.calm = true) : CallR X (.builtin "min") rMin2 := call_min2 hc
/-- a module's constant -/
theorem pe_ci {x : Str} {i : Int} {pos : Pos} (hg : Gl X x) (h : ∃ t, X.mg x = some (.int i t)) (hd : (x == ("__debug__" : Str)) = false := by decide) : PE X (.Name x pos) (tC (.int i)) := by
  obtain ⟨t, h⟩ := h
  exact pe_glob hg h ⟨t, rfl⟩ hd
theorem pe_gr {x : Str} {a : Addr} {pos : Pos} (hg : Gl X x) (h : X.mg x = some (.ref a)) (hd : (x == ("__debug__" : Str)) = false := by decide) : PE X (.Name x pos) (tC (.ref a)) := pe_glob hg h rfl hd
theorem pe_cs {x z : Str} {pos : Pos} (hg : Gl X x) (h : ∃ t, X.mg x = some (.str z t)) (hd : (x == ("__debug__" : Str)) = false := by decide) : PE X (.Name x pos) (tC (.str z)) := by
  obtain ⟨t, h⟩ := h
  exact pe_glob hg h ⟨t, rfl⟩ hd
end

/-! ### defs of the program -/
/-- the name x stands for a def that keeps the promise sp -/
structure CallOk (P : Program) (w : World) (K : PySem.W.Frag) (mg : Str → Option Value) (base : Heap) (CX : CXT) (k : Nat) (x : Str) (ps : List Str) (sp : Sp) : Prop where
  ex : ∃ f fd, mg x = some (.ref f) ∧ PySem.W.keepIn K (.ref f) = true ∧ Binds K fd ps [] ∧ FnOk P w K mg base CX k f fd ps sp
section
variable {X : Cx} {CX : CXT} {k : Nat} {ps : List Str} {sp : Sp} {E : XK} {x : Str} {p pos : Pos} {e : Expr} {es : List Expr} {t : TA}
theorem pe_callG (F : CallOk X.prog X.w X.K X.mg X.base CX k x ps sp) (hr : Room k X.A) (hg : Gl X x) (hx : Passes CX X E)
    (ha : PA X (e :: es) t) (hdb : (x == ("__debug__" : Str)) = false := by decide) (he : starEach (e :: es) X.env = (false, eval e X.env) :: starEach es X.env := by rfl) (hpl : (backTo pos (starEach es X.env)).any (·.1) = false := by rfl) :
    PE X (.Call (.Name x p) (e :: es) [] pos) (tCall sp [] E t) := by
  obtain ⟨f, fd, h1, h2, h3, h4⟩ := F.ex
  exact pe_call h4 hr hg h1 h2 h3 .nil hx ha hdb he hpl
theorem pe_callG0 (F : CallOk X.prog X.w X.K X.mg X.base CX k x ps sp) (hr : Room k X.A) (hg : Gl X x) (hx : Passes CX X E) (hdb : (x == ("__debug__" : Str)) = false := by decide) :
    PE X (.Call (.Name x p) [] [] pos) (tCall sp [] E tNil) := by
  obtain ⟨f, fd, h1, h2, h3, h4⟩ := F.ex
  exact pe_call0 h4 hr hg h1 h2 h3 .nil hx hdb
end
/-- promises by the number of arguments -/
def mk0 (P : Hp → VK → XK → Prop) : Sp := fun vs H Q E => vs = [] ∧ P H Q E
def mk1 (P : V → Hp → VK → XK → Prop) : Sp := fun vs H Q E => ∃ a, vs = [a] ∧ P a H Q E
def mk2 (P : V → V → Hp → VK → XK → Prop) : Sp := fun vs H Q E => ∃ a b, vs = [a, b] ∧ P a b H Q E
def mk3 (P : V → V → V → Hp → VK → XK → Prop) : Sp := fun vs H Q E => ∃ a b c, vs = [a, b, c] ∧ P a b c H Q E
def mk4 (P : V → V → V → V → Hp → VK → XK → Prop) : Sp := fun vs H Q E => ∃ a b c d, vs = [a, b, c, d] ∧ P a b c d H Q E
def mk5 (P : V → V → V → V → V → Hp → VK → XK → Prop) : Sp := fun vs H Q E => ∃ a b c d e, vs = [a, b, c, d, e] ∧ P a b c d e H Q E
theorem mk0_len {P} (vs H Q E) (h : mk0 P vs H Q E) : vs.length = 0 := by obtain ⟨rfl, _⟩ := h; rfl
theorem mk1_len {P} (vs H Q E) (h : mk1 P vs H Q E) : vs.length = 1 := by obtain ⟨_, rfl, _⟩ := h; rfl
theorem mk2_len {P} (vs H Q E) (h : mk2 P vs H Q E) : vs.length = 2 := by obtain ⟨_, _, rfl, _⟩ := h; rfl
theorem mk3_len {P} (vs H Q E) (h : mk3 P vs H Q E) : vs.length = 3 := by obtain ⟨_, _, _, rfl, _⟩ := h; rfl
theorem mk4_len {P} (vs H Q E) (h : mk4 P vs H Q E) : vs.length = 4 := by obtain ⟨_, _, _, _, rfl, _⟩ := h; rfl
theorem mk5_len {P} (vs H Q E) (h : mk5 P vs H Q E) : vs.length = 5 := by obtain ⟨_, _, _, _, _, rfl, _⟩ := h; rfl
theorem s_mk0 {P : Hp → VK → XK → Prop} {H Q E} (h : P H Q E) : mk0 P ([] ++ []) H Q E := ⟨rfl, h⟩
theorem s_mk1 {P : V → Hp → VK → XK → Prop} {a H Q E} (h : P a H Q E) : mk1 P ([a] ++ []) H Q E := ⟨a, rfl, h⟩
theorem s_mk2 {P : V → V → Hp → VK → XK → Prop} {a b H Q E} (h : P a b H Q E) : mk2 P ([a, b] ++ []) H Q E := ⟨a, b, rfl, h⟩
theorem s_mk3 {P : V → V → V → Hp → VK → XK → Prop} {a b c H Q E} (h : P a b c H Q E) : mk3 P ([a, b, c] ++ []) H Q E := ⟨a, b, c, rfl, h⟩
theorem s_mk4 {P : V → V → V → V → Hp → VK → XK → Prop} {a b c d H Q E} (h : P a b c d H Q E) : mk4 P ([a, b, c, d] ++ []) H Q E := ⟨a, b, c, d, rfl, h⟩
theorem s_mk5 {P : V → V → V → V → V → Hp → VK → XK → Prop} {a b c d e H Q E} (h : P a b c d e H Q E) : mk5 P ([a, b, c, d, e] ++ []) H Q E := ⟨a, b, c, d, e, rfl, h⟩
theorem cxK {CX : CXT} {P : Program} {w : World} {K : PySem.W.Frag} {mg : Str → Option Value} {base : Heap} {N : List Str} {qual : Str} {scope : Scope} {f : Addr} {cd : Value} {A : Around} {outer : List PySem.Env} {s : Shared} {H : Hp} {E : XK} :
    (cxOf CX P w K mg base N qual scope f cd A outer s H E).nox.K = K := rfl
theorem cxK2 {CX : CXT} {P : Program} {w : World} {K : PySem.W.Frag} {mg : Str → Option Value} {base : Heap} {N : List Str} {qual : Str} {scope : Scope} {f : Addr} {cd : Value} {A : Around} {outer : List PySem.Env} {s : Shared} {H : Hp} {E : XK} :
    (cxOf CX P w K mg base N qual scope f cd A outer s H E).K = K := rfl
theorem hu_room {k : Nat} {A : Around} (hr : Room k A) : A.units + 64 < cLine := hr.units
theorem exget {ex : List (PySem.W.Frag → Bool)} {K : PySem.W.Frag} (h : (ex.all fun f => f K) = true) (i : Nat) {f : PySem.W.Frag → Bool} (e : ex[i]? = some f) : f K = true :=
  List.all_eq_true.mp h f (List.mem_of_getElem? e)

/-! ### one lemma a reading -/
/-- a new object -/
def newO (o : HO) (n : Nat) (H : Hp) (Q : VK) : Prop := n ≤ sizeLine ∧ ∀ p, H p = none → Q (.ref p) (upd H p o)
/-- a field of the value x -/
def fldO (K : PySem.W.Frag) (f : Str) (x : V) (H : Hp) (Q : VK) : Prop := ∃ a C dx fs v, x = .ref a ∧ H a = some (.ins C dx fs) ∧ Cls K C ∧ NoAttr K C f ∧ fs.lookup f = some v ∧ Q v H
def sfldO (K : PySem.W.Frag) (f : Str) (y x : V) (H : Hp) (P : Hp → Prop) : Prop := ∃ a C dx fs, x = .ref a ∧ H a = some (.ins C dx fs) ∧ Cls K C ∧ NoAttr K C f ∧ fs.length < 1000 ∧ P (upd H a (.ins C dx (putF f y fs)))
section
variable {σ σ' : L2.St} {H : Hp} {Q : VK} {K : PySem.W.Frag} {R : Bool → Hp → Prop} {D : Ends} {ta tb : TE} {t u : TS} {tc td : TT} {v : V}
theorem s_var {i : Nat} (e : σ[i]? = some (some v)) (h : Q v H) : tVar i σ H Q := ⟨v, e, h⟩
theorem s_C (h : Q v H) : tC v σ H Q := h
theorem s_op {r : R2} (h : ta σ H fun x H1 => tb σ H1 fun y H2 => r x y H2 Q) : tOp r ta tb σ H Q := h
theorem s_un {r : V → Hp → VK → Prop} (h : ta σ H fun x H1 => r x H1 Q) : tUn r ta σ H Q := h
theorem s_rU {g : Int → V} {i : Int} (h : Q (g i) H) : rU g (.int i) H Q := ⟨i, rfl, h⟩
theorem s_rI0 {g : Int → Int → V} {i j : Int} (h : Q (g i j) H) : rI0 g (.int i) (.int j) H Q := ⟨i, j, rfl, rfl, h⟩
theorem s_rI {C : Int → Int → Prop} {g : Int → Int → V} {i j : Int} (c : C i j) (h : Q (g i j) H) : rI C g (.int i) (.int j) H Q := ⟨i, j, rfl, rfl, c, h⟩
theorem s_addI {i j : Int} (h : Q (.int (i + j)) H) : rAddX K (.int i) (.int j) H Q := .inl ⟨i, j, rfl, rfl, h⟩
theorem s_addS {i j : Str} (c : i.length + j.length ≤ sizeLine) (h : Q (.str (i ++ j)) H) : rAddX K (.str i) (.str j) H Q := .inr (.inl ⟨i, j, rfl, rfl, c, h⟩)
theorem s_mulR {i j : Int} (c : -(2 ^ 64) < j ∧ j < 2 ^ 64) (h : Q (.int (i * j)) H) : rMulX K (.int i) (.int j) H Q := .inl ⟨i, j, rfl, rfl, .inr c, h⟩
theorem s_mulL {i j : Int} (c : -(2 ^ 64) < i ∧ i < 2 ^ 64) (h : Q (.int (i * j)) H) : rMulX K (.int i) (.int j) H Q := .inl ⟨i, j, rfl, rfl, .inl c, h⟩
theorem s_div {i j : Int} (c0 : 0 < j) (c : j < 2 ^ 64) (h : Q (.int (i / j)) H) : rDivX (.int i) (.int j) H Q := .inl ⟨i, j, rfl, rfl, wide_div (b := 64) c0 (by omega) (by decide) (by decide), h⟩
theorem s_divX {i j : Int} (c0 : j ≠ 0) (c : -(2 ^ 64) < j ∧ j < 2 ^ 64) (h : Q (.int (i.fdiv j)) H) : rDivX (.int i) (.int j) H Q :=
  .inr ⟨i, j, rfl, rfl, ⟨c0, Nat.lt_of_lt_of_le (PySem.Flt.log2_lt_of (k := 64) (by decide) (by omega)) (by decide)⟩, h⟩
theorem s_mod {i j : Int} (c : 0 < j) (h : Q (.int (i % j)) H) : rModX (.int i) (.int j) H Q := .inl ⟨i, j, rfl, rfl, c, h⟩
theorem s_modN {i j : Int} (c : j ≠ 0) (h : Q (.int (i.fmod j)) H) : rModX (.int i) (.int j) H Q := .inr ⟨i, j, rfl, rfl, c, h⟩
theorem s_pow {i j : Int} (c : CPow i j) {n : Int} (e : i ^ j.toNat = n) (h : Q (.int n) H) : rI CPow (fun i j => .int (i ^ j.toNat)) (.int i) (.int j) H Q := ⟨i, j, rfl, rfl, c, by show Q (.int (i ^ j.toNat)) H; rw [e]; exact h⟩
theorem s_eqI {i j : Int} (h : Q (.bl (decide (i = j))) H) : rEqX K (.int i) (.int j) H Q := .inl ⟨rfl, by
  have e : decide (V.int i = V.int j) = decide (i = j) := by simp
  rw [e]; exact h⟩
theorem s_neI {i j : Int} (h : Q (.bl (!decide (i = j))) H) : rNeX K (.int i) (.int j) H Q := .inl ⟨rfl, by
  have e : decide (V.int i = V.int j) = decide (i = j) := by simp
  rw [e]; exact h⟩
theorem s_eqS {i j : Str} (h : Q (.bl (decide (i = j))) H) : rEqX K (.str i) (.str j) H Q := .inl ⟨rfl, by
  have e : decide (V.str i = V.str j) = decide (i = j) := by simp
  rw [e]; exact h⟩
theorem s_neS {i j : Str} (h : Q (.bl (!decide (i = j))) H) : rNeX K (.str i) (.str j) H Q := .inl ⟨rfl, by
  have e : decide (V.str i = V.str j) = decide (i = j) := by simp
  rw [e]; exact h⟩
theorem s_eqB {i j : Bool} (h : Q (.bl (decide (i = j))) H) : rEqX K (.bl i) (.bl j) H Q := .inl ⟨rfl, by
  have e : decide (V.bl i = V.bl j) = decide (i = j) := by simp
  rw [e]; exact h⟩
theorem s_neB {i j : Bool} (h : Q (.bl (!decide (i = j))) H) : rNeX K (.bl i) (.bl j) H Q := .inl ⟨rfl, by
  have e : decide (V.bl i = V.bl j) = decide (i = j) := by simp
  rw [e]; exact h⟩
theorem s_isN (h : Q (.bl (decide (v = .non))) H) : rIsX v .non H Q := .inl ⟨rfl, h⟩
theorem s_isNotN (h : Q (.bl (!decide (v = .non))) H) : rIsNotX v .non H Q := .inl ⟨rfl, h⟩
theorem s_isB {a b : Bool} (h : Q (.bl (decide (a = b))) H) : rIsX (.bl a) (.bl b) H Q := .inr ⟨a, b, rfl, rfl, h⟩
theorem s_isNotB {a b : Bool} (h : Q (.bl (!decide (a = b))) H) : rIsNotX (.bl a) (.bl b) H Q := .inr ⟨a, b, rfl, rfl, h⟩
theorem s_inT {p : Addr} {xs : List V} {b : Bool} {neg : Bool} (h1 : SqT K H p xs) (f1 : flatV v = true) (f2 : xs.all flatV = true) (e : (if neg then !inV v xs else inV v xs) = b) (h : Q (.bl b) H) : rInX K neg v (.ref p) H Q :=
  ⟨p, xs, rfl, .inr h1, f1, f2, by rw [e]; exact h⟩
theorem s_inL {p : Addr} {xs : List V} {b : Bool} {neg : Bool} (h1 : SqL K H p xs) (f1 : flatV v = true) (f2 : xs.all flatV = true) (e : (if neg then !inV v xs else inV v xs) = b) (h : Q (.bl b) H) : rInX K neg v (.ref p) H Q :=
  ⟨p, xs, rfl, .inl h1, f1, f2, by rw [e]; exact h⟩
theorem s_inT0 {p : Addr} {xs : List V} (h1 : SqT K H p xs) (f1 : flatV v = true) (f2 : xs.all flatV = true) (h : Q (.bl (inV v xs)) H) : rInX K false v (.ref p) H Q := ⟨p, xs, rfl, .inr h1, f1, f2, h⟩
theorem s_inL0 {p : Addr} {xs : List V} (h1 : SqL K H p xs) (f1 : flatV v = true) (f2 : xs.all flatV = true) (h : Q (.bl (inV v xs)) H) : rInX K false v (.ref p) H Q := ⟨p, xs, rfl, .inl h1, f1, f2, h⟩
theorem s_niT0 {p : Addr} {xs : List V} (h1 : SqT K H p xs) (f1 : flatV v = true) (f2 : xs.all flatV = true) (h : Q (.bl (!inV v xs)) H) : rInX K true v (.ref p) H Q := ⟨p, xs, rfl, .inr h1, f1, f2, h⟩
theorem s_niL0 {p : Addr} {xs : List V} (h1 : SqL K H p xs) (f1 : flatV v = true) (f2 : xs.all flatV = true) (h : Q (.bl (!inV v xs)) H) : rInX K true v (.ref p) H Q := ⟨p, xs, rfl, .inl h1, f1, f2, h⟩
theorem s_ixL {p : Addr} {xs : List V} {i : Int} (h1 : SqL K H p xs) (e : atI xs i = some v) (h : Q v H) : rIxX K (.ref p) (.int i) H Q := .inl ⟨p, xs, i, v, rfl, rfl, h1, e, h⟩
theorem s_ixT {p : Addr} {xs : List V} {i : Int} (h1 : SqT K H p xs) (e : atI xs i = some v) (h : Q v H) : rIxX K (.ref p) (.int i) H Q := .inr (.inl ⟨p, xs, i, v, rfl, rfl, h1, e, h⟩)
theorem s_ixS {z : Str} {i : Int} {c : Nat} (h1 : z.length ≤ sizeLine) (e : atI z.cps.toList i = some c) (h : Q (.str ⟨#[c]⟩) H) : rIxX K (.str z) (.int i) H Q := .inr (.inr ⟨z, i, c, rfl, rfl, h1, e, h⟩)
theorem atI_in {xs : List V} {i : Int} (h0 : 0 ≤ i) (h1 : i < xs.length) : atI xs i = some (xs.getD i.toNat .non) := by
  unfold atI ixN
  rw [if_pos h0, if_pos h1]
  show xs[i.toNat]? = _
  rw [List.getD_eq_getElem?_getD, List.getElem?_eq_getElem (by omega)]
  rfl
theorem atI_ints {ns : List Int} {i : Int} (h0 : 0 ≤ i) (h1 : i < (ns.map V.int).length) : atI (ns.map V.int) i = some (.int (ns.getD i.toNat 0)) := by
  rw [List.length_map] at h1
  unfold atI ixN
  rw [if_pos h0, if_pos (by rw [List.length_map]; exact h1)]
  show (ns.map V.int)[i.toNat]? = _
  rw [List.getElem?_map, List.getD_eq_getElem?_getD, List.getElem?_eq_getElem (by omega)]
  rfl
theorem getD_strs (l : List Str) (i : Nat) (h : i < l.length) : (l.map V.str).getD i .non = .str (l.getD i "") := by
  rw [List.getD_eq_getElem?_getD, List.getD_eq_getElem?_getD, List.getElem?_map, List.getElem?_eq_getElem h]
  rfl
theorem getD_ints (l : List Int) (i : Nat) (h : i < l.length) : (l.map V.int).getD i .non = .int (l.getD i 0) := by
  rw [List.getD_eq_getElem?_getD, List.getD_eq_getElem?_getD, List.getElem?_map, List.getElem?_eq_getElem h]
  rfl
theorem s_test (h : ta σ H fun x H' => ∃ k, x = .bl k ∧ R k H') : tTest ta σ H R := h
theorem s_tB (h : ta σ H fun x H' => ∃ k, x = .bl k ∧ R k H') : tB ta σ H R := h
theorem s_bl {b : Bool} {P : Bool → Prop} (h : P b) : ∃ k, V.bl b = .bl k ∧ P k := ⟨b, rfl, h⟩
theorem s_and (h : tc σ H fun c H1 => if c = true then td σ H1 R else R false H1) : tAnd tc td σ H R := h
theorem s_or (h : tc σ H fun c H1 => if c = true then R true H1 else td σ H1 R) : tOr tc td σ H R := h
theorem s_not (h : tc σ H fun c H1 => R (!c) H1) : tNot tc σ H R := h
theorem s_andV (h : ta σ H fun x H1 => ∃ c, x = .bl c ∧ if c = true then tb σ H1 Q else Q (.bl false) H1) : tAndV ta tb σ H Q := h
theorem s_orV (h : ta σ H fun x H1 => ∃ c, x = .bl c ∧ if c = true then Q (.bl true) H1 else tb σ H1 Q) : tOrV ta tb σ H Q := h
theorem s_if (h : tc σ H fun c H1 => if c = true then ta σ H1 Q else tb σ H1 Q) : tIf tc ta tb σ H Q := h
theorem s_chain {r r' : R2} {te : TE} (h : ta σ H fun x H1 => tb σ H1 fun y H2 => r x y H2 fun z H3 => ∃ k, z = .bl k ∧ (if k = true then te σ H3 fun w' H4 => r' y w' H4 Q else Q (.bl false) H3)) : tChain r r' ta tb te σ H Q := h
theorem s_nil {S : List V → Hp → Prop} (h : S [] H) : tNil σ H S := h
theorem s_cons {S : List V → Hp → Prop} {tr : TA} (h : ta σ H fun x H1 => tr σ H1 fun xs H2 => S (x :: xs) H2) : tCons ta tr σ H S := h
theorem s_tup {tr : TA} (h : tr σ H fun xs H1 => newO (.tup xs) xs.length H1 Q) : tTup tr σ H Q := h
theorem s_lst {tr : TA} (h : tr σ H fun xs H1 => newO (.lst xs) xs.length H1 Q) : tLst tr σ H Q := h
theorem s_rep {l : Addr} {k : Int} {xs ys : List V} (h1 : H l = some (.lst xs)) (c : -(2 ^ 63) ≤ k ∧ k < 2 ^ 63) (c2 : xs.length * k.toNat ≤ sizeLine) (e : (List.replicate k.toNat xs).flatten = ys) (h : newO (.lst ys) 0 H Q) : rMulX K (.ref l) (.int k) H Q :=
  .inr (.inr (.inl ⟨l, k, xs, rfl, rfl, h1, c.1, c.2, c2, by rw [e]; exact h.2⟩))
theorem s_cat {l b : Addr} {xs zs ys : List V} (h1 : H l = some (.lst xs)) (h2 : H b = some (.lst zs)) (c : xs.length + zs.length ≤ sizeLine) (e : xs ++ zs = ys) (h : newO (.lst ys) 0 H Q) : rAddX K (.ref l) (.ref b) H Q :=
  .inr (.inr (.inl ⟨l, b, xs, zs, rfl, rfl, h1, h2, c, by rw [e]; exact h.2⟩))
theorem s_listO {p : Addr} {ys : List V} (h1 : SqL K H p ys) (h : newO (.lst ys) 0 H Q) : rListX K [.ref p] H Q := ⟨p, ys, rfl, .inl h1, h.2⟩
theorem s_listT {p : Addr} {ys : List V} (h1 : SqT K H p ys) (h : newO (.lst ys) 0 H Q) : rListX K [.ref p] H Q := ⟨p, ys, rfl, .inr h1, h.2⟩
theorem s_tupL {p : Addr} {ys : List V} (h1 : SqL K H p ys) (h : newO (.tup ys) 0 H Q) : rTupX K [.ref p] H Q := ⟨p, ys, rfl, .inl ⟨h1, h.2⟩⟩
theorem s_tupT {p : Addr} {ys : List V} (h1 : SqT K H p ys) (h : Q (.ref p) H) : rTupX K [.ref p] H Q := ⟨p, ys, rfl, .inr ⟨h1, h⟩⟩
theorem s_slL {p : Addr} {xs ys : List V} {lo hi : Option Int} (h1 : SqL K H p xs) (e : cutV xs lo hi = ys) (h : newO (.lst ys) 0 H Q) : rSlX K (.ref p) lo hi H Q := .inl ⟨p, xs, rfl, h1, by rw [e]; exact h.2⟩
theorem s_CB {r : List V → Hp → VK → Prop} {tr : TA} (h : tr σ H fun vs H1 => r vs H1 Q) : tCB r tr σ H Q := h
theorem s_call {sp : Sp} {E : XK} {tr : TA} (h : tr σ H fun vs H1 => sp (vs ++ []) H1 Q E) : tCall sp [] E tr σ H Q := h
theorem s_int {i : Int} (h : Q (.int i) H) : rInt [.int i] H Q := .inl ⟨i, rfl, h⟩
theorem s_intB {b : Bool} (h : if b = true then Q (.int 1) H else Q (.int 0) H) : rInt [.bl b] H Q := .inr ⟨b, rfl, by cases b <;> exact h⟩
theorem s_abs {i : Int} (h : Q (.int (if i < 0 then -i else i)) H) : rAbs [.int i] H Q := ⟨i, rfl, h⟩
theorem s_max2 {i j : Int} (h : Q (.int (if j > i then j else i)) H) : rMax2 [.int i, .int j] H Q := ⟨i, j, rfl, h⟩
theorem s_min2 {i j : Int} (h : Q (.int (if j < i then j else i)) H) : rMin2 [.int i, .int j] H Q := ⟨i, j, rfl, h⟩
theorem s_lenL {p : Addr} {xs : List V} (h1 : SqL K H p xs) (h : Q (.int (xs.length : Nat)) H) : rLenX K [.ref p] H Q := ⟨_, _, rfl, .inl ⟨xs, h1, rfl⟩, h⟩
theorem s_lenT {p : Addr} {xs : List V} (h1 : SqT K H p xs) (h : Q (.int (xs.length : Nat)) H) : rLenX K [.ref p] H Q := ⟨_, _, rfl, .inr ⟨xs, h1, rfl⟩, h⟩
theorem s_isi {c : V} {ty un : Value} {b : Bool} (k : ClsV c un) (h1 : TyX K H v ty) (e : PySem.W.kitOne K ty un = some b) (h : Q (.bl b) H) : rIsiX K [v, c] H Q := .inl ⟨v, c, ty, un, b, rfl, k, h1, e, h⟩
theorem s_isT {a b : String} (h1 : TyX K H v (.type a)) (e : kitB a b = some true) (h : Q (.bl true) H) : rIsiX K [v, .ty b] H Q := .inl ⟨v, _, _, _, _, rfl, .ty b, h1, kit_ty e, h⟩
theorem s_isF {a b : String} (h1 : TyX K H v (.type a)) (e : kitB a b = some false) (h : Q (.bl false) H) : rIsiX K [v, .ty b] H Q := .inl ⟨v, _, _, _, _, rfl, .ty b, h1, kit_ty e, h⟩
-- statements
variable {n b c : L2.St → Hp → Prop} {r : VK}
theorem s_seq (h : t ⟨u ⟨n, r, b, c⟩, r, b, c⟩ σ H) : tSeq t u ⟨n, r, b, c⟩ σ H := h
theorem s_next (h : n σ H) : tNext ⟨n, r, b, c⟩ σ H := h
theorem s_break (h : b σ H) : tBreak ⟨n, r, b, c⟩ σ H := h
theorem s_cont (h : c σ H) : tCont ⟨n, r, b, c⟩ σ H := h
theorem s_drop (h : ta σ H fun _ H1 => n σ H1) : tDrop ta ⟨n, r, b, c⟩ σ H := h
theorem s_ret (h : ta σ H r) : tRet ta ⟨n, r, b, c⟩ σ H := h
theorem s_retN (h : r .non H) : tRetN ⟨n, r, b, c⟩ σ H := h
theorem s_ifS (h : tc σ H fun q H1 => if q = true then t ⟨n, r, b, c⟩ σ H1 else u ⟨n, r, b, c⟩ σ H1) : tIfS tc t u ⟨n, r, b, c⟩ σ H := h
theorem s_asg {g : TG} (h : ta σ H fun x H1 => g x σ H1 n) : tAsg ta g ⟨n, r, b, c⟩ σ H := h
theorem s_gname {i : Nat} {S : L2.St → Hp → Prop} (e : σ.set i (some v) = σ') (h : S σ' H) : gName i v σ H S := by
  show S (σ.set i (some v)) H
  rw [e]; exact h
theorem s_gsub {S : L2.St → Hp → Prop} {ts : TSet} (h : ta σ H fun o H1 => tb σ H1 fun i H2 => ts o i v H2 fun H3 => S σ H3) : gSub ta tb ts v σ H S := h
theorem s_fld {f : Str} (h : ta σ H fun x H1 => fldO K f x H1 Q) : tFld K ta f σ H Q := h
theorem s_sfld {f : Str} (h : tb σ H fun y H1 => ta σ H1 fun x H2 => sfldO K f y x H2 fun H3 => n σ H3) : sFld K ta tb f ⟨n, r, b, c⟩ σ H := h
end
/-! ### what is done to the ledger -/
section
variable {A : List Addr} {H0 H : Hp} {L L' : List Cell} {Q : VK} {P : Hp → Prop} {v : V}
theorem h_new {o : HO} {n : Nat} (S : SH A H0 H L) (c : n ≤ sizeLine) (h : ∀ p H', SH A H0 H' ((p, o) :: L) → H p = none → Q (.ref p) H') : newO o n H Q := ⟨c, fun p hp => h p _ (S.new o hp) hp⟩
theorem h_fld {K : PySem.W.Frag} {a C dx : Addr} {fs : List (Str × V)} {f : Str} (S : SH A H0 H L) (h1 : H a = some (.ins C dx fs)) (cl : Cls K C) (na : NoAttr K C f) (e : fs.lookup f = some v) (h : Q v H) : fldO K f (.ref a) H Q := ⟨a, C, dx, fs, v, rfl, h1, cl, na, e, h⟩
theorem h_sfld {K : PySem.W.Frag} {a C dx : Addr} {fs fs' : List (Str × V)} {f : Str} (S : SH A H0 H L) (i : Nat) (h1 : L[i]? = some (a, .ins C dx fs)) (cl : Cls K C) (na : NoAttr K C f) (l : fs.length < 1000) (e : putF f v fs = fs') (eL : L.set i (a, .ins C dx fs') = L')
    (h : ∀ H', SH A H0 H' L' → P H') : sfldO K f v (.ref a) H P := ⟨a, C, dx, fs, rfl, S.get i h1, cl, na, l, by rw [e]; exact h _ (eL ▸ S.set i h1 rfl _)⟩
theorem h_upd {a : Addr} {o o' : HO} (S : SH A H0 H L) (i : Nat) (e : L[i]? = some (a, o)) (im : Imm o = false) (eL : L.set i (a, o') = L') (h : ∀ H', SH A H0 H' L' → P H') : P (upd H a o') := h _ (eL ▸ S.set i e im o')
theorem h_setL {a : Addr} {xs ys : List V} {k : Int} {j : Nat} (S : SH A H0 H L) (i : Nat) (e : L[i]? = some (a, .lst xs)) (ej : ixN xs.length k = some j) (ey : xs.set j v = ys) (eL : L.set i (a, .lst ys) = L')
    (h : ∀ H', SH A H0 H' L' → P H') : rSetL (.ref a) (.int k) v H P := ⟨a, xs, k, j, rfl, rfl, S.get i e, ej, by rw [ey]; exact h _ (eL ▸ S.set i e rfl _)⟩
theorem ixN_in {n : Nat} {i : Int} (h0 : 0 ≤ i) (h1 : i < n) : ixN n i = some i.toNat := by
  unfold ixN
  rw [if_pos h0, if_pos h1]
end
/-! ### loops -/
def loopI (J : It) (g : TG) (tb : TS) (D : Ends) (σ : L2.St) (H : Hp) : Prop := ∃ W : Nat → Nat → L2.St → Hp → Prop, (∃ m, W 0 m σ H) ∧ ∀ i m σ H, W i m σ H →
  (J.stop i H ∧ D.nx σ H) ∨ (J.go i H ∧ ∃ N : L2.St → Hp → Prop, (∀ σ' H', N σ' H' → ∃ m', m' < m ∧ W (i + 1) m' σ' H') ∧ ∀ x H', J.yld i H x H' → g x σ H' fun σ2 H2 => tb { D with nx := N, ct := N, bk := D.nx } σ2 H2)
def forR1 (vs : List V) (g : TG) (tb : TS) (D : Ends) (σ : L2.St) (H : Hp) : Prop := ∃ j : Int, vs = [.int j] ∧ -(2 ^ 62) ≤ j ∧ j < 2 ^ 62 ∧ loopI (Itr 0 j.toNat) g tb D σ H
def forR2 (vs : List V) (g : TG) (tb : TS) (D : Ends) (σ : L2.St) (H : Hp) : Prop := ∃ i j : Int, vs = [.int i, .int j] ∧ (-(2 ^ 62) ≤ i ∧ i < 2 ^ 62 ∧ -(2 ^ 62) ≤ j ∧ j < 2 ^ 62) ∧ loopI (Itr i (j - i).toNat) g tb D σ H
def forL (K : PySem.W.Frag) (v : V) (g : TG) (tb : TS) (D : Ends) (σ : L2.St) (H : Hp) : Prop := ∃ a, v = .ref a ∧ (∃ xs, SqL K H a xs) ∧ loopI (Itl K a) g tb D σ H
def forT (K : PySem.W.Frag) (v : V) (g : TG) (tb : TS) (D : Ends) (σ : L2.St) (H : Hp) : Prop := ∃ a, v = .ref a ∧ (∃ xs, SqT K H a xs) ∧ loopI (Itt K a) g tb D σ H
section
variable {σ : L2.St} {H : Hp} {K : PySem.W.Frag} {g : TG} {tb : TS} {ta : TA} {te : TE} {D : Ends} {n b c : L2.St → Hp → Prop} {r : VK}
theorem s_forR1 (h : ta σ H fun vs H1 => forR1 vs g tb D σ H1) : tFor (iRng1 ta) g tb D σ H := h
theorem s_forR2 (h : ta σ H fun vs H1 => forR2 vs g tb D σ H1) : tFor (iRng2 ta) g tb D σ H := h
theorem s_forL (h : te σ H fun v H1 => forL K v g tb D σ H1) : tFor (iList K te) g tb D σ H := h
theorem s_forT (h : te σ H fun v H1 => forT K v g tb D σ H1) : tFor (iTup K te) g tb D σ H := h
/-- for i in range(j), an invariant over the turn -/
theorem u_forR1 {j : Int} (Pv : Nat → L2.St → Hp → Prop) (lo : -(2 ^ 62) ≤ j) (hi : j < 2 ^ 62) (h0 : Pv 0 σ H)
    (hs : ∀ (i : Nat) σ H, (i : Int) < j → Pv i σ H → g (.int i) σ H fun σ2 H2 => tb ⟨Pv (i + 1), r, n, Pv (i + 1)⟩ σ2 H2) (hd : ∀ σ H, Pv j.toNat σ H → n σ H) : forR1 [.int j] g tb ⟨n, r, b, c⟩ σ H := by
  refine ⟨j, rfl, lo, hi, ?_⟩
  refine for_range Pv h0 (fun i σ H hi p => ?_) hd
  rw [show (0 : Int) + (i : Int) = (i : Int) by omega]
  exact hs i σ H (by omega) p
theorem u_forR2 {l j : Int} (Pv : Nat → L2.St → Hp → Prop) (hb : -(2 ^ 62) ≤ l ∧ l < 2 ^ 62 ∧ -(2 ^ 62) ≤ j ∧ j < 2 ^ 62) (h0 : Pv 0 σ H)
    (hs : ∀ (i : Nat) σ H, l + (i : Int) < j → Pv i σ H → g (.int (l + i)) σ H fun σ2 H2 => tb ⟨Pv (i + 1), r, n, Pv (i + 1)⟩ σ2 H2) (hd : ∀ σ H, Pv (j - l).toNat σ H → n σ H) : forR2 [.int l, .int j] g tb ⟨n, r, b, c⟩ σ H := by
  refine ⟨l, j, rfl, hb, ?_⟩
  refine for_range Pv h0 (fun i σ H hi p => ?_) hd
  exact hs i σ H (by omega) p
/-- for x in a list that stays as it is -/
theorem u_forL {a : Addr} {xs : List V} (Pv : Nat → L2.St → Hp → Prop) (h : SqL K H a xs) (h0 : Pv 0 σ H) (hl : ∀ i σ H, i ≤ xs.length → Pv i σ H → SqL K H a xs)
    (hs : ∀ (i : Nat) (x : V) σ H, xs[i]? = some x → Pv i σ H → g x σ H fun σ2 H2 => tb ⟨Pv (i + 1), r, n, Pv (i + 1)⟩ σ2 H2) (hd : ∀ σ H, Pv xs.length σ H → n σ H) : forL K (.ref a) g tb ⟨n, r, b, c⟩ σ H :=
  ⟨a, rfl, ⟨xs, h⟩, for_list Pv h0 hl (fun i x σ H e p => hs i x σ H e p) hd⟩
end
/-! ### tests decided -/
section
variable {A B : Prop}
theorem i_dec {p : Prop} [Decidable p] (h1 : p → A) (h2 : ¬ p → B) : if decide p = true then A else B := by
  by_cases h : p
  · rw [if_pos (decide_eq_true h)]; exact h1 h
  · rw [if_neg (by rw [decide_eq_false h]; exact Bool.false_ne_true)]; exact h2 h
theorem i_not {x : Bool} (h : if x = true then B else A) : if (!x) = true then A else B := by
  cases x
  · exact h
  · exact h
theorem i_gen {x : Bool} (h1 : x = true → A) (h2 : x = false → B) : if x = true then A else B := by
  cases x
  · exact h2 rfl
  · exact h1 rfl
theorem i_pos {x : Bool} (e : x = true) (h : A) : if x = true then A else B := by rw [if_pos e]; exact h
theorem i_neg {x : Bool} (e : x = false) (h : B) : if x = true then A else B := by rw [if_neg (by rw [e]; exact Bool.false_ne_true)]; exact h
end
end Q

namespace Law
open PySem L2 Q
/-! words: one step; arithmetic; a heap fact; a sequence -/
set_option hygiene false
local macro_rules | `(tactic| walk_at "ar") => `(tactic| first | assumption | omega | decide | (constructor <;> omega) | (simp only [List.length_cons, List.length_nil, List.length_append, List.length_map, List.length_replicate, List.length_set] at *; omega))
local macro_rules | `(tactic| walk_at "hp") => `(tactic| first | assumption | exact hS.get 0 rfl | exact hS.get 1 rfl | exact hS.get 2 rfl | exact hS.get 3 rfl | exact hS.get 4 rfl | exact hS.get 5 rfl | exact hS.get 6 rfl | exact hS.get 7 rfl | exact hS.get 8 rfl | exact hS.get 9 rfl | exact hS.imm (by assumption) rfl)
local macro_rules | `(tactic| walk_at "sq") => `(tactic| first | exact SqL.of (by walk_at "hp") | exact SqT.of (by walk_at "hp") | exact Scr.sq (Scr.keep (by assumption) hS.kp) | assumption)
local macro_rules | `(tactic| walk_at "at") => `(tactic| first | exact rfl | exact atI_ints (by walk_at "ar") (by walk_at "ar") | exact atI_in (by walk_at "ar") (by walk_at "ar"))
local macro_rules | `(tactic| walk_at "ij") => `(tactic| first | exact rfl | exact ixN_in (by walk_at "ar") (by walk_at "ar"))
local macro_rules | `(tactic| walk_at "ls") => `(tactic| first | ((try simp only [List.set_cons_zero, List.set_cons_succ]); exact rfl))
local macro_rules | `(tactic| walk_at "sl") => `(tactic| repeat (first | exact List.Sublist.refl _ | refine List.Sublist.cons_cons _ ?_ | refine List.Sublist.cons _ ?_))
local macro_rules | `(tactic| walk_at "tri") => `(tactic| first | rfl | decide | (exfalso; omega))
local macro_rules | `(tactic| walk_at "ty") => `(tactic| first | exact .base .non | exact .base (.bl _) | exact .base (.int _) | exact .base (.str _) | exact .base (.lst (by walk_at "hp")) | exact .base (.tup (by walk_at "hp")) | exact .base (.dK (by walk_at "hp")))
local macro_rules | `(tactic| walk_at "st") => `(tactic| first
  | (with_reducible refine s_seq ?_)
  | ((with_reducible show tVar _ _ _ _); refine s_var rfl ?_)
  | (with_reducible refine s_C ?_)
  | (with_reducible refine s_op ?_)
  | (with_reducible refine s_asg ?_)
  | ((with_reducible apply s_gname); (· walk_at "ls"))
  | (with_reducible refine s_gsub ?_)
  | (with_reducible refine s_ifS ?_)
  | (with_reducible refine s_next ?_)
  | (with_reducible refine s_ret ?_)
  | (with_reducible refine s_retN ?_)
  | (with_reducible refine s_drop ?_)
  | (with_reducible refine s_test ?_)
  | (with_reducible refine s_tB ?_)
  | (with_reducible refine s_bl ?_)
  | ((with_reducible apply s_ixL); (· walk_at "sq"); (· walk_at "at"))
  | ((with_reducible apply s_ixT); (· walk_at "sq"); (· walk_at "at"))
  | (with_reducible refine s_addI ?_)
  | (with_reducible refine s_rI0 ?_)
  | ((with_reducible apply s_inT0); (· walk_at "sq"); (· rfl); (· rfl))
  | ((with_reducible apply s_inL0); (· walk_at "sq"); (· rfl); (· rfl))
  | ((with_reducible apply s_niT0); (· walk_at "sq"); (· rfl); (· rfl))
  | ((with_reducible apply s_niL0); (· walk_at "sq"); (· rfl); (· rfl))
  | ((with_reducible refine s_mulR ?_ ?_); (· walk_at "ar"))
  | ((with_reducible refine s_mulL ?_ ?_); (· walk_at "ar"))
  | ((with_reducible refine s_mod ?_ ?_); (· walk_at "ar"))
  | ((with_reducible refine s_div ?_ ?_ ?_); (· walk_at "ar"); (· walk_at "ar"))
  | (with_reducible refine s_int ?_)
  | (with_reducible refine s_intB ?_)
  | (with_reducible refine s_CB ?_)
  | (with_reducible refine s_cons ?_)
  | (with_reducible refine s_nil ?_)
  | (with_reducible refine s_call ?_)
  | (with_reducible refine s_un ?_)
  | (with_reducible refine s_rU ?_)
  | ((with_reducible apply s_lenL); (· walk_at "sq"))
  | ((with_reducible apply s_lenT); (· walk_at "sq"))
  | (with_reducible refine s_eqI ?_)
  | (with_reducible refine s_neI ?_)
  | (with_reducible refine s_eqS ?_)
  | (with_reducible refine s_neS ?_)
  | (with_reducible refine s_eqB ?_)
  | (with_reducible refine s_neB ?_)
  | (with_reducible refine s_isN ?_)
  | (with_reducible refine s_isNotN ?_)
  | (with_reducible refine s_isB ?_)
  | (with_reducible refine s_isNotB ?_)
  | ((with_reducible apply s_isT); (· walk_at "ty"); (· decide +kernel))
  | ((with_reducible apply s_isF); (· walk_at "ty"); (· decide +kernel))
  | (with_reducible refine s_forR1 ?_)
  | (with_reducible refine s_forR2 ?_)
  | (with_reducible refine s_forL ?_)
  | (with_reducible refine s_forT ?_)
  | (with_reducible refine s_and ?_)
  | (with_reducible refine s_or ?_)
  | (with_reducible refine s_not ?_)
  | (with_reducible refine s_andV ?_)
  | (with_reducible refine s_orV ?_)
  | (with_reducible refine s_if ?_)
  | (with_reducible refine s_chain ?_)
  | (with_reducible refine s_tup ?_)
  | (with_reducible refine s_lst ?_)
  | ((with_reducible apply s_pow); (· exact ⟨by decide, by decide, by decide⟩); (· (simp only [Int.reduceToNat, Int.reducePow]; exact rfl)))
  | (with_reducible refine s_abs ?_)
  | (with_reducible refine s_max2 ?_)
  | (with_reducible refine s_min2 ?_)
  | ((with_reducible refine h_new hS ?_ (fun p H1 hS1 hp => ?_)); (· first | exact Nat.le_of_ble_eq_true rfl | walk_at "ar"); clear hS; rename SH _ _ _ _ => hS)
  | ((with_reducible apply s_rep); (· walk_at "hp"); (· walk_at "ar"); (· first | exact Nat.le_of_ble_eq_true rfl | walk_at "ar"); (· exact rfl))
  | ((with_reducible apply s_cat); (· walk_at "hp"); (· walk_at "hp"); (· first | exact Nat.le_of_ble_eq_true rfl | walk_at "ar"); (· exact rfl))
  | ((with_reducible apply s_listO); (· walk_at "sq"))
  | ((with_reducible apply s_listT); (· walk_at "sq"))
  | ((with_reducible apply s_tupL); (· walk_at "sq"))
  | ((with_reducible apply s_tupT); (· walk_at "sq"))
  | ((with_reducible apply h_setL hS 0); (· exact rfl); (· walk_at "ij"); (· walk_at "ls"); (· walk_at "ls"); intro H1 hS1; clear hS; rename SH _ _ _ _ => hS)
  | ((with_reducible apply h_setL hS 1); (· exact rfl); (· walk_at "ij"); (· walk_at "ls"); (· walk_at "ls"); intro H1 hS1; clear hS; rename SH _ _ _ _ => hS)
  | ((with_reducible apply h_setL hS 2); (· exact rfl); (· walk_at "ij"); (· walk_at "ls"); (· walk_at "ls"); intro H1 hS1; clear hS; rename SH _ _ _ _ => hS)
  | (with_reducible refine i_not ?_)
  | ((with_reducible refine i_pos ?_ ?_); (· first | rfl | decide | exact decide_eq_true (by omega)))
  | ((with_reducible refine i_neg ?_ ?_); (· first | rfl | decide | exact decide_eq_false (by omega)))
  | (with_reducible refine i_dec (fun hc => ?_) (fun hc => ?_))
  | (with_reducible refine i_gen (fun hc => ?_) (fun hc => ?_)))
def top (i : Nat) : Stmt := PySem.Challenge.pw_windowada_k10_kinds_of_operators.main.body.getD i (.Pass ⟨0, 0, 0, 0⟩)
abbrev s_unary_kind : Stmt := top 6
abbrev s_binary_kind : Stmt := top 7
abbrev s_z_pick : Stmt := top 9
abbrev s_z_unary : Stmt := top 10
abbrev s_z_binary : Stmt := top 11
abbrev s_z_right : Stmt := top 12
abbrev s_z_question : Stmt := top 13
abbrev s_law : Stmt := top 14
abbrev N_unary_kind : List Str := ["operator", "operand", "needed"]
theorem st_unary_kind (a0 a1 : V) : L2.start N_unary_kind [a0, a1] = [some a0, some a1, none] := rfl
theorem sc_unary_kind : FnScope N_unary_kind ["operator", "operand"] (defScope s_unary_kind) := ⟨rfl, rfl, rfl, by decide +kernel, rfl, by decide +kernel, by decide +kernel⟩
abbrev N_binary_kind : List Str := ["operator", "left", "right"]
theorem st_binary_kind (a0 a1 a2 : V) : L2.start N_binary_kind [a0, a1, a2] = [some a0, some a1, some a2] := rfl
theorem sc_binary_kind : FnScope N_binary_kind ["operator", "left", "right"] (defScope s_binary_kind) := ⟨rfl, rfl, rfl, by decide +kernel, rfl, by decide +kernel, by decide +kernel⟩
abbrev N_z_pick : List Str := ["_law_state", "_law_limit", "_law_digit", "_law_cell", "_law_mixed"]
theorem st_z_pick (a0 a1 : V) : L2.start N_z_pick [a0, a1] = [some a0, some a1, none, none, none] := rfl
theorem sc_z_pick : FnScope N_z_pick ["_law_state", "_law_limit"] (defScope s_z_pick) := ⟨rfl, rfl, rfl, by decide +kernel, rfl, by decide +kernel, by decide +kernel⟩
abbrev N_z_unary : List Str := ["_law_operator", "_law_operand"]
theorem st_z_unary (a0 a1 : V) : L2.start N_z_unary [a0, a1] = [some a0, some a1] := rfl
theorem sc_z_unary : FnScope N_z_unary ["_law_operator", "_law_operand"] (defScope s_z_unary) := ⟨rfl, rfl, rfl, by decide +kernel, rfl, by decide +kernel, by decide +kernel⟩
abbrev N_z_binary : List Str := ["_law_operator", "_law_left", "_law_right_here", "_law_need"]
theorem st_z_binary (a0 a1 a2 : V) : L2.start N_z_binary [a0, a1, a2] = [some a0, some a1, some a2, none] := rfl
theorem sc_z_binary : FnScope N_z_binary ["_law_operator", "_law_left", "_law_right_here"] (defScope s_z_binary) := ⟨rfl, rfl, rfl, by decide +kernel, rfl, by decide +kernel, by decide +kernel⟩
abbrev N_z_right : List Str := ["_law_actual", "_law_due"]
theorem st_z_right (a0 a1 : V) : L2.start N_z_right [a0, a1] = [some a0, some a1] := rfl
theorem sc_z_right : FnScope N_z_right ["_law_actual", "_law_due"] (defScope s_z_right) := ⟨rfl, rfl, rfl, by decide +kernel, rfl, by decide +kernel, by decide +kernel⟩
abbrev N_z_question : List Str := ["_law_k", "_law_kinds", "_law_operator", "_law_operand", "_law_operators", "_law_at", "_law_left", "_law_right_here"]
theorem st_z_question (a0 : V) : L2.start N_z_question [a0] = [some a0, none, none, none, none, none, none, none] := rfl
theorem sc_z_question : FnScope N_z_question ["_law_k"] (defScope s_z_question) := ⟨rfl, rfl, rfl, by decide +kernel, rfl, by decide +kernel, by decide +kernel⟩
abbrev N_law : List Str := ["_law_script", "_law_state", "_law_turn", "_law_start", "_law_k"]
theorem st_law (a0 : V) : L2.start N_law [a0] = [some a0, none, none, none, none] := rfl
theorem sc_law : FnScope N_law ["_law_script"] (defScope s_law) := ⟨rfl, rfl, rfl, by decide +kernel, rfl, by decide +kernel, by decide +kernel⟩
structure Env (K : PySem.W.Frag) (mg : Str → Option Value) : Prop where
  mg_unary_kind : mg "unary_kind" = some (.ref (He.ga K "unary_kind"))
  mg_binary_kind : mg "binary_kind" = some (.ref (He.ga K "binary_kind"))
  mg_z_pick : mg "_law_pick" = some (.ref (He.ga K "_law_pick"))
  mg_z_unary : mg "_law_unary" = some (.ref (He.ga K "_law_unary"))
  mg_z_binary : mg "_law_binary" = some (.ref (He.ga K "_law_binary"))
  mg_z_right : mg "_law_right" = some (.ref (He.ga K "_law_right"))
  mg_z_question : mg "_law_question" = some (.ref (He.ga K "_law_question"))
  mg_law : mg "law" = some (.ref (He.ga K "law"))
  c_INTEGER : ∃ t, mg "INTEGER" = some (.str "integer" t)
  c_BOOLEAN : ∃ t, mg "BOOLEAN" = some (.str "boolean" t)
  mg_EQUALITY : mg "EQUALITY" = some (.ref (He.ga K "EQUALITY"))
  tp_EQUALITY : ∀ H : Hp, SqT K H (He.ga K "EQUALITY") [V.str "=", V.str "/="]
  mg_ORDER : mg "ORDER" = some (.ref (He.ga K "ORDER"))
  tp_ORDER : ∀ H : Hp, SqT K H (He.ga K "ORDER") [V.str "<", V.str "<=", V.str ">", V.str ">="]
  mg_LOGICAL : mg "LOGICAL" = some (.ref (He.ga K "LOGICAL"))
  tp_LOGICAL : ∀ H : Hp, SqT K H (He.ga K "LOGICAL") [V.str "and", V.str "or", V.str "xor", V.str "and then", V.str "or else"]
  z_int : mg "int" = none
  z_isinstance : mg "isinstance" = none
  z_len : mg "len" = none
  z_range : mg "range" = none
  z_str : mg "str" = none
  fd_unary_kind : ∃ fd, FunD K "unary_kind" "unary_kind" (defArgs s_unary_kind) (defBody s_unary_kind) (defScope s_unary_kind) [] [] (He.fAd K ("unary_kind", none)) fd
  fd_binary_kind : ∃ fd, FunD K "binary_kind" "binary_kind" (defArgs s_binary_kind) (defBody s_binary_kind) (defScope s_binary_kind) [] [] (He.fAd K ("binary_kind", none)) fd
  fd_z_pick : ∃ fd, FunD K "_law_pick" "_law_pick" (defArgs s_z_pick) (defBody s_z_pick) (defScope s_z_pick) [] [] (He.fAd K ("_law_pick", none)) fd
  fd_z_unary : ∃ fd, FunD K "_law_unary" "_law_unary" (defArgs s_z_unary) (defBody s_z_unary) (defScope s_z_unary) [] [] (He.fAd K ("_law_unary", none)) fd
  fd_z_binary : ∃ fd, FunD K "_law_binary" "_law_binary" (defArgs s_z_binary) (defBody s_z_binary) (defScope s_z_binary) [] [] (He.fAd K ("_law_binary", none)) fd
  fd_z_right : ∃ fd, FunD K "_law_right" "_law_right" (defArgs s_z_right) (defBody s_z_right) (defScope s_z_right) [] [] (He.fAd K ("_law_right", none)) fd
  fd_z_question : ∃ fd, FunD K "_law_question" "_law_question" (defArgs s_z_question) (defBody s_z_question) (defScope s_z_question) [] [] (He.fAd K ("_law_question", none)) fd
  fd_law : ∃ fd, FunD K "law" "law" (defArgs s_law) (defBody s_law) (defScope s_law) [] [] (He.fAd K ("law", none)) fd
def fa : List He.Fa := [.glo "unary_kind", .glo "binary_kind", .glo "_law_pick", .glo "_law_unary", .glo "_law_binary", .glo "_law_right", .glo "_law_question", .glo "law", .str "INTEGER" "integer", .str "BOOLEAN" "boolean", .glo "EQUALITY", .glo "ORDER", .glo "LOGICAL", .free "int", .free "isinstance", .free "len", .free "range", .free "str"]
def fn : List He.DefD := [⟨("unary_kind", none), "unary_kind", "unary_kind", defArgs s_unary_kind, defBody s_unary_kind, defScope s_unary_kind, [], []⟩, ⟨("binary_kind", none), "binary_kind", "binary_kind", defArgs s_binary_kind, defBody s_binary_kind, defScope s_binary_kind, [], []⟩, ⟨("_law_pick", none), "_law_pick", "_law_pick", defArgs s_z_pick, defBody s_z_pick, defScope s_z_pick, [], []⟩, ⟨("_law_unary", none), "_law_unary", "_law_unary", defArgs s_z_unary, defBody s_z_unary, defScope s_z_unary, [], []⟩, ⟨("_law_binary", none), "_law_binary", "_law_binary", defArgs s_z_binary, defBody s_z_binary, defScope s_z_binary, [], []⟩, ⟨("_law_right", none), "_law_right", "_law_right", defArgs s_z_right, defBody s_z_right, defScope s_z_right, [], []⟩, ⟨("_law_question", none), "_law_question", "_law_question", defArgs s_z_question, defBody s_z_question, defScope s_z_question, [], []⟩, ⟨("law", none), "law", "law", defArgs s_law, defBody s_law, defScope s_law, [], []⟩]
def exl : List (PySem.W.Frag → Bool) := [(fun K => He.tupB K "EQUALITY" [.str "=", .str "/="]), (fun K => He.tupB K "ORDER" [.str "<", .str "<=", .str ">", .str ">="]), (fun K => He.tupB K "LOGICAL" [.str "and", .str "or", .str "xor", .str "and then", .str "or else"])]
def ex (K : PySem.W.Frag) : Bool := exl.all fun f => f K
theorem env_mk {w : World} {K : PySem.W.Frag} {h : Heap} {mg : Str → Option Value} (X : K.In h) (G : h.Ns mainGlobals mg) (c : He.SaysX fa fn [] [] ex w h K) : Env K mg := ⟨
  He.glo_ok X G (c.t.d.fact 0 rfl),
  He.glo_ok X G (c.t.d.fact 1 rfl),
  He.glo_ok X G (c.t.d.fact 2 rfl),
  He.glo_ok X G (c.t.d.fact 3 rfl),
  He.glo_ok X G (c.t.d.fact 4 rfl),
  He.glo_ok X G (c.t.d.fact 5 rfl),
  He.glo_ok X G (c.t.d.fact 6 rfl),
  He.glo_ok X G (c.t.d.fact 7 rfl),
  He.str_ok X G (c.t.d.fact 8 rfl),
  He.str_ok X G (c.t.d.fact 9 rfl),
  He.glo_ok X G (c.t.d.fact 10 rfl),
  fun H => He.tupB_ok (exget c.more 0 rfl) H,
  He.glo_ok X G (c.t.d.fact 11 rfl),
  fun H => He.tupB_ok (exget c.more 1 rfl) H,
  He.glo_ok X G (c.t.d.fact 12 rfl),
  fun H => He.tupB_ok (exget c.more 2 rfl) H,
  He.free_ok X G (c.t.d.fact 13 rfl),
  He.free_ok X G (c.t.d.fact 14 rfl),
  He.free_ok X G (c.t.d.fact 15 rfl),
  He.free_ok X G (c.t.d.fact 16 rfl),
  He.free_ok X G (c.t.d.fact 17 rfl),
  c.t.d.def_ 0 rfl,
  c.t.d.def_ 1 rfl,
  c.t.d.def_ 2 rfl,
  c.t.d.def_ 3 rfl,
  c.t.d.def_ 4 rfl,
  c.t.d.def_ 5 rfl,
  c.t.d.def_ 6 rfl,
  c.t.d.def_ 7 rfl⟩

/-! ### the law's draws: a list [script, place, rest, count] -/
abbrev stO (s : Addr) (i g n : Int) : HO := .lst [.ref s, .int i, .int g, .int n]
def sp_z_pick (K : PySem.W.Frag) : Sp := mk2 fun a b H Q _ => ∃ (p s : Addr) (ns : List Int) (i g n lim : Int), a = .ref p ∧ b = .int lim ∧ H p = some (stO s i g n) ∧ Scr K H s (ns.map V.int) ∧ 0 ≤ i ∧ 0 ≤ g ∧ 0 < lim ∧ lim < 2 ^ 64 ∧
  ∀ (r i' g' n' : Int) H', 0 ≤ r → r < lim → 0 ≤ i' → 0 ≤ g' → H' p = some (stO s i' g' n') → Keep [p] H H' → Q (.int r) H'
theorem ok_z_pick {P : Program} {w : World} {K : PySem.W.Frag} {mg : Str → Option Value} {base : Heap} (Y : Env K mg)  : CallOk P w K mg base CX0 1 "_law_pick" ["_law_state", "_law_limit"] (sp_z_pick K) := by
  obtain ⟨fd, F⟩ := Y.fd_z_pick
  refine ⟨_, fd, Y.mg_z_pick, F.kp, F.bindsN (fun _ _ _ _ _ _ us hl => match us, hl with | [_, _], _ => rfl), F.ok sc_z_pick mk2_len (fun cdv A outer s H vs Q E hr h => ?_)⟩
  have hu := hu_room hr
  obtain ⟨_, _, rfl, p, sc, ns, i, g, n, lim, rfl, rfl, hp, hs, hi, hg, hl, hl2, k⟩ := h
  have hS : SH [p] H H [(p, .lst [.ref sc, .int i, .int g, .int n])] := SH.start1 hp
  refine ⟨_, PSs.nox (pss_cons (ps_asg (pe_op xAdd (pe_ix xIx (pv 0) pe_int (fun _ _ => rfl)) pe_int) (pg_sub (pv 0) pe_int set_list))
  (pss_cons (ps_if (pt_cmpR op_gt (pe_ix xIx (pv 0) pe_int (fun _ _ => rfl)) pe_int (nomark _)) (pss_cons (ps_set (i := 2) sc_z_pick.nd rfl (Or.inl rfl) (pe_op xMod (pe_callTy x_int rfl Y.z_int (by decide +kernel) (pa_cons (pe_ix xIx (pv 0) pe_int (fun _ _ => rfl)) pa_nil)) (pv 1)))
  (pss_cons (ps_asg (pe_op xDiv (pe_ix xIx (pv 0) pe_int (fun _ _ => rfl)) (pv 1)) (pg_sub (pv 0) pe_int set_list))
  (pss_one (ps_ret (pv 2))))) pss_nil)
  (pss_cons (ps_set (i := 3) sc_z_pick.nd rfl (Or.inl rfl) pe_int)
  (pss_cons (ps_if (pt_cmpR op_lt (pe_ix xIx (pv 0) pe_int (fun _ _ => rfl)) (pe_callB x_len rfl Y.z_len (by decide +kernel) (pa_cons (pe_ix xIx (pv 0) pe_int (fun _ _ => rfl)) pa_nil)) (nomark _)) (pss_one (ps_set (i := 3) sc_z_pick.nd rfl (Or.inl rfl) (pe_ix xIx (pe_ix xIx (pv 0) pe_int (fun _ _ => rfl)) (pe_ix xIx (pv 0) pe_int (fun _ _ => rfl)) (fun _ _ => rfl)))) pss_nil)
  (pss_cons (ps_asg (pe_op xAdd (pe_ix xIx (pv 0) pe_int (fun _ _ => rfl)) pe_int) (pg_sub (pv 0) pe_int set_list))
  (pss_cons (ps_if (pt_cmpR op_ge (pv 3) (pe_op op_pow pe_int pe_int) (nomark _)) (pss_cons (ps_asg (pe_op xDiv (pv 3) (pv 1)) (pg_sub (pv 0) pe_int set_list))
  (pss_one (ps_ret (pe_op xMod (pe_callTy x_int rfl Y.z_int (by decide +kernel) (pa_cons (pv 3) pa_nil)) (pv 1))))) pss_nil)
  (pss_cons (ps_set (i := 4) sc_z_pick.nd rfl (Or.inl rfl) (pe_op xMod (pe_callTy x_int rfl Y.z_int (by decide +kernel) (pa_cons (pe_op xAdd (pe_op xMul (pe_op xMod (pe_callTy x_int rfl Y.z_int (by decide +kernel) (pa_cons (pe_op xAdd (pe_op xAdd (pe_op xMul (pv 3) pe_int) (pe_op xMul (pe_ix xIx (pv 0) pe_int (fun _ _ => rfl)) pe_int)) pe_int) pa_nil)) pe_int) pe_int) (pe_ix xIx (pv 0) pe_int (fun _ _ => rfl))) pa_nil)) pe_int))
  (pss_one (ps_ret (pe_op xMod (pe_callTy x_int rfl Y.z_int (by decide +kernel) (pa_cons (pe_op xDiv (pv 4) pe_int) pa_nil)) (pv 1))))))))))), ?_⟩
  rw [st_z_pick]
  simp only [cxK, cxK2]
  clear hu hr F
  repeat' walk_at "st"
  all_goals first
    | exact k _ _ _ _ _ (Int.emod_nonneg _ (by omega)) (Int.emod_lt_of_pos _ hl) (by omega) (by omega) (hS.get 0 rfl) hS.kp
    | exact k _ _ _ _ _ (Int.emod_nonneg _ (by omega)) (Int.emod_lt_of_pos _ hl) (by omega) (Int.ediv_nonneg (by omega) (by omega)) (hS.get 0 rfl) hS.kp
theorem c_z_pick {K : PySem.W.Frag} {A : List Addr} {H0 H : Hp} {L : List Cell} {p s : Addr} {ns : List Int} {x g n lim : Int} {Q : VK} {E : XK} (hS : SH A H0 H L) (i : Nat) (e : L[i]? = some (p, stO s x g n)) (sc : Scr K H0 s (ns.map V.int)) (h0 : 0 ≤ x) (h1 : 0 ≤ g) (h2 : 0 < lim) (h3 : lim < 2 ^ 64)
    (k : ∀ (r x' g' n' : Int) H', 0 ≤ r → r < lim → 0 ≤ x' → 0 ≤ g' → SH A H0 H' (L.set i (p, stO s x' g' n')) → Q (.int r) H') : sp_z_pick K ([.ref p, .int lim] ++ []) H Q E :=
  ⟨_, _, rfl, p, s, ns, x, g, n, lim, rfl, rfl, hS.get i e, sc.keep hS.kp, h0, h1, h2, h3, fun r x' g' n' H' a b c d e' f => k r x' g' n' H' a b c d (hS.call1 i e rfl f e')⟩
local macro_rules | `(tactic| walk_at "st") => `(tactic| first
  | ((with_reducible show sp_z_pick _ _ _ _ _); refine c_z_pick hS 0 rfl (by assumption) ?_ ?_ ?_ ?_ (fun r x1 g1 n1 H1 hr0 hr1 hx1 hg1 hS1 => ?_); (· walk_at "ar"); (· walk_at "ar"); (· walk_at "ar"); (· walk_at "ar"); clear hS; rename SH _ _ _ _ => hS; simp only [List.set_cons_zero, List.set_cons_succ] at hS))

/-! ### what the defs do -/
def needed (op : Str) : Str := if op = "not" then "boolean" else "integer"
def ukind (op x : Str) : V := if x = needed op then .str (needed op) else .non
def sp_unary_kind (K : PySem.W.Frag) : Sp := mk2 fun a b H Q _ => ∃ op x, a = .str op ∧ b = .str x ∧ Q (ukind op x) H
theorem ok_unary_kind {P : Program} {w : World} {K : PySem.W.Frag} {mg : Str → Option Value} {base : Heap} (Y : Env K mg)  : CallOk P w K mg base CX0 1 "unary_kind" ["operator", "operand"] (sp_unary_kind K) := by
  obtain ⟨fd, F⟩ := Y.fd_unary_kind
  refine ⟨_, fd, Y.mg_unary_kind, F.kp, F.bindsN (fun _ _ _ _ _ _ us hl => match us, hl with | [_, _], _ => rfl), F.ok sc_unary_kind mk2_len (fun cdv A outer s H vs Q E hr h => ?_)⟩
  have hu := hu_room hr
  obtain ⟨_, _, rfl, op, x, rfl, rfl, k⟩ := h
  have hS : SH [] H H [] := SH.start0
  refine ⟨_, PSs.nox (pss_cons (ps_set (i := 2) sc_unary_kind.nd rfl (Or.inl rfl) (pe_ifExp (pt_cmpR (xEq hu) (pv 0) pe_str (nomark _)) (pe_cs rfl Y.c_BOOLEAN) (pe_cs rfl Y.c_INTEGER)))
  (pss_cons (ps_if (pt_cmpR (xNe hu) (pv 1) (pv 2) (nomark _)) (pss_one (ps_ret pe_non)) pss_nil)
  (pss_one (ps_ret (pv 2))))), ?_⟩
  rw [st_unary_kind]
  simp only [cxK, cxK2]
  clear hu hr F
  unfold ukind needed at k
  repeat' walk_at "st"
  all_goals simp_all
def isOf (op : Str) (l : List Str) : Bool := inV (.str op) (l.map V.str)
def bkind (op l r : Str) : V :=
  if l = r then
    if isOf op ["=", "/="] = true then .str "boolean"
    else if isOf op ["and", "or", "xor", "and then", "or else"] = true then (if l = "boolean" then .str "boolean" else .non)
    else if l = "integer" then (if isOf op ["<", "<=", ">", ">="] = true then .str "boolean" else .str "integer") else .non
  else .non
def sp_binary_kind (K : PySem.W.Frag) : Sp := mk3 fun a b c H Q _ => ∃ op l r, a = .str op ∧ b = .str l ∧ c = .str r ∧ Q (bkind op l r) H
theorem ok_binary_kind {P : Program} {w : World} {K : PySem.W.Frag} {mg : Str → Option Value} {base : Heap} (Y : Env K mg)  : CallOk P w K mg base CX0 1 "binary_kind" ["operator", "left", "right"] (sp_binary_kind K) := by
  obtain ⟨fd, F⟩ := Y.fd_binary_kind
  refine ⟨_, fd, Y.mg_binary_kind, F.kp, F.bindsN (fun _ _ _ _ _ _ us hl => match us, hl with | [_, _, _], _ => rfl), F.ok sc_binary_kind mk3_len (fun cdv A outer s H vs Q E hr h => ?_)⟩
  have hu := hu_room hr
  obtain ⟨_, _, _, rfl, op, l, r, rfl, rfl, rfl, k⟩ := h
  have hS : SH [] H H [] := SH.start0
  have t1 := Y.tp_EQUALITY H
  have t2 := Y.tp_LOGICAL H
  have t3 := Y.tp_ORDER H
  refine ⟨_, PSs.nox (pss_cons (ps_if (pt_cmpR (xNe hu) (pv 1) (pv 2) (nomark _)) (pss_one (ps_ret pe_non)) pss_nil)
  (pss_cons (ps_if (pt_cmpR xIn (pv 0) (pe_gr rfl Y.mg_EQUALITY) rfl) (pss_one (ps_ret (pe_cs rfl Y.c_BOOLEAN))) pss_nil)
  (pss_cons (ps_if (pt_cmpR xIn (pv 0) (pe_gr rfl Y.mg_LOGICAL) rfl) (pss_one (ps_ret (pe_ifExp (pt_cmpR (xEq hu) (pv 1) (pe_cs rfl Y.c_BOOLEAN) (nomark _)) (pe_cs rfl Y.c_BOOLEAN) pe_non))) pss_nil)
  (pss_cons (ps_if (pt_cmpR (xNe hu) (pv 1) (pe_cs rfl Y.c_INTEGER) (nomark _)) (pss_one (ps_ret pe_non)) pss_nil)
  (pss_one (ps_ret (pe_ifExp (pt_cmpR xIn (pv 0) (pe_gr rfl Y.mg_ORDER) rfl) (pe_cs rfl Y.c_BOOLEAN) (pe_cs rfl Y.c_INTEGER)))))))), ?_⟩
  rw [st_binary_kind]
  simp only [cxK, cxK2]
  clear hu hr F
  unfold bkind at k
  repeat' walk_at "st"
  all_goals simp_all [isOf]
def one (c : Bool) (z : Str) : List V := if c then [.str z] else []
def lun (op x : Str) : List V := if op = "not" then one (decide (x = "boolean")) "boolean" else one (decide (x = "integer")) "integer"
def sp_z_unary (K : PySem.W.Frag) : Sp := mk2 fun a b H Q _ => ∃ op x, a = .str op ∧ b = .str x ∧ ∀ p H', Keep [] H H' → H p = none → H' p = some (.lst (lun op x)) → Q (.ref p) H'
theorem ok_z_unary {P : Program} {w : World} {K : PySem.W.Frag} {mg : Str → Option Value} {base : Heap} (Y : Env K mg)  : CallOk P w K mg base CX0 1 "_law_unary" ["_law_operator", "_law_operand"] (sp_z_unary K) := by
  obtain ⟨fd, F⟩ := Y.fd_z_unary
  refine ⟨_, fd, Y.mg_z_unary, F.kp, F.bindsN (fun _ _ _ _ _ _ us hl => match us, hl with | [_, _], _ => rfl), F.ok sc_z_unary mk2_len (fun cdv A outer s H vs Q E hr h => ?_)⟩
  have hu := hu_room hr
  obtain ⟨_, _, rfl, op, x, rfl, rfl, k⟩ := h
  have hS : SH [] H H [] := SH.start0
  refine ⟨_, PSs.nox (pss_cons (ps_if (pt_cmpR (xEq hu) (pv 0) pe_str (nomark _)) (pss_one (ps_ret (pe_op xMul (pe_lst (pa_cons pe_str pa_nil)) (pe_callTy x_int rfl Y.z_int (by decide +kernel) (pa_cons (pe_cmpR (xEq hu) (pv 1) pe_str (nomark _)) pa_nil))))) pss_nil)
  (pss_one (ps_ret (pe_op xMul (pe_lst (pa_cons pe_str pa_nil)) (pe_callTy x_int rfl Y.z_int (by decide +kernel) (pa_cons (pe_cmpR (xEq hu) (pv 1) pe_str (nomark _)) pa_nil)))))), ?_⟩
  rw [st_z_unary]
  simp only [cxK, cxK2]
  clear hu hr F
  unfold lun at k
  repeat' walk_at "st"
  all_goals exact k _ _ hS.kp (hS.fr0 0 rfl) (Eq.trans (hS.get 0 rfl) (by simp_all [one]))
def lbin (op l r : Str) : List V :=
  if isOf op ["=", "/="] = true then one (decide (l = r)) "boolean"
  else if isOf op ["and", "or", "xor", "and then", "or else"] = true then
    (if l = "boolean" ∧ r = "boolean" then (if isOf op ["+", "-", "*", "/", "mod", "rem"] = true then [.str "integer"] else [.str "boolean"]) else [])
  else if l = "integer" ∧ r = "integer" then (if isOf op ["+", "-", "*", "/", "mod", "rem"] = true then [.str "integer"] else [.str "boolean"]) else []
def sp_z_binary (K : PySem.W.Frag) : Sp := mk3 fun a b c H Q _ => ∃ op l r, a = .str op ∧ b = .str l ∧ c = .str r ∧ ∀ p H', Keep [] H H' → H p = none → H' p = some (.lst (lbin op l r)) → Q (.ref p) H'
theorem ok_z_binary {P : Program} {w : World} {K : PySem.W.Frag} {mg : Str → Option Value} {base : Heap} (Y : Env K mg)  : CallOk P w K mg base CX0 1 "_law_binary" ["_law_operator", "_law_left", "_law_right_here"] (sp_z_binary K) := by
  obtain ⟨fd, F⟩ := Y.fd_z_binary
  refine ⟨_, fd, Y.mg_z_binary, F.kp, F.bindsN (fun _ _ _ _ _ _ us hl => match us, hl with | [_, _, _], _ => rfl), F.ok sc_z_binary mk3_len (fun cdv A outer s H vs Q E hr h => ?_)⟩
  have hu := hu_room hr
  obtain ⟨_, _, _, rfl, op, l, r, rfl, rfl, rfl, k⟩ := h
  have hS : SH [] H H [] := SH.start0
  refine ⟨_, PSs.nox (pss_cons (ps_if (pt_cmpR xIn (pv 0) (pe_tup (pa_cons pe_str (pa_cons pe_str pa_nil))) rfl) (pss_one (ps_ret (pe_op xMul (pe_lst (pa_cons pe_str pa_nil)) (pe_callTy x_int rfl Y.z_int (by decide +kernel) (pa_cons (pe_cmpR (xEq hu) (pv 1) (pv 2) (nomark _)) pa_nil))))) pss_nil)
  (pss_cons (ps_set (i := 3) sc_z_binary.nd rfl (Or.inl rfl) pe_str)
  (pss_cons (ps_if (pt_cmpR xIn (pv 0) (pe_tup (pa_cons pe_str (pa_cons pe_str (pa_cons pe_str (pa_cons pe_str (pa_cons pe_str pa_nil)))))) rfl) (pss_one (ps_set (i := 3) sc_z_binary.nd rfl (Or.inl rfl) pe_str)) pss_nil)
  (pss_cons (ps_if (PW.pt (pw_or (pt_cmpR (xNe hu) (pv 1) (pv 3) (nomark _)) (pw_or1 (pt_cmpR (xNe hu) (pv 2) (pv 3) (nomark _))))) (pss_one (ps_ret (pe_lst pa_nil))) pss_nil)
  (pss_cons (ps_if (pt_cmpR xIn (pv 0) (pe_tup (pa_cons pe_str (pa_cons pe_str (pa_cons pe_str (pa_cons pe_str (pa_cons pe_str (pa_cons pe_str pa_nil))))))) rfl) (pss_one (ps_ret (pe_lst (pa_cons pe_str pa_nil)))) pss_nil)
  (pss_one (ps_ret (pe_lst (pa_cons pe_str pa_nil))))))))), ?_⟩
  rw [st_z_binary]
  simp only [cxK, cxK2]
  clear hu hr F
  unfold lbin at k
  repeat' walk_at "st"
  all_goals exact k _ _ hS.kp (hS.fr0 0 rfl) (Eq.trans (hS.get 0 rfl) (by simp_all [one, isOf]))
def alike (v : V) (due : List V) : Bool := match due with
  | [] => decide (v = .non)
  | d :: _ => decide (v = d)
def sp_z_right (K : PySem.W.Frag) : Sp := mk2 fun a b H Q _ => ∃ q due, (a = .non ∨ ∃ x, a = .str x) ∧ b = .ref q ∧ H q = some (.lst due) ∧ (due = [] ∨ ∃ z, due = [.str z]) ∧ Q (.bl (alike a due)) H
theorem ok_z_right {P : Program} {w : World} {K : PySem.W.Frag} {mg : Str → Option Value} {base : Heap} (Y : Env K mg)  : CallOk P w K mg base CX0 1 "_law_right" ["_law_actual", "_law_due"] (sp_z_right K) := by
  obtain ⟨fd, F⟩ := Y.fd_z_right
  refine ⟨_, fd, Y.mg_z_right, F.kp, F.bindsN (fun _ _ _ _ _ _ us hl => match us, hl with | [_, _], _ => rfl), F.ok sc_z_right mk2_len (fun cdv A outer s H vs Q E hr h => ?_)⟩
  have hu := hu_room hr
  obtain ⟨v, _, rfl, q, due, hv, rfl, hq, hd, k⟩ := h
  have hS : SH [q] H H [(q, .lst due)] := SH.start1 hq
  refine ⟨_, PSs.nox (pss_cons (ps_if (pt_cmpR (xEq hu) (pe_callB x_len rfl Y.z_len (by decide +kernel) (pa_cons (pv 1) pa_nil)) pe_int (nomark _)) (pss_one (ps_ret (pe_cmpR xIs (pv 0) pe_non (nomark _)))) pss_nil)
  (pss_one (ps_ret (pe_and (pe_callB x_isinstance rfl Y.z_isinstance (by decide +kernel) (pa_cons (pv 0) (pa_cons (pe_bltn rfl Y.z_str (by decide +kernel) (show RelV (.ty "str") (.type "str") from rfl)) pa_nil))) (pe_one (pe_cmpR (xEq hu) (pv 0) (pe_ix xIx (pv 1) pe_int (fun _ _ => rfl)) (nomark _))))))), ?_⟩
  rw [st_z_right]
  simp only [cxK, cxK2]
  clear hu hr F
  rcases hd with rfl | ⟨z, rfl⟩ <;> rcases hv with rfl | ⟨x, rfl⟩
  all_goals repeat' walk_at "st"
  all_goals simpa [alike] using k
def kinds : List Str := ["integer", "boolean"]
def ops1 : List Str := ["-", "abs", "not"]
def ops2 : List Str := ["+", "-", "*", "/", "mod", "rem", "=", "/=", "<", "<=", ">", ">=", "and", "or", "xor", "and then", "or else"]
theorem all1 : ∀ k : Fin 6, alike (ukind (ops1.getD (k.1 / 2) "") (kinds.getD (k.1 - k.1 / 2 * 2) "")) (lun (ops1.getD (k.1 / 2) "") (kinds.getD (k.1 - k.1 / 2 * 2) "")) = true := by decide +kernel
theorem all2 : ∀ k : Fin 68, alike (bkind (ops2.getD (k.1 / 4) "") (kinds.getD (k.1 / 2 - k.1 / 4 * 2) "") (kinds.getD (k.1 - k.1 / 2 * 2) "")) (lbin (ops2.getD (k.1 / 4) "") (kinds.getD (k.1 / 2 - k.1 / 4 * 2) "") (kinds.getD (k.1 - k.1 / 2 * 2) "")) = true := by decide +kernel
def sp_z_question (K : PySem.W.Frag) : Sp := mk1 fun a H Q _ => ∃ k : Int, a = .int k ∧ 0 ≤ k ∧ k < 74 ∧ ∀ H', Keep [] H H' → Q (.bl true) H'
theorem ok_z_question {P : Program} {w : World} {K : PySem.W.Frag} {mg : Str → Option Value} {base : Heap} (Y : Env K mg) (G_z_binary : CallOk P w K mg base CX0 1 "_law_binary" ["_law_operator", "_law_left", "_law_right_here"] (sp_z_binary K)) (G_z_right : CallOk P w K mg base CX0 1 "_law_right" ["_law_actual", "_law_due"] (sp_z_right K)) (G_z_unary : CallOk P w K mg base CX0 1 "_law_unary" ["_law_operator", "_law_operand"] (sp_z_unary K)) (G_binary_kind : CallOk P w K mg base CX0 1 "binary_kind" ["operator", "left", "right"] (sp_binary_kind K)) (G_unary_kind : CallOk P w K mg base CX0 1 "unary_kind" ["operator", "operand"] (sp_unary_kind K)) : CallOk P w K mg base CX0 2 "_law_question" ["_law_k"] (sp_z_question K) := by
  obtain ⟨fd, F⟩ := Y.fd_z_question
  refine ⟨_, fd, Y.mg_z_question, F.kp, F.bindsN (fun _ _ _ _ _ _ us hl => match us, hl with | [_], _ => rfl), F.ok sc_z_question mk1_len (fun cdv A outer s H vs Q E hr h => ?_)⟩
  have hu := hu_room hr
  obtain ⟨_, rfl, n, rfl, h0, h1, k⟩ := h
  have hS : SH [] H H [] := SH.start0
  refine ⟨_, PSs.nox (pss_cons (ps_set (i := 1) sc_z_question.nd rfl (Or.inl rfl) (pe_lst (pa_cons pe_str (pa_cons pe_str pa_nil))))
  (pss_cons (ps_if (pt_cmpR op_lt (pv 0) pe_int (nomark _)) (pss_cons (ps_set (i := 2) sc_z_question.nd rfl (Or.inl rfl) (pe_ix xIx (pe_lst (pa_cons pe_str (pa_cons pe_str (pa_cons pe_str pa_nil)))) (pe_op xDiv (pv 0) pe_int) (fun _ _ => rfl)))
  (pss_cons (ps_set (i := 3) sc_z_question.nd rfl (Or.inl rfl) (pe_ix xIx (pv 1) (pe_op op_sub (pv 0) (pe_op xMul (pe_op xDiv (pv 0) pe_int) pe_int)) (fun _ _ => rfl)))
  (pss_one (ps_ret (pe_callG G_z_right hr rfl pass0 (pa_cons (pe_callG G_unary_kind hr rfl pass0 (pa_cons (pv 2) (pa_cons (pv 3) pa_nil))) (pa_cons (pe_callG G_z_unary hr rfl pass0 (pa_cons (pv 2) (pa_cons (pv 3) pa_nil))) pa_nil))))))) pss_nil)
  (pss_cons (ps_set (i := 4) sc_z_question.nd rfl (Or.inl rfl) (pe_lst (pa_cons pe_str (pa_cons pe_str (pa_cons pe_str (pa_cons pe_str (pa_cons pe_str (pa_cons pe_str (pa_cons pe_str (pa_cons pe_str (pa_cons pe_str (pa_cons pe_str (pa_cons pe_str (pa_cons pe_str pa_nil))))))))))))))
  (pss_cons (ps_set (i := 4) sc_z_question.nd rfl (Or.inl rfl) (pe_op xAdd (pv 4) (pe_lst (pa_cons pe_str (pa_cons pe_str (pa_cons pe_str (pa_cons pe_str (pa_cons pe_str pa_nil))))))))
  (pss_cons (ps_set (i := 5) sc_z_question.nd rfl (Or.inl rfl) (pe_op op_sub (pv 0) pe_int))
  (pss_cons (ps_set (i := 2) sc_z_question.nd rfl (Or.inl rfl) (pe_ix xIx (pv 4) (pe_op xDiv (pv 5) pe_int) (fun _ _ => rfl)))
  (pss_cons (ps_set (i := 6) sc_z_question.nd rfl (Or.inl rfl) (pe_ix xIx (pv 1) (pe_op op_sub (pe_op xDiv (pv 5) pe_int) (pe_op xMul (pe_op xDiv (pv 5) pe_int) pe_int)) (fun _ _ => rfl)))
  (pss_cons (ps_set (i := 7) sc_z_question.nd rfl (Or.inl rfl) (pe_ix xIx (pv 1) (pe_op op_sub (pv 5) (pe_op xMul (pe_op xDiv (pv 5) pe_int) pe_int)) (fun _ _ => rfl)))
  (pss_one (ps_ret (pe_callG G_z_right hr rfl pass0 (pa_cons (pe_callG G_binary_kind hr rfl pass0 (pa_cons (pv 2) (pa_cons (pv 6) (pa_cons (pv 7) pa_nil)))) (pa_cons (pe_callG G_z_binary hr rfl pass0 (pa_cons (pv 2) (pa_cons (pv 6) (pa_cons (pv 7) pa_nil)))) pa_nil))))))))))))), ?_⟩
  rw [st_z_question]
  simp only [cxK, cxK2]
  clear hu hr F
  obtain ⟨m, rfl⟩ : ∃ m : Nat, n = m := ⟨n.toNat, by omega⟩
  repeat' walk_at "st"
  · have e1 : [V.str "-", V.str "abs", V.str "not"].getD ((m : Int) / 2).toNat .non = .str (ops1.getD (m / 2) "") := by
      rw [show ((m : Int) / 2).toNat = m / 2 by omega]
      exact getD_strs ops1 (m / 2) (by show m / 2 < 3; omega)
    have e2 : [V.str "integer", V.str "boolean"].getD ((m : Int) - (m : Int) / 2 * 2).toNat .non = .str (kinds.getD (m - m / 2 * 2) "") := by
      rw [show ((m : Int) - (m : Int) / 2 * 2).toNat = m - m / 2 * 2 by omega]
      exact getD_strs kinds _ (by show m - m / 2 * 2 < 2; omega)
    rw [e1, e2]
    refine ⟨_, _, rfl, _, _, rfl, rfl, ?_⟩
    repeat' walk_at "st"
    refine ⟨_, _, rfl, _, _, rfl, rfl, fun q H2 kq nq hq => ?_⟩
    have hS := hS.call0n kq nq hq
    repeat' walk_at "st"
    refine ⟨_, _, rfl, q, _, ?_, rfl, hS.get 0 rfl, ?_, ?_⟩
    · unfold ukind; split <;> simp
    · unfold lun one; repeat' split
      all_goals simp
    · have h6 : m < 6 := by omega
      have := all1 ⟨m, h6⟩
      rw [this]
      exact k _ hS.kp
  · have e1 : ([V.str "+", V.str "-", V.str "*", V.str "/", V.str "mod", V.str "rem", V.str "=", V.str "/=", V.str "<", V.str "<=", V.str ">", V.str ">="] ++ [V.str "and", V.str "or", V.str "xor", V.str "and then", V.str "or else"]).getD (((m : Int) - 6) / 4).toNat .non = .str (ops2.getD ((m - 6) / 4) "") := by
      rw [show (((m : Int) - 6) / 4).toNat = (m - 6) / 4 by omega]
      exact getD_strs ops2 _ (by show (m - 6) / 4 < 17; omega)
    have e2 : [V.str "integer", V.str "boolean"].getD (((m : Int) - 6) / 2 - ((m : Int) - 6) / 4 * 2).toNat .non = .str (kinds.getD ((m - 6) / 2 - (m - 6) / 4 * 2) "") := by
      rw [show (((m : Int) - 6) / 2 - ((m : Int) - 6) / 4 * 2).toNat = (m - 6) / 2 - (m - 6) / 4 * 2 by omega]
      exact getD_strs kinds _ (by show (m - 6) / 2 - (m - 6) / 4 * 2 < 2; omega)
    have e3 : [V.str "integer", V.str "boolean"].getD ((m : Int) - 6 - ((m : Int) - 6) / 2 * 2).toNat .non = .str (kinds.getD ((m - 6) - (m - 6) / 2 * 2) "") := by
      rw [show ((m : Int) - 6 - ((m : Int) - 6) / 2 * 2).toNat = (m - 6) - (m - 6) / 2 * 2 by omega]
      exact getD_strs kinds _ (by show (m - 6) - (m - 6) / 2 * 2 < 2; omega)
    rw [e1, e2, e3]
    refine ⟨_, _, _, rfl, _, _, _, rfl, rfl, rfl, ?_⟩
    repeat' walk_at "st"
    refine ⟨_, _, _, rfl, _, _, _, rfl, rfl, rfl, fun q H2 kq nq hq => ?_⟩
    have hS := hS.call0n kq nq hq
    repeat' walk_at "st"
    refine ⟨_, _, rfl, q, _, ?_, rfl, hS.get 0 rfl, ?_, ?_⟩
    · unfold bkind; repeat' split
      all_goals simp
    · unfold lbin one; repeat' split
      all_goals simp
    · have h6 : m - 6 < 68 := by omega
      have := all2 ⟨m - 6, h6⟩
      rw [this]
      exact k _ hS.kp

theorem c_z_question {K : PySem.W.Frag} {A : List Addr} {H0 H : Hp} {L : List Cell} {n : Int} {Q : VK} {E : XK} (hS : SH A H0 H L) (h0 : 0 ≤ n) (h1 : n < 74) (k : ∀ H', SH A H0 H' L → Q (.bl true) H') : sp_z_question K ([.int n] ++ []) H Q E :=
  ⟨_, rfl, n, rfl, h0, h1, fun H' kp => k H' (hS.call0 kp)⟩
local macro_rules | `(tactic| walk_at "st") => `(tactic| first
  | ((with_reducible refine c_z_question hS ?_ ?_ (fun H1 hS1 => ?_)); (· walk_at "ar"); (· walk_at "ar"); clear hS; rename SH _ _ _ _ => hS))
def sp_law (K : PySem.W.Frag) : Sp := mk1 fun a H Q _ => ∃ (s : Addr) (ns : List Int), a = .ref s ∧ Scr K H s (ns.map V.int) ∧ ∀ H', Q (.bl true) H'
theorem ok_law {P : Program} {w : World} {K : PySem.W.Frag} {mg : Str → Option Value} {base : Heap} (Y : Env K mg) (G_z_pick : CallOk P w K mg base CX0 1 "_law_pick" ["_law_state", "_law_limit"] (sp_z_pick K)) (G_z_question : CallOk P w K mg base CX0 2 "_law_question" ["_law_k"] (sp_z_question K)) {fd : FuncData} (F : FunD K "law" "law" (defArgs s_law) (defBody s_law) (defScope s_law) [] [] (He.fAd K ("law", none)) fd) : FnOk P w K mg base CX0 3 (He.fAd K ("law", none)) fd ["_law_script"] (sp_law K) := by
  refine F.ok sc_law mk1_len (fun cdv A outer s H vs Q E hr h => ?_)
  have hu := hu_room hr
  obtain ⟨_, rfl, sc, ns, rfl, hs, k⟩ := h
  have hS : SH [] H H [] := SH.start0
  refine ⟨_, PSs.nox (pss_cons (ps_set (i := 1) sc_law.nd rfl (Or.inl rfl) (pe_lst (pa_cons (pv 0) (pa_cons pe_int (pa_cons pe_int (pa_cons pe_int pa_nil))))))
  (pss_cons (ps_for PassesOwn.never rfl (pi_range1 rfl Y.z_range (pa_cons (pe_callG G_z_pick (hr.mono (by decide)) rfl pass0 (pa_cons (pv 1) (pa_cons pe_int pa_nil))) pa_nil)) (pg_name (i := 2) sc_law.nd rfl (Or.inl rfl))
  (pss_one (ps_if (pt_not (pt_val (pe_callG G_z_question hr rfl pass0 (pa_cons (pe_callG G_z_pick (hr.mono (by decide)) rfl pass0 (pa_cons (pv 1) (pa_cons pe_int pa_nil))) pa_nil)))) (pss_one (ps_ret pe_bl)) pss_nil)))
  (pss_cons (ps_set (i := 3) sc_law.nd rfl (Or.inl rfl) (pe_callG G_z_pick (hr.mono (by decide)) rfl pass0 (pa_cons (pv 1) (pa_cons pe_int pa_nil))))
  (pss_cons (ps_for PassesOwn.never rfl (pi_range1 rfl Y.z_range (pa_cons pe_int pa_nil)) (pg_name (i := 4) sc_law.nd rfl (Or.inl rfl))
  (pss_one (ps_if (pt_not (pt_val (pe_callG G_z_question hr rfl pass0 (pa_cons (pe_op xMod (pe_callTy x_int rfl Y.z_int (by decide +kernel) (pa_cons (pe_op xAdd (pv 3) (pv 4)) pa_nil)) pe_int) pa_nil)))) (pss_one (ps_ret pe_bl)) pss_nil)))
  (pss_one (ps_ret pe_bl)))))), ?_⟩
  rw [st_law]
  simp only [cxK, cxK2]
  clear hu hr F
  repeat' walk_at "st"

  refine u_forR1 (fun _ σ H' => ∃ v x g n, σ = [some (.ref sc), some (.ref p), v, none, none] ∧ SH [] H H' [(p, stO sc x g n)] ∧ 0 ≤ x ∧ 0 ≤ g) (by omega) (by omega) ⟨_, _, _, _, rfl, hS, by omega, by omega⟩ ?_ ?_
  · rintro i σ H2 hi ⟨v, x, g, n, rfl, hS, hx, hg⟩
    repeat' walk_at "st"
    exact ⟨_, _, _, _, rfl, hS.sub (by walk_at "sl"), by omega, by omega⟩
  · rintro σ H2 ⟨v, x, g, n, rfl, hS, hx, hg⟩
    repeat' walk_at "st"
    refine u_forR1 (fun _ σ H' => ∃ w x g n, σ = [some (.ref sc), some (.ref p), v, some (.int r), w] ∧ SH [] H H' [(p, stO sc x g n)]) (by omega) (by omega) ⟨_, _, _, _, rfl, hS⟩ ?_ ?_
    · rintro i σ H3 hi ⟨w, x, g, n, rfl, hS⟩
      repeat' walk_at "st"
      exact ⟨_, _, _, _, rfl, hS.sub (by walk_at "sl")⟩
    · rintro σ H3 ⟨w, x, g, n, rfl, hS⟩
      repeat' walk_at "st"
      exact k _
/-! ### the head: facts by names, the run -/
abbrev R : PySem.W.OpenRow := PySem.W.OpenLaw.row PySem.Challenge.rw_windowada_k10_kinds_of_operators
abbrev hk : PySem.W.Hook := He.hookX 4 fa fn [] [] ex
def ob (s : PySem.W.SharedT) : He.AlX := He.obsX 4 fa fn [] [] ex (HandSHeadRun.getT s)
theorem ob_eq (s : PySem.W.SharedT) : ob s = hk.obs s.abs := He.obsX_eq (HandSHeadRun.getT_eq s)
def loose : List Str := (["__name__", "INTEGER", "BOOLEAN", "EQUALITY", "ORDER", "LOGICAL", "unary_kind", "binary_kind", "_law_pick", "_law_unary", "_law_binary", "_law_right", "_law_question"] : List Str)
theorem run (w : World) : HandSHeadRun.RunEq R (PySem.W.view R.prog [14]) hk ob 4000 loose w := by
  intro os
  kernel_rfl
theorem law_ask {K : PySem.W.Frag} {H : Hp} (a : Addr) (ns : List Int) (hl : ns.length ≤ 63) (hO : Only H) (hS : SqL K H a (ns.map V.int)) : sp_law K [.ref a] H (fun v _ => v = .bl true) fun _ _ _ => False :=
  ⟨_, rfl, a, ns, rfl, Scr.of hS hO, fun _ => rfl⟩
theorem facts {w : World} {K : PySem.W.Frag} {h : Heap} {mg : Str → Option Value} {f : Addr} (X : K.In h) (G : h.Ns mainGlobals mg) (hfa : mg ("law" : Str) = some (.ref f)) (c : He.SaysX fa fn [] [] ex w h K) :
    ∃ fd : FuncData, (∀ (s : Shared) (v : Value), BindsTo s fd ⟨[v], []⟩ [("_law_script", v)]) ∧ ∀ base : Heap, K.In base → base.Ns mainGlobals mg → FnOk (PySem.Challenge.rw_windowada_k10_kinds_of_operators).prog w K mg base CX0 3 f fd ["_law_script"] (sp_law K) := by
  have Y : Env K mg := env_mk X G c
  obtain ⟨fd, F⟩ := Y.fd_law
  have e := hfa.symm.trans Y.mg_law
  cases e
  have b := FunD.bindsA (ps := ["_law_script"]) F fun _ _ _ _ _ _ us hl => match us, hl with | [_], _ => rfl
  refine ⟨fd, fun s v => b s [v] rfl, fun base _ _ => ?_⟩
  have G_z_pick := ok_z_pick (P := (PySem.Challenge.rw_windowada_k10_kinds_of_operators).prog) (w := w) (base := base) Y
  have G_z_binary := ok_z_binary (P := (PySem.Challenge.rw_windowada_k10_kinds_of_operators).prog) (w := w) (base := base) Y
  have G_z_right := ok_z_right (P := (PySem.Challenge.rw_windowada_k10_kinds_of_operators).prog) (w := w) (base := base) Y
  have G_z_unary := ok_z_unary (P := (PySem.Challenge.rw_windowada_k10_kinds_of_operators).prog) (w := w) (base := base) Y
  have G_binary_kind := ok_binary_kind (P := (PySem.Challenge.rw_windowada_k10_kinds_of_operators).prog) (w := w) (base := base) Y
  have G_unary_kind := ok_unary_kind (P := (PySem.Challenge.rw_windowada_k10_kinds_of_operators).prog) (w := w) (base := base) Y
  have G_z_question := ok_z_question (P := (PySem.Challenge.rw_windowada_k10_kinds_of_operators).prog) (w := w) (base := base) Y G_z_binary G_z_right G_z_unary G_binary_kind G_unary_kind
  exact ok_law (P := (PySem.Challenge.rw_windowada_k10_kinds_of_operators).prog) (w := w) (base := base) Y G_z_pick G_z_question F
end Law
open PySem PySem.W PySem.Calls PyProof.Rows
set_option maxRecDepth 100000 in
set_option maxHeartbeats 0 in
theorem PySem.Challenge.cw_windowada_k10_kinds_of_operators_holds : PySem.Challenge.rw_windowada_k10_kinds_of_operators.Holds := by
  w_on; o_law
  refine HandSHeadRun.head_any (r := OpenLaw.row PySem.Challenge.rw_windowada_k10_kinds_of_operators) (q := view (OpenLaw.row PySem.Challenge.rw_windowada_k10_kinds_of_operators).prog [14]) (H := Law.hk) (ob := Law.ob) (M := 4000) (loose := Law.loose) (d := HandSHeadRun.topDef (OpenLaw.row PySem.Challenge.rw_windowada_k10_kinds_of_operators).prog 14) (kwd := []) Law.ob_eq
    (by kernel_rfl) (fun s => by kernel_rfl) Law.run (by kernel_rfl) (by kernel_rfl) (by kernel_rfl) (by rfl) (by first | assumption | decide +kernel) (by decide +kernel) ⟨rfl, rfl, rfl, rfl, rfl, by decide +kernel⟩ ?hw ?hc
  case hw => w_witness2
  case hc =>
    refine L2.walk_ofE (l := PySem.Challenge.rw_windowada_k10_kinds_of_operators) (n := 63) (k := 3) (x := "_law_script") (CX := L2.CX0) rfl (by decide) (by kernel_rfl) ⟨rfl, by decide, by decide⟩ ?F (fun _ _ _ _ z => z)
    intro w mg fa h Y G hmg0
    obtain ⟨K, KX, c⟩ := Y
    have hmg : mg ("law" : PySem.Str) = some (.ref fa) := by
      have e : (HandSHeadRun.topDef (OpenLaw.row PySem.Challenge.rw_windowada_k10_kinds_of_operators).prog 14).name = ("law" : PySem.Str) := by kernel_rfl
      rw [← e]
      exact hmg0
    obtain ⟨fd, hb, hF⟩ := Law.facts (w := w) KX G hmg c
    exact ⟨K, fd, Law.sp_law K, KX, hb, fun H a ns hl hO hS => Law.law_ask a ns hl hO hS, hF⟩

