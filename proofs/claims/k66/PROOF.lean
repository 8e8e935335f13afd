import PyProof.Rows.All
import Wide.All
import OpenK.AllK
import Wide.FinOn
import KE.KStateDown
import HandS.ForMost
import HandS.ForExc
import HandS.Wide
import HandS.TupAny
import HandS.TupMul
import HandS.TupLe
import HandS.Sort
import HandS.Style
import HandS.IsInst
import HandS.Defaults
import HandS.Property
import HandS.Head0
import HandS.Head1
import HandS.Head2
import HandS.EndBits
import HandS.HeadEnd
import HandS.HeadHook1
import HandS.HeadHook2
import HandS.HeadHook3
import HandS.HeadHook4
import HandS.HeadWalk
import PySem.Challenge.RW_windowada_k66_tower
set_option Elab.async false
set_option linter.all false
set_option maxRecDepth 100000
set_option maxHeartbeats 4000000
/-! Steps over the hand layer: a ledger (what this code owns on the heap), one lemma for each reading, a word that takes one step. -/
namespace Q
open PySem PySem.Spec PyProof.Rows L2

/-! ### the ledger -/
abbrev Cell := Addr × HO
def Imm : HO → Bool
  | .tup _ => true
  | .frz _ _ => true
  | _ => false
/-- all that stood is kept but what stood at A (what never changes is kept there, too); nothing is freed -/
structure Keep (A : List Addr) (H H' : Hp) : Prop where
  k : ∀ b o, H b = some o → (b ∉ A ∨ Imm o = true) → H' b = some o
  d : ∀ b, H' b = none → H b = none
theorem Keep.refl (A : List Addr) (H : Hp) : Keep A H H := ⟨fun _ _ e _ => e, fun _ e => e⟩
theorem Keep.trans {A : List Addr} {H H1 H2 : Hp} (a : Keep A H H1) (b : Keep A H1 H2) : Keep A H H2 :=
  ⟨fun c o e q => b.k c o (a.k c o e q) q, fun c e => a.d c (b.d c e)⟩
theorem Keep.mono {A B : List Addr} {H H' : Hp} (a : Keep A H H') (s : ∀ b ∈ A, b ∈ B) : Keep B H H' :=
  ⟨fun c o e q => a.k c o e (q.imp (fun n z => n (s c z)) id), a.d⟩
theorem Keep.nil {B : List Addr} {H H' : Hp} (a : Keep [] H H') : Keep B H H' := a.mono fun _ z => nomatch z
/-- A the cells that stood at the entry H0; L what is known and owned now -/
structure SH (A : List Addr) (H0 H : Hp) (L : List Cell) : Prop where
  hs : ∀ c ∈ L, H c.1 = some c.2
  nd : (L.map (·.1)).Nodup
  kp : Keep A H0 H
  ow : ∀ c ∈ L, c.1 ∈ A ∨ H0 c.1 = none
section
variable {A B : List Addr} {H0 H H' : Hp} {L L' : List Cell} {a p : Addr} {o o' : HO}
theorem SH.start (hs : ∀ c ∈ L, H c.1 = some c.2) (nd : (L.map (·.1)).Nodup) : SH (L.map (·.1)) H H L :=
  ⟨hs, nd, Keep.refl _ _, fun c hc => .inl (List.mem_map_of_mem hc)⟩
theorem SH.start0 : SH [] H H [] := ⟨(fun _ h => nomatch h), List.nodup_nil, Keep.refl _ _, (fun _ h => nomatch h)⟩
theorem SH.start1 (h : H a = some o) : SH [a] H H [(a, o)] := SH.start (L := [(a, o)]) (by intro c hc; rcases List.mem_singleton.mp hc with rfl; exact h) (by simp)
theorem SH.get (S : SH A H0 H L) (i : Nat) (e : L[i]? = some (a, o)) : H a = some o := S.hs _ (List.mem_of_getElem? e)
theorem SH.imm (S : SH A H0 H L) (h : H0 a = some o) (e : Imm o = true) : H a = some o := S.kp.k a o h (.inr e)
theorem SH.new (S : SH A H0 H L) (o : HO) (hp : H p = none) : SH A H0 (upd H p o) ((p, o) :: L) := by
  have hne : ∀ c ∈ L, c.1 ≠ p := fun c hc z => by
    have := S.hs c hc
    rw [z, hp] at this
    cases this
  refine ⟨fun c hc => ?_, ?_, ⟨fun b u e q => ?_, fun b e => ?_⟩, fun c hc => ?_⟩
  · rcases List.mem_cons.mp hc with rfl | hc
    · exact upd_same
    · rw [upd_ne (hne c hc)]
      exact S.hs c hc
  · rw [List.map_cons, List.nodup_cons]
    refine ⟨fun z => ?_, S.nd⟩
    obtain ⟨c, hc, e⟩ := List.mem_map.mp z
    exact hne c hc e
  · have h1 := S.kp.k b u e q
    rw [upd_ne (ne_of_none h1 hp)]
    exact h1
  · by_cases hb : b = p
    · rw [hb, upd_same] at e
      cases e
    · rw [upd_ne hb] at e
      exact S.kp.d b e
  · rcases List.mem_cons.mp hc with rfl | hc
    · exact .inr (S.kp.d _ hp)
    · exact S.ow c hc
theorem mem_set_cell {L : List Cell} {i : Nat} {c d : Cell} (h : c ∈ L.set i d) : c = d ∨ ∃ j, j ≠ i ∧ L[j]? = some c := by
  obtain ⟨j, hj, e⟩ := List.mem_iff_getElem.mp h
  by_cases q : j = i
  · left
    subst q
    rw [List.getElem_set_self] at e
    exact e.symm
  · right
    refine ⟨j, q, ?_⟩
    rw [List.length_set] at hj
    rw [List.getElem_set_ne (Ne.symm q)] at e
    rw [List.getElem?_eq_getElem hj, e]
theorem map_set_key {L : List Cell} {i : Nat} {a : Addr} {o o' : HO} (e : L[i]? = some (a, o)) : (L.set i (a, o')).map (·.1) = L.map (·.1) := by
  apply List.ext_getElem?
  intro j
  rw [List.getElem?_map, List.getElem?_map, List.getElem?_set]
  by_cases q : i = j
  · subst q
    obtain ⟨hi, e2⟩ := List.getElem?_eq_some_iff.mp e
    rw [if_pos rfl, if_pos hi, e]
    rfl
  · rw [if_neg q]
theorem nodup_key {L : List Cell} (nd : (L.map (·.1)).Nodup) {i j : Nat} {c d : Cell} (h1 : L[i]? = some c) (h2 : L[j]? = some d) (ne : j ≠ i) : d.1 ≠ c.1 := fun z => by
  have e1 : (L.map (·.1))[i]? = some c.1 := by rw [List.getElem?_map, h1]; rfl
  have e2 : (L.map (·.1))[j]? = some c.1 := by rw [List.getElem?_map, h2]; exact congrArg some z
  obtain ⟨l1, q1⟩ := List.getElem?_eq_some_iff.mp e1
  obtain ⟨l2, q2⟩ := List.getElem?_eq_some_iff.mp e2
  exact ne ((List.getElem_inj nd).mp (q2.trans q1.symm))
theorem SH.set (S : SH A H0 H L) (i : Nat) (e : L[i]? = some (a, o)) (im : Imm o = false) (o' : HO) : SH A H0 (upd H a o') (L.set i (a, o')) := by
  have ha := S.get i e
  refine ⟨fun c hc => ?_, ?_, ⟨fun b u q z => ?_, fun b q => ?_⟩, fun c hc => ?_⟩
  · rcases mem_set_cell hc with rfl | ⟨j, nj, ej⟩
    · exact upd_same
    · rw [upd_ne (nodup_key S.nd e ej nj)]
      exact S.hs c (List.mem_of_getElem? ej)
  · rw [map_set_key e]
    exact S.nd
  · have h1 := S.kp.k b u q z
    have nb : b ≠ a := fun y => by
      subst y
      rw [ha] at h1
      cases h1
      rcases z with z | z
      · rcases S.ow _ (List.mem_of_getElem? e) with w | w
        · exact z w
        · rw [q] at w
          cases w
      · rw [im] at z
        cases z
    rw [upd_ne nb]
    exact h1
  · by_cases hb : b = a
    · rw [hb, upd_same] at q
      cases q
    · rw [upd_ne hb] at q
      exact S.kp.d b q
  · rcases mem_set_cell hc with rfl | ⟨j, nj, ej⟩
    · exact S.ow (a, o) (List.mem_of_getElem? e)
    · exact S.ow c (List.mem_of_getElem? ej)
/-- behind a call that changed at most what stands at the keys of U (their new cells), each of them a cell of L -/
theorem SH.call0 (S : SH A H0 H L) (k : Keep [] H H') : SH A H0 H' L :=
  ⟨fun c hc => k.k _ _ (S.hs c hc) (.inl (by simp)), S.nd, S.kp.trans k.nil, S.ow⟩
theorem SH.call1 (S : SH A H0 H L) (i : Nat) (e : L[i]? = some (a, o)) (im : Imm o = false) (k : Keep [a] H H') (h : H' a = some o') : SH A H0 H' (L.set i (a, o')) := by
  have ha := S.get i e
  refine ⟨fun c hc => ?_, by rw [map_set_key e]; exact S.nd, ⟨fun b u q z => ?_, fun b q => S.kp.d b (k.d b q)⟩, fun c hc => ?_⟩
  · rcases mem_set_cell hc with rfl | ⟨j, nj, ej⟩
    · exact h
    · exact k.k _ _ (S.hs c (List.mem_of_getElem? ej)) (.inl fun z => nodup_key S.nd e ej nj (List.mem_singleton.mp z))
  · have h1 := S.kp.k b u q z
    refine k.k b u h1 ?_
    rcases z with z | z
    · refine .inl fun y => ?_
      have y' := List.mem_singleton.mp y
      subst y'
      rcases S.ow _ (List.mem_of_getElem? e) with w | w
      · exact z w
      · rw [q] at w
        cases w
    · exact .inr z
  · rcases mem_set_cell hc with rfl | ⟨j, nj, ej⟩
    · exact S.ow (a, o) (List.mem_of_getElem? e)
    · exact S.ow c (List.mem_of_getElem? ej)
/-- a new object of a callee -/
theorem SH.add (S : SH A H0 H L) (S' : SH A H0 H' L') (ks : ∀ c ∈ L', H c.1 ≠ none) (n : H p = none) (h : H' p = some o) : SH A H0 H' ((p, o) :: L') := by
  refine ⟨fun c hc => ?_, ?_, S'.kp, fun c hc => ?_⟩
  · rcases List.mem_cons.mp hc with rfl | hc
    · exact h
    · exact S'.hs c hc
  · rw [List.map_cons, List.nodup_cons]
    refine ⟨fun z => ?_, S'.nd⟩
    obtain ⟨c, hc, e⟩ := List.mem_map.mp z
    exact ks c hc (e ▸ n)
  · rcases List.mem_cons.mp hc with rfl | hc
    · exact .inr (S.kp.d _ n)
    · exact S'.ow c hc
theorem SH.call0n (S : SH A H0 H L) (k : Keep [] H H') (n : H p = none) (h : H' p = some o) : SH A H0 H' ((p, o) :: L) :=
  S.add (S.call0 k) (fun c hc => by rw [S.hs c hc]; exact nofun) n h
theorem SH.call1n {q : Addr} {u : HO} (S : SH A H0 H L) (i : Nat) (e : L[i]? = some (a, o)) (im : Imm o = false) (k : Keep [a] H H') (h : H' a = some o') (n : H q = none) (h2 : H' q = some u) : SH A H0 H' ((q, u) :: L.set i (a, o')) := by
  refine S.add (S.call1 i e im k h) (fun c hc => ?_) n h2
  rcases mem_set_cell hc with rfl | ⟨j, nj, ej⟩
  · rw [S.get i e]
    exact nofun
  · rw [S.hs c (List.mem_of_getElem? ej)]
    exact nofun
theorem SH.sub (S : SH A H0 H L) (s : L'.Sublist L) : SH A H0 H L' :=
  ⟨fun c hc => S.hs c (s.subset hc), (s.map _).nodup S.nd, S.kp, fun c hc => S.ow c (s.subset hc)⟩
theorem SH.pick (S : SH A H0 H L) (is : List Nat) (nd : is.Nodup) (e : is.map (fun i => L[i]?) = L'.map some) : SH A H0 H L' := by
  have at_ : ∀ (j : Nat) (c : Cell), L'[j]? = some c → ∃ i, is[j]? = some i ∧ L[i]? = some c := fun j c h => by
    have q : (is.map (fun i => L[i]?))[j]? = some (some c) := by rw [e, List.getElem?_map, h]; rfl
    rw [List.getElem?_map] at q
    cases h2 : is[j]? with
    | none => rw [h2] at q; cases q
    | some i => rw [h2] at q; exact ⟨i, rfl, Option.some.inj q⟩
  have mem : ∀ c ∈ L', c ∈ L := fun c hc => by
    obtain ⟨j, hj, e2⟩ := List.mem_iff_getElem.mp hc
    obtain ⟨i, _, h⟩ := at_ j c (by rw [List.getElem?_eq_getElem hj, e2])
    exact List.mem_of_getElem? h
  refine ⟨fun c hc => S.hs c (mem c hc), ?_, S.kp, fun c hc => S.ow c (mem c hc)⟩
  refine List.pairwise_iff_getElem.mpr fun a b ha hb hab z => ?_
  rw [List.length_map] at ha hb
  rw [List.getElem_map, List.getElem_map] at z
  obtain ⟨i, i1, i2⟩ := at_ a _ (List.getElem?_eq_getElem ha)
  obtain ⟨j, j1, j2⟩ := at_ b _ (List.getElem?_eq_getElem hb)
  have hij : i ≠ j := fun q => by
    subst q
    obtain ⟨l1, q1⟩ := List.getElem?_eq_some_iff.mp i1
    obtain ⟨l2, q2⟩ := List.getElem?_eq_some_iff.mp j1
    have := (List.getElem_inj nd).mp (q1.trans q2.symm)
    omega
  exact nodup_key S.nd i2 j2 (Ne.symm hij) z.symm
theorem SH.drop1 {c : Cell} (S : SH A H0 H (c :: L)) : SH A H0 H L := S.sub (List.sublist_cons_self _ _)
theorem SH.perm (S : SH A H0 H L) (p : L.Perm L') : SH A H0 H L' :=
  ⟨fun c hc => S.hs c (p.mem_iff.mpr hc), (p.map _).nodup_iff.mp S.nd, S.kp, fun c hc => S.ow c (p.mem_iff.mpr hc)⟩
theorem SH.ro (S : SH [] H0 H L) (h : H0 a = some o) : H a = some o := S.kp.k a o h (.inl fun z => nomatch z)
/-- what this code did, seen from outside -/
theorem SH.done (S : SH A H0 H L) : Keep A H0 H := S.kp
theorem SH.ne (S : SH A H0 H L) {i j : Nat} {c d : Cell} (h1 : L[i]? = some c) (h2 : L[j]? = some d) (ne : j ≠ i) : d.1 ≠ c.1 := nodup_key S.nd h1 h2 ne
end

/-- behind a call that turned the cells B into B2 -/
theorem SH.call {A : List Addr} {H0 H H' : Hp} {B B2 F : List Cell} (S : SH A H0 H (B ++ F)) (C : SH (B.map (·.1)) H H' B2) : SH A H0 H' (B2 ++ F) := by
  have apart : ∀ c ∈ F, c.1 ∉ B.map (·.1) := fun c hc z => by
    have nd := S.nd
    rw [List.map_append] at nd
    exact (List.nodup_append.mp nd).2.2 c.1 z c.1 (List.mem_map_of_mem hc) rfl
  refine ⟨fun c hc => ?_, ?_, ⟨fun b o e q => ?_, fun b e => S.kp.d b (C.kp.d b e)⟩, fun c hc => ?_⟩
  · rcases List.mem_append.mp hc with h | h
    · exact C.hs c h
    · exact C.kp.k _ _ (S.hs c (List.mem_append_right _ h)) (.inl (apart c h))
  · rw [List.map_append]
    have nd := S.nd
    rw [List.map_append] at nd
    refine List.nodup_append.mpr ⟨C.nd, (List.nodup_append.mp nd).2.1, fun a ha b hb e => ?_⟩
    subst e
    obtain ⟨c, hc, rfl⟩ := List.mem_map.mp ha
    obtain ⟨d, hd, e⟩ := List.mem_map.mp hb
    rcases C.ow c hc with w | w
    · exact apart d hd (by rw [e]; exact w)
    · rw [← e, S.hs d (List.mem_append_right _ hd)] at w
      cases w
  · have h1 := S.kp.k b o e q
    refine C.kp.k b o h1 ?_
    rcases q with q | q
    · refine .inl fun z => ?_
      obtain ⟨c, hc, e2⟩ := List.mem_map.mp z
      rcases S.ow c (List.mem_append_left _ hc) with w | w
      · exact q (e2 ▸ w)
      · rw [e2, e] at w
        cases w
    · exact .inr q
  · rcases List.mem_append.mp hc with h | h
    · rcases C.ow c h with w | w
      · obtain ⟨d, hd, e⟩ := List.mem_map.mp w
        rw [← e]
        exact S.ow d (List.mem_append_left _ hd)
      · exact .inr (S.kp.d _ w)
    · exact S.ow c (List.mem_append_right _ h)
theorem SH.pickT {A : List Addr} {H0 H : Hp} {L L' : List Cell} (n : Nat) (S : SH A H0 H L) (is : List Nat) (nd : is.Nodup) (hb : ∀ i ∈ is, i < n) (e : is.map (fun i => L[i]?) = L'.map some) : SH A H0 H (L' ++ L.drop n) := by
  have S1 := S.pick is nd e
  have S2 := S.sub (List.drop_sublist n L)
  refine ⟨fun c hc => (List.mem_append.mp hc).elim (S1.hs c) (S2.hs c), ?_, S.kp, fun c hc => (List.mem_append.mp hc).elim (S1.ow c) (S2.ow c)⟩
  rw [List.map_append]
  refine List.nodup_append.mpr ⟨S1.nd, S2.nd, fun a ha b hb' q => ?_⟩
  subst q
  obtain ⟨c, hc, rfl⟩ := List.mem_map.mp ha
  obtain ⟨d, hd, ed⟩ := List.mem_map.mp hb'
  obtain ⟨j, hj, ej⟩ := List.mem_iff_getElem.mp hc
  obtain ⟨m, hm, em⟩ := List.mem_iff_getElem.mp hd
  have q : (is.map (fun i => L[i]?))[j]? = some (some c) := by rw [e, List.getElem?_map, List.getElem?_eq_getElem hj, ej]; rfl
  rw [List.getElem?_map] at q
  cases h2 : is[j]? with
  | none => rw [h2] at q; cases q
  | some i =>
    rw [h2] at q
    have hi := hb i (List.mem_of_getElem? h2)
    have e1 : L[i]? = some c := Option.some.inj q
    have e2 : L[n + m]? = some d := by rw [← List.getElem?_drop, List.getElem?_eq_getElem hm, em]
    exact nodup_key S.nd e1 e2 (by omega) ed
theorem perm_mid {α : Type} (A B S : List α) : ((A ++ B) ++ S).Perm (A ++ (S ++ B)) := by
  rw [List.append_assoc]
  exact List.Perm.append_left _ List.perm_append_comm
/-- cells that are there, apart -/
structure Blk (H : Hp) (B : List Cell) : Prop where
  hs : ∀ c ∈ B, H c.1 = some c.2
  nd : (B.map (·.1)).Nodup
theorem SH.callM {A : List Addr} {H0 H H' : Hp} {F B B2 G : List Cell} (S : SH A H0 H (F ++ (B ++ G))) (C : SH (B.map (·.1)) H H' B2) : SH A H0 H' (F ++ (B2 ++ G)) := by
  have p : ∀ X : List Cell, (F ++ (X ++ G)).Perm (X ++ (F ++ G)) := fun X => by
    rw [← List.append_assoc, ← List.append_assoc]
    exact List.Perm.append_right _ List.perm_append_comm
  exact ((S.perm (p B)).call C).perm (p B2).symm
theorem SH.callR {A : List Addr} {H0 H H' : Hp} {F B B2 : List Cell} (S : SH A H0 H (F ++ B)) (C : SH (B.map (·.1)) H H' B2) : SH A H0 H' (F ++ B2) :=
  ((S.perm List.perm_append_comm).call C).perm List.perm_append_comm
theorem SH.blkM {A : List Addr} {H0 H : Hp} (F B G : List Cell) (S : SH A H0 H (F ++ (B ++ G))) : Blk H B := ⟨fun c hc => S.hs c (List.mem_append_right _ (List.mem_append_left _ hc)), by
  have nd := S.nd
  rw [List.map_append, List.map_append] at nd
  exact (List.nodup_append.mp (List.nodup_append.mp nd).2.1).1⟩
theorem SH.blkR {A : List Addr} {H0 H : Hp} (F B : List Cell) (S : SH A H0 H (F ++ B)) : Blk H B := ⟨fun c hc => S.hs c (List.mem_append_right _ hc), by
  have nd := S.nd
  rw [List.map_append] at nd
  exact (List.nodup_append.mp nd).2.1⟩
theorem Blk.sh {H : Hp} {B : List Cell} (b : Blk H B) : SH (B.map (·.1)) H H B := SH.start b.hs b.nd
theorem SH.blk {A : List Addr} {H0 H : Hp} {L : List Cell} (S : SH A H0 H L) : Blk H L := ⟨S.hs, S.nd⟩
theorem Blk.sub {H : Hp} {B B' : List Cell} (b : Blk H B) (s : B'.Sublist B) : Blk H B' := ⟨fun c hc => b.hs c (s.subset hc), (s.map _).nodup b.nd⟩
theorem SH.fr0 {H0 H : Hp} {L : List Cell} {p : Addr} {o : HO} (S : SH [] H0 H L) (i : Nat) (e : L[i]? = some (p, o)) : H0 p = none := (S.ow (p, o) (List.mem_of_getElem? e)).elim (fun z => nomatch z) id
theorem SH.fr1 {H0 H : Hp} {L : List Cell} {p a : Addr} {o u : HO} (S : SH [a] H0 H L) (i j : Nat) (e : L[i]? = some (p, o)) (e2 : L[j]? = some (a, u)) (ne : i ≠ j) : H0 p = none :=
  (S.ow (p, o) (List.mem_of_getElem? e)).elim (fun z => absurd (List.mem_singleton.mp z) (nodup_key S.nd e2 e ne)) id
theorem SH.frn {A : List Addr} {H0 H : Hp} {L : List Cell} {p : Addr} {o : HO} (S : SH A H0 H L) (i : Nat) (e : L[i]? = some (p, o)) (n : p ∉ A) : H0 p = none := (S.ow (p, o) (List.mem_of_getElem? e)).elim (fun z => absurd z n) id
/-- the script (or another list that nobody changes) -/
def Scr (K : PySem.W.Frag) (H : Hp) (a : Addr) (xs : List V) : Prop :=
  (∃ o, H a = some (.frz o (.lst xs))) ∨
    ∃ (o : Obj) (its : Array Value) (n : Nat), K.lookup a = some o ∧ o.cls = .type "list" ∧ o.dict = none ∧ o.data = .seq its n ∧ its.size ≤ sizeLine ∧ Vals xs its.toList
theorem Scr.sq {K : PySem.W.Frag} {H : Hp} {a : Addr} {xs : List V} (h : Scr K H a xs) : SqL K H a xs := by
  rcases h with ⟨o, h⟩ | h
  · exact .inl (.inr ⟨o, h⟩)
  · exact .inr h
theorem Scr.keep {K : PySem.W.Frag} {A : List Addr} {H H' : Hp} {a : Addr} {xs : List V} (h : Scr K H a xs) (k : Keep A H H') : Scr K H' a xs := by
  rcases h with ⟨o, h⟩ | h
  · exact .inl ⟨o, k.k _ _ h (.inr rfl)⟩
  · exact .inr h
theorem Scr.of {K : PySem.W.Frag} {H : Hp} {a : Addr} {xs : List V} (h : SqL K H a xs) (O : Only H) : Scr K H a xs := by
  rcases h with (h | ⟨o, h⟩) | h
  · rcases O a with q | ⟨o, ys, q⟩
    · rw [q] at h
      cases h
    · rw [q] at h
      cases h
  · exact .inl ⟨o, h⟩
  · exact .inr h

/-! ### operators for several kinds of values -/
section
variable {X : Cx}
def CDivX (_ j : Int) : Prop := j ≠ 0 ∧ j.natAbs.log2 < 9000
theorem op_fdivX : OpR X (binaryOp .FloorDiv) (rI CDivX fun i j => .int (i.fdiv j)) := opI fun _ _ _ _ _ _ _ hc q => floordiv_int hc.1 q (.inl (PyProof.noPylong_of_log2 hc.2))
def rAddX (K : PySem.W.Frag) : R2 := fun x y H Q => rI0 (fun i j => .int (i + j)) x y H Q ∨ (∃ i j, x = .str i ∧ y = .str j ∧ i.length + j.length ≤ sizeLine ∧ Q (.str (i ++ j)) H) ∨ rCat x y H Q ∨ rCatA K x y H Q
theorem xAdd : OpR X (binaryOp .Add) (rAddX X.K) := op_add.or (op_add_str.or (op_cat.or op_catA))
def rMulX (K : PySem.W.Frag) : R2 := fun x y H Q => rI CMul (fun i j => .int (i * j)) x y H Q ∨ rI CMulW (fun i j => .int (i * j)) x y H Q ∨ rRep x y H Q ∨ rRepT K x y H Q
theorem xMul : OpR X (binaryOp .Mult) (rMulX X.K) := op_mul.or (op_mulW.or (op_rep.or op_repT))
def rDivX : R2 := fun x y H Q => rI CDivW (fun i j => .int (i / j)) x y H Q ∨ rI CDivX (fun i j => .int (i.fdiv j)) x y H Q
theorem xDiv : OpR X (binaryOp .FloorDiv) rDivX := op_fdivW.or op_fdivX
def rModX : R2 := fun x y H Q => rI (fun _ j => 0 < j) (fun i j => .int (i % j)) x y H Q ∨ rI (fun _ j => j ≠ 0) (fun i j => .int (i.fmod j)) x y H Q
theorem xMod : OpR X (binaryOp .Mod) rModX := op_mod.or op_modN
def rEqX (K : PySem.W.Frag) : R2 := fun x y H Q => rEq x y H Q ∨ rEqD K x y H Q
def rNeX (K : PySem.W.Frag) : R2 := fun x y H Q => rNe x y H Q ∨ rNeD K x y H Q
theorem xEq (hu : X.A.units + 64 < cLine) : OpR X (compareOp .Eq) (rEqX X.K) := op_eq.or (op_eqD hu)
theorem xNe (hu : X.A.units + 64 < cLine) : OpR X (compareOp .NotEq) (rNeX X.K) := op_ne.or (op_neD hu)
def rInX (K : PySem.W.Frag) (neg : Bool) : R2 := rIn K neg
theorem xIn : OpR X (compareOp .In) (rInX X.K false) := op_in_seq
theorem xNotIn : OpR X (compareOp .NotIn) (rInX X.K true) := op_notIn_seq
def rIsX : R2 := fun x y H Q => (y = .non ∧ Q (.bl (decide (x = .non))) H) ∨ (∃ a b, x = .bl a ∧ y = .bl b ∧ Q (.bl (decide (a = b))) H)
def rIsNotX : R2 := fun x y H Q => (y = .non ∧ Q (.bl (!decide (x = .non))) H) ∨ (∃ a b, x = .bl a ∧ y = .bl b ∧ Q (.bl (!decide (a = b))) H)
theorem xIs : OpR X (compareOp .Is) rIsX := op_isN.or op_is_bl
theorem xIsNot : OpR X (compareOp .IsNot) rIsNotX := op_notN.or op_isnot_bl
def rIxX (K : PySem.W.Frag) : R2 := rIx K
theorem xIx : IxR X (rIxX X.K) := ix_seq
def rSlX (K : PySem.W.Frag) : V → Option Int → Option Int → Hp → VK → Prop := fun x lo hi H Q => rSlL K x lo hi H Q ∨ rSlT K x lo hi H Q
theorem xSl : SlR X (rSlX X.K) := sl_list.or sl_tup
theorem CallR.or {f : Value} {r r' : List V → Hp → VK → Prop} (h : CallR X f r) (h' : CallR X f r') : CallR X f (fun xs H Q => r xs H Q ∨ r' xs H Q) := by
  intro pins s σ H xs us Q I r1 q
  rcases q with q | q
  · exact h pins s σ H xs us Q I r1 q
  · exact h' pins s σ H xs us Q I r1 q
def rInt : List V → Hp → VK → Prop := fun xs H Q => (∃ i, xs = [.int i] ∧ Q (.int i) H) ∨ ∃ k, xs = [.bl k] ∧ Q (.int (if k then 1 else 0)) H
theorem x_int : CallR X (.type "int") rInt := call_int1
def rLenX (K : PySem.W.Frag) : List V → Hp → VK → Prop := fun xs H Q => ∃ x n, xs = [x] ∧ LenV K x H n ∧ Q (.int n) H
theorem x_len : CallR X (.builtin "len") (rLenX X.K) := call_len
def rAbs : List V → Hp → VK → Prop := fun xs H Q => ∃ i, xs = [.int i] ∧ Q (.int (if i < 0 then -i else i)) H
theorem x_abs : CallR X (.builtin "abs") rAbs := call_abs
def rIsiX (K : PySem.W.Frag) : List V → Hp → VK → Prop := fun xs H Q => rIsi K xs H Q ∨ rIsiT K xs H Q
theorem x_isinstance : CallR X (.builtin "isinstance") (rIsiX X.K) := CallR.or call_isi call_isiT
def rListX (K : PySem.W.Frag) : List V → Hp → VK → Prop := fun xs H Q => ∃ p ys, xs = [.ref p] ∧ (SqL K H p ys ∨ SqT K H p ys) ∧ ∀ l, H l = none → Q (.ref l) (upd H l (.lst ys))
theorem x_list : CallR X (.type "list") (rListX X.K) := call_list_of
def rTupX (K : PySem.W.Frag) : List V → Hp → VK → Prop := fun xs H Q => ∃ p ys, xs = [.ref p] ∧ ((SqL K H p ys ∧ ∀ l, H l = none → Q (.ref l) (upd H l (.tup ys))) ∨ (SqT K H p ys ∧ Q (.ref p) H))
theorem x_tuple : CallR X (.type "tuple") (rTupX X.K) := call_tuple_of
def rMax2 : List V → Hp → VK → Prop := fun xs H Q => ∃ i j, xs = [.int i, .int j] ∧ Q (.int (if j > i then j else i)) H
theorem x_max2 (hc : X.calm = true) : CallR X (.builtin "max") rMax2 := call_max2 hc
def rMin2 : List V → Hp → VK → Prop := fun xs H Q => ∃ i j, xs = [.int i, .int j] ∧ Q (.int (if j < i then j else i)) H
theorem x_min2 (hc : X.calm = true) : CallR X (.builtin "min") rMin2 := call_min2 hc
/-- a module's constant -/
theorem pe_ci {x : Str} {i : Int} {pos : Pos} (hg : Gl X x) (h : ∃ t, X.mg x = some (.int i t)) (hd : (x == ("__debug__" : Str)) = false := by decide) : PE X (.Name x pos) (tC (.int i)) := by
  obtain ⟨t, h⟩ := h
  exact pe_glob hg h ⟨t, rfl⟩ hd
theorem pe_gr {x : Str} {a : Addr} {pos : Pos} (hg : Gl X x) (h : X.mg x = some (.ref a)) (hd : (x == ("__debug__" : Str)) = false := by decide) : PE X (.Name x pos) (tC (.ref a)) := pe_glob hg h rfl hd
theorem pe_cs {x z : Str} {pos : Pos} (hg : Gl X x) (h : ∃ t, X.mg x = some (.str z t)) (hd : (x == ("__debug__" : Str)) = false := by decide) : PE X (.Name x pos) (tC (.str z)) := by
  obtain ⟨t, h⟩ := h
  exact pe_glob hg h ⟨t, rfl⟩ hd
end

/-! ### == of lists of ints -/
theorem shaped_ints (ns : List Int) : SeqAt.shaped (.list (ns.map PyData.int)) = true := by
  have h1 : ∀ l : List Int, PyData.canLayAll0 (l.map PyData.int) = true := fun l => by
    induction l with
    | nil => rfl
    | cons n r ih => rw [List.map_cons, PyData.canLayAll0, ih]; rfl
  have h2 : ∀ l : List Int, PyData.depthAll (l.map PyData.int) = 0 := fun l => by
    induction l with
    | nil => rfl
    | cons n r ih => rw [List.map_cons, PyData.depthAll, ih]; rfl
  unfold SeqAt.shaped
  rw [PyData.canLay0, h1, PyData.depth, h2]
  rfl
theorem eqv_ints : ∀ ns ms : List Int, PyData.eqvAll (ns.map PyData.int) (ms.map PyData.int) = decide (ns = ms)
  | [], [] => by simp [PyData.eqvAll]
  | [], _ :: _ => by simp [PyData.eqvAll]
  | _ :: _, [] => by simp [PyData.eqvAll]
  | n :: ns, m :: ms => by
    rw [List.map_cons, List.map_cons, PyData.eqvAll, eqv_ints ns ms]
    by_cases h : n = m <;> by_cases h2 : ns = ms <;> simp [h, h2, PyData.eqv]
theorem dp_ints {K : PySem.W.Frag} {H : Hp} : ∀ ns : List Int, DpAll K H (ns.map V.int) (ns.map PyData.int)
  | [] => .nil
  | n :: ns => .cons (.int n) (dp_ints ns)
theorem s_eqLI {K : PySem.W.Frag} {H : Hp} {p q : Addr} {ns ms : List Int} {Q : VK} (h1 : SqL K H p (ns.map V.int)) (h2 : SqL K H q (ms.map V.int)) (h : Q (.bl (decide (ns = ms))) H) : rEqX K (.ref p) (.ref q) H Q :=
  .inr ⟨_, _, .lst h1 (dp_ints ns), .lst h2 (dp_ints ms), shaped_ints ns, shaped_ints ms, by rw [PyData.eqv, eqv_ints]; exact h⟩
/-! ### defs of the program -/
/-- the name x stands for a def that keeps the promise sp -/
structure CallOk (P : Program) (w : World) (K : PySem.W.Frag) (mg : Str → Option Value) (base : Heap) (CX : CXT) (k : Nat) (x : Str) (ps : List Str) (sp : Sp) : Prop where
  ex : ∃ f fd, mg x = some (.ref f) ∧ PySem.W.keepIn K (.ref f) = true ∧ Binds K fd ps [] ∧ FnOk P w K mg base CX k f fd ps sp
section
variable {X : Cx} {CX : CXT} {k : Nat} {ps : List Str} {sp : Sp} {E : XK} {x : Str} {p pos : Pos} {e : Expr} {es : List Expr} {t : TA}
theorem pe_callG (F : CallOk X.prog X.w X.K X.mg X.base CX k x ps sp) (hr : Room k X.A) (hg : Gl X x) (hx : Passes CX X E)
    (ha : PA X (e :: es) t) (hdb : (x == ("__debug__" : Str)) = false := by decide) (he : starEach (e :: es) X.env = (false, eval e X.env) :: starEach es X.env := by rfl) (hpl : (backTo pos (starEach es X.env)).any (·.1) = false := by rfl) :
    PE X (.Call (.Name x p) (e :: es) [] pos) (tCall sp [] E t) := by
  obtain ⟨f, fd, h1, h2, h3, h4⟩ := F.ex
  exact pe_call h4 hr hg h1 h2 h3 .nil hx ha hdb he hpl
theorem pe_callG0 (F : CallOk X.prog X.w X.K X.mg X.base CX k x ps sp) (hr : Room k X.A) (hg : Gl X x) (hx : Passes CX X E) (hdb : (x == ("__debug__" : Str)) = false := by decide) :
    PE X (.Call (.Name x p) [] [] pos) (tCall sp [] E tNil) := by
  obtain ⟨f, fd, h1, h2, h3, h4⟩ := F.ex
  exact pe_call0 h4 hr hg h1 h2 h3 .nil hx hdb
end
/-- the method m of the class that stands under the name C -/
structure MethOk (P : Program) (w : World) (K : PySem.W.Frag) (mg : Str → Option Value) (base : Heap) (CX : CXT) (k : Nat) (C m : Str) (ps : List Str) (sp : Sp) : Prop where
  ex : ∃ fd, Cls K (He.ga K C) ∧ Meth K (He.ga K C) m (He.ma K (He.ga K C) m) ∧ Binds K fd ps [] ∧ FnOk P w K mg base CX k (He.ma K (He.ga K C) m) fd ps sp
structure MakeOk (P : Program) (w : World) (K : PySem.W.Frag) (mg : Str → Option Value) (base : Heap) (CX : CXT) (k : Nat) (C : Str) (ps : List Str) (sp : Sp) : Prop where
  ex : ∃ fd, mg C = some (.ref (He.ga K C)) ∧ Mk K (He.ga K C) (He.ma K (He.ga K C) "__init__") ∧ Binds K fd ps [] ∧ FnOk P w K mg base CX k (He.ma K (He.ga K C) "__init__") fd ps sp
/-- the property f of the class C -/
structure PropOk (P : Program) (w : World) (K : PySem.W.Frag) (mg : Str → Option Value) (base : Heap) (CX : CXT) (k : Nat) (C f : Str) (ps : List Str) (sp : Sp) : Prop where
  ex : ∃ fd p g, Cls K (He.ga K C) ∧ PropOf K (He.ga K C) f p g ∧ Binds K fd ps [] ∧ FnOk P w K mg base CX k g fd ps sp
/-- a method's reading behind its object -/
def methO (C : Addr) (m : Str) (sp : Sp) (E : XK) (t : TA) (σ : L2.St) (x : V) (H : Hp) (Q : VK) : Prop := ∃ a dx fs, x = .ref a ∧ H a = some (.ins C dx fs) ∧ fs.lookup m = none ∧ t σ H fun vs H2 => sp (x :: (vs ++ [])) H2 Q E
def propO (C : Addr) (sp : Sp) (E : XK) (x : V) (H : Hp) (Q : VK) : Prop := ∃ a dx fs, x = .ref a ∧ H a = some (.ins C dx fs) ∧ sp [.ref a] H Q E
def makeO (C : Addr) (sp : Sp) (E : XK) (vs : List V) (H : Hp) (Q : VK) : Prop := ∀ x dx, H x = none → H dx = none → dx ≠ x → sp (.ref x :: (vs ++ [])) (upd (upd H dx (.own x)) x (.ins C dx [])) (fun v H2 => v = .non ∧ Q (.ref x) H2) E
section
variable {X : Cx} {CX : CXT} {k : Nat} {ps : List Str} {sp : Sp} {E : XK} {C m : Str} {p pos apos : Pos} {o e : Expr} {es : List Expr} {t : TA} {ta : TE}
theorem pe_methG {pl : Sem Bool} (he : PE X o ta) (F : MethOk X.prog X.w X.K X.mg X.base CX k C m ps sp) (hr : Room k X.A) (hx : Passes CX X E) (ha : PA X (e :: es) t)
    (hst : starEach (e :: es) X.env = (false, eval e X.env) :: starEach es X.env := by rfl) (hpl : (backTo pos (starEach es X.env)).any (·.1) = false := by rfl)
    (ht : eval (.Call (.Attribute o m apos) (e :: es) [] pos) X.env = (do
      let ov ← eval o X.env
      standAt apos.atName
      let (f, first) ← holding [ov] (getMethod ov m pl)
      callWith pos f first (backTo pos (starEach (e :: es) X.env)) (backToKw pos (keywordEach [] X.env))) := by rfl) :
    PE X (.Call (.Attribute o m apos) (e :: es) [] pos) (fun σ H Q => ta σ H fun x H1 => methO (He.ga X.K C) m sp E t σ x H1 Q) := by
  obtain ⟨fd, c, hm, hb, G⟩ := F.ex
  exact pe_meth (pl := pl) he c hm G hr hb .nil hx ha hst hpl ht
theorem pe_methG0 {pl : Sem Bool} (he : PE X o ta) (F : MethOk X.prog X.w X.K X.mg X.base CX k C m ps sp) (hr : Room k X.A) (hx : Passes CX X E)
    (ht : eval (.Call (.Attribute o m apos) [] [] pos) X.env = (do
      let ov ← eval o X.env
      standAt apos.atName
      let (f, first) ← holding [ov] (getMethod ov m pl)
      callWith pos f first (backTo pos (starEach [] X.env)) (backToKw pos (keywordEach [] X.env))) := by rfl) :
    PE X (.Call (.Attribute o m apos) [] [] pos) (fun σ H Q => ta σ H fun x H1 => methO (He.ga X.K C) m sp E tNil σ x H1 Q) := by
  obtain ⟨fd, c, hm, hb, G⟩ := F.ex
  exact pe_meth0 (pl := pl) he c hm G hr hb .nil hx ht
theorem pe_propG (he : PE X o ta) (F : PropOk X.prog X.w X.K X.mg X.base CX k C m ps sp) (hr : Room (k + 1) X.A) (hx : Passes CX X.nox E)
    (hab : attributeBase o m X.env (eval o X.env) = eval o X.env) : PE X (.Attribute o m pos) (fun σ H Q => ta σ H fun x H1 => propO (He.ga X.K C) sp E x H1 Q) := by
  obtain ⟨fd, p, g, c, hp, hb, G⟩ := F.ex
  exact pe_prop he c hp G hr hb .nil hx hab
theorem pe_makeG (F : MakeOk X.prog X.w X.K X.mg X.base CX k C ps sp) (hr : Room (k + 1) X.A) (hg : Gl X C) (hx : Passes CX X E) (ha : PA X (e :: es) t) (hdb : (C == ("__debug__" : Str)) = false := by decide)
    (he : starEach (e :: es) X.env = (false, eval e X.env) :: starEach es X.env := by rfl) (hpl : (backTo pos (starEach es X.env)).any (·.1) = false := by rfl) :
    PE X (.Call (.Name C p) (e :: es) [] pos) (fun σ H Q => t σ H fun vs H1 => makeO (He.ga X.K C) sp E vs H1 Q) := by
  obtain ⟨fd, hm, M, hb, G⟩ := F.ex
  exact pe_make M G hr hg hm hb .nil hx ha hdb he hpl
theorem pe_makeG0 (F : MakeOk X.prog X.w X.K X.mg X.base CX k C ps sp) (hr : Room (k + 1) X.A) (hg : Gl X C) (hx : Passes CX X E) (hdb : (C == ("__debug__" : Str)) = false := by decide) :
    PE X (.Call (.Name C p) [] [] pos) (fun σ H Q => makeO (He.ga X.K C) sp E [] H Q) := by
  obtain ⟨fd, hm, M, hb, G⟩ := F.ex
  exact pe_make0 M G hr hg hm hb .nil hx hdb
end
/-- promises by the number of arguments -/
def mk0 (P : Hp → VK → XK → Prop) : Sp := fun vs H Q E => vs = [] ∧ P H Q E
def mk1 (P : V → Hp → VK → XK → Prop) : Sp := fun vs H Q E => ∃ a, vs = [a] ∧ P a H Q E
def mk2 (P : V → V → Hp → VK → XK → Prop) : Sp := fun vs H Q E => ∃ a b, vs = [a, b] ∧ P a b H Q E
def mk3 (P : V → V → V → Hp → VK → XK → Prop) : Sp := fun vs H Q E => ∃ a b c, vs = [a, b, c] ∧ P a b c H Q E
def mk4 (P : V → V → V → V → Hp → VK → XK → Prop) : Sp := fun vs H Q E => ∃ a b c d, vs = [a, b, c, d] ∧ P a b c d H Q E
def mk5 (P : V → V → V → V → V → Hp → VK → XK → Prop) : Sp := fun vs H Q E => ∃ a b c d e, vs = [a, b, c, d, e] ∧ P a b c d e H Q E
theorem mk0_len {P} (vs H Q E) (h : mk0 P vs H Q E) : vs.length = 0 := by obtain ⟨rfl, _⟩ := h; rfl
theorem mk1_len {P} (vs H Q E) (h : mk1 P vs H Q E) : vs.length = 1 := by obtain ⟨_, rfl, _⟩ := h; rfl
theorem mk2_len {P} (vs H Q E) (h : mk2 P vs H Q E) : vs.length = 2 := by obtain ⟨_, _, rfl, _⟩ := h; rfl
theorem mk3_len {P} (vs H Q E) (h : mk3 P vs H Q E) : vs.length = 3 := by obtain ⟨_, _, _, rfl, _⟩ := h; rfl
theorem mk4_len {P} (vs H Q E) (h : mk4 P vs H Q E) : vs.length = 4 := by obtain ⟨_, _, _, _, rfl, _⟩ := h; rfl
theorem mk5_len {P} (vs H Q E) (h : mk5 P vs H Q E) : vs.length = 5 := by obtain ⟨_, _, _, _, _, rfl, _⟩ := h; rfl
theorem s_mk0 {P : Hp → VK → XK → Prop} {H Q E} (h : P H Q E) : mk0 P ([] ++ []) H Q E := ⟨rfl, h⟩
theorem s_mk1 {P : V → Hp → VK → XK → Prop} {a H Q E} (h : P a H Q E) : mk1 P ([a] ++ []) H Q E := ⟨a, rfl, h⟩
theorem s_mk2 {P : V → V → Hp → VK → XK → Prop} {a b H Q E} (h : P a b H Q E) : mk2 P ([a, b] ++ []) H Q E := ⟨a, b, rfl, h⟩
theorem s_mk3 {P : V → V → V → Hp → VK → XK → Prop} {a b c H Q E} (h : P a b c H Q E) : mk3 P ([a, b, c] ++ []) H Q E := ⟨a, b, c, rfl, h⟩
theorem s_mk4 {P : V → V → V → V → Hp → VK → XK → Prop} {a b c d H Q E} (h : P a b c d H Q E) : mk4 P ([a, b, c, d] ++ []) H Q E := ⟨a, b, c, d, rfl, h⟩
theorem s_mk5 {P : V → V → V → V → V → Hp → VK → XK → Prop} {a b c d e H Q E} (h : P a b c d e H Q E) : mk5 P ([a, b, c, d, e] ++ []) H Q E := ⟨a, b, c, d, e, rfl, h⟩
theorem cxK {CX : CXT} {P : Program} {w : World} {K : PySem.W.Frag} {mg : Str → Option Value} {base : Heap} {N : List Str} {qual : Str} {scope : Scope} {f : Addr} {cd : Value} {A : Around} {outer : List PySem.Env} {s : Shared} {H : Hp} {E : XK} :
    (cxOf CX P w K mg base N qual scope f cd A outer s H E).nox.K = K := rfl
theorem cxK2 {CX : CXT} {P : Program} {w : World} {K : PySem.W.Frag} {mg : Str → Option Value} {base : Heap} {N : List Str} {qual : Str} {scope : Scope} {f : Addr} {cd : Value} {A : Around} {outer : List PySem.Env} {s : Shared} {H : Hp} {E : XK} :
    (cxOf CX P w K mg base N qual scope f cd A outer s H E).K = K := rfl
theorem hu_room {k : Nat} {A : Around} (hr : Room k A) : A.units + 64 < cLine := hr.units
theorem exget {ex : List (PySem.W.Frag → Bool)} {K : PySem.W.Frag} (h : (ex.all fun f => f K) = true) (i : Nat) {f : PySem.W.Frag → Bool} (e : ex[i]? = some f) : f K = true :=
  List.all_eq_true.mp h f (List.mem_of_getElem? e)

/-! ### one lemma a reading -/
/-- a new object -/
def newO (o : HO) (n : Nat) (H : Hp) (Q : VK) : Prop := n ≤ sizeLine ∧ ∀ p, H p = none → Q (.ref p) (upd H p o)
/-- a field of the value x -/
def fldO (K : PySem.W.Frag) (f : Str) (x : V) (H : Hp) (Q : VK) : Prop := ∃ a C dx fs v, x = .ref a ∧ H a = some (.ins C dx fs) ∧ Cls K C ∧ NoAttr K C f ∧ fs.lookup f = some v ∧ Q v H
def sfldO (K : PySem.W.Frag) (f : Str) (y x : V) (H : Hp) (P : Hp → Prop) : Prop := ∃ a C dx fs, x = .ref a ∧ H a = some (.ins C dx fs) ∧ Cls K C ∧ NoAttr K C f ∧ fs.length < 1000 ∧ P (upd H a (.ins C dx (putF f y fs)))
section
variable {σ σ' : L2.St} {H : Hp} {Q : VK} {K : PySem.W.Frag} {R : Bool → Hp → Prop} {D : Ends} {ta tb : TE} {t u : TS} {tc td : TT} {v : V}
theorem s_var {i : Nat} (e : σ[i]? = some (some v)) (h : Q v H) : tVar i σ H Q := ⟨v, e, h⟩
theorem s_C (h : Q v H) : tC v σ H Q := h
theorem s_op {r : R2} (h : ta σ H fun x H1 => tb σ H1 fun y H2 => r x y H2 Q) : tOp r ta tb σ H Q := h
theorem s_un {r : V → Hp → VK → Prop} (h : ta σ H fun x H1 => r x H1 Q) : tUn r ta σ H Q := h
theorem s_rU {g : Int → V} {i : Int} (h : Q (g i) H) : rU g (.int i) H Q := ⟨i, rfl, h⟩
theorem s_rI0 {g : Int → Int → V} {i j : Int} (h : Q (g i j) H) : rI0 g (.int i) (.int j) H Q := ⟨i, j, rfl, rfl, h⟩
theorem s_rI {C : Int → Int → Prop} {g : Int → Int → V} {i j : Int} (c : C i j) (h : Q (g i j) H) : rI C g (.int i) (.int j) H Q := ⟨i, j, rfl, rfl, c, h⟩
theorem s_addI {i j : Int} (h : Q (.int (i + j)) H) : rAddX K (.int i) (.int j) H Q := .inl ⟨i, j, rfl, rfl, h⟩
theorem s_addS {i j : Str} (c : i.length + j.length ≤ sizeLine) (h : Q (.str (i ++ j)) H) : rAddX K (.str i) (.str j) H Q := .inr (.inl ⟨i, j, rfl, rfl, c, h⟩)
theorem s_mulR {i j : Int} (c : -(2 ^ 64) < j ∧ j < 2 ^ 64) (h : Q (.int (i * j)) H) : rMulX K (.int i) (.int j) H Q := .inl ⟨i, j, rfl, rfl, .inr c, h⟩
theorem s_mulL {i j : Int} (c : -(2 ^ 64) < i ∧ i < 2 ^ 64) (h : Q (.int (i * j)) H) : rMulX K (.int i) (.int j) H Q := .inl ⟨i, j, rfl, rfl, .inl c, h⟩
theorem s_div {i j : Int} (c0 : 0 < j) (c : j < 2 ^ 64) (h : Q (.int (i / j)) H) : rDivX (.int i) (.int j) H Q := .inl ⟨i, j, rfl, rfl, wide_div (b := 64) c0 (by omega) (by decide) (by decide), h⟩
theorem s_divX {i j : Int} (c0 : j ≠ 0) (c : -(2 ^ 64) < j ∧ j < 2 ^ 64) (h : Q (.int (i.fdiv j)) H) : rDivX (.int i) (.int j) H Q :=
  .inr ⟨i, j, rfl, rfl, ⟨c0, Nat.lt_of_lt_of_le (PySem.Flt.log2_lt_of (k := 64) (by decide) (by omega)) (by decide)⟩, h⟩
theorem s_mod {i j : Int} (c : 0 < j) (h : Q (.int (i % j)) H) : rModX (.int i) (.int j) H Q := .inl ⟨i, j, rfl, rfl, c, h⟩
theorem s_modN {i j : Int} (c : j ≠ 0) (h : Q (.int (i.fmod j)) H) : rModX (.int i) (.int j) H Q := .inr ⟨i, j, rfl, rfl, c, h⟩
theorem s_pow {i j : Int} (c : CPow i j) {n : Int} (e : i ^ j.toNat = n) (h : Q (.int n) H) : rI CPow (fun i j => .int (i ^ j.toNat)) (.int i) (.int j) H Q := ⟨i, j, rfl, rfl, c, by show Q (.int (i ^ j.toNat)) H; rw [e]; exact h⟩
theorem s_eqI {i j : Int} (h : Q (.bl (decide (i = j))) H) : rEqX K (.int i) (.int j) H Q := .inl ⟨rfl, by
  have e : decide (V.int i = V.int j) = decide (i = j) := by simp
  rw [e]; exact h⟩
theorem s_neI {i j : Int} (h : Q (.bl (!decide (i = j))) H) : rNeX K (.int i) (.int j) H Q := .inl ⟨rfl, by
  have e : decide (V.int i = V.int j) = decide (i = j) := by simp
  rw [e]; exact h⟩
theorem s_eqS {i j : Str} (h : Q (.bl (decide (i = j))) H) : rEqX K (.str i) (.str j) H Q := .inl ⟨rfl, by
  have e : decide (V.str i = V.str j) = decide (i = j) := by simp
  rw [e]; exact h⟩
theorem s_neS {i j : Str} (h : Q (.bl (!decide (i = j))) H) : rNeX K (.str i) (.str j) H Q := .inl ⟨rfl, by
  have e : decide (V.str i = V.str j) = decide (i = j) := by simp
  rw [e]; exact h⟩
theorem s_eqB {i j : Bool} (h : Q (.bl (decide (i = j))) H) : rEqX K (.bl i) (.bl j) H Q := .inl ⟨rfl, by
  have e : decide (V.bl i = V.bl j) = decide (i = j) := by simp
  rw [e]; exact h⟩
theorem s_neB {i j : Bool} (h : Q (.bl (!decide (i = j))) H) : rNeX K (.bl i) (.bl j) H Q := .inl ⟨rfl, by
  have e : decide (V.bl i = V.bl j) = decide (i = j) := by simp
  rw [e]; exact h⟩
theorem s_isN (h : Q (.bl (decide (v = .non))) H) : rIsX v .non H Q := .inl ⟨rfl, h⟩
theorem s_isNotN (h : Q (.bl (!decide (v = .non))) H) : rIsNotX v .non H Q := .inl ⟨rfl, h⟩
theorem s_isB {a b : Bool} (h : Q (.bl (decide (a = b))) H) : rIsX (.bl a) (.bl b) H Q := .inr ⟨a, b, rfl, rfl, h⟩
theorem s_isNotB {a b : Bool} (h : Q (.bl (!decide (a = b))) H) : rIsNotX (.bl a) (.bl b) H Q := .inr ⟨a, b, rfl, rfl, h⟩
theorem s_inT {p : Addr} {xs : List V} {b : Bool} {neg : Bool} (h1 : SqT K H p xs) (f1 : flatV v = true) (f2 : xs.all flatV = true) (e : (if neg then !inV v xs else inV v xs) = b) (h : Q (.bl b) H) : rInX K neg v (.ref p) H Q :=
  ⟨p, xs, rfl, .inr h1, f1, f2, by rw [e]; exact h⟩
theorem s_inL {p : Addr} {xs : List V} {b : Bool} {neg : Bool} (h1 : SqL K H p xs) (f1 : flatV v = true) (f2 : xs.all flatV = true) (e : (if neg then !inV v xs else inV v xs) = b) (h : Q (.bl b) H) : rInX K neg v (.ref p) H Q :=
  ⟨p, xs, rfl, .inl h1, f1, f2, by rw [e]; exact h⟩
theorem s_inT0 {p : Addr} {xs : List V} (h1 : SqT K H p xs) (f1 : flatV v = true) (f2 : xs.all flatV = true) (h : Q (.bl (inV v xs)) H) : rInX K false v (.ref p) H Q := ⟨p, xs, rfl, .inr h1, f1, f2, h⟩
theorem s_inL0 {p : Addr} {xs : List V} (h1 : SqL K H p xs) (f1 : flatV v = true) (f2 : xs.all flatV = true) (h : Q (.bl (inV v xs)) H) : rInX K false v (.ref p) H Q := ⟨p, xs, rfl, .inl h1, f1, f2, h⟩
theorem s_niT0 {p : Addr} {xs : List V} (h1 : SqT K H p xs) (f1 : flatV v = true) (f2 : xs.all flatV = true) (h : Q (.bl (!inV v xs)) H) : rInX K true v (.ref p) H Q := ⟨p, xs, rfl, .inr h1, f1, f2, h⟩
theorem s_niL0 {p : Addr} {xs : List V} (h1 : SqL K H p xs) (f1 : flatV v = true) (f2 : xs.all flatV = true) (h : Q (.bl (!inV v xs)) H) : rInX K true v (.ref p) H Q := ⟨p, xs, rfl, .inl h1, f1, f2, h⟩
theorem s_ixL {p : Addr} {xs : List V} {i : Int} (h1 : SqL K H p xs) (e : atI xs i = some v) (h : Q v H) : rIxX K (.ref p) (.int i) H Q := .inl ⟨p, xs, i, v, rfl, rfl, h1, e, h⟩
theorem s_ixT {p : Addr} {xs : List V} {i : Int} (h1 : SqT K H p xs) (e : atI xs i = some v) (h : Q v H) : rIxX K (.ref p) (.int i) H Q := .inr (.inl ⟨p, xs, i, v, rfl, rfl, h1, e, h⟩)
theorem s_ixS {z : Str} {i : Int} {c : Nat} (h1 : z.length ≤ sizeLine) (e : atI z.cps.toList i = some c) (h : Q (.str ⟨#[c]⟩) H) : rIxX K (.str z) (.int i) H Q := .inr (.inr ⟨z, i, c, rfl, rfl, h1, e, h⟩)
theorem atI_in {xs : List V} {i : Int} (h0 : 0 ≤ i) (h1 : i < xs.length) : atI xs i = some (xs.getD i.toNat .non) := by
  unfold atI ixN
  rw [if_pos h0, if_pos h1]
  show xs[i.toNat]? = _
  rw [List.getD_eq_getElem?_getD, List.getElem?_eq_getElem (by omega)]
  rfl
theorem atI_ints {ns : List Int} {i : Int} (h0 : 0 ≤ i) (h1 : i < (ns.map V.int).length) : atI (ns.map V.int) i = some (.int (ns.getD i.toNat 0)) := by
  rw [List.length_map] at h1
  unfold atI ixN
  rw [if_pos h0, if_pos (by rw [List.length_map]; exact h1)]
  show (ns.map V.int)[i.toNat]? = _
  rw [List.getElem?_map, List.getD_eq_getElem?_getD, List.getElem?_eq_getElem (by omega)]
  rfl
theorem getD_strs (l : List Str) (i : Nat) (h : i < l.length) : (l.map V.str).getD i .non = .str (l.getD i "") := by
  rw [List.getD_eq_getElem?_getD, List.getD_eq_getElem?_getD, List.getElem?_map, List.getElem?_eq_getElem h]
  rfl
theorem getD_ints (l : List Int) (i : Nat) (h : i < l.length) : (l.map V.int).getD i .non = .int (l.getD i 0) := by
  rw [List.getD_eq_getElem?_getD, List.getD_eq_getElem?_getD, List.getElem?_map, List.getElem?_eq_getElem h]
  rfl
theorem set_ints (l : List Int) (i : Nat) (a : Int) : (l.map V.int).set i (.int a) = (l.set i a).map V.int := by rw [List.map_set]
def toI : V → Int
  | .int i => i
  | _ => 0
def isI : V → Bool
  | .int _ => true
  | _ => false
theorem atI_ilit {xs : List V} {i : Int} (h0 : 0 ≤ i) (h1 : i < xs.length) (a : xs.all isI = true) : atI xs i = some (.int (toI (xs.getD i.toNat .non))) := by
  rw [atI_in h0 h1]
  have hm : xs.getD i.toNat .non ∈ xs := by
    rw [List.getD_eq_getElem?_getD, List.getElem?_eq_getElem (by omega)]
    exact List.getElem_mem _
  have := List.all_eq_true.mp a _ hm
  cases e : xs.getD i.toNat .non with
  | int j => rfl
  | _ => rw [e] at this; cases this
theorem s_test (h : ta σ H fun x H' => ∃ k, x = .bl k ∧ R k H') : tTest ta σ H R := h
theorem s_tB (h : ta σ H fun x H' => ∃ k, x = .bl k ∧ R k H') : tB ta σ H R := h
theorem s_bl {b : Bool} {P : Bool → Prop} (h : P b) : ∃ k, V.bl b = .bl k ∧ P k := ⟨b, rfl, h⟩
theorem s_and (h : tc σ H fun c H1 => if c = true then td σ H1 R else R false H1) : tAnd tc td σ H R := h
theorem s_or (h : tc σ H fun c H1 => if c = true then R true H1 else td σ H1 R) : tOr tc td σ H R := h
theorem s_not (h : tc σ H fun c H1 => R (!c) H1) : tNot tc σ H R := h
theorem s_andV (h : ta σ H fun x H1 => ∃ c, x = .bl c ∧ if c = true then tb σ H1 Q else Q (.bl false) H1) : tAndV ta tb σ H Q := h
theorem s_orV (h : ta σ H fun x H1 => ∃ c, x = .bl c ∧ if c = true then Q (.bl true) H1 else tb σ H1 Q) : tOrV ta tb σ H Q := h
theorem s_notV (h : ta σ H fun x H1 => ∃ c, x = .bl c ∧ Q (.bl (!c)) H1) : tNotV ta σ H Q := h
theorem s_if (h : tc σ H fun c H1 => if c = true then ta σ H1 Q else tb σ H1 Q) : tIf tc ta tb σ H Q := h
theorem s_chain {r r' : R2} {te : TE} (h : ta σ H fun x H1 => tb σ H1 fun y H2 => r x y H2 fun z H3 => ∃ k, z = .bl k ∧ (if k = true then te σ H3 fun w' H4 => r' y w' H4 Q else Q (.bl false) H3)) : tChain r r' ta tb te σ H Q := h
theorem s_nil {S : List V → Hp → Prop} (h : S [] H) : tNil σ H S := h
theorem s_cons {S : List V → Hp → Prop} {tr : TA} (h : ta σ H fun x H1 => tr σ H1 fun xs H2 => S (x :: xs) H2) : tCons ta tr σ H S := h
theorem s_tup {tr : TA} (h : tr σ H fun xs H1 => newO (.tup xs) xs.length H1 Q) : tTup tr σ H Q := h
theorem s_lst {tr : TA} (h : tr σ H fun xs H1 => newO (.lst xs) xs.length H1 Q) : tLst tr σ H Q := h
theorem s_rep {l : Addr} {k : Int} {xs ys : List V} (h1 : H l = some (.lst xs)) (c : -(2 ^ 63) ≤ k ∧ k < 2 ^ 63) (c2 : xs.length * k.toNat ≤ sizeLine) (e : (List.replicate k.toNat xs).flatten = ys) (h : newO (.lst ys) 0 H Q) : rMulX K (.ref l) (.int k) H Q :=
  .inr (.inr (.inl ⟨l, k, xs, rfl, rfl, h1, c.1, c.2, c2, by rw [e]; exact h.2⟩))
theorem s_rep1 {l : Addr} {k : Int} {x : V} {n : Nat} (h1 : H l = some (.lst [x])) (c : 0 ≤ k ∧ k ≤ 16777216) (e : k.toNat = n) (h : newO (.lst (List.replicate n x)) 0 H Q) : rMulX K (.ref l) (.int k) H Q := by
  refine .inr (.inr (.inl ⟨l, k, [x], rfl, rfl, h1, by omega, by omega, ?_, ?_⟩))
  · rw [sizeLine_eq, List.length_singleton]
    omega
  · have q : (List.replicate k.toNat [x]).flatten = List.replicate n x := by
      rw [e]
      simp
    rw [q]
    exact h.2
theorem s_cat {l b : Addr} {xs zs ys : List V} (h1 : H l = some (.lst xs)) (h2 : H b = some (.lst zs)) (c : xs.length + zs.length ≤ sizeLine) (e : xs ++ zs = ys) (h : newO (.lst ys) 0 H Q) : rAddX K (.ref l) (.ref b) H Q :=
  .inr (.inr (.inl ⟨l, b, xs, zs, rfl, rfl, h1, h2, c, by rw [e]; exact h.2⟩))
theorem s_listO {p : Addr} {ys : List V} (h1 : SqL K H p ys) (h : newO (.lst ys) 0 H Q) : rListX K [.ref p] H Q := ⟨p, ys, rfl, .inl h1, h.2⟩
theorem s_listT {p : Addr} {ys : List V} (h1 : SqT K H p ys) (h : newO (.lst ys) 0 H Q) : rListX K [.ref p] H Q := ⟨p, ys, rfl, .inr h1, h.2⟩
theorem s_tupL {p : Addr} {ys : List V} (h1 : SqL K H p ys) (h : newO (.tup ys) 0 H Q) : rTupX K [.ref p] H Q := ⟨p, ys, rfl, .inl ⟨h1, h.2⟩⟩
theorem s_tupT {p : Addr} {ys : List V} (h1 : SqT K H p ys) (h : Q (.ref p) H) : rTupX K [.ref p] H Q := ⟨p, ys, rfl, .inr ⟨h1, h⟩⟩
theorem s_slL {p : Addr} {xs ys : List V} {lo hi : Option Int} (h1 : SqL K H p xs) (e : cutV xs lo hi = ys) (h : newO (.lst ys) 0 H Q) : rSlX K (.ref p) lo hi H Q := .inl ⟨p, xs, rfl, h1, by rw [e]; exact h.2⟩
theorem s_CB {r : List V → Hp → VK → Prop} {tr : TA} (h : tr σ H fun vs H1 => r vs H1 Q) : tCB r tr σ H Q := h
theorem s_call {sp : Sp} {E : XK} {tr : TA} (h : tr σ H fun vs H1 => sp (vs ++ []) H1 Q E) : tCall sp [] E tr σ H Q := h
theorem s_int {i : Int} (h : Q (.int i) H) : rInt [.int i] H Q := .inl ⟨i, rfl, h⟩
theorem s_intB {b : Bool} (h : if b = true then Q (.int 1) H else Q (.int 0) H) : rInt [.bl b] H Q := .inr ⟨b, rfl, by cases b <;> exact h⟩
theorem s_abs {i : Int} (h : Q (.int (if i < 0 then -i else i)) H) : rAbs [.int i] H Q := ⟨i, rfl, h⟩
theorem s_max2 {i j : Int} (h : Q (.int (if j > i then j else i)) H) : rMax2 [.int i, .int j] H Q := ⟨i, j, rfl, h⟩
theorem s_min2 {i j : Int} (h : Q (.int (if j < i then j else i)) H) : rMin2 [.int i, .int j] H Q := ⟨i, j, rfl, h⟩
theorem s_lenL {p : Addr} {xs : List V} (h1 : SqL K H p xs) (h : Q (.int (xs.length : Nat)) H) : rLenX K [.ref p] H Q := ⟨_, _, rfl, .inl ⟨xs, h1, rfl⟩, h⟩
theorem s_lenT {p : Addr} {xs : List V} (h1 : SqT K H p xs) (h : Q (.int (xs.length : Nat)) H) : rLenX K [.ref p] H Q := ⟨_, _, rfl, .inr ⟨xs, h1, rfl⟩, h⟩
theorem s_isi {c : V} {ty un : Value} {b : Bool} (k : ClsV c un) (h1 : TyX K H v ty) (e : PySem.W.kitOne K ty un = some b) (h : Q (.bl b) H) : rIsiX K [v, c] H Q := .inl ⟨v, c, ty, un, b, rfl, k, h1, e, h⟩
theorem s_isT {a b : String} (h1 : TyX K H v (.type a)) (e : kitB a b = some true) (h : Q (.bl true) H) : rIsiX K [v, .ty b] H Q := .inl ⟨v, _, _, _, _, rfl, .ty b, h1, kit_ty e, h⟩
theorem s_isF {a b : String} (h1 : TyX K H v (.type a)) (e : kitB a b = some false) (h : Q (.bl false) H) : rIsiX K [v, .ty b] H Q := .inl ⟨v, _, _, _, _, rfl, .ty b, h1, kit_ty e, h⟩
-- statements
variable {n b c : L2.St → Hp → Prop} {r : VK}
theorem s_seq (h : t ⟨u ⟨n, r, b, c⟩, r, b, c⟩ σ H) : tSeq t u ⟨n, r, b, c⟩ σ H := h
theorem s_next (h : n σ H) : tNext ⟨n, r, b, c⟩ σ H := h
theorem s_break (h : b σ H) : tBreak ⟨n, r, b, c⟩ σ H := h
theorem s_cont (h : c σ H) : tCont ⟨n, r, b, c⟩ σ H := h
theorem s_drop (h : ta σ H fun _ H1 => n σ H1) : tDrop ta ⟨n, r, b, c⟩ σ H := h
theorem s_ret (h : ta σ H r) : tRet ta ⟨n, r, b, c⟩ σ H := h
theorem s_retN (h : r .non H) : tRetN ⟨n, r, b, c⟩ σ H := h
theorem s_ifS (h : tc σ H fun q H1 => if q = true then t ⟨n, r, b, c⟩ σ H1 else u ⟨n, r, b, c⟩ σ H1) : tIfS tc t u ⟨n, r, b, c⟩ σ H := h
theorem s_asg {g : TG} (h : ta σ H fun x H1 => g x σ H1 n) : tAsg ta g ⟨n, r, b, c⟩ σ H := h
theorem s_gname {i : Nat} {S : L2.St → Hp → Prop} (e : σ.set i (some v) = σ') (h : S σ' H) : gName i v σ H S := by
  show S (σ.set i (some v)) H
  rw [e]; exact h
theorem s_gsub {S : L2.St → Hp → Prop} {ts : TSet} (h : ta σ H fun o H1 => tb σ H1 fun i H2 => ts o i v H2 fun H3 => S σ H3) : gSub ta tb ts v σ H S := h
theorem s_fld {f : Str} (h : ta σ H fun x H1 => fldO K f x H1 Q) : tFld K ta f σ H Q := h
theorem s_sfld {f : Str} (h : tb σ H fun y H1 => ta σ H1 fun x H2 => sfldO K f y x H2 fun H3 => n σ H3) : sFld K ta tb f ⟨n, r, b, c⟩ σ H := h
end
/-- an attribute as a target -/
def gAttr (K : PySem.W.Frag) (to : TE) (f : Str) : TG := fun v σ H S => to σ H fun x H1 => sfldO K f v x H1 fun H2 => S σ H2
theorem pg_attr {X : Cx} {o : Expr} {f : Str} {pos : Pos} {to : TE} (ho : PE X o to) : PG X (.Attribute o f pos) (gAttr X.K to f) := by
  refine ⟨fun pins s σ H v u S I r h => ?_⟩
  rw [assign_Attribute]
  refine wpAny_bind (wpAny_holding (thn (ho.run pins s σ H _ I h) fun ov s1 ⟨x, H1, I1, r1, q1⟩ => ?_))
  obtain ⟨a, C, dx, fs, rfl, e, c, l, hl, q⟩ := q1
  obtain rfl : ov = .ref a := r1
  exact wpAny_bind (wpAny_standAt (wpAny_bind (wpAny_holding (setattr_ok I1 e c l hl r fun s2 I2 => wpAny_release ⟨σ, _, I2, q⟩))))
/-- a built-in type's method, behind its object -/
def bm0O (K : PySem.W.Frag) (T : String) (r : V → List V → Hp → VK → Prop) (x : V) (H : Hp) (Q : VK) : Prop := tyV K T x H ∧ r x [] H Q
def bmO (K : PySem.W.Frag) (T : String) (r : V → List V → Hp → VK → Prop) (t : TA) (σ : L2.St) (x : V) (H : Hp) (Q : VK) : Prop := tyV K T x H ∧ t σ H fun xs H2 => r x xs H2 Q
section
variable {σ : L2.St} {H : Hp} {K : PySem.W.Frag} {to : TE} {Q : VK} {S : L2.St → Hp → Prop} {t : TA} {ts : TGs} {tg : TG} {v : V}
theorem s_gattr {f : Str} (h : to σ H fun x H1 => sfldO K f v x H1 fun H2 => S σ H2) : gAttr K to f v σ H S := h
theorem s_gtup {n : Nat} {a : Addr} {xs : List V} (h : SqT K H a xs) (l : xs.length = n) (q : ts xs σ H S) : gTup K n ts (.ref a) σ H S := ⟨a, xs, rfl, h, l, q⟩
theorem s_gcons {r : List V} (h : tg v σ H fun σ' H' => ts r σ' H' S) : gCons tg ts (v :: r) σ H S := ⟨v, r, rfl, h⟩
theorem s_gnil (h : S σ H) : gNil [] σ H S := ⟨rfl, h⟩
theorem s_bm0 {T : String} {r : V → List V → Hp → VK → Prop} (h : to σ H fun x H1 => bm0O K T r x H1 Q) : tBM0 K T r to σ H Q := h
theorem s_bm {T : String} {r : V → List V → Hp → VK → Prop} (h : to σ H fun x H1 => bmO K T r t σ x H1 Q) : tBM K T r to t σ H Q := h
theorem s_bmL {r : V → List V → Hp → VK → Prop} {l : Addr} {xs : List V} (h : SqL K H l xs) (q : t σ H fun xs H2 => r (.ref l) xs H2 Q) : bmO K "list" r t σ (.ref l) H Q := ⟨.inl ⟨rfl, _, h⟩, q⟩
theorem s_methO {C a dx : Addr} {m : Str} {sp : Sp} {E : XK} {fs : List (Str × V)} (h : H a = some (.ins C dx fs)) (l : fs.lookup m = none) (q : t σ H fun vs H2 => sp (.ref a :: (vs ++ [])) H2 Q E) : methO C m sp E t σ (.ref a) H Q := ⟨a, dx, fs, rfl, h, l, q⟩
theorem s_propO {C a dx : Addr} {sp : Sp} {E : XK} {fs : List (Str × V)} (h : H a = some (.ins C dx fs)) (q : sp ([.ref a] ++ []) H Q E) : propO C sp E (.ref a) H Q := ⟨a, dx, fs, rfl, h, q⟩
theorem pf_set {f : Str} {fs fs' : List (Str × V)} (i : Nat) (h : putF f v fs = fs.set i (f, v)) (e : fs.set i (f, v) = fs') : putF f v fs = fs' := h.trans e
theorem pf_new {f : Str} {fs fs' : List (Str × V)} (h : putF f v fs = fs ++ [(f, v)]) (e : fs ++ [(f, v)] = fs') : putF f v fs = fs' := h.trans e
end
/-! ### what is done to the ledger -/
section
variable {A : List Addr} {H0 H : Hp} {L L' : List Cell} {Q : VK} {P : Hp → Prop} {v : V}
theorem h_new {o : HO} {n : Nat} (S : SH A H0 H L) (c : n ≤ sizeLine) (h : ∀ p H', SH A H0 H' ((p, o) :: L) → H p = none → Q (.ref p) H') : newO o n H Q := ⟨c, fun p hp => h p _ (S.new o hp) hp⟩
theorem h_fld {K : PySem.W.Frag} {a C dx : Addr} {fs : List (Str × V)} {f : Str} (S : SH A H0 H L) (h1 : H a = some (.ins C dx fs)) (cl : Cls K C) (na : NoAttr K C f) (e : fs.lookup f = some v) (h : Q v H) : fldO K f (.ref a) H Q := ⟨a, C, dx, fs, v, rfl, h1, cl, na, e, h⟩
theorem h_sfld {i : Nat} {K : PySem.W.Frag} {a C dx : Addr} {fs fs' : List (Str × V)} {f : Str} (S : SH A H0 H L) (h1 : L[i]? = some (a, .ins C dx fs)) (cl : Cls K C) (na : NoAttr K C f) (l : fs.length < 1000) (e : putF f v fs = fs') (eL : L.set i (a, .ins C dx fs') = L')
    (h : ∀ H', SH A H0 H' L' → P H') : sfldO K f v (.ref a) H P := ⟨a, C, dx, fs, rfl, S.get i h1, cl, na, l, by rw [e]; exact h _ (eL ▸ S.set i h1 rfl _)⟩
theorem h_upd {i : Nat} {a : Addr} {o o' : HO} (S : SH A H0 H L) (e : L[i]? = some (a, o)) (im : Imm o = false) (eL : L.set i (a, o') = L') (h : ∀ H', SH A H0 H' L' → P H') : P (upd H a o') := h _ (eL ▸ S.set i e im o')
theorem h_setL {i : Nat} {a : Addr} {xs ys : List V} {k : Int} {j : Nat} (S : SH A H0 H L) (e : L[i]? = some (a, .lst xs)) (ej : ixN xs.length k = some j) (ey : xs.set j v = ys) (eL : L.set i (a, .lst ys) = L')
    (h : ∀ H', SH A H0 H' L' → P H') : rSetL (.ref a) (.int k) v H P := ⟨a, xs, k, j, rfl, rfl, S.get i e, ej, by rw [ey]; exact h _ (eL ▸ S.set i e rfl _)⟩
theorem h_append {i : Nat} {a : Addr} {xs ys : List V} (S : SH A H0 H L) (e : L[i]? = some (a, .lst xs)) (c : xs.length < sizeLine) (ey : xs ++ [v] = ys) (eL : L.set i (a, .lst ys) = L')
    (h : ∀ H', SH A H0 H' L' → Q .non H') : rAppend (.ref a) [v] H Q := ⟨a, xs, v, rfl, rfl, S.get i e, c, by rw [ey]; exact h _ (eL ▸ S.set i e rfl _)⟩
theorem h_pop {i : Nat} {K : PySem.W.Frag} {a : Addr} {xs ys : List V} (S : SH A H0 H L) (e : L[i]? = some (a, .lst xs)) (ev : xs[xs.length - 1]? = some v) (ey : xs.dropLast = ys) (eL : L.set i (a, .lst ys) = L')
    (h : ∀ H', SH A H0 H' L' → Q v H') : bm0O K "list" rPop (.ref a) H Q := ⟨.inl ⟨rfl, _, SqL.of (S.get i e)⟩, a, xs, v, rfl, rfl, S.get i e, ev, by rw [ey]; exact h _ (eL ▸ S.set i e rfl _)⟩
theorem h_make {C : Addr} {sp : Sp} {E : XK} {vs : List V} (S : SH A H0 H L) (h : ∀ x dx H1, SH A H0 H1 ((x, .ins C dx []) :: L) → sp (.ref x :: (vs ++ [])) H1 (fun v H2 => v = .non ∧ Q (.ref x) H2) E) : makeO C sp E vs H Q := fun x dx hx hd ne => by
  have S1 := S.new (.own x) hd
  have S2 := S1.new (p := x) (.ins C dx []) (by rw [upd_ne (Ne.symm ne)]; exact hx)
  exact h x dx _ (S2.sub (List.Sublist.cons_cons _ (List.sublist_cons_self _ _)))
theorem atI_lit {xs : List V} {i : Int} {w : V} (k : Nat) (e : i = (k : Int)) (h : xs[k]? = some w) : atI xs i = some w := by
  subst e
  exact atI_nat h
theorem last_snoc (l : List V) (v : V) : (l ++ [v])[(l ++ [v]).length - 1]? = some v := by simp
theorem ixN_in {n : Nat} {i : Int} (h0 : 0 ≤ i) (h1 : i < n) : ixN n i = some i.toNat := by
  unfold ixN
  rw [if_pos h0, if_pos h1]
theorem ixN_lit {n : Nat} {i : Int} (k : Nat) (e : i = (k : Int)) (h : k < n) : ixN n i = some k := by
  subst e
  rw [ixN_in (by omega) (by omega)]
  rfl
end
/-! ### loops -/
def loopI (J : It) (g : TG) (tb : TS) (D : Ends) (σ : L2.St) (H : Hp) : Prop := ∃ W : Nat → Nat → L2.St → Hp → Prop, (∃ m, W 0 m σ H) ∧ ∀ i m σ H, W i m σ H →
  (J.stop i H ∧ D.nx σ H) ∨ (J.go i H ∧ ∃ N : L2.St → Hp → Prop, (∀ σ' H', N σ' H' → ∃ m', m' < m ∧ W (i + 1) m' σ' H') ∧ ∀ x H', J.yld i H x H' → g x σ H' fun σ2 H2 => tb { D with nx := N, ct := N, bk := D.nx } σ2 H2)
def forR1 (vs : List V) (g : TG) (tb : TS) (D : Ends) (σ : L2.St) (H : Hp) : Prop := ∃ j : Int, vs = [.int j] ∧ -(2 ^ 62) ≤ j ∧ j < 2 ^ 62 ∧ loopI (Itr 0 j.toNat) g tb D σ H
def forR2 (vs : List V) (g : TG) (tb : TS) (D : Ends) (σ : L2.St) (H : Hp) : Prop := ∃ i j : Int, vs = [.int i, .int j] ∧ (-(2 ^ 62) ≤ i ∧ i < 2 ^ 62 ∧ -(2 ^ 62) ≤ j ∧ j < 2 ^ 62) ∧ loopI (Itr i (j - i).toNat) g tb D σ H
def forL (K : PySem.W.Frag) (v : V) (g : TG) (tb : TS) (D : Ends) (σ : L2.St) (H : Hp) : Prop := ∃ a, v = .ref a ∧ (∃ xs, SqL K H a xs) ∧ loopI (Itl K a) g tb D σ H
def forT (K : PySem.W.Frag) (v : V) (g : TG) (tb : TS) (D : Ends) (σ : L2.St) (H : Hp) : Prop := ∃ a, v = .ref a ∧ (∃ xs, SqT K H a xs) ∧ loopI (Itt K a) g tb D σ H
section
variable {σ : L2.St} {H : Hp} {K : PySem.W.Frag} {g : TG} {tb : TS} {ta : TA} {te : TE} {D : Ends} {n b c : L2.St → Hp → Prop} {r : VK}
theorem s_forR1 (h : ta σ H fun vs H1 => forR1 vs g tb D σ H1) : tFor (iRng1 ta) g tb D σ H := h
theorem s_forR2 (h : ta σ H fun vs H1 => forR2 vs g tb D σ H1) : tFor (iRng2 ta) g tb D σ H := h
theorem s_forL (h : te σ H fun v H1 => forL K v g tb D σ H1) : tFor (iList K te) g tb D σ H := h
theorem s_forT (h : te σ H fun v H1 => forT K v g tb D σ H1) : tFor (iTup K te) g tb D σ H := h
/-- for i in range(j), an invariant over the turn -/
theorem u_forR1 {j : Int} (Pv : Nat → L2.St → Hp → Prop) (lo : -(2 ^ 62) ≤ j) (hi : j < 2 ^ 62) (h0 : Pv 0 σ H)
    (hs : ∀ (i : Nat) σ H, (i : Int) < j → Pv i σ H → g (.int i) σ H fun σ2 H2 => tb ⟨Pv (i + 1), r, n, Pv (i + 1)⟩ σ2 H2) (hd : ∀ σ H, Pv j.toNat σ H → n σ H) : forR1 [.int j] g tb ⟨n, r, b, c⟩ σ H := by
  refine ⟨j, rfl, lo, hi, ?_⟩
  refine for_range Pv h0 (fun i σ H hi p => ?_) hd
  rw [show (0 : Int) + (i : Int) = (i : Int) by omega]
  exact hs i σ H (by omega) p
theorem u_forR2 {l j : Int} (Pv : Nat → L2.St → Hp → Prop) (hb : -(2 ^ 62) ≤ l ∧ l < 2 ^ 62 ∧ -(2 ^ 62) ≤ j ∧ j < 2 ^ 62) (h0 : Pv 0 σ H)
    (hs : ∀ (i : Nat) σ H, l + (i : Int) < j → Pv i σ H → g (.int (l + i)) σ H fun σ2 H2 => tb ⟨Pv (i + 1), r, n, Pv (i + 1)⟩ σ2 H2) (hd : ∀ σ H, Pv (j - l).toNat σ H → n σ H) : forR2 [.int l, .int j] g tb ⟨n, r, b, c⟩ σ H := by
  refine ⟨l, j, rfl, hb, ?_⟩
  refine for_range Pv h0 (fun i σ H hi p => ?_) hd
  exact hs i σ H (by omega) p
/-- for x in a list that stays as it is -/
theorem u_forL {a : Addr} {xs : List V} (Pv : Nat → L2.St → Hp → Prop) (h : SqL K H a xs) (h0 : Pv 0 σ H) (hl : ∀ i σ H, i ≤ xs.length → Pv i σ H → SqL K H a xs)
    (hs : ∀ (i : Nat) (x : V) σ H, xs[i]? = some x → Pv i σ H → g x σ H fun σ2 H2 => tb ⟨Pv (i + 1), r, n, Pv (i + 1)⟩ σ2 H2) (hd : ∀ σ H, Pv xs.length σ H → n σ H) : forL K (.ref a) g tb ⟨n, r, b, c⟩ σ H :=
  ⟨a, rfl, ⟨xs, h⟩, for_list Pv h0 hl (fun i x σ H e p => hs i x σ H e p) hd⟩
end
/-! ### tests decided -/
section
variable {A B : Prop}
theorem i_dec {p : Prop} [Decidable p] (h1 : p → A) (h2 : ¬ p → B) : if decide p = true then A else B := by
  by_cases h : p
  · rw [if_pos (decide_eq_true h)]; exact h1 h
  · rw [if_neg (by rw [decide_eq_false h]; exact Bool.false_ne_true)]; exact h2 h
theorem i_not {x : Bool} (h : if x = true then B else A) : if (!x) = true then A else B := by
  cases x
  · exact h
  · exact h
theorem i_gen {x : Bool} (h1 : x = true → A) (h2 : x = false → B) : if x = true then A else B := by
  cases x
  · exact h2 rfl
  · exact h1 rfl
theorem i_pos {x : Bool} (e : x = true) (h : A) : if x = true then A else B := by rw [if_pos e]; exact h
theorem i_neg {x : Bool} (e : x = false) (h : B) : if x = true then A else B := by rw [if_neg (by rw [e]; exact Bool.false_ne_true)]; exact h
end
end Q

namespace Law
open PySem L2 Q
/-! words: one step; arithmetic; a heap fact; a sequence -/
set_option hygiene false
local macro_rules | `(tactic| walk_at "ar") => `(tactic| first | assumption | omega | decide | (constructor <;> omega) | (simp only [List.length_cons, List.length_nil, List.length_append, List.length_map, List.length_replicate, List.length_set] at *; omega))
local macro_rules | `(tactic| walk_at "sz") => `(tactic| first | exact Nat.le_of_ble_eq_true rfl | (rw [sizeLine_eq]; first | omega | (simp only [List.length_cons, List.length_nil, List.length_append, List.length_map, List.length_replicate, List.length_set]; omega)))
local macro_rules | `(tactic| walk_at "ix") => `(tactic| first | exact (rfl : (_ : List Cell)[0]? = _) | exact (rfl : (_ : List Cell)[1]? = _) | exact (rfl : (_ : List Cell)[2]? = _) | exact (rfl : (_ : List Cell)[3]? = _) | exact (rfl : (_ : List Cell)[4]? = _) | exact (rfl : (_ : List Cell)[5]? = _) | exact (rfl : (_ : List Cell)[6]? = _) | exact (rfl : (_ : List Cell)[7]? = _) | exact (rfl : (_ : List Cell)[8]? = _) | exact (rfl : (_ : List Cell)[9]? = _) | exact (rfl : (_ : List Cell)[10]? = _) | exact (rfl : (_ : List Cell)[11]? = _) | exact (rfl : (_ : List Cell)[12]? = _) | exact (rfl : (_ : List Cell)[13]? = _) | exact (rfl : (_ : List Cell)[14]? = _) | exact (rfl : (_ : List Cell)[15]? = _) | exact (rfl : (_ : List Cell)[16]? = _) | exact (rfl : (_ : List Cell)[17]? = _) | exact (rfl : (_ : List Cell)[18]? = _) | exact (rfl : (_ : List Cell)[19]? = _))
local macro_rules | `(tactic| walk_at "hp") => `(tactic| first | assumption | exact hS.get 0 rfl | exact hS.get 1 rfl | exact hS.get 2 rfl | exact hS.get 3 rfl | exact hS.get 4 rfl | exact hS.get 5 rfl | exact hS.get 6 rfl | exact hS.get 7 rfl | exact hS.get 8 rfl | exact hS.get 9 rfl | exact hS.get 10 rfl | exact hS.get 11 rfl | exact hS.get 12 rfl | exact hS.get 13 rfl | exact hS.get 14 rfl | exact hS.get 15 rfl | exact hS.ro (by assumption) | exact hS.imm (by assumption) rfl)
local macro_rules | `(tactic| walk_at "sq") => `(tactic| first | exact SqL.of (by walk_at "hp") | exact SqT.of (by walk_at "hp") | exact Scr.sq (Scr.keep (by assumption) hS.kp) | assumption)
local macro_rules | `(tactic| walk_at "lit") => `(tactic| first | exact atI_lit 0 (by omega) rfl | exact atI_lit 1 (by omega) rfl | exact atI_lit 2 (by omega) rfl | exact atI_lit 3 (by omega) rfl | exact atI_lit 4 (by omega) rfl | exact atI_lit 5 (by omega) rfl | exact atI_lit 6 (by omega) rfl | exact atI_lit 7 (by omega) rfl)
local macro_rules | `(tactic| walk_at "at") => `(tactic| first | exact rfl | exact atI_ints (by walk_at "ar") (by walk_at "ar") | walk_at "lit" | exact atI_ilit (by walk_at "ar") (by walk_at "ar") rfl | exact atI_in (by walk_at "ar") (by walk_at "ar"))
local macro_rules | `(tactic| walk_at "ij") => `(tactic| first | exact rfl | exact ixN_in (by walk_at "ar") (by walk_at "ar"))
local macro_rules | `(tactic| walk_at "ls") => `(tactic| first | ((try simp only [List.set_cons_zero, List.set_cons_succ, set_ints]); exact rfl))
local macro_rules | `(tactic| walk_at "sl") => `(tactic| repeat (first | exact List.Sublist.refl _ | refine List.Sublist.cons_cons _ ?_ | refine List.Sublist.cons _ ?_))
local macro_rules | `(tactic| walk_at "cl") => `(tactic| assumption)
local macro_rules | `(tactic| walk_at "na") => `(tactic| assumption)
local macro_rules | `(tactic| walk_at "pf") => `(tactic| first
  | (apply pf_new; (· exact rfl); (· (simp only [List.cons_append, List.nil_append]; exact rfl)))
  | (apply pf_set 0; (· exact rfl); (· walk_at "ls")) | (apply pf_set 1; (· exact rfl); (· walk_at "ls")) | (apply pf_set 2; (· exact rfl); (· walk_at "ls")) | (apply pf_set 3; (· exact rfl); (· walk_at "ls"))
  | (apply pf_set 4; (· exact rfl); (· walk_at "ls")) | (apply pf_set 5; (· exact rfl); (· walk_at "ls")) | (apply pf_set 6; (· exact rfl); (· walk_at "ls")) | (apply pf_set 7; (· exact rfl); (· walk_at "ls")))
local macro_rules | `(tactic| walk_at "nw") => `(tactic| (clear hS; rename SH _ _ _ _ => hS))
local macro_rules | `(tactic| walk_at "pv") => `(tactic| first | exact rfl | exact last_snoc _ _ | assumption)
local macro_rules | `(tactic| walk_at "dl") => `(tactic| first | (simp only [List.dropLast_concat]; exact rfl) | exact rfl)
local macro_rules | `(tactic| walk_at "tri") => `(tactic| first | rfl | decide | (exfalso; omega))
local macro_rules | `(tactic| walk_at "ty") => `(tactic| first | exact .base .non | exact .base (.bl _) | exact .base (.int _) | exact .base (.str _) | exact .base (.lst (by walk_at "hp")) | exact .base (.tup (by walk_at "hp")) | exact .base (.dK (by walk_at "hp")))
local macro_rules | `(tactic| walk_at "st") => `(tactic| first
  | (with_reducible refine s_seq ?_)
  | ((with_reducible show tVar _ _ _ _); refine s_var rfl ?_)
  | (with_reducible refine s_C ?_)
  | (with_reducible refine s_op ?_)
  | (with_reducible refine s_asg ?_)
  | ((with_reducible apply s_gname); (· walk_at "ls"))
  | (with_reducible refine s_gsub ?_)
  | (with_reducible refine s_ifS ?_)
  | (with_reducible refine s_next ?_)
  | (with_reducible refine s_ret ?_)
  | (with_reducible refine s_retN ?_)
  | (with_reducible refine s_drop ?_)
  | (with_reducible refine s_test ?_)
  | (with_reducible refine s_tB ?_)
  | (with_reducible refine s_bl ?_)
  | ((with_reducible apply s_ixL); (· walk_at "sq"); (· walk_at "at"))
  | ((with_reducible apply s_ixT); (· walk_at "sq"); (· walk_at "at"))
  | (with_reducible refine s_addI ?_)
  | (with_reducible refine s_rI0 ?_)
  | ((with_reducible apply s_inT0); (· walk_at "sq"); (· rfl); (· rfl))
  | ((with_reducible apply s_inL0); (· walk_at "sq"); (· rfl); (· rfl))
  | ((with_reducible apply s_niT0); (· walk_at "sq"); (· rfl); (· rfl))
  | ((with_reducible apply s_niL0); (· walk_at "sq"); (· rfl); (· rfl))
  | ((with_reducible refine s_mulR ?_ ?_); (· walk_at "ar"))
  | ((with_reducible refine s_mulL ?_ ?_); (· walk_at "ar"))
  | ((with_reducible refine s_mod ?_ ?_); (· walk_at "ar"))
  | ((with_reducible refine s_div ?_ ?_ ?_); (· walk_at "ar"); (· walk_at "ar"))
  | (with_reducible refine s_int ?_)
  | (with_reducible refine s_intB ?_)
  | (with_reducible refine s_CB ?_)
  | (with_reducible refine s_cons ?_)
  | (with_reducible refine s_nil ?_)
  | (with_reducible refine s_call ?_)
  | (with_reducible refine s_un ?_)
  | (with_reducible refine s_rU ?_)
  | ((with_reducible apply s_lenL); (· walk_at "sq"))
  | ((with_reducible apply s_lenT); (· walk_at "sq"))
  | (with_reducible refine s_eqI ?_)
  | (with_reducible refine s_neI ?_)
  | (with_reducible refine s_eqS ?_)
  | (with_reducible refine s_neS ?_)
  | (with_reducible refine s_eqB ?_)
  | (with_reducible refine s_neB ?_)
  | (with_reducible refine s_isN ?_)
  | (with_reducible refine s_isNotN ?_)
  | (with_reducible refine s_isB ?_)
  | (with_reducible refine s_isNotB ?_)
  | ((with_reducible apply s_isT); (· walk_at "ty"); (· decide +kernel))
  | ((with_reducible apply s_isF); (· walk_at "ty"); (· decide +kernel))
  | (with_reducible refine s_forR1 ?_)
  | (with_reducible refine s_forR2 ?_)
  | (with_reducible refine s_forL ?_)
  | (with_reducible refine s_forT ?_)
  | (with_reducible refine s_and ?_)
  | (with_reducible refine s_or ?_)
  | (with_reducible refine s_not ?_)
  | (with_reducible refine s_andV ?_)
  | (with_reducible refine s_orV ?_)
  | (with_reducible refine s_notV ?_)
  | (with_reducible refine s_if ?_)
  | (with_reducible refine s_chain ?_)
  | (with_reducible refine s_tup ?_)
  | (with_reducible refine s_lst ?_)
  | ((with_reducible apply s_pow); (· exact ⟨by decide, by decide, by decide⟩); (· (simp only [Int.reduceToNat, Int.reducePow]; exact rfl)))
  | (with_reducible refine s_fld ?_)
  | ((with_reducible apply h_fld hS); (· walk_at "hp"); (· walk_at "cl"); (· walk_at "na"); (· exact rfl))
  | (with_reducible refine s_sfld ?_)
  | (with_reducible refine s_gattr ?_)
  | ((with_reducible apply s_gtup); (· walk_at "sq"); (· exact rfl))
  | (with_reducible refine s_gcons ?_)
  | (with_reducible refine s_gnil ?_)
  | (with_reducible refine s_bm0 ?_)
  | (with_reducible refine s_bm ?_)
  | ((with_reducible apply s_bmL); (· walk_at "sq"))
  | ((with_reducible apply s_methO); (· walk_at "hp"); (· exact rfl))
  | ((with_reducible apply s_propO); (· walk_at "hp"))
  | (with_reducible refine h_make hS (fun x dx H1 hS1 => ?_); walk_at "nw")
  | (with_reducible refine s_abs ?_)
  | (with_reducible refine s_max2 ?_)
  | (with_reducible refine s_min2 ?_)
  | ((with_reducible refine h_new hS ?_ (fun p H1 hS1 hp => ?_)); (· walk_at "sz"); clear hS; rename SH _ _ _ _ => hS)
  | ((with_reducible apply s_rep1); (· walk_at "hp"); (· walk_at "ar"); (· first | (simp only [Int.reduceToNat]; exact rfl) | exact rfl))
  | ((with_reducible apply s_rep); (· walk_at "hp"); (· walk_at "ar"); (· walk_at "sz"); (· exact rfl))
  | ((with_reducible apply s_cat); (· walk_at "hp"); (· walk_at "hp"); (· walk_at "sz"); (· exact rfl))
  | ((with_reducible apply s_listO); (· walk_at "sq"))
  | ((with_reducible apply s_listT); (· walk_at "sq"))
  | ((with_reducible apply s_tupL); (· walk_at "sq"))
  | ((with_reducible apply s_tupT); (· walk_at "sq"))
  | ((with_reducible apply h_setL hS); (· walk_at "ix"); (· walk_at "ij"); (· walk_at "ls"); (· walk_at "ls"); intro H1 hS1; clear hS; rename SH _ _ _ _ => hS)
  | ((with_reducible apply h_sfld hS); (· walk_at "ix"); (· walk_at "cl"); (· walk_at "na"); (· exact Nat.le_of_ble_eq_true rfl); (· walk_at "pf"); (· walk_at "ls"); intro H1 hS1; walk_at "nw")
  | ((with_reducible apply h_append hS); (· walk_at "ix"); (· walk_at "sz"); (· first | exact rfl); (· walk_at "ls"); intro H1 hS1; walk_at "nw")
  | ((with_reducible apply h_pop hS); (· walk_at "ix"); (· walk_at "pv"); (· walk_at "dl"); (· walk_at "ls"); intro H1 hS1; walk_at "nw")
  | (with_reducible refine i_not ?_)
  | ((with_reducible refine i_pos ?_ ?_); (· first | rfl | decide | exact decide_eq_true (by omega)))
  | ((with_reducible refine i_neg ?_ ?_); (· first | rfl | decide | exact decide_eq_false (by omega)))
  | (with_reducible refine i_dec (fun hc => ?_) (fun hc => ?_))
  | (with_reducible refine i_gen (fun hc => ?_) (fun hc => ?_)))
def top (i : Nat) : Stmt := PySem.Challenge.pw_windowada_k66_tower.main.body.getD i (.Pass ⟨0, 0, 0, 0⟩)
abbrev s_Tower_init__ : Stmt := inClass (top 1) 0
abbrev s_Tower_group : Stmt := inClass (top 1) 1
abbrev s_Tower_read : Stmt := inClass (top 1) 2
abbrev s_Tower_write : Stmt := inClass (top 1) 3
abbrev s_Tower_blocked_down : Stmt := inClass (top 1) 4
abbrev s_Tower_blocked_up : Stmt := inClass (top 1) 5
abbrev s_Tower_shift_down : Stmt := inClass (top 1) 6
abbrev s_Tower_shift_up : Stmt := inClass (top 1) 7
abbrev s_z_pick : Stmt := top 3
abbrev s_z_is_integer : Stmt := top 4
abbrev s_z_word : Stmt := top 5
abbrev s_z_fresh : Stmt := top 6
abbrev s_z_find : Stmt := top 7
abbrev s_z_get : Stmt := top 8
abbrev s_z_set : Stmt := top 9
abbrev s_z_down : Stmt := top 10
abbrev s_z_up : Stmt := top 11
abbrev s_z_reads : Stmt := top 12
abbrev s_z_deed : Stmt := top 13
abbrev s_law : Stmt := top 14
abbrev N_Tower_init__ : List Str := ["self"]
theorem st_Tower_init__ (a0 : V) : L2.start N_Tower_init__ [a0] = [some a0] := rfl
theorem sc_Tower_init__ : FnScope N_Tower_init__ ["self"] (defScope s_Tower_init__) := ⟨rfl, rfl, rfl, by decide +kernel, rfl, by decide +kernel, by decide +kernel⟩
abbrev N_Tower_group : List Str := ["self", "number"]
theorem st_Tower_group (a0 a1 : V) : L2.start N_Tower_group [a0, a1] = [some a0, some a1] := rfl
theorem sc_Tower_group : FnScope N_Tower_group ["self", "number"] (defScope s_Tower_group) := ⟨rfl, rfl, rfl, by decide +kernel, rfl, by decide +kernel, by decide +kernel⟩
abbrev N_Tower_read : List Str := ["self", "number"]
theorem st_Tower_read (a0 a1 : V) : L2.start N_Tower_read [a0, a1] = [some a0, some a1] := rfl
theorem sc_Tower_read : FnScope N_Tower_read ["self", "number"] (defScope s_Tower_read) := ⟨rfl, rfl, rfl, by decide +kernel, rfl, by decide +kernel, by decide +kernel⟩
abbrev N_Tower_write : List Str := ["self", "number", "word", "group"]
theorem st_Tower_write (a0 a1 a2 : V) : L2.start N_Tower_write [a0, a1, a2] = [some a0, some a1, some a2, none] := rfl
theorem sc_Tower_write : FnScope N_Tower_write ["self", "number", "word"] (defScope s_Tower_write) := ⟨rfl, rfl, rfl, by decide +kernel, rfl, by decide +kernel, by decide +kernel⟩
abbrev N_Tower_blocked_down : List Str := ["self"]
theorem st_Tower_blocked_down (a0 : V) : L2.start N_Tower_blocked_down [a0] = [some a0] := rfl
theorem sc_Tower_blocked_down : FnScope N_Tower_blocked_down ["self"] (defScope s_Tower_blocked_down) := ⟨rfl, rfl, rfl, by decide +kernel, rfl, by decide +kernel, by decide +kernel⟩
abbrev N_Tower_blocked_up : List Str := ["self"]
theorem st_Tower_blocked_up (a0 : V) : L2.start N_Tower_blocked_up [a0] = [some a0] := rfl
theorem sc_Tower_blocked_up : FnScope N_Tower_blocked_up ["self"] (defScope s_Tower_blocked_up) := ⟨rfl, rfl, rfl, by decide +kernel, rfl, by decide +kernel, by decide +kernel⟩
abbrev N_Tower_shift_down : List Str := ["self"]
theorem st_Tower_shift_down (a0 : V) : L2.start N_Tower_shift_down [a0] = [some a0] := rfl
theorem sc_Tower_shift_down : FnScope N_Tower_shift_down ["self"] (defScope s_Tower_shift_down) := ⟨rfl, rfl, rfl, by decide +kernel, rfl, by decide +kernel, by decide +kernel⟩
abbrev N_Tower_shift_up : List Str := ["self"]
theorem st_Tower_shift_up (a0 : V) : L2.start N_Tower_shift_up [a0] = [some a0] := rfl
theorem sc_Tower_shift_up : FnScope N_Tower_shift_up ["self"] (defScope s_Tower_shift_up) := ⟨rfl, rfl, rfl, by decide +kernel, rfl, by decide +kernel, by decide +kernel⟩
abbrev N_z_pick : List Str := ["_law_state", "_law_limit", "_law_digit", "_law_cell", "_law_mixed"]
theorem st_z_pick (a0 a1 : V) : L2.start N_z_pick [a0, a1] = [some a0, some a1, none, none, none] := rfl
theorem sc_z_pick : FnScope N_z_pick ["_law_state", "_law_limit"] (defScope s_z_pick) := ⟨rfl, rfl, rfl, by decide +kernel, rfl, by decide +kernel, by decide +kernel⟩
abbrev N_z_is_integer : List Str := ["_law_actual"]
theorem st_z_is_integer (a0 : V) : L2.start N_z_is_integer [a0] = [some a0] := rfl
theorem sc_z_is_integer : FnScope N_z_is_integer ["_law_actual"] (defScope s_z_is_integer) := ⟨rfl, rfl, rfl, by decide +kernel, rfl, by decide +kernel, by decide +kernel⟩
abbrev N_z_word : List Str := ["_law_state", "_law_choice"]
theorem st_z_word (a0 : V) : L2.start N_z_word [a0] = [some a0, none] := rfl
theorem sc_z_word : FnScope N_z_word ["_law_state"] (defScope s_z_word) := ⟨rfl, rfl, rfl, by decide +kernel, rfl, by decide +kernel, by decide +kernel⟩
abbrev N_z_fresh : List Str := []
theorem st_z_fresh : L2.start N_z_fresh [] = [] := rfl
theorem sc_z_fresh : FnScope N_z_fresh [] (defScope s_z_fresh) := ⟨rfl, rfl, rfl, by decide +kernel, rfl, by decide +kernel, by decide +kernel⟩
abbrev N_z_find : List Str := ["_law_model", "_law_number", "_law_last"]
theorem st_z_find (a0 a1 : V) : L2.start N_z_find [a0, a1] = [some a0, some a1, none] := rfl
theorem sc_z_find : FnScope N_z_find ["_law_model", "_law_number"] (defScope s_z_find) := ⟨rfl, rfl, rfl, by decide +kernel, rfl, by decide +kernel, by decide +kernel⟩
abbrev N_z_get : List Str := ["_law_model", "_law_number", "_law_found"]
theorem st_z_get (a0 a1 : V) : L2.start N_z_get [a0, a1] = [some a0, some a1, none] := rfl
theorem sc_z_get : FnScope N_z_get ["_law_model", "_law_number"] (defScope s_z_get) := ⟨rfl, rfl, rfl, by decide +kernel, rfl, by decide +kernel, by decide +kernel⟩
abbrev N_z_set : List Str := ["_law_model", "_law_number", "_law_word_here", "_law_found", "_law_group"]
theorem st_z_set (a0 a1 a2 : V) : L2.start N_z_set [a0, a1, a2] = [some a0, some a1, some a2, none, none] := rfl
theorem sc_z_set : FnScope N_z_set ["_law_model", "_law_number", "_law_word_here"] (defScope s_z_set) := ⟨rfl, rfl, rfl, by decide +kernel, rfl, by decide +kernel, by decide +kernel⟩
abbrev N_z_down : List Str := ["_law_model"]
theorem st_z_down (a0 : V) : L2.start N_z_down [a0] = [some a0] := rfl
theorem sc_z_down : FnScope N_z_down ["_law_model"] (defScope s_z_down) := ⟨rfl, rfl, rfl, by decide +kernel, rfl, by decide +kernel, by decide +kernel⟩
abbrev N_z_up : List Str := ["_law_model"]
theorem st_z_up (a0 : V) : L2.start N_z_up [a0] = [some a0] := rfl
theorem sc_z_up : FnScope N_z_up ["_law_model"] (defScope s_z_up) := ⟨rfl, rfl, rfl, by decide +kernel, rfl, by decide +kernel, by decide +kernel⟩
abbrev N_z_reads : List Str := ["_law_tower", "_law_model", "_law_number", "_law_word_here", "_law_counts"]
theorem st_z_reads (a0 a1 : V) : L2.start N_z_reads [a0, a1] = [some a0, some a1, none, none, none] := rfl
theorem sc_z_reads : FnScope N_z_reads ["_law_tower", "_law_model"] (defScope s_z_reads) := ⟨rfl, rfl, rfl, by decide +kernel, rfl, by decide +kernel, by decide +kernel⟩
abbrev N_z_deed : List Str := ["_law_state", "_law_tower", "_law_model", "_law_choice", "_law_number", "_law_word_here"]
theorem st_z_deed (a0 a1 a2 : V) : L2.start N_z_deed [a0, a1, a2] = [some a0, some a1, some a2, none, none, none] := rfl
theorem sc_z_deed : FnScope N_z_deed ["_law_state", "_law_tower", "_law_model"] (defScope s_z_deed) := ⟨rfl, rfl, rfl, by decide +kernel, rfl, by decide +kernel, by decide +kernel⟩
abbrev N_law : List Str := ["_law_script", "_law_state", "_law_towers", "_law_models", "_law_turn", "_law_k"]
theorem st_law (a0 : V) : L2.start N_law [a0] = [some a0, none, none, none, none, none] := rfl
theorem sc_law : FnScope N_law ["_law_script"] (defScope s_law) := ⟨rfl, rfl, rfl, by decide +kernel, rfl, by decide +kernel, by decide +kernel⟩
structure Env (K : PySem.W.Frag) (mg : Str → Option Value) : Prop where
  mg_z_pick : mg "_law_pick" = some (.ref (He.ga K "_law_pick"))
  mg_z_is_integer : mg "_law_is_integer" = some (.ref (He.ga K "_law_is_integer"))
  mg_z_word : mg "_law_word" = some (.ref (He.ga K "_law_word"))
  mg_z_fresh : mg "_law_fresh" = some (.ref (He.ga K "_law_fresh"))
  mg_z_find : mg "_law_find" = some (.ref (He.ga K "_law_find"))
  mg_z_get : mg "_law_get" = some (.ref (He.ga K "_law_get"))
  mg_z_set : mg "_law_set" = some (.ref (He.ga K "_law_set"))
  mg_z_down : mg "_law_down" = some (.ref (He.ga K "_law_down"))
  mg_z_up : mg "_law_up" = some (.ref (He.ga K "_law_up"))
  mg_z_reads : mg "_law_reads" = some (.ref (He.ga K "_law_reads"))
  mg_z_deed : mg "_law_deed" = some (.ref (He.ga K "_law_deed"))
  mg_law : mg "law" = some (.ref (He.ga K "law"))
  mg_Tower : mg "Tower" = some (.ref (He.ga K "Tower"))
  cl_Tower : Cls K (He.ga K "Tower")
  mk_Tower : Mk K (He.ga K "Tower") (He.ma K (He.ga K "Tower") "__init__")
  me_Tower_group : Meth K (He.ga K "Tower") "_group" (He.ma K (He.ga K "Tower") "_group")
  me_Tower_read : Meth K (He.ga K "Tower") "read" (He.ma K (He.ga K "Tower") "read")
  me_Tower_write : Meth K (He.ga K "Tower") "write" (He.ma K (He.ga K "Tower") "write")
  me_Tower_blocked_down : Meth K (He.ga K "Tower") "blocked_down" (He.ma K (He.ga K "Tower") "blocked_down")
  me_Tower_blocked_up : Meth K (He.ga K "Tower") "blocked_up" (He.ma K (He.ga K "Tower") "blocked_up")
  me_Tower_shift_down : Meth K (He.ga K "Tower") "shift_down" (He.ma K (He.ga K "Tower") "shift_down")
  me_Tower_shift_up : Meth K (He.ga K "Tower") "shift_up" (He.ma K (He.ga K "Tower") "shift_up")
  na_Tower_shared : NoAttr K (He.ga K "Tower") "_shared"
  na_Tower_outs : NoAttr K (He.ga K "Tower") "_outs"
  na_Tower_own : NoAttr K (He.ga K "Tower") "_own"
  na_Tower_ins : NoAttr K (He.ga K "Tower") "_ins"
  na_Tower_stack : NoAttr K (He.ga K "Tower") "_stack"
  na_Tower_depth : NoAttr K (He.ga K "Tower") "depth"
  na_Tower_spills : NoAttr K (He.ga K "Tower") "spills"
  na_Tower_fills : NoAttr K (He.ga K "Tower") "fills"
  z_bool : mg "bool" = none
  z_int : mg "int" = none
  z_isinstance : mg "isinstance" = none
  z_len : mg "len" = none
  z_range : mg "range" = none
  fd_Tower_init__ : ∃ fd, FunD K "__init__" "Tower.__init__" (defArgs s_Tower_init__) (defBody s_Tower_init__) (defScope s_Tower_init__) [] [] (He.fAd K ("Tower", some "__init__")) fd
  fd_Tower_group : ∃ fd, FunD K "_group" "Tower._group" (defArgs s_Tower_group) (defBody s_Tower_group) (defScope s_Tower_group) [] [] (He.fAd K ("Tower", some "_group")) fd
  fd_Tower_read : ∃ fd, FunD K "read" "Tower.read" (defArgs s_Tower_read) (defBody s_Tower_read) (defScope s_Tower_read) [] [] (He.fAd K ("Tower", some "read")) fd
  fd_Tower_write : ∃ fd, FunD K "write" "Tower.write" (defArgs s_Tower_write) (defBody s_Tower_write) (defScope s_Tower_write) [] [] (He.fAd K ("Tower", some "write")) fd
  fd_Tower_blocked_down : ∃ fd, FunD K "blocked_down" "Tower.blocked_down" (defArgs s_Tower_blocked_down) (defBody s_Tower_blocked_down) (defScope s_Tower_blocked_down) [] [] (He.fAd K ("Tower", some "blocked_down")) fd
  fd_Tower_blocked_up : ∃ fd, FunD K "blocked_up" "Tower.blocked_up" (defArgs s_Tower_blocked_up) (defBody s_Tower_blocked_up) (defScope s_Tower_blocked_up) [] [] (He.fAd K ("Tower", some "blocked_up")) fd
  fd_Tower_shift_down : ∃ fd, FunD K "shift_down" "Tower.shift_down" (defArgs s_Tower_shift_down) (defBody s_Tower_shift_down) (defScope s_Tower_shift_down) [] [] (He.fAd K ("Tower", some "shift_down")) fd
  fd_Tower_shift_up : ∃ fd, FunD K "shift_up" "Tower.shift_up" (defArgs s_Tower_shift_up) (defBody s_Tower_shift_up) (defScope s_Tower_shift_up) [] [] (He.fAd K ("Tower", some "shift_up")) fd
  fd_z_pick : ∃ fd, FunD K "_law_pick" "_law_pick" (defArgs s_z_pick) (defBody s_z_pick) (defScope s_z_pick) [] [] (He.fAd K ("_law_pick", none)) fd
  fd_z_is_integer : ∃ fd, FunD K "_law_is_integer" "_law_is_integer" (defArgs s_z_is_integer) (defBody s_z_is_integer) (defScope s_z_is_integer) [] [] (He.fAd K ("_law_is_integer", none)) fd
  fd_z_word : ∃ fd, FunD K "_law_word" "_law_word" (defArgs s_z_word) (defBody s_z_word) (defScope s_z_word) [] [] (He.fAd K ("_law_word", none)) fd
  fd_z_fresh : ∃ fd, FunD K "_law_fresh" "_law_fresh" (defArgs s_z_fresh) (defBody s_z_fresh) (defScope s_z_fresh) [] [] (He.fAd K ("_law_fresh", none)) fd
  fd_z_find : ∃ fd, FunD K "_law_find" "_law_find" (defArgs s_z_find) (defBody s_z_find) (defScope s_z_find) [] [] (He.fAd K ("_law_find", none)) fd
  fd_z_get : ∃ fd, FunD K "_law_get" "_law_get" (defArgs s_z_get) (defBody s_z_get) (defScope s_z_get) [] [] (He.fAd K ("_law_get", none)) fd
  fd_z_set : ∃ fd, FunD K "_law_set" "_law_set" (defArgs s_z_set) (defBody s_z_set) (defScope s_z_set) [] [] (He.fAd K ("_law_set", none)) fd
  fd_z_down : ∃ fd, FunD K "_law_down" "_law_down" (defArgs s_z_down) (defBody s_z_down) (defScope s_z_down) [] [] (He.fAd K ("_law_down", none)) fd
  fd_z_up : ∃ fd, FunD K "_law_up" "_law_up" (defArgs s_z_up) (defBody s_z_up) (defScope s_z_up) [] [] (He.fAd K ("_law_up", none)) fd
  fd_z_reads : ∃ fd, FunD K "_law_reads" "_law_reads" (defArgs s_z_reads) (defBody s_z_reads) (defScope s_z_reads) [] [] (He.fAd K ("_law_reads", none)) fd
  fd_z_deed : ∃ fd, FunD K "_law_deed" "_law_deed" (defArgs s_z_deed) (defBody s_z_deed) (defScope s_z_deed) [] [] (He.fAd K ("_law_deed", none)) fd
  fd_law : ∃ fd, FunD K "law" "law" (defArgs s_law) (defBody s_law) (defScope s_law) [] [] (He.fAd K ("law", none)) fd
def fa : List He.Fa := [.glo "_law_pick", .glo "_law_is_integer", .glo "_law_word", .glo "_law_fresh", .glo "_law_find", .glo "_law_get", .glo "_law_set", .glo "_law_down", .glo "_law_up", .glo "_law_reads", .glo "_law_deed", .glo "law", .glo "Tower", .cls "Tower", .mkr "Tower", .meth "Tower" "_group", .meth "Tower" "read", .meth "Tower" "write", .meth "Tower" "blocked_down", .meth "Tower" "blocked_up", .meth "Tower" "shift_down", .meth "Tower" "shift_up", .noat "Tower" "_shared", .noat "Tower" "_outs", .noat "Tower" "_own", .noat "Tower" "_ins", .noat "Tower" "_stack", .noat "Tower" "depth", .noat "Tower" "spills", .noat "Tower" "fills", .free "bool", .free "int", .free "isinstance", .free "len", .free "range"]
def fn : List He.DefD := [⟨("Tower", some "__init__"), "__init__", "Tower.__init__", defArgs s_Tower_init__, defBody s_Tower_init__, defScope s_Tower_init__, [], []⟩, ⟨("Tower", some "_group"), "_group", "Tower._group", defArgs s_Tower_group, defBody s_Tower_group, defScope s_Tower_group, [], []⟩, ⟨("Tower", some "read"), "read", "Tower.read", defArgs s_Tower_read, defBody s_Tower_read, defScope s_Tower_read, [], []⟩, ⟨("Tower", some "write"), "write", "Tower.write", defArgs s_Tower_write, defBody s_Tower_write, defScope s_Tower_write, [], []⟩, ⟨("Tower", some "blocked_down"), "blocked_down", "Tower.blocked_down", defArgs s_Tower_blocked_down, defBody s_Tower_blocked_down, defScope s_Tower_blocked_down, [], []⟩, ⟨("Tower", some "blocked_up"), "blocked_up", "Tower.blocked_up", defArgs s_Tower_blocked_up, defBody s_Tower_blocked_up, defScope s_Tower_blocked_up, [], []⟩, ⟨("Tower", some "shift_down"), "shift_down", "Tower.shift_down", defArgs s_Tower_shift_down, defBody s_Tower_shift_down, defScope s_Tower_shift_down, [], []⟩, ⟨("Tower", some "shift_up"), "shift_up", "Tower.shift_up", defArgs s_Tower_shift_up, defBody s_Tower_shift_up, defScope s_Tower_shift_up, [], []⟩, ⟨("_law_pick", none), "_law_pick", "_law_pick", defArgs s_z_pick, defBody s_z_pick, defScope s_z_pick, [], []⟩, ⟨("_law_is_integer", none), "_law_is_integer", "_law_is_integer", defArgs s_z_is_integer, defBody s_z_is_integer, defScope s_z_is_integer, [], []⟩, ⟨("_law_word", none), "_law_word", "_law_word", defArgs s_z_word, defBody s_z_word, defScope s_z_word, [], []⟩, ⟨("_law_fresh", none), "_law_fresh", "_law_fresh", defArgs s_z_fresh, defBody s_z_fresh, defScope s_z_fresh, [], []⟩, ⟨("_law_find", none), "_law_find", "_law_find", defArgs s_z_find, defBody s_z_find, defScope s_z_find, [], []⟩, ⟨("_law_get", none), "_law_get", "_law_get", defArgs s_z_get, defBody s_z_get, defScope s_z_get, [], []⟩, ⟨("_law_set", none), "_law_set", "_law_set", defArgs s_z_set, defBody s_z_set, defScope s_z_set, [], []⟩, ⟨("_law_down", none), "_law_down", "_law_down", defArgs s_z_down, defBody s_z_down, defScope s_z_down, [], []⟩, ⟨("_law_up", none), "_law_up", "_law_up", defArgs s_z_up, defBody s_z_up, defScope s_z_up, [], []⟩, ⟨("_law_reads", none), "_law_reads", "_law_reads", defArgs s_z_reads, defBody s_z_reads, defScope s_z_reads, [], []⟩, ⟨("_law_deed", none), "_law_deed", "_law_deed", defArgs s_z_deed, defBody s_z_deed, defScope s_z_deed, [], []⟩, ⟨("law", none), "law", "law", defArgs s_law, defBody s_law, defScope s_law, [], []⟩]
def exl : List (PySem.W.Frag → Bool) := []
def ex (K : PySem.W.Frag) : Bool := exl.all fun f => f K
theorem env_mk {w : World} {K : PySem.W.Frag} {h : Heap} {mg : Str → Option Value} (X : K.In h) (G : h.Ns mainGlobals mg) (c : He.SaysX fa fn [] [] ex w h K) : Env K mg := ⟨
  He.glo_ok X G (c.t.d.fact 0 rfl),
  He.glo_ok X G (c.t.d.fact 1 rfl),
  He.glo_ok X G (c.t.d.fact 2 rfl),
  He.glo_ok X G (c.t.d.fact 3 rfl),
  He.glo_ok X G (c.t.d.fact 4 rfl),
  He.glo_ok X G (c.t.d.fact 5 rfl),
  He.glo_ok X G (c.t.d.fact 6 rfl),
  He.glo_ok X G (c.t.d.fact 7 rfl),
  He.glo_ok X G (c.t.d.fact 8 rfl),
  He.glo_ok X G (c.t.d.fact 9 rfl),
  He.glo_ok X G (c.t.d.fact 10 rfl),
  He.glo_ok X G (c.t.d.fact 11 rfl),
  He.glo_ok X G (c.t.d.fact 12 rfl),
  He.cls_ok (c.t.d.fact 13 rfl),
  He.mkr_ok (c.t.d.fact 14 rfl),
  He.meth_ok (c.t.d.fact 15 rfl),
  He.meth_ok (c.t.d.fact 16 rfl),
  He.meth_ok (c.t.d.fact 17 rfl),
  He.meth_ok (c.t.d.fact 18 rfl),
  He.meth_ok (c.t.d.fact 19 rfl),
  He.meth_ok (c.t.d.fact 20 rfl),
  He.meth_ok (c.t.d.fact 21 rfl),
  He.noat_ok (c.t.d.fact 22 rfl),
  He.noat_ok (c.t.d.fact 23 rfl),
  He.noat_ok (c.t.d.fact 24 rfl),
  He.noat_ok (c.t.d.fact 25 rfl),
  He.noat_ok (c.t.d.fact 26 rfl),
  He.noat_ok (c.t.d.fact 27 rfl),
  He.noat_ok (c.t.d.fact 28 rfl),
  He.noat_ok (c.t.d.fact 29 rfl),
  He.free_ok X G (c.t.d.fact 30 rfl),
  He.free_ok X G (c.t.d.fact 31 rfl),
  He.free_ok X G (c.t.d.fact 32 rfl),
  He.free_ok X G (c.t.d.fact 33 rfl),
  He.free_ok X G (c.t.d.fact 34 rfl),
  c.t.d.def_ 0 rfl,
  c.t.d.def_ 1 rfl,
  c.t.d.def_ 2 rfl,
  c.t.d.def_ 3 rfl,
  c.t.d.def_ 4 rfl,
  c.t.d.def_ 5 rfl,
  c.t.d.def_ 6 rfl,
  c.t.d.def_ 7 rfl,
  c.t.d.def_ 8 rfl,
  c.t.d.def_ 9 rfl,
  c.t.d.def_ 10 rfl,
  c.t.d.def_ 11 rfl,
  c.t.d.def_ 12 rfl,
  c.t.d.def_ 13 rfl,
  c.t.d.def_ 14 rfl,
  c.t.d.def_ 15 rfl,
  c.t.d.def_ 16 rfl,
  c.t.d.def_ 17 rfl,
  c.t.d.def_ 18 rfl,
  c.t.d.def_ 19 rfl⟩
local macro_rules | `(tactic| walk_at "na") => `(tactic| first | (with_reducible exact Y.na_Tower_shared) | (with_reducible exact Y.na_Tower_outs) | (with_reducible exact Y.na_Tower_own) | (with_reducible exact Y.na_Tower_ins) | (with_reducible exact Y.na_Tower_stack) | (with_reducible exact Y.na_Tower_depth) | (with_reducible exact Y.na_Tower_spills) | (with_reducible exact Y.na_Tower_fills))
local macro_rules | `(tactic| walk_at "cl") => `(tactic| first | (with_reducible exact Y.cl_Tower))

/-! ### the law's draws: a list [script, place, rest, count] -/
abbrev stO (s : Addr) (i g n : Int) : HO := .lst [.ref s, .int i, .int g, .int n]
def sp_z_pick (K : PySem.W.Frag) : Sp := mk2 fun a b H Q _ => ∃ (p s : Addr) (ns : List Int) (i g n lim : Int), a = .ref p ∧ b = .int lim ∧ H p = some (stO s i g n) ∧ Scr K H s (ns.map V.int) ∧ 0 ≤ i ∧ 0 ≤ g ∧ 0 < lim ∧ lim < 2 ^ 64 ∧
  ∀ (r i' g' n' : Int) H', 0 ≤ r → r < lim → 0 ≤ i' → 0 ≤ g' → H' p = some (stO s i' g' n') → Keep [p] H H' → Q (.int r) H'
theorem ok_z_pick {P : Program} {w : World} {K : PySem.W.Frag} {mg : Str → Option Value} {base : Heap} (Y : Env K mg)  : CallOk P w K mg base CX0 1 "_law_pick" ["_law_state", "_law_limit"] (sp_z_pick K) := by
  obtain ⟨fd, F⟩ := Y.fd_z_pick
  refine ⟨_, fd, Y.mg_z_pick, F.kp, F.bindsN (fun _ _ _ _ _ _ us hl => match us, hl with | [_, _], _ => rfl), F.ok sc_z_pick mk2_len (fun cdv A outer s H vs Q E hr h => ?_)⟩
  have hu := hu_room hr
  obtain ⟨_, _, rfl, p, sc, ns, i, g, n, lim, rfl, rfl, hp, hs, hi, hg, hl, hl2, k⟩ := h
  have hS : SH [p] H H [(p, .lst [.ref sc, .int i, .int g, .int n])] := SH.start1 hp
  refine ⟨_, PSs.nox (pss_cons (ps_asg (pe_op xAdd (pe_ix xIx (pv 0) pe_int (fun _ _ => rfl)) pe_int) (pg_sub (pv 0) pe_int set_list))
  (pss_cons (ps_if (pt_cmpR op_gt (pe_ix xIx (pv 0) pe_int (fun _ _ => rfl)) pe_int (nomark _)) (pss_cons (ps_set (i := 2) sc_z_pick.nd rfl (Or.inl rfl) (pe_op xMod (pe_callTy x_int rfl Y.z_int (by decide +kernel) (pa_cons (pe_ix xIx (pv 0) pe_int (fun _ _ => rfl)) pa_nil)) (pv 1)))
  (pss_cons (ps_asg (pe_op xDiv (pe_ix xIx (pv 0) pe_int (fun _ _ => rfl)) (pv 1)) (pg_sub (pv 0) pe_int set_list))
  (pss_one (ps_ret (pv 2))))) pss_nil)
  (pss_cons (ps_set (i := 3) sc_z_pick.nd rfl (Or.inl rfl) pe_int)
  (pss_cons (ps_if (pt_cmpR op_lt (pe_ix xIx (pv 0) pe_int (fun _ _ => rfl)) (pe_callB x_len rfl Y.z_len (by decide +kernel) (pa_cons (pe_ix xIx (pv 0) pe_int (fun _ _ => rfl)) pa_nil)) (nomark _)) (pss_one (ps_set (i := 3) sc_z_pick.nd rfl (Or.inl rfl) (pe_ix xIx (pe_ix xIx (pv 0) pe_int (fun _ _ => rfl)) (pe_ix xIx (pv 0) pe_int (fun _ _ => rfl)) (fun _ _ => rfl)))) pss_nil)
  (pss_cons (ps_asg (pe_op xAdd (pe_ix xIx (pv 0) pe_int (fun _ _ => rfl)) pe_int) (pg_sub (pv 0) pe_int set_list))
  (pss_cons (ps_if (pt_cmpR op_ge (pv 3) (pe_op op_pow pe_int pe_int) (nomark _)) (pss_cons (ps_asg (pe_op xDiv (pv 3) (pv 1)) (pg_sub (pv 0) pe_int set_list))
  (pss_one (ps_ret (pe_op xMod (pe_callTy x_int rfl Y.z_int (by decide +kernel) (pa_cons (pv 3) pa_nil)) (pv 1))))) pss_nil)
  (pss_cons (ps_set (i := 4) sc_z_pick.nd rfl (Or.inl rfl) (pe_op xMod (pe_callTy x_int rfl Y.z_int (by decide +kernel) (pa_cons (pe_op xAdd (pe_op xMul (pe_op xMod (pe_callTy x_int rfl Y.z_int (by decide +kernel) (pa_cons (pe_op xAdd (pe_op xAdd (pe_op xMul (pv 3) pe_int) (pe_op xMul (pe_ix xIx (pv 0) pe_int (fun _ _ => rfl)) pe_int)) pe_int) pa_nil)) pe_int) pe_int) (pe_ix xIx (pv 0) pe_int (fun _ _ => rfl))) pa_nil)) pe_int))
  (pss_one (ps_ret (pe_op xMod (pe_callTy x_int rfl Y.z_int (by decide +kernel) (pa_cons (pe_op xDiv (pv 4) pe_int) pa_nil)) (pv 1))))))))))), ?_⟩
  rw [st_z_pick]
  try simp only [cxK, cxK2]
  clear hu hr F
  repeat' walk_at "st"
  all_goals first
    | exact k _ _ _ _ _ (Int.emod_nonneg _ (by omega)) (Int.emod_lt_of_pos _ hl) (by omega) (by omega) (hS.get 0 rfl) hS.kp
    | exact k _ _ _ _ _ (Int.emod_nonneg _ (by omega)) (Int.emod_lt_of_pos _ hl) (by omega) (Int.ediv_nonneg (by omega) (by omega)) (hS.get 0 rfl) hS.kp
theorem c_z_pick {K : PySem.W.Frag} {A : List Addr} {H0 H : Hp} {L : List Cell} {p s : Addr} {ns : List Int} {x g n lim : Int} {Q : VK} {E : XK} {i : Nat} (hS : SH A H0 H L) (e : L[i]? = some (p, stO s x g n)) (sc : Scr K H0 s (ns.map V.int)) (h0 : 0 ≤ x) (h1 : 0 ≤ g) (h2 : 0 < lim) (h3 : lim < 2 ^ 64)
    (k : ∀ (r x' g' n' : Int) H', 0 ≤ r → r < lim → 0 ≤ x' → 0 ≤ g' → SH A H0 H' (L.set i (p, stO s x' g' n')) → Q (.int r) H') : sp_z_pick K ([.ref p, .int lim] ++ []) H Q E :=
  ⟨_, _, rfl, p, s, ns, x, g, n, lim, rfl, rfl, hS.get i e, sc.keep hS.kp, h0, h1, h2, h3, fun r x' g' n' H' a b c d e' f => k r x' g' n' H' a b c d (hS.call1 i e rfl f e')⟩
local macro_rules | `(tactic| walk_at "st") => `(tactic| first
  | ((with_reducible show sp_z_pick _ _ _ _ _); apply c_z_pick hS; (· walk_at "ix"); (· assumption); (· walk_at "ar"); (· walk_at "ar"); (· walk_at "ar"); (· walk_at "ar"); intro r x1 g1 n1 H1 hr0 hr1 hx1 hg1 hS1; clear hS; rename SH _ _ _ _ => hS; simp only [List.set_cons_zero, List.set_cons_succ] at hS))

/-! ### the state of a tower: the globals, the rows above, the current window -/
structure TM where
  g : List Int
  st : List (List Int × List Int)
  own : List Int
  ins : List Int
  outs : List Int
structure TM.ok (M : TM) : Prop where
  g : M.g.length = 8
  own : M.own.length = 8
  ins : M.ins.length = 8
  outs : M.outs.length = 8
  st : ∀ p ∈ M.st, p.1.length = 8 ∧ p.2.length = 8
structure TA where
  (t dx sg so sn si sk : Addr)
  stA : List (Addr × Addr × Addr)
def stCells : List (Addr × Addr × Addr) → List (List Int × List Int) → List Cell
  | a :: as, p :: ps => (a.1, .tup [.ref a.2.1, .ref a.2.2]) :: (a.2.1, .lst (p.1.map V.int)) :: (a.2.2, .lst (p.2.map V.int)) :: stCells as ps
  | _, _ => []
def tFlds (T : TA) (d : Nat) : List (Str × V) := [("_shared", .ref T.sg), ("_outs", .ref T.so), ("_own", .ref T.sn), ("_ins", .ref T.si), ("_stack", .ref T.sk), ("depth", .int d), ("spills", .int 0), ("fills", .int 0)]
abbrev tCells (K : PySem.W.Frag) (T : TA) (M : TM) : List Cell :=
  (T.t, .ins (He.ga K "Tower") T.dx [("_shared", .ref T.sg), ("_outs", .ref T.so), ("_own", .ref T.sn), ("_ins", .ref T.si), ("_stack", .ref T.sk), ("depth", .int (M.st.length : Nat)), ("spills", .int 0), ("fills", .int 0)]) ::
  (T.sg, .lst (M.g.map V.int)) :: (T.so, .lst (M.outs.map V.int)) :: (T.sn, .lst (M.own.map V.int)) :: (T.si, .lst (M.ins.map V.int)) :: (T.sk, .lst (T.stA.map fun a => V.ref a.1)) :: stCells T.stA M.st
def TM.zero : TM := ⟨List.replicate 8 0, [], List.replicate 8 0, List.replicate 8 0, List.replicate 8 0⟩
def sp_Tower_init__ (K : PySem.W.Frag) : Sp := mk1 fun a H Q _ => ∃ t dx, a = .ref t ∧ H t = some (.ins (He.ga K "Tower") dx []) ∧
  ∀ T H', SH [t] H H' (tCells K T TM.zero) → T.t = t → T.stA = [] → Q .non H'
theorem ok_Tower_init__ {P : Program} {w : World} {K : PySem.W.Frag} {mg : Str → Option Value} {base : Heap} (Y : Env K mg)  : MakeOk P w K mg base CX0 1 "Tower" ["self"] (sp_Tower_init__ K) := by
  obtain ⟨fd, F⟩ := Y.fd_Tower_init__
  refine ⟨fd, Y.mg_Tower, Y.mk_Tower, F.bindsN (fun _ _ _ _ _ _ us hl => match us, hl with | [_], _ => rfl), F.ok sc_Tower_init__ mk1_len (fun cdv A outer s H vs Q E hr h => ?_)⟩
  have hu := hu_room hr
  obtain ⟨_, rfl, t, dx, rfl, ht, k⟩ := h
  have hS : SH [t] H H [(t, .ins (He.ga K "Tower") dx [])] := SH.start1 ht
  refine ⟨_, PSs.nox (pss_cons (ps_fld (pv 0) (pe_op xMul (pe_lst (pa_cons pe_int pa_nil)) pe_int) rfl)
  (pss_cons (ps_fld (pv 0) (pe_op xMul (pe_lst (pa_cons pe_int pa_nil)) pe_int) rfl)
  (pss_cons (ps_fld (pv 0) (pe_op xMul (pe_lst (pa_cons pe_int pa_nil)) pe_int) rfl)
  (pss_cons (ps_fld (pv 0) (pe_op xMul (pe_lst (pa_cons pe_int pa_nil)) pe_int) rfl)
  (pss_cons (ps_fld (pv 0) (pe_lst pa_nil) rfl)
  (pss_cons (ps_fld (pv 0) pe_int rfl)
  (pss_cons (ps_fld (pv 0) pe_int rfl)
  (pss_one (ps_fld (pv 0) pe_int rfl))))))))), ?_⟩
  rw [st_Tower_init__]
  try simp only [cxK, cxK2]
  clear hu hr F
  repeat' walk_at "st"
  exact k ⟨t, dx, _, _, _, _, _, []⟩ _ (hS.pick [9, 7, 5, 3, 1, 0] (by decide) rfl) rfl rfl
def TM.grp (M : TM) (n : Int) : List Int := if n < 8 then M.g else if n < 16 then M.outs else if n < 24 then M.own else M.ins
def TM.get (M : TM) (n : Int) : Int := (M.grp n).getD (n % 8).toNat 0
def TM.put (M : TM) (n w : Int) : TM := if n ≤ 0 then M else if n < 8 then { M with g := M.g.set (n % 8).toNat w } else if n < 16 then { M with outs := M.outs.set (n % 8).toNat w } else if n < 24 then { M with own := M.own.set (n % 8).toNat w } else { M with ins := M.ins.set (n % 8).toNat w }
def TM.down (M : TM) : TM := { M with st := M.st ++ [(M.own, M.ins)], ins := M.outs, own := List.replicate 8 0, outs := List.replicate 8 0 }
theorem TM.put_ok {M : TM} (h : M.ok) (n w : Int) : (M.put n w).ok := by
  obtain ⟨h1, h2, h3, h4, h5⟩ := h
  unfold TM.put
  repeat' split
  all_goals exact ⟨by simpa using h1, by simpa using h2, by simpa using h3, by simpa using h4, h5⟩
theorem TM.down_ok {M : TM} (h : M.ok) : M.down.ok := by
  obtain ⟨h1, h2, h3, h4, h5⟩ := h
  refine ⟨h1, by simp [TM.down], h4, by simp [TM.down], fun p hp => ?_⟩
  rcases List.mem_append.mp hp with q | q
  · exact h5 p q
  · rw [List.mem_singleton.mp q]
    exact ⟨h2, h3⟩
theorem TM.put_st (M : TM) (n w : Int) : (M.put n w).st = M.st := by
  unfold TM.put
  repeat' split
  all_goals rfl
def TA.grp (T : TA) (n : Int) : Addr := if n < 8 then T.sg else if n < 16 then T.so else if n < 24 then T.sn else T.si
def sp_Tower_group (K : PySem.W.Frag) : Sp := mk2 fun a b H Q _ => ∃ (T : TA) (M : TM) (n : Int), a = .ref T.t ∧ b = .int n ∧ (∀ c ∈ tCells K T M, H c.1 = some c.2) ∧ 0 ≤ n ∧ n < 32 ∧ ∀ H', Keep [] H H' → Q (.ref (T.grp n)) H'
theorem ok_Tower_group {P : Program} {w : World} {K : PySem.W.Frag} {mg : Str → Option Value} {base : Heap} (Y : Env K mg)  : MethOk P w K mg base CX0 1 "Tower" "_group" ["self", "number"] (sp_Tower_group K) := by
  obtain ⟨fd, F⟩ := Y.fd_Tower_group
  refine ⟨fd, Y.cl_Tower, Y.me_Tower_group, F.bindsN (fun _ _ _ _ _ _ us hl => match us, hl with | [_, _], _ => rfl), F.ok sc_Tower_group mk2_len (fun cdv A outer s H vs Q E hr h => ?_)⟩
  have hu := hu_room hr
  obtain ⟨_, _, rfl, T, M, n, rfl, rfl, hT, h0, h1, k⟩ := h
  have hS : SH [] H H [] := SH.start0
  have ht := hT _ (List.mem_cons_self ..)
  unfold TA.grp at k
  have hn : n < 8 ∨ (8 ≤ n ∧ n < 16) ∨ (16 ≤ n ∧ n < 24) ∨ 24 ≤ n := by omega
  refine ⟨_, PSs.nox (pss_one (ps_ret (pe_ix xIx (pe_lst (pa_cons (pe_fld (pv 0) rfl) (pa_cons (pe_fld (pv 0) rfl) (pa_cons (pe_fld (pv 0) rfl) (pa_cons (pe_fld (pv 0) rfl) pa_nil))))) (pe_op xDiv (pv 1) pe_int) (fun _ _ => rfl)))), ?_⟩
  rw [st_Tower_group]
  try simp only [cxK, cxK2]
  clear hu hr F
  rcases hn with q | ⟨q1, q2⟩ | ⟨q1, q2⟩ | q
  all_goals repeat' walk_at "st"
  · exact (if_pos q ▸ k) _ hS.kp
  · rw [if_neg (by omega), if_pos q2] at k
    exact k _ hS.kp
  · rw [if_neg (by omega), if_neg (by omega), if_pos q2] at k
    exact k _ hS.kp
  · rw [if_neg (by omega), if_neg (by omega), if_neg (by omega)] at k
    exact k _ hS.kp
theorem c_Tower_group {K : PySem.W.Frag} {A : List Addr} {H0 H : Hp} {L : List Cell} {T : TA} {M : TM} {n : Int} {Q : VK} {E : XK} (hS : SH A H0 H L) (hT : ∀ c ∈ tCells K T M, H c.1 = some c.2) (h0 : 0 ≤ n) (h1 : n < 32)
    (k : ∀ H', SH A H0 H' L → Q (.ref (T.grp n)) H') : sp_Tower_group K (.ref T.t :: ([.int n] ++ [])) H Q E := ⟨_, _, rfl, T, M, n, rfl, rfl, hT, h0, h1, fun H' kp => k H' (hS.call0 kp)⟩
def sp_Tower_read (K : PySem.W.Frag) : Sp := mk2 fun a b H Q _ => ∃ (T : TA) (M : TM) (n : Int), a = .ref T.t ∧ b = .int n ∧ (∀ c ∈ tCells K T M, H c.1 = some c.2) ∧ M.ok ∧ 0 ≤ n ∧ n < 32 ∧ ∀ H', Keep [] H H' → Q (.int (M.get n)) H'
theorem ok_Tower_read {P : Program} {w : World} {K : PySem.W.Frag} {mg : Str → Option Value} {base : Heap} (Y : Env K mg) (G_Tower_group : MethOk P w K mg base CX0 1 "Tower" "_group" ["self", "number"] (sp_Tower_group K)) : MethOk P w K mg base CX0 2 "Tower" "read" ["self", "number"] (sp_Tower_read K) := by
  obtain ⟨fd, F⟩ := Y.fd_Tower_read
  refine ⟨fd, Y.cl_Tower, Y.me_Tower_read, F.bindsN (fun _ _ _ _ _ _ us hl => match us, hl with | [_, _], _ => rfl), F.ok sc_Tower_read mk2_len (fun cdv A outer s H vs Q E hr h => ?_)⟩
  have hu := hu_room hr
  obtain ⟨_, _, rfl, T, M, n, rfl, rfl, hT, ok, h0, h1, k⟩ := h
  have hS : SH [] H H [] := SH.start0
  have ht : H T.t = _ := hT _ (List.mem_cons_self ..)
  have ht1 : H T.sg = _ := hT _ (.tail _ (.head _))
  have ht2 : H T.so = _ := hT _ (.tail _ (.tail _ (.head _)))
  have ht3 : H T.sn = _ := hT _ (.tail _ (.tail _ (.tail _ (.head _))))
  have ht4 : H T.si = _ := hT _ (.tail _ (.tail _ (.tail _ (.tail _ (.head _)))))
  obtain ⟨l1, l2, l3, l4, _⟩ := ok
  unfold TM.get TM.grp at k
  have hn : n < 8 ∨ (8 ≤ n ∧ n < 16) ∨ (16 ≤ n ∧ n < 24) ∨ 24 ≤ n := by omega
  refine ⟨_, PSs.nox (pss_one (ps_ret (pe_ix xIx (pe_methG (pv 0) G_Tower_group hr pass0 (pa_cons (pv 1) pa_nil)) (pe_op xMod (pv 1) pe_int) (fun _ _ => rfl)))), ?_⟩
  rw [st_Tower_read]
  try simp only [cxK, cxK2]
  clear hu hr F
  repeat' walk_at "st"
  refine c_Tower_group hS hT h0 h1 (fun H1 hS => ?_)
  unfold TA.grp
  rcases hn with q | ⟨q1, q2⟩ | ⟨q1, q2⟩ | q
  · rw [if_pos q] at k ⊢
    repeat' walk_at "st"
    exact k _ hS.kp
  · rw [if_neg (by omega), if_pos q2] at k ⊢
    repeat' walk_at "st"
    exact k _ hS.kp
  · rw [if_neg (by omega), if_neg (by omega), if_pos q2] at k ⊢
    repeat' walk_at "st"
    exact k _ hS.kp
  · rw [if_neg (by omega), if_neg (by omega), if_neg (by omega)] at k ⊢
    repeat' walk_at "st"
    exact k _ hS.kp
def sp_Tower_write (K : PySem.W.Frag) : Sp := mk3 fun a b c H Q _ => ∃ (T : TA) (M : TM) (n w : Int), a = .ref T.t ∧ b = .int n ∧ c = .int w ∧ Blk H (tCells K T M) ∧ M.ok ∧ 0 ≤ n ∧ n < 32 ∧ ∀ H', SH ((tCells K T M).map (·.1)) H H' (tCells K T (M.put n w)) → Q .non H'
theorem ok_Tower_write {P : Program} {w : World} {K : PySem.W.Frag} {mg : Str → Option Value} {base : Heap} (Y : Env K mg) (G_Tower_group : MethOk P w K mg base CX0 1 "Tower" "_group" ["self", "number"] (sp_Tower_group K)) : MethOk P w K mg base CX0 2 "Tower" "write" ["self", "number", "word"] (sp_Tower_write K) := by
  obtain ⟨fd, F⟩ := Y.fd_Tower_write
  refine ⟨fd, Y.cl_Tower, Y.me_Tower_write, F.bindsN (fun _ _ _ _ _ _ us hl => match us, hl with | [_, _, _], _ => rfl), F.ok sc_Tower_write mk3_len (fun cdv A outer s H vs Q E hr h => ?_)⟩
  have hu := hu_room hr
  obtain ⟨_, _, _, rfl, T, M, n, w, rfl, rfl, rfl, hB, ok, h0, h1, k⟩ := h
  have hS := hB.sh
  have hT := hB.hs
  obtain ⟨l1, l2, l3, l4, _⟩ := ok
  unfold TM.put at k
  have hn : n < 8 ∨ (8 ≤ n ∧ n < 16) ∨ (16 ≤ n ∧ n < 24) ∨ 24 ≤ n := by omega
  refine ⟨_, PSs.nox (pss_one (ps_if (pt_cmpR op_gt (pv 1) pe_int (nomark _)) (pss_cons (ps_set (i := 3) sc_Tower_write.nd rfl (Or.inl rfl) (pe_methG (pv 0) G_Tower_group hr pass0 (pa_cons (pv 1) pa_nil)))
  (pss_one (ps_asg (pv 2) (pg_sub (pv 3) (pe_op xMod (pv 1) pe_int) set_list)))) pss_nil)), ?_⟩
  rw [st_Tower_write]
  try simp only [cxK, cxK2]
  clear hu hr F
  repeat' walk_at "st"
  · refine c_Tower_group hS hT h0 h1 (fun H1 hS => ?_)
    rw [if_neg (by omega)] at k
    unfold TA.grp
    rcases hn with q | ⟨q1, q2⟩ | ⟨q1, q2⟩ | q
    · rw [if_pos q] at k ⊢
      repeat' walk_at "st"
      exact k _ hS
    · rw [if_neg (by omega), if_pos q2] at k ⊢
      repeat' walk_at "st"
      exact k _ hS
    · rw [if_neg (by omega), if_neg (by omega), if_pos q2] at k ⊢
      repeat' walk_at "st"
      exact k _ hS
    · rw [if_neg (by omega), if_neg (by omega), if_neg (by omega)] at k ⊢
      repeat' walk_at "st"
      exact k _ hS
  · rw [if_pos (by omega)] at k
    exact k _ hS
def sp_Tower_blocked_down (K : PySem.W.Frag) : Sp := mk1 fun _ H Q _ => Q (.bl false) H
theorem ok_Tower_blocked_down {P : Program} {w : World} {K : PySem.W.Frag} {mg : Str → Option Value} {base : Heap} (Y : Env K mg)  : MethOk P w K mg base CX0 1 "Tower" "blocked_down" ["self"] (sp_Tower_blocked_down K) := by
  obtain ⟨fd, F⟩ := Y.fd_Tower_blocked_down
  refine ⟨fd, Y.cl_Tower, Y.me_Tower_blocked_down, F.bindsN (fun _ _ _ _ _ _ us hl => match us, hl with | [_], _ => rfl), F.ok sc_Tower_blocked_down mk1_len (fun cdv A outer s H vs Q E hr h => ?_)⟩
  have hu := hu_room hr
  obtain ⟨_, rfl, k⟩ := h
  refine ⟨_, PSs.nox (pss_one (ps_ret pe_bl)), ?_⟩
  rw [st_Tower_blocked_down]
  try simp only [cxK, cxK2]
  clear hu hr F
  repeat' walk_at "st"
  exact k
def sp_Tower_blocked_up (K : PySem.W.Frag) : Sp := mk1 fun _ H Q _ => Q (.bl false) H
theorem ok_Tower_blocked_up {P : Program} {w : World} {K : PySem.W.Frag} {mg : Str → Option Value} {base : Heap} (Y : Env K mg)  : MethOk P w K mg base CX0 1 "Tower" "blocked_up" ["self"] (sp_Tower_blocked_up K) := by
  obtain ⟨fd, F⟩ := Y.fd_Tower_blocked_up
  refine ⟨fd, Y.cl_Tower, Y.me_Tower_blocked_up, F.bindsN (fun _ _ _ _ _ _ us hl => match us, hl with | [_], _ => rfl), F.ok sc_Tower_blocked_up mk1_len (fun cdv A outer s H vs Q E hr h => ?_)⟩
  have hu := hu_room hr
  obtain ⟨_, rfl, k⟩ := h
  refine ⟨_, PSs.nox (pss_one (ps_ret pe_bl)), ?_⟩
  rw [st_Tower_blocked_up]
  try simp only [cxK, cxK2]
  clear hu hr F
  repeat' walk_at "st"
  exact k
theorem stCells_append : ∀ (as : List (Addr × Addr × Addr)) (ps : List (List Int × List Int)) (bs : List (Addr × Addr × Addr)) (qs : List (List Int × List Int)), as.length = ps.length → stCells (as ++ bs) (ps ++ qs) = stCells as ps ++ stCells bs qs
  | [], [], _, _, _ => rfl
  | a :: as, p :: ps, bs, qs, h => by
    show _ :: _ :: _ :: stCells (as ++ bs) (ps ++ qs) = _
    rw [stCells_append as ps bs qs (by simpa using h)]
    rfl
theorem SH_down {K : PySem.W.Frag} {A : List Addr} {H0 H : Hp} {T : TA} {M : TM} {p q r : Addr} (hl : T.stA.length = M.st.length)
    (h : SH A H0 H ([(T.t, .ins (He.ga K "Tower") T.dx [("_shared", .ref T.sg), ("_outs", .ref p), ("_own", .ref q), ("_ins", .ref T.so), ("_stack", .ref T.sk), ("depth", .int ((M.st.length : Nat) + 1)), ("spills", .int 0), ("fills", .int 0)]),
      (T.sg, .lst (M.g.map V.int)), (p, .lst (List.replicate 8 (V.int 0))), (q, .lst (List.replicate 8 (V.int 0))), (T.so, .lst (M.outs.map V.int)), (T.sk, .lst (T.stA.map (fun a => V.ref a.1) ++ [V.ref r]))] ++
      (stCells T.stA M.st ++ [(r, .tup [.ref T.sn, .ref T.si]), (T.sn, .lst (M.own.map V.int)), (T.si, .lst (M.ins.map V.int))]))) :
    SH A H0 H (tCells K ⟨T.t, T.dx, T.sg, p, q, T.so, T.sk, T.stA ++ [(r, T.sn, T.si)]⟩ M.down) := by
  have e := stCells_append T.stA M.st [(r, T.sn, T.si)] [(M.own, M.ins)] hl
  have e2 : ((M.st ++ [(M.own, M.ins)]).length : Int) = (M.st.length : Nat) + 1 := by simp
  unfold tCells TM.down
  dsimp only
  rw [e, e2, List.map_append]
  exact h
def sp_Tower_shift_down (K : PySem.W.Frag) : Sp := mk1 fun a H Q _ => ∃ (T : TA) (M : TM), a = .ref T.t ∧ Blk H (tCells K T M) ∧ M.ok ∧ T.stA.length = M.st.length ∧ M.st.length ≤ 100000 ∧
  ∀ T' H', SH ((tCells K T M).map (·.1)) H H' (tCells K T' M.down) → T'.t = T.t → T'.stA.length = M.st.length + 1 → Q .non H'
theorem ok_Tower_shift_down {P : Program} {w : World} {K : PySem.W.Frag} {mg : Str → Option Value} {base : Heap} (Y : Env K mg)  : MethOk P w K mg base CX0 1 "Tower" "shift_down" ["self"] (sp_Tower_shift_down K) := by
  obtain ⟨fd, F⟩ := Y.fd_Tower_shift_down
  refine ⟨fd, Y.cl_Tower, Y.me_Tower_shift_down, F.bindsN (fun _ _ _ _ _ _ us hl => match us, hl with | [_], _ => rfl), F.ok sc_Tower_shift_down mk1_len (fun cdv A outer s H vs Q E hr h => ?_)⟩
  have hu := hu_room hr
  obtain ⟨_, rfl, T, M, rfl, hB, ok, hl, hz, k⟩ := h
  have hS := hB.sh
  obtain ⟨l1, l2, l3, l4, _⟩ := ok
  refine ⟨_, PSs.nox (pss_cons (ps_expr (pe_bm PySem.F.plainAttrs_list PySem.F.slot_list_append PySem.F.type_list_append mt_append (pe_fld (pv 0) rfl) (pa_cons (pe_tup (pa_cons (pe_fld (pv 0) rfl) (pa_cons (pe_fld (pv 0) rfl) pa_nil))) pa_nil)))
  (pss_cons (ps_fld (pv 0) (pe_fld (pv 0) rfl) rfl)
  (pss_cons (ps_fld (pv 0) (pe_op xMul (pe_lst (pa_cons pe_int pa_nil)) pe_int) rfl)
  (pss_cons (ps_fld (pv 0) (pe_op xMul (pe_lst (pa_cons pe_int pa_nil)) pe_int) rfl)
  (pss_one (ps_fld (pv 0) (pe_op xAdd (pe_fld (pv 0) rfl) pe_int) rfl)))))), ?_⟩
  rw [st_Tower_shift_down]
  try simp only [cxK, cxK2]
  clear hu hr F
  repeat' walk_at "st"
  have h1 := hS.pickT 11 [5, 6, 0, 2, 7, 10, 4, 8, 9] (by decide) (by decide) (L' := [(T.t, _), (T.sg, _), (_, _), (_, _), (T.so, _), (T.sk, _)] ++ [(_, _), (T.sn, _), (T.si, _)]) rfl
  have h2 := h1.perm (perm_mid _ _ _)
  have h3 := SH_down (T := T) (M := M) hl h2
  exact k _ _ h3 rfl (by simp [hl])
theorem stCells_snoc (as : List (Addr × Addr × Addr)) (ps : List (List Int × List Int)) (a : Addr × Addr × Addr) (p : List Int × List Int) (h : as.length = ps.length) : stCells (as ++ [a]) (ps ++ [p]) = stCells as ps ++ [(a.1, .tup [.ref a.2.1, .ref a.2.2]), (a.2.1, .lst (p.1.map V.int)), (a.2.2, .lst (p.2.map V.int))] := stCells_append as ps [a] [p] h
def sp_Tower_shift_up (K : PySem.W.Frag) : Sp := mk1 fun a H Q _ => ∃ (T : TA) (M : TM) (as : List (Addr × Addr × Addr)) (x : Addr × Addr × Addr) (st : List (List Int × List Int)) (y : List Int × List Int), a = .ref T.t ∧ Blk H (tCells K T M) ∧ T.stA = as ++ [x] ∧ M.st = st ++ [y] ∧ as.length = st.length ∧
  ∀ T' H', SH ((tCells K T M).map (·.1)) H H' (tCells K T' ⟨M.g, st, y.1, y.2, M.ins⟩) → T'.t = T.t → T'.stA.length = st.length → Q .non H'
theorem ok_Tower_shift_up {P : Program} {w : World} {K : PySem.W.Frag} {mg : Str → Option Value} {base : Heap} (Y : Env K mg)  : MethOk P w K mg base CX0 1 "Tower" "shift_up" ["self"] (sp_Tower_shift_up K) := by
  obtain ⟨fd, F⟩ := Y.fd_Tower_shift_up
  refine ⟨fd, Y.cl_Tower, Y.me_Tower_shift_up, F.bindsN (fun _ _ _ _ _ _ us hl => match us, hl with | [_], _ => rfl), F.ok sc_Tower_shift_up mk1_len (fun cdv A outer s H vs Q E hr h => ?_)⟩
  have hu := hu_room hr
  obtain ⟨_, rfl, T, M, as, x, st, y, rfl, hB, ea, es, hl, k⟩ := h
  have hS := hB.sh
  have eq : tCells K T M = (T.t, .ins (He.ga K "Tower") T.dx [("_shared", .ref T.sg), ("_outs", .ref T.so), ("_own", .ref T.sn), ("_ins", .ref T.si), ("_stack", .ref T.sk), ("depth", .int ((st.length : Nat) + 1)), ("spills", .int 0), ("fills", .int 0)]) ::
    (T.sg, .lst (M.g.map V.int)) :: (T.so, .lst (M.outs.map V.int)) :: (T.sn, .lst (M.own.map V.int)) :: (T.si, .lst (M.ins.map V.int)) :: (T.sk, .lst (as.map (fun a => V.ref a.1) ++ [V.ref x.1])) :: (stCells as st ++ [(x.1, .tup [.ref x.2.1, .ref x.2.2]), (x.2.1, .lst (y.1.map V.int)), (x.2.2, .lst (y.2.map V.int))]) := by
    unfold tCells
    rw [ea, es, stCells_snoc _ _ _ _ hl, List.map_append]
    simp
  rw [eq] at hS k
  have pv1 : (as.map (fun a => V.ref a.1) ++ [V.ref x.1])[(as.map (fun a => V.ref a.1) ++ [V.ref x.1]).length - 1]? = some (V.ref x.1) := by simp
  have hx : H x.1 = some (.tup [.ref x.2.1, .ref x.2.2]) := hS.hs (x.1, .tup [.ref x.2.1, .ref x.2.2]) (by simp)
  refine ⟨_, PSs.nox (pss_cons (ps_fld (pv 0) (pe_fld (pv 0) rfl) rfl)
  (pss_cons (ps_asg (pe_bm0 PySem.F.plainAttrs_list PySem.F.slot_list_pop PySem.F.type_list_pop mt_pop (pe_fld (pv 0) rfl)) (pg_tup rfl (pgs_cons (pg_attr (pv 0)) (pgs_cons (pg_attr (pv 0)) pgs_nil))))
  (pss_one (ps_fld (pv 0) (pe_op op_sub (pe_fld (pv 0) rfl) pe_int) rfl)))), ?_⟩
  rw [st_Tower_shift_up]
  try simp only [cxK, cxK2]
  clear hu hr F
  repeat' walk_at "st"
  rw [show ((st.length : Nat) : Int) + 1 - 1 = (st.length : Nat) by omega] at hS
  have h1 := hS.perm (perm_mid [_, _, _, _, _, _] [_, _, _] (stCells as st)).symm
  have h2 := h1.pickT 9 [0, 1, 4, 7, 8, 5] (by decide) (by decide) (L' := [(T.t, _), (T.sg, _), (T.si, _), (x.2.1, _), (x.2.2, _), (T.sk, _)]) rfl
  exact k ⟨T.t, T.dx, T.sg, T.si, x.2.1, x.2.2, T.sk, as⟩ _ h2 rfl hl
/-! ### the law's own model -/
structure UA where
  (m mg mio mloc o n q : Addr)
  stU : List (Addr × Addr)
def stmCells : List (Addr × Addr) → List (List Int × List Int) → List Cell
  | a :: as, p :: ps => (a.1, .lst (p.1.map V.int)) :: (a.2, .lst (p.2.map V.int)) :: stmCells as ps
  | _, _ => []
abbrev mCells (U : UA) (M : TM) : List Cell := (U.m, .lst [.ref U.mg, .ref U.mio, .ref U.mloc]) :: (U.mg, .lst (M.g.map V.int)) :: (U.mio, .lst (U.stU.map (fun a => V.ref a.2) ++ [.ref U.n, .ref U.q])) :: (U.mloc, .lst (U.stU.map (fun a => V.ref a.1) ++ [.ref U.o])) ::
  (U.o, .lst (M.own.map V.int)) :: (U.n, .lst (M.ins.map V.int)) :: (U.q, .lst (M.outs.map V.int)) :: stmCells U.stU M.st
def sp_z_is_integer (K : PySem.W.Frag) : Sp := mk1 fun a H Q _ => ∃ n : Int, a = .int n ∧ Q (.bl true) H
theorem ok_z_is_integer {P : Program} {w : World} {K : PySem.W.Frag} {mg : Str → Option Value} {base : Heap} (Y : Env K mg)  : CallOk P w K mg base CX0 1 "_law_is_integer" ["_law_actual"] (sp_z_is_integer K) := by
  obtain ⟨fd, F⟩ := Y.fd_z_is_integer
  refine ⟨_, fd, Y.mg_z_is_integer, F.kp, F.bindsN (fun _ _ _ _ _ _ us hl => match us, hl with | [_], _ => rfl), F.ok sc_z_is_integer mk1_len (fun cdv A outer s H vs Q E hr h => ?_)⟩
  have hu := hu_room hr
  obtain ⟨_, rfl, n, rfl, k⟩ := h
  have hS : SH [] H H [] := SH.start0
  refine ⟨_, PSs.nox (pss_one (ps_ret (pe_and (pe_callB x_isinstance rfl Y.z_isinstance (by decide +kernel) (pa_cons (pv 0) (pa_cons (pe_bltn rfl Y.z_int (by decide +kernel) (show RelV (.ty "int") (.type "int") from rfl)) pa_nil))) (pe_one (pe_not (pe_callB x_isinstance rfl Y.z_isinstance (by decide +kernel) (pa_cons (pv 0) (pa_cons (pe_bltn rfl Y.z_bool (by decide +kernel) (show RelV (.ty "bool") (.type "bool") from rfl)) pa_nil)))))))), ?_⟩
  rw [st_z_is_integer]
  try simp only [cxK, cxK2]
  clear hu hr F
  repeat' walk_at "st"
  exact k
def sp_z_word (K : PySem.W.Frag) : Sp := mk1 fun a H Q _ => ∃ (p s : Addr) (ns : List Int) (i g n : Int), a = .ref p ∧ H p = some (stO s i g n) ∧ Scr K H s (ns.map V.int) ∧ 0 ≤ i ∧ 0 ≤ g ∧
  ∀ (r i' g' n' : Int) H', 0 ≤ i' → 0 ≤ g' → H' p = some (stO s i' g' n') → Keep [p] H H' → Q (.int r) H'
theorem ok_z_word {P : Program} {w : World} {K : PySem.W.Frag} {mg : Str → Option Value} {base : Heap} (Y : Env K mg) (G_z_pick : CallOk P w K mg base CX0 1 "_law_pick" ["_law_state", "_law_limit"] (sp_z_pick K)) : CallOk P w K mg base CX0 2 "_law_word" ["_law_state"] (sp_z_word K) := by
  obtain ⟨fd, F⟩ := Y.fd_z_word
  refine ⟨_, fd, Y.mg_z_word, F.kp, F.bindsN (fun _ _ _ _ _ _ us hl => match us, hl with | [_], _ => rfl), F.ok sc_z_word mk1_len (fun cdv A outer s H vs Q E hr h => ?_)⟩
  have hu := hu_room hr
  obtain ⟨_, rfl, p, sc, ns, i, g, n, rfl, hp, hs, hi, hg, k⟩ := h
  have hS : SH [p] H H [(p, .lst [.ref sc, .int i, .int g, .int n])] := SH.start1 hp
  refine ⟨_, PSs.nox (pss_cons (ps_set (i := 1) sc_z_word.nd rfl (Or.inl rfl) (pe_callG G_z_pick hr rfl pass0 (pa_cons (pv 0) (pa_cons pe_int pa_nil))))
  (pss_cons (ps_if (pt_cmpR (xEq hu) (pv 1) pe_int (nomark _)) (pss_one (ps_ret (pe_ix xIx (pe_lst (pa_cons pe_int (pa_cons (pe_un un_neg pe_int) (pa_cons pe_int (pa_cons (pe_un un_neg pe_int) pa_nil))))) (pe_callG G_z_pick hr rfl pass0 (pa_cons (pv 0) (pa_cons pe_int pa_nil))) (fun _ _ => rfl)))) pss_nil)
  (pss_cons (ps_if (pt_cmpR (xEq hu) (pv 1) pe_int (nomark _)) (pss_one (ps_ret (pe_op op_sub (pe_callG G_z_pick hr rfl pass0 (pa_cons (pv 0) (pa_cons pe_int pa_nil))) pe_int))) pss_nil)
  (pss_cons (ps_if (pt_cmpR (xEq hu) (pv 1) pe_int (nomark _)) (pss_one (ps_ret (pe_op op_sub (pe_callG G_z_pick hr rfl pass0 (pa_cons (pv 0) (pa_cons pe_int pa_nil))) pe_int))) pss_nil)
  (pss_one (ps_ret (pe_op op_sub (pe_callG G_z_pick hr rfl pass0 (pa_cons (pv 0) (pa_cons pe_int pa_nil))) pe_int))))))), ?_⟩
  rw [st_z_word]
  try simp only [cxK, cxK2]
  clear hu hr F
  repeat' walk_at "st"
  · exact k _ _ _ _ _ (by omega) (by omega) (hS.get 1 rfl) hS.kp
  all_goals exact k _ _ _ _ _ (by omega) (by omega) (hS.get 0 rfl) hS.kp
theorem c_z_word {K : PySem.W.Frag} {A : List Addr} {H0 H : Hp} {L : List Cell} {p s : Addr} {ns : List Int} {x g n : Int} {Q : VK} {E : XK} {i : Nat} (hS : SH A H0 H L) (e : L[i]? = some (p, stO s x g n)) (sc : Scr K H0 s (ns.map V.int)) (h0 : 0 ≤ x) (h1 : 0 ≤ g)
    (k : ∀ (r x' g' n' : Int) H', 0 ≤ x' → 0 ≤ g' → SH A H0 H' (L.set i (p, stO s x' g' n')) → Q (.int r) H') : sp_z_word K ([.ref p] ++ []) H Q E :=
  ⟨_, rfl, p, s, ns, x, g, n, rfl, hS.get i e, sc.keep hS.kp, h0, h1, fun r x' g' n' H' c d e' f => k r x' g' n' H' c d (hS.call1 i e rfl f e')⟩
local macro_rules | `(tactic| walk_at "st") => `(tactic| first
  | ((with_reducible show sp_z_word _ _ _ _ _); apply c_z_word hS; (· walk_at "ix"); (· assumption); (· walk_at "ar"); (· walk_at "ar"); intro r x1 g1 n1 H1 hx1 hg1 hS1; clear hS; rename SH _ _ _ _ => hS; simp only [List.set_cons_zero, List.set_cons_succ] at hS)
  | ((with_reducible show sp_z_is_integer _ _ _ _ _); refine ⟨_, rfl, _, rfl, ?_⟩))
def sp_z_fresh (K : PySem.W.Frag) : Sp := mk0 fun H Q _ => ∀ U H', SH [] H H' (mCells U TM.zero) → U.stU = [] → Q (.ref U.m) H'
theorem ok_z_fresh {P : Program} {w : World} {K : PySem.W.Frag} {mg : Str → Option Value} {base : Heap} (Y : Env K mg)  : CallOk P w K mg base CX0 1 "_law_fresh" [] (sp_z_fresh K) := by
  obtain ⟨fd, F⟩ := Y.fd_z_fresh
  refine ⟨_, fd, Y.mg_z_fresh, F.kp, F.bindsN (fun _ _ _ _ _ _ us hl => match us, hl with | [], _ => rfl), F.ok sc_z_fresh mk0_len (fun cdv A outer s H vs Q E hr h => ?_)⟩
  have hu := hu_room hr
  obtain ⟨rfl, k⟩ := h
  have hS : SH [] H H [] := SH.start0
  refine ⟨_, PSs.nox (pss_one (ps_ret (pe_lst (pa_cons (pe_op xMul (pe_lst (pa_cons pe_int pa_nil)) pe_int) (pa_cons (pe_lst (pa_cons (pe_op xMul (pe_lst (pa_cons pe_int pa_nil)) pe_int) (pa_cons (pe_op xMul (pe_lst (pa_cons pe_int pa_nil)) pe_int) pa_nil))) (pa_cons (pe_lst (pa_cons (pe_op xMul (pe_lst (pa_cons pe_int pa_nil)) pe_int) pa_nil)) pa_nil)))))), ?_⟩
  rw [st_z_fresh]
  try simp only [cxK, cxK2]
  clear hu hr F
  repeat' walk_at "st"
  exact k ⟨_, _, _, _, _, _, _, []⟩ _ (hS.pick [0, 9, 4, 1, 2, 7, 5] (by decide) rfl) rfl
def UA.grp (U : UA) (n : Int) : Addr := if n < 8 then U.mg else if n < 16 then U.q else if n < 24 then U.o else U.n
def sp_z_find (K : PySem.W.Frag) : Sp := mk2 fun a b H Q _ => ∃ (U : UA) (M : TM) (n : Int), a = .ref U.m ∧ b = .int n ∧ (∀ c ∈ mCells U M, H c.1 = some c.2) ∧ 0 ≤ n ∧ n < 32 ∧
  ∀ p H', Keep [] H H' → H p = none → H' p = some (.lst [.ref (U.grp n), .int (n % 8)]) → Q (.ref p) H'
theorem at_snoc2 (xs : List V) (a b : V) (n : Int) (h : n = xs.length) : atI (xs ++ [a, b]) n = some a := by
  subst h
  exact atI_nat (by simp)
theorem at_snoc2b (xs : List V) (a b : V) (n : Int) (h : n = (xs.length : Int) + 1) : atI (xs ++ [a, b]) n = some b := by
  have : n = ((xs.length + 1 : Nat) : Int) := by omega
  subst this
  exact atI_nat (by simp)
theorem at_snoc1 (xs : List V) (a : V) (n : Int) (h : n = xs.length) : atI (xs ++ [a]) n = some a := by
  subst h
  exact atI_nat (by simp)
local macro_rules | `(tactic| walk_at "at") => `(tactic| first | exact rfl | exact at_snoc1 _ _ _ (by simp only [List.length_map, List.length_append, List.length_cons, List.length_nil]; omega) | exact at_snoc2 _ _ _ _ (by simp only [List.length_map, List.length_append, List.length_cons, List.length_nil]; omega) | exact at_snoc2b _ _ _ _ (by simp only [List.length_map, List.length_append, List.length_cons, List.length_nil]; omega))
theorem ok_z_find {P : Program} {w : World} {K : PySem.W.Frag} {mg : Str → Option Value} {base : Heap} (Y : Env K mg)  : CallOk P w K mg base CX0 1 "_law_find" ["_law_model", "_law_number"] (sp_z_find K) := by
  obtain ⟨fd, F⟩ := Y.fd_z_find
  refine ⟨_, fd, Y.mg_z_find, F.kp, F.bindsN (fun _ _ _ _ _ _ us hl => match us, hl with | [_, _], _ => rfl), F.ok sc_z_find mk2_len (fun cdv A outer s H vs Q E hr h => ?_)⟩
  have hu := hu_room hr
  obtain ⟨_, _, rfl, U, M, n, rfl, rfl, hU, h0, h1, k⟩ := h
  have hS : SH [] H H [] := SH.start0
  have hu0 : H U.m = _ := hU _ (List.mem_cons_self ..)
  have hu1 : H U.mio = _ := hU _ (.tail _ (.tail _ (.head _)))
  have hu2 : H U.mloc = _ := hU _ (.tail _ (.tail _ (.tail _ (.head _))))
  unfold UA.grp at k
  refine ⟨_, PSs.nox (pss_cons (ps_set (i := 2) sc_z_find.nd rfl (Or.inl rfl) (pe_op op_sub (pe_callB x_len rfl Y.z_len (by decide +kernel) (pa_cons (pe_ix xIx (pv 0) pe_int (fun _ _ => rfl)) pa_nil)) pe_int))
  (pss_cons (ps_if (pt_cmpR op_lt (pv 1) pe_int (nomark _)) (pss_one (ps_ret (pe_lst (pa_cons (pe_ix xIx (pv 0) pe_int (fun _ _ => rfl)) (pa_cons (pv 1) pa_nil))))) pss_nil)
  (pss_cons (ps_if (pt_cmpR op_lt (pv 1) pe_int (nomark _)) (pss_one (ps_ret (pe_lst (pa_cons (pe_ix xIx (pe_ix xIx (pv 0) pe_int (fun _ _ => rfl)) (pe_op xAdd (pv 2) pe_int) (fun _ _ => rfl)) (pa_cons (pe_op op_sub (pv 1) pe_int) pa_nil))))) pss_nil)
  (pss_cons (ps_if (pt_cmpR op_lt (pv 1) pe_int (nomark _)) (pss_one (ps_ret (pe_lst (pa_cons (pe_ix xIx (pe_ix xIx (pv 0) pe_int (fun _ _ => rfl)) (pv 2) (fun _ _ => rfl)) (pa_cons (pe_op op_sub (pv 1) pe_int) pa_nil))))) pss_nil)
  (pss_one (ps_ret (pe_lst (pa_cons (pe_ix xIx (pe_ix xIx (pv 0) pe_int (fun _ _ => rfl)) (pv 2) (fun _ _ => rfl)) (pa_cons (pe_op op_sub (pv 1) pe_int) pa_nil))))))))), ?_⟩
  rw [st_z_find]
  try simp only [cxK, cxK2]
  clear hu hr F
  repeat' walk_at "st"
  · rw [if_pos hc] at k
    exact k _ _ hS.kp (hS.fr0 0 rfl) (by rw [show n % 8 = n by omega]; exact hS.get 0 rfl)
  · rw [if_neg (by omega), if_pos hc] at k
    exact k _ _ hS.kp (hS.fr0 0 rfl) (by rw [show n % 8 = n - 8 by omega]; exact hS.get 0 rfl)
  · rw [if_neg (by omega), if_neg (by omega), if_pos hc] at k
    exact k _ _ hS.kp (hS.fr0 0 rfl) (by rw [show n % 8 = n - 16 by omega]; exact hS.get 0 rfl)
  · rw [if_neg (by omega), if_neg (by omega), if_neg (by omega)] at k
    exact k _ _ hS.kp (hS.fr0 0 rfl) (by rw [show n % 8 = n - 24 by omega]; exact hS.get 0 rfl)
theorem c_z_find {K : PySem.W.Frag} {A : List Addr} {H0 H : Hp} {L : List Cell} {U : UA} {M : TM} {n : Int} {Q : VK} {E : XK} (hS : SH A H0 H L) (hU : ∀ c ∈ mCells U M, H c.1 = some c.2) (h0 : 0 ≤ n) (h1 : n < 32)
    (k : ∀ p H', SH A H0 H' ((p, .lst [.ref (U.grp n), .int (n % 8)]) :: L) → Q (.ref p) H') : sp_z_find K ([.ref U.m, .int n] ++ []) H Q E := ⟨_, _, rfl, U, M, n, rfl, rfl, hU, h0, h1, fun p H' kp nw e => k p H' (hS.call0n kp nw e)⟩
def sp_z_get (K : PySem.W.Frag) : Sp := mk2 fun a b H Q _ => ∃ (U : UA) (M : TM) (n : Int), a = .ref U.m ∧ b = .int n ∧ (∀ c ∈ mCells U M, H c.1 = some c.2) ∧ M.ok ∧ 0 ≤ n ∧ n < 32 ∧ ∀ H', Keep [] H H' → Q (.int (M.get n)) H'
theorem ok_z_get {P : Program} {w : World} {K : PySem.W.Frag} {mg : Str → Option Value} {base : Heap} (Y : Env K mg) (G_z_find : CallOk P w K mg base CX0 1 "_law_find" ["_law_model", "_law_number"] (sp_z_find K)) : CallOk P w K mg base CX0 2 "_law_get" ["_law_model", "_law_number"] (sp_z_get K) := by
  obtain ⟨fd, F⟩ := Y.fd_z_get
  refine ⟨_, fd, Y.mg_z_get, F.kp, F.bindsN (fun _ _ _ _ _ _ us hl => match us, hl with | [_, _], _ => rfl), F.ok sc_z_get mk2_len (fun cdv A outer s H vs Q E hr h => ?_)⟩
  have hu := hu_room hr
  obtain ⟨_, _, rfl, U, M, n, rfl, rfl, hU, ok, h0, h1, k⟩ := h
  have hS : SH [] H H [] := SH.start0
  have ht1 : H U.mg = _ := hU _ (.tail _ (.head _))
  have ht3 : H U.o = _ := hU _ (.tail _ (.tail _ (.tail _ (.tail _ (.head _)))))
  have ht4 : H U.n = _ := hU _ (.tail _ (.tail _ (.tail _ (.tail _ (.tail _ (.head _))))))
  have ht2 : H U.q = _ := hU _ (.tail _ (.tail _ (.tail _ (.tail _ (.tail _ (.tail _ (.head _)))))))
  obtain ⟨l1, l2, l3, l4, _⟩ := ok
  unfold TM.get TM.grp at k
  have hn : n < 8 ∨ (8 ≤ n ∧ n < 16) ∨ (16 ≤ n ∧ n < 24) ∨ 24 ≤ n := by omega
  refine ⟨_, PSs.nox (pss_cons (ps_set (i := 2) sc_z_get.nd rfl (Or.inl rfl) (pe_callG G_z_find hr rfl pass0 (pa_cons (pv 0) (pa_cons (pv 1) pa_nil))))
  (pss_one (ps_ret (pe_ix xIx (pe_ix xIx (pv 2) pe_int (fun _ _ => rfl)) (pe_ix xIx (pv 2) pe_int (fun _ _ => rfl)) (fun _ _ => rfl))))), ?_⟩
  rw [st_z_get]
  try simp only [cxK, cxK2]
  clear hu hr F
  repeat' walk_at "st"
  refine c_z_find hS hU h0 h1 (fun p H1 hS => ?_)
  unfold UA.grp at hS
  rcases hn with q | ⟨q1, q2⟩ | ⟨q1, q2⟩ | q
  · rw [if_pos q] at k hS
    repeat' walk_at "st"
    exact k _ hS.kp
  · rw [if_neg (by omega), if_pos q2] at k hS
    repeat' walk_at "st"
    exact k _ hS.kp
  · rw [if_neg (by omega), if_neg (by omega), if_pos q2] at k hS
    repeat' walk_at "st"
    exact k _ hS.kp
  · rw [if_neg (by omega), if_neg (by omega), if_neg (by omega)] at k hS
    repeat' walk_at "st"
    exact k _ hS.kp
def sp_z_set (K : PySem.W.Frag) : Sp := mk3 fun a b c H Q _ => ∃ (U : UA) (M : TM) (n w : Int), a = .ref U.m ∧ b = .int n ∧ c = .int w ∧ Blk H (mCells U M) ∧ M.ok ∧ 0 ≤ n ∧ n < 32 ∧ ∀ H', SH ((mCells U M).map (·.1)) H H' (mCells U (M.put n w)) → Q .non H'
theorem ok_z_set {P : Program} {w : World} {K : PySem.W.Frag} {mg : Str → Option Value} {base : Heap} (Y : Env K mg) (G_z_find : CallOk P w K mg base CX0 1 "_law_find" ["_law_model", "_law_number"] (sp_z_find K)) : CallOk P w K mg base CX0 2 "_law_set" ["_law_model", "_law_number", "_law_word_here"] (sp_z_set K) := by
  obtain ⟨fd, F⟩ := Y.fd_z_set
  refine ⟨_, fd, Y.mg_z_set, F.kp, F.bindsN (fun _ _ _ _ _ _ us hl => match us, hl with | [_, _, _], _ => rfl), F.ok sc_z_set mk3_len (fun cdv A outer s H vs Q E hr h => ?_)⟩
  have hu := hu_room hr
  obtain ⟨_, _, _, rfl, U, M, n, w, rfl, rfl, rfl, hB, ok, h0, h1, k⟩ := h
  have hS := hB.sh
  have hU := hB.hs
  obtain ⟨l1, l2, l3, l4, _⟩ := ok
  unfold TM.put at k
  have hn : n < 8 ∨ (8 ≤ n ∧ n < 16) ∨ (16 ≤ n ∧ n < 24) ∨ 24 ≤ n := by omega
  refine ⟨_, PSs.nox (pss_cons (ps_set (i := 3) sc_z_set.nd rfl (Or.inl rfl) (pe_callG G_z_find hr rfl pass0 (pa_cons (pv 0) (pa_cons (pv 1) pa_nil))))
  (pss_cons (ps_set (i := 4) sc_z_set.nd rfl (Or.inl rfl) (pe_ix xIx (pv 3) pe_int (fun _ _ => rfl)))
  (pss_one (ps_if (pt_cmpR op_gt (pv 1) pe_int (nomark _)) (pss_one (ps_asg (pv 2) (pg_sub (pv 4) (pe_ix xIx (pv 3) pe_int (fun _ _ => rfl)) set_list))) pss_nil)))), ?_⟩
  rw [st_z_set]
  try simp only [cxK, cxK2]
  clear hu hr F
  repeat' walk_at "st"
  refine c_z_find hS hU h0 h1 (fun p H1 hS => ?_)
  repeat' walk_at "st"
  · rw [if_neg (by omega)] at k
    unfold UA.grp at hS ⊢
    rcases hn with q | ⟨q1, q2⟩ | ⟨q1, q2⟩ | q
    · rw [if_pos q] at k hS ⊢
      repeat' walk_at "st"
      exact k _ hS.drop1
    · rw [if_neg (by omega), if_pos q2] at k hS ⊢
      repeat' walk_at "st"
      exact k _ hS.drop1
    · rw [if_neg (by omega), if_neg (by omega), if_pos q2] at k hS ⊢
      repeat' walk_at "st"
      exact k _ hS.drop1
    · rw [if_neg (by omega), if_neg (by omega), if_neg (by omega)] at k hS ⊢
      repeat' walk_at "st"
      exact k _ hS.drop1
  · rw [if_pos (by omega)] at k
    exact k _ hS.drop1
theorem stmCells_snoc : ∀ (as : List (Addr × Addr)) (ps : List (List Int × List Int)) (a : Addr × Addr) (p : List Int × List Int), as.length = ps.length → stmCells (as ++ [a]) (ps ++ [p]) = stmCells as ps ++ [(a.1, .lst (p.1.map V.int)), (a.2, .lst (p.2.map V.int))]
  | [], [], _, _, _ => rfl
  | a :: as, p :: ps, b, q, h => by
    show _ :: _ :: stmCells (as ++ [b]) (ps ++ [q]) = _
    rw [stmCells_snoc as ps b q (by simpa using h)]
    rfl
def sp_z_down (K : PySem.W.Frag) : Sp := mk1 fun a H Q _ => ∃ (U : UA) (M : TM), a = .ref U.m ∧ Blk H (mCells U M) ∧ U.stU.length = M.st.length ∧ M.st.length ≤ 100000 ∧
  ∀ U' H', SH ((mCells U M).map (·.1)) H H' (mCells U' M.down) → U'.m = U.m → U'.stU.length = M.st.length + 1 → Q .non H'
theorem SH_mdown {A : List Addr} {H0 H : Hp} {U : UA} {M : TM} {p q : Addr} (hl : U.stU.length = M.st.length)
    (h : SH A H0 H ([(U.m, .lst [.ref U.mg, .ref U.mio, .ref U.mloc]), (U.mg, .lst (M.g.map V.int)), (U.mio, .lst ((U.stU.map (fun a => V.ref a.2) ++ [.ref U.n, .ref U.q]) ++ [.ref q])), (U.mloc, .lst ((U.stU.map (fun a => V.ref a.1) ++ [.ref U.o]) ++ [.ref p])),
      (p, .lst (List.replicate 8 (V.int 0))), (U.q, .lst (M.outs.map V.int)), (q, .lst (List.replicate 8 (V.int 0)))] ++ (stmCells U.stU M.st ++ [(U.o, .lst (M.own.map V.int)), (U.n, .lst (M.ins.map V.int))]))) :
    SH A H0 H (mCells ⟨U.m, U.mg, U.mio, U.mloc, p, U.q, q, U.stU ++ [(U.o, U.n)]⟩ M.down) := by
  have e := stmCells_snoc U.stU M.st (U.o, U.n) (M.own, M.ins) hl
  unfold mCells TM.down
  dsimp only
  rw [e, List.map_append, List.map_append]
  simpa using h
theorem ok_z_down {P : Program} {w : World} {K : PySem.W.Frag} {mg : Str → Option Value} {base : Heap} (Y : Env K mg)  : CallOk P w K mg base CX0 1 "_law_down" ["_law_model"] (sp_z_down K) := by
  obtain ⟨fd, F⟩ := Y.fd_z_down
  refine ⟨_, fd, Y.mg_z_down, F.kp, F.bindsN (fun _ _ _ _ _ _ us hl => match us, hl with | [_], _ => rfl), F.ok sc_z_down mk1_len (fun cdv A outer s H vs Q E hr h => ?_)⟩
  have hu := hu_room hr
  obtain ⟨_, rfl, U, M, rfl, hB, hl, hz, k⟩ := h
  have hS := hB.sh
  refine ⟨_, PSs.nox (pss_cons (ps_expr (pe_bm PySem.F.plainAttrs_list PySem.F.slot_list_append PySem.F.type_list_append mt_append (pe_ix xIx (pv 0) pe_int (fun _ _ => rfl)) (pa_cons (pe_op xMul (pe_lst (pa_cons pe_int pa_nil)) pe_int) pa_nil)))
  (pss_one (ps_expr (pe_bm PySem.F.plainAttrs_list PySem.F.slot_list_append PySem.F.type_list_append mt_append (pe_ix xIx (pv 0) pe_int (fun _ _ => rfl)) (pa_cons (pe_op xMul (pe_lst (pa_cons pe_int pa_nil)) pe_int) pa_nil))))), ?_⟩
  rw [st_z_down]
  try simp only [cxK, cxK2]
  clear hu hr F
  repeat' walk_at "st"
  have h1 := hS.pickT 11 [4, 5, 6, 7, 0, 10, 2, 8, 9] (by decide) (by decide) (L' := [(U.m, _), (U.mg, _), (U.mio, _), (U.mloc, _), (_, _), (U.q, _), (_, _)] ++ [(U.o, _), (U.n, _)]) rfl
  have h2 := h1.perm (perm_mid _ _ _)
  exact k _ _ (SH_mdown hl h2) rfl (by simp [hl])
def sp_z_up (K : PySem.W.Frag) : Sp := mk1 fun a H Q _ => ∃ (U : UA) (M : TM) (as : List (Addr × Addr)) (x : Addr × Addr) (st : List (List Int × List Int)) (y : List Int × List Int), a = .ref U.m ∧ Blk H (mCells U M) ∧ U.stU = as ++ [x] ∧ M.st = st ++ [y] ∧ as.length = st.length ∧
  ∀ U' H', SH ((mCells U M).map (·.1)) H H' (mCells U' ⟨M.g, st, y.1, y.2, M.ins⟩) → U'.m = U.m → U'.stU.length = st.length → Q .non H'
theorem ok_z_up {P : Program} {w : World} {K : PySem.W.Frag} {mg : Str → Option Value} {base : Heap} (Y : Env K mg)  : CallOk P w K mg base CX0 1 "_law_up" ["_law_model"] (sp_z_up K) := by
  obtain ⟨fd, F⟩ := Y.fd_z_up
  refine ⟨_, fd, Y.mg_z_up, F.kp, F.bindsN (fun _ _ _ _ _ _ us hl => match us, hl with | [_], _ => rfl), F.ok sc_z_up mk1_len (fun cdv A outer s H vs Q E hr h => ?_)⟩
  have hu := hu_room hr
  obtain ⟨_, rfl, U, M, as, x, st, y, rfl, hB, ea, es, hl, k⟩ := h
  have hS := hB.sh
  have eq : mCells U M = (U.m, .lst [.ref U.mg, .ref U.mio, .ref U.mloc]) :: (U.mg, .lst (M.g.map V.int)) :: (U.mio, .lst ((as.map (fun a => V.ref a.2) ++ [.ref x.2, .ref U.n]) ++ [.ref U.q])) :: (U.mloc, .lst ((as.map (fun a => V.ref a.1) ++ [.ref x.1]) ++ [.ref U.o])) ::
    (U.o, .lst (M.own.map V.int)) :: (U.n, .lst (M.ins.map V.int)) :: (U.q, .lst (M.outs.map V.int)) :: (stmCells as st ++ [(x.1, .lst (y.1.map V.int)), (x.2, .lst (y.2.map V.int))]) := by
    unfold mCells
    rw [ea, es, stmCells_snoc _ _ _ _ hl, List.map_append, List.map_append]
    simp
  rw [eq] at hS k
  refine ⟨_, PSs.nox (pss_cons (ps_expr (pe_bm0 PySem.F.plainAttrs_list PySem.F.slot_list_pop PySem.F.type_list_pop mt_pop (pe_ix xIx (pv 0) pe_int (fun _ _ => rfl))))
  (pss_one (ps_expr (pe_bm0 PySem.F.plainAttrs_list PySem.F.slot_list_pop PySem.F.type_list_pop mt_pop (pe_ix xIx (pv 0) pe_int (fun _ _ => rfl)))))), ?_⟩
  rw [st_z_up]
  try simp only [cxK, cxK2]
  clear hu hr F
  repeat' walk_at "st"
  have h1 := hS.perm (perm_mid [_, _, _, _, _, _, _] [_, _] (stmCells as st)).symm
  have h2 := h1.pickT 9 [0, 1, 2, 3, 7, 8, 5] (by decide) (by decide) (L' := [(U.m, _), (U.mg, _), (U.mio, _), (U.mloc, _), (x.1, _), (x.2, _), (U.n, _)]) rfl
  exact k ⟨U.m, U.mg, U.mio, U.mloc, x.1, x.2, U.n, as⟩ _ h2 rfl hl
theorem c_Tower_read {K : PySem.W.Frag} {A : List Addr} {H0 H : Hp} {L : List Cell} {T : TA} {M : TM} {n : Int} {Q : VK} {E : XK} (hS : SH A H0 H L) (hT : ∀ c ∈ tCells K T M, H c.1 = some c.2) (ok : M.ok) (h0 : 0 ≤ n) (h1 : n < 32)
    (k : ∀ H', SH A H0 H' L → Keep [] H H' → Q (.int (M.get n)) H') : sp_Tower_read K (.ref T.t :: ([.int n] ++ [])) H Q E := ⟨_, _, rfl, T, M, n, rfl, rfl, hT, ok, h0, h1, fun H' kp => k H' (hS.call0 kp) kp⟩
theorem c_z_get {K : PySem.W.Frag} {A : List Addr} {H0 H : Hp} {L : List Cell} {U : UA} {M : TM} {n : Int} {Q : VK} {E : XK} (hS : SH A H0 H L) (hU : ∀ c ∈ mCells U M, H c.1 = some c.2) (ok : M.ok) (h0 : 0 ≤ n) (h1 : n < 32)
    (k : ∀ H', SH A H0 H' L → Keep [] H H' → Q (.int (M.get n)) H') : sp_z_get K ([.ref U.m, .int n] ++ []) H Q E := ⟨_, _, rfl, U, M, n, rfl, rfl, hU, ok, h0, h1, fun H' kp => k H' (hS.call0 kp) kp⟩
local macro_rules | `(tactic| walk_at "st") => `(tactic| first
  | ((with_reducible show sp_Tower_blocked_down _ _ _ _ _); refine ⟨_, rfl, ?_⟩)
  | ((with_reducible show sp_Tower_blocked_up _ _ _ _ _); refine ⟨_, rfl, ?_⟩))
theorem stay {H H' : Hp} {L : List Cell} (h : ∀ c ∈ L, H c.1 = some c.2) (k : Keep [] H H') : ∀ c ∈ L, H' c.1 = some c.2 := fun c hc => k.k _ _ (h c hc) (.inl fun z => nomatch z)
def sp_z_reads (K : PySem.W.Frag) : Sp := mk2 fun a b H Q _ => ∃ (T : TA) (U : UA) (M : TM), a = .ref T.t ∧ b = .ref U.m ∧ (∀ c ∈ tCells K T M, H c.1 = some c.2) ∧ (∀ c ∈ mCells U M, H c.1 = some c.2) ∧ M.ok ∧ U.stU.length = M.st.length ∧ ∀ H', Keep [] H H' → Q (.bl true) H'
theorem ok_z_reads {P : Program} {w : World} {K : PySem.W.Frag} {mg : Str → Option Value} {base : Heap} (Y : Env K mg) (G_Tower_blocked_down : MethOk P w K mg base CX0 1 "Tower" "blocked_down" ["self"] (sp_Tower_blocked_down K)) (G_Tower_blocked_up : MethOk P w K mg base CX0 1 "Tower" "blocked_up" ["self"] (sp_Tower_blocked_up K)) (G_Tower_read : MethOk P w K mg base CX0 2 "Tower" "read" ["self", "number"] (sp_Tower_read K)) (G_z_get : CallOk P w K mg base CX0 2 "_law_get" ["_law_model", "_law_number"] (sp_z_get K)) (G_z_is_integer : CallOk P w K mg base CX0 1 "_law_is_integer" ["_law_actual"] (sp_z_is_integer K)) : CallOk P w K mg base CX0 3 "_law_reads" ["_law_tower", "_law_model"] (sp_z_reads K) := by
  obtain ⟨fd, F⟩ := Y.fd_z_reads
  refine ⟨_, fd, Y.mg_z_reads, F.kp, F.bindsN (fun _ _ _ _ _ _ us hl => match us, hl with | [_, _], _ => rfl), F.ok sc_z_reads mk2_len (fun cdv A outer s H vs Q E hr h => ?_)⟩
  have hu := hu_room hr
  obtain ⟨_, _, rfl, T, U, M, rfl, rfl, hT, hU, ok, hl, k⟩ := h
  have hS : SH [] H H [] := SH.start0
  have ht : H T.t = _ := hT _ (List.mem_cons_self ..)
  have hu0 : H U.m = _ := hU _ (List.mem_cons_self ..)
  have hu2 : H U.mloc = _ := hU _ (.tail _ (.tail _ (.tail _ (.head _))))
  refine ⟨_, PSs.nox (pss_cons (ps_for PassesOwn.never rfl (pi_range1 rfl Y.z_range (pa_cons pe_int pa_nil)) (pg_name (i := 2) sc_z_reads.nd rfl (Or.inl rfl))
  (pss_cons (ps_set (i := 3) sc_z_reads.nd rfl (Or.inl rfl) (pe_methG (pv 0) G_Tower_read hr pass0 (pa_cons (pv 2) pa_nil)))
  (pss_one (ps_if (PW.pt (pw_or (pt_not (pt_val (pe_callG G_z_is_integer (hr.mono (by decide)) rfl pass0 (pa_cons (pv 3) pa_nil)))) (pw_or1 (pt_cmpR (xNe hu) (pv 3) (pe_callG G_z_get hr rfl pass0 (pa_cons (pv 1) (pa_cons (pv 2) pa_nil))) (nomark _))))) (pss_one (ps_ret pe_bl)) pss_nil))))
  (pss_cons (ps_if (PW.pt (pw_or (pt_cmpR xIsNot (pe_methG0 (pv 0) G_Tower_blocked_down (hr.mono (by decide)) pass0) pe_bl (nomark _)) (pw_or1 (pt_cmpR xIsNot (pe_methG0 (pv 0) G_Tower_blocked_up (hr.mono (by decide)) pass0) pe_bl (nomark _))))) (pss_one (ps_ret pe_bl)) pss_nil)
  (pss_cons (ps_set (i := 4) sc_z_reads.nd rfl (Or.inl rfl) (pe_lst (pa_cons (pe_fld (pv 0) rfl) (pa_cons (pe_fld (pv 0) rfl) (pa_cons (pe_fld (pv 0) rfl) pa_nil)))))
  (pss_cons (ps_for PassesOwn.never rfl (pi_list (pv 4)) (pg_name (i := 2) sc_z_reads.nd rfl (Or.inl rfl))
  (pss_one (ps_if (pt_not (pt_val (pe_callG G_z_is_integer (hr.mono (by decide)) rfl pass0 (pa_cons (pv 2) pa_nil)))) (pss_one (ps_ret pe_bl)) pss_nil)))
  (pss_one (ps_ret (pe_cmpR (xEq hu) (pv 4) (pe_lst (pa_cons (pe_op op_sub (pe_callB x_len rfl Y.z_len (by decide +kernel) (pa_cons (pe_ix xIx (pv 1) pe_int (fun _ _ => rfl)) pa_nil)) pe_int) (pa_cons pe_int (pa_cons pe_int pa_nil)))) (nomark _)))))))), ?_⟩
  rw [st_z_reads]
  try simp only [cxK, cxK2]
  clear hu hr F
  repeat' walk_at "st"
  refine u_forR1 (fun _ σ H' => ∃ v w x, σ = [some (.ref T.t), some (.ref U.m), v, w, x] ∧ SH [] H H' []) (by omega) (by omega) ⟨_, _, _, rfl, hS⟩ ?_ ?_
  · rintro i σ H2 hi ⟨v, w, x, rfl, hS⟩
    repeat' walk_at "st"
    refine c_Tower_read hS (stay hT hS.kp) ok (by omega) (by omega) (fun H3 hS _ => ?_)
    repeat' walk_at "st"
    refine c_z_get hS (stay hU hS.kp) ok (by omega) (by omega) (fun H3 hS _ => ?_)
    repeat' walk_at "st"
    exact ⟨_, _, _, rfl, hS⟩
  · rintro σ H2 ⟨v, w, x, rfl, hS⟩
    repeat' walk_at "st"
    refine u_forL (xs := [.int (M.st.length : Nat), .int 0, .int 0]) (fun _ σ H' => ∃ v, σ = [some (.ref T.t), some (.ref U.m), v, w, some (.ref p)] ∧ SH [] H H' [(p, .lst [.int (M.st.length : Nat), .int 0, .int 0])]) (SqL.of (hS.get 0 rfl)) ⟨_, rfl, hS⟩ (fun i σ H' _ h => by obtain ⟨_, _, hS⟩ := h; exact SqL.of (hS.get 0 rfl)) ?_ ?_
    · rintro i x σ H3 hi ⟨v, rfl, hS⟩
      have hx : ∃ j : Int, x = .int j := by
        rcases i with _ | _ | _ | i
        all_goals simp at hi
        all_goals exact ⟨_, hi.symm⟩
      obtain ⟨j, rfl⟩ := hx
      repeat' walk_at "st"
      exact ⟨_, rfl, hS⟩
    · rintro σ H3 ⟨v, rfl, hS⟩
      repeat' walk_at "st"
      refine s_eqLI (ns := [(M.st.length : Nat), 0, 0]) (ms := [_, 0, 0]) (SqL.of (hS.get 1 rfl)) (SqL.of (hS.get 0 rfl)) ?_
      rw [decide_eq_true (by simp [hl])]
      exact k _ hS.kp
theorem c_z_reads {K : PySem.W.Frag} {A : List Addr} {H0 H : Hp} {L : List Cell} {T : TA} {U : UA} {M : TM} {Q : VK} {E : XK} (hS : SH A H0 H L) (hT : ∀ c ∈ tCells K T M, H c.1 = some c.2) (hU : ∀ c ∈ mCells U M, H c.1 = some c.2) (ok : M.ok) (hl : U.stU.length = M.st.length)
    (k : ∀ H', SH A H0 H' L → Q (.bl true) H') : sp_z_reads K ([.ref T.t, .ref U.m] ++ []) H Q E := ⟨_, _, rfl, T, U, M, rfl, rfl, hT, hU, ok, hl, fun H' kp => k H' (hS.call0 kp)⟩
/-- a tower and its model, side by side -/
abbrev pCells (K : PySem.W.Frag) (T : TA) (U : UA) (M : TM) : List Cell := tCells K T M ++ mCells U M
structure Pair (T : TA) (U : UA) (M : TM) (n : Nat) : Prop where
  ok : M.ok
  t : T.stA.length = M.st.length
  u : U.stU.length = M.st.length
  d : M.st.length ≤ n
theorem mem_l {L F : List Cell} {H : Hp} (h : ∀ c ∈ L ++ F, H c.1 = some c.2) : ∀ c ∈ L, H c.1 = some c.2 := fun c hc => h c (List.mem_append_left _ hc)
theorem mem_r {L F : List Cell} {H : Hp} (h : ∀ c ∈ L ++ F, H c.1 = some c.2) : ∀ c ∈ F, H c.1 = some c.2 := fun c hc => h c (List.mem_append_right _ hc)
def sp_z_deed (K : PySem.W.Frag) : Sp := mk3 fun a b c H Q _ => ∃ (p s : Addr) (ns : List Int) (i g n : Int) (T : TA) (U : UA) (M : TM) (d : Nat), a = .ref p ∧ b = .ref T.t ∧ c = .ref U.m ∧ Blk H ((p, stO s i g n) :: pCells K T U M) ∧ Scr K H s (ns.map V.int) ∧ 0 ≤ i ∧ 0 ≤ g ∧ Pair T U M d ∧ d ≤ 1000 ∧
  ∀ T' U' M' (i' g' n' : Int) H', SH (((p, stO s i g n) :: pCells K T U M).map (·.1)) H H' ((p, stO s i' g' n') :: pCells K T' U' M') → 0 ≤ i' → 0 ≤ g' → Pair T' U' M' (d + 1) → T'.t = T.t → U'.m = U.m → Q (.bl true) H'
theorem gm {K : PySem.W.Frag} {A : List Addr} {H0 H : Hp} {c : Cell} {T : TA} {U : UA} {M N : TM} (hS : SH A H0 H (c :: (tCells K T M ++ mCells U N))) : H U.m = some (.lst [.ref U.mg, .ref U.mio, .ref U.mloc]) ∧ H U.mloc = some (.lst (U.stU.map (fun a => V.ref a.1) ++ [.ref U.o])) :=
  ⟨hS.hs (U.m, _) (List.mem_cons_of_mem _ (List.mem_append_right _ (List.mem_cons_self ..))), hS.hs (U.mloc, _) (List.mem_cons_of_mem _ (List.mem_append_right _ (.tail _ (.tail _ (.tail _ (.head _))))))⟩
theorem snoc_of_pos {α : Type} {l : List α} (h : 0 < l.length) : ∃ as x, l = as ++ [x] := by
  rcases List.eq_nil_or_concat l with e | ⟨as, x, e⟩
  · rw [e] at h; simp at h
  · exact ⟨as, x, by rw [e]; simp⟩
local macro_rules | `(tactic| walk_at "hp") => `(tactic| first | exact (gm hS).1 | exact (gm hS).2)
theorem ok_z_deed {P : Program} {w : World} {K : PySem.W.Frag} {mg : Str → Option Value} {base : Heap} (Y : Env K mg) (G_Tower_read : MethOk P w K mg base CX0 2 "Tower" "read" ["self", "number"] (sp_Tower_read K)) (G_Tower_shift_down : MethOk P w K mg base CX0 1 "Tower" "shift_down" ["self"] (sp_Tower_shift_down K)) (G_Tower_shift_up : MethOk P w K mg base CX0 1 "Tower" "shift_up" ["self"] (sp_Tower_shift_up K)) (G_Tower_write : MethOk P w K mg base CX0 2 "Tower" "write" ["self", "number", "word"] (sp_Tower_write K)) (G_z_down : CallOk P w K mg base CX0 1 "_law_down" ["_law_model"] (sp_z_down K)) (G_z_get : CallOk P w K mg base CX0 2 "_law_get" ["_law_model", "_law_number"] (sp_z_get K)) (G_z_is_integer : CallOk P w K mg base CX0 1 "_law_is_integer" ["_law_actual"] (sp_z_is_integer K)) (G_z_pick : CallOk P w K mg base CX0 1 "_law_pick" ["_law_state", "_law_limit"] (sp_z_pick K)) (G_z_reads : CallOk P w K mg base CX0 3 "_law_reads" ["_law_tower", "_law_model"] (sp_z_reads K)) (G_z_set : CallOk P w K mg base CX0 2 "_law_set" ["_law_model", "_law_number", "_law_word_here"] (sp_z_set K)) (G_z_up : CallOk P w K mg base CX0 1 "_law_up" ["_law_model"] (sp_z_up K)) (G_z_word : CallOk P w K mg base CX0 2 "_law_word" ["_law_state"] (sp_z_word K)) : CallOk P w K mg base CX0 4 "_law_deed" ["_law_state", "_law_tower", "_law_model"] (sp_z_deed K) := by
  obtain ⟨fd, F⟩ := Y.fd_z_deed
  refine ⟨_, fd, Y.mg_z_deed, F.kp, F.bindsN (fun _ _ _ _ _ _ us hl => match us, hl with | [_, _, _], _ => rfl), F.ok sc_z_deed mk3_len (fun cdv A outer s H vs Q E hr h => ?_)⟩
  have hu := hu_room hr
  obtain ⟨_, _, _, rfl, p, sc, ns, i, g, n, T, U, M, d, rfl, rfl, rfl, hB, hs, hi, hg, P, hd, k⟩ := h
  have hS := hB.sh
  obtain ⟨ok, lt, lu, ld⟩ := id P
  refine ⟨_, PSs.nox (pss_cons (ps_set (i := 3) sc_z_deed.nd rfl (Or.inl rfl) (pe_callG G_z_pick (hr.mono (by decide)) rfl pass0 (pa_cons (pv 0) (pa_cons pe_int pa_nil))))
  (pss_cons (ps_if (pt_cmpR op_lt (pv 3) pe_int (nomark _)) (pss_cons (ps_expr (pe_callG G_z_down (hr.mono (by decide)) rfl pass0 (pa_cons (pv 2) pa_nil)))
  (pss_one (ps_ret (pe_cmpR xIs (pe_methG0 (pv 1) G_Tower_shift_down (hr.mono (by decide)) pass0) pe_non (nomark _))))) pss_nil)
  (pss_cons (ps_if (PW.pt (pw_and (pt_cmpR (xEq hu) (pv 3) pe_int (nomark _)) (pw_and1 (pt_cmpR op_gt (pe_callB x_len rfl Y.z_len (by decide +kernel) (pa_cons (pe_ix xIx (pv 2) pe_int (fun _ _ => rfl)) pa_nil)) pe_int (nomark _))))) (pss_cons (ps_expr (pe_callG G_z_up (hr.mono (by decide)) rfl pass0 (pa_cons (pv 2) pa_nil)))
  (pss_one (ps_ret (pe_cmpR xIs (pe_methG0 (pv 1) G_Tower_shift_up (hr.mono (by decide)) pass0) pe_non (nomark _))))) pss_nil)
  (pss_cons (ps_set (i := 4) sc_z_deed.nd rfl (Or.inl rfl) (pe_callG G_z_pick (hr.mono (by decide)) rfl pass0 (pa_cons (pv 0) (pa_cons pe_int pa_nil))))
  (pss_cons (ps_if (pt_cmpR op_lt (pv 3) pe_int (nomark _)) (pss_cons (ps_set (i := 5) sc_z_deed.nd rfl (Or.inl rfl) (pe_callG G_z_word (hr.mono (by decide)) rfl pass0 (pa_cons (pv 0) pa_nil)))
  (pss_cons (ps_expr (pe_callG G_z_set (hr.mono (by decide)) rfl pass0 (pa_cons (pv 2) (pa_cons (pv 4) (pa_cons (pv 5) pa_nil)))))
  (pss_one (ps_ret (pe_cmpR xIs (pe_methG (pv 1) G_Tower_write (hr.mono (by decide)) pass0 (pa_cons (pv 4) (pa_cons (pv 5) pa_nil))) pe_non (nomark _)))))) pss_nil)
  (pss_cons (ps_if (pt_cmpR (xEq hu) (pv 3) pe_int (nomark _)) (pss_one (ps_ret (pe_callG G_z_reads hr rfl pass0 (pa_cons (pv 1) (pa_cons (pv 2) pa_nil))))) pss_nil)
  (pss_cons (ps_set (i := 5) sc_z_deed.nd rfl (Or.inl rfl) (pe_methG (pv 1) G_Tower_read (hr.mono (by decide)) pass0 (pa_cons (pv 4) pa_nil)))
  (pss_one (ps_ret (pe_and (pe_callG G_z_is_integer (hr.mono (by decide)) rfl pass0 (pa_cons (pv 5) pa_nil)) (pe_one (pe_cmpR (xEq hu) (pv 5) (pe_callG G_z_get (hr.mono (by decide)) rfl pass0 (pa_cons (pv 2) (pa_cons (pv 4) pa_nil))) (nomark _))))))))))))), ?_⟩
  rw [st_z_deed]
  try simp only [cxK, cxK2]
  clear hu hr F
  repeat' walk_at "st"
  · refine ⟨_, rfl, U, M, rfl, SH.blkR ((p, _) :: tCells K T M) _ hS, lu, by omega, fun U' H2 C eu lu' => ?_⟩
    have hS := SH.callR (F := (p, _) :: tCells K T M) hS C
    repeat' walk_at "st"
    refine ⟨_, rfl, T, M, rfl, SH.blkM [(p, _)] (tCells K T M) (mCells U' M.down) hS, ok, lt, by omega, fun T' H3 C2 et lt' => ?_⟩
    have hS := SH.callM (F := [(p, _)]) hS C2
    repeat' walk_at "st"
    exact k T' U' M.down _ _ _ _ hS (by omega) (by omega) ⟨TM.down_ok ok, by rw [lt']; simp [TM.down], by rw [lu']; simp [TM.down], by simp [TM.down]; omega⟩ et eu
  · have hp : 0 < M.st.length := by simp only [List.length_append, List.length_map, List.length_cons, List.length_nil] at *; omega
    obtain ⟨st, y, es⟩ := snoc_of_pos hp
    obtain ⟨us, xu, eu⟩ := snoc_of_pos (l := U.stU) (by omega)
    obtain ⟨ts, xt, et⟩ := snoc_of_pos (l := T.stA) (by omega)
    have hy : y.1.length = 8 ∧ y.2.length = 8 := ok.st y (by rw [es]; simp)
    have l1 : us.length = st.length := by rw [es, eu] at lu; simpa using lu
    have l2 : ts.length = st.length := by rw [es, et] at lt; simpa using lt
    have l3 : st.length + 1 = M.st.length := by rw [es]; simp
    refine ⟨_, rfl, U, M, us, xu, st, y, rfl, SH.blkR ((p, _) :: tCells K T M) _ hS, eu, es, l1, fun U' H2 C eu lu' => ?_⟩
    have hS := SH.callR (F := (p, _) :: tCells K T M) hS C
    repeat' walk_at "st"
    refine ⟨_, rfl, T, M, ts, xt, st, y, rfl, SH.blkM [(p, _)] (tCells K T M) (mCells U' _) hS, et, es, l2, fun T' H3 C2 et lt' => ?_⟩
    have hS := SH.callM (F := [(p, _)]) hS C2
    repeat' walk_at "st"
    exact k T' U' _ _ _ _ _ hS (by omega) (by omega) ⟨⟨ok.g, hy.1, hy.2, ok.ins, fun q hq => ok.st q (by rw [es]; exact List.mem_append_left _ hq)⟩, lt', lu', by show st.length ≤ _; omega⟩ et eu
  rotate_left 2
  · refine c_z_reads hS (fun c hc => hS.hs c (List.mem_cons_of_mem _ (List.mem_append_left _ hc))) (fun c hc => hS.hs c (List.mem_cons_of_mem _ (List.mem_append_right _ hc))) ok lu (fun H2 hS => ?_)
    exact k T U M _ _ _ _ hS (by omega) (by omega) ⟨ok, lt, lu, by omega⟩ rfl rfl
  · refine c_Tower_read hS (fun c hc => hS.hs c (List.mem_cons_of_mem _ (List.mem_append_left _ hc))) ok (by omega) (by omega) (fun H2 hS _ => ?_)
    repeat' walk_at "st"
    refine c_z_get hS (fun c hc => hS.hs c (List.mem_cons_of_mem _ (List.mem_append_right _ hc))) ok (by omega) (by omega) (fun H2 hS _ => ?_)
    repeat' walk_at "st"
    rw [decide_eq_true rfl]
    exact k T U M _ _ _ _ hS (by omega) (by omega) ⟨ok, lt, lu, by omega⟩ rfl rfl
  all_goals
    refine ⟨_, _, _, rfl, U, M, _, _, rfl, rfl, rfl, SH.blkR ((p, _) :: tCells K T M) _ hS, ok, by omega, by omega, fun H2 C => ?_⟩
    have hS := SH.callR (F := (p, _) :: tCells K T M) hS C
    repeat' walk_at "st"
    refine ⟨_, _, _, rfl, T, M, _, _, rfl, rfl, rfl, SH.blkM [(p, _)] (tCells K T M) (mCells U _) hS, ok, by omega, by omega, fun H3 C2 => ?_⟩
    have hS := SH.callM (F := [(p, _)]) hS C2
    repeat' walk_at "st"
    exact k T U _ _ _ _ _ hS (by omega) (by omega) ⟨TM.put_ok ok _ _, by rw [TM.put_st]; exact lt, by rw [TM.put_st]; exact lu, by rw [TM.put_st]; omega⟩ rfl rfl
def sp_law (K : PySem.W.Frag) : Sp := mk1 fun a H Q _ => ∃ (s : Addr) (ns : List Int), a = .ref s ∧ Scr K H s (ns.map V.int) ∧ ∀ H', Q (.bl true) H'
theorem perm_of_count {α : Type} {l1 l2 : List α} (h : ∀ (_ : DecidableEq α) (a : α), l1.count a = l2.count a) : l1.Perm l2 := by
  classical
  exact List.perm_iff_count.mpr (h _)
theorem perm_start {α : Type} (md tw p : α) (A0 A1 B0 B1 : List α) : (md :: (B1 ++ (B0 ++ (tw :: (A1 ++ (A0 ++ [p])))))).Perm (p :: tw :: md :: ((A0 ++ B0) ++ (A1 ++ B1))) :=
  perm_of_count fun _ a => by simp only [List.count_append, List.count_cons, List.count_nil]; omega
theorem perm_a {α : Type} (p tw md : α) (A B : List α) : (p :: tw :: md :: (A ++ B)).Perm ((p :: A) ++ (tw :: md :: B)) :=
  perm_of_count fun _ a => by simp only [List.count_append, List.count_cons, List.count_nil]; omega
theorem perm_b {α : Type} (p tw md : α) (A B : List α) : (p :: tw :: md :: (A ++ B)).Perm ((p :: B) ++ (tw :: md :: A)) :=
  perm_of_count fun _ a => by simp only [List.count_append, List.count_cons, List.count_nil]; omega
theorem perm_c {α : Type} (p tw md : α) (A B C : List α) : (p :: tw :: md :: (A ++ (B ++ C))).Perm ([p, tw, md] ++ (B ++ (A ++ C))) :=
  perm_of_count fun _ a => by simp only [List.count_append, List.count_cons, List.count_nil]; omega
abbrev canon (K : PySem.W.Frag) (p tw md s : Addr) (i g n : Int) (T0 : TA) (U0 : UA) (M0 : TM) (T1 : TA) (U1 : UA) (M1 : TM) : List Cell :=
  (p, stO s i g n) :: (tw, .lst [.ref T0.t, .ref T1.t]) :: (md, .lst [.ref U0.m, .ref U1.m]) :: (pCells K T0 U0 M0 ++ pCells K T1 U1 M1)
def LI (K : PySem.W.Frag) (H : Hp) (sc p tw md : Addr) (d : Nat) (σ : L2.St) (H' : Hp) : Prop := ∃ v4 v5 i g n T0 U0 M0 T1 U1 M1, σ = [some (.ref sc), some (.ref p), some (.ref tw), some (.ref md), v4, v5] ∧ SH [] H H' (canon K p tw md sc i g n T0 U0 M0 T1 U1 M1) ∧ 0 ≤ i ∧ 0 ≤ g ∧ Pair T0 U0 M0 d ∧ Pair T1 U1 M1 d
theorem perm_u0 {α : Type} (a tw md : α) (A B C : List α) : ([a] ++ (A ++ (B ++ (tw :: md :: C)))).Perm (a :: tw :: md :: ((A ++ B) ++ C)) :=
  perm_of_count fun _ a => by simp only [List.count_append, List.count_cons, List.count_nil]; omega
theorem perm_u1 {α : Type} (a tw md : α) (A B C : List α) : ([a] ++ (A ++ (B ++ (tw :: md :: C)))).Perm (a :: tw :: md :: (C ++ (A ++ B))) :=
  perm_of_count fun _ a => by simp only [List.count_append, List.count_cons, List.count_nil]; omega
def LJ (K : PySem.W.Frag) (H : Hp) (sc p tw md : Addr) (d : Nat) (k : Int) (σ : L2.St) (H' : Hp) : Prop := ∃ v4 i g n T0 U0 M0 T1 U1 M1, σ = [some (.ref sc), some (.ref p), some (.ref tw), some (.ref md), v4, some (.int k)] ∧ SH [] H H' (canon K p tw md sc i g n T0 U0 M0 T1 U1 M1) ∧ 0 ≤ i ∧ 0 ≤ g ∧ Pair T0 U0 M0 d ∧ Pair T1 U1 M1 d
theorem Pair.mono {T : TA} {U : UA} {M : TM} {d e : Nat} (P : Pair T U M d) (h : d ≤ e) : Pair T U M e := ⟨P.ok, P.t, P.u, Nat.le_trans P.d h⟩
theorem mem3 {α : Type} {c a b d : α} {L : List α} (h : c ∈ L) : c ∈ a :: b :: d :: L := List.mem_cons_of_mem _ (List.mem_cons_of_mem _ (List.mem_cons_of_mem _ h))
theorem zero_ok : TM.zero.ok := ⟨rfl, rfl, rfl, rfl, fun _ h => nomatch h⟩
theorem ok_law {P : Program} {w : World} {K : PySem.W.Frag} {mg : Str → Option Value} {base : Heap} (Y : Env K mg) (G_Tower_init__ : MakeOk P w K mg base CX0 1 "Tower" ["self"] (sp_Tower_init__ K)) (G_Tower_shift_up : MethOk P w K mg base CX0 1 "Tower" "shift_up" ["self"] (sp_Tower_shift_up K)) (G_z_deed : CallOk P w K mg base CX0 4 "_law_deed" ["_law_state", "_law_tower", "_law_model"] (sp_z_deed K)) (G_z_fresh : CallOk P w K mg base CX0 1 "_law_fresh" [] (sp_z_fresh K)) (G_z_pick : CallOk P w K mg base CX0 1 "_law_pick" ["_law_state", "_law_limit"] (sp_z_pick K)) (G_z_reads : CallOk P w K mg base CX0 3 "_law_reads" ["_law_tower", "_law_model"] (sp_z_reads K)) (G_z_up : CallOk P w K mg base CX0 1 "_law_up" ["_law_model"] (sp_z_up K)) {fd : FuncData} (F : FunD K "law" "law" (defArgs s_law) (defBody s_law) (defScope s_law) [] [] (He.fAd K ("law", none)) fd) : FnOk P w K mg base CX0 5 (He.fAd K ("law", none)) fd ["_law_script"] (sp_law K) := by
  refine F.ok sc_law mk1_len (fun cdv A outer s H vs Q E hr h => ?_)
  have hu := hu_room hr
  obtain ⟨_, rfl, sc, ns, rfl, hs, k⟩ := h
  have hS : SH [] H H [] := SH.start0
  refine ⟨_, PSs.nox (pss_cons (ps_set (i := 1) sc_law.nd rfl (Or.inl rfl) (pe_lst (pa_cons (pv 0) (pa_cons pe_int (pa_cons pe_int (pa_cons pe_int pa_nil))))))
  (pss_cons (ps_set (i := 2) sc_law.nd rfl (Or.inl rfl) (pe_lst (pa_cons (pe_makeG0 G_Tower_init__ (hr.mono (by decide)) rfl pass0) (pa_cons (pe_makeG0 G_Tower_init__ (hr.mono (by decide)) rfl pass0) pa_nil))))
  (pss_cons (ps_set (i := 3) sc_law.nd rfl (Or.inl rfl) (pe_lst (pa_cons (pe_callG0 G_z_fresh (hr.mono (by decide)) rfl pass0) (pa_cons (pe_callG0 G_z_fresh (hr.mono (by decide)) rfl pass0) pa_nil))))
  (pss_cons (ps_for PassesOwn.never rfl (pi_range1 rfl Y.z_range (pa_cons (pe_op xAdd pe_int (pe_callG G_z_pick (hr.mono (by decide)) rfl pass0 (pa_cons (pv 1) (pa_cons pe_int pa_nil)))) pa_nil)) (pg_name (i := 4) sc_law.nd rfl (Or.inl rfl))
  (pss_cons (ps_set (i := 5) sc_law.nd rfl (Or.inl rfl) (pe_callG G_z_pick (hr.mono (by decide)) rfl pass0 (pa_cons (pv 1) (pa_cons pe_int pa_nil))))
  (pss_one (ps_if (pt_not (pt_val (pe_callG G_z_deed hr rfl pass0 (pa_cons (pv 1) (pa_cons (pe_ix xIx (pv 2) (pv 5) (fun _ _ => rfl)) (pa_cons (pe_ix xIx (pv 3) (pv 5) (fun _ _ => rfl)) pa_nil)))))) (pss_one (ps_ret pe_bl)) pss_nil))))
  (pss_cons (ps_for PassesOwn.never rfl (pi_range1 rfl Y.z_range (pa_cons pe_int pa_nil)) (pg_name (i := 5) sc_law.nd rfl (Or.inl rfl))
  (pss_one (ps_if (pt_not (pt_val (pe_callG G_z_reads (hr.mono (by decide)) rfl pass0 (pa_cons (pe_ix xIx (pv 2) (pv 5) (fun _ _ => rfl)) (pa_cons (pe_ix xIx (pv 3) (pv 5) (fun _ _ => rfl)) pa_nil))))) (pss_one (ps_ret pe_bl)) pss_nil)))
  (pss_cons (ps_for PassesOwn.never rfl (pi_range1 rfl Y.z_range (pa_cons pe_int pa_nil)) (pg_name (i := 5) sc_law.nd rfl (Or.inl rfl))
  (pss_one (ps_for PassesOwn.never rfl (pi_range1 rfl Y.z_range (pa_cons pe_int pa_nil)) (pg_name (i := 4) sc_law.nd rfl (Or.inl rfl))
  (pss_one (ps_if (pt_cmpR op_gt (pe_callB x_len rfl Y.z_len (by decide +kernel) (pa_cons (pe_ix xIx (pe_ix xIx (pv 3) (pv 5) (fun _ _ => rfl)) pe_int (fun _ _ => rfl)) pa_nil)) pe_int (nomark _)) (pss_cons (ps_expr (pe_callG G_z_up (hr.mono (by decide)) rfl pass0 (pa_cons (pe_ix xIx (pv 3) (pv 5) (fun _ _ => rfl)) pa_nil)))
  (pss_cons (ps_expr (pe_methG0 (pe_ix xIx (pv 2) (pv 5) (fun _ _ => rfl)) G_Tower_shift_up (hr.mono (by decide)) pass0))
  (pss_one (ps_if (pt_not (pt_val (pe_callG G_z_reads (hr.mono (by decide)) rfl pass0 (pa_cons (pe_ix xIx (pv 2) (pv 5) (fun _ _ => rfl)) (pa_cons (pe_ix xIx (pv 3) (pv 5) (fun _ _ => rfl)) pa_nil))))) (pss_one (ps_ret pe_bl)) pss_nil)))) pss_nil)))))
  (pss_one (ps_ret pe_bl)))))))), ?_⟩
  rw [st_law]
  try simp only [cxK, cxK2]
  clear hu hr F
  repeat' walk_at "st"
  refine ⟨_, rfl, x, dx, rfl, hS.get 0 rfl, fun T0 H2 C e1 e2 => ⟨rfl, ?_⟩⟩
  subst e1
  have hS := SH.call (B := [(T0.t, _)]) hS C
  repeat' walk_at "st"
  refine ⟨_, rfl, x, dx, rfl, hS.get 0 rfl, fun T1 H2 C e1 e3 => ⟨rfl, ?_⟩⟩
  subst e1
  have hS := SH.call (B := [(T1.t, _)]) hS C
  repeat' walk_at "st"
  refine ⟨rfl, fun U0 H2 C u2 => ?_⟩
  have hS := SH.call (B := []) hS C
  repeat' walk_at "st"
  refine ⟨rfl, fun U1 H2 C u3 => ?_⟩
  have hS := SH.call (B := []) hS C
  repeat' walk_at "st"
  rename_i pp a2 a3 a4 a5 a6 a7 a8 a9 a10 a11 a12 tw a14 a15 a16 a17 a18 a19
  have hS := hS.perm (perm_start (p, _) (tw, _) (pp, _) (tCells K T0 TM.zero) (tCells K T1 TM.zero) (mCells U0 TM.zero) (mCells U1 TM.zero))
  clear a7 a11 a15 a19 C a8 a12 a18
  have hS : SH [] H H1 (canon K pp tw p sc 0 0 0 T0 U0 TM.zero T1 U1 TM.zero) := hS
  have hP0 : Pair T0 U0 TM.zero 0 := ⟨zero_ok, by rw [e2]; rfl, by rw [u2]; rfl, Nat.le_refl _⟩
  have hP1 : Pair T1 U1 TM.zero 0 := ⟨zero_ok, by rw [e3]; rfl, by rw [u3]; rfl, Nat.le_refl _⟩
  repeat' walk_at "st"
  refine u_forR1 (fun i => LI K H sc pp tw p i) (by omega) (by omega) ⟨_, _, _, _, _, _, _, _, _, _, _, rfl, hS, by omega, by omega, hP0, hP1⟩ ?_ ?_
  · rintro i σ H2 hi ⟨v4, v5, x, g, n, T0, U0, M0, T1, U1, M1, rfl, hS, hx, hg, P0, P1⟩
    repeat' walk_at "st"
    have hr : r = 0 ∨ r = 1 := by omega
    rcases hr with rfl | rfl
    · show sp_z_deed K [V.ref pp, V.ref T0.t, V.ref U0.m] H1 _ _
      have hS2 := hS.perm (perm_a _ _ _ (pCells K T0 U0 M0) (pCells K T1 U1 M1))
      refine ⟨_, _, _, rfl, pp, sc, ns, x1, g1, n1, T0, U0, M0, i, rfl, rfl, rfl, SH.blkM [] _ _ hS2, hs.keep hS.kp, hx1, hg1, P0, by omega, fun T' U' M' x2 g2 n2 H3 C hx2 hg2 P' et eu => ?_⟩
      have hS := (SH.call hS2 C).perm (perm_a _ _ _ (pCells K T' U' M') (pCells K T1 U1 M1)).symm
      rw [← et, ← eu] at hS
      repeat' walk_at "st"
      exact ⟨_, _, _, _, _, T', U', M', T1, U1, M1, rfl, hS, hx2, hg2, P', P1.mono (by omega)⟩
    · show sp_z_deed K [V.ref pp, V.ref T1.t, V.ref U1.m] H1 _ _
      have hS2 := hS.perm (perm_b _ _ _ (pCells K T0 U0 M0) (pCells K T1 U1 M1))
      refine ⟨_, _, _, rfl, pp, sc, ns, x1, g1, n1, T1, U1, M1, i, rfl, rfl, rfl, SH.blkM [] _ _ hS2, hs.keep hS.kp, hx1, hg1, P1, by omega, fun T' U' M' x2 g2 n2 H3 C hx2 hg2 P' et eu => ?_⟩
      have hS := (SH.call hS2 C).perm (perm_b _ _ _ (pCells K T0 U0 M0) (pCells K T' U' M')).symm
      rw [← et, ← eu] at hS
      repeat' walk_at "st"
      exact ⟨_, _, _, _, _, T0, U0, M0, T', U', M', rfl, hS, hx2, hg2, P0.mono (by omega), P'⟩
  · intro σ H2 h2
    generalize (8 + r).toNat = d at h2
    revert σ H2
    rintro σ H2 ⟨v4, v5, x, g, n, T0, U0, M0, T1, U1, M1, rfl, hS, hx, hg, P0, P1⟩
    repeat' walk_at "st"
    refine u_forR1 (fun _ => LI K H sc pp tw p d) (by omega) (by omega) ⟨_, _, _, _, _, _, _, _, _, _, _, rfl, hS, hx, hg, P0, P1⟩ ?_ ?_
    · rintro i σ H3 hi ⟨v4, v5, x, g, n, T0, U0, M0, T1, U1, M1, rfl, hS, hx, hg, P0, P1⟩
      have hr : i = 0 ∨ i = 1 := by omega
      rcases hr with rfl | rfl
      all_goals repeat' walk_at "st"
      · show sp_z_reads K [V.ref T0.t, V.ref U0.m] H3 _ _
        refine c_z_reads hS (fun c hc => hS.hs c (mem3 (List.mem_append_left _ (List.mem_append_left _ hc)))) (fun c hc => hS.hs c (mem3 (List.mem_append_left _ (List.mem_append_right _ hc)))) P0.ok P0.u (fun H5 hS => ?_)
        repeat' walk_at "st"
        exact ⟨_, _, _, _, _, _, _, _, _, _, _, rfl, hS, hx, hg, P0, P1⟩
      · show sp_z_reads K [V.ref T1.t, V.ref U1.m] H3 _ _
        refine c_z_reads hS (fun c hc => hS.hs c (mem3 (List.mem_append_right _ (List.mem_append_left _ hc)))) (fun c hc => hS.hs c (mem3 (List.mem_append_right _ (List.mem_append_right _ hc)))) P1.ok P1.u (fun H5 hS => ?_)
        repeat' walk_at "st"
        exact ⟨_, _, _, _, _, _, _, _, _, _, _, rfl, hS, hx, hg, P0, P1⟩
    · rintro σ H3 ⟨v4, v5, x, g, n, T0, U0, M0, T1, U1, M1, rfl, hS, hx, hg, P0, P1⟩
      repeat' walk_at "st"
      refine u_forR1 (fun _ => LI K H sc pp tw p d) (by omega) (by omega) ⟨_, _, _, _, _, _, _, _, _, _, _, rfl, hS, hx, hg, P0, P1⟩ ?_ ?_
      · rintro i σ H4 hi ⟨v4, v5, x, g, n, T0, U0, M0, T1, U1, M1, rfl, hS, hx, hg, P0, P1⟩
        have hr : i = 0 ∨ i = 1 := by omega
        rcases hr with rfl | rfl
        all_goals repeat' walk_at "st"
        · refine u_forR1 (fun _ => LJ K H sc pp tw p d ((0 : Nat) : Int)) (by omega) (by omega) ⟨_, _, _, _, _, _, _, _, _, _, rfl, hS, hx, hg, P0, P1⟩ ?_ ?_
          · rintro j σ H5 hj ⟨v4, x, g, n, T0, U0, M0, T1, U1, M1, rfl, hS, hx, hg, P0, P1⟩
            · have f0 : H5 U0.m = some (.lst [.ref U0.mg, .ref U0.mio, .ref U0.mloc]) := hS.hs (U0.m, _) (mem3 (List.mem_append_left _ (List.mem_append_right _ (List.mem_cons_self ..))))
              have f1 : H5 U0.mloc = some (.lst (U0.stU.map (fun a => V.ref a.1) ++ [.ref U0.o])) := hS.hs (U0.mloc, _) (mem3 (List.mem_append_left _ (List.mem_append_right _ (.tail _ (.tail _ (.tail _ (.head _)))))))
              repeat' walk_at "st"
              · have hp0 : 0 < M0.st.length := by have := P0.u; simp only [List.length_append, List.length_map, List.length_cons, List.length_nil] at *; omega
                obtain ⟨st, y, es⟩ := snoc_of_pos hp0
                obtain ⟨us, xu, eu⟩ := snoc_of_pos (l := U0.stU) (by have := P0.u; omega)
                obtain ⟨ts, xt, et⟩ := snoc_of_pos (l := T0.stA) (by have := P0.t; omega)
                have hy : y.1.length = 8 ∧ y.2.length = 8 := P0.ok.st y (by rw [es]; simp)
                have l1 : us.length = st.length := by have lu := P0.u; rw [es, eu] at lu; simpa using lu
                have l2 : ts.length = st.length := by have lt := P0.t; rw [es, et] at lt; simpa using lt
                have l3 : st.length + 1 = M0.st.length := by rw [es]; simp
                have hS2 := hS.perm (perm_a _ _ _ (pCells K T0 U0 M0) (pCells K T1 U1 M1))
                have hS3 : SH [] H H5 (((pp, _) :: tCells K T0 M0) ++ (mCells U0 M0 ++ ((tw, _) :: (p, _) :: pCells K T1 U1 M1))) := hS2.perm (by rw [List.cons_append, List.cons_append, List.append_assoc])
                refine ⟨_, rfl, U0, M0, us, xu, st, y, rfl, SH.blkM _ _ _ hS3, eu, es, l1, fun U' H6 C eum lu' => ?_⟩
                have hS := SH.callM hS3 C
                have ht0 : H6 T0.t = _ := hS.get 1 rfl
                have hS4 : SH [] H H6 ([(pp, _)] ++ (tCells K T0 M0 ++ (mCells U' ⟨M0.g, st, y.1, y.2, M0.ins⟩ ++ ((tw, .lst [.ref T0.t, .ref T1.t]) :: (p, .lst [.ref U0.m, .ref U1.m]) :: pCells K T1 U1 M1)))) := hS
                have htw : H6 tw = some (.lst [.ref T0.t, .ref T1.t]) := hS4.hs (tw, _) (by simp)
                have hmd : H6 p = some (.lst [.ref U0.m, .ref U1.m]) := hS4.hs (p, _) (by simp)
                repeat' walk_at "st"
                refine ⟨_, rfl, T0, M0, ts, xt, st, y, rfl, SH.blkM _ _ _ hS4, et, es, l2, fun T' H7 C2 etm lt' => ?_⟩
                have hS := SH.callM hS4 C2
                have P' : Pair T' U' ⟨M0.g, st, y.1, y.2, M0.ins⟩ d := ⟨⟨P0.ok.g, hy.1, hy.2, P0.ok.ins, fun q hq => P0.ok.st q (by rw [es]; exact List.mem_append_left _ hq)⟩, lt', lu', by have := P0.d; show st.length ≤ _; omega⟩
                have hS : SH [] H H7 (canon K pp tw p sc x g n T' U' ⟨M0.g, st, y.1, y.2, M0.ins⟩ T1 U1 M1) := by
                  have q := SH.perm (L' := (pp, _) :: (tw, .lst [.ref T0.t, .ref T1.t]) :: (p, .lst [.ref U0.m, .ref U1.m]) :: (pCells K T' U' ⟨M0.g, st, y.1, y.2, M0.ins⟩ ++ pCells K T1 U1 M1)) hS (perm_u0 _ _ _ _ _ _)
                  rw [← etm, ← eum] at q
                  exact q
                repeat' walk_at "st"
                refine c_z_reads hS (fun c hc => hS.hs c (mem3 (List.mem_append_left _ (List.mem_append_left _ hc)))) (fun c hc => hS.hs c (mem3 (List.mem_append_left _ (List.mem_append_right _ hc)))) P'.ok P'.u (fun H8 hS => ?_)
                repeat' walk_at "st"
                exact ⟨_, _, _, _, T', U', _, T1, U1, M1, rfl, hS, hx, hg, P', P1⟩
              · exact ⟨_, _, _, _, _, _, _, _, _, _, rfl, hS, hx, hg, P0, P1⟩
          · rintro σ H5 ⟨v4, x, g, n, T0, U0, M0, T1, U1, M1, rfl, hS, hx, hg, P0, P1⟩
            repeat' walk_at "st"
            exact ⟨_, _, _, _, _, _, _, _, _, _, _, rfl, hS, hx, hg, P0, P1⟩
        · refine u_forR1 (fun _ => LJ K H sc pp tw p d ((1 : Nat) : Int)) (by omega) (by omega) ⟨_, _, _, _, _, _, _, _, _, _, rfl, hS, hx, hg, P0, P1⟩ ?_ ?_
          · rintro j σ H5 hj ⟨v4, x, g, n, T0, U0, M0, T1, U1, M1, rfl, hS, hx, hg, P0, P1⟩
            · have f0 : H5 U1.m = some (.lst [.ref U1.mg, .ref U1.mio, .ref U1.mloc]) := hS.hs (U1.m, _) (mem3 (List.mem_append_right _ (List.mem_append_right _ (List.mem_cons_self ..))))
              have f1 : H5 U1.mloc = some (.lst (U1.stU.map (fun a => V.ref a.1) ++ [.ref U1.o])) := hS.hs (U1.mloc, _) (mem3 (List.mem_append_right _ (List.mem_append_right _ (.tail _ (.tail _ (.tail _ (.head _)))))))
              repeat' walk_at "st"
              · have hp0 : 0 < M1.st.length := by have := P1.u; simp only [List.length_append, List.length_map, List.length_cons, List.length_nil] at *; omega
                obtain ⟨st, y, es⟩ := snoc_of_pos hp0
                obtain ⟨us, xu, eu⟩ := snoc_of_pos (l := U1.stU) (by have := P1.u; omega)
                obtain ⟨ts, xt, et⟩ := snoc_of_pos (l := T1.stA) (by have := P1.t; omega)
                have hy : y.1.length = 8 ∧ y.2.length = 8 := P1.ok.st y (by rw [es]; simp)
                have l1 : us.length = st.length := by have lu := P1.u; rw [es, eu] at lu; simpa using lu
                have l2 : ts.length = st.length := by have lt := P1.t; rw [es, et] at lt; simpa using lt
                have l3 : st.length + 1 = M1.st.length := by rw [es]; simp
                have hS2 := hS.perm (perm_b _ _ _ (pCells K T0 U0 M0) (pCells K T1 U1 M1))
                have hS3 : SH [] H H5 (((pp, _) :: tCells K T1 M1) ++ (mCells U1 M1 ++ ((tw, _) :: (p, _) :: pCells K T0 U0 M0))) := hS2.perm (by rw [List.cons_append, List.cons_append, List.append_assoc])
                refine ⟨_, rfl, U1, M1, us, xu, st, y, rfl, SH.blkM _ _ _ hS3, eu, es, l1, fun U' H6 C eum lu' => ?_⟩
                have hS := SH.callM hS3 C
                have ht0 : H6 T1.t = _ := hS.get 1 rfl
                have hS4 : SH [] H H6 ([(pp, _)] ++ (tCells K T1 M1 ++ (mCells U' ⟨M1.g, st, y.1, y.2, M1.ins⟩ ++ ((tw, .lst [.ref T0.t, .ref T1.t]) :: (p, .lst [.ref U0.m, .ref U1.m]) :: pCells K T0 U0 M0)))) := hS
                have htw : H6 tw = some (.lst [.ref T0.t, .ref T1.t]) := hS4.hs (tw, _) (by simp)
                have hmd : H6 p = some (.lst [.ref U0.m, .ref U1.m]) := hS4.hs (p, _) (by simp)
                repeat' walk_at "st"
                refine ⟨_, rfl, T1, M1, ts, xt, st, y, rfl, SH.blkM _ _ _ hS4, et, es, l2, fun T' H7 C2 etm lt' => ?_⟩
                have hS := SH.callM hS4 C2
                have P' : Pair T' U' ⟨M1.g, st, y.1, y.2, M1.ins⟩ d := ⟨⟨P1.ok.g, hy.1, hy.2, P1.ok.ins, fun q hq => P1.ok.st q (by rw [es]; exact List.mem_append_left _ hq)⟩, lt', lu', by have := P1.d; show st.length ≤ _; omega⟩
                have hS : SH [] H H7 (canon K pp tw p sc x g n T0 U0 M0 T' U' ⟨M1.g, st, y.1, y.2, M1.ins⟩) := by
                  have q := SH.perm (L' := (pp, _) :: (tw, .lst [.ref T0.t, .ref T1.t]) :: (p, .lst [.ref U0.m, .ref U1.m]) :: (pCells K T0 U0 M0 ++ pCells K T' U' ⟨M1.g, st, y.1, y.2, M1.ins⟩)) hS (perm_u1 _ _ _ _ _ _)
                  rw [← etm, ← eum] at q
                  exact q
                repeat' walk_at "st"
                refine c_z_reads hS (fun c hc => hS.hs c (mem3 (List.mem_append_right _ (List.mem_append_left _ hc)))) (fun c hc => hS.hs c (mem3 (List.mem_append_right _ (List.mem_append_right _ hc)))) P'.ok P'.u (fun H8 hS => ?_)
                repeat' walk_at "st"
                exact ⟨_, _, _, _, T0, U0, M0, T', U', _, rfl, hS, hx, hg, P0, P'⟩
              · exact ⟨_, _, _, _, _, _, _, _, _, _, rfl, hS, hx, hg, P0, P1⟩
          · rintro σ H5 ⟨v4, x, g, n, T0, U0, M0, T1, U1, M1, rfl, hS, hx, hg, P0, P1⟩
            repeat' walk_at "st"
            exact ⟨_, _, _, _, _, _, _, _, _, _, _, rfl, hS, hx, hg, P0, P1⟩
      · rintro σ H4 ⟨v4, v5, x, g, n, T0, U0, M0, T1, U1, M1, rfl, hS, hx, hg, P0, P1⟩
        repeat' walk_at "st"
        exact k _
/-! ### the head: facts by names, the run -/
abbrev R : PySem.W.OpenRow := PySem.W.OpenLaw.row PySem.Challenge.rw_windowada_k66_tower
abbrev hk : PySem.W.Hook := He.hookX 5 fa fn [] [] ex
def ob (s : PySem.W.SharedT) : He.AlX := He.obsX 5 fa fn [] [] ex (HandSHeadRun.getT s)
theorem ob_eq (s : PySem.W.SharedT) : ob s = hk.obs s.abs := He.obsX_eq (HandSHeadRun.getT_eq s)
def loose : List Str := (["__name__", "Tower", "_law_pick", "_law_is_integer", "_law_word", "_law_fresh", "_law_find", "_law_get", "_law_set", "_law_down", "_law_up", "_law_reads", "_law_deed"] : List Str)
theorem run (w : World) : HandSHeadRun.RunEq R (PySem.W.view R.prog [14]) hk ob 4000 loose w := by
  intro os
  kernel_rfl
theorem law_ask {K : PySem.W.Frag} {H : Hp} (a : Addr) (ns : List Int) (hl : ns.length ≤ 63) (hO : Only H) (hS : SqL K H a (ns.map V.int)) : sp_law K [.ref a] H (fun v _ => v = .bl true) fun _ _ _ => False :=
  ⟨_, rfl, a, ns, rfl, Scr.of hS hO, fun _ => rfl⟩
theorem facts {w : World} {K : PySem.W.Frag} {h : Heap} {mg : Str → Option Value} {f : Addr} (X : K.In h) (G : h.Ns mainGlobals mg) (hfa : mg ("law" : Str) = some (.ref f)) (c : He.SaysX fa fn [] [] ex w h K) :
    ∃ fd : FuncData, (∀ (s : Shared) (v : Value), BindsTo s fd ⟨[v], []⟩ [("_law_script", v)]) ∧ ∀ base : Heap, K.In base → base.Ns mainGlobals mg → FnOk (PySem.Challenge.rw_windowada_k66_tower).prog w K mg base CX0 5 f fd ["_law_script"] (sp_law K) := by
  have Y : Env K mg := env_mk X G c
  obtain ⟨fd, F⟩ := Y.fd_law
  have e := hfa.symm.trans Y.mg_law
  cases e
  have b := FunD.bindsA (ps := ["_law_script"]) F fun _ _ _ _ _ _ us hl => match us, hl with | [_], _ => rfl
  refine ⟨fd, fun s v => b s [v] rfl, fun base _ _ => ?_⟩
  have G_Tower_init__ := ok_Tower_init__ (P := (PySem.Challenge.rw_windowada_k66_tower).prog) (w := w) (base := base) Y
  have G_Tower_shift_up := ok_Tower_shift_up (P := (PySem.Challenge.rw_windowada_k66_tower).prog) (w := w) (base := base) Y
  have G_Tower_group := ok_Tower_group (P := (PySem.Challenge.rw_windowada_k66_tower).prog) (w := w) (base := base) Y
  have G_Tower_read := ok_Tower_read (P := (PySem.Challenge.rw_windowada_k66_tower).prog) (w := w) (base := base) Y G_Tower_group
  have G_Tower_shift_down := ok_Tower_shift_down (P := (PySem.Challenge.rw_windowada_k66_tower).prog) (w := w) (base := base) Y
  have G_Tower_write := ok_Tower_write (P := (PySem.Challenge.rw_windowada_k66_tower).prog) (w := w) (base := base) Y G_Tower_group
  have G_z_down := ok_z_down (P := (PySem.Challenge.rw_windowada_k66_tower).prog) (w := w) (base := base) Y
  have G_z_find := ok_z_find (P := (PySem.Challenge.rw_windowada_k66_tower).prog) (w := w) (base := base) Y
  have G_z_get := ok_z_get (P := (PySem.Challenge.rw_windowada_k66_tower).prog) (w := w) (base := base) Y G_z_find
  have G_z_is_integer := ok_z_is_integer (P := (PySem.Challenge.rw_windowada_k66_tower).prog) (w := w) (base := base) Y
  have G_z_pick := ok_z_pick (P := (PySem.Challenge.rw_windowada_k66_tower).prog) (w := w) (base := base) Y
  have G_Tower_blocked_down := ok_Tower_blocked_down (P := (PySem.Challenge.rw_windowada_k66_tower).prog) (w := w) (base := base) Y
  have G_Tower_blocked_up := ok_Tower_blocked_up (P := (PySem.Challenge.rw_windowada_k66_tower).prog) (w := w) (base := base) Y
  have G_z_reads := ok_z_reads (P := (PySem.Challenge.rw_windowada_k66_tower).prog) (w := w) (base := base) Y G_Tower_blocked_down G_Tower_blocked_up G_Tower_read G_z_get G_z_is_integer
  have G_z_set := ok_z_set (P := (PySem.Challenge.rw_windowada_k66_tower).prog) (w := w) (base := base) Y G_z_find
  have G_z_up := ok_z_up (P := (PySem.Challenge.rw_windowada_k66_tower).prog) (w := w) (base := base) Y
  have G_z_word := ok_z_word (P := (PySem.Challenge.rw_windowada_k66_tower).prog) (w := w) (base := base) Y G_z_pick
  have G_z_deed := ok_z_deed (P := (PySem.Challenge.rw_windowada_k66_tower).prog) (w := w) (base := base) Y G_Tower_read G_Tower_shift_down G_Tower_shift_up G_Tower_write G_z_down G_z_get G_z_is_integer G_z_pick G_z_reads G_z_set G_z_up G_z_word
  have G_z_fresh := ok_z_fresh (P := (PySem.Challenge.rw_windowada_k66_tower).prog) (w := w) (base := base) Y
  exact ok_law (P := (PySem.Challenge.rw_windowada_k66_tower).prog) (w := w) (base := base) Y G_Tower_init__ G_Tower_shift_up G_z_deed G_z_fresh G_z_pick G_z_reads G_z_up F
end Law
open PySem PySem.W PySem.Calls PyProof.Rows
set_option maxRecDepth 100000 in
set_option maxHeartbeats 0 in
theorem PySem.Challenge.cw_windowada_k66_tower_holds : PySem.Challenge.rw_windowada_k66_tower.Holds := by
  w_on; o_law
  refine HandSHeadRun.head_any (r := OpenLaw.row PySem.Challenge.rw_windowada_k66_tower) (q := view (OpenLaw.row PySem.Challenge.rw_windowada_k66_tower).prog [14]) (H := Law.hk) (ob := Law.ob) (M := 4000) (loose := Law.loose) (d := HandSHeadRun.topDef (OpenLaw.row PySem.Challenge.rw_windowada_k66_tower).prog 14) (kwd := []) Law.ob_eq
    (by kernel_rfl) (fun s => by kernel_rfl) Law.run (by kernel_rfl) (by kernel_rfl) (by kernel_rfl) (by rfl) (by first | assumption | decide +kernel) (by decide +kernel) ⟨rfl, rfl, rfl, rfl, rfl, by decide +kernel⟩ ?hw ?hc
  case hw => w_witness2
  case hc =>
    refine L2.walk_ofE (l := PySem.Challenge.rw_windowada_k66_tower) (n := 63) (k := 5) (x := "_law_script") (CX := L2.CX0) rfl (by decide) (by kernel_rfl) ⟨rfl, by decide, by decide⟩ ?F (fun _ _ _ _ z => z)
    intro w mg fa h Y G hmg0
    obtain ⟨K, KX, c⟩ := Y
    have hmg : mg ("law" : PySem.Str) = some (.ref fa) := by
      have e : (HandSHeadRun.topDef (OpenLaw.row PySem.Challenge.rw_windowada_k66_tower).prog 14).name = ("law" : PySem.Str) := by kernel_rfl
      rw [← e]
      exact hmg0
    obtain ⟨fd, hb, hF⟩ := Law.facts (w := w) KX G hmg c
    exact ⟨K, fd, Law.sp_law K, KX, hb, fun H a ns hl hO hS => Law.law_ask a ns hl hO hS, hF⟩

