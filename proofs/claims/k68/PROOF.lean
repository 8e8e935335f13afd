import PyProof.Rows.All
import Wide.All
import OpenK.AllK
import Wide.FinOn
import KE.KStateDown
import HandS.ForMost
import HandS.ForExc
import HandS.Wide
import HandS.TupAny
import HandS.TupMul
import HandS.TupLe
import HandS.Sort
import HandS.Style
import HandS.IsInst
import HandS.Defaults
import HandS.Property
import HandS.Head0
import HandS.Head1
import HandS.Head2
import HandS.EndBits
import HandS.HeadEnd
import HandS.HeadHook1
import HandS.HeadHook2
import HandS.HeadHook3
import HandS.HeadHook4
import HandS.HeadWalk
import KE.KTryMore
import HandS.Exc
import HandS.TryMany
import HandS.ExcOwn
import HandS.ExcIs
import HandS.Small
import HandS.WordsExc
import PySem.Challenge.RW_windowada_k68_banks
set_option Elab.async false
set_option linter.all false
set_option maxRecDepth 100000
set_option maxHeartbeats 4000000
/-! Steps over the hand layer: a ledger (what this code owns on the heap), one lemma for each reading, a word that takes one step. -/
namespace Q
open PySem PySem.Spec PyProof.Rows L2

/-! ### the ledger -/
abbrev Cell := Addr × HO
def Imm : HO → Bool
  | .tup _ => true
  | .frz _ _ => true
  | _ => false
/-- all that stood is kept but what stood at A (what never changes is kept there, too); nothing is freed -/
structure Keep (A : List Addr) (H H' : Hp) : Prop where
  k : ∀ b o, H b = some o → (b ∉ A ∨ Imm o = true) → H' b = some o
  d : ∀ b, H' b = none → H b = none
theorem Keep.refl (A : List Addr) (H : Hp) : Keep A H H := ⟨fun _ _ e _ => e, fun _ e => e⟩
theorem Keep.trans {A : List Addr} {H H1 H2 : Hp} (a : Keep A H H1) (b : Keep A H1 H2) : Keep A H H2 :=
  ⟨fun c o e q => b.k c o (a.k c o e q) q, fun c e => a.d c (b.d c e)⟩
theorem Keep.mono {A B : List Addr} {H H' : Hp} (a : Keep A H H') (s : ∀ b ∈ A, b ∈ B) : Keep B H H' :=
  ⟨fun c o e q => a.k c o e (q.imp (fun n z => n (s c z)) id), a.d⟩
theorem Keep.nil {B : List Addr} {H H' : Hp} (a : Keep [] H H') : Keep B H H' := a.mono fun _ z => nomatch z
/-- A the cells that stood at the entry H0; L what is known and owned now -/
structure SH (A : List Addr) (H0 H : Hp) (L : List Cell) : Prop where
  hs : ∀ c ∈ L, H c.1 = some c.2
  nd : (L.map (·.1)).Nodup
  kp : Keep A H0 H
  ow : ∀ c ∈ L, c.1 ∈ A ∨ H0 c.1 = none
section
variable {A B : List Addr} {H0 H H' : Hp} {L L' : List Cell} {a p : Addr} {o o' : HO}
theorem SH.start (hs : ∀ c ∈ L, H c.1 = some c.2) (nd : (L.map (·.1)).Nodup) : SH (L.map (·.1)) H H L :=
  ⟨hs, nd, Keep.refl _ _, fun c hc => .inl (List.mem_map_of_mem hc)⟩
theorem SH.start0 : SH [] H H [] := ⟨(fun _ h => nomatch h), List.nodup_nil, Keep.refl _ _, (fun _ h => nomatch h)⟩
theorem SH.start1 (h : H a = some o) : SH [a] H H [(a, o)] := SH.start (L := [(a, o)]) (by intro c hc; rcases List.mem_singleton.mp hc with rfl; exact h) (by simp)
theorem SH.get (S : SH A H0 H L) (i : Nat) (e : L[i]? = some (a, o)) : H a = some o := S.hs _ (List.mem_of_getElem? e)
theorem SH.imm (S : SH A H0 H L) (h : H0 a = some o) (e : Imm o = true) : H a = some o := S.kp.k a o h (.inr e)
theorem SH.new (S : SH A H0 H L) (o : HO) (hp : H p = none) : SH A H0 (upd H p o) ((p, o) :: L) := by
  have hne : ∀ c ∈ L, c.1 ≠ p := fun c hc z => by
    have := S.hs c hc
    rw [z, hp] at this
    cases this
  refine ⟨fun c hc => ?_, ?_, ⟨fun b u e q => ?_, fun b e => ?_⟩, fun c hc => ?_⟩
  · rcases List.mem_cons.mp hc with rfl | hc
    · exact upd_same
    · rw [upd_ne (hne c hc)]
      exact S.hs c hc
  · rw [List.map_cons, List.nodup_cons]
    refine ⟨fun z => ?_, S.nd⟩
    obtain ⟨c, hc, e⟩ := List.mem_map.mp z
    exact hne c hc e
  · have h1 := S.kp.k b u e q
    rw [upd_ne (ne_of_none h1 hp)]
    exact h1
  · by_cases hb : b = p
    · rw [hb, upd_same] at e
      cases e
    · rw [upd_ne hb] at e
      exact S.kp.d b e
  · rcases List.mem_cons.mp hc with rfl | hc
    · exact .inr (S.kp.d _ hp)
    · exact S.ow c hc
theorem mem_set_cell {L : List Cell} {i : Nat} {c d : Cell} (h : c ∈ L.set i d) : c = d ∨ ∃ j, j ≠ i ∧ L[j]? = some c := by
  obtain ⟨j, hj, e⟩ := List.mem_iff_getElem.mp h
  by_cases q : j = i
  · left
    subst q
    rw [List.getElem_set_self] at e
    exact e.symm
  · right
    refine ⟨j, q, ?_⟩
    rw [List.length_set] at hj
    rw [List.getElem_set_ne (Ne.symm q)] at e
    rw [List.getElem?_eq_getElem hj, e]
theorem map_set_key {L : List Cell} {i : Nat} {a : Addr} {o o' : HO} (e : L[i]? = some (a, o)) : (L.set i (a, o')).map (·.1) = L.map (·.1) := by
  apply List.ext_getElem?
  intro j
  rw [List.getElem?_map, List.getElem?_map, List.getElem?_set]
  by_cases q : i = j
  · subst q
    obtain ⟨hi, e2⟩ := List.getElem?_eq_some_iff.mp e
    rw [if_pos rfl, if_pos hi, e]
    rfl
  · rw [if_neg q]
theorem nodup_key {L : List Cell} (nd : (L.map (·.1)).Nodup) {i j : Nat} {c d : Cell} (h1 : L[i]? = some c) (h2 : L[j]? = some d) (ne : j ≠ i) : d.1 ≠ c.1 := fun z => by
  have e1 : (L.map (·.1))[i]? = some c.1 := by rw [List.getElem?_map, h1]; rfl
  have e2 : (L.map (·.1))[j]? = some c.1 := by rw [List.getElem?_map, h2]; exact congrArg some z
  obtain ⟨l1, q1⟩ := List.getElem?_eq_some_iff.mp e1
  obtain ⟨l2, q2⟩ := List.getElem?_eq_some_iff.mp e2
  exact ne ((List.getElem_inj nd).mp (q2.trans q1.symm))
theorem SH.set (S : SH A H0 H L) (i : Nat) (e : L[i]? = some (a, o)) (im : Imm o = false) (o' : HO) : SH A H0 (upd H a o') (L.set i (a, o')) := by
  have ha := S.get i e
  refine ⟨fun c hc => ?_, ?_, ⟨fun b u q z => ?_, fun b q => ?_⟩, fun c hc => ?_⟩
  · rcases mem_set_cell hc with rfl | ⟨j, nj, ej⟩
    · exact upd_same
    · rw [upd_ne (nodup_key S.nd e ej nj)]
      exact S.hs c (List.mem_of_getElem? ej)
  · rw [map_set_key e]
    exact S.nd
  · have h1 := S.kp.k b u q z
    have nb : b ≠ a := fun y => by
      subst y
      rw [ha] at h1
      cases h1
      rcases z with z | z
      · rcases S.ow _ (List.mem_of_getElem? e) with w | w
        · exact z w
        · rw [q] at w
          cases w
      · rw [im] at z
        cases z
    rw [upd_ne nb]
    exact h1
  · by_cases hb : b = a
    · rw [hb, upd_same] at q
      cases q
    · rw [upd_ne hb] at q
      exact S.kp.d b q
  · rcases mem_set_cell hc with rfl | ⟨j, nj, ej⟩
    · exact S.ow (a, o) (List.mem_of_getElem? e)
    · exact S.ow c (List.mem_of_getElem? ej)
/-- behind a call that changed at most what stands at the keys of U (their new cells), each of them a cell of L -/
theorem SH.call0 (S : SH A H0 H L) (k : Keep [] H H') : SH A H0 H' L :=
  ⟨fun c hc => k.k _ _ (S.hs c hc) (.inl (by simp)), S.nd, S.kp.trans k.nil, S.ow⟩
theorem SH.call1 (S : SH A H0 H L) (i : Nat) (e : L[i]? = some (a, o)) (im : Imm o = false) (k : Keep [a] H H') (h : H' a = some o') : SH A H0 H' (L.set i (a, o')) := by
  have ha := S.get i e
  refine ⟨fun c hc => ?_, by rw [map_set_key e]; exact S.nd, ⟨fun b u q z => ?_, fun b q => S.kp.d b (k.d b q)⟩, fun c hc => ?_⟩
  · rcases mem_set_cell hc with rfl | ⟨j, nj, ej⟩
    · exact h
    · exact k.k _ _ (S.hs c (List.mem_of_getElem? ej)) (.inl fun z => nodup_key S.nd e ej nj (List.mem_singleton.mp z))
  · have h1 := S.kp.k b u q z
    refine k.k b u h1 ?_
    rcases z with z | z
    · refine .inl fun y => ?_
      have y' := List.mem_singleton.mp y
      subst y'
      rcases S.ow _ (List.mem_of_getElem? e) with w | w
      · exact z w
      · rw [q] at w
        cases w
    · exact .inr z
  · rcases mem_set_cell hc with rfl | ⟨j, nj, ej⟩
    · exact S.ow (a, o) (List.mem_of_getElem? e)
    · exact S.ow c (List.mem_of_getElem? ej)
/-- a new object of a callee -/
theorem SH.add (S : SH A H0 H L) (S' : SH A H0 H' L') (ks : ∀ c ∈ L', H c.1 ≠ none) (n : H p = none) (h : H' p = some o) : SH A H0 H' ((p, o) :: L') := by
  refine ⟨fun c hc => ?_, ?_, S'.kp, fun c hc => ?_⟩
  · rcases List.mem_cons.mp hc with rfl | hc
    · exact h
    · exact S'.hs c hc
  · rw [List.map_cons, List.nodup_cons]
    refine ⟨fun z => ?_, S'.nd⟩
    obtain ⟨c, hc, e⟩ := List.mem_map.mp z
    exact ks c hc (e ▸ n)
  · rcases List.mem_cons.mp hc with rfl | hc
    · exact .inr (S.kp.d _ n)
    · exact S'.ow c hc
theorem SH.call0n (S : SH A H0 H L) (k : Keep [] H H') (n : H p = none) (h : H' p = some o) : SH A H0 H' ((p, o) :: L) :=
  S.add (S.call0 k) (fun c hc => by rw [S.hs c hc]; exact nofun) n h
theorem SH.call1n {q : Addr} {u : HO} (S : SH A H0 H L) (i : Nat) (e : L[i]? = some (a, o)) (im : Imm o = false) (k : Keep [a] H H') (h : H' a = some o') (n : H q = none) (h2 : H' q = some u) : SH A H0 H' ((q, u) :: L.set i (a, o')) := by
  refine S.add (S.call1 i e im k h) (fun c hc => ?_) n h2
  rcases mem_set_cell hc with rfl | ⟨j, nj, ej⟩
  · rw [S.get i e]
    exact nofun
  · rw [S.hs c (List.mem_of_getElem? ej)]
    exact nofun
theorem SH.sub (S : SH A H0 H L) (s : L'.Sublist L) : SH A H0 H L' :=
  ⟨fun c hc => S.hs c (s.subset hc), (s.map _).nodup S.nd, S.kp, fun c hc => S.ow c (s.subset hc)⟩
theorem SH.pick (S : SH A H0 H L) (is : List Nat) (nd : is.Nodup) (e : is.map (fun i => L[i]?) = L'.map some) : SH A H0 H L' := by
  have at_ : ∀ (j : Nat) (c : Cell), L'[j]? = some c → ∃ i, is[j]? = some i ∧ L[i]? = some c := fun j c h => by
    have q : (is.map (fun i => L[i]?))[j]? = some (some c) := by rw [e, List.getElem?_map, h]; rfl
    rw [List.getElem?_map] at q
    cases h2 : is[j]? with
    | none => rw [h2] at q; cases q
    | some i => rw [h2] at q; exact ⟨i, rfl, Option.some.inj q⟩
  have mem : ∀ c ∈ L', c ∈ L := fun c hc => by
    obtain ⟨j, hj, e2⟩ := List.mem_iff_getElem.mp hc
    obtain ⟨i, _, h⟩ := at_ j c (by rw [List.getElem?_eq_getElem hj, e2])
    exact List.mem_of_getElem? h
  refine ⟨fun c hc => S.hs c (mem c hc), ?_, S.kp, fun c hc => S.ow c (mem c hc)⟩
  refine List.pairwise_iff_getElem.mpr fun a b ha hb hab z => ?_
  rw [List.length_map] at ha hb
  rw [List.getElem_map, List.getElem_map] at z
  obtain ⟨i, i1, i2⟩ := at_ a _ (List.getElem?_eq_getElem ha)
  obtain ⟨j, j1, j2⟩ := at_ b _ (List.getElem?_eq_getElem hb)
  have hij : i ≠ j := fun q => by
    subst q
    obtain ⟨l1, q1⟩ := List.getElem?_eq_some_iff.mp i1
    obtain ⟨l2, q2⟩ := List.getElem?_eq_some_iff.mp j1
    have := (List.getElem_inj nd).mp (q1.trans q2.symm)
    omega
  exact nodup_key S.nd i2 j2 (Ne.symm hij) z.symm
theorem SH.drop1 {c : Cell} (S : SH A H0 H (c :: L)) : SH A H0 H L := S.sub (List.sublist_cons_self _ _)
theorem SH.perm (S : SH A H0 H L) (p : L.Perm L') : SH A H0 H L' :=
  ⟨fun c hc => S.hs c (p.mem_iff.mpr hc), (p.map _).nodup_iff.mp S.nd, S.kp, fun c hc => S.ow c (p.mem_iff.mpr hc)⟩
theorem SH.ro (S : SH [] H0 H L) (h : H0 a = some o) : H a = some o := S.kp.k a o h (.inl fun z => nomatch z)
/-- what this code did, seen from outside -/
theorem SH.done (S : SH A H0 H L) : Keep A H0 H := S.kp
theorem SH.ne (S : SH A H0 H L) {i j : Nat} {c d : Cell} (h1 : L[i]? = some c) (h2 : L[j]? = some d) (ne : j ≠ i) : d.1 ≠ c.1 := nodup_key S.nd h1 h2 ne
end

/-- behind a call that turned the cells B into B2 -/
theorem SH.call {A : List Addr} {H0 H H' : Hp} {B B2 F : List Cell} (S : SH A H0 H (B ++ F)) (C : SH (B.map (·.1)) H H' B2) : SH A H0 H' (B2 ++ F) := by
  have apart : ∀ c ∈ F, c.1 ∉ B.map (·.1) := fun c hc z => by
    have nd := S.nd
    rw [List.map_append] at nd
    exact (List.nodup_append.mp nd).2.2 c.1 z c.1 (List.mem_map_of_mem hc) rfl
  refine ⟨fun c hc => ?_, ?_, ⟨fun b o e q => ?_, fun b e => S.kp.d b (C.kp.d b e)⟩, fun c hc => ?_⟩
  · rcases List.mem_append.mp hc with h | h
    · exact C.hs c h
    · exact C.kp.k _ _ (S.hs c (List.mem_append_right _ h)) (.inl (apart c h))
  · rw [List.map_append]
    have nd := S.nd
    rw [List.map_append] at nd
    refine List.nodup_append.mpr ⟨C.nd, (List.nodup_append.mp nd).2.1, fun a ha b hb e => ?_⟩
    subst e
    obtain ⟨c, hc, rfl⟩ := List.mem_map.mp ha
    obtain ⟨d, hd, e⟩ := List.mem_map.mp hb
    rcases C.ow c hc with w | w
    · exact apart d hd (by rw [e]; exact w)
    · rw [← e, S.hs d (List.mem_append_right _ hd)] at w
      cases w
  · have h1 := S.kp.k b o e q
    refine C.kp.k b o h1 ?_
    rcases q with q | q
    · refine .inl fun z => ?_
      obtain ⟨c, hc, e2⟩ := List.mem_map.mp z
      rcases S.ow c (List.mem_append_left _ hc) with w | w
      · exact q (e2 ▸ w)
      · rw [e2, e] at w
        cases w
    · exact .inr q
  · rcases List.mem_append.mp hc with h | h
    · rcases C.ow c h with w | w
      · obtain ⟨d, hd, e⟩ := List.mem_map.mp w
        rw [← e]
        exact S.ow d (List.mem_append_left _ hd)
      · exact .inr (S.kp.d _ w)
    · exact S.ow c (List.mem_append_right _ h)
theorem SH.pickT {A : List Addr} {H0 H : Hp} {L L' : List Cell} (n : Nat) (S : SH A H0 H L) (is : List Nat) (nd : is.Nodup) (hb : ∀ i ∈ is, i < n) (e : is.map (fun i => L[i]?) = L'.map some) : SH A H0 H (L' ++ L.drop n) := by
  have S1 := S.pick is nd e
  have S2 := S.sub (List.drop_sublist n L)
  refine ⟨fun c hc => (List.mem_append.mp hc).elim (S1.hs c) (S2.hs c), ?_, S.kp, fun c hc => (List.mem_append.mp hc).elim (S1.ow c) (S2.ow c)⟩
  rw [List.map_append]
  refine List.nodup_append.mpr ⟨S1.nd, S2.nd, fun a ha b hb' q => ?_⟩
  subst q
  obtain ⟨c, hc, rfl⟩ := List.mem_map.mp ha
  obtain ⟨d, hd, ed⟩ := List.mem_map.mp hb'
  obtain ⟨j, hj, ej⟩ := List.mem_iff_getElem.mp hc
  obtain ⟨m, hm, em⟩ := List.mem_iff_getElem.mp hd
  have q : (is.map (fun i => L[i]?))[j]? = some (some c) := by rw [e, List.getElem?_map, List.getElem?_eq_getElem hj, ej]; rfl
  rw [List.getElem?_map] at q
  cases h2 : is[j]? with
  | none => rw [h2] at q; cases q
  | some i =>
    rw [h2] at q
    have hi := hb i (List.mem_of_getElem? h2)
    have e1 : L[i]? = some c := Option.some.inj q
    have e2 : L[n + m]? = some d := by rw [← List.getElem?_drop, List.getElem?_eq_getElem hm, em]
    exact nodup_key S.nd e1 e2 (by omega) ed
theorem perm_mid {α : Type} (A B S : List α) : ((A ++ B) ++ S).Perm (A ++ (S ++ B)) := by
  rw [List.append_assoc]
  exact List.Perm.append_left _ List.perm_append_comm
/-- cells that are there, apart -/
structure Blk (H : Hp) (B : List Cell) : Prop where
  hs : ∀ c ∈ B, H c.1 = some c.2
  nd : (B.map (·.1)).Nodup
theorem SH.callM {A : List Addr} {H0 H H' : Hp} {F B B2 G : List Cell} (S : SH A H0 H (F ++ (B ++ G))) (C : SH (B.map (·.1)) H H' B2) : SH A H0 H' (F ++ (B2 ++ G)) := by
  have p : ∀ X : List Cell, (F ++ (X ++ G)).Perm (X ++ (F ++ G)) := fun X => by
    rw [← List.append_assoc, ← List.append_assoc]
    exact List.Perm.append_right _ List.perm_append_comm
  exact ((S.perm (p B)).call C).perm (p B2).symm
theorem SH.callR {A : List Addr} {H0 H H' : Hp} {F B B2 : List Cell} (S : SH A H0 H (F ++ B)) (C : SH (B.map (·.1)) H H' B2) : SH A H0 H' (F ++ B2) :=
  ((S.perm List.perm_append_comm).call C).perm List.perm_append_comm
theorem SH.blkM {A : List Addr} {H0 H : Hp} (F B G : List Cell) (S : SH A H0 H (F ++ (B ++ G))) : Blk H B := ⟨fun c hc => S.hs c (List.mem_append_right _ (List.mem_append_left _ hc)), by
  have nd := S.nd
  rw [List.map_append, List.map_append] at nd
  exact (List.nodup_append.mp (List.nodup_append.mp nd).2.1).1⟩
theorem SH.blkR {A : List Addr} {H0 H : Hp} (F B : List Cell) (S : SH A H0 H (F ++ B)) : Blk H B := ⟨fun c hc => S.hs c (List.mem_append_right _ hc), by
  have nd := S.nd
  rw [List.map_append] at nd
  exact (List.nodup_append.mp nd).2.1⟩
theorem Blk.sh {H : Hp} {B : List Cell} (b : Blk H B) : SH (B.map (·.1)) H H B := SH.start b.hs b.nd
theorem SH.blk {A : List Addr} {H0 H : Hp} {L : List Cell} (S : SH A H0 H L) : Blk H L := ⟨S.hs, S.nd⟩
theorem Blk.sub {H : Hp} {B B' : List Cell} (b : Blk H B) (s : B'.Sublist B) : Blk H B' := ⟨fun c hc => b.hs c (s.subset hc), (s.map _).nodup b.nd⟩
theorem SH.fr0 {H0 H : Hp} {L : List Cell} {p : Addr} {o : HO} (S : SH [] H0 H L) (i : Nat) (e : L[i]? = some (p, o)) : H0 p = none := (S.ow (p, o) (List.mem_of_getElem? e)).elim (fun z => nomatch z) id
theorem SH.fr1 {H0 H : Hp} {L : List Cell} {p a : Addr} {o u : HO} (S : SH [a] H0 H L) (i j : Nat) (e : L[i]? = some (p, o)) (e2 : L[j]? = some (a, u)) (ne : i ≠ j) : H0 p = none :=
  (S.ow (p, o) (List.mem_of_getElem? e)).elim (fun z => absurd (List.mem_singleton.mp z) (nodup_key S.nd e2 e ne)) id
theorem SH.frn {A : List Addr} {H0 H : Hp} {L : List Cell} {p : Addr} {o : HO} (S : SH A H0 H L) (i : Nat) (e : L[i]? = some (p, o)) (n : p ∉ A) : H0 p = none := (S.ow (p, o) (List.mem_of_getElem? e)).elim (fun z => absurd z n) id
/-- the script (or another list that nobody changes) -/
def Scr (K : PySem.W.Frag) (H : Hp) (a : Addr) (xs : List V) : Prop :=
  (∃ o, H a = some (.frz o (.lst xs))) ∨
    ∃ (o : Obj) (its : Array Value) (n : Nat), K.lookup a = some o ∧ o.cls = .type "list" ∧ o.dict = none ∧ o.data = .seq its n ∧ its.size ≤ sizeLine ∧ Vals xs its.toList
theorem Scr.sq {K : PySem.W.Frag} {H : Hp} {a : Addr} {xs : List V} (h : Scr K H a xs) : SqL K H a xs := by
  rcases h with ⟨o, h⟩ | h
  · exact .inl (.inr ⟨o, h⟩)
  · exact .inr h
theorem Scr.keep {K : PySem.W.Frag} {A : List Addr} {H H' : Hp} {a : Addr} {xs : List V} (h : Scr K H a xs) (k : Keep A H H') : Scr K H' a xs := by
  rcases h with ⟨o, h⟩ | h
  · exact .inl ⟨o, k.k _ _ h (.inr rfl)⟩
  · exact .inr h
theorem Scr.of {K : PySem.W.Frag} {H : Hp} {a : Addr} {xs : List V} (h : SqL K H a xs) (O : Only H) : Scr K H a xs := by
  rcases h with (h | ⟨o, h⟩) | h
  · rcases O a with q | ⟨o, ys, q⟩
    · rw [q] at h
      cases h
    · rw [q] at h
      cases h
  · exact .inl ⟨o, h⟩
  · exact .inr h

/-! ### operators for several kinds of values -/
section
variable {X : Cx}
def CDivX (_ j : Int) : Prop := j ≠ 0 ∧ j.natAbs.log2 < 9000
theorem op_fdivX : OpR X (binaryOp .FloorDiv) (rI CDivX fun i j => .int (i.fdiv j)) := opI fun _ _ _ _ _ _ _ hc q => floordiv_int hc.1 q (.inl (PyProof.noPylong_of_log2 hc.2))
def rAddX (K : PySem.W.Frag) : R2 := fun x y H Q => rI0 (fun i j => .int (i + j)) x y H Q ∨ (∃ i j, x = .str i ∧ y = .str j ∧ i.length + j.length ≤ sizeLine ∧ Q (.str (i ++ j)) H) ∨ rCat x y H Q ∨ rCatA K x y H Q
theorem xAdd : OpR X (binaryOp .Add) (rAddX X.K) := op_add.or (op_add_str.or (op_cat.or op_catA))
def rMulX (K : PySem.W.Frag) : R2 := fun x y H Q => rI CMul (fun i j => .int (i * j)) x y H Q ∨ rI CMulW (fun i j => .int (i * j)) x y H Q ∨ rRep x y H Q ∨ rRepT K x y H Q
theorem xMul : OpR X (binaryOp .Mult) (rMulX X.K) := op_mul.or (op_mulW.or (op_rep.or op_repT))
def rDivX : R2 := fun x y H Q => rI CDivW (fun i j => .int (i / j)) x y H Q ∨ rI CDivX (fun i j => .int (i.fdiv j)) x y H Q
theorem xDiv : OpR X (binaryOp .FloorDiv) rDivX := op_fdivW.or op_fdivX
def rModX : R2 := fun x y H Q => rI (fun _ j => 0 < j) (fun i j => .int (i % j)) x y H Q ∨ rI (fun _ j => j ≠ 0) (fun i j => .int (i.fmod j)) x y H Q
theorem xMod : OpR X (binaryOp .Mod) rModX := op_mod.or op_modN
def rEqX (K : PySem.W.Frag) : R2 := fun x y H Q => rEq x y H Q ∨ rEqD K x y H Q
def rNeX (K : PySem.W.Frag) : R2 := fun x y H Q => rNe x y H Q ∨ rNeD K x y H Q
theorem xEq (hu : X.A.units + 64 < cLine) : OpR X (compareOp .Eq) (rEqX X.K) := op_eq.or (op_eqD hu)
theorem xNe (hu : X.A.units + 64 < cLine) : OpR X (compareOp .NotEq) (rNeX X.K) := op_ne.or (op_neD hu)
def rInX (K : PySem.W.Frag) (neg : Bool) : R2 := rIn K neg
theorem xIn : OpR X (compareOp .In) (rInX X.K false) := op_in_seq
theorem xNotIn : OpR X (compareOp .NotIn) (rInX X.K true) := op_notIn_seq
def rIsX : R2 := fun x y H Q => (y = .non ∧ Q (.bl (decide (x = .non))) H) ∨ (∃ a b, x = .bl a ∧ y = .bl b ∧ Q (.bl (decide (a = b))) H)
def rIsNotX : R2 := fun x y H Q => (y = .non ∧ Q (.bl (!decide (x = .non))) H) ∨ (∃ a b, x = .bl a ∧ y = .bl b ∧ Q (.bl (!decide (a = b))) H)
theorem xIs : OpR X (compareOp .Is) rIsX := op_isN.or op_is_bl
theorem xIsNot : OpR X (compareOp .IsNot) rIsNotX := op_notN.or op_isnot_bl
def rIxX (K : PySem.W.Frag) : R2 := rIx K
theorem xIx : IxR X (rIxX X.K) := ix_seq
def rSlX (K : PySem.W.Frag) : V → Option Int → Option Int → Hp → VK → Prop := fun x lo hi H Q => rSlL K x lo hi H Q ∨ rSlT K x lo hi H Q
theorem xSl : SlR X (rSlX X.K) := sl_list.or sl_tup
theorem CallR.or {f : Value} {r r' : List V → Hp → VK → Prop} (h : CallR X f r) (h' : CallR X f r') : CallR X f (fun xs H Q => r xs H Q ∨ r' xs H Q) := by
  intro pins s σ H xs us Q I r1 q
  rcases q with q | q
  · exact h pins s σ H xs us Q I r1 q
  · exact h' pins s σ H xs us Q I r1 q
def rInt : List V → Hp → VK → Prop := fun xs H Q => (∃ i, xs = [.int i] ∧ Q (.int i) H) ∨ ∃ k, xs = [.bl k] ∧ Q (.int (if k then 1 else 0)) H
theorem x_int : CallR X (.type "int") rInt := call_int1
def rLenX (K : PySem.W.Frag) : List V → Hp → VK → Prop := fun xs H Q => ∃ x n, xs = [x] ∧ LenV K x H n ∧ Q (.int n) H
theorem x_len : CallR X (.builtin "len") (rLenX X.K) := call_len
def rAbs : List V → Hp → VK → Prop := fun xs H Q => ∃ i, xs = [.int i] ∧ Q (.int (if i < 0 then -i else i)) H
theorem x_abs : CallR X (.builtin "abs") rAbs := call_abs
def rIsiX (K : PySem.W.Frag) : List V → Hp → VK → Prop := fun xs H Q => rIsi K xs H Q ∨ rIsiT K xs H Q
theorem x_isinstance : CallR X (.builtin "isinstance") (rIsiX X.K) := CallR.or call_isi call_isiT
def rListX (K : PySem.W.Frag) : List V → Hp → VK → Prop := fun xs H Q => ∃ p ys, xs = [.ref p] ∧ (SqL K H p ys ∨ SqT K H p ys) ∧ ∀ l, H l = none → Q (.ref l) (upd H l (.lst ys))
theorem x_list : CallR X (.type "list") (rListX X.K) := call_list_of
def rTupX (K : PySem.W.Frag) : List V → Hp → VK → Prop := fun xs H Q => ∃ p ys, xs = [.ref p] ∧ ((SqL K H p ys ∧ ∀ l, H l = none → Q (.ref l) (upd H l (.tup ys))) ∨ (SqT K H p ys ∧ Q (.ref p) H))
theorem x_tuple : CallR X (.type "tuple") (rTupX X.K) := call_tuple_of
def rMax2 : List V → Hp → VK → Prop := fun xs H Q => ∃ i j, xs = [.int i, .int j] ∧ Q (.int (if j > i then j else i)) H
theorem x_max2 (hc : X.calm = true) : CallR X (.builtin "max") rMax2 := call_max2 hc
def rMin2 : List V → Hp → VK → Prop := fun xs H Q => ∃ i j, xs = [.int i, .int j] ∧ Q (.int (if j < i then j else i)) H
theorem x_min2 (hc : X.calm = true) : CallR X (.builtin "min") rMin2 := call_min2 hc
/-- a module's constant -/
theorem pe_ci {x : Str} {i : Int} {pos : Pos} (hg : Gl X x) (h : ∃ t, X.mg x = some (.int i t)) (hd : (x == ("__debug__" : Str)) = false := by decide) : PE X (.Name x pos) (tC (.int i)) := by
  obtain ⟨t, h⟩ := h
  exact pe_glob hg h ⟨t, rfl⟩ hd
theorem pe_gr {x : Str} {a : Addr} {pos : Pos} (hg : Gl X x) (h : X.mg x = some (.ref a)) (hd : (x == ("__debug__" : Str)) = false := by decide) : PE X (.Name x pos) (tC (.ref a)) := pe_glob hg h rfl hd
theorem pe_cs {x z : Str} {pos : Pos} (hg : Gl X x) (h : ∃ t, X.mg x = some (.str z t)) (hd : (x == ("__debug__" : Str)) = false := by decide) : PE X (.Name x pos) (tC (.str z)) := by
  obtain ⟨t, h⟩ := h
  exact pe_glob hg h ⟨t, rfl⟩ hd
end

/-! ### == of lists of ints -/
theorem shaped_ints (ns : List Int) : SeqAt.shaped (.list (ns.map PyData.int)) = true := by
  have h1 : ∀ l : List Int, PyData.canLayAll0 (l.map PyData.int) = true := fun l => by
    induction l with
    | nil => rfl
    | cons n r ih => rw [List.map_cons, PyData.canLayAll0, ih]; rfl
  have h2 : ∀ l : List Int, PyData.depthAll (l.map PyData.int) = 0 := fun l => by
    induction l with
    | nil => rfl
    | cons n r ih => rw [List.map_cons, PyData.depthAll, ih]; rfl
  unfold SeqAt.shaped
  rw [PyData.canLay0, h1, PyData.depth, h2]
  rfl
theorem eqv_ints : ∀ ns ms : List Int, PyData.eqvAll (ns.map PyData.int) (ms.map PyData.int) = decide (ns = ms)
  | [], [] => by simp [PyData.eqvAll]
  | [], _ :: _ => by simp [PyData.eqvAll]
  | _ :: _, [] => by simp [PyData.eqvAll]
  | n :: ns, m :: ms => by
    rw [List.map_cons, List.map_cons, PyData.eqvAll, eqv_ints ns ms]
    by_cases h : n = m <;> by_cases h2 : ns = ms <;> simp [h, h2, PyData.eqv]
theorem dp_ints {K : PySem.W.Frag} {H : Hp} : ∀ ns : List Int, DpAll K H (ns.map V.int) (ns.map PyData.int)
  | [] => .nil
  | n :: ns => .cons (.int n) (dp_ints ns)
theorem s_eqLI {K : PySem.W.Frag} {H : Hp} {p q : Addr} {ns ms : List Int} {Q : VK} (h1 : SqL K H p (ns.map V.int)) (h2 : SqL K H q (ms.map V.int)) (h : Q (.bl (decide (ns = ms))) H) : rEqX K (.ref p) (.ref q) H Q :=
  .inr ⟨_, _, .lst h1 (dp_ints ns), .lst h2 (dp_ints ms), shaped_ints ns, shaped_ints ms, by rw [PyData.eqv, eqv_ints]; exact h⟩
/-! ### defs of the program -/
/-- the name x stands for a def that keeps the promise sp -/
structure CallOk (P : Program) (w : World) (K : PySem.W.Frag) (mg : Str → Option Value) (base : Heap) (CX : CXT) (k : Nat) (x : Str) (ps : List Str) (sp : Sp) : Prop where
  ex : ∃ f fd, mg x = some (.ref f) ∧ PySem.W.keepIn K (.ref f) = true ∧ Binds K fd ps [] ∧ FnOk P w K mg base CX k f fd ps sp
section
variable {X : Cx} {CX : CXT} {k : Nat} {ps : List Str} {sp : Sp} {E : XK} {x : Str} {p pos : Pos} {e : Expr} {es : List Expr} {t : TA}
theorem pe_callG (F : CallOk X.prog X.w X.K X.mg X.base CX k x ps sp) (hr : Room k X.A) (hg : Gl X x) (hx : Passes CX X E)
    (ha : PA X (e :: es) t) (hdb : (x == ("__debug__" : Str)) = false := by decide) (he : starEach (e :: es) X.env = (false, eval e X.env) :: starEach es X.env := by rfl) (hpl : (backTo pos (starEach es X.env)).any (·.1) = false := by rfl) :
    PE X (.Call (.Name x p) (e :: es) [] pos) (tCall sp [] E t) := by
  obtain ⟨f, fd, h1, h2, h3, h4⟩ := F.ex
  exact pe_call h4 hr hg h1 h2 h3 .nil hx ha hdb he hpl
theorem pe_callG0 (F : CallOk X.prog X.w X.K X.mg X.base CX k x ps sp) (hr : Room k X.A) (hg : Gl X x) (hx : Passes CX X E) (hdb : (x == ("__debug__" : Str)) = false := by decide) :
    PE X (.Call (.Name x p) [] [] pos) (tCall sp [] E tNil) := by
  obtain ⟨f, fd, h1, h2, h3, h4⟩ := F.ex
  exact pe_call0 h4 hr hg h1 h2 h3 .nil hx hdb
end
/-- the method m of the class that stands under the name C -/
structure MethOk (P : Program) (w : World) (K : PySem.W.Frag) (mg : Str → Option Value) (base : Heap) (CX : CXT) (k : Nat) (C m : Str) (ps : List Str) (sp : Sp) : Prop where
  ex : ∃ fd, Cls K (He.ga K C) ∧ Meth K (He.ga K C) m (He.ma K (He.ga K C) m) ∧ Binds K fd ps [] ∧ FnOk P w K mg base CX k (He.ma K (He.ga K C) m) fd ps sp
structure MakeOk (P : Program) (w : World) (K : PySem.W.Frag) (mg : Str → Option Value) (base : Heap) (CX : CXT) (k : Nat) (C : Str) (ps : List Str) (sp : Sp) : Prop where
  ex : ∃ fd, mg C = some (.ref (He.ga K C)) ∧ Mk K (He.ga K C) (He.ma K (He.ga K C) "__init__") ∧ Binds K fd ps [] ∧ FnOk P w K mg base CX k (He.ma K (He.ga K C) "__init__") fd ps sp
/-- the property f of the class C -/
structure PropOk (P : Program) (w : World) (K : PySem.W.Frag) (mg : Str → Option Value) (base : Heap) (CX : CXT) (k : Nat) (C f : Str) (ps : List Str) (sp : Sp) : Prop where
  ex : ∃ fd p g, Cls K (He.ga K C) ∧ PropOf K (He.ga K C) f p g ∧ Binds K fd ps [] ∧ FnOk P w K mg base CX k g fd ps sp
/-- a method's reading behind its object -/
def methO (C : Addr) (m : Str) (sp : Sp) (E : XK) (t : TA) (σ : L2.St) (x : V) (H : Hp) (Q : VK) : Prop := ∃ a dx fs, x = .ref a ∧ H a = some (.ins C dx fs) ∧ fs.lookup m = none ∧ t σ H fun vs H2 => sp (x :: (vs ++ [])) H2 Q E
def propO (C : Addr) (sp : Sp) (E : XK) (x : V) (H : Hp) (Q : VK) : Prop := ∃ a dx fs, x = .ref a ∧ H a = some (.ins C dx fs) ∧ sp [.ref a] H Q E
def makeO (C : Addr) (sp : Sp) (E : XK) (vs : List V) (H : Hp) (Q : VK) : Prop := ∀ x dx, H x = none → H dx = none → dx ≠ x → sp (.ref x :: (vs ++ [])) (upd (upd H dx (.own x)) x (.ins C dx [])) (fun v H2 => v = .non ∧ Q (.ref x) H2) E
section
variable {X : Cx} {CX : CXT} {k : Nat} {ps : List Str} {sp : Sp} {E : XK} {C m : Str} {p pos apos : Pos} {o e : Expr} {es : List Expr} {t : TA} {ta : TE}
theorem pe_methG {pl : Sem Bool} (he : PE X o ta) (F : MethOk X.prog X.w X.K X.mg X.base CX k C m ps sp) (hr : Room k X.A) (hx : Passes CX X E) (ha : PA X (e :: es) t)
    (hst : starEach (e :: es) X.env = (false, eval e X.env) :: starEach es X.env := by rfl) (hpl : (backTo pos (starEach es X.env)).any (·.1) = false := by rfl)
    (ht : eval (.Call (.Attribute o m apos) (e :: es) [] pos) X.env = (do
      let ov ← eval o X.env
      standAt apos.atName
      let (f, first) ← holding [ov] (getMethod ov m pl)
      callWith pos f first (backTo pos (starEach (e :: es) X.env)) (backToKw pos (keywordEach [] X.env))) := by rfl) :
    PE X (.Call (.Attribute o m apos) (e :: es) [] pos) (fun σ H Q => ta σ H fun x H1 => methO (He.ga X.K C) m sp E t σ x H1 Q) := by
  obtain ⟨fd, c, hm, hb, G⟩ := F.ex
  exact pe_meth (pl := pl) he c hm G hr hb .nil hx ha hst hpl ht
theorem pe_methG0 {pl : Sem Bool} (he : PE X o ta) (F : MethOk X.prog X.w X.K X.mg X.base CX k C m ps sp) (hr : Room k X.A) (hx : Passes CX X E)
    (ht : eval (.Call (.Attribute o m apos) [] [] pos) X.env = (do
      let ov ← eval o X.env
      standAt apos.atName
      let (f, first) ← holding [ov] (getMethod ov m pl)
      callWith pos f first (backTo pos (starEach [] X.env)) (backToKw pos (keywordEach [] X.env))) := by rfl) :
    PE X (.Call (.Attribute o m apos) [] [] pos) (fun σ H Q => ta σ H fun x H1 => methO (He.ga X.K C) m sp E tNil σ x H1 Q) := by
  obtain ⟨fd, c, hm, hb, G⟩ := F.ex
  exact pe_meth0 (pl := pl) he c hm G hr hb .nil hx ht
theorem pe_propG (he : PE X o ta) (F : PropOk X.prog X.w X.K X.mg X.base CX k C m ps sp) (hr : Room (k + 1) X.A) (hx : Passes CX X.nox E)
    (hab : attributeBase o m X.env (eval o X.env) = eval o X.env) : PE X (.Attribute o m pos) (fun σ H Q => ta σ H fun x H1 => propO (He.ga X.K C) sp E x H1 Q) := by
  obtain ⟨fd, p, g, c, hp, hb, G⟩ := F.ex
  exact pe_prop he c hp G hr hb .nil hx hab
theorem pe_makeG (F : MakeOk X.prog X.w X.K X.mg X.base CX k C ps sp) (hr : Room (k + 1) X.A) (hg : Gl X C) (hx : Passes CX X E) (ha : PA X (e :: es) t) (hdb : (C == ("__debug__" : Str)) = false := by decide)
    (he : starEach (e :: es) X.env = (false, eval e X.env) :: starEach es X.env := by rfl) (hpl : (backTo pos (starEach es X.env)).any (·.1) = false := by rfl) :
    PE X (.Call (.Name C p) (e :: es) [] pos) (fun σ H Q => t σ H fun vs H1 => makeO (He.ga X.K C) sp E vs H1 Q) := by
  obtain ⟨fd, hm, M, hb, G⟩ := F.ex
  exact pe_make M G hr hg hm hb .nil hx ha hdb he hpl
theorem pe_makeG0 (F : MakeOk X.prog X.w X.K X.mg X.base CX k C ps sp) (hr : Room (k + 1) X.A) (hg : Gl X C) (hx : Passes CX X E) (hdb : (C == ("__debug__" : Str)) = false := by decide) :
    PE X (.Call (.Name C p) [] [] pos) (fun σ H Q => makeO (He.ga X.K C) sp E [] H Q) := by
  obtain ⟨fd, hm, M, hb, G⟩ := F.ex
  exact pe_make0 M G hr hg hm hb .nil hx hdb
end
/-- promises by the number of arguments -/
def mk0 (P : Hp → VK → XK → Prop) : Sp := fun vs H Q E => vs = [] ∧ P H Q E
def mk1 (P : V → Hp → VK → XK → Prop) : Sp := fun vs H Q E => ∃ a, vs = [a] ∧ P a H Q E
def mk2 (P : V → V → Hp → VK → XK → Prop) : Sp := fun vs H Q E => ∃ a b, vs = [a, b] ∧ P a b H Q E
def mk3 (P : V → V → V → Hp → VK → XK → Prop) : Sp := fun vs H Q E => ∃ a b c, vs = [a, b, c] ∧ P a b c H Q E
def mk4 (P : V → V → V → V → Hp → VK → XK → Prop) : Sp := fun vs H Q E => ∃ a b c d, vs = [a, b, c, d] ∧ P a b c d H Q E
def mk5 (P : V → V → V → V → V → Hp → VK → XK → Prop) : Sp := fun vs H Q E => ∃ a b c d e, vs = [a, b, c, d, e] ∧ P a b c d e H Q E
theorem mk0_len {P} (vs H Q E) (h : mk0 P vs H Q E) : vs.length = 0 := by obtain ⟨rfl, _⟩ := h; rfl
theorem mk1_len {P} (vs H Q E) (h : mk1 P vs H Q E) : vs.length = 1 := by obtain ⟨_, rfl, _⟩ := h; rfl
theorem mk2_len {P} (vs H Q E) (h : mk2 P vs H Q E) : vs.length = 2 := by obtain ⟨_, _, rfl, _⟩ := h; rfl
theorem mk3_len {P} (vs H Q E) (h : mk3 P vs H Q E) : vs.length = 3 := by obtain ⟨_, _, _, rfl, _⟩ := h; rfl
theorem mk4_len {P} (vs H Q E) (h : mk4 P vs H Q E) : vs.length = 4 := by obtain ⟨_, _, _, _, rfl, _⟩ := h; rfl
theorem mk5_len {P} (vs H Q E) (h : mk5 P vs H Q E) : vs.length = 5 := by obtain ⟨_, _, _, _, _, rfl, _⟩ := h; rfl
theorem s_mk0 {P : Hp → VK → XK → Prop} {H Q E} (h : P H Q E) : mk0 P ([] ++ []) H Q E := ⟨rfl, h⟩
theorem s_mk1 {P : V → Hp → VK → XK → Prop} {a H Q E} (h : P a H Q E) : mk1 P ([a] ++ []) H Q E := ⟨a, rfl, h⟩
theorem s_mk2 {P : V → V → Hp → VK → XK → Prop} {a b H Q E} (h : P a b H Q E) : mk2 P ([a, b] ++ []) H Q E := ⟨a, b, rfl, h⟩
theorem s_mk3 {P : V → V → V → Hp → VK → XK → Prop} {a b c H Q E} (h : P a b c H Q E) : mk3 P ([a, b, c] ++ []) H Q E := ⟨a, b, c, rfl, h⟩
theorem s_mk4 {P : V → V → V → V → Hp → VK → XK → Prop} {a b c d H Q E} (h : P a b c d H Q E) : mk4 P ([a, b, c, d] ++ []) H Q E := ⟨a, b, c, d, rfl, h⟩
theorem s_mk5 {P : V → V → V → V → V → Hp → VK → XK → Prop} {a b c d e H Q E} (h : P a b c d e H Q E) : mk5 P ([a, b, c, d, e] ++ []) H Q E := ⟨a, b, c, d, e, rfl, h⟩
theorem cxK {CX : CXT} {P : Program} {w : World} {K : PySem.W.Frag} {mg : Str → Option Value} {base : Heap} {N : List Str} {qual : Str} {scope : Scope} {f : Addr} {cd : Value} {A : Around} {outer : List PySem.Env} {s : Shared} {H : Hp} {E : XK} :
    (cxOf CX P w K mg base N qual scope f cd A outer s H E).nox.K = K := rfl
theorem cxK2 {CX : CXT} {P : Program} {w : World} {K : PySem.W.Frag} {mg : Str → Option Value} {base : Heap} {N : List Str} {qual : Str} {scope : Scope} {f : Addr} {cd : Value} {A : Around} {outer : List PySem.Env} {s : Shared} {H : Hp} {E : XK} :
    (cxOf CX P w K mg base N qual scope f cd A outer s H E).K = K := rfl
theorem hu_room {k : Nat} {A : Around} (hr : Room k A) : A.units + 64 < cLine := hr.units
theorem exget {ex : List (PySem.W.Frag → Bool)} {K : PySem.W.Frag} (h : (ex.all fun f => f K) = true) (i : Nat) {f : PySem.W.Frag → Bool} (e : ex[i]? = some f) : f K = true :=
  List.all_eq_true.mp h f (List.mem_of_getElem? e)

/-! ### one lemma a reading -/
/-- a new object -/
def newO (o : HO) (n : Nat) (H : Hp) (Q : VK) : Prop := n ≤ sizeLine ∧ ∀ p, H p = none → Q (.ref p) (upd H p o)
/-- a field of the value x -/
def fldO (K : PySem.W.Frag) (f : Str) (x : V) (H : Hp) (Q : VK) : Prop := ∃ a C dx fs v, x = .ref a ∧ H a = some (.ins C dx fs) ∧ Cls K C ∧ NoAttr K C f ∧ fs.lookup f = some v ∧ Q v H
def sfldO (K : PySem.W.Frag) (f : Str) (y x : V) (H : Hp) (P : Hp → Prop) : Prop := ∃ a C dx fs, x = .ref a ∧ H a = some (.ins C dx fs) ∧ Cls K C ∧ NoAttr K C f ∧ fs.length < 1000 ∧ P (upd H a (.ins C dx (putF f y fs)))
section
variable {σ σ' : L2.St} {H : Hp} {Q : VK} {K : PySem.W.Frag} {R : Bool → Hp → Prop} {D : Ends} {ta tb : TE} {t u : TS} {tc td : TT} {v : V}
theorem s_var {i : Nat} (e : σ[i]? = some (some v)) (h : Q v H) : tVar i σ H Q := ⟨v, e, h⟩
theorem s_C (h : Q v H) : tC v σ H Q := h
theorem s_op {r : R2} (h : ta σ H fun x H1 => tb σ H1 fun y H2 => r x y H2 Q) : tOp r ta tb σ H Q := h
theorem s_un {r : V → Hp → VK → Prop} (h : ta σ H fun x H1 => r x H1 Q) : tUn r ta σ H Q := h
theorem s_rU {g : Int → V} {i : Int} (h : Q (g i) H) : rU g (.int i) H Q := ⟨i, rfl, h⟩
theorem s_rI0 {g : Int → Int → V} {i j : Int} (h : Q (g i j) H) : rI0 g (.int i) (.int j) H Q := ⟨i, j, rfl, rfl, h⟩
theorem s_rI {C : Int → Int → Prop} {g : Int → Int → V} {i j : Int} (c : C i j) (h : Q (g i j) H) : rI C g (.int i) (.int j) H Q := ⟨i, j, rfl, rfl, c, h⟩
theorem s_addI {i j : Int} (h : Q (.int (i + j)) H) : rAddX K (.int i) (.int j) H Q := .inl ⟨i, j, rfl, rfl, h⟩
theorem s_addS {i j : Str} (c : i.length + j.length ≤ sizeLine) (h : Q (.str (i ++ j)) H) : rAddX K (.str i) (.str j) H Q := .inr (.inl ⟨i, j, rfl, rfl, c, h⟩)
theorem s_mulR {i j : Int} (c : -(2 ^ 64) < j ∧ j < 2 ^ 64) (h : Q (.int (i * j)) H) : rMulX K (.int i) (.int j) H Q := .inl ⟨i, j, rfl, rfl, .inr c, h⟩
theorem s_mulL {i j : Int} (c : -(2 ^ 64) < i ∧ i < 2 ^ 64) (h : Q (.int (i * j)) H) : rMulX K (.int i) (.int j) H Q := .inl ⟨i, j, rfl, rfl, .inl c, h⟩
theorem s_div {i j : Int} (c0 : 0 < j) (c : j < 2 ^ 64) (h : Q (.int (i / j)) H) : rDivX (.int i) (.int j) H Q := .inl ⟨i, j, rfl, rfl, wide_div (b := 64) c0 (by omega) (by decide) (by decide), h⟩
theorem s_divX {i j : Int} (c0 : j ≠ 0) (c : -(2 ^ 64) < j ∧ j < 2 ^ 64) (h : Q (.int (i.fdiv j)) H) : rDivX (.int i) (.int j) H Q :=
  .inr ⟨i, j, rfl, rfl, ⟨c0, Nat.lt_of_lt_of_le (PySem.Flt.log2_lt_of (k := 64) (by decide) (by omega)) (by decide)⟩, h⟩
theorem s_mod {i j : Int} (c : 0 < j) (h : Q (.int (i % j)) H) : rModX (.int i) (.int j) H Q := .inl ⟨i, j, rfl, rfl, c, h⟩
theorem s_modN {i j : Int} (c : j ≠ 0) (h : Q (.int (i.fmod j)) H) : rModX (.int i) (.int j) H Q := .inr ⟨i, j, rfl, rfl, c, h⟩
theorem s_pow {i j : Int} (c : CPow i j) {n : Int} (e : i ^ j.toNat = n) (h : Q (.int n) H) : rI CPow (fun i j => .int (i ^ j.toNat)) (.int i) (.int j) H Q := ⟨i, j, rfl, rfl, c, by show Q (.int (i ^ j.toNat)) H; rw [e]; exact h⟩
theorem s_eqI {i j : Int} (h : Q (.bl (decide (i = j))) H) : rEqX K (.int i) (.int j) H Q := .inl ⟨rfl, by
  have e : decide (V.int i = V.int j) = decide (i = j) := by simp
  rw [e]; exact h⟩
theorem s_neI {i j : Int} (h : Q (.bl (!decide (i = j))) H) : rNeX K (.int i) (.int j) H Q := .inl ⟨rfl, by
  have e : decide (V.int i = V.int j) = decide (i = j) := by simp
  rw [e]; exact h⟩
theorem s_eqS {i j : Str} (h : Q (.bl (decide (i = j))) H) : rEqX K (.str i) (.str j) H Q := .inl ⟨rfl, by
  have e : decide (V.str i = V.str j) = decide (i = j) := by simp
  rw [e]; exact h⟩
theorem s_neS {i j : Str} (h : Q (.bl (!decide (i = j))) H) : rNeX K (.str i) (.str j) H Q := .inl ⟨rfl, by
  have e : decide (V.str i = V.str j) = decide (i = j) := by simp
  rw [e]; exact h⟩
theorem s_eqB {i j : Bool} (h : Q (.bl (decide (i = j))) H) : rEqX K (.bl i) (.bl j) H Q := .inl ⟨rfl, by
  have e : decide (V.bl i = V.bl j) = decide (i = j) := by simp
  rw [e]; exact h⟩
theorem s_neB {i j : Bool} (h : Q (.bl (!decide (i = j))) H) : rNeX K (.bl i) (.bl j) H Q := .inl ⟨rfl, by
  have e : decide (V.bl i = V.bl j) = decide (i = j) := by simp
  rw [e]; exact h⟩
theorem s_isN (h : Q (.bl (decide (v = .non))) H) : rIsX v .non H Q := .inl ⟨rfl, h⟩
theorem s_isNotN (h : Q (.bl (!decide (v = .non))) H) : rIsNotX v .non H Q := .inl ⟨rfl, h⟩
theorem s_isB {a b : Bool} (h : Q (.bl (decide (a = b))) H) : rIsX (.bl a) (.bl b) H Q := .inr ⟨a, b, rfl, rfl, h⟩
theorem s_isNotB {a b : Bool} (h : Q (.bl (!decide (a = b))) H) : rIsNotX (.bl a) (.bl b) H Q := .inr ⟨a, b, rfl, rfl, h⟩
theorem s_inT {p : Addr} {xs : List V} {b : Bool} {neg : Bool} (h1 : SqT K H p xs) (f1 : flatV v = true) (f2 : xs.all flatV = true) (e : (if neg then !inV v xs else inV v xs) = b) (h : Q (.bl b) H) : rInX K neg v (.ref p) H Q :=
  ⟨p, xs, rfl, .inr h1, f1, f2, by rw [e]; exact h⟩
theorem s_inL {p : Addr} {xs : List V} {b : Bool} {neg : Bool} (h1 : SqL K H p xs) (f1 : flatV v = true) (f2 : xs.all flatV = true) (e : (if neg then !inV v xs else inV v xs) = b) (h : Q (.bl b) H) : rInX K neg v (.ref p) H Q :=
  ⟨p, xs, rfl, .inl h1, f1, f2, by rw [e]; exact h⟩
theorem s_inT0 {p : Addr} {xs : List V} (h1 : SqT K H p xs) (f1 : flatV v = true) (f2 : xs.all flatV = true) (h : Q (.bl (inV v xs)) H) : rInX K false v (.ref p) H Q := ⟨p, xs, rfl, .inr h1, f1, f2, h⟩
theorem s_inL0 {p : Addr} {xs : List V} (h1 : SqL K H p xs) (f1 : flatV v = true) (f2 : xs.all flatV = true) (h : Q (.bl (inV v xs)) H) : rInX K false v (.ref p) H Q := ⟨p, xs, rfl, .inl h1, f1, f2, h⟩
theorem s_niT0 {p : Addr} {xs : List V} (h1 : SqT K H p xs) (f1 : flatV v = true) (f2 : xs.all flatV = true) (h : Q (.bl (!inV v xs)) H) : rInX K true v (.ref p) H Q := ⟨p, xs, rfl, .inr h1, f1, f2, h⟩
theorem s_niL0 {p : Addr} {xs : List V} (h1 : SqL K H p xs) (f1 : flatV v = true) (f2 : xs.all flatV = true) (h : Q (.bl (!inV v xs)) H) : rInX K true v (.ref p) H Q := ⟨p, xs, rfl, .inl h1, f1, f2, h⟩
theorem s_ixL {p : Addr} {xs : List V} {i : Int} (h1 : SqL K H p xs) (e : atI xs i = some v) (h : Q v H) : rIxX K (.ref p) (.int i) H Q := .inl ⟨p, xs, i, v, rfl, rfl, h1, e, h⟩
theorem s_ixT {p : Addr} {xs : List V} {i : Int} (h1 : SqT K H p xs) (e : atI xs i = some v) (h : Q v H) : rIxX K (.ref p) (.int i) H Q := .inr (.inl ⟨p, xs, i, v, rfl, rfl, h1, e, h⟩)
theorem s_ixS {z : Str} {i : Int} {c : Nat} (h1 : z.length ≤ sizeLine) (e : atI z.cps.toList i = some c) (h : Q (.str ⟨#[c]⟩) H) : rIxX K (.str z) (.int i) H Q := .inr (.inr ⟨z, i, c, rfl, rfl, h1, e, h⟩)
theorem atI_in {xs : List V} {i : Int} (h0 : 0 ≤ i) (h1 : i < xs.length) : atI xs i = some (xs.getD i.toNat .non) := by
  unfold atI ixN
  rw [if_pos h0, if_pos h1]
  show xs[i.toNat]? = _
  rw [List.getD_eq_getElem?_getD, List.getElem?_eq_getElem (by omega)]
  rfl
theorem atI_ints {ns : List Int} {i : Int} (h0 : 0 ≤ i) (h1 : i < (ns.map V.int).length) : atI (ns.map V.int) i = some (.int (ns.getD i.toNat 0)) := by
  rw [List.length_map] at h1
  unfold atI ixN
  rw [if_pos h0, if_pos (by rw [List.length_map]; exact h1)]
  show (ns.map V.int)[i.toNat]? = _
  rw [List.getElem?_map, List.getD_eq_getElem?_getD, List.getElem?_eq_getElem (by omega)]
  rfl
theorem getD_strs (l : List Str) (i : Nat) (h : i < l.length) : (l.map V.str).getD i .non = .str (l.getD i "") := by
  rw [List.getD_eq_getElem?_getD, List.getD_eq_getElem?_getD, List.getElem?_map, List.getElem?_eq_getElem h]
  rfl
theorem getD_ints (l : List Int) (i : Nat) (h : i < l.length) : (l.map V.int).getD i .non = .int (l.getD i 0) := by
  rw [List.getD_eq_getElem?_getD, List.getD_eq_getElem?_getD, List.getElem?_map, List.getElem?_eq_getElem h]
  rfl
theorem set_ints (l : List Int) (i : Nat) (a : Int) : (l.map V.int).set i (.int a) = (l.set i a).map V.int := by rw [List.map_set]
def toI : V → Int
  | .int i => i
  | _ => 0
def isI : V → Bool
  | .int _ => true
  | _ => false
theorem atI_ilit {xs : List V} {i : Int} (h0 : 0 ≤ i) (h1 : i < xs.length) (a : xs.all isI = true) : atI xs i = some (.int (toI (xs.getD i.toNat .non))) := by
  rw [atI_in h0 h1]
  have hm : xs.getD i.toNat .non ∈ xs := by
    rw [List.getD_eq_getElem?_getD, List.getElem?_eq_getElem (by omega)]
    exact List.getElem_mem _
  have := List.all_eq_true.mp a _ hm
  cases e : xs.getD i.toNat .non with
  | int j => rfl
  | _ => rw [e] at this; cases this
theorem s_test (h : ta σ H fun x H' => ∃ k, x = .bl k ∧ R k H') : tTest ta σ H R := h
theorem s_tB (h : ta σ H fun x H' => ∃ k, x = .bl k ∧ R k H') : tB ta σ H R := h
theorem s_bl {b : Bool} {P : Bool → Prop} (h : P b) : ∃ k, V.bl b = .bl k ∧ P k := ⟨b, rfl, h⟩
theorem s_and (h : tc σ H fun c H1 => if c = true then td σ H1 R else R false H1) : tAnd tc td σ H R := h
theorem s_or (h : tc σ H fun c H1 => if c = true then R true H1 else td σ H1 R) : tOr tc td σ H R := h
theorem s_not (h : tc σ H fun c H1 => R (!c) H1) : tNot tc σ H R := h
theorem s_andV (h : ta σ H fun x H1 => ∃ c, x = .bl c ∧ if c = true then tb σ H1 Q else Q (.bl false) H1) : tAndV ta tb σ H Q := h
theorem s_orV (h : ta σ H fun x H1 => ∃ c, x = .bl c ∧ if c = true then Q (.bl true) H1 else tb σ H1 Q) : tOrV ta tb σ H Q := h
theorem s_notV (h : ta σ H fun x H1 => ∃ c, x = .bl c ∧ Q (.bl (!c)) H1) : tNotV ta σ H Q := h
theorem s_if (h : tc σ H fun c H1 => if c = true then ta σ H1 Q else tb σ H1 Q) : tIf tc ta tb σ H Q := h
theorem s_chain {r r' : R2} {te : TE} (h : ta σ H fun x H1 => tb σ H1 fun y H2 => r x y H2 fun z H3 => ∃ k, z = .bl k ∧ (if k = true then te σ H3 fun w' H4 => r' y w' H4 Q else Q (.bl false) H3)) : tChain r r' ta tb te σ H Q := h
theorem s_nil {S : List V → Hp → Prop} (h : S [] H) : tNil σ H S := h
theorem s_cons {S : List V → Hp → Prop} {tr : TA} (h : ta σ H fun x H1 => tr σ H1 fun xs H2 => S (x :: xs) H2) : tCons ta tr σ H S := h
theorem s_tup {tr : TA} (h : tr σ H fun xs H1 => newO (.tup xs) xs.length H1 Q) : tTup tr σ H Q := h
theorem s_lst {tr : TA} (h : tr σ H fun xs H1 => newO (.lst xs) xs.length H1 Q) : tLst tr σ H Q := h
theorem s_rep {l : Addr} {k : Int} {xs ys : List V} (h1 : H l = some (.lst xs)) (c : -(2 ^ 63) ≤ k ∧ k < 2 ^ 63) (c2 : xs.length * k.toNat ≤ sizeLine) (e : (List.replicate k.toNat xs).flatten = ys) (h : newO (.lst ys) 0 H Q) : rMulX K (.ref l) (.int k) H Q :=
  .inr (.inr (.inl ⟨l, k, xs, rfl, rfl, h1, c.1, c.2, c2, by rw [e]; exact h.2⟩))
theorem s_rep1 {l : Addr} {k : Int} {x : V} {n : Nat} (h1 : H l = some (.lst [x])) (c : 0 ≤ k ∧ k ≤ 16777216) (e : k.toNat = n) (h : newO (.lst (List.replicate n x)) 0 H Q) : rMulX K (.ref l) (.int k) H Q := by
  refine .inr (.inr (.inl ⟨l, k, [x], rfl, rfl, h1, by omega, by omega, ?_, ?_⟩))
  · rw [sizeLine_eq, List.length_singleton]
    omega
  · have q : (List.replicate k.toNat [x]).flatten = List.replicate n x := by
      rw [e]
      simp
    rw [q]
    exact h.2
theorem s_cat {l b : Addr} {xs zs ys : List V} (h1 : H l = some (.lst xs)) (h2 : H b = some (.lst zs)) (c : xs.length + zs.length ≤ sizeLine) (e : xs ++ zs = ys) (h : newO (.lst ys) 0 H Q) : rAddX K (.ref l) (.ref b) H Q :=
  .inr (.inr (.inl ⟨l, b, xs, zs, rfl, rfl, h1, h2, c, by rw [e]; exact h.2⟩))
theorem s_listO {p : Addr} {ys : List V} (h1 : SqL K H p ys) (h : newO (.lst ys) 0 H Q) : rListX K [.ref p] H Q := ⟨p, ys, rfl, .inl h1, h.2⟩
theorem s_listT {p : Addr} {ys : List V} (h1 : SqT K H p ys) (h : newO (.lst ys) 0 H Q) : rListX K [.ref p] H Q := ⟨p, ys, rfl, .inr h1, h.2⟩
theorem s_tupL {p : Addr} {ys : List V} (h1 : SqL K H p ys) (h : newO (.tup ys) 0 H Q) : rTupX K [.ref p] H Q := ⟨p, ys, rfl, .inl ⟨h1, h.2⟩⟩
theorem s_tupT {p : Addr} {ys : List V} (h1 : SqT K H p ys) (h : Q (.ref p) H) : rTupX K [.ref p] H Q := ⟨p, ys, rfl, .inr ⟨h1, h⟩⟩
theorem s_slL {p : Addr} {xs ys : List V} {lo hi : Option Int} (h1 : SqL K H p xs) (e : cutV xs lo hi = ys) (h : newO (.lst ys) 0 H Q) : rSlX K (.ref p) lo hi H Q := .inl ⟨p, xs, rfl, h1, by rw [e]; exact h.2⟩
theorem s_CB {r : List V → Hp → VK → Prop} {tr : TA} (h : tr σ H fun vs H1 => r vs H1 Q) : tCB r tr σ H Q := h
theorem s_call {sp : Sp} {E : XK} {tr : TA} (h : tr σ H fun vs H1 => sp (vs ++ []) H1 Q E) : tCall sp [] E tr σ H Q := h
theorem s_int {i : Int} (h : Q (.int i) H) : rInt [.int i] H Q := .inl ⟨i, rfl, h⟩
theorem s_intB {b : Bool} (h : if b = true then Q (.int 1) H else Q (.int 0) H) : rInt [.bl b] H Q := .inr ⟨b, rfl, by cases b <;> exact h⟩
theorem s_abs {i : Int} (h : Q (.int (if i < 0 then -i else i)) H) : rAbs [.int i] H Q := ⟨i, rfl, h⟩
theorem s_max2 {i j : Int} (h : Q (.int (if j > i then j else i)) H) : rMax2 [.int i, .int j] H Q := ⟨i, j, rfl, h⟩
theorem s_min2 {i j : Int} (h : Q (.int (if j < i then j else i)) H) : rMin2 [.int i, .int j] H Q := ⟨i, j, rfl, h⟩
theorem s_lenL {p : Addr} {xs : List V} (h1 : SqL K H p xs) (h : Q (.int (xs.length : Nat)) H) : rLenX K [.ref p] H Q := ⟨_, _, rfl, .inl ⟨xs, h1, rfl⟩, h⟩
theorem s_lenT {p : Addr} {xs : List V} (h1 : SqT K H p xs) (h : Q (.int (xs.length : Nat)) H) : rLenX K [.ref p] H Q := ⟨_, _, rfl, .inr ⟨xs, h1, rfl⟩, h⟩
theorem s_isi {c : V} {ty un : Value} {b : Bool} (k : ClsV c un) (h1 : TyX K H v ty) (e : PySem.W.kitOne K ty un = some b) (h : Q (.bl b) H) : rIsiX K [v, c] H Q := .inl ⟨v, c, ty, un, b, rfl, k, h1, e, h⟩
theorem s_isT {a b : String} (h1 : TyX K H v (.type a)) (e : kitB a b = some true) (h : Q (.bl true) H) : rIsiX K [v, .ty b] H Q := .inl ⟨v, _, _, _, _, rfl, .ty b, h1, kit_ty e, h⟩
theorem s_isF {a b : String} (h1 : TyX K H v (.type a)) (e : kitB a b = some false) (h : Q (.bl false) H) : rIsiX K [v, .ty b] H Q := .inl ⟨v, _, _, _, _, rfl, .ty b, h1, kit_ty e, h⟩
theorem s_sl {te : TE} {tl th : TO} {r : V → Option Int → Option Int → Hp → VK → Prop} (h : te σ H fun x H1 => tl σ H1 fun l H2 => th σ H2 fun u H3 => r x l u H3 Q) : tSl r te tl th σ H Q := h
theorem s_part {te : TE} {P : Option Int → Hp → Prop} (h : te σ H fun x H1 => ∃ i, x = .int i ∧ P (some i) H1) : tPart te σ H P := h
theorem s_partI {i : Int} {P : Int → Prop} (h : P i) : ∃ j, V.int i = .int j ∧ P j := ⟨i, rfl, h⟩
theorem s_noPart {P : Option Int → Hp → Prop} (h : P none H) : tNoPart σ H P := h
-- statements
variable {n b c : L2.St → Hp → Prop} {r : VK}
theorem s_seq (h : t ⟨u ⟨n, r, b, c⟩, r, b, c⟩ σ H) : tSeq t u ⟨n, r, b, c⟩ σ H := h
theorem s_next (h : n σ H) : tNext ⟨n, r, b, c⟩ σ H := h
theorem s_break (h : b σ H) : tBreak ⟨n, r, b, c⟩ σ H := h
theorem s_cont (h : c σ H) : tCont ⟨n, r, b, c⟩ σ H := h
theorem s_drop (h : ta σ H fun _ H1 => n σ H1) : tDrop ta ⟨n, r, b, c⟩ σ H := h
theorem s_ret (h : ta σ H r) : tRet ta ⟨n, r, b, c⟩ σ H := h
theorem s_retN (h : r .non H) : tRetN ⟨n, r, b, c⟩ σ H := h
theorem s_ifS (h : tc σ H fun q H1 => if q = true then t ⟨n, r, b, c⟩ σ H1 else u ⟨n, r, b, c⟩ σ H1) : tIfS tc t u ⟨n, r, b, c⟩ σ H := h
theorem s_asg {g : TG} (h : ta σ H fun x H1 => g x σ H1 n) : tAsg ta g ⟨n, r, b, c⟩ σ H := h
theorem s_gname {i : Nat} {S : L2.St → Hp → Prop} (e : σ.set i (some v) = σ') (h : S σ' H) : gName i v σ H S := by
  show S (σ.set i (some v)) H
  rw [e]; exact h
theorem s_gsub {S : L2.St → Hp → Prop} {ts : TSet} (h : ta σ H fun o H1 => tb σ H1 fun i H2 => ts o i v H2 fun H3 => S σ H3) : gSub ta tb ts v σ H S := h
theorem s_fld {f : Str} (h : ta σ H fun x H1 => fldO K f x H1 Q) : tFld K ta f σ H Q := h
theorem s_sfld {f : Str} (h : tb σ H fun y H1 => ta σ H1 fun x H2 => sfldO K f y x H2 fun H3 => n σ H3) : sFld K ta tb f ⟨n, r, b, c⟩ σ H := h
end
/-- an attribute as a target -/
def gAttr (K : PySem.W.Frag) (to : TE) (f : Str) : TG := fun v σ H S => to σ H fun x H1 => sfldO K f v x H1 fun H2 => S σ H2
theorem pg_attr {X : Cx} {o : Expr} {f : Str} {pos : Pos} {to : TE} (ho : PE X o to) : PG X (.Attribute o f pos) (gAttr X.K to f) := by
  refine ⟨fun pins s σ H v u S I r h => ?_⟩
  rw [assign_Attribute]
  refine wpAny_bind (wpAny_holding (thn (ho.run pins s σ H _ I h) fun ov s1 ⟨x, H1, I1, r1, q1⟩ => ?_))
  obtain ⟨a, C, dx, fs, rfl, e, c, l, hl, q⟩ := q1
  obtain rfl : ov = .ref a := r1
  exact wpAny_bind (wpAny_standAt (wpAny_bind (wpAny_holding (setattr_ok I1 e c l hl r fun s2 I2 => wpAny_release ⟨σ, _, I2, q⟩))))
/-- a built-in type's method, behind its object -/
def bm0O (K : PySem.W.Frag) (T : String) (r : V → List V → Hp → VK → Prop) (x : V) (H : Hp) (Q : VK) : Prop := tyV K T x H ∧ r x [] H Q
def bmO (K : PySem.W.Frag) (T : String) (r : V → List V → Hp → VK → Prop) (t : TA) (σ : L2.St) (x : V) (H : Hp) (Q : VK) : Prop := tyV K T x H ∧ t σ H fun xs H2 => r x xs H2 Q
section
variable {σ : L2.St} {H : Hp} {K : PySem.W.Frag} {to : TE} {Q : VK} {S : L2.St → Hp → Prop} {t : TA} {ts : TGs} {tg : TG} {v : V}
theorem s_gattr {f : Str} (h : to σ H fun x H1 => sfldO K f v x H1 fun H2 => S σ H2) : gAttr K to f v σ H S := h
theorem s_gtup {n : Nat} {a : Addr} {xs : List V} (h : SqT K H a xs) (l : xs.length = n) (q : ts xs σ H S) : gTup K n ts (.ref a) σ H S := ⟨a, xs, rfl, h, l, q⟩
theorem s_gcons {r : List V} (h : tg v σ H fun σ' H' => ts r σ' H' S) : gCons tg ts (v :: r) σ H S := ⟨v, r, rfl, h⟩
theorem s_gnil (h : S σ H) : gNil [] σ H S := ⟨rfl, h⟩
theorem s_bm0 {T : String} {r : V → List V → Hp → VK → Prop} (h : to σ H fun x H1 => bm0O K T r x H1 Q) : tBM0 K T r to σ H Q := h
theorem s_bm {T : String} {r : V → List V → Hp → VK → Prop} (h : to σ H fun x H1 => bmO K T r t σ x H1 Q) : tBM K T r to t σ H Q := h
theorem s_bmL {r : V → List V → Hp → VK → Prop} {l : Addr} {xs : List V} (h : SqL K H l xs) (q : t σ H fun xs H2 => r (.ref l) xs H2 Q) : bmO K "list" r t σ (.ref l) H Q := ⟨.inl ⟨rfl, _, h⟩, q⟩
theorem s_methO {C a dx : Addr} {m : Str} {sp : Sp} {E : XK} {fs : List (Str × V)} (h : H a = some (.ins C dx fs)) (l : fs.lookup m = none) (q : t σ H fun vs H2 => sp (.ref a :: (vs ++ [])) H2 Q E) : methO C m sp E t σ (.ref a) H Q := ⟨a, dx, fs, rfl, h, l, q⟩
theorem s_propO {C a dx : Addr} {sp : Sp} {E : XK} {fs : List (Str × V)} (h : H a = some (.ins C dx fs)) (q : sp ([.ref a] ++ []) H Q E) : propO C sp E (.ref a) H Q := ⟨a, dx, fs, rfl, h, q⟩
theorem pf_set {f : Str} {fs fs' : List (Str × V)} (i : Nat) (h : putF f v fs = fs.set i (f, v)) (e : fs.set i (f, v) = fs') : putF f v fs = fs' := h.trans e
theorem pf_new {f : Str} {fs fs' : List (Str × V)} (h : putF f v fs = fs ++ [(f, v)]) (e : fs ++ [(f, v)] = fs') : putF f v fs = fs' := h.trans e
end
/-! ### what is done to the ledger -/
section
variable {A : List Addr} {H0 H : Hp} {L L' : List Cell} {Q : VK} {P : Hp → Prop} {v : V}
theorem h_new {o : HO} {n : Nat} (S : SH A H0 H L) (c : n ≤ sizeLine) (h : ∀ p H', SH A H0 H' ((p, o) :: L) → H p = none → Q (.ref p) H') : newO o n H Q := ⟨c, fun p hp => h p _ (S.new o hp) hp⟩
theorem h_fld {K : PySem.W.Frag} {a C dx : Addr} {fs : List (Str × V)} {f : Str} (S : SH A H0 H L) (h1 : H a = some (.ins C dx fs)) (cl : Cls K C) (na : NoAttr K C f) (e : fs.lookup f = some v) (h : Q v H) : fldO K f (.ref a) H Q := ⟨a, C, dx, fs, v, rfl, h1, cl, na, e, h⟩
theorem h_sfld {i : Nat} {K : PySem.W.Frag} {a C dx : Addr} {fs fs' : List (Str × V)} {f : Str} (S : SH A H0 H L) (h1 : L[i]? = some (a, .ins C dx fs)) (cl : Cls K C) (na : NoAttr K C f) (l : fs.length < 1000) (e : putF f v fs = fs') (eL : L.set i (a, .ins C dx fs') = L')
    (h : ∀ H', SH A H0 H' L' → P H') : sfldO K f v (.ref a) H P := ⟨a, C, dx, fs, rfl, S.get i h1, cl, na, l, by rw [e]; exact h _ (eL ▸ S.set i h1 rfl _)⟩
theorem h_upd {i : Nat} {a : Addr} {o o' : HO} (S : SH A H0 H L) (e : L[i]? = some (a, o)) (im : Imm o = false) (eL : L.set i (a, o') = L') (h : ∀ H', SH A H0 H' L' → P H') : P (upd H a o') := h _ (eL ▸ S.set i e im o')
theorem h_setL {i : Nat} {a : Addr} {xs ys : List V} {k : Int} {j : Nat} (S : SH A H0 H L) (e : L[i]? = some (a, .lst xs)) (ej : ixN xs.length k = some j) (ey : xs.set j v = ys) (eL : L.set i (a, .lst ys) = L')
    (h : ∀ H', SH A H0 H' L' → P H') : rSetL (.ref a) (.int k) v H P := ⟨a, xs, k, j, rfl, rfl, S.get i e, ej, by rw [ey]; exact h _ (eL ▸ S.set i e rfl _)⟩
theorem h_append {i : Nat} {a : Addr} {xs ys : List V} (S : SH A H0 H L) (e : L[i]? = some (a, .lst xs)) (c : xs.length < sizeLine) (ey : xs ++ [v] = ys) (eL : L.set i (a, .lst ys) = L')
    (h : ∀ H', SH A H0 H' L' → Q .non H') : rAppend (.ref a) [v] H Q := ⟨a, xs, v, rfl, rfl, S.get i e, c, by rw [ey]; exact h _ (eL ▸ S.set i e rfl _)⟩
theorem h_pop {i : Nat} {K : PySem.W.Frag} {a : Addr} {xs ys : List V} (S : SH A H0 H L) (e : L[i]? = some (a, .lst xs)) (ev : xs[xs.length - 1]? = some v) (ey : xs.dropLast = ys) (eL : L.set i (a, .lst ys) = L')
    (h : ∀ H', SH A H0 H' L' → Q v H') : bm0O K "list" rPop (.ref a) H Q := ⟨.inl ⟨rfl, _, SqL.of (S.get i e)⟩, a, xs, v, rfl, rfl, S.get i e, ev, by rw [ey]; exact h _ (eL ▸ S.set i e rfl _)⟩
theorem h_make {C : Addr} {sp : Sp} {E : XK} {vs : List V} (S : SH A H0 H L) (h : ∀ x dx H1, SH A H0 H1 ((x, .ins C dx []) :: L) → sp (.ref x :: (vs ++ [])) H1 (fun v H2 => v = .non ∧ Q (.ref x) H2) E) : makeO C sp E vs H Q := fun x dx hx hd ne => by
  have S1 := S.new (.own x) hd
  have S2 := S1.new (p := x) (.ins C dx []) (by rw [upd_ne (Ne.symm ne)]; exact hx)
  exact h x dx _ (S2.sub (List.Sublist.cons_cons _ (List.sublist_cons_self _ _)))
theorem atI_lit {xs : List V} {i : Int} {w : V} (k : Nat) (e : i = (k : Int)) (h : xs[k]? = some w) : atI xs i = some w := by
  subst e
  exact atI_nat h
theorem last_snoc (l : List V) (v : V) : (l ++ [v])[(l ++ [v]).length - 1]? = some v := by simp
theorem ixN_in {n : Nat} {i : Int} (h0 : 0 ≤ i) (h1 : i < n) : ixN n i = some i.toNat := by
  unfold ixN
  rw [if_pos h0, if_pos h1]
theorem ixN_lit {n : Nat} {i : Int} (k : Nat) (e : i = (k : Int)) (h : k < n) : ixN n i = some k := by
  subst e
  rw [ixN_in (by omega) (by omega)]
  rfl
end
/-! ### loops -/
def loopI (J : It) (g : TG) (tb : TS) (D : Ends) (σ : L2.St) (H : Hp) : Prop := ∃ W : Nat → Nat → L2.St → Hp → Prop, (∃ m, W 0 m σ H) ∧ ∀ i m σ H, W i m σ H →
  (J.stop i H ∧ D.nx σ H) ∨ (J.go i H ∧ ∃ N : L2.St → Hp → Prop, (∀ σ' H', N σ' H' → ∃ m', m' < m ∧ W (i + 1) m' σ' H') ∧ ∀ x H', J.yld i H x H' → g x σ H' fun σ2 H2 => tb { D with nx := N, ct := N, bk := D.nx } σ2 H2)
def forR1 (vs : List V) (g : TG) (tb : TS) (D : Ends) (σ : L2.St) (H : Hp) : Prop := ∃ j : Int, vs = [.int j] ∧ -(2 ^ 62) ≤ j ∧ j < 2 ^ 62 ∧ loopI (Itr 0 j.toNat) g tb D σ H
def forR2 (vs : List V) (g : TG) (tb : TS) (D : Ends) (σ : L2.St) (H : Hp) : Prop := ∃ i j : Int, vs = [.int i, .int j] ∧ (-(2 ^ 62) ≤ i ∧ i < 2 ^ 62 ∧ -(2 ^ 62) ≤ j ∧ j < 2 ^ 62) ∧ loopI (Itr i (j - i).toNat) g tb D σ H
def forL (K : PySem.W.Frag) (v : V) (g : TG) (tb : TS) (D : Ends) (σ : L2.St) (H : Hp) : Prop := ∃ a, v = .ref a ∧ (∃ xs, SqL K H a xs) ∧ loopI (Itl K a) g tb D σ H
def forT (K : PySem.W.Frag) (v : V) (g : TG) (tb : TS) (D : Ends) (σ : L2.St) (H : Hp) : Prop := ∃ a, v = .ref a ∧ (∃ xs, SqT K H a xs) ∧ loopI (Itt K a) g tb D σ H
section
variable {σ : L2.St} {H : Hp} {K : PySem.W.Frag} {g : TG} {tb : TS} {ta : TA} {te : TE} {D : Ends} {n b c : L2.St → Hp → Prop} {r : VK}
theorem s_forR1 (h : ta σ H fun vs H1 => forR1 vs g tb D σ H1) : tFor (iRng1 ta) g tb D σ H := h
theorem s_forR2 (h : ta σ H fun vs H1 => forR2 vs g tb D σ H1) : tFor (iRng2 ta) g tb D σ H := h
theorem s_forL (h : te σ H fun v H1 => forL K v g tb D σ H1) : tFor (iList K te) g tb D σ H := h
theorem s_forT (h : te σ H fun v H1 => forT K v g tb D σ H1) : tFor (iTup K te) g tb D σ H := h
/-- for i in range(j), an invariant over the turn -/
theorem u_forR1 {j : Int} (Pv : Nat → L2.St → Hp → Prop) (lo : -(2 ^ 62) ≤ j) (hi : j < 2 ^ 62) (h0 : Pv 0 σ H)
    (hs : ∀ (i : Nat) σ H, (i : Int) < j → Pv i σ H → g (.int i) σ H fun σ2 H2 => tb ⟨Pv (i + 1), r, n, Pv (i + 1)⟩ σ2 H2) (hd : ∀ σ H, Pv j.toNat σ H → n σ H) : forR1 [.int j] g tb ⟨n, r, b, c⟩ σ H := by
  refine ⟨j, rfl, lo, hi, ?_⟩
  refine for_range Pv h0 (fun i σ H hi p => ?_) hd
  rw [show (0 : Int) + (i : Int) = (i : Int) by omega]
  exact hs i σ H (by omega) p
theorem u_forR2 {l j : Int} (Pv : Nat → L2.St → Hp → Prop) (hb : -(2 ^ 62) ≤ l ∧ l < 2 ^ 62 ∧ -(2 ^ 62) ≤ j ∧ j < 2 ^ 62) (h0 : Pv 0 σ H)
    (hs : ∀ (i : Nat) σ H, l + (i : Int) < j → Pv i σ H → g (.int (l + i)) σ H fun σ2 H2 => tb ⟨Pv (i + 1), r, n, Pv (i + 1)⟩ σ2 H2) (hd : ∀ σ H, Pv (j - l).toNat σ H → n σ H) : forR2 [.int l, .int j] g tb ⟨n, r, b, c⟩ σ H := by
  refine ⟨l, j, rfl, hb, ?_⟩
  refine for_range Pv h0 (fun i σ H hi p => ?_) hd
  exact hs i σ H (by omega) p
/-- for x in a list that stays as it is -/
theorem u_forL {a : Addr} {xs : List V} (Pv : Nat → L2.St → Hp → Prop) (h : SqL K H a xs) (h0 : Pv 0 σ H) (hl : ∀ i σ H, i ≤ xs.length → Pv i σ H → SqL K H a xs)
    (hs : ∀ (i : Nat) (x : V) σ H, xs[i]? = some x → Pv i σ H → g x σ H fun σ2 H2 => tb ⟨Pv (i + 1), r, n, Pv (i + 1)⟩ σ2 H2) (hd : ∀ σ H, Pv xs.length σ H → n σ H) : forL K (.ref a) g tb ⟨n, r, b, c⟩ σ H :=
  ⟨a, rfl, ⟨xs, h⟩, for_list Pv h0 hl (fun i x σ H e p => hs i x σ H e p) hd⟩
end
/-! ### comprehensions -/
/-! within a comprehension's block: the fragment said by its name -/
theorem OpR.k {X : Cx} {K : PySem.W.Frag} {f : Value → Value → Sem Value} {r : PySem.W.Frag → R2} (h : OpR X f (r X.K)) (e : X.K = K) : OpR X f (r K) := e ▸ h
theorem IxR.k {X : Cx} {K : PySem.W.Frag} {r : PySem.W.Frag → R2} (h : IxR X (r X.K)) (e : X.K = K) : IxR X (r K) := e ▸ h
theorem SlR.k {X : Cx} {K : PySem.W.Frag} {r : PySem.W.Frag → V → Option Int → Option Int → Hp → VK → Prop} (h : SlR X (r X.K)) (e : X.K = K) : SlR X (r K) := e ▸ h
theorem CallR.k {X : Cx} {K : PySem.W.Frag} {f : Value} {r : PySem.W.Frag → List V → Hp → VK → Prop} (h : CallR X f (r X.K)) (e : X.K = K) : CallR X f (r K) := e ▸ h
theorem PE.k {X : Cx} {K : PySem.W.Frag} {e : Expr} {t : PySem.W.Frag → TE} (h : PE X e (t X.K)) (q : X.K = K) : PE X e (t K) := q ▸ h
def lcR1 (i : Nat) (vs : List V) (te : TE) (σ : L2.St) (H : Hp) (Q : VK) : Prop := ∃ j : Int, vs = [.int j] ∧ -(2 ^ 62) ≤ j ∧ j < 2 ^ 62 ∧ tLc (fun _ H k => k (Itr 0 j.toNat) H) (gName i) tYes te [i] σ H Q
def lcL (K : PySem.W.Frag) (i : Nat) (v : V) (te : TE) (σ : L2.St) (H : Hp) (Q : VK) : Prop := ∃ a, v = .ref a ∧ (∃ xs, SqL K H a xs) ∧ tLc (fun _ H k => k (Itl K a) H) (gName i) tYes te [i] σ H Q
/-- an item is put behind the made ones -/
def lcEnd (D : Addr) (P : Hp → Prop) : VK := fun y H => ∃ acc, H D = some (.lst acc) ∧ acc.length < sizeLine ∧ P (upd H D (.lst (acc ++ [y])))
theorem wipe_one (σ : L2.St) (i : Nat) (x : Option V) : wipe ((wipe σ [i]).set i x) [i] = wipe σ [i] := by
  show ((σ.set i none).set i x).set i none = σ.set i none
  rw [List.set_set, List.set_set]
section
variable {A : List Addr} {H0 H : Hp} {L L' : List Cell} {Q : VK} {P : Hp → Prop} {v : V} {σ : L2.St} {K : PySem.W.Frag} {te : TE} {ta : TA} {tb : TE}
theorem s_lcR1 {n : Str} {i : Nat} (h : ta σ H fun vs H1 => lcR1 i vs te σ H1 Q) : tLc (iRng1 ta) (gName i) tYes te ([(n, i)].map (·.2)) σ H Q := h
theorem s_lcL {n : Str} {i : Nat} (h : tb σ H fun v H1 => lcL K i v te σ H1 Q) : tLc (iList K tb) (gName i) tYes te ([(n, i)].map (·.2)) σ H Q := h
theorem h_lcEnd {i : Nat} {a : Addr} {xs ys : List V} (S : SH A H0 H L) (e : L[i]? = some (a, .lst xs)) (c : xs.length < sizeLine) (ey : xs ++ [v] = ys) (eL : L.set i (a, .lst ys) = L')
    (h : ∀ H', SH A H0 H' L' → P H') : lcEnd a P v H := ⟨xs, S.get i e, c, by rw [ey]; exact h _ (eL ▸ S.set i e rfl _)⟩
theorem u_lcR1 {i : Nat} {j : Int} (hS : SH A H0 H L) (Pv : Addr → Nat → Hp → Prop) (lo : -(2 ^ 62) ≤ j) (hi : j < 2 ^ 62) (h0 : ∀ D H', SH A H0 H' ((D, .lst []) :: L) → Pv D 0 H')
    (hs : ∀ D (k : Nat) H, (k : Int) < j → Pv D k H → te (σ.set i (some (.int k))) H (lcEnd D (Pv D (k + 1)))) (hd : ∀ D H, Pv D j.toNat H → Q (.ref D) H) : lcR1 i [.int j] te σ H Q := by
  refine ⟨j, rfl, lo, hi, fun D hD => ?_⟩
  refine lc_range (Pv D) (h0 D _ (hS.new _ hD)) (fun k H hk p => ?_) (fun H p => hd D H p)
  rw [show (0 : Int) + (k : Int) = (k : Int) by omega]
  have h := hs D k H (by omega) p
  refine ⟨wipe_one _ _ _, ?_⟩
  show if true = true then te ((σ.set i none).set i _) H (lcEnd D (Pv D (k + 1))) else Pv D (k + 1) H
  rw [if_pos rfl, List.set_set]
  exact h
theorem u_lcL {i : Nat} {a : Addr} {xs : List V} (hS : SH A H0 H L) (Pv : Addr → Nat → Hp → Prop) (h : SqL K H a xs) (h0 : ∀ D H', SH A H0 H' ((D, .lst []) :: L) → Pv D 0 H') (hl : ∀ D k H, k ≤ xs.length → Pv D k H → SqL K H a xs)
    (hs : ∀ D (k : Nat) x H, xs[k]? = some x → Pv D k H → te (σ.set i (some x)) H (lcEnd D (Pv D (k + 1)))) (hd : ∀ D H, Pv D xs.length H → Q (.ref D) H) : lcL K i (.ref a) te σ H Q := by
  refine ⟨a, rfl, ⟨xs, h⟩, fun D hD => ?_⟩
  refine lc_list (Pv D) (h0 D _ (hS.new _ hD)) (hl D) (fun k x H hk p => ?_) (fun H p => hd D H p)
  have h := hs D k x H hk p
  refine ⟨wipe_one _ _ _, ?_⟩
  show if true = true then te ((σ.set i none).set i _) H (lcEnd D (Pv D (k + 1))) else Pv D (k + 1) H
  rw [if_pos rfl, List.set_set]
  exact h
end
/-! ### a word between a statement and the rest -/
def cutG (t u : TS) : TS := fun E σ H => ∃ M : L2.St → Hp → Prop, (∀ σ2 H2, M σ2 H2 → u E σ2 H2) ∧ t ⟨M, E.rt, E.bk, E.ct⟩ σ H
theorem pss_cutG {X : Cx} {st : Stmt} {sts : List Stmt} {t u : TS} (a : PS X st t) (b : PSs X sts u) : PSs X (st :: sts) (cutG t u) :=
  ⟨fun pins s σ H E J ⟨M, hu, ht⟩ => wpAny_execs_cons (thn (a.run pins s σ H ⟨M, E.rt, E.bk, E.ct⟩ J ht) fun f s1 q => by
    cases f with
    | next => exact let ⟨σ2, H2, J2, z⟩ := q; b.run pins s1 σ2 H2 E J2 (hu σ2 H2 z)
    | ret _ => exact q
    | brk => exact q
    | cont => exact q)⟩
theorem s_cutG {t u : TS} {n b c : L2.St → Hp → Prop} {r : VK} {σ : L2.St} {H : Hp} (M : L2.St → Hp → Prop) (h : t ⟨M, r, b, c⟩ σ H) (h2 : ∀ σ2 H2, M σ2 H2 → u ⟨n, r, b, c⟩ σ2 H2) : cutG t u ⟨n, r, b, c⟩ σ H := ⟨M, h2, h⟩
/-! ### tests decided -/
section
variable {A B : Prop}
theorem i_dec {p : Prop} [Decidable p] (h1 : p → A) (h2 : ¬ p → B) : if decide p = true then A else B := by
  by_cases h : p
  · rw [if_pos (decide_eq_true h)]; exact h1 h
  · rw [if_neg (by rw [decide_eq_false h]; exact Bool.false_ne_true)]; exact h2 h
theorem i_not {x : Bool} (h : if x = true then B else A) : if (!x) = true then A else B := by
  cases x
  · exact h
  · exact h
theorem i_gen {x : Bool} (h1 : x = true → A) (h2 : x = false → B) : if x = true then A else B := by
  cases x
  · exact h2 rfl
  · exact h1 rfl
theorem i_pos {x : Bool} (e : x = true) (h : A) : if x = true then A else B := by rw [if_pos e]; exact h
theorem i_neg {x : Bool} (e : x = false) (h : B) : if x = true then A else B := by rw [if_neg (by rw [e]; exact Bool.false_ne_true)]; exact h
end
end Q

set_option Elab.async false
set_option linter.all false
set_option maxRecDepth 100000
set_option maxHeartbeats 4000000
/-! Errors: one rule for every try (several clauses, with or without a name, one class or two, an else), what classes of errors tell. -/
namespace Q
open PySem PySem.Spec PyProof.Rows L2
/-- the test of an except clause: f tells the answer from the error's class -/
def Tst (X : Cx) (t : Expr) (f : Value → Option Bool) : Prop :=
  ∀ (a : Addr) (pn : List (Addr × Obj)) (σ : L2.St) (H : Hp) (s : Shared) (cls : Value) (b : Bool) (Q : Bool → Shared → Prop) (E : Value → Shared → Prop),
    Inv (X.suite a pn) [] σ H s → PySem.W.Looks (model X.prog X.w) s.heap (typeOf (.ref a)) cls → f cls = some b →
    (∀ h', (∀ q o, s.heap.get? q = some o → h'.get? q = some o) → Q b { s with heap := h' }) →
    wpAny (model X.prog X.w) (X.A.mark (some (.ref a))) (eval t X.env) (fun c s1 => wpAny (model X.prog X.w) (X.A.mark (some (.ref a))) (excMatches (.ref a) c) Q E s1) E s
theorem ld_names {X : Cx} {x : Str} {c : Value} {np : Pos} {a : Addr} {pn : List (Addr × Obj)} {σ : L2.St} {H : Hp} {s : Shared} {Q : Value → Shared → Prop} {E : Value → Shared → Prop} (hc : Names X x c) (I : Inv (X.suite a pn) [] σ H s) (q : Q c s) :
    wpAny (model X.prog X.w) (X.A.mark (some (.ref a))) (eval (.Name x np) X.env) Q E s := by
  obtain ⟨hg, hd, hm | ⟨hm, hv, hn⟩⟩ := hc
  · exact ld_glob (X := X.suite a pn) I hg hm q hd
  · exact ld_blt (X := X.suite a pn) I hg hm hv q hn hd
theorem tst1 {X : Cx} {x : Str} {c : Value} {np : Pos} (hc : Names X x c) : Tst X (.Name x np) (fun cls => PySem.W.exmOne X.K cls c) := by
  intro a pn σ H s cls b Q E I LT e k
  exact ld_names hc I ((PySem.W.exm_one (M := model X.prog X.w) I.kIn LT e).here (k _ fun _ _ z => z))
theorem tst2 {X : Cx} {x y : Str} {c d : Value} {np mp tp : Pos} {kk : Nat} (hc : Names X x c) (hd : Names X y d) : Tst X (.Tuple [.Name x np, .Name y mp] kk tp) (fun cls => PySem.W.exmAny X.K cls [c, d]) := by
  intro a pn σ H s cls b Q E I LT e k
  refine wpAny_Tuple ?_
  refine wpAny_items_cons (ld_names hc I ?_)
  refine wpAny_items_cons (ld_names hd I ?_)
  refine wpAny_items_nil ⟨by size_fits, ?_⟩
  have kp : ∀ q o, s.heap.get? q = some o → (s.heap.push { cls := .type "tuple", data := .seq [c, d].toArray }).get? q = some o := fun _ _ z => Heap.get?_push_of_some _ z
  exact (PySem.W.exm_tup2 (PySem.W.Frag.In.keeps I.kIn kp) (LT.keeps kp) (Heap.get?_push_size s.heap rfl) e).here (k _ kp)
abbrev Cl := (Value → Option Bool) × Option Nat × (Addr → Value → Option Addr → TS)
/-- the clauses of a try -/
inductive HdsG (X : Cx) : List ExceptHandler → List Cl → Prop
  | nil : HdsG X [] []
  | one {t : Expr} {f : Value → Option Bool} {ts : Addr → Value → Option Addr → TS} {b₀ : Stmt} {suite : List Stmt} {p : Pos} {hds : List ExceptHandler} {l : List Cl} (ht : Tst X t f)
      (hsu : ∀ (a : Addr) (oe : Obj) (cls : Value) (d : Option Addr) (pn : List (Addr × Obj)), Zc cls d oe → (∃ vs, oe.data = .fields vs) → PSs (X.suite a ((a, oe) :: pn)) (b₀ :: suite) (ts a cls d)) (r : HdsG X hds l) :
      HdsG X (.ExceptHandler (some t) none (b₀ :: suite) p :: hds) ((f, none, ts) :: l)
  | als {t : Expr} {n : Str} {i : Nat} {f : Value → Option Bool} {ts : Addr → Value → Option Addr → TS} {b₀ : Stmt} {suite : List Stmt} {p : Pos} {hds : List ExceptHandler} {l : List Cl} (hi : X.N[i]? = some n) (hln : X.env.kindOf n = some .local) (ht : Tst X t f)
      (hsu : ∀ (a : Addr) (oe : Obj) (cls : Value) (d : Option Addr) (pn : List (Addr × Obj)), Zc cls d oe → (∃ vs, oe.data = .fields vs) → PSs (X.suite a ((a, oe) :: pn)) (b₀ :: suite) (ts a cls d)) (r : HdsG X hds l) :
      HdsG X (.ExceptHandler (some t) (some n) (b₀ :: suite) p :: hds) ((f, some i, ts) :: l)
/-- the ends of a suite: the name of the clause goes -/
def endsG (D : Ends) : Option Nat → Ends
  | none => D
  | some i => { nx := fun σ H => D.nx (σ.set i none) H, rt := D.rt, bk := fun σ H => D.bk (σ.set i none) H, ct := fun σ H => D.ct (σ.set i none) H }
def setG (σ : L2.St) (a : Addr) : Option Nat → L2.St
  | none => σ
  | some i => σ.set i (some (.ref a))
/-- what the clauses wish of an error of the body -/
def wG (Wout : WX) (D : Ends) : List Cl → WX
  | [] => Wout
  | (f, oi, ts) :: r => fun cls d σ H => ∃ b, f cls = some b ∧ (b = true → ∀ a, H a = none → ts a cls d (endsG D oi) (setG σ a oi) H) ∧ (b = false → wG Wout D r cls d σ H)
def tTryG (tb : WX → TS) (Wout : WX) (l : List Cl) (u : TS) : TS := fun D σ H => tb (wG Wout D l) { D with nx := u D } σ H
def tRaiseG (W : WX) (D : Addr) : TS := fun _ σ H => W (.ref D) none σ H
theorem flying_keeps {B : Heap} {l : List Env} {a : Addr} {Z : Obj → Prop} {h h' : Heap} (f : HandSPX.FlyingZ B l a Z h) (k : ∀ q o, h.get? q = some o → h'.get? q = some o) : HandSPX.FlyingZ B l a Z h' := by
  obtain ⟨k1, k2, k3, oe, vs, T, oT, ts, he, hz, hd, h1, hn, ne, hT, hdT, h3⟩ := f
  exact ⟨fun b o e => k b o (k1 b o e), k2, k3.of_keeps fun b o e _ => ⟨o, k b o e, rfl⟩, oe, vs, T, oT, ts, k _ _ he, hz, hd, h1, hn, ne, k _ _ hT, hdT, h3⟩
section
variable {X : Cx} {body orelse : List Stmt} {h₀ : ExceptHandler} {hds : List ExceptHandler} {l : List Cl} {pos : Pos} {tb : WX → TS} {u : TS} {Wout : WX}
theorem ps_tryG (hs : X.stack = X.env :: X.outer) (hf : X.env.frame = some X.env.locals) (hN : X.N.Nodup) (tk : Takes X Wout)
    (hb : ∀ (W : WX) (pn : List (Addr × Obj)) (xe : Value → Shared → Prop), Takes (X.tr pn xe) W → PassesOwn (model X.prog X.w) X.A X.env xe → PSs (X.tr pn xe) body (tb W))
    (hh : HdsG X (h₀ :: hds) l) (ho : PSs X orelse u) : PS X (.Try body (h₀ :: hds) orelse [] pos) (tTryG tb Wout l u) := by
  refine ⟨fun pins s σ H D I h => ?_⟩
  have ok := I.ok
  have hfr : X.A.frames = some (X.env :: X.outer) := by rw [ok.frames, hs]
  refine wpAny_Try_except ?_
  have body_ok := (hb (wG Wout D l) (X.pn ++ pins) (fun e s₁ => wpAny (model X.prog X.w) X.A (noteFrame e X.env) (fun _ s₂ => wpAny (model X.prog X.w) X.A (setFlight e none) (fun _ s₃ =>
    wpAny (model X.prog X.w) X.A (handleBy e X.env (h₀ :: hds)) (SP X pins D) X.xe s₃) X.xe s₂) X.xe s₁) (fun v s' xx => ?_) PassesOwn.looking).run [] s σ H { D with nx := u D } (I.toTry _) h
  · refine wpAny_mono body_ok (fun f s1 hsp => ?_) (fun e s1 he => he)
    cases f with
    | next =>
      obtain ⟨σ', H', J', q⟩ := hsp
      exact ho.run pins s1 σ' H' D (J'.ofTry ok) q
    | brk =>
      obtain ⟨σ', H', J', q⟩ := hsp
      exact ⟨σ', H', J'.ofTry ok, q⟩
    | cont =>
      obtain ⟨σ', H', J', q⟩ := hsp
      exact ⟨σ', H', J'.ofTry ok, q⟩
    | ret z =>
      obtain ⟨v, σ', H', J', r, q⟩ := hsp
      exact ⟨v, σ', H', J'.ofTry ok, r, q⟩
  · obtain ⟨a, B, sI, pins', σ', H', cls, d, rfl, J', nb, up, sky, na, os, ag, w⟩ := xx
    have J : Inv X pins σ' H' sI := J'.ofTry ok
    show wpAny (model X.prog X.w) X.A (noteFrame (.ref a) X.env) _ _ _
    refine Sky.land Zc.steady hfr hf (by rw [← hs]; exact sky) fun h3 fl3 up3 => ?_
    -- what the landed error tells at any heap
    have facts : ∀ h, HandSPX.FlyingZ B (X.env :: X.outer) a (Zc cls d) h → s'.heap.UpToSlots h → Inv X pins σ' H' { s' with heap := h } ∧ ∃ oe vs, h.get? a = some oe ∧ Zc cls d oe ∧ oe.data = .fields vs ∧ Inv (X.suite a ((a, oe) :: (X.pn ++ pins))) [] σ' H' { s' with heap := h } := fun h fl uph => by
      have Jh : Inv X pins σ' H' { s' with heap := h } := J.landed nb fl.1 (up.trans uph) os ag
      obtain ⟨oe, vs, he, hz, hd⟩ := fl.there
      have nfr : a ∉ frs (X.env :: X.outer) := fun hm => by
        obtain ⟨_, o', e', hnf⟩ := fl.2.2.1.mem hm
        rw [he] at e'
        cases e'
        exact hnf _ hd
      have nL : a ≠ X.env.locals := fun z => nfr (List.mem_filterMap.mpr ⟨X.env, List.mem_cons_self, by rw [hf, z]⟩)
      have nF : a ∉ X.fs := fun hm => by
        obtain ⟨e, he, q⟩ := List.mem_filterMap.mp hm
        exact nfr (List.mem_filterMap.mpr ⟨e, List.mem_cons_of_mem _ he, q⟩)
      exact ⟨Jh, oe, vs, he, hz, hd, Jh.suite he hd na nL nF⟩
    have looks : ∀ {h : Heap} {oe : Obj}, h.get? a = some oe → Zc cls d oe → PySem.W.Looks (model X.prog X.w) h (typeOf (.ref a)) cls := fun {h oe} he hz A Q E s k q => wpAny_typeOf_ref (k _ _ he) (by rw [hz.1]; exact q)
    have go : ∀ {hds' : List ExceptHandler} {l' : List Cl}, HdsG X hds' l' → wG Wout D l' cls d σ' H' → ∀ h, HandSPX.FlyingZ B (X.env :: X.outer) a (Zc cls d) h → s'.heap.UpToSlots h →
        wpAny (model X.prog X.w) X.A (handleBy (.ref a) X.env hds') (SP X pins D) X.xe { s' with heap := h } := by
      intro hds' l' hk
      induction hk with
      | nil =>
        intro w h fl uph
        refine wpAny_handleBy_nil ?_
        obtain ⟨_, _, _, oe, vs, T, oT, ts', he, hz, hd, h1, _⟩ := id fl
        unfold PySem.passOn
        refine wpAny_bind (wpAny_field he hd h1 ?_)
        rw [if_neg (show ¬ ((Value.ref T == Value.none) = true) from by simp)]
        have fin : wpAny (model X.prog X.w) X.A (setFlight (.ref a) X.env.frame) (fun _ s4 => wpAny (model X.prog X.w) X.A (throw (.ref a) : Sem Flow) (SP X pins D) X.xe s4) X.xe { s' with heap := h } := by
          rw [hf]
          refine HandSPX.setFlight_upZ fl fun h4 hh4 up4 => wpAny_throw (tk _ _ ?_)
          exact ⟨a, B, sI, pins, σ', H', cls, d, rfl, J, nb, (up.trans uph).trans up4, .inr (.inr (by rw [hs]; exact hh4)), na, os, ag, w⟩
        first
          | exact wpAny_bind (wpAny_pure (wpAny_bind fin))
          | exact wpAny_bind fin
      | @one t f ts b₀ suite p hds2 l2 ht hsu r ih =>
        intro w h fl uph
        obtain ⟨b, hb1, hyes, hno⟩ := w
        obtain ⟨_, oe, vs, he, hz, hd, S⟩ := facts h fl uph
        refine wpAny_handleBy_cons (codeAny_handlers_test (ht a _ σ' H' _ cls b _ _ S (looks he hz) hb1 fun h5 k5 => ?_)) (by intro q; cases q)
        have fl5 := flying_keeps fl k5
        have up5 := uph.trans (Heap.UpToSlots.of_keeps k5)
        cases b with
        | true =>
          refine codeAny_handlers_suite ?_
          refine HandSPX.lands_againZ fl5 fun h4 fl4 up4 => ?_
          obtain ⟨_, oe4, vs4, he4, hz4, hd4, S4⟩ := facts h4 fl4 (up5.trans up4)
          refine wpAny_mono ((hsu a oe4 cls d (X.pn ++ pins) hz4 ⟨_, hd4⟩).run [] _ _ H' _ S4 (hyes rfl a na)) (fun f s6 hsp => ?_) (fun _ _ z => False.elim z)
          cases f with
          | next =>
            obtain ⟨σ6, H6, S6, q6⟩ := hsp
            exact ⟨_, _, S6.unsuite ok, q6⟩
          | brk =>
            obtain ⟨σ6, H6, S6, q6⟩ := hsp
            exact ⟨_, _, S6.unsuite ok, q6⟩
          | cont =>
            obtain ⟨σ6, H6, S6, q6⟩ := hsp
            exact ⟨_, _, S6.unsuite ok, q6⟩
          | ret z =>
            obtain ⟨v6, σ6, H6, S6, r6, q6⟩ := hsp
            exact ⟨_, _, _, S6.unsuite ok, r6, q6⟩
        | false => exact ih (hno rfl) h5 fl5 up5
      | @als t n i f ts b₀ suite p hds2 l2 hi hln ht hsu r ih =>
        intro w h fl uph
        obtain ⟨b, hb1, hyes, hno⟩ := w
        obtain ⟨_, oe, vs, he, hz, hd, S⟩ := facts h fl uph
        refine wpAny_handleBy_cons (codeAny_handlers_test (ht a _ σ' H' _ cls b _ _ S (looks he hz) hb1 fun h5 k5 => ?_)) (by intro q; cases q)
        have fl5 := flying_keeps fl k5
        have up5 := uph.trans (Heap.UpToSlots.of_keeps k5)
        cases b with
        | true =>
          refine codeAny_handlers_suite_as ?_
          refine HandSPX.lands_againZ fl5 fun h4 fl4 up4 => ?_
          obtain ⟨_, oe4, vs4, he4, hz4, hd4, S4⟩ := facts h4 fl4 (up5.trans up4)
          refine store_ok (X := X.suite a ((a, oe4) :: (X.pn ++ pins))) (v := .ref a) S4 hN hi (.inl hln) rfl (fun s5 S5 => ?_) (.inr hln)
          refine wpAny_mono ((hsu a oe4 cls d (X.pn ++ pins) hz4 ⟨_, hd4⟩).run [] s5 _ H' _ S5 (hyes rfl a na)) (fun f s6 hsp => ?_) (fun _ _ z => False.elim z)
          have gone : ∀ {σ6 : L2.St} {H6 : Hp} {Q : Shared → Prop}, Inv (X.suite a ((a, oe4) :: (X.pn ++ pins))) [] σ6 H6 s6 → (∀ s7, Inv X pins (σ6.set i none) H6 s7 → Q s7) →
              wpAny (model X.prog X.w) X.A (do bindName X.env n .none; unbindBehindTheSuite X.env n p) (fun _ s7 => Q s7) X.xe s6 := fun {σ6 H6 Q} S6 hq => gone_ok (S6.unsuite ok) hN hi hln hq
          cases f with
          | next =>
            obtain ⟨σ6, H6, S6, q6⟩ := hsp
            exact gone S6 fun s7 J7 => ⟨_, _, J7, q6⟩
          | brk =>
            obtain ⟨σ6, H6, S6, q6⟩ := hsp
            exact gone S6 fun s7 J7 => ⟨_, _, J7, q6⟩
          | cont =>
            obtain ⟨σ6, H6, S6, q6⟩ := hsp
            exact gone S6 fun s7 J7 => ⟨_, _, J7, q6⟩
          | ret z =>
            obtain ⟨v6, σ6, H6, S6, r6, q6⟩ := hsp
            exact gone S6 fun s7 J7 => ⟨_, _, _, J7, r6, q6⟩
        | false => exact ih (hno rfl) h5 fl5 up5
    exact go hh w h3 fl3 up3
end
theorem eqV_str (a b : Str) : eqV (.str a) (.str b) = decide (a = b) := by
  show (a == b) = _
  by_cases h : a = b <;> simp [h]
theorem inV_strs (x : Str) (l : List Str) : inV (.str x) (l.map V.str) = decide (x ∈ l) := by
  unfold inV
  rw [List.any_map]
  induction l with
  | nil => simp
  | cons a l ih =>
    rw [List.any_cons, ih]
    show (eqV (.str a) (.str x) || _) = _
    rw [eqV_str]
    by_cases h : a = x <;> by_cases h2 : x ∈ l <;> simp [h, h2, eq_comm] <;> exact fun z => h z.symm
theorem q_dec {p : Prop} [Decidable p] {Q : VK} {H : Hp} (h : p) (k : Q (.bl true) H) : Q (.bl (decide p)) H := by
  rw [decide_eq_true h]
  exact k
theorem s_eqD {K : PySem.W.Frag} {H : Hp} {Q : VK} {p q : Addr} {d e : PyData} {b : Bool} (h1 : Dp K H (.ref p) d) (h2 : Dp K H (.ref q) e) (s1 : SeqAt.shaped d = true) (s2 : SeqAt.shaped e = true) (hb : PyData.eqv d e = b) (h : Q (.bl b) H) : rEqX K (.ref p) (.ref q) H Q :=
  .inr ⟨d, e, h1, h2, s1, s2, by rw [hb]; exact h⟩
theorem s_neD {K : PySem.W.Frag} {H : Hp} {Q : VK} {p q : Addr} {d e : PyData} {b : Bool} (h1 : Dp K H (.ref p) d) (h2 : Dp K H (.ref q) e) (s1 : SeqAt.shaped d = true) (s2 : SeqAt.shaped e = true) (hb : PyData.eqv d e = b) (h : Q (.bl (!b)) H) : rNeX K (.ref p) (.ref q) H Q :=
  .inr ⟨d, e, h1, h2, s1, s2, by rw [hb]; exact h⟩
/-- a number out of a list of numbers -/
theorem toI_bnd (lo hi : Int) {xs : List V} {i : Int} (h : (xs.all fun v => decide (lo ≤ toI v) && decide (toI v ≤ hi)) = true) (h0 : 0 ≤ i) (h1 : i < xs.length) : lo ≤ toI (xs.getD i.toNat .non) ∧ toI (xs.getD i.toNat .non) ≤ hi := by
  have hm : xs.getD i.toNat .non ∈ xs := by
    rw [List.getD_eq_getElem?_getD, List.getElem?_eq_getElem (by omega)]
    exact List.getElem_mem _
  have := List.all_eq_true.mp h _ hm
  simpa using this
theorem SH.call2 {A : List Addr} {H0 H H' : Hp} {L : List Cell} {a b : Addr} {o u o' u' : HO} (S : SH A H0 H L) (i j : Nat) (e : L[i]? = some (a, o)) (e2 : L[j]? = some (b, u)) (im : Imm o = false) (im2 : Imm u = false) (k : Keep [a, b] H H') (h : H' a = some o') (h2 : H' b = some u') :
    SH A H0 H' ((L.set i (a, o')).set j (b, u')) := by
  have ha := S.get i e
  have hb := S.get j e2
  have rest : ∀ c m, (L.set i (a, o'))[m]? = some c → m ≠ j → c = (a, o') ∨ ∃ m, L[m]? = some c ∧ m ≠ i ∧ m ≠ j := fun c m q nj => by
    by_cases q2 : i = m
    · subst q2
      left
      obtain ⟨hi, _⟩ := List.getElem?_eq_some_iff.mp e
      rw [List.getElem?_set, if_pos rfl, if_pos hi] at q
      exact (Option.some.inj q).symm
    · rw [List.getElem?_set_ne q2] at q
      exact .inr ⟨m, q, Ne.symm q2, nj⟩
  have key : ((L.set i (a, o')).set j (b, u')).map (·.1) = L.map (·.1) := by
    by_cases q : j = i
    · subst q
      rw [e] at e2
      cases e2
      rw [List.set_set, map_set_key e]
    · rw [map_set_key (o := u) (by rw [List.getElem?_set_ne (Ne.symm q)]; exact e2), map_set_key e]
  refine ⟨fun c hc => ?_, by rw [key]; exact S.nd, ⟨fun d v q z => ?_, fun d q => S.kp.d d (k.d d q)⟩, fun c hc => ?_⟩
  · rcases mem_set_cell hc with rfl | ⟨m, nm, em⟩
    · exact h2
    · rcases rest c m em nm with rfl | ⟨m, q, ni, nj⟩
      · exact h
      · refine k.k _ _ (S.hs c (List.mem_of_getElem? q)) (.inl fun z => ?_)
        rcases List.mem_cons.mp z with z | z
        · exact nodup_key S.nd e q ni z
        · exact nodup_key S.nd e2 q nj (List.mem_singleton.mp z)
  · have h1 := S.kp.k d v q z
    refine k.k d v h1 ?_
    rcases z with z | z
    · by_cases da : d = a
      · exfalso
        subst da
        rcases S.ow _ (List.mem_of_getElem? e) with w | w
        · exact z w
        · rw [q] at w
          cases w
      · by_cases db : d = b
        · exfalso
          subst db
          rcases S.ow _ (List.mem_of_getElem? e2) with w | w
          · exact z w
          · rw [q] at w
            cases w
        · exact .inl (by simp [da, db])
    · exact .inr z
  · rcases mem_set_cell hc with rfl | ⟨m, nm, em⟩
    · exact S.ow (b, u) (List.mem_of_getElem? e2)
    · rcases rest c m em nm with rfl | ⟨m, q, ni, nj⟩
      · exact S.ow (a, o) (List.mem_of_getElem? e)
      · exact S.ow c (List.mem_of_getElem? q)
theorem h_pop0 {i : Nat} {A : List Addr} {H0 H : Hp} {L : List Cell} {Q : VK} {a : Addr} {ns : List Int} (S : SH A H0 H L) (e : L[i]? = some (a, .lst (ns.map V.int))) (h0 : 0 < (ns.map V.int).length)
    (h : ∀ n ms H', ns = n :: ms → SH A H0 H' (L.set i (a, .lst (ms.map V.int))) → Q (.int n) H') : rPopAt (.ref a) [.int 0] H Q := by
  cases ns with
  | nil => exact absurd h0 (by decide)
  | cons n ms =>
    refine ⟨a, _, 0, 0, .int n, rfl, rfl, S.get i e, by decide, by decide, ?_, rfl, h n ms _ rfl (S.set i e rfl _)⟩
    unfold seqIndex?
    simp
/-! ### what classes of errors tell -/
/-- all that is asked of a class of errors without own __init__ -/
structure ExcF (K : PySem.W.Frag) (D : Addr) : Prop where
  ex : PySem.W.excIn K D He.veBase "ValueError.__new__" = true
  kp : PySem.W.keepIn K (.ref D) = true
  bs : PySem.W.subIn K (.ref D) (.type "BaseException") = some true
  ty : PySem.W.typeIn K (.ref D) = some (.type "type")
theorem excF_ok {K : PySem.W.Frag} {x : Str} (c : (He.Fa.exc x).ok K = true) : ExcF K (He.ga K x) := by
  obtain ⟨h1, h2, h3, h4⟩ := He.exc_ok c
  exact ⟨h1, h2, h3, h4⟩
def excCB (K : PySem.W.Frag) (x : Str) : Bool :=
  let D := He.ga K x
  decide (PySem.W.findIn K (.ref D) "__getattribute__" = some (some (.builtin "BaseException.__getattribute__"))) && (decide (PySem.W.findIn K (.ref D) "__getattr__" = some none) &&
    (decide (PySem.W.subIn K (.ref D) (.type "BaseException") = some true) && (PySem.W.hasDictIn K D && (decide (PySem.W.findIn K (.ref D) "__class__" = some (some (.builtin "object.__class__"))) &&
      (decide (PySem.W.specialIn K (.builtin "object.__class__") "__get__" = some (some (.builtin "getset_descriptor.__get__"))) && (decide (PySem.W.takesIn K (.builtin "object.__class__") = some true) &&
        decide (PySem.W.mroIn K D (.type "object") = some true)))))))
theorem excCB_ok {K : PySem.W.Frag} {x : Str} (h : excCB K x = true) : ExcC K (He.ga K x) := by
  unfold excCB at h
  simp only [Bool.and_eq_true, decide_eq_true_eq] at h
  obtain ⟨a, b, c, d, e, f, g, i⟩ := h
  exact ⟨a, b, c, d, e, f, g, i⟩
def kitCB (K : PySem.W.Frag) (x y : Str) (b : Bool) : Bool := decide (PySem.W.kitOne K (.ref (He.ga K x)) (.ref (He.ga K y)) = some b)
theorem kitCB_ok {K : PySem.W.Frag} {x y : Str} {b : Bool} (h : kitCB K x y b = true) : PySem.W.kitOne K (.ref (He.ga K x)) (.ref (He.ga K y)) = some b := of_decide_eq_true h
def kitTB (K : PySem.W.Frag) (x : Str) (y : String) (b : Bool) : Bool := decide (PySem.W.kitOne K (.ref (He.ga K x)) (.type y) = some b)
def exmTB (K : PySem.W.Frag) (x : Str) (y : String) (b : Bool) : Bool := decide (PySem.W.exmOne K (.ref (He.ga K x)) (.type y) = some b)
theorem exmTB_ok {K : PySem.W.Frag} {x : Str} {y : String} {b : Bool} (h : exmTB K x y b = true) : PySem.W.exmOne K (.ref (He.ga K x)) (.type y) = some b := of_decide_eq_true h
theorem kitTB_ok {K : PySem.W.Frag} {x : Str} {y : String} {b : Bool} (h : kitTB K x y b = true) : PySem.W.kitOne K (.ref (He.ga K x)) (.type y) = some b := of_decide_eq_true h
theorem kdct_ok {K : PySem.W.Frag} {w : World} {a : Addr} {kvs : List (Str × He.Dv)} (h : ∃ es n, KDict K w a es n) (hv : He.valsB K a kvs = true) : ∀ q ∈ kvs, KDct K w a q.1 (q.2.v K) := fun q hq => by
  obtain ⟨es, n, D⟩ := h
  obtain ⟨u, e, r⟩ := He.valsB_ok hv hq
  exact ⟨es, n, u, D.at_, D.lit, e, r⟩
theorem s_ixD {K : PySem.W.Frag} {w : World} {p : Addr} {z : Str} {v : V} {H : Hp} {Q : VK} (h : KDct K w p z v) (q : Q v H) : rIxD K w (.ref p) (.str z) H Q := ⟨p, z, v, rfl, rfl, h, q⟩
section
variable {X : Cx}
/-- raise C('text') -/
theorem ps_raiseG {W : WX} {x m : Str} {j : Nat} {p p2 pos pos2 : Pos} (hc : X.calm = true) (tk : Takes X W) (F : ExcF X.K (He.ga X.K x)) (hm : X.mg x = some (.ref (He.ga X.K x))) (hg : Gl X x) (hdb : (x == ("__debug__" : Str)) = false := by decide) :
    PS X (.Raise (some (.Call (.Name x p) [.Constant (.str m) j p2] [] pos)) none pos2) (tRaiseG W (He.ga X.K x)) :=
  ps_raise hc tk (pmk_own PySem.F.excBase_ValueError F.ex hm F.kp (raises_own F.bs F.ty) hg hdb)
/-- isinstance in a suite, of the error that it holds -/
def rIsE1 (K : PySem.W.Frag) (cls : Value) (d : Option Addr) (a : Addr) : List V → Hp → VK → Prop := fun xs H Q => ∃ D, cls = .ref D ∧ d = none ∧ ExcC K D ∧ rIsE K D a xs H Q
def rIsinE (K : PySem.W.Frag) (cls : Value) (d : Option Addr) (a : Addr) : List V → Hp → VK → Prop := fun xs H Q => rIsiX K xs H Q ∨ rIsE1 K cls d a xs H Q
theorem x_isE {a : Addr} {oe : Obj} {cls : Value} {d : Option Addr} {pn : List (Addr × Obj)} (hz : Zc cls d oe) (hf : ∃ vs, oe.data = .fields vs) :
    CallR (X.suite a ((a, oe) :: pn)) (.builtin "isinstance") (rIsE1 X.K cls d a) := by
  intro pins s σ H xs us Q I r h
  obtain ⟨D, rfl, rfl, C, h⟩ := h
  exact call_isE C hz hf pins s σ H xs us Q I r h
end
theorem cxW {CX : CXT} {P : Program} {w : World} {K : PySem.W.Frag} {mg : Str → Option Value} {base : Heap} {N : List Str} {qual : Str} {scope : Scope} {f : Addr} {cd : Value} {A : Around} {outer : List PySem.Env} {s : Shared} {H : Hp} {E : XK} :
    (cxOf CX P w K mg base N qual scope f cd A outer s H E).nox.w = w := rfl
theorem cxW2 {CX : CXT} {P : Program} {w : World} {K : PySem.W.Frag} {mg : Str → Option Value} {base : Heap} {N : List Str} {qual : Str} {scope : Scope} {f : Addr} {cd : Value} {A : Around} {outer : List PySem.Env} {s : Shared} {H : Hp} {E : XK} :
    (cxOf CX P w K mg base N qual scope f cd A outer s H E).w = w := rfl
theorem x_isinE {X : Cx} {a : Addr} {oe : Obj} {cls : Value} {d : Option Addr} {pn : List (Addr × Obj)} (hz : Zc cls d oe) (hf : ∃ vs, oe.data = .fields vs) :
    CallR (X.suite a ((a, oe) :: pn)) (.builtin "isinstance") (rIsinE X.K cls d a) := CallR.or x_isinstance (x_isE hz hf)
section
variable {K : PySem.W.Frag} {a D C : Addr} {H : Hp} {σ : L2.St} {Q : VK} {b : Bool} {n bk ct : L2.St → Hp → Prop} {r : VK}
theorem s_isE (c : ExcC K D) (e : PySem.W.kitOne K (.ref D) (.ref C) = some b) (h : Q (.bl b) H) : rIsinE K (.ref D) none a [.ref a, .ref C] H Q := .inr ⟨D, rfl, rfl, c, _, _, b, rfl, fun u h => h, e, h⟩
theorem s_isEt {y : String} (c : ExcC K D) (e : PySem.W.kitOne K (.ref D) (.type y) = some b) (h : Q (.bl b) H) : rIsinE K (.ref D) none a [.ref a, .ty y] H Q := .inr ⟨D, rfl, rfl, c, _, _, b, rfl, fun u h => h, e, h⟩
theorem s_isEx {cls : Value} {d : Option Addr} {xs : List V} (h : rIsiX K xs H Q) : rIsinE K cls d a xs H Q := .inl h
theorem s_try {tb : WX → TS} {Wout : WX} {l : List Cl} {u : TS} (h : tb (wG Wout ⟨n, r, bk, ct⟩ l) ⟨u ⟨n, r, bk, ct⟩, r, bk, ct⟩ σ H) : tTryG tb Wout l u ⟨n, r, bk, ct⟩ σ H := h
theorem s_raise {W : WX} {e : Ends} (h : W (.ref D) none σ H) : tRaiseG W D e σ H := h
theorem s_WE {W : WX} {cls : Value} {d : Option Addr} (h : W cls d σ H) : WE W σ cls d H := h
theorem s_wGn {Wout : WX} {e : Ends} {f : Value → Option Bool} {oi : Option Nat} {ts : Addr → Value → Option Addr → TS} {l : List Cl} {cls : Value} {d : Option Addr} (q : f cls = some false) (h : wG Wout e l cls d σ H) : wG Wout e ((f, oi, ts) :: l) cls d σ H := ⟨false, q, (fun z => nomatch z), fun _ => h⟩
theorem s_wGy {Wout : WX} {f : Value → Option Bool} {ts : Addr → Value → Option Addr → TS} {l : List Cl} {cls : Value} {d : Option Addr} (q : f cls = some true) (h : ∀ a, H a = none → ts a cls d ⟨n, r, bk, ct⟩ σ H) :
    wG Wout ⟨n, r, bk, ct⟩ ((f, none, ts) :: l) cls d σ H := ⟨true, q, fun _ => h, (fun z => nomatch z)⟩
theorem s_wGa {Wout : WX} {i : Nat} {f : Value → Option Bool} {ts : Addr → Value → Option Addr → TS} {l : List Cl} {cls : Value} {d : Option Addr} (q : f cls = some true)
    (h : ∀ a, H a = none → ts a cls d ⟨fun σ H => n (σ.set i none) H, r, fun σ H => bk (σ.set i none) H, fun σ H => ct (σ.set i none) H⟩ (σ.set i (some (.ref a))) H) :
    wG Wout ⟨n, r, bk, ct⟩ ((f, some i, ts) :: l) cls d σ H := ⟨true, q, fun _ => h, (fun z => nomatch z)⟩
theorem s_wG0 {Wout : WX} {e : Ends} {cls : Value} {d : Option Addr} (h : Wout cls d σ H) : wG Wout e [] cls d σ H := h
end
/-- a call in a try's body -/
theorem pe_callSG {X : Cx} {CX : CXT} {k : Nat} {ps : List Str} {sp : Sp} {E : L2.St → XK} {x : Str} {p pos : Pos} {e : Expr} {es : List Expr} {t : TA} (F : CallOk X.prog X.w X.K X.mg X.base CX k x ps sp) (hr : Room k X.A) (hg : Gl X x) (hx : ∀ σ, PassesAt CX X σ (E σ))
    (ha : PA X (e :: es) t) (hdb : (x == ("__debug__" : Str)) = false := by decide) (he : starEach (e :: es) X.env = (false, eval e X.env) :: starEach es X.env := by rfl) (hpl : (backTo pos (starEach es X.env)).any (·.1) = false := by rfl) :
    PE X (.Call (.Name x p) (e :: es) [] pos) (tCallS sp E t) := by
  obtain ⟨f, fd, h1, h2, h3, h4⟩ := F.ex
  exact pe_callS h4 hr hg h1 h2 h3 hx ha hdb he hpl
theorem s_callS {σ : L2.St} {H : Hp} {Q : VK} {sp : Sp} {E : L2.St → XK} {tr : TA} (h : tr σ H fun vs H1 => sp (vs ++ []) H1 Q (E σ)) : tCallS sp E tr σ H Q := by
  unfold tCallS
  simp only [List.append_nil] at h
  exact h
end Q

namespace Law
open PySem L2 Q
/-! words: one step; arithmetic; a heap fact; a sequence -/
set_option hygiene false
local macro_rules | `(tactic| walk_at "ar") => `(tactic| first | (with_reducible assumption) | omega | decide | (constructor <;> omega) | (simp only [List.length_cons, List.length_nil, List.length_append, List.length_map, List.length_replicate, List.length_set] at *; omega))
local macro_rules | `(tactic| walk_at "sz") => `(tactic| first | exact Nat.le_of_ble_eq_true rfl | (rw [sizeLine_eq]; first | omega | (simp only [List.length_cons, List.length_nil, List.length_append, List.length_map, List.length_replicate, List.length_set]; omega)))
local macro_rules | `(tactic| walk_at "ix") => `(tactic| first | exact (rfl : (_ : List Cell)[0]? = _) | exact (rfl : (_ : List Cell)[1]? = _) | exact (rfl : (_ : List Cell)[2]? = _) | exact (rfl : (_ : List Cell)[3]? = _) | exact (rfl : (_ : List Cell)[4]? = _) | exact (rfl : (_ : List Cell)[5]? = _) | exact (rfl : (_ : List Cell)[6]? = _) | exact (rfl : (_ : List Cell)[7]? = _) | exact (rfl : (_ : List Cell)[8]? = _) | exact (rfl : (_ : List Cell)[9]? = _) | exact (rfl : (_ : List Cell)[10]? = _) | exact (rfl : (_ : List Cell)[11]? = _) | exact (rfl : (_ : List Cell)[12]? = _) | exact (rfl : (_ : List Cell)[13]? = _) | exact (rfl : (_ : List Cell)[14]? = _) | exact (rfl : (_ : List Cell)[15]? = _) | exact (rfl : (_ : List Cell)[16]? = _) | exact (rfl : (_ : List Cell)[17]? = _) | exact (rfl : (_ : List Cell)[18]? = _) | exact (rfl : (_ : List Cell)[19]? = _))
local macro_rules | `(tactic| walk_at "hp") => `(tactic| first | assumption | exact hS.get 0 rfl | exact hS.get 1 rfl | exact hS.get 2 rfl | exact hS.get 3 rfl | exact hS.get 4 rfl | exact hS.get 5 rfl | exact hS.get 6 rfl | exact hS.get 7 rfl | exact hS.get 8 rfl | exact hS.get 9 rfl | exact hS.get 10 rfl | exact hS.get 11 rfl | exact hS.get 12 rfl | exact hS.get 13 rfl | exact hS.get 14 rfl | exact hS.get 15 rfl | exact hS.ro (by assumption) | exact hS.imm (by assumption) rfl)
local macro_rules | `(tactic| walk_at "sq") => `(tactic| first | exact SqL.of (by walk_at "hp") | exact SqT.of (by walk_at "hp") | exact Scr.sq (Scr.keep (by assumption) hS.kp) | assumption)
local macro_rules | `(tactic| walk_at "lit") => `(tactic| first | exact atI_lit 0 (by omega) rfl | exact atI_lit 1 (by omega) rfl | exact atI_lit 2 (by omega) rfl | exact atI_lit 3 (by omega) rfl | exact atI_lit 4 (by omega) rfl | exact atI_lit 5 (by omega) rfl | exact atI_lit 6 (by omega) rfl | exact atI_lit 7 (by omega) rfl)
local macro_rules | `(tactic| walk_at "at") => `(tactic| first | exact rfl | exact atI_ints (by walk_at "ar") (by walk_at "ar") | walk_at "lit" | exact atI_ilit (by walk_at "ar") (by walk_at "ar") rfl | exact atI_in (by walk_at "ar") (by walk_at "ar"))
local macro_rules | `(tactic| walk_at "ij") => `(tactic| first | exact rfl | exact ixN_in (by walk_at "ar") (by walk_at "ar"))
local macro_rules | `(tactic| walk_at "ls") => `(tactic| first | ((try simp only [List.set_cons_zero, List.set_cons_succ, set_ints]); exact rfl))
local macro_rules | `(tactic| walk_at "sl") => `(tactic| repeat (first | exact List.Sublist.refl _ | refine List.Sublist.cons_cons _ ?_ | refine List.Sublist.cons _ ?_))
local macro_rules | `(tactic| walk_at "cl") => `(tactic| assumption)
local macro_rules | `(tactic| walk_at "na") => `(tactic| assumption)
local macro_rules | `(tactic| walk_at "pf") => `(tactic| first
  | (apply pf_new; (· exact rfl); (· (simp only [List.cons_append, List.nil_append]; exact rfl)))
  | (apply pf_set 0; (· exact rfl); (· walk_at "ls")) | (apply pf_set 1; (· exact rfl); (· walk_at "ls")) | (apply pf_set 2; (· exact rfl); (· walk_at "ls")) | (apply pf_set 3; (· exact rfl); (· walk_at "ls"))
  | (apply pf_set 4; (· exact rfl); (· walk_at "ls")) | (apply pf_set 5; (· exact rfl); (· walk_at "ls")) | (apply pf_set 6; (· exact rfl); (· walk_at "ls")) | (apply pf_set 7; (· exact rfl); (· walk_at "ls")))
local macro_rules | `(tactic| walk_at "nw") => `(tactic| (clear hS; rename SH _ _ _ _ => hS))
local macro_rules | `(tactic| walk_at "pv") => `(tactic| first | exact rfl | exact last_snoc _ _ | assumption)
local macro_rules | `(tactic| walk_at "dl") => `(tactic| first | (simp only [List.dropLast_concat]; exact rfl) | exact rfl)
local macro_rules | `(tactic| walk_at "tri") => `(tactic| first | rfl | decide | (exfalso; omega))
local macro_rules | `(tactic| walk_at "ty") => `(tactic| first | exact .base .non | exact .base (.bl _) | exact .base (.int _) | exact .base (.str _) | exact .base (.lst (by walk_at "hp")) | exact .base (.tup (by walk_at "hp")) | exact .base (.dK (by walk_at "hp")))
local macro_rules | `(tactic| walk_at "dp") => `(tactic| first | exact .non | exact .bl _ | exact .int _ | exact .str _ | (apply Dp.lst; (· walk_at "sq"); (· walk_at "dps")) | (apply Dp.tup; (· walk_at "sq"); (· walk_at "dps")))
local macro_rules | `(tactic| walk_at "dps") => `(tactic| first | exact DpAll.nil | (apply DpAll.cons; (· walk_at "dp"); (· walk_at "dps")))
local macro_rules | `(tactic| walk_at "st") => `(tactic| first
  | (with_reducible refine s_seq ?_)
  | (with_reducible refine s_try ?_)
  | (with_reducible refine s_callS ?_)
  | ((with_reducible refine s_raise ?_); (try dsimp only))
  | ((with_reducible apply s_wGn); (· walk_at "em"))
  | ((with_reducible apply s_wGy); (· walk_at "em"); intro ea hea)
  | ((with_reducible apply s_wGa); (· walk_at "em"); (intro ea hea; (try simp only [List.set_cons_succ, List.set_cons_zero])))
  | ((with_reducible apply s_isE); (· walk_at "ec"); (· walk_at "ki"))
  | ((with_reducible apply s_isEt); (· walk_at "ec"); (· walk_at "ki"))
  | ((with_reducible apply s_ixD); (· walk_at "dk"))
  | ((with_reducible show tVar _ _ _ _); refine s_var rfl ?_)
  | (with_reducible refine s_C ?_)
  | (with_reducible refine s_op ?_)
  | (with_reducible refine s_asg ?_)
  | ((with_reducible apply s_gname); (· walk_at "ls"))
  | (with_reducible refine s_gsub ?_)
  | (with_reducible refine s_ifS ?_)
  | (with_reducible refine s_next ?_)
  | (with_reducible refine s_ret ?_)
  | (with_reducible refine s_retN ?_)
  | (with_reducible refine s_drop ?_)
  | (with_reducible refine s_test ?_)
  | (with_reducible refine s_tB ?_)
  | (with_reducible refine s_bl ?_)
  | ((with_reducible apply s_ixL); (· walk_at "sq"); (· walk_at "at"))
  | ((with_reducible apply s_ixT); (· walk_at "sq"); (· walk_at "at"))
  | (with_reducible refine s_addI ?_)
  | (with_reducible refine s_rI0 ?_)
  | ((with_reducible apply s_inT0); (· walk_at "sq"); (· rfl); (· rfl))
  | ((with_reducible apply s_inL0); (· walk_at "sq"); (· rfl); (· rfl))
  | ((with_reducible apply s_niT0); (· walk_at "sq"); (· rfl); (· rfl))
  | ((with_reducible apply s_niL0); (· walk_at "sq"); (· rfl); (· rfl))
  | ((with_reducible refine s_mulR ?_ ?_); (· walk_at "ar"))
  | ((with_reducible refine s_mulL ?_ ?_); (· walk_at "ar"))
  | ((with_reducible refine s_mod ?_ ?_); (· walk_at "ar"))
  | ((with_reducible refine s_div ?_ ?_ ?_); (· walk_at "ar"); (· walk_at "ar"))
  | ((with_reducible refine s_divX ?_ ?_ ?_); (· walk_at "ar"); (· walk_at "ar"))
  | ((with_reducible refine s_modN ?_ ?_); (· walk_at "ar"))
  | (with_reducible refine s_int ?_)
  | (with_reducible refine s_intB ?_)
  | (with_reducible refine s_CB ?_)
  | (with_reducible refine s_cons ?_)
  | (with_reducible refine s_nil ?_)
  | (with_reducible refine s_call ?_)
  | (with_reducible refine s_un ?_)
  | (with_reducible refine s_rU ?_)
  | ((with_reducible apply s_lenL); (· walk_at "sq"))
  | ((with_reducible apply s_lenT); (· walk_at "sq"))
  | (with_reducible refine s_eqI ?_)
  | (with_reducible refine s_neI ?_)
  | (with_reducible refine s_eqS ?_)
  | (with_reducible refine s_neS ?_)
  | (with_reducible refine s_eqB ?_)
  | (with_reducible refine s_neB ?_)
  | ((with_reducible apply s_eqD); (· walk_at "dp"); (· walk_at "dp"); (· exact rfl); (· exact rfl); (· first | exact (rfl : _ = true) | exact (rfl : _ = false) | exact rfl))
  | ((with_reducible apply s_neD); (· walk_at "dp"); (· walk_at "dp"); (· exact rfl); (· exact rfl); (· first | exact (rfl : _ = true) | exact (rfl : _ = false) | exact rfl))
  | (with_reducible refine s_isN ?_)
  | (with_reducible refine s_isNotN ?_)
  | (with_reducible refine s_isB ?_)
  | (with_reducible refine s_isNotB ?_)
  | ((with_reducible apply s_isT); (· walk_at "ty"); (· decide +kernel))
  | ((with_reducible apply s_isF); (· walk_at "ty"); (· decide +kernel))
  | (with_reducible refine s_forR1 ?_)
  | (with_reducible refine s_forR2 ?_)
  | (with_reducible refine s_forL ?_)
  | (with_reducible refine s_forT ?_)
  | (with_reducible refine s_and ?_)
  | (with_reducible refine s_or ?_)
  | (with_reducible refine s_not ?_)
  | (with_reducible refine s_andV ?_)
  | (with_reducible refine s_orV ?_)
  | (with_reducible refine s_notV ?_)
  | (with_reducible refine s_if ?_)
  | (with_reducible refine s_chain ?_)
  | (with_reducible refine s_tup ?_)
  | (with_reducible refine s_lst ?_)
  | ((with_reducible apply s_pow); (· exact ⟨by decide, by decide, by decide⟩); (· (simp only [Int.reduceToNat, Int.reducePow]; exact rfl)))
  | (with_reducible refine s_fld ?_)
  | ((with_reducible apply h_fld hS); (· walk_at "hp"); (· walk_at "cl"); (· walk_at "na"); (· exact rfl))
  | (with_reducible refine s_sfld ?_)
  | (with_reducible refine s_gattr ?_)
  | ((with_reducible apply s_gtup); (· walk_at "sq"); (· exact rfl))
  | (with_reducible refine s_gcons ?_)
  | (with_reducible refine s_gnil ?_)
  | (with_reducible refine s_bm0 ?_)
  | (with_reducible refine s_bm ?_)
  | ((with_reducible apply s_bmL); (· walk_at "sq"))
  | ((with_reducible apply s_methO); (· walk_at "hp"); (· exact rfl))
  | ((with_reducible apply s_propO); (· walk_at "hp"))
  | (with_reducible refine h_make hS (fun x dx H1 hS1 => ?_); walk_at "nw")
  | (with_reducible refine s_abs ?_)
  | (with_reducible refine s_max2 ?_)
  | (with_reducible refine s_min2 ?_)
  | ((with_reducible refine h_new hS ?_ (fun p H1 hS1 hp => ?_)); (· walk_at "sz"); clear hS; rename SH _ _ _ _ => hS)
  | ((with_reducible apply s_rep1); (· walk_at "hp"); (· walk_at "ar"); (· first | (simp only [Int.reduceToNat]; exact rfl) | exact rfl))
  | ((with_reducible apply s_rep); (· walk_at "hp"); (· walk_at "ar"); (· walk_at "sz"); (· exact rfl))
  | ((with_reducible apply s_cat); (· walk_at "hp"); (· walk_at "hp"); (· walk_at "sz"); (· exact rfl))
  | ((with_reducible apply s_listO); (· walk_at "sq"))
  | ((with_reducible apply s_listT); (· walk_at "sq"))
  | ((with_reducible apply s_tupL); (· walk_at "sq"))
  | ((with_reducible apply s_tupT); (· walk_at "sq"))
  | ((with_reducible apply h_setL hS); (· walk_at "ix"); (· walk_at "ij"); (· walk_at "ls"); (· walk_at "ls"); intro H1 hS1; clear hS; rename SH _ _ _ _ => hS)
  | ((with_reducible apply h_sfld hS); (· walk_at "ix"); (· walk_at "cl"); (· walk_at "na"); (· exact Nat.le_of_ble_eq_true rfl); (· walk_at "pf"); (· walk_at "ls"); intro H1 hS1; walk_at "nw")
  | ((with_reducible apply h_append hS); (· walk_at "ix"); (· walk_at "sz"); (· first | exact rfl); (· walk_at "ls"); intro H1 hS1; walk_at "nw")
  | ((with_reducible apply h_pop0 hS); (· walk_at "ix"); (· walk_at "ar"); intro pn pms H1 hpn hS1; walk_at "nw"; simp only [List.set_cons_zero, List.set_cons_succ] at hS)
  | ((with_reducible apply h_pop hS); (· walk_at "ix"); (· walk_at "pv"); (· walk_at "dl"); (· walk_at "ls"); intro H1 hS1; walk_at "nw")
  | (with_reducible refine s_sl ?_)
  | (with_reducible refine s_part ?_)
  | (with_reducible refine s_partI ?_)
  | (with_reducible refine s_noPart ?_)
  | ((with_reducible apply s_slL); (· walk_at "sq"); (· exact rfl))
  | (with_reducible refine s_lcR1 ?_)
  | (with_reducible refine s_lcL ?_)
  | ((with_reducible apply h_lcEnd hS); (· walk_at "ix"); (· walk_at "sz"); (· first | exact rfl); (· walk_at "ls"); intro H1 hS1; walk_at "nw")
  | (with_reducible refine i_not ?_)
  | ((with_reducible refine i_pos ?_ ?_); (· first | rfl | decide | exact decide_eq_true (by omega)))
  | ((with_reducible refine i_neg ?_ ?_); (· first | rfl | decide | exact decide_eq_false (by omega)))
  | (with_reducible refine i_dec (fun hc => ?_) (fun hc => ?_))
  | (with_reducible refine i_gen (fun hc => ?_) (fun hc => ?_)))
def top (i : Nat) : Stmt := PySem.Challenge.pw_windowada_k68_banks.main.body.getD i (.Pass ⟨0, 0, 0, 0⟩)
abbrev s_row_of : Stmt := top 1
abbrev s_clear_new : Stmt := top 2
abbrev s_Banks_init__ : Stmt := inClass (top 6) 0
abbrev s_Banks_read : Stmt := inClass (top 6) 1
abbrev s_Banks_write : Stmt := inClass (top 6) 2
abbrev s_Banks_set_bar : Stmt := inClass (top 6) 3
abbrev s_Banks_blocked_down : Stmt := inClass (top 6) 4
abbrev s_Banks_blocked_up : Stmt := inClass (top 6) 5
abbrev s_Banks_move_down : Stmt := inClass (top 6) 6
abbrev s_Banks_shift_down : Stmt := inClass (top 6) 7
abbrev s_Banks_shift_up : Stmt := inClass (top 6) 8
abbrev s_Banks_trap_down : Stmt := inClass (top 6) 9
abbrev s_Banks_trap_up : Stmt := inClass (top 6) 10
abbrev s_Banks_leave_trap : Stmt := inClass (top 6) 11
abbrev s_z_pick : Stmt := top 8
abbrev s_z_is_integer : Stmt := top 9
abbrev s_z_word : Stmt := top 10
abbrev s_z_find : Stmt := top 11
abbrev s_z_get : Stmt := top 12
abbrev s_z_set : Stmt := top 13
abbrev s_z_move : Stmt := top 14
abbrev s_z_counts : Stmt := top 15
abbrev s_z_reads : Stmt := top 16
abbrev s_z_shift : Stmt := top 17
abbrev s_z_deed : Stmt := top 18
abbrev s_law : Stmt := top 19
abbrev N_row_of : List Str := ["rows", "shared", "current", "number"]
theorem st_row_of (a0 a1 a2 a3 : V) : L2.start N_row_of [a0, a1, a2, a3] = [some a0, some a1, some a2, some a3] := rfl
theorem sc_row_of : FnScope N_row_of ["rows", "shared", "current", "number"] (defScope s_row_of) := ⟨rfl, rfl, rfl, by decide +kernel, rfl, by decide +kernel, by decide +kernel⟩
abbrev N_clear_new : List Str := ["rows", "current", "index"]
theorem st_clear_new (a0 a1 : V) : L2.start N_clear_new [a0, a1] = [some a0, some a1, none] := rfl
theorem sc_clear_new : FnScope N_clear_new ["rows", "current"] (defScope s_clear_new) := ⟨rfl, rfl, rfl, by decide +kernel, rfl, by decide +kernel, by decide +kernel⟩
abbrev N_Banks_init__ : List Str := ["self", "windows", "_"]
theorem st_Banks_init__ (a0 a1 : V) : L2.start N_Banks_init__ [a0, a1] = [some a0, some a1, none] := rfl
theorem sc_Banks_init__ : FnScope N_Banks_init__ ["self", "windows"] (defScope s_Banks_init__) := ⟨rfl, rfl, rfl, by decide +kernel, rfl, by decide +kernel, by decide +kernel⟩
abbrev N_Banks_read : List Str := ["self", "number", "row", "index"]
theorem st_Banks_read (a0 a1 : V) : L2.start N_Banks_read [a0, a1] = [some a0, some a1, none, none] := rfl
theorem sc_Banks_read : FnScope N_Banks_read ["self", "number"] (defScope s_Banks_read) := ⟨rfl, rfl, rfl, by decide +kernel, rfl, by decide +kernel, by decide +kernel⟩
abbrev N_Banks_write : List Str := ["self", "number", "word", "row", "index"]
theorem st_Banks_write (a0 a1 a2 : V) : L2.start N_Banks_write [a0, a1, a2] = [some a0, some a1, some a2, none, none] := rfl
theorem sc_Banks_write : FnScope N_Banks_write ["self", "number", "word"] (defScope s_Banks_write) := ⟨rfl, rfl, rfl, by decide +kernel, rfl, by decide +kernel, by decide +kernel⟩
abbrev N_Banks_set_bar : List Str := ["self", "number"]
theorem st_Banks_set_bar (a0 a1 : V) : L2.start N_Banks_set_bar [a0, a1] = [some a0, some a1] := rfl
theorem sc_Banks_set_bar : FnScope N_Banks_set_bar ["self", "number"] (defScope s_Banks_set_bar) := ⟨rfl, rfl, rfl, by decide +kernel, rfl, by decide +kernel, by decide +kernel⟩
abbrev N_Banks_blocked_down : List Str := ["self"]
theorem st_Banks_blocked_down (a0 : V) : L2.start N_Banks_blocked_down [a0] = [some a0] := rfl
theorem sc_Banks_blocked_down : FnScope N_Banks_blocked_down ["self"] (defScope s_Banks_blocked_down) := ⟨rfl, rfl, rfl, by decide +kernel, rfl, by decide +kernel, by decide +kernel⟩
abbrev N_Banks_blocked_up : List Str := ["self"]
theorem st_Banks_blocked_up (a0 : V) : L2.start N_Banks_blocked_up [a0] = [some a0] := rfl
theorem sc_Banks_blocked_up : FnScope N_Banks_blocked_up ["self"] (defScope s_Banks_blocked_up) := ⟨rfl, rfl, rfl, by decide +kernel, rfl, by decide +kernel, by decide +kernel⟩
abbrev N_Banks_move_down : List Str := ["self"]
theorem st_Banks_move_down (a0 : V) : L2.start N_Banks_move_down [a0] = [some a0] := rfl
theorem sc_Banks_move_down : FnScope N_Banks_move_down ["self"] (defScope s_Banks_move_down) := ⟨rfl, rfl, rfl, by decide +kernel, rfl, by decide +kernel, by decide +kernel⟩
abbrev N_Banks_shift_down : List Str := ["self"]
theorem st_Banks_shift_down (a0 : V) : L2.start N_Banks_shift_down [a0] = [some a0] := rfl
theorem sc_Banks_shift_down : FnScope N_Banks_shift_down ["self"] (defScope s_Banks_shift_down) := ⟨rfl, rfl, rfl, by decide +kernel, rfl, by decide +kernel, by decide +kernel⟩
abbrev N_Banks_shift_up : List Str := ["self"]
theorem st_Banks_shift_up (a0 : V) : L2.start N_Banks_shift_up [a0] = [some a0] := rfl
theorem sc_Banks_shift_up : FnScope N_Banks_shift_up ["self"] (defScope s_Banks_shift_up) := ⟨rfl, rfl, rfl, by decide +kernel, rfl, by decide +kernel, by decide +kernel⟩
abbrev N_Banks_trap_down : List Str := ["self", "address"]
theorem st_Banks_trap_down (a0 a1 : V) : L2.start N_Banks_trap_down [a0, a1] = [some a0, some a1] := rfl
theorem sc_Banks_trap_down : FnScope N_Banks_trap_down ["self", "address"] (defScope s_Banks_trap_down) := ⟨rfl, rfl, rfl, by decide +kernel, rfl, by decide +kernel, by decide +kernel⟩
abbrev N_Banks_trap_up : List Str := ["self", "address"]
theorem st_Banks_trap_up (a0 a1 : V) : L2.start N_Banks_trap_up [a0, a1] = [some a0, some a1] := rfl
theorem sc_Banks_trap_up : FnScope N_Banks_trap_up ["self", "address"] (defScope s_Banks_trap_up) := ⟨rfl, rfl, rfl, by decide +kernel, rfl, by decide +kernel, by decide +kernel⟩
abbrev N_Banks_leave_trap : List Str := ["self", "address"]
theorem st_Banks_leave_trap (a0 : V) : L2.start N_Banks_leave_trap [a0] = [some a0, none] := rfl
theorem sc_Banks_leave_trap : FnScope N_Banks_leave_trap ["self"] (defScope s_Banks_leave_trap) := ⟨rfl, rfl, rfl, by decide +kernel, rfl, by decide +kernel, by decide +kernel⟩
abbrev N_z_pick : List Str := ["_law_state", "_law_limit", "_law_digit", "_law_cell", "_law_mixed"]
theorem st_z_pick (a0 a1 : V) : L2.start N_z_pick [a0, a1] = [some a0, some a1, none, none, none] := rfl
theorem sc_z_pick : FnScope N_z_pick ["_law_state", "_law_limit"] (defScope s_z_pick) := ⟨rfl, rfl, rfl, by decide +kernel, rfl, by decide +kernel, by decide +kernel⟩
abbrev N_z_is_integer : List Str := ["_law_actual"]
theorem st_z_is_integer (a0 : V) : L2.start N_z_is_integer [a0] = [some a0] := rfl
theorem sc_z_is_integer : FnScope N_z_is_integer ["_law_actual"] (defScope s_z_is_integer) := ⟨rfl, rfl, rfl, by decide +kernel, rfl, by decide +kernel, by decide +kernel⟩
abbrev N_z_word : List Str := ["_law_state", "_law_choice"]
theorem st_z_word (a0 : V) : L2.start N_z_word [a0] = [some a0, none] := rfl
theorem sc_z_word : FnScope N_z_word ["_law_state"] (defScope s_z_word) := ⟨rfl, rfl, rfl, by decide +kernel, rfl, by decide +kernel, by decide +kernel⟩
abbrev N_z_find : List Str := ["_law_model", "_law_number", "_law_rows"]
theorem st_z_find (a0 a1 : V) : L2.start N_z_find [a0, a1] = [some a0, some a1, none] := rfl
theorem sc_z_find : FnScope N_z_find ["_law_model", "_law_number"] (defScope s_z_find) := ⟨rfl, rfl, rfl, by decide +kernel, rfl, by decide +kernel, by decide +kernel⟩
abbrev N_z_get : List Str := ["_law_model", "_law_number", "_law_found"]
theorem st_z_get (a0 a1 : V) : L2.start N_z_get [a0, a1] = [some a0, some a1, none] := rfl
theorem sc_z_get : FnScope N_z_get ["_law_model", "_law_number"] (defScope s_z_get) := ⟨rfl, rfl, rfl, by decide +kernel, rfl, by decide +kernel, by decide +kernel⟩
abbrev N_z_set : List Str := ["_law_model", "_law_number", "_law_word_here", "_law_found", "_law_group"]
theorem st_z_set (a0 a1 a2 : V) : L2.start N_z_set [a0, a1, a2] = [some a0, some a1, some a2, none, none] := rfl
theorem sc_z_set : FnScope N_z_set ["_law_model", "_law_number", "_law_word_here"] (defScope s_z_set) := ⟨rfl, rfl, rfl, by decide +kernel, rfl, by decide +kernel, by decide +kernel⟩
abbrev N_z_move : List Str := ["_law_model", "_law_by", "_law_many"]
theorem st_z_move (a0 a1 : V) : L2.start N_z_move [a0, a1] = [some a0, some a1, none] := rfl
theorem sc_z_move : FnScope N_z_move ["_law_model", "_law_by"] (defScope s_z_move) := ⟨rfl, rfl, rfl, by decide +kernel, rfl, by decide +kernel, by decide +kernel⟩
abbrev N_z_counts : List Str := ["_law_banks", "_law_model", "_law_many", "_law_told", "_law_number", "_law_down", "_law_up", "_law_flag"]
theorem st_z_counts (a0 a1 : V) : L2.start N_z_counts [a0, a1] = [some a0, some a1, none, none, none, none, none, none] := rfl
theorem sc_z_counts : FnScope N_z_counts ["_law_banks", "_law_model"] (defScope s_z_counts) := ⟨rfl, rfl, rfl, by decide +kernel, rfl, by decide +kernel, by decide +kernel⟩
abbrev N_z_reads : List Str := ["_law_banks", "_law_model", "_law_number", "_law_word_here"]
theorem st_z_reads (a0 a1 : V) : L2.start N_z_reads [a0, a1] = [some a0, some a1, none, none] := rfl
theorem sc_z_reads : FnScope N_z_reads ["_law_banks", "_law_model"] (defScope s_z_reads) := ⟨rfl, rfl, rfl, by decide +kernel, rfl, by decide +kernel, by decide +kernel⟩
abbrev N_z_shift : List Str := ["_law_state", "_law_banks", "_law_model", "_law_choice", "_law_number", "_law_address", "_law_at", "_law_due", "_law_told"]
theorem st_z_shift (a0 a1 a2 a3 : V) : L2.start N_z_shift [a0, a1, a2, a3] = [some a0, some a1, some a2, some a3, none, none, none, none, none] := rfl
theorem sc_z_shift : FnScope N_z_shift ["_law_state", "_law_banks", "_law_model", "_law_choice"] (defScope s_z_shift) := ⟨rfl, rfl, rfl, by decide +kernel, rfl, by decide +kernel, by decide +kernel⟩
abbrev N_z_deed : List Str := ["_law_state", "_law_banks", "_law_model", "_law_choice", "_law_number", "_law_word_here"]
theorem st_z_deed (a0 a1 a2 : V) : L2.start N_z_deed [a0, a1, a2] = [some a0, some a1, some a2, none, none, none] := rfl
theorem sc_z_deed : FnScope N_z_deed ["_law_state", "_law_banks", "_law_model"] (defScope s_z_deed) := ⟨rfl, rfl, rfl, by decide +kernel, rfl, by decide +kernel, by decide +kernel⟩
abbrev N_law : List Str := ["_law_script", "_law_state", "_law_windows", "_law_banks", "_law_k", "_law_model", "_law_turn", "_law_number"]
theorem st_law (a0 : V) : L2.start N_law [a0] = [some a0, none, none, none, none, none, none, none] := rfl
theorem sc_law : FnScope N_law ["_law_script"] (defScope s_law) := ⟨rfl, rfl, rfl, by decide +kernel, rfl, by decide +kernel, by decide +kernel⟩
structure Env (w : World) (K : PySem.W.Frag) (mg : Str → Option Value) : Prop where
  mg_row_of : mg "row_of" = some (.ref (He.ga K "row_of"))
  mg_clear_new : mg "clear_new" = some (.ref (He.ga K "clear_new"))
  mg_z_pick : mg "_law_pick" = some (.ref (He.ga K "_law_pick"))
  mg_z_is_integer : mg "_law_is_integer" = some (.ref (He.ga K "_law_is_integer"))
  mg_z_word : mg "_law_word" = some (.ref (He.ga K "_law_word"))
  mg_z_find : mg "_law_find" = some (.ref (He.ga K "_law_find"))
  mg_z_get : mg "_law_get" = some (.ref (He.ga K "_law_get"))
  mg_z_set : mg "_law_set" = some (.ref (He.ga K "_law_set"))
  mg_z_move : mg "_law_move" = some (.ref (He.ga K "_law_move"))
  mg_z_counts : mg "_law_counts" = some (.ref (He.ga K "_law_counts"))
  mg_z_reads : mg "_law_reads" = some (.ref (He.ga K "_law_reads"))
  mg_z_shift : mg "_law_shift" = some (.ref (He.ga K "_law_shift"))
  mg_z_deed : mg "_law_deed" = some (.ref (He.ga K "_law_deed"))
  mg_law : mg "law" = some (.ref (He.ga K "law"))
  mg_Banks : mg "Banks" = some (.ref (He.ga K "Banks"))
  cl_Banks : Cls K (He.ga K "Banks")
  mk_Banks : Mk K (He.ga K "Banks") (He.ma K (He.ga K "Banks") "__init__")
  me_Banks_read : Meth K (He.ga K "Banks") "read" (He.ma K (He.ga K "Banks") "read")
  me_Banks_write : Meth K (He.ga K "Banks") "write" (He.ma K (He.ga K "Banks") "write")
  me_Banks_set_bar : Meth K (He.ga K "Banks") "set_bar" (He.ma K (He.ga K "Banks") "set_bar")
  me_Banks_blocked_down : Meth K (He.ga K "Banks") "blocked_down" (He.ma K (He.ga K "Banks") "blocked_down")
  me_Banks_blocked_up : Meth K (He.ga K "Banks") "blocked_up" (He.ma K (He.ga K "Banks") "blocked_up")
  me_Banks_move_down : Meth K (He.ga K "Banks") "_move_down" (He.ma K (He.ga K "Banks") "_move_down")
  me_Banks_shift_down : Meth K (He.ga K "Banks") "shift_down" (He.ma K (He.ga K "Banks") "shift_down")
  me_Banks_shift_up : Meth K (He.ga K "Banks") "shift_up" (He.ma K (He.ga K "Banks") "shift_up")
  me_Banks_trap_down : Meth K (He.ga K "Banks") "trap_down" (He.ma K (He.ga K "Banks") "trap_down")
  me_Banks_trap_up : Meth K (He.ga K "Banks") "trap_up" (He.ma K (He.ga K "Banks") "trap_up")
  me_Banks_leave_trap : Meth K (He.ga K "Banks") "leave_trap" (He.ma K (He.ga K "Banks") "leave_trap")
  na_Banks_windows : NoAttr K (He.ga K "Banks") "windows"
  na_Banks_rows : NoAttr K (He.ga K "Banks") "_rows"
  na_Banks_shared : NoAttr K (He.ga K "Banks") "_shared"
  na_Banks_current : NoAttr K (He.ga K "Banks") "current"
  na_Banks_barred : NoAttr K (He.ga K "Banks") "barred"
  na_Banks_depth : NoAttr K (He.ga K "Banks") "depth"
  na_Banks_spills : NoAttr K (He.ga K "Banks") "spills"
  na_Banks_fills : NoAttr K (He.ga K "Banks") "fills"
  c_TRAP_ADDRESS : ∃ t, mg "TRAP_ADDRESS" = some (.int (17) t)
  c_NO_BAR : ∃ t, mg "NO_BAR" = some (.int (-1) t)
  z_bool : mg "bool" = none
  z_int : mg "int" = none
  z_isinstance : mg "isinstance" = none
  z_len : mg "len" = none
  z_range : mg "range" = none
  fd_row_of : ∃ fd, FunD K "row_of" "row_of" (defArgs s_row_of) (defBody s_row_of) (defScope s_row_of) [] [] (He.fAd K ("row_of", none)) fd
  fd_clear_new : ∃ fd, FunD K "clear_new" "clear_new" (defArgs s_clear_new) (defBody s_clear_new) (defScope s_clear_new) [] [] (He.fAd K ("clear_new", none)) fd
  fd_Banks_init__ : ∃ fd, FunD K "__init__" "Banks.__init__" (defArgs s_Banks_init__) (defBody s_Banks_init__) (defScope s_Banks_init__) [] [] (He.fAd K ("Banks", some "__init__")) fd
  fd_Banks_read : ∃ fd, FunD K "read" "Banks.read" (defArgs s_Banks_read) (defBody s_Banks_read) (defScope s_Banks_read) [] [] (He.fAd K ("Banks", some "read")) fd
  fd_Banks_write : ∃ fd, FunD K "write" "Banks.write" (defArgs s_Banks_write) (defBody s_Banks_write) (defScope s_Banks_write) [] [] (He.fAd K ("Banks", some "write")) fd
  fd_Banks_set_bar : ∃ fd, FunD K "set_bar" "Banks.set_bar" (defArgs s_Banks_set_bar) (defBody s_Banks_set_bar) (defScope s_Banks_set_bar) [] [] (He.fAd K ("Banks", some "set_bar")) fd
  fd_Banks_blocked_down : ∃ fd, FunD K "blocked_down" "Banks.blocked_down" (defArgs s_Banks_blocked_down) (defBody s_Banks_blocked_down) (defScope s_Banks_blocked_down) [] [] (He.fAd K ("Banks", some "blocked_down")) fd
  fd_Banks_blocked_up : ∃ fd, FunD K "blocked_up" "Banks.blocked_up" (defArgs s_Banks_blocked_up) (defBody s_Banks_blocked_up) (defScope s_Banks_blocked_up) [] [] (He.fAd K ("Banks", some "blocked_up")) fd
  fd_Banks_move_down : ∃ fd, FunD K "_move_down" "Banks._move_down" (defArgs s_Banks_move_down) (defBody s_Banks_move_down) (defScope s_Banks_move_down) [] [] (He.fAd K ("Banks", some "_move_down")) fd
  fd_Banks_shift_down : ∃ fd, FunD K "shift_down" "Banks.shift_down" (defArgs s_Banks_shift_down) (defBody s_Banks_shift_down) (defScope s_Banks_shift_down) [] [] (He.fAd K ("Banks", some "shift_down")) fd
  fd_Banks_shift_up : ∃ fd, FunD K "shift_up" "Banks.shift_up" (defArgs s_Banks_shift_up) (defBody s_Banks_shift_up) (defScope s_Banks_shift_up) [] [] (He.fAd K ("Banks", some "shift_up")) fd
  fd_Banks_trap_down : ∃ fd, FunD K "trap_down" "Banks.trap_down" (defArgs s_Banks_trap_down) (defBody s_Banks_trap_down) (defScope s_Banks_trap_down) [] [] (He.fAd K ("Banks", some "trap_down")) fd
  fd_Banks_trap_up : ∃ fd, FunD K "trap_up" "Banks.trap_up" (defArgs s_Banks_trap_up) (defBody s_Banks_trap_up) (defScope s_Banks_trap_up) [] [] (He.fAd K ("Banks", some "trap_up")) fd
  fd_Banks_leave_trap : ∃ fd, FunD K "leave_trap" "Banks.leave_trap" (defArgs s_Banks_leave_trap) (defBody s_Banks_leave_trap) (defScope s_Banks_leave_trap) [] [] (He.fAd K ("Banks", some "leave_trap")) fd
  fd_z_pick : ∃ fd, FunD K "_law_pick" "_law_pick" (defArgs s_z_pick) (defBody s_z_pick) (defScope s_z_pick) [] [] (He.fAd K ("_law_pick", none)) fd
  fd_z_is_integer : ∃ fd, FunD K "_law_is_integer" "_law_is_integer" (defArgs s_z_is_integer) (defBody s_z_is_integer) (defScope s_z_is_integer) [] [] (He.fAd K ("_law_is_integer", none)) fd
  fd_z_word : ∃ fd, FunD K "_law_word" "_law_word" (defArgs s_z_word) (defBody s_z_word) (defScope s_z_word) [] [] (He.fAd K ("_law_word", none)) fd
  fd_z_find : ∃ fd, FunD K "_law_find" "_law_find" (defArgs s_z_find) (defBody s_z_find) (defScope s_z_find) [] [] (He.fAd K ("_law_find", none)) fd
  fd_z_get : ∃ fd, FunD K "_law_get" "_law_get" (defArgs s_z_get) (defBody s_z_get) (defScope s_z_get) [] [] (He.fAd K ("_law_get", none)) fd
  fd_z_set : ∃ fd, FunD K "_law_set" "_law_set" (defArgs s_z_set) (defBody s_z_set) (defScope s_z_set) [] [] (He.fAd K ("_law_set", none)) fd
  fd_z_move : ∃ fd, FunD K "_law_move" "_law_move" (defArgs s_z_move) (defBody s_z_move) (defScope s_z_move) [] [] (He.fAd K ("_law_move", none)) fd
  fd_z_counts : ∃ fd, FunD K "_law_counts" "_law_counts" (defArgs s_z_counts) (defBody s_z_counts) (defScope s_z_counts) [] [] (He.fAd K ("_law_counts", none)) fd
  fd_z_reads : ∃ fd, FunD K "_law_reads" "_law_reads" (defArgs s_z_reads) (defBody s_z_reads) (defScope s_z_reads) [] [] (He.fAd K ("_law_reads", none)) fd
  fd_z_shift : ∃ fd, FunD K "_law_shift" "_law_shift" (defArgs s_z_shift) (defBody s_z_shift) (defScope s_z_shift) [] [] (He.fAd K ("_law_shift", none)) fd
  fd_z_deed : ∃ fd, FunD K "_law_deed" "_law_deed" (defArgs s_z_deed) (defBody s_z_deed) (defScope s_z_deed) [] [] (He.fAd K ("_law_deed", none)) fd
  fd_law : ∃ fd, FunD K "law" "law" (defArgs s_law) (defBody s_law) (defScope s_law) [] [] (He.fAd K ("law", none)) fd
def fa : List He.Fa := [.glo "row_of", .glo "clear_new", .glo "_law_pick", .glo "_law_is_integer", .glo "_law_word", .glo "_law_find", .glo "_law_get", .glo "_law_set", .glo "_law_move", .glo "_law_counts", .glo "_law_reads", .glo "_law_shift", .glo "_law_deed", .glo "law", .glo "Banks", .cls "Banks", .mkr "Banks", .meth "Banks" "read", .meth "Banks" "write", .meth "Banks" "set_bar", .meth "Banks" "blocked_down", .meth "Banks" "blocked_up", .meth "Banks" "_move_down", .meth "Banks" "shift_down", .meth "Banks" "shift_up", .meth "Banks" "trap_down", .meth "Banks" "trap_up", .meth "Banks" "leave_trap", .noat "Banks" "windows", .noat "Banks" "_rows", .noat "Banks" "_shared", .noat "Banks" "current", .noat "Banks" "barred", .noat "Banks" "depth", .noat "Banks" "spills", .noat "Banks" "fills", .int "TRAP_ADDRESS" (17), .int "NO_BAR" (-1), .free "bool", .free "int", .free "isinstance", .free "len", .free "range"]
def fn : List He.DefD := [⟨("row_of", none), "row_of", "row_of", defArgs s_row_of, defBody s_row_of, defScope s_row_of, [], []⟩, ⟨("clear_new", none), "clear_new", "clear_new", defArgs s_clear_new, defBody s_clear_new, defScope s_clear_new, [], []⟩, ⟨("Banks", some "__init__"), "__init__", "Banks.__init__", defArgs s_Banks_init__, defBody s_Banks_init__, defScope s_Banks_init__, [], []⟩, ⟨("Banks", some "read"), "read", "Banks.read", defArgs s_Banks_read, defBody s_Banks_read, defScope s_Banks_read, [], []⟩, ⟨("Banks", some "write"), "write", "Banks.write", defArgs s_Banks_write, defBody s_Banks_write, defScope s_Banks_write, [], []⟩, ⟨("Banks", some "set_bar"), "set_bar", "Banks.set_bar", defArgs s_Banks_set_bar, defBody s_Banks_set_bar, defScope s_Banks_set_bar, [], []⟩, ⟨("Banks", some "blocked_down"), "blocked_down", "Banks.blocked_down", defArgs s_Banks_blocked_down, defBody s_Banks_blocked_down, defScope s_Banks_blocked_down, [], []⟩, ⟨("Banks", some "blocked_up"), "blocked_up", "Banks.blocked_up", defArgs s_Banks_blocked_up, defBody s_Banks_blocked_up, defScope s_Banks_blocked_up, [], []⟩, ⟨("Banks", some "_move_down"), "_move_down", "Banks._move_down", defArgs s_Banks_move_down, defBody s_Banks_move_down, defScope s_Banks_move_down, [], []⟩, ⟨("Banks", some "shift_down"), "shift_down", "Banks.shift_down", defArgs s_Banks_shift_down, defBody s_Banks_shift_down, defScope s_Banks_shift_down, [], []⟩, ⟨("Banks", some "shift_up"), "shift_up", "Banks.shift_up", defArgs s_Banks_shift_up, defBody s_Banks_shift_up, defScope s_Banks_shift_up, [], []⟩, ⟨("Banks", some "trap_down"), "trap_down", "Banks.trap_down", defArgs s_Banks_trap_down, defBody s_Banks_trap_down, defScope s_Banks_trap_down, [], []⟩, ⟨("Banks", some "trap_up"), "trap_up", "Banks.trap_up", defArgs s_Banks_trap_up, defBody s_Banks_trap_up, defScope s_Banks_trap_up, [], []⟩, ⟨("Banks", some "leave_trap"), "leave_trap", "Banks.leave_trap", defArgs s_Banks_leave_trap, defBody s_Banks_leave_trap, defScope s_Banks_leave_trap, [], []⟩, ⟨("_law_pick", none), "_law_pick", "_law_pick", defArgs s_z_pick, defBody s_z_pick, defScope s_z_pick, [], []⟩, ⟨("_law_is_integer", none), "_law_is_integer", "_law_is_integer", defArgs s_z_is_integer, defBody s_z_is_integer, defScope s_z_is_integer, [], []⟩, ⟨("_law_word", none), "_law_word", "_law_word", defArgs s_z_word, defBody s_z_word, defScope s_z_word, [], []⟩, ⟨("_law_find", none), "_law_find", "_law_find", defArgs s_z_find, defBody s_z_find, defScope s_z_find, [], []⟩, ⟨("_law_get", none), "_law_get", "_law_get", defArgs s_z_get, defBody s_z_get, defScope s_z_get, [], []⟩, ⟨("_law_set", none), "_law_set", "_law_set", defArgs s_z_set, defBody s_z_set, defScope s_z_set, [], []⟩, ⟨("_law_move", none), "_law_move", "_law_move", defArgs s_z_move, defBody s_z_move, defScope s_z_move, [], []⟩, ⟨("_law_counts", none), "_law_counts", "_law_counts", defArgs s_z_counts, defBody s_z_counts, defScope s_z_counts, [], []⟩, ⟨("_law_reads", none), "_law_reads", "_law_reads", defArgs s_z_reads, defBody s_z_reads, defScope s_z_reads, [], []⟩, ⟨("_law_shift", none), "_law_shift", "_law_shift", defArgs s_z_shift, defBody s_z_shift, defScope s_z_shift, [], []⟩, ⟨("_law_deed", none), "_law_deed", "_law_deed", defArgs s_z_deed, defBody s_z_deed, defScope s_z_deed, [], []⟩, ⟨("law", none), "law", "law", defArgs s_law, defBody s_law, defScope s_law, [], []⟩]
def exl : List (PySem.W.Frag → Bool) := []
def ex (K : PySem.W.Frag) : Bool := exl.all fun f => f K
def ts : List He.Tab := []
theorem env_mk {w : World} {K : PySem.W.Frag} {h : Heap} {mg : Str → Option Value} (X : K.In h) (G : h.Ns mainGlobals mg) (c : He.SaysX fa fn ts [] ex w h K) : Env w K mg := ⟨
  He.glo_ok X G (c.t.d.fact 0 rfl),
  He.glo_ok X G (c.t.d.fact 1 rfl),
  He.glo_ok X G (c.t.d.fact 2 rfl),
  He.glo_ok X G (c.t.d.fact 3 rfl),
  He.glo_ok X G (c.t.d.fact 4 rfl),
  He.glo_ok X G (c.t.d.fact 5 rfl),
  He.glo_ok X G (c.t.d.fact 6 rfl),
  He.glo_ok X G (c.t.d.fact 7 rfl),
  He.glo_ok X G (c.t.d.fact 8 rfl),
  He.glo_ok X G (c.t.d.fact 9 rfl),
  He.glo_ok X G (c.t.d.fact 10 rfl),
  He.glo_ok X G (c.t.d.fact 11 rfl),
  He.glo_ok X G (c.t.d.fact 12 rfl),
  He.glo_ok X G (c.t.d.fact 13 rfl),
  He.glo_ok X G (c.t.d.fact 14 rfl),
  He.cls_ok (c.t.d.fact 15 rfl),
  He.mkr_ok (c.t.d.fact 16 rfl),
  He.meth_ok (c.t.d.fact 17 rfl),
  He.meth_ok (c.t.d.fact 18 rfl),
  He.meth_ok (c.t.d.fact 19 rfl),
  He.meth_ok (c.t.d.fact 20 rfl),
  He.meth_ok (c.t.d.fact 21 rfl),
  He.meth_ok (c.t.d.fact 22 rfl),
  He.meth_ok (c.t.d.fact 23 rfl),
  He.meth_ok (c.t.d.fact 24 rfl),
  He.meth_ok (c.t.d.fact 25 rfl),
  He.meth_ok (c.t.d.fact 26 rfl),
  He.meth_ok (c.t.d.fact 27 rfl),
  He.noat_ok (c.t.d.fact 28 rfl),
  He.noat_ok (c.t.d.fact 29 rfl),
  He.noat_ok (c.t.d.fact 30 rfl),
  He.noat_ok (c.t.d.fact 31 rfl),
  He.noat_ok (c.t.d.fact 32 rfl),
  He.noat_ok (c.t.d.fact 33 rfl),
  He.noat_ok (c.t.d.fact 34 rfl),
  He.noat_ok (c.t.d.fact 35 rfl),
  He.int_ok X G (c.t.d.fact 36 rfl),
  He.int_ok X G (c.t.d.fact 37 rfl),
  He.free_ok X G (c.t.d.fact 38 rfl),
  He.free_ok X G (c.t.d.fact 39 rfl),
  He.free_ok X G (c.t.d.fact 40 rfl),
  He.free_ok X G (c.t.d.fact 41 rfl),
  He.free_ok X G (c.t.d.fact 42 rfl),
  c.t.d.def_ 0 rfl,
  c.t.d.def_ 1 rfl,
  c.t.d.def_ 2 rfl,
  c.t.d.def_ 3 rfl,
  c.t.d.def_ 4 rfl,
  c.t.d.def_ 5 rfl,
  c.t.d.def_ 6 rfl,
  c.t.d.def_ 7 rfl,
  c.t.d.def_ 8 rfl,
  c.t.d.def_ 9 rfl,
  c.t.d.def_ 10 rfl,
  c.t.d.def_ 11 rfl,
  c.t.d.def_ 12 rfl,
  c.t.d.def_ 13 rfl,
  c.t.d.def_ 14 rfl,
  c.t.d.def_ 15 rfl,
  c.t.d.def_ 16 rfl,
  c.t.d.def_ 17 rfl,
  c.t.d.def_ 18 rfl,
  c.t.d.def_ 19 rfl,
  c.t.d.def_ 20 rfl,
  c.t.d.def_ 21 rfl,
  c.t.d.def_ 22 rfl,
  c.t.d.def_ 23 rfl,
  c.t.d.def_ 24 rfl,
  c.t.d.def_ 25 rfl⟩
local macro_rules | `(tactic| walk_at "na") => `(tactic| first | (with_reducible exact Y.na_Banks_windows) | (with_reducible exact Y.na_Banks_rows) | (with_reducible exact Y.na_Banks_shared) | (with_reducible exact Y.na_Banks_current) | (with_reducible exact Y.na_Banks_barred) | (with_reducible exact Y.na_Banks_depth) | (with_reducible exact Y.na_Banks_spills) | (with_reducible exact Y.na_Banks_fills))
local macro_rules | `(tactic| walk_at "cl") => `(tactic| first | (with_reducible exact Y.cl_Banks))

/-! ### the law's draws: a list [script, place, rest, count] -/
abbrev stO (s : Addr) (i g n : Int) : HO := .lst [.ref s, .int i, .int g, .int n]
def sp_z_pick (K : PySem.W.Frag) : Sp := mk2 fun a b H Q _ => ∃ (p s : Addr) (ns : List Int) (i g n lim : Int), a = .ref p ∧ b = .int lim ∧ H p = some (stO s i g n) ∧ Scr K H s (ns.map V.int) ∧ 0 ≤ i ∧ 0 ≤ g ∧ 0 < lim ∧ lim < 2 ^ 64 ∧
  ∀ (r i' g' n' : Int) H', 0 ≤ r → r < lim → 0 ≤ i' → 0 ≤ g' → H' p = some (stO s i' g' n') → Keep [p] H H' → Q (.int r) H'
theorem ok_z_pick {P : Program} {w : World} {K : PySem.W.Frag} {mg : Str → Option Value} {base : Heap} (Y : Env w K mg)  : CallOk P w K mg base CX0 1 "_law_pick" ["_law_state", "_law_limit"] (sp_z_pick K) := by
  obtain ⟨fd, F⟩ := Y.fd_z_pick
  refine ⟨_, fd, Y.mg_z_pick, F.kp, F.bindsN (fun _ _ _ _ _ _ us hl => match us, hl with | [_, _], _ => rfl), F.ok sc_z_pick mk2_len (fun cdv A outer s H vs Q E hr h => ?_)⟩
  have hu := hu_room hr
  obtain ⟨_, _, rfl, p, sc, ns, i, g, n, lim, rfl, rfl, hp, hs, hi, hg, hl, hl2, k⟩ := h
  have hS : SH [p] H H [(p, .lst [.ref sc, .int i, .int g, .int n])] := SH.start1 hp
  refine ⟨_, PSs.nox (pss_cons (ps_asg (pe_op xAdd (pe_ix xIx (pv 0) pe_int (fun _ _ => rfl)) pe_int) (pg_sub (pv 0) pe_int set_list))
  (pss_cons (ps_if (pt_cmpR op_gt (pe_ix xIx (pv 0) pe_int (fun _ _ => rfl)) pe_int (nomark _)) (pss_cons (ps_set (i := 2) sc_z_pick.nd rfl (Or.inl rfl) (pe_op xMod (pe_callTy x_int rfl Y.z_int (by decide +kernel) (pa_cons (pe_ix xIx (pv 0) pe_int (fun _ _ => rfl)) pa_nil)) (pv 1)))
  (pss_cons (ps_asg (pe_op xDiv (pe_ix xIx (pv 0) pe_int (fun _ _ => rfl)) (pv 1)) (pg_sub (pv 0) pe_int set_list))
  (pss_one (ps_ret (pv 2))))) pss_nil)
  (pss_cons (ps_set (i := 3) sc_z_pick.nd rfl (Or.inl rfl) pe_int)
  (pss_cons (ps_if (pt_cmpR op_lt (pe_ix xIx (pv 0) pe_int (fun _ _ => rfl)) (pe_callB x_len rfl Y.z_len (by decide +kernel) (pa_cons (pe_ix xIx (pv 0) pe_int (fun _ _ => rfl)) pa_nil)) (nomark _)) (pss_one (ps_set (i := 3) sc_z_pick.nd rfl (Or.inl rfl) (pe_ix xIx (pe_ix xIx (pv 0) pe_int (fun _ _ => rfl)) (pe_ix xIx (pv 0) pe_int (fun _ _ => rfl)) (fun _ _ => rfl)))) pss_nil)
  (pss_cons (ps_asg (pe_op xAdd (pe_ix xIx (pv 0) pe_int (fun _ _ => rfl)) pe_int) (pg_sub (pv 0) pe_int set_list))
  (pss_cons (ps_if (pt_cmpR op_ge (pv 3) (pe_op op_pow pe_int pe_int) (nomark _)) (pss_cons (ps_asg (pe_op xDiv (pv 3) (pv 1)) (pg_sub (pv 0) pe_int set_list))
  (pss_one (ps_ret (pe_op xMod (pe_callTy x_int rfl Y.z_int (by decide +kernel) (pa_cons (pv 3) pa_nil)) (pv 1))))) pss_nil)
  (pss_cons (ps_set (i := 4) sc_z_pick.nd rfl (Or.inl rfl) (pe_op xMod (pe_callTy x_int rfl Y.z_int (by decide +kernel) (pa_cons (pe_op xAdd (pe_op xMul (pe_op xMod (pe_callTy x_int rfl Y.z_int (by decide +kernel) (pa_cons (pe_op xAdd (pe_op xAdd (pe_op xMul (pv 3) pe_int) (pe_op xMul (pe_ix xIx (pv 0) pe_int (fun _ _ => rfl)) pe_int)) pe_int) pa_nil)) pe_int) pe_int) (pe_ix xIx (pv 0) pe_int (fun _ _ => rfl))) pa_nil)) pe_int))
  (pss_one (ps_ret (pe_op xMod (pe_callTy x_int rfl Y.z_int (by decide +kernel) (pa_cons (pe_op xDiv (pv 4) pe_int) pa_nil)) (pv 1))))))))))), ?_⟩
  rw [st_z_pick]
  try simp only [cxK, cxK2, cxW, cxW2]
  clear hu hr F
  repeat' walk_at "st"
  all_goals first
    | exact k _ _ _ _ _ (Int.emod_nonneg _ (by omega)) (Int.emod_lt_of_pos _ hl) (by omega) (by omega) (hS.get 0 rfl) hS.kp
    | exact k _ _ _ _ _ (Int.emod_nonneg _ (by omega)) (Int.emod_lt_of_pos _ hl) (by omega) (Int.ediv_nonneg (by omega) (by omega)) (hS.get 0 rfl) hS.kp
theorem c_z_pick {K : PySem.W.Frag} {A : List Addr} {H0 H : Hp} {L : List Cell} {p s : Addr} {ns : List Int} {x g n lim : Int} {Q : VK} {E : XK} {i : Nat} (hS : SH A H0 H L) (e : L[i]? = some (p, stO s x g n)) (sc : Scr K H0 s (ns.map V.int)) (h0 : 0 ≤ x) (h1 : 0 ≤ g) (h2 : 0 < lim) (h3 : lim < 2 ^ 64)
    (k : ∀ (r x' g' n' : Int) H', 0 ≤ r → r < lim → 0 ≤ x' → 0 ≤ g' → SH A H0 H' (L.set i (p, stO s x' g' n')) → Q (.int r) H') : sp_z_pick K ([.ref p, .int lim] ++ []) H Q E :=
  ⟨_, _, rfl, p, s, ns, x, g, n, lim, rfl, rfl, hS.get i e, sc.keep hS.kp, h0, h1, h2, h3, fun r x' g' n' H' a b c d e' f => k r x' g' n' H' a b c d (hS.call1 i e rfl f e')⟩
local macro_rules | `(tactic| walk_at "st") => `(tactic| first
  | ((with_reducible show sp_z_pick _ _ _ _ _); apply c_z_pick hS; (· walk_at "ix"); (· assumption); (· walk_at "ar"); (· walk_at "ar"); (· walk_at "ar"); (· walk_at "ar"); intro r x1 g1 n1 H1 hr0 hr1 hx1 hg1 hS1; clear hS; rename SH _ _ _ _ => hS; simp only [List.set_cons_zero, List.set_cons_succ] at hS))

/-! ### the banks and their model, side by side -/
structure BW where
  sh : List Int
  rows : List (List Int)
  cur : Int
  bar : Int
  dep : Int
  spi : Int
  fil : Int
structure BW.ok (W : BW) : Prop where
  s8 : W.sh.length = 8
  r16 : ∀ r ∈ W.rows, r.length = 16
  c0 : 0 ≤ W.cur
  c1 : W.cur < W.rows.length
  n3 : 3 ≤ W.rows.length
  n33 : W.rows.length ≤ 33
  b1 : -1 ≤ W.bar
structure BA where
  b : Addr
  dx : Addr
  S : Addr
  R : Addr
  rs : List Addr
structure MA where
  m : Addr
  S : Addr
  R : Addr
  rs : List Addr
def rowC (rs : List Addr) (rows : List (List Int)) : List Cell := List.zipWith (fun a r => (a, .lst (r.map V.int))) rs rows
theorem rowC_len {rs : List Addr} {rows : List (List Int)} (h : rs.length = rows.length) : (rowC rs rows).length = rows.length := by
  unfold rowC
  rw [List.length_zipWith, h, Nat.min_self]
theorem rowC_get {rs : List Addr} {rows : List (List Int)} (h : rs.length = rows.length) {k : Nat} (hk : k < rows.length) : (rowC rs rows)[k]? = some (rs.getD k 0, .lst ((rows.getD k []).map V.int)) := by
  unfold rowC
  rw [List.getElem?_zipWith, List.getD_eq_getElem?_getD, List.getD_eq_getElem?_getD, List.getElem?_eq_getElem (by omega), List.getElem?_eq_getElem hk]
  rfl
theorem rowC_set {rs : List Addr} {rows : List (List Int)} (h : rs.length = rows.length) {k : Nat} (hk : k < rows.length) (l : List Int) : (rowC rs rows).set k (rs.getD k 0, .lst (l.map V.int)) = rowC rs (rows.set k l) := by
  apply List.ext_getElem?
  intro j
  rw [List.getElem?_set]
  by_cases q : k = j
  · subst q
    rw [if_pos rfl, if_pos (by rw [rowC_len h]; exact hk), rowC_get (by rw [List.length_set]; exact h) (by rw [List.length_set]; exact hk)]
    rw [List.getD_eq_getElem?_getD (l := rows.set k l), List.getElem?_set_self hk]
    rfl
  · rw [if_neg q]
    unfold rowC
    rw [List.getElem?_zipWith, List.getElem?_zipWith, List.getElem?_set_ne q]
abbrev bCells (K : PySem.W.Frag) (B : BA) (W : BW) : List Cell :=
  (B.b, .ins (He.ga K "Banks") B.dx [("windows", .int (W.rows.length : Nat)), ("_rows", .ref B.R), ("_shared", .ref B.S), ("current", .int W.cur), ("barred", .int W.bar), ("depth", .int W.dep), ("spills", .int W.spi), ("fills", .int W.fil)]) ::
  (B.S, .lst (W.sh.map V.int)) :: (B.R, .lst (B.rs.map V.ref)) :: rowC B.rs W.rows
abbrev mCells (M : MA) (W : BW) : List Cell :=
  (M.m, .lst [.ref M.S, .ref M.R, .int W.cur, .int W.bar, .int W.dep, .int W.spi, .int W.fil]) :: (M.S, .lst (W.sh.map V.int)) :: (M.R, .lst (M.rs.map V.ref)) :: rowC M.rs W.rows
/-- the row below the current one -/
def BW.prv (W : BW) : Nat := if W.cur = 0 then W.rows.length - 1 else W.cur.toNat - 1
/-- where register n stands: 1 for the shared ones, 3 + k for row k -/
def BW.pos (W : BW) (n : Int) : Nat := if n < 8 then 1 else if n < 16 then 3 + W.prv else 3 + W.cur.toNat
def BW.lst (W : BW) (n : Int) : List Int := if n < 8 then W.sh else if n < 16 then W.rows.getD W.prv [] else W.rows.getD W.cur.toNat []
def ixOf (n : Int) : Int := if n < 16 then n else n - 16
def adr (S : Addr) (rs : List Addr) (W : BW) (n : Int) : Addr := if n < 8 then S else if n < 16 then rs.getD W.prv 0 else rs.getD W.cur.toNat 0
def BW.put (W : BW) (n : Int) (l : List Int) : BW := if n < 8 then { W with sh := l } else if n < 16 then { W with rows := W.rows.set W.prv l } else { W with rows := W.rows.set W.cur.toNat l }
def BW.get (W : BW) (n : Int) : Int := (W.lst n).getD (ixOf n).toNat 0
def BW.set (W : BW) (n : Int) (v : Int) : BW := W.put n ((W.lst n).set (ixOf n).toNat v)
section
variable {K : PySem.W.Frag} {B : BA} {M : MA} {W : BW} {n : Int}
theorem BW.prv_lt (ok : W.ok) : W.prv < W.rows.length := by
  have := ok.c0; have := ok.c1; have := ok.n3
  unfold BW.prv
  split <;> omega
theorem cur_lt (ok : W.ok) : W.cur.toNat < W.rows.length := by
  have := ok.c0; have := ok.c1
  omega
theorem lst_len (ok : W.ok) : (ixOf n).toNat < (W.lst n).length ∨ ¬ (0 ≤ n ∧ n < 32) := by
  by_cases h : 0 ≤ n ∧ n < 32
  · left
    have mem : ∀ k, k < W.rows.length → (W.rows.getD k []).length = 16 := fun k hk => by
      rw [List.getD_eq_getElem?_getD, List.getElem?_eq_getElem hk]
      exact ok.r16 _ (List.getElem_mem _)
    have h1 := mem _ (BW.prv_lt ok)
    have h2 := mem _ (cur_lt ok)
    have h3 := ok.s8
    unfold ixOf BW.lst
    split <;> split <;> (try split) <;> omega
  · exact .inr h
theorem b_get (ok : W.ok) (hl : B.rs.length = W.rows.length) (n : Int) : (bCells K B W)[W.pos n]? = some (adr B.S B.rs W n, .lst ((W.lst n).map V.int)) := by
  have h1 := rowC_get hl (BW.prv_lt ok)
  have h2 := rowC_get hl (cur_lt ok)
  unfold BW.pos adr BW.lst
  split
  · rfl
  · split
    · rw [Nat.add_comm]; exact h1
    · rw [Nat.add_comm]; exact h2
theorem m_get (ok : W.ok) (hl : M.rs.length = W.rows.length) (n : Int) : (mCells M W)[W.pos n]? = some (adr M.S M.rs W n, .lst ((W.lst n).map V.int)) := by
  have h1 := rowC_get hl (BW.prv_lt ok)
  have h2 := rowC_get hl (cur_lt ok)
  unfold BW.pos adr BW.lst
  split
  · rfl
  · split
    · rw [Nat.add_comm]; exact h1
    · rw [Nat.add_comm]; exact h2
theorem b_set (ok : W.ok) (hl : B.rs.length = W.rows.length) (n : Int) (l : List Int) : (bCells K B W).set (W.pos n) (adr B.S B.rs W n, .lst (l.map V.int)) = bCells K B (W.put n l) := by
  have h1 := rowC_set hl (BW.prv_lt ok) l
  have h2 := rowC_set hl (cur_lt ok) l
  unfold BW.pos adr BW.put
  split
  · rfl
  · split
    · rw [Nat.add_comm]
      show _ :: _ :: _ :: (rowC B.rs W.rows).set _ _ = _
      rw [h1]
      simp only [bCells, List.length_set]
    · rw [Nat.add_comm]
      show _ :: _ :: _ :: (rowC B.rs W.rows).set _ _ = _
      rw [h2]
      simp only [bCells, List.length_set]
theorem m_set (ok : W.ok) (hl : M.rs.length = W.rows.length) (n : Int) (l : List Int) : (mCells M W).set (W.pos n) (adr M.S M.rs W n, .lst (l.map V.int)) = mCells M (W.put n l) := by
  have h1 := rowC_set hl (BW.prv_lt ok) l
  have h2 := rowC_set hl (cur_lt ok) l
  unfold BW.pos adr BW.put
  split
  · rfl
  · split
    · rw [Nat.add_comm]
      show _ :: _ :: _ :: (rowC M.rs W.rows).set _ _ = _
      rw [h1]
    · rw [Nat.add_comm]
      show _ :: _ :: _ :: (rowC M.rs W.rows).set _ _ = _
      rw [h2]
end
theorem atI_refs {rs : List Addr} {i : Int} (h0 : 0 ≤ i) (h1 : i < (rs.map V.ref).length) : atI (rs.map V.ref) i = some (.ref (rs.getD i.toNat 0)) := by
  rw [List.length_map] at h1
  unfold atI ixN
  rw [if_pos h0, if_pos (by rw [List.length_map]; exact h1)]
  show (rs.map V.ref)[i.toNat]? = _
  rw [List.getElem?_map, List.getD_eq_getElem?_getD, List.getElem?_eq_getElem (by omega)]
  rfl
local macro_rules | `(tactic| walk_at "at") => `(tactic| exact atI_refs (by walk_at "ar") (by walk_at "ar"))
def sp_row_of (K : PySem.W.Frag) : Sp := mk4 fun a b c d H Q _ => ∃ (R S : Addr) (rs : List Addr) (cur n : Int), a = .ref R ∧ b = .ref S ∧ c = .int cur ∧ d = .int n ∧ H R = some (.lst (rs.map V.ref)) ∧ 0 ≤ cur ∧ cur < rs.length ∧
  ∀ p H', Keep [] H H' → H p = none → H' p = some (.tup [.ref (if n < 8 then S else if n < 16 then rs.getD ((cur - 1) % rs.length).toNat 0 else rs.getD cur.toNat 0), .int (ixOf n)]) → Q (.ref p) H'
theorem ok_row_of {P : Program} {w : World} {K : PySem.W.Frag} {mg : Str → Option Value} {base : Heap} (Y : Env w K mg)  : CallOk P w K mg base CX0 1 "row_of" ["rows", "shared", "current", "number"] (sp_row_of K) := by
  obtain ⟨fd, F⟩ := Y.fd_row_of
  refine ⟨_, fd, Y.mg_row_of, F.kp, F.bindsN (fun _ _ _ _ _ _ us hl => match us, hl with | [_, _, _, _], _ => rfl), F.ok sc_row_of mk4_len (fun cdv A outer s H vs Q E hr h => ?_)⟩
  have hu := hu_room hr
  obtain ⟨_, _, _, _, rfl, R, S, rs, cur, n, rfl, rfl, rfl, rfl, hR, h0, h1, k⟩ := h
  have hS : SH [] H H [] := SH.start0
  have hm0 := Int.emod_nonneg (cur - 1) (show ((rs.map V.ref).length : Int) ≠ 0 by rw [List.length_map]; omega)
  have hm1 := Int.emod_lt_of_pos (cur - 1) (show (0 : Int) < ((rs.map V.ref).length : Nat) by rw [List.length_map]; omega)
  refine ⟨_, PSs.nox (pss_cons (ps_if (pt_cmpR op_lt (pv 3) pe_int (nomark _)) (pss_one (ps_ret (pe_tup (pa_cons (pv 1) (pa_cons (pv 3) pa_nil))))) pss_nil)
  (pss_cons (ps_if (pt_cmpR op_lt (pv 3) pe_int (nomark _)) (pss_one (ps_ret (pe_tup (pa_cons (pe_ix xIx (pv 0) (pe_op xMod (pe_op op_sub (pv 2) pe_int) (pe_callB x_len rfl Y.z_len (by decide +kernel) (pa_cons (pv 0) pa_nil))) (fun _ _ => rfl)) (pa_cons (pv 3) pa_nil))))) pss_nil)
  (pss_one (ps_ret (pe_tup (pa_cons (pe_ix xIx (pv 0) (pv 2) (fun _ _ => rfl)) (pa_cons (pe_op op_sub (pv 3) pe_int) pa_nil))))))), ?_⟩
  rw [st_row_of]
  try simp only [cxK, cxK2, cxW, cxW2]
  clear hu hr F
  repeat' walk_at "st"
  · exact k _ _ hS.kp (hS.fr0 0 rfl) ((hS.get 0 rfl).trans (by rw [if_pos (by assumption)]; unfold ixOf; rw [if_pos (by omega)]))
  · exact k _ _ hS.kp (hS.fr0 0 rfl) ((hS.get 0 rfl).trans (by rw [if_neg (by assumption), if_pos (by assumption)]; unfold ixOf; rw [if_pos (by assumption), List.length_map]))
  · exact k _ _ hS.kp (hS.fr0 0 rfl) ((hS.get 0 rfl).trans (by rw [if_neg (by assumption), if_neg (by assumption)]; unfold ixOf; rw [if_neg (by assumption)]))
theorem prv_mod {W : BW} (ok : W.ok) : ((W.cur - 1) % (W.rows.length : Nat)).toNat = W.prv := by
  have h0 := ok.c0; have h1 := ok.c1; have h3 := ok.n3
  unfold BW.prv
  by_cases q : W.cur = 0
  · rw [if_pos q, q]
    have : ((0 : Int) - 1) % (W.rows.length : Nat) = (W.rows.length : Nat) - 1 := by
      rw [Int.emod_eq_add_self_emod, Int.emod_eq_of_lt (by omega) (by omega)]
      omega
    rw [this]
    omega
  · rw [if_neg q, Int.emod_eq_of_lt (by omega) (by omega)]
    omega
theorem c_row_of {K : PySem.W.Frag} {A : List Addr} {H0 H : Hp} {L : List Cell} {R S : Addr} {rs : List Addr} {W : BW} {n : Int} {Q : VK} {E : XK} (hS : SH A H0 H L) (hR : H R = some (.lst (rs.map V.ref))) (ok : W.ok) (hl : rs.length = W.rows.length)
    (k : ∀ p H', SH A H0 H' ((p, .tup [.ref (adr S rs W n), .int (ixOf n)]) :: L) → Keep [] H H' → Q (.ref p) H') : sp_row_of K ([.ref R, .ref S, .int W.cur, .int n] ++ []) H Q E := by
  refine ⟨_, _, _, _, rfl, R, S, rs, W.cur, n, rfl, rfl, rfl, rfl, hR, ok.c0, by rw [hl]; exact ok.c1, fun p H' kp nw e => k p H' (hS.call0n kp nw ?_) kp⟩
  rw [e, hl, prv_mod ok]
  rfl
def sp_Banks_read (K : PySem.W.Frag) : Sp := mk2 fun a b H Q _ => ∃ (B : BA) (W : BW) (n : Int), a = .ref B.b ∧ b = .int n ∧ (∀ c ∈ bCells K B W, H c.1 = some c.2) ∧ W.ok ∧ B.rs.length = W.rows.length ∧ 0 ≤ n ∧ n < 32 ∧ ∀ H', Keep [] H H' → Q (.int (W.get n)) H'
theorem ok_Banks_read {P : Program} {w : World} {K : PySem.W.Frag} {mg : Str → Option Value} {base : Heap} (Y : Env w K mg) (G_row_of : CallOk P w K mg base CX0 1 "row_of" ["rows", "shared", "current", "number"] (sp_row_of K)) : MethOk P w K mg base CX0 2 "Banks" "read" ["self", "number"] (sp_Banks_read K) := by
  obtain ⟨fd, F⟩ := Y.fd_Banks_read
  refine ⟨fd, Y.cl_Banks, Y.me_Banks_read, F.bindsN (fun _ _ _ _ _ _ us hl => match us, hl with | [_, _], _ => rfl), F.ok sc_Banks_read mk2_len (fun cdv A outer s H vs Q E hr h => ?_)⟩
  have hu := hu_room hr
  obtain ⟨_, _, rfl, B, W, n, rfl, rfl, hB, ok, hl, h0, h1, k⟩ := h
  have hS : SH [] H H [] := SH.start0
  have hb := hB _ (.head _)
  have hR := hB _ (.tail _ (.tail _ (.head _)))
  have hg := hB _ (List.mem_of_getElem? (b_get (K := K) ok hl n))
  have hi0 : 0 ≤ ixOf n := by unfold ixOf; split <;> omega
  have hi1 : ixOf n < ((W.lst n).map V.int).length := by
    rcases lst_len (n := n) ok with h | h
    · rw [List.length_map]; omega
    · exact absurd ⟨h0, h1⟩ h
  refine ⟨_, PSs.nox (pss_cons (ps_asg (pe_callG G_row_of hr rfl pass0 (pa_cons (pe_fld (pv 0) rfl) (pa_cons (pe_fld (pv 0) rfl) (pa_cons (pe_fld (pv 0) rfl) (pa_cons (pv 1) pa_nil))))) (pg_tup rfl (pgs_cons (pg_name (i := 2) sc_Banks_read.nd rfl (Or.inl rfl)) (pgs_cons (pg_name (i := 3) sc_Banks_read.nd rfl (Or.inl rfl)) pgs_nil))))
  (pss_one (ps_ret (pe_ix xIx (pv 2) (pv 3) (fun _ _ => rfl))))), ?_⟩
  rw [st_Banks_read]
  try simp only [cxK, cxK2, cxW, cxW2]
  clear hu hr F
  repeat' walk_at "st"
  refine c_row_of hS hR ok hl (fun p H1 hS1 _ => ?_)
  clear hS; rename SH _ _ _ _ => hS
  repeat' walk_at "st"
  exact k _ hS.kp
theorem c_Banks_read {K : PySem.W.Frag} {A : List Addr} {H0 H : Hp} {L : List Cell} {B : BA} {W : BW} {n : Int} {Q : VK} {E : XK} (hS : SH A H0 H L) (hB : ∀ c ∈ bCells K B W, H c.1 = some c.2) (ok : W.ok) (hl : B.rs.length = W.rows.length) (h0 : 0 ≤ n) (h1 : n < 32)
    (k : ∀ H', SH A H0 H' L → Keep [] H H' → Q (.int (W.get n)) H') : sp_Banks_read K (.ref B.b :: ([.int n] ++ [])) H Q E := ⟨_, _, rfl, B, W, n, rfl, rfl, hB, ok, hl, h0, h1, fun H' kp => k H' (hS.call0 kp) kp⟩
def BW.setR (W : BW) (n v : Int) : BW := if 0 < n then W.set n v else W
def sp_Banks_write (K : PySem.W.Frag) : Sp := mk3 fun a b c H Q _ => ∃ (B : BA) (W : BW) (n v : Int), a = .ref B.b ∧ b = .int n ∧ c = .int v ∧ Blk H (bCells K B W) ∧ W.ok ∧ B.rs.length = W.rows.length ∧ 0 ≤ n ∧ n < 32 ∧
  ∀ H', SH ((bCells K B W).map (·.1)) H H' (bCells K B (W.setR n v)) → Q .non H'
theorem ok_Banks_write {P : Program} {w : World} {K : PySem.W.Frag} {mg : Str → Option Value} {base : Heap} (Y : Env w K mg) (G_row_of : CallOk P w K mg base CX0 1 "row_of" ["rows", "shared", "current", "number"] (sp_row_of K)) : MethOk P w K mg base CX0 2 "Banks" "write" ["self", "number", "word"] (sp_Banks_write K) := by
  obtain ⟨fd, F⟩ := Y.fd_Banks_write
  refine ⟨fd, Y.cl_Banks, Y.me_Banks_write, F.bindsN (fun _ _ _ _ _ _ us hl => match us, hl with | [_, _, _], _ => rfl), F.ok sc_Banks_write mk3_len (fun cdv A outer s H vs Q E hr h => ?_)⟩
  have hu := hu_room hr
  obtain ⟨_, _, _, rfl, B, W, n, v, rfl, rfl, rfl, hB, ok, hl, h0, h1, k⟩ := h
  have hS := hB.sh
  have hi0 : 0 ≤ ixOf n := by unfold ixOf; split <;> omega
  have hi1 : ixOf n < ((W.lst n).map V.int).length := by
    rcases lst_len (n := n) ok with h | h
    · rw [List.length_map]; omega
    · exact absurd ⟨h0, h1⟩ h
  refine ⟨_, PSs.nox (pss_one (ps_if (pt_cmpR op_gt (pv 1) pe_int (nomark _)) (pss_cons (ps_asg (pe_callG G_row_of hr rfl pass0 (pa_cons (pe_fld (pv 0) rfl) (pa_cons (pe_fld (pv 0) rfl) (pa_cons (pe_fld (pv 0) rfl) (pa_cons (pv 1) pa_nil))))) (pg_tup rfl (pgs_cons (pg_name (i := 3) sc_Banks_write.nd rfl (Or.inl rfl)) (pgs_cons (pg_name (i := 4) sc_Banks_write.nd rfl (Or.inl rfl)) pgs_nil))))
  (pss_one (ps_asg (pv 2) (pg_sub (pv 3) (pv 4) set_list)))) pss_nil)), ?_⟩
  rw [st_Banks_write]
  try simp only [cxK, cxK2, cxW, cxW2]
  clear hu hr F
  unfold BW.setR at k
  repeat' walk_at "st"
  · refine c_row_of hS (hS.get 2 rfl) ok hl (fun p H1 hS1 _ => ?_)
    clear hS; rename SH _ _ _ _ => hS
    repeat' walk_at "st"
    refine h_setL hS (i := W.pos n + 1) (b_get ok hl n) (ixN_in hi0 hi1) (set_ints _ _ _) (L' := (p, .tup [.ref (adr B.S B.rs W n), .int (ixOf n)]) :: bCells K B (W.set n v)) ?_ (fun H2 hS2 => ?_)
    · show _ :: (bCells K B W).set _ _ = _
      rw [b_set ok hl]
      rfl
    · clear hS; rename SH _ _ _ _ => hS
      repeat' walk_at "st"
      rw [if_pos (by assumption)] at k
      exact k _ hS.drop1
  · rw [if_neg (by assumption)] at k
    exact k _ hS
def sp_Banks_set_bar (K : PySem.W.Frag) : Sp := mk2 fun a b H Q _ => ∃ (B : BA) (W : BW) (n : Int), a = .ref B.b ∧ b = .int n ∧ Blk H (bCells K B W) ∧ ∀ H', SH ((bCells K B W).map (·.1)) H H' (bCells K B { W with bar := n }) → Q .non H'
theorem ok_Banks_set_bar {P : Program} {w : World} {K : PySem.W.Frag} {mg : Str → Option Value} {base : Heap} (Y : Env w K mg)  : MethOk P w K mg base CX0 1 "Banks" "set_bar" ["self", "number"] (sp_Banks_set_bar K) := by
  obtain ⟨fd, F⟩ := Y.fd_Banks_set_bar
  refine ⟨fd, Y.cl_Banks, Y.me_Banks_set_bar, F.bindsN (fun _ _ _ _ _ _ us hl => match us, hl with | [_, _], _ => rfl), F.ok sc_Banks_set_bar mk2_len (fun cdv A outer s H vs Q E hr h => ?_)⟩
  have hu := hu_room hr
  obtain ⟨_, _, rfl, B, W, n, rfl, rfl, hB, k⟩ := h
  have hS := hB.sh
  refine ⟨_, PSs.nox (pss_one (ps_fld (pv 0) (pv 1) rfl)), ?_⟩
  rw [st_Banks_set_bar]
  try simp only [cxK, cxK2, cxW, cxW2]
  clear hu hr F
  repeat' walk_at "st"
  exact k _ hS
def BW.down (W : BW) : BW := { W with cur := (W.cur - 1) % (W.rows.length : Nat), dep := W.dep + 1 }
def BW.up (W : BW) : BW := { W with cur := (W.cur + 1) % (W.rows.length : Nat), dep := W.dep - 1 }
def sp_Banks_move_down (K : PySem.W.Frag) : Sp := mk1 fun a H Q _ => ∃ (B : BA) (W : BW), a = .ref B.b ∧ Blk H (bCells K B W) ∧ 0 < W.rows.length ∧ ∀ H', SH ((bCells K B W).map (·.1)) H H' (bCells K B W.down) → Q .non H'
theorem ok_Banks_move_down {P : Program} {w : World} {K : PySem.W.Frag} {mg : Str → Option Value} {base : Heap} (Y : Env w K mg)  : MethOk P w K mg base CX0 1 "Banks" "_move_down" ["self"] (sp_Banks_move_down K) := by
  obtain ⟨fd, F⟩ := Y.fd_Banks_move_down
  refine ⟨fd, Y.cl_Banks, Y.me_Banks_move_down, F.bindsN (fun _ _ _ _ _ _ us hl => match us, hl with | [_], _ => rfl), F.ok sc_Banks_move_down mk1_len (fun cdv A outer s H vs Q E hr h => ?_)⟩
  have hu := hu_room hr
  obtain ⟨_, rfl, B, W, rfl, hB, h0, k⟩ := h
  have hS := hB.sh
  refine ⟨_, PSs.nox (pss_cons (ps_fld (pv 0) (pe_op xMod (pe_op op_sub (pe_fld (pv 0) rfl) pe_int) (pe_fld (pv 0) rfl)) rfl)
  (pss_one (ps_fld (pv 0) (pe_op xAdd (pe_fld (pv 0) rfl) pe_int) rfl))), ?_⟩
  rw [st_Banks_move_down]
  try simp only [cxK, cxK2, cxW, cxW2]
  clear hu hr F
  repeat' walk_at "st"
  exact k _ hS
def sp_Banks_shift_up (K : PySem.W.Frag) : Sp := mk1 fun a H Q _ => ∃ (B : BA) (W : BW), a = .ref B.b ∧ Blk H (bCells K B W) ∧ 0 < W.rows.length ∧ ∀ H', SH ((bCells K B W).map (·.1)) H H' (bCells K B W.up) → Q .non H'
theorem ok_Banks_shift_up {P : Program} {w : World} {K : PySem.W.Frag} {mg : Str → Option Value} {base : Heap} (Y : Env w K mg)  : MethOk P w K mg base CX0 1 "Banks" "shift_up" ["self"] (sp_Banks_shift_up K) := by
  obtain ⟨fd, F⟩ := Y.fd_Banks_shift_up
  refine ⟨fd, Y.cl_Banks, Y.me_Banks_shift_up, F.bindsN (fun _ _ _ _ _ _ us hl => match us, hl with | [_], _ => rfl), F.ok sc_Banks_shift_up mk1_len (fun cdv A outer s H vs Q E hr h => ?_)⟩
  have hu := hu_room hr
  obtain ⟨_, rfl, B, W, rfl, hB, h0, k⟩ := h
  have hS := hB.sh
  refine ⟨_, PSs.nox (pss_cons (ps_fld (pv 0) (pe_op xMod (pe_op xAdd (pe_fld (pv 0) rfl) pe_int) (pe_fld (pv 0) rfl)) rfl)
  (pss_one (ps_fld (pv 0) (pe_op op_sub (pe_fld (pv 0) rfl) pe_int) rfl))), ?_⟩
  rw [st_Banks_shift_up]
  try simp only [cxK, cxK2, cxW, cxW2]
  clear hu hr F
  repeat' walk_at "st"
  exact k _ hS
def sp_Banks_blocked_down (K : PySem.W.Frag) : Sp := mk1 fun a H Q _ => ∃ (B : BA) (W : BW), a = .ref B.b ∧ (∀ c ∈ bCells K B W, H c.1 = some c.2) ∧ 0 < W.rows.length ∧ Q (.bl (decide ((W.cur - 1) % (W.rows.length : Nat) = W.bar))) H
theorem ok_Banks_blocked_down {P : Program} {w : World} {K : PySem.W.Frag} {mg : Str → Option Value} {base : Heap} (Y : Env w K mg)  : MethOk P w K mg base CX0 1 "Banks" "blocked_down" ["self"] (sp_Banks_blocked_down K) := by
  obtain ⟨fd, F⟩ := Y.fd_Banks_blocked_down
  refine ⟨fd, Y.cl_Banks, Y.me_Banks_blocked_down, F.bindsN (fun _ _ _ _ _ _ us hl => match us, hl with | [_], _ => rfl), F.ok sc_Banks_blocked_down mk1_len (fun cdv A outer s H vs Q E hr h => ?_)⟩
  have hu := hu_room hr
  obtain ⟨_, rfl, B, W, rfl, hB, h0, k⟩ := h
  have hS : SH [] H H [] := SH.start0
  have hb := hB _ (.head _)
  refine ⟨_, PSs.nox (pss_one (ps_ret (pe_cmpR (xEq hu) (pe_op xMod (pe_op op_sub (pe_fld (pv 0) rfl) pe_int) (pe_fld (pv 0) rfl)) (pe_fld (pv 0) rfl) (nomark _)))), ?_⟩
  rw [st_Banks_blocked_down]
  try simp only [cxK, cxK2, cxW, cxW2]
  clear hu hr F
  repeat' walk_at "st"
  exact k
def sp_Banks_blocked_up (K : PySem.W.Frag) : Sp := mk1 fun a H Q _ => ∃ (B : BA) (W : BW), a = .ref B.b ∧ (∀ c ∈ bCells K B W, H c.1 = some c.2) ∧ 0 < W.rows.length ∧ Q (.bl (decide ((W.cur + 1) % (W.rows.length : Nat) = W.bar))) H
theorem ok_Banks_blocked_up {P : Program} {w : World} {K : PySem.W.Frag} {mg : Str → Option Value} {base : Heap} (Y : Env w K mg)  : MethOk P w K mg base CX0 1 "Banks" "blocked_up" ["self"] (sp_Banks_blocked_up K) := by
  obtain ⟨fd, F⟩ := Y.fd_Banks_blocked_up
  refine ⟨fd, Y.cl_Banks, Y.me_Banks_blocked_up, F.bindsN (fun _ _ _ _ _ _ us hl => match us, hl with | [_], _ => rfl), F.ok sc_Banks_blocked_up mk1_len (fun cdv A outer s H vs Q E hr h => ?_)⟩
  have hu := hu_room hr
  obtain ⟨_, rfl, B, W, rfl, hB, h0, k⟩ := h
  have hS : SH [] H H [] := SH.start0
  have hb := hB _ (.head _)
  refine ⟨_, PSs.nox (pss_one (ps_ret (pe_cmpR (xEq hu) (pe_op xMod (pe_op xAdd (pe_fld (pv 0) rfl) pe_int) (pe_fld (pv 0) rfl)) (pe_fld (pv 0) rfl) (nomark _)))), ?_⟩
  rw [st_Banks_blocked_up]
  try simp only [cxK, cxK2, cxW, cxW2]
  clear hu hr F
  repeat' walk_at "st"
  exact k
/-! ### the clearing -/
def clrR (rows : List (List Int)) (S : Nat → Nat → Bool) : List (List Int) := rows.mapIdx fun k r => r.mapIdx fun j x => if S k j = true then 0 else x
theorem clrR_len (rows : List (List Int)) (S : Nat → Nat → Bool) : (clrR rows S).length = rows.length := List.length_mapIdx ..
theorem clrR_get (rows : List (List Int)) (S : Nat → Nat → Bool) (k : Nat) : (clrR rows S).getD k [] = (rows.getD k []).mapIdx fun j x => if S k j = true then 0 else x := by
  unfold clrR
  rw [List.getD_eq_getElem?_getD, List.getD_eq_getElem?_getD, List.getElem?_mapIdx]
  cases rows[k]? with
  | none => rfl
  | some r => rfl
theorem clrR_set (rows : List (List Int)) (S : Nat → Nat → Bool) (k j : Nat) : (clrR rows S).set k (((clrR rows S).getD k []).set j 0) = clrR rows fun a b => S a b || (a == k && b == j) := by
  apply List.ext_getElem?
  intro a
  rw [List.getElem?_set, clrR_get]
  unfold clrR
  rw [List.getElem?_mapIdx, List.getElem?_mapIdx, List.length_mapIdx]
  by_cases q : k = a
  · subst q
    rw [if_pos rfl]
    by_cases h : k < rows.length
    · rw [if_pos h, List.getElem?_eq_getElem h, List.getD_eq_getElem?_getD, List.getElem?_eq_getElem h]
      simp only [Option.map_some, Option.getD_some, Option.some.injEq]
      apply List.ext_getElem?
      intro b
      rw [List.getElem?_set, List.getElem?_mapIdx, List.getElem?_mapIdx, List.length_mapIdx]
      by_cases q : j = b
      · subst q
        rw [if_pos rfl]
        by_cases h2 : j < rows[k].length
        · rw [if_pos h2, List.getElem?_eq_getElem h2]
          simp
        · rw [if_neg h2, List.getElem?_eq_none (by omega)]
          rfl
      · rw [if_neg q]
        cases (rows[k])[b]? with
        | none => rfl
        | some x => simp [Ne.symm q]
    · rw [if_neg h, List.getElem?_eq_none (by omega)]
      rfl
  · rw [if_neg q]
    cases rows[a]? with
    | none => rfl
    | some r => simp [Ne.symm q]
theorem clrR_eq {rows : List (List Int)} {S T : Nat → Nat → Bool} (h16 : ∀ r ∈ rows, r.length = 16) (h : ∀ a b, a < rows.length → b < 16 → S a b = T a b) : clrR rows S = clrR rows T := by
  apply List.ext_getElem?
  intro a
  unfold clrR
  rw [List.getElem?_mapIdx, List.getElem?_mapIdx]
  by_cases q : a < rows.length
  · rw [List.getElem?_eq_getElem q]
    simp only [Option.map_some, Option.some.injEq]
    apply List.ext_getElem?
    intro b
    rw [List.getElem?_mapIdx, List.getElem?_mapIdx]
    have e := h16 _ (List.getElem_mem q)
    by_cases q2 : b < 16
    · rw [h a b q q2]
    · rw [List.getElem?_eq_none (by omega)]
      rfl
  · rw [List.getElem?_eq_none (by omega)]
    rfl
theorem clrR_none {rows : List (List Int)} {S : Nat → Nat → Bool} (h : ∀ a b, S a b = false) : clrR rows S = rows := by
  apply List.ext_getElem?
  intro a
  unfold clrR
  rw [List.getElem?_mapIdx]
  cases rows[a]? with
  | none => rfl
  | some r =>
    simp only [Option.map_some, Option.some.injEq]
    apply List.ext_getElem?
    intro b
    rw [List.getElem?_mapIdx]
    cases r[b]? with
    | none => rfl
    | some x => simp [h]
theorem clrR_16 {rows : List (List Int)} {S : Nat → Nat → Bool} (h16 : ∀ r ∈ rows, r.length = 16) : ∀ r ∈ clrR rows S, r.length = 16 := by
  intro r hr
  unfold clrR at hr
  obtain ⟨k, hk, e⟩ := List.mem_mapIdx.mp hr
  rw [← e, List.length_mapIdx]
  exact h16 _ (List.getElem_mem hk)
theorem atI_refsP {rs : List Addr} {W : BW} (ok : W.ok) (hl : rs.length = W.rows.length) : atI (rs.map V.ref) (W.cur - 1) = some (.ref (rs.getD W.prv 0)) := by
  have h0 := ok.c0; have h1 := ok.c1; have h3 := ok.n3
  have hp := BW.prv_lt ok
  have e : ixN (rs.map V.ref).length (W.cur - 1) = some W.prv := by
    rw [List.length_map, hl]
    unfold ixN BW.prv
    by_cases q : W.cur = 0
    · rw [if_neg (by omega), if_pos (by omega), if_pos q]
      congr 1
      omega
    · rw [if_pos (by omega), if_pos (by omega), if_neg q]
      congr 1
      omega
  unfold atI
  rw [e]
  show (rs.map V.ref)[W.prv]? = _
  rw [List.getElem?_map, List.getD_eq_getElem?_getD, List.getElem?_eq_getElem (by omega)]
  rfl
theorem cur_ne_prv {W : BW} (ok : W.ok) : W.cur.toNat ≠ W.prv := by
  have h0 := ok.c0; have h1 := ok.c1; have h3 := ok.n3
  unfold BW.prv
  split <;> omega
/-- what is clear behind i turns of the program -/
def SP (W : BW) (i : Nat) (a b : Nat) : Bool := (a == W.cur.toNat && decide (b < i)) || (a == W.prv && decide (8 ≤ b ∧ b < 8 + i))
abbrev rCells (R : Addr) (rs : List Addr) (rows : List (List Int)) : List Cell := (R, .lst (rs.map V.ref)) :: rowC rs rows
def sp_clear_new (K : PySem.W.Frag) : Sp := mk2 fun a b H Q _ => ∃ (R : Addr) (rs : List Addr) (W : BW), a = .ref R ∧ b = .int W.cur ∧ Blk H (rCells R rs W.rows) ∧ W.ok ∧ rs.length = W.rows.length ∧
  ∀ H', SH ((rCells R rs W.rows).map (·.1)) H H' (rCells R rs (clrR W.rows (SP W 8))) → Q .non H'
theorem h_clr {A : List Addr} {H0 H : Hp} {R : Addr} {rs : List Addr} {rows : List (List Int)} {S : Nat → Nat → Bool} {k : Nat} {i : Int} {P : Hp → Prop} (hS : SH A H0 H (rCells R rs (clrR rows S))) (hl : rs.length = rows.length) (h16 : ∀ r ∈ rows, r.length = 16) (hk : k < rows.length) (h0 : 0 ≤ i) (h1 : i < 16)
    (h : ∀ H', SH A H0 H' (rCells R rs (clrR rows fun a b => S a b || (a == k && b == i.toNat))) → P H') : rSetL (.ref (rs.getD k 0)) (.int i) (.int 0) H P := by
  have hk2 : k < (clrR rows S).length := by rw [clrR_len]; exact hk
  have hl2 : rs.length = (clrR rows S).length := by rw [clrR_len]; exact hl
  have h16' : ((clrR rows S).getD k []).length = 16 := by
    rw [List.getD_eq_getElem?_getD, List.getElem?_eq_getElem hk2]
    exact clrR_16 h16 _ (List.getElem_mem _)
  refine h_setL hS (i := k + 1) (rowC_get hl2 hk2) (ixN_in h0 (by rw [List.length_map, h16']; exact h1)) (set_ints _ _ _) ?_ h
  show _ :: (rowC rs (clrR rows S)).set k _ = _
  rw [rowC_set hl2 hk2, clrR_set]
theorem ok_clear_new {P : Program} {w : World} {K : PySem.W.Frag} {mg : Str → Option Value} {base : Heap} (Y : Env w K mg)  : CallOk P w K mg base CX0 1 "clear_new" ["rows", "current"] (sp_clear_new K) := by
  obtain ⟨fd, F⟩ := Y.fd_clear_new
  refine ⟨_, fd, Y.mg_clear_new, F.kp, F.bindsN (fun _ _ _ _ _ _ us hl => match us, hl with | [_, _], _ => rfl), F.ok sc_clear_new mk2_len (fun cdv A outer s H vs Q E hr h => ?_)⟩
  have hu := hu_room hr
  obtain ⟨_, _, rfl, R, rs, W, rfl, rfl, hB, ok, hl, k⟩ := h
  have hS := hB.sh
  have hP := atI_refsP ok hl
  have hc0 := ok.c0
  have hc1 := ok.c1
  refine ⟨_, PSs.nox (pss_one (ps_for PassesOwn.never rfl (pi_range1 rfl Y.z_range (pa_cons pe_int pa_nil)) (pg_name (i := 2) sc_clear_new.nd rfl (Or.inl rfl))
  (pss_cons (ps_asg pe_int (pg_sub (pe_ix xIx (pv 0) (pv 1) (fun _ _ => rfl)) (pv 2) set_list))
  (pss_one (ps_asg pe_int (pg_sub (pe_ix xIx (pv 0) (pe_op op_sub (pv 1) pe_int) (fun _ _ => rfl)) (pe_op xAdd (pv 2) pe_int) set_list)))))), ?_⟩
  rw [st_clear_new]
  try simp only [cxK, cxK2, cxW, cxW2]
  clear hu hr F
  repeat' walk_at "st"
  refine u_forR1 (fun i σ H' => ∃ v, σ = [some (.ref R), some (.int W.cur), v] ∧ SH ((rCells R rs W.rows).map (·.1)) H H' (rCells R rs (clrR W.rows (SP W i)))) (by decide) (by decide) ⟨_, rfl, ?_⟩ ?_ ?_
  · have e : clrR W.rows (SP W 0) = W.rows := clrR_none fun a b => by unfold SP; simp
    rw [e]; exact hS
  · rintro i σ H2 hi ⟨v, rfl, hS⟩
    repeat' walk_at "st"
    refine h_clr hS hl ok.r16 (cur_lt ok) (by omega) (by omega) fun H3 hS3 => ?_
    clear hS; rename SH _ _ _ _ => hS
    repeat' walk_at "st"
    refine s_ixL (SqL.of (hS.get 0 rfl)) hP ?_
    repeat' walk_at "st"
    refine h_clr hS hl ok.r16 (BW.prv_lt ok) (by omega) (by omega) fun H4 hS4 => ⟨_, rfl, ?_⟩
    have e : ∀ a b, (SP W i a b || a == W.cur.toNat && b == (i : Int).toNat || a == W.prv && b == ((i : Int) + 8).toNat) = SP W (i + 1) a b := fun a b => by
      rw [Bool.eq_iff_iff]
      unfold SP
      simp only [Bool.or_eq_true, Bool.and_eq_true, beq_iff_eq, decide_eq_true_eq]
      omega
    rw [clrR_eq ok.r16 (fun a b _ _ => e a b)] at hS4
    exact hS4
  · rintro σ H2 ⟨v, rfl, hS⟩
    repeat' walk_at "st"
    exact k _ hS
theorem SH.callE {A : List Addr} {H0 H H' : Hp} {B B2 : List Cell} (S : SH A H0 H B) (C : SH (B.map (·.1)) H H' B2) : SH A H0 H' B2 := by
  have := SH.call (F := []) (by rw [List.append_nil]; exact S) C
  rwa [List.append_nil] at this
theorem down_ok {W : BW} (ok : W.ok) : W.down.ok := by
  have h3 := ok.n3
  have e0 := Int.emod_nonneg (W.cur - 1) (show ((W.rows.length : Nat) : Int) ≠ 0 by omega)
  have e1 := Int.emod_lt_of_pos (W.cur - 1) (show (0 : Int) < (W.rows.length : Nat) by omega)
  exact ⟨ok.s8, ok.r16, e0, e1, ok.n3, ok.n33, ok.b1⟩
theorem up_ok {W : BW} (ok : W.ok) : W.up.ok := by
  have h3 := ok.n3
  have e0 := Int.emod_nonneg (W.cur + 1) (show ((W.rows.length : Nat) : Int) ≠ 0 by omega)
  have e1 := Int.emod_lt_of_pos (W.cur + 1) (show (0 : Int) < (W.rows.length : Nat) by omega)
  exact ⟨ok.s8, ok.r16, e0, e1, ok.n3, ok.n33, ok.b1⟩
def BW.clr (W : BW) : BW := { W with rows := clrR W.rows (SP W 8) }
theorem clr_ok {W : BW} (ok : W.ok) : W.clr.ok := ⟨ok.s8, clrR_16 ok.r16, ok.c0, by show W.cur < ((clrR W.rows _).length : Nat); rw [clrR_len]; exact ok.c1, by show 3 ≤ (clrR W.rows _).length; rw [clrR_len]; exact ok.n3, by show (clrR W.rows _).length ≤ 33; rw [clrR_len]; exact ok.n33, ok.b1⟩
def BW.downC (W : BW) : BW := if W.bar = -1 then W.down else W.down.clr
def sp_Banks_shift_down (K : PySem.W.Frag) : Sp := mk1 fun a H Q _ => ∃ (B : BA) (W : BW), a = .ref B.b ∧ Blk H (bCells K B W) ∧ W.ok ∧ B.rs.length = W.rows.length ∧ ∀ H', SH ((bCells K B W).map (·.1)) H H' (bCells K B W.downC) → Q .non H'
theorem ok_Banks_shift_down {P : Program} {w : World} {K : PySem.W.Frag} {mg : Str → Option Value} {base : Heap} (Y : Env w K mg) (G_Banks_move_down : MethOk P w K mg base CX0 1 "Banks" "_move_down" ["self"] (sp_Banks_move_down K)) (G_clear_new : CallOk P w K mg base CX0 1 "clear_new" ["rows", "current"] (sp_clear_new K)) : MethOk P w K mg base CX0 2 "Banks" "shift_down" ["self"] (sp_Banks_shift_down K) := by
  obtain ⟨fd, F⟩ := Y.fd_Banks_shift_down
  refine ⟨fd, Y.cl_Banks, Y.me_Banks_shift_down, F.bindsN (fun _ _ _ _ _ _ us hl => match us, hl with | [_], _ => rfl), F.ok sc_Banks_shift_down mk1_len (fun cdv A outer s H vs Q E hr h => ?_)⟩
  have hu := hu_room hr
  obtain ⟨_, rfl, B, W, rfl, hB, ok, hl, k⟩ := h
  have hS := hB.sh
  have h3 := ok.n3
  refine ⟨_, PSs.nox (pss_cons (ps_expr (pe_methG0 (pv 0) G_Banks_move_down hr pass0))
  (pss_one (ps_if (pt_cmpR (xNe hu) (pe_fld (pv 0) rfl) (pe_ci rfl Y.c_NO_BAR) (nomark _)) (pss_one (ps_expr (pe_callG G_clear_new hr rfl pass0 (pa_cons (pe_fld (pv 0) rfl) (pa_cons (pe_fld (pv 0) rfl) pa_nil))))) pss_nil))), ?_⟩
  rw [st_Banks_shift_down]
  try simp only [cxK, cxK2, cxW, cxW2]
  clear hu hr F
  unfold BW.downC at k
  repeat' walk_at "st"
  refine ⟨_, rfl, B, W, rfl, hS.blk, by omega, fun H1 C => ?_⟩
  have hS := SH.callE hS C
  repeat' walk_at "st"
  · rw [if_pos (show W.bar = -1 from hc)] at k
    exact k _ hS
  · have hS : SH ((bCells K B W).map (·.1)) H H1 ([(B.b, .ins (He.ga K "Banks") B.dx [("windows", .int (W.down.rows.length : Nat)), ("_rows", .ref B.R), ("_shared", .ref B.S), ("current", .int W.down.cur), ("barred", .int W.down.bar), ("depth", .int W.down.dep), ("spills", .int W.down.spi), ("fills", .int W.down.fil)]), (B.S, .lst (W.down.sh.map V.int))] ++ rCells B.R B.rs W.down.rows) := hS
    refine ⟨_, _, rfl, B.R, B.rs, W.down, rfl, rfl, SH.blkR _ _ hS, down_ok ok, hl, fun H2 C => ?_⟩
    have hS := hS.callR C
    repeat' walk_at "st"
    rw [if_neg (show ¬ W.bar = -1 from hc)] at k
    refine k _ ?_
    have e : bCells K B W.down.clr = [(B.b, .ins (He.ga K "Banks") B.dx [("windows", .int (W.down.rows.length : Nat)), ("_rows", .ref B.R), ("_shared", .ref B.S), ("current", .int W.down.cur), ("barred", .int W.down.bar), ("depth", .int W.down.dep), ("spills", .int W.down.spi), ("fills", .int W.down.fil)]), (B.S, .lst (W.down.sh.map V.int))] ++ rCells B.R B.rs (clrR W.down.rows (SP W.down 8)) := by
      show _ :: _ = _ :: _
      simp only [BW.clr, clrR_len]
      rfl
    rw [e]
    exact hS
theorem set_len (W : BW) (n v : Int) : (W.setR n v).rows.length = W.rows.length := by
  unfold BW.setR
  split
  · unfold BW.set BW.put
    split
    · rfl
    · split
      · exact List.length_set ..
      · exact List.length_set ..
  · rfl
def BW.spiP (X : BW) : BW := ⟨X.sh, X.rows, X.cur, X.bar, X.dep, X.spi + 1, X.fil⟩
def BW.filP (X : BW) : BW := ⟨X.sh, X.rows, X.cur, X.bar, X.dep, X.spi, X.fil + 1⟩
def sp_Banks_trap_down (K : PySem.W.Frag) : Sp := mk2 fun a b H Q _ => ∃ (B : BA) (W : BW) (v : Int), a = .ref B.b ∧ b = .int v ∧ Blk H (bCells K B W) ∧ W.ok ∧ B.rs.length = W.rows.length ∧ ∀ H', SH ((bCells K B W).map (·.1)) H H' (bCells K B (W.down.setR 17 v).spiP) → Q .non H'
theorem ok_Banks_trap_down {P : Program} {w : World} {K : PySem.W.Frag} {mg : Str → Option Value} {base : Heap} (Y : Env w K mg) (G_Banks_move_down : MethOk P w K mg base CX0 1 "Banks" "_move_down" ["self"] (sp_Banks_move_down K)) (G_Banks_write : MethOk P w K mg base CX0 2 "Banks" "write" ["self", "number", "word"] (sp_Banks_write K)) : MethOk P w K mg base CX0 3 "Banks" "trap_down" ["self", "address"] (sp_Banks_trap_down K) := by
  obtain ⟨fd, F⟩ := Y.fd_Banks_trap_down
  refine ⟨fd, Y.cl_Banks, Y.me_Banks_trap_down, F.bindsN (fun _ _ _ _ _ _ us hl => match us, hl with | [_, _], _ => rfl), F.ok sc_Banks_trap_down mk2_len (fun cdv A outer s H vs Q E hr h => ?_)⟩
  have hu := hu_room hr
  obtain ⟨_, _, rfl, B, W, v, rfl, rfl, hB, ok, hl, k⟩ := h
  have hS := hB.sh
  have h3 := ok.n3
  refine ⟨_, PSs.nox (pss_cons (ps_expr (pe_methG0 (pv 0) G_Banks_move_down (hr.mono (by decide)) pass0))
  (pss_cons (ps_expr (pe_methG (pv 0) G_Banks_write hr pass0 (pa_cons (pe_ci rfl Y.c_TRAP_ADDRESS) (pa_cons (pv 1) pa_nil))))
  (pss_one (ps_fld (pv 0) (pe_op xAdd (pe_fld (pv 0) rfl) pe_int) rfl)))), ?_⟩
  rw [st_Banks_trap_down]
  try simp only [cxK, cxK2, cxW, cxW2]
  clear hu hr F
  repeat' walk_at "st"
  refine ⟨_, rfl, B, W, rfl, hS.blk, by omega, fun H1 C => ?_⟩
  have hS := SH.callE hS C
  repeat' walk_at "st"
  refine ⟨_, _, _, rfl, B, W.down, 17, v, rfl, rfl, rfl, hS.blk, down_ok ok, hl, by omega, by omega, fun H2 C2 => ?_⟩
  have hS := SH.callE hS C2
  repeat' walk_at "st"
  exact k _ hS
def sp_Banks_trap_up (K : PySem.W.Frag) : Sp := mk2 fun a b H Q _ => ∃ (B : BA) (W : BW) (v : Int), a = .ref B.b ∧ b = .int v ∧ Blk H (bCells K B W) ∧ W.ok ∧ B.rs.length = W.rows.length ∧ ∀ H', SH ((bCells K B W).map (·.1)) H H' (bCells K B (W.down.setR 17 v).filP) → Q .non H'
theorem ok_Banks_trap_up {P : Program} {w : World} {K : PySem.W.Frag} {mg : Str → Option Value} {base : Heap} (Y : Env w K mg) (G_Banks_move_down : MethOk P w K mg base CX0 1 "Banks" "_move_down" ["self"] (sp_Banks_move_down K)) (G_Banks_write : MethOk P w K mg base CX0 2 "Banks" "write" ["self", "number", "word"] (sp_Banks_write K)) : MethOk P w K mg base CX0 3 "Banks" "trap_up" ["self", "address"] (sp_Banks_trap_up K) := by
  obtain ⟨fd, F⟩ := Y.fd_Banks_trap_up
  refine ⟨fd, Y.cl_Banks, Y.me_Banks_trap_up, F.bindsN (fun _ _ _ _ _ _ us hl => match us, hl with | [_, _], _ => rfl), F.ok sc_Banks_trap_up mk2_len (fun cdv A outer s H vs Q E hr h => ?_)⟩
  have hu := hu_room hr
  obtain ⟨_, _, rfl, B, W, v, rfl, rfl, hB, ok, hl, k⟩ := h
  have hS := hB.sh
  have h3 := ok.n3
  refine ⟨_, PSs.nox (pss_cons (ps_expr (pe_methG0 (pv 0) G_Banks_move_down (hr.mono (by decide)) pass0))
  (pss_cons (ps_expr (pe_methG (pv 0) G_Banks_write hr pass0 (pa_cons (pe_ci rfl Y.c_TRAP_ADDRESS) (pa_cons (pv 1) pa_nil))))
  (pss_one (ps_fld (pv 0) (pe_op xAdd (pe_fld (pv 0) rfl) pe_int) rfl)))), ?_⟩
  rw [st_Banks_trap_up]
  try simp only [cxK, cxK2, cxW, cxW2]
  clear hu hr F
  repeat' walk_at "st"
  refine ⟨_, rfl, B, W, rfl, hS.blk, by omega, fun H1 C => ?_⟩
  have hS := SH.callE hS C
  repeat' walk_at "st"
  refine ⟨_, _, _, rfl, B, W.down, 17, v, rfl, rfl, rfl, hS.blk, down_ok ok, hl, by omega, by omega, fun H2 C2 => ?_⟩
  have hS := SH.callE hS C2
  repeat' walk_at "st"
  exact k _ hS
def sp_Banks_leave_trap (K : PySem.W.Frag) : Sp := mk1 fun a H Q _ => ∃ (B : BA) (W : BW), a = .ref B.b ∧ Blk H (bCells K B W) ∧ W.ok ∧ B.rs.length = W.rows.length ∧ ∀ H', SH ((bCells K B W).map (·.1)) H H' (bCells K B W.up) → Q (.int (W.get 17)) H'
theorem ok_Banks_leave_trap {P : Program} {w : World} {K : PySem.W.Frag} {mg : Str → Option Value} {base : Heap} (Y : Env w K mg) (G_Banks_read : MethOk P w K mg base CX0 2 "Banks" "read" ["self", "number"] (sp_Banks_read K)) (G_Banks_shift_up : MethOk P w K mg base CX0 1 "Banks" "shift_up" ["self"] (sp_Banks_shift_up K)) : MethOk P w K mg base CX0 3 "Banks" "leave_trap" ["self"] (sp_Banks_leave_trap K) := by
  obtain ⟨fd, F⟩ := Y.fd_Banks_leave_trap
  refine ⟨fd, Y.cl_Banks, Y.me_Banks_leave_trap, F.bindsN (fun _ _ _ _ _ _ us hl => match us, hl with | [_], _ => rfl), F.ok sc_Banks_leave_trap mk1_len (fun cdv A outer s H vs Q E hr h => ?_)⟩
  have hu := hu_room hr
  obtain ⟨_, rfl, B, W, rfl, hB, ok, hl, k⟩ := h
  have hS := hB.sh
  have h3 := ok.n3
  refine ⟨_, PSs.nox (pss_cons (ps_set (i := 1) sc_Banks_leave_trap.nd rfl (Or.inl rfl) (pe_methG (pv 0) G_Banks_read hr pass0 (pa_cons (pe_ci rfl Y.c_TRAP_ADDRESS) pa_nil)))
  (pss_cons (ps_expr (pe_methG0 (pv 0) G_Banks_shift_up (hr.mono (by decide)) pass0))
  (pss_one (ps_ret (pv 1))))), ?_⟩
  rw [st_Banks_leave_trap]
  try simp only [cxK, cxK2, cxW, cxW2]
  clear hu hr F
  repeat' walk_at "st"
  refine c_Banks_read hS hS.hs ok hl (by omega) (by omega) (fun H1 hS1 _ => ?_)
  clear hS; rename SH _ _ _ _ => hS
  repeat' walk_at "st"
  refine ⟨_, rfl, B, W, rfl, hS.blk, by omega, fun H2 C => ?_⟩
  have hS := SH.callE hS C
  repeat' walk_at "st"
  exact k _ hS
theorem rowC_snoc {rs : List Addr} {rows : List (List Int)} {p : Addr} {r : List Int} (h : rs.length = rows.length) : rowC (rs ++ [p]) (rows ++ [r]) = rowC rs rows ++ [(p, .lst (r.map V.int))] := by
  unfold rowC
  rw [List.zipWith_append h]
  rfl
theorem row_snoc {A : List Addr} {H0 H : Hp} {D p : Addr} {t : Cell} {rs : List Addr} {rows : List (List Int)} {r : List Int} {F : List Cell} (hS : SH A H0 H ((p, .lst (r.map V.int)) :: t :: (D, .lst (rs.map V.ref ++ [V.ref p])) :: (rowC rs rows ++ F))) (h : rs.length = rows.length) :
    SH A H0 H ((D, .lst ((rs ++ [p]).map V.ref)) :: (rowC (rs ++ [p]) (rows ++ [r]) ++ F)) := by
  rw [rowC_snoc h, List.map_append]
  refine (hS.sub (L' := (p, .lst (r.map V.int)) :: (D, .lst (rs.map V.ref ++ [V.ref p])) :: (rowC rs rows ++ F)) (List.Sublist.cons_cons _ (List.sublist_cons_self _ _))).perm ?_
  refine (List.Perm.swap _ _ _).trans (List.Perm.cons _ ?_)
  rw [List.append_assoc]
  exact (List.perm_middle (l₁ := rowC rs rows)).symm
def W0 (n : Nat) : BW := ⟨List.replicate 8 0, List.replicate n (List.replicate 16 0), 0, 1, 0, 0, 0⟩
def sp_Banks_init__ (K : PySem.W.Frag) : Sp := mk2 fun a b H Q _ => ∃ (o dx : Addr) (n : Nat), a = .ref o ∧ b = .int (n : Nat) ∧ n ≤ 33 ∧ H o = some (.ins (He.ga K "Banks") dx []) ∧
  ∀ S R rs H', rs.length = n → SH [o] H H' (bCells K ⟨o, dx, S, R, rs⟩ (W0 n)) → Q .non H'
theorem ok_Banks_init__ {P : Program} {w : World} {K : PySem.W.Frag} {mg : Str → Option Value} {base : Heap} (Y : Env w K mg)  : MakeOk P w K mg base CX0 1 "Banks" ["self", "windows"] (sp_Banks_init__ K) := by
  obtain ⟨fd, F⟩ := Y.fd_Banks_init__
  refine ⟨fd, Y.mg_Banks, Y.mk_Banks, F.bindsN (fun _ _ _ _ _ _ us hl => match us, hl with | [_, _], _ => rfl), F.ok sc_Banks_init__ mk2_len (fun cdv A outer s H vs Q E hr h => ?_)⟩
  have hu := hu_room hr
  obtain ⟨_, _, rfl, o, dx, n, rfl, rfl, hn, ho, k⟩ := h
  have hS : SH [o] H H [(o, .ins (He.ga K "Banks") dx [])] := SH.start1 ho
  refine ⟨_, PSs.nox (pss_cons (ps_fld (pv 0) (pv 1) rfl)
  (pss_cons (ps_fld (pv 0) (pe_lc (own := [("_", 2)]) (g := gName 2) rfl sc_Banks_init__.nd (pi_range1 rfl Y.z_range (pa_cons (pv 1) pa_nil)) (blkOk_by (N := N_Banks_init__) (sc := defScope s_Banks_init__) (by decide +kernel)) (fun _ _ _ _ _ => pg_name (i := 2) sc_Banks_init__.nd rfl (Or.inl rfl)) (fun _ _ _ _ _ => pts_nil) (fun _ _ _ _ _ => (pe_op (OpR.k (K := K) (r := rMulX) xMul rfl) (pe_lst (pa_cons pe_int pa_nil)) pe_int))) rfl)
  (pss_cons (ps_fld (pv 0) (pe_op xMul (pe_lst (pa_cons pe_int pa_nil)) pe_int) rfl)
  (pss_cons (ps_fld (pv 0) pe_int rfl)
  (pss_cons (ps_fld (pv 0) pe_int rfl)
  (pss_cons (ps_fld (pv 0) pe_int rfl)
  (pss_cons (ps_fld (pv 0) pe_int rfl)
  (pss_one (ps_fld (pv 0) pe_int rfl))))))))), ?_⟩
  rw [st_Banks_init__]
  try simp only [cxK, cxK2, cxW, cxW2]
  clear hu hr F
  repeat' walk_at "st"
  refine u_lcR1 hS (i := 2) (j := ((n : Nat) : Int)) (fun D k H' => ∃ rs, rs.length = k ∧ SH [o] H H' ((D, .lst (rs.map V.ref)) :: (rowC rs (List.replicate k (List.replicate 16 0)) ++ ([(o, HO.ins (He.ga K "Banks") dx [("windows", V.int (n : Nat))])] : List Cell)))) (by omega) (by omega) (fun D H1 hS => ⟨[], rfl, hS⟩) ?_ ?_
  · rintro D i H1 hi ⟨rs, hr, hS⟩
    repeat' walk_at "st"
    exact ⟨rs ++ [p], by rw [List.length_append, hr]; rfl, by rw [List.replicate_succ']; exact row_snoc hS (by rw [hr, List.length_replicate])⟩
  · rintro D H1 ⟨rs, hr, hS⟩
    have hr : rs.length = n := by rw [hr]; omega
    have hn2 : (Int.toNat (n : Nat)) = n := by omega
    rw [hn2] at hS
    have hS := hS.perm (L' := (o, .ins (He.ga K "Banks") dx [("windows", .int (n : Nat))]) :: (D, .lst (rs.map V.ref)) :: rowC rs (List.replicate n (List.replicate 16 0))) (by
      refine ((List.perm_middle (l₁ := (D, HO.lst (rs.map V.ref)) :: rowC rs _)).trans ?_)
      rw [List.append_nil])
    repeat' walk_at "st"
    have hS := (hS.sub (List.Sublist.cons_cons _ (List.sublist_cons_self _ _))).perm (List.Perm.swap _ _ _)
    have hS : SH [o] H H1 (bCells K ⟨o, dx, p, D, rs⟩ (W0 n)) := by
      simp only [bCells, W0, List.length_replicate, List.map_replicate]
      exact hS
    exact k _ _ _ _ hr hS

/-! ### the law's model -/
def sp_z_is_integer (K : PySem.W.Frag) : Sp := mk1 fun a H Q _ => ∃ n : Int, a = .int n ∧ Q (.bl true) H
theorem ok_z_is_integer {P : Program} {w : World} {K : PySem.W.Frag} {mg : Str → Option Value} {base : Heap} (Y : Env w K mg)  : CallOk P w K mg base CX0 1 "_law_is_integer" ["_law_actual"] (sp_z_is_integer K) := by
  obtain ⟨fd, F⟩ := Y.fd_z_is_integer
  refine ⟨_, fd, Y.mg_z_is_integer, F.kp, F.bindsN (fun _ _ _ _ _ _ us hl => match us, hl with | [_], _ => rfl), F.ok sc_z_is_integer mk1_len (fun cdv A outer s H vs Q E hr h => ?_)⟩
  have hu := hu_room hr
  obtain ⟨_, rfl, n, rfl, k⟩ := h
  have hS : SH [] H H [] := SH.start0
  refine ⟨_, PSs.nox (pss_one (ps_ret (pe_and (pe_callB x_isinstance rfl Y.z_isinstance (by decide +kernel) (pa_cons (pv 0) (pa_cons (pe_bltn rfl Y.z_int (by decide +kernel) (show RelV (.ty "int") (.type "int") from rfl)) pa_nil))) (pe_one (pe_not (pe_callB x_isinstance rfl Y.z_isinstance (by decide +kernel) (pa_cons (pv 0) (pa_cons (pe_bltn rfl Y.z_bool (by decide +kernel) (show RelV (.ty "bool") (.type "bool") from rfl)) pa_nil)))))))), ?_⟩
  rw [st_z_is_integer]
  try simp only [cxK, cxK2, cxW, cxW2]
  clear hu hr F
  repeat' walk_at "st"
  exact k
theorem c_z_is_integer {K : PySem.W.Frag} {H : Hp} {n : Int} {Q : VK} {E : XK} (k : Q (.bl true) H) : sp_z_is_integer K ([.int n] ++ []) H Q E := ⟨_, rfl, n, rfl, k⟩
local macro_rules | `(tactic| walk_at "st") => `(tactic| first | (with_reducible refine c_z_is_integer ?_))
def sp_z_word (K : PySem.W.Frag) : Sp := mk1 fun a H Q _ => ∃ (p s : Addr) (ns : List Int) (i g n : Int), a = .ref p ∧ H p = some (stO s i g n) ∧ Scr K H s (ns.map V.int) ∧ 0 ≤ i ∧ 0 ≤ g ∧
  ∀ (r i' g' n' : Int) H', 0 ≤ i' → 0 ≤ g' → H' p = some (stO s i' g' n') → Keep [p] H H' → Q (.int r) H'
theorem ok_z_word {P : Program} {w : World} {K : PySem.W.Frag} {mg : Str → Option Value} {base : Heap} (Y : Env w K mg) (G_z_pick : CallOk P w K mg base CX0 1 "_law_pick" ["_law_state", "_law_limit"] (sp_z_pick K)) : CallOk P w K mg base CX0 2 "_law_word" ["_law_state"] (sp_z_word K) := by
  obtain ⟨fd, F⟩ := Y.fd_z_word
  refine ⟨_, fd, Y.mg_z_word, F.kp, F.bindsN (fun _ _ _ _ _ _ us hl => match us, hl with | [_], _ => rfl), F.ok sc_z_word mk1_len (fun cdv A outer s H vs Q E hr h => ?_)⟩
  have hu := hu_room hr
  obtain ⟨_, rfl, p, sc, ns, i, g, n, rfl, hp, hs, hi, hg, k⟩ := h
  have hS : SH [p] H H [(p, stO sc i g n)] := SH.start1 hp
  refine ⟨_, PSs.nox (pss_cons (ps_set (i := 1) sc_z_word.nd rfl (Or.inl rfl) (pe_callG G_z_pick hr rfl pass0 (pa_cons (pv 0) (pa_cons pe_int pa_nil))))
  (pss_cons (ps_if (pt_cmpR (xEq hu) (pv 1) pe_int (nomark _)) (pss_one (ps_ret (pe_ix xIx (pe_lst (pa_cons pe_int (pa_cons (pe_un un_neg pe_int) (pa_cons pe_int (pa_cons (pe_un un_neg pe_int) pa_nil))))) (pe_callG G_z_pick hr rfl pass0 (pa_cons (pv 0) (pa_cons pe_int pa_nil))) (fun _ _ => rfl)))) pss_nil)
  (pss_cons (ps_if (pt_cmpR (xEq hu) (pv 1) pe_int (nomark _)) (pss_one (ps_ret (pe_op op_sub (pe_callG G_z_pick hr rfl pass0 (pa_cons (pv 0) (pa_cons pe_int pa_nil))) pe_int))) pss_nil)
  (pss_cons (ps_if (pt_cmpR (xEq hu) (pv 1) pe_int (nomark _)) (pss_one (ps_ret (pe_op op_sub (pe_callG G_z_pick hr rfl pass0 (pa_cons (pv 0) (pa_cons pe_int pa_nil))) pe_int))) pss_nil)
  (pss_one (ps_ret (pe_op op_sub (pe_callG G_z_pick hr rfl pass0 (pa_cons (pv 0) (pa_cons pe_int pa_nil))) pe_int))))))), ?_⟩
  rw [st_z_word]
  try simp only [cxK, cxK2, cxW, cxW2]
  clear hu hr F
  repeat' walk_at "st"
  all_goals first
    | exact k _ _ _ _ _ (by assumption) (by assumption) (hS.get 0 rfl) hS.kp
    | exact k _ _ _ _ _ (by assumption) (by assumption) (hS.get 1 rfl) hS.kp
theorem c_z_word {K : PySem.W.Frag} {A : List Addr} {H0 H : Hp} {L : List Cell} {p s : Addr} {ns : List Int} {x g n : Int} {Q : VK} {E : XK} {i : Nat} (hS : SH A H0 H L) (e : L[i]? = some (p, stO s x g n)) (sc : Scr K H0 s (ns.map V.int)) (h0 : 0 ≤ x) (h1 : 0 ≤ g)
    (k : ∀ (r x' g' n' : Int) H', 0 ≤ x' → 0 ≤ g' → SH A H0 H' (L.set i (p, stO s x' g' n')) → Q (.int r) H') : sp_z_word K ([.ref p] ++ []) H Q E :=
  ⟨_, rfl, p, s, ns, x, g, n, rfl, hS.get i e, sc.keep hS.kp, h0, h1, fun r x' g' n' H' c d e' f => k r x' g' n' H' c d (hS.call1 i e rfl f e')⟩
local macro_rules | `(tactic| walk_at "st") => `(tactic| first
  | ((with_reducible show sp_z_word _ _ _ _ _); apply c_z_word hS; (· walk_at "ix"); (· assumption); (· walk_at "ar"); (· walk_at "ar"); intro wv x1 g1 n1 H1 hx1 hg1 hS1; clear hS; rename SH _ _ _ _ => hS; simp only [List.set_cons_zero, List.set_cons_succ] at hS))
local macro_rules | `(tactic| walk_at "at") => `(tactic| exact atI_refsP (by assumption) (by assumption))
def sp_z_find (K : PySem.W.Frag) : Sp := mk2 fun a b H Q _ => ∃ (M : MA) (W : BW) (n : Int), a = .ref M.m ∧ b = .int n ∧ (∀ c ∈ mCells M W, H c.1 = some c.2) ∧ W.ok ∧ M.rs.length = W.rows.length ∧
  ∀ p H', Keep [] H H' → H p = none → H' p = some (.lst [.ref (adr M.S M.rs W n), .int (ixOf n)]) → Q (.ref p) H'
theorem ok_z_find {P : Program} {w : World} {K : PySem.W.Frag} {mg : Str → Option Value} {base : Heap} (Y : Env w K mg)  : CallOk P w K mg base CX0 1 "_law_find" ["_law_model", "_law_number"] (sp_z_find K) := by
  obtain ⟨fd, F⟩ := Y.fd_z_find
  refine ⟨_, fd, Y.mg_z_find, F.kp, F.bindsN (fun _ _ _ _ _ _ us hl => match us, hl with | [_, _], _ => rfl), F.ok sc_z_find mk2_len (fun cdv A outer s H vs Q E hr h => ?_)⟩
  have hu := hu_room hr
  obtain ⟨_, _, rfl, M, W, n, rfl, rfl, hM, ok, hl, k⟩ := h
  have hS : SH [] H H [] := SH.start0
  have hm := hM _ (.head _)
  have hR := hM _ (.tail _ (.tail _ (.head _)))
  have hc0 := ok.c0
  have hc1 := ok.c1
  refine ⟨_, PSs.nox (pss_cons (ps_set (i := 2) sc_z_find.nd rfl (Or.inl rfl) (pe_ix xIx (pv 0) pe_int (fun _ _ => rfl)))
  (pss_cons (ps_if (pt_cmpR op_lt (pv 1) pe_int (nomark _)) (pss_one (ps_ret (pe_lst (pa_cons (pe_ix xIx (pv 0) pe_int (fun _ _ => rfl)) (pa_cons (pv 1) pa_nil))))) pss_nil)
  (pss_cons (ps_if (pt_cmpR op_lt (pv 1) pe_int (nomark _)) (pss_one (ps_ret (pe_lst (pa_cons (pe_ix xIx (pv 2) (pe_op op_sub (pe_ix xIx (pv 0) pe_int (fun _ _ => rfl)) pe_int) (fun _ _ => rfl)) (pa_cons (pv 1) pa_nil))))) pss_nil)
  (pss_one (ps_ret (pe_lst (pa_cons (pe_ix xIx (pv 2) (pe_ix xIx (pv 0) pe_int (fun _ _ => rfl)) (fun _ _ => rfl)) (pa_cons (pe_op op_sub (pv 1) pe_int) pa_nil)))))))), ?_⟩
  rw [st_z_find]
  try simp only [cxK, cxK2, cxW, cxW2]
  clear hu hr F
  repeat' walk_at "st"
  · exact k _ _ hS.kp (hS.fr0 0 rfl) ((hS.get 0 rfl).trans (by unfold adr ixOf; rw [if_pos (by assumption), if_pos (by omega)]))
  · exact k _ _ hS.kp (hS.fr0 0 rfl) ((hS.get 0 rfl).trans (by unfold adr ixOf; rw [if_neg (by assumption), if_pos (by assumption), if_pos (by assumption)]))
  · exact k _ _ hS.kp (hS.fr0 0 rfl) ((hS.get 0 rfl).trans (by unfold adr ixOf; rw [if_neg (by assumption), if_neg (by assumption), if_neg (by assumption)]))
theorem c_z_find {K : PySem.W.Frag} {A : List Addr} {H0 H : Hp} {L : List Cell} {M : MA} {W : BW} {n : Int} {Q : VK} {E : XK} (hS : SH A H0 H L) (hM : ∀ c ∈ mCells M W, H c.1 = some c.2) (ok : W.ok) (hl : M.rs.length = W.rows.length)
    (k : ∀ p H', SH A H0 H' ((p, .lst [.ref (adr M.S M.rs W n), .int (ixOf n)]) :: L) → Keep [] H H' → Q (.ref p) H') : sp_z_find K ([.ref M.m, .int n] ++ []) H Q E :=
  ⟨_, _, rfl, M, W, n, rfl, rfl, hM, ok, hl, fun p H' kp nw e => k p H' (hS.call0n kp nw e) kp⟩
theorem ix_bnd {W : BW} {n : Int} (ok : W.ok) (h0 : 0 ≤ n) (h1 : n < 32) : 0 ≤ ixOf n ∧ ixOf n < ((W.lst n).map V.int).length := by
  refine ⟨by unfold ixOf; split <;> omega, ?_⟩
  have h2 : 0 ≤ ixOf n := by unfold ixOf; split <;> omega
  rcases lst_len (n := n) ok with h | h
  · rw [List.length_map]; omega
  · exact absurd ⟨h0, h1⟩ h
def sp_z_get (K : PySem.W.Frag) : Sp := mk2 fun a b H Q _ => ∃ (M : MA) (W : BW) (n : Int), a = .ref M.m ∧ b = .int n ∧ (∀ c ∈ mCells M W, H c.1 = some c.2) ∧ W.ok ∧ M.rs.length = W.rows.length ∧ 0 ≤ n ∧ n < 32 ∧ ∀ H', Keep [] H H' → Q (.int (W.get n)) H'
theorem ok_z_get {P : Program} {w : World} {K : PySem.W.Frag} {mg : Str → Option Value} {base : Heap} (Y : Env w K mg) (G_z_find : CallOk P w K mg base CX0 1 "_law_find" ["_law_model", "_law_number"] (sp_z_find K)) : CallOk P w K mg base CX0 2 "_law_get" ["_law_model", "_law_number"] (sp_z_get K) := by
  obtain ⟨fd, F⟩ := Y.fd_z_get
  refine ⟨_, fd, Y.mg_z_get, F.kp, F.bindsN (fun _ _ _ _ _ _ us hl => match us, hl with | [_, _], _ => rfl), F.ok sc_z_get mk2_len (fun cdv A outer s H vs Q E hr h => ?_)⟩
  have hu := hu_room hr
  obtain ⟨_, _, rfl, M, W, n, rfl, rfl, hM, ok, hl, h0, h1, k⟩ := h
  have hS : SH [] H H [] := SH.start0
  have hg := hM _ (List.mem_of_getElem? (m_get ok hl n))
  obtain ⟨hi0, hi1⟩ := ix_bnd ok h0 h1
  refine ⟨_, PSs.nox (pss_cons (ps_set (i := 2) sc_z_get.nd rfl (Or.inl rfl) (pe_callG G_z_find hr rfl pass0 (pa_cons (pv 0) (pa_cons (pv 1) pa_nil))))
  (pss_one (ps_ret (pe_ix xIx (pe_ix xIx (pv 2) pe_int (fun _ _ => rfl)) (pe_ix xIx (pv 2) pe_int (fun _ _ => rfl)) (fun _ _ => rfl))))), ?_⟩
  rw [st_z_get]
  try simp only [cxK, cxK2, cxW, cxW2]
  clear hu hr F
  repeat' walk_at "st"
  refine c_z_find hS hM ok hl (fun p H1 hS1 _ => ?_)
  clear hS; rename SH _ _ _ _ => hS
  repeat' walk_at "st"
  exact k _ hS.kp
theorem c_z_get {K : PySem.W.Frag} {A : List Addr} {H0 H : Hp} {L : List Cell} {M : MA} {W : BW} {n : Int} {Q : VK} {E : XK} (hS : SH A H0 H L) (hM : ∀ c ∈ mCells M W, H c.1 = some c.2) (ok : W.ok) (hl : M.rs.length = W.rows.length) (h0 : 0 ≤ n) (h1 : n < 32)
    (k : ∀ H', SH A H0 H' L → Keep [] H H' → Q (.int (W.get n)) H') : sp_z_get K ([.ref M.m, .int n] ++ []) H Q E := ⟨_, _, rfl, M, W, n, rfl, rfl, hM, ok, hl, h0, h1, fun H' kp => k H' (hS.call0 kp) kp⟩
def sp_z_set (K : PySem.W.Frag) : Sp := mk3 fun a b c H Q _ => ∃ (M : MA) (W : BW) (n v : Int), a = .ref M.m ∧ b = .int n ∧ c = .int v ∧ Blk H (mCells M W) ∧ W.ok ∧ M.rs.length = W.rows.length ∧ 0 ≤ n ∧ n < 32 ∧
  ∀ H', SH ((mCells M W).map (·.1)) H H' (mCells M (W.setR n v)) → Q .non H'
theorem ok_z_set {P : Program} {w : World} {K : PySem.W.Frag} {mg : Str → Option Value} {base : Heap} (Y : Env w K mg) (G_z_find : CallOk P w K mg base CX0 1 "_law_find" ["_law_model", "_law_number"] (sp_z_find K)) : CallOk P w K mg base CX0 2 "_law_set" ["_law_model", "_law_number", "_law_word_here"] (sp_z_set K) := by
  obtain ⟨fd, F⟩ := Y.fd_z_set
  refine ⟨_, fd, Y.mg_z_set, F.kp, F.bindsN (fun _ _ _ _ _ _ us hl => match us, hl with | [_, _, _], _ => rfl), F.ok sc_z_set mk3_len (fun cdv A outer s H vs Q E hr h => ?_)⟩
  have hu := hu_room hr
  obtain ⟨_, _, _, rfl, M, W, n, v, rfl, rfl, rfl, hB, ok, hl, h0, h1, k⟩ := h
  have hS := hB.sh
  obtain ⟨hi0, hi1⟩ := ix_bnd ok h0 h1
  refine ⟨_, PSs.nox (pss_cons (ps_set (i := 3) sc_z_set.nd rfl (Or.inl rfl) (pe_callG G_z_find hr rfl pass0 (pa_cons (pv 0) (pa_cons (pv 1) pa_nil))))
  (pss_cons (ps_set (i := 4) sc_z_set.nd rfl (Or.inl rfl) (pe_ix xIx (pv 3) pe_int (fun _ _ => rfl)))
  (pss_one (ps_if (pt_cmpR op_gt (pv 1) pe_int (nomark _)) (pss_one (ps_asg (pv 2) (pg_sub (pv 4) (pe_ix xIx (pv 3) pe_int (fun _ _ => rfl)) set_list))) pss_nil)))), ?_⟩
  rw [st_z_set]
  try simp only [cxK, cxK2, cxW, cxW2]
  clear hu hr F
  unfold BW.setR at k
  repeat' walk_at "st"
  refine c_z_find hS hS.hs ok hl (fun p H1 hS1 _ => ?_)
  clear hS; rename SH _ _ _ _ => hS
  repeat' walk_at "st"
  · refine h_setL hS (i := W.pos n + 1) (m_get ok hl n) (ixN_in hi0 hi1) (set_ints _ _ _) (L' := (p, .lst [.ref (adr M.S M.rs W n), .int (ixOf n)]) :: mCells M (W.set n v)) ?_ (fun H2 hS2 => ?_)
    · show _ :: (mCells M W).set _ _ = _
      rw [m_set ok hl]
      rfl
    · clear hS; rename SH _ _ _ _ => hS
      repeat' walk_at "st"
      rw [if_pos (by assumption)] at k
      exact k _ hS.drop1
  · rw [if_neg (by assumption)] at k
    exact k _ hS.drop1
theorem SH.callMd {A : List Addr} {H0 H H' : Hp} {c : Cell} {X Y X' : List Cell} (hS : SH A H0 H (c :: (X ++ Y))) (C : SH (X.map (·.1)) H H' X') : SH A H0 H' (c :: (X' ++ Y)) := SH.callM (F := [c]) (G := Y) hS C
theorem SH.callBk {A : List Addr} {H0 H H' : Hp} {c : Cell} {X Y Y' : List Cell} (hS : SH A H0 H (c :: (X ++ Y))) (C : SH (Y.map (·.1)) H H' Y') : SH A H0 H' (c :: (X ++ Y')) := SH.callR (F := c :: X) hS C
theorem c_z_set {K : PySem.W.Frag} {A : List Addr} {H0 H : Hp} {c : Cell} {Y : List Cell} {M : MA} {W : BW} {n v : Int} {Q : VK} {E : XK} (hS : SH A H0 H (c :: (mCells M W ++ Y))) (ok : W.ok) (hl : M.rs.length = W.rows.length) (h0 : 0 ≤ n) (h1 : n < 32)
    (k : ∀ H', SH A H0 H' (c :: (mCells M (W.setR n v) ++ Y)) → Q .non H') : sp_z_set K ([.ref M.m, .int n, .int v] ++ []) H Q E :=
  ⟨_, _, _, rfl, M, W, n, v, rfl, rfl, rfl, SH.blkM [c] _ Y hS, ok, hl, h0, h1, fun H' C => k H' (SH.callMd hS C)⟩
def BW.mv (W : BW) (d : Int) : BW := { W with cur := (W.cur + (W.rows.length : Nat) + d) % (W.rows.length : Nat), dep := W.dep - d }
theorem mv_down (W : BW) : W.mv (-1) = W.down := by
  unfold BW.mv BW.down
  congr 1
  rw [show W.cur + (W.rows.length : Nat) + -1 = W.cur - 1 + (W.rows.length : Nat) by omega, Int.add_emod_right]
theorem mv_up (W : BW) : W.mv 1 = W.up := by
  unfold BW.mv BW.up
  congr 1
  rw [show W.cur + (W.rows.length : Nat) + 1 = W.cur + 1 + (W.rows.length : Nat) by omega, Int.add_emod_right]
def sp_z_move (K : PySem.W.Frag) : Sp := mk2 fun a b H Q _ => ∃ (M : MA) (W : BW) (d : Int), a = .ref M.m ∧ b = .int d ∧ Blk H (mCells M W) ∧ M.rs.length = W.rows.length ∧ 0 < W.rows.length ∧ ∀ H', SH ((mCells M W).map (·.1)) H H' (mCells M (W.mv d)) → Q .non H'
theorem ok_z_move {P : Program} {w : World} {K : PySem.W.Frag} {mg : Str → Option Value} {base : Heap} (Y : Env w K mg)  : CallOk P w K mg base CX0 1 "_law_move" ["_law_model", "_law_by"] (sp_z_move K) := by
  obtain ⟨fd, F⟩ := Y.fd_z_move
  refine ⟨_, fd, Y.mg_z_move, F.kp, F.bindsN (fun _ _ _ _ _ _ us hl => match us, hl with | [_, _], _ => rfl), F.ok sc_z_move mk2_len (fun cdv A outer s H vs Q E hr h => ?_)⟩
  have hu := hu_room hr
  obtain ⟨_, _, rfl, M, W, d, rfl, rfl, hB, hl, h0, k⟩ := h
  have hS := hB.sh
  have hl2 : (M.rs.map V.ref).length = W.rows.length := by rw [List.length_map]; exact hl
  have hl3 : 0 < (M.rs.map V.ref).length := by omega
  refine ⟨_, PSs.nox (pss_cons (ps_set (i := 2) sc_z_move.nd rfl (Or.inl rfl) (pe_callB x_len rfl Y.z_len (by decide +kernel) (pa_cons (pe_ix xIx (pv 0) pe_int (fun _ _ => rfl)) pa_nil)))
  (pss_cons (ps_asg (pe_op xMod (pe_callTy x_int rfl Y.z_int (by decide +kernel) (pa_cons (pe_op xAdd (pe_op xAdd (pe_ix xIx (pv 0) pe_int (fun _ _ => rfl)) (pv 2)) (pv 1)) pa_nil)) (pv 2)) (pg_sub (pv 0) pe_int set_list))
  (pss_one (ps_asg (pe_op op_sub (pe_ix xIx (pv 0) pe_int (fun _ _ => rfl)) (pv 1)) (pg_sub (pv 0) pe_int set_list))))), ?_⟩
  rw [st_z_move]
  try simp only [cxK, cxK2, cxW, cxW2]
  clear hu hr F
  repeat' walk_at "st"
  refine k _ ?_
  rw [hl2] at hS
  exact hS
theorem c_z_down {K : PySem.W.Frag} {A : List Addr} {H0 H : Hp} {c : Cell} {Y : List Cell} {M : MA} {W : BW} {Q : VK} {E : XK} (hS : SH A H0 H (c :: (mCells M W ++ Y))) (ok : W.ok) (hl : M.rs.length = W.rows.length)
    (k : ∀ H', SH A H0 H' (c :: (mCells M W.down ++ Y)) → Q .non H') : sp_z_move K ([.ref M.m, .int (-1)] ++ []) H Q E :=
  ⟨_, _, rfl, M, W, _, rfl, rfl, SH.blkM [c] _ Y hS, hl, by have := ok.n3; omega, fun H' C => k H' (SH.callMd hS (mv_down W ▸ C))⟩
theorem c_z_up {K : PySem.W.Frag} {A : List Addr} {H0 H : Hp} {c : Cell} {Y : List Cell} {M : MA} {W : BW} {Q : VK} {E : XK} (hS : SH A H0 H (c :: (mCells M W ++ Y))) (ok : W.ok) (hl : M.rs.length = W.rows.length)
    (k : ∀ H', SH A H0 H' (c :: (mCells M W.up ++ Y)) → Q .non H') : sp_z_move K ([.ref M.m, .int 1] ++ []) H Q E :=
  ⟨_, _, rfl, M, W, _, rfl, rfl, SH.blkM [c] _ Y hS, hl, by have := ok.n3; omega, fun H' C => k H' (SH.callMd hS (mv_up W ▸ C))⟩
/-! ### what both tell -/
def sp_z_counts (K : PySem.W.Frag) : Sp := mk2 fun a b H Q _ => ∃ (B : BA) (M : MA) (W : BW), a = .ref B.b ∧ b = .ref M.m ∧ (∀ c ∈ bCells K B W, H c.1 = some c.2) ∧ (∀ c ∈ mCells M W, H c.1 = some c.2) ∧ W.ok ∧ M.rs.length = W.rows.length ∧ ∀ H', Keep [] H H' → Q (.bl true) H'
theorem c_blk_down {K : PySem.W.Frag} {H0 H : Hp} {L : List Cell} {B : BA} {W : BW} {Q : VK} {E : XK} (hS : SH [] H0 H L) (hB : ∀ c ∈ bCells K B W, H0 c.1 = some c.2) (ok : W.ok) {b : Bool} (e : decide ((W.cur - 1) % (W.rows.length : Nat) = W.bar) = b) (k : Q (.bl b) H) : sp_Banks_blocked_down K (.ref B.b :: ([] ++ [])) H Q E :=
  ⟨_, rfl, B, W, rfl, fun c hc => hS.ro (hB c hc), by have := ok.n3; omega, by rw [e]; exact k⟩
theorem c_blk_up {K : PySem.W.Frag} {H0 H : Hp} {L : List Cell} {B : BA} {W : BW} {Q : VK} {E : XK} (hS : SH [] H0 H L) (hB : ∀ c ∈ bCells K B W, H0 c.1 = some c.2) (ok : W.ok) {b : Bool} (e : decide ((W.cur + 1) % (W.rows.length : Nat) = W.bar) = b) (k : Q (.bl b) H) : sp_Banks_blocked_up K (.ref B.b :: ([] ++ [])) H Q E :=
  ⟨_, rfl, B, W, rfl, fun c hc => hS.ro (hB c hc), by have := ok.n3; omega, by rw [e]; exact k⟩
section
 local macro_rules | `(tactic| walk_at "st") => `(tactic| first | (with_reducible refine c_blk_down hS hB ok hb1 ?_) | (with_reducible refine c_blk_up hS hB ok hb2 ?_))
theorem ok_z_counts {P : Program} {w : World} {K : PySem.W.Frag} {mg : Str → Option Value} {base : Heap} (Y : Env w K mg) (G_Banks_blocked_down : MethOk P w K mg base CX0 1 "Banks" "blocked_down" ["self"] (sp_Banks_blocked_down K)) (G_Banks_blocked_up : MethOk P w K mg base CX0 1 "Banks" "blocked_up" ["self"] (sp_Banks_blocked_up K)) (G_z_is_integer : CallOk P w K mg base CX0 1 "_law_is_integer" ["_law_actual"] (sp_z_is_integer K)) : CallOk P w K mg base CX0 2 "_law_counts" ["_law_banks", "_law_model"] (sp_z_counts K) := by
  obtain ⟨fd, F⟩ := Y.fd_z_counts
  refine ⟨_, fd, Y.mg_z_counts, F.kp, F.bindsN (fun _ _ _ _ _ _ us hl => match us, hl with | [_, _], _ => rfl), F.ok sc_z_counts mk2_len (fun cdv A outer s H vs Q E hr h => ?_)⟩
  have hu := hu_room hr
  obtain ⟨_, _, rfl, B, M, W, rfl, rfl, hB, hM, ok, hl, k⟩ := h
  have hS : SH [] H H [] := SH.start0
  have hb := hB _ (.head _)
  have hm := hM _ (.head _)
  have hR := hM _ (.tail _ (.tail _ (.head _)))
  have hl2 : (M.rs.map V.ref).length = W.rows.length := by rw [List.length_map]; exact hl
  have h3 := ok.n3
  have hl3 : 0 < (M.rs.map V.ref).length := by omega
  have e1 : W.cur + (W.rows.length : Nat) - 1 = W.cur - 1 + (W.rows.length : Nat) := by omega
  obtain ⟨b1, hb1⟩ : ∃ b, decide ((W.cur - 1) % (W.rows.length : Nat) = W.bar) = b := ⟨_, rfl⟩
  obtain ⟨b2, hb2⟩ : ∃ b, decide ((W.cur + 1) % (W.rows.length : Nat) = W.bar) = b := ⟨_, rfl⟩
  refine ⟨_, PSs.nox (pss_cons (ps_set (i := 2) sc_z_counts.nd rfl (Or.inl rfl) (pe_callB x_len rfl Y.z_len (by decide +kernel) (pa_cons (pe_ix xIx (pv 1) pe_int (fun _ _ => rfl)) pa_nil)))
  (pss_cons (ps_set (i := 3) sc_z_counts.nd rfl (Or.inl rfl) (pe_lst (pa_cons (pe_fld (pv 0) rfl) (pa_cons (pe_fld (pv 0) rfl) (pa_cons (pe_fld (pv 0) rfl) (pa_cons (pe_fld (pv 0) rfl) (pa_cons (pe_fld (pv 0) rfl) pa_nil)))))))
  (pss_cons (ps_for PassesOwn.never rfl (pi_list (pv 3)) (pg_name (i := 4) sc_z_counts.nd rfl (Or.inl rfl))
  (pss_one (ps_if (pt_not (pt_val (pe_callG G_z_is_integer hr rfl pass0 (pa_cons (pv 4) pa_nil)))) (pss_one (ps_ret pe_bl)) pss_nil)))
  (pss_cons (ps_set (i := 5) sc_z_counts.nd rfl (Or.inl rfl) (pe_cmpR (xEq hu) (pe_op xMod (pe_callTy x_int rfl Y.z_int (by decide +kernel) (pa_cons (pe_op op_sub (pe_op xAdd (pe_ix xIx (pv 1) pe_int (fun _ _ => rfl)) (pv 2)) pe_int) pa_nil)) (pv 2)) (pe_ix xIx (pv 1) pe_int (fun _ _ => rfl)) (nomark _)))
  (pss_cons (ps_set (i := 6) sc_z_counts.nd rfl (Or.inl rfl) (pe_cmpR (xEq hu) (pe_op xMod (pe_callTy x_int rfl Y.z_int (by decide +kernel) (pa_cons (pe_op xAdd (pe_ix xIx (pv 1) pe_int (fun _ _ => rfl)) pe_int) pa_nil)) (pv 2)) (pe_ix xIx (pv 1) pe_int (fun _ _ => rfl)) (nomark _)))
  (pss_cons (ps_for PassesOwn.never rfl (pi_list (pe_lst (pa_cons (pe_methG0 (pv 0) G_Banks_blocked_down hr pass0) (pa_cons (pe_methG0 (pv 0) G_Banks_blocked_up hr pass0) pa_nil)))) (pg_name (i := 7) sc_z_counts.nd rfl (Or.inl rfl))
  (pss_one (ps_if (pt_not (pt_val (pe_callB x_isinstance rfl Y.z_isinstance (by decide +kernel) (pa_cons (pv 7) (pa_cons (pe_bltn rfl Y.z_bool (by decide +kernel) (show RelV (.ty "bool") (.type "bool") from rfl)) pa_nil))))) (pss_one (ps_ret pe_bl)) pss_nil)))
  (pss_cons (ps_if (PW.pt (pw_or (pt_cmpR (xNe hu) (pe_methG0 (pv 0) G_Banks_blocked_down hr pass0) (pv 5) (nomark _)) (pw_or1 (pt_cmpR (xNe hu) (pe_methG0 (pv 0) G_Banks_blocked_up hr pass0) (pv 6) (nomark _))))) (pss_one (ps_ret pe_bl)) pss_nil)
  (pss_one (ps_ret (pe_cmpR (xEq hu) (pv 3) (pe_slice xSl (pv 1) (po_some pe_int) po_none) (nomark _))))))))))), ?_⟩
  rw [st_z_counts]
  try simp only [cxK, cxK2, cxW, cxW2]
  clear hu hr F
  repeat' walk_at "st"
  obtain ⟨p0, rfl⟩ : ∃ x, x = p := ⟨p, rfl⟩
  refine u_forL (xs := ([W.cur, W.bar, W.dep, W.spi, W.fil] : List Int).map V.int) (fun _ σ H' => ∃ v, σ = [some (.ref B.b), some (.ref M.m), some (.int ((M.rs.map V.ref).length : Nat)), some (.ref p0), v, none, none, none] ∧ SH [] H H' [(p0, .lst (([W.cur, W.bar, W.dep, W.spi, W.fil] : List Int).map V.int))]) (SqL.of (hS.get 0 rfl)) ⟨_, rfl, hS⟩ ?_ ?_ ?_
  · rintro i σ H' _ ⟨v, rfl, hS⟩
    exact SqL.of (hS.get 0 rfl)
  · rintro i y σ H' hy ⟨v, rfl, hS⟩
    rw [List.getElem?_map] at hy
    obtain ⟨n, _, rfl⟩ := Option.map_eq_some_iff.mp hy
    repeat' walk_at "st"
    exact ⟨_, rfl, hS⟩
  · rintro σ H' ⟨v, rfl, hS⟩
    repeat' walk_at "st"
    have f1 : decide ((W.cur + ((M.rs.map V.ref).length : Nat) - 1) % ((M.rs.map V.ref).length : Nat) = W.bar) = decide ((W.cur - 1) % (W.rows.length : Nat) = W.bar) := by
      rw [hl2, e1, Int.add_emod_right]
    have f2 : decide ((W.cur + 1) % ((M.rs.map V.ref).length : Nat) = W.bar) = decide ((W.cur + 1) % (W.rows.length : Nat) = W.bar) := by rw [hl2]
    rw [f1, f2, hb1, hb2]
    refine u_forL (xs := [.bl b1, .bl b2]) (fun _ σ H' => ∃ v8, σ = [some (.ref B.b), some (.ref M.m), some (.int ((M.rs.map V.ref).length : Nat)), some (.ref p0), v, some (.bl b1), some (.bl b2), v8] ∧ SH [] H H' [(p, .lst [.bl b1, .bl b2]), (p0, .lst (([W.cur, W.bar, W.dep, W.spi, W.fil] : List Int).map V.int))]) (SqL.of (hS.get 0 rfl)) ⟨_, rfl, hS⟩ ?_ ?_ ?_
    · rintro i σ H' _ ⟨v8, rfl, hS⟩
      exact SqL.of (hS.get 0 rfl)
    · rintro i y σ H' hy ⟨v8, rfl, hS⟩
      have hi : i < 2 := (List.getElem?_eq_some_iff.mp hy).1
      obtain rfl | rfl : i = 0 ∨ i = 1 := by omega
      all_goals
        cases hy
        repeat' walk_at "st"
        exact ⟨_, rfl, hS⟩
    · rintro σ H' ⟨v8, rfl, hS⟩
      repeat' walk_at "st"
      all_goals try exact absurd rfl (by assumption)
      have e : PyData.eqv (.list (([W.cur, W.bar, W.dep, W.spi, W.fil] : List Int).map PyData.int)) (.list (([W.cur, W.bar, W.dep, W.spi, W.fil] : List Int).map PyData.int)) = true := by rw [PyData.eqv, eqv_ints]; exact decide_eq_true rfl
      exact (congrArg (fun b => Q (V.bl b) H1) e).mpr (k _ hS.kp)
end
theorem c_z_counts {K : PySem.W.Frag} {A : List Addr} {H0 H : Hp} {L : List Cell} {B : BA} {M : MA} {W : BW} {Q : VK} {E : XK} (hS : SH A H0 H L) (hB : ∀ c ∈ bCells K B W, H c.1 = some c.2) (hM : ∀ c ∈ mCells M W, H c.1 = some c.2) (ok : W.ok) (hl : M.rs.length = W.rows.length)
    (k : ∀ H', SH A H0 H' L → Q (.bl true) H') : sp_z_counts K ([.ref B.b, .ref M.m] ++ []) H Q E := ⟨_, _, rfl, B, M, W, rfl, rfl, hB, hM, ok, hl, fun H' kp => k H' (hS.call0 kp)⟩
def sp_z_reads (K : PySem.W.Frag) : Sp := mk2 fun a b H Q _ => ∃ (B : BA) (M : MA) (W : BW), a = .ref B.b ∧ b = .ref M.m ∧ (∀ c ∈ bCells K B W, H c.1 = some c.2) ∧ (∀ c ∈ mCells M W, H c.1 = some c.2) ∧ W.ok ∧ B.rs.length = W.rows.length ∧ M.rs.length = W.rows.length ∧ ∀ H', Keep [] H H' → Q (.bl true) H'
theorem ok_z_reads {P : Program} {w : World} {K : PySem.W.Frag} {mg : Str → Option Value} {base : Heap} (Y : Env w K mg) (G_Banks_read : MethOk P w K mg base CX0 2 "Banks" "read" ["self", "number"] (sp_Banks_read K)) (G_z_counts : CallOk P w K mg base CX0 2 "_law_counts" ["_law_banks", "_law_model"] (sp_z_counts K)) (G_z_get : CallOk P w K mg base CX0 2 "_law_get" ["_law_model", "_law_number"] (sp_z_get K)) (G_z_is_integer : CallOk P w K mg base CX0 1 "_law_is_integer" ["_law_actual"] (sp_z_is_integer K)) : CallOk P w K mg base CX0 3 "_law_reads" ["_law_banks", "_law_model"] (sp_z_reads K) := by
  obtain ⟨fd, F⟩ := Y.fd_z_reads
  refine ⟨_, fd, Y.mg_z_reads, F.kp, F.bindsN (fun _ _ _ _ _ _ us hl => match us, hl with | [_, _], _ => rfl), F.ok sc_z_reads mk2_len (fun cdv A outer s H vs Q E hr h => ?_)⟩
  have hu := hu_room hr
  obtain ⟨_, _, rfl, B, M, W, rfl, rfl, hB, hM, ok, hlB, hl, k⟩ := h
  have hS : SH [] H H [] := SH.start0
  have hb := hB _ (.head _)
  refine ⟨_, PSs.nox (pss_cons (ps_for PassesOwn.never rfl (pi_range1 rfl Y.z_range (pa_cons pe_int pa_nil)) (pg_name (i := 2) sc_z_reads.nd rfl (Or.inl rfl))
  (pss_cons (ps_set (i := 3) sc_z_reads.nd rfl (Or.inl rfl) (pe_methG (pv 0) G_Banks_read hr pass0 (pa_cons (pv 2) pa_nil)))
  (pss_one (ps_if (PW.pt (pw_or (pt_not (pt_val (pe_callG G_z_is_integer (hr.mono (by decide)) rfl pass0 (pa_cons (pv 3) pa_nil)))) (pw_or1 (pt_cmpR (xNe hu) (pv 3) (pe_callG G_z_get hr rfl pass0 (pa_cons (pv 1) (pa_cons (pv 2) pa_nil))) (nomark _))))) (pss_one (ps_ret pe_bl)) pss_nil))))
  (pss_one (ps_ret (pe_callG G_z_counts hr rfl pass0 (pa_cons (pv 0) (pa_cons (pv 1) pa_nil)))))), ?_⟩
  rw [st_z_reads]
  try simp only [cxK, cxK2, cxW, cxW2]
  clear hu hr F
  repeat' walk_at "st"
  refine u_forR1 (fun i σ H' => ∃ v1 v2, σ = [some (.ref B.b), some (.ref M.m), v1, v2] ∧ SH [] H H' []) (by decide) (by decide) ⟨_, _, rfl, hS⟩ ?_ ?_
  · rintro i σ H' hi ⟨v1, v2, rfl, hS⟩
    repeat' walk_at "st"
    refine c_Banks_read hS (fun c hc => hS.ro (hB c hc)) ok hlB (by omega) (by omega) (fun H1 hS _ => ?_)
    repeat' walk_at "st"
    refine c_z_get hS (fun c hc => hS.ro (hM c hc)) ok hl (by omega) (by omega) (fun H1 hS _ => ?_)
    repeat' walk_at "st"
    exact ⟨_, _, rfl, hS⟩
  · rintro σ H' ⟨v1, v2, rfl, hS⟩
    repeat' walk_at "st"
    refine c_z_counts hS (fun c hc => hS.ro (hB c hc)) (fun c hc => hS.ro (hM c hc)) ok hl (fun H1 hS => ?_)
    exact k _ hS.kp
theorem c_z_reads {K : PySem.W.Frag} {A : List Addr} {H0 H : Hp} {L : List Cell} {B : BA} {M : MA} {W : BW} {Q : VK} {E : XK} (hS : SH A H0 H L) (hB : ∀ c ∈ bCells K B W, H c.1 = some c.2) (hM : ∀ c ∈ mCells M W, H c.1 = some c.2) (ok : W.ok) (hlB : B.rs.length = W.rows.length) (hl : M.rs.length = W.rows.length)
    (k : ∀ H', SH A H0 H' L → Q (.bl true) H') : sp_z_reads K ([.ref B.b, .ref M.m] ++ []) H Q E := ⟨_, _, rfl, B, M, W, rfl, rfl, hB, hM, ok, hlB, hl, fun H' kp => k H' (hS.call0 kp)⟩
/-! ### the deeds -/
abbrev LO (K : PySem.W.Frag) (pst sc : Addr) (B : BA) (M : MA) (x g n : Int) (W1 W2 : BW) : List Cell := (pst, stO sc x g n) :: (mCells M W1 ++ bCells K B W2)
/-- what the model cleared behind i turns -/
def ST (W : BW) (i : Nat) (a b : Nat) : Bool := (a == W.prv && decide (8 ≤ b ∧ b < 16 ∧ b < 8 + i)) || (a == W.cur.toNat && decide (b + 8 < i))
def BW.clrS (W : BW) (S : Nat → Nat → Bool) : BW := { W with rows := clrR W.rows S }
theorem clrS_ok {W : BW} (ok : W.ok) (S : Nat → Nat → Bool) : (W.clrS S).ok := ⟨ok.s8, clrR_16 ok.r16, ok.c0, by show W.cur < ((clrR W.rows _).length : Nat); rw [clrR_len]; exact ok.c1, by show 3 ≤ (clrR W.rows _).length; rw [clrR_len]; exact ok.n3, by show (clrR W.rows _).length ≤ 33; rw [clrR_len]; exact ok.n33, ok.b1⟩
theorem clrS_0 (W : BW) : W.clrS (ST W 0) = W := by
  have e : clrR W.rows (ST W 0) = W.rows := clrR_none fun a b => by
    unfold ST
    rw [Bool.or_eq_false_iff, Bool.and_eq_false_iff, Bool.and_eq_false_iff, decide_eq_false_iff_not, decide_eq_false_iff_not]
    omega
  unfold BW.clrS
  rw [e]
theorem clrS_16 {W : BW} (ok : W.ok) : W.clrS (ST W 16) = W.clr := by
  have e : clrR W.rows (ST W 16) = clrR W.rows (SP W 8) := clrR_eq ok.r16 fun a b _ hb => by
    rw [Bool.eq_iff_iff]
    unfold ST SP
    simp only [Bool.or_eq_true, Bool.and_eq_true, beq_iff_eq, decide_eq_true_eq]
    omega
  unfold BW.clrS BW.clr
  rw [e]
theorem clrS_step {W : BW} (ok : W.ok) {i : Nat} (hi : i < 16) : (W.clrS (ST W i)).setR (8 + (i : Nat)) 0 = W.clrS (ST W (i + 1)) := by
  have ep : (W.clrS (ST W i)).prv = W.prv := by
    unfold BW.prv BW.clrS
    simp only [clrR_len]
  unfold BW.setR
  rw [if_pos (by omega)]
  unfold BW.set BW.put BW.lst
  rw [if_neg (show ¬ (8 + (i : Nat) : Int) < 8 by omega), if_neg (show ¬ (8 + (i : Nat) : Int) < 8 by omega)]
  by_cases h : i < 8
  · rw [if_pos (show (8 + (i : Nat) : Int) < 16 by omega), if_pos (show (8 + (i : Nat) : Int) < 16 by omega), ep]
    have e1 : (ixOf (8 + (i : Nat))).toNat = 8 + i := by unfold ixOf; rw [if_pos (by omega)]; omega
    rw [e1]
    show { W with rows := (clrR W.rows (ST W i)).set W.prv (((clrR W.rows (ST W i)).getD W.prv []).set (8 + i) 0) } = _
    rw [clrR_set]
    unfold BW.clrS
    congr 1
    refine clrR_eq ok.r16 fun a b _ _ => ?_
    rw [Bool.eq_iff_iff]
    unfold ST
    simp only [Bool.or_eq_true, Bool.and_eq_true, beq_iff_eq, decide_eq_true_eq]
    omega
  · rw [if_neg (show ¬ (8 + (i : Nat) : Int) < 16 by omega), if_neg (show ¬ (8 + (i : Nat) : Int) < 16 by omega)]
    have e1 : (ixOf (8 + (i : Nat))).toNat = i - 8 := by unfold ixOf; rw [if_neg (by omega)]; omega
    rw [e1]
    show { W with rows := (clrR W.rows (ST W i)).set W.cur.toNat (((clrR W.rows (ST W i)).getD W.cur.toNat []).set (i - 8) 0) } = _
    rw [clrR_set]
    unfold BW.clrS
    congr 1
    refine clrR_eq ok.r16 fun a b _ _ => ?_
    rw [Bool.eq_iff_iff]
    unfold ST
    simp only [Bool.or_eq_true, Bool.and_eq_true, beq_iff_eq, decide_eq_true_eq]
    omega
theorem downC_pos {W : BW} (h : ¬ W.bar = -1) : W.downC = W.down.clr := by unfold BW.downC; rw [if_neg h]
theorem downC_neg {W : BW} (h : W.bar = -1) : W.downC = W.down := by unfold BW.downC; rw [if_pos h]
theorem set_ok {W : BW} (ok : W.ok) (n v : Int) : (W.set n v).ok := by
  have r16 : ∀ (k : Nat) (l : List Int), l.length = (W.rows.getD k []).length → ∀ r ∈ W.rows.set k l, r.length = 16 := fun k l hl r hr => by
    rcases List.mem_or_eq_of_mem_set hr with h | rfl
    · exact ok.r16 _ h
    · by_cases hk : k < W.rows.length
      · rw [hl, List.getD_eq_getElem?_getD, List.getElem?_eq_getElem hk]
        exact ok.r16 _ (List.getElem_mem _)
      · rw [List.set_eq_of_length_le (by omega)] at hr
        exact ok.r16 _ hr
  unfold BW.set BW.put BW.lst
  split
  · exact ⟨by simp only [List.length_set]; exact ok.s8, ok.r16, ok.c0, ok.c1, ok.n3, ok.n33, ok.b1⟩
  · split
    · exact ⟨ok.s8, r16 _ _ (List.length_set ..), ok.c0, by simp only [List.length_set]; exact ok.c1, by simp only [List.length_set]; exact ok.n3, by simp only [List.length_set]; exact ok.n33, ok.b1⟩
    · exact ⟨ok.s8, r16 _ _ (List.length_set ..), ok.c0, by simp only [List.length_set]; exact ok.c1, by simp only [List.length_set]; exact ok.n3, by simp only [List.length_set]; exact ok.n33, ok.b1⟩
theorem setR_ok {W : BW} (ok : W.ok) (n v : Int) : (W.setR n v).ok := by
  unfold BW.setR
  split
  · exact set_ok ok n v
  · exact ok
theorem spiP_ok {W : BW} (ok : W.ok) : W.spiP.ok := ⟨ok.s8, ok.r16, ok.c0, ok.c1, ok.n3, ok.n33, ok.b1⟩
theorem filP_ok {W : BW} (ok : W.ok) : W.filP.ok := ⟨ok.s8, ok.r16, ok.c0, ok.c1, ok.n3, ok.n33, ok.b1⟩
theorem bar_ok {W : BW} (ok : W.ok) {n : Int} (h : -1 ≤ n) : ({ W with bar := n } : BW).ok := ⟨ok.s8, ok.r16, ok.c0, ok.c1, ok.n3, ok.n33, h⟩
theorem downC_ok {W : BW} (ok : W.ok) : W.downC.ok := by
  unfold BW.downC
  split
  · exact down_ok ok
  · exact clr_ok (down_ok ok)
theorem downC_len (W : BW) : W.downC.rows.length = W.rows.length := by
  unfold BW.downC
  split
  · rfl
  · exact clrR_len ..
section
variable {K : PySem.W.Frag} {A : List Addr} {H0 H : Hp} {c : Cell} {X : List Cell} {B : BA} {W : BW} {Q : VK} {E : XK}
theorem c_B_down (hS : SH A H0 H (c :: (X ++ bCells K B W))) (ok : W.ok) (hl : B.rs.length = W.rows.length) (k : ∀ H', SH A H0 H' (c :: (X ++ bCells K B W.downC)) → Q .non H') : sp_Banks_shift_down K (.ref B.b :: ([] ++ [])) H Q E :=
  ⟨_, rfl, B, W, rfl, SH.blkR (c :: X) _ hS, ok, hl, fun H' C => k H' (SH.callBk hS C)⟩
theorem c_B_up (hS : SH A H0 H (c :: (X ++ bCells K B W))) (ok : W.ok) (k : ∀ H', SH A H0 H' (c :: (X ++ bCells K B W.up)) → Q .non H') : sp_Banks_shift_up K (.ref B.b :: ([] ++ [])) H Q E :=
  ⟨_, rfl, B, W, rfl, SH.blkR (c :: X) _ hS, by have := ok.n3; omega, fun H' C => k H' (SH.callBk hS C)⟩
theorem c_B_tdown {v : Int} (hS : SH A H0 H (c :: (X ++ bCells K B W))) (ok : W.ok) (hl : B.rs.length = W.rows.length) (k : ∀ H', SH A H0 H' (c :: (X ++ bCells K B (W.down.setR 17 v).spiP)) → Q .non H') : sp_Banks_trap_down K (.ref B.b :: ([.int v] ++ [])) H Q E :=
  ⟨_, _, rfl, B, W, v, rfl, rfl, SH.blkR (c :: X) _ hS, ok, hl, fun H' C => k H' (SH.callBk hS C)⟩
theorem c_B_tup {v : Int} (hS : SH A H0 H (c :: (X ++ bCells K B W))) (ok : W.ok) (hl : B.rs.length = W.rows.length) (k : ∀ H', SH A H0 H' (c :: (X ++ bCells K B (W.down.setR 17 v).filP)) → Q .non H') : sp_Banks_trap_up K (.ref B.b :: ([.int v] ++ [])) H Q E :=
  ⟨_, _, rfl, B, W, v, rfl, rfl, SH.blkR (c :: X) _ hS, ok, hl, fun H' C => k H' (SH.callBk hS C)⟩
theorem c_B_leave (hS : SH A H0 H (c :: (X ++ bCells K B W))) (ok : W.ok) (hl : B.rs.length = W.rows.length) (k : ∀ H', SH A H0 H' (c :: (X ++ bCells K B W.up)) → Q (.int (W.get 17)) H') : sp_Banks_leave_trap K (.ref B.b :: ([] ++ [])) H Q E :=
  ⟨_, rfl, B, W, rfl, SH.blkR (c :: X) _ hS, ok, hl, fun H' C => k H' (SH.callBk hS C)⟩
theorem c_B_write {n v : Int} (hS : SH A H0 H (c :: (X ++ bCells K B W))) (ok : W.ok) (hl : B.rs.length = W.rows.length) (h0 : 0 ≤ n) (h1 : n < 32) (k : ∀ H', SH A H0 H' (c :: (X ++ bCells K B (W.setR n v))) → Q .non H') : sp_Banks_write K (.ref B.b :: ([.int n, .int v] ++ [])) H Q E :=
  ⟨_, _, _, rfl, B, W, n, v, rfl, rfl, rfl, SH.blkR (c :: X) _ hS, ok, hl, h0, h1, fun H' C => k H' (SH.callBk hS C)⟩
theorem c_B_bar {n : Int} (hS : SH A H0 H (c :: (X ++ bCells K B W))) (k : ∀ H', SH A H0 H' (c :: (X ++ bCells K B { W with bar := n })) → Q .non H') : sp_Banks_set_bar K (.ref B.b :: ([.int n] ++ [])) H Q E :=
  ⟨_, _, rfl, B, W, n, rfl, rfl, SH.blkR (c :: X) _ hS, fun H' C => k H' (SH.callBk hS C)⟩
end
theorem memM {c d : Cell} {X Y : List Cell} (h : d ∈ X) : d ∈ c :: (X ++ Y) := List.mem_cons_of_mem _ (List.mem_append_left _ h)
theorem memB {c d : Cell} {X Y : List Cell} (h : d ∈ Y) : d ∈ c :: (X ++ Y) := List.mem_cons_of_mem _ (List.mem_append_right _ h)
theorem clrS_len (W : BW) (S : Nat → Nat → Bool) : (W.clrS S).rows.length = W.rows.length := clrR_len ..
theorem clr_len (W : BW) : W.clr.rows.length = W.rows.length := clrR_len ..
theorem down_len (W : BW) : W.down.rows.length = W.rows.length := rfl
theorem up_len (W : BW) : W.up.rows.length = W.rows.length := rfl
theorem spi_len (W : BW) : W.spiP.rows.length = W.rows.length := rfl
theorem fil_len (W : BW) : W.filP.rows.length = W.rows.length := rfl
local macro_rules | `(tactic| walk_at "ok") => `(tactic| first | (with_reducible assumption) | ((with_reducible refine down_ok ?_); walk_at "ok") | ((with_reducible refine up_ok ?_); walk_at "ok") | ((with_reducible refine setR_ok ?_ _ _); walk_at "ok") | ((with_reducible refine spiP_ok ?_); walk_at "ok") | ((with_reducible refine filP_ok ?_); walk_at "ok") | ((with_reducible refine clrS_ok ?_ _); walk_at "ok") | ((with_reducible refine clr_ok ?_); walk_at "ok") | ((with_reducible refine downC_ok ?_); walk_at "ok"))
local macro_rules | `(tactic| walk_at "ln") => `(tactic| first | (with_reducible assumption) | (simp only [clrS_len, clr_len, set_len, downC_len, down_len, up_len, spi_len, fil_len]; first | exact hlM | exact hlB))
local macro_rules | `(tactic| walk_at "hp") => `(tactic| exact hS.hs (B.b, _) (memB (.head _)))
local macro_rules | `(tactic| walk_at "st") => `(tactic| first
  | ((with_reducible show sp_z_get _ _ _ _ _); apply c_z_get hS (fun c hc => hS.hs c (memM hc)); (· walk_at "ok"); (· walk_at "ln"); (· walk_at "ar"); (· walk_at "ar"); intro H1 hS1 _; walk_at "nw")
  | ((with_reducible show sp_z_set _ _ _ _ _); apply c_z_set hS; (· walk_at "ok"); (· walk_at "ln"); (· walk_at "ar"); (· walk_at "ar"); intro H1 hS1; walk_at "nw")
  | ((with_reducible show sp_z_move _ _ _ _ _); (first | apply c_z_down hS | apply c_z_up hS); (· walk_at "ok"); (· walk_at "ln"); intro H1 hS1; walk_at "nw")
  | ((with_reducible show sp_Banks_shift_down _ _ _ _ _); apply c_B_down hS; (· walk_at "ok"); (· walk_at "ln"); intro H1 hS1; walk_at "nw")
  | ((with_reducible show sp_Banks_shift_up _ _ _ _ _); apply c_B_up hS; (· walk_at "ok"); intro H1 hS1; walk_at "nw")
  | ((with_reducible show sp_Banks_trap_down _ _ _ _ _); apply c_B_tdown hS; (· walk_at "ok"); (· walk_at "ln"); intro H1 hS1; walk_at "nw")
  | ((with_reducible show sp_Banks_trap_up _ _ _ _ _); apply c_B_tup hS; (· walk_at "ok"); (· walk_at "ln"); intro H1 hS1; walk_at "nw")
  | ((with_reducible show sp_Banks_leave_trap _ _ _ _ _); apply c_B_leave hS; (· walk_at "ok"); (· walk_at "ln"); intro H1 hS1; walk_at "nw")
  | ((with_reducible show sp_Banks_write _ _ _ _ _); apply c_B_write hS; (· walk_at "ok"); (· walk_at "ln"); (· walk_at "ar"); (· walk_at "ar"); intro H1 hS1; walk_at "nw")
  | ((with_reducible show sp_Banks_set_bar _ _ _ _ _); apply c_B_bar hS; intro H1 hS1; walk_at "nw"))
def sp_z_shift (K : PySem.W.Frag) : Sp := mk4 fun a b c d H Q _ => ∃ (pst sc : Addr) (ns : List Int) (x g n : Int) (B : BA) (M : MA) (W : BW) (ch : Int), a = .ref pst ∧ b = .ref B.b ∧ c = .ref M.m ∧ d = .int ch ∧
  Blk H (LO K pst sc B M x g n W W) ∧ Scr K H sc (ns.map V.int) ∧ 0 ≤ x ∧ 0 ≤ g ∧ W.ok ∧ B.rs.length = W.rows.length ∧ M.rs.length = W.rows.length ∧
  ∀ x g n W' H', SH ((LO K pst sc B M x g n W W).map (·.1)) H H' (LO K pst sc B M x g n W' W') → 0 ≤ x → 0 ≤ g → W'.ok → W'.rows.length = W.rows.length → Q (.bl true) H'
section
 local macro_rules | `(tactic| walk_at "st") => `(tactic| first
  | ((with_reducible show sp_z_pick _ ([V.ref _, V.int 2] ++ []) _ _ _); apply c_z_pick hS; (· walk_at "ix"); (· assumption); (· walk_at "ar"); (· walk_at "ar"); (· walk_at "ar"); (· walk_at "ar"); intro r x1 g1 n1 H1 hr0 hr1 hx1 hg1 hS1; clear hS; rename SH _ _ _ _ => hS; simp only [List.set_cons_zero, List.set_cons_succ] at hS; obtain rfl | rfl : r = 0 ∨ r = 1 := by omega))
theorem ok_z_shift {P : Program} {w : World} {K : PySem.W.Frag} {mg : Str → Option Value} {base : Heap} (Y : Env w K mg) (G_Banks_leave_trap : MethOk P w K mg base CX0 3 "Banks" "leave_trap" ["self"] (sp_Banks_leave_trap K)) (G_Banks_shift_down : MethOk P w K mg base CX0 2 "Banks" "shift_down" ["self"] (sp_Banks_shift_down K)) (G_Banks_shift_up : MethOk P w K mg base CX0 1 "Banks" "shift_up" ["self"] (sp_Banks_shift_up K)) (G_Banks_trap_down : MethOk P w K mg base CX0 3 "Banks" "trap_down" ["self", "address"] (sp_Banks_trap_down K)) (G_Banks_trap_up : MethOk P w K mg base CX0 3 "Banks" "trap_up" ["self", "address"] (sp_Banks_trap_up K)) (G_z_get : CallOk P w K mg base CX0 2 "_law_get" ["_law_model", "_law_number"] (sp_z_get K)) (G_z_is_integer : CallOk P w K mg base CX0 1 "_law_is_integer" ["_law_actual"] (sp_z_is_integer K)) (G_z_move : CallOk P w K mg base CX0 1 "_law_move" ["_law_model", "_law_by"] (sp_z_move K)) (G_z_pick : CallOk P w K mg base CX0 1 "_law_pick" ["_law_state", "_law_limit"] (sp_z_pick K)) (G_z_set : CallOk P w K mg base CX0 2 "_law_set" ["_law_model", "_law_number", "_law_word_here"] (sp_z_set K)) : CallOk P w K mg base CX0 4 "_law_shift" ["_law_state", "_law_banks", "_law_model", "_law_choice"] (sp_z_shift K) := by
  obtain ⟨fd, F⟩ := Y.fd_z_shift
  refine ⟨_, fd, Y.mg_z_shift, F.kp, F.bindsN (fun _ _ _ _ _ _ us hl => match us, hl with | [_, _, _, _], _ => rfl), F.ok sc_z_shift mk4_len (fun cdv A outer s H vs Q E hr h => ?_)⟩
  have hu := hu_room hr
  obtain ⟨_, _, _, _, rfl, pst, sc, ns, x, g, n, B, M, W, ch, rfl, rfl, rfl, rfl, hB, hs, hx, hg, ok, hlB, hlM, k⟩ := h
  have hS : SH ((LO K pst sc B M x g n W W).map (·.1)) H H (LO K pst sc B M x g n W W) := hB.sh
  refine ⟨_, PSs.nox (pss_cons (ps_if (pt_cmpR op_lt (pv 3) pe_int (nomark _)) (pss_cons (ps_expr (pe_callG G_z_move (hr.mono (by decide)) rfl pass0 (pa_cons (pv 2) (pa_cons (pe_un un_neg pe_int) pa_nil))))
  (pss_cons (ps_if (pt_cmpR op_ge (pe_ix xIx (pv 2) pe_int (fun _ _ => rfl)) pe_int (nomark _)) (pss_one (ps_for PassesOwn.never rfl (pi_range2 rfl Y.z_range (pa_cons pe_int (pa_cons pe_int pa_nil))) (pg_name (i := 4) sc_z_shift.nd rfl (Or.inl rfl))
  (pss_one (ps_expr (pe_callG G_z_set (hr.mono (by decide)) rfl pass0 (pa_cons (pv 2) (pa_cons (pv 4) (pa_cons pe_int pa_nil)))))))) pss_nil)
  (pss_one (ps_ret (pe_cmpR xIs (pe_methG0 (pv 1) G_Banks_shift_down (hr.mono (by decide)) pass0) pe_non (nomark _)))))) pss_nil)
  (pss_cons (ps_if (pt_cmpR (xEq hu) (pv 3) pe_int (nomark _)) (pss_cons (ps_set (i := 5) sc_z_shift.nd rfl (Or.inl rfl) (pe_callG G_z_pick (hr.mono (by decide)) rfl pass0 (pa_cons (pv 0) (pa_cons pe_int pa_nil))))
  (pss_cons (ps_expr (pe_callG G_z_move (hr.mono (by decide)) rfl pass0 (pa_cons (pv 2) (pa_cons (pe_un un_neg pe_int) pa_nil))))
  (pss_cons (ps_expr (pe_callG G_z_set (hr.mono (by decide)) rfl pass0 (pa_cons (pv 2) (pa_cons pe_int (pa_cons (pv 5) pa_nil)))))
  (pss_cons (ps_set (i := 6) sc_z_shift.nd rfl (Or.inl rfl) (pe_op xAdd pe_int (pe_callG G_z_pick (hr.mono (by decide)) rfl pass0 (pa_cons (pv 0) (pa_cons pe_int pa_nil)))))
  (pss_cons (ps_asg (pe_op xAdd (pe_ix xIx (pv 2) (pv 6) (fun _ _ => rfl)) pe_int) (pg_sub (pv 2) (pv 6) set_list))
  (pss_cons (ps_if (pt_cmpR (xEq hu) (pv 6) pe_int (nomark _)) (pss_one (ps_ret (pe_cmpR xIs (pe_methG (pv 1) G_Banks_trap_down hr pass0 (pa_cons (pv 5) pa_nil)) pe_non (nomark _)))) pss_nil)
  (pss_one (ps_ret (pe_cmpR xIs (pe_methG (pv 1) G_Banks_trap_up hr pass0 (pa_cons (pv 5) pa_nil)) pe_non (nomark _)))))))))) pss_nil)
  (pss_cons (ps_if (pt_cmpR (xEq hu) (pe_ix xIx (pv 2) pe_int (fun _ _ => rfl)) pe_int (nomark _)) (pss_one (ps_ret pe_bl)) pss_nil)
  (pss_cons (ps_if (pt_cmpR (xEq hu) (pv 3) pe_int (nomark _)) (pss_cons (ps_set (i := 7) sc_z_shift.nd rfl (Or.inl rfl) (pe_callG G_z_get (hr.mono (by decide)) rfl pass0 (pa_cons (pv 2) (pa_cons pe_int pa_nil))))
  (pss_cons (ps_expr (pe_callG G_z_move (hr.mono (by decide)) rfl pass0 (pa_cons (pv 2) (pa_cons pe_int pa_nil))))
  (pss_cons (ps_set (i := 8) sc_z_shift.nd rfl (Or.inl rfl) (pe_methG0 (pv 1) G_Banks_leave_trap hr pass0))
  (pss_one (ps_ret (pe_and (pe_callG G_z_is_integer (hr.mono (by decide)) rfl pass0 (pa_cons (pv 8) pa_nil)) (pe_one (pe_cmpR (xEq hu) (pv 8) (pv 7) (nomark _))))))))) pss_nil)
  (pss_cons (ps_expr (pe_callG G_z_move (hr.mono (by decide)) rfl pass0 (pa_cons (pv 2) (pa_cons pe_int pa_nil))))
  (pss_one (ps_ret (pe_cmpR xIs (pe_methG0 (pv 1) G_Banks_shift_up (hr.mono (by decide)) pass0) pe_non (nomark _))))))))), ?_⟩
  rw [st_z_shift]
  try simp only [cxK, cxK2, cxW, cxW2]
  clear hu hr F
  repeat' walk_at "st"
  · refine u_forR2 (fun i σ H' => ∃ v, σ = [some (.ref pst), some (.ref B.b), some (.ref M.m), some (.int ch), v, none, none, none, none] ∧ SH ((LO K pst sc B M x g n W W).map (·.1)) H H' ((pst, stO sc x g n) :: (mCells M (W.down.clrS (ST W.down i)) ++ bCells K B W))) (by decide) ⟨_, rfl, by rw [clrS_0]; exact hS⟩ ?_ ?_
    · rintro i σ H2 hi ⟨v, rfl, hS⟩
      repeat' walk_at "st"
      rw [clrS_step (down_ok ok) (by omega)] at hS
      exact ⟨_, rfl, hS⟩
    · rintro σ H2 ⟨v, rfl, hS⟩
      have hS : SH ((LO K pst sc B M x g n W W).map (·.1)) H H2 ((pst, stO sc x g n) :: (mCells M (W.down.clrS (ST W.down 16)) ++ bCells K B W)) := hS
      rw [clrS_16 (down_ok ok)] at hS
      repeat' walk_at "st"
      have hb0 : 0 ≤ W.bar := hc
      rw [downC_pos (by omega)] at hS
      exact q_dec rfl (k _ _ _ W.down.clr _ hS (by omega) (by omega) (clr_ok (down_ok ok)) (clrR_len _ _))
  · have hb0 : ¬ 0 ≤ W.bar := hc
    have hb1 := ok.b1
    rw [downC_neg (by omega)] at hS
    exact q_dec rfl (k _ _ _ W.down _ hS (by omega) (by omega) (down_ok ok) rfl)
  · have hS : SH ((LO K pst sc B M x g n W W).map (·.1)) H H1 ((pst, stO sc x1 g1 n1) :: (mCells M (W.down.setR 17 r).spiP ++ bCells K B W)) := hS
    repeat' walk_at "st"
    exact q_dec rfl (k x1 g1 _ (W.down.setR 17 r).spiP _ hS hx1 hg1 (spiP_ok (setR_ok (down_ok ok) _ _)) (set_len _ _ _))
  · have hS : SH ((LO K pst sc B M x g n W W).map (·.1)) H H1 ((pst, stO sc x1 g1 n1) :: (mCells M (W.down.setR 17 r).filP ++ bCells K B W)) := hS
    repeat' walk_at "st"
    exact q_dec rfl (k x1 g1 _ (W.down.setR 17 r).filP _ hS hx1 hg1 (filP_ok (setR_ok (down_ok ok) _ _)) (set_len _ _ _))
  · exact k _ _ _ W _ hS hx hg ok rfl
  · exact q_dec rfl (k _ _ _ W.up _ hS hx hg (up_ok ok) rfl)
  · exact q_dec rfl (k _ _ _ W.up _ hS hx hg (up_ok ok) rfl)
end
theorem c_z_shift {K : PySem.W.Frag} {A : List Addr} {H0 H : Hp} {pst sc : Addr} {ns : List Int} {x g n : Int} {B : BA} {M : MA} {W : BW} {ch : Int} {Q : VK} {E : XK} (hS : SH A H0 H (LO K pst sc B M x g n W W)) (hs : Scr K H0 sc (ns.map V.int)) (hx : 0 ≤ x) (hg : 0 ≤ g) (ok : W.ok) (hlB : B.rs.length = W.rows.length) (hlM : M.rs.length = W.rows.length)
    (k : ∀ x g n W' H', SH A H0 H' (LO K pst sc B M x g n W' W') → 0 ≤ x → 0 ≤ g → W'.ok → W'.rows.length = W.rows.length → Q (.bl true) H') : sp_z_shift K ([.ref pst, .ref B.b, .ref M.m, .int ch] ++ []) H Q E :=
  ⟨_, _, _, _, rfl, pst, sc, ns, x, g, n, B, M, W, ch, rfl, rfl, rfl, rfl, hS.blk, hs.keep hS.kp, hx, hg, ok, hlB, hlM, fun x g n W' H' C a b c d => k x g n W' H' (SH.callE hS C) a b c d⟩
local macro_rules | `(tactic| walk_at "st") => `(tactic| first
  | ((with_reducible show sp_Banks_read _ _ _ _ _); apply c_Banks_read hS (fun c hc => hS.hs c (memB hc)); (· walk_at "ok"); (· walk_at "ln"); (· walk_at "ar"); (· walk_at "ar"); intro H1 hS1 _; walk_at "nw")
  | ((with_reducible show sp_z_reads _ _ _ _ _); apply c_z_reads hS (fun c hc => hS.hs c (memB hc)) (fun c hc => hS.hs c (memM hc)); (· walk_at "ok"); (· walk_at "ln"); (· walk_at "ln"); intro H1 hS1; walk_at "nw")
  | ((with_reducible show sp_z_counts _ _ _ _ _); apply c_z_counts hS (fun c hc => hS.hs c (memB hc)) (fun c hc => hS.hs c (memM hc)); (· walk_at "ok"); (· walk_at "ln"); intro H1 hS1; walk_at "nw"))
def sp_z_deed (K : PySem.W.Frag) : Sp := mk3 fun a b c H Q _ => ∃ (pst sc : Addr) (ns : List Int) (x g n : Int) (B : BA) (M : MA) (W : BW), a = .ref pst ∧ b = .ref B.b ∧ c = .ref M.m ∧
  Blk H (LO K pst sc B M x g n W W) ∧ Scr K H sc (ns.map V.int) ∧ 0 ≤ x ∧ 0 ≤ g ∧ W.ok ∧ B.rs.length = W.rows.length ∧ M.rs.length = W.rows.length ∧
  ∀ x g n W' H', SH ((LO K pst sc B M x g n W W).map (·.1)) H H' (LO K pst sc B M x g n W' W') → 0 ≤ x → 0 ≤ g → W'.ok → W'.rows.length = W.rows.length → Q (.bl true) H'
theorem ok_z_deed {P : Program} {w : World} {K : PySem.W.Frag} {mg : Str → Option Value} {base : Heap} (Y : Env w K mg) (G_Banks_read : MethOk P w K mg base CX0 2 "Banks" "read" ["self", "number"] (sp_Banks_read K)) (G_Banks_set_bar : MethOk P w K mg base CX0 1 "Banks" "set_bar" ["self", "number"] (sp_Banks_set_bar K)) (G_Banks_write : MethOk P w K mg base CX0 2 "Banks" "write" ["self", "number", "word"] (sp_Banks_write K)) (G_z_get : CallOk P w K mg base CX0 2 "_law_get" ["_law_model", "_law_number"] (sp_z_get K)) (G_z_is_integer : CallOk P w K mg base CX0 1 "_law_is_integer" ["_law_actual"] (sp_z_is_integer K)) (G_z_pick : CallOk P w K mg base CX0 1 "_law_pick" ["_law_state", "_law_limit"] (sp_z_pick K)) (G_z_set : CallOk P w K mg base CX0 2 "_law_set" ["_law_model", "_law_number", "_law_word_here"] (sp_z_set K)) (G_z_shift : CallOk P w K mg base CX0 4 "_law_shift" ["_law_state", "_law_banks", "_law_model", "_law_choice"] (sp_z_shift K)) (G_z_word : CallOk P w K mg base CX0 2 "_law_word" ["_law_state"] (sp_z_word K)) : CallOk P w K mg base CX0 5 "_law_deed" ["_law_state", "_law_banks", "_law_model"] (sp_z_deed K) := by
  obtain ⟨fd, F⟩ := Y.fd_z_deed
  refine ⟨_, fd, Y.mg_z_deed, F.kp, F.bindsN (fun _ _ _ _ _ _ us hl => match us, hl with | [_, _, _], _ => rfl), F.ok sc_z_deed mk3_len (fun cdv A outer s H vs Q E hr h => ?_)⟩
  have hu := hu_room hr
  obtain ⟨_, _, _, rfl, pst, sc, ns, x, g, n, B, M, W, rfl, rfl, rfl, hB, hs, hx, hg, ok, hlB, hlM, k⟩ := h
  have hS : SH ((LO K pst sc B M x g n W W).map (·.1)) H H (LO K pst sc B M x g n W W) := hB.sh
  have hl2 : (M.rs.map V.ref).length = W.rows.length := by rw [List.length_map]; exact hlM
  have hn33 := ok.n33
  refine ⟨_, PSs.nox (pss_cons (ps_set (i := 3) sc_z_deed.nd rfl (Or.inl rfl) (pe_callG G_z_pick (hr.mono (by decide)) rfl pass0 (pa_cons (pv 0) (pa_cons pe_int pa_nil))))
  (pss_cons (ps_if (pt_cmpR op_lt (pv 3) pe_int (nomark _)) (pss_one (ps_ret (pe_callG G_z_shift hr rfl pass0 (pa_cons (pv 0) (pa_cons (pv 1) (pa_cons (pv 2) (pa_cons (pv 3) pa_nil))))))) pss_nil)
  (pss_cons (ps_if (pt_cmpR (xEq hu) (pv 3) pe_int (nomark _)) (pss_cons (ps_asg (pe_op op_sub (pe_callG G_z_pick (hr.mono (by decide)) rfl pass0 (pa_cons (pv 0) (pa_cons (pe_op xAdd (pe_callB x_len rfl Y.z_len (by decide +kernel) (pa_cons (pe_ix xIx (pv 2) pe_int (fun _ _ => rfl)) pa_nil)) pe_int) pa_nil))) pe_int) (pg_sub (pv 2) pe_int set_list))
  (pss_one (ps_ret (pe_cmpR xIs (pe_methG (pv 1) G_Banks_set_bar (hr.mono (by decide)) pass0 (pa_cons (pe_ix xIx (pv 2) pe_int (fun _ _ => rfl)) pa_nil)) pe_non (nomark _))))) pss_nil)
  (pss_cons (ps_set (i := 4) sc_z_deed.nd rfl (Or.inl rfl) (pe_callG G_z_pick (hr.mono (by decide)) rfl pass0 (pa_cons (pv 0) (pa_cons pe_int pa_nil))))
  (pss_cons (ps_if (pt_cmpR op_lt (pv 3) pe_int (nomark _)) (pss_cons (ps_set (i := 5) sc_z_deed.nd rfl (Or.inl rfl) (pe_callG G_z_word (hr.mono (by decide)) rfl pass0 (pa_cons (pv 0) pa_nil)))
  (pss_cons (ps_expr (pe_callG G_z_set (hr.mono (by decide)) rfl pass0 (pa_cons (pv 2) (pa_cons (pv 4) (pa_cons (pv 5) pa_nil)))))
  (pss_one (ps_if (pt_cmpR xIsNot (pe_methG (pv 1) G_Banks_write (hr.mono (by decide)) pass0 (pa_cons (pv 4) (pa_cons (pv 5) pa_nil))) pe_non (nomark _)) (pss_one (ps_ret pe_bl)) pss_nil)))) pss_nil)
  (pss_cons (ps_set (i := 5) sc_z_deed.nd rfl (Or.inl rfl) (pe_methG (pv 1) G_Banks_read (hr.mono (by decide)) pass0 (pa_cons (pv 4) pa_nil)))
  (pss_one (ps_ret (pe_and (pe_callG G_z_is_integer (hr.mono (by decide)) rfl pass0 (pa_cons (pv 5) pa_nil)) (pe_one (pe_cmpR (xEq hu) (pv 5) (pe_callG G_z_get (hr.mono (by decide)) rfl pass0 (pa_cons (pv 2) (pa_cons (pv 4) pa_nil))) (nomark _)))))))))))), ?_⟩
  rw [st_z_deed]
  try simp only [cxK, cxK2, cxW, cxW2]
  clear hu hr F
  repeat' walk_at "st"
  · refine c_z_shift hS hs hx1 hg1 ok hlB hlM (fun x g n W' H' hS a b c d => k x g n W' H' hS a b c d)
  · have hS : SH ((LO K pst sc B M x g n W W).map (·.1)) H H1 (LO K pst sc B M x1 g1 n1 { W with bar := r - 1 } W) := hS
    repeat' walk_at "st"
    exact q_dec rfl (k x1 g1 _ { W with bar := r - 1 } _ hS hx1 hg1 (bar_ok ok (by omega)) rfl)
  · exact q_dec rfl (k x1 g1 _ (W.setR _ _) _ hS hx1 hg1 (setR_ok ok _ _) (set_len _ _ _))
  · exact q_dec rfl (k x1 g1 _ W _ hS hx1 hg1 ok rfl)
theorem c_z_deed {K : PySem.W.Frag} {A : List Addr} {H0 H : Hp} {pst sc : Addr} {ns : List Int} {x g n : Int} {B : BA} {M : MA} {W : BW} {Q : VK} {E : XK} (hS : SH A H0 H (LO K pst sc B M x g n W W)) (hs : Scr K H0 sc (ns.map V.int)) (hx : 0 ≤ x) (hg : 0 ≤ g) (ok : W.ok) (hlB : B.rs.length = W.rows.length) (hlM : M.rs.length = W.rows.length)
    (k : ∀ x g n W' H', SH A H0 H' (LO K pst sc B M x g n W' W') → 0 ≤ x → 0 ≤ g → W'.ok → W'.rows.length = W.rows.length → Q (.bl true) H') : sp_z_deed K ([.ref pst, .ref B.b, .ref M.m] ++ []) H Q E :=
  ⟨_, _, _, rfl, pst, sc, ns, x, g, n, B, M, W, rfl, rfl, rfl, hS.blk, hs.keep hS.kp, hx, hg, ok, hlB, hlM, fun x g n W' H' C a b c d => k x g n W' H' (SH.callE hS C) a b c d⟩
theorem perm_law {m s8 d t st : Cell} {R Bc : List Cell} : (m :: d :: (R ++ (s8 :: t :: (Bc ++ [st])))).Perm (m :: d :: s8 :: t :: st :: (R ++ Bc)) := by
  refine List.Perm.cons _ (List.Perm.cons _ ?_)
  refine List.perm_middle.trans (List.Perm.cons _ (List.perm_middle.trans (List.Perm.cons _ ?_)))
  rw [← List.append_assoc]
  exact List.perm_append_singleton _ _
theorem W0_ok {n : Nat} (h : 3 ≤ n) (h2 : n ≤ 33) : (W0 n).ok := by
  unfold W0
  refine ⟨List.length_replicate, ?_, Int.le_refl _, ?_, ?_, ?_, (by decide : (-1 : Int) ≤ 1)⟩
  · intro r hr
    rw [(List.mem_replicate.mp hr).2]
    exact List.length_replicate
  · show (0 : Int) < ((List.replicate n _).length : Nat)
    rw [List.length_replicate]
    omega
  · show 3 ≤ (List.replicate n _).length
    rw [List.length_replicate]
    exact h
  · show (List.replicate n _).length ≤ 33
    rw [List.length_replicate]
    exact h2
theorem W0_len (n : Nat) : (W0 n).rows.length = n := List.length_replicate
def LI (K : PySem.W.Frag) (H0 : Hp) (sc pst : Addr) (w : Int) (B : BA) (M : MA) (P : BW → Prop) (σ : L2.St) (H' : Hp) : Prop := ∃ v4 v6 v7 x g n W, σ = [some (.ref sc), some (.ref pst), some (.int w), some (.ref B.b), v4, some (.ref M.m), v6, v7] ∧ SH [] H0 H' (LO K pst sc B M x g n W W) ∧ 0 ≤ x ∧ 0 ≤ g ∧ W.ok ∧ B.rs.length = W.rows.length ∧ M.rs.length = W.rows.length ∧ P W
def sp_law (K : PySem.W.Frag) : Sp := mk1 fun a H Q _ => ∃ (sc : Addr) (ns : List Int), a = .ref sc ∧ Scr K H sc (ns.map V.int) ∧ ∀ H', Q (.bl true) H'
theorem law_start {A : List Addr} {H0 H : Hp} {K : PySem.W.Frag} {m d s8 : Addr} {t st : Cell} {rs : List Addr} {w : Nat} {B : BA} (hS : SH A H0 H ((m, .lst [.ref s8, .ref d, .int 0, .int 1, .int 0, .int 0, .int 0]) :: (d, .lst (rs.map V.ref)) :: (rowC rs (List.replicate w (List.replicate 16 0)) ++ ((s8, .lst (List.replicate 8 (V.int 0))) :: t :: (bCells K B (W0 w) ++ [st]))))) :
    SH A H0 H (st :: (mCells ⟨m, s8, d, rs⟩ (W0 w) ++ bCells K B (W0 w))) := by
  have h := (hS.perm perm_law).pickT 5 [4, 0, 2, 1] (by decide) (by decide) (L' := [st, (m, .lst [.ref s8, .ref d, .int 0, .int 1, .int 0, .int 0, .int 0]), (s8, .lst (List.replicate 8 (V.int 0))), (d, .lst (rs.map V.ref))]) rfl
  exact h
section
 local macro_rules | `(tactic| walk_at "st") => `(tactic| first
  | ((with_reducible show sp_z_deed _ _ _ _ _); apply c_z_deed hS hs; (· walk_at "ar"); (· walk_at "ar"); (· walk_at "ok"); (· walk_at "ln"); (· walk_at "ln"); intro x1 g1 n1 W1 H1 hS1 hx1 hg1 ok1 len1; have hlB := hlB.trans len1.symm; have hlM := hlM.trans len1.symm; walk_at "nw"))
theorem ok_law {P : Program} {w : World} {K : PySem.W.Frag} {mg : Str → Option Value} {base : Heap} (Y : Env w K mg) (G_Banks_init__ : MakeOk P w K mg base CX0 1 "Banks" ["self", "windows"] (sp_Banks_init__ K)) (G_Banks_set_bar : MethOk P w K mg base CX0 1 "Banks" "set_bar" ["self", "number"] (sp_Banks_set_bar K)) (G_Banks_shift_down : MethOk P w K mg base CX0 2 "Banks" "shift_down" ["self"] (sp_Banks_shift_down K)) (G_z_counts : CallOk P w K mg base CX0 2 "_law_counts" ["_law_banks", "_law_model"] (sp_z_counts K)) (G_z_deed : CallOk P w K mg base CX0 5 "_law_deed" ["_law_state", "_law_banks", "_law_model"] (sp_z_deed K)) (G_z_move : CallOk P w K mg base CX0 1 "_law_move" ["_law_model", "_law_by"] (sp_z_move K)) (G_z_pick : CallOk P w K mg base CX0 1 "_law_pick" ["_law_state", "_law_limit"] (sp_z_pick K)) (G_z_reads : CallOk P w K mg base CX0 3 "_law_reads" ["_law_banks", "_law_model"] (sp_z_reads K)) (G_z_set : CallOk P w K mg base CX0 2 "_law_set" ["_law_model", "_law_number", "_law_word_here"] (sp_z_set K)) {fd : FuncData} (F : FunD K "law" "law" (defArgs s_law) (defBody s_law) (defScope s_law) [] [] (He.fAd K ("law", none)) fd) : FnOk P w K mg base CX0 6 (He.fAd K ("law", none)) fd ["_law_script"] (sp_law K) := by
  refine F.ok sc_law mk1_len (fun cdv A outer s H vs Q E hr h => ?_)
  have hu := hu_room hr
  obtain ⟨_, rfl, sc, ns, rfl, hs, k⟩ := h
  have hS : SH [] H H [] := SH.start0
  refine ⟨_, PSs.nox (pss_cons (ps_set (i := 1) sc_law.nd rfl (Or.inl rfl) (pe_lst (pa_cons (pv 0) (pa_cons pe_int (pa_cons pe_int (pa_cons pe_int pa_nil))))))
  (pss_cons (ps_set (i := 2) sc_law.nd rfl (Or.inl rfl) (pe_op xAdd pe_int (pe_callG G_z_pick (hr.mono (by decide)) rfl pass0 (pa_cons (pv 1) (pa_cons pe_int pa_nil)))))
  (pss_cutG (ps_if (pt_cmpR (xEq hu) (pe_callG G_z_pick (hr.mono (by decide)) rfl pass0 (pa_cons (pv 1) (pa_cons pe_int pa_nil))) pe_int (nomark _)) (pss_one (ps_set (i := 2) sc_law.nd rfl (Or.inl rfl) (pe_op xAdd pe_int (pe_callG G_z_pick (hr.mono (by decide)) rfl pass0 (pa_cons (pv 1) (pa_cons pe_int pa_nil)))))) pss_nil)
  (pss_cons (ps_set (i := 3) sc_law.nd rfl (Or.inl rfl) (pe_makeG G_Banks_init__ (hr.mono (by decide)) rfl pass0 (pa_cons (pv 2) pa_nil)))
  (pss_cons (ps_set (i := 5) sc_law.nd rfl (Or.inl rfl) (pe_lst (pa_cons (pe_op xMul (pe_lst (pa_cons pe_int pa_nil)) pe_int) (pa_cons (pe_lc (own := [("_law_k", 4)]) (g := gName 4) rfl sc_law.nd (pi_range1 rfl Y.z_range (pa_cons (pv 2) pa_nil)) (blkOk_by (N := N_law) (sc := defScope s_law) (by decide +kernel)) (fun _ _ _ _ _ => pg_name (i := 4) sc_law.nd rfl (Or.inl rfl)) (fun _ _ _ _ _ => pts_nil) (fun _ _ _ _ _ => (pe_op (OpR.k (K := K) (r := rMulX) xMul rfl) (pe_lst (pa_cons pe_int pa_nil)) pe_int))) (pa_cons pe_int (pa_cons pe_int (pa_cons pe_int (pa_cons pe_int (pa_cons pe_int pa_nil)))))))))
  (pss_cons (ps_if (pt_not (pt_val (pe_callG G_z_reads (hr.mono (by decide)) rfl pass0 (pa_cons (pv 3) (pa_cons (pv 5) pa_nil))))) (pss_one (ps_ret pe_bl)) pss_nil)
  (pss_cons (ps_for PassesOwn.never rfl (pi_range1 rfl Y.z_range (pa_cons (pe_op xAdd pe_int (pe_callG G_z_pick (hr.mono (by decide)) rfl pass0 (pa_cons (pv 1) (pa_cons pe_int pa_nil)))) pa_nil)) (pg_name (i := 6) sc_law.nd rfl (Or.inl rfl))
  (pss_one (ps_if (PW.pt (pw_or (pt_not (pt_val (pe_callG G_z_deed hr rfl pass0 (pa_cons (pv 1) (pa_cons (pv 3) (pa_cons (pv 5) pa_nil)))))) (pw_or1 (pt_not (pt_val (pe_callG G_z_counts (hr.mono (by decide)) rfl pass0 (pa_cons (pv 3) (pa_cons (pv 5) pa_nil)))))))) (pss_one (ps_ret pe_bl)) pss_nil)))
  (pss_cutG (ps_if (pt_cmpR (xEq hu) (pe_callG G_z_pick (hr.mono (by decide)) rfl pass0 (pa_cons (pv 1) (pa_cons pe_int pa_nil))) pe_int (nomark _)) (pss_cons (ps_expr (pe_methG (pv 3) G_Banks_set_bar (hr.mono (by decide)) pass0 (pa_cons (pe_un un_neg pe_int) pa_nil)))
  (pss_one (ps_asg (pe_un un_neg pe_int) (pg_sub (pv 5) pe_int set_list)))) pss_nil)
  (pss_cons (ps_for PassesOwn.never rfl (pi_range1 rfl Y.z_range (pa_cons (pv 2) pa_nil)) (pg_name (i := 4) sc_law.nd rfl (Or.inl rfl))
  (pss_cons (ps_if (pt_not (pt_val (pe_callG G_z_reads (hr.mono (by decide)) rfl pass0 (pa_cons (pv 3) (pa_cons (pv 5) pa_nil))))) (pss_one (ps_ret pe_bl)) pss_nil)
  (pss_cons (ps_expr (pe_callG G_z_move (hr.mono (by decide)) rfl pass0 (pa_cons (pv 5) (pa_cons (pe_un un_neg pe_int) pa_nil))))
  (pss_cons (ps_if (pt_cmpR op_ge (pe_ix xIx (pv 5) pe_int (fun _ _ => rfl)) pe_int (nomark _)) (pss_one (ps_for PassesOwn.never rfl (pi_range2 rfl Y.z_range (pa_cons pe_int (pa_cons pe_int pa_nil))) (pg_name (i := 7) sc_law.nd rfl (Or.inl rfl))
  (pss_one (ps_expr (pe_callG G_z_set (hr.mono (by decide)) rfl pass0 (pa_cons (pv 5) (pa_cons (pv 7) (pa_cons pe_int pa_nil)))))))) pss_nil)
  (pss_one (ps_expr (pe_methG0 (pv 3) G_Banks_shift_down (hr.mono (by decide)) pass0)))))))
  (pss_cons (ps_expr (pe_methG (pv 3) G_Banks_set_bar (hr.mono (by decide)) pass0 (pa_cons (pe_un un_neg pe_int) pa_nil)))
  (pss_cons (ps_asg (pe_un un_neg pe_int) (pg_sub (pv 5) pe_int set_list))
  (pss_cons (ps_for PassesOwn.never rfl (pi_range1 rfl Y.z_range (pa_cons (pv 2) pa_nil)) (pg_name (i := 4) sc_law.nd rfl (Or.inl rfl))
  (pss_cons (ps_if (pt_not (pt_val (pe_callG G_z_reads (hr.mono (by decide)) rfl pass0 (pa_cons (pv 3) (pa_cons (pv 5) pa_nil))))) (pss_one (ps_ret pe_bl)) pss_nil)
  (pss_cons (ps_expr (pe_callG G_z_move (hr.mono (by decide)) rfl pass0 (pa_cons (pv 5) (pa_cons (pe_un un_neg pe_int) pa_nil))))
  (pss_one (ps_expr (pe_methG0 (pv 3) G_Banks_shift_down (hr.mono (by decide)) pass0))))))
  (pss_one (ps_ret pe_bl)))))))))))))), ?_⟩
  rw [st_law]
  try simp only [cxK, cxK2, cxW, cxW2]
  clear hu hr F
  repeat' walk_at "st"
  refine s_cutG (fun σ H' => ∃ (w x g n : Int), σ = [some (.ref sc), some (.ref p), some (.int w), none, none, none, none, none] ∧ SH [] H H' [(p, stO sc x g n)] ∧ 0 ≤ x ∧ 0 ≤ g ∧ 3 ≤ w ∧ w ≤ 32) ?_ ?_
  · repeat' walk_at "st"
    · exact ⟨_, _, _, _, rfl, hS, hx1, hg1, by omega, by omega⟩
    · exact ⟨_, _, _, _, rfl, hS, hx1, hg1, by omega, by omega⟩
  clear hS
  obtain ⟨pst, rfl⟩ : ∃ x, x = p := ⟨p, rfl⟩
  rintro σ H1 ⟨w, x0, g0, n0, rfl, hS, hx, hg, hw3, hw33⟩
  repeat' walk_at "st"
  refine ⟨_, _, rfl, x, dx, w.toNat, rfl, by rw [Int.toNat_of_nonneg (by omega)], by omega, hS.get 0 rfl, fun S R rs H2 hr C => ⟨rfl, ?_⟩⟩
  have hS := SH.call (B := [(x, _)]) hS C
  obtain ⟨B, eB⟩ : ∃ B : BA, B = ⟨x, dx, S, R, rs⟩ := ⟨_, rfl⟩
  have ex : x = B.b := by rw [eB]
  rw [← eB] at hS
  rw [ex]
  have hlB : B.rs.length = w.toNat := by rw [eB]; exact hr
  clear eB ex hr
  repeat' walk_at "st"
  refine u_lcR1 hS (i := 4) (j := w) (fun D k H' => ∃ rs, rs.length = k ∧ SH [] H H' ((D, .lst (rs.map V.ref)) :: (rowC rs (List.replicate k (List.replicate 16 0)) ++ ((p, .lst (List.replicate 8 (V.int 0))) :: _ :: (bCells K B (W0 w.toNat) ++ [(pst, stO sc x0 g0 n0)]))))) (by omega) (by omega) (fun D H1 hS => ⟨[], rfl, hS⟩) ?_ ?_
  · rintro D i H1 hi ⟨rs, hr, hS⟩
    repeat' walk_at "st"
    exact ⟨rs ++ [_], by rw [List.length_append, hr]; rfl, by rw [List.replicate_succ']; exact row_snoc hS (by rw [hr, List.length_replicate])⟩
  · rintro D H1 ⟨rs, hr, hS⟩
    obtain ⟨s8, rfl⟩ : ∃ x, x = p := ⟨p, rfl⟩
    repeat' walk_at "st"
    have hS := law_start hS
    obtain ⟨M, eM⟩ : ∃ M : MA, M = ⟨p, s8, D, rs⟩ := ⟨_, rfl⟩
    have em : p = M.m := by rw [eM]
    rw [← eM] at hS
    rw [em]
    have hlM : M.rs.length = (W0 w.toNat).rows.length := by rw [W0_len, eM]; exact hr
    rw [← W0_len w.toNat] at hlB
    have ok := W0_ok (n := w.toNat) (by omega) (by omega)
    clear eM em hr
    have hS : SH [] H H1 (LO K pst sc B M x0 g0 n0 (W0 w.toNat) (W0 w.toNat)) := hS
    generalize W0 w.toNat = W at hS hlB hlM ok
    repeat' walk_at "st"
    refine u_forR1 (fun _ => LI K H sc pst w B M (fun _ => True)) (by omega) (by omega) ⟨_, _, _, _, _, _, W, rfl, hS, by assumption, by assumption, ok, hlB, hlM, trivial⟩ ?_ ?_
    · rintro i σ H3 hi ⟨v4, v6, v7, x, g, n, W, rfl, hS, hx, hg, ok, hlB, hlM, _⟩
      repeat' walk_at "st"
      exact ⟨_, _, _, _, _, _, W1, rfl, hS, hx1, hg1, ok1, hlB, hlM, trivial⟩
    · rintro σ H3 ⟨v4, v6, v7, x, g, n, W, rfl, hS, hx, hg, ok, hlB, hlM, _⟩
      refine s_cutG (LI K H sc pst w B M (fun _ => True)) ?_ ?_
      · repeat' walk_at "st"
        · have hS : SH [] H H1 (LO K pst sc B M x1 g1 n1 { W with bar := -1 } { W with bar := -1 }) := hS
          exact ⟨_, _, _, _, _, _, { W with bar := -1 }, rfl, hS, hx1, hg1, bar_ok ok (by decide), hlB, hlM, trivial⟩
        · exact ⟨_, _, _, _, _, _, W, rfl, hS, hx1, hg1, ok, hlB, hlM, trivial⟩
      clear hS hx hg ok hlB hlM
      rintro σ H3 ⟨v4, v6, v7, x, g, n, W, rfl, hS, hx, hg, ok, hlB, hlM, _⟩
      repeat' walk_at "st"
      refine u_forR1 (fun _ => LI K H sc pst w B M (fun _ => True)) (by omega) (by omega) ⟨_, _, _, _, _, _, W, rfl, hS, hx, hg, ok, hlB, hlM, trivial⟩ ?_ ?_
      · clear hS hx hg ok hlB hlM
        rintro i σ H3 hi ⟨v4, v6, v7, x, g, n, W, rfl, hS, hx, hg, ok, hlB, hlM, _⟩
        repeat' walk_at "st"
        · refine u_forR2 (fun i' σ H' => ∃ v, σ = [some (.ref sc), some (.ref pst), some (.int w), some (.ref B.b), some (.int (i : Nat)), some (.ref M.m), v6, v] ∧ SH [] H H' ((pst, stO sc x g n) :: (mCells M (W.down.clrS (ST W.down i')) ++ bCells K B W))) (by decide) ⟨_, rfl, by rw [clrS_0]; exact hS⟩ ?_ ?_
          · rintro i' σ H2 hi' ⟨v, rfl, hS⟩
            repeat' walk_at "st"
            rw [clrS_step (down_ok ok) (by omega)] at hS
            exact ⟨_, rfl, hS⟩
          · rintro σ H2 ⟨v, rfl, hS⟩
            have hS : SH [] H H2 ((pst, stO sc x g n) :: (mCells M (W.down.clrS (ST W.down 16)) ++ bCells K B W)) := hS
            rw [clrS_16 (down_ok ok)] at hS
            repeat' walk_at "st"
            have hb0 : 0 ≤ W.bar := hc
            rw [downC_pos (by omega)] at hS
            exact ⟨_, _, _, _, _, _, W.down.clr, rfl, hS, hx, hg, clr_ok (down_ok ok), by walk_at "ln", by walk_at "ln", trivial⟩
        · have hb0 : ¬ 0 ≤ W.bar := hc
          have hb1 := ok.b1
          rw [downC_neg (by omega)] at hS
          exact ⟨_, _, _, _, _, _, W.down, rfl, hS, hx, hg, down_ok ok, hlB, hlM, trivial⟩
      clear hS hx hg ok hlB hlM
      rintro σ H3 ⟨v4, v6, v7, x, g, n, W, rfl, hS, hx, hg, ok, hlB, hlM, _⟩
      repeat' walk_at "st"
      have hS : SH [] H H1 (LO K pst sc B M x g n { W with bar := -1 } { W with bar := -1 }) := hS
      refine u_forR1 (fun _ => LI K H sc pst w B M (fun W => W.bar = -1)) (by omega) (by omega) ⟨_, _, _, _, _, _, { W with bar := -1 }, rfl, hS, hx, hg, bar_ok ok (by decide), hlB, hlM, rfl⟩ ?_ ?_
      · clear hS hx hg ok hlB hlM
        rintro i σ H3 hi ⟨v4, v6, v7, x, g, n, W, rfl, hS, hx, hg, ok, hlB, hlM, hbr⟩
        repeat' walk_at "st"
        rw [downC_neg hbr] at hS
        exact ⟨_, _, _, _, _, _, W.down, rfl, hS, hx, hg, down_ok ok, hlB, hlM, hbr⟩
      · rintro σ H3 ⟨v4, v6, v7, x, g, n, W, rfl, hS, hx, hg, ok, hlB, hlM, _⟩
        repeat' walk_at "st"
        exact k _
end
/-! ### the head: facts by names, the run -/
abbrev R : PySem.W.OpenRow := PySem.W.OpenLaw.row PySem.Challenge.rw_windowada_k68_banks
abbrev hk : PySem.W.Hook := He.hookX 5 fa fn ts [] ex
def ob (s : PySem.W.SharedT) : He.AlX := He.obsX 5 fa fn ts [] ex (HandSHeadRun.getT s)
theorem ob_eq (s : PySem.W.SharedT) : ob s = hk.obs s.abs := He.obsX_eq (HandSHeadRun.getT_eq s)
def loose : List Str := (["__name__", "row_of", "clear_new", "TRAP_ADDRESS", "NO_BAR", "Banks", "_law_pick", "_law_is_integer", "_law_word", "_law_find", "_law_get", "_law_set", "_law_move", "_law_counts", "_law_reads", "_law_shift", "_law_deed"] : List Str)
theorem run (w : World) : HandSHeadRun.RunEq R (PySem.W.view R.prog [19]) hk ob 4000 loose w := by
  intro os
  kernel_rfl
theorem law_ask {K : PySem.W.Frag} {H : Hp} (a : Addr) (ns : List Int) (hl : ns.length ≤ 63) (hO : Only H) (hS : SqL K H a (ns.map V.int)) : sp_law K [.ref a] H (fun v _ => v = .bl true) fun _ _ _ => False :=
  by first | exact ⟨_, rfl, a, ns, rfl, Scr.of hS hO, fun _ => rfl⟩ | exact ⟨_, rfl, a, ns, rfl, hl, Scr.of hS hO, fun _ => rfl⟩
theorem facts {w : World} {K : PySem.W.Frag} {h : Heap} {mg : Str → Option Value} {f : Addr} (X : K.In h) (G : h.Ns mainGlobals mg) (hfa : mg ("law" : Str) = some (.ref f)) (c : He.SaysX fa fn ts [] ex w h K) :
    ∃ fd : FuncData, (∀ (s : Shared) (v : Value), BindsTo s fd ⟨[v], []⟩ [("_law_script", v)]) ∧ ∀ base : Heap, K.In base → base.Ns mainGlobals mg → FnOk (PySem.Challenge.rw_windowada_k68_banks).prog w K mg base CX0 6 f fd ["_law_script"] (sp_law K) := by
  have Y : Env w K mg := env_mk X G c
  obtain ⟨fd, F⟩ := Y.fd_law
  have e := hfa.symm.trans Y.mg_law
  cases e
  have b := FunD.bindsA (ps := ["_law_script"]) F fun _ _ _ _ _ _ us hl => match us, hl with | [_], _ => rfl
  refine ⟨fd, fun s v => b s [v] rfl, fun base _ _ => ?_⟩
  have G_Banks_init__ := ok_Banks_init__ (P := (PySem.Challenge.rw_windowada_k68_banks).prog) (w := w) (base := base) Y
  have G_Banks_set_bar := ok_Banks_set_bar (P := (PySem.Challenge.rw_windowada_k68_banks).prog) (w := w) (base := base) Y
  have G_Banks_move_down := ok_Banks_move_down (P := (PySem.Challenge.rw_windowada_k68_banks).prog) (w := w) (base := base) Y
  have G_clear_new := ok_clear_new (P := (PySem.Challenge.rw_windowada_k68_banks).prog) (w := w) (base := base) Y
  have G_Banks_shift_down := ok_Banks_shift_down (P := (PySem.Challenge.rw_windowada_k68_banks).prog) (w := w) (base := base) Y G_Banks_move_down G_clear_new
  have G_Banks_blocked_down := ok_Banks_blocked_down (P := (PySem.Challenge.rw_windowada_k68_banks).prog) (w := w) (base := base) Y
  have G_Banks_blocked_up := ok_Banks_blocked_up (P := (PySem.Challenge.rw_windowada_k68_banks).prog) (w := w) (base := base) Y
  have G_z_is_integer := ok_z_is_integer (P := (PySem.Challenge.rw_windowada_k68_banks).prog) (w := w) (base := base) Y
  have G_z_counts := ok_z_counts (P := (PySem.Challenge.rw_windowada_k68_banks).prog) (w := w) (base := base) Y G_Banks_blocked_down G_Banks_blocked_up G_z_is_integer
  have G_row_of := ok_row_of (P := (PySem.Challenge.rw_windowada_k68_banks).prog) (w := w) (base := base) Y
  have G_Banks_read := ok_Banks_read (P := (PySem.Challenge.rw_windowada_k68_banks).prog) (w := w) (base := base) Y G_row_of
  have G_Banks_write := ok_Banks_write (P := (PySem.Challenge.rw_windowada_k68_banks).prog) (w := w) (base := base) Y G_row_of
  have G_z_find := ok_z_find (P := (PySem.Challenge.rw_windowada_k68_banks).prog) (w := w) (base := base) Y
  have G_z_get := ok_z_get (P := (PySem.Challenge.rw_windowada_k68_banks).prog) (w := w) (base := base) Y G_z_find
  have G_z_pick := ok_z_pick (P := (PySem.Challenge.rw_windowada_k68_banks).prog) (w := w) (base := base) Y
  have G_z_set := ok_z_set (P := (PySem.Challenge.rw_windowada_k68_banks).prog) (w := w) (base := base) Y G_z_find
  have G_Banks_shift_up := ok_Banks_shift_up (P := (PySem.Challenge.rw_windowada_k68_banks).prog) (w := w) (base := base) Y
  have G_Banks_leave_trap := ok_Banks_leave_trap (P := (PySem.Challenge.rw_windowada_k68_banks).prog) (w := w) (base := base) Y G_Banks_read G_Banks_shift_up
  have G_Banks_trap_down := ok_Banks_trap_down (P := (PySem.Challenge.rw_windowada_k68_banks).prog) (w := w) (base := base) Y G_Banks_move_down G_Banks_write
  have G_Banks_trap_up := ok_Banks_trap_up (P := (PySem.Challenge.rw_windowada_k68_banks).prog) (w := w) (base := base) Y G_Banks_move_down G_Banks_write
  have G_z_move := ok_z_move (P := (PySem.Challenge.rw_windowada_k68_banks).prog) (w := w) (base := base) Y
  have G_z_shift := ok_z_shift (P := (PySem.Challenge.rw_windowada_k68_banks).prog) (w := w) (base := base) Y G_Banks_leave_trap G_Banks_shift_down G_Banks_shift_up G_Banks_trap_down G_Banks_trap_up G_z_get G_z_is_integer G_z_move G_z_pick G_z_set
  have G_z_word := ok_z_word (P := (PySem.Challenge.rw_windowada_k68_banks).prog) (w := w) (base := base) Y G_z_pick
  have G_z_deed := ok_z_deed (P := (PySem.Challenge.rw_windowada_k68_banks).prog) (w := w) (base := base) Y G_Banks_read G_Banks_set_bar G_Banks_write G_z_get G_z_is_integer G_z_pick G_z_set G_z_shift G_z_word
  have G_z_reads := ok_z_reads (P := (PySem.Challenge.rw_windowada_k68_banks).prog) (w := w) (base := base) Y G_Banks_read G_z_counts G_z_get G_z_is_integer
  exact ok_law (P := (PySem.Challenge.rw_windowada_k68_banks).prog) (w := w) (base := base) Y G_Banks_init__ G_Banks_set_bar G_Banks_shift_down G_z_counts G_z_deed G_z_move G_z_pick G_z_reads G_z_set F
end Law
open PySem PySem.W PySem.Calls PyProof.Rows
set_option maxRecDepth 100000 in
set_option maxHeartbeats 0 in
theorem PySem.Challenge.cw_windowada_k68_banks_holds : PySem.Challenge.rw_windowada_k68_banks.Holds := by
  w_on; o_law
  refine HandSHeadRun.head_any (r := OpenLaw.row PySem.Challenge.rw_windowada_k68_banks) (q := view (OpenLaw.row PySem.Challenge.rw_windowada_k68_banks).prog [19]) (H := Law.hk) (ob := Law.ob) (M := 4000) (loose := Law.loose) (d := HandSHeadRun.topDef (OpenLaw.row PySem.Challenge.rw_windowada_k68_banks).prog 19) (kwd := []) Law.ob_eq
    (by kernel_rfl) (fun s => by kernel_rfl) Law.run (by kernel_rfl) (by kernel_rfl) (by kernel_rfl) (by rfl) (by first | assumption | decide +kernel) (by decide +kernel) ⟨rfl, rfl, rfl, rfl, rfl, by decide +kernel⟩ ?hw ?hc
  case hw => w_witness2
  case hc =>
    refine L2.walk_ofE (l := PySem.Challenge.rw_windowada_k68_banks) (n := 63) (k := 6) (x := "_law_script") (CX := L2.CX0) rfl (by decide) (by kernel_rfl) ⟨rfl, by decide, by decide⟩ ?F (fun _ _ _ _ z => z)
    intro w mg fa h Y G hmg0
    obtain ⟨K, KX, c⟩ := Y
    have hmg : mg ("law" : PySem.Str) = some (.ref fa) := by
      have e : (HandSHeadRun.topDef (OpenLaw.row PySem.Challenge.rw_windowada_k68_banks).prog 19).name = ("law" : PySem.Str) := by kernel_rfl
      rw [← e]
      exact hmg0
    obtain ⟨fd, hb, hF⟩ := Law.facts (w := w) KX G hmg c
    exact ⟨K, fd, Law.sp_law K, KX, hb, fun H a ns hl hO hS => Law.law_ask a ns hl hO hS, hF⟩

