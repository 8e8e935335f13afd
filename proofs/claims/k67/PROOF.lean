import PyProof.Rows.All
import Wide.All
import OpenK.AllK
import Wide.FinOn
import KE.KStateDown
import HandS.ForMost
import HandS.ForExc
import HandS.Wide
import HandS.TupAny
import HandS.TupMul
import HandS.TupLe
import HandS.Sort
import HandS.Style
import HandS.IsInst
import HandS.Defaults
import HandS.Property
import HandS.Head0
import HandS.Head1
import HandS.Head2
import HandS.EndBits
import HandS.HeadEnd
import HandS.HeadHook1
import HandS.HeadHook2
import HandS.HeadHook3
import HandS.HeadHook4
import HandS.HeadWalk
import KE.KTryMore
import HandS.Exc
import HandS.TryMany
import HandS.ExcOwn
import HandS.ExcIs
import HandS.Small
import HandS.WordsExc
import HandS.Strs
import HandS.More
import HandS.ExcCtx
import HandS.HotCalls
import PySem.Challenge.RW_windowada_k67_ring
set_option Elab.async false
set_option linter.all false
set_option maxRecDepth 100000
set_option maxHeartbeats 4000000
/-! Steps over the hand layer: a ledger (what this code owns on the heap), one lemma for each reading, a word that takes one step. -/
namespace Hsh
def Hush (P : Prop) : Prop := P
theorem on {P : Prop} (h : P) : Hush P := h
theorem un {P : Prop} (h : Hush P) : P := h
theorem up {P : Prop} (h : P) : P := h
end Hsh

namespace Q
open PySem PySem.Spec PyProof.Rows L2

/-! ### the ledger -/
abbrev Cell := Addr × HO
def Imm : HO → Bool
  | .tup _ => true
  | .frz _ _ => true
  | _ => false
/-- all that stood is kept but what stood at A (what never changes is kept there, too); nothing is freed -/
structure Keep (A : List Addr) (H H' : Hp) : Prop where
  k : ∀ b o, H b = some o → (b ∉ A ∨ Imm o = true) → H' b = some o
  d : ∀ b, H' b = none → H b = none
theorem Keep.refl (A : List Addr) (H : Hp) : Keep A H H := ⟨fun _ _ e _ => e, fun _ e => e⟩
theorem Keep.trans {A : List Addr} {H H1 H2 : Hp} (a : Keep A H H1) (b : Keep A H1 H2) : Keep A H H2 :=
  ⟨fun c o e q => b.k c o (a.k c o e q) q, fun c e => a.d c (b.d c e)⟩
theorem Keep.mono {A B : List Addr} {H H' : Hp} (a : Keep A H H') (s : ∀ b ∈ A, b ∈ B) : Keep B H H' :=
  ⟨fun c o e q => a.k c o e (q.imp (fun n z => n (s c z)) id), a.d⟩
theorem Keep.nil {B : List Addr} {H H' : Hp} (a : Keep [] H H') : Keep B H H' := a.mono fun _ z => nomatch z
/-- A the cells that stood at the entry H0; L what is known and owned now -/
structure SH (A : List Addr) (H0 H : Hp) (L : List Cell) : Prop where
  hs : ∀ c ∈ L, H c.1 = some c.2
  nd : (L.map (·.1)).Nodup
  kp : Keep A H0 H
  ow : ∀ c ∈ L, c.1 ∈ A ∨ H0 c.1 = none
section
variable {A B : List Addr} {H0 H H' : Hp} {L L' : List Cell} {a p : Addr} {o o' : HO}
theorem SH.start (hs : ∀ c ∈ L, H c.1 = some c.2) (nd : (L.map (·.1)).Nodup) : SH (L.map (·.1)) H H L :=
  ⟨hs, nd, Keep.refl _ _, fun c hc => .inl (List.mem_map_of_mem hc)⟩
theorem SH.start0 : SH [] H H [] := ⟨(fun _ h => nomatch h), List.nodup_nil, Keep.refl _ _, (fun _ h => nomatch h)⟩
theorem SH.start1 (h : H a = some o) : SH [a] H H [(a, o)] := SH.start (L := [(a, o)]) (by intro c hc; rcases List.mem_singleton.mp hc with rfl; exact h) (by simp)
theorem SH.get (S : SH A H0 H L) (i : Nat) (e : L[i]? = some (a, o)) : H a = some o := S.hs _ (List.mem_of_getElem? e)
theorem SH.imm (S : SH A H0 H L) (h : H0 a = some o) (e : Imm o = true) : H a = some o := S.kp.k a o h (.inr e)
theorem SH.new (S : SH A H0 H L) (o : HO) (hp : H p = none) : SH A H0 (upd H p o) ((p, o) :: L) := Hsh.un (by simp (disch := k_dflt (
  refine Hsh.up ?_
  have hne : ∀ c ∈ L, c.1 ≠ p := fun c hc z => by
    have := S.hs c hc
    rw [z, hp] at this
    cases this
  refine ⟨fun c hc => ?_, ?_, ⟨fun b u e q => ?_, fun b e => ?_⟩, fun c hc => ?_⟩
  · rcases List.mem_cons.mp hc with rfl | hc
    · exact upd_same
    · rw [upd_ne (hne c hc)]
      exact S.hs c hc
  · rw [List.map_cons, List.nodup_cons]
    refine ⟨fun z => ?_, S.nd⟩
    obtain ⟨c, hc, e⟩ := List.mem_map.mp z
    exact hne c hc e
  · have h1 := S.kp.k b u e q
    rw [upd_ne (ne_of_none h1 hp)]
    exact h1
  · by_cases hb : b = p
    · rw [hb, upd_same] at e
      cases e
    · rw [upd_ne hb] at e
      exact S.kp.d b e
  · rcases List.mem_cons.mp hc with rfl | hc
    · exact .inr (S.kp.d _ hp)
    · exact S.ow c hc
  )) only [↓Hsh.on])
theorem mem_set_cell {L : List Cell} {i : Nat} {c d : Cell} (h : c ∈ L.set i d) : c = d ∨ ∃ j, j ≠ i ∧ L[j]? = some c := Hsh.un (by simp (disch := k_dflt (
  refine Hsh.up ?_
  obtain ⟨j, hj, e⟩ := List.mem_iff_getElem.mp h
  by_cases q : j = i
  · left
    subst q
    rw [List.getElem_set_self] at e
    exact e.symm
  · right
    refine ⟨j, q, ?_⟩
    rw [List.length_set] at hj
    rw [List.getElem_set_ne (Ne.symm q)] at e
    rw [List.getElem?_eq_getElem hj, e]
  )) only [↓Hsh.on])
theorem map_set_key {L : List Cell} {i : Nat} {a : Addr} {o o' : HO} (e : L[i]? = some (a, o)) : (L.set i (a, o')).map (·.1) = L.map (·.1) := Hsh.un (by simp (disch := k_dflt (
  refine Hsh.up ?_
  apply List.ext_getElem?
  intro j
  rw [List.getElem?_map, List.getElem?_map, List.getElem?_set]
  by_cases q : i = j
  · subst q
    obtain ⟨hi, e2⟩ := List.getElem?_eq_some_iff.mp e
    rw [if_pos rfl, if_pos hi, e]
    rfl
  · rw [if_neg q]
  )) only [↓Hsh.on])
theorem nodup_key {L : List Cell} (nd : (L.map (·.1)).Nodup) {i j : Nat} {c d : Cell} (h1 : L[i]? = some c) (h2 : L[j]? = some d) (ne : j ≠ i) : d.1 ≠ c.1 := fun z => by
  have e1 : (L.map (·.1))[i]? = some c.1 := by rw [List.getElem?_map, h1]; rfl
  have e2 : (L.map (·.1))[j]? = some c.1 := by rw [List.getElem?_map, h2]; exact congrArg some z
  obtain ⟨l1, q1⟩ := List.getElem?_eq_some_iff.mp e1
  obtain ⟨l2, q2⟩ := List.getElem?_eq_some_iff.mp e2
  exact ne ((List.getElem_inj nd).mp (q2.trans q1.symm))
theorem SH.set (S : SH A H0 H L) (i : Nat) (e : L[i]? = some (a, o)) (im : Imm o = false) (o' : HO) : SH A H0 (upd H a o') (L.set i (a, o')) := Hsh.un (by simp (disch := k_dflt (
  refine Hsh.up ?_
  have ha := S.get i e
  refine ⟨fun c hc => ?_, ?_, ⟨fun b u q z => ?_, fun b q => ?_⟩, fun c hc => ?_⟩
  · rcases mem_set_cell hc with rfl | ⟨j, nj, ej⟩
    · exact upd_same
    · rw [upd_ne (nodup_key S.nd e ej nj)]
      exact S.hs c (List.mem_of_getElem? ej)
  · rw [map_set_key e]
    exact S.nd
  · have h1 := S.kp.k b u q z
    have nb : b ≠ a := fun y => by
      subst y
      rw [ha] at h1
      cases h1
      rcases z with z | z
      · rcases S.ow _ (List.mem_of_getElem? e) with w | w
        · exact z w
        · rw [q] at w
          cases w
      · rw [im] at z
        cases z
    rw [upd_ne nb]
    exact h1
  · by_cases hb : b = a
    · rw [hb, upd_same] at q
      cases q
    · rw [upd_ne hb] at q
      exact S.kp.d b q
  · rcases mem_set_cell hc with rfl | ⟨j, nj, ej⟩
    · exact S.ow (a, o) (List.mem_of_getElem? e)
    · exact S.ow c (List.mem_of_getElem? ej)
  )) only [↓Hsh.on])
/-- behind a call that changed at most what stands at the keys of U (their new cells), each of them a cell of L -/
theorem SH.call0 (S : SH A H0 H L) (k : Keep [] H H') : SH A H0 H' L :=
  ⟨fun c hc => k.k _ _ (S.hs c hc) (.inl (by simp)), S.nd, S.kp.trans k.nil, S.ow⟩
theorem SH.call1 (S : SH A H0 H L) (i : Nat) (e : L[i]? = some (a, o)) (im : Imm o = false) (k : Keep [a] H H') (h : H' a = some o') : SH A H0 H' (L.set i (a, o')) := Hsh.un (by simp (disch := k_dflt (
  refine Hsh.up ?_
  have ha := S.get i e
  refine ⟨fun c hc => ?_, by rw [map_set_key e]; exact S.nd, ⟨fun b u q z => ?_, fun b q => S.kp.d b (k.d b q)⟩, fun c hc => ?_⟩
  · rcases mem_set_cell hc with rfl | ⟨j, nj, ej⟩
    · exact h
    · exact k.k _ _ (S.hs c (List.mem_of_getElem? ej)) (.inl fun z => nodup_key S.nd e ej nj (List.mem_singleton.mp z))
  · have h1 := S.kp.k b u q z
    refine k.k b u h1 ?_
    rcases z with z | z
    · refine .inl fun y => ?_
      have y' := List.mem_singleton.mp y
      subst y'
      rcases S.ow _ (List.mem_of_getElem? e) with w | w
      · exact z w
      · rw [q] at w
        cases w
    · exact .inr z
  · rcases mem_set_cell hc with rfl | ⟨j, nj, ej⟩
    · exact S.ow (a, o) (List.mem_of_getElem? e)
    · exact S.ow c (List.mem_of_getElem? ej)
  )) only [↓Hsh.on])
/-- a new object of a callee -/
theorem SH.add (S : SH A H0 H L) (S' : SH A H0 H' L') (ks : ∀ c ∈ L', H c.1 ≠ none) (n : H p = none) (h : H' p = some o) : SH A H0 H' ((p, o) :: L') := Hsh.un (by simp (disch := k_dflt (
  refine Hsh.up ?_
  refine ⟨fun c hc => ?_, ?_, S'.kp, fun c hc => ?_⟩
  · rcases List.mem_cons.mp hc with rfl | hc
    · exact h
    · exact S'.hs c hc
  · rw [List.map_cons, List.nodup_cons]
    refine ⟨fun z => ?_, S'.nd⟩
    obtain ⟨c, hc, e⟩ := List.mem_map.mp z
    exact ks c hc (e ▸ n)
  · rcases List.mem_cons.mp hc with rfl | hc
    · exact .inr (S.kp.d _ n)
    · exact S'.ow c hc
  )) only [↓Hsh.on])
theorem SH.call0n (S : SH A H0 H L) (k : Keep [] H H') (n : H p = none) (h : H' p = some o) : SH A H0 H' ((p, o) :: L) :=
  S.add (S.call0 k) (fun c hc => by rw [S.hs c hc]; exact nofun) n h
theorem SH.call1n {q : Addr} {u : HO} (S : SH A H0 H L) (i : Nat) (e : L[i]? = some (a, o)) (im : Imm o = false) (k : Keep [a] H H') (h : H' a = some o') (n : H q = none) (h2 : H' q = some u) : SH A H0 H' ((q, u) :: L.set i (a, o')) := Hsh.un (by simp (disch := k_dflt (
  refine Hsh.up ?_
  refine S.add (S.call1 i e im k h) (fun c hc => ?_) n h2
  rcases mem_set_cell hc with rfl | ⟨j, nj, ej⟩
  · rw [S.get i e]
    exact nofun
  · rw [S.hs c (List.mem_of_getElem? ej)]
    exact nofun
  )) only [↓Hsh.on])
theorem SH.sub (S : SH A H0 H L) (s : L'.Sublist L) : SH A H0 H L' :=
  ⟨fun c hc => S.hs c (s.subset hc), (s.map _).nodup S.nd, S.kp, fun c hc => S.ow c (s.subset hc)⟩
theorem SH.pick (S : SH A H0 H L) (is : List Nat) (nd : is.Nodup) (e : is.map (fun i => L[i]?) = L'.map some) : SH A H0 H L' := Hsh.un (by simp (disch := k_dflt (
  refine Hsh.up ?_
  have at_ : ∀ (j : Nat) (c : Cell), L'[j]? = some c → ∃ i, is[j]? = some i ∧ L[i]? = some c := fun j c h => by
    have q : (is.map (fun i => L[i]?))[j]? = some (some c) := by rw [e, List.getElem?_map, h]; rfl
    rw [List.getElem?_map] at q
    cases h2 : is[j]? with
    | none => rw [h2] at q; cases q
    | some i => rw [h2] at q; exact ⟨i, rfl, Option.some.inj q⟩
  have mem : ∀ c ∈ L', c ∈ L := fun c hc => by
    obtain ⟨j, hj, e2⟩ := List.mem_iff_getElem.mp hc
    obtain ⟨i, _, h⟩ := at_ j c (by rw [List.getElem?_eq_getElem hj, e2])
    exact List.mem_of_getElem? h
  refine ⟨fun c hc => S.hs c (mem c hc), ?_, S.kp, fun c hc => S.ow c (mem c hc)⟩
  refine List.pairwise_iff_getElem.mpr fun a b ha hb hab z => ?_
  rw [List.length_map] at ha hb
  rw [List.getElem_map, List.getElem_map] at z
  obtain ⟨i, i1, i2⟩ := at_ a _ (List.getElem?_eq_getElem ha)
  obtain ⟨j, j1, j2⟩ := at_ b _ (List.getElem?_eq_getElem hb)
  have hij : i ≠ j := fun q => by
    subst q
    obtain ⟨l1, q1⟩ := List.getElem?_eq_some_iff.mp i1
    obtain ⟨l2, q2⟩ := List.getElem?_eq_some_iff.mp j1
    have := (List.getElem_inj nd).mp (q1.trans q2.symm)
    omega
  exact nodup_key S.nd i2 j2 (Ne.symm hij) z.symm
  )) only [↓Hsh.on])
theorem SH.drop1 {c : Cell} (S : SH A H0 H (c :: L)) : SH A H0 H L := S.sub (List.sublist_cons_self _ _)
theorem SH.perm (S : SH A H0 H L) (p : L.Perm L') : SH A H0 H L' :=
  ⟨fun c hc => S.hs c (p.mem_iff.mpr hc), (p.map _).nodup_iff.mp S.nd, S.kp, fun c hc => S.ow c (p.mem_iff.mpr hc)⟩
theorem SH.ro (S : SH [] H0 H L) (h : H0 a = some o) : H a = some o := S.kp.k a o h (.inl fun z => nomatch z)
/-- what this code did, seen from outside -/
theorem SH.done (S : SH A H0 H L) : Keep A H0 H := S.kp
theorem SH.ne (S : SH A H0 H L) {i j : Nat} {c d : Cell} (h1 : L[i]? = some c) (h2 : L[j]? = some d) (ne : j ≠ i) : d.1 ≠ c.1 := nodup_key S.nd h1 h2 ne
end

/-- behind a call that turned the cells B into B2 -/
theorem SH.call {A : List Addr} {H0 H H' : Hp} {B B2 F : List Cell} (S : SH A H0 H (B ++ F)) (C : SH (B.map (·.1)) H H' B2) : SH A H0 H' (B2 ++ F) := Hsh.un (by simp (disch := k_dflt (
  refine Hsh.up ?_
  have apart : ∀ c ∈ F, c.1 ∉ B.map (·.1) := fun c hc z => by
    have nd := S.nd
    rw [List.map_append] at nd
    exact (List.nodup_append.mp nd).2.2 c.1 z c.1 (List.mem_map_of_mem hc) rfl
  refine ⟨fun c hc => ?_, ?_, ⟨fun b o e q => ?_, fun b e => S.kp.d b (C.kp.d b e)⟩, fun c hc => ?_⟩
  · rcases List.mem_append.mp hc with h | h
    · exact C.hs c h
    · exact C.kp.k _ _ (S.hs c (List.mem_append_right _ h)) (.inl (apart c h))
  · rw [List.map_append]
    have nd := S.nd
    rw [List.map_append] at nd
    refine List.nodup_append.mpr ⟨C.nd, (List.nodup_append.mp nd).2.1, fun a ha b hb e => ?_⟩
    subst e
    obtain ⟨c, hc, rfl⟩ := List.mem_map.mp ha
    obtain ⟨d, hd, e⟩ := List.mem_map.mp hb
    rcases C.ow c hc with w | w
    · exact apart d hd (by rw [e]; exact w)
    · rw [← e, S.hs d (List.mem_append_right _ hd)] at w
      cases w
  · have h1 := S.kp.k b o e q
    refine C.kp.k b o h1 ?_
    rcases q with q | q
    · refine .inl fun z => ?_
      obtain ⟨c, hc, e2⟩ := List.mem_map.mp z
      rcases S.ow c (List.mem_append_left _ hc) with w | w
      · exact q (e2 ▸ w)
      · rw [e2, e] at w
        cases w
    · exact .inr q
  · rcases List.mem_append.mp hc with h | h
    · rcases C.ow c h with w | w
      · obtain ⟨d, hd, e⟩ := List.mem_map.mp w
        rw [← e]
        exact S.ow d (List.mem_append_left _ hd)
      · exact .inr (S.kp.d _ w)
    · exact S.ow c (List.mem_append_right _ h)
  )) only [↓Hsh.on])
theorem SH.pickT {A : List Addr} {H0 H : Hp} {L L' : List Cell} (n : Nat) (S : SH A H0 H L) (is : List Nat) (nd : is.Nodup) (hb : ∀ i ∈ is, i < n) (e : is.map (fun i => L[i]?) = L'.map some) : SH A H0 H (L' ++ L.drop n) := Hsh.un (by simp (disch := k_dflt (
  refine Hsh.up ?_
  have S1 := S.pick is nd e
  have S2 := S.sub (List.drop_sublist n L)
  refine ⟨fun c hc => (List.mem_append.mp hc).elim (S1.hs c) (S2.hs c), ?_, S.kp, fun c hc => (List.mem_append.mp hc).elim (S1.ow c) (S2.ow c)⟩
  rw [List.map_append]
  refine List.nodup_append.mpr ⟨S1.nd, S2.nd, fun a ha b hb' q => ?_⟩
  subst q
  obtain ⟨c, hc, rfl⟩ := List.mem_map.mp ha
  obtain ⟨d, hd, ed⟩ := List.mem_map.mp hb'
  obtain ⟨j, hj, ej⟩ := List.mem_iff_getElem.mp hc
  obtain ⟨m, hm, em⟩ := List.mem_iff_getElem.mp hd
  have q : (is.map (fun i => L[i]?))[j]? = some (some c) := by rw [e, List.getElem?_map, List.getElem?_eq_getElem hj, ej]; rfl
  rw [List.getElem?_map] at q
  cases h2 : is[j]? with
  | none => rw [h2] at q; cases q
  | some i =>
    rw [h2] at q
    have hi := hb i (List.mem_of_getElem? h2)
    have e1 : L[i]? = some c := Option.some.inj q
    have e2 : L[n + m]? = some d := by rw [← List.getElem?_drop, List.getElem?_eq_getElem hm, em]
    exact nodup_key S.nd e1 e2 (by omega) ed
  )) only [↓Hsh.on])
theorem perm_mid {α : Type} (A B S : List α) : ((A ++ B) ++ S).Perm (A ++ (S ++ B)) := by
  rw [List.append_assoc]
  exact List.Perm.append_left _ List.perm_append_comm
/-- cells that are there, apart -/
structure Blk (H : Hp) (B : List Cell) : Prop where
  hs : ∀ c ∈ B, H c.1 = some c.2
  nd : (B.map (·.1)).Nodup
theorem SH.callM {A : List Addr} {H0 H H' : Hp} {F B B2 G : List Cell} (S : SH A H0 H (F ++ (B ++ G))) (C : SH (B.map (·.1)) H H' B2) : SH A H0 H' (F ++ (B2 ++ G)) := Hsh.un (by simp (disch := k_dflt (
  refine Hsh.up ?_
  have p : ∀ X : List Cell, (F ++ (X ++ G)).Perm (X ++ (F ++ G)) := fun X => by
    rw [← List.append_assoc, ← List.append_assoc]
    exact List.Perm.append_right _ List.perm_append_comm
  exact ((S.perm (p B)).call C).perm (p B2).symm
  )) only [↓Hsh.on])
theorem SH.callR {A : List Addr} {H0 H H' : Hp} {F B B2 : List Cell} (S : SH A H0 H (F ++ B)) (C : SH (B.map (·.1)) H H' B2) : SH A H0 H' (F ++ B2) :=
  ((S.perm List.perm_append_comm).call C).perm List.perm_append_comm
theorem SH.blkM {A : List Addr} {H0 H : Hp} (F B G : List Cell) (S : SH A H0 H (F ++ (B ++ G))) : Blk H B := ⟨fun c hc => S.hs c (List.mem_append_right _ (List.mem_append_left _ hc)), by
  have nd := S.nd
  rw [List.map_append, List.map_append] at nd
  exact (List.nodup_append.mp (List.nodup_append.mp nd).2.1).1⟩
theorem SH.blkR {A : List Addr} {H0 H : Hp} (F B : List Cell) (S : SH A H0 H (F ++ B)) : Blk H B := ⟨fun c hc => S.hs c (List.mem_append_right _ hc), by
  have nd := S.nd
  rw [List.map_append] at nd
  exact (List.nodup_append.mp nd).2.1⟩
theorem Blk.sh {H : Hp} {B : List Cell} (b : Blk H B) : SH (B.map (·.1)) H H B := SH.start b.hs b.nd
theorem SH.blk {A : List Addr} {H0 H : Hp} {L : List Cell} (S : SH A H0 H L) : Blk H L := ⟨S.hs, S.nd⟩
theorem Blk.sub {H : Hp} {B B' : List Cell} (b : Blk H B) (s : B'.Sublist B) : Blk H B' := ⟨fun c hc => b.hs c (s.subset hc), (s.map _).nodup b.nd⟩
theorem SH.fr0 {H0 H : Hp} {L : List Cell} {p : Addr} {o : HO} (S : SH [] H0 H L) (i : Nat) (e : L[i]? = some (p, o)) : H0 p = none := (S.ow (p, o) (List.mem_of_getElem? e)).elim (fun z => nomatch z) id
theorem SH.fr1 {H0 H : Hp} {L : List Cell} {p a : Addr} {o u : HO} (S : SH [a] H0 H L) (i j : Nat) (e : L[i]? = some (p, o)) (e2 : L[j]? = some (a, u)) (ne : i ≠ j) : H0 p = none :=
  (S.ow (p, o) (List.mem_of_getElem? e)).elim (fun z => absurd (List.mem_singleton.mp z) (nodup_key S.nd e2 e ne)) id
theorem SH.frn {A : List Addr} {H0 H : Hp} {L : List Cell} {p : Addr} {o : HO} (S : SH A H0 H L) (i : Nat) (e : L[i]? = some (p, o)) (n : p ∉ A) : H0 p = none := (S.ow (p, o) (List.mem_of_getElem? e)).elim (fun z => absurd z n) id
/-- the script (or another list that nobody changes) -/
def Scr (K : PySem.W.Frag) (H : Hp) (a : Addr) (xs : List V) : Prop :=
  (∃ o, H a = some (.frz o (.lst xs))) ∨
    ∃ (o : Obj) (its : Array Value) (n : Nat), K.lookup a = some o ∧ o.cls = .type "list" ∧ o.dict = none ∧ o.data = .seq its n ∧ its.size ≤ sizeLine ∧ Vals xs its.toList
theorem Scr.sq {K : PySem.W.Frag} {H : Hp} {a : Addr} {xs : List V} (h : Scr K H a xs) : SqL K H a xs := Hsh.un (by simp (disch := k_dflt (
  refine Hsh.up ?_
  rcases h with ⟨o, h⟩ | h
  · exact .inl (.inr ⟨o, h⟩)
  · exact .inr h
  )) only [↓Hsh.on])
theorem Scr.keep {K : PySem.W.Frag} {A : List Addr} {H H' : Hp} {a : Addr} {xs : List V} (h : Scr K H a xs) (k : Keep A H H') : Scr K H' a xs := Hsh.un (by simp (disch := k_dflt (
  refine Hsh.up ?_
  rcases h with ⟨o, h⟩ | h
  · exact .inl ⟨o, k.k _ _ h (.inr rfl)⟩
  · exact .inr h
  )) only [↓Hsh.on])
theorem Scr.of {K : PySem.W.Frag} {H : Hp} {a : Addr} {xs : List V} (h : SqL K H a xs) (O : Only H) : Scr K H a xs := Hsh.un (by simp (disch := k_dflt (
  refine Hsh.up ?_
  rcases h with (h | ⟨o, h⟩) | h
  · rcases O a with q | ⟨o, ys, q⟩
    · rw [q] at h
      cases h
    · rw [q] at h
      cases h
  · exact .inl ⟨o, h⟩
  · exact .inr h
  )) only [↓Hsh.on])

/-! ### operators for several kinds of values -/
section
variable {X : Cx}
def CDivX (_ j : Int) : Prop := j ≠ 0 ∧ j.natAbs.log2 < 9000
theorem op_fdivX : OpR X (binaryOp .FloorDiv) (rI CDivX fun i j => .int (i.fdiv j)) := opI fun _ _ _ _ _ _ _ hc q => floordiv_int hc.1 q (.inl (PyProof.noPylong_of_log2 hc.2))
def rAddX (K : PySem.W.Frag) : R2 := fun x y H Q => rI0 (fun i j => .int (i + j)) x y H Q ∨ (∃ i j, x = .str i ∧ y = .str j ∧ i.length + j.length ≤ sizeLine ∧ Q (.str (i ++ j)) H) ∨ rCat x y H Q ∨ rCatA K x y H Q
theorem xAdd : OpR X (binaryOp .Add) (rAddX X.K) := op_add.or (op_add_str.or (op_cat.or op_catA))
def rMulX (K : PySem.W.Frag) : R2 := fun x y H Q => rI CMul (fun i j => .int (i * j)) x y H Q ∨ rI CMulW (fun i j => .int (i * j)) x y H Q ∨ rRep x y H Q ∨ rRepT K x y H Q
theorem xMul : OpR X (binaryOp .Mult) (rMulX X.K) := op_mul.or (op_mulW.or (op_rep.or op_repT))
def rDivX : R2 := fun x y H Q => rI CDivW (fun i j => .int (i / j)) x y H Q ∨ rI CDivX (fun i j => .int (i.fdiv j)) x y H Q
theorem xDiv : OpR X (binaryOp .FloorDiv) rDivX := op_fdivW.or op_fdivX
def rModX : R2 := fun x y H Q => rI (fun _ j => 0 < j) (fun i j => .int (i % j)) x y H Q ∨ rI (fun _ j => j ≠ 0) (fun i j => .int (i.fmod j)) x y H Q
theorem xMod : OpR X (binaryOp .Mod) rModX := op_mod.or op_modN
def rEqX (K : PySem.W.Frag) : R2 := fun x y H Q => rEq x y H Q ∨ rEqD K x y H Q
def rNeX (K : PySem.W.Frag) : R2 := fun x y H Q => rNe x y H Q ∨ rNeD K x y H Q
theorem xEq (hu : X.A.units + 64 < cLine) : OpR X (compareOp .Eq) (rEqX X.K) := op_eq.or (op_eqD hu)
theorem xNe (hu : X.A.units + 64 < cLine) : OpR X (compareOp .NotEq) (rNeX X.K) := op_ne.or (op_neD hu)
def rInX (K : PySem.W.Frag) (neg : Bool) : R2 := rIn K neg
theorem xIn : OpR X (compareOp .In) (rInX X.K false) := op_in_seq
theorem xNotIn : OpR X (compareOp .NotIn) (rInX X.K true) := op_notIn_seq
def rIsX : R2 := fun x y H Q => (y = .non ∧ Q (.bl (decide (x = .non))) H) ∨ (∃ a b, x = .bl a ∧ y = .bl b ∧ Q (.bl (decide (a = b))) H)
def rIsNotX : R2 := fun x y H Q => (y = .non ∧ Q (.bl (!decide (x = .non))) H) ∨ (∃ a b, x = .bl a ∧ y = .bl b ∧ Q (.bl (!decide (a = b))) H)
theorem xIs : OpR X (compareOp .Is) rIsX := op_isN.or op_is_bl
theorem xIsNot : OpR X (compareOp .IsNot) rIsNotX := op_notN.or op_isnot_bl
def rIxX (K : PySem.W.Frag) : R2 := rIx K
theorem xIx : IxR X (rIxX X.K) := ix_seq
def rSlX (K : PySem.W.Frag) : V → Option Int → Option Int → Hp → VK → Prop := fun x lo hi H Q => rSlL K x lo hi H Q ∨ rSlT K x lo hi H Q
theorem xSl : SlR X (rSlX X.K) := sl_list.or sl_tup
theorem CallR.or {f : Value} {r r' : List V → Hp → VK → Prop} (h : CallR X f r) (h' : CallR X f r') : CallR X f (fun xs H Q => r xs H Q ∨ r' xs H Q) := Hsh.un (by simp (disch := k_dflt (
  refine Hsh.up ?_
  intro pins s σ H xs us Q I r1 q
  rcases q with q | q
  · exact h pins s σ H xs us Q I r1 q
  · exact h' pins s σ H xs us Q I r1 q
  )) only [↓Hsh.on])
def rInt : List V → Hp → VK → Prop := fun xs H Q => (∃ i, xs = [.int i] ∧ Q (.int i) H) ∨ ∃ k, xs = [.bl k] ∧ Q (.int (if k then 1 else 0)) H
theorem x_int : CallR X (.type "int") rInt := call_int1
def rLenX (K : PySem.W.Frag) : List V → Hp → VK → Prop := fun xs H Q => ∃ x n, xs = [x] ∧ LenV K x H n ∧ Q (.int n) H
theorem x_len : CallR X (.builtin "len") (rLenX X.K) := call_len
def rAbs : List V → Hp → VK → Prop := fun xs H Q => ∃ i, xs = [.int i] ∧ Q (.int (if i < 0 then -i else i)) H
theorem x_abs : CallR X (.builtin "abs") rAbs := call_abs
def rIsiX (K : PySem.W.Frag) : List V → Hp → VK → Prop := fun xs H Q => rIsi K xs H Q ∨ rIsiT K xs H Q
theorem x_isinstance : CallR X (.builtin "isinstance") (rIsiX X.K) := CallR.or call_isi call_isiT
def rListX (K : PySem.W.Frag) : List V → Hp → VK → Prop := fun xs H Q => ∃ p ys, xs = [.ref p] ∧ (SqL K H p ys ∨ SqT K H p ys) ∧ ∀ l, H l = none → Q (.ref l) (upd H l (.lst ys))
theorem x_list : CallR X (.type "list") (rListX X.K) := call_list_of
def rTupX (K : PySem.W.Frag) : List V → Hp → VK → Prop := fun xs H Q => ∃ p ys, xs = [.ref p] ∧ ((SqL K H p ys ∧ ∀ l, H l = none → Q (.ref l) (upd H l (.tup ys))) ∨ (SqT K H p ys ∧ Q (.ref p) H))
theorem x_tuple : CallR X (.type "tuple") (rTupX X.K) := call_tuple_of
def rMax2 : List V → Hp → VK → Prop := fun xs H Q => ∃ i j, xs = [.int i, .int j] ∧ Q (.int (if j > i then j else i)) H
theorem x_max2 (hc : X.calm = true) : CallR X (.builtin "max") rMax2 := call_max2 hc
def rMin2 : List V → Hp → VK → Prop := fun xs H Q => ∃ i j, xs = [.int i, .int j] ∧ Q (.int (if j < i then j else i)) H
theorem x_min2 (hc : X.calm = true) : CallR X (.builtin "min") rMin2 := call_min2 hc
theorem x_sum (hc : X.calm = true) : CallR X (.builtin "sum") (rSum X.K) := cr_sum hc
theorem x_max1 (hc : X.calm = true) : CallR X (.builtin "max") (rMax X.K) := cr_max hc
theorem x_min1 (hc : X.calm = true) : CallR X (.builtin "min") (rMin X.K) := cr_min hc
theorem x_all (hc : X.calm = true) : CallR X (.builtin "all") (rAll X.K) := cr_all hc
theorem x_any (hc : X.calm = true) : CallR X (.builtin "any") (rAny X.K) := cr_any hc
/-- a module's constant -/
theorem pe_ci {x : Str} {i : Int} {pos : Pos} (hg : Gl X x) (h : ∃ t, X.mg x = some (.int i t)) (hd : (x == ("__debug__" : Str)) = false := by decide) : PE X (.Name x pos) (tC (.int i)) := by
  obtain ⟨t, h⟩ := h
  exact pe_glob hg h ⟨t, rfl⟩ hd
theorem pe_gr {x : Str} {a : Addr} {pos : Pos} (hg : Gl X x) (h : X.mg x = some (.ref a)) (hd : (x == ("__debug__" : Str)) = false := by decide) : PE X (.Name x pos) (tC (.ref a)) := pe_glob hg h rfl hd
theorem pe_cs {x z : Str} {pos : Pos} (hg : Gl X x) (h : ∃ t, X.mg x = some (.str z t)) (hd : (x == ("__debug__" : Str)) = false := by decide) : PE X (.Name x pos) (tC (.str z)) := by
  obtain ⟨t, h⟩ := h
  exact pe_glob hg h ⟨t, rfl⟩ hd
end

/-! ### == of lists of ints -/
theorem shaped_ints (ns : List Int) : SeqAt.shaped (.list (ns.map PyData.int)) = true := Hsh.un (by simp (disch := k_dflt (
  refine Hsh.up ?_
  have h1 : ∀ l : List Int, PyData.canLayAll0 (l.map PyData.int) = true := fun l => by
    induction l with
    | nil => rfl
    | cons n r ih => rw [List.map_cons, PyData.canLayAll0, ih]; rfl
  have h2 : ∀ l : List Int, PyData.depthAll (l.map PyData.int) = 0 := fun l => by
    induction l with
    | nil => rfl
    | cons n r ih => rw [List.map_cons, PyData.depthAll, ih]; rfl
  unfold SeqAt.shaped
  rw [PyData.canLay0, h1, PyData.depth, h2]
  rfl
  )) only [↓Hsh.on])
theorem eqv_ints : ∀ ns ms : List Int, PyData.eqvAll (ns.map PyData.int) (ms.map PyData.int) = decide (ns = ms)
  | [], [] => by simp [PyData.eqvAll]
  | [], _ :: _ => by simp [PyData.eqvAll]
  | _ :: _, [] => by simp [PyData.eqvAll]
  | n :: ns, m :: ms => by
    rw [List.map_cons, List.map_cons, PyData.eqvAll, eqv_ints ns ms]
    by_cases h : n = m <;> by_cases h2 : ns = ms <;> simp [h, h2, PyData.eqv]
theorem dp_ints {K : PySem.W.Frag} {H : Hp} : ∀ ns : List Int, DpAll K H (ns.map V.int) (ns.map PyData.int)
  | [] => .nil
  | n :: ns => .cons (.int n) (dp_ints ns)
theorem s_eqLI {K : PySem.W.Frag} {H : Hp} {p q : Addr} {ns ms : List Int} {Q : VK} (h1 : SqL K H p (ns.map V.int)) (h2 : SqL K H q (ms.map V.int)) (h : Q (.bl (decide (ns = ms))) H) : rEqX K (.ref p) (.ref q) H Q :=
  .inr ⟨_, _, .lst h1 (dp_ints ns), .lst h2 (dp_ints ms), shaped_ints ns, shaped_ints ms, by rw [PyData.eqv, eqv_ints]; exact h⟩
/-! ### defs of the program -/
/-- the name x stands for a def that keeps the promise sp -/
structure CallOk (P : Program) (w : World) (K : PySem.W.Frag) (mg : Str → Option Value) (base : Heap) (CX : CXT) (k : Nat) (x : Str) (ps : List Str) (sp : Sp) : Prop where
  ex : ∃ f fd, mg x = some (.ref f) ∧ PySem.W.keepIn K (.ref f) = true ∧ Binds K fd ps [] ∧ FnOk P w K mg base CX k f fd ps sp
section
variable {X : Cx} {CX : CXT} {k : Nat} {ps : List Str} {sp : Sp} {E : XK} {x : Str} {p pos : Pos} {e : Expr} {es : List Expr} {t : TA}
theorem pe_callG (F : CallOk X.prog X.w X.K X.mg X.base CX k x ps sp) (hr : Room k X.A) (hg : Gl X x) (hx : Passes CX X E)
    (ha : PA X (e :: es) t) (hdb : (x == ("__debug__" : Str)) = false := by decide) (he : starEach (e :: es) X.env = (false, eval e X.env) :: starEach es X.env := by rfl) (hpl : (backTo pos (starEach es X.env)).any (·.1) = false := by rfl) :
    PE X (.Call (.Name x p) (e :: es) [] pos) (tCall sp [] E t) := by
  obtain ⟨f, fd, h1, h2, h3, h4⟩ := F.ex
  exact pe_call h4 hr hg h1 h2 h3 .nil hx ha hdb he hpl
theorem pe_callG0 (F : CallOk X.prog X.w X.K X.mg X.base CX k x ps sp) (hr : Room k X.A) (hg : Gl X x) (hx : Passes CX X E) (hdb : (x == ("__debug__" : Str)) = false := by decide) :
    PE X (.Call (.Name x p) [] [] pos) (tCall sp [] E tNil) := by
  obtain ⟨f, fd, h1, h2, h3, h4⟩ := F.ex
  exact pe_call0 h4 hr hg h1 h2 h3 .nil hx hdb
end
/-- the method m of the class that stands under the name C -/
structure MethOk (P : Program) (w : World) (K : PySem.W.Frag) (mg : Str → Option Value) (base : Heap) (CX : CXT) (k : Nat) (C m : Str) (ps : List Str) (sp : Sp) : Prop where
  ex : ∃ fd, Cls K (He.ga K C) ∧ Meth K (He.ga K C) m (He.ma K (He.ga K C) m) ∧ Binds K fd ps [] ∧ FnOk P w K mg base CX k (He.ma K (He.ga K C) m) fd ps sp
structure MakeOk (P : Program) (w : World) (K : PySem.W.Frag) (mg : Str → Option Value) (base : Heap) (CX : CXT) (k : Nat) (C : Str) (ps : List Str) (sp : Sp) : Prop where
  ex : ∃ fd, mg C = some (.ref (He.ga K C)) ∧ Mk K (He.ga K C) (He.ma K (He.ga K C) "__init__") ∧ Binds K fd ps [] ∧ FnOk P w K mg base CX k (He.ma K (He.ga K C) "__init__") fd ps sp
/-- the property f of the class C -/
structure PropOk (P : Program) (w : World) (K : PySem.W.Frag) (mg : Str → Option Value) (base : Heap) (CX : CXT) (k : Nat) (C f : Str) (ps : List Str) (sp : Sp) : Prop where
  ex : ∃ fd p g, Cls K (He.ga K C) ∧ PropOf K (He.ga K C) f p g ∧ Binds K fd ps [] ∧ FnOk P w K mg base CX k g fd ps sp
/-- a method's reading behind its object -/
def methO (C : Addr) (m : Str) (sp : Sp) (E : XK) (t : TA) (σ : L2.St) (x : V) (H : Hp) (Q : VK) : Prop := ∃ a dx fs, x = .ref a ∧ H a = some (.ins C dx fs) ∧ fs.lookup m = none ∧ t σ H fun vs H2 => sp (x :: (vs ++ [])) H2 Q E
def propO (C : Addr) (sp : Sp) (E : XK) (x : V) (H : Hp) (Q : VK) : Prop := ∃ a dx fs, x = .ref a ∧ H a = some (.ins C dx fs) ∧ sp [.ref a] H Q E
def makeO (C : Addr) (sp : Sp) (E : XK) (vs : List V) (H : Hp) (Q : VK) : Prop := ∀ x dx, H x = none → H dx = none → dx ≠ x → sp (.ref x :: (vs ++ [])) (upd (upd H dx (.own x)) x (.ins C dx [])) (fun v H2 => v = .non ∧ Q (.ref x) H2) E
section
variable {X : Cx} {CX : CXT} {k : Nat} {ps : List Str} {sp : Sp} {E : XK} {C m : Str} {p pos apos : Pos} {o e : Expr} {es : List Expr} {t : TA} {ta : TE}
theorem pe_methG {pl : Sem Bool} (he : PE X o ta) (F : MethOk X.prog X.w X.K X.mg X.base CX k C m ps sp) (hr : Room k X.A) (hx : Passes CX X E) (ha : PA X (e :: es) t)
    (hst : starEach (e :: es) X.env = (false, eval e X.env) :: starEach es X.env := by rfl) (hpl : (backTo pos (starEach es X.env)).any (·.1) = false := by rfl)
    (ht : eval (.Call (.Attribute o m apos) (e :: es) [] pos) X.env = (do
      let ov ← eval o X.env
      standAt apos.atName
      let (f, first) ← holding [ov] (getMethod ov m pl)
      callWith pos f first (backTo pos (starEach (e :: es) X.env)) (backToKw pos (keywordEach [] X.env))) := by rfl) :
    PE X (.Call (.Attribute o m apos) (e :: es) [] pos) (fun σ H Q => ta σ H fun x H1 => methO (He.ga X.K C) m sp E t σ x H1 Q) := by
  obtain ⟨fd, c, hm, hb, G⟩ := F.ex
  exact pe_meth (pl := pl) he c hm G hr hb .nil hx ha hst hpl ht
theorem pe_methG0 {pl : Sem Bool} (he : PE X o ta) (F : MethOk X.prog X.w X.K X.mg X.base CX k C m ps sp) (hr : Room k X.A) (hx : Passes CX X E)
    (ht : eval (.Call (.Attribute o m apos) [] [] pos) X.env = (do
      let ov ← eval o X.env
      standAt apos.atName
      let (f, first) ← holding [ov] (getMethod ov m pl)
      callWith pos f first (backTo pos (starEach [] X.env)) (backToKw pos (keywordEach [] X.env))) := by rfl) :
    PE X (.Call (.Attribute o m apos) [] [] pos) (fun σ H Q => ta σ H fun x H1 => methO (He.ga X.K C) m sp E tNil σ x H1 Q) := by
  obtain ⟨fd, c, hm, hb, G⟩ := F.ex
  exact pe_meth0 (pl := pl) he c hm G hr hb .nil hx ht
theorem pe_propG (he : PE X o ta) (F : PropOk X.prog X.w X.K X.mg X.base CX k C m ps sp) (hr : Room (k + 1) X.A) (hx : Passes CX X.nox E)
    (hab : attributeBase o m X.env (eval o X.env) = eval o X.env) : PE X (.Attribute o m pos) (fun σ H Q => ta σ H fun x H1 => propO (He.ga X.K C) sp E x H1 Q) := by
  obtain ⟨fd, p, g, c, hp, hb, G⟩ := F.ex
  exact pe_prop he c hp G hr hb .nil hx hab
theorem pe_makeG (F : MakeOk X.prog X.w X.K X.mg X.base CX k C ps sp) (hr : Room (k + 1) X.A) (hg : Gl X C) (hx : Passes CX X E) (ha : PA X (e :: es) t) (hdb : (C == ("__debug__" : Str)) = false := by decide)
    (he : starEach (e :: es) X.env = (false, eval e X.env) :: starEach es X.env := by rfl) (hpl : (backTo pos (starEach es X.env)).any (·.1) = false := by rfl) :
    PE X (.Call (.Name C p) (e :: es) [] pos) (fun σ H Q => t σ H fun vs H1 => makeO (He.ga X.K C) sp E vs H1 Q) := by
  obtain ⟨fd, hm, M, hb, G⟩ := F.ex
  exact pe_make M G hr hg hm hb .nil hx ha hdb he hpl
theorem pe_makeG0 (F : MakeOk X.prog X.w X.K X.mg X.base CX k C ps sp) (hr : Room (k + 1) X.A) (hg : Gl X C) (hx : Passes CX X E) (hdb : (C == ("__debug__" : Str)) = false := by decide) :
    PE X (.Call (.Name C p) [] [] pos) (fun σ H Q => makeO (He.ga X.K C) sp E [] H Q) := by
  obtain ⟨fd, hm, M, hb, G⟩ := F.ex
  exact pe_make0 M G hr hg hm hb .nil hx hdb
end
/-- promises by the number of arguments -/
def mk0 (P : Hp → VK → XK → Prop) : Sp := fun vs H Q E => vs = [] ∧ P H Q E
def mk1 (P : V → Hp → VK → XK → Prop) : Sp := fun vs H Q E => ∃ a, vs = [a] ∧ P a H Q E
def mk2 (P : V → V → Hp → VK → XK → Prop) : Sp := fun vs H Q E => ∃ a b, vs = [a, b] ∧ P a b H Q E
def mk3 (P : V → V → V → Hp → VK → XK → Prop) : Sp := fun vs H Q E => ∃ a b c, vs = [a, b, c] ∧ P a b c H Q E
def mk4 (P : V → V → V → V → Hp → VK → XK → Prop) : Sp := fun vs H Q E => ∃ a b c d, vs = [a, b, c, d] ∧ P a b c d H Q E
def mk5 (P : V → V → V → V → V → Hp → VK → XK → Prop) : Sp := fun vs H Q E => ∃ a b c d e, vs = [a, b, c, d, e] ∧ P a b c d e H Q E
theorem mk0_len {P} (vs H Q E) (h : mk0 P vs H Q E) : vs.length = 0 := by obtain ⟨rfl, _⟩ := h; rfl
theorem mk1_len {P} (vs H Q E) (h : mk1 P vs H Q E) : vs.length = 1 := by obtain ⟨_, rfl, _⟩ := h; rfl
theorem mk2_len {P} (vs H Q E) (h : mk2 P vs H Q E) : vs.length = 2 := by obtain ⟨_, _, rfl, _⟩ := h; rfl
theorem mk3_len {P} (vs H Q E) (h : mk3 P vs H Q E) : vs.length = 3 := by obtain ⟨_, _, _, rfl, _⟩ := h; rfl
theorem mk4_len {P} (vs H Q E) (h : mk4 P vs H Q E) : vs.length = 4 := by obtain ⟨_, _, _, _, rfl, _⟩ := h; rfl
theorem mk5_len {P} (vs H Q E) (h : mk5 P vs H Q E) : vs.length = 5 := by obtain ⟨_, _, _, _, _, rfl, _⟩ := h; rfl
theorem s_mk0 {P : Hp → VK → XK → Prop} {H Q E} (h : P H Q E) : mk0 P ([] ++ []) H Q E := ⟨rfl, h⟩
theorem s_mk1 {P : V → Hp → VK → XK → Prop} {a H Q E} (h : P a H Q E) : mk1 P ([a] ++ []) H Q E := ⟨a, rfl, h⟩
theorem s_mk2 {P : V → V → Hp → VK → XK → Prop} {a b H Q E} (h : P a b H Q E) : mk2 P ([a, b] ++ []) H Q E := ⟨a, b, rfl, h⟩
theorem s_mk3 {P : V → V → V → Hp → VK → XK → Prop} {a b c H Q E} (h : P a b c H Q E) : mk3 P ([a, b, c] ++ []) H Q E := ⟨a, b, c, rfl, h⟩
theorem s_mk4 {P : V → V → V → V → Hp → VK → XK → Prop} {a b c d H Q E} (h : P a b c d H Q E) : mk4 P ([a, b, c, d] ++ []) H Q E := ⟨a, b, c, d, rfl, h⟩
theorem s_mk5 {P : V → V → V → V → V → Hp → VK → XK → Prop} {a b c d e H Q E} (h : P a b c d e H Q E) : mk5 P ([a, b, c, d, e] ++ []) H Q E := ⟨a, b, c, d, e, rfl, h⟩
theorem cxK {CX : CXT} {P : Program} {w : World} {K : PySem.W.Frag} {mg : Str → Option Value} {base : Heap} {N : List Str} {qual : Str} {scope : Scope} {f : Addr} {cd : Value} {A : Around} {outer : List PySem.Env} {s : Shared} {H : Hp} {E : XK} :
    (cxOf CX P w K mg base N qual scope f cd A outer s H E).nox.K = K := rfl
theorem cxK2 {CX : CXT} {P : Program} {w : World} {K : PySem.W.Frag} {mg : Str → Option Value} {base : Heap} {N : List Str} {qual : Str} {scope : Scope} {f : Addr} {cd : Value} {A : Around} {outer : List PySem.Env} {s : Shared} {H : Hp} {E : XK} :
    (cxOf CX P w K mg base N qual scope f cd A outer s H E).K = K := rfl
theorem hu_room {k : Nat} {A : Around} (hr : Room k A) : A.units + 64 < cLine := hr.units
theorem exget {ex : List (PySem.W.Frag → Bool)} {K : PySem.W.Frag} (h : (ex.all fun f => f K) = true) (i : Nat) {f : PySem.W.Frag → Bool} (e : ex[i]? = some f) : f K = true :=
  List.all_eq_true.mp h f (List.mem_of_getElem? e)

/-! ### one lemma a reading -/
/-- a new object -/
def newO (o : HO) (n : Nat) (H : Hp) (Q : VK) : Prop := n ≤ sizeLine ∧ ∀ p, H p = none → Q (.ref p) (upd H p o)
/-- a field of the value x -/
def fldO (K : PySem.W.Frag) (f : Str) (x : V) (H : Hp) (Q : VK) : Prop := ∃ a C dx fs v, x = .ref a ∧ H a = some (.ins C dx fs) ∧ Cls K C ∧ NoAttr K C f ∧ fs.lookup f = some v ∧ Q v H
def sfldO (K : PySem.W.Frag) (f : Str) (y x : V) (H : Hp) (P : Hp → Prop) : Prop := ∃ a C dx fs, x = .ref a ∧ H a = some (.ins C dx fs) ∧ Cls K C ∧ NoAttr K C f ∧ fs.length < 1000 ∧ P (upd H a (.ins C dx (putF f y fs)))
section
variable {σ σ' : L2.St} {H : Hp} {Q : VK} {K : PySem.W.Frag} {R : Bool → Hp → Prop} {D : Ends} {ta tb : TE} {t u : TS} {tc td : TT} {v : V}
theorem s_var {i : Nat} (e : σ[i]? = some (some v)) (h : Q v H) : tVar i σ H Q := ⟨v, e, h⟩
theorem s_C (h : Q v H) : tC v σ H Q := h
theorem s_op {r : R2} (h : ta σ H fun x H1 => tb σ H1 fun y H2 => r x y H2 Q) : tOp r ta tb σ H Q := h
theorem s_un {r : V → Hp → VK → Prop} (h : ta σ H fun x H1 => r x H1 Q) : tUn r ta σ H Q := h
theorem s_rU {g : Int → V} {i : Int} (h : Q (g i) H) : rU g (.int i) H Q := ⟨i, rfl, h⟩
theorem s_rI0 {g : Int → Int → V} {i j : Int} (h : Q (g i j) H) : rI0 g (.int i) (.int j) H Q := ⟨i, j, rfl, rfl, h⟩
theorem s_rI {C : Int → Int → Prop} {g : Int → Int → V} {i j : Int} (c : C i j) (h : Q (g i j) H) : rI C g (.int i) (.int j) H Q := ⟨i, j, rfl, rfl, c, h⟩
theorem s_addI {i j : Int} (h : Q (.int (i + j)) H) : rAddX K (.int i) (.int j) H Q := .inl ⟨i, j, rfl, rfl, h⟩
theorem s_addS {i j : Str} (c : i.length + j.length ≤ sizeLine) (h : Q (.str (i ++ j)) H) : rAddX K (.str i) (.str j) H Q := .inr (.inl ⟨i, j, rfl, rfl, c, h⟩)
theorem s_mulR {i j : Int} (c : -(2 ^ 64) < j ∧ j < 2 ^ 64) (h : Q (.int (i * j)) H) : rMulX K (.int i) (.int j) H Q := .inl ⟨i, j, rfl, rfl, .inr c, h⟩
theorem s_mulL {i j : Int} (c : -(2 ^ 64) < i ∧ i < 2 ^ 64) (h : Q (.int (i * j)) H) : rMulX K (.int i) (.int j) H Q := .inl ⟨i, j, rfl, rfl, .inl c, h⟩
theorem s_div {i j : Int} (c0 : 0 < j) (c : j < 2 ^ 64) (h : Q (.int (i / j)) H) : rDivX (.int i) (.int j) H Q := .inl ⟨i, j, rfl, rfl, wide_div (b := 64) c0 (by omega) (by decide) (by decide), h⟩
theorem s_divX {i j : Int} (c0 : j ≠ 0) (c : -(2 ^ 64) < j ∧ j < 2 ^ 64) (h : Q (.int (i.fdiv j)) H) : rDivX (.int i) (.int j) H Q :=
  .inr ⟨i, j, rfl, rfl, ⟨c0, Nat.lt_of_lt_of_le (PySem.Flt.log2_lt_of (k := 64) (by decide) (by omega)) (by decide)⟩, h⟩
theorem s_mod {i j : Int} (c : 0 < j) (h : Q (.int (i % j)) H) : rModX (.int i) (.int j) H Q := .inl ⟨i, j, rfl, rfl, c, h⟩
theorem s_modN {i j : Int} (c : j ≠ 0) (h : Q (.int (i.fmod j)) H) : rModX (.int i) (.int j) H Q := .inr ⟨i, j, rfl, rfl, c, h⟩
theorem s_pow {i j : Int} (c : CPow i j) {n : Int} (e : i ^ j.toNat = n) (h : Q (.int n) H) : rI CPow (fun i j => .int (i ^ j.toNat)) (.int i) (.int j) H Q := ⟨i, j, rfl, rfl, c, by show Q (.int (i ^ j.toNat)) H; rw [e]; exact h⟩
theorem s_eqI {i j : Int} (h : Q (.bl (decide (i = j))) H) : rEqX K (.int i) (.int j) H Q := .inl ⟨rfl, by
  have e : decide (V.int i = V.int j) = decide (i = j) := by simp
  rw [e]; exact h⟩
theorem s_neI {i j : Int} (h : Q (.bl (!decide (i = j))) H) : rNeX K (.int i) (.int j) H Q := .inl ⟨rfl, by
  have e : decide (V.int i = V.int j) = decide (i = j) := by simp
  rw [e]; exact h⟩
theorem s_eqS {i j : Str} (h : Q (.bl (decide (i = j))) H) : rEqX K (.str i) (.str j) H Q := .inl ⟨rfl, by
  have e : decide (V.str i = V.str j) = decide (i = j) := by simp
  rw [e]; exact h⟩
theorem s_neS {i j : Str} (h : Q (.bl (!decide (i = j))) H) : rNeX K (.str i) (.str j) H Q := .inl ⟨rfl, by
  have e : decide (V.str i = V.str j) = decide (i = j) := by simp
  rw [e]; exact h⟩
theorem s_eqB {i j : Bool} (h : Q (.bl (decide (i = j))) H) : rEqX K (.bl i) (.bl j) H Q := .inl ⟨rfl, by
  have e : decide (V.bl i = V.bl j) = decide (i = j) := by simp
  rw [e]; exact h⟩
theorem s_neB {i j : Bool} (h : Q (.bl (!decide (i = j))) H) : rNeX K (.bl i) (.bl j) H Q := .inl ⟨rfl, by
  have e : decide (V.bl i = V.bl j) = decide (i = j) := by simp
  rw [e]; exact h⟩
theorem s_isN (h : Q (.bl (decide (v = .non))) H) : rIsX v .non H Q := .inl ⟨rfl, h⟩
theorem s_isNotN (h : Q (.bl (!decide (v = .non))) H) : rIsNotX v .non H Q := .inl ⟨rfl, h⟩
theorem s_isB {a b : Bool} (h : Q (.bl (decide (a = b))) H) : rIsX (.bl a) (.bl b) H Q := .inr ⟨a, b, rfl, rfl, h⟩
theorem s_isNotB {a b : Bool} (h : Q (.bl (!decide (a = b))) H) : rIsNotX (.bl a) (.bl b) H Q := .inr ⟨a, b, rfl, rfl, h⟩
theorem s_inT {p : Addr} {xs : List V} {b : Bool} {neg : Bool} (h1 : SqT K H p xs) (f1 : flatV v = true) (f2 : xs.all flatV = true) (e : (if neg then !inV v xs else inV v xs) = b) (h : Q (.bl b) H) : rInX K neg v (.ref p) H Q :=
  ⟨p, xs, rfl, .inr h1, f1, f2, by rw [e]; exact h⟩
theorem s_inL {p : Addr} {xs : List V} {b : Bool} {neg : Bool} (h1 : SqL K H p xs) (f1 : flatV v = true) (f2 : xs.all flatV = true) (e : (if neg then !inV v xs else inV v xs) = b) (h : Q (.bl b) H) : rInX K neg v (.ref p) H Q :=
  ⟨p, xs, rfl, .inl h1, f1, f2, by rw [e]; exact h⟩
theorem s_inT0 {p : Addr} {xs : List V} (h1 : SqT K H p xs) (f1 : flatV v = true) (f2 : xs.all flatV = true) (h : Q (.bl (inV v xs)) H) : rInX K false v (.ref p) H Q := ⟨p, xs, rfl, .inr h1, f1, f2, h⟩
theorem s_inL0 {p : Addr} {xs : List V} (h1 : SqL K H p xs) (f1 : flatV v = true) (f2 : xs.all flatV = true) (h : Q (.bl (inV v xs)) H) : rInX K false v (.ref p) H Q := ⟨p, xs, rfl, .inl h1, f1, f2, h⟩
theorem s_niT0 {p : Addr} {xs : List V} (h1 : SqT K H p xs) (f1 : flatV v = true) (f2 : xs.all flatV = true) (h : Q (.bl (!inV v xs)) H) : rInX K true v (.ref p) H Q := ⟨p, xs, rfl, .inr h1, f1, f2, h⟩
theorem s_niL0 {p : Addr} {xs : List V} (h1 : SqL K H p xs) (f1 : flatV v = true) (f2 : xs.all flatV = true) (h : Q (.bl (!inV v xs)) H) : rInX K true v (.ref p) H Q := ⟨p, xs, rfl, .inl h1, f1, f2, h⟩
theorem s_ixL {p : Addr} {xs : List V} {i : Int} (h1 : SqL K H p xs) (e : atI xs i = some v) (h : Q v H) : rIxX K (.ref p) (.int i) H Q := .inl ⟨p, xs, i, v, rfl, rfl, h1, e, h⟩
theorem s_ixT {p : Addr} {xs : List V} {i : Int} (h1 : SqT K H p xs) (e : atI xs i = some v) (h : Q v H) : rIxX K (.ref p) (.int i) H Q := .inr (.inl ⟨p, xs, i, v, rfl, rfl, h1, e, h⟩)
theorem s_ixS {z : Str} {i : Int} {c : Nat} (h1 : z.length ≤ sizeLine) (e : atI z.cps.toList i = some c) (h : Q (.str ⟨#[c]⟩) H) : rIxX K (.str z) (.int i) H Q := .inr (.inr ⟨z, i, c, rfl, rfl, h1, e, h⟩)
theorem atI_in {xs : List V} {i : Int} (h0 : 0 ≤ i) (h1 : i < xs.length) : atI xs i = some (xs.getD i.toNat .non) := Hsh.un (by simp (disch := k_dflt (
  refine Hsh.up ?_
  unfold atI ixN
  rw [if_pos h0, if_pos h1]
  show xs[i.toNat]? = _
  rw [List.getD_eq_getElem?_getD, List.getElem?_eq_getElem (by omega)]
  rfl
  )) only [↓Hsh.on])
theorem atI_ints {ns : List Int} {i : Int} (h0 : 0 ≤ i) (h1 : i < (ns.map V.int).length) : atI (ns.map V.int) i = some (.int (ns.getD i.toNat 0)) := Hsh.un (by simp (disch := k_dflt (
  refine Hsh.up ?_
  rw [List.length_map] at h1
  unfold atI ixN
  rw [if_pos h0, if_pos (by rw [List.length_map]; exact h1)]
  show (ns.map V.int)[i.toNat]? = _
  rw [List.getElem?_map, List.getD_eq_getElem?_getD, List.getElem?_eq_getElem (by omega)]
  rfl
  )) only [↓Hsh.on])
theorem atI_strs {zs : List Str} {i : Int} (h0 : 0 ≤ i) (h1 : i < (zs.map V.str).length) : atI (zs.map V.str) i = some (.str (zs.getD i.toNat "")) := Hsh.un (by simp (disch := k_dflt (
  refine Hsh.up ?_
  rw [List.length_map] at h1
  unfold atI ixN
  rw [if_pos h0, if_pos (by rw [List.length_map]; exact h1)]
  show (zs.map V.str)[i.toNat]? = _
  rw [List.getElem?_map, List.getD_eq_getElem?_getD, List.getElem?_eq_getElem (by omega)]
  rfl
  )) only [↓Hsh.on])
theorem atI_refs {rs : List Addr} {i : Int} (h0 : 0 ≤ i) (h1 : i < (rs.map V.ref).length) : atI (rs.map V.ref) i = some (.ref (rs.getD i.toNat 0)) := Hsh.un (by simp (disch := k_dflt (
  refine Hsh.up ?_
  rw [List.length_map] at h1
  unfold atI ixN
  rw [if_pos h0, if_pos (by rw [List.length_map]; exact h1)]
  show (rs.map V.ref)[i.toNat]? = _
  rw [List.getElem?_map, List.getD_eq_getElem?_getD, List.getElem?_eq_getElem (by omega)]
  rfl
  )) only [↓Hsh.on])
theorem getD_strs (l : List Str) (i : Nat) (h : i < l.length) : (l.map V.str).getD i .non = .str (l.getD i "") := by
  rw [List.getD_eq_getElem?_getD, List.getD_eq_getElem?_getD, List.getElem?_map, List.getElem?_eq_getElem h]
  rfl
theorem getD_ints (l : List Int) (i : Nat) (h : i < l.length) : (l.map V.int).getD i .non = .int (l.getD i 0) := by
  rw [List.getD_eq_getElem?_getD, List.getD_eq_getElem?_getD, List.getElem?_map, List.getElem?_eq_getElem h]
  rfl
theorem set_ints (l : List Int) (i : Nat) (a : Int) : (l.map V.int).set i (.int a) = (l.set i a).map V.int := by rw [List.map_set]
def toI : V → Int
  | .int i => i
  | _ => 0
def isI : V → Bool
  | .int _ => true
  | _ => false
theorem atI_ilit {xs : List V} {i : Int} (h0 : 0 ≤ i) (h1 : i < xs.length) (a : xs.all isI = true) : atI xs i = some (.int (toI (xs.getD i.toNat .non))) := Hsh.un (by simp (disch := k_dflt (
  refine Hsh.up ?_
  rw [atI_in h0 h1]
  have hm : xs.getD i.toNat .non ∈ xs := by
    rw [List.getD_eq_getElem?_getD, List.getElem?_eq_getElem (by omega)]
    exact List.getElem_mem _
  have := List.all_eq_true.mp a _ hm
  cases e : xs.getD i.toNat .non with
  | int j => rfl
  | _ => rw [e] at this; cases this
  )) only [↓Hsh.on])
theorem s_test (h : ta σ H fun x H' => ∃ k, x = .bl k ∧ R k H') : tTest ta σ H R := h
theorem s_tB (h : ta σ H fun x H' => ∃ k, x = .bl k ∧ R k H') : tB ta σ H R := h
theorem s_bl {b : Bool} {P : Bool → Prop} (h : P b) : ∃ k, V.bl b = .bl k ∧ P k := ⟨b, rfl, h⟩
theorem s_and (h : tc σ H fun c H1 => if c = true then td σ H1 R else R false H1) : tAnd tc td σ H R := h
theorem s_or (h : tc σ H fun c H1 => if c = true then R true H1 else td σ H1 R) : tOr tc td σ H R := h
theorem s_not (h : tc σ H fun c H1 => R (!c) H1) : tNot tc σ H R := h
theorem s_andV (h : ta σ H fun x H1 => ∃ c, x = .bl c ∧ if c = true then tb σ H1 Q else Q (.bl false) H1) : tAndV ta tb σ H Q := h
theorem s_orV (h : ta σ H fun x H1 => ∃ c, x = .bl c ∧ if c = true then Q (.bl true) H1 else tb σ H1 Q) : tOrV ta tb σ H Q := h
theorem s_notV (h : ta σ H fun x H1 => ∃ c, x = .bl c ∧ Q (.bl (!c)) H1) : tNotV ta σ H Q := h
theorem s_if (h : tc σ H fun c H1 => if c = true then ta σ H1 Q else tb σ H1 Q) : tIf tc ta tb σ H Q := h
theorem s_chain {r r' : R2} {te : TE} (h : ta σ H fun x H1 => tb σ H1 fun y H2 => r x y H2 fun z H3 => ∃ k, z = .bl k ∧ (if k = true then te σ H3 fun w' H4 => r' y w' H4 Q else Q (.bl false) H3)) : tChain r r' ta tb te σ H Q := h
theorem s_nil {S : List V → Hp → Prop} (h : S [] H) : tNil σ H S := h
theorem s_cons {S : List V → Hp → Prop} {tr : TA} (h : ta σ H fun x H1 => tr σ H1 fun xs H2 => S (x :: xs) H2) : tCons ta tr σ H S := h
theorem s_tup {tr : TA} (h : tr σ H fun xs H1 => newO (.tup xs) xs.length H1 Q) : tTup tr σ H Q := h
theorem s_lst {tr : TA} (h : tr σ H fun xs H1 => newO (.lst xs) xs.length H1 Q) : tLst tr σ H Q := h
theorem s_rep {l : Addr} {k : Int} {xs ys : List V} (h1 : H l = some (.lst xs)) (c : -(2 ^ 63) ≤ k ∧ k < 2 ^ 63) (c2 : xs.length * k.toNat ≤ sizeLine) (e : (List.replicate k.toNat xs).flatten = ys) (h : newO (.lst ys) 0 H Q) : rMulX K (.ref l) (.int k) H Q :=
  .inr (.inr (.inl ⟨l, k, xs, rfl, rfl, h1, c.1, c.2, c2, by rw [e]; exact h.2⟩))
theorem s_rep1 {l : Addr} {k : Int} {x : V} {n : Nat} (h1 : H l = some (.lst [x])) (c : 0 ≤ k ∧ k ≤ 16777216) (e : k.toNat = n) (h : newO (.lst (List.replicate n x)) 0 H Q) : rMulX K (.ref l) (.int k) H Q := Hsh.un (by simp (disch := k_dflt (
  refine Hsh.up ?_
  refine .inr (.inr (.inl ⟨l, k, [x], rfl, rfl, h1, by omega, by omega, ?_, ?_⟩))
  · rw [sizeLine_eq, List.length_singleton]
    omega
  · have q : (List.replicate k.toNat [x]).flatten = List.replicate n x := by
      rw [e]
      simp
    rw [q]
    exact h.2
  )) only [↓Hsh.on])
theorem s_cat {l b : Addr} {xs zs ys : List V} (h1 : H l = some (.lst xs)) (h2 : H b = some (.lst zs)) (c : xs.length + zs.length ≤ sizeLine) (e : xs ++ zs = ys) (h : newO (.lst ys) 0 H Q) : rAddX K (.ref l) (.ref b) H Q :=
  .inr (.inr (.inl ⟨l, b, xs, zs, rfl, rfl, h1, h2, c, by rw [e]; exact h.2⟩))
theorem s_listO {p : Addr} {ys : List V} (h1 : SqL K H p ys) (h : newO (.lst ys) 0 H Q) : rListX K [.ref p] H Q := ⟨p, ys, rfl, .inl h1, h.2⟩
theorem s_listT {p : Addr} {ys : List V} (h1 : SqT K H p ys) (h : newO (.lst ys) 0 H Q) : rListX K [.ref p] H Q := ⟨p, ys, rfl, .inr h1, h.2⟩
theorem s_tupL {p : Addr} {ys : List V} (h1 : SqL K H p ys) (h : newO (.tup ys) 0 H Q) : rTupX K [.ref p] H Q := ⟨p, ys, rfl, .inl ⟨h1, h.2⟩⟩
theorem s_tupT {p : Addr} {ys : List V} (h1 : SqT K H p ys) (h : Q (.ref p) H) : rTupX K [.ref p] H Q := ⟨p, ys, rfl, .inr ⟨h1, h⟩⟩
theorem s_slL {p : Addr} {xs ys : List V} {lo hi : Option Int} (h1 : SqL K H p xs) (e : cutV xs lo hi = ys) (h : newO (.lst ys) 0 H Q) : rSlX K (.ref p) lo hi H Q := .inl ⟨p, xs, rfl, h1, by rw [e]; exact h.2⟩
theorem s_CB {r : List V → Hp → VK → Prop} {tr : TA} (h : tr σ H fun vs H1 => r vs H1 Q) : tCB r tr σ H Q := h
theorem s_call {sp : Sp} {E : XK} {tr : TA} (h : tr σ H fun vs H1 => sp (vs ++ []) H1 Q E) : tCall sp [] E tr σ H Q := h
theorem s_int {i : Int} (h : Q (.int i) H) : rInt [.int i] H Q := .inl ⟨i, rfl, h⟩
theorem s_intB {b : Bool} (h : if b = true then Q (.int 1) H else Q (.int 0) H) : rInt [.bl b] H Q := .inr ⟨b, rfl, by cases b <;> exact h⟩
theorem s_abs {i : Int} (h : Q (.int (if i < 0 then -i else i)) H) : rAbs [.int i] H Q := ⟨i, rfl, h⟩
theorem s_max2 {i j : Int} (h : Q (.int (if j > i then j else i)) H) : rMax2 [.int i, .int j] H Q := ⟨i, j, rfl, h⟩
theorem s_min2 {i j : Int} (h : Q (.int (if j < i then j else i)) H) : rMin2 [.int i, .int j] H Q := ⟨i, j, rfl, h⟩
theorem s_lenL {p : Addr} {xs : List V} (h1 : SqL K H p xs) (h : Q (.int (xs.length : Nat)) H) : rLenX K [.ref p] H Q := ⟨_, _, rfl, .inl ⟨xs, h1, rfl⟩, h⟩
theorem s_lenT {p : Addr} {xs : List V} (h1 : SqT K H p xs) (h : Q (.int (xs.length : Nat)) H) : rLenX K [.ref p] H Q := ⟨_, _, rfl, .inr ⟨xs, h1, rfl⟩, h⟩
theorem s_sum {p : Addr} {ns : List Int} (h1 : SqL K H p (ns.map V.int)) (h : Q (.int ns.sum) H) : rSum K [.ref p] H Q := ⟨p, ns, rfl, h1, h⟩
theorem s_all {p : Addr} {bs : List Bool} (h1 : SqL K H p (bs.map V.bl)) (h : Q (.bl (bs.all id)) H) : rAll K [.ref p] H Q := ⟨p, bs, rfl, h1, h⟩
theorem s_any {p : Addr} {bs : List Bool} (h1 : SqL K H p (bs.map V.bl)) (h : Q (.bl (bs.any id)) H) : rAny K [.ref p] H Q := ⟨p, bs, rfl, h1, h⟩
theorem s_maxL2 {p : Addr} {i j : Int} (h1 : SqL K H p [.int i, .int j]) (h : Q (.int (if i ≤ j then j else i)) H) : rMax K [.ref p] H Q := ⟨p, [i, j], rfl, h1, Nat.succ_pos _, fun m hm hb => by
  have e : m = if i ≤ j then j else i := by
    have h1 := hb i (by simp)
    have h2 := hb j (by simp)
    rcases List.mem_cons.mp hm with rfl | hm
    · split <;> omega
    · rw [List.mem_singleton.mp hm] at h1 h2 ⊢
      split <;> omega
  rw [e]; exact h⟩
theorem s_minL2 {p : Addr} {i j : Int} (h1 : SqL K H p [.int i, .int j]) (h : Q (.int (if i ≤ j then i else j)) H) : rMin K [.ref p] H Q := ⟨p, [i, j], rfl, h1, Nat.succ_pos _, fun m hm hb => by
  have e : m = if i ≤ j then i else j := by
    have h1 := hb i (by simp)
    have h2 := hb j (by simp)
    rcases List.mem_cons.mp hm with rfl | hm
    · split <;> omega
    · rw [List.mem_singleton.mp hm] at h1 h2 ⊢
      split <;> omega
  rw [e]; exact h⟩
theorem s_isi {c : V} {ty un : Value} {b : Bool} (k : ClsV c un) (h1 : TyX K H v ty) (e : PySem.W.kitOne K ty un = some b) (h : Q (.bl b) H) : rIsiX K [v, c] H Q := .inl ⟨v, c, ty, un, b, rfl, k, h1, e, h⟩
theorem s_isT {a b : String} (h1 : TyX K H v (.type a)) (e : kitB a b = some true) (h : Q (.bl true) H) : rIsiX K [v, .ty b] H Q := .inl ⟨v, _, _, _, _, rfl, .ty b, h1, kit_ty e, h⟩
theorem s_isF {a b : String} (h1 : TyX K H v (.type a)) (e : kitB a b = some false) (h : Q (.bl false) H) : rIsiX K [v, .ty b] H Q := .inl ⟨v, _, _, _, _, rfl, .ty b, h1, kit_ty e, h⟩
theorem s_sl {te : TE} {tl th : TO} {r : V → Option Int → Option Int → Hp → VK → Prop} (h : te σ H fun x H1 => tl σ H1 fun l H2 => th σ H2 fun u H3 => r x l u H3 Q) : tSl r te tl th σ H Q := h
theorem s_part {te : TE} {P : Option Int → Hp → Prop} (h : te σ H fun x H1 => ∃ i, x = .int i ∧ P (some i) H1) : tPart te σ H P := h
theorem s_partI {i : Int} {P : Int → Prop} (h : P i) : ∃ j, V.int i = .int j ∧ P j := ⟨i, rfl, h⟩
theorem s_noPart {P : Option Int → Hp → Prop} (h : P none H) : tNoPart σ H P := h
-- statements
variable {n b c : L2.St → Hp → Prop} {r : VK}
theorem s_seq (h : t ⟨u ⟨n, r, b, c⟩, r, b, c⟩ σ H) : tSeq t u ⟨n, r, b, c⟩ σ H := h
theorem s_next (h : n σ H) : tNext ⟨n, r, b, c⟩ σ H := h
theorem s_break (h : b σ H) : tBreak ⟨n, r, b, c⟩ σ H := h
theorem s_cont (h : c σ H) : tCont ⟨n, r, b, c⟩ σ H := h
theorem s_drop (h : ta σ H fun _ H1 => n σ H1) : tDrop ta ⟨n, r, b, c⟩ σ H := h
theorem s_ret (h : ta σ H r) : tRet ta ⟨n, r, b, c⟩ σ H := h
theorem s_retN (h : r .non H) : tRetN ⟨n, r, b, c⟩ σ H := h
theorem s_ifS (h : tc σ H fun q H1 => if q = true then t ⟨n, r, b, c⟩ σ H1 else u ⟨n, r, b, c⟩ σ H1) : tIfS tc t u ⟨n, r, b, c⟩ σ H := h
theorem s_asg {g : TG} (h : ta σ H fun x H1 => g x σ H1 n) : tAsg ta g ⟨n, r, b, c⟩ σ H := h
theorem s_gname {i : Nat} {S : L2.St → Hp → Prop} (e : σ.set i (some v) = σ') (h : S σ' H) : gName i v σ H S := by
  show S (σ.set i (some v)) H
  rw [e]; exact h
theorem s_gsub {S : L2.St → Hp → Prop} {ts : TSet} (h : ta σ H fun o H1 => tb σ H1 fun i H2 => ts o i v H2 fun H3 => S σ H3) : gSub ta tb ts v σ H S := h
theorem s_fld {f : Str} (h : ta σ H fun x H1 => fldO K f x H1 Q) : tFld K ta f σ H Q := h
theorem s_sfld {f : Str} (h : tb σ H fun y H1 => ta σ H1 fun x H2 => sfldO K f y x H2 fun H3 => n σ H3) : sFld K ta tb f ⟨n, r, b, c⟩ σ H := h
end
/-- an attribute as a target -/
def gAttr (K : PySem.W.Frag) (to : TE) (f : Str) : TG := fun v σ H S => to σ H fun x H1 => sfldO K f v x H1 fun H2 => S σ H2
theorem pg_attr {X : Cx} {o : Expr} {f : Str} {pos : Pos} {to : TE} (ho : PE X o to) : PG X (.Attribute o f pos) (gAttr X.K to f) := Hsh.un (by simp (disch := k_dflt (
  refine Hsh.up ?_
  refine ⟨fun pins s σ H v u S I r h => ?_⟩
  rw [assign_Attribute]
  refine wpAny_bind (wpAny_holding (thn (ho.run pins s σ H _ I h) fun ov s1 ⟨x, H1, I1, r1, q1⟩ => ?_))
  obtain ⟨a, C, dx, fs, rfl, e, c, l, hl, q⟩ := q1
  obtain rfl : ov = .ref a := r1
  exact wpAny_bind (wpAny_standAt (wpAny_bind (wpAny_holding (setattr_ok I1 e c l hl r fun s2 I2 => wpAny_release ⟨σ, _, I2, q⟩))))
  )) only [↓Hsh.on])
/-- a built-in type's method, behind its object -/
def bm0O (K : PySem.W.Frag) (T : String) (r : V → List V → Hp → VK → Prop) (x : V) (H : Hp) (Q : VK) : Prop := tyV K T x H ∧ r x [] H Q
def bmO (K : PySem.W.Frag) (T : String) (r : V → List V → Hp → VK → Prop) (t : TA) (σ : L2.St) (x : V) (H : Hp) (Q : VK) : Prop := tyV K T x H ∧ t σ H fun xs H2 => r x xs H2 Q
section
variable {σ : L2.St} {H : Hp} {K : PySem.W.Frag} {to : TE} {Q : VK} {S : L2.St → Hp → Prop} {t : TA} {ts : TGs} {tg : TG} {v : V}
theorem s_gattr {f : Str} (h : to σ H fun x H1 => sfldO K f v x H1 fun H2 => S σ H2) : gAttr K to f v σ H S := h
theorem s_gtup {n : Nat} {a : Addr} {xs : List V} (h : SqT K H a xs) (l : xs.length = n) (q : ts xs σ H S) : gTup K n ts (.ref a) σ H S := ⟨a, xs, rfl, h, l, q⟩
theorem s_gcons {r : List V} (h : tg v σ H fun σ' H' => ts r σ' H' S) : gCons tg ts (v :: r) σ H S := ⟨v, r, rfl, h⟩
theorem s_gnil (h : S σ H) : gNil [] σ H S := ⟨rfl, h⟩
theorem s_bm0 {T : String} {r : V → List V → Hp → VK → Prop} (h : to σ H fun x H1 => bm0O K T r x H1 Q) : tBM0 K T r to σ H Q := h
theorem s_bm {T : String} {r : V → List V → Hp → VK → Prop} (h : to σ H fun x H1 => bmO K T r t σ x H1 Q) : tBM K T r to t σ H Q := h
theorem s_bmL {r : V → List V → Hp → VK → Prop} {l : Addr} {xs : List V} (h : SqL K H l xs) (q : t σ H fun xs H2 => r (.ref l) xs H2 Q) : bmO K "list" r t σ (.ref l) H Q := ⟨.inl ⟨rfl, _, h⟩, q⟩
theorem s_bmT {T : String} {r : V → List V → Hp → VK → Prop} {a : Addr} (h : ∃ o, K.lookup a = some o ∧ o.cls = .type "tuple" ∧ o.dict = none) (e : T = "tuple") (q : t σ H fun xs H2 => r (.ref a) xs H2 Q) : bmO K T r t σ (.ref a) H Q := ⟨.inr (.inl ⟨e, h⟩), q⟩
theorem s_bmS {r : V → List V → Hp → VK → Prop} {z : Str} (q : t σ H fun xs H2 => r (.str z) xs H2 Q) : bmO K "str" r t σ (.str z) H Q := ⟨rfl, q⟩
theorem s_methO {C a dx : Addr} {m : Str} {sp : Sp} {E : XK} {fs : List (Str × V)} (h : H a = some (.ins C dx fs)) (l : fs.lookup m = none) (q : t σ H fun vs H2 => sp (.ref a :: (vs ++ [])) H2 Q E) : methO C m sp E t σ (.ref a) H Q := ⟨a, dx, fs, rfl, h, l, q⟩
theorem s_propO {C a dx : Addr} {sp : Sp} {E : XK} {fs : List (Str × V)} (h : H a = some (.ins C dx fs)) (q : sp ([.ref a] ++ []) H Q E) : propO C sp E (.ref a) H Q := ⟨a, dx, fs, rfl, h, q⟩
theorem pf_set {f : Str} {fs fs' : List (Str × V)} (i : Nat) (h : putF f v fs = fs.set i (f, v)) (e : fs.set i (f, v) = fs') : putF f v fs = fs' := h.trans e
theorem pf_new {f : Str} {fs fs' : List (Str × V)} (h : putF f v fs = fs ++ [(f, v)]) (e : fs ++ [(f, v)] = fs') : putF f v fs = fs' := h.trans e
end
/-! ### what is done to the ledger -/
section
variable {A : List Addr} {H0 H : Hp} {L L' : List Cell} {Q : VK} {P : Hp → Prop} {v : V}
theorem h_new {o : HO} {n : Nat} (S : SH A H0 H L) (c : n ≤ sizeLine) (h : ∀ p H', SH A H0 H' ((p, o) :: L) → H p = none → Q (.ref p) H') : newO o n H Q := ⟨c, fun p hp => h p _ (S.new o hp) hp⟩
theorem h_fld {K : PySem.W.Frag} {a C dx : Addr} {fs : List (Str × V)} {f : Str} (S : SH A H0 H L) (h1 : H a = some (.ins C dx fs)) (cl : Cls K C) (na : NoAttr K C f) (e : fs.lookup f = some v) (h : Q v H) : fldO K f (.ref a) H Q := ⟨a, C, dx, fs, v, rfl, h1, cl, na, e, h⟩
theorem h_sfld {i : Nat} {K : PySem.W.Frag} {a C dx : Addr} {fs fs' : List (Str × V)} {f : Str} (S : SH A H0 H L) (h1 : L[i]? = some (a, .ins C dx fs)) (cl : Cls K C) (na : NoAttr K C f) (l : fs.length < 1000) (e : putF f v fs = fs') (eL : L.set i (a, .ins C dx fs') = L')
    (h : ∀ H', SH A H0 H' L' → P H') : sfldO K f v (.ref a) H P := ⟨a, C, dx, fs, rfl, S.get i h1, cl, na, l, by rw [e]; exact h _ (eL ▸ S.set i h1 rfl _)⟩
theorem h_upd {i : Nat} {a : Addr} {o o' : HO} (S : SH A H0 H L) (e : L[i]? = some (a, o)) (im : Imm o = false) (eL : L.set i (a, o') = L') (h : ∀ H', SH A H0 H' L' → P H') : P (upd H a o') := h _ (eL ▸ S.set i e im o')
theorem h_setL {i : Nat} {a : Addr} {xs ys : List V} {k : Int} {j : Nat} (S : SH A H0 H L) (e : L[i]? = some (a, .lst xs)) (ej : ixN xs.length k = some j) (ey : xs.set j v = ys) (eL : L.set i (a, .lst ys) = L')
    (h : ∀ H', SH A H0 H' L' → P H') : rSetL (.ref a) (.int k) v H P := ⟨a, xs, k, j, rfl, rfl, S.get i e, ej, by rw [ey]; exact h _ (eL ▸ S.set i e rfl _)⟩
theorem h_append {i : Nat} {a : Addr} {xs ys : List V} (S : SH A H0 H L) (e : L[i]? = some (a, .lst xs)) (c : xs.length < sizeLine) (ey : xs ++ [v] = ys) (eL : L.set i (a, .lst ys) = L')
    (h : ∀ H', SH A H0 H' L' → Q .non H') : rAppend (.ref a) [v] H Q := ⟨a, xs, v, rfl, rfl, S.get i e, c, by rw [ey]; exact h _ (eL ▸ S.set i e rfl _)⟩
theorem h_pop {i : Nat} {K : PySem.W.Frag} {a : Addr} {xs ys : List V} (S : SH A H0 H L) (e : L[i]? = some (a, .lst xs)) (ev : xs[xs.length - 1]? = some v) (ey : xs.dropLast = ys) (eL : L.set i (a, .lst ys) = L')
    (h : ∀ H', SH A H0 H' L' → Q v H') : bm0O K "list" rPop (.ref a) H Q := ⟨.inl ⟨rfl, _, SqL.of (S.get i e)⟩, a, xs, v, rfl, rfl, S.get i e, ev, by rw [ey]; exact h _ (eL ▸ S.set i e rfl _)⟩
theorem h_make {C : Addr} {sp : Sp} {E : XK} {vs : List V} (S : SH A H0 H L) (h : ∀ x dx H1, SH A H0 H1 ((x, .ins C dx []) :: L) → sp (.ref x :: (vs ++ [])) H1 (fun v H2 => v = .non ∧ Q (.ref x) H2) E) : makeO C sp E vs H Q := fun x dx hx hd ne => by
  have S1 := S.new (.own x) hd
  have S2 := S1.new (p := x) (.ins C dx []) (by rw [upd_ne (Ne.symm ne)]; exact hx)
  exact h x dx _ (S2.sub (List.Sublist.cons_cons _ (List.sublist_cons_self _ _)))
theorem atI_lit {xs : List V} {i : Int} {w : V} (k : Nat) (e : i = (k : Int)) (h : xs[k]? = some w) : atI xs i = some w := by
  subst e
  exact atI_nat h
theorem last_snoc (l : List V) (v : V) : (l ++ [v])[(l ++ [v]).length - 1]? = some v := by simp
theorem ixN_in {n : Nat} {i : Int} (h0 : 0 ≤ i) (h1 : i < n) : ixN n i = some i.toNat := by
  unfold ixN
  rw [if_pos h0, if_pos h1]
theorem ixN_lit {n : Nat} {i : Int} (k : Nat) (e : i = (k : Int)) (h : k < n) : ixN n i = some k := Hsh.un (by simp (disch := k_dflt (
  refine Hsh.up ?_
  subst e
  rw [ixN_in (by omega) (by omega)]
  rfl
  )) only [↓Hsh.on])
end
/-! ### loops -/
def loopI (J : It) (g : TG) (tb : TS) (D : Ends) (σ : L2.St) (H : Hp) : Prop := ∃ W : Nat → Nat → L2.St → Hp → Prop, (∃ m, W 0 m σ H) ∧ ∀ i m σ H, W i m σ H →
  (J.stop i H ∧ D.nx σ H) ∨ (J.go i H ∧ ∃ N : L2.St → Hp → Prop, (∀ σ' H', N σ' H' → ∃ m', m' < m ∧ W (i + 1) m' σ' H') ∧ ∀ x H', J.yld i H x H' → g x σ H' fun σ2 H2 => tb { D with nx := N, ct := N, bk := D.nx } σ2 H2)
def forR1 (vs : List V) (g : TG) (tb : TS) (D : Ends) (σ : L2.St) (H : Hp) : Prop := ∃ j : Int, vs = [.int j] ∧ -(2 ^ 62) ≤ j ∧ j < 2 ^ 62 ∧ loopI (Itr 0 j.toNat) g tb D σ H
def forR2 (vs : List V) (g : TG) (tb : TS) (D : Ends) (σ : L2.St) (H : Hp) : Prop := ∃ i j : Int, vs = [.int i, .int j] ∧ (-(2 ^ 62) ≤ i ∧ i < 2 ^ 62 ∧ -(2 ^ 62) ≤ j ∧ j < 2 ^ 62) ∧ loopI (Itr i (j - i).toNat) g tb D σ H
def forL (K : PySem.W.Frag) (v : V) (g : TG) (tb : TS) (D : Ends) (σ : L2.St) (H : Hp) : Prop := ∃ a, v = .ref a ∧ (∃ xs, SqL K H a xs) ∧ loopI (Itl K a) g tb D σ H
def forT (K : PySem.W.Frag) (v : V) (g : TG) (tb : TS) (D : Ends) (σ : L2.St) (H : Hp) : Prop := ∃ a, v = .ref a ∧ (∃ xs, SqT K H a xs) ∧ loopI (Itt K a) g tb D σ H
section
variable {σ : L2.St} {H : Hp} {K : PySem.W.Frag} {g : TG} {tb : TS} {ta : TA} {te : TE} {D : Ends} {n b c : L2.St → Hp → Prop} {r : VK}
theorem s_forR1 (h : ta σ H fun vs H1 => forR1 vs g tb D σ H1) : tFor (iRng1 ta) g tb D σ H := h
theorem s_forR2 (h : ta σ H fun vs H1 => forR2 vs g tb D σ H1) : tFor (iRng2 ta) g tb D σ H := h
theorem s_forL (h : te σ H fun v H1 => forL K v g tb D σ H1) : tFor (iList K te) g tb D σ H := h
theorem s_forT (h : te σ H fun v H1 => forT K v g tb D σ H1) : tFor (iTup K te) g tb D σ H := h
/-- for i in range(j), an invariant over the turn -/
theorem u_forR1 {j : Int} (Pv : Nat → L2.St → Hp → Prop) (lo : -(2 ^ 62) ≤ j) (hi : j < 2 ^ 62) (h0 : Pv 0 σ H)
    (hs : ∀ (i : Nat) σ H, (i : Int) < j → Pv i σ H → g (.int i) σ H fun σ2 H2 => tb ⟨Pv (i + 1), r, n, Pv (i + 1)⟩ σ2 H2) (hd : ∀ σ H, Pv j.toNat σ H → n σ H) : forR1 [.int j] g tb ⟨n, r, b, c⟩ σ H := Hsh.un (by simp (disch := k_dflt (
  refine Hsh.up ?_
  refine ⟨j, rfl, lo, hi, ?_⟩
  refine for_range Pv h0 (fun i σ H hi p => ?_) hd
  rw [show (0 : Int) + (i : Int) = (i : Int) by omega]
  exact hs i σ H (by omega) p
  )) only [↓Hsh.on])
theorem u_forR2 {l j : Int} (Pv : Nat → L2.St → Hp → Prop) (hb : -(2 ^ 62) ≤ l ∧ l < 2 ^ 62 ∧ -(2 ^ 62) ≤ j ∧ j < 2 ^ 62) (h0 : Pv 0 σ H)
    (hs : ∀ (i : Nat) σ H, l + (i : Int) < j → Pv i σ H → g (.int (l + i)) σ H fun σ2 H2 => tb ⟨Pv (i + 1), r, n, Pv (i + 1)⟩ σ2 H2) (hd : ∀ σ H, Pv (j - l).toNat σ H → n σ H) : forR2 [.int l, .int j] g tb ⟨n, r, b, c⟩ σ H := Hsh.un (by simp (disch := k_dflt (
  refine Hsh.up ?_
  refine ⟨l, j, rfl, hb, ?_⟩
  refine for_range Pv h0 (fun i σ H hi p => ?_) hd
  exact hs i σ H (by omega) p
  )) only [↓Hsh.on])
/-- for x in a list that stays as it is -/
theorem u_forL {a : Addr} {xs : List V} (Pv : Nat → L2.St → Hp → Prop) (h : SqL K H a xs) (h0 : Pv 0 σ H) (hl : ∀ i σ H, i ≤ xs.length → Pv i σ H → SqL K H a xs)
    (hs : ∀ (i : Nat) (x : V) σ H, xs[i]? = some x → Pv i σ H → g x σ H fun σ2 H2 => tb ⟨Pv (i + 1), r, n, Pv (i + 1)⟩ σ2 H2) (hd : ∀ σ H, Pv xs.length σ H → n σ H) : forL K (.ref a) g tb ⟨n, r, b, c⟩ σ H :=
  ⟨a, rfl, ⟨xs, h⟩, for_list Pv h0 hl (fun i x σ H e p => hs i x σ H e p) hd⟩
end
/-! ### comprehensions -/
/-! within a comprehension's block: the fragment said by its name -/
theorem OpR.k {X : Cx} {K : PySem.W.Frag} {f : Value → Value → Sem Value} {r : PySem.W.Frag → R2} (h : OpR X f (r X.K)) (e : X.K = K) : OpR X f (r K) := e ▸ h
theorem IxR.k {X : Cx} {K : PySem.W.Frag} {r : PySem.W.Frag → R2} (h : IxR X (r X.K)) (e : X.K = K) : IxR X (r K) := e ▸ h
theorem SlR.k {X : Cx} {K : PySem.W.Frag} {r : PySem.W.Frag → V → Option Int → Option Int → Hp → VK → Prop} (h : SlR X (r X.K)) (e : X.K = K) : SlR X (r K) := e ▸ h
theorem CallR.k {X : Cx} {K : PySem.W.Frag} {f : Value} {r : PySem.W.Frag → List V → Hp → VK → Prop} (h : CallR X f (r X.K)) (e : X.K = K) : CallR X f (r K) := e ▸ h
theorem PE.k {X : Cx} {K : PySem.W.Frag} {e : Expr} {t : PySem.W.Frag → TE} (h : PE X e (t X.K)) (q : X.K = K) : PE X e (t K) := q ▸ h
def lcR1 (i : Nat) (vs : List V) (te : TE) (σ : L2.St) (H : Hp) (Q : VK) : Prop := ∃ j : Int, vs = [.int j] ∧ -(2 ^ 62) ≤ j ∧ j < 2 ^ 62 ∧ tLc (fun _ H k => k (Itr 0 j.toNat) H) (gName i) tYes te [i] σ H Q
def lcL (K : PySem.W.Frag) (i : Nat) (v : V) (te : TE) (σ : L2.St) (H : Hp) (Q : VK) : Prop := ∃ a, v = .ref a ∧ (∃ xs, SqL K H a xs) ∧ tLc (fun _ H k => k (Itl K a) H) (gName i) tYes te [i] σ H Q
/-- an item is put behind the made ones -/
def lcEnd (D : Addr) (P : Hp → Prop) : VK := fun y H => ∃ acc, H D = some (.lst acc) ∧ acc.length < sizeLine ∧ P (upd H D (.lst (acc ++ [y])))
theorem wipe_one (σ : L2.St) (i : Nat) (x : Option V) : wipe ((wipe σ [i]).set i x) [i] = wipe σ [i] := by
  show ((σ.set i none).set i x).set i none = σ.set i none
  rw [List.set_set, List.set_set]
section
variable {A : List Addr} {H0 H : Hp} {L L' : List Cell} {Q : VK} {P : Hp → Prop} {v : V} {σ : L2.St} {K : PySem.W.Frag} {te : TE} {ta : TA} {tb : TE}
theorem s_lcR1 {n : Str} {i : Nat} (h : ta σ H fun vs H1 => lcR1 i vs te σ H1 Q) : tLc (iRng1 ta) (gName i) tYes te ([(n, i)].map (·.2)) σ H Q := h
theorem s_lcL {n : Str} {i : Nat} (h : tb σ H fun v H1 => lcL K i v te σ H1 Q) : tLc (iList K tb) (gName i) tYes te ([(n, i)].map (·.2)) σ H Q := h
theorem h_lcEnd {i : Nat} {a : Addr} {xs ys : List V} (S : SH A H0 H L) (e : L[i]? = some (a, .lst xs)) (c : xs.length < sizeLine) (ey : xs ++ [v] = ys) (eL : L.set i (a, .lst ys) = L')
    (h : ∀ H', SH A H0 H' L' → P H') : lcEnd a P v H := ⟨xs, S.get i e, c, by rw [ey]; exact h _ (eL ▸ S.set i e rfl _)⟩
/-- a comprehension over a list, any target, any test -/
def lcLG (K : PySem.W.Frag) (vs : List Nat) (g : TG) (tt : TT) (v : V) (te : TE) (σ : L2.St) (H : Hp) (Q : VK) : Prop := ∃ a, v = .ref a ∧ (∃ xs, SqL K H a xs) ∧ tLc (fun _ H k => k (Itl K a) H) g tt te vs σ H Q
theorem s_lcLG {g : TG} {tt : TT} {vs : List Nat} (h : tb σ H fun v H1 => lcLG K vs g tt v te σ H1 Q) : tLc (iList K tb) g tt te vs σ H Q := h
theorem u_lcLG {g : TG} {tt : TT} {vs : List Nat} {a : Addr} {xs : List V} (hS : SH A H0 H L) (Pv : Addr → Nat → Hp → Prop) (h : SqL K H a xs) (h0 : ∀ D H', SH A H0 H' ((D, .lst []) :: L) → Pv D 0 H') (hl : ∀ D k H, k ≤ xs.length → Pv D k H → SqL K H a xs)
    (hs : ∀ D (k : Nat) x H, xs[k]? = some x → Pv D k H → g x (wipe σ vs) H fun σ2 H2 => wipe σ2 vs = wipe σ vs ∧ tt σ2 H2 fun b H3 => if b = true then te σ2 H3 (lcEnd D (Pv D (k + 1))) else Pv D (k + 1) H3) (hd : ∀ D H, Pv D xs.length H → Q (.ref D) H) : lcLG K vs g tt (.ref a) te σ H Q :=
  ⟨a, rfl, ⟨xs, h⟩, fun D hD => lc_list (Pv D) (h0 D _ (hS.new _ hD)) (hl D) (fun k x H hk p => hs D k x H hk p) (fun H p => hd D H p)⟩
theorem s_wipe {σ2 : L2.St} {vs : List Nat} {P : Prop} (e : wipe σ2 vs = wipe σ vs) (h : P) : wipe σ2 vs = wipe σ vs ∧ P := ⟨e, h⟩
theorem s_tYes {P : Bool → Hp → Prop} (h : P true H) : tYes σ H P := h
theorem u_lcR1 {i : Nat} {j : Int} (hS : SH A H0 H L) (Pv : Addr → Nat → Hp → Prop) (lo : -(2 ^ 62) ≤ j) (hi : j < 2 ^ 62) (h0 : ∀ D H', SH A H0 H' ((D, .lst []) :: L) → Pv D 0 H')
    (hs : ∀ D (k : Nat) H, (k : Int) < j → Pv D k H → te (σ.set i (some (.int k))) H (lcEnd D (Pv D (k + 1)))) (hd : ∀ D H, Pv D j.toNat H → Q (.ref D) H) : lcR1 i [.int j] te σ H Q := Hsh.un (by simp (disch := k_dflt (
  refine Hsh.up ?_
  refine ⟨j, rfl, lo, hi, fun D hD => ?_⟩
  refine lc_range (Pv D) (h0 D _ (hS.new _ hD)) (fun k H hk p => ?_) (fun H p => hd D H p)
  rw [show (0 : Int) + (k : Int) = (k : Int) by omega]
  have h := hs D k H (by omega) p
  refine ⟨wipe_one _ _ _, ?_⟩
  show if true = true then te ((σ.set i none).set i _) H (lcEnd D (Pv D (k + 1))) else Pv D (k + 1) H
  rw [if_pos rfl, List.set_set]
  exact h
  )) only [↓Hsh.on])
theorem u_lcL {i : Nat} {a : Addr} {xs : List V} (hS : SH A H0 H L) (Pv : Addr → Nat → Hp → Prop) (h : SqL K H a xs) (h0 : ∀ D H', SH A H0 H' ((D, .lst []) :: L) → Pv D 0 H') (hl : ∀ D k H, k ≤ xs.length → Pv D k H → SqL K H a xs)
    (hs : ∀ D (k : Nat) x H, xs[k]? = some x → Pv D k H → te (σ.set i (some x)) H (lcEnd D (Pv D (k + 1)))) (hd : ∀ D H, Pv D xs.length H → Q (.ref D) H) : lcL K i (.ref a) te σ H Q := Hsh.un (by simp (disch := k_dflt (
  refine Hsh.up ?_
  refine ⟨a, rfl, ⟨xs, h⟩, fun D hD => ?_⟩
  refine lc_list (Pv D) (h0 D _ (hS.new _ hD)) (hl D) (fun k x H hk p => ?_) (fun H p => hd D H p)
  have h := hs D k x H hk p
  refine ⟨wipe_one _ _ _, ?_⟩
  show if true = true then te ((σ.set i none).set i _) H (lcEnd D (Pv D (k + 1))) else Pv D (k + 1) H
  rw [if_pos rfl, List.set_set]
  exact h
  )) only [↓Hsh.on])
end
/-! ### a word between a statement and the rest -/
def cutG (t u : TS) : TS := fun E σ H => ∃ M : L2.St → Hp → Prop, (∀ σ2 H2, M σ2 H2 → u E σ2 H2) ∧ t ⟨M, E.rt, E.bk, E.ct⟩ σ H
theorem pss_cutG {X : Cx} {st : Stmt} {sts : List Stmt} {t u : TS} (a : PS X st t) (b : PSs X sts u) : PSs X (st :: sts) (cutG t u) :=
  ⟨fun pins s σ H E J ⟨M, hu, ht⟩ => wpAny_execs_cons (thn (a.run pins s σ H ⟨M, E.rt, E.bk, E.ct⟩ J ht) fun f s1 q => by
    cases f with
    | next => exact let ⟨σ2, H2, J2, z⟩ := q; b.run pins s1 σ2 H2 E J2 (hu σ2 H2 z)
    | ret _ => exact q
    | brk => exact q
    | cont => exact q)⟩
theorem s_cutG {t u : TS} {n b c : L2.St → Hp → Prop} {r : VK} {σ : L2.St} {H : Hp} (M : L2.St → Hp → Prop) (h : t ⟨M, r, b, c⟩ σ H) (h2 : ∀ σ2 H2, M σ2 H2 → u ⟨n, r, b, c⟩ σ2 H2) : cutG t u ⟨n, r, b, c⟩ σ H := ⟨M, h2, h⟩
/-! ### tests decided -/
section
variable {A B : Prop}
theorem i_dec {p : Prop} [Decidable p] (h1 : p → A) (h2 : ¬ p → B) : if decide p = true then A else B := Hsh.un (by simp (disch := k_dflt (
  refine Hsh.up ?_
  by_cases h : p
  · rw [if_pos (decide_eq_true h)]; exact h1 h
  · rw [if_neg (by rw [decide_eq_false h]; exact Bool.false_ne_true)]; exact h2 h
  )) only [↓Hsh.on])
theorem i_not {x : Bool} (h : if x = true then B else A) : if (!x) = true then A else B := Hsh.un (by simp (disch := k_dflt (
  refine Hsh.up ?_
  cases x
  · exact h
  · exact h
  )) only [↓Hsh.on])
theorem i_gen {x : Bool} (h1 : x = true → A) (h2 : x = false → B) : if x = true then A else B := Hsh.un (by simp (disch := k_dflt (
  refine Hsh.up ?_
  cases x
  · exact h2 rfl
  · exact h1 rfl
  )) only [↓Hsh.on])
theorem i_pos {x : Bool} (e : x = true) (h : A) : if x = true then A else B := by rw [if_pos e]; exact h
theorem i_neg {x : Bool} (e : x = false) (h : B) : if x = true then A else B := by rw [if_neg (by rw [e]; exact Bool.false_ne_true)]; exact h
end
end Q

set_option Elab.async false
set_option linter.all false
set_option maxRecDepth 100000
set_option maxHeartbeats 4000000
/-! Errors: one rule for every try (several clauses, with or without a name, one class or two, an else), what classes of errors tell. -/
namespace Q
open PySem PySem.Spec PyProof.Rows L2
/-- the test of an except clause: f tells the answer from the error's class -/
def Tst (X : Cx) (t : Expr) (f : Value → Option Bool) : Prop :=
  ∀ (a : Addr) (pn : List (Addr × Obj)) (σ : L2.St) (H : Hp) (s : Shared) (cls : Value) (b : Bool) (Q : Bool → Shared → Prop) (E : Value → Shared → Prop),
    Inv (X.suite a pn) [] σ H s → PySem.W.Looks (model X.prog X.w) s.heap (typeOf (.ref a)) cls → f cls = some b →
    (∀ h', (∀ q o, s.heap.get? q = some o → h'.get? q = some o) → Q b { s with heap := h' }) →
    wpAny (model X.prog X.w) (X.A.mark (some (.ref a))) (eval t X.env) (fun c s1 => wpAny (model X.prog X.w) (X.A.mark (some (.ref a))) (excMatches (.ref a) c) Q E s1) E s
theorem ld_names {X : Cx} {x : Str} {c : Value} {np : Pos} {a : Addr} {pn : List (Addr × Obj)} {σ : L2.St} {H : Hp} {s : Shared} {Q : Value → Shared → Prop} {E : Value → Shared → Prop} (hc : Names X x c) (I : Inv (X.suite a pn) [] σ H s) (q : Q c s) :
    wpAny (model X.prog X.w) (X.A.mark (some (.ref a))) (eval (.Name x np) X.env) Q E s := Hsh.un (by simp (disch := k_dflt (
  refine Hsh.up ?_
  obtain ⟨hg, hd, hm | ⟨hm, hv, hn⟩⟩ := hc
  · exact ld_glob (X := X.suite a pn) I hg hm q hd
  · exact ld_blt (X := X.suite a pn) I hg hm hv q hn hd
  )) only [↓Hsh.on])
theorem tst1 {X : Cx} {x : Str} {c : Value} {np : Pos} (hc : Names X x c) : Tst X (.Name x np) (fun cls => PySem.W.exmOne X.K cls c) := by
  intro a pn σ H s cls b Q E I LT e k
  exact ld_names hc I ((PySem.W.exm_one (M := model X.prog X.w) I.kIn LT e).here (k _ fun _ _ z => z))
theorem tst2 {X : Cx} {x y : Str} {c d : Value} {np mp tp : Pos} {kk : Nat} (hc : Names X x c) (hd : Names X y d) : Tst X (.Tuple [.Name x np, .Name y mp] kk tp) (fun cls => PySem.W.exmAny X.K cls [c, d]) := Hsh.un (by simp (disch := k_dflt (
  refine Hsh.up ?_
  intro a pn σ H s cls b Q E I LT e k
  refine wpAny_Tuple ?_
  refine wpAny_items_cons (ld_names hc I ?_)
  refine wpAny_items_cons (ld_names hd I ?_)
  refine wpAny_items_nil ⟨by size_fits, ?_⟩
  have kp : ∀ q o, s.heap.get? q = some o → (s.heap.push { cls := .type "tuple", data := .seq [c, d].toArray }).get? q = some o := fun _ _ z => Heap.get?_push_of_some _ z
  exact (PySem.W.exm_tup2 (PySem.W.Frag.In.keeps I.kIn kp) (LT.keeps kp) (Heap.get?_push_size s.heap rfl) e).here (k _ kp)
  )) only [↓Hsh.on])
abbrev Cl := (Value → Option Bool) × Option Nat × (Addr → Value → Option Addr → TS)
/-- the clauses of a try -/
inductive HdsG (X : Cx) : List ExceptHandler → List Cl → Prop
  | nil : HdsG X [] []
  | one {t : Expr} {f : Value → Option Bool} {ts : Addr → Value → Option Addr → TS} {b₀ : Stmt} {suite : List Stmt} {p : Pos} {hds : List ExceptHandler} {l : List Cl} (ht : Tst X t f)
      (hsu : ∀ (a : Addr) (oe : Obj) (cls : Value) (d : Option Addr) (pn : List (Addr × Obj)), Zc cls d oe → (∃ vs, oe.data = .fields vs) → PSs (X.suite a ((a, oe) :: pn)) (b₀ :: suite) (ts a cls d)) (r : HdsG X hds l) :
      HdsG X (.ExceptHandler (some t) none (b₀ :: suite) p :: hds) ((f, none, ts) :: l)
  | als {t : Expr} {n : Str} {i : Nat} {f : Value → Option Bool} {ts : Addr → Value → Option Addr → TS} {b₀ : Stmt} {suite : List Stmt} {p : Pos} {hds : List ExceptHandler} {l : List Cl} (hi : X.N[i]? = some n) (hln : X.env.kindOf n = some .local) (ht : Tst X t f)
      (hsu : ∀ (a : Addr) (oe : Obj) (cls : Value) (d : Option Addr) (pn : List (Addr × Obj)), Zc cls d oe → (∃ vs, oe.data = .fields vs) → PSs (X.suite a ((a, oe) :: pn)) (b₀ :: suite) (ts a cls d)) (r : HdsG X hds l) :
      HdsG X (.ExceptHandler (some t) (some n) (b₀ :: suite) p :: hds) ((f, some i, ts) :: l)
/-- the ends of a suite: the name of the clause goes -/
def endsG (D : Ends) : Option Nat → Ends
  | none => D
  | some i => { nx := fun σ H => D.nx (σ.set i none) H, rt := D.rt, bk := fun σ H => D.bk (σ.set i none) H, ct := fun σ H => D.ct (σ.set i none) H }
def setG (σ : L2.St) (a : Addr) : Option Nat → L2.St
  | none => σ
  | some i => σ.set i (some (.ref a))
/-- what the clauses wish of an error of the body -/
def wG (Wout : WX) (D : Ends) : List Cl → WX
  | [] => Wout
  | (f, oi, ts) :: r => fun cls d σ H => ∃ b, f cls = some b ∧ (b = true → ∀ a, H a = none → ts a cls d (endsG D oi) (setG σ a oi) H) ∧ (b = false → wG Wout D r cls d σ H)
def tTryG (tb : WX → TS) (Wout : WX) (l : List Cl) (u : TS) : TS := fun D σ H => tb (wG Wout D l) { D with nx := u D } σ H
def tRaiseG (W : WX) (D : Addr) : TS := fun _ σ H => W (.ref D) none σ H
theorem flying_keeps {B : Heap} {l : List Env} {a : Addr} {Z : Obj → Prop} {h h' : Heap} (f : HandSPX.FlyingZ B l a Z h) (k : ∀ q o, h.get? q = some o → h'.get? q = some o) : HandSPX.FlyingZ B l a Z h' := by
  obtain ⟨k1, k2, k3, oe, vs, T, oT, ts, he, hz, hd, h1, hn, ne, hT, hdT, h3⟩ := f
  exact ⟨fun b o e => k b o (k1 b o e), k2, k3.of_keeps fun b o e _ => ⟨o, k b o e, rfl⟩, oe, vs, T, oT, ts, k _ _ he, hz, hd, h1, hn, ne, k _ _ hT, hdT, h3⟩
section
variable {X : Cx} {body orelse : List Stmt} {h₀ : ExceptHandler} {hds : List ExceptHandler} {l : List Cl} {pos : Pos} {tb : WX → TS} {u : TS} {Wout : WX}
theorem ps_tryG (hs : X.stack = X.env :: X.outer) (hf : X.env.frame = some X.env.locals) (hN : X.N.Nodup) (tk : Takes X Wout)
    (hb : ∀ (W : WX) (pn : List (Addr × Obj)) (xe : Value → Shared → Prop), Takes (X.tr pn xe) W → PassesOwn (model X.prog X.w) X.A X.env xe → PSs (X.tr pn xe) body (tb W))
    (hh : HdsG X (h₀ :: hds) l) (ho : PSs X orelse u) : PS X (.Try body (h₀ :: hds) orelse [] pos) (tTryG tb Wout l u) := Hsh.un (by simp (disch := k_dflt (
  refine Hsh.up ?_
  refine ⟨fun pins s σ H D I h => ?_⟩
  have ok := I.ok
  have hfr : X.A.frames = some (X.env :: X.outer) := by rw [ok.frames, hs]
  refine wpAny_Try_except ?_
  have body_ok := (hb (wG Wout D l) (X.pn ++ pins) (fun e s₁ => wpAny (model X.prog X.w) X.A (noteFrame e X.env) (fun _ s₂ => wpAny (model X.prog X.w) X.A (setFlight e none) (fun _ s₃ =>
    wpAny (model X.prog X.w) X.A (handleBy e X.env (h₀ :: hds)) (SP X pins D) X.xe s₃) X.xe s₂) X.xe s₁) (fun v s' xx => ?_) PassesOwn.looking).run [] s σ H { D with nx := u D } (I.toTry _) h
  · refine wpAny_mono body_ok (fun f s1 hsp => ?_) (fun e s1 he => he)
    cases f with
    | next =>
      obtain ⟨σ', H', J', q⟩ := hsp
      exact ho.run pins s1 σ' H' D (J'.ofTry ok) q
    | brk =>
      obtain ⟨σ', H', J', q⟩ := hsp
      exact ⟨σ', H', J'.ofTry ok, q⟩
    | cont =>
      obtain ⟨σ', H', J', q⟩ := hsp
      exact ⟨σ', H', J'.ofTry ok, q⟩
    | ret z =>
      obtain ⟨v, σ', H', J', r, q⟩ := hsp
      exact ⟨v, σ', H', J'.ofTry ok, r, q⟩
  · obtain ⟨a, B, sI, pins', σ', H', cls, d, rfl, J', nb, up, sky, na, os, ag, w⟩ := xx
    have J : Inv X pins σ' H' sI := J'.ofTry ok
    show wpAny (model X.prog X.w) X.A (noteFrame (.ref a) X.env) _ _ _
    refine Sky.land Zc.steady hfr hf (by rw [← hs]; exact sky) fun h3 fl3 up3 => ?_
    -- what the landed error tells at any heap
    have facts : ∀ h, HandSPX.FlyingZ B (X.env :: X.outer) a (Zc cls d) h → s'.heap.UpToSlots h → Inv X pins σ' H' { s' with heap := h } ∧ ∃ oe vs, h.get? a = some oe ∧ Zc cls d oe ∧ oe.data = .fields vs ∧ Inv (X.suite a ((a, oe) :: (X.pn ++ pins))) [] σ' H' { s' with heap := h } := fun h fl uph => by
      have Jh : Inv X pins σ' H' { s' with heap := h } := J.landed nb fl.1 (up.trans uph) os ag
      obtain ⟨oe, vs, he, hz, hd⟩ := fl.there
      have nfr : a ∉ frs (X.env :: X.outer) := fun hm => by
        obtain ⟨_, o', e', hnf⟩ := fl.2.2.1.mem hm
        rw [he] at e'
        cases e'
        exact hnf _ hd
      have nL : a ≠ X.env.locals := fun z => nfr (List.mem_filterMap.mpr ⟨X.env, List.mem_cons_self, by rw [hf, z]⟩)
      have nF : a ∉ X.fs := fun hm => by
        obtain ⟨e, he, q⟩ := List.mem_filterMap.mp hm
        exact nfr (List.mem_filterMap.mpr ⟨e, List.mem_cons_of_mem _ he, q⟩)
      exact ⟨Jh, oe, vs, he, hz, hd, Jh.suite he hd na nL nF⟩
    have looks : ∀ {h : Heap} {oe : Obj}, h.get? a = some oe → Zc cls d oe → PySem.W.Looks (model X.prog X.w) h (typeOf (.ref a)) cls := fun {h oe} he hz A Q E s k q => wpAny_typeOf_ref (k _ _ he) (by rw [hz.1]; exact q)
    have go : ∀ {hds' : List ExceptHandler} {l' : List Cl}, HdsG X hds' l' → wG Wout D l' cls d σ' H' → ∀ h, HandSPX.FlyingZ B (X.env :: X.outer) a (Zc cls d) h → s'.heap.UpToSlots h →
        wpAny (model X.prog X.w) X.A (handleBy (.ref a) X.env hds') (SP X pins D) X.xe { s' with heap := h } := by
      intro hds' l' hk
      induction hk with
      | nil =>
        intro w h fl uph
        refine wpAny_handleBy_nil ?_
        obtain ⟨_, _, _, oe, vs, T, oT, ts', he, hz, hd, h1, _⟩ := id fl
        unfold PySem.passOn
        refine wpAny_bind (wpAny_field he hd h1 ?_)
        rw [if_neg (show ¬ ((Value.ref T == Value.none) = true) from by simp)]
        have fin : wpAny (model X.prog X.w) X.A (setFlight (.ref a) X.env.frame) (fun _ s4 => wpAny (model X.prog X.w) X.A (throw (.ref a) : Sem Flow) (SP X pins D) X.xe s4) X.xe { s' with heap := h } := by
          rw [hf]
          refine HandSPX.setFlight_upZ fl fun h4 hh4 up4 => wpAny_throw (tk _ _ ?_)
          exact ⟨a, B, sI, pins, σ', H', cls, d, rfl, J, nb, (up.trans uph).trans up4, .inr (.inr (by rw [hs]; exact hh4)), na, os, ag, w⟩
        first
          | exact wpAny_bind (wpAny_pure (wpAny_bind fin))
          | exact wpAny_bind fin
      | @one t f ts b₀ suite p hds2 l2 ht hsu r ih =>
        intro w h fl uph
        obtain ⟨b, hb1, hyes, hno⟩ := w
        obtain ⟨_, oe, vs, he, hz, hd, S⟩ := facts h fl uph
        refine wpAny_handleBy_cons (codeAny_handlers_test (ht a _ σ' H' _ cls b _ _ S (looks he hz) hb1 fun h5 k5 => ?_)) (by intro q; cases q)
        have fl5 := flying_keeps fl k5
        have up5 := uph.trans (Heap.UpToSlots.of_keeps k5)
        cases b with
        | true =>
          refine codeAny_handlers_suite ?_
          refine HandSPX.lands_againZ fl5 fun h4 fl4 up4 => ?_
          obtain ⟨_, oe4, vs4, he4, hz4, hd4, S4⟩ := facts h4 fl4 (up5.trans up4)
          refine wpAny_mono ((hsu a oe4 cls d (X.pn ++ pins) hz4 ⟨_, hd4⟩).run [] _ _ H' _ S4 (hyes rfl a na)) (fun f s6 hsp => ?_) (fun _ _ z => False.elim z)
          cases f with
          | next =>
            obtain ⟨σ6, H6, S6, q6⟩ := hsp
            exact ⟨_, _, S6.unsuite ok, q6⟩
          | brk =>
            obtain ⟨σ6, H6, S6, q6⟩ := hsp
            exact ⟨_, _, S6.unsuite ok, q6⟩
          | cont =>
            obtain ⟨σ6, H6, S6, q6⟩ := hsp
            exact ⟨_, _, S6.unsuite ok, q6⟩
          | ret z =>
            obtain ⟨v6, σ6, H6, S6, r6, q6⟩ := hsp
            exact ⟨_, _, _, S6.unsuite ok, r6, q6⟩
        | false => exact ih (hno rfl) h5 fl5 up5
      | @als t n i f ts b₀ suite p hds2 l2 hi hln ht hsu r ih =>
        intro w h fl uph
        obtain ⟨b, hb1, hyes, hno⟩ := w
        obtain ⟨_, oe, vs, he, hz, hd, S⟩ := facts h fl uph
        refine wpAny_handleBy_cons (codeAny_handlers_test (ht a _ σ' H' _ cls b _ _ S (looks he hz) hb1 fun h5 k5 => ?_)) (by intro q; cases q)
        have fl5 := flying_keeps fl k5
        have up5 := uph.trans (Heap.UpToSlots.of_keeps k5)
        cases b with
        | true =>
          refine codeAny_handlers_suite_as ?_
          refine HandSPX.lands_againZ fl5 fun h4 fl4 up4 => ?_
          obtain ⟨_, oe4, vs4, he4, hz4, hd4, S4⟩ := facts h4 fl4 (up5.trans up4)
          refine store_ok (X := X.suite a ((a, oe4) :: (X.pn ++ pins))) (v := .ref a) S4 hN hi (.inl hln) rfl (fun s5 S5 => ?_) (.inr hln)
          refine wpAny_mono ((hsu a oe4 cls d (X.pn ++ pins) hz4 ⟨_, hd4⟩).run [] s5 _ H' _ S5 (hyes rfl a na)) (fun f s6 hsp => ?_) (fun _ _ z => False.elim z)
          have gone : ∀ {σ6 : L2.St} {H6 : Hp} {Q : Shared → Prop}, Inv (X.suite a ((a, oe4) :: (X.pn ++ pins))) [] σ6 H6 s6 → (∀ s7, Inv X pins (σ6.set i none) H6 s7 → Q s7) →
              wpAny (model X.prog X.w) X.A (do bindName X.env n .none; unbindBehindTheSuite X.env n p) (fun _ s7 => Q s7) X.xe s6 := fun {σ6 H6 Q} S6 hq => gone_ok (S6.unsuite ok) hN hi hln hq
          cases f with
          | next =>
            obtain ⟨σ6, H6, S6, q6⟩ := hsp
            exact gone S6 fun s7 J7 => ⟨_, _, J7, q6⟩
          | brk =>
            obtain ⟨σ6, H6, S6, q6⟩ := hsp
            exact gone S6 fun s7 J7 => ⟨_, _, J7, q6⟩
          | cont =>
            obtain ⟨σ6, H6, S6, q6⟩ := hsp
            exact gone S6 fun s7 J7 => ⟨_, _, J7, q6⟩
          | ret z =>
            obtain ⟨v6, σ6, H6, S6, r6, q6⟩ := hsp
            exact gone S6 fun s7 J7 => ⟨_, _, _, J7, r6, q6⟩
        | false => exact ih (hno rfl) h5 fl5 up5
    exact go hh w h3 fl3 up3
  )) only [↓Hsh.on])
end
theorem eqV_str (a b : Str) : eqV (.str a) (.str b) = decide (a = b) := by
  show (a == b) = _
  by_cases h : a = b <;> simp [h]
theorem inV_strs (x : Str) (l : List Str) : inV (.str x) (l.map V.str) = decide (x ∈ l) := Hsh.un (by simp (disch := k_dflt (
  refine Hsh.up ?_
  unfold inV
  rw [List.any_map]
  induction l with
  | nil => simp
  | cons a l ih =>
    rw [List.any_cons, ih]
    show (eqV (.str a) (.str x) || _) = _
    rw [eqV_str]
    by_cases h : a = x <;> by_cases h2 : x ∈ l <;> simp [h, h2, eq_comm] <;> exact fun z => h z.symm
  )) only [↓Hsh.on])
theorem q_dec {p : Prop} [Decidable p] {Q : VK} {H : Hp} (h : p) (k : Q (.bl true) H) : Q (.bl (decide p)) H := by
  rw [decide_eq_true h]
  exact k
theorem s_eqD {K : PySem.W.Frag} {H : Hp} {Q : VK} {p q : Addr} {d e : PyData} {b : Bool} (h1 : Dp K H (.ref p) d) (h2 : Dp K H (.ref q) e) (s1 : SeqAt.shaped d = true) (s2 : SeqAt.shaped e = true) (hb : PyData.eqv d e = b) (h : Q (.bl b) H) : rEqX K (.ref p) (.ref q) H Q :=
  .inr ⟨d, e, h1, h2, s1, s2, by rw [hb]; exact h⟩
theorem s_neD {K : PySem.W.Frag} {H : Hp} {Q : VK} {p q : Addr} {d e : PyData} {b : Bool} (h1 : Dp K H (.ref p) d) (h2 : Dp K H (.ref q) e) (s1 : SeqAt.shaped d = true) (s2 : SeqAt.shaped e = true) (hb : PyData.eqv d e = b) (h : Q (.bl (!b)) H) : rNeX K (.ref p) (.ref q) H Q :=
  .inr ⟨d, e, h1, h2, s1, s2, by rw [hb]; exact h⟩
/-- a number out of a list of numbers -/
theorem toI_bnd (lo hi : Int) {xs : List V} {i : Int} (h : (xs.all fun v => decide (lo ≤ toI v) && decide (toI v ≤ hi)) = true) (h0 : 0 ≤ i) (h1 : i < xs.length) : lo ≤ toI (xs.getD i.toNat .non) ∧ toI (xs.getD i.toNat .non) ≤ hi := Hsh.un (by simp (disch := k_dflt (
  refine Hsh.up ?_
  have hm : xs.getD i.toNat .non ∈ xs := by
    rw [List.getD_eq_getElem?_getD, List.getElem?_eq_getElem (by omega)]
    exact List.getElem_mem _
  have := List.all_eq_true.mp h _ hm
  simpa using this
  )) only [↓Hsh.on])
theorem SH.call2 {A : List Addr} {H0 H H' : Hp} {L : List Cell} {a b : Addr} {o u o' u' : HO} (S : SH A H0 H L) (i j : Nat) (e : L[i]? = some (a, o)) (e2 : L[j]? = some (b, u)) (im : Imm o = false) (im2 : Imm u = false) (k : Keep [a, b] H H') (h : H' a = some o') (h2 : H' b = some u') :
    SH A H0 H' ((L.set i (a, o')).set j (b, u')) := Hsh.un (by simp (disch := k_dflt (
  refine Hsh.up ?_
  have ha := S.get i e
  have hb := S.get j e2
  have rest : ∀ c m, (L.set i (a, o'))[m]? = some c → m ≠ j → c = (a, o') ∨ ∃ m, L[m]? = some c ∧ m ≠ i ∧ m ≠ j := fun c m q nj => by
    by_cases q2 : i = m
    · subst q2
      left
      obtain ⟨hi, _⟩ := List.getElem?_eq_some_iff.mp e
      rw [List.getElem?_set, if_pos rfl, if_pos hi] at q
      exact (Option.some.inj q).symm
    · rw [List.getElem?_set_ne q2] at q
      exact .inr ⟨m, q, Ne.symm q2, nj⟩
  have key : ((L.set i (a, o')).set j (b, u')).map (·.1) = L.map (·.1) := by
    by_cases q : j = i
    · subst q
      rw [e] at e2
      cases e2
      rw [List.set_set, map_set_key e]
    · rw [map_set_key (o := u) (by rw [List.getElem?_set_ne (Ne.symm q)]; exact e2), map_set_key e]
  refine ⟨fun c hc => ?_, by rw [key]; exact S.nd, ⟨fun d v q z => ?_, fun d q => S.kp.d d (k.d d q)⟩, fun c hc => ?_⟩
  · rcases mem_set_cell hc with rfl | ⟨m, nm, em⟩
    · exact h2
    · rcases rest c m em nm with rfl | ⟨m, q, ni, nj⟩
      · exact h
      · refine k.k _ _ (S.hs c (List.mem_of_getElem? q)) (.inl fun z => ?_)
        rcases List.mem_cons.mp z with z | z
        · exact nodup_key S.nd e q ni z
        · exact nodup_key S.nd e2 q nj (List.mem_singleton.mp z)
  · have h1 := S.kp.k d v q z
    refine k.k d v h1 ?_
    rcases z with z | z
    · by_cases da : d = a
      · exfalso
        subst da
        rcases S.ow _ (List.mem_of_getElem? e) with w | w
        · exact z w
        · rw [q] at w
          cases w
      · by_cases db : d = b
        · exfalso
          subst db
          rcases S.ow _ (List.mem_of_getElem? e2) with w | w
          · exact z w
          · rw [q] at w
            cases w
        · exact .inl (by simp [da, db])
    · exact .inr z
  · rcases mem_set_cell hc with rfl | ⟨m, nm, em⟩
    · exact S.ow (b, u) (List.mem_of_getElem? e2)
    · rcases rest c m em nm with rfl | ⟨m, q, ni, nj⟩
      · exact S.ow (a, o) (List.mem_of_getElem? e)
      · exact S.ow c (List.mem_of_getElem? q)
  )) only [↓Hsh.on])
theorem h_pop0 {i : Nat} {A : List Addr} {H0 H : Hp} {L : List Cell} {Q : VK} {a : Addr} {ns : List Int} (S : SH A H0 H L) (e : L[i]? = some (a, .lst (ns.map V.int))) (h0 : 0 < (ns.map V.int).length)
    (h : ∀ n ms H', ns = n :: ms → SH A H0 H' (L.set i (a, .lst (ms.map V.int))) → Q (.int n) H') : rPopAt (.ref a) [.int 0] H Q := Hsh.un (by simp (disch := k_dflt (
  refine Hsh.up ?_
  cases ns with
  | nil => exact absurd h0 (by decide)
  | cons n ms =>
    refine ⟨a, _, 0, 0, .int n, rfl, rfl, S.get i e, by decide, by decide, ?_, rfl, h n ms _ rfl (S.set i e rfl _)⟩
    unfold seqIndex?
    simp
  )) only [↓Hsh.on])
/-! ### what classes of errors tell -/
/-- all that is asked of a class of errors without own __init__ -/
structure ExcF (K : PySem.W.Frag) (D : Addr) : Prop where
  ex : PySem.W.excIn K D He.veBase "ValueError.__new__" = true
  kp : PySem.W.keepIn K (.ref D) = true
  bs : PySem.W.subIn K (.ref D) (.type "BaseException") = some true
  ty : PySem.W.typeIn K (.ref D) = some (.type "type")
theorem excF_ok {K : PySem.W.Frag} {x : Str} (c : (He.Fa.exc x).ok K = true) : ExcF K (He.ga K x) := by
  obtain ⟨h1, h2, h3, h4⟩ := He.exc_ok c
  exact ⟨h1, h2, h3, h4⟩
def excCB (K : PySem.W.Frag) (x : Str) : Bool :=
  let D := He.ga K x
  decide (PySem.W.findIn K (.ref D) "__getattribute__" = some (some (.builtin "BaseException.__getattribute__"))) && (decide (PySem.W.findIn K (.ref D) "__getattr__" = some none) &&
    (decide (PySem.W.subIn K (.ref D) (.type "BaseException") = some true) && (PySem.W.hasDictIn K D && (decide (PySem.W.findIn K (.ref D) "__class__" = some (some (.builtin "object.__class__"))) &&
      (decide (PySem.W.specialIn K (.builtin "object.__class__") "__get__" = some (some (.builtin "getset_descriptor.__get__"))) && (decide (PySem.W.takesIn K (.builtin "object.__class__") = some true) &&
        decide (PySem.W.mroIn K D (.type "object") = some true)))))))
theorem excCB_ok {K : PySem.W.Frag} {x : Str} (h : excCB K x = true) : ExcC K (He.ga K x) := Hsh.un (by simp (disch := k_dflt (
  refine Hsh.up ?_
  unfold excCB at h
  simp only [Bool.and_eq_true, decide_eq_true_eq] at h
  obtain ⟨a, b, c, d, e, f, g, i⟩ := h
  exact ⟨a, b, c, d, e, f, g, i⟩
  )) only [↓Hsh.on])
def kitCB (K : PySem.W.Frag) (x y : Str) (b : Bool) : Bool := decide (PySem.W.kitOne K (.ref (He.ga K x)) (.ref (He.ga K y)) = some b)
theorem kitCB_ok {K : PySem.W.Frag} {x y : Str} {b : Bool} (h : kitCB K x y b = true) : PySem.W.kitOne K (.ref (He.ga K x)) (.ref (He.ga K y)) = some b := of_decide_eq_true h
def kitTB (K : PySem.W.Frag) (x : Str) (y : String) (b : Bool) : Bool := decide (PySem.W.kitOne K (.ref (He.ga K x)) (.type y) = some b)
def exmTB (K : PySem.W.Frag) (x : Str) (y : String) (b : Bool) : Bool := decide (PySem.W.exmOne K (.ref (He.ga K x)) (.type y) = some b)
theorem exmTB_ok {K : PySem.W.Frag} {x : Str} {y : String} {b : Bool} (h : exmTB K x y b = true) : PySem.W.exmOne K (.ref (He.ga K x)) (.type y) = some b := of_decide_eq_true h
theorem kitTB_ok {K : PySem.W.Frag} {x : Str} {y : String} {b : Bool} (h : kitTB K x y b = true) : PySem.W.kitOne K (.ref (He.ga K x)) (.type y) = some b := of_decide_eq_true h
theorem kdct_ok {K : PySem.W.Frag} {w : World} {a : Addr} {kvs : List (Str × He.Dv)} (h : ∃ es n, KDict K w a es n) (hv : He.valsB K a kvs = true) : ∀ q ∈ kvs, KDct K w a q.1 (q.2.v K) := fun q hq => by
  obtain ⟨es, n, D⟩ := h
  obtain ⟨u, e, r⟩ := He.valsB_ok hv hq
  exact ⟨es, n, u, D.at_, D.lit, e, r⟩
theorem s_ixD {K : PySem.W.Frag} {w : World} {p : Addr} {z : Str} {v : V} {H : Hp} {Q : VK} (h : KDct K w p z v) (q : Q v H) : rIxD K w (.ref p) (.str z) H Q := ⟨p, z, v, rfl, rfl, h, q⟩
section
variable {X : Cx}
/-- raise C('text') -/
theorem ps_raiseG {W : WX} {x m : Str} {j : Nat} {p p2 pos pos2 : Pos} (hc : X.calm = true) (tk : Takes X W) (F : ExcF X.K (He.ga X.K x)) (hm : X.mg x = some (.ref (He.ga X.K x))) (hg : Gl X x) (hdb : (x == ("__debug__" : Str)) = false := by decide) :
    PS X (.Raise (some (.Call (.Name x p) [.Constant (.str m) j p2] [] pos)) none pos2) (tRaiseG W (He.ga X.K x)) :=
  ps_raise hc tk (pmk_own PySem.F.excBase_ValueError F.ex hm F.kp (raises_own F.bs F.ty) hg hdb)
/-- isinstance in a suite, of the error that it holds -/
def rIsE1 (K : PySem.W.Frag) (cls : Value) (d : Option Addr) (a : Addr) : List V → Hp → VK → Prop := fun xs H Q => ∃ D, cls = .ref D ∧ d = none ∧ ExcC K D ∧ rIsE K D a xs H Q
def rIsinE (K : PySem.W.Frag) (cls : Value) (d : Option Addr) (a : Addr) : List V → Hp → VK → Prop := fun xs H Q => rIsiX K xs H Q ∨ rIsE1 K cls d a xs H Q
theorem x_isE {a : Addr} {oe : Obj} {cls : Value} {d : Option Addr} {pn : List (Addr × Obj)} (hz : Zc cls d oe) (hf : ∃ vs, oe.data = .fields vs) :
    CallR (X.suite a ((a, oe) :: pn)) (.builtin "isinstance") (rIsE1 X.K cls d a) := Hsh.un (by simp (disch := k_dflt (
  refine Hsh.up ?_
  intro pins s σ H xs us Q I r h
  obtain ⟨D, rfl, rfl, C, h⟩ := h
  exact call_isE C hz hf pins s σ H xs us Q I r h
  )) only [↓Hsh.on])
end
theorem cxW {CX : CXT} {P : Program} {w : World} {K : PySem.W.Frag} {mg : Str → Option Value} {base : Heap} {N : List Str} {qual : Str} {scope : Scope} {f : Addr} {cd : Value} {A : Around} {outer : List PySem.Env} {s : Shared} {H : Hp} {E : XK} :
    (cxOf CX P w K mg base N qual scope f cd A outer s H E).nox.w = w := rfl
theorem cxW2 {CX : CXT} {P : Program} {w : World} {K : PySem.W.Frag} {mg : Str → Option Value} {base : Heap} {N : List Str} {qual : Str} {scope : Scope} {f : Addr} {cd : Value} {A : Around} {outer : List PySem.Env} {s : Shared} {H : Hp} {E : XK} :
    (cxOf CX P w K mg base N qual scope f cd A outer s H E).w = w := rfl
theorem x_isinE {X : Cx} {a : Addr} {oe : Obj} {cls : Value} {d : Option Addr} {pn : List (Addr × Obj)} (hz : Zc cls d oe) (hf : ∃ vs, oe.data = .fields vs) :
    CallR (X.suite a ((a, oe) :: pn)) (.builtin "isinstance") (rIsinE X.K cls d a) := CallR.or x_isinstance (x_isE hz hf)
section
variable {K : PySem.W.Frag} {a D C : Addr} {H : Hp} {σ : L2.St} {Q : VK} {b : Bool} {n bk ct : L2.St → Hp → Prop} {r : VK}
theorem s_isE (c : ExcC K D) (e : PySem.W.kitOne K (.ref D) (.ref C) = some b) (h : Q (.bl b) H) : rIsinE K (.ref D) none a [.ref a, .ref C] H Q := .inr ⟨D, rfl, rfl, c, _, _, b, rfl, fun u h => h, e, h⟩
theorem s_isEt {y : String} (c : ExcC K D) (e : PySem.W.kitOne K (.ref D) (.type y) = some b) (h : Q (.bl b) H) : rIsinE K (.ref D) none a [.ref a, .ty y] H Q := .inr ⟨D, rfl, rfl, c, _, _, b, rfl, fun u h => h, e, h⟩
theorem s_isEx {cls : Value} {d : Option Addr} {xs : List V} (h : rIsiX K xs H Q) : rIsinE K cls d a xs H Q := .inl h
theorem s_try {tb : WX → TS} {Wout : WX} {l : List Cl} {u : TS} (h : tb (wG Wout ⟨n, r, bk, ct⟩ l) ⟨u ⟨n, r, bk, ct⟩, r, bk, ct⟩ σ H) : tTryG tb Wout l u ⟨n, r, bk, ct⟩ σ H := h
theorem s_raise {W : WX} {e : Ends} (h : W (.ref D) none σ H) : tRaiseG W D e σ H := h
theorem s_WE {W : WX} {cls : Value} {d : Option Addr} (h : W cls d σ H) : WE W σ cls d H := h
theorem s_wGn {Wout : WX} {e : Ends} {f : Value → Option Bool} {oi : Option Nat} {ts : Addr → Value → Option Addr → TS} {l : List Cl} {cls : Value} {d : Option Addr} (q : f cls = some false) (h : wG Wout e l cls d σ H) : wG Wout e ((f, oi, ts) :: l) cls d σ H := ⟨false, q, (fun z => nomatch z), fun _ => h⟩
theorem s_wGy {Wout : WX} {f : Value → Option Bool} {ts : Addr → Value → Option Addr → TS} {l : List Cl} {cls : Value} {d : Option Addr} (q : f cls = some true) (h : ∀ a, H a = none → ts a cls d ⟨n, r, bk, ct⟩ σ H) :
    wG Wout ⟨n, r, bk, ct⟩ ((f, none, ts) :: l) cls d σ H := ⟨true, q, fun _ => h, (fun z => nomatch z)⟩
theorem s_wGa {Wout : WX} {i : Nat} {f : Value → Option Bool} {ts : Addr → Value → Option Addr → TS} {l : List Cl} {cls : Value} {d : Option Addr} (q : f cls = some true)
    (h : ∀ a, H a = none → ts a cls d ⟨fun σ H => n (σ.set i none) H, r, fun σ H => bk (σ.set i none) H, fun σ H => ct (σ.set i none) H⟩ (σ.set i (some (.ref a))) H) :
    wG Wout ⟨n, r, bk, ct⟩ ((f, some i, ts) :: l) cls d σ H := ⟨true, q, fun _ => h, (fun z => nomatch z)⟩
theorem s_wG0 {Wout : WX} {e : Ends} {cls : Value} {d : Option Addr} (h : Wout cls d σ H) : wG Wout e [] cls d σ H := h
end
/-- a call in a try's body -/
theorem pe_callSG {X : Cx} {CX : CXT} {k : Nat} {ps : List Str} {sp : Sp} {E : L2.St → XK} {x : Str} {p pos : Pos} {e : Expr} {es : List Expr} {t : TA} (F : CallOk X.prog X.w X.K X.mg X.base CX k x ps sp) (hr : Room k X.A) (hg : Gl X x) (hx : ∀ σ, PassesAt CX X σ (E σ))
    (ha : PA X (e :: es) t) (hdb : (x == ("__debug__" : Str)) = false := by decide) (he : starEach (e :: es) X.env = (false, eval e X.env) :: starEach es X.env := by rfl) (hpl : (backTo pos (starEach es X.env)).any (·.1) = false := by rfl) :
    PE X (.Call (.Name x p) (e :: es) [] pos) (tCallS sp E t) := by
  obtain ⟨f, fd, h1, h2, h3, h4⟩ := F.ex
  exact pe_callS h4 hr hg h1 h2 h3 hx ha hdb he hpl
theorem s_callS {σ : L2.St} {H : Hp} {Q : VK} {sp : Sp} {E : L2.St → XK} {tr : TA} (h : tr σ H fun vs H1 => sp (vs ++ []) H1 Q (E σ)) : tCallS sp E tr σ H Q := Hsh.un (by simp (disch := k_dflt (
  refine Hsh.up ?_
  unfold tCallS
  simp only [List.append_nil] at h
  exact h
  )) only [↓Hsh.on])
/-- a module's tuple, by its class -/
def tupDB (K : PySem.W.Frag) (x : Str) : Bool := match K.lookup (He.ga K x) with
  | some o => decide (o.cls = .type "tuple") && o.dict.isNone
  | none => false
theorem tupDB_ok {K : PySem.W.Frag} {x : Str} (h : tupDB K x = true) : ∃ o, K.lookup (He.ga K x) = some o ∧ o.cls = .type "tuple" ∧ o.dict = none := Hsh.un (by simp (disch := k_dflt (
  refine Hsh.up ?_
  unfold tupDB at h
  cases q : K.lookup (He.ga K x) with
  | none => rw [q] at h; cases h
  | some o =>
    rw [q] at h
    simp only [Bool.and_eq_true, decide_eq_true_eq, Option.isNone_iff_eq_none] at h
    exact ⟨o, rfl, h.1, h.2⟩
  )) only [↓Hsh.on])
/-- a text's place in a tuple of texts -/
def rTIx (K : PySem.W.Frag) (x : V) (xs : List V) (H : Hp) (Q : VK) : Prop := ∃ p, ∃ ys : List Str, ∃ z j, x = .ref p ∧ xs = [.str z] ∧ SqT K H p (ys.map V.str) ∧ ys[j]? = some z ∧ (∀ m, m < j → ys[m]? ≠ some z) ∧ Q (.int (j : Nat)) H
theorem xt_index {X : Cx} : MtR X "tuple.index" (rTIx X.K) := mt_tup_index
theorem s_tix {K : PySem.W.Frag} {H : Hp} {Q : VK} {p : Addr} {ys : List Str} {z : Str} {j : Nat} (h : SqT K H p (ys.map V.str)) (e : ys[j]? = some z) (n : ∀ m, m < j → ys[m]? ≠ some z) (q : Q (.int (j : Nat)) H) : rTIx K (.ref p) [.str z] H Q := ⟨p, ys, z, j, rfl, rfl, h, e, n, q⟩
theorem tyT {K : PySem.W.Frag} {H : Hp} {a : Addr} {xs : List V} (h : SqT K H a xs) : TyX K H (.ref a) (.type "tuple") := Hsh.un (by simp (disch := k_dflt (
  refine Hsh.up ?_
  rcases h with (h | ⟨o, h⟩) | ⟨o, its, n, h1, h2, _⟩
  · exact .base (.tup h)
  · exact .fTuple h
  · exact .kTuple h1 h2
  )) only [↓Hsh.on])
theorem tyL {K : PySem.W.Frag} {H : Hp} {a : Addr} {xs : List V} (h : SqL K H a xs) : TyX K H (.ref a) (.type "list") := Hsh.un (by simp (disch := k_dflt (
  refine Hsh.up ?_
  rcases h with (h | ⟨o, h⟩) | ⟨o, its, n, h1, h2, _⟩
  · exact .base (.lst h)
  · exact .base (.frz h)
  · exact .kList h1 h2
  )) only [↓Hsh.on])
theorem SqT_keep {K : PySem.W.Frag} {A : List Addr} {H H' : Hp} {a : Addr} {xs : List V} (h : SqT K H a xs) (k : Keep A H H') : SqT K H' a xs := Hsh.un (by simp (disch := k_dflt (
  refine Hsh.up ?_
  rcases h with (h | ⟨o, h⟩) | h
  · exact .inl (.inl (k.k _ _ h (.inr rfl)))
  · exact .inl (.inr ⟨o, k.k _ _ h (.inr rfl)⟩)
  · exact .inr h
  )) only [↓Hsh.on])
def rSplit : V → List V → Hp → VK → Prop := fun x xs H Q => ∃ a b, x = .str a ∧ xs = [.str b] ∧ (b.length == 0) = false ∧ a.length + 2 ≤ sizeLine ∧ rNewStrs (Txt.split a b) H Q
theorem xt_split {X : Cx} : MtR X "str.split" rSplit := mt_split
theorem s_split {H : Hp} {Q : VK} {a b : Str} {ys : List Str} (h0 : (b.length == 0) = false) (h1 : a.length + 2 ≤ sizeLine) (e : Txt.split a b = ys) (h : newO (.lst (ys.map V.str)) 0 H Q) : rSplit (.str a) [.str b] H Q := ⟨a, b, rfl, rfl, h0, h1, by rw [e]; exact h.2⟩
def rJoin (K : PySem.W.Frag) : V → List V → Hp → VK → Prop := fun x xs H Q => ∃ a p, ∃ ys : List Str, x = .str a ∧ xs = [.ref p] ∧ (SqL K H p (ys.map V.str) ∨ SqT K H p (ys.map V.str)) ∧ (ys.map (·.length)).sum + ys.length * a.length ≤ 16777216 ∧ Q (.str (Txt.join a ys)) H
theorem xt_join {X : Cx} : MtR X "str.join" (rJoin X.K) := mt_join
theorem s_join {K : PySem.W.Frag} {H : Hp} {Q : VK} {a : Str} {p : Addr} {ys : List Str} (h : SqL K H p (ys.map V.str)) (c : (ys.map (·.length)).sum + ys.length * a.length ≤ 16777216) (q : Q (.str (Txt.join a ys)) H) : rJoin K (.str a) [.ref p] H Q := ⟨a, p, ys, rfl, rfl, .inl h, c, q⟩
theorem xl_index {X : Cx} : MtR X "list.index" (rIndex X.K) := mt_index
theorem s_lix {K : PySem.W.Frag} {H : Hp} {Q : VK} {p : Addr} {ys : List Str} {z : Str} {j : Nat} (h : SqL K H p (ys.map V.str)) (e : ys[j]? = some z) (n : ∀ m, m < j → ys[m]? ≠ some z) (q : Q (.int (j : Nat)) H) : rIndex K (.ref p) [.str z] H Q :=
  ⟨p, ys.map V.str, .str z, j, .str z, rfl, rfl, h, rfl, List.all_eq_true.mpr fun v hv => by obtain ⟨x, _, rfl⟩ := List.mem_map.mp hv; rfl, by rw [List.getElem?_map, e]; rfl, by rw [eqV_str]; exact decide_eq_true rfl, fun m z' hm hz => by
    rw [List.getElem?_map] at hz
    obtain ⟨x, hx, rfl⟩ := Option.map_eq_some_iff.mp hz
    rw [eqV_str]
    exact decide_eq_false fun y => n m hm (y ▸ hx), q⟩
theorem s_catA {K : PySem.W.Frag} {H : Hp} {Q : VK} {l b : Addr} {xs zs ys : List V} (h1 : SqT K H l xs) (h2 : SqT K H b zs) (n1 : xs ≠ []) (n2 : zs ≠ []) (c : xs.length + zs.length ≤ sizeLine) (e : xs ++ zs = ys) (h : newO (.tup ys) 0 H Q) : rAddX K (.ref l) (.ref b) H Q :=
  .inr (.inr (.inr ⟨l, b, xs, zs, rfl, rfl, h1, h2, c, fun z => absurd z n1, fun _ z => absurd z n2, fun _ _ p hp => by rw [e]; exact h.2 p hp⟩))
theorem s_catA0 {K : PySem.W.Frag} {H : Hp} {Q : VK} {l b : Addr} {xs : List V} (h1 : SqT K H l xs) (h2 : SqT K H b []) (n1 : xs ≠ []) (c : xs.length ≤ sizeLine) (h : Q (.ref l) H) : rAddX K (.ref l) (.ref b) H Q :=
  .inr (.inr (.inr ⟨l, b, xs, [], rfl, rfl, h1, h2, c, fun z => absurd z n1, fun _ _ => h, fun _ z => absurd rfl z⟩))
end Q
set_option Elab.async false
set_option linter.all false
set_option maxRecDepth 100000
set_option maxHeartbeats 4000000
/-! Properties: the getter's def is told by a hook of its own. -/
namespace Q
open PySem PySem.Spec PyProof.Rows L2
/-- the getter of the property f of the class C -/
def getA (K : PySem.W.Frag) (C f : Str) : Addr := match PySem.W.recIn K (He.ma K (He.ga K C) f) "property" with
  | some (.ref g :: _) => g
  | _ => 0
def getW (K : PySem.W.Frag) (g : Addr) : He.FnW := match K.lookup g with
  | some ⟨_, _, .func fd, _⟩ => some (fd.name, fd.qualname, fd.params, fd.body, fd.scope, fd.globals, fd.closure, fd.builtins)
  | _ => none
def getB (K : PySem.W.Frag) (d : He.DefD) (g : Addr) : Bool := PySem.W.keepIn K (.ref g) && (match K.lookup g with
  | some ⟨_, _, .func fd, _⟩ => PySem.W.codeIn K fd.code d.qual && (He.dflB K fd.defaults (d.dvs K) && He.kwdB K fd.kwdefaults (d.kws K))
  | _ => false)
theorem get_funD {K : PySem.W.Frag} {d : He.DefD} {g : Addr} (e : getW K g = d.val) (c : getB K d g = true) : ∃ fd, FunD K d.name d.qual d.params d.body d.scope (d.dvs K) (d.kws K) g fd := Hsh.un (by simp (disch := k_dflt (
  refine Hsh.up ?_
  obtain ⟨kp, c2⟩ := He.ba c
  unfold getW at e
  cases q : K.lookup g with
  | none => rw [q] at c2; cases c2
  | some o =>
    obtain ⟨oc, od, dt, osl⟩ := o
    rw [q] at c2 e
    cases dt with
    | func fd =>
      obtain ⟨m1, m2, m3, m4, m5, m6, m7, m8, m9, m10, m11, m12, m13, m14, m15⟩ := fd
      have e2 : (some (m1, m2, m3, m4, m5, m6, m7, m15) : He.FnW) = some (d.name, d.qual, d.params, .stmts d.body, d.scope, mainGlobals, [], builtinsNs) := e
      simp only [Option.some.injEq, Prod.mk.injEq] at e2
      obtain ⟨h1, h2, h3, h4, h5, h6, h7, h8⟩ := e2
      subst h1 h2 h3 h4 h5 h6 h7 h8
      obtain ⟨k1, k2⟩ := He.ba (show (PySem.W.codeIn K m13 d.qual && (He.dflB K m8 (d.dvs K) && He.kwdB K m9 (d.kws K))) = true from c2)
      obtain ⟨k3, k4⟩ := He.ba k2
      exact ⟨_, ⟨oc, od, m8, m9, m10, m11, m12, m13, m14, osl, rfl, q, k1, He.dflB_ok k3, He.kwdB_ok k4⟩, kp⟩
    | _ => cases c2
  )) only [↓Hsh.on])
/-- a property: its class, and its getter's def (the def's at_ tells class and name) -/
def prA (K : PySem.W.Frag) (d : He.DefD) : Addr := getA K d.at_.1 (d.at_.2.getD "")
def propB (K : PySem.W.Frag) (C f : Str) : Bool :=
  let p := He.ma K (He.ga K C) f
  decide (PySem.W.findIn K (.ref (He.ga K C)) f = some (some (.ref p))) && (decide (PySem.W.specialIn K (.ref p) "__get__" = some (some (.builtin "property.__get__"))) && (decide (PySem.W.takesIn K (.ref p) = some true) &&
    (match PySem.W.recIn K p "property" with
    | some (.ref _ :: _) => true
    | _ => false)))
theorem propB_ok {K : PySem.W.Frag} {C f : Str} (h : propB K C f = true) : PropOf K (He.ga K C) f (He.ma K (He.ga K C) f) (getA K C f) := Hsh.un (by simp (disch := k_dflt (
  refine Hsh.up ?_
  unfold propB at h
  obtain ⟨h1, h⟩ := He.ba h
  obtain ⟨h2, h⟩ := He.ba h
  obtain ⟨h3, h⟩ := He.ba h
  refine ⟨of_decide_eq_true h1, of_decide_eq_true h2, of_decide_eq_true h3, ?_⟩
  unfold getA
  split at h
  · rename_i g r e
    rw [e]
    exact ⟨r, rfl⟩
  · cases h
  )) only [↓Hsh.on])
structure SaysP (fa : List He.Fa) (fn : List He.DefD) (ts : List He.Tab) (ex : PySem.W.Frag → Bool) (pr : List He.DefD) (w : World) (h : Heap) (K : PySem.W.Frag) : Prop where
  x : He.SaysX fa fn ts [] ex w h K
  p : ∀ d ∈ pr, getW K (prA K d) = d.val ∧ getB K d (prA K d) = true
abbrev AlP : Type := He.AlX × List He.FnW × Bool
def obsP (n : Nat) (fa : List He.Fa) (fn : List He.DefD) (ts : List He.Tab) (ex : PySem.W.Frag → Bool) (pr : List He.DefD) (g : Addr → Option Obj) : AlP :=
  (He.obsX n fa fn ts [] ex g, (pr.map fun d => getW (He.frT g (He.asD g n)) (prA (He.frT g (He.asD g n)) d)), pr.all fun d => getB (He.frT g (He.asD g n)) d (prA (He.frT g (He.asD g n)) d))
def valP (fn : List He.DefD) (ts : List He.Tab) (pr : List He.DefD) (w : World) : AlP := (He.valX fn ts w, pr.map He.DefD.val, true)
theorem map_eq_mem {α β : Type} {f g : α → β} : ∀ {l : List α}, l.map f = l.map g → ∀ x ∈ l, f x = g x
  | [], _, _, h => nomatch h
  | a :: l, e, x, h => by
    rw [List.map_cons, List.map_cons] at e
    obtain ⟨e1, e2⟩ := List.cons.inj e
    rcases List.mem_cons.mp h with rfl | h
    · exact e1
    · exact map_eq_mem e2 x h
theorem saysP_of {n : Nat} {fa : List He.Fa} {fn : List He.DefD} {ts : List He.Tab} {ex : PySem.W.Frag → Bool} {pr : List He.DefD} {w : World} {h : Heap} (e : obsP n fa fn ts ex pr h.get? = valP fn ts pr w) : SaysP fa fn ts ex pr w h (He.frT h.get? (He.asD h.get? n)) := Hsh.un (by simp (disch := k_dflt (
  refine Hsh.up ?_
  have e1 : He.obsX n fa fn ts [] ex h.get? = He.valX fn ts w := congrArg (fun z : AlP => z.1) e
  have e2 := congrArg (fun z : AlP => z.2.1) e
  have e3 : (pr.all fun d => getB (He.frT h.get? (He.asD h.get? n)) d (prA (He.frT h.get? (He.asD h.get? n)) d)) = true := congrArg (fun z : AlP => z.2.2) e
  exact ⟨He.saysX_of e1, fun d hd => ⟨map_eq_mem e2 d hd, List.all_eq_true.mp e3 d hd⟩⟩
  )) only [↓Hsh.on])
def hookP (n : Nat) (fa : List He.Fa) (fn : List He.DefD) (ts : List He.Tab) (ex : PySem.W.Frag → Bool) (pr : List He.DefD) : PySem.W.Hook where
  α := AlP
  obs := fun s => obsP n fa fn ts ex pr s.heap.get?
  val := fun w => valP fn ts pr w
  says := fun w h => ∃ K : PySem.W.Frag, K.In h ∧ SaysP fa fn ts ex pr w h K
  of := fun _ _ e => ⟨_, He.frT_in, saysP_of e⟩
  keeps := fun _ _ _ ⟨K, hK, c⟩ k => ⟨K, PySem.W.Frag.In.keeps hK k, ⟨⟨c.x.t, c.x.more, c.x.hd, c.x.out, fun p hp => k _ _ (c.x.empty p hp)⟩, c.p⟩⟩
theorem obsP_eq {n : Nat} {fa : List He.Fa} {fn : List He.DefD} {ts : List He.Tab} {ex : PySem.W.Frag → Bool} {pr : List He.DefD} {g : Addr → Option Obj} {s : Shared} (h : ∀ a, g a = s.heap.get? a) : obsP n fa fn ts ex pr g = (hookP n fa fn ts ex pr).obs s := by
  have e : g = s.heap.get? := funext h
  rw [e] <;> rfl
theorem SaysP.get {fa : List He.Fa} {fn : List He.DefD} {ts : List He.Tab} {ex : PySem.W.Frag → Bool} {pr : List He.DefD} {w : World} {h : Heap} {K : PySem.W.Frag} (c : SaysP fa fn ts ex pr w h K) (i : Nat) {d : He.DefD} (e : pr[i]? = some d) : ∃ fd, FunD K d.name d.qual d.params d.body d.scope (d.dvs K) (d.kws K) (prA K d) fd :=
  let z := c.p d (List.mem_of_getElem? e)
  get_funD z.1 z.2
/-! ### more words on lists -/
def rInsert : V → List V → Hp → VK → Prop := fun x vs H Q => ∃ (l : Addr) (xs : List V) (i : Int) (y : V), x = .ref l ∧ vs = [.int i, y] ∧ H l = some (.lst xs) ∧ xs.length < sizeLine ∧ 0 ≤ i ∧ i < 2 ^ 63 ∧ Q .non (upd H l (.lst (xs.take i.toNat ++ [y] ++ xs.drop i.toNat)))
theorem xt_insert {X : Cx} : MtR X "list.insert" rInsert := mt_insert
theorem h_insert0 {A : List Addr} {H0 H : Hp} {L L' : List Cell} {Q : VK} {v : V} {i : Nat} {a : Addr} {xs : List V} (S : SH A H0 H L) (e : L[i]? = some (a, .lst xs)) (c : xs.length < sizeLine) (eL : L.set i (a, .lst (v :: xs)) = L')
    (h : ∀ H', SH A H0 H' L' → Q .non H') : rInsert (.ref a) [.int 0, v] H Q := ⟨a, xs, 0, v, rfl, rfl, S.get i e, c, by decide, by decide, h _ (eL ▸ S.set i e rfl _)⟩
/-! ### methods that may raise, in a try's body -/
def plO (X : Cx) (o : Expr) : Sem Bool := do return (← importBound o X.env).getD true
section
variable {X : Cx} {CX : CXT} {k : Nat} {ps : List Str} {sp : Sp} {E : L2.St → XK} {C m : Str} {p pos apos : Pos} {o e : Expr} {es : List Expr} {t : TA} {ta : TE}
theorem pe_methSG {K : PySem.W.Frag} (he : PE X o ta) (F : MethOk X.prog X.w X.K X.mg X.base CX k C m ps sp) (hr : Room k X.A) (hx : ∀ σ, PassesAt CX X σ (E σ)) (hK : X.K = K) (ha : PA X (e :: es) t)
    (ht : eval (.Call (.Attribute o m apos) (e :: es) [] pos) X.env = (do
      let ov ← eval o X.env
      standAt apos.atName
      let (f, first) ← holding [ov] (getMethod ov m (plO X o))
      callWith pos f first (backTo pos (starEach (e :: es) X.env)) (backToKw pos (keywordEach [] X.env))))
    (hst : starEach (e :: es) X.env = (false, eval e X.env) :: starEach es X.env := by rfl) (hpl : (backTo pos (starEach es X.env)).any (·.1) = false := by rfl) :
    PE X (.Call (.Attribute o m apos) (e :: es) [] pos) (fun σ H Q => ta σ H fun x H1 => methO (He.ga K C) m sp (E σ) t σ x H1 Q) := by
  subst hK
  obtain ⟨fd, c, hm, hb, G⟩ := F.ex
  refine ⟨fun pins s σ H Q I h => ?_⟩
  refine PySem.W.methodCall_KW (pl := plO X o) (thn (he.run pins s σ H _ I h) fun u s1 ⟨x, H1, I1, rx, a, dx, fs, ex, ea, l, q⟩ => ?_) ht
  subst ex
  obtain rfl : u = Value.ref a := rx
  refine getmeth_ok I1 ea c hm l ?_
  refine PySem.W.callWith_K (first := [.ref a]) (h₀ := X.base) I.ok.mod.kin hm.kp (thn (ha.run pos pins s1 σ H1 _ I1 q) fun us s2 ⟨vs, H2, I2, r, q2⟩ => ⟨I2.kIn, ?_⟩) hst hpl
  exact run_fnS (us := .ref a :: us) (vs := .ref a :: vs) G hr hb (hx σ) I2 (.cons rfl r) (by have q3 : sp (V.ref a :: (vs ++ [])) H2 Q (E σ) := q2; rw [List.append_nil] at q3; exact q3)
theorem pe_methSG0 {K : PySem.W.Frag} (he : PE X o ta) (F : MethOk X.prog X.w X.K X.mg X.base CX k C m ps sp) (hr : Room k X.A) (hx : ∀ σ, PassesAt CX X σ (E σ)) (hK : X.K = K)
    (ht : eval (.Call (.Attribute o m apos) [] [] pos) X.env = (do
      let ov ← eval o X.env
      standAt apos.atName
      let (f, first) ← holding [ov] (getMethod ov m (plO X o))
      callWith pos f first (backTo pos (starEach [] X.env)) (backToKw pos (keywordEach [] X.env)))) :
    PE X (.Call (.Attribute o m apos) [] [] pos) (fun σ H Q => ta σ H fun x H1 => methO (He.ga K C) m sp (E σ) tNil σ x H1 Q) := Hsh.un (by simp (disch := k_dflt (
  refine Hsh.up ?_
  subst hK
  obtain ⟨fd, c, hm, hb, G⟩ := F.ex
  refine ⟨fun pins s σ H Q I h => ?_⟩
  refine PySem.W.methodCall_KW (pl := plO X o) (thn (he.run pins s σ H _ I h) fun u s1 ⟨x, H1, I1, rx, a, dx, fs, ex, ea, l, q⟩ => ?_) ht
  subst ex
  obtain rfl : u = Value.ref a := rx
  refine getmeth_ok I1 ea c hm l ?_
  exact PySem.W.callWith_K0 (first := [.ref a]) I1.kIn hm.kp (run_fnS (us := [.ref a]) (vs := [.ref a]) G hr hb (hx σ) I1 (.cons rfl .nil) q)
  )) only [↓Hsh.on])
end
theorem Keep.drop {A B : List Addr} {H H' : Hp} (k : Keep A H H') (h : ∀ a ∈ A, a ∉ B → ∃ o, H a = some o ∧ H' a = some o) : Keep B H H' := Hsh.un (by simp (disch := k_dflt (
  refine Hsh.up ?_
  refine ⟨fun b o hb z => ?_, k.d⟩
  by_cases q : b ∈ A
  · by_cases q2 : b ∈ B
    · exact k.k b o hb (.inr (z.resolve_left (fun y => y q2)))
    · obtain ⟨u, h1, h2⟩ := h b q q2
      rw [hb] at h1
      cases h1
      exact h2
  · exact k.k b o hb (.inl q)
  )) only [↓Hsh.on])
theorem SH.call3 {A : List Addr} {H0 H H' : Hp} {L : List Cell} {a b c : Addr} {o u x o' u' x' : HO} (S : SH A H0 H L) (i j k : Nat) (e : L[i]? = some (a, o)) (e2 : L[j]? = some (b, u)) (e3 : L[k]? = some (c, x)) (n1 : k ≠ i) (n2 : k ≠ j) (im : Imm o = false) (im2 : Imm u = false) (im3 : Imm x = false)
    (kp : Keep [a, b, c] H H') (h1 : H' a = some o') (h2 : H' b = some u') (h3 : H' c = some x') : SH A H0 H' (((L.set k (c, x')).set i (a, o')).set j (b, u')) := Hsh.un (by simp (disch := k_dflt (
  refine Hsh.up ?_
  have S1 := S.set k e3 im3 x'
  refine S1.call2 i j (by rw [List.getElem?_set_ne n1]; exact e) (by rw [List.getElem?_set_ne n2]; exact e2) im im2 ⟨fun y v hy z => ?_, fun y hy => ?_⟩ h1 h2
  · by_cases q : y = c
    · subst q
      rw [upd_same] at hy
      cases hy
      exact h3
    · rw [upd_ne q] at hy
      refine kp.k y v hy (z.imp (fun z w => ?_) id)
      rcases List.mem_cons.mp w with w | w
      · exact z (w ▸ List.mem_cons_self)
      · rcases List.mem_cons.mp w with w | w
        · exact z (w ▸ List.mem_cons_of_mem _ List.mem_cons_self)
        · exact q (List.mem_singleton.mp w)
  · by_cases q : y = c
    · subst q
      rw [h3] at hy
      cases hy
    · rw [upd_ne q]
      exact kp.d y hy
  )) only [↓Hsh.on])
/-- the statements of a block within a def's body -/
def blkS : Stmt → Nat → List Stmt
  | .Try b _ o _ _, k => if k = 0 then b else o
  | .If _ b o _, k => if k = 0 then b else o
  | .For _ _ b _ _, _ => b
  | .While _ b _ _, _ => b
  | _, _ => []
def subS (l : List Stmt) : List (Nat × Nat) → List Stmt
  | [] => l
  | q :: r => subS (match l[q.1]? with
    | some s => blkS s q.2
    | none => []) r
theorem keys_set {L : List Cell} {i : Nat} {a : Addr} {o o' : HO} (e : L[i]? = some (a, o)) : ∀ c ∈ L.set i (a, o'), c.1 ∈ L.map (·.1) := fun c hc => by
  rw [← map_set_key (o' := o') e]
  exact List.mem_map_of_mem hc
theorem key_live {A : List Addr} {H0 H : Hp} {L : List Cell} (S : SH A H0 H L) {a : Addr} (h : a ∈ L.map (·.1)) : H a ≠ none := Hsh.un (by simp (disch := k_dflt (
  refine Hsh.up ?_
  obtain ⟨c, hc, e⟩ := List.mem_map.mp h
  rw [← e, S.hs c hc]
  exact fun z => nomatch z
  )) only [↓Hsh.on])
/-- a call that changes two cells and leaves one new -/
theorem SH.call2n {A : List Addr} {H0 H H' : Hp} {L : List Cell} {a b p : Addr} {o u o' u' x : HO} (S : SH A H0 H L) (i j : Nat) (e : L[i]? = some (a, o)) (e2 : L[j]? = some (b, u)) (im : Imm o = false) (im2 : Imm u = false) (k : Keep [a, b] H H') (h : H' a = some o') (h2 : H' b = some u') (n : H p = none) (h3 : H' p = some x) :
    SH A H0 H' ((p, x) :: (L.set i (a, o')).set j (b, u')) := Hsh.un (by simp (disch := k_dflt (
  refine Hsh.up ?_
  refine SH.add S (S.call2 i j e e2 im im2 k h h2) (fun c hc => key_live S ?_) n h3
  have hm : c.1 ∈ ((L.set i (a, o')).set j (b, u')).map (·.1) := List.mem_map_of_mem hc
  by_cases q : i = j
  · subst q
    rw [e] at e2
    cases e2
    rw [List.set_set] at hm
    rwa [map_set_key e] at hm
  · rw [map_set_key (o := u) (by rw [List.getElem?_set_ne q]; exact e2), map_set_key e] at hm
    exact hm
  )) only [↓Hsh.on])
theorem SH.call3n {A : List Addr} {H0 H H' : Hp} {L : List Cell} {a b c p q : Addr} {o u x o' u' x' y z : HO} (S : SH A H0 H L) (i j k : Nat) (e : L[i]? = some (a, o)) (e2 : L[j]? = some (b, u)) (e3 : L[k]? = some (c, x)) (n0 : i ≠ j) (n1 : k ≠ i) (n2 : k ≠ j) (im : Imm o = false) (im2 : Imm u = false) (im3 : Imm x = false)
    (kp : Keep [a, b, c] H H') (h1 : H' a = some o') (h2 : H' b = some u') (h3 : H' c = some x') (np : H p = none) (hp : H' p = some y) (nq : H q = none) (hq : H' q = some z) (pq : p ≠ q) : SH A H0 H' ((p, y) :: (q, z) :: ((L.set k (c, x')).set i (a, o')).set j (b, u')) := Hsh.un (by simp (disch := k_dflt (
  refine Hsh.up ?_
  have S3 := S.call3 i j k e e2 e3 n1 n2 im im2 im3 kp h1 h2 h3
  have hk : ∀ d ∈ ((L.set k (c, x')).set i (a, o')).set j (b, u'), H d.1 ≠ none := fun d hd => key_live S (by
    have hm : d.1 ∈ (((L.set k (c, x')).set i (a, o')).set j (b, u')).map (·.1) := List.mem_map_of_mem hd
    rw [map_set_key (o := u) (by rw [List.getElem?_set_ne n0, List.getElem?_set_ne n2]; exact e2), map_set_key (o := o) (by rw [List.getElem?_set_ne n1]; exact e), map_set_key e3] at hm
    exact hm)
  have S4 := SH.add S S3 hk nq hq
  have S5 := SH.add S S3 hk np hp
  refine ⟨fun d hd => ?_, ?_, S4.kp, fun d hd => ?_⟩
  · rcases List.mem_cons.mp hd with rfl | hd
    · exact hp
    · exact S4.hs d hd
  · rw [List.map_cons, List.nodup_cons]
    refine ⟨fun w => ?_, S4.nd⟩
    rw [List.map_cons] at w
    rcases List.mem_cons.mp w with w | w
    · exact pq w
    · have := S5.nd
      rw [List.map_cons, List.nodup_cons] at this
      exact this.1 w
  · rcases List.mem_cons.mp hd with rfl | hd
    · exact S5.ow _ List.mem_cons_self
    · exact S4.ow d hd
  )) only [↓Hsh.on])
/-- a cell that the block at the start did not hold is new -/
theorem SH.fresh {H H' : Hp} {B L : List Cell} (S : SH (B.map (·.1)) H H' L) {p : Addr} {o : HO} (e : (p, o) ∈ L) (n : ∀ a ∈ B.map (·.1), a ≠ p) : H p = none := (S.ow (p, o) e).resolve_left fun z => n p z rfl
end Q
set_option Elab.async false
set_option linter.all false
set_option maxRecDepth 100000
set_option maxHeartbeats 4000000
/-! Errors whose context is None, defs called within an except suite. -/
namespace Q
open PySem PySem.Spec PyProof.Rows L2
inductive HdsN (X : Cx) : List ExceptHandler → List Cl → Prop
  | nil : HdsN X [] []
  | one {t : Expr} {f : Value → Option Bool} {ts : Addr → Value → Option Addr → TS} {b₀ : Stmt} {suite : List Stmt} {p : Pos} {hds : List ExceptHandler} {l : List Cl} (ht : Tst X t f)
      (hsu : ∀ (a : Addr) (oe : Obj) (cls : Value) (d : Option Addr) (pn : List (Addr × Obj)), L2N.Zn cls d oe → (∃ vs, oe.data = .fields vs) → L2H.HotC (X.suite a ((a, oe) :: pn)) → PSs (X.suite a ((a, oe) :: pn)) (b₀ :: suite) (ts a cls d)) (r : HdsN X hds l) :
      HdsN X (.ExceptHandler (some t) none (b₀ :: suite) p :: hds) ((f, none, ts) :: l)
  | als {t : Expr} {n : Str} {i : Nat} {f : Value → Option Bool} {ts : Addr → Value → Option Addr → TS} {b₀ : Stmt} {suite : List Stmt} {p : Pos} {hds : List ExceptHandler} {l : List Cl} (hi : X.N[i]? = some n) (hln : X.env.kindOf n = some .local) (ht : Tst X t f)
      (hsu : ∀ (a : Addr) (oe : Obj) (cls : Value) (d : Option Addr) (pn : List (Addr × Obj)), L2N.Zn cls d oe → (∃ vs, oe.data = .fields vs) → L2H.HotC (X.suite a ((a, oe) :: pn)) → PSs (X.suite a ((a, oe) :: pn)) (b₀ :: suite) (ts a cls d)) (r : HdsN X hds l) :
      HdsN X (.ExceptHandler (some t) (some n) (b₀ :: suite) p :: hds) ((f, some i, ts) :: l)
section
variable {X : Cx} {body orelse : List Stmt} {h₀ : ExceptHandler} {hds : List ExceptHandler} {l : List Cl} {pos : Pos} {tb : WX → TS} {u : TS} {Wout : WX}
theorem ps_tryN (hs : X.stack = X.env :: X.outer) (hf : X.env.frame = some X.env.locals) (hN : X.N.Nodup) (tk : L2N.Takes X Wout)
    (hb : ∀ (W : WX) (pn : List (Addr × Obj)) (xe : Value → Shared → Prop), L2N.Takes (X.tr pn xe) W → PassesOwn (model X.prog X.w) X.A X.env xe → PSs (X.tr pn xe) body (tb W))
    (hh : HdsN X (h₀ :: hds) l) (ho : PSs X orelse u) : PS X (.Try body (h₀ :: hds) orelse [] pos) (tTryG tb Wout l u) := Hsh.un (by simp (disch := k_dflt (
  refine Hsh.up ?_
  refine ⟨fun pins s σ H D I h => ?_⟩
  have ok := I.ok
  have hfr : X.A.frames = some (X.env :: X.outer) := by rw [ok.frames, hs]
  refine wpAny_Try_except ?_
  have body_ok := (hb (wG Wout D l) (X.pn ++ pins) (fun e s₁ => wpAny (model X.prog X.w) X.A (noteFrame e X.env) (fun _ s₂ => wpAny (model X.prog X.w) X.A (setFlight e none) (fun _ s₃ =>
    wpAny (model X.prog X.w) X.A (handleBy e X.env (h₀ :: hds)) (SP X pins D) X.xe s₃) X.xe s₂) X.xe s₁) (fun v s' xx => ?_) PassesOwn.looking).run [] s σ H { D with nx := u D } (I.toTry _) h
  · refine wpAny_mono body_ok (fun f s1 hsp => ?_) (fun e s1 he => he)
    cases f with
    | next =>
      obtain ⟨σ', H', J', q⟩ := hsp
      exact ho.run pins s1 σ' H' D (J'.ofTry ok) q
    | brk =>
      obtain ⟨σ', H', J', q⟩ := hsp
      exact ⟨σ', H', J'.ofTry ok, q⟩
    | cont =>
      obtain ⟨σ', H', J', q⟩ := hsp
      exact ⟨σ', H', J'.ofTry ok, q⟩
    | ret z =>
      obtain ⟨v, σ', H', J', r, q⟩ := hsp
      exact ⟨v, σ', H', J'.ofTry ok, r, q⟩
  · obtain ⟨a, B, sI, pins', σ', H', cls, d, rfl, J', nb, up, sky, na, os, ag, w⟩ := xx
    have J : Inv X pins σ' H' sI := J'.ofTry ok
    show wpAny (model X.prog X.w) X.A (noteFrame (.ref a) X.env) _ _ _
    refine L2N.Sky.land L2N.Zn.steady hfr hf (by rw [← hs]; exact sky) fun h3 fl3 up3 => ?_
    -- what the landed error tells at any heap
    have facts : ∀ h, HandSPX.FlyingZ B (X.env :: X.outer) a (L2N.Zn cls d) h → s'.heap.UpToSlots h → Inv X pins σ' H' { s' with heap := h } ∧ ∃ oe vs, h.get? a = some oe ∧ L2N.Zn cls d oe ∧ oe.data = .fields vs ∧ Inv (X.suite a ((a, oe) :: (X.pn ++ pins))) [] σ' H' { s' with heap := h } := fun h fl uph => by
      have Jh : Inv X pins σ' H' { s' with heap := h } := J.landed nb fl.1 (up.trans uph) os ag
      obtain ⟨oe, vs, he, hz, hd⟩ := fl.there
      have nfr : a ∉ frs (X.env :: X.outer) := fun hm => by
        obtain ⟨_, o', e', hnf⟩ := fl.2.2.1.mem hm
        rw [he] at e'
        cases e'
        exact hnf _ hd
      have nL : a ≠ X.env.locals := fun z => nfr (List.mem_filterMap.mpr ⟨X.env, List.mem_cons_self, by rw [hf, z]⟩)
      have nF : a ∉ X.fs := fun hm => by
        obtain ⟨e, he, q⟩ := List.mem_filterMap.mp hm
        exact nfr (List.mem_filterMap.mpr ⟨e, List.mem_cons_of_mem _ he, q⟩)
      exact ⟨Jh, oe, vs, he, hz, hd, Jh.suite he hd na nL nF⟩
    have looks : ∀ {h : Heap} {oe : Obj}, h.get? a = some oe → L2N.Zn cls d oe → PySem.W.Looks (model X.prog X.w) h (typeOf (.ref a)) cls := fun {h oe} he hz A Q E s k q => wpAny_typeOf_ref (k _ _ he) (by rw [hz.1]; exact q)
    have go : ∀ {hds' : List ExceptHandler} {l' : List Cl}, HdsN X hds' l' → wG Wout D l' cls d σ' H' → ∀ h, HandSPX.FlyingZ B (X.env :: X.outer) a (L2N.Zn cls d) h → s'.heap.UpToSlots h →
        wpAny (model X.prog X.w) X.A (handleBy (.ref a) X.env hds') (SP X pins D) X.xe { s' with heap := h } := by
      intro hds' l' hk
      induction hk with
      | nil =>
        intro w h fl uph
        refine wpAny_handleBy_nil ?_
        obtain ⟨_, _, _, oe, vs, T, oT, ts', he, hz, hd, h1, _⟩ := id fl
        unfold PySem.passOn
        refine wpAny_bind (wpAny_field he hd h1 ?_)
        rw [if_neg (show ¬ ((Value.ref T == Value.none) = true) from by simp)]
        have fin : wpAny (model X.prog X.w) X.A (setFlight (.ref a) X.env.frame) (fun _ s4 => wpAny (model X.prog X.w) X.A (throw (.ref a) : Sem Flow) (SP X pins D) X.xe s4) X.xe { s' with heap := h } := by
          rw [hf]
          refine HandSPX.setFlight_upZ fl fun h4 hh4 up4 => wpAny_throw (tk _ _ ?_)
          exact ⟨a, B, sI, pins, σ', H', cls, d, rfl, J, nb, (up.trans uph).trans up4, .inr (.inr (by rw [hs]; exact hh4)), na, os, ag, w⟩
        first
          | exact wpAny_bind (wpAny_pure (wpAny_bind fin))
          | exact wpAny_bind fin
      | @one t f ts b₀ suite p hds2 l2 ht hsu r ih =>
        intro w h fl uph
        obtain ⟨b, hb1, hyes, hno⟩ := w
        obtain ⟨_, oe, vs, he, hz, hd, S⟩ := facts h fl uph
        refine wpAny_handleBy_cons (codeAny_handlers_test (ht a _ σ' H' _ cls b _ _ S (looks he hz) hb1 fun h5 k5 => ?_)) (by intro q; cases q)
        have fl5 := flying_keeps fl k5
        have up5 := uph.trans (Heap.UpToSlots.of_keeps k5)
        cases b with
        | true =>
          refine codeAny_handlers_suite ?_
          refine HandSPX.lands_againZ fl5 fun h4 fl4 up4 => ?_
          obtain ⟨_, oe4, vs4, he4, hz4, hd4, S4⟩ := facts h4 fl4 (up5.trans up4)
          refine wpAny_mono ((hsu a oe4 cls d (X.pn ++ pins) hz4 ⟨_, hd4⟩ ⟨(a, oe4), ⟨rfl, vs4, hd4, hz4.2.2 vs4 hd4⟩, List.mem_cons_self⟩).run [] _ _ H' _ S4 (hyes rfl a na)) (fun f s6 hsp => ?_) (fun _ _ z => False.elim z)
          cases f with
          | next =>
            obtain ⟨σ6, H6, S6, q6⟩ := hsp
            exact ⟨_, _, S6.unsuite ok, q6⟩
          | brk =>
            obtain ⟨σ6, H6, S6, q6⟩ := hsp
            exact ⟨_, _, S6.unsuite ok, q6⟩
          | cont =>
            obtain ⟨σ6, H6, S6, q6⟩ := hsp
            exact ⟨_, _, S6.unsuite ok, q6⟩
          | ret z =>
            obtain ⟨v6, σ6, H6, S6, r6, q6⟩ := hsp
            exact ⟨_, _, _, S6.unsuite ok, r6, q6⟩
        | false => exact ih (hno rfl) h5 fl5 up5
      | @als t n i f ts b₀ suite p hds2 l2 hi hln ht hsu r ih =>
        intro w h fl uph
        obtain ⟨b, hb1, hyes, hno⟩ := w
        obtain ⟨_, oe, vs, he, hz, hd, S⟩ := facts h fl uph
        refine wpAny_handleBy_cons (codeAny_handlers_test (ht a _ σ' H' _ cls b _ _ S (looks he hz) hb1 fun h5 k5 => ?_)) (by intro q; cases q)
        have fl5 := flying_keeps fl k5
        have up5 := uph.trans (Heap.UpToSlots.of_keeps k5)
        cases b with
        | true =>
          refine codeAny_handlers_suite_as ?_
          refine HandSPX.lands_againZ fl5 fun h4 fl4 up4 => ?_
          obtain ⟨_, oe4, vs4, he4, hz4, hd4, S4⟩ := facts h4 fl4 (up5.trans up4)
          refine store_ok (X := X.suite a ((a, oe4) :: (X.pn ++ pins))) (v := .ref a) S4 hN hi (.inl hln) rfl (fun s5 S5 => ?_) (.inr hln)
          refine wpAny_mono ((hsu a oe4 cls d (X.pn ++ pins) hz4 ⟨_, hd4⟩ ⟨(a, oe4), ⟨rfl, vs4, hd4, hz4.2.2 vs4 hd4⟩, List.mem_cons_self⟩).run [] s5 _ H' _ S5 (hyes rfl a na)) (fun f s6 hsp => ?_) (fun _ _ z => False.elim z)
          have gone : ∀ {σ6 : L2.St} {H6 : Hp} {Q : Shared → Prop}, Inv (X.suite a ((a, oe4) :: (X.pn ++ pins))) [] σ6 H6 s6 → (∀ s7, Inv X pins (σ6.set i none) H6 s7 → Q s7) →
              wpAny (model X.prog X.w) X.A (do bindName X.env n .none; unbindBehindTheSuite X.env n p) (fun _ s7 => Q s7) X.xe s6 := fun {σ6 H6 Q} S6 hq => gone_ok (S6.unsuite ok) hN hi hln hq
          cases f with
          | next =>
            obtain ⟨σ6, H6, S6, q6⟩ := hsp
            exact gone S6 fun s7 J7 => ⟨_, _, J7, q6⟩
          | brk =>
            obtain ⟨σ6, H6, S6, q6⟩ := hsp
            exact gone S6 fun s7 J7 => ⟨_, _, J7, q6⟩
          | cont =>
            obtain ⟨σ6, H6, S6, q6⟩ := hsp
            exact gone S6 fun s7 J7 => ⟨_, _, J7, q6⟩
          | ret z =>
            obtain ⟨v6, σ6, H6, S6, r6, q6⟩ := hsp
            exact gone S6 fun s7 J7 => ⟨_, _, _, J7, r6, q6⟩
        | false => exact ih (hno rfl) h5 fl5 up5
    exact go hh w h3 fl3 up3
  )) only [↓Hsh.on])
end
theorem takesN {X : Cx} : L2N.Takes X (fun _ _ _ _ => False) := fun _ _ x => by
  obtain ⟨_, _, _, _, _, _, _, _, _, _, _, _, _, _, _, _, z⟩ := x
  exact z.elim
theorem passN {X : Cx} : Passes (L2N.CX X.prog X.w) X E0 := fun _ _ _ _ _ _ _ h => by
  obtain ⟨_, _, _, _, _, _, _, _, _, _, _, _, z⟩ := h
  exact z.elim
theorem ps_raiseN {X : Cx} {W : WX} {x m : Str} {j : Nat} {p p2 pos pos2 : Pos} (hc : X.calm = true) (tk : L2N.Takes X W) (F : ExcF X.K (He.ga X.K x)) (hm : X.mg x = some (.ref (He.ga X.K x))) (hg : Gl X x) (hdb : (x == ("__debug__" : Str)) = false := by decide) :
    PS X (.Raise (some (.Call (.Name x p) [.Constant (.str m) j p2] [] pos)) none pos2) (tRaiseG W (He.ga X.K x)) :=
  L2N.ps_raise hc tk (L2N.pmk_own PySem.F.excBase_ValueError F.ex hm F.kp (raises_own F.bs F.ty) hg hdb)
/-- a def that may be called within an except suite -/
structure HotOk (P : Program) (w : World) (K : PySem.W.Frag) (mg : Str → Option Value) (base : Heap) (CX : CXT) (k : Nat) (x : Str) (ps : List Str) (sp : Sp) : Prop where
  ex : ∃ f fd, mg x = some (.ref f) ∧ PySem.W.keepIn K (.ref f) = true ∧ Binds K fd ps [] ∧ L2H.FnH P w K mg base CX k f fd ps sp
theorem roomS {k : Nat} {X : Cx} {a : Addr} {pn : List (Addr × Obj)} (r : Room k X.A) : L2H.RoomH k (X.suite a pn).A := ⟨r.dp, r.un⟩
theorem pe_callHG {X : Cx} {k : Nat} {ps : List Str} {sp : Sp} {x : Str} {p pos : Pos} {e : Expr} {es : List Expr} {t : TA} (F : HotOk X.prog X.w X.K X.mg X.base CX0 k x ps sp) (hr : L2H.RoomH k X.A) (hc : L2H.HotC X) (hg : Gl X x)
    (ha : PA X (e :: es) t) (hdb : (x == ("__debug__" : Str)) = false := by decide) (he : starEach (e :: es) X.env = (false, eval e X.env) :: starEach es X.env := by rfl) (hpl : (backTo pos (starEach es X.env)).any (·.1) = false := by rfl) :
    PE X (.Call (.Name x p) (e :: es) [] pos) (tCallS sp (fun _ => E0) t) := by
  obtain ⟨f, fd, h1, h2, h3, h4⟩ := F.ex
  exact L2H.pe_callH h4 hr hc hg h1 h2 h3 (fun _ _ _ _ _ _ _ h => h.elim) ha hdb he hpl
theorem FunD_okH {P : Program} {w : World} {K : PySem.W.Frag} {mg : Str → Option Value} {base : Heap} {x qual : Str} {params : Arguments} {body : List Stmt} {scope : Scope} {dvs : List V} {kws : List (Str × V)} {f : Addr} {fd : FuncData} {CX : CXT} {N ps : List Str} {k : Nat} {sp : Sp}
    (F : FunD K x qual params body scope dvs kws f fd) (S : FnScope N ps scope) (len : ∀ vs H Q E, sp vs H Q E → vs.length = ps.length)
    (hb : ∀ (cdv : Value) (A : Around) (outer : List Env) (s : Shared) (H : Hp) (vs : List V) (Q : VK) (E : XK) (p : Addr × Obj), L2H.HotC (L2H.cxH CX P w K mg base N qual scope f cdv A outer s H E p) → L2H.RoomH k (A.deeper (envOfC qual scope s.heap.objs.size f cdv)) → sp vs H Q E →
      ∃ t, PSs (L2H.cxH CX P w K mg base N qual scope f cdv A outer s H E p) body t ∧ t ⟨fun _ H' => Q .non H', Q, fun _ _ => False, fun _ _ => False⟩ (start N vs) H) : L2H.FnH P w K mg base CX (k + 1) f fd ps sp := Hsh.un (by simp (disch := k_dflt (
  refine Hsh.up ?_
  obtain ⟨oc, od, dV, kV, doc, pm, an, cdv, ct, osl, rfl, lk, hcd, _, _⟩ := F.ex
  refine L2H.fn_ofH lk hcd S len fun A outer s H vs Q E p hot hr hsp => hb cdv A outer s H vs Q E p ⟨p, ?_, List.mem_singleton.mpr rfl⟩ hr hsp
  exact hot
  )) only [↓Hsh.on])
/-! ### xs[a:b] = ys -/
def slE (x v : V) (a c : Option Int) (H : Hp) (P : Hp → Prop) : Prop := ∃ (l b : Addr) (xs ys : List V) (i j : Int), x = .ref l ∧ v = .ref b ∧ a = some i ∧ c = some j ∧ H l = some (.lst xs) ∧ H b = some (.lst ys) ∧ l ≠ b ∧ 0 ≤ i ∧ i ≤ j ∧ j ≤ xs.length ∧ xs.length + ys.length ≤ sizeLine ∧ P (upd H l (.lst (xs.take i.toNat ++ ys ++ xs.drop j.toNat)))
def gSl (to : TE) (tl th : TO) : TG := fun v σ H S => to σ H fun x H1 => tl σ H1 fun a H2 => th σ H2 fun c H3 => slE x v a c H3 fun H4 => S σ H4
theorem pg_slice {X : Cx} {o : Expr} {lo hi : Option Expr} {to : TE} {tl th : TO} {p2 pos : Pos} (ho : PE X o to) (hl : PO X lo tl) (hh : PO X hi th)
    (ha : ∀ v, assign (.Subscript o (.Slice lo hi none p2) pos) X.env v = (do
      let ov ← holding [v] (eval o X.env)
      let iv ← holding [v, ov] (eval (.Slice lo hi none p2) X.env)
      standAt pos
      holding [v, ov, iv] (setItem ov iv v)
      release [iv, v, ov] []) := by intro _; rfl) : PG X (.Subscript o (.Slice lo hi none p2) pos) (gSl to tl th) := by
  refine ⟨fun pins s σ H v u Q I r h => ?_⟩
  rw [ha]
  refine wpAny_bind (wpAny_holding (thn (ho.run pins s σ H _ I h) fun ov s1 ⟨x, H1, I1, r1, q1⟩ => ?_))
  refine wpAny_bind (wpAny_holding (wpAny_Slice (thn (hl.run pins s1 σ H1 _ I1 q1) fun vl s2 ⟨a, H2, I2, pl, q2⟩ => thn (hh.run pins s2 σ H2 _ I2 q2) fun vu s3 ⟨c, H3, I3, pu, q3⟩ => ?_)))
  rw [evalPart_none]
  refine wpAny_pure ?_
  obtain ⟨l, b, xs, ys, i, j, rfl, rfl, rfl, rfl, hx, hy, ne, h0, h1, h2, hz, q⟩ := q3
  cases r1
  cases r
  have I4 : Inv X pins σ H3 { s3 with heap := s3.heap.push { cls := .type "slice", data := .fields #[vl, vu, .none] } } := I3.kept (t' := s3.toks) fun b ob q => Heap.get?_push_of_some _ q
  refine wpAny_bind (wpAny_standAt (wpAny_bind (wpAny_holding (set_slice I4 hx hy ne (Heap.IsSliceOf.new ..) ?_ ?_ h0 h1 h2 hz fun s5 I5 => wpAny_release ⟨σ, _, I5, q⟩))))
  · cases pl
    exact ⟨_, rfl⟩
  · cases pu
    exact ⟨_, rfl⟩
theorem s_gSl {to : TE} {tl th : TO} {v : V} {σ : L2.St} {H : Hp} {S : L2.St → Hp → Prop} (h : to σ H fun x H1 => tl σ H1 fun a H2 => th σ H2 fun c H3 => slE x v a c H3 fun H4 => S σ H4) : gSl to tl th v σ H S := h
theorem h_slE {A : List Addr} {H0 H : Hp} {L L' : List Cell} {P : Hp → Prop} {i : Nat} {l b : Addr} {xs ys zs : List V} {a c : Int} (S : SH A H0 H L) (e : L[i]? = some (l, .lst xs)) (hb : H b = some (.lst ys)) (ne : l ≠ b) (h0 : 0 ≤ a) (h1 : a ≤ c) (h2 : c ≤ xs.length) (hz : xs.length + ys.length ≤ sizeLine)
    (ez : xs.take a.toNat ++ ys ++ xs.drop c.toNat = zs) (eL : L.set i (l, .lst zs) = L') (k : ∀ H', SH A H0 H' L' → P H') : slE (.ref l) (.ref b) (some a) (some c) H P :=
  ⟨l, b, xs, ys, a, c, rfl, rfl, rfl, rfl, S.get i e, hb, ne, h0, h1, h2, hz, by rw [ez]; exact k _ (eL ▸ S.set i e rfl _)⟩
/-! ### dicts with texts as keys, in the ledger -/
def dgetE (x y : V) (H : Hp) (Q : VK) : Prop := ∃ a v, x = .ref a ∧ DGet H a y (some v) ∧ Q v H
def dputE (x y v : V) (H : Hp) (P : Hp → Prop) : Prop := ∃ a H', x = .ref a ∧ DPut H a y v H' ∧ P H'
def dispE (p : Addr) (ps : List (V × V)) (H : Hp) (Q : VK) : Prop := H p = some (.dK []) ∧ ∃ kvs : List (L2.Key × V), ps = kvs.map (fun kv => (kV kv.1, kv.2)) ∧ kvs.length ≤ 15 ∧ Q (.ref p) (upd H p (.dK (mergeK [] kvs)))
def toKey : V → L2.Key
  | .str z => .inr z
  | .int i => .inl i
  | _ => .inl 0
section
variable {A : List Addr} {H0 H : Hp} {L L' : List Cell} {Q : VK} {P : Hp → Prop} {σ : L2.St} {v : V} {td ty tv : TE} {n b c : L2.St → Hp → Prop} {r : VK}
theorem s_dget (h : td σ H fun x H1 => ty σ H1 fun y H2 => dgetE x y H2 Q) : tDGet td ty σ H Q := h
theorem h_dget {a : Addr} {kvs : List (L2.Key × V)} {z : Str} (h : H a = some (.dK kvs)) (e : valV kvs (.inr z) = some v) (q : Q v H) : dgetE (.ref a) (.str z) H Q := ⟨a, v, rfl, e ▸ DGet.k (k := .inr z) h, q⟩
theorem s_dput (h : tv σ H fun v H1 => td σ H1 fun x H2 => ty σ H2 fun y H3 => dputE x y v H3 fun H4 => n σ H4) : sDPut td ty tv ⟨n, r, b, c⟩ σ H := h
theorem h_dput {i : Nat} {a : Addr} {kvs kvs' : List (L2.Key × V)} {z : Str} (S : SH A H0 H L) (e : L[i]? = some (a, .dK kvs)) (hl : kvs.length < sizeLine) (ek : putK kvs (.inr z) v = kvs') (eL : L.set i (a, .dK kvs') = L') (k : ∀ H', SH A H0 H' L' → P H') : dputE (.ref a) (.str z) v H P :=
  ⟨a, _, rfl, DPut.k (k := .inr z) (S.get i e) hl, by rw [ek]; exact k _ (eL ▸ S.set i e rfl _)⟩
theorem h_disp {trs : List (TE × TE)} (S : SH A H0 H L) (h : ∀ p H1, SH A H0 H1 ((p, .dK []) :: L) → tPairs trs σ H1 fun ps H2 => dispE p ps H2 Q) : tDisp trs σ H Q := fun p hp => h p _ (S.new _ hp)
theorem s_pairs0 {R : List (V × V) → Hp → Prop} (h : R [] H) : tPairs [] σ H R := h
theorem s_pairsC {trs : List (TE × TE)} {R : List (V × V) → Hp → Prop} (h : td σ H fun x H1 => tv σ H1 fun y H2 => tPairs trs σ H2 fun ps H3 => R ((x, y) :: ps) H3) : tPairs ((td, tv) :: trs) σ H R := h
theorem h_dispE {i : Nat} {p : Addr} {ps : List (V × V)} {kvs : List (L2.Key × V)} (S : SH A H0 H L) (e : L[i]? = some (p, .dK [])) (hl : ps.length ≤ 15) (ep : ps = (ps.map fun q => (toKey q.1, q.2)).map fun kv => (kV kv.1, kv.2)) (ek : mergeK [] (ps.map fun q => (toKey q.1, q.2)) = kvs) (eL : L.set i (p, .dK kvs) = L') (k : ∀ H', SH A H0 H' L' → Q (.ref p) H') : dispE p ps H Q :=
  ⟨S.get i e, _, ep, by rw [List.length_map]; exact hl, by rw [ek]; exact k _ (eL ▸ S.set i e rfl _)⟩
end
theorem hu1 {u : Nat} (h : u + 64 < cLine) : u + 1 < cLine := by omega
theorem hu_hot {k : Nat} {A : Around} (hr : L2H.RoomH k A) : A.units + 64 < cLine := by have := hr.un; omega
theorem cxKH {CX : CXT} {P : Program} {w : World} {K : PySem.W.Frag} {mg : Str → Option Value} {base : Heap} {N : List Str} {qual : Str} {scope : Scope} {f : Addr} {cd : Value} {A : Around} {outer : List Env} {s : Shared} {H : Hp} {E : XK} {p : Addr × Obj} :
    (L2H.cxH CX P w K mg base N qual scope f cd A outer s H E p).nox.K = K := rfl
theorem cxKH2 {CX : CXT} {P : Program} {w : World} {K : PySem.W.Frag} {mg : Str → Option Value} {base : Heap} {N : List Str} {qual : Str} {scope : Scope} {f : Addr} {cd : Value} {A : Around} {outer : List Env} {s : Shared} {H : Hp} {E : XK} {p : Addr × Obj} :
    (L2H.cxH CX P w K mg base N qual scope f cd A outer s H E p).K = K := rfl
end Q

namespace Law
open PySem L2 Q
/-! words: one step; arithmetic; a heap fact; a sequence -/
set_option hygiene false
local macro_rules | `(tactic| walk_at "ar") => `(tactic| first | (with_reducible assumption) | omega | decide | (constructor <;> omega) | (simp only [List.length_cons, List.length_nil, List.length_append, List.length_map, List.length_replicate, List.length_set] at *; omega))
local macro_rules | `(tactic| walk_at "sz") => `(tactic| first | exact Nat.le_of_ble_eq_true rfl | (rw [sizeLine_eq]; first | omega | (simp only [List.length_cons, List.length_nil, List.length_append, List.length_map, List.length_replicate, List.length_set]; omega)))
local macro_rules | `(tactic| walk_at "szs") => `(tactic| first | (rw [sizeLine_eq]; first | decide +kernel | omega) | walk_at "sz")
local macro_rules | `(tactic| walk_at "ix") => `(tactic| first | exact (rfl : (_ : List Cell)[0]? = _) | exact (rfl : (_ : List Cell)[1]? = _) | exact (rfl : (_ : List Cell)[2]? = _) | exact (rfl : (_ : List Cell)[3]? = _) | exact (rfl : (_ : List Cell)[4]? = _) | exact (rfl : (_ : List Cell)[5]? = _) | exact (rfl : (_ : List Cell)[6]? = _) | exact (rfl : (_ : List Cell)[7]? = _) | exact (rfl : (_ : List Cell)[8]? = _) | exact (rfl : (_ : List Cell)[9]? = _) | exact (rfl : (_ : List Cell)[10]? = _) | exact (rfl : (_ : List Cell)[11]? = _) | exact (rfl : (_ : List Cell)[12]? = _) | exact (rfl : (_ : List Cell)[13]? = _) | exact (rfl : (_ : List Cell)[14]? = _) | exact (rfl : (_ : List Cell)[15]? = _) | exact (rfl : (_ : List Cell)[16]? = _) | exact (rfl : (_ : List Cell)[17]? = _) | exact (rfl : (_ : List Cell)[18]? = _) | exact (rfl : (_ : List Cell)[19]? = _))
local macro_rules | `(tactic| walk_at "hp") => `(tactic| first | assumption | exact hS.get 0 rfl | exact hS.get 1 rfl | exact hS.get 2 rfl | exact hS.get 3 rfl | exact hS.get 4 rfl | exact hS.get 5 rfl | exact hS.get 6 rfl | exact hS.get 7 rfl | exact hS.get 8 rfl | exact hS.get 9 rfl | exact hS.get 10 rfl | exact hS.get 11 rfl | exact hS.get 12 rfl | exact hS.get 13 rfl | exact hS.get 14 rfl | exact hS.get 15 rfl | exact hS.ro (by assumption) | exact hS.imm (by assumption) rfl)
local macro_rules | `(tactic| walk_at "sq") => `(tactic| first | exact SqL.of (by walk_at "hp") | exact SqT.of (by walk_at "hp") | exact Scr.sq (Scr.keep (by assumption) hS.kp) | assumption | exact SqT_keep (by assumption) hS.kp)
local macro_rules | `(tactic| walk_at "lit") => `(tactic| first | exact atI_lit 0 (by omega) rfl | exact atI_lit 1 (by omega) rfl | exact atI_lit 2 (by omega) rfl | exact atI_lit 3 (by omega) rfl | exact atI_lit 4 (by omega) rfl | exact atI_lit 5 (by omega) rfl | exact atI_lit 6 (by omega) rfl | exact atI_lit 7 (by omega) rfl)
local macro_rules | `(tactic| walk_at "at") => `(tactic| first | exact rfl | exact atI_ints (by walk_at "ar") (by walk_at "ar") | exact atI_strs (by walk_at "ar") (by walk_at "ar") | exact atI_refs (by walk_at "ar") (by walk_at "ar") | walk_at "lit" | exact atI_ilit (by walk_at "ar") (by walk_at "ar") rfl | exact atI_in (by walk_at "ar") (by walk_at "ar"))
local macro_rules | `(tactic| walk_at "ij") => `(tactic| first | exact rfl | exact ixN_in (by walk_at "ar") (by walk_at "ar"))
local macro_rules | `(tactic| walk_at "ls") => `(tactic| first | ((try simp only [List.set_cons_zero, List.set_cons_succ, set_ints]); exact rfl))
local macro_rules | `(tactic| walk_at "sl") => `(tactic| repeat (first | exact List.Sublist.refl _ | refine List.Sublist.cons_cons _ ?_ | refine List.Sublist.cons _ ?_))
local macro_rules | `(tactic| walk_at "cl") => `(tactic| assumption)
local macro_rules | `(tactic| walk_at "na") => `(tactic| assumption)
local macro_rules | `(tactic| walk_at "pf") => `(tactic| first
  | (apply pf_new; (· exact rfl); (· (simp only [List.cons_append, List.nil_append]; exact rfl)))
  | (apply pf_set 0; (· exact rfl); (· walk_at "ls")) | (apply pf_set 1; (· exact rfl); (· walk_at "ls")) | (apply pf_set 2; (· exact rfl); (· walk_at "ls")) | (apply pf_set 3; (· exact rfl); (· walk_at "ls"))
  | (apply pf_set 4; (· exact rfl); (· walk_at "ls")) | (apply pf_set 5; (· exact rfl); (· walk_at "ls")) | (apply pf_set 6; (· exact rfl); (· walk_at "ls")) | (apply pf_set 7; (· exact rfl); (· walk_at "ls")))
local macro_rules | `(tactic| walk_at "nw") => `(tactic| (clear hS; rename SH _ _ _ _ => hS))
local macro_rules | `(tactic| walk_at "pv") => `(tactic| first | exact rfl | exact last_snoc _ _ | assumption)
local macro_rules | `(tactic| walk_at "dl") => `(tactic| first | (simp only [List.dropLast_concat]; exact rfl) | exact rfl)
local macro_rules | `(tactic| walk_at "tri") => `(tactic| first | rfl | decide | (exfalso; omega))
local macro_rules | `(tactic| walk_at "ty") => `(tactic| first | exact .base .non | exact .base (.bl _) | exact .base (.int _) | exact .base (.str _) | exact .base (.lst (by walk_at "hp")) | exact .base (.tup (by walk_at "hp")) | exact .base (.dK (by walk_at "hp")) | exact tyT (by walk_at "sq") | exact tyL (by walk_at "sq"))
local macro_rules | `(tactic| walk_at "dp") => `(tactic| first | exact .non | exact .bl _ | exact .int _ | exact .str _ | (apply Dp.lst; (· walk_at "sq"); (· walk_at "dps")) | (apply Dp.tup; (· walk_at "sq"); (· walk_at "dps")))
local macro_rules | `(tactic| walk_at "dps") => `(tactic| first | exact DpAll.nil | (apply DpAll.cons; (· walk_at "dp"); (· walk_at "dps")))
local macro_rules | `(tactic| walk_at "st") => `(tactic| first
  | (with_reducible refine s_seq ?_)
  | (with_reducible refine s_try ?_)
  | (with_reducible refine s_callS ?_)
  | ((with_reducible refine s_raise ?_); (try dsimp only))
  | ((with_reducible apply s_wGn); (· walk_at "em"))
  | ((with_reducible apply s_wGy); (· walk_at "em"); intro ea hea)
  | ((with_reducible apply s_wGa); (· walk_at "em"); (intro ea hea; (try simp only [List.set_cons_succ, List.set_cons_zero])))
  | ((with_reducible apply s_isE); (· walk_at "ec"); (· walk_at "ki"))
  | ((with_reducible apply s_isEt); (· walk_at "ec"); (· walk_at "ki"))
  | ((with_reducible apply s_ixD); (· walk_at "dk"))
  | ((with_reducible show tVar _ _ _ _); refine s_var rfl ?_)
  | (with_reducible refine s_C ?_)
  | (with_reducible refine s_op ?_)
  | (with_reducible refine s_asg ?_)
  | ((with_reducible apply s_gname); (· walk_at "ls"))
  | (with_reducible refine s_gsub ?_)
  | (with_reducible refine s_ifS ?_)
  | (with_reducible refine s_next ?_)
  | (with_reducible refine s_ret ?_)
  | (with_reducible refine s_retN ?_)
  | (with_reducible refine s_drop ?_)
  | (with_reducible refine s_test ?_)
  | (with_reducible refine s_tB ?_)
  | (with_reducible refine s_bl ?_)
  | ((with_reducible apply s_ixL); (· walk_at "sq"); (· walk_at "at"))
  | ((with_reducible apply s_ixT); (· walk_at "sq"); (· walk_at "at"))
  | (with_reducible refine s_addI ?_)
  | (with_reducible refine s_rI0 ?_)
  | ((with_reducible apply s_addS); (· walk_at "szs"))
  | ((with_reducible apply s_inT0); (· walk_at "sq"); (· rfl); (· rfl))
  | ((with_reducible apply s_inL0); (· walk_at "sq"); (· rfl); (· rfl))
  | ((with_reducible apply s_niT0); (· walk_at "sq"); (· rfl); (· rfl))
  | ((with_reducible apply s_niL0); (· walk_at "sq"); (· rfl); (· rfl))
  | ((with_reducible refine s_mulR ?_ ?_); (· walk_at "ar"))
  | ((with_reducible refine s_mulL ?_ ?_); (· walk_at "ar"))
  | ((with_reducible refine s_mod ?_ ?_); (· walk_at "ar"))
  | ((with_reducible refine s_div ?_ ?_ ?_); (· walk_at "ar"); (· walk_at "ar"))
  | ((with_reducible refine s_divX ?_ ?_ ?_); (· walk_at "ar"); (· walk_at "ar"))
  | ((with_reducible refine s_modN ?_ ?_); (· walk_at "ar"))
  | (with_reducible refine s_int ?_)
  | (with_reducible refine s_intB ?_)
  | (with_reducible refine s_CB ?_)
  | (with_reducible refine s_cons ?_)
  | (with_reducible refine s_nil ?_)
  | (with_reducible refine s_call ?_)
  | (with_reducible refine s_un ?_)
  | (with_reducible refine s_rU ?_)
  | ((with_reducible apply s_lenL); (· walk_at "sq"))
  | ((with_reducible apply s_lenT); (· walk_at "sq"))
  | (with_reducible refine s_eqI ?_)
  | (with_reducible refine s_neI ?_)
  | (with_reducible refine s_eqS ?_)
  | (with_reducible refine s_neS ?_)
  | (with_reducible refine s_eqB ?_)
  | (with_reducible refine s_neB ?_)
  | ((with_reducible apply s_eqD); (· walk_at "dp"); (· walk_at "dp"); (· exact rfl); (· exact rfl); (· first | exact (rfl : _ = true) | exact (rfl : _ = false) | exact rfl))
  | ((with_reducible apply s_neD); (· walk_at "dp"); (· walk_at "dp"); (· exact rfl); (· exact rfl); (· first | exact (rfl : _ = true) | exact (rfl : _ = false) | exact rfl))
  | (with_reducible refine s_isN ?_)
  | (with_reducible refine s_isNotN ?_)
  | (with_reducible refine s_isB ?_)
  | (with_reducible refine s_isNotB ?_)
  | ((with_reducible apply s_isT); (· walk_at "ty"); (· decide +kernel))
  | ((with_reducible apply s_isF); (· walk_at "ty"); (· decide +kernel))
  | (with_reducible refine s_forR1 ?_)
  | (with_reducible refine s_forR2 ?_)
  | (with_reducible refine s_forL ?_)
  | (with_reducible refine s_forT ?_)
  | (with_reducible refine s_and ?_)
  | (with_reducible refine s_or ?_)
  | (with_reducible refine s_not ?_)
  | (with_reducible refine s_andV ?_)
  | (with_reducible refine s_orV ?_)
  | (with_reducible refine s_notV ?_)
  | (with_reducible refine s_if ?_)
  | (with_reducible refine s_chain ?_)
  | (with_reducible refine s_tup ?_)
  | (with_reducible refine s_lst ?_)
  | ((with_reducible apply s_pow); (· exact ⟨by decide, by decide, by decide⟩); (· (simp only [Int.reduceToNat, Int.reducePow]; exact rfl)))
  | (with_reducible refine s_fld ?_)
  | ((with_reducible apply h_fld hS); (· walk_at "hp"); (· walk_at "cl"); (· walk_at "na"); (· exact rfl))
  | (with_reducible refine s_sfld ?_)
  | (with_reducible refine s_gattr ?_)
  | ((with_reducible apply s_gtup); (· walk_at "sq"); (· exact rfl))
  | (with_reducible refine s_gcons ?_)
  | (with_reducible refine s_gnil ?_)
  | (with_reducible refine s_bm0 ?_)
  | (with_reducible refine s_bm ?_)
  | ((with_reducible apply s_bmL); (· walk_at "sq"))
  | ((with_reducible apply s_bmT); (· walk_at "tt"); (· exact rfl))
  | (with_reducible refine s_bmS ?_)
  | ((with_reducible apply s_sum); (· walk_at "sq"))
  | ((with_reducible apply s_all); (· walk_at "sq"))
  | ((with_reducible apply s_any); (· walk_at "sq"))
  | ((with_reducible apply s_maxL2); (· walk_at "sq"))
  | ((with_reducible apply s_minL2); (· walk_at "sq"))
  | ((with_reducible apply s_methO); (· walk_at "hp"); (· exact rfl))
  | ((with_reducible apply s_propO); (· walk_at "hp"))
  | (with_reducible refine h_make hS (fun x dx H1 hS1 => ?_); walk_at "nw")
  | (with_reducible refine s_abs ?_)
  | (with_reducible refine s_max2 ?_)
  | (with_reducible refine s_min2 ?_)
  | ((with_reducible refine h_new hS ?_ (fun p H1 hS1 hp => ?_)); (· walk_at "sz"); clear hS; rename SH _ _ _ _ => hS)
  | ((with_reducible apply s_rep1); (· walk_at "hp"); (· walk_at "ar"); (· first | (simp only [Int.reduceToNat]; exact rfl) | exact rfl))
  | ((with_reducible apply s_rep); (· walk_at "hp"); (· walk_at "ar"); (· walk_at "sz"); (· exact rfl))
  | ((with_reducible apply s_cat); (· walk_at "hp"); (· walk_at "hp"); (· walk_at "sz"); (· exact rfl))
  | ((with_reducible apply s_catA0); (· walk_at "sq"); (· walk_at "sq"); (· exact List.cons_ne_nil _ _); (· walk_at "sz"))
  | ((with_reducible apply s_catA); (· walk_at "sq"); (· walk_at "sq"); (· exact List.cons_ne_nil _ _); (· exact List.cons_ne_nil _ _); (· walk_at "sz"); (· exact rfl))
  | ((with_reducible apply s_listO); (· walk_at "sq"))
  | ((with_reducible apply s_listT); (· walk_at "sq"))
  | ((with_reducible apply s_tupL); (· walk_at "sq"))
  | ((with_reducible apply s_tupT); (· walk_at "sq"))
  | ((with_reducible apply h_setL hS); (· walk_at "ix"); (· walk_at "ij"); (· walk_at "ls"); (· walk_at "ls"); intro H1 hS1; clear hS; rename SH _ _ _ _ => hS)
  | ((with_reducible apply h_sfld hS); (· walk_at "ix"); (· walk_at "cl"); (· walk_at "na"); (· exact Nat.le_of_ble_eq_true rfl); (· walk_at "pf"); (· walk_at "ls"); intro H1 hS1; walk_at "nw")
  | ((with_reducible apply h_append hS); (· walk_at "ix"); (· walk_at "sz"); (· first | exact rfl); (· walk_at "ls"); intro H1 hS1; walk_at "nw")
  | ((with_reducible apply h_pop0 hS); (· walk_at "ix"); (· walk_at "ar"); intro pn pms H1 hpn hS1; walk_at "nw"; simp only [List.set_cons_zero, List.set_cons_succ] at hS)
  | ((with_reducible apply h_pop hS); (· walk_at "ix"); (· walk_at "pv"); (· walk_at "dl"); (· walk_at "ls"); intro H1 hS1; walk_at "nw")
  | (with_reducible refine s_sl ?_)
  | (with_reducible refine s_part ?_)
  | (with_reducible refine s_partI ?_)
  | (with_reducible refine s_noPart ?_)
  | ((with_reducible apply s_slL); (· walk_at "sq"); (· exact rfl))
  | (with_reducible refine s_lcR1 ?_)
  | (with_reducible refine s_lcL ?_)
  | (with_reducible refine s_lcLG ?_)
  | ((with_reducible refine s_wipe ?_ ?_); (· exact rfl))
  | (with_reducible refine s_tYes ?_)
  | ((with_reducible apply h_lcEnd hS); (· walk_at "ix"); (· walk_at "sz"); (· first | exact rfl); (· walk_at "ls"); intro H1 hS1; walk_at "nw")
  | (with_reducible refine i_not ?_)
  | ((with_reducible refine i_pos ?_ ?_); (· first | rfl | decide | exact decide_eq_true (by omega)))
  | ((with_reducible refine i_neg ?_ ?_); (· first | rfl | decide | exact decide_eq_false (by omega)))
  | (with_reducible refine i_dec (fun hc => ?_) (fun hc => ?_))
  | (with_reducible refine i_gen (fun hc => ?_) (fun hc => ?_)))
def top (i : Nat) : Stmt := PySem.Challenge.pw_windowada_k67_ring.main.body.getD i (.Pass ⟨0, 0, 0, 0⟩)
abbrev s_area : Stmt := top 4
abbrev s_row_of : Stmt := top 7
abbrev s_clear_new : Stmt := top 8
abbrev s_Ring_init__ : Stmt := inClass (top 9) 0
abbrev s_Ring_read : Stmt := inClass (top 9) 1
abbrev s_Ring_write : Stmt := inClass (top 9) 2
abbrev s_Ring_blocked_down : Stmt := inClass (top 9) 3
abbrev s_Ring_blocked_up : Stmt := inClass (top 9) 4
abbrev s_Ring_spill : Stmt := inClass (top 9) 5
abbrev s_Ring_fill : Stmt := inClass (top 9) 6
abbrev s_Ring_shift_down : Stmt := inClass (top 9) 7
abbrev s_Ring_shift_up : Stmt := inClass (top 9) 8
abbrev s_z_mixed : Stmt := top 11
abbrev s_z_state : Stmt := top 12
abbrev s_z_draw : Stmt := top 13
abbrev s_z_is_integer : Stmt := top 14
abbrev s_z_word : Stmt := top 15
abbrev s_z_spot : Stmt := top 16
abbrev s_z_get : Stmt := top 17
abbrev s_z_set : Stmt := top 18
abbrev s_z_add : Stmt := top 19
abbrev s_z_lies : Stmt := top 20
abbrev s_z_ring_down : Stmt := top 21
abbrev s_z_ring_up : Stmt := top 22
abbrev s_z_goes_down : Stmt := top 23
abbrev s_z_goes_up : Stmt := top 24
abbrev s_z_alike : Stmt := top 25
abbrev s_z_write : Stmt := top 26
abbrev s_z_deed : Stmt := top 27
abbrev s_law : Stmt := top 28
abbrev N_area : List Str := ["memory", "start"]
theorem st_area (a0 a1 : V) : L2.start N_area [a0, a1] = [some a0, some a1] := rfl
theorem sc_area : FnScope N_area ["memory", "start"] (defScope s_area) := ⟨rfl, rfl, rfl, by decide +kernel, rfl, by decide +kernel, by decide +kernel⟩
abbrev N_row_of : List Str := ["rows", "shared", "current", "number"]
theorem st_row_of (a0 a1 a2 a3 : V) : L2.start N_row_of [a0, a1, a2, a3] = [some a0, some a1, some a2, some a3] := rfl
theorem sc_row_of : FnScope N_row_of ["rows", "shared", "current", "number"] (defScope s_row_of) := ⟨rfl, rfl, rfl, by decide +kernel, rfl, by decide +kernel, by decide +kernel⟩
abbrev N_clear_new : List Str := ["rows", "current", "index"]
theorem st_clear_new (a0 a1 : V) : L2.start N_clear_new [a0, a1] = [some a0, some a1, none] := rfl
theorem sc_clear_new : FnScope N_clear_new ["rows", "current"] (defScope s_clear_new) := ⟨rfl, rfl, rfl, by decide +kernel, rfl, by decide +kernel, by decide +kernel⟩
abbrev N_Ring_init__ : List Str := ["self", "memory", "windows", "_"]
theorem st_Ring_init__ (a0 a1 a2 : V) : L2.start N_Ring_init__ [a0, a1, a2] = [some a0, some a1, some a2, none] := rfl
theorem sc_Ring_init__ : FnScope N_Ring_init__ ["self", "memory", "windows"] (defScope s_Ring_init__) := ⟨rfl, rfl, rfl, by decide +kernel, rfl, by decide +kernel, by decide +kernel⟩
abbrev N_Ring_read : List Str := ["self", "number", "row", "index"]
theorem st_Ring_read (a0 a1 : V) : L2.start N_Ring_read [a0, a1] = [some a0, some a1, none, none] := rfl
theorem sc_Ring_read : FnScope N_Ring_read ["self", "number"] (defScope s_Ring_read) := ⟨rfl, rfl, rfl, by decide +kernel, rfl, by decide +kernel, by decide +kernel⟩
abbrev N_Ring_write : List Str := ["self", "number", "word", "row", "index"]
theorem st_Ring_write (a0 a1 a2 : V) : L2.start N_Ring_write [a0, a1, a2] = [some a0, some a1, some a2, none, none] := rfl
theorem sc_Ring_write : FnScope N_Ring_write ["self", "number", "word"] (defScope s_Ring_write) := ⟨rfl, rfl, rfl, by decide +kernel, rfl, by decide +kernel, by decide +kernel⟩
abbrev N_Ring_blocked_down : List Str := ["self"]
theorem st_Ring_blocked_down (a0 : V) : L2.start N_Ring_blocked_down [a0] = [some a0] := rfl
theorem sc_Ring_blocked_down : FnScope N_Ring_blocked_down ["self"] (defScope s_Ring_blocked_down) := ⟨rfl, rfl, rfl, by decide +kernel, rfl, by decide +kernel, by decide +kernel⟩
abbrev N_Ring_blocked_up : List Str := ["self"]
theorem st_Ring_blocked_up (a0 : V) : L2.start N_Ring_blocked_up [a0] = [some a0] := rfl
theorem sc_Ring_blocked_up : FnScope N_Ring_blocked_up ["self"] (defScope s_Ring_blocked_up) := ⟨rfl, rfl, rfl, by decide +kernel, rfl, by decide +kernel, by decide +kernel⟩
abbrev N_Ring_spill : List Str := ["self", "oldest", "start", "stop"]
theorem st_Ring_spill (a0 : V) : L2.start N_Ring_spill [a0] = [some a0, none, none, none] := rfl
theorem sc_Ring_spill : FnScope N_Ring_spill ["self"] (defScope s_Ring_spill) := ⟨rfl, rfl, rfl, by decide +kernel, rfl, by decide +kernel, by decide +kernel⟩
abbrev N_Ring_fill : List Str := ["self", "above", "start", "stop"]
theorem st_Ring_fill (a0 : V) : L2.start N_Ring_fill [a0] = [some a0, none, none, none] := rfl
theorem sc_Ring_fill : FnScope N_Ring_fill ["self"] (defScope s_Ring_fill) := ⟨rfl, rfl, rfl, by decide +kernel, rfl, by decide +kernel, by decide +kernel⟩
abbrev N_Ring_shift_down : List Str := ["self"]
theorem st_Ring_shift_down (a0 : V) : L2.start N_Ring_shift_down [a0] = [some a0] := rfl
theorem sc_Ring_shift_down : FnScope N_Ring_shift_down ["self"] (defScope s_Ring_shift_down) := ⟨rfl, rfl, rfl, by decide +kernel, rfl, by decide +kernel, by decide +kernel⟩
abbrev N_Ring_shift_up : List Str := ["self"]
theorem st_Ring_shift_up (a0 : V) : L2.start N_Ring_shift_up [a0] = [some a0] := rfl
theorem sc_Ring_shift_up : FnScope N_Ring_shift_up ["self"] (defScope s_Ring_shift_up) := ⟨rfl, rfl, rfl, by decide +kernel, rfl, by decide +kernel, by decide +kernel⟩
abbrev N_z_mixed : List Str := ["_law_number", "_law_count", "_law_first", "_law_second"]
theorem st_z_mixed (a0 a1 : V) : L2.start N_z_mixed [a0, a1] = [some a0, some a1, none, none] := rfl
theorem sc_z_mixed : FnScope N_z_mixed ["_law_number", "_law_count"] (defScope s_z_mixed) := ⟨rfl, rfl, rfl, by decide +kernel, rfl, by decide +kernel, by decide +kernel⟩
abbrev N_z_state : List Str := ["_law_script", "_law_budget"]
theorem st_z_state (a0 a1 : V) : L2.start N_z_state [a0, a1] = [some a0, some a1] := rfl
theorem sc_z_state : FnScope N_z_state ["_law_script", "_law_budget"] (defScope s_z_state) := ⟨rfl, rfl, rfl, by decide +kernel, rfl, by decide +kernel, by decide +kernel⟩
abbrev N_z_draw : List Str := ["_law_state_here", "_law_many", "_law_cells", "_law_cell", "_law_digit"]
theorem st_z_draw (a0 a1 : V) : L2.start N_z_draw [a0, a1] = [some a0, some a1, none, none, none] := rfl
theorem sc_z_draw : FnScope N_z_draw ["_law_state_here", "_law_many"] (defScope s_z_draw) := ⟨rfl, rfl, rfl, by decide +kernel, rfl, by decide +kernel, by decide +kernel⟩
abbrev N_z_is_integer : List Str := ["_law_actual"]
theorem st_z_is_integer (a0 : V) : L2.start N_z_is_integer [a0] = [some a0] := rfl
theorem sc_z_is_integer : FnScope N_z_is_integer ["_law_actual"] (defScope s_z_is_integer) := ⟨rfl, rfl, rfl, by decide +kernel, rfl, by decide +kernel, by decide +kernel⟩
abbrev N_z_word : List Str := ["_law_state_here", "_law_choice"]
theorem st_z_word (a0 : V) : L2.start N_z_word [a0] = [some a0, none] := rfl
theorem sc_z_word : FnScope N_z_word ["_law_state_here"] (defScope s_z_word) := ⟨rfl, rfl, rfl, by decide +kernel, rfl, by decide +kernel, by decide +kernel⟩
abbrev N_z_spot : List Str := ["_law_m", "_law_number", "_law_window"]
theorem st_z_spot (a0 a1 : V) : L2.start N_z_spot [a0, a1] = [some a0, some a1, none] := rfl
theorem sc_z_spot : FnScope N_z_spot ["_law_m", "_law_number"] (defScope s_z_spot) := ⟨rfl, rfl, rfl, by decide +kernel, rfl, by decide +kernel, by decide +kernel⟩
abbrev N_z_get : List Str := ["_law_m", "_law_number", "_law_row", "_law_at"]
theorem st_z_get (a0 a1 : V) : L2.start N_z_get [a0, a1] = [some a0, some a1, none, none] := rfl
theorem sc_z_get : FnScope N_z_get ["_law_m", "_law_number"] (defScope s_z_get) := ⟨rfl, rfl, rfl, by decide +kernel, rfl, by decide +kernel, by decide +kernel⟩
abbrev N_z_set : List Str := ["_law_m", "_law_number", "_law_word_here", "_law_row", "_law_at"]
theorem st_z_set (a0 a1 a2 : V) : L2.start N_z_set [a0, a1, a2] = [some a0, some a1, some a2, none, none] := rfl
theorem sc_z_set : FnScope N_z_set ["_law_m", "_law_number", "_law_word_here"] (defScope s_z_set) := ⟨rfl, rfl, rfl, by decide +kernel, rfl, by decide +kernel, by decide +kernel⟩
abbrev N_z_add : List Str := ["_law_m", "_law_key", "_law_by"]
theorem st_z_add (a0 a1 a2 : V) : L2.start N_z_add [a0, a1, a2] = [some a0, some a1, some a2] := rfl
theorem sc_z_add : FnScope N_z_add ["_law_m", "_law_key", "_law_by"] (defScope s_z_add) := ⟨rfl, rfl, rfl, by decide +kernel, rfl, by decide +kernel, by decide +kernel⟩
abbrev N_z_lies : List Str := ["_law_m", "_law_start"]
theorem st_z_lies (a0 a1 : V) : L2.start N_z_lies [a0, a1] = [some a0, some a1] := rfl
theorem sc_z_lies : FnScope N_z_lies ["_law_m", "_law_start"] (defScope s_z_lies) := ⟨rfl, rfl, rfl, by decide +kernel, rfl, by decide +kernel, by decide +kernel⟩
abbrev N_z_ring_down : List Str := ["_law_m", "_law_rows", "_law_memory", "_law_start", "_law_words", "_law_k"]
theorem st_z_ring_down (a0 : V) : L2.start N_z_ring_down [a0] = [some a0, none, none, none, none, none] := rfl
theorem sc_z_ring_down : FnScope N_z_ring_down ["_law_m"] (defScope s_z_ring_down) := ⟨rfl, rfl, rfl, by decide +kernel, rfl, by decide +kernel, by decide +kernel⟩
abbrev N_z_ring_up : List Str := ["_law_m", "_law_rows", "_law_start", "_law_words", "_law_left"]
theorem st_z_ring_up (a0 : V) : L2.start N_z_ring_up [a0] = [some a0, none, none, none, none] := rfl
theorem sc_z_ring_up : FnScope N_z_ring_up ["_law_m"] (defScope s_z_ring_up) := ⟨rfl, rfl, rfl, by decide +kernel, rfl, by decide +kernel, by decide +kernel⟩
abbrev N_z_goes_down : List Str := ["_law_ring", "_law_m", "_law_answer", "e"]
theorem st_z_goes_down (a0 a1 : V) : L2.start N_z_goes_down [a0, a1] = [some a0, some a1, none, none] := rfl
theorem sc_z_goes_down : FnScope N_z_goes_down ["_law_ring", "_law_m"] (defScope s_z_goes_down) := ⟨rfl, rfl, rfl, by decide +kernel, rfl, by decide +kernel, by decide +kernel⟩
abbrev N_z_goes_up : List Str := ["_law_ring", "_law_m", "_law_answer", "e"]
theorem st_z_goes_up (a0 a1 : V) : L2.start N_z_goes_up [a0, a1] = [some a0, some a1, none, none] := rfl
theorem sc_z_goes_up : FnScope N_z_goes_up ["_law_ring", "_law_m"] (defScope s_z_goes_up) := ⟨rfl, rfl, rfl, by decide +kernel, rfl, by decide +kernel, by decide +kernel⟩
abbrev N_z_alike : List Str := ["_law_ring", "_law_m", "_law_memory", "_law_number", "_law_word_here", "_law_told"]
theorem st_z_alike (a0 a1 a2 : V) : L2.start N_z_alike [a0, a1, a2] = [some a0, some a1, some a2, none, none, none] := rfl
theorem sc_z_alike : FnScope N_z_alike ["_law_ring", "_law_m", "_law_memory"] (defScope s_z_alike) := ⟨rfl, rfl, rfl, by decide +kernel, rfl, by decide +kernel, by decide +kernel⟩
abbrev N_z_write : List Str := ["_law_ring", "_law_m", "_law_number", "_law_word_here"]
theorem st_z_write (a0 a1 a2 a3 : V) : L2.start N_z_write [a0, a1, a2, a3] = [some a0, some a1, some a2, some a3] := rfl
theorem sc_z_write : FnScope N_z_write ["_law_ring", "_law_m", "_law_number", "_law_word_here"] (defScope s_z_write) := ⟨rfl, rfl, rfl, by decide +kernel, rfl, by decide +kernel, by decide +kernel⟩
abbrev N_z_deed : List Str := ["_law_state_here", "_law_ring", "_law_m", "_law_memory", "_law_choice", "_law_before", "_law_deep", "_law_start", "_law_at", "_law_word_here", "_law_own", "_law_number"]
theorem st_z_deed (a0 a1 a2 a3 : V) : L2.start N_z_deed [a0, a1, a2, a3] = [some a0, some a1, some a2, some a3, none, none, none, none, none, none, none, none] := rfl
theorem sc_z_deed : FnScope N_z_deed ["_law_state_here", "_law_ring", "_law_m", "_law_memory"] (defScope s_z_deed) := ⟨rfl, rfl, rfl, by decide +kernel, rfl, by decide +kernel, by decide +kernel⟩
abbrev N_law : List Str := ["_law_script", "_law_state_here", "_law_windows", "_law_junk", "_law_k", "_law_memory", "_law_ring", "_law_m", "_law_key", "_law_turn", "_law_word_here"]
theorem st_law (a0 : V) : L2.start N_law [a0] = [some a0, none, none, none, none, none, none, none, none, none, none] := rfl
theorem sc_law : FnScope N_law ["_law_script"] (defScope s_law) := ⟨rfl, rfl, rfl, by decide +kernel, rfl, by decide +kernel, by decide +kernel⟩
structure Env (w : World) (K : PySem.W.Frag) (mg : Str → Option Value) : Prop where
  mg_area : mg "area" = some (.ref (He.ga K "area"))
  mg_row_of : mg "row_of" = some (.ref (He.ga K "row_of"))
  mg_clear_new : mg "clear_new" = some (.ref (He.ga K "clear_new"))
  mg_z_mixed : mg "_law_mixed" = some (.ref (He.ga K "_law_mixed"))
  mg_z_state : mg "_law_state" = some (.ref (He.ga K "_law_state"))
  mg_z_draw : mg "_law_draw" = some (.ref (He.ga K "_law_draw"))
  mg_z_is_integer : mg "_law_is_integer" = some (.ref (He.ga K "_law_is_integer"))
  mg_z_word : mg "_law_word" = some (.ref (He.ga K "_law_word"))
  mg_z_spot : mg "_law_spot" = some (.ref (He.ga K "_law_spot"))
  mg_z_get : mg "_law_get" = some (.ref (He.ga K "_law_get"))
  mg_z_set : mg "_law_set" = some (.ref (He.ga K "_law_set"))
  mg_z_add : mg "_law_add" = some (.ref (He.ga K "_law_add"))
  mg_z_lies : mg "_law_lies" = some (.ref (He.ga K "_law_lies"))
  mg_z_ring_down : mg "_law_ring_down" = some (.ref (He.ga K "_law_ring_down"))
  mg_z_ring_up : mg "_law_ring_up" = some (.ref (He.ga K "_law_ring_up"))
  mg_z_goes_down : mg "_law_goes_down" = some (.ref (He.ga K "_law_goes_down"))
  mg_z_goes_up : mg "_law_goes_up" = some (.ref (He.ga K "_law_goes_up"))
  mg_z_alike : mg "_law_alike" = some (.ref (He.ga K "_law_alike"))
  mg_z_write : mg "_law_write" = some (.ref (He.ga K "_law_write"))
  mg_z_deed : mg "_law_deed" = some (.ref (He.ga K "_law_deed"))
  mg_law : mg "law" = some (.ref (He.ga K "law"))
  mg_AdaError : mg "AdaError" = some (.ref (He.ga K "AdaError"))
  mg_Fault : mg "Fault" = some (.ref (He.ga K "Fault"))
  ef_Fault : ExcF K (He.ga K "Fault")
  mg_Ring : mg "Ring" = some (.ref (He.ga K "Ring"))
  cl_Ring : Cls K (He.ga K "Ring")
  mk_Ring : Mk K (He.ga K "Ring") (He.ma K (He.ga K "Ring") "__init__")
  me_Ring_read : Meth K (He.ga K "Ring") "read" (He.ma K (He.ga K "Ring") "read")
  me_Ring_write : Meth K (He.ga K "Ring") "write" (He.ma K (He.ga K "Ring") "write")
  me_Ring_blocked_down : Meth K (He.ga K "Ring") "blocked_down" (He.ma K (He.ga K "Ring") "blocked_down")
  me_Ring_blocked_up : Meth K (He.ga K "Ring") "blocked_up" (He.ma K (He.ga K "Ring") "blocked_up")
  me_Ring_spill : Meth K (He.ga K "Ring") "_spill" (He.ma K (He.ga K "Ring") "_spill")
  me_Ring_fill : Meth K (He.ga K "Ring") "_fill" (He.ma K (He.ga K "Ring") "_fill")
  me_Ring_shift_down : Meth K (He.ga K "Ring") "shift_down" (He.ma K (He.ga K "Ring") "shift_down")
  me_Ring_shift_up : Meth K (He.ga K "Ring") "shift_up" (He.ma K (He.ga K "Ring") "shift_up")
  na_Ring_memory : NoAttr K (He.ga K "Ring") "memory"
  na_Ring_windows : NoAttr K (He.ga K "Ring") "windows"
  na_Ring_rows : NoAttr K (He.ga K "Ring") "_rows"
  na_Ring_shared : NoAttr K (He.ga K "Ring") "_shared"
  na_Ring_current : NoAttr K (He.ga K "Ring") "_current"
  na_Ring_resident : NoAttr K (He.ga K "Ring") "resident"
  na_Ring_depth : NoAttr K (He.ga K "Ring") "depth"
  na_Ring_spills : NoAttr K (He.ga K "Ring") "spills"
  na_Ring_fills : NoAttr K (He.ga K "Ring") "fills"
  c_STACK_IN_ROW : ∃ t, mg "STACK_IN_ROW" = some (.int (14) t)
  ec_Fault : ExcC K (He.ga K "Fault")
  em_Fault_Fault : PySem.W.exmOne K (.ref (He.ga K "Fault")) (.ref (He.ga K "Fault")) = some true
  ki_Fault_AdaError : PySem.W.kitOne K (.ref (He.ga K "Fault")) (.ref (He.ga K "AdaError")) = some true
  z_ValueError : mg "ValueError" = none
  z_abs : mg "abs" = none
  z_all : mg "all" = none
  z_bool : mg "bool" = none
  z_int : mg "int" = none
  z_isinstance : mg "isinstance" = none
  z_len : mg "len" = none
  z_list : mg "list" = none
  z_max : mg "max" = none
  z_range : mg "range" = none
  z_sum : mg "sum" = none
  fd_area : ∃ fd, FunD K "area" "area" (defArgs s_area) (defBody s_area) (defScope s_area) [] [] (He.fAd K ("area", none)) fd
  fd_row_of : ∃ fd, FunD K "row_of" "row_of" (defArgs s_row_of) (defBody s_row_of) (defScope s_row_of) [] [] (He.fAd K ("row_of", none)) fd
  fd_clear_new : ∃ fd, FunD K "clear_new" "clear_new" (defArgs s_clear_new) (defBody s_clear_new) (defScope s_clear_new) [] [] (He.fAd K ("clear_new", none)) fd
  fd_Ring_init__ : ∃ fd, FunD K "__init__" "Ring.__init__" (defArgs s_Ring_init__) (defBody s_Ring_init__) (defScope s_Ring_init__) [] [] (He.fAd K ("Ring", some "__init__")) fd
  fd_Ring_read : ∃ fd, FunD K "read" "Ring.read" (defArgs s_Ring_read) (defBody s_Ring_read) (defScope s_Ring_read) [] [] (He.fAd K ("Ring", some "read")) fd
  fd_Ring_write : ∃ fd, FunD K "write" "Ring.write" (defArgs s_Ring_write) (defBody s_Ring_write) (defScope s_Ring_write) [] [] (He.fAd K ("Ring", some "write")) fd
  fd_Ring_blocked_down : ∃ fd, FunD K "blocked_down" "Ring.blocked_down" (defArgs s_Ring_blocked_down) (defBody s_Ring_blocked_down) (defScope s_Ring_blocked_down) [] [] (He.fAd K ("Ring", some "blocked_down")) fd
  fd_Ring_blocked_up : ∃ fd, FunD K "blocked_up" "Ring.blocked_up" (defArgs s_Ring_blocked_up) (defBody s_Ring_blocked_up) (defScope s_Ring_blocked_up) [] [] (He.fAd K ("Ring", some "blocked_up")) fd
  fd_Ring_spill : ∃ fd, FunD K "_spill" "Ring._spill" (defArgs s_Ring_spill) (defBody s_Ring_spill) (defScope s_Ring_spill) [] [] (He.fAd K ("Ring", some "_spill")) fd
  fd_Ring_fill : ∃ fd, FunD K "_fill" "Ring._fill" (defArgs s_Ring_fill) (defBody s_Ring_fill) (defScope s_Ring_fill) [] [] (He.fAd K ("Ring", some "_fill")) fd
  fd_Ring_shift_down : ∃ fd, FunD K "shift_down" "Ring.shift_down" (defArgs s_Ring_shift_down) (defBody s_Ring_shift_down) (defScope s_Ring_shift_down) [] [] (He.fAd K ("Ring", some "shift_down")) fd
  fd_Ring_shift_up : ∃ fd, FunD K "shift_up" "Ring.shift_up" (defArgs s_Ring_shift_up) (defBody s_Ring_shift_up) (defScope s_Ring_shift_up) [] [] (He.fAd K ("Ring", some "shift_up")) fd
  fd_z_mixed : ∃ fd, FunD K "_law_mixed" "_law_mixed" (defArgs s_z_mixed) (defBody s_z_mixed) (defScope s_z_mixed) [] [] (He.fAd K ("_law_mixed", none)) fd
  fd_z_state : ∃ fd, FunD K "_law_state" "_law_state" (defArgs s_z_state) (defBody s_z_state) (defScope s_z_state) [] [] (He.fAd K ("_law_state", none)) fd
  fd_z_draw : ∃ fd, FunD K "_law_draw" "_law_draw" (defArgs s_z_draw) (defBody s_z_draw) (defScope s_z_draw) [] [] (He.fAd K ("_law_draw", none)) fd
  fd_z_is_integer : ∃ fd, FunD K "_law_is_integer" "_law_is_integer" (defArgs s_z_is_integer) (defBody s_z_is_integer) (defScope s_z_is_integer) [] [] (He.fAd K ("_law_is_integer", none)) fd
  fd_z_word : ∃ fd, FunD K "_law_word" "_law_word" (defArgs s_z_word) (defBody s_z_word) (defScope s_z_word) [] [] (He.fAd K ("_law_word", none)) fd
  fd_z_spot : ∃ fd, FunD K "_law_spot" "_law_spot" (defArgs s_z_spot) (defBody s_z_spot) (defScope s_z_spot) [] [] (He.fAd K ("_law_spot", none)) fd
  fd_z_get : ∃ fd, FunD K "_law_get" "_law_get" (defArgs s_z_get) (defBody s_z_get) (defScope s_z_get) [] [] (He.fAd K ("_law_get", none)) fd
  fd_z_set : ∃ fd, FunD K "_law_set" "_law_set" (defArgs s_z_set) (defBody s_z_set) (defScope s_z_set) [] [] (He.fAd K ("_law_set", none)) fd
  fd_z_add : ∃ fd, FunD K "_law_add" "_law_add" (defArgs s_z_add) (defBody s_z_add) (defScope s_z_add) [] [] (He.fAd K ("_law_add", none)) fd
  fd_z_lies : ∃ fd, FunD K "_law_lies" "_law_lies" (defArgs s_z_lies) (defBody s_z_lies) (defScope s_z_lies) [] [] (He.fAd K ("_law_lies", none)) fd
  fd_z_ring_down : ∃ fd, FunD K "_law_ring_down" "_law_ring_down" (defArgs s_z_ring_down) (defBody s_z_ring_down) (defScope s_z_ring_down) [] [] (He.fAd K ("_law_ring_down", none)) fd
  fd_z_ring_up : ∃ fd, FunD K "_law_ring_up" "_law_ring_up" (defArgs s_z_ring_up) (defBody s_z_ring_up) (defScope s_z_ring_up) [] [] (He.fAd K ("_law_ring_up", none)) fd
  fd_z_goes_down : ∃ fd, FunD K "_law_goes_down" "_law_goes_down" (defArgs s_z_goes_down) (defBody s_z_goes_down) (defScope s_z_goes_down) [] [] (He.fAd K ("_law_goes_down", none)) fd
  fd_z_goes_up : ∃ fd, FunD K "_law_goes_up" "_law_goes_up" (defArgs s_z_goes_up) (defBody s_z_goes_up) (defScope s_z_goes_up) [] [] (He.fAd K ("_law_goes_up", none)) fd
  fd_z_alike : ∃ fd, FunD K "_law_alike" "_law_alike" (defArgs s_z_alike) (defBody s_z_alike) (defScope s_z_alike) [] [] (He.fAd K ("_law_alike", none)) fd
  fd_z_write : ∃ fd, FunD K "_law_write" "_law_write" (defArgs s_z_write) (defBody s_z_write) (defScope s_z_write) [] [] (He.fAd K ("_law_write", none)) fd
  fd_z_deed : ∃ fd, FunD K "_law_deed" "_law_deed" (defArgs s_z_deed) (defBody s_z_deed) (defScope s_z_deed) [] [] (He.fAd K ("_law_deed", none)) fd
  fd_law : ∃ fd, FunD K "law" "law" (defArgs s_law) (defBody s_law) (defScope s_law) [] [] (He.fAd K ("law", none)) fd
def fa : List He.Fa := [.glo "area", .glo "row_of", .glo "clear_new", .glo "_law_mixed", .glo "_law_state", .glo "_law_draw", .glo "_law_is_integer", .glo "_law_word", .glo "_law_spot", .glo "_law_get", .glo "_law_set", .glo "_law_add", .glo "_law_lies", .glo "_law_ring_down", .glo "_law_ring_up", .glo "_law_goes_down", .glo "_law_goes_up", .glo "_law_alike", .glo "_law_write", .glo "_law_deed", .glo "law", .glo "AdaError", .glo "Fault", .exc "Fault", .glo "Ring", .cls "Ring", .mkr "Ring", .meth "Ring" "read", .meth "Ring" "write", .meth "Ring" "blocked_down", .meth "Ring" "blocked_up", .meth "Ring" "_spill", .meth "Ring" "_fill", .meth "Ring" "shift_down", .meth "Ring" "shift_up", .noat "Ring" "memory", .noat "Ring" "windows", .noat "Ring" "_rows", .noat "Ring" "_shared", .noat "Ring" "_current", .noat "Ring" "resident", .noat "Ring" "depth", .noat "Ring" "spills", .noat "Ring" "fills", .int "STACK_IN_ROW" (14), .exm "Fault" "Fault" true, .free "ValueError", .free "abs", .free "all", .free "bool", .free "int", .free "isinstance", .free "len", .free "list", .free "max", .free "range", .free "sum"]
def fn : List He.DefD := [⟨("area", none), "area", "area", defArgs s_area, defBody s_area, defScope s_area, [], []⟩, ⟨("row_of", none), "row_of", "row_of", defArgs s_row_of, defBody s_row_of, defScope s_row_of, [], []⟩, ⟨("clear_new", none), "clear_new", "clear_new", defArgs s_clear_new, defBody s_clear_new, defScope s_clear_new, [], []⟩, ⟨("Ring", some "__init__"), "__init__", "Ring.__init__", defArgs s_Ring_init__, defBody s_Ring_init__, defScope s_Ring_init__, [], []⟩, ⟨("Ring", some "read"), "read", "Ring.read", defArgs s_Ring_read, defBody s_Ring_read, defScope s_Ring_read, [], []⟩, ⟨("Ring", some "write"), "write", "Ring.write", defArgs s_Ring_write, defBody s_Ring_write, defScope s_Ring_write, [], []⟩, ⟨("Ring", some "blocked_down"), "blocked_down", "Ring.blocked_down", defArgs s_Ring_blocked_down, defBody s_Ring_blocked_down, defScope s_Ring_blocked_down, [], []⟩, ⟨("Ring", some "blocked_up"), "blocked_up", "Ring.blocked_up", defArgs s_Ring_blocked_up, defBody s_Ring_blocked_up, defScope s_Ring_blocked_up, [], []⟩, ⟨("Ring", some "_spill"), "_spill", "Ring._spill", defArgs s_Ring_spill, defBody s_Ring_spill, defScope s_Ring_spill, [], []⟩, ⟨("Ring", some "_fill"), "_fill", "Ring._fill", defArgs s_Ring_fill, defBody s_Ring_fill, defScope s_Ring_fill, [], []⟩, ⟨("Ring", some "shift_down"), "shift_down", "Ring.shift_down", defArgs s_Ring_shift_down, defBody s_Ring_shift_down, defScope s_Ring_shift_down, [], []⟩, ⟨("Ring", some "shift_up"), "shift_up", "Ring.shift_up", defArgs s_Ring_shift_up, defBody s_Ring_shift_up, defScope s_Ring_shift_up, [], []⟩, ⟨("_law_mixed", none), "_law_mixed", "_law_mixed", defArgs s_z_mixed, defBody s_z_mixed, defScope s_z_mixed, [], []⟩, ⟨("_law_state", none), "_law_state", "_law_state", defArgs s_z_state, defBody s_z_state, defScope s_z_state, [], []⟩, ⟨("_law_draw", none), "_law_draw", "_law_draw", defArgs s_z_draw, defBody s_z_draw, defScope s_z_draw, [], []⟩, ⟨("_law_is_integer", none), "_law_is_integer", "_law_is_integer", defArgs s_z_is_integer, defBody s_z_is_integer, defScope s_z_is_integer, [], []⟩, ⟨("_law_word", none), "_law_word", "_law_word", defArgs s_z_word, defBody s_z_word, defScope s_z_word, [], []⟩, ⟨("_law_spot", none), "_law_spot", "_law_spot", defArgs s_z_spot, defBody s_z_spot, defScope s_z_spot, [], []⟩, ⟨("_law_get", none), "_law_get", "_law_get", defArgs s_z_get, defBody s_z_get, defScope s_z_get, [], []⟩, ⟨("_law_set", none), "_law_set", "_law_set", defArgs s_z_set, defBody s_z_set, defScope s_z_set, [], []⟩, ⟨("_law_add", none), "_law_add", "_law_add", defArgs s_z_add, defBody s_z_add, defScope s_z_add, [], []⟩, ⟨("_law_lies", none), "_law_lies", "_law_lies", defArgs s_z_lies, defBody s_z_lies, defScope s_z_lies, [], []⟩, ⟨("_law_ring_down", none), "_law_ring_down", "_law_ring_down", defArgs s_z_ring_down, defBody s_z_ring_down, defScope s_z_ring_down, [], []⟩, ⟨("_law_ring_up", none), "_law_ring_up", "_law_ring_up", defArgs s_z_ring_up, defBody s_z_ring_up, defScope s_z_ring_up, [], []⟩, ⟨("_law_goes_down", none), "_law_goes_down", "_law_goes_down", defArgs s_z_goes_down, defBody s_z_goes_down, defScope s_z_goes_down, [], []⟩, ⟨("_law_goes_up", none), "_law_goes_up", "_law_goes_up", defArgs s_z_goes_up, defBody s_z_goes_up, defScope s_z_goes_up, [], []⟩, ⟨("_law_alike", none), "_law_alike", "_law_alike", defArgs s_z_alike, defBody s_z_alike, defScope s_z_alike, [], []⟩, ⟨("_law_write", none), "_law_write", "_law_write", defArgs s_z_write, defBody s_z_write, defScope s_z_write, [], []⟩, ⟨("_law_deed", none), "_law_deed", "_law_deed", defArgs s_z_deed, defBody s_z_deed, defScope s_z_deed, [], []⟩, ⟨("law", none), "law", "law", defArgs s_law, defBody s_law, defScope s_law, [], []⟩]
def exl : List (PySem.W.Frag → Bool) := [(fun K => excCB K "Fault"), (fun K => kitCB K "Fault" "AdaError" true)]
def ex (K : PySem.W.Frag) : Bool := exl.all fun f => f K
def ts : List He.Tab := []
def prl : List He.DefD := []
theorem env_mk {w : World} {K : PySem.W.Frag} {h : Heap} {mg : Str → Option Value} (X : K.In h) (G : h.Ns mainGlobals mg) (c : SaysP fa fn ts ex prl w h K) : Env w K mg := ⟨
  He.glo_ok X G (c.x.t.d.fact 0 rfl),
  He.glo_ok X G (c.x.t.d.fact 1 rfl),
  He.glo_ok X G (c.x.t.d.fact 2 rfl),
  He.glo_ok X G (c.x.t.d.fact 3 rfl),
  He.glo_ok X G (c.x.t.d.fact 4 rfl),
  He.glo_ok X G (c.x.t.d.fact 5 rfl),
  He.glo_ok X G (c.x.t.d.fact 6 rfl),
  He.glo_ok X G (c.x.t.d.fact 7 rfl),
  He.glo_ok X G (c.x.t.d.fact 8 rfl),
  He.glo_ok X G (c.x.t.d.fact 9 rfl),
  He.glo_ok X G (c.x.t.d.fact 10 rfl),
  He.glo_ok X G (c.x.t.d.fact 11 rfl),
  He.glo_ok X G (c.x.t.d.fact 12 rfl),
  He.glo_ok X G (c.x.t.d.fact 13 rfl),
  He.glo_ok X G (c.x.t.d.fact 14 rfl),
  He.glo_ok X G (c.x.t.d.fact 15 rfl),
  He.glo_ok X G (c.x.t.d.fact 16 rfl),
  He.glo_ok X G (c.x.t.d.fact 17 rfl),
  He.glo_ok X G (c.x.t.d.fact 18 rfl),
  He.glo_ok X G (c.x.t.d.fact 19 rfl),
  He.glo_ok X G (c.x.t.d.fact 20 rfl),
  He.glo_ok X G (c.x.t.d.fact 21 rfl),
  He.glo_ok X G (c.x.t.d.fact 22 rfl),
  excF_ok (c.x.t.d.fact 23 rfl),
  He.glo_ok X G (c.x.t.d.fact 24 rfl),
  He.cls_ok (c.x.t.d.fact 25 rfl),
  He.mkr_ok (c.x.t.d.fact 26 rfl),
  He.meth_ok (c.x.t.d.fact 27 rfl),
  He.meth_ok (c.x.t.d.fact 28 rfl),
  He.meth_ok (c.x.t.d.fact 29 rfl),
  He.meth_ok (c.x.t.d.fact 30 rfl),
  He.meth_ok (c.x.t.d.fact 31 rfl),
  He.meth_ok (c.x.t.d.fact 32 rfl),
  He.meth_ok (c.x.t.d.fact 33 rfl),
  He.meth_ok (c.x.t.d.fact 34 rfl),
  He.noat_ok (c.x.t.d.fact 35 rfl),
  He.noat_ok (c.x.t.d.fact 36 rfl),
  He.noat_ok (c.x.t.d.fact 37 rfl),
  He.noat_ok (c.x.t.d.fact 38 rfl),
  He.noat_ok (c.x.t.d.fact 39 rfl),
  He.noat_ok (c.x.t.d.fact 40 rfl),
  He.noat_ok (c.x.t.d.fact 41 rfl),
  He.noat_ok (c.x.t.d.fact 42 rfl),
  He.noat_ok (c.x.t.d.fact 43 rfl),
  He.int_ok X G (c.x.t.d.fact 44 rfl),
  excCB_ok (exget c.x.more 0 rfl),
  He.exm_ok (c.x.t.d.fact 45 rfl),
  kitCB_ok (exget c.x.more 1 rfl),
  He.free_ok X G (c.x.t.d.fact 46 rfl),
  He.free_ok X G (c.x.t.d.fact 47 rfl),
  He.free_ok X G (c.x.t.d.fact 48 rfl),
  He.free_ok X G (c.x.t.d.fact 49 rfl),
  He.free_ok X G (c.x.t.d.fact 50 rfl),
  He.free_ok X G (c.x.t.d.fact 51 rfl),
  He.free_ok X G (c.x.t.d.fact 52 rfl),
  He.free_ok X G (c.x.t.d.fact 53 rfl),
  He.free_ok X G (c.x.t.d.fact 54 rfl),
  He.free_ok X G (c.x.t.d.fact 55 rfl),
  He.free_ok X G (c.x.t.d.fact 56 rfl),
  c.x.t.d.def_ 0 rfl,
  c.x.t.d.def_ 1 rfl,
  c.x.t.d.def_ 2 rfl,
  c.x.t.d.def_ 3 rfl,
  c.x.t.d.def_ 4 rfl,
  c.x.t.d.def_ 5 rfl,
  c.x.t.d.def_ 6 rfl,
  c.x.t.d.def_ 7 rfl,
  c.x.t.d.def_ 8 rfl,
  c.x.t.d.def_ 9 rfl,
  c.x.t.d.def_ 10 rfl,
  c.x.t.d.def_ 11 rfl,
  c.x.t.d.def_ 12 rfl,
  c.x.t.d.def_ 13 rfl,
  c.x.t.d.def_ 14 rfl,
  c.x.t.d.def_ 15 rfl,
  c.x.t.d.def_ 16 rfl,
  c.x.t.d.def_ 17 rfl,
  c.x.t.d.def_ 18 rfl,
  c.x.t.d.def_ 19 rfl,
  c.x.t.d.def_ 20 rfl,
  c.x.t.d.def_ 21 rfl,
  c.x.t.d.def_ 22 rfl,
  c.x.t.d.def_ 23 rfl,
  c.x.t.d.def_ 24 rfl,
  c.x.t.d.def_ 25 rfl,
  c.x.t.d.def_ 26 rfl,
  c.x.t.d.def_ 27 rfl,
  c.x.t.d.def_ 28 rfl,
  c.x.t.d.def_ 29 rfl⟩
local macro_rules | `(tactic| walk_at "ef") => `(tactic| first | (with_reducible exact Y.ef_Fault))
local macro_rules | `(tactic| walk_at "ec") => `(tactic| first | (with_reducible exact Y.ec_Fault))
local macro_rules | `(tactic| walk_at "em") => `(tactic| first | (with_reducible exact Y.em_Fault_Fault))
local macro_rules | `(tactic| walk_at "ki") => `(tactic| first | (with_reducible exact Y.ki_Fault_AdaError))
local macro_rules | `(tactic| walk_at "na") => `(tactic| first | (with_reducible exact Y.na_Ring_memory) | (with_reducible exact Y.na_Ring_windows) | (with_reducible exact Y.na_Ring_rows) | (with_reducible exact Y.na_Ring_shared) | (with_reducible exact Y.na_Ring_current) | (with_reducible exact Y.na_Ring_resident) | (with_reducible exact Y.na_Ring_depth) | (with_reducible exact Y.na_Ring_spills) | (with_reducible exact Y.na_Ring_fills))
local macro_rules | `(tactic| walk_at "cl") => `(tactic| first | (with_reducible exact Y.cl_Ring))
/-! ### the head: facts by names, the run -/
abbrev R : PySem.W.OpenRow := PySem.W.OpenLaw.row PySem.Challenge.rw_windowada_k67_ring
abbrev hk : PySem.W.Hook := hookP 5 fa fn ts ex prl
def ob (s : PySem.W.SharedT) : AlP := obsP 5 fa fn ts ex prl (HandSHeadRun.getT s)
theorem ob_eq (s : PySem.W.SharedT) : ob s = hk.obs s.abs := obsP_eq (HandSHeadRun.getT_eq s)
def loose : List Str := (["__name__", "AdaError", "Fault", "area", "STACK_IN_ROW", "row_of", "clear_new", "Ring", "_law_mixed", "_law_state", "_law_draw", "_law_is_integer", "_law_word", "_law_spot", "_law_get", "_law_set", "_law_add", "_law_lies", "_law_ring_down", "_law_ring_up", "_law_goes_down", "_law_goes_up", "_law_alike", "_law_write", "_law_deed"] : List Str)
theorem runF (w : World) : HandSHeadRun.RunEq R (PySem.W.view R.prog [28]) hk ob 4000 loose (w.withFollow "special-get-raises" false) := by
  intro os
  kernel_rfl
theorem runT (w : World) : HandSHeadRun.RunEq R (PySem.W.view R.prog [28]) hk ob 4000 loose (w.withFollow "special-get-raises" true) := by
  intro os
  kernel_rfl
theorem run (w : World) : HandSHeadRun.RunEq R (PySem.W.view R.prog [28]) hk ob 4000 loose w := by
  exact PySem.W.byRow2 "special-get-raises" (P := fun w => HandSHeadRun.RunEq R (PySem.W.view R.prog [28]) hk ob 4000 loose w) runF runT w
/-! ### the law's draws: a list [numbers, place, rest, count, seed, budget] -/
abbrev stD (q : Addr) (i c n sd b : Int) : HO := .lst [.ref q, .int i, .int c, .int n, .int sd, .int b]
def sp_z_mixed (K : PySem.W.Frag) : Sp := mk2 fun a b H Q _ => ∃ x y : Int, a = .int x ∧ b = .int y ∧ ∀ n, Q (.int n) H
theorem ok_z_mixed {P : Program} {w : World} {K : PySem.W.Frag} {mg : Str → Option Value} {base : Heap} (Y : Env w K mg)  : CallOk P w K mg base CX0 1 "_law_mixed" ["_law_number", "_law_count"] (sp_z_mixed K) := Hsh.un (by simp (disch := k_dflt (
  refine Hsh.up ?_
  obtain ⟨fd, F⟩ := Y.fd_z_mixed
  refine ⟨_, fd, Y.mg_z_mixed, F.kp, F.bindsN (fun _ _ _ _ _ _ us hl => match us, hl with | [_, _], _ => rfl), F.ok sc_z_mixed mk2_len (fun cdv A outer s H vs Q E hr h => ?_)⟩
  have hu := hu_room hr
  obtain ⟨_, _, rfl, x, y, rfl, rfl, k⟩ := h
  have hS : SH [] H H [] := SH.start0
  refine ⟨_, PSs.nox (pss_cons (ps_set (i := 2) sc_z_mixed.nd rfl (Or.inl rfl) (pe_op xMod (pe_callTy x_int rfl Y.z_int (by decide +kernel) (pa_cons (pe_op xAdd (pe_op xAdd (pe_op xMul (pv 0) pe_int) (pe_op xMul (pv 1) pe_int)) pe_int) pa_nil)) pe_int))
  (pss_cons (ps_set (i := 3) sc_z_mixed.nd rfl (Or.inl rfl) (pe_op xMod (pe_callTy x_int rfl Y.z_int (by decide +kernel) (pa_cons (pe_op xAdd (pe_op xAdd (pe_op xMul (pv 2) (pv 2)) (pv 0)) (pe_op xMul (pv 1) pe_int)) pa_nil)) pe_int))
  (pss_one (ps_ret (pe_op xAdd (pv 3) (pe_op xDiv (pv 2) pe_int)))))), ?_⟩
  rw [st_z_mixed]
  try simp only [cxK, cxK2, cxW, cxW2]
  clear hu hr F
  repeat' walk_at "st"
  exact k _
  )) only [↓Hsh.on])
theorem c_z_mixed {K : PySem.W.Frag} {H : Hp} {x y : Int} {Q : VK} {E : XK} (k : ∀ n, Q (.int n) H) : sp_z_mixed K ([.int x, .int y] ++ []) H Q E := ⟨_, _, rfl, x, y, rfl, rfl, k⟩
local macro_rules | `(tactic| walk_at "st") => `(tactic| first | (with_reducible refine c_z_mixed (fun mx => ?_)))
def sp_z_state (K : PySem.W.Frag) : Sp := mk2 fun a b H Q _ => ∃ (s : Addr) (ns : List Int) (bu : Int), a = .ref s ∧ b = .int bu ∧ Scr K H s (ns.map V.int) ∧
  ∀ p q sd H', SH [] H H' [(p, stD q 0 0 0 sd bu), (q, .lst (ns.map V.int))] → Q (.ref p) H'
theorem ok_z_state {P : Program} {w : World} {K : PySem.W.Frag} {mg : Str → Option Value} {base : Heap} (Y : Env w K mg)  : CallOk P w K mg base CX0 1 "_law_state" ["_law_script", "_law_budget"] (sp_z_state K) := Hsh.un (by simp (disch := k_dflt (
  refine Hsh.up ?_
  obtain ⟨fd, F⟩ := Y.fd_z_state
  refine ⟨_, fd, Y.mg_z_state, F.kp, F.bindsN (fun _ _ _ _ _ _ us hl => match us, hl with | [_, _], _ => rfl), F.ok sc_z_state mk2_len (fun cdv A outer s H vs Q E hr h => ?_)⟩
  have hu := hu_room hr
  obtain ⟨_, _, rfl, sc, ns, bu, rfl, rfl, hs, k⟩ := h
  have hS : SH [] H H [] := SH.start0
  refine ⟨_, PSs.nox (pss_one (ps_ret (pe_lst (pa_cons (pe_callTy x_list rfl Y.z_list (by decide +kernel) (pa_cons (pv 0) pa_nil)) (pa_cons pe_int (pa_cons pe_int (pa_cons pe_int (pa_cons (pe_op xAdd (pe_op xMod (pe_callTy x_int rfl Y.z_int (by decide +kernel) (pa_cons (pe_callB (x_sum rfl) rfl Y.z_sum (by decide +kernel) (pa_cons (pv 0) pa_nil)) pa_nil)) (pe_op op_pow pe_int pe_int)) (pe_callB x_len rfl Y.z_len (by decide +kernel) (pa_cons (pv 0) pa_nil))) (pa_cons (pv 1) pa_nil))))))))), ?_⟩
  rw [st_z_state]
  try simp only [cxK, cxK2, cxW, cxW2]
  clear hu hr F
  repeat' walk_at "st"
  exact k _ _ _ _ hS
  )) only [↓Hsh.on])
theorem c_z_state {K : PySem.W.Frag} {A : List Addr} {H0 H : Hp} {L : List Cell} {s : Addr} {ns : List Int} {bu : Int} {Q : VK} {E : XK} (hS : SH A H0 H L) (sc : Scr K H0 s (ns.map V.int))
    (k : ∀ p q sd H', SH A H0 H' ((p, stD q 0 0 0 sd bu) :: (q, .lst (ns.map V.int)) :: L) → Q (.ref p) H') : sp_z_state K ([.ref s, .int bu] ++ []) H Q E :=
  ⟨_, _, rfl, s, ns, bu, rfl, rfl, sc.keep hS.kp, fun p q sd H' C => k p q sd H' (SH.call (B := []) (F := L) hS C)⟩
local macro_rules | `(tactic| walk_at "st") => `(tactic| first
  | ((with_reducible show sp_z_state _ _ _ _ _); apply c_z_state hS; (· assumption); intro pst qst sd H1 hS1; clear hS; rename SH _ _ _ _ => hS))
theorem start2 {H : Hp} {p q : Addr} {o u : HO} (hp : H p = some o) (hq : H q = some u) (ne : q ≠ p) : SH [p, q] H H [(p, o), (q, u)] := Hsh.un (by simp (disch := k_dflt (
  refine Hsh.up ?_
  refine SH.start (L := [(p, o), (q, u)]) (fun d hd => ?_) (by simp [Ne.symm ne])
  rcases List.mem_cons.mp hd with rfl | hd
  · exact hp
  · rw [List.mem_singleton.mp hd]; exact hq
  )) only [↓Hsh.on])
/-- what a call did that changed the first of two cells -/
theorem keep1 {H H' : Hp} {p q : Addr} {u : HO} {L : List Cell} (S : SH [p, q] H H' L) (hq : H q = some u) (e : H' q = some u) : Keep [p] H H' := ⟨fun b o hb z => by
    by_cases y : b = q
    · subst y
      rw [hq] at hb
      cases hb
      exact e
    · refine S.kp.k b o hb (z.imp (fun z w => ?_) id)
      rcases List.mem_cons.mp w with w | w
      · exact z (by rw [w]; exact List.mem_singleton.mpr rfl)
      · exact y (List.mem_singleton.mp w), S.kp.d⟩
def sp_z_draw (K : PySem.W.Frag) : Sp := mk2 fun a b H Q _ => ∃ (p q : Addr) (ns : List Int) (i c n sd bu lim : Int), a = .ref p ∧ b = .int lim ∧ H p = some (stD q i c n sd bu) ∧ H q = some (.lst (ns.map V.int)) ∧ q ≠ p ∧ 0 ≤ i ∧ 0 < lim ∧ lim < 2 ^ 64 ∧
  ∀ (r i' c' n' : Int) H', 0 ≤ r → r < lim → 0 ≤ i' → H' p = some (stD q i' c' n' sd bu) → Keep [p] H H' → Q (.int r) H'
theorem ok_z_draw {P : Program} {w : World} {K : PySem.W.Frag} {mg : Str → Option Value} {base : Heap} (Y : Env w K mg) (G_z_mixed : CallOk P w K mg base CX0 1 "_law_mixed" ["_law_number", "_law_count"] (sp_z_mixed K)) : CallOk P w K mg base CX0 2 "_law_draw" ["_law_state_here", "_law_many"] (sp_z_draw K) := Hsh.un (by simp (disch := k_dflt (
  refine Hsh.up ?_
  obtain ⟨fd, F⟩ := Y.fd_z_draw
  refine ⟨_, fd, Y.mg_z_draw, F.kp, F.bindsN (fun _ _ _ _ _ _ us hl => match us, hl with | [_, _], _ => rfl), F.ok sc_z_draw mk2_len (fun cdv A outer s H vs Q E hr h => ?_)⟩
  have hu := hu_room hr
  obtain ⟨_, _, rfl, p, q, ns, i, c, n, sd, bu, lim, rfl, rfl, hp, hq, ne, hi, hl, hl2, k⟩ := h
  have hS : SH [p, q] H H [(p, stD q i c n sd bu), (q, .lst (ns.map V.int))] := start2 hp hq ne
  refine ⟨_, PSs.nox (pss_cons (ps_set (i := 2) sc_z_draw.nd rfl (Or.inl rfl) (pe_ix xIx (pv 0) pe_int (fun _ _ => rfl)))
  (pss_cons (ps_asg (pe_op xAdd (pe_ix xIx (pv 0) pe_int (fun _ _ => rfl)) pe_int) (pg_sub (pv 0) pe_int set_list))
  (pss_cons (ps_if (PW.pt (pw_and (pt_cmpR (xEq hu) (pe_ix xIx (pv 0) pe_int (fun _ _ => rfl)) pe_int (nomark _)) (pw_and1 (pt_cmpR op_lt (pe_ix xIx (pv 0) pe_int (fun _ _ => rfl)) (pe_callB x_len rfl Y.z_len (by decide +kernel) (pa_cons (pv 2) pa_nil)) (nomark _))))) (pss_cons (ps_asg (pe_op xAdd (pe_ix xIx (pv 0) pe_int (fun _ _ => rfl)) pe_int) (pg_sub (pv 0) pe_int set_list))
  (pss_cons (ps_set (i := 3) sc_z_draw.nd rfl (Or.inl rfl) (pe_callB x_abs rfl Y.z_abs (by decide +kernel) (pa_cons (pe_ix xIx (pv 2) (pe_op op_sub (pe_ix xIx (pv 0) pe_int (fun _ _ => rfl)) pe_int) (fun _ _ => rfl)) pa_nil)))
  (pss_cons (ps_if (pt_cmpR op_lt (pv 3) (pe_op op_pow pe_int pe_int) (nomark _)) (pss_one (ps_ret (pe_op xMod (pe_callTy x_int rfl Y.z_int (by decide +kernel) (pa_cons (pe_callG G_z_mixed hr rfl pass0 (pa_cons (pv 3) (pa_cons (pe_ix xIx (pv 0) pe_int (fun _ _ => rfl)) pa_nil))) pa_nil)) (pv 1)))) pss_nil)
  (pss_one (ps_asg (pv 3) (pg_sub (pv 0) pe_int set_list)))))) pss_nil)
  (pss_cons (ps_if (pt_cmpR (xEq hu) (pe_ix xIx (pv 0) pe_int (fun _ _ => rfl)) pe_int (nomark _)) (pss_one (ps_ret (pe_op xMod (pe_callTy x_int rfl Y.z_int (by decide +kernel) (pa_cons (pe_callG G_z_mixed hr rfl pass0 (pa_cons (pe_ix xIx (pv 0) pe_int (fun _ _ => rfl)) (pa_cons (pe_ix xIx (pv 0) pe_int (fun _ _ => rfl)) pa_nil))) pa_nil)) (pv 1)))) pss_nil)
  (pss_cons (ps_set (i := 4) sc_z_draw.nd rfl (Or.inl rfl) (pe_op xMod (pe_callTy x_int rfl Y.z_int (by decide +kernel) (pa_cons (pe_ix xIx (pv 0) pe_int (fun _ _ => rfl)) pa_nil)) (pv 1)))
  (pss_cons (ps_asg (pe_op xDiv (pe_callTy x_int rfl Y.z_int (by decide +kernel) (pa_cons (pe_ix xIx (pv 0) pe_int (fun _ _ => rfl)) pa_nil)) (pv 1)) (pg_sub (pv 0) pe_int set_list))
  (pss_one (ps_ret (pv 4))))))))), ?_⟩
  rw [st_z_draw]
  try simp only [cxK, cxK2, cxW, cxW2]
  clear hu hr F
  repeat' walk_at "st"
  · exact k _ _ _ _ _ (Int.emod_nonneg _ (by omega)) (Int.emod_lt_of_pos _ hl) (by omega) (hS.get 0 rfl) (keep1 hS hq (hS.get 1 rfl))
  · exact k _ _ _ _ _ (Int.emod_nonneg _ (by omega)) (Int.emod_lt_of_pos _ hl) (by omega) (hS.get 0 rfl) (keep1 hS hq (hS.get 1 rfl))
  · exact k _ _ _ _ _ (Int.emod_nonneg _ (by omega)) (Int.emod_lt_of_pos _ hl) hi (hS.get 0 rfl) (keep1 hS hq (hS.get 1 rfl))
  · exact k _ _ _ _ _ (Int.emod_nonneg _ (by omega)) (Int.emod_lt_of_pos _ hl) hi (hS.get 0 rfl) (keep1 hS hq (hS.get 1 rfl))
  )) only [↓Hsh.on])
theorem c_z_draw {K : PySem.W.Frag} {A : List Addr} {H0 H : Hp} {L : List Cell} {p q : Addr} {ns : List Int} {x c n sd bu lim : Int} {Q : VK} {E : XK} {i j : Nat} (hS : SH A H0 H L) (e : L[i]? = some (p, stD q x c n sd bu)) (e2 : L[j]? = some (q, .lst (ns.map V.int))) (ne : j ≠ i) (h0 : 0 ≤ x) (h2 : 0 < lim) (h3 : lim < 2 ^ 64)
    (k : ∀ (r x' c' n' : Int) H', 0 ≤ r → r < lim → 0 ≤ x' → SH A H0 H' (L.set i (p, stD q x' c' n' sd bu)) → Q (.int r) H') : sp_z_draw K ([.ref p, .int lim] ++ []) H Q E :=
  ⟨_, _, rfl, p, q, ns, x, c, n, sd, bu, lim, rfl, rfl, hS.get i e, hS.get j e2, hS.ne e e2 ne, h0, h2, h3, fun r x' c' n' H' a b d f g => k r x' c' n' H' a b d (hS.call1 i e rfl g f)⟩
local macro_rules | `(tactic| walk_at "st") => `(tactic| first
  | ((with_reducible show sp_z_draw _ _ _ _ _); apply c_z_draw hS; (· walk_at "ix"); (· walk_at "ix"); (· decide); (· walk_at "ar"); (· walk_at "ar"); (· walk_at "ar"); intro r x1 c1 n1 H1 hr0 hr1 hx1 hS1; clear hS; rename SH _ _ _ _ => hS; simp only [List.set_cons_zero, List.set_cons_succ] at hS))

/-! ### the ring -/
structure BW where
  sh : List Int
  rows : List (List Int)
  cur : Int
  bar : Int
  dep : Int
  spi : Int
  fil : Int
structure BW.ok (W : BW) : Prop where
  s8 : W.sh.length = 8
  r16 : ∀ r ∈ W.rows, r.length = 16
  c0 : 0 ≤ W.cur
  c1 : W.cur < W.rows.length
  n3 : 3 ≤ W.rows.length
  n33 : W.rows.length ≤ 33
  b1 : -1 ≤ W.bar
structure BA where
  b : Addr
  dx : Addr
  S : Addr
  R : Addr
  rs : List Addr
def rowC (rs : List Addr) (rows : List (List Int)) : List Cell := List.zipWith (fun a r => (a, .lst (r.map V.int))) rs rows
theorem rowC_len {rs : List Addr} {rows : List (List Int)} (h : rs.length = rows.length) : (rowC rs rows).length = rows.length := by
  unfold rowC
  rw [List.length_zipWith, h, Nat.min_self]
theorem rowC_get {rs : List Addr} {rows : List (List Int)} (h : rs.length = rows.length) {k : Nat} (hk : k < rows.length) : (rowC rs rows)[k]? = some (rs.getD k 0, .lst ((rows.getD k []).map V.int)) := Hsh.un (by simp (disch := k_dflt (
  refine Hsh.up ?_
  unfold rowC
  rw [List.getElem?_zipWith, List.getD_eq_getElem?_getD, List.getD_eq_getElem?_getD, List.getElem?_eq_getElem (by omega), List.getElem?_eq_getElem hk]
  rfl
  )) only [↓Hsh.on])
theorem rowC_set {rs : List Addr} {rows : List (List Int)} (h : rs.length = rows.length) {k : Nat} (hk : k < rows.length) (l : List Int) : (rowC rs rows).set k (rs.getD k 0, .lst (l.map V.int)) = rowC rs (rows.set k l) := Hsh.un (by simp (disch := k_dflt (
  refine Hsh.up ?_
  apply List.ext_getElem?
  intro j
  rw [List.getElem?_set]
  by_cases q : k = j
  · subst q
    rw [if_pos rfl, if_pos (by rw [rowC_len h]; exact hk), rowC_get (by rw [List.length_set]; exact h) (by rw [List.length_set]; exact hk)]
    rw [List.getD_eq_getElem?_getD (l := rows.set k l), List.getElem?_set_self hk]
    rfl
  · rw [if_neg q]
    unfold rowC
    rw [List.getElem?_zipWith, List.getElem?_zipWith, List.getElem?_set_ne q]
  )) only [↓Hsh.on])
/-- the ring: its registers, how many rows hold a window -/
structure RS where
  W : BW
  res : Int
abbrev bCells (K : PySem.W.Frag) (B : BA) (mm : Addr) (X : RS) : List Cell :=
  (B.b, .ins (He.ga K "Ring") B.dx [("memory", .ref mm), ("windows", .int (X.W.rows.length : Nat)), ("_rows", .ref B.R), ("_shared", .ref B.S), ("_current", .int X.W.cur), ("resident", .int X.res), ("depth", .int X.W.dep), ("spills", .int X.W.spi), ("fills", .int X.W.fil)]) ::
  (B.S, .lst (X.W.sh.map V.int)) :: (B.R, .lst (B.rs.map V.ref)) :: rowC B.rs X.W.rows
/-- the row below the current one -/
def BW.prv (W : BW) : Nat := if W.cur = 0 then W.rows.length - 1 else W.cur.toNat - 1
/-- where register n stands: 1 for the shared ones, 3 + k for row k -/
def BW.pos (W : BW) (n : Int) : Nat := if n < 8 then 1 else if n < 16 then 3 + W.prv else 3 + W.cur.toNat
def BW.lst (W : BW) (n : Int) : List Int := if n < 8 then W.sh else if n < 16 then W.rows.getD W.prv [] else W.rows.getD W.cur.toNat []
def ixOf (n : Int) : Int := if n < 16 then n else n - 16
def adr (S : Addr) (rs : List Addr) (W : BW) (n : Int) : Addr := if n < 8 then S else if n < 16 then rs.getD W.prv 0 else rs.getD W.cur.toNat 0
def BW.put (W : BW) (n : Int) (l : List Int) : BW := if n < 8 then { W with sh := l } else if n < 16 then { W with rows := W.rows.set W.prv l } else { W with rows := W.rows.set W.cur.toNat l }
def BW.get (W : BW) (n : Int) : Int := (W.lst n).getD (ixOf n).toNat 0
def BW.set (W : BW) (n : Int) (v : Int) : BW := W.put n ((W.lst n).set (ixOf n).toNat v)
section
variable {K : PySem.W.Frag} {B : BA} {mm : Addr} {W : BW} {r n : Int}
theorem BW.prv_lt (ok : W.ok) : W.prv < W.rows.length := Hsh.un (by simp (disch := k_dflt (
  refine Hsh.up ?_
  have := ok.c0; have := ok.c1; have := ok.n3
  unfold BW.prv
  split <;> omega
  )) only [↓Hsh.on])
theorem cur_lt (ok : W.ok) : W.cur.toNat < W.rows.length := by
  have := ok.c0; have := ok.c1
  omega
theorem lst_len (ok : W.ok) : (ixOf n).toNat < (W.lst n).length ∨ ¬ (0 ≤ n ∧ n < 32) := Hsh.un (by simp (disch := k_dflt (
  refine Hsh.up ?_
  by_cases h : 0 ≤ n ∧ n < 32
  · left
    have mem : ∀ k, k < W.rows.length → (W.rows.getD k []).length = 16 := fun k hk => by
      rw [List.getD_eq_getElem?_getD, List.getElem?_eq_getElem hk]
      exact ok.r16 _ (List.getElem_mem _)
    have h1 := mem _ (BW.prv_lt ok)
    have h2 := mem _ (cur_lt ok)
    have h3 := ok.s8
    unfold ixOf BW.lst
    split <;> split <;> (try split) <;> omega
  · exact .inr h
  )) only [↓Hsh.on])
theorem b_get (ok : W.ok) (hl : B.rs.length = W.rows.length) (n : Int) : (bCells K B mm ⟨W, r⟩)[W.pos n]? = some (adr B.S B.rs W n, .lst ((W.lst n).map V.int)) := Hsh.un (by simp (disch := k_dflt (
  refine Hsh.up ?_
  have h1 := rowC_get hl (BW.prv_lt ok)
  have h2 := rowC_get hl (cur_lt ok)
  unfold BW.pos adr BW.lst
  split
  · rfl
  · split
    · rw [Nat.add_comm]; exact h1
    · rw [Nat.add_comm]; exact h2
  )) only [↓Hsh.on])
theorem b_set (ok : W.ok) (hl : B.rs.length = W.rows.length) (n : Int) (l : List Int) : (bCells K B mm ⟨W, r⟩).set (W.pos n) (adr B.S B.rs W n, .lst (l.map V.int)) = bCells K B mm ⟨W.put n l, r⟩ := Hsh.un (by simp (disch := k_dflt (
  refine Hsh.up ?_
  have h1 := rowC_set hl (BW.prv_lt ok) l
  have h2 := rowC_set hl (cur_lt ok) l
  unfold BW.pos adr BW.put
  split
  · rfl
  · split
    · rw [Nat.add_comm]
      show _ :: _ :: _ :: (rowC B.rs W.rows).set _ _ = _
      rw [h1]
      simp only [bCells, List.length_set]
    · rw [Nat.add_comm]
      show _ :: _ :: _ :: (rowC B.rs W.rows).set _ _ = _
      rw [h2]
      simp only [bCells, List.length_set]
  )) only [↓Hsh.on])
end
def sp_row_of (K : PySem.W.Frag) : Sp := mk4 fun a b c d H Q _ => ∃ (R S : Addr) (rs : List Addr) (cur n : Int), a = .ref R ∧ b = .ref S ∧ c = .int cur ∧ d = .int n ∧ H R = some (.lst (rs.map V.ref)) ∧ 0 ≤ cur ∧ cur < rs.length ∧
  ∀ p H', Keep [] H H' → H p = none → H' p = some (.tup [.ref (if n < 8 then S else if n < 16 then rs.getD ((cur - 1) % rs.length).toNat 0 else rs.getD cur.toNat 0), .int (ixOf n)]) → Q (.ref p) H'
theorem ok_row_of {P : Program} {w : World} {K : PySem.W.Frag} {mg : Str → Option Value} {base : Heap} (Y : Env w K mg)  : CallOk P w K mg base CX0 1 "row_of" ["rows", "shared", "current", "number"] (sp_row_of K) := Hsh.un (by simp (disch := k_dflt (
  refine Hsh.up ?_
  obtain ⟨fd, F⟩ := Y.fd_row_of
  refine ⟨_, fd, Y.mg_row_of, F.kp, F.bindsN (fun _ _ _ _ _ _ us hl => match us, hl with | [_, _, _, _], _ => rfl), F.ok sc_row_of mk4_len (fun cdv A outer s H vs Q E hr h => ?_)⟩
  have hu := hu_room hr
  obtain ⟨_, _, _, _, rfl, R, S, rs, cur, n, rfl, rfl, rfl, rfl, hR, h0, h1, k⟩ := h
  have hS : SH [] H H [] := SH.start0
  have hm0 := Int.emod_nonneg (cur - 1) (show ((rs.map V.ref).length : Int) ≠ 0 by rw [List.length_map]; omega)
  have hm1 := Int.emod_lt_of_pos (cur - 1) (show (0 : Int) < ((rs.map V.ref).length : Nat) by rw [List.length_map]; omega)
  refine ⟨_, PSs.nox (pss_cons (ps_if (pt_cmpR op_lt (pv 3) pe_int (nomark _)) (pss_one (ps_ret (pe_tup (pa_cons (pv 1) (pa_cons (pv 3) pa_nil))))) pss_nil)
  (pss_cons (ps_if (pt_cmpR op_lt (pv 3) pe_int (nomark _)) (pss_one (ps_ret (pe_tup (pa_cons (pe_ix xIx (pv 0) (pe_op xMod (pe_op op_sub (pv 2) pe_int) (pe_callB x_len rfl Y.z_len (by decide +kernel) (pa_cons (pv 0) pa_nil))) (fun _ _ => rfl)) (pa_cons (pv 3) pa_nil))))) pss_nil)
  (pss_one (ps_ret (pe_tup (pa_cons (pe_ix xIx (pv 0) (pv 2) (fun _ _ => rfl)) (pa_cons (pe_op op_sub (pv 3) pe_int) pa_nil))))))), ?_⟩
  rw [st_row_of]
  try simp only [cxK, cxK2, cxW, cxW2]
  clear hu hr F
  repeat' walk_at "st"
  · exact k _ _ hS.kp (hS.fr0 0 rfl) ((hS.get 0 rfl).trans (by rw [if_pos (by assumption)]; unfold ixOf; rw [if_pos (by omega)]))
  · exact k _ _ hS.kp (hS.fr0 0 rfl) ((hS.get 0 rfl).trans (by rw [if_neg (by assumption), if_pos (by assumption)]; unfold ixOf; rw [if_pos (by assumption), List.length_map]))
  · exact k _ _ hS.kp (hS.fr0 0 rfl) ((hS.get 0 rfl).trans (by rw [if_neg (by assumption), if_neg (by assumption)]; unfold ixOf; rw [if_neg (by assumption)]))
  )) only [↓Hsh.on])
theorem prv_mod {W : BW} (ok : W.ok) : ((W.cur - 1) % (W.rows.length : Nat)).toNat = W.prv := Hsh.un (by simp (disch := k_dflt (
  refine Hsh.up ?_
  have h0 := ok.c0; have h1 := ok.c1; have h3 := ok.n3
  unfold BW.prv
  by_cases q : W.cur = 0
  · rw [if_pos q, q]
    have : ((0 : Int) - 1) % (W.rows.length : Nat) = (W.rows.length : Nat) - 1 := by
      rw [Int.emod_eq_add_self_emod, Int.emod_eq_of_lt (by omega) (by omega)]
      omega
    rw [this]
    omega
  · rw [if_neg q, Int.emod_eq_of_lt (by omega) (by omega)]
    omega
  )) only [↓Hsh.on])
theorem c_row_of {K : PySem.W.Frag} {A : List Addr} {H0 H : Hp} {L : List Cell} {R S : Addr} {rs : List Addr} {W : BW} {n : Int} {Q : VK} {E : XK} (hS : SH A H0 H L) (hR : H R = some (.lst (rs.map V.ref))) (ok : W.ok) (hl : rs.length = W.rows.length)
    (k : ∀ p H', SH A H0 H' ((p, .tup [.ref (adr S rs W n), .int (ixOf n)]) :: L) → Keep [] H H' → Q (.ref p) H') : sp_row_of K ([.ref R, .ref S, .int W.cur, .int n] ++ []) H Q E := Hsh.un (by simp (disch := k_dflt (
  refine Hsh.up ?_
  refine ⟨_, _, _, _, rfl, R, S, rs, W.cur, n, rfl, rfl, rfl, rfl, hR, ok.c0, by rw [hl]; exact ok.c1, fun p H' kp nw e => k p H' (hS.call0n kp nw ?_) kp⟩
  rw [e, hl, prv_mod ok]
  rfl
  )) only [↓Hsh.on])
def sp_Ring_read (K : PySem.W.Frag) : Sp := mk2 fun a b H Q _ => ∃ (B : BA) (mm : Addr) (W : BW) (r n : Int), a = .ref B.b ∧ b = .int n ∧ (∀ c ∈ bCells K B mm ⟨W, r⟩, H c.1 = some c.2) ∧ W.ok ∧ B.rs.length = W.rows.length ∧ 0 ≤ n ∧ n < 32 ∧ ∀ H', Keep [] H H' → Q (.int (W.get n)) H'
theorem ok_Ring_read {P : Program} {w : World} {K : PySem.W.Frag} {mg : Str → Option Value} {base : Heap} (Y : Env w K mg) (G_row_of : CallOk P w K mg base CX0 1 "row_of" ["rows", "shared", "current", "number"] (sp_row_of K)) : MethOk P w K mg base CX0 2 "Ring" "read" ["self", "number"] (sp_Ring_read K) := Hsh.un (by simp (disch := k_dflt (
  refine Hsh.up ?_
  obtain ⟨fd, F⟩ := Y.fd_Ring_read
  refine ⟨fd, Y.cl_Ring, Y.me_Ring_read, F.bindsN (fun _ _ _ _ _ _ us hl => match us, hl with | [_, _], _ => rfl), F.ok sc_Ring_read mk2_len (fun cdv A outer s H vs Q E hr h => ?_)⟩
  have hu := hu_room hr
  obtain ⟨_, _, rfl, B, mm, W, r, n, rfl, rfl, hB, ok, hl, h0, h1, k⟩ := h
  have hS : SH [] H H [] := SH.start0
  have hb := hB _ (.head _)
  have hR := hB _ (.tail _ (.tail _ (.head _)))
  have hg := hB _ (List.mem_of_getElem? (b_get (K := K) ok hl n))
  have hi0 : 0 ≤ ixOf n := by unfold ixOf; split <;> omega
  have hi1 : ixOf n < ((W.lst n).map V.int).length := by
    rcases lst_len (n := n) ok with h | h
    · rw [List.length_map]; omega
    · exact absurd ⟨h0, h1⟩ h
  refine ⟨_, PSs.nox (pss_cons (ps_asg (pe_callG G_row_of hr rfl pass0 (pa_cons (pe_fld (pv 0) rfl) (pa_cons (pe_fld (pv 0) rfl) (pa_cons (pe_fld (pv 0) rfl) (pa_cons (pv 1) pa_nil))))) (pg_tup rfl (pgs_cons (pg_name (i := 2) sc_Ring_read.nd rfl (Or.inl rfl)) (pgs_cons (pg_name (i := 3) sc_Ring_read.nd rfl (Or.inl rfl)) pgs_nil))))
  (pss_one (ps_ret (pe_ix xIx (pv 2) (pv 3) (fun _ _ => rfl))))), ?_⟩
  rw [st_Ring_read]
  try simp only [cxK, cxK2, cxW, cxW2]
  clear hu hr F
  repeat' walk_at "st"
  refine c_row_of hS hR ok hl (fun p H1 hS1 _ => ?_)
  clear hS; rename SH _ _ _ _ => hS
  repeat' walk_at "st"
  exact k _ hS.kp
  )) only [↓Hsh.on])
theorem c_Ring_read {K : PySem.W.Frag} {A : List Addr} {H0 H : Hp} {L : List Cell} {B : BA} {mm : Addr} {W : BW} {r n : Int} {Q : VK} {E : XK} (hS : SH A H0 H L) (hB : ∀ c ∈ bCells K B mm ⟨W, r⟩, H c.1 = some c.2) (ok : W.ok) (hl : B.rs.length = W.rows.length) (h0 : 0 ≤ n) (h1 : n < 32)
    (k : ∀ H', SH A H0 H' L → Keep [] H H' → Q (.int (W.get n)) H') : sp_Ring_read K (.ref B.b :: ([.int n] ++ [])) H Q E := ⟨_, _, rfl, B, mm, W, r, n, rfl, rfl, hB, ok, hl, h0, h1, fun H' kp => k H' (hS.call0 kp) kp⟩
def BW.setR (W : BW) (n v : Int) : BW := if 0 < n then W.set n v else W
def sp_Ring_write (K : PySem.W.Frag) : Sp := mk3 fun a b c H Q _ => ∃ (B : BA) (mm : Addr) (W : BW) (r n v : Int), a = .ref B.b ∧ b = .int n ∧ c = .int v ∧ Blk H (bCells K B mm ⟨W, r⟩) ∧ W.ok ∧ B.rs.length = W.rows.length ∧ 0 ≤ n ∧ n < 32 ∧
  ∀ H', SH ((bCells K B mm ⟨W, r⟩).map (·.1)) H H' (bCells K B mm ⟨W.setR n v, r⟩) → Q .non H'
theorem ok_Ring_write {P : Program} {w : World} {K : PySem.W.Frag} {mg : Str → Option Value} {base : Heap} (Y : Env w K mg) (G_row_of : CallOk P w K mg base CX0 1 "row_of" ["rows", "shared", "current", "number"] (sp_row_of K)) : MethOk P w K mg base CX0 2 "Ring" "write" ["self", "number", "word"] (sp_Ring_write K) := Hsh.un (by simp (disch := k_dflt (
  refine Hsh.up ?_
  obtain ⟨fd, F⟩ := Y.fd_Ring_write
  refine ⟨fd, Y.cl_Ring, Y.me_Ring_write, F.bindsN (fun _ _ _ _ _ _ us hl => match us, hl with | [_, _, _], _ => rfl), F.ok sc_Ring_write mk3_len (fun cdv A outer s H vs Q E hr h => ?_)⟩
  have hu := hu_room hr
  obtain ⟨_, _, _, rfl, B, mm, W, r, n, v, rfl, rfl, rfl, hB, ok, hl, h0, h1, k⟩ := h
  have hS := hB.sh
  have hi0 : 0 ≤ ixOf n := by unfold ixOf; split <;> omega
  have hi1 : ixOf n < ((W.lst n).map V.int).length := by
    rcases lst_len (n := n) ok with h | h
    · rw [List.length_map]; omega
    · exact absurd ⟨h0, h1⟩ h
  refine ⟨_, PSs.nox (pss_one (ps_if (pt_cmpR op_gt (pv 1) pe_int (nomark _)) (pss_cons (ps_asg (pe_callG G_row_of hr rfl pass0 (pa_cons (pe_fld (pv 0) rfl) (pa_cons (pe_fld (pv 0) rfl) (pa_cons (pe_fld (pv 0) rfl) (pa_cons (pv 1) pa_nil))))) (pg_tup rfl (pgs_cons (pg_name (i := 3) sc_Ring_write.nd rfl (Or.inl rfl)) (pgs_cons (pg_name (i := 4) sc_Ring_write.nd rfl (Or.inl rfl)) pgs_nil))))
  (pss_one (ps_asg (pv 2) (pg_sub (pv 3) (pv 4) set_list)))) pss_nil)), ?_⟩
  rw [st_Ring_write]
  try simp only [cxK, cxK2, cxW, cxW2]
  clear hu hr F
  unfold BW.setR at k
  repeat' walk_at "st"
  · refine c_row_of hS (hS.get 2 rfl) ok hl (fun p H1 hS1 _ => ?_)
    clear hS; rename SH _ _ _ _ => hS
    repeat' walk_at "st"
    refine h_setL hS (i := W.pos n + 1) (b_get ok hl n) (ixN_in hi0 hi1) (set_ints _ _ _) (L' := (p, .tup [.ref (adr B.S B.rs W n), .int (ixOf n)]) :: bCells K B mm ⟨W.set n v, r⟩) ?_ (fun H2 hS2 => ?_)
    · show _ :: (bCells K B mm ⟨W, r⟩).set _ _ = _
      rw [b_set ok hl]
      rfl
    · clear hS; rename SH _ _ _ _ => hS
      repeat' walk_at "st"
      rw [if_pos (by assumption)] at k
      exact k _ hS.drop1
  · rw [if_neg (by assumption)] at k
    exact k _ hS
  )) only [↓Hsh.on])
/-! ### the clearing -/
def clrR (rows : List (List Int)) (S : Nat → Nat → Bool) : List (List Int) := rows.mapIdx fun k r => r.mapIdx fun j x => if S k j = true then 0 else x
theorem clrR_len (rows : List (List Int)) (S : Nat → Nat → Bool) : (clrR rows S).length = rows.length := List.length_mapIdx ..
theorem clrR_get (rows : List (List Int)) (S : Nat → Nat → Bool) (k : Nat) : (clrR rows S).getD k [] = (rows.getD k []).mapIdx fun j x => if S k j = true then 0 else x := Hsh.un (by simp (disch := k_dflt (
  refine Hsh.up ?_
  unfold clrR
  rw [List.getD_eq_getElem?_getD, List.getD_eq_getElem?_getD, List.getElem?_mapIdx]
  cases rows[k]? with
  | none => rfl
  | some r => rfl
  )) only [↓Hsh.on])
theorem clrR_set (rows : List (List Int)) (S : Nat → Nat → Bool) (k j : Nat) : (clrR rows S).set k (((clrR rows S).getD k []).set j 0) = clrR rows fun a b => S a b || (a == k && b == j) := Hsh.un (by simp (disch := k_dflt (
  refine Hsh.up ?_
  apply List.ext_getElem?
  intro a
  rw [List.getElem?_set, clrR_get]
  unfold clrR
  rw [List.getElem?_mapIdx, List.getElem?_mapIdx, List.length_mapIdx]
  by_cases q : k = a
  · subst q
    rw [if_pos rfl]
    by_cases h : k < rows.length
    · rw [if_pos h, List.getElem?_eq_getElem h, List.getD_eq_getElem?_getD, List.getElem?_eq_getElem h]
      simp only [Option.map_some, Option.getD_some, Option.some.injEq]
      apply List.ext_getElem?
      intro b
      rw [List.getElem?_set, List.getElem?_mapIdx, List.getElem?_mapIdx, List.length_mapIdx]
      by_cases q : j = b
      · subst q
        rw [if_pos rfl]
        by_cases h2 : j < rows[k].length
        · rw [if_pos h2, List.getElem?_eq_getElem h2]
          simp
        · rw [if_neg h2, List.getElem?_eq_none (by omega)]
          rfl
      · rw [if_neg q]
        cases (rows[k])[b]? with
        | none => rfl
        | some x => simp [Ne.symm q]
    · rw [if_neg h, List.getElem?_eq_none (by omega)]
      rfl
  · rw [if_neg q]
    cases rows[a]? with
    | none => rfl
    | some r => simp [Ne.symm q]
  )) only [↓Hsh.on])
theorem clrR_eq {rows : List (List Int)} {S T : Nat → Nat → Bool} (h16 : ∀ r ∈ rows, r.length = 16) (h : ∀ a b, a < rows.length → b < 16 → S a b = T a b) : clrR rows S = clrR rows T := Hsh.un (by simp (disch := k_dflt (
  refine Hsh.up ?_
  apply List.ext_getElem?
  intro a
  unfold clrR
  rw [List.getElem?_mapIdx, List.getElem?_mapIdx]
  by_cases q : a < rows.length
  · rw [List.getElem?_eq_getElem q]
    simp only [Option.map_some, Option.some.injEq]
    apply List.ext_getElem?
    intro b
    rw [List.getElem?_mapIdx, List.getElem?_mapIdx]
    have e := h16 _ (List.getElem_mem q)
    by_cases q2 : b < 16
    · rw [h a b q q2]
    · rw [List.getElem?_eq_none (by omega)]
      rfl
  · rw [List.getElem?_eq_none (by omega)]
    rfl
  )) only [↓Hsh.on])
theorem clrR_none {rows : List (List Int)} {S : Nat → Nat → Bool} (h : ∀ a b, S a b = false) : clrR rows S = rows := Hsh.un (by simp (disch := k_dflt (
  refine Hsh.up ?_
  apply List.ext_getElem?
  intro a
  unfold clrR
  rw [List.getElem?_mapIdx]
  cases rows[a]? with
  | none => rfl
  | some r =>
    simp only [Option.map_some, Option.some.injEq]
    apply List.ext_getElem?
    intro b
    rw [List.getElem?_mapIdx]
    cases r[b]? with
    | none => rfl
    | some x => simp [h]
  )) only [↓Hsh.on])
theorem clrR_16 {rows : List (List Int)} {S : Nat → Nat → Bool} (h16 : ∀ r ∈ rows, r.length = 16) : ∀ r ∈ clrR rows S, r.length = 16 := Hsh.un (by simp (disch := k_dflt (
  refine Hsh.up ?_
  intro r hr
  unfold clrR at hr
  obtain ⟨k, hk, e⟩ := List.mem_mapIdx.mp hr
  rw [← e, List.length_mapIdx]
  exact h16 _ (List.getElem_mem hk)
  )) only [↓Hsh.on])
theorem atI_refsP {rs : List Addr} {W : BW} (ok : W.ok) (hl : rs.length = W.rows.length) : atI (rs.map V.ref) (W.cur - 1) = some (.ref (rs.getD W.prv 0)) := Hsh.un (by simp (disch := k_dflt (
  refine Hsh.up ?_
  have h0 := ok.c0; have h1 := ok.c1; have h3 := ok.n3
  have hp := BW.prv_lt ok
  have e : ixN (rs.map V.ref).length (W.cur - 1) = some W.prv := by
    rw [List.length_map, hl]
    unfold ixN BW.prv
    by_cases q : W.cur = 0
    · rw [if_neg (by omega), if_pos (by omega), if_pos q]
      congr 1
      omega
    · rw [if_pos (by omega), if_pos (by omega), if_neg q]
      congr 1
      omega
  unfold atI
  rw [e]
  show (rs.map V.ref)[W.prv]? = _
  rw [List.getElem?_map, List.getD_eq_getElem?_getD, List.getElem?_eq_getElem (by omega)]
  rfl
  )) only [↓Hsh.on])
theorem cur_ne_prv {W : BW} (ok : W.ok) : W.cur.toNat ≠ W.prv := Hsh.un (by simp (disch := k_dflt (
  refine Hsh.up ?_
  have h0 := ok.c0; have h1 := ok.c1; have h3 := ok.n3
  unfold BW.prv
  split <;> omega
  )) only [↓Hsh.on])
/-- what is clear behind i turns of the program -/
def SP (W : BW) (i : Nat) (a b : Nat) : Bool := (a == W.cur.toNat && decide (b < i)) || (a == W.prv && decide (8 ≤ b ∧ b < 8 + i))
abbrev rCells (R : Addr) (rs : List Addr) (rows : List (List Int)) : List Cell := (R, .lst (rs.map V.ref)) :: rowC rs rows
def sp_clear_new (K : PySem.W.Frag) : Sp := mk2 fun a b H Q _ => ∃ (R : Addr) (rs : List Addr) (W : BW), a = .ref R ∧ b = .int W.cur ∧ Blk H (rCells R rs W.rows) ∧ W.ok ∧ rs.length = W.rows.length ∧
  ∀ H', SH ((rCells R rs W.rows).map (·.1)) H H' (rCells R rs (clrR W.rows (SP W 8))) → Q .non H'
theorem h_clr {A : List Addr} {H0 H : Hp} {R : Addr} {rs : List Addr} {rows : List (List Int)} {S : Nat → Nat → Bool} {k : Nat} {i : Int} {P : Hp → Prop} (hS : SH A H0 H (rCells R rs (clrR rows S))) (hl : rs.length = rows.length) (h16 : ∀ r ∈ rows, r.length = 16) (hk : k < rows.length) (h0 : 0 ≤ i) (h1 : i < 16)
    (h : ∀ H', SH A H0 H' (rCells R rs (clrR rows fun a b => S a b || (a == k && b == i.toNat))) → P H') : rSetL (.ref (rs.getD k 0)) (.int i) (.int 0) H P := Hsh.un (by simp (disch := k_dflt (
  refine Hsh.up ?_
  have hk2 : k < (clrR rows S).length := by rw [clrR_len]; exact hk
  have hl2 : rs.length = (clrR rows S).length := by rw [clrR_len]; exact hl
  have h16' : ((clrR rows S).getD k []).length = 16 := by
    rw [List.getD_eq_getElem?_getD, List.getElem?_eq_getElem hk2]
    exact clrR_16 h16 _ (List.getElem_mem _)
  refine h_setL hS (i := k + 1) (rowC_get hl2 hk2) (ixN_in h0 (by rw [List.length_map, h16']; exact h1)) (set_ints _ _ _) ?_ h
  show _ :: (rowC rs (clrR rows S)).set k _ = _
  rw [rowC_set hl2 hk2, clrR_set]
  )) only [↓Hsh.on])
theorem ok_clear_new {P : Program} {w : World} {K : PySem.W.Frag} {mg : Str → Option Value} {base : Heap} (Y : Env w K mg)  : CallOk P w K mg base CX0 1 "clear_new" ["rows", "current"] (sp_clear_new K) := Hsh.un (by simp (disch := k_dflt (
  refine Hsh.up ?_
  obtain ⟨fd, F⟩ := Y.fd_clear_new
  refine ⟨_, fd, Y.mg_clear_new, F.kp, F.bindsN (fun _ _ _ _ _ _ us hl => match us, hl with | [_, _], _ => rfl), F.ok sc_clear_new mk2_len (fun cdv A outer s H vs Q E hr h => ?_)⟩
  have hu := hu_room hr
  obtain ⟨_, _, rfl, R, rs, W, rfl, rfl, hB, ok, hl, k⟩ := h
  have hS := hB.sh
  have hP := atI_refsP ok hl
  have hc0 := ok.c0
  have hc1 := ok.c1
  refine ⟨_, PSs.nox (pss_one (ps_for PassesOwn.never rfl (pi_range1 rfl Y.z_range (pa_cons pe_int pa_nil)) (pg_name (i := 2) sc_clear_new.nd rfl (Or.inl rfl))
  (pss_cons (ps_asg pe_int (pg_sub (pe_ix xIx (pv 0) (pv 1) (fun _ _ => rfl)) (pv 2) set_list))
  (pss_one (ps_asg pe_int (pg_sub (pe_ix xIx (pv 0) (pe_op op_sub (pv 1) pe_int) (fun _ _ => rfl)) (pe_op xAdd (pv 2) pe_int) set_list)))))), ?_⟩
  rw [st_clear_new]
  try simp only [cxK, cxK2, cxW, cxW2]
  clear hu hr F
  repeat' walk_at "st"
  refine u_forR1 (fun i σ H' => ∃ v, σ = [some (.ref R), some (.int W.cur), v] ∧ SH ((rCells R rs W.rows).map (·.1)) H H' (rCells R rs (clrR W.rows (SP W i)))) (by decide) (by decide) ⟨_, rfl, ?_⟩ ?_ ?_
  · have e : clrR W.rows (SP W 0) = W.rows := clrR_none fun a b => by unfold SP; simp
    rw [e]; exact hS
  · rintro i σ H2 hi ⟨v, rfl, hS⟩
    repeat' walk_at "st"
    refine h_clr hS hl ok.r16 (cur_lt ok) (by omega) (by omega) fun H3 hS3 => ?_
    clear hS; rename SH _ _ _ _ => hS
    repeat' walk_at "st"
    refine s_ixL (SqL.of (hS.get 0 rfl)) hP ?_
    repeat' walk_at "st"
    refine h_clr hS hl ok.r16 (BW.prv_lt ok) (by omega) (by omega) fun H4 hS4 => ⟨_, rfl, ?_⟩
    have e : ∀ a b, (SP W i a b || a == W.cur.toNat && b == (i : Int).toNat || a == W.prv && b == ((i : Int) + 8).toNat) = SP W (i + 1) a b := fun a b => by
      rw [Bool.eq_iff_iff]
      unfold SP
      simp only [Bool.or_eq_true, Bool.and_eq_true, beq_iff_eq, decide_eq_true_eq]
      omega
    rw [clrR_eq ok.r16 (fun a b _ _ => e a b)] at hS4
    exact hS4
  · rintro σ H2 ⟨v, rfl, hS⟩
    repeat' walk_at "st"
    exact k _ hS
  )) only [↓Hsh.on])
/-! ### the ring's moves -/
def lies (mem : List Int) (s : Int) : Prop := 0 ≤ s ∧ s + 16 ≤ mem.length
abbrev mO (mem : List Int) : HO := .lst (mem.map V.int)
def sp_area (K : PySem.W.Frag) : Sp := mk2 fun a b H Q E => ∃ (mm : Addr) (mem : List Int) (s : Int), a = .ref mm ∧ b = .int s ∧ H mm = some (mO mem) ∧ (lies mem s → Q (.int (s + 16)) H) ∧ (¬ lies mem s → E (.ref (He.ga K "Fault")) none H)
theorem ok_area {P : Program} {w : World} {K : PySem.W.Frag} {mg : Str → Option Value} {base : Heap} (Y : Env w K mg)  : CallOk P w K mg base (L2N.CX P w) 1 "area" ["memory", "start"] (sp_area K) := Hsh.un (by simp (disch := k_dflt (
  refine Hsh.up ?_
  obtain ⟨fd, F⟩ := Y.fd_area
  refine ⟨_, fd, Y.mg_area, F.kp, F.bindsN (fun _ _ _ _ _ _ us hl => match us, hl with | [_, _], _ => rfl), F.ok sc_area mk2_len (fun cdv A outer s H vs Q E hr h => ?_)⟩
  have hu := hu_room hr
  obtain ⟨_, _, rfl, mm, mem, s, rfl, rfl, hm, k1, k2⟩ := h
  have hS : SH [] H H [] := SH.start0
  unfold lies at k1 k2
  have e : ((mem.map V.int).length : Int) = mem.length := by rw [List.length_map]
  refine ⟨_, (pss_cons (ps_if (PW.pt (pw_or (pt_cmpR op_lt (pv 1) pe_int (nomark _)) (pw_or1 (pt_cmpR op_gt (pe_op xAdd (pv 1) pe_int) (pe_callB x_len rfl Y.z_len (by decide +kernel) (pa_cons (pv 0) pa_nil)) (nomark _))))) (pss_one (ps_raiseN rfl (L2N.takes_of rfl rfl rfl rfl) Y.ef_Fault Y.mg_Fault rfl)) pss_nil)
  (pss_one (ps_ret (pe_op xAdd (pv 1) pe_int)))), ?_⟩
  rw [st_area]
  try simp only [cxK, cxK2, cxW, cxW2]
  clear hu hr F
  repeat' walk_at "st"
  all_goals first
    | exact k1 (by omega)
    | exact k2 (by omega)
  )) only [↓Hsh.on])
theorem c_area {K : PySem.W.Frag} {H : Hp} {mm : Addr} {mem : List Int} {s : Int} {Q : VK} {E : XK} (hm : H mm = some (mO mem)) (k1 : lies mem s → Q (.int (s + 16)) H) (k2 : ¬ lies mem s → E (.ref (He.ga K "Fault")) none H) : sp_area K ([.ref mm, .int s] ++ []) H Q E :=
  ⟨_, _, rfl, mm, mem, s, rfl, rfl, hm, k1, k2⟩
def sp_Ring_blocked_down (K : PySem.W.Frag) : Sp := mk1 fun a H Q _ => ∃ (b : Addr), a = .ref b ∧ Q (.bl false) H
theorem ok_Ring_blocked_down {P : Program} {w : World} {K : PySem.W.Frag} {mg : Str → Option Value} {base : Heap} (Y : Env w K mg)  : MethOk P w K mg base CX0 1 "Ring" "blocked_down" ["self"] (sp_Ring_blocked_down K) := Hsh.un (by simp (disch := k_dflt (
  refine Hsh.up ?_
  obtain ⟨fd, F⟩ := Y.fd_Ring_blocked_down
  refine ⟨fd, Y.cl_Ring, Y.me_Ring_blocked_down, F.bindsN (fun _ _ _ _ _ _ us hl => match us, hl with | [_], _ => rfl), F.ok sc_Ring_blocked_down mk1_len (fun cdv A outer s H vs Q E hr h => ?_)⟩
  have hu := hu_room hr
  obtain ⟨_, rfl, b, rfl, k⟩ := h
  have hS : SH [] H H [] := SH.start0
  refine ⟨_, PSs.nox (pss_one (ps_ret pe_bl)), ?_⟩
  rw [st_Ring_blocked_down]
  try simp only [cxK, cxK2, cxW, cxW2]
  clear hu hr F
  repeat' walk_at "st"
  exact k
  )) only [↓Hsh.on])
def sp_Ring_blocked_up (K : PySem.W.Frag) : Sp := mk1 fun a H Q _ => ∃ (b : Addr), a = .ref b ∧ Q (.bl false) H
theorem ok_Ring_blocked_up {P : Program} {w : World} {K : PySem.W.Frag} {mg : Str → Option Value} {base : Heap} (Y : Env w K mg)  : MethOk P w K mg base CX0 1 "Ring" "blocked_up" ["self"] (sp_Ring_blocked_up K) := Hsh.un (by simp (disch := k_dflt (
  refine Hsh.up ?_
  obtain ⟨fd, F⟩ := Y.fd_Ring_blocked_up
  refine ⟨fd, Y.cl_Ring, Y.me_Ring_blocked_up, F.bindsN (fun _ _ _ _ _ _ us hl => match us, hl with | [_], _ => rfl), F.ok sc_Ring_blocked_up mk1_len (fun cdv A outer s H vs Q E hr h => ?_)⟩
  have hu := hu_room hr
  obtain ⟨_, rfl, b, rfl, k⟩ := h
  have hS : SH [] H H [] := SH.start0
  refine ⟨_, PSs.nox (pss_one (ps_ret pe_bl)), ?_⟩
  rw [st_Ring_blocked_up]
  try simp only [cxK, cxK2, cxW, cxW2]
  clear hu hr F
  repeat' walk_at "st"
  exact k
  )) only [↓Hsh.on])
def BW.to (W : BW) (c : Int) : BW := { W with cur := c % (W.rows.length : Nat) }
theorem to_ok {W : BW} (ok : W.ok) (c : Int) : (W.to c).ok := Hsh.un (by simp (disch := k_dflt (
  refine Hsh.up ?_
  have h3 := ok.n3
  have e0 := Int.emod_nonneg c (show ((W.rows.length : Nat) : Int) ≠ 0 by omega)
  have e1 := Int.emod_lt_of_pos c (show (0 : Int) < (W.rows.length : Nat) by omega)
  exact ⟨ok.s8, ok.r16, e0, e1, ok.n3, ok.n33, ok.b1⟩
  )) only [↓Hsh.on])
def RS.o (X : RS) : BW := X.W.to (X.W.cur + X.res - 1)
def RS.row (X : RS) : List Int := X.W.rows.getD X.o.cur.toNat []
def RS.start (X : RS) : Int := (X.W.rows.getD X.o.prv []).getD 14 0
def BW.spiP (X : BW) : BW := ⟨X.sh, X.rows, X.cur, X.bar, X.dep, X.spi + 1, X.fil⟩
def RS.sp (X : RS) : RS := ⟨X.W.spiP, X.res - 1⟩
def mput (mem : List Int) (s : Int) (r : List Int) : List Int := mem.take s.toNat ++ r ++ mem.drop (s + 16).toNat
theorem rowI {rs : List Addr} {rows : List (List Int)} (hl : rs.length = rows.length) {k : Nat} (hk : k < rows.length) : (rs.getD k 0, HO.lst ((rows.getD k []).map V.int)) ∈ rowC rs rows := List.mem_of_getElem? (rowC_get hl hk)
def sp_Ring_spill (K : PySem.W.Frag) : Sp := mk1 fun a H Q E => ∃ (B : BA) (mm : Addr) (X : RS) (mem : List Int), a = .ref B.b ∧ Blk H ((mm, mO mem) :: bCells K B mm X) ∧ X.W.ok ∧ B.rs.length = X.W.rows.length ∧ mem.length ≤ 1000 ∧
  (lies mem X.start → ∀ H', SH (((mm, mO mem) :: bCells K B mm X).map (·.1)) H H' ((mm, mO (mput mem X.start X.row)) :: bCells K B mm X.sp) → Q .non H') ∧ (¬ lies mem X.start → E (.ref (He.ga K "Fault")) none H)
section
 local macro_rules | `(tactic| walk_at "at") => `(tactic| exact hP)
 local macro_rules | `(tactic| walk_at "st") => `(tactic| first | (with_reducible refine s_gSl ?_))
theorem ok_Ring_spill {P : Program} {w : World} {K : PySem.W.Frag} {mg : Str → Option Value} {base : Heap} (Y : Env w K mg) (G_area : CallOk P w K mg base (L2N.CX P w) 1 "area" ["memory", "start"] (sp_area K)) : MethOk P w K mg base (L2N.CX P w) 2 "Ring" "_spill" ["self"] (sp_Ring_spill K) := Hsh.un (by simp (disch := k_dflt (
  refine Hsh.up ?_
  obtain ⟨fd, F⟩ := Y.fd_Ring_spill
  refine ⟨fd, Y.cl_Ring, Y.me_Ring_spill, F.bindsN (fun _ _ _ _ _ _ us hl => match us, hl with | [_], _ => rfl), F.ok sc_Ring_spill mk1_len (fun cdv A outer s H vs Q E hr h => ?_)⟩
  have hu := hu_room hr
  obtain ⟨_, rfl, B, mm, X, mem, rfl, hB, ok, hl, h1000, k1, k2⟩ := h
  have hS := hB.sh
  have ok2 : X.o.ok := to_ok ok _
  have h3 := ok.n3
  have h33 := ok.n33
  have hl2 : B.rs.length = X.o.rows.length := hl
  have hP := atI_refsP ok2 hl2
  have hm0 : 0 ≤ (X.W.cur + X.res - 1) % ((X.W.rows.length : Nat) : Int) := ok2.c0
  have hm1 : (X.W.cur + X.res - 1) % ((X.W.rows.length : Nat) : Int) < (X.W.rows.length : Nat) := ok2.c1
  have hr1 : H (B.rs.getD X.o.prv 0) = some (.lst ((X.W.rows.getD X.o.prv []).map V.int)) := hS.hs _ (.tail _ (.tail _ (.tail _ (.tail _ (rowI hl (show X.o.prv < X.W.rows.length from BW.prv_lt ok2))))))
  have hr2 : H (B.rs.getD X.o.cur.toNat 0) = some (.lst (X.row.map V.int)) := hS.hs _ (.tail _ (.tail _ (.tail _ (.tail _ (rowI hl (show X.o.cur.toNat < X.W.rows.length from cur_lt (W := X.o) ok2))))))
  have l1 : (X.W.rows.getD X.o.prv []).length = 16 := by
    have := BW.prv_lt ok2
    rw [List.getD_eq_getElem?_getD, List.getElem?_eq_getElem (show X.o.prv < X.W.rows.length from this)]
    exact ok.r16 _ (List.getElem_mem _)
  have l2 : X.row.length = 16 := by
    have := cur_lt (W := X.o) ok2
    unfold RS.row
    rw [List.getD_eq_getElem?_getD, List.getElem?_eq_getElem (show X.o.cur.toNat < X.W.rows.length from this)]
    exact ok.r16 _ (List.getElem_mem _)
  refine ⟨_, (pss_cons (ps_set (i := 1) sc_Ring_spill.nd rfl (Or.inl rfl) (pe_op xMod (pe_op op_sub (pe_op xAdd (pe_fld (pv 0) rfl) (pe_fld (pv 0) rfl)) pe_int) (pe_fld (pv 0) rfl)))
  (pss_cons (ps_set (i := 2) sc_Ring_spill.nd rfl (Or.inl rfl) (pe_ix xIx (pe_ix xIx (pe_fld (pv 0) rfl) (pe_op op_sub (pv 1) pe_int) (fun _ _ => rfl)) (pe_ci rfl Y.c_STACK_IN_ROW) (fun _ _ => rfl)))
  (pss_cons (ps_set (i := 3) sc_Ring_spill.nd rfl (Or.inl rfl) (pe_callG G_area hr rfl (L2N.passes_call (L2N.takes_of rfl rfl rfl rfl) (fun _ _ _ _ h => h)) (pa_cons (pe_fld (pv 0) rfl) (pa_cons (pv 2) pa_nil))))
  (pss_cons (ps_asg (pe_ix xIx (pe_fld (pv 0) rfl) (pv 1) (fun _ _ => rfl)) (pg_slice (pe_fld (pv 0) rfl) (po_some (pv 2)) (po_some (pv 3))))
  (pss_cons (ps_fld (pv 0) (pe_op op_sub (pe_fld (pv 0) rfl) pe_int) rfl)
  (pss_one (ps_fld (pv 0) (pe_op xAdd (pe_fld (pv 0) rfl) pe_int) rfl))))))), ?_⟩
  rw [st_Ring_spill]
  try simp only [cxK, cxK2, cxW, cxW2]
  clear hu hr F
  repeat' walk_at "st"
  refine c_area (hS.get 0 rfl) (fun hL => ?_) (fun hL => k2 hL)
  have hL0 := hL.1
  have hL1 := hL.2
  change 0 ≤ X.start at hL0
  change X.start + 16 ≤ mem.length at hL1
  repeat' walk_at "st"
  refine h_slE hS (i := 0) rfl hr2 (hS.ne (i := X.o.cur.toNat + 4) (j := 0) (rowC_get hl (show X.o.cur.toNat < X.W.rows.length from cur_lt (W := X.o) ok2)) rfl (by omega)) hL0 (by show X.start ≤ X.start + 16; omega) (by rw [List.length_map]; exact hL1) (by rw [List.length_map, List.length_map, l2, sizeLine_eq]; omega) (zs := (mput mem X.start X.row).map V.int) ?_ rfl (fun H1 hS1 => ?_)
  · show (mem.map V.int).take X.start.toNat ++ X.row.map V.int ++ (mem.map V.int).drop (X.start + 16).toNat = _
    unfold mput
    rw [List.map_append, List.map_append, List.map_take, List.map_drop]
  · walk_at "nw"
    repeat' walk_at "st"
    exact k1 hL _ hS
  )) only [↓Hsh.on])
end
theorem c_Ring_spill {K : PySem.W.Frag} {A : List Addr} {H0 H : Hp} {F : List Cell} {B : BA} {mm : Addr} {X : RS} {mem : List Int} {Q : VK} {E : XK} (hS : SH A H0 H (F ++ ((mm, mO mem) :: bCells K B mm X))) (ok : X.W.ok) (hl : B.rs.length = X.W.rows.length) (hm : mem.length ≤ 1000)
    (k1 : lies mem X.start → ∀ H', SH A H0 H' (F ++ ((mm, mO (mput mem X.start X.row)) :: bCells K B mm X.sp)) → Q .non H') (k2 : ¬ lies mem X.start → E (.ref (He.ga K "Fault")) none H) : sp_Ring_spill K (.ref B.b :: ([] ++ [])) H Q E :=
  ⟨_, rfl, B, mm, X, mem, rfl, SH.blkR F _ hS, ok, hl, hm, fun hL H' C => k1 hL H' (hS.callR C), k2⟩
def RS.startU (X : RS) : Int := (X.W.rows.getD X.W.cur.toNat []).getD 14 0
def mcut (mem : List Int) (s : Int) : List Int := (mem.drop s.toNat).take 16
def BW.fl (W : BW) (words : List Int) : BW := ⟨W.sh, W.rows.set (W.to (W.cur + 1)).cur.toNat words, W.cur, W.bar, W.dep, W.spi, W.fil + 1⟩
def RS.fl (X : RS) (mem : List Int) : RS := ⟨X.W.fl (mcut mem X.startU), X.res + 1⟩
theorem cut_16 {mem : List Int} {s : Int} (h : lies mem s) : cutV (mem.map V.int) (some s) (some (s + 16)) = (mcut mem s).map V.int := Hsh.un (by simp (disch := k_dflt (
  refine Hsh.up ?_
  obtain ⟨h0, h1⟩ := h
  obtain ⟨k, rfl⟩ : ∃ k : Nat, s = (k : Int) := ⟨s.toNat, by omega⟩
  unfold cutV mcut
  rw [show ((k : Int) + 16) = ((k + 16 : Nat) : Int) by omega, HT.sIx_nat, HT.sIx_nat, List.length_map, Nat.min_eq_left (by omega), Nat.min_eq_left (by omega), Int.toNat_natCast, ← List.map_drop, ← List.map_take]
  congr 2
  omega
  )) only [↓Hsh.on])
theorem mcut_len {mem : List Int} {s : Int} (h : lies mem s) : (mcut mem s).length = 16 := Hsh.un (by simp (disch := k_dflt (
  refine Hsh.up ?_
  obtain ⟨h0, h1⟩ := h
  unfold mcut
  rw [List.length_take, List.length_drop]
  omega
  )) only [↓Hsh.on])
theorem row_swap {A : List Addr} {H0 H : Hp} {F : List Cell} {p : Addr} {w : List Int} {rs : List Addr} {rows : List (List Int)} {k : Nat} (hS : SH A H0 H ((p, .lst (w.map V.int)) :: (F ++ rowC rs rows))) (hl : rs.length = rows.length) (hk : k < rows.length) :
    SH A H0 H (F ++ rowC (rs.set k p) (rows.set k w)) := Hsh.un (by simp (disch := k_dflt (
  refine Hsh.up ?_
  have e : rowC (rs.set k p) (rows.set k w) = (rowC rs rows).set k (p, .lst (w.map V.int)) := by
    unfold rowC
    apply List.ext_getElem?
    intro j
    rw [List.getElem?_zipWith, List.getElem?_set, List.getElem?_set, List.getElem?_set, List.getElem?_zipWith, List.length_zipWith, hl, Nat.min_self]
    by_cases q : k = j
    · rw [if_pos q, if_pos q, if_pos q, if_pos hk, if_pos hk, if_pos hk]
    · rw [if_neg q, if_neg q, if_neg q]
  rw [e, List.set_eq_take_append_cons_drop, if_pos (by rw [rowC_len hl]; exact hk)]
  have h1 := hS.sub (L' := (p, .lst (w.map V.int)) :: (F ++ (rowC rs rows).eraseIdx k)) (List.Sublist.cons_cons _ ((List.Sublist.refl _).append (List.eraseIdx_sublist _ _)))
  rw [List.eraseIdx_eq_take_drop_succ] at h1
  refine h1.perm ?_
  rw [← List.append_assoc, ← List.append_assoc]
  exact List.perm_middle.symm
  )) only [↓Hsh.on])
def sp_Ring_fill (K : PySem.W.Frag) : Sp := mk1 fun a H Q E => ∃ (B : BA) (mm : Addr) (X : RS) (mem : List Int), a = .ref B.b ∧ Blk H ((mm, mO mem) :: bCells K B mm X) ∧ X.W.ok ∧ B.rs.length = X.W.rows.length ∧ mem.length ≤ 1000 ∧
  (lies mem X.startU → ∀ rs' H', rs'.length = X.W.rows.length → SH (((mm, mO mem) :: bCells K B mm X).map (·.1)) H H' ((mm, mO mem) :: bCells K ⟨B.b, B.dx, B.S, B.R, rs'⟩ mm (X.fl mem)) → Q .non H') ∧ (¬ lies mem X.startU → E (.ref (He.ga K "Fault")) none H)
section
 local macro_rules | `(tactic| walk_at "hp") => `(tactic| exact hr1)
 local macro_rules | `(tactic| walk_at "pf") => `(tactic| (apply pf_set 8; (· exact rfl); (· walk_at "ls")))
theorem ok_Ring_fill {P : Program} {w : World} {K : PySem.W.Frag} {mg : Str → Option Value} {base : Heap} (Y : Env w K mg) (G_area : CallOk P w K mg base (L2N.CX P w) 1 "area" ["memory", "start"] (sp_area K)) : MethOk P w K mg base (L2N.CX P w) 2 "Ring" "_fill" ["self"] (sp_Ring_fill K) := Hsh.un (by simp (disch := k_dflt (
  refine Hsh.up ?_
  obtain ⟨fd, F⟩ := Y.fd_Ring_fill
  refine ⟨fd, Y.cl_Ring, Y.me_Ring_fill, F.bindsN (fun _ _ _ _ _ _ us hl => match us, hl with | [_], _ => rfl), F.ok sc_Ring_fill mk1_len (fun cdv A outer s H vs Q E hr h => ?_)⟩
  have hu := hu_room hr
  obtain ⟨_, rfl, B, mm, X, mem, rfl, hB, ok, hl, h1000, k1, k2⟩ := h
  have hS := hB.sh
  have ok2 : (X.W.to (X.W.cur + 1)).ok := to_ok ok _
  have h3 := ok.n3
  have h33 := ok.n33
  have hc0 := ok.c0
  have hc1 := ok.c1
  have hm0 : 0 ≤ (X.W.cur + 1) % ((X.W.rows.length : Nat) : Int) := ok2.c0
  have hm1 : (X.W.cur + 1) % ((X.W.rows.length : Nat) : Int) < (X.W.rows.length : Nat) := ok2.c1
  have hr1 : H (B.rs.getD X.W.cur.toNat 0) = some (.lst ((X.W.rows.getD X.W.cur.toNat []).map V.int)) := hS.hs _ (.tail _ (.tail _ (.tail _ (.tail _ (rowI hl (cur_lt ok))))))
  have l1 : (X.W.rows.getD X.W.cur.toNat []).length = 16 := by
    rw [List.getD_eq_getElem?_getD, List.getElem?_eq_getElem (cur_lt ok)]
    exact ok.r16 _ (List.getElem_mem _)
  refine ⟨_, (pss_cons (ps_set (i := 1) sc_Ring_fill.nd rfl (Or.inl rfl) (pe_op xMod (pe_op xAdd (pe_fld (pv 0) rfl) pe_int) (pe_fld (pv 0) rfl)))
  (pss_cons (ps_set (i := 2) sc_Ring_fill.nd rfl (Or.inl rfl) (pe_ix xIx (pe_ix xIx (pe_fld (pv 0) rfl) (pe_fld (pv 0) rfl) (fun _ _ => rfl)) (pe_ci rfl Y.c_STACK_IN_ROW) (fun _ _ => rfl)))
  (pss_cons (ps_set (i := 3) sc_Ring_fill.nd rfl (Or.inl rfl) (pe_callG G_area hr rfl (L2N.passes_call (L2N.takes_of rfl rfl rfl rfl) (fun _ _ _ _ h => h)) (pa_cons (pe_fld (pv 0) rfl) (pa_cons (pv 2) pa_nil))))
  (pss_cons (ps_asg (pe_slice xSl (pe_fld (pv 0) rfl) (po_some (pv 2)) (po_some (pv 3))) (pg_sub (pe_fld (pv 0) rfl) (pv 1) set_list))
  (pss_cons (ps_fld (pv 0) (pe_op xAdd (pe_fld (pv 0) rfl) pe_int) rfl)
  (pss_one (ps_fld (pv 0) (pe_op xAdd (pe_fld (pv 0) rfl) pe_int) rfl))))))), ?_⟩
  rw [st_Ring_fill]
  try simp only [cxK, cxK2, cxW, cxW2]
  clear hu hr F
  repeat' walk_at "st"
  refine c_area (hS.get 0 rfl) (fun hL => ?_) (fun hL => k2 hL)
  have l3 := mcut_len hL
  repeat' walk_at "st"
  rw [show cutV (mem.map V.int) (some ((X.W.rows.getD X.W.cur.toNat []).getD (Int.toNat 14) 0)) (some ((X.W.rows.getD X.W.cur.toNat []).getD (Int.toNat 14) 0 + 16)) = (mcut mem X.startU).map V.int from cut_16 hL] at hS
  have hS := row_swap (F := [_, _, _, _]) hS hl (show (X.W.to (X.W.cur + 1)).cur.toNat < X.W.rows.length from cur_lt (W := X.W.to (X.W.cur + 1)) ok2)
  refine k1 hL (B.rs.set (X.W.to (X.W.cur + 1)).cur.toNat p) _ (by rw [List.length_set]; exact hl) ?_
  simp only [bCells, RS.fl, BW.fl, List.length_set]
  rw [List.map_set]
  exact hS
  )) only [↓Hsh.on])
end
theorem c_Ring_fill {K : PySem.W.Frag} {A : List Addr} {H0 H : Hp} {F : List Cell} {B : BA} {mm : Addr} {X : RS} {mem : List Int} {Q : VK} {E : XK} (hS : SH A H0 H (F ++ ((mm, mO mem) :: bCells K B mm X))) (ok : X.W.ok) (hl : B.rs.length = X.W.rows.length) (hm : mem.length ≤ 1000)
    (k1 : lies mem X.startU → ∀ rs' H', rs'.length = X.W.rows.length → SH A H0 H' (F ++ ((mm, mO mem) :: bCells K ⟨B.b, B.dx, B.S, B.R, rs'⟩ mm (X.fl mem))) → Q .non H') (k2 : ¬ lies mem X.startU → E (.ref (He.ga K "Fault")) none H) : sp_Ring_fill K (.ref B.b :: ([] ++ [])) H Q E :=
  ⟨_, rfl, B, mm, X, mem, rfl, SH.blkR F _ hS, ok, hl, hm, fun hL rs' H' l C => k1 hL rs' H' l (hS.callR C), k2⟩
def BW.down (W : BW) : BW := { W with cur := (W.cur - 1) % (W.rows.length : Nat), dep := W.dep + 1 }
def BW.up (W : BW) : BW := { W with cur := (W.cur + 1) % (W.rows.length : Nat), dep := W.dep - 1 }
def BW.clr (W : BW) : BW := { W with rows := clrR W.rows (SP W 8) }
def RS.dn (X : RS) : RS := ⟨X.W.down.clr, X.res + 1⟩
def RS.up (X : RS) : RS := ⟨X.W.up, X.res - 1⟩
theorem spiP_ok {W : BW} (ok : W.ok) : W.spiP.ok := ⟨ok.s8, ok.r16, ok.c0, ok.c1, ok.n3, ok.n33, ok.b1⟩
theorem fl_ok {W : BW} (ok : W.ok) {w : List Int} (h : w.length = 16) : (W.fl w).ok := ⟨ok.s8, fun r hr => by
    rcases List.mem_or_eq_of_mem_set hr with h2 | rfl
    · exact ok.r16 _ h2
    · exact h, ok.c0, by show W.cur < ((W.rows.set _ _).length : Nat); rw [List.length_set]; exact ok.c1, by show 3 ≤ (W.rows.set _ _).length; rw [List.length_set]; exact ok.n3, by show (W.rows.set _ _).length ≤ 33; rw [List.length_set]; exact ok.n33, ok.b1⟩
theorem fl_len (W : BW) (w : List Int) : (W.fl w).rows.length = W.rows.length := List.length_set ..
abbrev LR (K : PySem.W.Frag) (B : BA) (mm : Addr) (mem : List Int) (X : RS) : List Cell := (mm, mO mem) :: bCells K B mm X
def sp_Ring_shift_down (K : PySem.W.Frag) : Sp := mk1 fun a H Q E => ∃ (B : BA) (mm : Addr) (X : RS) (mem : List Int), a = .ref B.b ∧ Blk H (LR K B mm mem X) ∧ X.W.ok ∧ B.rs.length = X.W.rows.length ∧ mem.length ≤ 1000 ∧
  (X.res ≠ (X.W.rows.length : Nat) - 1 → ∀ H', SH ((LR K B mm mem X).map (·.1)) H H' (LR K B mm mem X.dn) → Q .non H') ∧
  (X.res = (X.W.rows.length : Nat) - 1 → lies mem X.start → ∀ H', SH ((LR K B mm mem X).map (·.1)) H H' (LR K B mm (mput mem X.start X.row) X.sp.dn) → Q .non H') ∧
  (X.res = (X.W.rows.length : Nat) - 1 → ¬ lies mem X.start → E (.ref (He.ga K "Fault")) none H)
theorem ok_Ring_shift_down {P : Program} {w : World} {K : PySem.W.Frag} {mg : Str → Option Value} {base : Heap} (Y : Env w K mg) (G_Ring_spill : MethOk P w K mg base (L2N.CX P w) 2 "Ring" "_spill" ["self"] (sp_Ring_spill K)) (G_clear_new : CallOk P w K mg base CX0 1 "clear_new" ["rows", "current"] (sp_clear_new K)) : MethOk P w K mg base (L2N.CX P w) 3 "Ring" "shift_down" ["self"] (sp_Ring_shift_down K) := Hsh.un (by simp (disch := k_dflt (
  refine Hsh.up ?_
  obtain ⟨fd, F⟩ := Y.fd_Ring_shift_down
  refine ⟨fd, Y.cl_Ring, Y.me_Ring_shift_down, F.bindsN (fun _ _ _ _ _ _ us hl => match us, hl with | [_], _ => rfl), F.ok sc_Ring_shift_down mk1_len (fun cdv A outer s H vs Q E hr h => ?_)⟩
  have hu := hu_room hr
  obtain ⟨_, rfl, B, mm, X, mem, rfl, hB, ok, hl, h1000, k0, k1, k2⟩ := h
  have hS : SH ((LR K B mm mem X).map (·.1)) H H (LR K B mm mem X) := hB.sh
  have h3 := ok.n3
  refine ⟨_, (pss_cons (ps_if (pt_cmpR (xEq hu) (pe_fld (pv 0) rfl) (pe_op op_sub (pe_fld (pv 0) rfl) pe_int) (nomark _)) (pss_one (ps_expr (pe_methG0 (pv 0) G_Ring_spill hr (L2N.passes_call (L2N.takes_of rfl rfl rfl rfl) (fun _ _ _ _ h => h))))) pss_nil)
  (pss_cons (ps_fld (pv 0) (pe_op xMod (pe_op op_sub (pe_fld (pv 0) rfl) pe_int) (pe_fld (pv 0) rfl)) rfl)
  (pss_cons (ps_fld (pv 0) (pe_op xAdd (pe_fld (pv 0) rfl) pe_int) rfl)
  (pss_cons (ps_expr (pe_callG G_clear_new (hr.mono (by decide)) rfl pass0 (pa_cons (pe_fld (pv 0) rfl) (pa_cons (pe_fld (pv 0) rfl) pa_nil))))
  (pss_one (ps_fld (pv 0) (pe_op xAdd (pe_fld (pv 0) rfl) pe_int) rfl)))))), ?_⟩
  rw [st_Ring_shift_down]
  try simp only [cxK, cxK2, cxW, cxW2]
  clear hu hr F
  repeat' walk_at "st"
  · refine c_Ring_spill (F := []) hS ok hl h1000 (fun hL H1 hS => ?_) (fun hL => k2 hc hL)
    have hS : SH ((LR K B mm mem X).map (·.1)) H H1 (LR K B mm (mput mem X.start X.row) X.sp) := hS
    have ok1 := spiP_ok ok
    have hok1 : (X.sp.W.to (X.sp.W.cur - 1)).ok := to_ok ok1 _
    have hln1 : B.rs.length = (X.sp.W.to (X.sp.W.cur - 1)).rows.length := hl
    have h3' : 3 ≤ X.sp.W.rows.length := h3
    repeat' walk_at "st"
    refine ⟨_, _, rfl, B.R, B.rs, X.sp.W.to (X.sp.W.cur - 1), rfl, rfl, SH.blkR [_, _, _] _ hS, hok1, hln1, fun H2 C => ?_⟩
    have hS := SH.callR (F := [_, _, _]) hS C
    repeat' walk_at "st"
    refine k1 hc hL _ ?_
    simp only [LR, bCells, RS.dn, BW.clr, clrR_len]
    exact hS
  · have hok1 : (X.W.to (X.W.cur - 1)).ok := to_ok ok _
    have hln1 : B.rs.length = (X.W.to (X.W.cur - 1)).rows.length := hl
    repeat' walk_at "st"
    refine ⟨_, _, rfl, B.R, B.rs, X.W.to (X.W.cur - 1), rfl, rfl, SH.blkR [_, _, _] _ hS, hok1, hln1, fun H2 C => ?_⟩
    have hS := SH.callR (F := [_, _, _]) hS C
    repeat' walk_at "st"
    refine k0 hc _ ?_
    simp only [LR, bCells, RS.dn, BW.clr, clrR_len]
    exact hS
  )) only [↓Hsh.on])
def sp_Ring_shift_up (K : PySem.W.Frag) : Sp := mk1 fun a H Q E => ∃ (B : BA) (mm : Addr) (X : RS) (mem : List Int), a = .ref B.b ∧ Blk H (LR K B mm mem X) ∧ X.W.ok ∧ B.rs.length = X.W.rows.length ∧ mem.length ≤ 1000 ∧
  (X.res ≠ 1 → ∀ H', SH ((LR K B mm mem X).map (·.1)) H H' (LR K B mm mem X.up) → Q .non H') ∧
  (X.res = 1 → lies mem X.startU → ∀ rs' H', rs'.length = X.W.rows.length → SH ((LR K B mm mem X).map (·.1)) H H' (LR K ⟨B.b, B.dx, B.S, B.R, rs'⟩ mm mem (X.fl mem).up) → Q .non H') ∧
  (X.res = 1 → ¬ lies mem X.startU → E (.ref (He.ga K "Fault")) none H)
theorem ok_Ring_shift_up {P : Program} {w : World} {K : PySem.W.Frag} {mg : Str → Option Value} {base : Heap} (Y : Env w K mg) (G_Ring_fill : MethOk P w K mg base (L2N.CX P w) 2 "Ring" "_fill" ["self"] (sp_Ring_fill K)) : MethOk P w K mg base (L2N.CX P w) 3 "Ring" "shift_up" ["self"] (sp_Ring_shift_up K) := Hsh.un (by simp (disch := k_dflt (
  refine Hsh.up ?_
  obtain ⟨fd, F⟩ := Y.fd_Ring_shift_up
  refine ⟨fd, Y.cl_Ring, Y.me_Ring_shift_up, F.bindsN (fun _ _ _ _ _ _ us hl => match us, hl with | [_], _ => rfl), F.ok sc_Ring_shift_up mk1_len (fun cdv A outer s H vs Q E hr h => ?_)⟩
  have hu := hu_room hr
  obtain ⟨_, rfl, B, mm, X, mem, rfl, hB, ok, hl, h1000, k0, k1, k2⟩ := h
  have hS : SH ((LR K B mm mem X).map (·.1)) H H (LR K B mm mem X) := hB.sh
  have h3 := ok.n3
  refine ⟨_, (pss_cons (ps_if (pt_cmpR (xEq hu) (pe_fld (pv 0) rfl) pe_int (nomark _)) (pss_one (ps_expr (pe_methG0 (pv 0) G_Ring_fill hr (L2N.passes_call (L2N.takes_of rfl rfl rfl rfl) (fun _ _ _ _ h => h))))) pss_nil)
  (pss_cons (ps_fld (pv 0) (pe_op xMod (pe_op xAdd (pe_fld (pv 0) rfl) pe_int) (pe_fld (pv 0) rfl)) rfl)
  (pss_cons (ps_fld (pv 0) (pe_op op_sub (pe_fld (pv 0) rfl) pe_int) rfl)
  (pss_one (ps_fld (pv 0) (pe_op op_sub (pe_fld (pv 0) rfl) pe_int) rfl))))), ?_⟩
  rw [st_Ring_shift_up]
  try simp only [cxK, cxK2, cxW, cxW2]
  clear hu hr F
  repeat' walk_at "st"
  · refine c_Ring_fill (F := []) hS ok hl h1000 (fun hL rs' H1 hr hS => ?_) (fun hL => k2 hc hL)
    have hS : SH ((LR K B mm mem X).map (·.1)) H H1 (LR K ⟨B.b, B.dx, B.S, B.R, rs'⟩ mm mem (X.fl mem)) := hS
    have h3' : 3 ≤ (X.fl mem).W.rows.length := by show 3 ≤ (X.W.fl _).rows.length; rw [fl_len]; exact h3
    repeat' walk_at "st"
    exact k1 hc hL _ _ hr hS
  · exact k0 hc _ hS
  )) only [↓Hsh.on])
def W0 (n : Nat) : BW := ⟨List.replicate 8 0, List.replicate n (List.replicate 16 0), 0, -1, 0, 0, 0⟩
theorem rowC_snoc {rs : List Addr} {rows : List (List Int)} {p : Addr} {r : List Int} (h : rs.length = rows.length) : rowC (rs ++ [p]) (rows ++ [r]) = rowC rs rows ++ [(p, .lst (r.map V.int))] := Hsh.un (by simp (disch := k_dflt (
  refine Hsh.up ?_
  unfold rowC
  rw [List.zipWith_append h]
  rfl
  )) only [↓Hsh.on])
theorem row_snoc {A : List Addr} {H0 H : Hp} {D p : Addr} {t : Cell} {rs : List Addr} {rows : List (List Int)} {r : List Int} {F : List Cell} (hS : SH A H0 H ((p, .lst (r.map V.int)) :: t :: (D, .lst (rs.map V.ref ++ [V.ref p])) :: (rowC rs rows ++ F))) (h : rs.length = rows.length) :
    SH A H0 H ((D, .lst ((rs ++ [p]).map V.ref)) :: (rowC (rs ++ [p]) (rows ++ [r]) ++ F)) := Hsh.un (by simp (disch := k_dflt (
  refine Hsh.up ?_
  rw [rowC_snoc h, List.map_append]
  refine (hS.sub (L' := (p, .lst (r.map V.int)) :: (D, .lst (rs.map V.ref ++ [V.ref p])) :: (rowC rs rows ++ F)) (List.Sublist.cons_cons _ (List.sublist_cons_self _ _))).perm ?_
  refine (List.Perm.swap _ _ _).trans (List.Perm.cons _ ?_)
  rw [List.append_assoc]
  exact (List.perm_middle (l₁ := rowC rs rows)).symm
  )) only [↓Hsh.on])
def sp_Ring_init__ (K : PySem.W.Frag) : Sp := mk3 fun a b c H Q _ => ∃ (o dx mm : Addr) (n : Nat), a = .ref o ∧ b = .ref mm ∧ c = .int (n : Nat) ∧ n ≤ 33 ∧ H o = some (.ins (He.ga K "Ring") dx []) ∧
  ∀ S R rs H', rs.length = n → SH [o] H H' (bCells K ⟨o, dx, S, R, rs⟩ mm ⟨W0 n, 1⟩) → Q .non H'
theorem ok_Ring_init__ {P : Program} {w : World} {K : PySem.W.Frag} {mg : Str → Option Value} {base : Heap} (Y : Env w K mg)  : MakeOk P w K mg base CX0 1 "Ring" ["self", "memory", "windows"] (sp_Ring_init__ K) := Hsh.un (by simp (disch := k_dflt (
  refine Hsh.up ?_
  obtain ⟨fd, F⟩ := Y.fd_Ring_init__
  refine ⟨fd, Y.mg_Ring, Y.mk_Ring, F.bindsN (fun _ _ _ _ _ _ us hl => match us, hl with | [_, _, _], _ => rfl), F.ok sc_Ring_init__ mk3_len (fun cdv A outer s H vs Q E hr h => ?_)⟩
  have hu := hu_room hr
  obtain ⟨_, _, _, rfl, o, dx, mm, n, rfl, rfl, rfl, hn, ho, k⟩ := h
  have hS : SH [o] H H [(o, .ins (He.ga K "Ring") dx [])] := SH.start1 ho
  refine ⟨_, PSs.nox (pss_cons (ps_fld (pv 0) (pv 1) rfl)
  (pss_cons (ps_fld (pv 0) (pv 2) rfl)
  (pss_cons (ps_fld (pv 0) (pe_lc (own := [("_", 3)]) (g := gName 3) rfl sc_Ring_init__.nd (pi_range1 rfl Y.z_range (pa_cons (pv 2) pa_nil)) (blkOk_by (N := N_Ring_init__) (sc := defScope s_Ring_init__) (by decide +kernel)) (fun _ _ _ _ _ => pg_name (i := 3) sc_Ring_init__.nd rfl (Or.inl rfl)) (fun _ _ _ _ _ => pts_nil) (fun _ _ _ _ _ => (pe_op (OpR.k (K := K) (r := rMulX) xMul rfl) (pe_lst (pa_cons pe_int pa_nil)) pe_int))) rfl)
  (pss_cons (ps_fld (pv 0) (pe_op xMul (pe_lst (pa_cons pe_int pa_nil)) pe_int) rfl)
  (pss_cons (ps_fld (pv 0) pe_int rfl)
  (pss_cons (ps_fld (pv 0) pe_int rfl)
  (pss_cons (ps_fld (pv 0) pe_int rfl)
  (pss_cons (ps_fld (pv 0) pe_int rfl)
  (pss_one (ps_fld (pv 0) pe_int rfl)))))))))), ?_⟩
  rw [st_Ring_init__]
  try simp only [cxK, cxK2, cxW, cxW2]
  clear hu hr F
  repeat' walk_at "st"
  refine u_lcR1 hS (i := 3) (j := ((n : Nat) : Int)) (fun D k H' => ∃ rs, rs.length = k ∧ SH [o] H H' ((D, .lst (rs.map V.ref)) :: (rowC rs (List.replicate k (List.replicate 16 0)) ++ ([(o, HO.ins (He.ga K "Ring") dx [("memory", V.ref mm), ("windows", V.int (n : Nat))])] : List Cell)))) (by omega) (by omega) (fun D H1 hS => ⟨[], rfl, hS⟩) ?_ ?_
  · rintro D i H1 hi ⟨rs, hr, hS⟩
    repeat' walk_at "st"
    exact ⟨rs ++ [p], by rw [List.length_append, hr]; rfl, by rw [List.replicate_succ']; exact row_snoc hS (by rw [hr, List.length_replicate])⟩
  · rintro D H1 ⟨rs, hr, hS⟩
    have hr : rs.length = n := by rw [hr]; omega
    have hn2 : (Int.toNat (n : Nat)) = n := by omega
    rw [hn2] at hS
    have hS := hS.perm (L' := (o, .ins (He.ga K "Ring") dx [("memory", .ref mm), ("windows", .int (n : Nat))]) :: (D, .lst (rs.map V.ref)) :: rowC rs (List.replicate n (List.replicate 16 0))) (by
      refine ((List.perm_middle (l₁ := (D, HO.lst (rs.map V.ref)) :: rowC rs _)).trans ?_)
      rw [List.append_nil])
    repeat' walk_at "st"
    have hS := (hS.sub (List.Sublist.cons_cons _ (List.sublist_cons_self _ _))).perm (List.Perm.swap _ _ _)
    have hS : SH [o] H H1 (bCells K ⟨o, dx, p, D, rs⟩ mm ⟨W0 n, 1⟩) := by
      simp only [bCells, W0, List.length_replicate, List.map_replicate]
      exact hS
    exact k _ _ _ _ hr hS
  )) only [↓Hsh.on])
/-! ### the law's model -/
structure MS where
  n : Nat
  sh : List Int
  out : List Int
  ws : List (List Int × List Int)
  dep : Int
  spi : Int
  fil : Int
structure MS.ok (Y : MS) : Prop where
  s8 : Y.sh.length = 8
  o8 : Y.out.length = 8
  w8 : ∀ p ∈ Y.ws, p.1.length = 8 ∧ p.2.length = 8
  w1 : 0 < Y.ws.length
  wn : Y.ws.length < Y.n
  n3 : 3 ≤ Y.n
  n33 : Y.n ≤ 33
structure MD where
  m : Addr
  mm : Addr
  S : Addr
  R : Addr
structure MV where
  O : Addr
  ps : List Addr
  qs : List (Addr × Addr)
structure MV.ok (v : MV) (Y : MS) : Prop where
  p : v.ps.length = Y.ws.length
  q : v.qs.length = Y.ws.length
def pairC (ps : List Addr) (qs : List (Addr × Addr)) : List Cell := List.zipWith (fun p (q : Addr × Addr) => (p, HO.lst [V.ref q.1, V.ref q.2])) ps qs
theorem pairC_get {ps : List Addr} {qs : List (Addr × Addr)} (h : ps.length = qs.length) {k : Nat} (hk : k < qs.length) : (pairC ps qs)[k]? = some (ps.getD k 0, .lst [V.ref (qs.getD k (0, 0)).1, V.ref (qs.getD k (0, 0)).2]) := Hsh.un (by simp (disch := k_dflt (
  refine Hsh.up ?_
  unfold pairC
  rw [List.getElem?_zipWith, List.getD_eq_getElem?_getD, List.getD_eq_getElem?_getD, List.getElem?_eq_getElem (by omega), List.getElem?_eq_getElem hk]
  rfl
  )) only [↓Hsh.on])
theorem pairC_len {ps : List Addr} {qs : List (Addr × Addr)} (h : ps.length = qs.length) : (pairC ps qs).length = qs.length := by
  unfold pairC
  rw [List.length_zipWith, h, Nat.min_self]
abbrev dO (D : MD) (v : MV) (Y : MS) : HO := .dK [(.inr "windows", .int (Y.n : Nat)), (.inr "memory", .ref D.mm), (.inr "shared", .ref D.S), (.inr "outs", .ref v.O), (.inr "rows", .ref D.R), (.inr "spills", .int Y.spi), (.inr "fills", .int Y.fil), (.inr "depth", .int Y.dep)]
abbrev wC (v : MV) (ws : List (List Int × List Int)) : List Cell := pairC v.ps v.qs ++ (rowC (v.qs.map (·.1)) (ws.map (·.1)) ++ rowC (v.qs.map (·.2)) (ws.map (·.2)))
abbrev mCells (D : MD) (v : MV) (mem : List Int) (Y : MS) : List Cell :=
  (D.m, dO D v Y) :: (D.mm, mO mem) :: (D.S, .lst (Y.sh.map V.int)) :: (v.O, .lst (Y.out.map V.int)) :: (D.R, .lst (v.ps.map V.ref)) :: wC v Y.ws
def MS.last (Y : MS) : List Int × List Int := Y.ws.getD (Y.ws.length - 1) ([], [])
def MV.last (v : MV) : Addr × Addr := v.qs.getD (v.qs.length - 1) (0, 0)
def MS.pos (Y : MS) (n : Int) : Nat := if n < 8 then 2 else if n < 16 then 3 else if n < 24 then 5 + (Y.ws.length + (Y.ws.length - 1)) else 5 + (Y.ws.length + (Y.ws.length + (Y.ws.length - 1)))
def MS.lst (Y : MS) (n : Int) : List Int := if n < 8 then Y.sh else if n < 16 then Y.out else if n < 24 then Y.last.1 else Y.last.2
def ixM (n : Int) : Int := if n < 8 then n else if n < 16 then n - 8 else n % 8
def adM (D : MD) (v : MV) (n : Int) : Addr := if n < 8 then D.S else if n < 16 then v.O else if n < 24 then v.last.1 else v.last.2
def MS.put (Y : MS) (n : Int) (l : List Int) : MS := if n < 8 then { Y with sh := l } else if n < 16 then { Y with out := l } else if n < 24 then { Y with ws := Y.ws.set (Y.ws.length - 1) (l, Y.last.2) } else { Y with ws := Y.ws.set (Y.ws.length - 1) (Y.last.1, l) }
def MS.get (Y : MS) (n : Int) : Int := (Y.lst n).getD (ixM n).toNat 0
def MS.setR (Y : MS) (n v : Int) : MS := if 0 < n then Y.put n ((Y.lst n).set (ixM n).toNat v) else Y
theorem getD_map1 {α β : Type} (f : α → β) (l : List α) (k : Nat) (d : α) (e : β) (hk : k < l.length) : (l.map f).getD k e = f (l.getD k d) := by
  rw [List.getD_eq_getElem?_getD, List.getD_eq_getElem?_getD, List.getElem?_map, List.getElem?_eq_getElem hk]
  rfl
theorem lastW {Y : MS} (ok : Y.ok) : Y.last ∈ Y.ws := Hsh.un (by simp (disch := k_dflt (
  refine Hsh.up ?_
  have := ok.w1
  unfold MS.last
  rw [List.getD_eq_getElem?_getD, List.getElem?_eq_getElem (by omega)]
  exact List.getElem_mem _
  )) only [↓Hsh.on])
section
variable {D : MD} {v : MV} {mem : List Int} {Y : MS} {n : Int}
theorem wC_l (ok : Y.ok) (vk : v.ok Y) {k : Nat} (hk : k < Y.ws.length) : (wC v Y.ws)[Y.ws.length + k]? = some ((v.qs.getD k (0, 0)).1, .lst ((Y.ws.getD k ([], [])).1.map V.int)) := Hsh.un (by simp (disch := k_dflt (
  refine Hsh.up ?_
  have hp := vk.p; have hq := vk.q
  have e := pairC_len (hp.trans hq.symm)
  show (pairC v.ps v.qs ++ _)[_]? = _
  rw [List.getElem?_append_right (by omega), e, hq, show Y.ws.length + k - Y.ws.length = k by omega]
  have hl : (v.qs.map (·.1)).length = (Y.ws.map (·.1)).length := by rw [List.length_map, List.length_map, hq]
  rw [List.getElem?_append_left (by rw [rowC_len hl, List.length_map]; omega), rowC_get hl (by rw [List.length_map]; omega), getD_map1 _ _ _ (0, 0) _ (by omega), getD_map1 _ _ _ ([], []) _ (by omega)]
  )) only [↓Hsh.on])
theorem wC_i (ok : Y.ok) (vk : v.ok Y) {k : Nat} (hk : k < Y.ws.length) : (wC v Y.ws)[Y.ws.length + (Y.ws.length + k)]? = some ((v.qs.getD k (0, 0)).2, .lst ((Y.ws.getD k ([], [])).2.map V.int)) := Hsh.un (by simp (disch := k_dflt (
  refine Hsh.up ?_
  have hp := vk.p; have hq := vk.q
  have e := pairC_len (hp.trans hq.symm)
  show (pairC v.ps v.qs ++ _)[_]? = _
  have hl : (v.qs.map (·.1)).length = (Y.ws.map (·.1)).length := by rw [List.length_map, List.length_map, hq]
  have hl2 : (v.qs.map (·.2)).length = (Y.ws.map (·.2)).length := by rw [List.length_map, List.length_map, hq]
  have e2 := rowC_len hl
  rw [List.length_map] at e2
  rw [List.getElem?_append_right (by omega), e, hq, show Y.ws.length + (Y.ws.length + k) - Y.ws.length = Y.ws.length + k by omega]
  rw [List.getElem?_append_right (by omega), e2, show Y.ws.length + k - Y.ws.length = k by omega, rowC_get hl2 (by rw [List.length_map]; omega), getD_map1 _ _ _ (0, 0) _ (by omega), getD_map1 _ _ _ ([], []) _ (by omega)]
  )) only [↓Hsh.on])
theorem wC_p (vk : v.ok Y) {k : Nat} (hk : k < Y.ws.length) : (wC v Y.ws)[k]? = some (v.ps.getD k 0, .lst [.ref (v.qs.getD k (0, 0)).1, .ref (v.qs.getD k (0, 0)).2]) := Hsh.un (by simp (disch := k_dflt (
  refine Hsh.up ?_
  have hp := vk.p; have hq := vk.q
  have e := pairC_len (hp.trans hq.symm)
  show (pairC v.ps v.qs ++ _)[_]? = _
  rw [List.getElem?_append_left (by omega), pairC_get (hp.trans hq.symm) (by omega)]
  )) only [↓Hsh.on])
theorem m_get (ok : Y.ok) (vk : v.ok Y) (n : Int) : (mCells D v mem Y)[Y.pos n]? = some (adM D v n, .lst ((Y.lst n).map V.int)) := Hsh.un (by simp (disch := k_dflt (
  refine Hsh.up ?_
  have h1 := ok.w1
  have hq := vk.q
  have a := wC_l ok vk (k := Y.ws.length - 1) (by omega)
  have b := wC_i ok vk (k := Y.ws.length - 1) (by omega)
  unfold MS.pos adM MS.lst MS.last MV.last
  rw [hq]
  split
  · rfl
  · split
    · rfl
    · split
      · rw [Nat.add_comm]; exact a
      · rw [Nat.add_comm]; exact b
  )) only [↓Hsh.on])
theorem rowC_set' {as : List Addr} {rows : List (List Int)} (h : as.length = rows.length) {k : Nat} (hk : k < rows.length) (l : List Int) {a : Addr} (e : as.getD k 0 = a) : (rowC as rows).set k (a, .lst (l.map V.int)) = rowC as (rows.set k l) := by
  subst e
  exact rowC_set h hk l
theorem set_same {α : Type} {l : List α} {k : Nat} {d : α} (hk : k < l.length) : l.set k (l.getD k d) = l := by
  rw [List.getD_eq_getElem?_getD, List.getElem?_eq_getElem hk]
  exact List.set_getElem_self hk
theorem m_set (ok : Y.ok) (vk : v.ok Y) (n : Int) (l : List Int) : (mCells D v mem Y).set (Y.pos n) (adM D v n, .lst (l.map V.int)) = mCells D v mem (Y.put n l) := Hsh.un (by simp (disch := k_dflt (
  refine Hsh.up ?_
  have h1 := ok.w1
  have hp := vk.p; have hq := vk.q
  have e := pairC_len (hp.trans hq.symm)
  have hl : (v.qs.map (·.1)).length = (Y.ws.map (·.1)).length := by rw [List.length_map, List.length_map, hq]
  have hl2 : (v.qs.map (·.2)).length = (Y.ws.map (·.2)).length := by rw [List.length_map, List.length_map, hq]
  have e2 := rowC_len hl
  rw [List.length_map] at e2
  have f1 : (Y.ws.map (·.1)).set (Y.ws.length - 1) Y.last.1 = Y.ws.map (·.1) := by
    unfold MS.last
    rw [← getD_map1 (·.1) Y.ws _ ([], []) [] (by omega)]
    exact set_same (by rw [List.length_map]; omega)
  have f2 : (Y.ws.map (·.2)).set (Y.ws.length - 1) Y.last.2 = Y.ws.map (·.2) := by
    unfold MS.last
    rw [← getD_map1 (·.2) Y.ws _ ([], []) [] (by omega)]
    exact set_same (by rw [List.length_map]; omega)
  have g1 : (v.qs.map (·.1)).getD (Y.ws.length - 1) 0 = v.last.1 := by
    unfold MV.last
    rw [hq, getD_map1 _ _ _ (0, 0) _ (by omega)]
  have g2 : (v.qs.map (·.2)).getD (Y.ws.length - 1) 0 = v.last.2 := by
    unfold MV.last
    rw [hq, getD_map1 _ _ _ (0, 0) _ (by omega)]
  unfold MS.pos adM MS.put
  split
  · rfl
  · split
    · rfl
    · split
      · rw [Nat.add_comm]
        show _ :: _ :: _ :: _ :: _ :: (pairC v.ps v.qs ++ _).set _ _ = _ :: _ :: _ :: _ :: _ :: (pairC v.ps v.qs ++ _)
        rw [List.set_append_right _ _ (by omega), e, hq, show Y.ws.length + (Y.ws.length - 1) - Y.ws.length = Y.ws.length - 1 by omega, List.set_append_left _ _ (by omega), rowC_set' hl (by rw [List.length_map]; omega) l g1, List.map_set, List.map_set, f2]
      · rw [Nat.add_comm]
        show _ :: _ :: _ :: _ :: _ :: (pairC v.ps v.qs ++ _).set _ _ = _ :: _ :: _ :: _ :: _ :: (pairC v.ps v.qs ++ _)
        rw [List.set_append_right _ _ (by omega), e, hq, show Y.ws.length + (Y.ws.length + (Y.ws.length - 1)) - Y.ws.length = Y.ws.length + (Y.ws.length - 1) by omega, List.set_append_right _ _ (by omega), e2, show Y.ws.length + (Y.ws.length - 1) - Y.ws.length = Y.ws.length - 1 by omega, rowC_set' hl2 (by rw [List.length_map]; omega) l g2, List.map_set, List.map_set, f1]
  )) only [↓Hsh.on])
end
theorem lstM_len {Y : MS} (ok : Y.ok) (n : Int) : (Y.lst n).length = 8 := Hsh.un (by simp (disch := k_dflt (
  refine Hsh.up ?_
  have h := ok.w8 _ (lastW ok)
  unfold MS.lst
  split
  · exact ok.s8
  · split
    · exact ok.o8
    · split
      · exact h.1
      · exact h.2
  )) only [↓Hsh.on])
theorem ixM_bnd {n : Int} (h0 : 0 ≤ n) (h1 : n < 32) : 0 ≤ ixM n ∧ ixM n < 8 := Hsh.un (by simp (disch := k_dflt (
  refine Hsh.up ?_
  unfold ixM
  split
  · omega
  · split <;> omega
  )) only [↓Hsh.on])
/-! ### the ring and the law's model: one stands for the other -/
/-- the place of the i-th window above the one at c -/
def rot (n c i : Nat) : Nat := if c + i < n then c + i else c + i - n
theorem mod2 {n : Nat} {a : Int} {k : Nat} (h0 : 0 ≤ a) (h1 : a < 2 * (n : Int)) (e : k = if a < n then a.toNat else (a - n).toNat) : (a % (n : Nat)).toNat = k := Hsh.un (by simp (disch := k_dflt (
  refine Hsh.up ?_
  subst e
  by_cases q : a < n
  · rw [if_pos q, Int.emod_eq_of_lt h0 q]
  · rw [if_neg q, ← Int.sub_emod_right, Int.emod_eq_of_lt (by omega) (by omega)]
  )) only [↓Hsh.on])
theorem modm {n : Nat} {a : Int} {k : Nat} (h0 : -1 ≤ a) (h1 : a < n) (hn : 1 ≤ n) (e : k = if a < 0 then n - 1 else a.toNat) : (a % (n : Nat)).toNat = k := Hsh.un (by simp (disch := k_dflt (
  refine Hsh.up ?_
  subst e
  by_cases q : a < 0
  · obtain rfl : a = -1 := by omega
    rw [if_pos q, Int.emod_eq_add_self_emod, Int.emod_eq_of_lt (by omega) (by omega)]
    omega
  · rw [if_neg q, Int.emod_eq_of_lt (by omega) (by omega)]
  )) only [↓Hsh.on])
def MS.at (Y : MS) (k : Nat) : List Int × List Int := Y.ws.getD k ([], [])
structure Rel (X : RS) (Y : MS) : Prop where
  ok : X.W.ok
  yk : Y.ok
  n : X.W.rows.length = Y.n
  sh : X.W.sh = Y.sh
  res : X.res = (Y.ws.length : Nat)
  dep : X.W.dep = Y.dep
  spi : X.W.spi = Y.spi
  fil : X.W.fil = Y.fil
  rows : ∀ i, i < Y.ws.length → X.W.rows.getD (rot Y.n X.W.cur.toNat i) [] = (Y.at (Y.ws.length - 1 - i)).1 ++ (Y.at (Y.ws.length - 1 - i)).2
  out : (X.W.rows.getD X.W.prv []).drop 8 = Y.out
theorem MS.at_8 {Y : MS} (ok : Y.ok) {k : Nat} (hk : k < Y.ws.length) : (Y.at k).1.length = 8 ∧ (Y.at k).2.length = 8 := Hsh.un (by simp (disch := k_dflt (
  refine Hsh.up ?_
  unfold MS.at
  rw [List.getD_eq_getElem?_getD, List.getElem?_eq_getElem hk]
  exact ok.w8 _ (List.getElem_mem _)
  )) only [↓Hsh.on])
theorem row16 {W : BW} (ok : W.ok) {k : Nat} (hk : k < W.rows.length) : (W.rows.getD k []).length = 16 := by
  rw [List.getD_eq_getElem?_getD, List.getElem?_eq_getElem hk]
  exact ok.r16 _ (List.getElem_mem _)
theorem rows_ok {W : BW} (ok : W.ok) (k : Nat) {l : List Int} (h : l.length = 16) : ({ W with rows := W.rows.set k l } : BW).ok :=
  ⟨ok.s8, fun r hr => by
    rcases List.mem_or_eq_of_mem_set hr with h2 | rfl
    · exact ok.r16 _ h2
    · exact h, ok.c0, by show W.cur < ((W.rows.set _ _).length : Nat); rw [List.length_set]; exact ok.c1, by show 3 ≤ (W.rows.set _ _).length; rw [List.length_set]; exact ok.n3, by show (W.rows.set _ _).length ≤ 33; rw [List.length_set]; exact ok.n33, ok.b1⟩
theorem getD_set_ne {α : Type} {l : List α} {k j : Nat} {x d : α} (h : k ≠ j) : (l.set k x).getD j d = l.getD j d := by
  rw [List.getD_eq_getElem?_getD, List.getD_eq_getElem?_getD, List.getElem?_set_ne h]
theorem getD_set_eq {α : Type} {l : List α} {k : Nat} {x d : α} (h : k < l.length) : (l.set k x).getD k d = x := by
  rw [List.getD_eq_getElem?_getD, List.getElem?_set_self h]
  rfl
theorem getD_appL {α : Type} {l m : List α} {k : Nat} {d : α} (h : k < l.length) : (l ++ m).getD k d = l.getD k d := by
  rw [List.getD_eq_getElem?_getD, List.getD_eq_getElem?_getD, List.getElem?_append_left h]
theorem getD_appR {α : Type} {l m : List α} {k j : Nat} {d : α} (h : l.length ≤ k) (e : k - l.length = j) : (l ++ m).getD k d = m.getD j d := by
  rw [List.getD_eq_getElem?_getD, List.getD_eq_getElem?_getD, List.getElem?_append_right h, e]
section
variable {X : RS} {Y : MS} {n : Int}
theorem Rel.lt (R : Rel X Y) {i : Nat} (hi : i < Y.n) : rot Y.n X.W.cur.toNat i < X.W.rows.length := Hsh.un (by simp (disch := k_dflt (
  refine Hsh.up ?_
  have := cur_lt R.ok
  rw [R.n] at this ⊢
  unfold rot
  split <;> omega
  )) only [↓Hsh.on])
theorem Rel.prv (R : Rel X Y) : X.W.prv = rot Y.n X.W.cur.toNat (Y.n - 1) := Hsh.un (by simp (disch := k_dflt (
  refine Hsh.up ?_
  have h1 := cur_lt R.ok; have := R.ok.c0; have := R.yk.n3
  unfold rot BW.prv
  rw [R.n] at h1 ⊢
  split <;> split <;> omega
  )) only [↓Hsh.on])
theorem rot_inj {n c i j : Nat} (hc : c < n) (hi : i < n) (hj : j < n) (h : i ≠ j) : rot n c i ≠ rot n c j := by
  unfold rot
  split <;> split <;> omega
theorem Rel.cur (R : Rel X Y) : X.W.rows.getD X.W.cur.toNat [] = Y.last.1 ++ Y.last.2 := Hsh.un (by simp (disch := k_dflt (
  refine Hsh.up ?_
  have h := R.rows 0 R.yk.w1
  have := cur_lt R.ok
  rw [R.n] at this
  unfold rot at h
  rw [Nat.add_zero, if_pos this] at h
  exact h
  )) only [↓Hsh.on])
theorem Rel.get (R : Rel X Y) (h0 : 0 ≤ n) (h1 : n < 32) : X.W.get n = Y.get n := Hsh.un (by simp (disch := k_dflt (
  refine Hsh.up ?_
  have hl := MS.at_8 R.yk (k := Y.ws.length - 1) (by have := R.yk.w1; omega)
  change Y.last.1.length = 8 ∧ Y.last.2.length = 8 at hl
  unfold BW.get MS.get BW.lst MS.lst ixOf ixM
  by_cases c1 : n < 8
  · rw [if_pos c1, if_pos (by omega), if_pos c1, if_pos c1, R.sh]
  · by_cases c2 : n < 16
    · rw [if_neg c1, if_pos c2, if_pos c2, if_neg c1, if_pos c2, if_neg c1, if_pos c2, ← R.out, List.getD_eq_getElem?_getD (l := List.drop _ _), List.getElem?_drop, List.getD_eq_getElem?_getD (a := 0), show 8 + (n - 8).toNat = n.toNat by omega]
    · rw [if_neg c1, if_neg c2, if_neg c2, if_neg c1, if_neg c2, if_neg c1, if_neg c2, R.cur]
      by_cases c3 : n < 24
      · rw [if_pos c3, getD_appL (by omega)]
        congr 1
        omega
      · rw [if_neg c3, getD_appR (j := (n % 8).toNat) (by omega) (by omega)]
  )) only [↓Hsh.on])
theorem Rel.ws_put (R : Rel X Y) {p : List Int × List Int} (h1 : p.1.length = 8) (h2 : p.2.length = 8) : Rel ⟨{ X.W with rows := X.W.rows.set X.W.cur.toNat (p.1 ++ p.2) }, X.res⟩ { Y with ws := Y.ws.set (Y.ws.length - 1) p } := by
  have w1 := R.yk.w1; have wn := R.yk.wn; have hc := cur_lt R.ok; have hn := R.n
  refine ⟨rows_ok R.ok _ (by rw [List.length_append]; omega), ⟨R.yk.s8, R.yk.o8, fun q hq => ?_, by show 0 < (Y.ws.set _ _).length; rw [List.length_set]; exact w1, by show (Y.ws.set _ _).length < _; rw [List.length_set]; exact wn, R.yk.n3, R.yk.n33⟩,
    by show (X.W.rows.set _ _).length = _; rw [List.length_set]; exact R.n, R.sh, by show _ = (((Y.ws.set _ _).length : Nat) : Int); rw [List.length_set]; exact R.res, R.dep, R.spi, R.fil, fun i hi => ?_, ?_⟩
  · rcases List.mem_or_eq_of_mem_set hq with h | rfl
    · exact R.yk.w8 _ h
    · exact ⟨h1, h2⟩
  · change i < (Y.ws.set _ _).length at hi
    rw [List.length_set] at hi
    show (X.W.rows.set _ _).getD (rot Y.n X.W.cur.toNat i) [] = ((Y.ws.set _ _).getD ((Y.ws.set _ _).length - 1 - i) ([], [])).1 ++ ((Y.ws.set _ _).getD ((Y.ws.set _ _).length - 1 - i) ([], [])).2
    rw [List.length_set]
    by_cases q : i = 0
    · subst q
      have e : rot Y.n X.W.cur.toNat 0 = X.W.cur.toNat := by unfold rot; rw [if_pos (by omega)]; rfl
      rw [e, getD_set_eq hc, Nat.sub_zero, getD_set_eq (by omega)]
    · have e : X.W.cur.toNat ≠ rot Y.n X.W.cur.toNat i := by unfold rot; split <;> omega
      rw [getD_set_ne e, getD_set_ne (by omega)]
      exact R.rows i hi
  · show ((X.W.rows.set _ _).getD (BW.prv ⟨_, X.W.rows.set _ _, _, _, _, _, _⟩) []).drop 8 = Y.out
    have e : BW.prv ⟨X.W.sh, X.W.rows.set X.W.cur.toNat (p.1 ++ p.2), X.W.cur, X.W.bar, X.W.dep, X.W.spi, X.W.fil⟩ = X.W.prv := by unfold BW.prv; rw [List.length_set]
    rw [e, getD_set_ne (by rw [R.prv]; unfold rot; have := R.yk.n3; split <;> omega)]
    exact R.out
theorem Rel.setR (R : Rel X Y) (h0 : 0 ≤ n) (h1 : n < 32) (v : Int) : Rel ⟨X.W.setR n v, X.res⟩ (Y.setR n v) := Hsh.un (by simp (disch := k_dflt (
  refine Hsh.up ?_
  have hl := MS.at_8 R.yk (k := Y.ws.length - 1) (by have := R.yk.w1; omega)
  change Y.last.1.length = 8 ∧ Y.last.2.length = 8 at hl
  unfold BW.setR MS.setR
  by_cases c0 : 0 < n
  · rw [if_pos c0, if_pos c0]
    unfold BW.set BW.put MS.put BW.lst MS.lst ixOf ixM
    by_cases c1 : n < 8
    · simp only [if_pos c1, if_pos (show n < 16 by omega)]
      rw [R.sh]
      exact ⟨⟨by show (Y.sh.set _ _).length = 8; rw [List.length_set]; exact R.yk.s8, R.ok.r16, R.ok.c0, R.ok.c1, R.ok.n3, R.ok.n33, R.ok.b1⟩, ⟨by show (Y.sh.set _ _).length = 8; rw [List.length_set]; exact R.yk.s8, R.yk.o8, R.yk.w8, R.yk.w1, R.yk.wn, R.yk.n3, R.yk.n33⟩, R.n, rfl, R.res, R.dep, R.spi, R.fil, R.rows, R.out⟩
    · by_cases c2 : n < 16
      · simp only [if_neg c1, if_pos c2]
        have hp := BW.prv_lt R.ok
        have hr := row16 R.ok hp
        have hw := R.yk.wn
        refine ⟨rows_ok R.ok _ (by rw [List.length_set]; exact hr), ⟨R.yk.s8, by show (Y.out.set _ _).length = 8; rw [List.length_set]; exact R.yk.o8, R.yk.w8, R.yk.w1, R.yk.wn, R.yk.n3, R.yk.n33⟩, by show (X.W.rows.set _ _).length = _; rw [List.length_set]; exact R.n, R.sh, R.res, R.dep, R.spi, R.fil, fun i hi => ?_, ?_⟩
        · change i < Y.ws.length at hi
          show (X.W.rows.set _ _).getD (rot Y.n X.W.cur.toNat i) [] = _
          rw [getD_set_ne]
          · exact R.rows i hi
          · rw [R.prv]
            exact rot_inj (by rw [← R.n]; exact cur_lt R.ok) (by omega) (by omega) (by omega)
        · show ((X.W.rows.set _ _).getD (BW.prv ⟨_, X.W.rows.set _ _, _, _, _, _, _⟩) []).drop 8 = Y.out.set _ _
          have e : ∀ l, BW.prv ⟨X.W.sh, X.W.rows.set X.W.prv l, X.W.cur, X.W.bar, X.W.dep, X.W.spi, X.W.fil⟩ = X.W.prv := fun l => by unfold BW.prv; rw [List.length_set]
          rw [e, getD_set_eq hp, List.drop_set, if_neg (by omega), R.out]
          congr 1
          omega
      · simp only [if_neg c1, if_neg c2]
        rw [R.cur]
        by_cases c3 : n < 24
        · simp only [if_pos c3]
          rw [List.set_append_left _ _ (by omega)]
          have e : (n - 16).toNat = (n % 8).toNat := by omega
          rw [e]
          exact R.ws_put (p := (Y.last.1.set (n % 8).toNat v, Y.last.2)) (by rw [List.length_set]; exact hl.1) hl.2
        · simp only [if_neg c3]
          rw [List.set_append_right _ _ (by omega)]
          have e : (n - 16).toNat - Y.last.1.length = (n % 8).toNat := by omega
          rw [e]
          exact R.ws_put (p := (Y.last.1, Y.last.2.set (n % 8).toNat v)) hl.1 (by rw [List.length_set]; exact hl.2)
  · rw [if_neg c0, if_neg c0]
    exact R
  )) only [↓Hsh.on])
def MS.start (Y : MS) : Int := (Y.at 1).2.getD 6 0
def MS.row (Y : MS) : List Int := (Y.at 0).1 ++ (Y.at 0).2
def MS.startU (Y : MS) : Int := (Y.at 0).2.getD 6 0
def MS.sp (Y : MS) : MS := ⟨Y.n, Y.sh, Y.out, Y.ws.tail, Y.dep, Y.spi + 1, Y.fil⟩
def MS.dn (Y : MS) : MS := ⟨Y.n, Y.sh, List.replicate 8 0, Y.ws ++ [(List.replicate 8 0, Y.out)], Y.dep + 1, Y.spi, Y.fil⟩
def MS.fl (Y : MS) (mem : List Int) : MS := ⟨Y.n, Y.sh, Y.out, ((mcut mem Y.startU).take 8, (mcut mem Y.startU).drop 8) :: Y.ws, Y.dep, Y.spi, Y.fil + 1⟩
def MS.up (Y : MS) : MS := ⟨Y.n, Y.sh, Y.last.2, Y.ws.dropLast, Y.dep - 1, Y.spi, Y.fil⟩
theorem Rel.ocur (R : Rel X Y) : X.o.cur.toNat = rot Y.n X.W.cur.toNat (Y.ws.length - 1) := Hsh.un (by simp (disch := k_dflt (
  refine Hsh.up ?_
  have hc := cur_lt R.ok; have h0 := R.ok.c0; have h1 := R.yk.w1; have h2 := R.yk.wn; have h3 := R.n; have h4 := R.res
  show ((X.W.cur + X.res - 1) % ((X.W.rows.length : Nat) : Int)).toNat = _
  refine mod2 (by omega) (by omega) ?_
  unfold rot
  split <;> split <;> omega
  )) only [↓Hsh.on])
theorem Rel.oprv (R : Rel X Y) (h : 2 ≤ Y.ws.length) : X.o.prv = rot Y.n X.W.cur.toNat (Y.ws.length - 2) := Hsh.un (by simp (disch := k_dflt (
  refine Hsh.up ?_
  have e := R.ocur
  have hc := cur_lt R.ok; have h1 := R.yk.wn; have h3 := R.n; have h4 := (to_ok R.ok (X.W.cur + X.res - 1)).c0
  change 0 ≤ X.o.cur at h4
  unfold BW.prv
  show (if X.o.cur = 0 then X.W.rows.length - 1 else X.o.cur.toNat - 1) = _
  unfold rot at e ⊢
  split at e <;> split <;> split <;> omega
  )) only [↓Hsh.on])
theorem Rel.row (R : Rel X Y) : X.row = Y.row := Hsh.un (by simp (disch := k_dflt (
  refine Hsh.up ?_
  unfold RS.row MS.row
  have h1 := R.yk.w1
  rw [R.ocur, R.rows _ (by omega)]
  rw [show Y.ws.length - 1 - (Y.ws.length - 1) = 0 by omega]
  )) only [↓Hsh.on])
theorem Rel.start (R : Rel X Y) (h : 2 ≤ Y.ws.length) : X.start = Y.start := Hsh.un (by simp (disch := k_dflt (
  refine Hsh.up ?_
  unfold RS.start MS.start
  rw [R.oprv h, R.rows _ (by omega)]
  rw [show Y.ws.length - 1 - (Y.ws.length - 2) = 1 by omega]
  have := MS.at_8 R.yk (k := 1) (by omega)
  exact getD_appR (by omega) (by omega)
  )) only [↓Hsh.on])
theorem Rel.startU (R : Rel X Y) (h : Y.ws.length = 1) : X.startU = Y.startU := Hsh.un (by simp (disch := k_dflt (
  refine Hsh.up ?_
  unfold RS.startU MS.startU
  rw [R.cur]
  have := MS.at_8 R.yk (k := 0) (by omega)
  have e : Y.last = Y.at 0 := by unfold MS.last MS.at; rw [h]
  rw [e]
  exact getD_appR (by omega) (by omega)
  )) only [↓Hsh.on])
theorem MS.at_tail (Y : MS) (k : Nat) : Y.ws.tail.getD k ([], []) = Y.at (k + 1) := by
  unfold MS.at
  rw [List.getD_eq_getElem?_getD, List.getD_eq_getElem?_getD, List.getElem?_tail]
theorem Rel.sp (R : Rel X Y) (h : 2 ≤ Y.ws.length) : Rel X.sp Y.sp := Hsh.un (by simp (disch := k_dflt (
  refine Hsh.up ?_
  have hl : Y.ws.tail.length = Y.ws.length - 1 := List.length_tail
  refine ⟨⟨R.ok.s8, R.ok.r16, R.ok.c0, R.ok.c1, R.ok.n3, R.ok.n33, R.ok.b1⟩, ⟨R.yk.s8, R.yk.o8, fun p hp => R.yk.w8 p (List.mem_of_mem_tail hp), by show 0 < Y.ws.tail.length; omega, by show Y.ws.tail.length < Y.n; have := R.yk.wn; omega, R.yk.n3, R.yk.n33⟩, R.n, R.sh, ?_, R.dep, by show X.W.spi + 1 = Y.spi + 1; rw [R.spi], R.fil, fun i hi => ?_, R.out⟩
  · show X.res - 1 = ((Y.ws.tail.length : Nat) : Int)
    rw [R.res]
    omega
  · change i < Y.ws.tail.length at hi
    show X.W.rows.getD (rot Y.n X.W.cur.toNat i) [] = (Y.ws.tail.getD (Y.ws.tail.length - 1 - i) ([], [])).1 ++ (Y.ws.tail.getD (Y.ws.tail.length - 1 - i) ([], [])).2
    rw [R.rows i (by omega), MS.at_tail, hl]
    rw [show Y.ws.length - 1 - 1 - i + 1 = Y.ws.length - 1 - i by omega]
  )) only [↓Hsh.on])
theorem clr_low {r o : List Int} {S : Nat → Bool} (h : r.length = 16) (hd : r.drop 8 = o) (h1 : ∀ b, b < 8 → S b = true) (h2 : ∀ b, 8 ≤ b → b < 16 → S b = false) : (r.mapIdx fun j x => if S j = true then 0 else x) = List.replicate 8 0 ++ o := Hsh.un (by simp (disch := k_dflt (
  refine Hsh.up ?_
  subst hd
  apply List.ext_getElem?
  intro j
  rw [List.getElem?_mapIdx]
  by_cases q : j < 8
  · rw [List.getElem?_append_left (by rw [List.length_replicate]; exact q), List.getElem?_replicate, if_pos q, List.getElem?_eq_getElem (by omega)]
    simp [h1 j q]
  · rw [List.getElem?_append_right (by rw [List.length_replicate]; omega), List.length_replicate, List.getElem?_drop, show 8 + (j - 8) = j by omega]
    by_cases q2 : j < 16
    · rw [List.getElem?_eq_getElem (by omega)]
      simp [h2 j (by omega) q2]
    · rw [List.getElem?_eq_none (by omega)]
      rfl
  )) only [↓Hsh.on])
theorem clr_no {r : List Int} {S : Nat → Bool} (h2 : ∀ b, S b = false) : (r.mapIdx fun j x => if S j = true then 0 else x) = r := Hsh.un (by simp (disch := k_dflt (
  refine Hsh.up ?_
  apply List.ext_getElem?
  intro j
  rw [List.getElem?_mapIdx]
  cases r[j]? with
  | none => rfl
  | some x => simp [h2 j]
  )) only [↓Hsh.on])
theorem clr_high {r : List Int} {S : Nat → Bool} (h : r.length = 16) (h1 : ∀ b, 8 ≤ b → b < 16 → S b = true) : (r.mapIdx fun j x => if S j = true then 0 else x).drop 8 = List.replicate 8 0 := Hsh.un (by simp (disch := k_dflt (
  refine Hsh.up ?_
  apply List.ext_getElem?
  intro j
  rw [List.getElem?_drop, List.getElem?_mapIdx, List.getElem?_replicate]
  by_cases q : j < 8
  · rw [if_pos q, List.getElem?_eq_getElem (by omega)]
    simp [h1 (8 + j) (by omega) (by omega)]
  · rw [if_neg q, List.getElem?_eq_none (by omega)]
    rfl
  )) only [↓Hsh.on])
theorem Rel.dn (R : Rel X Y) (h : Y.ws.length + 1 < Y.n) : Rel X.dn Y.dn := Hsh.un (by simp (disch := k_dflt (
  refine Hsh.up ?_
  have hc := cur_lt R.ok; have h0 := R.ok.c0; have h1 := R.yk.w1; have h3 := R.n; have hn3 := R.yk.n3
  have e1 : ((X.W.cur - 1) % ((X.W.rows.length : Nat) : Int)).toNat = X.W.prv := modm (by omega) (by omega) (by omega) (by unfold BW.prv; split <;> split <;> omega)
  have dok : X.W.down.ok := ⟨R.ok.s8, R.ok.r16, (to_ok R.ok (X.W.cur - 1)).c0, (to_ok R.ok (X.W.cur - 1)).c1, R.ok.n3, R.ok.n33, R.ok.b1⟩
  have ecur : X.W.down.cur.toNat = X.W.prv := e1
  have hdc : 0 ≤ X.W.down.cur := dok.c0
  have eprv : X.W.down.prv = rot Y.n X.W.cur.toNat (Y.n - 2) := by
    unfold BW.prv
    show (if X.W.down.cur = 0 then X.W.rows.length - 1 else X.W.down.cur.toNat - 1) = _
    have e := ecur
    rw [R.prv] at e
    unfold rot at e ⊢
    split at e <;> split <;> split <;> omega
  have pl : X.W.prv < X.W.rows.length := BW.prv_lt R.ok
  have ppl : X.W.down.prv < X.W.rows.length := BW.prv_lt dok
  have nep : X.W.prv ≠ X.W.down.prv := by rw [eprv, R.prv]; exact rot_inj (by omega) (by omega) (by omega) (by omega)
  have cl : ∀ k, X.dn.W.rows.getD k [] = (X.W.rows.getD k []).mapIdx fun j x => if SP X.W.down 8 k j = true then 0 else x := fun k => clrR_get _ _ _
  have hlen : X.dn.W.rows.length = X.W.rows.length := clrR_len _ _
  refine ⟨⟨R.ok.s8, clrR_16 R.ok.r16, dok.c0, by rw [hlen]; exact dok.c1, by rw [hlen]; exact R.ok.n3, by rw [hlen]; exact R.ok.n33, R.ok.b1⟩, ⟨R.yk.s8, List.length_replicate, fun p hp => ?_, by show 0 < (Y.ws ++ _).length; rw [List.length_append]; omega, by show (Y.ws ++ _).length < Y.n; rw [List.length_append]; exact h, R.yk.n3, R.yk.n33⟩, hlen.trans R.n, R.sh, ?_, by show X.W.dep + 1 = Y.dep + 1; rw [R.dep], R.spi, R.fil, fun i hi => ?_, ?_⟩
  · rcases List.mem_append.mp hp with hp | hp
    · exact R.yk.w8 _ hp
    · rw [List.mem_singleton.mp hp]
      exact ⟨List.length_replicate, R.yk.o8⟩
  · show X.res + 1 = (((Y.ws ++ _).length : Nat) : Int)
    rw [List.length_append, R.res]
    rfl
  · change i < (Y.ws ++ _).length at hi
    rw [List.length_append] at hi
    change i < Y.ws.length + 1 at hi
    have ei : rot Y.n X.dn.W.cur.toNat i = if i = 0 then X.W.prv else rot Y.n X.W.cur.toNat (i - 1) := by
      show rot Y.n X.W.down.cur.toNat i = _
      rw [ecur, R.prv]
      unfold rot
      split <;> split <;> (try split) <;> (try split) <;> omega
    show X.dn.W.rows.getD (rot Y.n X.dn.W.cur.toNat i) [] = ((Y.ws ++ [(List.replicate 8 0, Y.out)]).getD ((Y.ws ++ [(List.replicate 8 0, Y.out)]).length - 1 - i) ([], [])).1 ++ ((Y.ws ++ [(List.replicate 8 0, Y.out)]).getD ((Y.ws ++ [(List.replicate 8 0, Y.out)]).length - 1 - i) ([], [])).2
    rw [ei, cl, List.length_append, List.length_singleton, Nat.add_sub_cancel]
    by_cases q : i = 0
    · subst q
      rw [if_pos rfl, getD_appR (j := 0) (by omega) (by omega)]
      refine clr_low (row16 R.ok pl) R.out (fun b hb => ?_) (fun b hb hb2 => ?_)
      · unfold SP
        rw [ecur]
        simp [hb]
      · unfold SP
        rw [ecur]
        simp [nep]
        omega
    · rw [if_neg q, getD_appL (by omega)]
      have e1 : rot Y.n X.W.cur.toNat (i - 1) ≠ X.W.prv := by rw [R.prv]; exact rot_inj (by omega) (by omega) (by omega) (by omega)
      have e2 : rot Y.n X.W.cur.toNat (i - 1) ≠ X.W.down.prv := by rw [eprv]; exact rot_inj (by omega) (by omega) (by omega) (by omega)
      rw [clr_no fun b => by unfold SP; rw [ecur]; simp [e1, e2], R.rows _ (by omega)]
      rw [show Y.ws.length - 1 - (i - 1) = Y.ws.length - i by omega]
      rfl
  · show (X.dn.W.rows.getD X.dn.W.prv []).drop 8 = List.replicate 8 0
    have e : X.dn.W.prv = X.W.down.prv := by
      unfold BW.prv
      rw [hlen]
      rfl
    rw [e, cl]
    refine clr_high (row16 R.ok ppl) fun b h1 h2 => ?_
    unfold SP
    simp
    omega
  )) only [↓Hsh.on])
theorem Rel.up (R : Rel X Y) (h : 2 ≤ Y.ws.length) : Rel X.up Y.up := Hsh.un (by simp (disch := k_dflt (
  refine Hsh.up ?_
  have hc := cur_lt R.ok; have h0 := R.ok.c0; have h3 := R.n; have hn3 := R.yk.n3; have hw := R.yk.wn
  have e1 : ((X.W.cur + 1) % ((X.W.rows.length : Nat) : Int)).toNat = rot Y.n X.W.cur.toNat 1 := mod2 (by omega) (by omega) (by unfold rot; split <;> split <;> omega)
  have uok : X.W.up.ok := ⟨R.ok.s8, R.ok.r16, (to_ok R.ok (X.W.cur + 1)).c0, (to_ok R.ok (X.W.cur + 1)).c1, R.ok.n3, R.ok.n33, R.ok.b1⟩
  have ecur : X.W.up.cur.toNat = rot Y.n X.W.cur.toNat 1 := e1
  have huc : 0 ≤ X.W.up.cur := uok.c0
  have hl : Y.ws.dropLast.length = Y.ws.length - 1 := List.length_dropLast
  refine ⟨uok, ⟨R.yk.s8, (MS.at_8 R.yk (k := Y.ws.length - 1) (by omega)).2, fun p hp => R.yk.w8 p (List.dropLast_subset _ hp), by show 0 < Y.ws.dropLast.length; omega, by show Y.ws.dropLast.length < Y.n; omega, R.yk.n3, R.yk.n33⟩, R.n, R.sh, ?_, by show X.W.dep - 1 = Y.dep - 1; rw [R.dep], R.spi, R.fil, fun i hi => ?_, ?_⟩
  · show X.res - 1 = ((Y.ws.dropLast.length : Nat) : Int)
    rw [hl, R.res]
    omega
  · change i < Y.ws.dropLast.length at hi
    have ei : rot Y.n X.W.up.cur.toNat i = rot Y.n X.W.cur.toNat (i + 1) := by
      rw [ecur]
      unfold rot
      split <;> split <;> (try split) <;> omega
    show X.W.rows.getD (rot Y.n X.W.up.cur.toNat i) [] = (Y.ws.dropLast.getD (Y.ws.dropLast.length - 1 - i) ([], [])).1 ++ (Y.ws.dropLast.getD (Y.ws.dropLast.length - 1 - i) ([], [])).2
    have ed : Y.ws.dropLast.getD (Y.ws.dropLast.length - 1 - i) ([], []) = Y.at (Y.ws.length - 1 - (i + 1)) := by
      unfold MS.at
      rw [hl, List.getD_eq_getElem?_getD, List.getD_eq_getElem?_getD, List.getElem?_dropLast, if_pos (by omega)]
      rw [show Y.ws.length - 1 - 1 - i = Y.ws.length - 1 - (i + 1) by omega]
    rw [ei, ed, R.rows _ (by omega)]
  · show (X.W.rows.getD X.W.up.prv []).drop 8 = Y.last.2
    have e : X.W.up.prv = X.W.cur.toNat := by
      unfold BW.prv
      show (if X.W.up.cur = 0 then X.W.rows.length - 1 else X.W.up.cur.toNat - 1) = _
      have e := ecur
      unfold rot at e
      split at e <;> split <;> omega
    have := MS.at_8 R.yk (k := Y.ws.length - 1) (by omega)
    change Y.last.1.length = 8 ∧ _ at this
    rw [e, R.cur, List.drop_append, List.drop_eq_nil_of_le (by omega), this.1]
    rfl
  )) only [↓Hsh.on])
theorem Rel.fl (R : Rel X Y) (h : Y.ws.length = 1) {mem : List Int} (hL : lies mem Y.startU) : Rel (X.fl mem) (Y.fl mem) := Hsh.un (by simp (disch := k_dflt (
  refine Hsh.up ?_
  have hc := cur_lt R.ok; have h0 := R.ok.c0; have h3 := R.n; have hn3 := R.yk.n3
  have es := R.startU h
  have e1 : ((X.W.cur + 1) % ((X.W.rows.length : Nat) : Int)).toNat = rot Y.n X.W.cur.toNat 1 := mod2 (by omega) (by omega) (by unfold rot; split <;> split <;> omega)
  have hm := mcut_len hL
  have hw : (mcut mem X.startU).length = 16 := by rw [es]; exact hm
  have hrl := R.lt (i := 1) (by omega)
  have er : (X.fl mem).W.rows = X.W.rows.set (rot Y.n X.W.cur.toNat 1) (mcut mem Y.startU) := by
    show X.W.rows.set ((X.W.cur + 1) % ((X.W.rows.length : Nat) : Int)).toNat (mcut mem X.startU) = _
    rw [e1, es]
  refine ⟨fl_ok R.ok hw, ⟨R.yk.s8, R.yk.o8, fun p hp => ?_, by show 0 < (_ :: Y.ws).length; rw [List.length_cons]; omega, by show (_ :: Y.ws).length < Y.n; rw [List.length_cons]; omega, R.yk.n3, R.yk.n33⟩, by rw [er, List.length_set]; exact R.n, R.sh, ?_, R.dep, R.spi, by show X.W.fil + 1 = Y.fil + 1; rw [R.fil], fun i hi => ?_, ?_⟩
  · rcases List.mem_cons.mp hp with rfl | hp
    · exact ⟨by rw [List.length_take]; omega, by rw [List.length_drop]; omega⟩
    · exact R.yk.w8 _ hp
  · show X.res + 1 = (((_ :: Y.ws).length : Nat) : Int)
    rw [List.length_cons, R.res]
    rfl
  · change i < (_ :: Y.ws).length at hi
    rw [List.length_cons, h] at hi
    show (X.fl mem).W.rows.getD (rot Y.n X.W.cur.toNat i) [] = ((_ :: Y.ws).getD ((_ :: Y.ws).length - 1 - i) ([], [])).1 ++ ((_ :: Y.ws).getD ((_ :: Y.ws).length - 1 - i) ([], [])).2
    rw [er, List.length_cons, h]
    by_cases q : i = 0
    · subst q
      rw [getD_set_ne (rot_inj (by omega) (by omega) (by omega) (by omega)), R.rows 0 (by omega), h]
      rfl
    · obtain rfl : i = 1 := by omega
      rw [getD_set_eq hrl]
      exact (List.take_append_drop 8 _).symm
  · have e : (X.fl mem).W.prv = X.W.prv := by
      unfold BW.prv
      rw [er, List.length_set]
      rfl
    rw [e, er, getD_set_ne]
    · exact R.out
    · rw [R.prv]
      exact rot_inj (by omega) (by omega) (by omega) (by omega)
  )) only [↓Hsh.on])
end
local macro_rules | `(tactic| walk_at "st") => `(tactic| first
  | (with_reducible refine s_dget ?_)
  | ((with_reducible apply h_dget); (· walk_at "hp"); (· exact rfl))
  | (with_reducible refine s_dput ?_)
  | ((with_reducible apply h_dput hS); (· walk_at "ix"); (· walk_at "sz"); (· exact rfl); (· walk_at "ls"); intro H1 hS1; walk_at "nw")
  | fail)
def sp_z_spot (K : PySem.W.Frag) : Sp := mk2 fun a b H Q _ => ∃ (D : MD) (v : MV) (mem : List Int) (Z : MS) (n : Int), a = .ref D.m ∧ b = .int n ∧ (∀ c ∈ mCells D v mem Z, H c.1 = some c.2) ∧ Z.ok ∧ v.ok Z ∧ 0 ≤ n ∧ n < 32 ∧
  ∀ p H', Keep [] H H' → H p = none → H' p = some (.tup [.ref (adM D v n), .int (ixM n)]) → Q (.ref p) H'
section
 local macro_rules | `(tactic| walk_at "at") => `(tactic| exact hat)
 local macro_rules | `(tactic| walk_at "hp") => `(tactic| exact hpr)
theorem ok_z_spot {P : Program} {w : World} {K : PySem.W.Frag} {mg : Str → Option Value} {base : Heap} (Y : Env w K mg)  : CallOk P w K mg base CX0 1 "_law_spot" ["_law_m", "_law_number"] (sp_z_spot K) := Hsh.un (by simp (disch := k_dflt (
  refine Hsh.up ?_
  obtain ⟨fd, F⟩ := Y.fd_z_spot
  refine ⟨_, fd, Y.mg_z_spot, F.kp, F.bindsN (fun _ _ _ _ _ _ us hl => match us, hl with | [_, _], _ => rfl), F.ok sc_z_spot mk2_len (fun cdv A outer s H vs Q E hr h => ?_)⟩
  have hu := hu_room hr
  obtain ⟨_, _, rfl, D, v, mem, Z, n, rfl, rfl, hM, ok, vk, h0, h1, k⟩ := h
  have hS : SH [] H H [] := SH.start0
  have hm := hM _ (.head _)
  have hR := hM _ (.tail _ (.tail _ (.tail _ (.tail _ (.head _)))))
  have hw := ok.w1
  have hpr : H (v.ps.getD (Z.ws.length - 1) 0) = some (.lst [.ref v.last.1, .ref v.last.2]) := by
    unfold MV.last
    rw [vk.q]
    exact hM _ (.tail _ (.tail _ (.tail _ (.tail _ (.tail _ (List.mem_of_getElem? (wC_p vk (k := Z.ws.length - 1) (by omega))))))))
  have hat : atI (v.ps.map V.ref) (-1) = some (.ref (v.ps.getD (Z.ws.length - 1) 0)) := by
    have e : ixN (v.ps.map V.ref).length (-1) = some (Z.ws.length - 1) := by
      rw [List.length_map, vk.p]
      unfold ixN
      rw [if_neg (by omega), if_pos (by omega)]
      congr 1
      omega
    unfold atI
    rw [e]
    show (v.ps.map V.ref)[Z.ws.length - 1]? = _
    rw [List.getElem?_map, List.getD_eq_getElem?_getD, List.getElem?_eq_getElem (by rw [vk.p]; omega)]
    rfl
  unfold adM ixM at k
  refine ⟨_, PSs.nox (pss_cons (ps_if (pt_cmpR op_lt (pv 1) pe_int (nomark _)) (pss_one (ps_ret (pe_tup (pa_cons (pe_dget (hu1 hu) (pv 0) pe_str (fun _ _ => rfl)) (pa_cons (pv 1) pa_nil))))) pss_nil)
  (pss_cons (ps_if (pt_cmpR op_lt (pv 1) pe_int (nomark _)) (pss_one (ps_ret (pe_tup (pa_cons (pe_dget (hu1 hu) (pv 0) pe_str (fun _ _ => rfl)) (pa_cons (pe_op op_sub (pv 1) pe_int) pa_nil))))) pss_nil)
  (pss_cons (ps_set (i := 2) sc_z_spot.nd rfl (Or.inl rfl) (pe_ix xIx (pe_dget (hu1 hu) (pv 0) pe_str (fun _ _ => rfl)) (pe_un un_neg pe_int) (fun _ _ => rfl)))
  (pss_one (ps_ret (pe_tup (pa_cons (pe_ix xIx (pv 2) (pe_op op_sub (pe_op xDiv (pv 1) pe_int) pe_int) (fun _ _ => rfl)) (pa_cons (pe_op xMod (pe_callTy x_int rfl Y.z_int (by decide +kernel) (pa_cons (pv 1) pa_nil)) pe_int) pa_nil)))))))), ?_⟩
  rw [st_z_spot]
  try simp only [cxK, cxK2, cxW, cxW2]
  clear hu hr F
  by_cases c1 : n < 8
  · rw [if_pos c1, if_pos c1] at k
    repeat' walk_at "st"
    exact k _ _ hS.kp (hS.fr0 0 rfl) (hS.get 0 rfl)
  · rw [if_neg c1, if_neg c1] at k
    by_cases c2 : n < 16
    · rw [if_pos c2, if_pos c2] at k
      repeat' walk_at "st"
      exact k _ _ hS.kp (hS.fr0 0 rfl) (hS.get 0 rfl)
    · rw [if_neg c2, if_neg c2] at k
      by_cases c3 : n < 24
      · rw [if_pos c3] at k
        have hat2 : atI [V.ref v.last.1, V.ref v.last.2] (n / 8 - 2) = some (.ref v.last.1) := atI_lit 0 (by omega) rfl
        repeat' walk_at "st"
        exact k _ _ hS.kp (hS.fr0 0 rfl) (hS.get 0 rfl)
      · rw [if_neg c3] at k
        repeat' walk_at "st"
        exact k _ _ hS.kp (hS.fr0 0 rfl) (hS.get 0 rfl)
  )) only [↓Hsh.on])
end
theorem c_z_spot {K : PySem.W.Frag} {A : List Addr} {H0 H : Hp} {L : List Cell} {D : MD} {v : MV} {mem : List Int} {Z : MS} {n : Int} {Q : VK} {E : XK} (hS : SH A H0 H L) (hM : ∀ c ∈ mCells D v mem Z, H c.1 = some c.2) (ok : Z.ok) (vk : v.ok Z) (h0 : 0 ≤ n) (h1 : n < 32)
    (k : ∀ p H', SH A H0 H' ((p, .tup [.ref (adM D v n), .int (ixM n)]) :: L) → Keep [] H H' → Q (.ref p) H') : sp_z_spot K ([.ref D.m, .int n] ++ []) H Q E :=
  ⟨_, _, rfl, D, v, mem, Z, n, rfl, rfl, hM, ok, vk, h0, h1, fun p H' kp nw e => k p H' (hS.call0n kp nw e) kp⟩
def sp_z_get (K : PySem.W.Frag) : Sp := mk2 fun a b H Q _ => ∃ (D : MD) (v : MV) (mem : List Int) (Z : MS) (n : Int), a = .ref D.m ∧ b = .int n ∧ (∀ c ∈ mCells D v mem Z, H c.1 = some c.2) ∧ Z.ok ∧ v.ok Z ∧ 0 ≤ n ∧ n < 32 ∧ ∀ H', Keep [] H H' → Q (.int (Z.get n)) H'
theorem ok_z_get {P : Program} {w : World} {K : PySem.W.Frag} {mg : Str → Option Value} {base : Heap} (Y : Env w K mg) (G_z_spot : CallOk P w K mg base CX0 1 "_law_spot" ["_law_m", "_law_number"] (sp_z_spot K)) : CallOk P w K mg base CX0 2 "_law_get" ["_law_m", "_law_number"] (sp_z_get K) := Hsh.un (by simp (disch := k_dflt (
  refine Hsh.up ?_
  obtain ⟨fd, F⟩ := Y.fd_z_get
  refine ⟨_, fd, Y.mg_z_get, F.kp, F.bindsN (fun _ _ _ _ _ _ us hl => match us, hl with | [_, _], _ => rfl), F.ok sc_z_get mk2_len (fun cdv A outer s H vs Q E hr h => ?_)⟩
  have hu := hu_room hr
  obtain ⟨_, _, rfl, D, v, mem, Z, n, rfl, rfl, hM, ok, vk, h0, h1, k⟩ := h
  have hS : SH [] H H [] := SH.start0
  have hg := hM _ (List.mem_of_getElem? (m_get ok vk n))
  obtain ⟨hi0, hi1⟩ := ixM_bnd h0 h1
  have hl8 := lstM_len ok n
  have hi2 : ixM n < ((Z.lst n).map V.int).length := by rw [List.length_map]; omega
  refine ⟨_, PSs.nox (pss_cons (ps_asg (pe_callG G_z_spot hr rfl pass0 (pa_cons (pv 0) (pa_cons (pv 1) pa_nil))) (pg_tup rfl (pgs_cons (pg_name (i := 2) sc_z_get.nd rfl (Or.inl rfl)) (pgs_cons (pg_name (i := 3) sc_z_get.nd rfl (Or.inl rfl)) pgs_nil))))
  (pss_one (ps_ret (pe_ix xIx (pv 2) (pv 3) (fun _ _ => rfl))))), ?_⟩
  rw [st_z_get]
  try simp only [cxK, cxK2, cxW, cxW2]
  clear hu hr F
  repeat' walk_at "st"
  refine c_z_spot hS hM ok vk h0 h1 (fun p H1 hS1 _ => ?_)
  walk_at "nw"
  repeat' walk_at "st"
  exact k _ hS.kp
  )) only [↓Hsh.on])
theorem c_z_get {K : PySem.W.Frag} {A : List Addr} {H0 H : Hp} {L : List Cell} {D : MD} {v : MV} {mem : List Int} {Z : MS} {n : Int} {Q : VK} {E : XK} (hS : SH A H0 H L) (hM : ∀ c ∈ mCells D v mem Z, H c.1 = some c.2) (ok : Z.ok) (vk : v.ok Z) (h0 : 0 ≤ n) (h1 : n < 32)
    (k : ∀ H', SH A H0 H' L → Keep [] H H' → Q (.int (Z.get n)) H') : sp_z_get K ([.ref D.m, .int n] ++ []) H Q E := ⟨_, _, rfl, D, v, mem, Z, n, rfl, rfl, hM, ok, vk, h0, h1, fun H' kp => k H' (hS.call0 kp) kp⟩
def sp_z_set (K : PySem.W.Frag) : Sp := mk3 fun a b c H Q _ => ∃ (D : MD) (v : MV) (mem : List Int) (Z : MS) (n x : Int), a = .ref D.m ∧ b = .int n ∧ c = .int x ∧ Blk H (mCells D v mem Z) ∧ Z.ok ∧ v.ok Z ∧ 0 ≤ n ∧ n < 32 ∧
  ∀ H', SH ((mCells D v mem Z).map (·.1)) H H' (mCells D v mem (Z.setR n x)) → Q .non H'
theorem ok_z_set {P : Program} {w : World} {K : PySem.W.Frag} {mg : Str → Option Value} {base : Heap} (Y : Env w K mg) (G_z_spot : CallOk P w K mg base CX0 1 "_law_spot" ["_law_m", "_law_number"] (sp_z_spot K)) : CallOk P w K mg base CX0 2 "_law_set" ["_law_m", "_law_number", "_law_word_here"] (sp_z_set K) := Hsh.un (by simp (disch := k_dflt (
  refine Hsh.up ?_
  obtain ⟨fd, F⟩ := Y.fd_z_set
  refine ⟨_, fd, Y.mg_z_set, F.kp, F.bindsN (fun _ _ _ _ _ _ us hl => match us, hl with | [_, _, _], _ => rfl), F.ok sc_z_set mk3_len (fun cdv A outer s H vs Q E hr h => ?_)⟩
  have hu := hu_room hr
  obtain ⟨_, _, _, rfl, D, v, mem, Z, n, x, rfl, rfl, rfl, hB, ok, vk, h0, h1, k⟩ := h
  have hS := hB.sh
  obtain ⟨hi0, hi1⟩ := ixM_bnd h0 h1
  have hl8 := lstM_len ok n
  have hi2 : ixM n < ((Z.lst n).map V.int).length := by rw [List.length_map]; omega
  refine ⟨_, PSs.nox (pss_cons (ps_asg (pe_callG G_z_spot hr rfl pass0 (pa_cons (pv 0) (pa_cons (pv 1) pa_nil))) (pg_tup rfl (pgs_cons (pg_name (i := 3) sc_z_set.nd rfl (Or.inl rfl)) (pgs_cons (pg_name (i := 4) sc_z_set.nd rfl (Or.inl rfl)) pgs_nil))))
  (pss_one (ps_if (pt_cmpR op_gt (pv 1) pe_int (nomark _)) (pss_one (ps_asg (pv 2) (pg_sub (pv 3) (pv 4) set_list))) pss_nil))), ?_⟩
  rw [st_z_set]
  try simp only [cxK, cxK2, cxW, cxW2]
  clear hu hr F
  unfold MS.setR at k
  repeat' walk_at "st"
  refine c_z_spot hS hS.hs ok vk h0 h1 (fun p H1 hS1 _ => ?_)
  walk_at "nw"
  repeat' walk_at "st"
  · refine h_setL hS (i := Z.pos n + 1) (m_get ok vk n) (ixN_in hi0 hi2) (set_ints _ _ _) (L' := (p, .tup [.ref (adM D v n), .int (ixM n)]) :: mCells D v mem (Z.put n ((Z.lst n).set (ixM n).toNat x))) ?_ (fun H2 hS2 => ?_)
    · show _ :: (mCells D v mem Z).set _ _ = _
      rw [m_set ok vk]
    · walk_at "nw"
      repeat' walk_at "st"
      rw [if_pos (by assumption)] at k
      exact k _ hS.drop1
  · rw [if_neg (by assumption)] at k
    exact k _ hS.drop1
  )) only [↓Hsh.on])
def sp_z_add (K : PySem.W.Frag) : Sp := mk3 fun a b c H Q _ => ∃ (m : Addr) (kvs : List (L2.Key × V)) (z : Str) (i d : Int), a = .ref m ∧ b = .str z ∧ c = .int d ∧ H m = some (.dK kvs) ∧ valV kvs (.inr z) = some (.int i) ∧ kvs.length ≤ 20 ∧
  ∀ H', H' m = some (.dK (putK kvs (.inr z) (.int (i + d)))) → Keep [m] H H' → Q .non H'
theorem ok_z_add {P : Program} {w : World} {K : PySem.W.Frag} {mg : Str → Option Value} {base : Heap} (Y : Env w K mg)  : CallOk P w K mg base CX0 1 "_law_add" ["_law_m", "_law_key", "_law_by"] (sp_z_add K) := Hsh.un (by simp (disch := k_dflt (
  refine Hsh.up ?_
  obtain ⟨fd, F⟩ := Y.fd_z_add
  refine ⟨_, fd, Y.mg_z_add, F.kp, F.bindsN (fun _ _ _ _ _ _ us hl => match us, hl with | [_, _, _], _ => rfl), F.ok sc_z_add mk3_len (fun cdv A outer s H vs Q E hr h => ?_)⟩
  have hu := hu_room hr
  obtain ⟨_, _, _, rfl, m, kvs, z, i, d, rfl, rfl, rfl, hm, hv, hl, k⟩ := h
  have hS : SH [m] H H [(m, .dK kvs)] := SH.start1 hm
  refine ⟨_, PSs.nox (pss_one (ps_dput (hu1 hu) (pv 0) (pv 1) (pe_op xAdd (pe_dget (hu1 hu) (pv 0) (pv 1) (fun _ _ => rfl)) (pv 2)) rfl)), ?_⟩
  rw [st_z_add]
  try simp only [cxK, cxK2, cxW, cxW2]
  clear hu hr F
  repeat' walk_at "st"
  refine h_dget hm hv ?_
  repeat' walk_at "st"
  exact k _ (hS.get 0 rfl) hS.kp
  )) only [↓Hsh.on])
theorem hot_z_add {P : Program} {w : World} {K : PySem.W.Frag} {mg : Str → Option Value} {base : Heap} (Y : Env w K mg)  : HotOk P w K mg base CX0 1 "_law_add" ["_law_m", "_law_key", "_law_by"] (sp_z_add K) := Hsh.un (by simp (disch := k_dflt (
  refine Hsh.up ?_
  obtain ⟨fd, F⟩ := Y.fd_z_add
  refine ⟨_, fd, Y.mg_z_add, F.kp, F.bindsN (fun _ _ _ _ _ _ us hl => match us, hl with | [_, _, _], _ => rfl), FunD_okH F sc_z_add mk3_len (fun cdv A outer s H vs Q E pz hot hr h => ?_)⟩
  have hu := hu_hot hr
  obtain ⟨_, _, _, rfl, m, kvs, z, i, d, rfl, rfl, rfl, hm, hv, hl, k⟩ := h
  have hS : SH [m] H H [(m, .dK kvs)] := SH.start1 hm
  refine ⟨_, PSs.nox (pss_one (ps_dput (hu1 hu) (pv 0) (pv 1) (pe_op xAdd (pe_dget (hu1 hu) (pv 0) (pv 1) (fun _ _ => rfl)) (pv 2)) rfl)), ?_⟩
  rw [st_z_add]
  try simp only [cxKH, cxKH2]
  clear hu hr F hot
  repeat' walk_at "st"
  refine h_dget hm hv ?_
  repeat' walk_at "st"
  exact k _ (hS.get 0 rfl) hS.kp
  )) only [↓Hsh.on])
theorem c_z_add {K : PySem.W.Frag} {A : List Addr} {H0 H : Hp} {L L' : List Cell} {m : Addr} {kvs kvs' : List (L2.Key × V)} {z : Str} {x d : Int} {Q : VK} {E : XK} {i : Nat} (hS : SH A H0 H L) (e : L[i]? = some (m, .dK kvs)) (hv : valV kvs (.inr z) = some (.int x)) (hl : kvs.length ≤ 20)
    (ek : putK kvs (.inr z) (.int (x + d)) = kvs') (eL : L.set i (m, .dK kvs') = L') (k : ∀ H', SH A H0 H' L' → Q .non H') : sp_z_add K ([.ref m, .str z, .int d] ++ []) H Q E :=
  ⟨_, _, _, rfl, m, kvs, z, x, d, rfl, rfl, rfl, hS.get i e, hv, hl, fun H' h1 h2 => k H' (by rw [← eL, ← ek]; exact hS.call1 i e rfl h2 h1)⟩
local macro_rules | `(tactic| walk_at "st") => `(tactic| first
  | ((with_reducible show sp_z_add _ _ _ _ _); apply c_z_add hS; (· walk_at "ix"); (· exact rfl); (· exact Nat.le_of_ble_eq_true rfl); (· exact rfl); (· walk_at "ls"); intro H1 hS1; walk_at "nw"))
def sp_z_lies (K : PySem.W.Frag) : Sp := mk2 fun a b H Q _ => ∃ (D : MD) (v : MV) (mem : List Int) (Z : MS) (s : Int), a = .ref D.m ∧ b = .int s ∧ H D.m = some (dO D v Z) ∧ H D.mm = some (mO mem) ∧ (lies mem s → Q (.bl true) H) ∧ (¬ lies mem s → Q (.bl false) H)
section
 local macro_rules | `(tactic| walk_at "fi") => `(tactic| first | exact k1 (by omega) | exact k2 (by omega))
theorem ok_z_lies {P : Program} {w : World} {K : PySem.W.Frag} {mg : Str → Option Value} {base : Heap} (Y : Env w K mg)  : CallOk P w K mg base CX0 1 "_law_lies" ["_law_m", "_law_start"] (sp_z_lies K) := Hsh.un (by simp (disch := k_dflt (
  refine Hsh.up ?_
  obtain ⟨fd, F⟩ := Y.fd_z_lies
  refine ⟨_, fd, Y.mg_z_lies, F.kp, F.bindsN (fun _ _ _ _ _ _ us hl => match us, hl with | [_, _], _ => rfl), F.ok sc_z_lies mk2_len (fun cdv A outer s H vs Q E hr h => ?_)⟩
  have hu := hu_room hr
  obtain ⟨_, _, rfl, D, v, mem, Z, s, rfl, rfl, hm, hmm, k1, k2⟩ := h
  have hS : SH [] H H [] := SH.start0
  have e : ((mem.map V.int).length : Int) = mem.length := by rw [List.length_map]
  unfold lies at k1 k2
  refine ⟨_, PSs.nox (pss_one (ps_ret (pe_and (pe_cmpR op_ge (pv 1) pe_int (nomark _)) (pe_one (pe_cmpR op_le (pe_op xAdd (pv 1) pe_int) (pe_callB x_len rfl Y.z_len (by decide +kernel) (pa_cons (pe_dget (hu1 hu) (pv 0) pe_str (fun _ _ => rfl)) pa_nil)) (nomark _)))))), ?_⟩
  rw [st_z_lies]
  try simp only [cxK, cxK2, cxW, cxW2]
  clear hu hr F
  repeat' walk_at "st"
  · by_cases c : s + 16 ≤ mem.length
    · rw [decide_eq_true (by omega)]; exact k1 (by omega)
    · rw [decide_eq_false (by omega)]; exact k2 (by omega)
  · exact k2 (by omega)
  )) only [↓Hsh.on])
theorem hot_z_lies {P : Program} {w : World} {K : PySem.W.Frag} {mg : Str → Option Value} {base : Heap} (Y : Env w K mg)  : HotOk P w K mg base CX0 1 "_law_lies" ["_law_m", "_law_start"] (sp_z_lies K) := Hsh.un (by simp (disch := k_dflt (
  refine Hsh.up ?_
  obtain ⟨fd, F⟩ := Y.fd_z_lies
  refine ⟨_, fd, Y.mg_z_lies, F.kp, F.bindsN (fun _ _ _ _ _ _ us hl => match us, hl with | [_, _], _ => rfl), FunD_okH F sc_z_lies mk2_len (fun cdv A outer s H vs Q E pz hot hr h => ?_)⟩
  have hu := hu_hot hr
  obtain ⟨_, _, rfl, D, v, mem, Z, s, rfl, rfl, hm, hmm, k1, k2⟩ := h
  have hS : SH [] H H [] := SH.start0
  have e : ((mem.map V.int).length : Int) = mem.length := by rw [List.length_map]
  unfold lies at k1 k2
  refine ⟨_, PSs.nox (pss_one (ps_ret (pe_and (pe_cmpR op_ge (pv 1) pe_int (nomark _)) (pe_one (pe_cmpR op_le (pe_op xAdd (pv 1) pe_int) (pe_callB x_len rfl Y.z_len (by decide +kernel) (pa_cons (pe_dget (hu1 hu) (pv 0) pe_str (fun _ _ => rfl)) pa_nil)) (nomark _)))))), ?_⟩
  rw [st_z_lies]
  try simp only [cxKH, cxKH2]
  clear hu hr F hot
  repeat' walk_at "st"
  · by_cases c : s + 16 ≤ mem.length
    · rw [decide_eq_true (by omega)]; exact k1 (by omega)
    · rw [decide_eq_false (by omega)]; exact k2 (by omega)
  · exact k2 (by omega)
  )) only [↓Hsh.on])
end
theorem c_z_lies {K : PySem.W.Frag} {H : Hp} {D : MD} {v : MV} {mem : List Int} {Z : MS} {s : Int} {Q : VK} {E : XK} (hm : H D.m = some (dO D v Z)) (hmm : H D.mm = some (mO mem)) (k1 : lies mem s → Q (.bl true) H) (k2 : ¬ lies mem s → Q (.bl false) H) : sp_z_lies K ([.ref D.m, .int s] ++ []) H Q E :=
  ⟨_, _, rfl, D, v, mem, Z, s, rfl, rfl, hm, hmm, k1, k2⟩
/-! ### the model goes down -/
def mputk (mem : List Int) (s : Int) (r : List Int) (k : Nat) : List Int := mem.take s.toNat ++ r.take k ++ mem.drop (s.toNat + k)
theorem mputk_0 (mem : List Int) (s : Int) (r : List Int) : mputk mem s r 0 = mem := by
  unfold mputk
  rw [List.take_zero, List.append_nil, Nat.add_zero, List.take_append_drop]
theorem mputk_16 {mem : List Int} {s : Int} {r : List Int} (h : 0 ≤ s) (hr : r.length = 16) : mputk mem s r 16 = mput mem s r := by
  unfold mputk mput
  rw [List.take_of_length_le (l := r) (by omega), show (s + 16).toNat = s.toNat + 16 by omega]
theorem mputk_len {mem : List Int} {s : Int} {r : List Int} {k : Nat} (h : lies mem s) (hr : r.length = 16) (hk : k ≤ 16) : (mputk mem s r k).length = mem.length := Hsh.un (by simp (disch := k_dflt (
  refine Hsh.up ?_
  obtain ⟨h0, h1⟩ := h
  unfold mputk
  rw [List.length_append, List.length_append, List.length_take, List.length_take, List.length_drop]
  omega
  )) only [↓Hsh.on])
theorem mput_len {mem : List Int} {s : Int} {r : List Int} (h : lies mem s) (hr : r.length = 16) : (mput mem s r).length = mem.length := by
  rw [← mputk_16 h.1 hr]
  exact mputk_len h hr (by omega)
theorem mputk_set {mem : List Int} {s : Int} {r : List Int} {k : Nat} (h : lies mem s) (hr : r.length = 16) (hk : k < 16) : (mputk mem s r k).set (s + k).toNat (r.getD k 0) = mputk mem s r (k + 1) := Hsh.un (by simp (disch := k_dflt (
  refine Hsh.up ?_
  obtain ⟨h0, h1⟩ := h
  unfold mputk
  have e1 : (mem.take s.toNat).length = s.toNat := by rw [List.length_take]; omega
  have e2 : (r.take k).length = k := by rw [List.length_take]; omega
  rw [List.append_assoc, List.set_append_right _ _ (by omega), e1, show (s + (k : Int)).toNat - s.toNat = k by omega, List.set_append_right _ _ (by omega), e2, Nat.sub_self, List.append_assoc]
  congr 1
  rw [List.take_succ, List.append_assoc, List.getElem?_eq_getElem (by omega), List.getD_eq_getElem?_getD, List.getElem?_eq_getElem (by omega)]
  congr 1
  rw [List.drop_eq_getElem_cons (by omega)]
  rfl
  )) only [↓Hsh.on])
theorem MV.tl_sub {v : MV} {ws : List (List Int × List Int)} : (wC ⟨v.O, v.ps.tail, v.qs.tail⟩ ws.tail).Sublist (wC v ws) := Hsh.un (by simp (disch := k_dflt (
  refine Hsh.up ?_
  unfold wC pairC rowC
  dsimp only
  rw [List.map_tail, List.map_tail, List.map_tail, List.map_tail, ← List.tail_zipWith, ← List.tail_zipWith, ← List.tail_zipWith]
  exact (List.tail_sublist _).append ((List.tail_sublist _).append (List.tail_sublist _))
  )) only [↓Hsh.on])
def MV.sp (v : MV) : MV := ⟨v.O, v.ps.tail, v.qs.tail⟩
theorem MV.sp_ok {v : MV} {Z : MS} (vk : v.ok Z) : v.sp.ok Z.sp := ⟨by show v.ps.tail.length = Z.ws.tail.length; rw [List.length_tail, List.length_tail, vk.p], by show v.qs.tail.length = Z.ws.tail.length; rw [List.length_tail, List.length_tail, vk.q]⟩
/-- the pair p of the new row l and the old outs, the new outs o -/
def MV.dn (v : MV) (p l o : Addr) : MV := ⟨o, v.ps ++ [p], v.qs ++ [(l, v.O)]⟩
theorem MV.dn_ok {v : MV} {Z : MS} (vk : v.ok Z) (p l o : Addr) : (v.dn p l o).ok Z.dn := ⟨by show (v.ps ++ [p]).length = (Z.ws ++ _).length; rw [List.length_append, List.length_append, vk.p]; rfl, by show (v.qs ++ _).length = (Z.ws ++ _).length; rw [List.length_append, List.length_append, vk.q]; rfl⟩
theorem pairC_snoc {ps : List Addr} {qs : List (Addr × Addr)} {p : Addr} {q : Addr × Addr} (h : ps.length = qs.length) : pairC (ps ++ [p]) (qs ++ [q]) = pairC ps qs ++ [(p, .lst [V.ref q.1, V.ref q.2])] := Hsh.un (by simp (disch := k_dflt (
  refine Hsh.up ?_
  unfold pairC
  rw [List.zipWith_append h]
  rfl
  )) only [↓Hsh.on])
theorem wC_snoc {v : MV} {Z : MS} (vk : v.ok Z) {p l o : Addr} {r : List Int} : wC (v.dn p l o) (Z.ws ++ [(r, Z.out)]) = (pairC v.ps v.qs ++ [(p, .lst [V.ref l, V.ref v.O])]) ++ ((rowC (v.qs.map (·.1)) (Z.ws.map (·.1)) ++ [(l, .lst (r.map V.int))]) ++ (rowC (v.qs.map (·.2)) (Z.ws.map (·.2)) ++ [(v.O, .lst (Z.out.map V.int))])) := Hsh.un (by simp (disch := k_dflt (
  refine Hsh.up ?_
  unfold wC MV.dn
  show pairC (v.ps ++ [p]) (v.qs ++ [(l, v.O)]) ++ _ = _
  rw [pairC_snoc (vk.p.trans vk.q.symm), List.map_append, List.map_append, List.map_append, List.map_append]
  show _ ++ (rowC (List.map (·.1) v.qs ++ [l]) (List.map (·.1) Z.ws ++ [r]) ++ rowC (List.map (·.2) v.qs ++ [v.O]) (List.map (·.2) Z.ws ++ [Z.out])) = _
  rw [rowC_snoc (by rw [List.length_map, List.length_map, vk.q]), rowC_snoc (by rw [List.length_map, List.length_map, vk.q])]
  )) only [↓Hsh.on])
theorem perm_dn {a b c r o p l O : Cell} {P Q R : List Cell} : (o :: p :: l :: a :: b :: c :: O :: r :: (P ++ (Q ++ R))).Perm (a :: b :: c :: o :: r :: ((P ++ [p]) ++ ((Q ++ [l]) ++ (R ++ [O])))) := Hsh.un (by simp (disch := k_dflt (
  refine Hsh.up ?_
  have h : ((P ++ [p]) ++ ((Q ++ [l]) ++ (R ++ [O]))).Perm (p :: l :: O :: (P ++ (Q ++ R))) := by
    have h1 : (R ++ [O]).Perm (O :: R) := List.perm_append_singleton _ _
    have h2 : ((Q ++ [l]) ++ (R ++ [O])).Perm (l :: O :: (Q ++ R)) := by
      refine (((List.perm_append_singleton l Q).append h1)).trans (List.Perm.cons _ ?_)
      exact List.perm_middle
    refine ((List.perm_append_singleton p P).append h2).trans (List.Perm.cons _ ?_)
    exact (List.perm_middle.trans (List.Perm.cons _ List.perm_middle))
  refine List.Perm.trans ?_ (((((h.cons r).cons o).cons c).cons b).cons a).symm
  refine (List.Perm.append_right (P ++ (Q ++ R)) (l₁ := [o, p, l, a, b, c, O, r]) (l₂ := [a, b, c, o, r, p, l, O]) ?_)
  exact (show (List.range 8).Perm [3, 4, 5, 0, 7, 1, 2, 6] by decide).map (fun i => [o, p, l, a, b, c, O, r].getD i o)
  )) only [↓Hsh.on])
theorem h_popAt0 {A : List Addr} {H0 H : Hp} {L L' : List Cell} {Q : VK} {i : Nat} {a : Addr} {x : V} {xs : List V} (S : SH A H0 H L) (e : L[i]? = some (a, .lst (x :: xs))) (eL : L.set i (a, .lst xs) = L') (h : ∀ H', SH A H0 H' L' → Q x H') : rPopAt (.ref a) [.int 0] H Q :=
  ⟨a, x :: xs, 0, 0, x, rfl, rfl, S.get i e, by decide, by decide, by simp [seqIndex?], rfl, by show Q x (upd H a (.lst xs)); exact h _ (eL ▸ S.set i e rfl _)⟩
theorem map_hd {l : List Addr} (h : 0 < l.length) : l.map V.ref = V.ref (l.getD 0 0) :: l.tail.map V.ref := Hsh.un (by simp (disch := k_dflt (
  refine Hsh.up ?_
  cases l with
  | nil => cases h
  | cons a r => rfl
  )) only [↓Hsh.on])
theorem dn_fin {A : List Addr} {H0 H : Hp} {D : MD} {v : MV} {Z : MS} {o p l : Addr} {c1 c2 a b c : Cell} (vk : v.ok Z) (hS : SH A H0 H ((o, .lst (List.replicate 8 (V.int 0))) :: c1 :: (p, .lst [V.ref l, V.ref v.O]) :: (l, .lst (List.replicate 8 (V.int 0))) :: c2 :: a :: b :: c :: (v.O, .lst (Z.out.map V.int)) :: (D.R, .lst (v.ps.map V.ref ++ [V.ref p])) :: wC v Z.ws)) :
    SH A H0 H (a :: b :: c :: (o, .lst ((List.replicate 8 0).map V.int)) :: (D.R, .lst ((v.ps ++ [p]).map V.ref)) :: wC (v.dn p l o) (Z.ws ++ [(List.replicate 8 0, Z.out)])) := Hsh.un (by simp (disch := k_dflt (
  refine Hsh.up ?_
  have h1 := hS.pickT 5 [0, 2, 3] (by decide) (by decide) (L' := [(o, .lst (List.replicate 8 (V.int 0))), (p, .lst [V.ref l, V.ref v.O]), (l, .lst (List.replicate 8 (V.int 0)))]) rfl
  have h1 : SH A H0 H ((o, .lst (List.replicate 8 (V.int 0))) :: (p, .lst [V.ref l, V.ref v.O]) :: (l, .lst (List.replicate 8 (V.int 0))) :: a :: b :: c :: (v.O, .lst (Z.out.map V.int)) :: (D.R, .lst (v.ps.map V.ref ++ [V.ref p])) :: wC v Z.ws) := h1
  have h2 := SH.perm h1 (perm_dn (P := pairC v.ps v.qs) (Q := rowC (v.qs.map (·.1)) (Z.ws.map (·.1))) (R := rowC (v.qs.map (·.2)) (Z.ws.map (·.2))))
  rw [wC_snoc vk, List.map_append, List.map_replicate]
  exact h2
  )) only [↓Hsh.on])
theorem hcell {A : List Addr} {H0 H : Hp} {c0 c1 c2 c3 c4 : Cell} {v : MV} {ws : List (List Int × List Int)} (hS : SH A H0 H (c0 :: c1 :: c2 :: c3 :: c4 :: wC v ws)) {c : Cell} {k : Nat} (h : (wC v ws)[k]? = some c) : H c.1 = some c.2 :=
  hS.hs c (.tail _ (.tail _ (.tail _ (.tail _ (.tail _ (List.mem_of_getElem? h))))))
def sp_z_ring_down (K : PySem.W.Frag) : Sp := mk1 fun a H Q _ => ∃ (D : MD) (v : MV) (mem : List Int) (Z : MS), a = .ref D.m ∧ Blk H (mCells D v mem Z) ∧ Z.ok ∧ v.ok Z ∧ mem.length ≤ 1000 ∧
  ((Z.ws.length : Int) ≠ Z.n - 1 → ∀ v' H', v'.ok Z.dn → SH ((mCells D v mem Z).map (·.1)) H H' (mCells D v' mem Z.dn) → Q (.bl true) H') ∧
  ((Z.ws.length : Int) = Z.n - 1 → lies mem Z.start → ∀ v' H', v'.ok Z.sp.dn → SH ((mCells D v mem Z).map (·.1)) H H' (mCells D v' (mput mem Z.start Z.row) Z.sp.dn) → Q (.bl true) H') ∧
  ((Z.ws.length : Int) = Z.n - 1 → ¬ lies mem Z.start → Q (.bl false) H)
section
 local macro_rules | `(tactic| walk_at "st") => `(tactic| first
  | ((with_reducible refine c_z_lies (hS.get 0 rfl) (hS.get 1 rfl) (fun hL => ?_) (fun hL => ?_)))
  | ((with_reducible apply h_popAt0 hS); (· walk_at "ix"); (· walk_at "ls"); intro H1 hS1; walk_at "nw")
  | fail)
 local macro_rules | `(tactic| walk_at "rd") => `(tactic| (
  repeat' walk_at "st"
  (· rw [List.length_map, hps] at hc
     have h2 : 2 ≤ Z.ws.length := by omega
     have w1 := MS.at_8 ok (k := 1) (by omega)
     have w0 := MS.at_8 ok (k := 0) (by omega)
     unfold MS.at at w1 w0
     have hp1 := hcell hS (wC_p vk (k := 1) (by omega))
     have hp0 := hcell hS (wC_p vk (k := 0) (by omega))
     have hq1 := hcell hS (wC_i ok vk (k := 1) (by omega))
     have hq0 := hcell hS (wC_l ok vk (k := 0) (by omega))
     have hq00 := hcell hS (wC_i ok vk (k := 0) (by omega))
     repeat' walk_at "st"
     (· have hL : lies mem Z.start := hL
        have hr : Z.row.length = 16 := by unfold MS.row MS.at; rw [List.length_append]; omega
        have hS : SH ((mCells D v mem Z).map (·.1)) H H1 ((p, .lst (Z.row.map V.int)) :: mCells D v mem Z) := by
          unfold MS.row MS.at
          rw [List.map_append]
          exact hS
        refine u_forR1 (fun i σ H' => ∃ w, σ = [some (.ref D.m), some (.ref D.R), some (.ref D.mm), some (.int Z.start), some (.ref p), w] ∧ SH ((mCells D v mem Z).map (·.1)) H H' ((p, .lst (Z.row.map V.int)) :: mCells D v (mputk mem Z.start Z.row i) Z)) (by decide) (by decide) ⟨_, rfl, by rw [mputk_0]; exact hS⟩ ?_ ?_
        (· rintro i σ H2 hi ⟨w, rfl, hS⟩
           have hlen := mputk_len hL hr (k := i) (by omega)
           have hL0 := hL.1
           have hL1 := hL.2
           repeat' walk_at "st"
           rw [Int.toNat_natCast, mputk_set hL hr (by omega)] at hS
           exact ⟨_, rfl, hS⟩)
        (· rintro σ H2 ⟨w, rfl, hS⟩
           have hS : SH ((mCells D v mem Z).map (·.1)) H H2 ((p, .lst (Z.row.map V.int)) :: mCells D v (mputk mem Z.start Z.row 16) Z) := hS
           rw [mputk_16 hL.1 hr] at hS
           have hS : SH ((mCells D v mem Z).map (·.1)) H H2 ((D.m, dO D v.sp Z) :: (D.mm, mO (mput mem Z.start Z.row)) :: (D.S, .lst (Z.sh.map V.int)) :: (v.sp.O, .lst (Z.out.map V.int)) :: (D.R, .lst (V.ref (v.ps.getD 0 0) :: v.sp.ps.map V.ref)) :: wC v.sp Z.sp.ws) := by
             rw [show V.ref (v.ps.getD 0 0) :: v.sp.ps.map V.ref = v.ps.map V.ref from (map_hd (by omega)).symm]
             exact hS.drop1.sub (List.Sublist.cons_cons _ (List.Sublist.cons_cons _ (List.Sublist.cons_cons _ (List.Sublist.cons_cons _ (List.Sublist.cons_cons _ MV.tl_sub)))))
           have hpsl : v.sp.ps.length = v.ps.length - 1 := List.length_tail
           repeat' walk_at "st"
           exact k1 hc hL _ _ (MV.dn_ok (MV.sp_ok vk) _ _ _) (dn_fin (MV.sp_ok vk) hS)))
     (· exact k2 hc hL))
  (· rw [List.length_map, hps] at hc
     exact k0 hc _ _ (MV.dn_ok vk _ _ _) (dn_fin vk hS))))
theorem ok_z_ring_down {P : Program} {w : World} {K : PySem.W.Frag} {mg : Str → Option Value} {base : Heap} (Y : Env w K mg) (G_z_add : CallOk P w K mg base CX0 1 "_law_add" ["_law_m", "_law_key", "_law_by"] (sp_z_add K)) (G_z_lies : CallOk P w K mg base CX0 1 "_law_lies" ["_law_m", "_law_start"] (sp_z_lies K)) : CallOk P w K mg base CX0 2 "_law_ring_down" ["_law_m"] (sp_z_ring_down K) := Hsh.un (by simp (disch := k_dflt (
  refine Hsh.up ?_
  obtain ⟨fd, F⟩ := Y.fd_z_ring_down
  refine ⟨_, fd, Y.mg_z_ring_down, F.kp, F.bindsN (fun _ _ _ _ _ _ us hl => match us, hl with | [_], _ => rfl), F.ok sc_z_ring_down mk1_len (fun cdv A outer s H vs Q E hr h => ?_)⟩
  have hu := hu_room hr
  obtain ⟨_, rfl, D, v, mem, Z, rfl, hB, ok, vk, h1000, k0, k1, k2⟩ := h
  have hS : SH ((mCells D v mem Z).map (·.1)) H H (mCells D v mem Z) := hB.sh
  have hw := ok.w1
  have hn3 := ok.n3
  have hn33 := ok.n33
  have hwn := ok.wn
  have hps := vk.p
  have hqs := vk.q
  refine ⟨_, PSs.nox (pss_cons (ps_set (i := 1) sc_z_ring_down.nd rfl (Or.inl rfl) (pe_dget (hu1 hu) (pv 0) pe_str (fun _ _ => rfl)))
  (pss_cons (ps_set (i := 2) sc_z_ring_down.nd rfl (Or.inl rfl) (pe_dget (hu1 hu) (pv 0) pe_str (fun _ _ => rfl)))
  (pss_cons (ps_if (pt_cmpR (xEq hu) (pe_callB x_len rfl Y.z_len (by decide +kernel) (pa_cons (pv 1) pa_nil)) (pe_op op_sub (pe_dget (hu1 hu) (pv 0) pe_str (fun _ _ => rfl)) pe_int) (nomark _)) (pss_cons (ps_set (i := 3) sc_z_ring_down.nd rfl (Or.inl rfl) (pe_ix xIx (pe_ix xIx (pe_ix xIx (pv 1) pe_int (fun _ _ => rfl)) pe_int (fun _ _ => rfl)) pe_int (fun _ _ => rfl)))
  (pss_cons (ps_if (pt_not (pt_val (pe_callG G_z_lies hr rfl pass0 (pa_cons (pv 0) (pa_cons (pv 3) pa_nil))))) (pss_one (ps_ret pe_bl)) pss_nil)
  (pss_cons (ps_set (i := 4) sc_z_ring_down.nd rfl (Or.inl rfl) (pe_op xAdd (pe_ix xIx (pe_ix xIx (pv 1) pe_int (fun _ _ => rfl)) pe_int (fun _ _ => rfl)) (pe_ix xIx (pe_ix xIx (pv 1) pe_int (fun _ _ => rfl)) pe_int (fun _ _ => rfl))))
  (pss_cons (ps_for PassesOwn.never rfl (pi_range1 rfl Y.z_range (pa_cons pe_int pa_nil)) (pg_name (i := 5) sc_z_ring_down.nd rfl (Or.inl rfl))
  (pss_one (ps_asg (pe_ix xIx (pv 4) (pv 5) (fun _ _ => rfl)) (pg_sub (pv 2) (pe_op xAdd (pv 3) (pv 5)) set_list))))
  (pss_cons (ps_expr (pe_bm PySem.F.plainAttrs_list PySem.F.slot_list_pop PySem.F.type_list_pop mt_popAt (pv 1) (pa_cons pe_int pa_nil)))
  (pss_one (ps_expr (pe_callG G_z_add hr rfl pass0 (pa_cons (pv 0) (pa_cons pe_str (pa_cons pe_int pa_nil))))))))))) pss_nil)
  (pss_cons (ps_expr (pe_bm PySem.F.plainAttrs_list PySem.F.slot_list_append PySem.F.type_list_append mt_append (pv 1) (pa_cons (pe_lst (pa_cons (pe_op xMul (pe_lst (pa_cons pe_int pa_nil)) pe_int) (pa_cons (pe_dget (hu1 hu) (pv 0) pe_str (fun _ _ => rfl)) pa_nil))) pa_nil)))
  (pss_cons (ps_dput (hu1 hu) (pv 0) pe_str (pe_op xMul (pe_lst (pa_cons pe_int pa_nil)) pe_int) rfl)
  (pss_cons (ps_expr (pe_callG G_z_add hr rfl pass0 (pa_cons (pv 0) (pa_cons pe_str (pa_cons pe_int pa_nil)))))
  (pss_one (ps_ret pe_bl)))))))), ?_⟩
  rw [st_z_ring_down]
  try simp only [cxK, cxK2, cxW, cxW2]
  clear hu hr F
  walk_at "rd"
  )) only [↓Hsh.on])
theorem hot_z_ring_down {P : Program} {w : World} {K : PySem.W.Frag} {mg : Str → Option Value} {base : Heap} (Y : Env w K mg) (H_z_add : HotOk P w K mg base CX0 1 "_law_add" ["_law_m", "_law_key", "_law_by"] (sp_z_add K)) (H_z_lies : HotOk P w K mg base CX0 1 "_law_lies" ["_law_m", "_law_start"] (sp_z_lies K)) : HotOk P w K mg base CX0 2 "_law_ring_down" ["_law_m"] (sp_z_ring_down K) := Hsh.un (by simp (disch := k_dflt (
  refine Hsh.up ?_
  obtain ⟨fd, F⟩ := Y.fd_z_ring_down
  refine ⟨_, fd, Y.mg_z_ring_down, F.kp, F.bindsN (fun _ _ _ _ _ _ us hl => match us, hl with | [_], _ => rfl), FunD_okH F sc_z_ring_down mk1_len (fun cdv A outer s H vs Q E pz hot hr h => ?_)⟩
  have hu := hu_hot hr
  obtain ⟨_, rfl, D, v, mem, Z, rfl, hB, ok, vk, h1000, k0, k1, k2⟩ := h
  have hS : SH ((mCells D v mem Z).map (·.1)) H H (mCells D v mem Z) := hB.sh
  have hw := ok.w1
  have hn3 := ok.n3
  have hn33 := ok.n33
  have hwn := ok.wn
  have hps := vk.p
  have hqs := vk.q
  refine ⟨_, PSs.nox (pss_cons (ps_set (i := 1) sc_z_ring_down.nd rfl (Or.inl rfl) (pe_dget (hu1 hu) (pv 0) pe_str (fun _ _ => rfl)))
  (pss_cons (ps_set (i := 2) sc_z_ring_down.nd rfl (Or.inl rfl) (pe_dget (hu1 hu) (pv 0) pe_str (fun _ _ => rfl)))
  (pss_cons (ps_if (pt_cmpR (xEq hu) (pe_callB x_len rfl Y.z_len (by decide +kernel) (pa_cons (pv 1) pa_nil)) (pe_op op_sub (pe_dget (hu1 hu) (pv 0) pe_str (fun _ _ => rfl)) pe_int) (nomark _)) (pss_cons (ps_set (i := 3) sc_z_ring_down.nd rfl (Or.inl rfl) (pe_ix xIx (pe_ix xIx (pe_ix xIx (pv 1) pe_int (fun _ _ => rfl)) pe_int (fun _ _ => rfl)) pe_int (fun _ _ => rfl)))
  (pss_cons (ps_if (pt_not (pt_val (pe_callHG H_z_lies hr hot rfl (pa_cons (pv 0) (pa_cons (pv 3) pa_nil))))) (pss_one (ps_ret pe_bl)) pss_nil)
  (pss_cons (ps_set (i := 4) sc_z_ring_down.nd rfl (Or.inl rfl) (pe_op xAdd (pe_ix xIx (pe_ix xIx (pv 1) pe_int (fun _ _ => rfl)) pe_int (fun _ _ => rfl)) (pe_ix xIx (pe_ix xIx (pv 1) pe_int (fun _ _ => rfl)) pe_int (fun _ _ => rfl))))
  (pss_cons (L2H.ps_forH PassesOwn.never hot (L2H.pi_range1H rfl Y.z_range (pa_cons pe_int pa_nil)) (pg_name (i := 5) sc_z_ring_down.nd rfl (Or.inl rfl))
  (pss_one (ps_asg (pe_ix xIx (pv 4) (pv 5) (fun _ _ => rfl)) (pg_sub (pv 2) (pe_op xAdd (pv 3) (pv 5)) set_list))))
  (pss_cons (ps_expr (pe_bm PySem.F.plainAttrs_list PySem.F.slot_list_pop PySem.F.type_list_pop mt_popAt (pv 1) (pa_cons pe_int pa_nil)))
  (pss_one (ps_expr (pe_callHG H_z_add hr hot rfl (pa_cons (pv 0) (pa_cons pe_str (pa_cons pe_int pa_nil))))))))))) pss_nil)
  (pss_cons (ps_expr (pe_bm PySem.F.plainAttrs_list PySem.F.slot_list_append PySem.F.type_list_append mt_append (pv 1) (pa_cons (pe_lst (pa_cons (pe_op xMul (pe_lst (pa_cons pe_int pa_nil)) pe_int) (pa_cons (pe_dget (hu1 hu) (pv 0) pe_str (fun _ _ => rfl)) pa_nil))) pa_nil)))
  (pss_cons (ps_dput (hu1 hu) (pv 0) pe_str (pe_op xMul (pe_lst (pa_cons pe_int pa_nil)) pe_int) rfl)
  (pss_cons (ps_expr (pe_callHG H_z_add hr hot rfl (pa_cons (pv 0) (pa_cons pe_str (pa_cons pe_int pa_nil)))))
  (pss_one (ps_ret pe_bl)))))))), ?_⟩
  rw [st_z_ring_down]
  try simp only [cxKH, cxKH2]
  clear hu hr F hot
  walk_at "rd"
  )) only [↓Hsh.on])
end
theorem snoc_eq {α : Type} {l : List α} {d : α} (h : 0 < l.length) : l = l.dropLast ++ [l.getD (l.length - 1) d] := Hsh.un (by simp (disch := k_dflt (
  refine Hsh.up ?_
  have hne : l ≠ [] := fun e => by rw [e] at h; cases h
  have e := List.dropLast_concat_getLast hne
  rw [List.getLast_eq_getElem] at e
  rw [List.getD_eq_getElem?_getD, List.getElem?_eq_getElem (by omega)]
  exact e.symm
  )) only [↓Hsh.on])
def MV.up (v : MV) : MV := ⟨v.last.2, v.ps.dropLast, v.qs.dropLast⟩
theorem MV.up_ok {v : MV} {Z : MS} (vk : v.ok Z) : v.up.ok Z.up := ⟨by show v.ps.dropLast.length = Z.ws.dropLast.length; rw [List.length_dropLast, List.length_dropLast, vk.p], by show v.qs.dropLast.length = Z.ws.dropLast.length; rw [List.length_dropLast, List.length_dropLast, vk.q]⟩
def MV.fl (v : MV) (p a b : Addr) : MV := ⟨v.O, p :: v.ps, (a, b) :: v.qs⟩
theorem MV.fl_ok {v : MV} {Z : MS} (vk : v.ok Z) (p a b : Addr) (mem : List Int) : (v.fl p a b).ok (Z.fl mem) := ⟨by show (p :: v.ps).length = (_ :: Z.ws).length; rw [List.length_cons, List.length_cons, vk.p], by show (_ :: v.qs).length = (_ :: Z.ws).length; rw [List.length_cons, List.length_cons, vk.q]⟩
theorem up_fin {A : List Addr} {H0 H : Hp} {D : MD} {v : MV} {Z : MS} {x : HO} {a b c : Cell} (vk : v.ok Z) (hw : 0 < Z.ws.length) (hS : SH A H0 H (a :: b :: c :: (v.O, x) :: (D.R, .lst ((v.ps.map V.ref).dropLast)) :: wC v Z.ws)) :
    SH A H0 H (a :: b :: c :: (v.up.O, .lst (Z.last.2.map V.int)) :: (D.R, .lst (v.up.ps.map V.ref)) :: wC v.up Z.ws.dropLast) := Hsh.un (by simp (disch := k_dflt (
  refine Hsh.up ?_
  have hp := vk.p; have hq := vk.q
  have e1 := snoc_eq (l := v.ps) (d := 0) (by omega)
  have e2 := snoc_eq (l := v.qs) (d := (0, 0)) (by omega)
  have e3 := snoc_eq (l := Z.ws) (d := ([], [])) hw
  have e4 : wC v Z.ws = (pairC v.ps.dropLast v.qs.dropLast ++ [(v.ps.getD (v.ps.length - 1) 0, .lst [V.ref v.last.1, V.ref v.last.2])]) ++ ((rowC (v.qs.dropLast.map (·.1)) (Z.ws.dropLast.map (·.1)) ++ [(v.last.1, .lst (Z.last.1.map V.int))]) ++ (rowC (v.qs.dropLast.map (·.2)) (Z.ws.dropLast.map (·.2)) ++ [(v.last.2, .lst (Z.last.2.map V.int))])) := by
    unfold MV.last MS.last
    rw [← pairC_snoc (by rw [List.length_dropLast, List.length_dropLast]; omega), ← rowC_snoc (by rw [List.length_map, List.length_map, List.length_dropLast, List.length_dropLast]; omega), ← rowC_snoc (by rw [List.length_map, List.length_map, List.length_dropLast, List.length_dropLast]; omega)]
    unfold wC
    rw [← e1, ← e2]
    rw [show List.map (·.1) v.qs.dropLast ++ [(v.qs.getD (v.qs.length - 1) (0, 0)).1] = v.qs.map (·.1) by rw [← List.map_singleton, ← List.map_append, ← e2], show List.map (·.2) v.qs.dropLast ++ [(v.qs.getD (v.qs.length - 1) (0, 0)).2] = v.qs.map (·.2) by rw [← List.map_singleton, ← List.map_append, ← e2],
      show List.map (·.1) Z.ws.dropLast ++ [(Z.ws.getD (Z.ws.length - 1) ([], [])).1] = Z.ws.map (·.1) by rw [← List.map_singleton, ← List.map_append, ← e3], show List.map (·.2) Z.ws.dropLast ++ [(Z.ws.getD (Z.ws.length - 1) ([], [])).2] = Z.ws.map (·.2) by rw [← List.map_singleton, ← List.map_append, ← e3]]
  rw [e4] at hS
  have h2 := SH.perm hS (perm_dn (P := pairC v.ps.dropLast v.qs.dropLast) (Q := rowC (v.qs.dropLast.map (·.1)) (Z.ws.dropLast.map (·.1))) (R := rowC (v.qs.dropLast.map (·.2)) (Z.ws.dropLast.map (·.2)))).symm
  have h3 := h2.drop1.drop1.drop1
  rw [← List.map_dropLast] at h3
  exact h3
  )) only [↓Hsh.on])
theorem perm_fl {pp a2 a1 a b c O r : Cell} {P Q R : List Cell} : (pp :: a2 :: a1 :: a :: b :: c :: O :: r :: (P ++ (Q ++ R))).Perm (a :: b :: c :: O :: r :: ((pp :: P) ++ ((a1 :: Q) ++ (a2 :: R)))) := Hsh.un (by simp (disch := k_dflt (
  refine Hsh.up ?_
  have h : ((pp :: P) ++ ((a1 :: Q) ++ (a2 :: R))).Perm (pp :: a1 :: a2 :: (P ++ (Q ++ R))) := by
    refine List.Perm.cons _ ?_
    refine List.perm_middle.trans (List.Perm.cons _ ?_)
    refine (List.Perm.append_left _ List.perm_middle).trans List.perm_middle
  refine List.Perm.trans ?_ (((((h.cons r).cons O).cons c).cons b).cons a).symm
  refine (List.Perm.append_right (P ++ (Q ++ R)) (l₁ := [pp, a2, a1, a, b, c, O, r]) (l₂ := [a, b, c, O, r, pp, a1, a2]) ?_)
  exact (show (List.range 8).Perm [3, 4, 5, 6, 7, 0, 2, 1] by decide).map (fun i => [pp, a2, a1, a, b, c, O, r].getD i pp)
  )) only [↓Hsh.on])
theorem cut_lo (l : List Int) : cutV (l.map V.int) none (some 8) = (l.take 8).map V.int := Hsh.un (by simp (disch := k_dflt (
  refine Hsh.up ?_
  unfold cutV
  rw [show (8 : Int) = ((8 : Nat) : Int) from rfl, HT.sIx_nat, List.length_map]
  show ((l.map V.int).drop 0).take (min 8 l.length - 0) = _
  rw [List.drop_zero, Nat.sub_zero, ← List.map_take]
  congr 1
  by_cases h : 8 ≤ l.length
  · rw [Nat.min_eq_left h]
  · rw [List.take_of_length_le (by omega), List.take_of_length_le (by omega)]
  )) only [↓Hsh.on])
theorem cut_hi (l : List Int) : cutV (l.map V.int) (some 8) none = (l.drop 8).map V.int := Hsh.un (by simp (disch := k_dflt (
  refine Hsh.up ?_
  unfold cutV
  rw [show (8 : Int) = ((8 : Nat) : Int) from rfl, HT.sIx_nat, List.length_map]
  show ((l.map V.int).drop (min 8 l.length)).take (l.length - min 8 l.length) = _
  rw [← List.map_drop, ← List.map_take, List.take_of_length_le (by rw [List.length_drop]; omega)]
  congr 1
  by_cases h : 8 ≤ l.length
  · rw [Nat.min_eq_left h]
  · rw [List.drop_of_length_le (by omega), List.drop_of_length_le (by omega)]
  )) only [↓Hsh.on])
theorem fl_okZ {Z : MS} (ok : Z.ok) (h : Z.ws.length = 1) {mem : List Int} (hL : lies mem Z.startU) : (Z.fl mem).ok := Hsh.un (by simp (disch := k_dflt (
  refine Hsh.up ?_
  have hm := mcut_len hL
  have := ok.n3
  refine ⟨ok.s8, ok.o8, fun p hp => ?_, by show 0 < (_ :: Z.ws).length; rw [List.length_cons]; omega, by show (_ :: Z.ws).length < Z.n; rw [List.length_cons]; omega, ok.n3, ok.n33⟩
  rcases List.mem_cons.mp hp with rfl | hp
  · exact ⟨by rw [List.length_take]; omega, by rw [List.length_drop]; omega⟩
  · exact ok.w8 _ hp
  )) only [↓Hsh.on])
theorem fl_fin {A : List Addr} {H0 H : Hp} {v : MV} {Z : MS} {pp a1 a2 R : Addr} {mem : List Int} {wl a b c O : Cell} (hL : lies mem Z.startU)
    (hS : SH A H0 H ((pp, .lst [V.ref a1, V.ref a2]) :: (a2, .lst (cutV (cutV (mem.map V.int) (some Z.startU) (some (Z.startU + 16))) (some 8) none)) :: (a1, .lst (cutV (cutV (mem.map V.int) (some Z.startU) (some (Z.startU + 16))) none (some 8))) :: wl :: a :: b :: c :: O :: (R, .lst (V.ref pp :: v.ps.map V.ref)) :: wC v Z.ws)) :
    SH A H0 H (a :: b :: c :: O :: (R, .lst ((v.fl pp a1 a2).ps.map V.ref)) :: wC (v.fl pp a1 a2) (Z.fl mem).ws) := Hsh.un (by simp (disch := k_dflt (
  refine Hsh.up ?_
  rw [cut_16 hL, cut_lo, cut_hi] at hS
  have h1 := hS.pickT 4 [0, 1, 2] (by decide) (by decide) (L' := [(pp, .lst [V.ref a1, V.ref a2]), (a2, .lst (((mcut mem Z.startU).drop 8).map V.int)), (a1, .lst (((mcut mem Z.startU).take 8).map V.int))]) rfl
  have h1 : SH A H0 H ((pp, .lst [V.ref a1, V.ref a2]) :: (a2, .lst (((mcut mem Z.startU).drop 8).map V.int)) :: (a1, .lst (((mcut mem Z.startU).take 8).map V.int)) :: a :: b :: c :: O :: (R, .lst (V.ref pp :: v.ps.map V.ref)) :: wC v Z.ws) := h1
  exact SH.perm h1 (perm_fl (P := pairC v.ps v.qs) (Q := rowC (v.qs.map (·.1)) (Z.ws.map (·.1))) (R := rowC (v.qs.map (·.2)) (Z.ws.map (·.2))))
  )) only [↓Hsh.on])
def sp_z_ring_up (K : PySem.W.Frag) : Sp := mk1 fun a H Q _ => ∃ (D : MD) (v : MV) (mem : List Int) (Z : MS), a = .ref D.m ∧ Blk H (mCells D v mem Z) ∧ Z.ok ∧ v.ok Z ∧ mem.length ≤ 1000 ∧
  (Z.ws.length ≠ 1 → ∀ v' H', v'.ok Z.up → SH ((mCells D v mem Z).map (·.1)) H H' (mCells D v' mem Z.up) → Q (.bl true) H') ∧
  (Z.ws.length = 1 → lies mem Z.startU → ∀ v' H', v'.ok (Z.fl mem).up → SH ((mCells D v mem Z).map (·.1)) H H' (mCells D v' mem (Z.fl mem).up) → Q (.bl true) H') ∧
  (Z.ws.length = 1 → ¬ lies mem Z.startU → Q (.bl false) H)
section
 local macro_rules | `(tactic| walk_at "st") => `(tactic| first
  | ((with_reducible refine c_z_lies (hS.get 0 rfl) (hS.get 1 rfl) (fun hL => ?_) (fun hL => ?_)))
  | ((with_reducible apply h_insert0 hS); (· walk_at "ix"); (· walk_at "sz"); (· walk_at "ls"); intro H1 hS1; walk_at "nw")
  | fail)
 local macro_rules | `(tactic| walk_at "pv") => `(tactic| exact hpv)
 local macro_rules | `(tactic| walk_at "ru") => `(tactic| (
  repeat' walk_at "st"
  refine s_cutG (fun σ H' => ∃ x2 x3 v1 Z1, σ = [some (.ref D.m), some (.ref D.R), x2, x3, none] ∧ SH ((mCells D v mem Z).map (·.1)) H H' (mCells D v1 mem Z1) ∧ Z1.ok ∧ v1.ok Z1 ∧ ∀ v2 H', v2.ok Z1.up → SH ((mCells D v mem Z).map (·.1)) H H' (mCells D v2 mem Z1.up) → Q (.bl true) H') ?_ ?_
  (· repeat' walk_at "st"
     (· rw [List.length_map, hps] at hc
        have h1 : Z.ws.length = 1 := by omega
        have w0 := MS.at_8 ok (k := 0) (by omega)
        unfold MS.at at w0
        have hp0 := hcell hS (wC_p vk (k := 0) (by omega))
        have hq00 := hcell hS (wC_i ok vk (k := 0) (by omega))
        repeat' walk_at "st"
        (· have hL : lies mem Z.startU := hL
           exact ⟨_, _, v.fl _ _ _, Z.fl mem, rfl, fl_fin hL hS, fl_okZ ok h1 hL, MV.fl_ok vk _ _ _ _, k1 h1 hL⟩)
        (· exact k2 h1 hL))
     (· rw [List.length_map, hps] at hc
        exact ⟨_, _, v, Z, rfl, hS, ok, vk, k0 (by omega)⟩))
  (· rintro σ H1 ⟨x2, x3, v1, Z1, rfl, hS, ok1, vk1, kk⟩
     have hw1 := ok1.w1
     have hps1 := vk1.p
     have hpv : (v1.ps.map V.ref)[(v1.ps.map V.ref).length - 1]? = some (.ref (v1.ps.getD (Z1.ws.length - 1) 0)) := by
       rw [List.length_map, hps1, List.getElem?_map, List.getD_eq_getElem?_getD, List.getElem?_eq_getElem (by omega)]
       rfl
     repeat' walk_at "st"
     have hp := hcell hS (wC_p vk1 (k := Z1.ws.length - 1) (by omega))
     rw [show v1.qs.getD (Z1.ws.length - 1) (0, 0) = v1.last by unfold MV.last; rw [vk1.q]] at hp
     repeat' walk_at "st"
     exact kk v1.up _ (MV.up_ok vk1) (up_fin vk1 hw1 hS))))
theorem ok_z_ring_up {P : Program} {w : World} {K : PySem.W.Frag} {mg : Str → Option Value} {base : Heap} (Y : Env w K mg) (G_z_add : CallOk P w K mg base CX0 1 "_law_add" ["_law_m", "_law_key", "_law_by"] (sp_z_add K)) (G_z_lies : CallOk P w K mg base CX0 1 "_law_lies" ["_law_m", "_law_start"] (sp_z_lies K)) : CallOk P w K mg base CX0 2 "_law_ring_up" ["_law_m"] (sp_z_ring_up K) := Hsh.un (by simp (disch := k_dflt (
  refine Hsh.up ?_
  obtain ⟨fd, F⟩ := Y.fd_z_ring_up
  refine ⟨_, fd, Y.mg_z_ring_up, F.kp, F.bindsN (fun _ _ _ _ _ _ us hl => match us, hl with | [_], _ => rfl), F.ok sc_z_ring_up mk1_len (fun cdv A outer s H vs Q E hr h => ?_)⟩
  have hu := hu_room hr
  obtain ⟨_, rfl, D, v, mem, Z, rfl, hB, ok, vk, h1000, k0, k1, k2⟩ := h
  have hS : SH ((mCells D v mem Z).map (·.1)) H H (mCells D v mem Z) := hB.sh
  have hw := ok.w1
  have hn3 := ok.n3
  have hn33 := ok.n33
  have hwn := ok.wn
  have hps := vk.p
  have hqs := vk.q
  refine ⟨_, PSs.nox (pss_cons (ps_set (i := 1) sc_z_ring_up.nd rfl (Or.inl rfl) (pe_dget (hu1 hu) (pv 0) pe_str (fun _ _ => rfl)))
  (pss_cutG (ps_if (pt_cmpR (xEq hu) (pe_callB x_len rfl Y.z_len (by decide +kernel) (pa_cons (pv 1) pa_nil)) pe_int (nomark _)) (pss_cons (ps_set (i := 2) sc_z_ring_up.nd rfl (Or.inl rfl) (pe_ix xIx (pe_ix xIx (pe_ix xIx (pv 1) pe_int (fun _ _ => rfl)) pe_int (fun _ _ => rfl)) pe_int (fun _ _ => rfl)))
  (pss_cons (ps_if (pt_not (pt_val (pe_callG G_z_lies hr rfl pass0 (pa_cons (pv 0) (pa_cons (pv 2) pa_nil))))) (pss_one (ps_ret pe_bl)) pss_nil)
  (pss_cons (ps_set (i := 3) sc_z_ring_up.nd rfl (Or.inl rfl) (pe_slice xSl (pe_dget (hu1 hu) (pv 0) pe_str (fun _ _ => rfl)) (po_some (pv 2)) (po_some (pe_op xAdd (pv 2) pe_int))))
  (pss_cons (ps_expr (pe_bm PySem.F.plainAttrs_list PySem.F.slot_list_insert PySem.F.type_list_insert xt_insert (pv 1) (pa_cons pe_int (pa_cons (pe_lst (pa_cons (pe_slice xSl (pv 3) po_none (po_some pe_int)) (pa_cons (pe_slice xSl (pv 3) (po_some pe_int) po_none) pa_nil))) pa_nil))))
  (pss_one (ps_expr (pe_callG G_z_add hr rfl pass0 (pa_cons (pv 0) (pa_cons pe_str (pa_cons pe_int pa_nil)))))))))) pss_nil)
  (pss_cons (ps_set (i := 4) sc_z_ring_up.nd rfl (Or.inl rfl) (pe_bm0 PySem.F.plainAttrs_list PySem.F.slot_list_pop PySem.F.type_list_pop mt_pop (pv 1)))
  (pss_cons (ps_dput (hu1 hu) (pv 0) pe_str (pe_ix xIx (pv 4) pe_int (fun _ _ => rfl)) rfl)
  (pss_cons (ps_expr (pe_callG G_z_add hr rfl pass0 (pa_cons (pv 0) (pa_cons pe_str (pa_cons (pe_un un_neg pe_int) pa_nil)))))
  (pss_one (ps_ret pe_bl))))))), ?_⟩
  rw [st_z_ring_up]
  try simp only [cxK, cxK2, cxW, cxW2]
  clear hu hr F
  walk_at "ru"
  )) only [↓Hsh.on])
theorem hot_z_ring_up {P : Program} {w : World} {K : PySem.W.Frag} {mg : Str → Option Value} {base : Heap} (Y : Env w K mg) (H_z_add : HotOk P w K mg base CX0 1 "_law_add" ["_law_m", "_law_key", "_law_by"] (sp_z_add K)) (H_z_lies : HotOk P w K mg base CX0 1 "_law_lies" ["_law_m", "_law_start"] (sp_z_lies K)) : HotOk P w K mg base CX0 2 "_law_ring_up" ["_law_m"] (sp_z_ring_up K) := Hsh.un (by simp (disch := k_dflt (
  refine Hsh.up ?_
  obtain ⟨fd, F⟩ := Y.fd_z_ring_up
  refine ⟨_, fd, Y.mg_z_ring_up, F.kp, F.bindsN (fun _ _ _ _ _ _ us hl => match us, hl with | [_], _ => rfl), FunD_okH F sc_z_ring_up mk1_len (fun cdv A outer s H vs Q E pz hot hr h => ?_)⟩
  have hu := hu_hot hr
  obtain ⟨_, rfl, D, v, mem, Z, rfl, hB, ok, vk, h1000, k0, k1, k2⟩ := h
  have hS : SH ((mCells D v mem Z).map (·.1)) H H (mCells D v mem Z) := hB.sh
  have hw := ok.w1
  have hn3 := ok.n3
  have hn33 := ok.n33
  have hwn := ok.wn
  have hps := vk.p
  have hqs := vk.q
  refine ⟨_, PSs.nox (pss_cons (ps_set (i := 1) sc_z_ring_up.nd rfl (Or.inl rfl) (pe_dget (hu1 hu) (pv 0) pe_str (fun _ _ => rfl)))
  (pss_cutG (ps_if (pt_cmpR (xEq hu) (pe_callB x_len rfl Y.z_len (by decide +kernel) (pa_cons (pv 1) pa_nil)) pe_int (nomark _)) (pss_cons (ps_set (i := 2) sc_z_ring_up.nd rfl (Or.inl rfl) (pe_ix xIx (pe_ix xIx (pe_ix xIx (pv 1) pe_int (fun _ _ => rfl)) pe_int (fun _ _ => rfl)) pe_int (fun _ _ => rfl)))
  (pss_cons (ps_if (pt_not (pt_val (pe_callHG H_z_lies hr hot rfl (pa_cons (pv 0) (pa_cons (pv 2) pa_nil))))) (pss_one (ps_ret pe_bl)) pss_nil)
  (pss_cons (ps_set (i := 3) sc_z_ring_up.nd rfl (Or.inl rfl) (pe_slice xSl (pe_dget (hu1 hu) (pv 0) pe_str (fun _ _ => rfl)) (po_some (pv 2)) (po_some (pe_op xAdd (pv 2) pe_int))))
  (pss_cons (ps_expr (pe_bm PySem.F.plainAttrs_list PySem.F.slot_list_insert PySem.F.type_list_insert xt_insert (pv 1) (pa_cons pe_int (pa_cons (pe_lst (pa_cons (pe_slice xSl (pv 3) po_none (po_some pe_int)) (pa_cons (pe_slice xSl (pv 3) (po_some pe_int) po_none) pa_nil))) pa_nil))))
  (pss_one (ps_expr (pe_callHG H_z_add hr hot rfl (pa_cons (pv 0) (pa_cons pe_str (pa_cons pe_int pa_nil)))))))))) pss_nil)
  (pss_cons (ps_set (i := 4) sc_z_ring_up.nd rfl (Or.inl rfl) (pe_bm0 PySem.F.plainAttrs_list PySem.F.slot_list_pop PySem.F.type_list_pop mt_pop (pv 1)))
  (pss_cons (ps_dput (hu1 hu) (pv 0) pe_str (pe_ix xIx (pv 4) pe_int (fun _ _ => rfl)) rfl)
  (pss_cons (ps_expr (pe_callHG H_z_add hr hot rfl (pa_cons (pv 0) (pa_cons pe_str (pa_cons (pe_un un_neg pe_int) pa_nil)))))
  (pss_one (ps_ret pe_bl))))))), ?_⟩
  rw [st_z_ring_up]
  try simp only [cxKH, cxKH2]
  clear hu hr F hot
  walk_at "ru"
  )) only [↓Hsh.on])
end
/-! ### both -/
abbrev BC (K : PySem.W.Frag) (B : BA) (mm : Addr) (mem : List Int) (X : RS) (D : MD) (v : MV) (Z : MS) : List Cell := LR K B mm mem X ++ mCells D v mem Z
theorem c_shift_down {K : PySem.W.Frag} {A : List Addr} {H0 H : Hp} {G : List Cell} {B : BA} {mm : Addr} {mem : List Int} {X : RS} {Q : VK} {E : XK} (hS : SH A H0 H (LR K B mm mem X ++ G)) (ok : X.W.ok) (hl : B.rs.length = X.W.rows.length) (h1000 : mem.length ≤ 1000)
    (k0 : X.res ≠ (X.W.rows.length : Nat) - 1 → ∀ H', SH A H0 H' (LR K B mm mem X.dn ++ G) → Q .non H')
    (k1 : X.res = (X.W.rows.length : Nat) - 1 → lies mem X.start → ∀ H', SH A H0 H' (LR K B mm (mput mem X.start X.row) X.sp.dn ++ G) → Q .non H')
    (k2 : X.res = (X.W.rows.length : Nat) - 1 → ¬ lies mem X.start → E (.ref (He.ga K "Fault")) none H) : sp_Ring_shift_down K (.ref B.b :: ([] ++ [])) H Q E :=
  ⟨_, rfl, B, mm, X, mem, rfl, SH.blkM [] _ G hS, ok, hl, h1000, fun h H' C => k0 h H' (hS.call C), fun h hL H' C => k1 h hL H' (hS.call C), k2⟩
theorem c_shift_up {K : PySem.W.Frag} {A : List Addr} {H0 H : Hp} {G : List Cell} {B : BA} {mm : Addr} {mem : List Int} {X : RS} {Q : VK} {E : XK} (hS : SH A H0 H (LR K B mm mem X ++ G)) (ok : X.W.ok) (hl : B.rs.length = X.W.rows.length) (h1000 : mem.length ≤ 1000)
    (k0 : X.res ≠ 1 → ∀ H', SH A H0 H' (LR K B mm mem X.up ++ G) → Q .non H')
    (k1 : X.res = 1 → lies mem X.startU → ∀ rs' H', rs'.length = X.W.rows.length → SH A H0 H' (LR K ⟨B.b, B.dx, B.S, B.R, rs'⟩ mm mem (X.fl mem).up ++ G) → Q .non H')
    (k2 : X.res = 1 → ¬ lies mem X.startU → E (.ref (He.ga K "Fault")) none H) : sp_Ring_shift_up K (.ref B.b :: ([] ++ [])) H Q E :=
  ⟨_, rfl, B, mm, X, mem, rfl, SH.blkM [] _ G hS, ok, hl, h1000, fun h H' C => k0 h H' (hS.call C), fun h hL rs' H' l C => k1 h hL rs' H' l (hS.call C), k2⟩
theorem c_z_rdown {K : PySem.W.Frag} {A : List Addr} {H0 H : Hp} {F : List Cell} {D : MD} {v : MV} {mem : List Int} {Z : MS} {Q : VK} {E : XK} (hS : SH A H0 H (F ++ mCells D v mem Z)) (ok : Z.ok) (vk : v.ok Z) (h1000 : mem.length ≤ 1000)
    (k0 : (Z.ws.length : Int) ≠ Z.n - 1 → ∀ v' H', v'.ok Z.dn → SH A H0 H' (F ++ mCells D v' mem Z.dn) → Q (.bl true) H')
    (k1 : (Z.ws.length : Int) = Z.n - 1 → lies mem Z.start → ∀ v' H', v'.ok Z.sp.dn → SH A H0 H' (F ++ mCells D v' (mput mem Z.start Z.row) Z.sp.dn) → Q (.bl true) H')
    (k2 : (Z.ws.length : Int) = Z.n - 1 → ¬ lies mem Z.start → Q (.bl false) H) : sp_z_ring_down K ([.ref D.m] ++ []) H Q E :=
  ⟨_, rfl, D, v, mem, Z, rfl, SH.blkR F _ hS, ok, vk, h1000, fun h v' H' w C => k0 h v' H' w (hS.callR C), fun h hL v' H' w C => k1 h hL v' H' w (hS.callR C), k2⟩
theorem c_z_rup {K : PySem.W.Frag} {A : List Addr} {H0 H : Hp} {F : List Cell} {D : MD} {v : MV} {mem : List Int} {Z : MS} {Q : VK} {E : XK} (hS : SH A H0 H (F ++ mCells D v mem Z)) (ok : Z.ok) (vk : v.ok Z) (h1000 : mem.length ≤ 1000)
    (k0 : Z.ws.length ≠ 1 → ∀ v' H', v'.ok Z.up → SH A H0 H' (F ++ mCells D v' mem Z.up) → Q (.bl true) H')
    (k1 : Z.ws.length = 1 → lies mem Z.startU → ∀ v' H', v'.ok (Z.fl mem).up → SH A H0 H' (F ++ mCells D v' mem (Z.fl mem).up) → Q (.bl true) H')
    (k2 : Z.ws.length = 1 → ¬ lies mem Z.startU → Q (.bl false) H) : sp_z_ring_up K ([.ref D.m] ++ []) H Q E :=
  ⟨_, rfl, D, v, mem, Z, rfl, SH.blkR F _ hS, ok, vk, h1000, fun h v' H' w C => k0 h v' H' w (hS.callR C), fun h hL v' H' w C => k1 h hL v' H' w (hS.callR C), k2⟩
/-- the ring and the model, each with its own memory of the same words -/
def sp_z_goes_down (K : PySem.W.Frag) : Sp := mk2 fun a b H Q _ => ∃ (B : BA) (mm : Addr) (mem : List Int) (X : RS) (D : MD) (v : MV) (Z : MS), a = .ref B.b ∧ b = .ref D.m ∧ Blk H (BC K B mm mem X D v Z) ∧ Rel X Z ∧ v.ok Z ∧ B.rs.length = X.W.rows.length ∧ mem.length ≤ 1000 ∧
  ∀ mem' X' v' Z' H', SH ((BC K B mm mem X D v Z).map (·.1)) H H' (BC K B mm mem' X' D v' Z') → Rel X' Z' → v'.ok Z' → X'.W.rows.length = X.W.rows.length → mem'.length = mem.length → Q (.bl true) H'
theorem dn_rows (X : RS) : X.dn.W.rows.length = X.W.rows.length := clrR_len _ _
theorem ok_z_goes_down {P : Program} {w : World} {K : PySem.W.Frag} {mg : Str → Option Value} {base : Heap} (Y : Env w K mg) (G_Ring_shift_down : MethOk P w K mg base (L2N.CX P w) 3 "Ring" "shift_down" ["self"] (sp_Ring_shift_down K)) (G_z_ring_down : CallOk P w K mg base CX0 2 "_law_ring_down" ["_law_m"] (sp_z_ring_down K)) (H_z_ring_down : HotOk P w K mg base CX0 2 "_law_ring_down" ["_law_m"] (sp_z_ring_down K)) : CallOk P w K mg base CX0 4 "_law_goes_down" ["_law_ring", "_law_m"] (sp_z_goes_down K) := Hsh.un (by simp (disch := k_dflt (
  refine Hsh.up ?_
  obtain ⟨fd, F⟩ := Y.fd_z_goes_down
  refine ⟨_, fd, Y.mg_z_goes_down, F.kp, F.bindsN (fun _ _ _ _ _ _ us hl => match us, hl with | [_, _], _ => rfl), F.ok sc_z_goes_down mk2_len (fun cdv A outer s H vs Q E hr h => ?_)⟩
  have hu := hu_room hr
  obtain ⟨_, _, rfl, B, mm, mem, X, D, v, Z, rfl, rfl, hB, R, vk, hl, h1000, k⟩ := h
  have hS : SH ((BC K B mm mem X D v Z).map (·.1)) H H (BC K B mm mem X D v Z) := hB.sh
  have hn := R.n
  have hres := R.res
  have hwn := R.yk.wn
  have hn3 := R.yk.n3
  refine ⟨_, PSs.nox (pss_cons (ps_tryN rfl rfl sc_z_goes_down.nd takesN (fun W pn xe tk hpo => (pss_one (ps_set (i := 2) sc_z_goes_down.nd rfl (Or.inl rfl) (pe_methSG0 (K := K) (pv 0) G_Ring_shift_down hr (fun σ => L2N.passAt tk σ) rfl ?_))))
  (HdsN.als (i := 3) rfl rfl (tst1 ⟨rfl, by decide, .inl Y.mg_Fault⟩) (fun a oe cls d pn hz hf hot => (pss_one (ps_ret (pe_and (pe_callB (x_isinE hz.zc hf) rfl Y.z_isinstance (by decide +kernel) (pa_cons (pv 3) (pa_cons (pe_gr rfl Y.mg_AdaError) pa_nil))) (pe_one (pe_not (pe_callHG H_z_ring_down (roomS (hr.mono (by decide))) hot rfl (pa_cons (pv 1) pa_nil))))))))
  HdsN.nil) pss_nil)
  (pss_one (ps_ret (pe_and (pe_cmpR xIs (pv 2) pe_non (nomark _)) (pe_one (pe_callG G_z_ring_down (hr.mono (by decide)) rfl pass0 (pa_cons (pv 1) pa_nil))))))), ?_⟩
  · rfl
  rw [st_z_goes_down]
  try simp only [cxK, cxK2, cxW, cxW2]
  clear hu hr F
  repeat' walk_at "st"
  refine c_shift_down (G := mCells D v mem Z) hS R.ok hl h1000 (fun hr H1 hS => ?_) (fun hr hL H1 hS => ?_) (fun hr hL => ?_)
  · repeat' walk_at "st"
    refine c_z_rdown (F := LR K B mm mem X.dn) hS R.yk vk h1000 (fun _ v' H' w hS => ?_) (fun h => absurd h (by omega)) (fun h => absurd h (by omega))
    exact k mem X.dn v' Z.dn H' hS (R.dn (by omega)) w (dn_rows X) rfl
  · have h2 : 2 ≤ Z.ws.length := by omega
    have es := R.start h2
    have er := R.row
    rw [es, er] at hS
    rw [es] at hL
    have hr16 : Z.row.length = 16 := by
      have := MS.at_8 R.yk (k := 0) (by omega)
      unfold MS.row
      rw [List.length_append]
      omega
    repeat' walk_at "st"
    refine c_z_rdown (F := LR K B mm (mput mem Z.start Z.row) X.sp.dn) hS R.yk vk h1000 (fun h => absurd (by omega) h) (fun _ _ v' H' w hS => ?_) (fun _ h => absurd hL h)
    exact k (mput mem Z.start Z.row) X.sp.dn v' Z.sp.dn H' hS ((R.sp h2).dn (by show Z.ws.tail.length + 1 < Z.n; rw [List.length_tail]; omega)) w (dn_rows X.sp) (mput_len hL hr16)
  · have h2 : 2 ≤ Z.ws.length := by omega
    rw [R.start h2] at hL
    refine s_WE ?_
    repeat' walk_at "st"
    refine c_z_rdown (F := LR K B mm mem X) hS R.yk vk h1000 (fun h => absurd (by omega) h) (fun _ h => absurd h hL) (fun _ _ => ?_)
    repeat' walk_at "st"
    exact k mem X v Z _ hS R vk rfl rfl
  )) only [↓Hsh.on])
def sp_z_goes_up (K : PySem.W.Frag) : Sp := mk2 fun a b H Q _ => ∃ (B : BA) (mm : Addr) (mem : List Int) (X : RS) (D : MD) (v : MV) (Z : MS), a = .ref B.b ∧ b = .ref D.m ∧ Blk H (BC K B mm mem X D v Z) ∧ Rel X Z ∧ v.ok Z ∧ B.rs.length = X.W.rows.length ∧ mem.length ≤ 1000 ∧
  ∀ rs' X' v' Z' H', SH ((BC K B mm mem X D v Z).map (·.1)) H H' (BC K ⟨B.b, B.dx, B.S, B.R, rs'⟩ mm mem X' D v' Z') → Rel X' Z' → v'.ok Z' → rs'.length = X'.W.rows.length → X'.W.rows.length = X.W.rows.length → Q (.bl true) H'
theorem ok_z_goes_up {P : Program} {w : World} {K : PySem.W.Frag} {mg : Str → Option Value} {base : Heap} (Y : Env w K mg) (G_Ring_shift_up : MethOk P w K mg base (L2N.CX P w) 3 "Ring" "shift_up" ["self"] (sp_Ring_shift_up K)) (G_z_ring_up : CallOk P w K mg base CX0 2 "_law_ring_up" ["_law_m"] (sp_z_ring_up K)) (H_z_ring_up : HotOk P w K mg base CX0 2 "_law_ring_up" ["_law_m"] (sp_z_ring_up K)) : CallOk P w K mg base CX0 4 "_law_goes_up" ["_law_ring", "_law_m"] (sp_z_goes_up K) := Hsh.un (by simp (disch := k_dflt (
  refine Hsh.up ?_
  obtain ⟨fd, F⟩ := Y.fd_z_goes_up
  refine ⟨_, fd, Y.mg_z_goes_up, F.kp, F.bindsN (fun _ _ _ _ _ _ us hl => match us, hl with | [_, _], _ => rfl), F.ok sc_z_goes_up mk2_len (fun cdv A outer s H vs Q E hr h => ?_)⟩
  have hu := hu_room hr
  obtain ⟨_, _, rfl, B, mm, mem, X, D, v, Z, rfl, rfl, hB, R, vk, hl, h1000, k⟩ := h
  have hS : SH ((BC K B mm mem X D v Z).map (·.1)) H H (BC K B mm mem X D v Z) := hB.sh
  have hn := R.n
  have hres := R.res
  have hwn := R.yk.wn
  have hn3 := R.yk.n3
  have hw1 := R.yk.w1
  refine ⟨_, PSs.nox (pss_cons (ps_tryN rfl rfl sc_z_goes_up.nd takesN (fun W pn xe tk hpo => (pss_one (ps_set (i := 2) sc_z_goes_up.nd rfl (Or.inl rfl) (pe_methSG0 (K := K) (pv 0) G_Ring_shift_up hr (fun σ => L2N.passAt tk σ) rfl ?_))))
  (HdsN.als (i := 3) rfl rfl (tst1 ⟨rfl, by decide, .inl Y.mg_Fault⟩) (fun a oe cls d pn hz hf hot => (pss_one (ps_ret (pe_and (pe_callB (x_isinE hz.zc hf) rfl Y.z_isinstance (by decide +kernel) (pa_cons (pv 3) (pa_cons (pe_gr rfl Y.mg_AdaError) pa_nil))) (pe_one (pe_not (pe_callHG H_z_ring_up (roomS (hr.mono (by decide))) hot rfl (pa_cons (pv 1) pa_nil))))))))
  HdsN.nil) pss_nil)
  (pss_one (ps_ret (pe_and (pe_cmpR xIs (pv 2) pe_non (nomark _)) (pe_one (pe_callG G_z_ring_up (hr.mono (by decide)) rfl pass0 (pa_cons (pv 1) pa_nil))))))), ?_⟩
  · rfl
  rw [st_z_goes_up]
  try simp only [cxK, cxK2, cxW, cxW2]
  clear hu hr F
  repeat' walk_at "st"
  refine c_shift_up (G := mCells D v mem Z) hS R.ok hl h1000 (fun hr H1 hS => ?_) (fun hr hL rs' H1 hl' hS => ?_) (fun hr hL => ?_)
  · repeat' walk_at "st"
    refine c_z_rup (F := LR K B mm mem X.up) hS R.yk vk h1000 (fun _ v' H' w hS => ?_) (fun h => absurd h (by omega)) (fun h => absurd h (by omega))
    exact k B.rs X.up v' Z.up H' hS (R.up (by omega)) w hl rfl
  · have h1 : Z.ws.length = 1 := by omega
    rw [R.startU h1] at hL
    repeat' walk_at "st"
    refine c_z_rup (F := LR K ⟨B.b, B.dx, B.S, B.R, rs'⟩ mm mem (X.fl mem).up) hS R.yk vk h1000 (fun h => absurd (by omega) h) (fun _ _ v' H' w hS => ?_) (fun _ h => absurd hL h)
    exact k rs' (X.fl mem).up v' (Z.fl mem).up H' hS ((R.fl h1 hL).up (by show 2 ≤ (_ :: Z.ws).length; rw [List.length_cons]; omega)) w (hl'.trans (fl_len _ _).symm) (fl_len _ _)
  · have h1 : Z.ws.length = 1 := by omega
    rw [R.startU h1] at hL
    refine s_WE ?_
    repeat' walk_at "st"
    refine c_z_rup (F := LR K B mm mem X) hS R.yk vk h1000 (fun h => absurd (by omega) h) (fun _ h => absurd h hL) (fun _ _ => ?_)
    repeat' walk_at "st"
    exact k B.rs X v Z _ hS R vk hl rfl
  )) only [↓Hsh.on])
def sp_z_is_integer (K : PySem.W.Frag) : Sp := mk1 fun a H Q _ => ∃ n : Int, a = .int n ∧ Q (.bl true) H
theorem ok_z_is_integer {P : Program} {w : World} {K : PySem.W.Frag} {mg : Str → Option Value} {base : Heap} (Y : Env w K mg)  : CallOk P w K mg base CX0 1 "_law_is_integer" ["_law_actual"] (sp_z_is_integer K) := Hsh.un (by simp (disch := k_dflt (
  refine Hsh.up ?_
  obtain ⟨fd, F⟩ := Y.fd_z_is_integer
  refine ⟨_, fd, Y.mg_z_is_integer, F.kp, F.bindsN (fun _ _ _ _ _ _ us hl => match us, hl with | [_], _ => rfl), F.ok sc_z_is_integer mk1_len (fun cdv A outer s H vs Q E hr h => ?_)⟩
  have hu := hu_room hr
  obtain ⟨_, rfl, n, rfl, k⟩ := h
  have hS : SH [] H H [] := SH.start0
  refine ⟨_, PSs.nox (pss_one (ps_ret (pe_and (pe_callB x_isinstance rfl Y.z_isinstance (by decide +kernel) (pa_cons (pv 0) (pa_cons (pe_bltn rfl Y.z_int (by decide +kernel) (show RelV (.ty "int") (.type "int") from rfl)) pa_nil))) (pe_one (pe_not (pe_callB x_isinstance rfl Y.z_isinstance (by decide +kernel) (pa_cons (pv 0) (pa_cons (pe_bltn rfl Y.z_bool (by decide +kernel) (show RelV (.ty "bool") (.type "bool") from rfl)) pa_nil)))))))), ?_⟩
  rw [st_z_is_integer]
  try simp only [cxK, cxK2, cxW, cxW2]
  clear hu hr F
  repeat' walk_at "st"
  exact k
  )) only [↓Hsh.on])
theorem c_z_is_integer {K : PySem.W.Frag} {H : Hp} {n : Int} {Q : VK} {E : XK} (k : Q (.bl true) H) : sp_z_is_integer K ([.int n] ++ []) H Q E := ⟨_, rfl, n, rfl, k⟩
theorem c_blk_down {K : PySem.W.Frag} {H : Hp} {b : Addr} {Q : VK} {E : XK} (k : Q (.bl false) H) : sp_Ring_blocked_down K (.ref b :: ([] ++ [])) H Q E := ⟨_, rfl, b, rfl, k⟩
theorem c_blk_up {K : PySem.W.Frag} {H : Hp} {b : Addr} {Q : VK} {E : XK} (k : Q (.bl false) H) : sp_Ring_blocked_up K (.ref b :: ([] ++ [])) H Q E := ⟨_, rfl, b, rfl, k⟩
local macro_rules | `(tactic| walk_at "st") => `(tactic| first | (with_reducible refine c_z_is_integer ?_) | (with_reducible refine c_blk_down ?_) | (with_reducible refine c_blk_up ?_) | fail)
def sp_z_write (K : PySem.W.Frag) : Sp := mk4 fun a b c d H Q _ => ∃ (B : BA) (mm : Addr) (mem : List Int) (X : RS) (D : MD) (v : MV) (Z : MS) (n x : Int), a = .ref B.b ∧ b = .ref D.m ∧ c = .int n ∧ d = .int x ∧ Blk H (BC K B mm mem X D v Z) ∧ Rel X Z ∧ v.ok Z ∧ B.rs.length = X.W.rows.length ∧ 0 ≤ n ∧ n < 32 ∧
  ∀ H', SH ((BC K B mm mem X D v Z).map (·.1)) H H' (BC K B mm mem ⟨X.W.setR n x, X.res⟩ D v (Z.setR n x)) → Q (.bl true) H'
theorem ok_z_write {P : Program} {w : World} {K : PySem.W.Frag} {mg : Str → Option Value} {base : Heap} (Y : Env w K mg) (G_Ring_write : MethOk P w K mg base CX0 2 "Ring" "write" ["self", "number", "word"] (sp_Ring_write K)) (G_z_set : CallOk P w K mg base CX0 2 "_law_set" ["_law_m", "_law_number", "_law_word_here"] (sp_z_set K)) : CallOk P w K mg base CX0 3 "_law_write" ["_law_ring", "_law_m", "_law_number", "_law_word_here"] (sp_z_write K) := Hsh.un (by simp (disch := k_dflt (
  refine Hsh.up ?_
  obtain ⟨fd, F⟩ := Y.fd_z_write
  refine ⟨_, fd, Y.mg_z_write, F.kp, F.bindsN (fun _ _ _ _ _ _ us hl => match us, hl with | [_, _, _, _], _ => rfl), F.ok sc_z_write mk4_len (fun cdv A outer s H vs Q E hr h => ?_)⟩
  have hu := hu_room hr
  obtain ⟨_, _, _, _, rfl, B, mm, mem, X, D, v, Z, n, x, rfl, rfl, rfl, rfl, hB, R, vk, hl, h0, h1, k⟩ := h
  have hS : SH ((BC K B mm mem X D v Z).map (·.1)) H H (BC K B mm mem X D v Z) := hB.sh
  refine ⟨_, PSs.nox (pss_cons (ps_expr (pe_callG G_z_set hr rfl pass0 (pa_cons (pv 1) (pa_cons (pv 2) (pa_cons (pv 3) pa_nil)))))
  (pss_one (ps_ret (pe_cmpR xIs (pe_methG (pv 0) G_Ring_write hr pass0 (pa_cons (pv 2) (pa_cons (pv 3) pa_nil))) pe_non (nomark _))))), ?_⟩
  rw [st_z_write]
  try simp only [cxK, cxK2, cxW, cxW2]
  clear hu hr F
  repeat' walk_at "st"
  refine ⟨_, _, _, rfl, D, v, mem, Z, n, x, rfl, rfl, rfl, SH.blkR (LR K B mm mem X) _ hS, R.yk, vk, h0, h1, fun H1 C => ?_⟩
  have hS : SH ((BC K B mm mem X D v Z).map (·.1)) H H1 (BC K B mm mem X D v (Z.setR n x)) := hS.callR C
  repeat' walk_at "st"
  refine ⟨_, _, _, rfl, B, mm, X.W, X.res, n, x, rfl, rfl, rfl, SH.blkM [(mm, mO mem)] (bCells K B mm X) _ hS, R.ok, hl, h0, h1, fun H2 C => ?_⟩
  have hS : SH ((BC K B mm mem X D v Z).map (·.1)) H H2 (BC K B mm mem ⟨X.W.setR n x, X.res⟩ D v (Z.setR n x)) := SH.callM (F := [(mm, mO mem)]) hS C
  repeat' walk_at "st"
  exact k _ hS
  )) only [↓Hsh.on])
def sp_z_alike (K : PySem.W.Frag) : Sp := mk3 fun a b c H Q _ => ∃ (B : BA) (mm : Addr) (mem : List Int) (X : RS) (D : MD) (v : MV) (Z : MS), a = .ref B.b ∧ b = .ref D.m ∧ c = .ref mm ∧ (∀ c ∈ BC K B mm mem X D v Z, H c.1 = some c.2) ∧ Rel X Z ∧ v.ok Z ∧ B.rs.length = X.W.rows.length ∧ ∀ H', Keep [] H H' → Q (.bl true) H'
section
 local macro_rules | `(tactic| walk_at "st") => `(tactic| first
  | ((with_reducible show sp_Ring_read _ _ _ _ _); apply c_Ring_read hS (fun c hc => hS.ro (hBB c hc)); (· exact R.ok); (· exact hl); (· walk_at "ar"); (· walk_at "ar"); intro H1 hS1 _; walk_at "nw")
  | ((with_reducible show sp_z_get _ _ _ _ _); apply c_z_get hS (fun c hc => hS.ro (hM c hc)); (· exact R.yk); (· exact vk); (· walk_at "ar"); (· walk_at "ar"); intro H1 hS1 _; walk_at "nw")
  | fail)
theorem ok_z_alike {P : Program} {w : World} {K : PySem.W.Frag} {mg : Str → Option Value} {base : Heap} (Y : Env w K mg) (G_Ring_blocked_down : MethOk P w K mg base CX0 1 "Ring" "blocked_down" ["self"] (sp_Ring_blocked_down K)) (G_Ring_blocked_up : MethOk P w K mg base CX0 1 "Ring" "blocked_up" ["self"] (sp_Ring_blocked_up K)) (G_Ring_read : MethOk P w K mg base CX0 2 "Ring" "read" ["self", "number"] (sp_Ring_read K)) (G_z_get : CallOk P w K mg base CX0 2 "_law_get" ["_law_m", "_law_number"] (sp_z_get K)) (G_z_is_integer : CallOk P w K mg base CX0 1 "_law_is_integer" ["_law_actual"] (sp_z_is_integer K)) : CallOk P w K mg base CX0 3 "_law_alike" ["_law_ring", "_law_m", "_law_memory"] (sp_z_alike K) := Hsh.un (by simp (disch := k_dflt (
  refine Hsh.up ?_
  obtain ⟨fd, F⟩ := Y.fd_z_alike
  refine ⟨_, fd, Y.mg_z_alike, F.kp, F.bindsN (fun _ _ _ _ _ _ us hl => match us, hl with | [_, _, _], _ => rfl), F.ok sc_z_alike mk3_len (fun cdv A outer s H vs Q E hr h => ?_)⟩
  have hu := hu_room hr
  obtain ⟨_, _, _, rfl, B, mm, mem, X, D, v, Z, rfl, rfl, rfl, hB, R, vk, hl, k⟩ := h
  have hS : SH [] H H [] := SH.start0
  have hmm := hB _ (.head _)
  have hBB : ∀ c ∈ bCells K B mm X, H c.1 = some c.2 := fun c hc => hB c (List.mem_append_left _ (.tail _ hc))
  have hM : ∀ c ∈ mCells D v mem Z, H c.1 = some c.2 := fun c hc => hB c (List.mem_append_right _ hc)
  have hb := hBB _ (.head _)
  have hm := hM _ (.head _)
  have hdm := hM _ (.tail _ (.head _))
  have hR := hM _ (.tail _ (.tail _ (.tail _ (.tail _ (.head _)))))
  refine ⟨_, PSs.nox (pss_cons (ps_for PassesOwn.never rfl (pi_range1 rfl Y.z_range (pa_cons pe_int pa_nil)) (pg_name (i := 3) sc_z_alike.nd rfl (Or.inl rfl))
  (pss_cons (ps_set (i := 4) sc_z_alike.nd rfl (Or.inl rfl) (pe_methG (pv 0) G_Ring_read hr pass0 (pa_cons (pv 3) pa_nil)))
  (pss_one (ps_if (PW.pt (pw_or (pt_not (pt_val (pe_callG G_z_is_integer (hr.mono (by decide)) rfl pass0 (pa_cons (pv 4) pa_nil)))) (pw_or1 (pt_cmpR (xNe hu) (pv 4) (pe_callG G_z_get hr rfl pass0 (pa_cons (pv 1) (pa_cons (pv 3) pa_nil))) (nomark _))))) (pss_one (ps_ret pe_bl)) pss_nil))))
  (pss_cons (ps_set (i := 5) sc_z_alike.nd rfl (Or.inl rfl) (pe_lst (pa_cons (pe_fld (pv 0) rfl) (pa_cons (pe_fld (pv 0) rfl) (pa_cons (pe_fld (pv 0) rfl) (pa_cons (pe_fld (pv 0) rfl) pa_nil))))))
  (pss_cons (ps_for PassesOwn.never rfl (pi_list (pv 5)) (pg_name (i := 3) sc_z_alike.nd rfl (Or.inl rfl))
  (pss_one (ps_if (pt_not (pt_val (pe_callG G_z_is_integer (hr.mono (by decide)) rfl pass0 (pa_cons (pv 3) pa_nil)))) (pss_one (ps_ret pe_bl)) pss_nil)))
  (pss_cons (ps_if (PW.pt (pw_or (pt_cmpR xIsNot (pe_methG0 (pv 0) G_Ring_blocked_down (hr.mono (by decide)) pass0) pe_bl (nomark _)) (pw_or1 (pt_cmpR xIsNot (pe_methG0 (pv 0) G_Ring_blocked_up (hr.mono (by decide)) pass0) pe_bl (nomark _))))) (pss_one (ps_ret pe_bl)) pss_nil)
  (pss_one (ps_ret (pe_and (pe_cmpR (xEq hu) (pv 5) (pe_lst (pa_cons (pe_callB x_len rfl Y.z_len (by decide +kernel) (pa_cons (pe_dget (hu1 hu) (pv 1) pe_str (fun _ _ => rfl)) pa_nil)) (pa_cons (pe_dget (hu1 hu) (pv 1) pe_str (fun _ _ => rfl)) (pa_cons (pe_dget (hu1 hu) (pv 1) pe_str (fun _ _ => rfl)) (pa_cons (pe_dget (hu1 hu) (pv 1) pe_str (fun _ _ => rfl)) pa_nil))))) (nomark _)) (pe_one (pe_cmpR (xEq hu) (pv 2) (pe_dget (hu1 hu) (pv 1) pe_str (fun _ _ => rfl)) (nomark _)))))))))), ?_⟩
  rw [st_z_alike]
  try simp only [cxK, cxK2, cxW, cxW2]
  clear hu hr F
  repeat' walk_at "st"
  refine u_forR1 (fun i σ H' => ∃ v1 v2, σ = [some (.ref B.b), some (.ref D.m), some (.ref mm), v1, v2, none] ∧ SH [] H H' []) (by decide) (by decide) ⟨_, _, rfl, hS⟩ ?_ ?_
  · rintro i σ H2 hi ⟨v1, v2, rfl, hS⟩
    have hg := R.get (n := (i : Int)) (by omega) (by omega)
    repeat' walk_at "st"
    exact ⟨_, _, rfl, hS⟩
  · rintro σ H2 ⟨v1, v2, rfl, hS⟩
    repeat' walk_at "st"
    obtain ⟨p0, rfl⟩ : ∃ x, x = p := ⟨p, rfl⟩
    refine u_forL (xs := ([X.res, X.W.spi, X.W.fil, X.W.dep] : List Int).map V.int) (fun _ σ H' => ∃ v1 v2, σ = [some (.ref B.b), some (.ref D.m), some (.ref mm), v1, v2, some (.ref p0)] ∧ SH [] H H' [(p0, .lst (([X.res, X.W.spi, X.W.fil, X.W.dep] : List Int).map V.int))]) (SqL.of (hS.get 0 rfl)) ⟨_, _, rfl, hS⟩ ?_ ?_ ?_
    · rintro i σ H' _ ⟨v1, v2, rfl, hS⟩
      exact SqL.of (hS.get 0 rfl)
    · rintro i y σ H' hy ⟨v1, v2, rfl, hS⟩
      rw [List.getElem?_map] at hy
      obtain ⟨n, _, rfl⟩ := Option.map_eq_some_iff.mp hy
      repeat' walk_at "st"
      exact ⟨_, _, rfl, hS⟩
    · rintro σ H' ⟨v1, v2, rfl, hS⟩
      have hps : ((v.ps.map V.ref).length : Int) = X.res := by rw [List.length_map, vk.p, R.res]
      repeat' walk_at "st"
      · refine s_eqLI (ns := mem) (ms := mem) (SqL.of (hS.ro hmm)) (SqL.of (hS.ro hdm)) ?_
        rw [decide_eq_true rfl]
        exact k _ hS.kp
      · have e : PyData.eqv (.list (([X.res, X.W.spi, X.W.fil, X.W.dep] : List Int).map PyData.int)) (.list (([X.res, X.W.spi, X.W.fil, X.W.dep] : List Int).map PyData.int)) = true := by
          rw [PyData.eqv, eqv_ints]
          exact decide_eq_true rfl
        rw [hps, ← R.spi, ← R.fil, ← R.dep] at hc
        exact absurd (hc.symm.trans e) (by decide)
  )) only [↓Hsh.on])
end
theorem c_z_alike {K : PySem.W.Frag} {A : List Addr} {H0 H : Hp} {L : List Cell} {B : BA} {mm : Addr} {mem : List Int} {X : RS} {D : MD} {v : MV} {Z : MS} {Q : VK} {E : XK} (hS : SH A H0 H L) (hB : ∀ c ∈ BC K B mm mem X D v Z, H c.1 = some c.2) (R : Rel X Z) (vk : v.ok Z) (hl : B.rs.length = X.W.rows.length)
    (k : ∀ H', SH A H0 H' L → Q (.bl true) H') : sp_z_alike K ([.ref B.b, .ref D.m, .ref mm] ++ []) H Q E := ⟨_, _, _, rfl, B, mm, mem, X, D, v, Z, rfl, rfl, rfl, hB, R, vk, hl, fun H' kp => k H' (hS.call0 kp)⟩
abbrev LO (K : PySem.W.Frag) (pst qst : Addr) (ns : List Int) (i c n sd : Int) (B : BA) (mm : Addr) (mem : List Int) (X : RS) (D : MD) (v : MV) (Z : MS) : List Cell := (pst, stD qst i c n sd 0) :: (qst, .lst (ns.map V.int)) :: BC K B mm mem X D v Z
def sp_z_word (K : PySem.W.Frag) : Sp := mk1 fun a H Q _ => ∃ (p q : Addr) (ns : List Int) (i c n sd bu : Int), a = .ref p ∧ H p = some (stD q i c n sd bu) ∧ H q = some (.lst (ns.map V.int)) ∧ q ≠ p ∧ 0 ≤ i ∧
  ∀ (r i' c' n' : Int) H', 0 ≤ i' → H' p = some (stD q i' c' n' sd bu) → Keep [p] H H' → Q (.int r) H'
theorem ok_z_word {P : Program} {w : World} {K : PySem.W.Frag} {mg : Str → Option Value} {base : Heap} (Y : Env w K mg) (G_z_draw : CallOk P w K mg base CX0 2 "_law_draw" ["_law_state_here", "_law_many"] (sp_z_draw K)) : CallOk P w K mg base CX0 3 "_law_word" ["_law_state_here"] (sp_z_word K) := Hsh.un (by simp (disch := k_dflt (
  refine Hsh.up ?_
  obtain ⟨fd, F⟩ := Y.fd_z_word
  refine ⟨_, fd, Y.mg_z_word, F.kp, F.bindsN (fun _ _ _ _ _ _ us hl => match us, hl with | [_], _ => rfl), F.ok sc_z_word mk1_len (fun cdv A outer s H vs Q E hr h => ?_)⟩
  have hu := hu_room hr
  obtain ⟨_, rfl, pst, q, ns, i, c, n, sd, bu, rfl, hp, hq, ne, hi, k⟩ := h
  have hS : SH [pst, q] H H [(pst, stD q i c n sd bu), (q, .lst (ns.map V.int))] := start2 hp hq ne
  refine ⟨_, PSs.nox (pss_cons (ps_set (i := 1) sc_z_word.nd rfl (Or.inl rfl) (pe_callG G_z_draw hr rfl pass0 (pa_cons (pv 0) (pa_cons pe_int pa_nil))))
  (pss_cons (ps_if (pt_cmpR (xEq hu) (pv 1) pe_int (nomark _)) (pss_one (ps_ret (pe_ix xIx (pe_lst (pa_cons pe_int (pa_cons (pe_un un_neg pe_int) (pa_cons pe_int (pa_cons (pe_un un_neg pe_int) pa_nil))))) (pe_callG G_z_draw hr rfl pass0 (pa_cons (pv 0) (pa_cons pe_int pa_nil))) (fun _ _ => rfl)))) pss_nil)
  (pss_cons (ps_if (pt_cmpR (xEq hu) (pv 1) pe_int (nomark _)) (pss_one (ps_ret (pe_op op_sub (pe_callG G_z_draw hr rfl pass0 (pa_cons (pv 0) (pa_cons pe_int pa_nil))) pe_int))) pss_nil)
  (pss_one (ps_ret (pe_op op_sub (pe_callG G_z_draw hr rfl pass0 (pa_cons (pv 0) (pa_cons pe_int pa_nil))) pe_int)))))), ?_⟩
  rw [st_z_word]
  try simp only [cxK, cxK2, cxW, cxW2]
  clear hu hr F
  repeat' walk_at "st"
  · exact k _ _ _ _ _ (by omega) (hS.get 1 rfl) (keep1 hS hq (hS.get 2 rfl))
  · exact k _ _ _ _ _ (by omega) (hS.get 0 rfl) (keep1 hS hq (hS.get 1 rfl))
  · exact k _ _ _ _ _ (by omega) (hS.get 0 rfl) (keep1 hS hq (hS.get 1 rfl))
  )) only [↓Hsh.on])
theorem c_z_word {K : PySem.W.Frag} {A : List Addr} {H0 H : Hp} {L : List Cell} {p q : Addr} {ns : List Int} {x c n sd bu : Int} {Q : VK} {E : XK} {i j : Nat} (hS : SH A H0 H L) (e : L[i]? = some (p, stD q x c n sd bu)) (e2 : L[j]? = some (q, .lst (ns.map V.int))) (ne : j ≠ i) (h0 : 0 ≤ x)
    (k : ∀ (r x' c' n' : Int) H', 0 ≤ x' → SH A H0 H' (L.set i (p, stD q x' c' n' sd bu)) → Q (.int r) H') : sp_z_word K ([.ref p] ++ []) H Q E :=
  ⟨_, rfl, p, q, ns, x, c, n, sd, bu, rfl, hS.get i e, hS.get j e2, hS.ne e e2 ne, h0, fun r x' c' n' H' a b d => k r x' c' n' H' a (hS.call1 i e rfl d b)⟩
/-- the state of a run -/
def St (K : PySem.W.Frag) (A : List Addr) (H0 : Hp) (pst qst : Addr) (ns : List Int) (sd : Int) (b dx S R mm : Addr) (D : MD) (len : Nat) (H : Hp) : Prop :=
  ∃ i c n rs mem X v Z, SH A H0 H (LO K pst qst ns i c n sd ⟨b, dx, S, R, rs⟩ mm mem X D v Z) ∧ 0 ≤ i ∧ Rel X Z ∧ v.ok Z ∧ rs.length = X.W.rows.length ∧ mem.length = len
section
variable {K : PySem.W.Frag} {A : List Addr} {H0 H : Hp} {pst qst : Addr} {ns : List Int} {i c n sd : Int} {B : BA} {mm : Addr} {mem : List Int} {X : RS} {D : MD} {v : MV} {Z : MS} {Q : VK} {E : XK}
theorem LO_bc {c : Cell} (h : c ∈ BC K B mm mem X D v Z) (hS : SH A H0 H (LO K pst qst ns i n sd sd B mm mem X D v Z)) : H c.1 = some c.2 := hS.hs c (.tail _ (.tail _ h))
theorem LO_all (hS : SH A H0 H (LO K pst qst ns i c n sd B mm mem X D v Z)) : ∀ c ∈ BC K B mm mem X D v Z, H c.1 = some c.2 := fun c h => hS.hs c (.tail _ (.tail _ h))
theorem LO_M (hS : SH A H0 H (LO K pst qst ns i c n sd B mm mem X D v Z)) : ∀ c ∈ mCells D v mem Z, H c.1 = some c.2 := fun c h => hS.hs c (.tail _ (.tail _ (List.mem_append_right _ h)))
theorem LO_m (hS : SH A H0 H (LO K pst qst ns i c n sd B mm mem X D v Z)) : H D.m = some (dO D v Z) := LO_M hS _ (.head _)
theorem LO_mm (hS : SH A H0 H (LO K pst qst ns i c n sd B mm mem X D v Z)) : H mm = some (mO mem) := LO_all hS _ (.head _)
theorem c_z_goes_down (hS : SH A H0 H (LO K pst qst ns i c n sd B mm mem X D v Z)) (R : Rel X Z) (vk : v.ok Z) (hl : B.rs.length = X.W.rows.length) (h1000 : mem.length ≤ 1000)
    (k : ∀ mem' X' v' Z' H', SH A H0 H' (LO K pst qst ns i c n sd B mm mem' X' D v' Z') → Rel X' Z' → v'.ok Z' → X'.W.rows.length = X.W.rows.length → mem'.length = mem.length → Q (.bl true) H') : sp_z_goes_down K ([.ref B.b, .ref D.m] ++ []) H Q E :=
  ⟨_, _, rfl, B, mm, mem, X, D, v, Z, rfl, rfl, SH.blkR [_, _] _ hS, R, vk, hl, h1000, fun mem' X' v' Z' H' C a b d e => k mem' X' v' Z' H' (SH.callR (F := [_, _]) hS C) a b d e⟩
theorem c_z_goes_up (hS : SH A H0 H (LO K pst qst ns i c n sd B mm mem X D v Z)) (R : Rel X Z) (vk : v.ok Z) (hl : B.rs.length = X.W.rows.length) (h1000 : mem.length ≤ 1000)
    (k : ∀ rs' X' v' Z' H', SH A H0 H' (LO K pst qst ns i c n sd ⟨B.b, B.dx, B.S, B.R, rs'⟩ mm mem X' D v' Z') → Rel X' Z' → v'.ok Z' → rs'.length = X'.W.rows.length → Q (.bl true) H') : sp_z_goes_up K ([.ref B.b, .ref D.m] ++ []) H Q E :=
  ⟨_, _, rfl, B, mm, mem, X, D, v, Z, rfl, rfl, SH.blkR [_, _] _ hS, R, vk, hl, h1000, fun rs' X' v' Z' H' C a b d _ => k rs' X' v' Z' H' (SH.callR (F := [_, _]) hS C) a b d⟩
theorem c_z_write {m x : Int} {F : List Cell} (hS : SH A H0 H (F ++ BC K B mm mem X D v Z)) (R : Rel X Z) (vk : v.ok Z) (hl : B.rs.length = X.W.rows.length) (h0 : 0 ≤ m) (h1 : m < 32)
    (k : ∀ H', SH A H0 H' (F ++ BC K B mm mem ⟨X.W.setR m x, X.res⟩ D v (Z.setR m x)) → Q (.bl true) H') : sp_z_write K ([.ref B.b, .ref D.m, .int m, .int x] ++ []) H Q E :=
  ⟨_, _, _, _, rfl, B, mm, mem, X, D, v, Z, m, x, rfl, rfl, rfl, rfl, SH.blkR F _ hS, R, vk, hl, h0, h1, fun H' C => k H' (SH.callR (F := F) hS C)⟩
theorem setR_len (W : BW) (m x : Int) : (W.setR m x).rows.length = W.rows.length := Hsh.un (by simp (disch := k_dflt (
  refine Hsh.up ?_
  unfold BW.setR BW.set BW.put
  split
  · split
    · rfl
    · split <;> exact List.length_set
  · rfl
  )) only [↓Hsh.on])
theorem setR_vk (vk : v.ok Z) (m x : Int) : v.ok (Z.setR m x) := Hsh.un (by simp (disch := k_dflt (
  refine Hsh.up ?_
  have e : (Z.setR m x).ws.length = Z.ws.length := by
    unfold MS.setR MS.put
    split
    · split
      · rfl
      · split
        · rfl
        · split <;> exact List.length_set
    · rfl
  exact ⟨vk.p.trans e.symm, vk.q.trans e.symm⟩
  )) only [↓Hsh.on])
/-- the model's own memory -/
theorem h_own {F : List Cell} {P : Hp → Prop} {at_ x : Int} (hS : SH A H0 H (F ++ mCells D v mem Z)) (h0 : 0 ≤ at_) (h1 : at_ < mem.length) (h : ∀ H', SH A H0 H' (F ++ mCells D v (mem.set at_.toNat x) Z) → P H') : rSetL (.ref D.mm) (.int at_) (.int x) H P := Hsh.un (by simp (disch := k_dflt (
  refine Hsh.up ?_
  refine h_setL hS (i := F.length + 1) (xs := mem.map V.int) ?_ (ixN_in h0 (by rw [List.length_map]; exact h1)) (set_ints _ _ _) ?_ h
  · rw [List.getElem?_append_right (by omega), show F.length + 1 - F.length = 1 by omega]
    rfl
  · rw [List.set_append_right _ _ (by omega), show F.length + 1 - F.length = 1 by omega]
    rfl
  )) only [↓Hsh.on])
end
def sp_z_deed (K : PySem.W.Frag) : Sp := mk4 fun a b c d H Q _ => ∃ (pst qst : Addr) (ns : List Int) (i c1 n sd : Int) (B : BA) (mm : Addr) (mem : List Int) (X : RS) (D : MD) (v : MV) (Z : MS), a = .ref pst ∧ b = .ref B.b ∧ c = .ref D.m ∧ d = .ref mm ∧
  Blk H (LO K pst qst ns i c1 n sd B mm mem X D v Z) ∧ 0 ≤ i ∧ Rel X Z ∧ v.ok Z ∧ B.rs.length = X.W.rows.length ∧ 0 < mem.length ∧ mem.length ≤ 1000 ∧
  ∀ H', St K ((LO K pst qst ns i c1 n sd B mm mem X D v Z).map (·.1)) H pst qst ns sd B.b B.dx B.S B.R mm D mem.length H' → Q (.bl true) H'
section
 local macro_rules | `(tactic| walk_at "hp") => `(tactic| first | exact LO_m hS | exact LO_mm hS | exact LO_m hS.drop1 | exact LO_mm hS.drop1)
 local macro_rules | `(tactic| walk_at "st") => `(tactic| first
  | ((with_reducible show sp_z_word _ _ _ _ _); apply c_z_word hS; (· walk_at "ix"); (· walk_at "ix"); (· decide); (· walk_at "ar"); intro wv x1 c1 n1 H1 hx1 hS1; clear hS; rename SH _ _ _ _ => hS; simp only [List.set_cons_zero, List.set_cons_succ] at hS)
  | ((with_reducible show sp_z_get _ _ _ _ _); apply c_z_get hS (LO_M hS); (· exact R.yk); (· exact vk); (· walk_at "ar"); (· walk_at "ar"); intro H1 hS1 _; walk_at "nw")
  | ((with_reducible show sp_Ring_read _ _ _ _ _); apply c_Ring_read hS (fun c hc => LO_all hS c (List.mem_append_left _ (.tail _ hc))); (· exact R.ok); (· exact hl); (· walk_at "ar"); (· walk_at "ar"); intro H1 hS1 _; walk_at "nw")
  | ((with_reducible show sp_z_alike _ _ _ _ _); apply c_z_alike hS (LO_all hS) R vk hl; intro H1 hS1; walk_at "nw")
  | ((with_reducible show sp_z_write _ _ _ _ _); first | (refine c_z_write (F := [_, _]) hS R vk hl ?_ ?_ (fun H1 hS1 => ?_); (· walk_at "ar"); (· walk_at "ar"); walk_at "nw") | (refine c_z_write (F := [_, _, _]) hS R vk hl ?_ ?_ (fun H1 hS1 => ?_); (· walk_at "ar"); (· walk_at "ar"); walk_at "nw"))
  | fail)
theorem ok_z_deed {P : Program} {w : World} {K : PySem.W.Frag} {mg : Str → Option Value} {base : Heap} (Y : Env w K mg) (G_Ring_read : MethOk P w K mg base CX0 2 "Ring" "read" ["self", "number"] (sp_Ring_read K)) (G_z_alike : CallOk P w K mg base CX0 3 "_law_alike" ["_law_ring", "_law_m", "_law_memory"] (sp_z_alike K)) (G_z_draw : CallOk P w K mg base CX0 2 "_law_draw" ["_law_state_here", "_law_many"] (sp_z_draw K)) (G_z_get : CallOk P w K mg base CX0 2 "_law_get" ["_law_m", "_law_number"] (sp_z_get K)) (G_z_goes_down : CallOk P w K mg base CX0 4 "_law_goes_down" ["_law_ring", "_law_m"] (sp_z_goes_down K)) (G_z_goes_up : CallOk P w K mg base CX0 4 "_law_goes_up" ["_law_ring", "_law_m"] (sp_z_goes_up K)) (G_z_is_integer : CallOk P w K mg base CX0 1 "_law_is_integer" ["_law_actual"] (sp_z_is_integer K)) (G_z_word : CallOk P w K mg base CX0 3 "_law_word" ["_law_state_here"] (sp_z_word K)) (G_z_write : CallOk P w K mg base CX0 3 "_law_write" ["_law_ring", "_law_m", "_law_number", "_law_word_here"] (sp_z_write K)) : CallOk P w K mg base CX0 5 "_law_deed" ["_law_state_here", "_law_ring", "_law_m", "_law_memory"] (sp_z_deed K) := Hsh.un (by simp (disch := k_dflt (
  refine Hsh.up ?_
  obtain ⟨fd, F⟩ := Y.fd_z_deed
  refine ⟨_, fd, Y.mg_z_deed, F.kp, F.bindsN (fun _ _ _ _ _ _ us hl => match us, hl with | [_, _, _, _], _ => rfl), F.ok sc_z_deed mk4_len (fun cdv A outer s H vs Q E hr h => ?_)⟩
  have hu := hu_room hr
  obtain ⟨_, _, _, _, rfl, pst, qst, ns, i, c, n, sd, B, mm, mem, X, D, v, Z, rfl, rfl, rfl, rfl, hB, hi, R, vk, hl, h0, h1000, k⟩ := h
  have hS : SH ((LO K pst qst ns i c n sd B mm mem X D v Z).map (·.1)) H H (LO K pst qst ns i c n sd B mm mem X D v Z) := hB.sh
  have hml : (mem.map V.int).length = mem.length := List.length_map _
  refine ⟨_, PSs.nox (pss_cons (ps_set (i := 4) sc_z_deed.nd rfl (Or.inl rfl) (pe_callG G_z_draw (hr.mono (by decide)) rfl pass0 (pa_cons (pv 0) (pa_cons pe_int pa_nil))))
  (pss_cons (ps_if (pt_cmpR op_lt (pv 4) pe_int (nomark _)) (pss_cons (ps_set (i := 5) sc_z_deed.nd rfl (Or.inl rfl) (pe_callG G_z_get (hr.mono (by decide)) rfl pass0 (pa_cons (pv 2) (pa_cons pe_int pa_nil))))
  (pss_cons (ps_set (i := 6) sc_z_deed.nd rfl (Or.inl rfl) (pe_dget (hu1 hu) (pv 2) pe_str (fun _ _ => rfl)))
  (pss_cons (ps_if (pt_not (pt_val (pe_callG G_z_goes_down hr rfl pass0 (pa_cons (pv 1) (pa_cons (pv 2) pa_nil))))) (pss_one (ps_ret pe_bl)) pss_nil)
  (pss_cons (ps_set (i := 7) sc_z_deed.nd rfl (Or.inl rfl) (pe_callB (x_max1 rfl) rfl Y.z_max (by decide +kernel) (pa_cons (pe_lst (pa_cons (pe_un un_neg pe_int) (pa_cons (pe_op op_sub (pe_op op_sub (pv 5) pe_int) (pe_callG G_z_draw (hr.mono (by decide)) rfl pass0 (pa_cons (pv 0) (pa_cons pe_int pa_nil)))) pa_nil))) pa_nil)))
  (pss_cons (ps_if (pt_cmpR (xEq hu) (pe_callG G_z_draw (hr.mono (by decide)) rfl pass0 (pa_cons (pv 0) (pa_cons pe_int pa_nil))) pe_int (nomark _)) (pss_one (ps_set (i := 7) sc_z_deed.nd rfl (Or.inl rfl) (pe_callG G_z_draw (hr.mono (by decide)) rfl pass0 (pa_cons (pv 0) (pa_cons (pe_callB x_len rfl Y.z_len (by decide +kernel) (pa_cons (pv 3) pa_nil)) pa_nil))))) pss_nil)
  (pss_cons (ps_if (PW.pt (pw_and (pt_cmpR op_gt (pe_dget (hu1 hu) (pv 2) pe_str (fun _ _ => rfl)) (pv 6) (nomark _)) (pw_and1 (pt_cmpR op_gt (pe_callG G_z_draw (hr.mono (by decide)) rfl pass0 (pa_cons (pv 0) (pa_cons pe_int pa_nil))) pe_int (nomark _))))) (pss_one (ps_ret (pe_callG G_z_write (hr.mono (by decide)) rfl pass0 (pa_cons (pv 1) (pa_cons (pv 2) (pa_cons pe_int (pa_cons (pv 7) pa_nil))))))) pss_nil)
  (pss_one (ps_ret pe_bl)))))))) pss_nil)
  (pss_cons (ps_if (pt_cmpR op_lt (pv 4) pe_int (nomark _)) (pss_one (ps_ret (pe_or (pe_cmpR (xEq hu) (pe_dget (hu1 hu) (pv 2) pe_str (fun _ _ => rfl)) pe_int (nomark _)) (pe_one (pe_callG G_z_goes_up hr rfl pass0 (pa_cons (pv 1) (pa_cons (pv 2) pa_nil))))))) pss_nil)
  (pss_cons (ps_if (pt_cmpR op_lt (pv 4) pe_int (nomark _)) (pss_one (ps_ret (pe_callG G_z_write (hr.mono (by decide)) rfl pass0 (pa_cons (pv 1) (pa_cons (pv 2) (pa_cons (pe_callG G_z_draw (hr.mono (by decide)) rfl pass0 (pa_cons (pv 0) (pa_cons pe_int pa_nil))) (pa_cons (pe_callG G_z_word (hr.mono (by decide)) rfl pass0 (pa_cons (pv 0) pa_nil)) pa_nil))))))) pss_nil)
  (pss_cons (ps_if (pt_cmpR (xEq hu) (pv 4) pe_int (nomark _)) (pss_cons (ps_set (i := 8) sc_z_deed.nd rfl (Or.inl rfl) (pe_callG G_z_draw (hr.mono (by decide)) rfl pass0 (pa_cons (pv 0) (pa_cons (pe_callB x_len rfl Y.z_len (by decide +kernel) (pa_cons (pv 3) pa_nil)) pa_nil))))
  (pss_cons (ps_set (i := 9) sc_z_deed.nd rfl (Or.inl rfl) (pe_callG G_z_word (hr.mono (by decide)) rfl pass0 (pa_cons (pv 0) pa_nil)))
  (pss_cons (ps_asg (pv 9) (pg_sub (pv 3) (pv 8) set_list))
  (pss_cons (ps_set (i := 10) sc_z_deed.nd rfl (Or.inl rfl) (pe_dget (hu1 hu) (pv 2) pe_str (fun _ _ => rfl)))
  (pss_cons (ps_asg (pv 9) (pg_sub (pv 10) (pv 8) set_list))
  (pss_one (ps_ret pe_bl))))))) pss_nil)
  (pss_cons (ps_if (pt_cmpR (xEq hu) (pv 4) pe_int (nomark _)) (pss_one (ps_ret (pe_callG G_z_alike (hr.mono (by decide)) rfl pass0 (pa_cons (pv 1) (pa_cons (pv 2) (pa_cons (pv 3) pa_nil)))))) pss_nil)
  (pss_cons (ps_if (pt_cmpR (xEq hu) (pv 4) pe_int (nomark _)) (pss_one (ps_ret (pe_callG G_z_write (hr.mono (by decide)) rfl pass0 (pa_cons (pv 1) (pa_cons (pv 2) (pa_cons (pe_ix xIx (pe_lst (pa_cons pe_int (pa_cons pe_int pa_nil))) (pe_callG G_z_draw (hr.mono (by decide)) rfl pass0 (pa_cons (pv 0) (pa_cons pe_int pa_nil))) (fun _ _ => rfl)) (pa_cons (pe_op op_sub (pe_callG G_z_draw (hr.mono (by decide)) rfl pass0 (pa_cons (pv 0) (pa_cons (pe_op xAdd (pe_callB x_len rfl Y.z_len (by decide +kernel) (pa_cons (pv 3) pa_nil)) pe_int) pa_nil))) pe_int) pa_nil))))))) pss_nil)
  (pss_cons (ps_set (i := 11) sc_z_deed.nd rfl (Or.inl rfl) (pe_callG G_z_draw (hr.mono (by decide)) rfl pass0 (pa_cons (pv 0) (pa_cons pe_int pa_nil))))
  (pss_one (ps_ret (pe_and (pe_callG G_z_is_integer (hr.mono (by decide)) rfl pass0 (pa_cons (pe_methG (pv 1) G_Ring_read (hr.mono (by decide)) pass0 (pa_cons (pv 11) pa_nil)) pa_nil)) (pe_one (pe_cmpR (xEq hu) (pe_methG (pv 1) G_Ring_read (hr.mono (by decide)) pass0 (pa_cons (pv 11) pa_nil)) (pe_callG G_z_get (hr.mono (by decide)) rfl pass0 (pa_cons (pv 2) (pa_cons (pv 11) pa_nil))) (nomark _)))))))))))))), ?_⟩
  rw [st_z_deed]
  try simp only [cxK, cxK2, cxW, cxW2]
  clear hu hr F
  repeat' walk_at "st"
  · refine c_z_goes_down hS R vk hl h1000 (fun mem1 X1 v1 Z1 H2 hS R vk hXl hml1 => ?_)
    have hl := hl.trans hXl.symm
    have hml2 : (mem1.map V.int).length = mem.length := (List.length_map _).trans hml1
    repeat' walk_at "st"
    all_goals first
      | exact k _ ⟨_, _, _, B.rs, _, X1, v1, Z1, hS.drop1, hx1, R, vk, hl, hml1⟩
      | exact k _ ⟨_, _, _, B.rs, _, ⟨X1.W.setR 14 _, X1.res⟩, v1, Z1.setR 14 _, SH.drop1 hS, hx1, R.setR (by decide) (by decide) _, setR_vk vk _ _, hl.trans (setR_len _ _ _).symm, hml1⟩
  · exact k _ ⟨_, _, _, B.rs, _, _, v, _, hS, hx1, R, vk, hl, rfl⟩
  · refine c_z_goes_up hS R vk hl h1000 (fun rs1 X1 v1 Z1 H2 hS R vk hl => ?_)
    exact k _ ⟨_, _, _, rs1, _, _, v1, _, hS, hx1, R, vk, hl, rfl⟩
  · exact k _ ⟨_, _, _, B.rs, _, ⟨X.W.setR r wv, X.res⟩, v, _, hS, hx1, R.setR (by assumption) (by assumption) _, setR_vk vk _ _, hl.trans (setR_len _ _ _).symm, rfl⟩
  · have hS : SH ((LO K pst qst ns i c n sd B mm mem X D v Z).map (·.1)) H H1 ((pst, stD qst x1 c1 n1 sd 0) :: (qst, HO.lst (List.map V.int ns)) :: (LR K B mm (mem.set r.toNat wv) X ++ mCells D v mem Z)) := hS
    refine h_dget (hS.hs (D.m, dO D v Z) (.tail _ (.tail _ (List.mem_append_right _ (.head _))))) rfl ?_
    repeat' walk_at "st"
    refine h_own (F := (pst, stD qst x1 c1 n1 sd 0) :: (qst, HO.lst (List.map V.int ns)) :: LR K B mm (mem.set r.toNat wv) X) hS (by omega) (by omega) (fun H2 hS => ?_)
    repeat' walk_at "st"
    exact k _ ⟨_, _, _, B.rs, mem.set r.toNat wv, X, v, Z, hS, hx1, R, vk, hl, List.length_set⟩
  · exact k _ ⟨_, _, _, B.rs, _, _, v, _, hS, hx1, R, vk, hl, rfl⟩
  · refine c_z_write (F := [_, _, _]) hS R vk hl (toI_bnd 0 31 rfl (by assumption) (by show _ < (2 : Int); assumption)).1 (Int.lt_of_le_of_lt (toI_bnd 0 31 rfl (by assumption) (by show _ < (2 : Int); assumption)).2 (by decide)) (fun H2 hS => ?_)
    exact k _ ⟨_, _, _, B.rs, _, ⟨X.W.setR _ _, X.res⟩, v, _, SH.drop1 hS, hx1, R.setR (toI_bnd 0 31 rfl (by assumption) (by show _ < (2 : Int); assumption)).1 (Int.lt_of_le_of_lt (toI_bnd 0 31 rfl (by assumption) (by show _ < (2 : Int); assumption)).2 (by decide)) _, setR_vk vk _ _, hl.trans (setR_len _ _ _).symm, rfl⟩
  · rw [decide_eq_true (R.get (by assumption) (by assumption))]
    exact k _ ⟨_, _, _, B.rs, _, _, v, _, hS, hx1, R, vk, hl, rfl⟩
  )) only [↓Hsh.on])
end
theorem SH.callE {A : List Addr} {H0 H H' : Hp} {B B2 : List Cell} (S : SH A H0 H B) (C : SH (B.map (·.1)) H H' B2) : SH A H0 H' B2 := by
  have := SH.call (F := []) (by rw [List.append_nil]; exact S) C
  rwa [List.append_nil] at this
theorem c_z_deed {K : PySem.W.Frag} {A : List Addr} {H0 H : Hp} {pst qst : Addr} {ns : List Int} {sd : Int} {b dx S R mm : Addr} {D : MD} {len : Nat} {Q : VK} {E : XK} (hS : St K A H0 pst qst ns sd b dx S R mm D len H) (h0 : 0 < len) (h1000 : len ≤ 1000)
    (k : ∀ H', St K A H0 pst qst ns sd b dx S R mm D len H' → Q (.bl true) H') : sp_z_deed K ([.ref pst, .ref b, .ref D.m, .ref mm] ++ []) H Q E := Hsh.un (by simp (disch := k_dflt (
  refine Hsh.up ?_
  obtain ⟨i, c, n, rs, mem, X, v, Z, hS, hi, Rl, vk, hl, rfl⟩ := hS
  refine ⟨_, _, _, _, rfl, pst, qst, ns, i, c, n, sd, ⟨b, dx, S, R, rs⟩, mm, mem, X, D, v, Z, rfl, rfl, rfl, rfl, hS.blk, hi, Rl, vk, hl, h0, h1000, ?_⟩
  rintro H' ⟨i', c', n', rs', mem', X', v', Z', C, a1, a2, a3, a4, a5⟩
  exact k H' ⟨i', c', n', rs', mem', X', v', Z', SH.callE hS C, a1, a2, a3, a4, a5⟩
  )) only [↓Hsh.on])
def sp_law (K : PySem.W.Frag) : Sp := mk1 fun a H Q _ => ∃ (sc : Addr) (ns : List Int), a = .ref sc ∧ Scr K H sc (ns.map V.int) ∧ ∀ H', Q (.bl true) H'
theorem snocI {A : List Addr} {H0 H : Hp} {D : Addr} {ms : List Int} {x : Int} {L : List Cell} (hS : SH A H0 H ((D, .lst (ms.map V.int ++ [V.int x])) :: L)) : SH A H0 H ((D, .lst ((ms ++ [x]).map V.int)) :: L) := by
  rw [List.map_append]
  exact hS
def Z0 (n : Nat) : MS := ⟨n, List.replicate 8 0, List.replicate 8 0, [(List.replicate 8 0, List.replicate 8 0)], 0, 0, 0⟩
theorem rel0 {n : Nat} (h3 : 3 ≤ n) (h33 : n ≤ 33) : Rel ⟨W0 n, 1⟩ (Z0 n) := Hsh.un (by simp (disch := k_dflt (
  refine Hsh.up ?_
  have hl : (W0 n).rows.length = n := List.length_replicate
  have hg : ∀ k, k < n → (W0 n).rows.getD k [] = List.replicate 16 0 := fun k hk => by
    show (List.replicate n (List.replicate 16 0)).getD k [] = _
    rw [List.getD_eq_getElem?_getD, List.getElem?_replicate, if_pos hk]
    rfl
  refine ⟨⟨List.length_replicate, fun r hr => ?_, Int.le_refl _, ?_, by rw [hl]; exact h3, by rw [hl]; exact h33, Int.le_refl _⟩, ⟨List.length_replicate, List.length_replicate, fun p hp => ?_, Nat.one_pos, by show 1 < n; omega, h3, h33⟩, hl, rfl, rfl, rfl, rfl, rfl, fun i hi => ?_, ?_⟩
  · rw [(List.mem_replicate.mp hr).2]
    exact List.length_replicate
  · show (0 : Int) < ((W0 n).rows.length : Nat)
    rw [hl]
    omega
  · rw [List.mem_singleton.mp hp]
    exact ⟨List.length_replicate, List.length_replicate⟩
  · obtain rfl : i = 0 := by
      change i < 1 at hi
      omega
    have e : rot n 0 0 = 0 := by unfold rot; split <;> omega
    show (W0 n).rows.getD (rot n 0 0) [] = List.replicate 8 0 ++ List.replicate 8 0
    rw [e, hg 0 (by omega)]
    rfl
  · show ((W0 n).rows.getD (BW.prv (W0 n)) []).drop 8 = List.replicate 8 0
    rw [hg _ (by show (if (0 : Int) = 0 then (W0 n).rows.length - 1 else _) < n; rw [if_pos rfl, hl]; omega)]
    rfl
  )) only [↓Hsh.on])
abbrev xC (D : MD) (v : MV) (mem : List Int) : List Cell := (D.mm, mO mem) :: (D.S, .lst ((List.replicate 8 (0 : Int)).map V.int)) :: (v.O, .lst ((List.replicate 8 (0 : Int)).map V.int)) :: (D.R, .lst (v.ps.map V.ref)) :: wC v [(List.replicate 8 (0 : Int), List.replicate 8 (0 : Int))]
theorem law_start {A : List Addr} {H0 H : Hp} {key d mm2 S1 O R1 p1 a1 a2 pst qst : Addr} {y o : HO} {mem : List Int} {j1 j2 j3 j4 : Cell} {u w : HO} {Lr : List Cell}
    (hS : SH A H0 H ((key, y) :: (R1, .lst [V.ref p1]) :: (p1, .lst [V.ref a1, V.ref a2]) :: (a2, .lst (List.replicate 8 (V.int 0))) :: j1 :: (a1, .lst (List.replicate 8 (V.int 0))) :: j2 :: (O, .lst (List.replicate 8 (V.int 0))) :: j3 :: (S1, .lst (List.replicate 8 (V.int 0))) :: j4 :: (mm2, mO mem) :: (d, o) :: (pst, u) :: (qst, w) :: Lr)) :
    SH A H0 H ((key, y) :: (d, o) :: (pst, u) :: (qst, w) :: (xC ⟨d, mm2, S1, R1⟩ ⟨O, [p1], [(a1, a2)]⟩ mem ++ Lr)) :=
  hS.pickT 15 [0, 12, 13, 14, 11, 9, 7, 1, 2, 5, 3] (by decide) (by decide) (L' := (key, y) :: (d, o) :: (pst, u) :: (qst, w) :: xC ⟨d, mm2, S1, R1⟩ ⟨O, [p1], [(a1, a2)]⟩ mem) rfl
theorem law_go {A : List Addr} {H0 H : Hp} {d p q : Cell} {X Lr : List Cell} (hS : SH A H0 H (d :: p :: q :: (X ++ Lr))) : SH A H0 H (p :: q :: (Lr ++ (d :: X))) := Hsh.un (by simp (disch := k_dflt (
  refine Hsh.up ?_
  refine hS.perm ?_
  refine (List.Perm.swap _ _ _).trans (List.Perm.cons _ ((List.Perm.swap _ _ _).trans (List.Perm.cons _ ?_)))
  exact List.perm_append_comm (l₁ := d :: X)
  )) only [↓Hsh.on])
theorem s_keyL {K : PySem.W.Frag} {H : Hp} {p : Addr} {xs : List V} (h : H p = some (.lst xs)) : SqL K H p xs := SqL.of h
section
 local macro_rules | `(tactic| walk_at "hp") => `(tactic| first | exact LO_m hS | exact LO_mm hS)
 local macro_rules | `(tactic| walk_at "ar") => `(tactic| first | exact Int.lt_of_lt_of_le (by decide) (toI_bnd 4 30 rfl (by assumption) (by show _ < (4 : Int); assumption)).1 | exact Int.lt_of_le_of_lt (toI_bnd 4 30 rfl (by assumption) (by show _ < (4 : Int); assumption)).2 (by decide))
 local macro_rules | `(tactic| walk_at "st") => `(tactic| first
  | (with_reducible refine h_disp hS (fun p H1 hS1 => ?_); walk_at "nw")
  | (with_reducible refine s_pairsC ?_)
  | (with_reducible refine s_pairs0 ?_)
  | ((with_reducible apply h_dispE hS); (· walk_at "ix"); (· exact Nat.le_of_ble_eq_true rfl); (· exact rfl); (· exact rfl); (· walk_at "ls"); intro H1 hS1; walk_at "nw")
  | fail)
theorem ok_law {P : Program} {w : World} {K : PySem.W.Frag} {mg : Str → Option Value} {base : Heap} (Y : Env w K mg) (G_Ring_init__ : MakeOk P w K mg base CX0 1 "Ring" ["self", "memory", "windows"] (sp_Ring_init__ K)) (G_z_alike : CallOk P w K mg base CX0 3 "_law_alike" ["_law_ring", "_law_m", "_law_memory"] (sp_z_alike K)) (G_z_deed : CallOk P w K mg base CX0 5 "_law_deed" ["_law_state_here", "_law_ring", "_law_m", "_law_memory"] (sp_z_deed K)) (G_z_draw : CallOk P w K mg base CX0 2 "_law_draw" ["_law_state_here", "_law_many"] (sp_z_draw K)) (G_z_goes_up : CallOk P w K mg base CX0 4 "_law_goes_up" ["_law_ring", "_law_m"] (sp_z_goes_up K)) (G_z_is_integer : CallOk P w K mg base CX0 1 "_law_is_integer" ["_law_actual"] (sp_z_is_integer K)) (G_z_state : CallOk P w K mg base CX0 1 "_law_state" ["_law_script", "_law_budget"] (sp_z_state K)) (G_z_write : CallOk P w K mg base CX0 3 "_law_write" ["_law_ring", "_law_m", "_law_number", "_law_word_here"] (sp_z_write K)) {fd : FuncData} (F : FunD K "law" "law" (defArgs s_law) (defBody s_law) (defScope s_law) [] [] (He.fAd K ("law", none)) fd) : FnOk P w K mg base CX0 6 (He.fAd K ("law", none)) fd ["_law_script"] (sp_law K) := Hsh.un (by simp (disch := k_dflt (
  refine Hsh.up ?_
  refine F.ok sc_law mk1_len (fun cdv A outer s H vs Q E hr h => ?_)
  have hu := hu_room hr
  obtain ⟨_, rfl, sc, ns, rfl, hs, k⟩ := h
  have hS : SH [] H H [] := SH.start0
  refine ⟨_, PSs.nox (pss_cons (ps_set (i := 1) sc_law.nd rfl (Or.inl rfl) (pe_callG G_z_state (hr.mono (by decide)) rfl pass0 (pa_cons (pv 0) (pa_cons pe_int pa_nil))))
  (pss_cutG (ps_set (i := 2) sc_law.nd rfl (Or.inl rfl) (pe_op xAdd pe_int (pe_callG G_z_draw (hr.mono (by decide)) rfl pass0 (pa_cons (pv 1) (pa_cons (pe_ix xIx (pe_lst (pa_cons pe_int (pa_cons pe_int (pa_cons pe_int (pa_cons pe_int pa_nil))))) (pe_callG G_z_draw (hr.mono (by decide)) rfl pass0 (pa_cons (pv 1) (pa_cons pe_int pa_nil))) (fun _ _ => rfl)) pa_nil)))))
  (pss_cons (ps_set (i := 3) sc_law.nd rfl (Or.inr rfl) (pe_callG G_z_draw (hr.mono (by decide)) rfl pass0 (pa_cons (pv 1) (pa_cons pe_int pa_nil))))
  (pss_cutG (ps_setLc (i := 5) (own := [("_law_k", 4)]) (g := gName 4) rfl sc_law.nd rfl rfl (sw_true rfl rfl rfl (by decide +kernel)) (pi_range1 rfl Y.z_range (pa_cons (pe_op xAdd pe_int (pe_callG G_z_draw (hr.mono (by decide)) rfl pass0 (pa_cons (pv 1) (pa_cons pe_int pa_nil)))) pa_nil)) (blkOk_by (N := N_law) (sc := defScope s_law) (by decide +kernel)) (fun _ _ _ _ _ => pg_name (i := 4) sc_law.nd rfl (Or.inl rfl)) (fun _ _ _ _ _ => pts_nil) (fun _ _ _ _ _ => (pe_op op_sub (pv 3) (pe_op (OpR.k (K := K) (r := rMulX) xMul rfl) pe_int (pv 4)))))
  (pss_cons (ps_set (i := 6) sc_law.nd rfl (Or.inl rfl) (pe_makeG G_Ring_init__ (hr.mono (by decide)) rfl pass0 (pa_cons (pv 5) (pa_cons (pv 2) pa_nil))))
  (pss_cons (ps_set (i := 7) sc_law.nd rfl (Or.inl rfl) (pe_disp (pps_cons pe_str (pv 2) (pps_cons pe_str (pe_callTy x_list rfl Y.z_list (by decide +kernel) (pa_cons (pv 5) pa_nil)) (pps_cons pe_str (pe_op xMul (pe_lst (pa_cons pe_int pa_nil)) pe_int) (pps_cons pe_str (pe_op xMul (pe_lst (pa_cons pe_int pa_nil)) pe_int) (pps_cons pe_str (pe_lst (pa_cons (pe_lst (pa_cons (pe_op xMul (pe_lst (pa_cons pe_int pa_nil)) pe_int) (pa_cons (pe_op xMul (pe_lst (pa_cons pe_int pa_nil)) pe_int) pa_nil))) pa_nil)) pps_nil))))) rfl rfl (List.cons_ne_nil _ _) (Nat.le_of_ble_eq_true rfl)))
  (pss_cons (ps_for PassesOwn.never rfl (pi_list (pe_lst (pa_cons pe_str (pa_cons pe_str (pa_cons pe_str pa_nil))))) (pg_name (i := 8) sc_law.nd rfl (Or.inl rfl))
  (pss_one (ps_dput (hu1 hu) (pv 7) (pv 8) pe_int rfl)))
  (pss_cutG (ps_if (PW.pt (pw_or (pt_not (pt_val (pe_callG G_z_alike (hr.mono (by decide)) rfl pass0 (pa_cons (pv 6) (pa_cons (pv 7) (pa_cons (pv 5) pa_nil)))))) (pw_or1 (pt_not (pt_val (pe_callG G_z_write (hr.mono (by decide)) rfl pass0 (pa_cons (pv 6) (pa_cons (pv 7) (pa_cons pe_int (pa_cons (pe_op op_sub (pe_callB x_len rfl Y.z_len (by decide +kernel) (pa_cons (pv 5) pa_nil)) pe_int) pa_nil)))))))))) (pss_one (ps_ret pe_bl)) pss_nil)
  (pss_cons (ps_for PassesOwn.never rfl (pi_range1 rfl Y.z_range (pa_cons (pe_op xAdd pe_int (pe_callG G_z_draw (hr.mono (by decide)) rfl pass0 (pa_cons (pv 1) (pa_cons pe_int pa_nil)))) pa_nil)) (pg_name (i := 9) sc_law.nd rfl (Or.inl rfl))
  (pss_one (ps_if (pt_not (pt_val (pe_callG G_z_deed hr rfl pass0 (pa_cons (pv 1) (pa_cons (pv 6) (pa_cons (pv 7) (pa_cons (pv 5) pa_nil))))))) (pss_one (ps_ret pe_bl)) pss_nil)))
  (pss_cons (ps_for PassesOwn.never rfl (pi_range1 rfl Y.z_range (pa_cons pe_int pa_nil)) (pg_name (i := 9) sc_law.nd rfl (Or.inl rfl))
  (pss_cons (ps_if (pt_not (pt_val (pe_callG G_z_alike (hr.mono (by decide)) rfl pass0 (pa_cons (pv 6) (pa_cons (pv 7) (pa_cons (pv 5) pa_nil)))))) (pss_one (ps_ret pe_bl)) pss_nil)
  (pss_cutG (ps_if (PW.pt (pw_and (pt_cmpR op_gt (pe_dget (hu1 hu) (pv 7) pe_str (fun _ _ => rfl)) pe_int (nomark _)) (pw_and1 (pt_not (pt_val (pe_callG G_z_goes_up (hr.mono (by decide)) rfl pass0 (pa_cons (pv 6) (pa_cons (pv 7) pa_nil)))))))) (pss_one (ps_ret pe_bl)) pss_nil)
  (pss_one (ps_if (PW.pt (pw_and (pt_cmpR (xEq hu) (pe_op xMod (pe_callTy x_int rfl Y.z_int (by decide +kernel) (pa_cons (pv 9) pa_nil)) pe_int) pe_int (nomark _)) (pw_and1 (pt_not (pt_val (pe_callG G_z_write (hr.mono (by decide)) rfl pass0 (pa_cons (pv 6) (pa_cons (pv 7) (pa_cons pe_int (pa_cons (pe_callG G_z_draw (hr.mono (by decide)) rfl pass0 (pa_cons (pv 1) (pa_cons (pe_callB x_len rfl Y.z_len (by decide +kernel) (pa_cons (pv 5) pa_nil)) pa_nil))) pa_nil)))))))))) (pss_one (ps_ret pe_bl)) pss_nil)))))
  (pss_one (ps_ret (pe_and (pe_callG G_z_alike (hr.mono (by decide)) rfl pass0 (pa_cons (pv 6) (pa_cons (pv 7) (pa_cons (pv 5) pa_nil)))) (pe_one (pe_callB (x_all rfl) rfl Y.z_all (by decide +kernel) (pa_cons (pe_lc (own := [("_law_word_here", 10)]) (g := gName 10) rfl sc_law.nd (pi_list (pv 5)) (blkOk_by (N := N_law) (sc := defScope s_law) (by decide +kernel)) (fun _ _ _ _ _ => pg_name (i := 10) sc_law.nd rfl (Or.inl rfl)) (fun _ _ _ _ _ => pts_nil) (fun _ _ _ _ _ => (pe_callG G_z_is_integer (hr.mono (by decide)) rfl pass0 (pa_cons (pv 10) pa_nil)))) pa_nil)))))))))))))))), ?_⟩
  rw [st_law]
  try simp only [cxK, cxK2, cxW, cxW2]
  clear hu hr F
  repeat' walk_at "st"
  refine s_cutG (fun σ H' => ∃ (i c n : Int) (w : Nat), σ = [some (.ref sc), some (.ref pst), some (.int (w : Nat)), none, none, none, none, none, none, none, none] ∧ SH [] H H' [(pst, stD qst i c n sd 0), (qst, .lst (ns.map V.int))] ∧ 0 ≤ i ∧ 3 ≤ w ∧ w ≤ 32) ?_ ?_
  · repeat' walk_at "st"
    refine ⟨_, _, _, (3 + r).toNat, by rw [Int.toNat_of_nonneg (by omega)], hS.drop1, by omega, by omega, ?_⟩
    have h1 := Int.lt_of_lt_of_le hr1 (toI_bnd 4 30 rfl (by assumption) (by show _ < (4 : Int); assumption)).2
    omega
  clear hS
  rintro σ H1 ⟨i, c, n, w, rfl, hS, hi, hw3, hw33⟩
  repeat' walk_at "st"
  refine s_cutG (fun σ H' => ∃ (i c n : Int) (mm : Addr) (mem : List Int) (v3 v4 : Option V), σ = [some (.ref sc), some (.ref pst), some (.int (w : Nat)), v3, v4, some (.ref mm), none, none, none, none, none] ∧ SH [] H H' [(mm, mO mem), (pst, stD qst i c n sd 0), (qst, .lst (ns.map V.int))] ∧ 0 ≤ i ∧ 48 ≤ mem.length ∧ mem.length ≤ 400) ?_ ?_
  · repeat' walk_at "st"
    refine u_lcR1 hS (i := 4) (fun D k H' => ∃ ms : List Int, ms.length = k ∧ SH [] H H' ((D, .lst (ms.map V.int)) :: [(pst, stD qst x1 c1 n1 sd 0), (qst, .lst (ns.map V.int))])) (by omega) (by omega) (fun D H1 hS => ⟨[], rfl, hS⟩) ?_ ?_
    · rintro D i H1 hi ⟨ms, hl, hS⟩
      repeat' walk_at "st"
      exact ⟨ms ++ [_], by rw [List.length_append, hl]; rfl, snocI hS⟩
    · rintro D H1 ⟨ms, hl, hS⟩
      repeat' walk_at "st"
      exact ⟨_, _, _, D, ms, _, _, rfl, hS, hx1, by omega, by omega⟩
  clear hS
  rintro σ H1 ⟨i, c, n, mm, mem, v3, v4, rfl, hS, hi, hm48, hm400⟩
  repeat' walk_at "st"
  refine ⟨_, _, _, rfl, x, dx, mm, w, rfl, rfl, rfl, by omega, hS.get 0 rfl, fun S R rs H2 hr C => ⟨rfl, ?_⟩⟩
  have hS := SH.call (B := [(x, _)]) hS C
  have hS := hS.perm (L' := (pst, stD qst i c n sd 0) :: (qst, .lst (ns.map V.int)) :: LR K ⟨x, dx, S, R, rs⟩ mm mem ⟨W0 w, 1⟩) (by
    refine List.perm_append_comm.trans ?_
    exact List.Perm.append_right _ (l₁ := [_, _, _]) (l₂ := [_, _, _]) ((List.Perm.swap _ _ _).trans (List.Perm.cons _ (List.Perm.swap _ _ _))))
  repeat' walk_at "st"
  have hS := law_start hS
  generalize hD : (⟨_, _, _, _⟩ : MD) = D at hS
  generalize hv : (⟨_, _, _⟩ : MV) = v at hS
  have e1 := congrArg MD.m hD
  have e2 := congrArg MD.mm hD
  have e3 := congrArg MD.S hD
  have e4 := congrArg MD.R hD
  have e5 := congrArg MV.O hv
  dsimp only at e1 e2 e3 e4 e5
  rw [e1]
  rw [e1, e2, e3, e4, e5] at hS
  have vk : v.ok (Z0 w) := by rw [← hv]; exact ⟨rfl, rfl⟩
  clear e1 e2 e3 e4 e5 hD hv
  obtain ⟨B, eB⟩ : ∃ B : BA, B = ⟨x, dx, S, R, rs⟩ := ⟨_, rfl⟩
  have ex : x = B.b := by rw [eB]
  rw [← eB] at hS
  rw [ex]
  have hlB : B.rs.length = w := by rw [eB]; exact hr
  clear eB ex hr
  obtain ⟨key, ek⟩ : ∃ q, q = p := ⟨p, rfl⟩
  rw [← ek] at hS ⊢
  refine u_forL (xs := ([V.str "spills", V.str "fills", V.str "depth"] : List V)) (fun ti σ H' => ∃ v8, σ = [some (.ref sc), some (.ref pst), some (.int ((w : Nat) : Int)), v3, v4, some (.ref mm), some (.ref B.b), some (.ref D.m), v8, none, none] ∧ SH [] H H' ((key, .lst [V.str "spills", V.str "fills", V.str "depth"]) :: (D.m, .dK ([((.inr "windows" : L2.Key), V.int ((w : Nat) : Int)), (.inr "memory", .ref D.mm), (.inr "shared", .ref D.S), (.inr "outs", .ref v.O), (.inr "rows", .ref D.R)] ++ ([((.inr "spills" : L2.Key), V.int 0), (.inr "fills", V.int 0), (.inr "depth", V.int 0)] : List (L2.Key × V)).take ti)) :: (pst, stD qst i c n sd 0) :: (qst, .lst (ns.map V.int)) :: (xC D v mem ++ LR K B mm mem ⟨W0 w, 1⟩))) (SqL.of (hS.get 0 rfl)) ⟨_, rfl, hS⟩ ?_ ?_ ?_
  · rintro j σ H' _ ⟨v8, rfl, hS⟩
    exact SqL.of (hS.get 0 rfl)
  · rintro j y σ H' hy ⟨v8, rfl, hS⟩
    match j, hy with
    | 0, hy => cases hy; (repeat' walk_at "st"); exact ⟨_, rfl, hS⟩
    | 1, hy => cases hy; (repeat' walk_at "st"); exact ⟨_, rfl, hS⟩
    | 2, hy => cases hy; (repeat' walk_at "st"); exact ⟨_, rfl, hS⟩
    | n + 3, hy => cases hy
  · rintro σ H' ⟨v8, rfl, hS⟩
    have hS := law_go (d := (D.m, dO D v (Z0 w))) (X := xC D v mem) hS.drop1
    have R := rel0 (n := w) hw3 (by omega)
    have hlB : B.rs.length = (W0 w).rows.length := by rw [hlB]; exact List.length_replicate.symm
    have hS : SH [] H H' (LO K pst qst ns i c n sd B mm mem ⟨W0 w, 1⟩ D v (Z0 w)) := hS
    refine s_cutG (fun σ H' => ∃ v8 v9, σ = [some (.ref sc), some (.ref pst), some (.int ((w : Nat) : Int)), v3, v4, some (.ref mm), some (.ref B.b), some (.ref D.m), v8, v9, none] ∧ St K [] H pst qst ns sd B.b B.dx B.S B.R mm D mem.length H') ?_ ?_
    · have hml : (mem.map V.int).length = mem.length := List.length_map _
      repeat' walk_at "st"
      refine c_z_alike hS (LO_all hS) R vk hlB (fun H1 hS => ?_)
      repeat' walk_at "st"
      refine c_z_write (F := [_, _]) hS R vk hlB (by decide) (by decide) (fun H1 hS => ?_)
      repeat' walk_at "st"
      exact ⟨_, _, rfl, _, _, _, B.rs, _, ⟨(W0 w).setR _ _, 1⟩, v, _, hS, hi, R.setR (by decide) (by decide) _, setR_vk vk _ _, hlB.trans (setR_len _ _ _).symm, rfl⟩
    · clear hS
      rintro σ H1 ⟨v8, v9, rfl, i, c, n, rs, mem1, X, v1, Z, hS, hi, R, vk, hl, hm1⟩
      have draw : True := trivial
      repeat' walk_at "st"
      refine u_forR1 (fun _ σ H' => ∃ v8 v9, σ = [some (.ref sc), some (.ref pst), some (.int ((w : Nat) : Int)), v3, v4, some (.ref mm), some (.ref B.b), some (.ref D.m), v8, v9, none] ∧ St K [] H pst qst ns sd B.b B.dx B.S B.R mm D mem.length H') (by omega) (by omega) ⟨_, _, rfl, _, _, _, rs, mem1, X, v1, Z, hS, by assumption, R, vk, hl, hm1⟩ ?_ ?_
      · clear hS hi
        rintro ti σ H2 hti ⟨v8, v9, rfl, hSt⟩
        repeat' walk_at "st"
        refine c_z_deed hSt (by omega) (by omega) (fun H3 hSt => ?_)
        repeat' walk_at "st"
        exact ⟨_, _, rfl, hSt⟩
      · clear hS hi R vk hl hm1
        rintro σ H2 ⟨v8, v9, rfl, hSt⟩
        repeat' walk_at "st"
        refine u_forR1 (fun _ σ H' => ∃ v8 v9, σ = [some (.ref sc), some (.ref pst), some (.int ((w : Nat) : Int)), v3, v4, some (.ref mm), some (.ref B.b), some (.ref D.m), v8, v9, none] ∧ St K [] H pst qst ns sd B.b B.dx B.S B.R mm D mem.length H') (by decide) (by decide) ⟨_, _, rfl, hSt⟩ ?_ ?_
        · rintro ti σ H3 hti ⟨v8, v9, rfl, i, c, n, rs, mem1, X, v1, Z, hS, hi, R, vk, hl, hm1⟩
          have h400 : mem1.length ≤ 1000 := by omega
          have hml : (mem1.map V.int).length = mem1.length := List.length_map _
          repeat' walk_at "st"
          refine c_z_alike (B := ⟨B.b, B.dx, B.S, B.R, rs⟩) hS (LO_all hS) R vk hl (fun H1 hS => ?_)
          refine ⟨true, rfl, ?_⟩
          refine i_neg rfl ?_
          refine s_next ?_
          refine s_cutG (fun σ H' => ∃ v8, σ = [some (.ref sc), some (.ref pst), some (.int ((w : Nat) : Int)), v3, v4, some (.ref mm), some (.ref B.b), some (.ref D.m), v8, some (.int ti), none] ∧ St K [] H pst qst ns sd B.b B.dx B.S B.R mm D mem.length H') ?_ ?_
          · repeat' walk_at "st"
            · refine c_z_goes_up (B := ⟨B.b, B.dx, B.S, B.R, rs⟩) hS R vk hl h400 (fun rs1 X1 v2 Z1 H2 hS R vk hl => ?_)
              repeat' walk_at "st"
              exact ⟨_, rfl, _, _, _, rs1, mem1, X1, v2, Z1, hS, hi, R, vk, hl, hm1⟩
            · exact ⟨_, rfl, _, _, _, rs, mem1, X, v1, Z, hS, hi, R, vk, hl, hm1⟩
          · clear hS hi R vk hl hm1 h400 hml
            rintro σ H2 ⟨v8, rfl, i, c, n, rs, mem1, X, v1, Z, hS, hi, R, vk, hl, hm1⟩
            have hml : (mem1.map V.int).length = mem1.length := List.length_map _
            repeat' walk_at "st"
            · refine c_z_write (F := [_, _]) (B := ⟨B.b, B.dx, B.S, B.R, rs⟩) hS R vk hl (by decide) (by decide) (fun H1 hS => ?_)
              repeat' walk_at "st"
              exact ⟨_, _, rfl, _, _, _, rs, mem1, ⟨X.W.setR 30 _, X.res⟩, v1, _, hS, hx1, R.setR (by decide) (by decide) _, setR_vk vk _ _, hl.trans (setR_len _ _ _).symm, hm1⟩
            · exact ⟨_, _, rfl, _, _, _, rs, mem1, X, v1, Z, hS, hi, R, vk, hl, hm1⟩
        · rintro σ H3 ⟨v8, v9, rfl, i, c, n, rs, mem1, X, v1, Z, hS, hi, R, vk, hl, hm1⟩
          repeat' walk_at "st"
          refine c_z_alike (B := ⟨B.b, B.dx, B.S, B.R, rs⟩) hS (LO_all hS) R vk hl (fun H1 hS => ?_)
          repeat' walk_at "st"
          refine u_lcL hS (xs := mem1.map V.int) (fun q k H' => SH [] H H' ((q, .lst ((List.replicate k true).map V.bl)) :: LO K pst qst ns i c n sd ⟨B.b, B.dx, B.S, B.R, rs⟩ mm mem1 X D v1 Z)) (SqL.of (LO_mm hS)) (fun q H' hS => hS) (fun q k H' _ hS => SqL.of (LO_mm hS.drop1)) ?_ ?_
          · rintro q k y H' hy hS
            have hk := (List.getElem?_eq_some_iff.mp hy).1
            rw [List.length_map] at hk
            rw [List.getElem?_map] at hy
            obtain ⟨m, _, rfl⟩ := Option.map_eq_some_iff.mp hy
            repeat' walk_at "st"
            rw [List.replicate_succ', List.map_append]
            exact hS
          · rintro q H' hS
            repeat' walk_at "st"
            have e : (List.replicate (mem1.map V.int).length true).all id = true := by simp
            rw [e]
            exact k _
  )) only [↓Hsh.on])
end
theorem law_ask {K : PySem.W.Frag} {H : Hp} (a : Addr) (ns : List Int) (hl : ns.length ≤ 63) (hO : Only H) (hS : SqL K H a (ns.map V.int)) : sp_law K [.ref a] H (fun v _ => v = .bl true) fun _ _ _ => False :=
  by first | exact ⟨_, rfl, a, ns, rfl, Scr.of hS hO, fun _ => rfl⟩ | exact ⟨_, rfl, a, ns, rfl, hl, Scr.of hS hO, fun _ => rfl⟩
theorem facts {w : World} {K : PySem.W.Frag} {h : Heap} {mg : Str → Option Value} {f : Addr} (X : K.In h) (G : h.Ns mainGlobals mg) (hfa : mg ("law" : Str) = some (.ref f)) (c : SaysP fa fn ts ex prl w h K) :
    ∃ fd : FuncData, (∀ (s : Shared) (v : Value), BindsTo s fd ⟨[v], []⟩ [("_law_script", v)]) ∧ ∀ base : Heap, K.In base → base.Ns mainGlobals mg → FnOk (PySem.Challenge.rw_windowada_k67_ring).prog w K mg base CX0 6 f fd ["_law_script"] (sp_law K) := Hsh.un (by simp (disch := k_dflt (
  refine Hsh.up ?_
  have Y : Env w K mg := env_mk X G c
  obtain ⟨fd, F⟩ := Y.fd_law
  have e := hfa.symm.trans Y.mg_law
  cases e
  have b := FunD.bindsA (ps := ["_law_script"]) F fun _ _ _ _ _ _ us hl => match us, hl with | [_], _ => rfl
  refine ⟨fd, fun s v => b s [v] rfl, fun base _ _ => ?_⟩
  have G_Ring_init__ := ok_Ring_init__ (P := (PySem.Challenge.rw_windowada_k67_ring).prog) (w := w) (base := base) Y
  have G_Ring_blocked_down := ok_Ring_blocked_down (P := (PySem.Challenge.rw_windowada_k67_ring).prog) (w := w) (base := base) Y
  have G_Ring_blocked_up := ok_Ring_blocked_up (P := (PySem.Challenge.rw_windowada_k67_ring).prog) (w := w) (base := base) Y
  have G_row_of := ok_row_of (P := (PySem.Challenge.rw_windowada_k67_ring).prog) (w := w) (base := base) Y
  have G_Ring_read := ok_Ring_read (P := (PySem.Challenge.rw_windowada_k67_ring).prog) (w := w) (base := base) Y G_row_of
  have G_z_spot := ok_z_spot (P := (PySem.Challenge.rw_windowada_k67_ring).prog) (w := w) (base := base) Y
  have G_z_get := ok_z_get (P := (PySem.Challenge.rw_windowada_k67_ring).prog) (w := w) (base := base) Y G_z_spot
  have G_z_is_integer := ok_z_is_integer (P := (PySem.Challenge.rw_windowada_k67_ring).prog) (w := w) (base := base) Y
  have G_z_alike := ok_z_alike (P := (PySem.Challenge.rw_windowada_k67_ring).prog) (w := w) (base := base) Y G_Ring_blocked_down G_Ring_blocked_up G_Ring_read G_z_get G_z_is_integer
  have G_z_mixed := ok_z_mixed (P := (PySem.Challenge.rw_windowada_k67_ring).prog) (w := w) (base := base) Y
  have G_z_draw := ok_z_draw (P := (PySem.Challenge.rw_windowada_k67_ring).prog) (w := w) (base := base) Y G_z_mixed
  have G_area := ok_area (P := (PySem.Challenge.rw_windowada_k67_ring).prog) (w := w) (base := base) Y
  have G_Ring_spill := ok_Ring_spill (P := (PySem.Challenge.rw_windowada_k67_ring).prog) (w := w) (base := base) Y G_area
  have G_clear_new := ok_clear_new (P := (PySem.Challenge.rw_windowada_k67_ring).prog) (w := w) (base := base) Y
  have G_Ring_shift_down := ok_Ring_shift_down (P := (PySem.Challenge.rw_windowada_k67_ring).prog) (w := w) (base := base) Y G_Ring_spill G_clear_new
  have G_z_add := ok_z_add (P := (PySem.Challenge.rw_windowada_k67_ring).prog) (w := w) (base := base) Y
  have G_z_lies := ok_z_lies (P := (PySem.Challenge.rw_windowada_k67_ring).prog) (w := w) (base := base) Y
  have G_z_ring_down := ok_z_ring_down (P := (PySem.Challenge.rw_windowada_k67_ring).prog) (w := w) (base := base) Y G_z_add G_z_lies
  have H_z_add := hot_z_add (P := (PySem.Challenge.rw_windowada_k67_ring).prog) (w := w) (base := base) Y
  have H_z_lies := hot_z_lies (P := (PySem.Challenge.rw_windowada_k67_ring).prog) (w := w) (base := base) Y
  have H_z_ring_down := hot_z_ring_down (P := (PySem.Challenge.rw_windowada_k67_ring).prog) (w := w) (base := base) Y H_z_add H_z_lies
  have G_z_goes_down := ok_z_goes_down (P := (PySem.Challenge.rw_windowada_k67_ring).prog) (w := w) (base := base) Y G_Ring_shift_down G_z_ring_down H_z_ring_down
  have G_Ring_fill := ok_Ring_fill (P := (PySem.Challenge.rw_windowada_k67_ring).prog) (w := w) (base := base) Y G_area
  have G_Ring_shift_up := ok_Ring_shift_up (P := (PySem.Challenge.rw_windowada_k67_ring).prog) (w := w) (base := base) Y G_Ring_fill
  have G_z_ring_up := ok_z_ring_up (P := (PySem.Challenge.rw_windowada_k67_ring).prog) (w := w) (base := base) Y G_z_add G_z_lies
  have H_z_ring_up := hot_z_ring_up (P := (PySem.Challenge.rw_windowada_k67_ring).prog) (w := w) (base := base) Y H_z_add H_z_lies
  have G_z_goes_up := ok_z_goes_up (P := (PySem.Challenge.rw_windowada_k67_ring).prog) (w := w) (base := base) Y G_Ring_shift_up G_z_ring_up H_z_ring_up
  have G_z_word := ok_z_word (P := (PySem.Challenge.rw_windowada_k67_ring).prog) (w := w) (base := base) Y G_z_draw
  have G_Ring_write := ok_Ring_write (P := (PySem.Challenge.rw_windowada_k67_ring).prog) (w := w) (base := base) Y G_row_of
  have G_z_set := ok_z_set (P := (PySem.Challenge.rw_windowada_k67_ring).prog) (w := w) (base := base) Y G_z_spot
  have G_z_write := ok_z_write (P := (PySem.Challenge.rw_windowada_k67_ring).prog) (w := w) (base := base) Y G_Ring_write G_z_set
  have G_z_deed := ok_z_deed (P := (PySem.Challenge.rw_windowada_k67_ring).prog) (w := w) (base := base) Y G_Ring_read G_z_alike G_z_draw G_z_get G_z_goes_down G_z_goes_up G_z_is_integer G_z_word G_z_write
  have G_z_state := ok_z_state (P := (PySem.Challenge.rw_windowada_k67_ring).prog) (w := w) (base := base) Y
  exact ok_law (P := (PySem.Challenge.rw_windowada_k67_ring).prog) (w := w) (base := base) Y G_Ring_init__ G_z_alike G_z_deed G_z_draw G_z_goes_up G_z_is_integer G_z_state G_z_write F
  )) only [↓Hsh.on])
end Law
open PySem PySem.W PySem.Calls PyProof.Rows
set_option maxRecDepth 100000 in
set_option maxHeartbeats 0 in
theorem PySem.Challenge.cw_windowada_k67_ring_holds : PySem.Challenge.rw_windowada_k67_ring.Holds := by
  w_on; o_law
  refine HandSHeadRun.head_any (r := OpenLaw.row PySem.Challenge.rw_windowada_k67_ring) (q := view (OpenLaw.row PySem.Challenge.rw_windowada_k67_ring).prog [28]) (H := Law.hk) (ob := Law.ob) (M := 4000) (loose := Law.loose) (d := HandSHeadRun.topDef (OpenLaw.row PySem.Challenge.rw_windowada_k67_ring).prog 28) (kwd := []) Law.ob_eq
    (by kernel_rfl) (fun s => by kernel_rfl) Law.run (by kernel_rfl) (by kernel_rfl) (by kernel_rfl) (by rfl) (by first | assumption | decide +kernel) (by decide +kernel) ⟨rfl, rfl, rfl, rfl, rfl, by decide +kernel⟩ ?hw ?hc
  case hw => w_witness2
  case hc =>
    refine L2.walk_ofE (l := PySem.Challenge.rw_windowada_k67_ring) (n := 63) (k := 6) (x := "_law_script") (CX := L2.CX0) rfl (by decide) (by kernel_rfl) ⟨rfl, by decide, by decide⟩ ?F (fun _ _ _ _ z => z)
    intro w mg fa h Y G hmg0
    obtain ⟨K, KX, c⟩ := Y
    have hmg : mg ("law" : PySem.Str) = some (.ref fa) := by
      have e : (HandSHeadRun.topDef (OpenLaw.row PySem.Challenge.rw_windowada_k67_ring).prog 28).name = ("law" : PySem.Str) := by kernel_rfl
      rw [← e]
      exact hmg0
    obtain ⟨fd, hb, hF⟩ := Law.facts (w := w) KX G hmg c
    exact ⟨K, fd, Law.sp_law K, KX, hb, fun H a ns hl hO hS => Law.law_ask a ns hl hO hS, hF⟩

