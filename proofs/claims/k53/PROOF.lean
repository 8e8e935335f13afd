import PyProof.Rows.All
import Wide.All
import OpenK.AllK
import Wide.FinOn
import KE.KStateDown
import HandS.ForMost
import HandS.ForExc
import HandS.Wide
import HandS.TupAny
import HandS.TupMul
import HandS.TupLe
import HandS.Sort
import HandS.Style
import HandS.IsInst
import HandS.Defaults
import HandS.Property
import HandS.Head0
import HandS.Head1
import HandS.Head2
import HandS.EndBits
import HandS.HeadEnd
import HandS.HeadHook1
import HandS.HeadHook2
import HandS.HeadHook3
import HandS.HeadHook4
import HandS.HeadWalk
import KE.KTryMore
import HandS.Exc
import HandS.TryMany
import HandS.ExcOwn
import HandS.ExcIs
import HandS.Small
import HandS.WordsExc
import HandS.Strs
import HandS.More
import HandS.SetFor
import HandS.SetIn
import HandS.TryOnly
import HandS.ExcCtx
import HandS.HotCalls
import HandS.Conv
import KE.GoesEnum
import HandS.Deep
import PySem.Challenge.RW_windowada_k53_sound_assignments
set_option Elab.async false
set_option linter.all false
set_option maxRecDepth 100000
set_option maxHeartbeats 4000000
/-! Steps over the hand layer: a ledger (what this code owns on the heap), one lemma for each reading, a word that takes one step. -/
namespace Hsh
def Hush (P : Prop) : Prop := P
theorem on {P : Prop} (h : P) : Hush P := h
theorem un {P : Prop} (h : Hush P) : P := h
theorem up {P : Prop} (h : P) : P := h
end Hsh

namespace Q
open PySem PySem.Spec PyProof.Rows L2

/-! ### the ledger -/
abbrev Cell := Addr × HO
def Imm : HO → Bool
  | .tup _ => true
  | .frz _ _ => true
  | _ => false
/-- all that stood is kept but what stood at A (what never changes is kept there, too); nothing is freed -/
structure Keep (A : List Addr) (H H' : Hp) : Prop where
  k : ∀ b o, H b = some o → (b ∉ A ∨ Imm o = true) → H' b = some o
  d : ∀ b, H' b = none → H b = none
theorem Keep.refl (A : List Addr) (H : Hp) : Keep A H H := ⟨fun _ _ e _ => e, fun _ e => e⟩
theorem Keep.trans {A : List Addr} {H H1 H2 : Hp} (a : Keep A H H1) (b : Keep A H1 H2) : Keep A H H2 :=
  ⟨fun c o e q => b.k c o (a.k c o e q) q, fun c e => a.d c (b.d c e)⟩
theorem Keep.mono {A B : List Addr} {H H' : Hp} (a : Keep A H H') (s : ∀ b ∈ A, b ∈ B) : Keep B H H' :=
  ⟨fun c o e q => a.k c o e (q.imp (fun n z => n (s c z)) id), a.d⟩
theorem Keep.nil {B : List Addr} {H H' : Hp} (a : Keep [] H H') : Keep B H H' := a.mono fun _ z => nomatch z
/-- A the cells that stood at the entry H0; L what is known and owned now -/
structure SH (A : List Addr) (H0 H : Hp) (L : List Cell) : Prop where
  hs : ∀ c ∈ L, H c.1 = some c.2
  nd : (L.map (·.1)).Nodup
  kp : Keep A H0 H
  ow : ∀ c ∈ L, c.1 ∈ A ∨ H0 c.1 = none
section
variable {A B : List Addr} {H0 H H' : Hp} {L L' : List Cell} {a p : Addr} {o o' : HO}
theorem SH.start (hs : ∀ c ∈ L, H c.1 = some c.2) (nd : (L.map (·.1)).Nodup) : SH (L.map (·.1)) H H L :=
  ⟨hs, nd, Keep.refl _ _, fun c hc => .inl (List.mem_map_of_mem hc)⟩
theorem SH.start0 : SH [] H H [] := ⟨(fun _ h => nomatch h), List.nodup_nil, Keep.refl _ _, (fun _ h => nomatch h)⟩
theorem SH.start1 (h : H a = some o) : SH [a] H H [(a, o)] := SH.start (L := [(a, o)]) (by intro c hc; rcases List.mem_singleton.mp hc with rfl; exact h) (by simp)
theorem SH.get (S : SH A H0 H L) (i : Nat) (e : L[i]? = some (a, o)) : H a = some o := S.hs _ (List.mem_of_getElem? e)
theorem SH.imm (S : SH A H0 H L) (h : H0 a = some o) (e : Imm o = true) : H a = some o := S.kp.k a o h (.inr e)
theorem SH.new (S : SH A H0 H L) (o : HO) (hp : H p = none) : SH A H0 (upd H p o) ((p, o) :: L) := Hsh.un (by simp (disch := k_dflt (
  refine Hsh.up ?_
  have hne : ∀ c ∈ L, c.1 ≠ p := fun c hc z => by
    have := S.hs c hc
    rw [z, hp] at this
    cases this
  refine ⟨fun c hc => ?_, ?_, ⟨fun b u e q => ?_, fun b e => ?_⟩, fun c hc => ?_⟩
  · rcases List.mem_cons.mp hc with rfl | hc
    · exact upd_same
    · rw [upd_ne (hne c hc)]
      exact S.hs c hc
  · rw [List.map_cons, List.nodup_cons]
    refine ⟨fun z => ?_, S.nd⟩
    obtain ⟨c, hc, e⟩ := List.mem_map.mp z
    exact hne c hc e
  · have h1 := S.kp.k b u e q
    rw [upd_ne (ne_of_none h1 hp)]
    exact h1
  · by_cases hb : b = p
    · rw [hb, upd_same] at e
      cases e
    · rw [upd_ne hb] at e
      exact S.kp.d b e
  · rcases List.mem_cons.mp hc with rfl | hc
    · exact .inr (S.kp.d _ hp)
    · exact S.ow c hc
  )) only [↓Hsh.on])
theorem mem_set_cell {L : List Cell} {i : Nat} {c d : Cell} (h : c ∈ L.set i d) : c = d ∨ ∃ j, j ≠ i ∧ L[j]? = some c := Hsh.un (by simp (disch := k_dflt (
  refine Hsh.up ?_
  obtain ⟨j, hj, e⟩ := List.mem_iff_getElem.mp h
  by_cases q : j = i
  · left
    subst q
    rw [List.getElem_set_self] at e
    exact e.symm
  · right
    refine ⟨j, q, ?_⟩
    rw [List.length_set] at hj
    rw [List.getElem_set_ne (Ne.symm q)] at e
    rw [List.getElem?_eq_getElem hj, e]
  )) only [↓Hsh.on])
theorem map_set_key {L : List Cell} {i : Nat} {a : Addr} {o o' : HO} (e : L[i]? = some (a, o)) : (L.set i (a, o')).map (·.1) = L.map (·.1) := Hsh.un (by simp (disch := k_dflt (
  refine Hsh.up ?_
  apply List.ext_getElem?
  intro j
  rw [List.getElem?_map, List.getElem?_map, List.getElem?_set]
  by_cases q : i = j
  · subst q
    obtain ⟨hi, e2⟩ := List.getElem?_eq_some_iff.mp e
    rw [if_pos rfl, if_pos hi, e]
    rfl
  · rw [if_neg q]
  )) only [↓Hsh.on])
theorem nodup_key {L : List Cell} (nd : (L.map (·.1)).Nodup) {i j : Nat} {c d : Cell} (h1 : L[i]? = some c) (h2 : L[j]? = some d) (ne : j ≠ i) : d.1 ≠ c.1 := fun z => by
  have e1 : (L.map (·.1))[i]? = some c.1 := by rw [List.getElem?_map, h1]; rfl
  have e2 : (L.map (·.1))[j]? = some c.1 := by rw [List.getElem?_map, h2]; exact congrArg some z
  obtain ⟨l1, q1⟩ := List.getElem?_eq_some_iff.mp e1
  obtain ⟨l2, q2⟩ := List.getElem?_eq_some_iff.mp e2
  exact ne ((List.getElem_inj nd).mp (q2.trans q1.symm))
theorem SH.set (S : SH A H0 H L) (i : Nat) (e : L[i]? = some (a, o)) (im : Imm o = false) (o' : HO) : SH A H0 (upd H a o') (L.set i (a, o')) := Hsh.un (by simp (disch := k_dflt (
  refine Hsh.up ?_
  have ha := S.get i e
  refine ⟨fun c hc => ?_, ?_, ⟨fun b u q z => ?_, fun b q => ?_⟩, fun c hc => ?_⟩
  · rcases mem_set_cell hc with rfl | ⟨j, nj, ej⟩
    · exact upd_same
    · rw [upd_ne (nodup_key S.nd e ej nj)]
      exact S.hs c (List.mem_of_getElem? ej)
  · rw [map_set_key e]
    exact S.nd
  · have h1 := S.kp.k b u q z
    have nb : b ≠ a := fun y => by
      subst y
      rw [ha] at h1
      cases h1
      rcases z with z | z
      · rcases S.ow _ (List.mem_of_getElem? e) with w | w
        · exact z w
        · rw [q] at w
          cases w
      · rw [im] at z
        cases z
    rw [upd_ne nb]
    exact h1
  · by_cases hb : b = a
    · rw [hb, upd_same] at q
      cases q
    · rw [upd_ne hb] at q
      exact S.kp.d b q
  · rcases mem_set_cell hc with rfl | ⟨j, nj, ej⟩
    · exact S.ow (a, o) (List.mem_of_getElem? e)
    · exact S.ow c (List.mem_of_getElem? ej)
  )) only [↓Hsh.on])
/-- behind a call that changed at most what stands at the keys of U (their new cells), each of them a cell of L -/
theorem SH.call0 (S : SH A H0 H L) (k : Keep [] H H') : SH A H0 H' L :=
  ⟨fun c hc => k.k _ _ (S.hs c hc) (.inl (by simp)), S.nd, S.kp.trans k.nil, S.ow⟩
theorem SH.call1 (S : SH A H0 H L) (i : Nat) (e : L[i]? = some (a, o)) (im : Imm o = false) (k : Keep [a] H H') (h : H' a = some o') : SH A H0 H' (L.set i (a, o')) := Hsh.un (by simp (disch := k_dflt (
  refine Hsh.up ?_
  have ha := S.get i e
  refine ⟨fun c hc => ?_, by rw [map_set_key e]; exact S.nd, ⟨fun b u q z => ?_, fun b q => S.kp.d b (k.d b q)⟩, fun c hc => ?_⟩
  · rcases mem_set_cell hc with rfl | ⟨j, nj, ej⟩
    · exact h
    · exact k.k _ _ (S.hs c (List.mem_of_getElem? ej)) (.inl fun z => nodup_key S.nd e ej nj (List.mem_singleton.mp z))
  · have h1 := S.kp.k b u q z
    refine k.k b u h1 ?_
    rcases z with z | z
    · refine .inl fun y => ?_
      have y' := List.mem_singleton.mp y
      subst y'
      rcases S.ow _ (List.mem_of_getElem? e) with w | w
      · exact z w
      · rw [q] at w
        cases w
    · exact .inr z
  · rcases mem_set_cell hc with rfl | ⟨j, nj, ej⟩
    · exact S.ow (a, o) (List.mem_of_getElem? e)
    · exact S.ow c (List.mem_of_getElem? ej)
  )) only [↓Hsh.on])
/-- a new object of a callee -/
theorem SH.add (S : SH A H0 H L) (S' : SH A H0 H' L') (ks : ∀ c ∈ L', H c.1 ≠ none) (n : H p = none) (h : H' p = some o) : SH A H0 H' ((p, o) :: L') := Hsh.un (by simp (disch := k_dflt (
  refine Hsh.up ?_
  refine ⟨fun c hc => ?_, ?_, S'.kp, fun c hc => ?_⟩
  · rcases List.mem_cons.mp hc with rfl | hc
    · exact h
    · exact S'.hs c hc
  · rw [List.map_cons, List.nodup_cons]
    refine ⟨fun z => ?_, S'.nd⟩
    obtain ⟨c, hc, e⟩ := List.mem_map.mp z
    exact ks c hc (e ▸ n)
  · rcases List.mem_cons.mp hc with rfl | hc
    · exact .inr (S.kp.d _ n)
    · exact S'.ow c hc
  )) only [↓Hsh.on])
theorem SH.call0n (S : SH A H0 H L) (k : Keep [] H H') (n : H p = none) (h : H' p = some o) : SH A H0 H' ((p, o) :: L) :=
  S.add (S.call0 k) (fun c hc => by rw [S.hs c hc]; exact nofun) n h
theorem SH.call1n {q : Addr} {u : HO} (S : SH A H0 H L) (i : Nat) (e : L[i]? = some (a, o)) (im : Imm o = false) (k : Keep [a] H H') (h : H' a = some o') (n : H q = none) (h2 : H' q = some u) : SH A H0 H' ((q, u) :: L.set i (a, o')) := Hsh.un (by simp (disch := k_dflt (
  refine Hsh.up ?_
  refine S.add (S.call1 i e im k h) (fun c hc => ?_) n h2
  rcases mem_set_cell hc with rfl | ⟨j, nj, ej⟩
  · rw [S.get i e]
    exact nofun
  · rw [S.hs c (List.mem_of_getElem? ej)]
    exact nofun
  )) only [↓Hsh.on])
theorem SH.sub (S : SH A H0 H L) (s : L'.Sublist L) : SH A H0 H L' :=
  ⟨fun c hc => S.hs c (s.subset hc), (s.map _).nodup S.nd, S.kp, fun c hc => S.ow c (s.subset hc)⟩
theorem SH.pick (S : SH A H0 H L) (is : List Nat) (nd : is.Nodup) (e : is.map (fun i => L[i]?) = L'.map some) : SH A H0 H L' := Hsh.un (by simp (disch := k_dflt (
  refine Hsh.up ?_
  have at_ : ∀ (j : Nat) (c : Cell), L'[j]? = some c → ∃ i, is[j]? = some i ∧ L[i]? = some c := fun j c h => by
    have q : (is.map (fun i => L[i]?))[j]? = some (some c) := by rw [e, List.getElem?_map, h]; rfl
    rw [List.getElem?_map] at q
    cases h2 : is[j]? with
    | none => rw [h2] at q; cases q
    | some i => rw [h2] at q; exact ⟨i, rfl, Option.some.inj q⟩
  have mem : ∀ c ∈ L', c ∈ L := fun c hc => by
    obtain ⟨j, hj, e2⟩ := List.mem_iff_getElem.mp hc
    obtain ⟨i, _, h⟩ := at_ j c (by rw [List.getElem?_eq_getElem hj, e2])
    exact List.mem_of_getElem? h
  refine ⟨fun c hc => S.hs c (mem c hc), ?_, S.kp, fun c hc => S.ow c (mem c hc)⟩
  refine List.pairwise_iff_getElem.mpr fun a b ha hb hab z => ?_
  rw [List.length_map] at ha hb
  rw [List.getElem_map, List.getElem_map] at z
  obtain ⟨i, i1, i2⟩ := at_ a _ (List.getElem?_eq_getElem ha)
  obtain ⟨j, j1, j2⟩ := at_ b _ (List.getElem?_eq_getElem hb)
  have hij : i ≠ j := fun q => by
    subst q
    obtain ⟨l1, q1⟩ := List.getElem?_eq_some_iff.mp i1
    obtain ⟨l2, q2⟩ := List.getElem?_eq_some_iff.mp j1
    have := (List.getElem_inj nd).mp (q1.trans q2.symm)
    omega
  exact nodup_key S.nd i2 j2 (Ne.symm hij) z.symm
  )) only [↓Hsh.on])
theorem SH.drop1 {c : Cell} (S : SH A H0 H (c :: L)) : SH A H0 H L := S.sub (List.sublist_cons_self _ _)
theorem SH.perm (S : SH A H0 H L) (p : L.Perm L') : SH A H0 H L' :=
  ⟨fun c hc => S.hs c (p.mem_iff.mpr hc), (p.map _).nodup_iff.mp S.nd, S.kp, fun c hc => S.ow c (p.mem_iff.mpr hc)⟩
theorem SH.ro (S : SH [] H0 H L) (h : H0 a = some o) : H a = some o := S.kp.k a o h (.inl fun z => nomatch z)
/-- what this code did, seen from outside -/
theorem SH.done (S : SH A H0 H L) : Keep A H0 H := S.kp
theorem SH.ne (S : SH A H0 H L) {i j : Nat} {c d : Cell} (h1 : L[i]? = some c) (h2 : L[j]? = some d) (ne : j ≠ i) : d.1 ≠ c.1 := nodup_key S.nd h1 h2 ne
end

/-- behind a call that turned the cells B into B2 -/
theorem SH.call {A : List Addr} {H0 H H' : Hp} {B B2 F : List Cell} (S : SH A H0 H (B ++ F)) (C : SH (B.map (·.1)) H H' B2) : SH A H0 H' (B2 ++ F) := Hsh.un (by simp (disch := k_dflt (
  refine Hsh.up ?_
  have apart : ∀ c ∈ F, c.1 ∉ B.map (·.1) := fun c hc z => by
    have nd := S.nd
    rw [List.map_append] at nd
    exact (List.nodup_append.mp nd).2.2 c.1 z c.1 (List.mem_map_of_mem hc) rfl
  refine ⟨fun c hc => ?_, ?_, ⟨fun b o e q => ?_, fun b e => S.kp.d b (C.kp.d b e)⟩, fun c hc => ?_⟩
  · rcases List.mem_append.mp hc with h | h
    · exact C.hs c h
    · exact C.kp.k _ _ (S.hs c (List.mem_append_right _ h)) (.inl (apart c h))
  · rw [List.map_append]
    have nd := S.nd
    rw [List.map_append] at nd
    refine List.nodup_append.mpr ⟨C.nd, (List.nodup_append.mp nd).2.1, fun a ha b hb e => ?_⟩
    subst e
    obtain ⟨c, hc, rfl⟩ := List.mem_map.mp ha
    obtain ⟨d, hd, e⟩ := List.mem_map.mp hb
    rcases C.ow c hc with w | w
    · exact apart d hd (by rw [e]; exact w)
    · rw [← e, S.hs d (List.mem_append_right _ hd)] at w
      cases w
  · have h1 := S.kp.k b o e q
    refine C.kp.k b o h1 ?_
    rcases q with q | q
    · refine .inl fun z => ?_
      obtain ⟨c, hc, e2⟩ := List.mem_map.mp z
      rcases S.ow c (List.mem_append_left _ hc) with w | w
      · exact q (e2 ▸ w)
      · rw [e2, e] at w
        cases w
    · exact .inr q
  · rcases List.mem_append.mp hc with h | h
    · rcases C.ow c h with w | w
      · obtain ⟨d, hd, e⟩ := List.mem_map.mp w
        rw [← e]
        exact S.ow d (List.mem_append_left _ hd)
      · exact .inr (S.kp.d _ w)
    · exact S.ow c (List.mem_append_right _ h)
  )) only [↓Hsh.on])
theorem SH.pickT {A : List Addr} {H0 H : Hp} {L L' : List Cell} (n : Nat) (S : SH A H0 H L) (is : List Nat) (nd : is.Nodup) (hb : ∀ i ∈ is, i < n) (e : is.map (fun i => L[i]?) = L'.map some) : SH A H0 H (L' ++ L.drop n) := Hsh.un (by simp (disch := k_dflt (
  refine Hsh.up ?_
  have S1 := S.pick is nd e
  have S2 := S.sub (List.drop_sublist n L)
  refine ⟨fun c hc => (List.mem_append.mp hc).elim (S1.hs c) (S2.hs c), ?_, S.kp, fun c hc => (List.mem_append.mp hc).elim (S1.ow c) (S2.ow c)⟩
  rw [List.map_append]
  refine List.nodup_append.mpr ⟨S1.nd, S2.nd, fun a ha b hb' q => ?_⟩
  subst q
  obtain ⟨c, hc, rfl⟩ := List.mem_map.mp ha
  obtain ⟨d, hd, ed⟩ := List.mem_map.mp hb'
  obtain ⟨j, hj, ej⟩ := List.mem_iff_getElem.mp hc
  obtain ⟨m, hm, em⟩ := List.mem_iff_getElem.mp hd
  have q : (is.map (fun i => L[i]?))[j]? = some (some c) := by rw [e, List.getElem?_map, List.getElem?_eq_getElem hj, ej]; rfl
  rw [List.getElem?_map] at q
  cases h2 : is[j]? with
  | none => rw [h2] at q; cases q
  | some i =>
    rw [h2] at q
    have hi := hb i (List.mem_of_getElem? h2)
    have e1 : L[i]? = some c := Option.some.inj q
    have e2 : L[n + m]? = some d := by rw [← List.getElem?_drop, List.getElem?_eq_getElem hm, em]
    exact nodup_key S.nd e1 e2 (by omega) ed
  )) only [↓Hsh.on])
theorem perm_mid {α : Type} (A B S : List α) : ((A ++ B) ++ S).Perm (A ++ (S ++ B)) := by
  rw [List.append_assoc]
  exact List.Perm.append_left _ List.perm_append_comm
/-- cells that are there, apart -/
structure Blk (H : Hp) (B : List Cell) : Prop where
  hs : ∀ c ∈ B, H c.1 = some c.2
  nd : (B.map (·.1)).Nodup
theorem SH.callM {A : List Addr} {H0 H H' : Hp} {F B B2 G : List Cell} (S : SH A H0 H (F ++ (B ++ G))) (C : SH (B.map (·.1)) H H' B2) : SH A H0 H' (F ++ (B2 ++ G)) := Hsh.un (by simp (disch := k_dflt (
  refine Hsh.up ?_
  have p : ∀ X : List Cell, (F ++ (X ++ G)).Perm (X ++ (F ++ G)) := fun X => by
    rw [← List.append_assoc, ← List.append_assoc]
    exact List.Perm.append_right _ List.perm_append_comm
  exact ((S.perm (p B)).call C).perm (p B2).symm
  )) only [↓Hsh.on])
theorem SH.callR {A : List Addr} {H0 H H' : Hp} {F B B2 : List Cell} (S : SH A H0 H (F ++ B)) (C : SH (B.map (·.1)) H H' B2) : SH A H0 H' (F ++ B2) :=
  ((S.perm List.perm_append_comm).call C).perm List.perm_append_comm
theorem SH.blkM {A : List Addr} {H0 H : Hp} (F B G : List Cell) (S : SH A H0 H (F ++ (B ++ G))) : Blk H B := ⟨fun c hc => S.hs c (List.mem_append_right _ (List.mem_append_left _ hc)), by
  have nd := S.nd
  rw [List.map_append, List.map_append] at nd
  exact (List.nodup_append.mp (List.nodup_append.mp nd).2.1).1⟩
theorem SH.blkR {A : List Addr} {H0 H : Hp} (F B : List Cell) (S : SH A H0 H (F ++ B)) : Blk H B := ⟨fun c hc => S.hs c (List.mem_append_right _ hc), by
  have nd := S.nd
  rw [List.map_append] at nd
  exact (List.nodup_append.mp nd).2.1⟩
theorem Blk.sh {H : Hp} {B : List Cell} (b : Blk H B) : SH (B.map (·.1)) H H B := SH.start b.hs b.nd
theorem SH.blk {A : List Addr} {H0 H : Hp} {L : List Cell} (S : SH A H0 H L) : Blk H L := ⟨S.hs, S.nd⟩
theorem Blk.sub {H : Hp} {B B' : List Cell} (b : Blk H B) (s : B'.Sublist B) : Blk H B' := ⟨fun c hc => b.hs c (s.subset hc), (s.map _).nodup b.nd⟩
theorem SH.fr0 {H0 H : Hp} {L : List Cell} {p : Addr} {o : HO} (S : SH [] H0 H L) (i : Nat) (e : L[i]? = some (p, o)) : H0 p = none := (S.ow (p, o) (List.mem_of_getElem? e)).elim (fun z => nomatch z) id
theorem SH.fr1 {H0 H : Hp} {L : List Cell} {p a : Addr} {o u : HO} (S : SH [a] H0 H L) (i j : Nat) (e : L[i]? = some (p, o)) (e2 : L[j]? = some (a, u)) (ne : i ≠ j) : H0 p = none :=
  (S.ow (p, o) (List.mem_of_getElem? e)).elim (fun z => absurd (List.mem_singleton.mp z) (nodup_key S.nd e2 e ne)) id
theorem SH.frn {A : List Addr} {H0 H : Hp} {L : List Cell} {p : Addr} {o : HO} (S : SH A H0 H L) (i : Nat) (e : L[i]? = some (p, o)) (n : p ∉ A) : H0 p = none := (S.ow (p, o) (List.mem_of_getElem? e)).elim (fun z => absurd z n) id
/-- the script (or another list that nobody changes) -/
def Scr (K : PySem.W.Frag) (H : Hp) (a : Addr) (xs : List V) : Prop :=
  (∃ o, H a = some (.frz o (.lst xs))) ∨
    ∃ (o : Obj) (its : Array Value) (n : Nat), K.lookup a = some o ∧ o.cls = .type "list" ∧ o.dict = none ∧ o.data = .seq its n ∧ its.size ≤ sizeLine ∧ Vals xs its.toList
theorem Scr.sq {K : PySem.W.Frag} {H : Hp} {a : Addr} {xs : List V} (h : Scr K H a xs) : SqL K H a xs := Hsh.un (by simp (disch := k_dflt (
  refine Hsh.up ?_
  rcases h with ⟨o, h⟩ | h
  · exact .inl (.inr ⟨o, h⟩)
  · exact .inr h
  )) only [↓Hsh.on])
theorem Scr.keep {K : PySem.W.Frag} {A : List Addr} {H H' : Hp} {a : Addr} {xs : List V} (h : Scr K H a xs) (k : Keep A H H') : Scr K H' a xs := Hsh.un (by simp (disch := k_dflt (
  refine Hsh.up ?_
  rcases h with ⟨o, h⟩ | h
  · exact .inl ⟨o, k.k _ _ h (.inr rfl)⟩
  · exact .inr h
  )) only [↓Hsh.on])
theorem Scr.of {K : PySem.W.Frag} {H : Hp} {a : Addr} {xs : List V} (h : SqL K H a xs) (O : Only H) : Scr K H a xs := Hsh.un (by simp (disch := k_dflt (
  refine Hsh.up ?_
  rcases h with (h | ⟨o, h⟩) | h
  · rcases O a with q | ⟨o, ys, q⟩
    · rw [q] at h
      cases h
    · rw [q] at h
      cases h
  · exact .inl ⟨o, h⟩
  · exact .inr h
  )) only [↓Hsh.on])

/-! ### operators for several kinds of values -/
section
variable {X : Cx}
def CDivX (_ j : Int) : Prop := j ≠ 0 ∧ j.natAbs.log2 < 9000
theorem op_fdivX : OpR X (binaryOp .FloorDiv) (rI CDivX fun i j => .int (i.fdiv j)) := opI fun _ _ _ _ _ _ _ hc q => floordiv_int hc.1 q (.inl (PyProof.noPylong_of_log2 hc.2))
def rAddX (K : PySem.W.Frag) : R2 := fun x y H Q => rI0 (fun i j => .int (i + j)) x y H Q ∨ (∃ i j, x = .str i ∧ y = .str j ∧ i.length + j.length ≤ sizeLine ∧ Q (.str (i ++ j)) H) ∨ rCat x y H Q ∨ rCatA K x y H Q
theorem xAdd : OpR X (binaryOp .Add) (rAddX X.K) := op_add.or (op_add_str.or (op_cat.or op_catA))
def rMulX (K : PySem.W.Frag) : R2 := fun x y H Q => rI CMul (fun i j => .int (i * j)) x y H Q ∨ rI CMulW (fun i j => .int (i * j)) x y H Q ∨ rRep x y H Q ∨ rRepT K x y H Q
theorem xMul : OpR X (binaryOp .Mult) (rMulX X.K) := op_mul.or (op_mulW.or (op_rep.or op_repT))
def rDivX : R2 := fun x y H Q => rI CDivW (fun i j => .int (i / j)) x y H Q ∨ rI CDivX (fun i j => .int (i.fdiv j)) x y H Q
theorem xDiv : OpR X (binaryOp .FloorDiv) rDivX := op_fdivW.or op_fdivX
def rModX : R2 := fun x y H Q => rI (fun _ j => 0 < j) (fun i j => .int (i % j)) x y H Q ∨ rI (fun _ j => j ≠ 0) (fun i j => .int (i.fmod j)) x y H Q
theorem xMod : OpR X (binaryOp .Mod) rModX := op_mod.or op_modN
def rEqX (K : PySem.W.Frag) : R2 := fun x y H Q => rEq x y H Q ∨ rEqD K x y H Q
def rNeX (K : PySem.W.Frag) : R2 := fun x y H Q => rNe x y H Q ∨ rNeD K x y H Q
theorem xEq (hu : X.A.units + 64 < cLine) : OpR X (compareOp .Eq) (rEqX X.K) := op_eq.or (op_eqD hu)
theorem xNe (hu : X.A.units + 64 < cLine) : OpR X (compareOp .NotEq) (rNeX X.K) := op_ne.or (op_neD hu)
def rInX (K : PySem.W.Frag) (neg : Bool) : R2 := rIn K neg
theorem xIn : OpR X (compareOp .In) (rInX X.K false) := op_in_seq
theorem xNotIn : OpR X (compareOp .NotIn) (rInX X.K true) := op_notIn_seq
def rIsX : R2 := fun x y H Q => (y = .non ∧ Q (.bl (decide (x = .non))) H) ∨ (∃ a b, x = .bl a ∧ y = .bl b ∧ Q (.bl (decide (a = b))) H)
def rIsNotX : R2 := fun x y H Q => (y = .non ∧ Q (.bl (!decide (x = .non))) H) ∨ (∃ a b, x = .bl a ∧ y = .bl b ∧ Q (.bl (!decide (a = b))) H)
theorem xIs : OpR X (compareOp .Is) rIsX := op_isN.or op_is_bl
theorem xIsNot : OpR X (compareOp .IsNot) rIsNotX := op_notN.or op_isnot_bl
def rIxX (K : PySem.W.Frag) : R2 := rIx K
theorem xIx : IxR X (rIxX X.K) := ix_seq
def rSlX (K : PySem.W.Frag) : V → Option Int → Option Int → Hp → VK → Prop := fun x lo hi H Q => rSlL K x lo hi H Q ∨ rSlT K x lo hi H Q
theorem xSl : SlR X (rSlX X.K) := sl_list.or sl_tup
theorem CallR.or {f : Value} {r r' : List V → Hp → VK → Prop} (h : CallR X f r) (h' : CallR X f r') : CallR X f (fun xs H Q => r xs H Q ∨ r' xs H Q) := Hsh.un (by simp (disch := k_dflt (
  refine Hsh.up ?_
  intro pins s σ H xs us Q I r1 q
  rcases q with q | q
  · exact h pins s σ H xs us Q I r1 q
  · exact h' pins s σ H xs us Q I r1 q
  )) only [↓Hsh.on])
def rInt : List V → Hp → VK → Prop := fun xs H Q => (∃ i, xs = [.int i] ∧ Q (.int i) H) ∨ ∃ k, xs = [.bl k] ∧ Q (.int (if k then 1 else 0)) H
theorem x_int : CallR X (.type "int") rInt := call_int1
def rLenX (K : PySem.W.Frag) : List V → Hp → VK → Prop := fun xs H Q => ∃ x n, xs = [x] ∧ LenV K x H n ∧ Q (.int n) H
theorem x_len : CallR X (.builtin "len") (rLenX X.K) := call_len
def rAbs : List V → Hp → VK → Prop := fun xs H Q => ∃ i, xs = [.int i] ∧ Q (.int (if i < 0 then -i else i)) H
theorem x_abs : CallR X (.builtin "abs") rAbs := call_abs
def rIsiX (K : PySem.W.Frag) : List V → Hp → VK → Prop := fun xs H Q => rIsi K xs H Q ∨ rIsiT K xs H Q
theorem x_isinstance : CallR X (.builtin "isinstance") (rIsiX X.K) := CallR.or call_isi call_isiT
def rListX (K : PySem.W.Frag) : List V → Hp → VK → Prop := fun xs H Q => ∃ p ys, xs = [.ref p] ∧ (SqL K H p ys ∨ SqT K H p ys) ∧ ∀ l, H l = none → Q (.ref l) (upd H l (.lst ys))
theorem x_list : CallR X (.type "list") (rListX X.K) := call_list_of
def rTupX (K : PySem.W.Frag) : List V → Hp → VK → Prop := fun xs H Q => ∃ p ys, xs = [.ref p] ∧ ((SqL K H p ys ∧ ∀ l, H l = none → Q (.ref l) (upd H l (.tup ys))) ∨ (SqT K H p ys ∧ Q (.ref p) H))
theorem x_tuple : CallR X (.type "tuple") (rTupX X.K) := call_tuple_of
def rMax2 : List V → Hp → VK → Prop := fun xs H Q => ∃ i j, xs = [.int i, .int j] ∧ Q (.int (if j > i then j else i)) H
theorem x_max2 (hc : X.calm = true) : CallR X (.builtin "max") rMax2 := call_max2 hc
def rMin2 : List V → Hp → VK → Prop := fun xs H Q => ∃ i j, xs = [.int i, .int j] ∧ Q (.int (if j < i then j else i)) H
theorem x_min2 (hc : X.calm = true) : CallR X (.builtin "min") rMin2 := call_min2 hc
theorem x_sum (hc : X.calm = true) : CallR X (.builtin "sum") (rSum X.K) := cr_sum hc
theorem x_max1 (hc : X.calm = true) : CallR X (.builtin "max") (rMax X.K) := cr_max hc
theorem x_min1 (hc : X.calm = true) : CallR X (.builtin "min") (rMin X.K) := cr_min hc
theorem x_all (hc : X.calm = true) : CallR X (.builtin "all") (rAll X.K) := cr_all hc
theorem x_any (hc : X.calm = true) : CallR X (.builtin "any") (rAny X.K) := cr_any hc
/-- a module's constant -/
theorem pe_ci {x : Str} {i : Int} {pos : Pos} (hg : Gl X x) (h : ∃ t, X.mg x = some (.int i t)) (hd : (x == ("__debug__" : Str)) = false := by decide) : PE X (.Name x pos) (tC (.int i)) := by
  obtain ⟨t, h⟩ := h
  exact pe_glob hg h ⟨t, rfl⟩ hd
theorem pe_gr {x : Str} {a : Addr} {pos : Pos} (hg : Gl X x) (h : X.mg x = some (.ref a)) (hd : (x == ("__debug__" : Str)) = false := by decide) : PE X (.Name x pos) (tC (.ref a)) := pe_glob hg h rfl hd
theorem pe_cs {x z : Str} {pos : Pos} (hg : Gl X x) (h : ∃ t, X.mg x = some (.str z t)) (hd : (x == ("__debug__" : Str)) = false := by decide) : PE X (.Name x pos) (tC (.str z)) := by
  obtain ⟨t, h⟩ := h
  exact pe_glob hg h ⟨t, rfl⟩ hd
end

/-! ### == of lists of ints -/
theorem shaped_ints (ns : List Int) : SeqAt.shaped (.list (ns.map PyData.int)) = true := Hsh.un (by simp (disch := k_dflt (
  refine Hsh.up ?_
  have h1 : ∀ l : List Int, PyData.canLayAll0 (l.map PyData.int) = true := fun l => by
    induction l with
    | nil => rfl
    | cons n r ih => rw [List.map_cons, PyData.canLayAll0, ih]; rfl
  have h2 : ∀ l : List Int, PyData.depthAll (l.map PyData.int) = 0 := fun l => by
    induction l with
    | nil => rfl
    | cons n r ih => rw [List.map_cons, PyData.depthAll, ih]; rfl
  unfold SeqAt.shaped
  rw [PyData.canLay0, h1, PyData.depth, h2]
  rfl
  )) only [↓Hsh.on])
theorem eqv_ints : ∀ ns ms : List Int, PyData.eqvAll (ns.map PyData.int) (ms.map PyData.int) = decide (ns = ms)
  | [], [] => by simp [PyData.eqvAll]
  | [], _ :: _ => by simp [PyData.eqvAll]
  | _ :: _, [] => by simp [PyData.eqvAll]
  | n :: ns, m :: ms => by
    rw [List.map_cons, List.map_cons, PyData.eqvAll, eqv_ints ns ms]
    by_cases h : n = m <;> by_cases h2 : ns = ms <;> simp [h, h2, PyData.eqv]
theorem dp_ints {K : PySem.W.Frag} {H : Hp} : ∀ ns : List Int, DpAll K H (ns.map V.int) (ns.map PyData.int)
  | [] => .nil
  | n :: ns => .cons (.int n) (dp_ints ns)
theorem s_eqLI {K : PySem.W.Frag} {H : Hp} {p q : Addr} {ns ms : List Int} {Q : VK} (h1 : SqL K H p (ns.map V.int)) (h2 : SqL K H q (ms.map V.int)) (h : Q (.bl (decide (ns = ms))) H) : rEqX K (.ref p) (.ref q) H Q :=
  .inr ⟨_, _, .lst h1 (dp_ints ns), .lst h2 (dp_ints ms), shaped_ints ns, shaped_ints ms, by rw [PyData.eqv, eqv_ints]; exact h⟩
/-! ### defs of the program -/
/-- the name x stands for a def that keeps the promise sp -/
structure CallOk (P : Program) (w : World) (K : PySem.W.Frag) (mg : Str → Option Value) (base : Heap) (CX : CXT) (k : Nat) (x : Str) (ps : List Str) (sp : Sp) : Prop where
  ex : ∃ f fd, mg x = some (.ref f) ∧ PySem.W.keepIn K (.ref f) = true ∧ Binds K fd ps [] ∧ FnOk P w K mg base CX k f fd ps sp
section
variable {X : Cx} {CX : CXT} {k : Nat} {ps : List Str} {sp : Sp} {E : XK} {x : Str} {p pos : Pos} {e : Expr} {es : List Expr} {t : TA}
theorem pe_callG (F : CallOk X.prog X.w X.K X.mg X.base CX k x ps sp) (hr : Room k X.A) (hg : Gl X x) (hx : Passes CX X E)
    (ha : PA X (e :: es) t) (hdb : (x == ("__debug__" : Str)) = false := by decide) (he : starEach (e :: es) X.env = (false, eval e X.env) :: starEach es X.env := by rfl) (hpl : (backTo pos (starEach es X.env)).any (·.1) = false := by rfl) :
    PE X (.Call (.Name x p) (e :: es) [] pos) (tCall sp [] E t) := by
  obtain ⟨f, fd, h1, h2, h3, h4⟩ := F.ex
  exact pe_call h4 hr hg h1 h2 h3 .nil hx ha hdb he hpl
theorem pe_callG0 (F : CallOk X.prog X.w X.K X.mg X.base CX k x ps sp) (hr : Room k X.A) (hg : Gl X x) (hx : Passes CX X E) (hdb : (x == ("__debug__" : Str)) = false := by decide) :
    PE X (.Call (.Name x p) [] [] pos) (tCall sp [] E tNil) := by
  obtain ⟨f, fd, h1, h2, h3, h4⟩ := F.ex
  exact pe_call0 h4 hr hg h1 h2 h3 .nil hx hdb
end
/-- the method m of the class that stands under the name C -/
structure MethOk (P : Program) (w : World) (K : PySem.W.Frag) (mg : Str → Option Value) (base : Heap) (CX : CXT) (k : Nat) (C m : Str) (ps : List Str) (sp : Sp) : Prop where
  ex : ∃ fd, Cls K (He.ga K C) ∧ Meth K (He.ga K C) m (He.ma K (He.ga K C) m) ∧ Binds K fd ps [] ∧ FnOk P w K mg base CX k (He.ma K (He.ga K C) m) fd ps sp
structure MakeOk (P : Program) (w : World) (K : PySem.W.Frag) (mg : Str → Option Value) (base : Heap) (CX : CXT) (k : Nat) (C : Str) (ps : List Str) (sp : Sp) : Prop where
  ex : ∃ fd, mg C = some (.ref (He.ga K C)) ∧ Mk K (He.ga K C) (He.ma K (He.ga K C) "__init__") ∧ Binds K fd ps [] ∧ FnOk P w K mg base CX k (He.ma K (He.ga K C) "__init__") fd ps sp
/-- the property f of the class C -/
structure PropOk (P : Program) (w : World) (K : PySem.W.Frag) (mg : Str → Option Value) (base : Heap) (CX : CXT) (k : Nat) (C f : Str) (ps : List Str) (sp : Sp) : Prop where
  ex : ∃ fd p g, Cls K (He.ga K C) ∧ PropOf K (He.ga K C) f p g ∧ Binds K fd ps [] ∧ FnOk P w K mg base CX k g fd ps sp
/-- a method's reading behind its object -/
def methO (C : Addr) (m : Str) (sp : Sp) (E : XK) (t : TA) (σ : L2.St) (x : V) (H : Hp) (Q : VK) : Prop := ∃ a dx fs, x = .ref a ∧ H a = some (.ins C dx fs) ∧ fs.lookup m = none ∧ t σ H fun vs H2 => sp (x :: (vs ++ [])) H2 Q E
def propO (C : Addr) (sp : Sp) (E : XK) (x : V) (H : Hp) (Q : VK) : Prop := ∃ a dx fs, x = .ref a ∧ H a = some (.ins C dx fs) ∧ sp [.ref a] H Q E
def makeO (C : Addr) (sp : Sp) (E : XK) (vs : List V) (H : Hp) (Q : VK) : Prop := ∀ x dx, H x = none → H dx = none → dx ≠ x → sp (.ref x :: (vs ++ [])) (upd (upd H dx (.own x)) x (.ins C dx [])) (fun v H2 => v = .non ∧ Q (.ref x) H2) E
section
variable {X : Cx} {CX : CXT} {k : Nat} {ps : List Str} {sp : Sp} {E : XK} {C m : Str} {p pos apos : Pos} {o e : Expr} {es : List Expr} {t : TA} {ta : TE}
theorem pe_methG {pl : Sem Bool} (he : PE X o ta) (F : MethOk X.prog X.w X.K X.mg X.base CX k C m ps sp) (hr : Room k X.A) (hx : Passes CX X E) (ha : PA X (e :: es) t)
    (hst : starEach (e :: es) X.env = (false, eval e X.env) :: starEach es X.env := by rfl) (hpl : (backTo pos (starEach es X.env)).any (·.1) = false := by rfl)
    (ht : eval (.Call (.Attribute o m apos) (e :: es) [] pos) X.env = (do
      let ov ← eval o X.env
      standAt apos.atName
      let (f, first) ← holding [ov] (getMethod ov m pl)
      callWith pos f first (backTo pos (starEach (e :: es) X.env)) (backToKw pos (keywordEach [] X.env))) := by rfl) :
    PE X (.Call (.Attribute o m apos) (e :: es) [] pos) (fun σ H Q => ta σ H fun x H1 => methO (He.ga X.K C) m sp E t σ x H1 Q) := by
  obtain ⟨fd, c, hm, hb, G⟩ := F.ex
  exact pe_meth (pl := pl) he c hm G hr hb .nil hx ha hst hpl ht
theorem pe_methG0 {pl : Sem Bool} (he : PE X o ta) (F : MethOk X.prog X.w X.K X.mg X.base CX k C m ps sp) (hr : Room k X.A) (hx : Passes CX X E)
    (ht : eval (.Call (.Attribute o m apos) [] [] pos) X.env = (do
      let ov ← eval o X.env
      standAt apos.atName
      let (f, first) ← holding [ov] (getMethod ov m pl)
      callWith pos f first (backTo pos (starEach [] X.env)) (backToKw pos (keywordEach [] X.env))) := by rfl) :
    PE X (.Call (.Attribute o m apos) [] [] pos) (fun σ H Q => ta σ H fun x H1 => methO (He.ga X.K C) m sp E tNil σ x H1 Q) := by
  obtain ⟨fd, c, hm, hb, G⟩ := F.ex
  exact pe_meth0 (pl := pl) he c hm G hr hb .nil hx ht
theorem pe_propG (he : PE X o ta) (F : PropOk X.prog X.w X.K X.mg X.base CX k C m ps sp) (hr : Room (k + 1) X.A) (hx : Passes CX X.nox E)
    (hab : attributeBase o m X.env (eval o X.env) = eval o X.env) : PE X (.Attribute o m pos) (fun σ H Q => ta σ H fun x H1 => propO (He.ga X.K C) sp E x H1 Q) := by
  obtain ⟨fd, p, g, c, hp, hb, G⟩ := F.ex
  exact pe_prop he c hp G hr hb .nil hx hab
theorem pe_makeG (F : MakeOk X.prog X.w X.K X.mg X.base CX k C ps sp) (hr : Room (k + 1) X.A) (hg : Gl X C) (hx : Passes CX X E) (ha : PA X (e :: es) t) (hdb : (C == ("__debug__" : Str)) = false := by decide)
    (he : starEach (e :: es) X.env = (false, eval e X.env) :: starEach es X.env := by rfl) (hpl : (backTo pos (starEach es X.env)).any (·.1) = false := by rfl) :
    PE X (.Call (.Name C p) (e :: es) [] pos) (fun σ H Q => t σ H fun vs H1 => makeO (He.ga X.K C) sp E vs H1 Q) := by
  obtain ⟨fd, hm, M, hb, G⟩ := F.ex
  exact pe_make M G hr hg hm hb .nil hx ha hdb he hpl
theorem pe_makeG0 (F : MakeOk X.prog X.w X.K X.mg X.base CX k C ps sp) (hr : Room (k + 1) X.A) (hg : Gl X C) (hx : Passes CX X E) (hdb : (C == ("__debug__" : Str)) = false := by decide) :
    PE X (.Call (.Name C p) [] [] pos) (fun σ H Q => makeO (He.ga X.K C) sp E [] H Q) := by
  obtain ⟨fd, hm, M, hb, G⟩ := F.ex
  exact pe_make0 M G hr hg hm hb .nil hx hdb
end
/-- promises by the number of arguments -/
def mk0 (P : Hp → VK → XK → Prop) : Sp := fun vs H Q E => vs = [] ∧ P H Q E
def mk1 (P : V → Hp → VK → XK → Prop) : Sp := fun vs H Q E => ∃ a, vs = [a] ∧ P a H Q E
def mk2 (P : V → V → Hp → VK → XK → Prop) : Sp := fun vs H Q E => ∃ a b, vs = [a, b] ∧ P a b H Q E
def mk3 (P : V → V → V → Hp → VK → XK → Prop) : Sp := fun vs H Q E => ∃ a b c, vs = [a, b, c] ∧ P a b c H Q E
def mk4 (P : V → V → V → V → Hp → VK → XK → Prop) : Sp := fun vs H Q E => ∃ a b c d, vs = [a, b, c, d] ∧ P a b c d H Q E
def mk5 (P : V → V → V → V → V → Hp → VK → XK → Prop) : Sp := fun vs H Q E => ∃ a b c d e, vs = [a, b, c, d, e] ∧ P a b c d e H Q E
theorem mk0_len {P} (vs H Q E) (h : mk0 P vs H Q E) : vs.length = 0 := by obtain ⟨rfl, _⟩ := h; rfl
theorem mk1_len {P} (vs H Q E) (h : mk1 P vs H Q E) : vs.length = 1 := by obtain ⟨_, rfl, _⟩ := h; rfl
theorem mk2_len {P} (vs H Q E) (h : mk2 P vs H Q E) : vs.length = 2 := by obtain ⟨_, _, rfl, _⟩ := h; rfl
theorem mk3_len {P} (vs H Q E) (h : mk3 P vs H Q E) : vs.length = 3 := by obtain ⟨_, _, _, rfl, _⟩ := h; rfl
theorem mk4_len {P} (vs H Q E) (h : mk4 P vs H Q E) : vs.length = 4 := by obtain ⟨_, _, _, _, rfl, _⟩ := h; rfl
theorem mk5_len {P} (vs H Q E) (h : mk5 P vs H Q E) : vs.length = 5 := by obtain ⟨_, _, _, _, _, rfl, _⟩ := h; rfl
theorem s_mk0 {P : Hp → VK → XK → Prop} {H Q E} (h : P H Q E) : mk0 P ([] ++ []) H Q E := ⟨rfl, h⟩
theorem s_mk1 {P : V → Hp → VK → XK → Prop} {a H Q E} (h : P a H Q E) : mk1 P ([a] ++ []) H Q E := ⟨a, rfl, h⟩
theorem s_mk2 {P : V → V → Hp → VK → XK → Prop} {a b H Q E} (h : P a b H Q E) : mk2 P ([a, b] ++ []) H Q E := ⟨a, b, rfl, h⟩
theorem s_mk3 {P : V → V → V → Hp → VK → XK → Prop} {a b c H Q E} (h : P a b c H Q E) : mk3 P ([a, b, c] ++ []) H Q E := ⟨a, b, c, rfl, h⟩
theorem s_mk4 {P : V → V → V → V → Hp → VK → XK → Prop} {a b c d H Q E} (h : P a b c d H Q E) : mk4 P ([a, b, c, d] ++ []) H Q E := ⟨a, b, c, d, rfl, h⟩
theorem s_mk5 {P : V → V → V → V → V → Hp → VK → XK → Prop} {a b c d e H Q E} (h : P a b c d e H Q E) : mk5 P ([a, b, c, d, e] ++ []) H Q E := ⟨a, b, c, d, e, rfl, h⟩
theorem cxK {CX : CXT} {P : Program} {w : World} {K : PySem.W.Frag} {mg : Str → Option Value} {base : Heap} {N : List Str} {qual : Str} {scope : Scope} {f : Addr} {cd : Value} {A : Around} {outer : List PySem.Env} {s : Shared} {H : Hp} {E : XK} :
    (cxOf CX P w K mg base N qual scope f cd A outer s H E).nox.K = K := rfl
theorem cxK2 {CX : CXT} {P : Program} {w : World} {K : PySem.W.Frag} {mg : Str → Option Value} {base : Heap} {N : List Str} {qual : Str} {scope : Scope} {f : Addr} {cd : Value} {A : Around} {outer : List PySem.Env} {s : Shared} {H : Hp} {E : XK} :
    (cxOf CX P w K mg base N qual scope f cd A outer s H E).K = K := rfl
theorem hu_room {k : Nat} {A : Around} (hr : Room k A) : A.units + 64 < cLine := hr.units
theorem exget {ex : List (PySem.W.Frag → Bool)} {K : PySem.W.Frag} (h : (ex.all fun f => f K) = true) (i : Nat) {f : PySem.W.Frag → Bool} (e : ex[i]? = some f) : f K = true :=
  List.all_eq_true.mp h f (List.mem_of_getElem? e)

/-! ### one lemma a reading -/
/-- a new object -/
def newO (o : HO) (n : Nat) (H : Hp) (Q : VK) : Prop := n ≤ sizeLine ∧ ∀ p, H p = none → Q (.ref p) (upd H p o)
/-- a field of the value x -/
def fldO (K : PySem.W.Frag) (f : Str) (x : V) (H : Hp) (Q : VK) : Prop := ∃ a C dx fs v, x = .ref a ∧ H a = some (.ins C dx fs) ∧ Cls K C ∧ NoAttr K C f ∧ fs.lookup f = some v ∧ Q v H
def sfldO (K : PySem.W.Frag) (f : Str) (y x : V) (H : Hp) (P : Hp → Prop) : Prop := ∃ a C dx fs, x = .ref a ∧ H a = some (.ins C dx fs) ∧ Cls K C ∧ NoAttr K C f ∧ fs.length < 1000 ∧ P (upd H a (.ins C dx (putF f y fs)))
section
variable {σ σ' : L2.St} {H : Hp} {Q : VK} {K : PySem.W.Frag} {R : Bool → Hp → Prop} {D : Ends} {ta tb : TE} {t u : TS} {tc td : TT} {v : V}
theorem s_var {i : Nat} (e : σ[i]? = some (some v)) (h : Q v H) : tVar i σ H Q := ⟨v, e, h⟩
theorem s_C (h : Q v H) : tC v σ H Q := h
theorem s_op {r : R2} (h : ta σ H fun x H1 => tb σ H1 fun y H2 => r x y H2 Q) : tOp r ta tb σ H Q := h
theorem s_un {r : V → Hp → VK → Prop} (h : ta σ H fun x H1 => r x H1 Q) : tUn r ta σ H Q := h
theorem s_rU {g : Int → V} {i : Int} (h : Q (g i) H) : rU g (.int i) H Q := ⟨i, rfl, h⟩
theorem s_rI0 {g : Int → Int → V} {i j : Int} (h : Q (g i j) H) : rI0 g (.int i) (.int j) H Q := ⟨i, j, rfl, rfl, h⟩
theorem s_rI {C : Int → Int → Prop} {g : Int → Int → V} {i j : Int} (c : C i j) (h : Q (g i j) H) : rI C g (.int i) (.int j) H Q := ⟨i, j, rfl, rfl, c, h⟩
theorem s_addI {i j : Int} (h : Q (.int (i + j)) H) : rAddX K (.int i) (.int j) H Q := .inl ⟨i, j, rfl, rfl, h⟩
theorem s_addS {i j : Str} (c : i.length + j.length ≤ sizeLine) (h : Q (.str (i ++ j)) H) : rAddX K (.str i) (.str j) H Q := .inr (.inl ⟨i, j, rfl, rfl, c, h⟩)
theorem s_mulR {i j : Int} (c : -(2 ^ 64) < j ∧ j < 2 ^ 64) (h : Q (.int (i * j)) H) : rMulX K (.int i) (.int j) H Q := .inl ⟨i, j, rfl, rfl, .inr c, h⟩
theorem s_mulL {i j : Int} (c : -(2 ^ 64) < i ∧ i < 2 ^ 64) (h : Q (.int (i * j)) H) : rMulX K (.int i) (.int j) H Q := .inl ⟨i, j, rfl, rfl, .inl c, h⟩
theorem s_div {i j : Int} (c0 : 0 < j) (c : j < 2 ^ 64) (h : Q (.int (i / j)) H) : rDivX (.int i) (.int j) H Q := .inl ⟨i, j, rfl, rfl, wide_div (b := 64) c0 (by omega) (by decide) (by decide), h⟩
theorem s_divX {i j : Int} (c0 : j ≠ 0) (c : -(2 ^ 64) < j ∧ j < 2 ^ 64) (h : Q (.int (i.fdiv j)) H) : rDivX (.int i) (.int j) H Q :=
  .inr ⟨i, j, rfl, rfl, ⟨c0, Nat.lt_of_lt_of_le (PySem.Flt.log2_lt_of (k := 64) (by decide) (by omega)) (by decide)⟩, h⟩
theorem s_mod {i j : Int} (c : 0 < j) (h : Q (.int (i % j)) H) : rModX (.int i) (.int j) H Q := .inl ⟨i, j, rfl, rfl, c, h⟩
theorem s_modN {i j : Int} (c : j ≠ 0) (h : Q (.int (i.fmod j)) H) : rModX (.int i) (.int j) H Q := .inr ⟨i, j, rfl, rfl, c, h⟩
theorem s_pow {i j : Int} (c : CPow i j) {n : Int} (e : i ^ j.toNat = n) (h : Q (.int n) H) : rI CPow (fun i j => .int (i ^ j.toNat)) (.int i) (.int j) H Q := ⟨i, j, rfl, rfl, c, by show Q (.int (i ^ j.toNat)) H; rw [e]; exact h⟩
theorem s_eqI {i j : Int} (h : Q (.bl (decide (i = j))) H) : rEqX K (.int i) (.int j) H Q := .inl ⟨rfl, by
  have e : decide (V.int i = V.int j) = decide (i = j) := by simp
  rw [e]; exact h⟩
theorem s_neI {i j : Int} (h : Q (.bl (!decide (i = j))) H) : rNeX K (.int i) (.int j) H Q := .inl ⟨rfl, by
  have e : decide (V.int i = V.int j) = decide (i = j) := by simp
  rw [e]; exact h⟩
theorem s_eqS {i j : Str} (h : Q (.bl (decide (i = j))) H) : rEqX K (.str i) (.str j) H Q := .inl ⟨rfl, by
  have e : decide (V.str i = V.str j) = decide (i = j) := by simp
  rw [e]; exact h⟩
theorem s_neS {i j : Str} (h : Q (.bl (!decide (i = j))) H) : rNeX K (.str i) (.str j) H Q := .inl ⟨rfl, by
  have e : decide (V.str i = V.str j) = decide (i = j) := by simp
  rw [e]; exact h⟩
theorem s_eqB {i j : Bool} (h : Q (.bl (decide (i = j))) H) : rEqX K (.bl i) (.bl j) H Q := .inl ⟨rfl, by
  have e : decide (V.bl i = V.bl j) = decide (i = j) := by simp
  rw [e]; exact h⟩
theorem s_neB {i j : Bool} (h : Q (.bl (!decide (i = j))) H) : rNeX K (.bl i) (.bl j) H Q := .inl ⟨rfl, by
  have e : decide (V.bl i = V.bl j) = decide (i = j) := by simp
  rw [e]; exact h⟩
theorem s_isN (h : Q (.bl (decide (v = .non))) H) : rIsX v .non H Q := .inl ⟨rfl, h⟩
theorem s_isNotN (h : Q (.bl (!decide (v = .non))) H) : rIsNotX v .non H Q := .inl ⟨rfl, h⟩
theorem s_isB {a b : Bool} (h : Q (.bl (decide (a = b))) H) : rIsX (.bl a) (.bl b) H Q := .inr ⟨a, b, rfl, rfl, h⟩
theorem s_isNotB {a b : Bool} (h : Q (.bl (!decide (a = b))) H) : rIsNotX (.bl a) (.bl b) H Q := .inr ⟨a, b, rfl, rfl, h⟩
theorem s_inT {p : Addr} {xs : List V} {b : Bool} {neg : Bool} (h1 : SqT K H p xs) (f1 : flatV v = true) (f2 : xs.all flatV = true) (e : (if neg then !inV v xs else inV v xs) = b) (h : Q (.bl b) H) : rInX K neg v (.ref p) H Q :=
  ⟨p, xs, rfl, .inr h1, f1, f2, by rw [e]; exact h⟩
theorem s_inL {p : Addr} {xs : List V} {b : Bool} {neg : Bool} (h1 : SqL K H p xs) (f1 : flatV v = true) (f2 : xs.all flatV = true) (e : (if neg then !inV v xs else inV v xs) = b) (h : Q (.bl b) H) : rInX K neg v (.ref p) H Q :=
  ⟨p, xs, rfl, .inl h1, f1, f2, by rw [e]; exact h⟩
theorem s_inT0 {p : Addr} {xs : List V} (h1 : SqT K H p xs) (f1 : flatV v = true) (f2 : xs.all flatV = true) (h : Q (.bl (inV v xs)) H) : rInX K false v (.ref p) H Q := ⟨p, xs, rfl, .inr h1, f1, f2, h⟩
theorem s_inL0 {p : Addr} {xs : List V} (h1 : SqL K H p xs) (f1 : flatV v = true) (f2 : xs.all flatV = true) (h : Q (.bl (inV v xs)) H) : rInX K false v (.ref p) H Q := ⟨p, xs, rfl, .inl h1, f1, f2, h⟩
theorem s_niT0 {p : Addr} {xs : List V} (h1 : SqT K H p xs) (f1 : flatV v = true) (f2 : xs.all flatV = true) (h : Q (.bl (!inV v xs)) H) : rInX K true v (.ref p) H Q := ⟨p, xs, rfl, .inr h1, f1, f2, h⟩
theorem s_niL0 {p : Addr} {xs : List V} (h1 : SqL K H p xs) (f1 : flatV v = true) (f2 : xs.all flatV = true) (h : Q (.bl (!inV v xs)) H) : rInX K true v (.ref p) H Q := ⟨p, xs, rfl, .inl h1, f1, f2, h⟩
theorem s_ixL {p : Addr} {xs : List V} {i : Int} (h1 : SqL K H p xs) (e : atI xs i = some v) (h : Q v H) : rIxX K (.ref p) (.int i) H Q := .inl ⟨p, xs, i, v, rfl, rfl, h1, e, h⟩
theorem s_ixT {p : Addr} {xs : List V} {i : Int} (h1 : SqT K H p xs) (e : atI xs i = some v) (h : Q v H) : rIxX K (.ref p) (.int i) H Q := .inr (.inl ⟨p, xs, i, v, rfl, rfl, h1, e, h⟩)
theorem s_ixS {z : Str} {i : Int} {c : Nat} (h1 : z.length ≤ sizeLine) (e : atI z.cps.toList i = some c) (h : Q (.str ⟨#[c]⟩) H) : rIxX K (.str z) (.int i) H Q := .inr (.inr ⟨z, i, c, rfl, rfl, h1, e, h⟩)
theorem atI_in {xs : List V} {i : Int} (h0 : 0 ≤ i) (h1 : i < xs.length) : atI xs i = some (xs.getD i.toNat .non) := Hsh.un (by simp (disch := k_dflt (
  refine Hsh.up ?_
  unfold atI ixN
  rw [if_pos h0, if_pos h1]
  show xs[i.toNat]? = _
  rw [List.getD_eq_getElem?_getD, List.getElem?_eq_getElem (by omega)]
  rfl
  )) only [↓Hsh.on])
theorem atI_ints {ns : List Int} {i : Int} (h0 : 0 ≤ i) (h1 : i < (ns.map V.int).length) : atI (ns.map V.int) i = some (.int (ns.getD i.toNat 0)) := Hsh.un (by simp (disch := k_dflt (
  refine Hsh.up ?_
  rw [List.length_map] at h1
  unfold atI ixN
  rw [if_pos h0, if_pos (by rw [List.length_map]; exact h1)]
  show (ns.map V.int)[i.toNat]? = _
  rw [List.getElem?_map, List.getD_eq_getElem?_getD, List.getElem?_eq_getElem (by omega)]
  rfl
  )) only [↓Hsh.on])
theorem atI_strs {zs : List Str} {i : Int} (h0 : 0 ≤ i) (h1 : i < (zs.map V.str).length) : atI (zs.map V.str) i = some (.str (zs.getD i.toNat "")) := Hsh.un (by simp (disch := k_dflt (
  refine Hsh.up ?_
  rw [List.length_map] at h1
  unfold atI ixN
  rw [if_pos h0, if_pos (by rw [List.length_map]; exact h1)]
  show (zs.map V.str)[i.toNat]? = _
  rw [List.getElem?_map, List.getD_eq_getElem?_getD, List.getElem?_eq_getElem (by omega)]
  rfl
  )) only [↓Hsh.on])
theorem atI_refs {rs : List Addr} {i : Int} (h0 : 0 ≤ i) (h1 : i < (rs.map V.ref).length) : atI (rs.map V.ref) i = some (.ref (rs.getD i.toNat 0)) := Hsh.un (by simp (disch := k_dflt (
  refine Hsh.up ?_
  rw [List.length_map] at h1
  unfold atI ixN
  rw [if_pos h0, if_pos (by rw [List.length_map]; exact h1)]
  show (rs.map V.ref)[i.toNat]? = _
  rw [List.getElem?_map, List.getD_eq_getElem?_getD, List.getElem?_eq_getElem (by omega)]
  rfl
  )) only [↓Hsh.on])
theorem getD_strs (l : List Str) (i : Nat) (h : i < l.length) : (l.map V.str).getD i .non = .str (l.getD i "") := by
  rw [List.getD_eq_getElem?_getD, List.getD_eq_getElem?_getD, List.getElem?_map, List.getElem?_eq_getElem h]
  rfl
theorem getD_ints (l : List Int) (i : Nat) (h : i < l.length) : (l.map V.int).getD i .non = .int (l.getD i 0) := by
  rw [List.getD_eq_getElem?_getD, List.getD_eq_getElem?_getD, List.getElem?_map, List.getElem?_eq_getElem h]
  rfl
theorem set_ints (l : List Int) (i : Nat) (a : Int) : (l.map V.int).set i (.int a) = (l.set i a).map V.int := by rw [List.map_set]
def toI : V → Int
  | .int i => i
  | _ => 0
def isI : V → Bool
  | .int _ => true
  | _ => false
theorem atI_ilit {xs : List V} {i : Int} (h0 : 0 ≤ i) (h1 : i < xs.length) (a : xs.all isI = true) : atI xs i = some (.int (toI (xs.getD i.toNat .non))) := Hsh.un (by simp (disch := k_dflt (
  refine Hsh.up ?_
  rw [atI_in h0 h1]
  have hm : xs.getD i.toNat .non ∈ xs := by
    rw [List.getD_eq_getElem?_getD, List.getElem?_eq_getElem (by omega)]
    exact List.getElem_mem _
  have := List.all_eq_true.mp a _ hm
  cases e : xs.getD i.toNat .non with
  | int j => rfl
  | _ => rw [e] at this; cases this
  )) only [↓Hsh.on])
theorem s_test (h : ta σ H fun x H' => ∃ k, x = .bl k ∧ R k H') : tTest ta σ H R := h
theorem s_tB (h : ta σ H fun x H' => ∃ k, x = .bl k ∧ R k H') : tB ta σ H R := h
theorem s_bl {b : Bool} {P : Bool → Prop} (h : P b) : ∃ k, V.bl b = .bl k ∧ P k := ⟨b, rfl, h⟩
theorem s_and (h : tc σ H fun c H1 => if c = true then td σ H1 R else R false H1) : tAnd tc td σ H R := h
theorem s_or (h : tc σ H fun c H1 => if c = true then R true H1 else td σ H1 R) : tOr tc td σ H R := h
theorem s_not (h : tc σ H fun c H1 => R (!c) H1) : tNot tc σ H R := h
theorem s_andV (h : ta σ H fun x H1 => ∃ c, x = .bl c ∧ if c = true then tb σ H1 Q else Q (.bl false) H1) : tAndV ta tb σ H Q := h
theorem s_orV (h : ta σ H fun x H1 => ∃ c, x = .bl c ∧ if c = true then Q (.bl true) H1 else tb σ H1 Q) : tOrV ta tb σ H Q := h
theorem s_notV (h : ta σ H fun x H1 => ∃ c, x = .bl c ∧ Q (.bl (!c)) H1) : tNotV ta σ H Q := h
theorem s_if (h : tc σ H fun c H1 => if c = true then ta σ H1 Q else tb σ H1 Q) : tIf tc ta tb σ H Q := h
theorem s_chain {r r' : R2} {te : TE} (h : ta σ H fun x H1 => tb σ H1 fun y H2 => r x y H2 fun z H3 => ∃ k, z = .bl k ∧ (if k = true then te σ H3 fun w' H4 => r' y w' H4 Q else Q (.bl false) H3)) : tChain r r' ta tb te σ H Q := h
theorem s_nil {S : List V → Hp → Prop} (h : S [] H) : tNil σ H S := h
theorem s_cons {S : List V → Hp → Prop} {tr : TA} (h : ta σ H fun x H1 => tr σ H1 fun xs H2 => S (x :: xs) H2) : tCons ta tr σ H S := h
theorem s_tup {tr : TA} (h : tr σ H fun xs H1 => newO (.tup xs) xs.length H1 Q) : tTup tr σ H Q := h
theorem s_lst {tr : TA} (h : tr σ H fun xs H1 => newO (.lst xs) xs.length H1 Q) : tLst tr σ H Q := h
theorem s_rep {l : Addr} {k : Int} {xs ys : List V} (h1 : H l = some (.lst xs)) (c : -(2 ^ 63) ≤ k ∧ k < 2 ^ 63) (c2 : xs.length * k.toNat ≤ sizeLine) (e : (List.replicate k.toNat xs).flatten = ys) (h : newO (.lst ys) 0 H Q) : rMulX K (.ref l) (.int k) H Q :=
  .inr (.inr (.inl ⟨l, k, xs, rfl, rfl, h1, c.1, c.2, c2, by rw [e]; exact h.2⟩))
theorem s_rep1 {l : Addr} {k : Int} {x : V} {n : Nat} (h1 : H l = some (.lst [x])) (c : 0 ≤ k ∧ k ≤ 16777216) (e : k.toNat = n) (h : newO (.lst (List.replicate n x)) 0 H Q) : rMulX K (.ref l) (.int k) H Q := Hsh.un (by simp (disch := k_dflt (
  refine Hsh.up ?_
  refine .inr (.inr (.inl ⟨l, k, [x], rfl, rfl, h1, by omega, by omega, ?_, ?_⟩))
  · rw [sizeLine_eq, List.length_singleton]
    omega
  · have q : (List.replicate k.toNat [x]).flatten = List.replicate n x := by
      rw [e]
      simp
    rw [q]
    exact h.2
  )) only [↓Hsh.on])
theorem s_cat {l b : Addr} {xs zs ys : List V} (h1 : H l = some (.lst xs)) (h2 : H b = some (.lst zs)) (c : xs.length + zs.length ≤ sizeLine) (e : xs ++ zs = ys) (h : newO (.lst ys) 0 H Q) : rAddX K (.ref l) (.ref b) H Q :=
  .inr (.inr (.inl ⟨l, b, xs, zs, rfl, rfl, h1, h2, c, by rw [e]; exact h.2⟩))
theorem s_listO {p : Addr} {ys : List V} (h1 : SqL K H p ys) (h : newO (.lst ys) 0 H Q) : rListX K [.ref p] H Q := ⟨p, ys, rfl, .inl h1, h.2⟩
theorem s_listT {p : Addr} {ys : List V} (h1 : SqT K H p ys) (h : newO (.lst ys) 0 H Q) : rListX K [.ref p] H Q := ⟨p, ys, rfl, .inr h1, h.2⟩
theorem s_tupL {p : Addr} {ys : List V} (h1 : SqL K H p ys) (h : newO (.tup ys) 0 H Q) : rTupX K [.ref p] H Q := ⟨p, ys, rfl, .inl ⟨h1, h.2⟩⟩
theorem s_tupT {p : Addr} {ys : List V} (h1 : SqT K H p ys) (h : Q (.ref p) H) : rTupX K [.ref p] H Q := ⟨p, ys, rfl, .inr ⟨h1, h⟩⟩
theorem s_slL {p : Addr} {xs ys : List V} {lo hi : Option Int} (h1 : SqL K H p xs) (e : cutV xs lo hi = ys) (h : newO (.lst ys) 0 H Q) : rSlX K (.ref p) lo hi H Q := .inl ⟨p, xs, rfl, h1, by rw [e]; exact h.2⟩
theorem s_CB {r : List V → Hp → VK → Prop} {tr : TA} (h : tr σ H fun vs H1 => r vs H1 Q) : tCB r tr σ H Q := h
theorem s_call {sp : Sp} {E : XK} {tr : TA} (h : tr σ H fun vs H1 => sp (vs ++ []) H1 Q E) : tCall sp [] E tr σ H Q := h
theorem s_int {i : Int} (h : Q (.int i) H) : rInt [.int i] H Q := .inl ⟨i, rfl, h⟩
theorem s_intB {b : Bool} (h : if b = true then Q (.int 1) H else Q (.int 0) H) : rInt [.bl b] H Q := .inr ⟨b, rfl, by cases b <;> exact h⟩
theorem s_abs {i : Int} (h : Q (.int (if i < 0 then -i else i)) H) : rAbs [.int i] H Q := ⟨i, rfl, h⟩
theorem s_max2 {i j : Int} (h : Q (.int (if j > i then j else i)) H) : rMax2 [.int i, .int j] H Q := ⟨i, j, rfl, h⟩
theorem s_min2 {i j : Int} (h : Q (.int (if j < i then j else i)) H) : rMin2 [.int i, .int j] H Q := ⟨i, j, rfl, h⟩
theorem s_lenL {p : Addr} {xs : List V} (h1 : SqL K H p xs) (h : Q (.int (xs.length : Nat)) H) : rLenX K [.ref p] H Q := ⟨_, _, rfl, .inl ⟨xs, h1, rfl⟩, h⟩
theorem s_lenT {p : Addr} {xs : List V} (h1 : SqT K H p xs) (h : Q (.int (xs.length : Nat)) H) : rLenX K [.ref p] H Q := ⟨_, _, rfl, .inr ⟨xs, h1, rfl⟩, h⟩
theorem s_sum {p : Addr} {ns : List Int} (h1 : SqL K H p (ns.map V.int)) (h : Q (.int ns.sum) H) : rSum K [.ref p] H Q := ⟨p, ns, rfl, h1, h⟩
theorem s_all {p : Addr} {bs : List Bool} (h1 : SqL K H p (bs.map V.bl)) (h : Q (.bl (bs.all id)) H) : rAll K [.ref p] H Q := ⟨p, bs, rfl, h1, h⟩
theorem s_any {p : Addr} {bs : List Bool} (h1 : SqL K H p (bs.map V.bl)) (h : Q (.bl (bs.any id)) H) : rAny K [.ref p] H Q := ⟨p, bs, rfl, h1, h⟩
theorem s_maxL2 {p : Addr} {i j : Int} (h1 : SqL K H p [.int i, .int j]) (h : Q (.int (if i ≤ j then j else i)) H) : rMax K [.ref p] H Q := ⟨p, [i, j], rfl, h1, Nat.succ_pos _, fun m hm hb => by
  have e : m = if i ≤ j then j else i := by
    have h1 := hb i (by simp)
    have h2 := hb j (by simp)
    rcases List.mem_cons.mp hm with rfl | hm
    · split <;> omega
    · rw [List.mem_singleton.mp hm] at h1 h2 ⊢
      split <;> omega
  rw [e]; exact h⟩
theorem s_minL2 {p : Addr} {i j : Int} (h1 : SqL K H p [.int i, .int j]) (h : Q (.int (if i ≤ j then i else j)) H) : rMin K [.ref p] H Q := ⟨p, [i, j], rfl, h1, Nat.succ_pos _, fun m hm hb => by
  have e : m = if i ≤ j then i else j := by
    have h1 := hb i (by simp)
    have h2 := hb j (by simp)
    rcases List.mem_cons.mp hm with rfl | hm
    · split <;> omega
    · rw [List.mem_singleton.mp hm] at h1 h2 ⊢
      split <;> omega
  rw [e]; exact h⟩
theorem s_isi {c : V} {ty un : Value} {b : Bool} (k : ClsV c un) (h1 : TyX K H v ty) (e : PySem.W.kitOne K ty un = some b) (h : Q (.bl b) H) : rIsiX K [v, c] H Q := .inl ⟨v, c, ty, un, b, rfl, k, h1, e, h⟩
theorem s_isT {a b : String} (h1 : TyX K H v (.type a)) (e : kitB a b = some true) (h : Q (.bl true) H) : rIsiX K [v, .ty b] H Q := .inl ⟨v, _, _, _, _, rfl, .ty b, h1, kit_ty e, h⟩
theorem s_isF {a b : String} (h1 : TyX K H v (.type a)) (e : kitB a b = some false) (h : Q (.bl false) H) : rIsiX K [v, .ty b] H Q := .inl ⟨v, _, _, _, _, rfl, .ty b, h1, kit_ty e, h⟩
theorem s_sl {te : TE} {tl th : TO} {r : V → Option Int → Option Int → Hp → VK → Prop} (h : te σ H fun x H1 => tl σ H1 fun l H2 => th σ H2 fun u H3 => r x l u H3 Q) : tSl r te tl th σ H Q := h
theorem s_part {te : TE} {P : Option Int → Hp → Prop} (h : te σ H fun x H1 => ∃ i, x = .int i ∧ P (some i) H1) : tPart te σ H P := h
theorem s_partI {i : Int} {P : Int → Prop} (h : P i) : ∃ j, V.int i = .int j ∧ P j := ⟨i, rfl, h⟩
theorem s_noPart {P : Option Int → Hp → Prop} (h : P none H) : tNoPart σ H P := h
-- statements
variable {n b c : L2.St → Hp → Prop} {r : VK}
theorem s_seq (h : t ⟨u ⟨n, r, b, c⟩, r, b, c⟩ σ H) : tSeq t u ⟨n, r, b, c⟩ σ H := h
theorem s_next (h : n σ H) : tNext ⟨n, r, b, c⟩ σ H := h
theorem s_break (h : b σ H) : tBreak ⟨n, r, b, c⟩ σ H := h
theorem s_cont (h : c σ H) : tCont ⟨n, r, b, c⟩ σ H := h
theorem s_drop (h : ta σ H fun _ H1 => n σ H1) : tDrop ta ⟨n, r, b, c⟩ σ H := h
theorem s_ret (h : ta σ H r) : tRet ta ⟨n, r, b, c⟩ σ H := h
theorem s_retN (h : r .non H) : tRetN ⟨n, r, b, c⟩ σ H := h
theorem s_ifS (h : tc σ H fun q H1 => if q = true then t ⟨n, r, b, c⟩ σ H1 else u ⟨n, r, b, c⟩ σ H1) : tIfS tc t u ⟨n, r, b, c⟩ σ H := h
theorem s_asg {g : TG} (h : ta σ H fun x H1 => g x σ H1 n) : tAsg ta g ⟨n, r, b, c⟩ σ H := h
theorem s_gname {i : Nat} {S : L2.St → Hp → Prop} (e : σ.set i (some v) = σ') (h : S σ' H) : gName i v σ H S := by
  show S (σ.set i (some v)) H
  rw [e]; exact h
theorem s_gsub {S : L2.St → Hp → Prop} {ts : TSet} (h : ta σ H fun o H1 => tb σ H1 fun i H2 => ts o i v H2 fun H3 => S σ H3) : gSub ta tb ts v σ H S := h
theorem s_fld {f : Str} (h : ta σ H fun x H1 => fldO K f x H1 Q) : tFld K ta f σ H Q := h
theorem s_sfld {f : Str} (h : tb σ H fun y H1 => ta σ H1 fun x H2 => sfldO K f y x H2 fun H3 => n σ H3) : sFld K ta tb f ⟨n, r, b, c⟩ σ H := h
end
/-- an attribute as a target -/
def gAttr (K : PySem.W.Frag) (to : TE) (f : Str) : TG := fun v σ H S => to σ H fun x H1 => sfldO K f v x H1 fun H2 => S σ H2
theorem pg_attr {X : Cx} {o : Expr} {f : Str} {pos : Pos} {to : TE} (ho : PE X o to) : PG X (.Attribute o f pos) (gAttr X.K to f) := Hsh.un (by simp (disch := k_dflt (
  refine Hsh.up ?_
  refine ⟨fun pins s σ H v u S I r h => ?_⟩
  rw [assign_Attribute]
  refine wpAny_bind (wpAny_holding (thn (ho.run pins s σ H _ I h) fun ov s1 ⟨x, H1, I1, r1, q1⟩ => ?_))
  obtain ⟨a, C, dx, fs, rfl, e, c, l, hl, q⟩ := q1
  obtain rfl : ov = .ref a := r1
  exact wpAny_bind (wpAny_standAt (wpAny_bind (wpAny_holding (setattr_ok I1 e c l hl r fun s2 I2 => wpAny_release ⟨σ, _, I2, q⟩))))
  )) only [↓Hsh.on])
/-- a built-in type's method, behind its object -/
def bm0O (K : PySem.W.Frag) (T : String) (r : V → List V → Hp → VK → Prop) (x : V) (H : Hp) (Q : VK) : Prop := tyV K T x H ∧ r x [] H Q
def bmO (K : PySem.W.Frag) (T : String) (r : V → List V → Hp → VK → Prop) (t : TA) (σ : L2.St) (x : V) (H : Hp) (Q : VK) : Prop := tyV K T x H ∧ t σ H fun xs H2 => r x xs H2 Q
section
variable {σ : L2.St} {H : Hp} {K : PySem.W.Frag} {to : TE} {Q : VK} {S : L2.St → Hp → Prop} {t : TA} {ts : TGs} {tg : TG} {v : V}
theorem s_gattr {f : Str} (h : to σ H fun x H1 => sfldO K f v x H1 fun H2 => S σ H2) : gAttr K to f v σ H S := h
theorem s_gtup {n : Nat} {a : Addr} {xs : List V} (h : SqT K H a xs) (l : xs.length = n) (q : ts xs σ H S) : gTup K n ts (.ref a) σ H S := ⟨a, xs, rfl, h, l, q⟩
theorem s_gcons {r : List V} (h : tg v σ H fun σ' H' => ts r σ' H' S) : gCons tg ts (v :: r) σ H S := ⟨v, r, rfl, h⟩
theorem s_gnil (h : S σ H) : gNil [] σ H S := ⟨rfl, h⟩
theorem s_bm0 {T : String} {r : V → List V → Hp → VK → Prop} (h : to σ H fun x H1 => bm0O K T r x H1 Q) : tBM0 K T r to σ H Q := h
theorem s_bm {T : String} {r : V → List V → Hp → VK → Prop} (h : to σ H fun x H1 => bmO K T r t σ x H1 Q) : tBM K T r to t σ H Q := h
theorem s_bmL {r : V → List V → Hp → VK → Prop} {l : Addr} {xs : List V} (h : SqL K H l xs) (q : t σ H fun xs H2 => r (.ref l) xs H2 Q) : bmO K "list" r t σ (.ref l) H Q := ⟨.inl ⟨rfl, _, h⟩, q⟩
theorem s_bmT {T : String} {r : V → List V → Hp → VK → Prop} {a : Addr} (h : ∃ o, K.lookup a = some o ∧ o.cls = .type "tuple" ∧ o.dict = none) (e : T = "tuple") (q : t σ H fun xs H2 => r (.ref a) xs H2 Q) : bmO K T r t σ (.ref a) H Q := ⟨.inr (.inl ⟨e, h⟩), q⟩
theorem s_bmS {r : V → List V → Hp → VK → Prop} {z : Str} (q : t σ H fun xs H2 => r (.str z) xs H2 Q) : bmO K "str" r t σ (.str z) H Q := ⟨rfl, q⟩
theorem s_methO {C a dx : Addr} {m : Str} {sp : Sp} {E : XK} {fs : List (Str × V)} (h : H a = some (.ins C dx fs)) (l : fs.lookup m = none) (q : t σ H fun vs H2 => sp (.ref a :: (vs ++ [])) H2 Q E) : methO C m sp E t σ (.ref a) H Q := ⟨a, dx, fs, rfl, h, l, q⟩
theorem s_propO {C a dx : Addr} {sp : Sp} {E : XK} {fs : List (Str × V)} (h : H a = some (.ins C dx fs)) (q : sp ([.ref a] ++ []) H Q E) : propO C sp E (.ref a) H Q := ⟨a, dx, fs, rfl, h, q⟩
theorem pf_set {f : Str} {fs fs' : List (Str × V)} (i : Nat) (h : putF f v fs = fs.set i (f, v)) (e : fs.set i (f, v) = fs') : putF f v fs = fs' := h.trans e
theorem pf_new {f : Str} {fs fs' : List (Str × V)} (h : putF f v fs = fs ++ [(f, v)]) (e : fs ++ [(f, v)] = fs') : putF f v fs = fs' := h.trans e
end
/-! ### what is done to the ledger -/
section
variable {A : List Addr} {H0 H : Hp} {L L' : List Cell} {Q : VK} {P : Hp → Prop} {v : V}
theorem h_new {o : HO} {n : Nat} (S : SH A H0 H L) (c : n ≤ sizeLine) (h : ∀ p H', SH A H0 H' ((p, o) :: L) → H p = none → Q (.ref p) H') : newO o n H Q := ⟨c, fun p hp => h p _ (S.new o hp) hp⟩
theorem h_fld {K : PySem.W.Frag} {a C dx : Addr} {fs : List (Str × V)} {f : Str} (S : SH A H0 H L) (h1 : H a = some (.ins C dx fs)) (cl : Cls K C) (na : NoAttr K C f) (e : fs.lookup f = some v) (h : Q v H) : fldO K f (.ref a) H Q := ⟨a, C, dx, fs, v, rfl, h1, cl, na, e, h⟩
theorem h_sfld {i : Nat} {K : PySem.W.Frag} {a C dx : Addr} {fs fs' : List (Str × V)} {f : Str} (S : SH A H0 H L) (h1 : L[i]? = some (a, .ins C dx fs)) (cl : Cls K C) (na : NoAttr K C f) (l : fs.length < 1000) (e : putF f v fs = fs') (eL : L.set i (a, .ins C dx fs') = L')
    (h : ∀ H', SH A H0 H' L' → P H') : sfldO K f v (.ref a) H P := ⟨a, C, dx, fs, rfl, S.get i h1, cl, na, l, by rw [e]; exact h _ (eL ▸ S.set i h1 rfl _)⟩
theorem h_upd {i : Nat} {a : Addr} {o o' : HO} (S : SH A H0 H L) (e : L[i]? = some (a, o)) (im : Imm o = false) (eL : L.set i (a, o') = L') (h : ∀ H', SH A H0 H' L' → P H') : P (upd H a o') := h _ (eL ▸ S.set i e im o')
theorem h_setL {i : Nat} {a : Addr} {xs ys : List V} {k : Int} {j : Nat} (S : SH A H0 H L) (e : L[i]? = some (a, .lst xs)) (ej : ixN xs.length k = some j) (ey : xs.set j v = ys) (eL : L.set i (a, .lst ys) = L')
    (h : ∀ H', SH A H0 H' L' → P H') : rSetL (.ref a) (.int k) v H P := ⟨a, xs, k, j, rfl, rfl, S.get i e, ej, by rw [ey]; exact h _ (eL ▸ S.set i e rfl _)⟩
theorem h_append {i : Nat} {a : Addr} {xs ys : List V} (S : SH A H0 H L) (e : L[i]? = some (a, .lst xs)) (c : xs.length < sizeLine) (ey : xs ++ [v] = ys) (eL : L.set i (a, .lst ys) = L')
    (h : ∀ H', SH A H0 H' L' → Q .non H') : rAppend (.ref a) [v] H Q := ⟨a, xs, v, rfl, rfl, S.get i e, c, by rw [ey]; exact h _ (eL ▸ S.set i e rfl _)⟩
theorem h_pop {i : Nat} {K : PySem.W.Frag} {a : Addr} {xs ys : List V} (S : SH A H0 H L) (e : L[i]? = some (a, .lst xs)) (ev : xs[xs.length - 1]? = some v) (ey : xs.dropLast = ys) (eL : L.set i (a, .lst ys) = L')
    (h : ∀ H', SH A H0 H' L' → Q v H') : bm0O K "list" rPop (.ref a) H Q := ⟨.inl ⟨rfl, _, SqL.of (S.get i e)⟩, a, xs, v, rfl, rfl, S.get i e, ev, by rw [ey]; exact h _ (eL ▸ S.set i e rfl _)⟩
theorem h_make {C : Addr} {sp : Sp} {E : XK} {vs : List V} (S : SH A H0 H L) (h : ∀ x dx H1, SH A H0 H1 ((x, .ins C dx []) :: L) → sp (.ref x :: (vs ++ [])) H1 (fun v H2 => v = .non ∧ Q (.ref x) H2) E) : makeO C sp E vs H Q := fun x dx hx hd ne => by
  have S1 := S.new (.own x) hd
  have S2 := S1.new (p := x) (.ins C dx []) (by rw [upd_ne (Ne.symm ne)]; exact hx)
  exact h x dx _ (S2.sub (List.Sublist.cons_cons _ (List.sublist_cons_self _ _)))
theorem atI_lit {xs : List V} {i : Int} {w : V} (k : Nat) (e : i = (k : Int)) (h : xs[k]? = some w) : atI xs i = some w := by
  subst e
  exact atI_nat h
theorem last_snoc (l : List V) (v : V) : (l ++ [v])[(l ++ [v]).length - 1]? = some v := by simp
theorem ixN_in {n : Nat} {i : Int} (h0 : 0 ≤ i) (h1 : i < n) : ixN n i = some i.toNat := by
  unfold ixN
  rw [if_pos h0, if_pos h1]
theorem ixN_lit {n : Nat} {i : Int} (k : Nat) (e : i = (k : Int)) (h : k < n) : ixN n i = some k := Hsh.un (by simp (disch := k_dflt (
  refine Hsh.up ?_
  subst e
  rw [ixN_in (by omega) (by omega)]
  rfl
  )) only [↓Hsh.on])
end
/-! ### loops -/
def loopI (J : It) (g : TG) (tb : TS) (D : Ends) (σ : L2.St) (H : Hp) : Prop := ∃ W : Nat → Nat → L2.St → Hp → Prop, (∃ m, W 0 m σ H) ∧ ∀ i m σ H, W i m σ H →
  (J.stop i H ∧ D.nx σ H) ∨ (J.go i H ∧ ∃ N : L2.St → Hp → Prop, (∀ σ' H', N σ' H' → ∃ m', m' < m ∧ W (i + 1) m' σ' H') ∧ ∀ x H', J.yld i H x H' → g x σ H' fun σ2 H2 => tb { D with nx := N, ct := N, bk := D.nx } σ2 H2)
def forR1 (vs : List V) (g : TG) (tb : TS) (D : Ends) (σ : L2.St) (H : Hp) : Prop := ∃ j : Int, vs = [.int j] ∧ -(2 ^ 62) ≤ j ∧ j < 2 ^ 62 ∧ loopI (Itr 0 j.toNat) g tb D σ H
def forR2 (vs : List V) (g : TG) (tb : TS) (D : Ends) (σ : L2.St) (H : Hp) : Prop := ∃ i j : Int, vs = [.int i, .int j] ∧ (-(2 ^ 62) ≤ i ∧ i < 2 ^ 62 ∧ -(2 ^ 62) ≤ j ∧ j < 2 ^ 62) ∧ loopI (Itr i (j - i).toNat) g tb D σ H
def forL (K : PySem.W.Frag) (v : V) (g : TG) (tb : TS) (D : Ends) (σ : L2.St) (H : Hp) : Prop := ∃ a, v = .ref a ∧ (∃ xs, SqL K H a xs) ∧ loopI (Itl K a) g tb D σ H
def forT (K : PySem.W.Frag) (v : V) (g : TG) (tb : TS) (D : Ends) (σ : L2.St) (H : Hp) : Prop := ∃ a, v = .ref a ∧ (∃ xs, SqT K H a xs) ∧ loopI (Itt K a) g tb D σ H
section
variable {σ : L2.St} {H : Hp} {K : PySem.W.Frag} {g : TG} {tb : TS} {ta : TA} {te : TE} {D : Ends} {n b c : L2.St → Hp → Prop} {r : VK}
theorem s_forR1 (h : ta σ H fun vs H1 => forR1 vs g tb D σ H1) : tFor (iRng1 ta) g tb D σ H := h
theorem s_forR2 (h : ta σ H fun vs H1 => forR2 vs g tb D σ H1) : tFor (iRng2 ta) g tb D σ H := h
theorem s_forL (h : te σ H fun v H1 => forL K v g tb D σ H1) : tFor (iList K te) g tb D σ H := h
theorem s_forT (h : te σ H fun v H1 => forT K v g tb D σ H1) : tFor (iTup K te) g tb D σ H := h
/-- for i in range(j), an invariant over the turn -/
theorem u_forR1 {j : Int} (Pv : Nat → L2.St → Hp → Prop) (lo : -(2 ^ 62) ≤ j) (hi : j < 2 ^ 62) (h0 : Pv 0 σ H)
    (hs : ∀ (i : Nat) σ H, (i : Int) < j → Pv i σ H → g (.int i) σ H fun σ2 H2 => tb ⟨Pv (i + 1), r, n, Pv (i + 1)⟩ σ2 H2) (hd : ∀ σ H, Pv j.toNat σ H → n σ H) : forR1 [.int j] g tb ⟨n, r, b, c⟩ σ H := Hsh.un (by simp (disch := k_dflt (
  refine Hsh.up ?_
  refine ⟨j, rfl, lo, hi, ?_⟩
  refine for_range Pv h0 (fun i σ H hi p => ?_) hd
  rw [show (0 : Int) + (i : Int) = (i : Int) by omega]
  exact hs i σ H (by omega) p
  )) only [↓Hsh.on])
theorem u_forR2 {l j : Int} (Pv : Nat → L2.St → Hp → Prop) (hb : -(2 ^ 62) ≤ l ∧ l < 2 ^ 62 ∧ -(2 ^ 62) ≤ j ∧ j < 2 ^ 62) (h0 : Pv 0 σ H)
    (hs : ∀ (i : Nat) σ H, l + (i : Int) < j → Pv i σ H → g (.int (l + i)) σ H fun σ2 H2 => tb ⟨Pv (i + 1), r, n, Pv (i + 1)⟩ σ2 H2) (hd : ∀ σ H, Pv (j - l).toNat σ H → n σ H) : forR2 [.int l, .int j] g tb ⟨n, r, b, c⟩ σ H := Hsh.un (by simp (disch := k_dflt (
  refine Hsh.up ?_
  refine ⟨l, j, rfl, hb, ?_⟩
  refine for_range Pv h0 (fun i σ H hi p => ?_) hd
  exact hs i σ H (by omega) p
  )) only [↓Hsh.on])
/-- for x in a list that stays as it is -/
theorem u_forL {a : Addr} {xs : List V} (Pv : Nat → L2.St → Hp → Prop) (h : SqL K H a xs) (h0 : Pv 0 σ H) (hl : ∀ i σ H, i ≤ xs.length → Pv i σ H → SqL K H a xs)
    (hs : ∀ (i : Nat) (x : V) σ H, xs[i]? = some x → Pv i σ H → g x σ H fun σ2 H2 => tb ⟨Pv (i + 1), r, n, Pv (i + 1)⟩ σ2 H2) (hd : ∀ σ H, Pv xs.length σ H → n σ H) : forL K (.ref a) g tb ⟨n, r, b, c⟩ σ H :=
  ⟨a, rfl, ⟨xs, h⟩, for_list Pv h0 hl (fun i x σ H e p => hs i x σ H e p) hd⟩
end
/-! ### comprehensions -/
/-! within a comprehension's block: the fragment said by its name -/
theorem OpR.k {X : Cx} {K : PySem.W.Frag} {f : Value → Value → Sem Value} {r : PySem.W.Frag → R2} (h : OpR X f (r X.K)) (e : X.K = K) : OpR X f (r K) := e ▸ h
theorem IxR.k {X : Cx} {K : PySem.W.Frag} {r : PySem.W.Frag → R2} (h : IxR X (r X.K)) (e : X.K = K) : IxR X (r K) := e ▸ h
theorem SlR.k {X : Cx} {K : PySem.W.Frag} {r : PySem.W.Frag → V → Option Int → Option Int → Hp → VK → Prop} (h : SlR X (r X.K)) (e : X.K = K) : SlR X (r K) := e ▸ h
theorem CallR.k {X : Cx} {K : PySem.W.Frag} {f : Value} {r : PySem.W.Frag → List V → Hp → VK → Prop} (h : CallR X f (r X.K)) (e : X.K = K) : CallR X f (r K) := e ▸ h
theorem PE.k {X : Cx} {K : PySem.W.Frag} {e : Expr} {t : PySem.W.Frag → TE} (h : PE X e (t X.K)) (q : X.K = K) : PE X e (t K) := q ▸ h
def lcR1 (i : Nat) (vs : List V) (te : TE) (σ : L2.St) (H : Hp) (Q : VK) : Prop := ∃ j : Int, vs = [.int j] ∧ -(2 ^ 62) ≤ j ∧ j < 2 ^ 62 ∧ tLc (fun _ H k => k (Itr 0 j.toNat) H) (gName i) tYes te [i] σ H Q
def lcL (K : PySem.W.Frag) (i : Nat) (v : V) (te : TE) (σ : L2.St) (H : Hp) (Q : VK) : Prop := ∃ a, v = .ref a ∧ (∃ xs, SqL K H a xs) ∧ tLc (fun _ H k => k (Itl K a) H) (gName i) tYes te [i] σ H Q
/-- an item is put behind the made ones -/
def lcEnd (D : Addr) (P : Hp → Prop) : VK := fun y H => ∃ acc, H D = some (.lst acc) ∧ acc.length < sizeLine ∧ P (upd H D (.lst (acc ++ [y])))
theorem wipe_one (σ : L2.St) (i : Nat) (x : Option V) : wipe ((wipe σ [i]).set i x) [i] = wipe σ [i] := by
  show ((σ.set i none).set i x).set i none = σ.set i none
  rw [List.set_set, List.set_set]
section
variable {A : List Addr} {H0 H : Hp} {L L' : List Cell} {Q : VK} {P : Hp → Prop} {v : V} {σ : L2.St} {K : PySem.W.Frag} {te : TE} {ta : TA} {tb : TE}
theorem s_lcR1 {n : Str} {i : Nat} (h : ta σ H fun vs H1 => lcR1 i vs te σ H1 Q) : tLc (iRng1 ta) (gName i) tYes te ([(n, i)].map (·.2)) σ H Q := h
theorem s_lcL {n : Str} {i : Nat} (h : tb σ H fun v H1 => lcL K i v te σ H1 Q) : tLc (iList K tb) (gName i) tYes te ([(n, i)].map (·.2)) σ H Q := h
theorem h_lcEnd {i : Nat} {a : Addr} {xs ys : List V} (S : SH A H0 H L) (e : L[i]? = some (a, .lst xs)) (c : xs.length < sizeLine) (ey : xs ++ [v] = ys) (eL : L.set i (a, .lst ys) = L')
    (h : ∀ H', SH A H0 H' L' → P H') : lcEnd a P v H := ⟨xs, S.get i e, c, by rw [ey]; exact h _ (eL ▸ S.set i e rfl _)⟩
/-- a comprehension over a list, any target, any test -/
def lcLG (K : PySem.W.Frag) (vs : List Nat) (g : TG) (tt : TT) (v : V) (te : TE) (σ : L2.St) (H : Hp) (Q : VK) : Prop := ∃ a, v = .ref a ∧ (∃ xs, SqL K H a xs) ∧ tLc (fun _ H k => k (Itl K a) H) g tt te vs σ H Q
theorem s_lcLG {g : TG} {tt : TT} {vs : List Nat} (h : tb σ H fun v H1 => lcLG K vs g tt v te σ H1 Q) : tLc (iList K tb) g tt te vs σ H Q := h
theorem u_lcLG {g : TG} {tt : TT} {vs : List Nat} {a : Addr} {xs : List V} (hS : SH A H0 H L) (Pv : Addr → Nat → Hp → Prop) (h : SqL K H a xs) (h0 : ∀ D H', SH A H0 H' ((D, .lst []) :: L) → Pv D 0 H') (hl : ∀ D k H, k ≤ xs.length → Pv D k H → SqL K H a xs)
    (hs : ∀ D (k : Nat) x H, xs[k]? = some x → Pv D k H → g x (wipe σ vs) H fun σ2 H2 => wipe σ2 vs = wipe σ vs ∧ tt σ2 H2 fun b H3 => if b = true then te σ2 H3 (lcEnd D (Pv D (k + 1))) else Pv D (k + 1) H3) (hd : ∀ D H, Pv D xs.length H → Q (.ref D) H) : lcLG K vs g tt (.ref a) te σ H Q :=
  ⟨a, rfl, ⟨xs, h⟩, fun D hD => lc_list (Pv D) (h0 D _ (hS.new _ hD)) (hl D) (fun k x H hk p => hs D k x H hk p) (fun H p => hd D H p)⟩
theorem s_wipe {σ2 : L2.St} {vs : List Nat} {P : Prop} (e : wipe σ2 vs = wipe σ vs) (h : P) : wipe σ2 vs = wipe σ vs ∧ P := ⟨e, h⟩
theorem s_tYes {P : Bool → Hp → Prop} (h : P true H) : tYes σ H P := h
theorem u_lcR1 {i : Nat} {j : Int} (hS : SH A H0 H L) (Pv : Addr → Nat → Hp → Prop) (lo : -(2 ^ 62) ≤ j) (hi : j < 2 ^ 62) (h0 : ∀ D H', SH A H0 H' ((D, .lst []) :: L) → Pv D 0 H')
    (hs : ∀ D (k : Nat) H, (k : Int) < j → Pv D k H → te (σ.set i (some (.int k))) H (lcEnd D (Pv D (k + 1)))) (hd : ∀ D H, Pv D j.toNat H → Q (.ref D) H) : lcR1 i [.int j] te σ H Q := Hsh.un (by simp (disch := k_dflt (
  refine Hsh.up ?_
  refine ⟨j, rfl, lo, hi, fun D hD => ?_⟩
  refine lc_range (Pv D) (h0 D _ (hS.new _ hD)) (fun k H hk p => ?_) (fun H p => hd D H p)
  rw [show (0 : Int) + (k : Int) = (k : Int) by omega]
  have h := hs D k H (by omega) p
  refine ⟨wipe_one _ _ _, ?_⟩
  show if true = true then te ((σ.set i none).set i _) H (lcEnd D (Pv D (k + 1))) else Pv D (k + 1) H
  rw [if_pos rfl, List.set_set]
  exact h
  )) only [↓Hsh.on])
theorem u_lcL {i : Nat} {a : Addr} {xs : List V} (hS : SH A H0 H L) (Pv : Addr → Nat → Hp → Prop) (h : SqL K H a xs) (h0 : ∀ D H', SH A H0 H' ((D, .lst []) :: L) → Pv D 0 H') (hl : ∀ D k H, k ≤ xs.length → Pv D k H → SqL K H a xs)
    (hs : ∀ D (k : Nat) x H, xs[k]? = some x → Pv D k H → te (σ.set i (some x)) H (lcEnd D (Pv D (k + 1)))) (hd : ∀ D H, Pv D xs.length H → Q (.ref D) H) : lcL K i (.ref a) te σ H Q := Hsh.un (by simp (disch := k_dflt (
  refine Hsh.up ?_
  refine ⟨a, rfl, ⟨xs, h⟩, fun D hD => ?_⟩
  refine lc_list (Pv D) (h0 D _ (hS.new _ hD)) (hl D) (fun k x H hk p => ?_) (fun H p => hd D H p)
  have h := hs D k x H hk p
  refine ⟨wipe_one _ _ _, ?_⟩
  show if true = true then te ((σ.set i none).set i _) H (lcEnd D (Pv D (k + 1))) else Pv D (k + 1) H
  rw [if_pos rfl, List.set_set]
  exact h
  )) only [↓Hsh.on])
end
/-! ### a word between a statement and the rest -/
def cutG (t u : TS) : TS := fun E σ H => ∃ M : L2.St → Hp → Prop, (∀ σ2 H2, M σ2 H2 → u E σ2 H2) ∧ t ⟨M, E.rt, E.bk, E.ct⟩ σ H
theorem pss_cutG {X : Cx} {st : Stmt} {sts : List Stmt} {t u : TS} (a : PS X st t) (b : PSs X sts u) : PSs X (st :: sts) (cutG t u) :=
  ⟨fun pins s σ H E J ⟨M, hu, ht⟩ => wpAny_execs_cons (thn (a.run pins s σ H ⟨M, E.rt, E.bk, E.ct⟩ J ht) fun f s1 q => by
    cases f with
    | next => exact let ⟨σ2, H2, J2, z⟩ := q; b.run pins s1 σ2 H2 E J2 (hu σ2 H2 z)
    | ret _ => exact q
    | brk => exact q
    | cont => exact q)⟩
theorem s_cutG {t u : TS} {n b c : L2.St → Hp → Prop} {r : VK} {σ : L2.St} {H : Hp} (M : L2.St → Hp → Prop) (h : t ⟨M, r, b, c⟩ σ H) (h2 : ∀ σ2 H2, M σ2 H2 → u ⟨n, r, b, c⟩ σ2 H2) : cutG t u ⟨n, r, b, c⟩ σ H := ⟨M, h2, h⟩
/-! ### tests decided -/
section
variable {A B : Prop}
theorem i_dec {p : Prop} [Decidable p] (h1 : p → A) (h2 : ¬ p → B) : if decide p = true then A else B := Hsh.un (by simp (disch := k_dflt (
  refine Hsh.up ?_
  by_cases h : p
  · rw [if_pos (decide_eq_true h)]; exact h1 h
  · rw [if_neg (by rw [decide_eq_false h]; exact Bool.false_ne_true)]; exact h2 h
  )) only [↓Hsh.on])
theorem i_not {x : Bool} (h : if x = true then B else A) : if (!x) = true then A else B := Hsh.un (by simp (disch := k_dflt (
  refine Hsh.up ?_
  cases x
  · exact h
  · exact h
  )) only [↓Hsh.on])
theorem i_gen {x : Bool} (h1 : x = true → A) (h2 : x = false → B) : if x = true then A else B := Hsh.un (by simp (disch := k_dflt (
  refine Hsh.up ?_
  cases x
  · exact h2 rfl
  · exact h1 rfl
  )) only [↓Hsh.on])
theorem i_pos {x : Bool} (e : x = true) (h : A) : if x = true then A else B := by rw [if_pos e]; exact h
theorem i_neg {x : Bool} (e : x = false) (h : B) : if x = true then A else B := by rw [if_neg (by rw [e]; exact Bool.false_ne_true)]; exact h
end
end Q

set_option Elab.async false
set_option linter.all false
set_option maxRecDepth 100000
set_option maxHeartbeats 4000000
/-! Errors: one rule for every try (several clauses, with or without a name, one class or two, an else), what classes of errors tell. -/
namespace Q
open PySem PySem.Spec PyProof.Rows L2
/-- the test of an except clause: f tells the answer from the error's class -/
def Tst (X : Cx) (t : Expr) (f : Value → Option Bool) : Prop :=
  ∀ (a : Addr) (pn : List (Addr × Obj)) (σ : L2.St) (H : Hp) (s : Shared) (cls : Value) (b : Bool) (Q : Bool → Shared → Prop) (E : Value → Shared → Prop),
    Inv (X.suite a pn) [] σ H s → PySem.W.Looks (model X.prog X.w) s.heap (typeOf (.ref a)) cls → f cls = some b →
    (∀ h', (∀ q o, s.heap.get? q = some o → h'.get? q = some o) → Q b { s with heap := h' }) →
    wpAny (model X.prog X.w) (X.A.mark (some (.ref a))) (eval t X.env) (fun c s1 => wpAny (model X.prog X.w) (X.A.mark (some (.ref a))) (excMatches (.ref a) c) Q E s1) E s
theorem ld_names {X : Cx} {x : Str} {c : Value} {np : Pos} {a : Addr} {pn : List (Addr × Obj)} {σ : L2.St} {H : Hp} {s : Shared} {Q : Value → Shared → Prop} {E : Value → Shared → Prop} (hc : Names X x c) (I : Inv (X.suite a pn) [] σ H s) (q : Q c s) :
    wpAny (model X.prog X.w) (X.A.mark (some (.ref a))) (eval (.Name x np) X.env) Q E s := Hsh.un (by simp (disch := k_dflt (
  refine Hsh.up ?_
  obtain ⟨hg, hd, hm | ⟨hm, hv, hn⟩⟩ := hc
  · exact ld_glob (X := X.suite a pn) I hg hm q hd
  · exact ld_blt (X := X.suite a pn) I hg hm hv q hn hd
  )) only [↓Hsh.on])
theorem tst1 {X : Cx} {x : Str} {c : Value} {np : Pos} (hc : Names X x c) : Tst X (.Name x np) (fun cls => PySem.W.exmOne X.K cls c) := by
  intro a pn σ H s cls b Q E I LT e k
  exact ld_names hc I ((PySem.W.exm_one (M := model X.prog X.w) I.kIn LT e).here (k _ fun _ _ z => z))
theorem tst2 {X : Cx} {x y : Str} {c d : Value} {np mp tp : Pos} {kk : Nat} (hc : Names X x c) (hd : Names X y d) : Tst X (.Tuple [.Name x np, .Name y mp] kk tp) (fun cls => PySem.W.exmAny X.K cls [c, d]) := Hsh.un (by simp (disch := k_dflt (
  refine Hsh.up ?_
  intro a pn σ H s cls b Q E I LT e k
  refine wpAny_Tuple ?_
  refine wpAny_items_cons (ld_names hc I ?_)
  refine wpAny_items_cons (ld_names hd I ?_)
  refine wpAny_items_nil ⟨by size_fits, ?_⟩
  have kp : ∀ q o, s.heap.get? q = some o → (s.heap.push { cls := .type "tuple", data := .seq [c, d].toArray }).get? q = some o := fun _ _ z => Heap.get?_push_of_some _ z
  exact (PySem.W.exm_tup2 (PySem.W.Frag.In.keeps I.kIn kp) (LT.keeps kp) (Heap.get?_push_size s.heap rfl) e).here (k _ kp)
  )) only [↓Hsh.on])
abbrev Cl := (Value → Option Bool) × Option Nat × (Addr → Value → Option Addr → TS)
/-- the clauses of a try -/
inductive HdsG (X : Cx) : List ExceptHandler → List Cl → Prop
  | nil : HdsG X [] []
  | one {t : Expr} {f : Value → Option Bool} {ts : Addr → Value → Option Addr → TS} {b₀ : Stmt} {suite : List Stmt} {p : Pos} {hds : List ExceptHandler} {l : List Cl} (ht : Tst X t f)
      (hsu : ∀ (a : Addr) (oe : Obj) (cls : Value) (d : Option Addr) (pn : List (Addr × Obj)), Zc cls d oe → (∃ vs, oe.data = .fields vs) → PSs (X.suite a ((a, oe) :: pn)) (b₀ :: suite) (ts a cls d)) (r : HdsG X hds l) :
      HdsG X (.ExceptHandler (some t) none (b₀ :: suite) p :: hds) ((f, none, ts) :: l)
  | als {t : Expr} {n : Str} {i : Nat} {f : Value → Option Bool} {ts : Addr → Value → Option Addr → TS} {b₀ : Stmt} {suite : List Stmt} {p : Pos} {hds : List ExceptHandler} {l : List Cl} (hi : X.N[i]? = some n) (hln : X.env.kindOf n = some .local) (ht : Tst X t f)
      (hsu : ∀ (a : Addr) (oe : Obj) (cls : Value) (d : Option Addr) (pn : List (Addr × Obj)), Zc cls d oe → (∃ vs, oe.data = .fields vs) → PSs (X.suite a ((a, oe) :: pn)) (b₀ :: suite) (ts a cls d)) (r : HdsG X hds l) :
      HdsG X (.ExceptHandler (some t) (some n) (b₀ :: suite) p :: hds) ((f, some i, ts) :: l)
/-- the ends of a suite: the name of the clause goes -/
def endsG (D : Ends) : Option Nat → Ends
  | none => D
  | some i => { nx := fun σ H => D.nx (σ.set i none) H, rt := D.rt, bk := fun σ H => D.bk (σ.set i none) H, ct := fun σ H => D.ct (σ.set i none) H }
def setG (σ : L2.St) (a : Addr) : Option Nat → L2.St
  | none => σ
  | some i => σ.set i (some (.ref a))
/-- what the clauses wish of an error of the body -/
def wG (Wout : WX) (D : Ends) : List Cl → WX
  | [] => Wout
  | (f, oi, ts) :: r => fun cls d σ H => ∃ b, f cls = some b ∧ (b = true → ∀ a, H a = none → ts a cls d (endsG D oi) (setG σ a oi) H) ∧ (b = false → wG Wout D r cls d σ H)
def tTryG (tb : WX → TS) (Wout : WX) (l : List Cl) (u : TS) : TS := fun D σ H => tb (wG Wout D l) { D with nx := u D } σ H
def tRaiseG (W : WX) (D : Addr) : TS := fun _ σ H => W (.ref D) none σ H
theorem flying_keeps {B : Heap} {l : List Env} {a : Addr} {Z : Obj → Prop} {h h' : Heap} (f : HandSPX.FlyingZ B l a Z h) (k : ∀ q o, h.get? q = some o → h'.get? q = some o) : HandSPX.FlyingZ B l a Z h' := by
  obtain ⟨k1, k2, k3, oe, vs, T, oT, ts, he, hz, hd, h1, hn, ne, hT, hdT, h3⟩ := f
  exact ⟨fun b o e => k b o (k1 b o e), k2, k3.of_keeps fun b o e _ => ⟨o, k b o e, rfl⟩, oe, vs, T, oT, ts, k _ _ he, hz, hd, h1, hn, ne, k _ _ hT, hdT, h3⟩
section
variable {X : Cx} {body orelse : List Stmt} {h₀ : ExceptHandler} {hds : List ExceptHandler} {l : List Cl} {pos : Pos} {tb : WX → TS} {u : TS} {Wout : WX}
theorem ps_tryG (hs : X.stack = X.env :: X.outer) (hf : X.env.frame = some X.env.locals) (hN : X.N.Nodup) (tk : Takes X Wout)
    (hb : ∀ (W : WX) (pn : List (Addr × Obj)) (xe : Value → Shared → Prop), Takes (X.tr pn xe) W → PassesOwn (model X.prog X.w) X.A X.env xe → PSs (X.tr pn xe) body (tb W))
    (hh : HdsG X (h₀ :: hds) l) (ho : PSs X orelse u) : PS X (.Try body (h₀ :: hds) orelse [] pos) (tTryG tb Wout l u) := Hsh.un (by simp (disch := k_dflt (
  refine Hsh.up ?_
  refine ⟨fun pins s σ H D I h => ?_⟩
  have ok := I.ok
  have hfr : X.A.frames = some (X.env :: X.outer) := by rw [ok.frames, hs]
  refine wpAny_Try_except ?_
  have body_ok := (hb (wG Wout D l) (X.pn ++ pins) (fun e s₁ => wpAny (model X.prog X.w) X.A (noteFrame e X.env) (fun _ s₂ => wpAny (model X.prog X.w) X.A (setFlight e none) (fun _ s₃ =>
    wpAny (model X.prog X.w) X.A (handleBy e X.env (h₀ :: hds)) (SP X pins D) X.xe s₃) X.xe s₂) X.xe s₁) (fun v s' xx => ?_) PassesOwn.looking).run [] s σ H { D with nx := u D } (I.toTry _) h
  · refine wpAny_mono body_ok (fun f s1 hsp => ?_) (fun e s1 he => he)
    cases f with
    | next =>
      obtain ⟨σ', H', J', q⟩ := hsp
      exact ho.run pins s1 σ' H' D (J'.ofTry ok) q
    | brk =>
      obtain ⟨σ', H', J', q⟩ := hsp
      exact ⟨σ', H', J'.ofTry ok, q⟩
    | cont =>
      obtain ⟨σ', H', J', q⟩ := hsp
      exact ⟨σ', H', J'.ofTry ok, q⟩
    | ret z =>
      obtain ⟨v, σ', H', J', r, q⟩ := hsp
      exact ⟨v, σ', H', J'.ofTry ok, r, q⟩
  · obtain ⟨a, B, sI, pins', σ', H', cls, d, rfl, J', nb, up, sky, na, os, ag, w⟩ := xx
    have J : Inv X pins σ' H' sI := J'.ofTry ok
    show wpAny (model X.prog X.w) X.A (noteFrame (.ref a) X.env) _ _ _
    refine Sky.land Zc.steady hfr hf (by rw [← hs]; exact sky) fun h3 fl3 up3 => ?_
    -- what the landed error tells at any heap
    have facts : ∀ h, HandSPX.FlyingZ B (X.env :: X.outer) a (Zc cls d) h → s'.heap.UpToSlots h → Inv X pins σ' H' { s' with heap := h } ∧ ∃ oe vs, h.get? a = some oe ∧ Zc cls d oe ∧ oe.data = .fields vs ∧ Inv (X.suite a ((a, oe) :: (X.pn ++ pins))) [] σ' H' { s' with heap := h } := fun h fl uph => by
      have Jh : Inv X pins σ' H' { s' with heap := h } := J.landed nb fl.1 (up.trans uph) os ag
      obtain ⟨oe, vs, he, hz, hd⟩ := fl.there
      have nfr : a ∉ frs (X.env :: X.outer) := fun hm => by
        obtain ⟨_, o', e', hnf⟩ := fl.2.2.1.mem hm
        rw [he] at e'
        cases e'
        exact hnf _ hd
      have nL : a ≠ X.env.locals := fun z => nfr (List.mem_filterMap.mpr ⟨X.env, List.mem_cons_self, by rw [hf, z]⟩)
      have nF : a ∉ X.fs := fun hm => by
        obtain ⟨e, he, q⟩ := List.mem_filterMap.mp hm
        exact nfr (List.mem_filterMap.mpr ⟨e, List.mem_cons_of_mem _ he, q⟩)
      exact ⟨Jh, oe, vs, he, hz, hd, Jh.suite he hd na nL nF⟩
    have looks : ∀ {h : Heap} {oe : Obj}, h.get? a = some oe → Zc cls d oe → PySem.W.Looks (model X.prog X.w) h (typeOf (.ref a)) cls := fun {h oe} he hz A Q E s k q => wpAny_typeOf_ref (k _ _ he) (by rw [hz.1]; exact q)
    have go : ∀ {hds' : List ExceptHandler} {l' : List Cl}, HdsG X hds' l' → wG Wout D l' cls d σ' H' → ∀ h, HandSPX.FlyingZ B (X.env :: X.outer) a (Zc cls d) h → s'.heap.UpToSlots h →
        wpAny (model X.prog X.w) X.A (handleBy (.ref a) X.env hds') (SP X pins D) X.xe { s' with heap := h } := by
      intro hds' l' hk
      induction hk with
      | nil =>
        intro w h fl uph
        refine wpAny_handleBy_nil ?_
        obtain ⟨_, _, _, oe, vs, T, oT, ts', he, hz, hd, h1, _⟩ := id fl
        unfold PySem.passOn
        refine wpAny_bind (wpAny_field he hd h1 ?_)
        rw [if_neg (show ¬ ((Value.ref T == Value.none) = true) from by simp)]
        have fin : wpAny (model X.prog X.w) X.A (setFlight (.ref a) X.env.frame) (fun _ s4 => wpAny (model X.prog X.w) X.A (throw (.ref a) : Sem Flow) (SP X pins D) X.xe s4) X.xe { s' with heap := h } := by
          rw [hf]
          refine HandSPX.setFlight_upZ fl fun h4 hh4 up4 => wpAny_throw (tk _ _ ?_)
          exact ⟨a, B, sI, pins, σ', H', cls, d, rfl, J, nb, (up.trans uph).trans up4, .inr (.inr (by rw [hs]; exact hh4)), na, os, ag, w⟩
        first
          | exact wpAny_bind (wpAny_pure (wpAny_bind fin))
          | exact wpAny_bind fin
      | @one t f ts b₀ suite p hds2 l2 ht hsu r ih =>
        intro w h fl uph
        obtain ⟨b, hb1, hyes, hno⟩ := w
        obtain ⟨_, oe, vs, he, hz, hd, S⟩ := facts h fl uph
        refine wpAny_handleBy_cons (codeAny_handlers_test (ht a _ σ' H' _ cls b _ _ S (looks he hz) hb1 fun h5 k5 => ?_)) (by intro q; cases q)
        have fl5 := flying_keeps fl k5
        have up5 := uph.trans (Heap.UpToSlots.of_keeps k5)
        cases b with
        | true =>
          refine codeAny_handlers_suite ?_
          refine HandSPX.lands_againZ fl5 fun h4 fl4 up4 => ?_
          obtain ⟨_, oe4, vs4, he4, hz4, hd4, S4⟩ := facts h4 fl4 (up5.trans up4)
          refine wpAny_mono ((hsu a oe4 cls d (X.pn ++ pins) hz4 ⟨_, hd4⟩).run [] _ _ H' _ S4 (hyes rfl a na)) (fun f s6 hsp => ?_) (fun _ _ z => False.elim z)
          cases f with
          | next =>
            obtain ⟨σ6, H6, S6, q6⟩ := hsp
            exact ⟨_, _, S6.unsuite ok, q6⟩
          | brk =>
            obtain ⟨σ6, H6, S6, q6⟩ := hsp
            exact ⟨_, _, S6.unsuite ok, q6⟩
          | cont =>
            obtain ⟨σ6, H6, S6, q6⟩ := hsp
            exact ⟨_, _, S6.unsuite ok, q6⟩
          | ret z =>
            obtain ⟨v6, σ6, H6, S6, r6, q6⟩ := hsp
            exact ⟨_, _, _, S6.unsuite ok, r6, q6⟩
        | false => exact ih (hno rfl) h5 fl5 up5
      | @als t n i f ts b₀ suite p hds2 l2 hi hln ht hsu r ih =>
        intro w h fl uph
        obtain ⟨b, hb1, hyes, hno⟩ := w
        obtain ⟨_, oe, vs, he, hz, hd, S⟩ := facts h fl uph
        refine wpAny_handleBy_cons (codeAny_handlers_test (ht a _ σ' H' _ cls b _ _ S (looks he hz) hb1 fun h5 k5 => ?_)) (by intro q; cases q)
        have fl5 := flying_keeps fl k5
        have up5 := uph.trans (Heap.UpToSlots.of_keeps k5)
        cases b with
        | true =>
          refine codeAny_handlers_suite_as ?_
          refine HandSPX.lands_againZ fl5 fun h4 fl4 up4 => ?_
          obtain ⟨_, oe4, vs4, he4, hz4, hd4, S4⟩ := facts h4 fl4 (up5.trans up4)
          refine store_ok (X := X.suite a ((a, oe4) :: (X.pn ++ pins))) (v := .ref a) S4 hN hi (.inl hln) rfl (fun s5 S5 => ?_) (.inr hln)
          refine wpAny_mono ((hsu a oe4 cls d (X.pn ++ pins) hz4 ⟨_, hd4⟩).run [] s5 _ H' _ S5 (hyes rfl a na)) (fun f s6 hsp => ?_) (fun _ _ z => False.elim z)
          have gone : ∀ {σ6 : L2.St} {H6 : Hp} {Q : Shared → Prop}, Inv (X.suite a ((a, oe4) :: (X.pn ++ pins))) [] σ6 H6 s6 → (∀ s7, Inv X pins (σ6.set i none) H6 s7 → Q s7) →
              wpAny (model X.prog X.w) X.A (do bindName X.env n .none; unbindBehindTheSuite X.env n p) (fun _ s7 => Q s7) X.xe s6 := fun {σ6 H6 Q} S6 hq => gone_ok (S6.unsuite ok) hN hi hln hq
          cases f with
          | next =>
            obtain ⟨σ6, H6, S6, q6⟩ := hsp
            exact gone S6 fun s7 J7 => ⟨_, _, J7, q6⟩
          | brk =>
            obtain ⟨σ6, H6, S6, q6⟩ := hsp
            exact gone S6 fun s7 J7 => ⟨_, _, J7, q6⟩
          | cont =>
            obtain ⟨σ6, H6, S6, q6⟩ := hsp
            exact gone S6 fun s7 J7 => ⟨_, _, J7, q6⟩
          | ret z =>
            obtain ⟨v6, σ6, H6, S6, r6, q6⟩ := hsp
            exact gone S6 fun s7 J7 => ⟨_, _, _, J7, r6, q6⟩
        | false => exact ih (hno rfl) h5 fl5 up5
    exact go hh w h3 fl3 up3
  )) only [↓Hsh.on])
end
theorem eqV_str (a b : Str) : eqV (.str a) (.str b) = decide (a = b) := by
  show (a == b) = _
  by_cases h : a = b <;> simp [h]
theorem inV_strs (x : Str) (l : List Str) : inV (.str x) (l.map V.str) = decide (x ∈ l) := Hsh.un (by simp (disch := k_dflt (
  refine Hsh.up ?_
  unfold inV
  rw [List.any_map]
  induction l with
  | nil => simp
  | cons a l ih =>
    rw [List.any_cons, ih]
    show (eqV (.str a) (.str x) || _) = _
    rw [eqV_str]
    by_cases h : a = x <;> by_cases h2 : x ∈ l <;> simp [h, h2, eq_comm] <;> exact fun z => h z.symm
  )) only [↓Hsh.on])
theorem q_dec {p : Prop} [Decidable p] {Q : VK} {H : Hp} (h : p) (k : Q (.bl true) H) : Q (.bl (decide p)) H := by
  rw [decide_eq_true h]
  exact k
theorem s_eqD {K : PySem.W.Frag} {H : Hp} {Q : VK} {p q : Addr} {d e : PyData} {b : Bool} (h1 : Dp K H (.ref p) d) (h2 : Dp K H (.ref q) e) (s1 : SeqAt.shaped d = true) (s2 : SeqAt.shaped e = true) (hb : PyData.eqv d e = b) (h : Q (.bl b) H) : rEqX K (.ref p) (.ref q) H Q :=
  .inr ⟨d, e, h1, h2, s1, s2, by rw [hb]; exact h⟩
theorem s_neD {K : PySem.W.Frag} {H : Hp} {Q : VK} {p q : Addr} {d e : PyData} {b : Bool} (h1 : Dp K H (.ref p) d) (h2 : Dp K H (.ref q) e) (s1 : SeqAt.shaped d = true) (s2 : SeqAt.shaped e = true) (hb : PyData.eqv d e = b) (h : Q (.bl (!b)) H) : rNeX K (.ref p) (.ref q) H Q :=
  .inr ⟨d, e, h1, h2, s1, s2, by rw [hb]; exact h⟩
/-- a number out of a list of numbers -/
theorem toI_bnd (lo hi : Int) {xs : List V} {i : Int} (h : (xs.all fun v => decide (lo ≤ toI v) && decide (toI v ≤ hi)) = true) (h0 : 0 ≤ i) (h1 : i < xs.length) : lo ≤ toI (xs.getD i.toNat .non) ∧ toI (xs.getD i.toNat .non) ≤ hi := Hsh.un (by simp (disch := k_dflt (
  refine Hsh.up ?_
  have hm : xs.getD i.toNat .non ∈ xs := by
    rw [List.getD_eq_getElem?_getD, List.getElem?_eq_getElem (by omega)]
    exact List.getElem_mem _
  have := List.all_eq_true.mp h _ hm
  simpa using this
  )) only [↓Hsh.on])
theorem SH.call2 {A : List Addr} {H0 H H' : Hp} {L : List Cell} {a b : Addr} {o u o' u' : HO} (S : SH A H0 H L) (i j : Nat) (e : L[i]? = some (a, o)) (e2 : L[j]? = some (b, u)) (im : Imm o = false) (im2 : Imm u = false) (k : Keep [a, b] H H') (h : H' a = some o') (h2 : H' b = some u') :
    SH A H0 H' ((L.set i (a, o')).set j (b, u')) := Hsh.un (by simp (disch := k_dflt (
  refine Hsh.up ?_
  have ha := S.get i e
  have hb := S.get j e2
  have rest : ∀ c m, (L.set i (a, o'))[m]? = some c → m ≠ j → c = (a, o') ∨ ∃ m, L[m]? = some c ∧ m ≠ i ∧ m ≠ j := fun c m q nj => by
    by_cases q2 : i = m
    · subst q2
      left
      obtain ⟨hi, _⟩ := List.getElem?_eq_some_iff.mp e
      rw [List.getElem?_set, if_pos rfl, if_pos hi] at q
      exact (Option.some.inj q).symm
    · rw [List.getElem?_set_ne q2] at q
      exact .inr ⟨m, q, Ne.symm q2, nj⟩
  have key : ((L.set i (a, o')).set j (b, u')).map (·.1) = L.map (·.1) := by
    by_cases q : j = i
    · subst q
      rw [e] at e2
      cases e2
      rw [List.set_set, map_set_key e]
    · rw [map_set_key (o := u) (by rw [List.getElem?_set_ne (Ne.symm q)]; exact e2), map_set_key e]
  refine ⟨fun c hc => ?_, by rw [key]; exact S.nd, ⟨fun d v q z => ?_, fun d q => S.kp.d d (k.d d q)⟩, fun c hc => ?_⟩
  · rcases mem_set_cell hc with rfl | ⟨m, nm, em⟩
    · exact h2
    · rcases rest c m em nm with rfl | ⟨m, q, ni, nj⟩
      · exact h
      · refine k.k _ _ (S.hs c (List.mem_of_getElem? q)) (.inl fun z => ?_)
        rcases List.mem_cons.mp z with z | z
        · exact nodup_key S.nd e q ni z
        · exact nodup_key S.nd e2 q nj (List.mem_singleton.mp z)
  · have h1 := S.kp.k d v q z
    refine k.k d v h1 ?_
    rcases z with z | z
    · by_cases da : d = a
      · exfalso
        subst da
        rcases S.ow _ (List.mem_of_getElem? e) with w | w
        · exact z w
        · rw [q] at w
          cases w
      · by_cases db : d = b
        · exfalso
          subst db
          rcases S.ow _ (List.mem_of_getElem? e2) with w | w
          · exact z w
          · rw [q] at w
            cases w
        · exact .inl (by simp [da, db])
    · exact .inr z
  · rcases mem_set_cell hc with rfl | ⟨m, nm, em⟩
    · exact S.ow (b, u) (List.mem_of_getElem? e2)
    · rcases rest c m em nm with rfl | ⟨m, q, ni, nj⟩
      · exact S.ow (a, o) (List.mem_of_getElem? e)
      · exact S.ow c (List.mem_of_getElem? q)
  )) only [↓Hsh.on])
theorem h_pop0 {i : Nat} {A : List Addr} {H0 H : Hp} {L : List Cell} {Q : VK} {a : Addr} {ns : List Int} (S : SH A H0 H L) (e : L[i]? = some (a, .lst (ns.map V.int))) (h0 : 0 < (ns.map V.int).length)
    (h : ∀ n ms H', ns = n :: ms → SH A H0 H' (L.set i (a, .lst (ms.map V.int))) → Q (.int n) H') : rPopAt (.ref a) [.int 0] H Q := Hsh.un (by simp (disch := k_dflt (
  refine Hsh.up ?_
  cases ns with
  | nil => exact absurd h0 (by decide)
  | cons n ms =>
    refine ⟨a, _, 0, 0, .int n, rfl, rfl, S.get i e, by decide, by decide, ?_, rfl, h n ms _ rfl (S.set i e rfl _)⟩
    unfold seqIndex?
    simp
  )) only [↓Hsh.on])
/-! ### what classes of errors tell -/
/-- all that is asked of a class of errors without own __init__ -/
structure ExcF (K : PySem.W.Frag) (D : Addr) : Prop where
  ex : PySem.W.excIn K D He.veBase "ValueError.__new__" = true
  kp : PySem.W.keepIn K (.ref D) = true
  bs : PySem.W.subIn K (.ref D) (.type "BaseException") = some true
  ty : PySem.W.typeIn K (.ref D) = some (.type "type")
theorem excF_ok {K : PySem.W.Frag} {x : Str} (c : (He.Fa.exc x).ok K = true) : ExcF K (He.ga K x) := by
  obtain ⟨h1, h2, h3, h4⟩ := He.exc_ok c
  exact ⟨h1, h2, h3, h4⟩
def excCB (K : PySem.W.Frag) (x : Str) : Bool :=
  let D := He.ga K x
  decide (PySem.W.findIn K (.ref D) "__getattribute__" = some (some (.builtin "BaseException.__getattribute__"))) && (decide (PySem.W.findIn K (.ref D) "__getattr__" = some none) &&
    (decide (PySem.W.subIn K (.ref D) (.type "BaseException") = some true) && (PySem.W.hasDictIn K D && (decide (PySem.W.findIn K (.ref D) "__class__" = some (some (.builtin "object.__class__"))) &&
      (decide (PySem.W.specialIn K (.builtin "object.__class__") "__get__" = some (some (.builtin "getset_descriptor.__get__"))) && (decide (PySem.W.takesIn K (.builtin "object.__class__") = some true) &&
        decide (PySem.W.mroIn K D (.type "object") = some true)))))))
theorem excCB_ok {K : PySem.W.Frag} {x : Str} (h : excCB K x = true) : ExcC K (He.ga K x) := Hsh.un (by simp (disch := k_dflt (
  refine Hsh.up ?_
  unfold excCB at h
  simp only [Bool.and_eq_true, decide_eq_true_eq] at h
  obtain ⟨a, b, c, d, e, f, g, i⟩ := h
  exact ⟨a, b, c, d, e, f, g, i⟩
  )) only [↓Hsh.on])
def kitCB (K : PySem.W.Frag) (x y : Str) (b : Bool) : Bool := decide (PySem.W.kitOne K (.ref (He.ga K x)) (.ref (He.ga K y)) = some b)
theorem kitCB_ok {K : PySem.W.Frag} {x y : Str} {b : Bool} (h : kitCB K x y b = true) : PySem.W.kitOne K (.ref (He.ga K x)) (.ref (He.ga K y)) = some b := of_decide_eq_true h
def kitTB (K : PySem.W.Frag) (x : Str) (y : String) (b : Bool) : Bool := decide (PySem.W.kitOne K (.ref (He.ga K x)) (.type y) = some b)
def exmTB (K : PySem.W.Frag) (x : Str) (y : String) (b : Bool) : Bool := decide (PySem.W.exmOne K (.ref (He.ga K x)) (.type y) = some b)
theorem exmTB_ok {K : PySem.W.Frag} {x : Str} {y : String} {b : Bool} (h : exmTB K x y b = true) : PySem.W.exmOne K (.ref (He.ga K x)) (.type y) = some b := of_decide_eq_true h
theorem kitTB_ok {K : PySem.W.Frag} {x : Str} {y : String} {b : Bool} (h : kitTB K x y b = true) : PySem.W.kitOne K (.ref (He.ga K x)) (.type y) = some b := of_decide_eq_true h
theorem kdct_ok {K : PySem.W.Frag} {w : World} {a : Addr} {kvs : List (Str × He.Dv)} (h : ∃ es n, KDict K w a es n) (hv : He.valsB K a kvs = true) : ∀ q ∈ kvs, KDct K w a q.1 (q.2.v K) := fun q hq => by
  obtain ⟨es, n, D⟩ := h
  obtain ⟨u, e, r⟩ := He.valsB_ok hv hq
  exact ⟨es, n, u, D.at_, D.lit, e, r⟩
theorem s_ixD {K : PySem.W.Frag} {w : World} {p : Addr} {z : Str} {v : V} {H : Hp} {Q : VK} (h : KDct K w p z v) (q : Q v H) : rIxD K w (.ref p) (.str z) H Q := ⟨p, z, v, rfl, rfl, h, q⟩
section
variable {X : Cx}
/-- raise C('text') -/
theorem ps_raiseG {W : WX} {x m : Str} {j : Nat} {p p2 pos pos2 : Pos} (hc : X.calm = true) (tk : Takes X W) (F : ExcF X.K (He.ga X.K x)) (hm : X.mg x = some (.ref (He.ga X.K x))) (hg : Gl X x) (hdb : (x == ("__debug__" : Str)) = false := by decide) :
    PS X (.Raise (some (.Call (.Name x p) [.Constant (.str m) j p2] [] pos)) none pos2) (tRaiseG W (He.ga X.K x)) :=
  ps_raise hc tk (pmk_own PySem.F.excBase_ValueError F.ex hm F.kp (raises_own F.bs F.ty) hg hdb)
/-- isinstance in a suite, of the error that it holds -/
def rIsE1 (K : PySem.W.Frag) (cls : Value) (d : Option Addr) (a : Addr) : List V → Hp → VK → Prop := fun xs H Q => ∃ D, cls = .ref D ∧ d = none ∧ ExcC K D ∧ rIsE K D a xs H Q
def rIsinE (K : PySem.W.Frag) (cls : Value) (d : Option Addr) (a : Addr) : List V → Hp → VK → Prop := fun xs H Q => rIsiX K xs H Q ∨ rIsE1 K cls d a xs H Q
theorem x_isE {a : Addr} {oe : Obj} {cls : Value} {d : Option Addr} {pn : List (Addr × Obj)} (hz : Zc cls d oe) (hf : ∃ vs, oe.data = .fields vs) :
    CallR (X.suite a ((a, oe) :: pn)) (.builtin "isinstance") (rIsE1 X.K cls d a) := Hsh.un (by simp (disch := k_dflt (
  refine Hsh.up ?_
  intro pins s σ H xs us Q I r h
  obtain ⟨D, rfl, rfl, C, h⟩ := h
  exact call_isE C hz hf pins s σ H xs us Q I r h
  )) only [↓Hsh.on])
end
theorem cxW {CX : CXT} {P : Program} {w : World} {K : PySem.W.Frag} {mg : Str → Option Value} {base : Heap} {N : List Str} {qual : Str} {scope : Scope} {f : Addr} {cd : Value} {A : Around} {outer : List PySem.Env} {s : Shared} {H : Hp} {E : XK} :
    (cxOf CX P w K mg base N qual scope f cd A outer s H E).nox.w = w := rfl
theorem cxW2 {CX : CXT} {P : Program} {w : World} {K : PySem.W.Frag} {mg : Str → Option Value} {base : Heap} {N : List Str} {qual : Str} {scope : Scope} {f : Addr} {cd : Value} {A : Around} {outer : List PySem.Env} {s : Shared} {H : Hp} {E : XK} :
    (cxOf CX P w K mg base N qual scope f cd A outer s H E).w = w := rfl
theorem x_isinE {X : Cx} {a : Addr} {oe : Obj} {cls : Value} {d : Option Addr} {pn : List (Addr × Obj)} (hz : Zc cls d oe) (hf : ∃ vs, oe.data = .fields vs) :
    CallR (X.suite a ((a, oe) :: pn)) (.builtin "isinstance") (rIsinE X.K cls d a) := CallR.or x_isinstance (x_isE hz hf)
section
variable {K : PySem.W.Frag} {a D C : Addr} {H : Hp} {σ : L2.St} {Q : VK} {b : Bool} {n bk ct : L2.St → Hp → Prop} {r : VK}
theorem s_isE (c : ExcC K D) (e : PySem.W.kitOne K (.ref D) (.ref C) = some b) (h : Q (.bl b) H) : rIsinE K (.ref D) none a [.ref a, .ref C] H Q := .inr ⟨D, rfl, rfl, c, _, _, b, rfl, fun u h => h, e, h⟩
theorem s_isEt {y : String} (c : ExcC K D) (e : PySem.W.kitOne K (.ref D) (.type y) = some b) (h : Q (.bl b) H) : rIsinE K (.ref D) none a [.ref a, .ty y] H Q := .inr ⟨D, rfl, rfl, c, _, _, b, rfl, fun u h => h, e, h⟩
theorem s_isEx {cls : Value} {d : Option Addr} {xs : List V} (h : rIsiX K xs H Q) : rIsinE K cls d a xs H Q := .inl h
theorem s_try {tb : WX → TS} {Wout : WX} {l : List Cl} {u : TS} (h : tb (wG Wout ⟨n, r, bk, ct⟩ l) ⟨u ⟨n, r, bk, ct⟩, r, bk, ct⟩ σ H) : tTryG tb Wout l u ⟨n, r, bk, ct⟩ σ H := h
theorem s_raise {W : WX} {e : Ends} (h : W (.ref D) none σ H) : tRaiseG W D e σ H := h
theorem s_WE {W : WX} {cls : Value} {d : Option Addr} (h : W cls d σ H) : WE W σ cls d H := h
theorem s_wGn {Wout : WX} {e : Ends} {f : Value → Option Bool} {oi : Option Nat} {ts : Addr → Value → Option Addr → TS} {l : List Cl} {cls : Value} {d : Option Addr} (q : f cls = some false) (h : wG Wout e l cls d σ H) : wG Wout e ((f, oi, ts) :: l) cls d σ H := ⟨false, q, (fun z => nomatch z), fun _ => h⟩
theorem s_wGy {Wout : WX} {f : Value → Option Bool} {ts : Addr → Value → Option Addr → TS} {l : List Cl} {cls : Value} {d : Option Addr} (q : f cls = some true) (h : ∀ a, H a = none → ts a cls d ⟨n, r, bk, ct⟩ σ H) :
    wG Wout ⟨n, r, bk, ct⟩ ((f, none, ts) :: l) cls d σ H := ⟨true, q, fun _ => h, (fun z => nomatch z)⟩
theorem s_wGa {Wout : WX} {i : Nat} {f : Value → Option Bool} {ts : Addr → Value → Option Addr → TS} {l : List Cl} {cls : Value} {d : Option Addr} (q : f cls = some true)
    (h : ∀ a, H a = none → ts a cls d ⟨fun σ H => n (σ.set i none) H, r, fun σ H => bk (σ.set i none) H, fun σ H => ct (σ.set i none) H⟩ (σ.set i (some (.ref a))) H) :
    wG Wout ⟨n, r, bk, ct⟩ ((f, some i, ts) :: l) cls d σ H := ⟨true, q, fun _ => h, (fun z => nomatch z)⟩
theorem s_wG0 {Wout : WX} {e : Ends} {cls : Value} {d : Option Addr} (h : Wout cls d σ H) : wG Wout e [] cls d σ H := h
end
/-- a call in a try's body -/
theorem pe_callSG {X : Cx} {CX : CXT} {k : Nat} {ps : List Str} {sp : Sp} {E : L2.St → XK} {x : Str} {p pos : Pos} {e : Expr} {es : List Expr} {t : TA} (F : CallOk X.prog X.w X.K X.mg X.base CX k x ps sp) (hr : Room k X.A) (hg : Gl X x) (hx : ∀ σ, PassesAt CX X σ (E σ))
    (ha : PA X (e :: es) t) (hdb : (x == ("__debug__" : Str)) = false := by decide) (he : starEach (e :: es) X.env = (false, eval e X.env) :: starEach es X.env := by rfl) (hpl : (backTo pos (starEach es X.env)).any (·.1) = false := by rfl) :
    PE X (.Call (.Name x p) (e :: es) [] pos) (tCallS sp E t) := by
  obtain ⟨f, fd, h1, h2, h3, h4⟩ := F.ex
  exact pe_callS h4 hr hg h1 h2 h3 hx ha hdb he hpl
theorem s_callS {σ : L2.St} {H : Hp} {Q : VK} {sp : Sp} {E : L2.St → XK} {tr : TA} (h : tr σ H fun vs H1 => sp (vs ++ []) H1 Q (E σ)) : tCallS sp E tr σ H Q := Hsh.un (by simp (disch := k_dflt (
  refine Hsh.up ?_
  unfold tCallS
  simp only [List.append_nil] at h
  exact h
  )) only [↓Hsh.on])
/-- a module's tuple, by its class -/
def tupDB (K : PySem.W.Frag) (x : Str) : Bool := match K.lookup (He.ga K x) with
  | some o => decide (o.cls = .type "tuple") && o.dict.isNone
  | none => false
theorem tupDB_ok {K : PySem.W.Frag} {x : Str} (h : tupDB K x = true) : ∃ o, K.lookup (He.ga K x) = some o ∧ o.cls = .type "tuple" ∧ o.dict = none := Hsh.un (by simp (disch := k_dflt (
  refine Hsh.up ?_
  unfold tupDB at h
  cases q : K.lookup (He.ga K x) with
  | none => rw [q] at h; cases h
  | some o =>
    rw [q] at h
    simp only [Bool.and_eq_true, decide_eq_true_eq, Option.isNone_iff_eq_none] at h
    exact ⟨o, rfl, h.1, h.2⟩
  )) only [↓Hsh.on])
/-- a text's place in a tuple of texts -/
def rTIx (K : PySem.W.Frag) (x : V) (xs : List V) (H : Hp) (Q : VK) : Prop := ∃ p, ∃ ys : List Str, ∃ z j, x = .ref p ∧ xs = [.str z] ∧ SqT K H p (ys.map V.str) ∧ ys[j]? = some z ∧ (∀ m, m < j → ys[m]? ≠ some z) ∧ Q (.int (j : Nat)) H
theorem xt_index {X : Cx} : MtR X "tuple.index" (rTIx X.K) := mt_tup_index
theorem s_tix {K : PySem.W.Frag} {H : Hp} {Q : VK} {p : Addr} {ys : List Str} {z : Str} {j : Nat} (h : SqT K H p (ys.map V.str)) (e : ys[j]? = some z) (n : ∀ m, m < j → ys[m]? ≠ some z) (q : Q (.int (j : Nat)) H) : rTIx K (.ref p) [.str z] H Q := ⟨p, ys, z, j, rfl, rfl, h, e, n, q⟩
theorem tyT {K : PySem.W.Frag} {H : Hp} {a : Addr} {xs : List V} (h : SqT K H a xs) : TyX K H (.ref a) (.type "tuple") := Hsh.un (by simp (disch := k_dflt (
  refine Hsh.up ?_
  rcases h with (h | ⟨o, h⟩) | ⟨o, its, n, h1, h2, _⟩
  · exact .base (.tup h)
  · exact .fTuple h
  · exact .kTuple h1 h2
  )) only [↓Hsh.on])
theorem tyL {K : PySem.W.Frag} {H : Hp} {a : Addr} {xs : List V} (h : SqL K H a xs) : TyX K H (.ref a) (.type "list") := Hsh.un (by simp (disch := k_dflt (
  refine Hsh.up ?_
  rcases h with (h | ⟨o, h⟩) | ⟨o, its, n, h1, h2, _⟩
  · exact .base (.lst h)
  · exact .base (.frz h)
  · exact .kList h1 h2
  )) only [↓Hsh.on])
theorem SqT_keep {K : PySem.W.Frag} {A : List Addr} {H H' : Hp} {a : Addr} {xs : List V} (h : SqT K H a xs) (k : Keep A H H') : SqT K H' a xs := Hsh.un (by simp (disch := k_dflt (
  refine Hsh.up ?_
  rcases h with (h | ⟨o, h⟩) | h
  · exact .inl (.inl (k.k _ _ h (.inr rfl)))
  · exact .inl (.inr ⟨o, k.k _ _ h (.inr rfl)⟩)
  · exact .inr h
  )) only [↓Hsh.on])
def rSplit : V → List V → Hp → VK → Prop := fun x xs H Q => ∃ a b, x = .str a ∧ xs = [.str b] ∧ (b.length == 0) = false ∧ a.length + 2 ≤ sizeLine ∧ rNewStrs (Txt.split a b) H Q
theorem xt_split {X : Cx} : MtR X "str.split" rSplit := mt_split
theorem s_split {H : Hp} {Q : VK} {a b : Str} {ys : List Str} (h0 : (b.length == 0) = false) (h1 : a.length + 2 ≤ sizeLine) (e : Txt.split a b = ys) (h : newO (.lst (ys.map V.str)) 0 H Q) : rSplit (.str a) [.str b] H Q := ⟨a, b, rfl, rfl, h0, h1, by rw [e]; exact h.2⟩
def rJoin (K : PySem.W.Frag) : V → List V → Hp → VK → Prop := fun x xs H Q => ∃ a p, ∃ ys : List Str, x = .str a ∧ xs = [.ref p] ∧ (SqL K H p (ys.map V.str) ∨ SqT K H p (ys.map V.str)) ∧ (ys.map (·.length)).sum + ys.length * a.length ≤ 16777216 ∧ Q (.str (Txt.join a ys)) H
theorem xt_join {X : Cx} : MtR X "str.join" (rJoin X.K) := mt_join
theorem s_join {K : PySem.W.Frag} {H : Hp} {Q : VK} {a : Str} {p : Addr} {ys : List Str} (h : SqL K H p (ys.map V.str)) (c : (ys.map (·.length)).sum + ys.length * a.length ≤ 16777216) (q : Q (.str (Txt.join a ys)) H) : rJoin K (.str a) [.ref p] H Q := ⟨a, p, ys, rfl, rfl, .inl h, c, q⟩
theorem xl_index {X : Cx} : MtR X "list.index" (rIndex X.K) := mt_index
theorem s_lix {K : PySem.W.Frag} {H : Hp} {Q : VK} {p : Addr} {ys : List Str} {z : Str} {j : Nat} (h : SqL K H p (ys.map V.str)) (e : ys[j]? = some z) (n : ∀ m, m < j → ys[m]? ≠ some z) (q : Q (.int (j : Nat)) H) : rIndex K (.ref p) [.str z] H Q :=
  ⟨p, ys.map V.str, .str z, j, .str z, rfl, rfl, h, rfl, List.all_eq_true.mpr fun v hv => by obtain ⟨x, _, rfl⟩ := List.mem_map.mp hv; rfl, by rw [List.getElem?_map, e]; rfl, by rw [eqV_str]; exact decide_eq_true rfl, fun m z' hm hz => by
    rw [List.getElem?_map] at hz
    obtain ⟨x, hx, rfl⟩ := Option.map_eq_some_iff.mp hz
    rw [eqV_str]
    exact decide_eq_false fun y => n m hm (y ▸ hx), q⟩
theorem s_catA {K : PySem.W.Frag} {H : Hp} {Q : VK} {l b : Addr} {xs zs ys : List V} (h1 : SqT K H l xs) (h2 : SqT K H b zs) (n1 : xs ≠ []) (n2 : zs ≠ []) (c : xs.length + zs.length ≤ sizeLine) (e : xs ++ zs = ys) (h : newO (.tup ys) 0 H Q) : rAddX K (.ref l) (.ref b) H Q :=
  .inr (.inr (.inr ⟨l, b, xs, zs, rfl, rfl, h1, h2, c, fun z => absurd z n1, fun _ z => absurd z n2, fun _ _ p hp => by rw [e]; exact h.2 p hp⟩))
theorem s_catA0 {K : PySem.W.Frag} {H : Hp} {Q : VK} {l b : Addr} {xs : List V} (h1 : SqT K H l xs) (h2 : SqT K H b []) (n1 : xs ≠ []) (c : xs.length ≤ sizeLine) (h : Q (.ref l) H) : rAddX K (.ref l) (.ref b) H Q :=
  .inr (.inr (.inr ⟨l, b, xs, [], rfl, rfl, h1, h2, c, fun z => absurd z n1, fun _ _ => h, fun _ z => absurd rfl z⟩))
end Q
set_option Elab.async false
set_option linter.all false
set_option maxRecDepth 100000
set_option maxHeartbeats 4000000
/-! Properties: the getter's def is told by a hook of its own. -/
namespace Q
open PySem PySem.Spec PyProof.Rows L2
/-- the getter of the property f of the class C -/
def getA (K : PySem.W.Frag) (C f : Str) : Addr := match PySem.W.recIn K (He.ma K (He.ga K C) f) "property" with
  | some (.ref g :: _) => g
  | _ => 0
def getW (K : PySem.W.Frag) (g : Addr) : He.FnW := match K.lookup g with
  | some ⟨_, _, .func fd, _⟩ => some (fd.name, fd.qualname, fd.params, fd.body, fd.scope, fd.globals, fd.closure, fd.builtins)
  | _ => none
def getB (K : PySem.W.Frag) (d : He.DefD) (g : Addr) : Bool := PySem.W.keepIn K (.ref g) && (match K.lookup g with
  | some ⟨_, _, .func fd, _⟩ => PySem.W.codeIn K fd.code d.qual && (He.dflB K fd.defaults (d.dvs K) && He.kwdB K fd.kwdefaults (d.kws K))
  | _ => false)
theorem get_funD {K : PySem.W.Frag} {d : He.DefD} {g : Addr} (e : getW K g = d.val) (c : getB K d g = true) : ∃ fd, FunD K d.name d.qual d.params d.body d.scope (d.dvs K) (d.kws K) g fd := Hsh.un (by simp (disch := k_dflt (
  refine Hsh.up ?_
  obtain ⟨kp, c2⟩ := He.ba c
  unfold getW at e
  cases q : K.lookup g with
  | none => rw [q] at c2; cases c2
  | some o =>
    obtain ⟨oc, od, dt, osl⟩ := o
    rw [q] at c2 e
    cases dt with
    | func fd =>
      obtain ⟨m1, m2, m3, m4, m5, m6, m7, m8, m9, m10, m11, m12, m13, m14, m15⟩ := fd
      have e2 : (some (m1, m2, m3, m4, m5, m6, m7, m15) : He.FnW) = some (d.name, d.qual, d.params, .stmts d.body, d.scope, mainGlobals, [], builtinsNs) := e
      simp only [Option.some.injEq, Prod.mk.injEq] at e2
      obtain ⟨h1, h2, h3, h4, h5, h6, h7, h8⟩ := e2
      subst h1 h2 h3 h4 h5 h6 h7 h8
      obtain ⟨k1, k2⟩ := He.ba (show (PySem.W.codeIn K m13 d.qual && (He.dflB K m8 (d.dvs K) && He.kwdB K m9 (d.kws K))) = true from c2)
      obtain ⟨k3, k4⟩ := He.ba k2
      exact ⟨_, ⟨oc, od, m8, m9, m10, m11, m12, m13, m14, osl, rfl, q, k1, He.dflB_ok k3, He.kwdB_ok k4⟩, kp⟩
    | _ => cases c2
  )) only [↓Hsh.on])
/-- a property: its class, and its getter's def (the def's at_ tells class and name) -/
def prA (K : PySem.W.Frag) (d : He.DefD) : Addr := getA K d.at_.1 (d.at_.2.getD "")
def propB (K : PySem.W.Frag) (C f : Str) : Bool :=
  let p := He.ma K (He.ga K C) f
  decide (PySem.W.findIn K (.ref (He.ga K C)) f = some (some (.ref p))) && (decide (PySem.W.specialIn K (.ref p) "__get__" = some (some (.builtin "property.__get__"))) && (decide (PySem.W.takesIn K (.ref p) = some true) &&
    (match PySem.W.recIn K p "property" with
    | some (.ref _ :: _) => true
    | _ => false)))
theorem propB_ok {K : PySem.W.Frag} {C f : Str} (h : propB K C f = true) : PropOf K (He.ga K C) f (He.ma K (He.ga K C) f) (getA K C f) := Hsh.un (by simp (disch := k_dflt (
  refine Hsh.up ?_
  unfold propB at h
  obtain ⟨h1, h⟩ := He.ba h
  obtain ⟨h2, h⟩ := He.ba h
  obtain ⟨h3, h⟩ := He.ba h
  refine ⟨of_decide_eq_true h1, of_decide_eq_true h2, of_decide_eq_true h3, ?_⟩
  unfold getA
  split at h
  · rename_i g r e
    rw [e]
    exact ⟨r, rfl⟩
  · cases h
  )) only [↓Hsh.on])
structure SaysP (fa : List He.Fa) (fn : List He.DefD) (ts : List He.Tab) (ex : PySem.W.Frag → Bool) (pr : List He.DefD) (w : World) (h : Heap) (K : PySem.W.Frag) : Prop where
  x : He.SaysX fa fn ts [] ex w h K
  p : ∀ d ∈ pr, getW K (prA K d) = d.val ∧ getB K d (prA K d) = true
abbrev AlP : Type := He.AlX × List He.FnW × Bool
def obsP (n : Nat) (fa : List He.Fa) (fn : List He.DefD) (ts : List He.Tab) (ex : PySem.W.Frag → Bool) (pr : List He.DefD) (g : Addr → Option Obj) : AlP :=
  (He.obsX n fa fn ts [] ex g, (pr.map fun d => getW (He.frT g (He.asD g n)) (prA (He.frT g (He.asD g n)) d)), pr.all fun d => getB (He.frT g (He.asD g n)) d (prA (He.frT g (He.asD g n)) d))
def valP (fn : List He.DefD) (ts : List He.Tab) (pr : List He.DefD) (w : World) : AlP := (He.valX fn ts w, pr.map He.DefD.val, true)
theorem map_eq_mem {α β : Type} {f g : α → β} : ∀ {l : List α}, l.map f = l.map g → ∀ x ∈ l, f x = g x
  | [], _, _, h => nomatch h
  | a :: l, e, x, h => by
    rw [List.map_cons, List.map_cons] at e
    obtain ⟨e1, e2⟩ := List.cons.inj e
    rcases List.mem_cons.mp h with rfl | h
    · exact e1
    · exact map_eq_mem e2 x h
theorem saysP_of {n : Nat} {fa : List He.Fa} {fn : List He.DefD} {ts : List He.Tab} {ex : PySem.W.Frag → Bool} {pr : List He.DefD} {w : World} {h : Heap} (e : obsP n fa fn ts ex pr h.get? = valP fn ts pr w) : SaysP fa fn ts ex pr w h (He.frT h.get? (He.asD h.get? n)) := Hsh.un (by simp (disch := k_dflt (
  refine Hsh.up ?_
  have e1 : He.obsX n fa fn ts [] ex h.get? = He.valX fn ts w := congrArg (fun z : AlP => z.1) e
  have e2 := congrArg (fun z : AlP => z.2.1) e
  have e3 : (pr.all fun d => getB (He.frT h.get? (He.asD h.get? n)) d (prA (He.frT h.get? (He.asD h.get? n)) d)) = true := congrArg (fun z : AlP => z.2.2) e
  exact ⟨He.saysX_of e1, fun d hd => ⟨map_eq_mem e2 d hd, List.all_eq_true.mp e3 d hd⟩⟩
  )) only [↓Hsh.on])
def hookP (n : Nat) (fa : List He.Fa) (fn : List He.DefD) (ts : List He.Tab) (ex : PySem.W.Frag → Bool) (pr : List He.DefD) : PySem.W.Hook where
  α := AlP
  obs := fun s => obsP n fa fn ts ex pr s.heap.get?
  val := fun w => valP fn ts pr w
  says := fun w h => ∃ K : PySem.W.Frag, K.In h ∧ SaysP fa fn ts ex pr w h K
  of := fun _ _ e => ⟨_, He.frT_in, saysP_of e⟩
  keeps := fun _ _ _ ⟨K, hK, c⟩ k => ⟨K, PySem.W.Frag.In.keeps hK k, ⟨⟨c.x.t, c.x.more, c.x.hd, c.x.out, fun p hp => k _ _ (c.x.empty p hp)⟩, c.p⟩⟩
theorem obsP_eq {n : Nat} {fa : List He.Fa} {fn : List He.DefD} {ts : List He.Tab} {ex : PySem.W.Frag → Bool} {pr : List He.DefD} {g : Addr → Option Obj} {s : Shared} (h : ∀ a, g a = s.heap.get? a) : obsP n fa fn ts ex pr g = (hookP n fa fn ts ex pr).obs s := by
  have e : g = s.heap.get? := funext h
  rw [e] <;> rfl
theorem SaysP.get {fa : List He.Fa} {fn : List He.DefD} {ts : List He.Tab} {ex : PySem.W.Frag → Bool} {pr : List He.DefD} {w : World} {h : Heap} {K : PySem.W.Frag} (c : SaysP fa fn ts ex pr w h K) (i : Nat) {d : He.DefD} (e : pr[i]? = some d) : ∃ fd, FunD K d.name d.qual d.params d.body d.scope (d.dvs K) (d.kws K) (prA K d) fd :=
  let z := c.p d (List.mem_of_getElem? e)
  get_funD z.1 z.2
/-! ### more words on lists -/
def rInsert : V → List V → Hp → VK → Prop := fun x vs H Q => ∃ (l : Addr) (xs : List V) (i : Int) (y : V), x = .ref l ∧ vs = [.int i, y] ∧ H l = some (.lst xs) ∧ xs.length < sizeLine ∧ 0 ≤ i ∧ i < 2 ^ 63 ∧ Q .non (upd H l (.lst (xs.take i.toNat ++ [y] ++ xs.drop i.toNat)))
theorem xt_insert {X : Cx} : MtR X "list.insert" rInsert := mt_insert
theorem h_insert0 {A : List Addr} {H0 H : Hp} {L L' : List Cell} {Q : VK} {v : V} {i : Nat} {a : Addr} {xs : List V} (S : SH A H0 H L) (e : L[i]? = some (a, .lst xs)) (c : xs.length < sizeLine) (eL : L.set i (a, .lst (v :: xs)) = L')
    (h : ∀ H', SH A H0 H' L' → Q .non H') : rInsert (.ref a) [.int 0, v] H Q := ⟨a, xs, 0, v, rfl, rfl, S.get i e, c, by decide, by decide, h _ (eL ▸ S.set i e rfl _)⟩
/-! ### methods that may raise, in a try's body -/
def plO (X : Cx) (o : Expr) : Sem Bool := do return (← importBound o X.env).getD true
section
variable {X : Cx} {CX : CXT} {k : Nat} {ps : List Str} {sp : Sp} {E : L2.St → XK} {C m : Str} {p pos apos : Pos} {o e : Expr} {es : List Expr} {t : TA} {ta : TE}
theorem pe_methSG {K : PySem.W.Frag} (he : PE X o ta) (F : MethOk X.prog X.w X.K X.mg X.base CX k C m ps sp) (hr : Room k X.A) (hx : ∀ σ, PassesAt CX X σ (E σ)) (hK : X.K = K) (ha : PA X (e :: es) t)
    (ht : eval (.Call (.Attribute o m apos) (e :: es) [] pos) X.env = (do
      let ov ← eval o X.env
      standAt apos.atName
      let (f, first) ← holding [ov] (getMethod ov m (plO X o))
      callWith pos f first (backTo pos (starEach (e :: es) X.env)) (backToKw pos (keywordEach [] X.env))))
    (hst : starEach (e :: es) X.env = (false, eval e X.env) :: starEach es X.env := by rfl) (hpl : (backTo pos (starEach es X.env)).any (·.1) = false := by rfl) :
    PE X (.Call (.Attribute o m apos) (e :: es) [] pos) (fun σ H Q => ta σ H fun x H1 => methO (He.ga K C) m sp (E σ) t σ x H1 Q) := by
  subst hK
  obtain ⟨fd, c, hm, hb, G⟩ := F.ex
  refine ⟨fun pins s σ H Q I h => ?_⟩
  refine PySem.W.methodCall_KW (pl := plO X o) (thn (he.run pins s σ H _ I h) fun u s1 ⟨x, H1, I1, rx, a, dx, fs, ex, ea, l, q⟩ => ?_) ht
  subst ex
  obtain rfl : u = Value.ref a := rx
  refine getmeth_ok I1 ea c hm l ?_
  refine PySem.W.callWith_K (first := [.ref a]) (h₀ := X.base) I.ok.mod.kin hm.kp (thn (ha.run pos pins s1 σ H1 _ I1 q) fun us s2 ⟨vs, H2, I2, r, q2⟩ => ⟨I2.kIn, ?_⟩) hst hpl
  exact run_fnS (us := .ref a :: us) (vs := .ref a :: vs) G hr hb (hx σ) I2 (.cons rfl r) (by have q3 : sp (V.ref a :: (vs ++ [])) H2 Q (E σ) := q2; rw [List.append_nil] at q3; exact q3)
theorem pe_methSG0 {K : PySem.W.Frag} (he : PE X o ta) (F : MethOk X.prog X.w X.K X.mg X.base CX k C m ps sp) (hr : Room k X.A) (hx : ∀ σ, PassesAt CX X σ (E σ)) (hK : X.K = K)
    (ht : eval (.Call (.Attribute o m apos) [] [] pos) X.env = (do
      let ov ← eval o X.env
      standAt apos.atName
      let (f, first) ← holding [ov] (getMethod ov m (plO X o))
      callWith pos f first (backTo pos (starEach [] X.env)) (backToKw pos (keywordEach [] X.env)))) :
    PE X (.Call (.Attribute o m apos) [] [] pos) (fun σ H Q => ta σ H fun x H1 => methO (He.ga K C) m sp (E σ) tNil σ x H1 Q) := Hsh.un (by simp (disch := k_dflt (
  refine Hsh.up ?_
  subst hK
  obtain ⟨fd, c, hm, hb, G⟩ := F.ex
  refine ⟨fun pins s σ H Q I h => ?_⟩
  refine PySem.W.methodCall_KW (pl := plO X o) (thn (he.run pins s σ H _ I h) fun u s1 ⟨x, H1, I1, rx, a, dx, fs, ex, ea, l, q⟩ => ?_) ht
  subst ex
  obtain rfl : u = Value.ref a := rx
  refine getmeth_ok I1 ea c hm l ?_
  exact PySem.W.callWith_K0 (first := [.ref a]) I1.kIn hm.kp (run_fnS (us := [.ref a]) (vs := [.ref a]) G hr hb (hx σ) I1 (.cons rfl .nil) q)
  )) only [↓Hsh.on])
end
theorem Keep.drop {A B : List Addr} {H H' : Hp} (k : Keep A H H') (h : ∀ a ∈ A, a ∉ B → ∃ o, H a = some o ∧ H' a = some o) : Keep B H H' := Hsh.un (by simp (disch := k_dflt (
  refine Hsh.up ?_
  refine ⟨fun b o hb z => ?_, k.d⟩
  by_cases q : b ∈ A
  · by_cases q2 : b ∈ B
    · exact k.k b o hb (.inr (z.resolve_left (fun y => y q2)))
    · obtain ⟨u, h1, h2⟩ := h b q q2
      rw [hb] at h1
      cases h1
      exact h2
  · exact k.k b o hb (.inl q)
  )) only [↓Hsh.on])
theorem SH.call3 {A : List Addr} {H0 H H' : Hp} {L : List Cell} {a b c : Addr} {o u x o' u' x' : HO} (S : SH A H0 H L) (i j k : Nat) (e : L[i]? = some (a, o)) (e2 : L[j]? = some (b, u)) (e3 : L[k]? = some (c, x)) (n1 : k ≠ i) (n2 : k ≠ j) (im : Imm o = false) (im2 : Imm u = false) (im3 : Imm x = false)
    (kp : Keep [a, b, c] H H') (h1 : H' a = some o') (h2 : H' b = some u') (h3 : H' c = some x') : SH A H0 H' (((L.set k (c, x')).set i (a, o')).set j (b, u')) := Hsh.un (by simp (disch := k_dflt (
  refine Hsh.up ?_
  have S1 := S.set k e3 im3 x'
  refine S1.call2 i j (by rw [List.getElem?_set_ne n1]; exact e) (by rw [List.getElem?_set_ne n2]; exact e2) im im2 ⟨fun y v hy z => ?_, fun y hy => ?_⟩ h1 h2
  · by_cases q : y = c
    · subst q
      rw [upd_same] at hy
      cases hy
      exact h3
    · rw [upd_ne q] at hy
      refine kp.k y v hy (z.imp (fun z w => ?_) id)
      rcases List.mem_cons.mp w with w | w
      · exact z (w ▸ List.mem_cons_self)
      · rcases List.mem_cons.mp w with w | w
        · exact z (w ▸ List.mem_cons_of_mem _ List.mem_cons_self)
        · exact q (List.mem_singleton.mp w)
  · by_cases q : y = c
    · subst q
      rw [h3] at hy
      cases hy
    · rw [upd_ne q]
      exact kp.d y hy
  )) only [↓Hsh.on])
/-- the statements of a block within a def's body -/
def blkS : Stmt → Nat → List Stmt
  | .Try b _ o _ _, k => if k = 0 then b else o
  | .If _ b o _, k => if k = 0 then b else o
  | .For _ _ b _ _, _ => b
  | .While _ b _ _, _ => b
  | _, _ => []
def subS (l : List Stmt) : List (Nat × Nat) → List Stmt
  | [] => l
  | q :: r => subS (match l[q.1]? with
    | some s => blkS s q.2
    | none => []) r
theorem keys_set {L : List Cell} {i : Nat} {a : Addr} {o o' : HO} (e : L[i]? = some (a, o)) : ∀ c ∈ L.set i (a, o'), c.1 ∈ L.map (·.1) := fun c hc => by
  rw [← map_set_key (o' := o') e]
  exact List.mem_map_of_mem hc
theorem key_live {A : List Addr} {H0 H : Hp} {L : List Cell} (S : SH A H0 H L) {a : Addr} (h : a ∈ L.map (·.1)) : H a ≠ none := Hsh.un (by simp (disch := k_dflt (
  refine Hsh.up ?_
  obtain ⟨c, hc, e⟩ := List.mem_map.mp h
  rw [← e, S.hs c hc]
  exact fun z => nomatch z
  )) only [↓Hsh.on])
/-- a call that changes two cells and leaves one new -/
theorem SH.call2n {A : List Addr} {H0 H H' : Hp} {L : List Cell} {a b p : Addr} {o u o' u' x : HO} (S : SH A H0 H L) (i j : Nat) (e : L[i]? = some (a, o)) (e2 : L[j]? = some (b, u)) (im : Imm o = false) (im2 : Imm u = false) (k : Keep [a, b] H H') (h : H' a = some o') (h2 : H' b = some u') (n : H p = none) (h3 : H' p = some x) :
    SH A H0 H' ((p, x) :: (L.set i (a, o')).set j (b, u')) := Hsh.un (by simp (disch := k_dflt (
  refine Hsh.up ?_
  refine SH.add S (S.call2 i j e e2 im im2 k h h2) (fun c hc => key_live S ?_) n h3
  have hm : c.1 ∈ ((L.set i (a, o')).set j (b, u')).map (·.1) := List.mem_map_of_mem hc
  by_cases q : i = j
  · subst q
    rw [e] at e2
    cases e2
    rw [List.set_set] at hm
    rwa [map_set_key e] at hm
  · rw [map_set_key (o := u) (by rw [List.getElem?_set_ne q]; exact e2), map_set_key e] at hm
    exact hm
  )) only [↓Hsh.on])
theorem SH.call3n {A : List Addr} {H0 H H' : Hp} {L : List Cell} {a b c p q : Addr} {o u x o' u' x' y z : HO} (S : SH A H0 H L) (i j k : Nat) (e : L[i]? = some (a, o)) (e2 : L[j]? = some (b, u)) (e3 : L[k]? = some (c, x)) (n0 : i ≠ j) (n1 : k ≠ i) (n2 : k ≠ j) (im : Imm o = false) (im2 : Imm u = false) (im3 : Imm x = false)
    (kp : Keep [a, b, c] H H') (h1 : H' a = some o') (h2 : H' b = some u') (h3 : H' c = some x') (np : H p = none) (hp : H' p = some y) (nq : H q = none) (hq : H' q = some z) (pq : p ≠ q) : SH A H0 H' ((p, y) :: (q, z) :: ((L.set k (c, x')).set i (a, o')).set j (b, u')) := Hsh.un (by simp (disch := k_dflt (
  refine Hsh.up ?_
  have S3 := S.call3 i j k e e2 e3 n1 n2 im im2 im3 kp h1 h2 h3
  have hk : ∀ d ∈ ((L.set k (c, x')).set i (a, o')).set j (b, u'), H d.1 ≠ none := fun d hd => key_live S (by
    have hm : d.1 ∈ (((L.set k (c, x')).set i (a, o')).set j (b, u')).map (·.1) := List.mem_map_of_mem hd
    rw [map_set_key (o := u) (by rw [List.getElem?_set_ne n0, List.getElem?_set_ne n2]; exact e2), map_set_key (o := o) (by rw [List.getElem?_set_ne n1]; exact e), map_set_key e3] at hm
    exact hm)
  have S4 := SH.add S S3 hk nq hq
  have S5 := SH.add S S3 hk np hp
  refine ⟨fun d hd => ?_, ?_, S4.kp, fun d hd => ?_⟩
  · rcases List.mem_cons.mp hd with rfl | hd
    · exact hp
    · exact S4.hs d hd
  · rw [List.map_cons, List.nodup_cons]
    refine ⟨fun w => ?_, S4.nd⟩
    rw [List.map_cons] at w
    rcases List.mem_cons.mp w with w | w
    · exact pq w
    · have := S5.nd
      rw [List.map_cons, List.nodup_cons] at this
      exact this.1 w
  · rcases List.mem_cons.mp hd with rfl | hd
    · exact S5.ow _ List.mem_cons_self
    · exact S4.ow d hd
  )) only [↓Hsh.on])
/-- a cell that the block at the start did not hold is new -/
theorem SH.fresh {H H' : Hp} {B L : List Cell} (S : SH (B.map (·.1)) H H' L) {p : Addr} {o : HO} (e : (p, o) ∈ L) (n : ∀ a ∈ B.map (·.1), a ≠ p) : H p = none := (S.ow (p, o) e).resolve_left fun z => n p z rfl
end Q
set_option Elab.async false
set_option linter.all false
set_option maxRecDepth 100000
set_option maxHeartbeats 4000000
/-! Sets of ints: {a, b}, set of a list, sorted of a set. -/
namespace Q
open PySem PySem.Spec PyProof.Rows L2
/-- the object of a set without elements -/
abbrev noneIn (w : World) : Obj := ⟨.type "set", none, .set #[] 0 (.fresh 0 0 (!w.params.followText "set-order")), #[]⟩
section
variable {P : Program} {w : World} {A : Around} {E : Value → Shared → Prop} {s : Shared}
theorem new_set {Q : Value → Shared → Prop} (h : Q (.ref s.heap.objs.size) { s with heap := s.heap.push (noneIn w) }) : wpAny (model P w) A (newSet (.type "set")) Q E s := by
  unfold newSet setsByText
  refine wpAny_bind (wpAny_bind (wpAny_askSetting (wpAny_pure ?_)))
  dsimp only
  simp only [newObj]
  exact wpAny_bind (wpAny_alloc (wpAny_pure h))
/-- one element put in -/
theorem put_int {a : Addr} {S : Int → Bool} {n : Nat} {k : Int} {t : Tok} {Q : Bool → Shared → Prop} (R : SetR w s.heap a S n) (room : n + 1 < scanBound)
    (q : ∀ h' b, Heap.SameBut a s.heap h' → SetR w h' a (fun j => S j || decide (j = k)) (if S k = true then n else n + 1) → Q b { s with heap := h', toks := s.toks + 1 }) : wpAny (model P w) A (setAdd a (.int k t)) Q E s := by
  unfold setAdd
  refine wpAny_holding (wpAny_bind ((intKind P w).pyHash (intKind_is P w k t) ?_))
  exact setR_add_hashed (s := { s with toks := s.toks + 1 }) R room fun h' sb R' => q h' _ sb R'
/-- the display of plain elements: the set is made first -/
theorem disp_set {road : DisplayRoad} {b : Bool} {elts : List (Bool × Sem Value)} {ts : List (Sem Value)} {Q : Value → Shared → Prop} (hc : (road == .constants) = false) (hu : (road == .unsure) = false) (hs : elts.findIdx? (·.1) = none) (hl : elts.length ≤ 30) (hm : elts.map (·.2) = ts)
    (h : wpAny (model P w) A (evalAll ts) (fun vs s' => PySem.W.KdsFill (model P w) A E false s.heap.objs.size Q vs s') E { s with heap := s.heap.push (noneIn w) }) : wpAny (model P w) A (setDisplay road b elts) Q E s := by
  have hn : (if elts.length > 30 then 0 else (elts.findIdx? (·.1)).getD elts.length) = elts.length := by rw [if_neg (by omega), hs] <;> rfl
  unfold setDisplay
  try dsimp only
  rw [if_neg (by rw [hc]; exact Bool.false_ne_true)]
  refine wpAny_bind (new_set ?_)
  dsimp only
  rw [hn, List.take_length, List.drop_length, hm]
  refine wpAny_bind (wpAny_holding (wpAny_bind (wpAny_mono h (fun vs s1 h1 => ?_) fun _ _ x => x)))
  refine wpAny_bind (wpAny_holding (wpAny_bind (wpAny_mono (PySem.W.kds_for (fun x F s2 hx => ?_) vs s1 h1) (fun _ s2 h2 => ?_) fun _ _ x => x)))
  · refine wpAny_bind (wpAny_mono hx (fun _ s3 h3 => ?_) fun _ _ x => x)
    first | exact wpAny_pure ⟨rfl, h3⟩ | exact wpAny_bind (wpAny_pure (wpAny_pure ⟨rfl, h3⟩))
  · have h3 : Q (.ref s.heap.objs.size) s2 := by simpa [PySem.W.KdsFill] using h2
    rw [if_neg (by rw [hu]; exact Bool.false_ne_true)]
    refine wpAny_pure ?_
    rw [List.forIn_nil]
    exact wpAny_pure (wpAny_pure h3)
end
/-- {a, b} of two ints -/
def tSet2 (w : World) (ta tb : TE) : TE := fun σ H Q => ∀ p, H p = none → ta σ (upd H p (SetO w p (fun _ => false) 0)) fun x H1 => tb σ H1 fun y H2 => ∃ i j : Int, x = .int i ∧ y = .int j ∧ H2 p = some (SetO w p (fun _ => false) 0) ∧
  ∀ S n, (∀ k, S k = true ↔ k = i ∨ k = j) → n ≤ 2 → Q (.ref p) (upd H2 p (SetO w p S n))
theorem pe_set2 {X : Cx} {e1 e2 : Expr} {ta tb : TE} {pos : Pos} (h1 : PE X e1 ta) (h2 : PE X e2 tb) (hcd : PySem.W.kdsCode X.K X.env.code = true) (hp : [e1, e2].all PySem.W.kdsPlain = true := by rfl) : PE X (.Set [e1, e2] 0 pos) (tSet2 X.w ta tb) := by
  refine ⟨fun pins s σ H Q I h => ?_⟩
  rw [arm_eval_Set]
  refine wpAny_bind (wpAny_standAt (wpAny_bind (PySem.W.kds_main I.kIn hcd fun b => ?_)))
  rw [PySem.W.kds_star [e1, e2] hp, List.map_map]
  refine disp_set (ts := (evalEach [e1, e2] X.env).map fun t => do let v ← t; standAt pos; pure v) rfl rfl ?_ ?_ ?_ ?_
  · exact List.findIdx?_eq_none_iff.mpr fun x hx => by
      obtain ⟨t, _, rfl⟩ := List.mem_map.mp hx
      rfl
  · rw [List.length_map, PySem.W.kds_len]
    exact Nat.le_of_ble_eq_true rfl
  · rw [List.map_map]
    rfl
  have new : SetR X.w (s.heap.push (noneIn X.w)) s.heap.objs.size (fun _ => false) 0 := setR_fresh X.w
  have hfr : H s.heap.objs.size = none := I.hok.fresh (Nat.le_refl _)
  have I1 : Inv X pins σ (upd H s.heap.objs.size (SetO X.w s.heap.objs.size (fun _ => false) 0)) { s with heap := s.heap.push (noneIn X.w), toks := s.toks } := I.laid (t' := s.toks) (fun b u e => Heap.get?_push_of_some _ e) (Nat.le_refl _) (setO_new new)
  refine PySem.W.kds_all pos [e1, e2] _ _ ?_
  refine thn (h1.run pins _ σ _ _ I1 (h _ hfr)) fun v1 s1 ⟨x, H1, I2, r1, q1⟩ => ?_
  refine thn (h2.run pins s1 σ H1 _ I2 q1) fun v2 s2 ⟨y, H2, I3, r2, i, j, ex, ey, hset, q2⟩ => ?_
  subst ex
  subst ey
  obtain ⟨t1, rfl⟩ := r1
  obtain ⟨t2, rfl⟩ := r2
  refine PySem.W.kds_fill_cons (put_int (setO_get I3 hset) (by decide) fun h' _ sb R' => ?_)
  have there : ∀ {h : Heap} {S : Int → Bool} {n : Nat}, SetR X.w h s.heap.objs.size S n → ∃ u, h.get? s.heap.objs.size = some u := fun {h S n} ⟨o, _, _, _, ho, _⟩ => ⟨o, ho⟩
  have I4 : Inv X pins σ _ { s2 with heap := h', toks := s2.toks + 1 } := I3.write (e := s.heap.objs.size) (t' := s2.toks + 1) (by rw [hset]; trivial) (.inl rfl) (fun b u hb hu => (sb.2 b hb).trans hu) (there R') (setO_new R')
  refine PySem.W.kds_fill_cons (put_int (s := { s2 with heap := h', toks := s2.toks + 1 }) (setO_get I4 upd_same) (by decide) fun h2' _ sb2 R2 => ?_)
  have I5 := I4.write (e := s.heap.objs.size) (t' := s2.toks + 1 + 1) (by rw [upd_same]; trivial) (.inl rfl) (fun b u hb hu => (sb2.2 b hb).trans hu) (there R2) (setO_new R2)
  refine PySem.W.kds_fill_nil rfl ⟨.ref s.heap.objs.size, _, I5, rfl, ?_⟩
  rw [upd_upd]
  refine q2 _ _ (fun k => ?_) ?_
  · simp
  · split <;> simp
section
variable {P : Program} {w : World} {A : Around} {E : Value → Shared → Prop} {s : Shared}
/-- set(l) of a list of ints, at the value level -/
theorem set_of_list {l : Addr} {its : Array Value} (ns : List Int) {Q : Value → Shared → Prop} (hh : A.handled = none) (hl : s.heap.IsList l its) (hit : IntsAre its.toList ns) (hb : ns.length + 1 < scanBound)
    (h : ∀ (h' : Heap) (tk c : Nat), SetR w h' s.heap.objs.size (fun j => decide (j ∈ ns)) c → c ≤ ns.length → (∀ b o, s.heap.get? b = some o → h'.get? b = some o) → Q (.ref s.heap.objs.size) { s with heap := h', toks := tk }) :
    wpAny (model P w) A (call (.type "set") [.ref l]) Q E s := by
  have hn : its.size = ns.length := Array.length_toList.symm.trans (IntsAre.length hit)
  obtain ⟨cc, tl, hmro⟩ := F.called_set.mro
  have made := F.called_set.made
  have sub := F.called_set.sub
  refine wpAny_call (codeAny_of_tree (wpAny_pure (show _ ∧ _ from ⟨Code.quiet_builtin _ (by decide +kernel), codeAny_builtin F.entry_type_call ?_⟩)))
  rw [Around.under_plain (weight_type_call_type "set" [.ref l] []) rfl]
  have a1 := F.called_set.notType
  have a2 := F.called_set.canCreate
  have a3 := F.typeCall_set_1 (.ref l)
  repeat (any_goals (first | assumption | wp_step))
  have fresh := Heap.get?_push_size s.heap (o := noneIn w) rfl
  refine codeAny_mono (code_set_led1 (.ref l) (E := E) (Q₁ := fun obj s₁ => obj = .ref s.heap.objs.size ∧ s₁ = { s with heap := s.heap.push (noneIn w) }) ⟨rfl, rfl⟩) fun r s₁ hr => ?_
  cases r with
  | error e => exact hr
  | ok fl =>
    cases fl with
    | ret obj =>
      obtain ⟨rfl, rfl⟩ := hr
      have hT : Shared.TypeIs { s with heap := s.heap.push (noneIn w) } (.ref s.heap.objs.size) "set" := ⟨_, fresh, rfl⟩
      have b1 := F.called_set.init.lookup
      have b2 := F.called_set.init.bind (.ref s.heap.objs.size)
      repeat (any_goals (first | assumption | wp_step))
      refine codeAny_mono (codeAny_call_builtin (R := wants (fun r s₂ => r = .none ∧ ∃ h' tk c, s₂ = { s with heap := h', toks := tk } ∧ SetR w h' s.heap.objs.size (fun j => decide (j ∈ ns)) c ∧ c ≤ ns.length ∧ ∀ b o, s.heap.get? b = some o → h'.get? b = some o) E) F.called_set.init.plain F.entry_set_init (check_set_init_1 hT ?_)) fun r₂ s₂ hr₂ => ?_
      · have lL : (s.heap.push (noneIn w)).IsList l its := hl.push _
        obtain ⟨⟨ocls, odict, odata, oslots⟩, hol, hcl, nl, hdl⟩ := hl
        simp only at hcl hdl
        subst hcl
        subst hdl
        have c0 : (s.heap.push (noneIn w)).get? l = some ⟨.type "list", odict, .seq its nl, oslots⟩ := Heap.get?_push_of_some _ hol
        have c1 := F.sub_list_set
        have c2 := F.sub_list_frozenset
        have c3 : (Value.type "list" == Value.type "dict") = false := by decide
        unfold Builtin.«set.__init__» noKeywords Builtin.Frozenset.updateFrom
        generalize hPI : pyIter = PI
        wp_walk
        subst hPI
        refine wpAny_pyIter_list lL (wpAny_bind (wpAny_runValue ?_))
        have below : l < s.heap.objs.size := Heap.lt_size hol
        have hz : (s.heap.push (noneIn w)).objs.size = s.heap.objs.size + 1 := Heap.size_push ..
        have cold : A.in1.in1.in1.handled = none := by simp [hh]
        refine set_update_ints ((Walks.list cold _ l (Nat.ne_of_lt (by rw [hz]; exact Nat.lt_succ_of_lt below)) its).toS) s.heap.objs.size (fun z => by
          rw [hz] at z
          rcases List.mem_cons.mp z with z | z
          · exact absurd z (Nat.ne_of_lt (Nat.lt_succ_self _))
          · exact absurd (List.mem_singleton.mp z) (Nat.ne_of_gt below)) ns hn hb (fun i v hv => ?_) its.size 0 _ (by omega) (Nat.zero_le _) ⟨⟨_, Heap.get?_push_size _ rfl, rfl, rfl⟩, lL.push _⟩ ⟨0, Nat.le_refl 0, setR_new_at (Heap.get?_push_of_some _ fresh)⟩ ?_
        · have hi : i < ns.length := by rw [← hn]; exact (Array.getElem?_eq_some_iff.mp hv).1
          obtain ⟨t, e⟩ := PyProof.Rows.IntsAre.int_at hit i v (by rw [Array.getElem?_toList]; exact hv)
          exact ⟨ns[i], t, List.getElem?_eq_getElem hi, by rw [e, List.getD_eq_getElem?_getD, List.getElem?_eq_getElem hi] <;> rfl⟩
        · intro s' c hm hc hS
          obtain ⟨h', g2, d', tk', os'⟩ := s'
          obtain rfl : g2 = s.gens := hm.gens
          obtain rfl : d' = s.drawn := hm.drawn
          obtain rfl : os' = s.os := hm.os
          refine wpAny_pure (show wpAny _ _ (ret Value.none) _ _ _ from wpAny_pure ⟨rfl, h', tk', c, rfl, hS, hn ▸ hc, fun b o e => ?_⟩)
          have hb0 : b < s.heap.objs.size := Heap.lt_size e
          exact hm.heap b o (fun z => by
            rw [hz] at z
            rcases List.mem_cons.mp z with z | z
            · exact absurd z (Nat.ne_of_lt hb0)
            · exact absurd (List.mem_singleton.mp z) (Nat.ne_of_lt (Nat.lt_succ_of_lt hb0))) (Heap.get?_push_of_some _ (Heap.get?_push_of_some _ e))
      · cases r₂ with
        | error e => exact hr₂
        | ok fl₂ =>
          cases fl₂ with
          | ret r =>
            obtain ⟨rfl, h', tk, c, rfl, hS, hc, hk⟩ := hr₂
            repeat (any_goals (first | assumption | wp_step))
            exact h _ _ _ hS hc hk
          | _ => exact hr₂.elim
    | _ => exact hr.elim
end
def rSetI (K : PySem.W.Frag) (w : World) : List V → Hp → VK → Prop := fun vs H Q => ∃ (l : Addr) (ns : List Int), vs = [.ref l] ∧ SqL K H l (ns.map V.int) ∧ ns.length ≤ 60 ∧ ∀ (p : Addr) (S : Int → Bool) (n : Nat), H p = none → (∀ k, S k = true ↔ k ∈ ns) → n ≤ 60 → Q (.ref p) (upd H p (SetO w p S n))
theorem x_setI {X : Cx} (hc : X.calm = true) : CallR X (.type "set") (rSetI X.K X.w) := Hsh.un (by simp (disch := k_dflt (
  refine Hsh.up ?_
  intro pins s σ H vs us Q I r h
  obtain ⟨l, ns, rfl, hq, hl, q⟩ := h
  rw [Vals.ref1 r]
  obtain ⟨its, ri, pl, hz⟩ := I.list hq
  refine set_of_list ns (I.ok.hd hc) pl.isList (by simpa using ri.ints) (by unfold scanBound; omega) fun h' tk c hS hcl hk => ?_
  exact ⟨.ref _, upd H s.heap.objs.size (SetO X.w s.heap.objs.size (fun j => decide (j ∈ ns)) c), I.laid (t' := tk) hk (Nat.le_refl _) (setO_new hS), rfl, q _ _ c (I.hok.fresh (Nat.le_refl _)) (fun k => by simp) (by omega)⟩
  )) only [↓Hsh.on])
/-! ### readings of sets -/
section
variable {A : List Addr} {H0 H : Hp} {L L' : List Cell} {Q : VK} {v : V} {σ : L2.St} {K : PySem.W.Frag} {w : World} {te ta tb : TE}
def set2E (w : World) (p : Addr) (x y : V) (H : Hp) (Q : VK) : Prop := ∃ i j : Int, x = .int i ∧ y = .int j ∧ H p = some (SetO w p (fun _ => false) 0) ∧ ∀ S n, (∀ k, S k = true ↔ k = i ∨ k = j) → n ≤ 2 → Q (.ref p) (upd H p (SetO w p S n))
theorem h_set2 (S : SH A H0 H L) (h : ∀ p H', SH A H0 H' ((p, SetO w p (fun _ => false) 0) :: L) → ta σ H' fun x H1 => tb σ H1 fun y H2 => set2E w p x y H2 Q) : tSet2 w ta tb σ H Q := fun p hp => h p _ (S.new _ hp)
theorem h_set2E {p : Addr} {i : Nat} {a b : Int} (hS : SH A H0 H L) (e : L[i]? = some (p, SetO w p (fun _ => false) 0)) (h : ∀ S n H', (∀ k, S k = true ↔ k = a ∨ k = b) → n ≤ 2 → SH A H0 H' (L.set i (p, SetO w p S n)) → Q (.ref p) H') : set2E w p (.int a) (.int b) H Q :=
  ⟨a, b, rfl, rfl, hS.get i e, fun S n hk hn => h S n _ hk hn (hS.set i e rfl _)⟩
theorem h_setI2 {l : Addr} {a b : Int} (hS : SH A H0 H L) (h1 : SqL K H l [.int a, .int b]) (h : ∀ p S n H', (∀ k, S k = true ↔ k = a ∨ k = b) → n ≤ 60 → SH A H0 H' ((p, SetO w p S n) :: L) → Q (.ref p) H') : rSetI K w [.ref l] H Q :=
  ⟨l, [a, b], rfl, h1, Nat.le_of_ble_eq_true rfl, fun p S n hp hk hn => h p S n _ (fun k => by rw [hk]; simp) hn (hS.new _ hp)⟩
/-- two ints in their order, once each -/
def srt2 (a b : Int) : List Int := if a = b then [a] else if a < b then [a, b] else [b, a]
theorem asc_eq : ∀ {xs ys : List Int}, xs.Pairwise (· < ·) → ys.Pairwise (· < ·) → (∀ k, k ∈ xs ↔ k ∈ ys) → xs = ys
  | [], [], _, _, _ => rfl
  | [], y :: ys, _, _, h => nomatch (h y).mpr List.mem_cons_self
  | x :: xs, [], _, _, h => nomatch (h x).mp List.mem_cons_self
  | x :: xs, y :: ys, hx, hy, h => by
    rw [List.pairwise_cons] at hx hy
    have e : x = y := by
      rcases List.mem_cons.mp ((h x).mp List.mem_cons_self) with q | q
      · exact q
      · rcases List.mem_cons.mp ((h y).mpr List.mem_cons_self) with q2 | q2
        · exact q2.symm
        · have := hx.1 y q2
          have := hy.1 x q
          omega
    subst e
    rw [asc_eq hx.2 hy.2 fun k => ⟨fun hk => ?_, fun hk => ?_⟩]
    · rcases List.mem_cons.mp ((h k).mp (List.mem_cons_of_mem _ hk)) with q | q
      · have := hx.1 k hk
        omega
      · exact q
    · rcases List.mem_cons.mp ((h k).mpr (List.mem_cons_of_mem _ hk)) with q | q
      · have := hy.1 k hk
        omega
      · exact q
theorem srt2_asc (a b : Int) : (srt2 a b).Pairwise (· < ·) := Hsh.un (by simp (disch := k_dflt (
  refine Hsh.up ?_
  unfold srt2
  split
  · simp
  · split
    · simp; omega
    · simp; omega
  )) only [↓Hsh.on])
theorem srt2_mem (a b k : Int) : k ∈ srt2 a b ↔ k = a ∨ k = b := Hsh.un (by simp (disch := k_dflt (
  refine Hsh.up ?_
  unfold srt2
  split
  · simp; omega
  · split <;> simp <;> omega
  )) only [↓Hsh.on])
theorem srt2_le (a b : Int) : (srt2 a b).length ≤ 2 := Hsh.un (by simp (disch := k_dflt (
  refine Hsh.up ?_
  unfold srt2
  split
  · exact Nat.le_of_ble_eq_true rfl
  · split <;> exact Nat.le_of_ble_eq_true rfl
  )) only [↓Hsh.on])
theorem s_sortedSet {p : Addr} {S : Int → Bool} {n : Nat} {a b : Int} (h1 : H p = some (SetO w p S n)) (hk : ∀ k, S k = true ↔ k = a ∨ k = b) (hn : n < 64) (h : newO (.lst ((srt2 a b).map V.int)) 0 H Q) : rSortedSet w [.ref p] H Q := Hsh.un (by simp (disch := k_dflt (
  refine Hsh.up ?_
  refine ⟨p, S, n, rfl, h1, hn, fun ns q asc mem _ hq => ?_⟩
  rw [asc_eq asc (srt2_asc a b) fun k => by rw [mem, hk, srt2_mem]]
  exact h.2 q hq
  )) only [↓Hsh.on])
/-! ### tuples walked -/
def lcTG (K : PySem.W.Frag) (vs : List Nat) (g : TG) (tt : TT) (v : V) (te : TE) (σ : L2.St) (H : Hp) (Q : VK) : Prop := ∃ a, v = .ref a ∧ (∃ xs, SqT K H a xs) ∧ tLc (fun _ H k => k (Itt K a) H) g tt te vs σ H Q
theorem s_lcTG {g : TG} {tt : TT} {vs : List Nat} (h : tb σ H fun v H1 => lcTG K vs g tt v te σ H1 Q) : tLc (iTup K tb) g tt te vs σ H Q := h
theorem u_lcTG {g : TG} {tt : TT} {vs : List Nat} {a : Addr} {xs : List V} (hS : SH A H0 H L) (Pv : Addr → Nat → Hp → Prop) (h : SqT K H a xs) (h0 : ∀ D H', SH A H0 H' ((D, .lst []) :: L) → Pv D 0 H') (hl : ∀ D k H, k ≤ xs.length → Pv D k H → SqT K H a xs)
    (hs : ∀ D (k : Nat) x H, xs[k]? = some x → Pv D k H → g x (wipe σ vs) H fun σ2 H2 => wipe σ2 vs = wipe σ vs ∧ tt σ2 H2 fun b H3 => if b = true then te σ2 H3 (lcEnd D (Pv D (k + 1))) else Pv D (k + 1) H3) (hd : ∀ D H, Pv D xs.length H → Q (.ref D) H) : lcTG K vs g tt (.ref a) te σ H Q :=
  ⟨a, rfl, ⟨xs, h⟩, fun D hD => lc_tup (Pv D) (h0 D _ (hS.new _ hD)) (hl D) (fun k x H hk p => hs D k x H hk p) (fun H p => hd D H p)⟩
variable {g : TG} {ts : TS} {n b c : L2.St → Hp → Prop} {r : VK}
theorem u_forT {a : Addr} {xs : List V} (Pv : Nat → L2.St → Hp → Prop) (h : SqT K H a xs) (h0 : Pv 0 σ H) (hl : ∀ i σ H, i ≤ xs.length → Pv i σ H → SqT K H a xs)
    (hs : ∀ (i : Nat) (x : V) σ H, xs[i]? = some x → Pv i σ H → g x σ H fun σ2 H2 => ts ⟨Pv (i + 1), r, n, Pv (i + 1)⟩ σ2 H2) (hd : ∀ σ H, Pv xs.length σ H → n σ H) : forT K (.ref a) g ts ⟨n, r, b, c⟩ σ H :=
  ⟨a, rfl, ⟨xs, h⟩, for_tup Pv h0 hl (fun i x σ H e p => hs i x σ H e p) hd⟩
theorem s_unl {m : Nat} {a : Addr} {xs : List V} {gs : TGs} {S : L2.St → Hp → Prop} (h : SqL K H a xs) (l : xs.length = m) (q : gs xs σ H S) : gLst K m gs (.ref a) σ H S := ⟨a, xs, rfl, h, l, q⟩
theorem s_repT1 {l : Addr} {k : Int} {x : V} {n : Nat} (h1 : SqT K H l [x]) (c : 2 ≤ k ∧ k ≤ 1000) (e : k.toNat = n) (h : newO (.tup (List.replicate n x)) 0 H Q) : rMulX K (.ref l) (.int k) H Q := Hsh.un (by simp (disch := k_dflt (
  refine Hsh.up ?_
  refine .inr (.inr (.inr ⟨l, k, [x], rfl, rfl, h1, List.cons_ne_nil _ _, c.1, c.2, Nat.le_of_ble_eq_true rfl, fun p hp => ?_⟩))
  have q : (List.replicate k.toNat [x]).flatten = List.replicate n x := by rw [e]; simp
  rw [q]
  exact h.2 p hp
  )) only [↓Hsh.on])
/-! ### is this text a key of a module's table? -/
def KIn (K : PySem.W.Frag) (w : World) (d : Addr) (z : Str) (b : Bool) : Prop := (∃ es n, KDict K w d es n) ∧ ∃ r, PySem.W.nsIn K d z = some r ∧ r.isSome = b
def rInKD (K : PySem.W.Frag) (w : World) : R2 := fun x y H Q => ∃ z d b, x = .str z ∧ y = .ref d ∧ KIn K w d z b ∧ Q (.bl b) H
theorem x_inKD {X : Cx} : OpR X (compareOp .In) (rInKD X.K X.w) := Hsh.un (by simp (disch := k_dflt (
  refine Hsh.up ?_
  intro pins s σ H x y v u Q I rx ry h
  obtain ⟨z, d, b, rfl, rfl, ⟨⟨es, n, D⟩, r, e, rfl⟩, q⟩ := h
  exact op_in_kd D pins s σ H _ _ _ _ Q I rx ry ⟨z, r, rfl, rfl, e, q⟩
  )) only [↓Hsh.on])
theorem s_inKD {d : Addr} {z : Str} {b : Bool} (h : KIn K w d z b) (q : Q (.bl b) H) : rInKD K w (.str z) (.ref d) H Q := ⟨z, d, b, rfl, rfl, h, q⟩
def dinB (K : PySem.W.Frag) (a : Addr) (qs : List (Str × Bool)) : Bool := qs.all fun q => match PySem.W.nsIn K a q.1 with
  | some r => r.isSome == q.2
  | none => false
theorem din_ok {a : Addr} {qs : List (Str × Bool)} (h : ∃ es n, KDict K w a es n) (c : dinB K a qs = true) : ∀ q ∈ qs, KIn K w a q.1 q.2 := fun q hq => by
  have z := List.all_eq_true.mp c q hq
  cases e : PySem.W.nsIn K a q.1 with
  | none => rw [e] at z; cases z
  | some r => rw [e] at z; exact ⟨h, r, e, eq_of_beq z⟩
end
/-- a def's rule that tells of its code -/
theorem FunD_okC {P : Program} {w : World} {K : PySem.W.Frag} {mg : Str → Option Value} {base : Heap} {x qual : Str} {params : Arguments} {body : List Stmt} {scope : Scope} {dvs : List V} {kws : List (Str × V)} {f : Addr} {fd : FuncData} {CX : CXT} {N ps : List Str} {k : Nat} {sp : Sp}
    (F : FunD K x qual params body scope dvs kws f fd) (S : FnScope N ps scope) (len : ∀ vs H Q E, sp vs H Q E → vs.length = ps.length)
    (hb : ∀ (cdv : Value) (A : Around) (outer : List Env) (s : Shared) (H : Hp) (vs : List V) (Q : VK) (E : XK), PySem.W.codeIn K cdv qual = true → Room k (A.deeper (envOfC qual scope s.heap.objs.size f cdv)) → sp vs H Q E →
      ∃ t, PSs (cxOf CX P w K mg base N qual scope f cdv A outer s H E) body t ∧ t ⟨fun _ H' => Q .non H', Q, fun _ _ => False, fun _ _ => False⟩ (start N vs) H) : FnOk P w K mg base CX (k + 1) f fd ps sp := by
  obtain ⟨oc, od, dV, kV, doc, pm, an, cdv, ct, osl, rfl, lk, hcd, _, _⟩ := F.ex
  exact fn_of lk hcd S len fun A outer s H vs Q E hr hsp => hb cdv A outer s H vs Q E hcd hr hsp
end Q
set_option Elab.async false
set_option linter.all false
set_option maxRecDepth 100000
set_option maxHeartbeats 4000000
/-! Errors whose context is None, defs called within an except suite. -/
namespace Q
open PySem PySem.Spec PyProof.Rows L2
inductive HdsN (X : Cx) : List ExceptHandler → List Cl → Prop
  | nil : HdsN X [] []
  | one {t : Expr} {f : Value → Option Bool} {ts : Addr → Value → Option Addr → TS} {b₀ : Stmt} {suite : List Stmt} {p : Pos} {hds : List ExceptHandler} {l : List Cl} (ht : Tst X t f)
      (hsu : ∀ (a : Addr) (oe : Obj) (cls : Value) (d : Option Addr) (pn : List (Addr × Obj)), L2N.Zn cls d oe → (∃ vs, oe.data = .fields vs) → L2H.HotC (X.suite a ((a, oe) :: pn)) → PSs (X.suite a ((a, oe) :: pn)) (b₀ :: suite) (ts a cls d)) (r : HdsN X hds l) :
      HdsN X (.ExceptHandler (some t) none (b₀ :: suite) p :: hds) ((f, none, ts) :: l)
  | als {t : Expr} {n : Str} {i : Nat} {f : Value → Option Bool} {ts : Addr → Value → Option Addr → TS} {b₀ : Stmt} {suite : List Stmt} {p : Pos} {hds : List ExceptHandler} {l : List Cl} (hi : X.N[i]? = some n) (hln : X.env.kindOf n = some .local) (ht : Tst X t f)
      (hsu : ∀ (a : Addr) (oe : Obj) (cls : Value) (d : Option Addr) (pn : List (Addr × Obj)), L2N.Zn cls d oe → (∃ vs, oe.data = .fields vs) → L2H.HotC (X.suite a ((a, oe) :: pn)) → PSs (X.suite a ((a, oe) :: pn)) (b₀ :: suite) (ts a cls d)) (r : HdsN X hds l) :
      HdsN X (.ExceptHandler (some t) (some n) (b₀ :: suite) p :: hds) ((f, some i, ts) :: l)
section
variable {X : Cx} {body orelse : List Stmt} {h₀ : ExceptHandler} {hds : List ExceptHandler} {l : List Cl} {pos : Pos} {tb : WX → TS} {u : TS} {Wout : WX}
theorem ps_tryN (hs : X.stack = X.env :: X.outer) (hf : X.env.frame = some X.env.locals) (hN : X.N.Nodup) (tk : L2N.Takes X Wout)
    (hb : ∀ (W : WX) (pn : List (Addr × Obj)) (xe : Value → Shared → Prop), L2N.Takes (X.tr pn xe) W → PassesOwn (model X.prog X.w) X.A X.env xe → PSs (X.tr pn xe) body (tb W))
    (hh : HdsN X (h₀ :: hds) l) (ho : PSs X orelse u) : PS X (.Try body (h₀ :: hds) orelse [] pos) (tTryG tb Wout l u) := Hsh.un (by simp (disch := k_dflt (
  refine Hsh.up ?_
  refine ⟨fun pins s σ H D I h => ?_⟩
  have ok := I.ok
  have hfr : X.A.frames = some (X.env :: X.outer) := by rw [ok.frames, hs]
  refine wpAny_Try_except ?_
  have body_ok := (hb (wG Wout D l) (X.pn ++ pins) (fun e s₁ => wpAny (model X.prog X.w) X.A (noteFrame e X.env) (fun _ s₂ => wpAny (model X.prog X.w) X.A (setFlight e none) (fun _ s₃ =>
    wpAny (model X.prog X.w) X.A (handleBy e X.env (h₀ :: hds)) (SP X pins D) X.xe s₃) X.xe s₂) X.xe s₁) (fun v s' xx => ?_) PassesOwn.looking).run [] s σ H { D with nx := u D } (I.toTry _) h
  · refine wpAny_mono body_ok (fun f s1 hsp => ?_) (fun e s1 he => he)
    cases f with
    | next =>
      obtain ⟨σ', H', J', q⟩ := hsp
      exact ho.run pins s1 σ' H' D (J'.ofTry ok) q
    | brk =>
      obtain ⟨σ', H', J', q⟩ := hsp
      exact ⟨σ', H', J'.ofTry ok, q⟩
    | cont =>
      obtain ⟨σ', H', J', q⟩ := hsp
      exact ⟨σ', H', J'.ofTry ok, q⟩
    | ret z =>
      obtain ⟨v, σ', H', J', r, q⟩ := hsp
      exact ⟨v, σ', H', J'.ofTry ok, r, q⟩
  · obtain ⟨a, B, sI, pins', σ', H', cls, d, rfl, J', nb, up, sky, na, os, ag, w⟩ := xx
    have J : Inv X pins σ' H' sI := J'.ofTry ok
    show wpAny (model X.prog X.w) X.A (noteFrame (.ref a) X.env) _ _ _
    refine L2N.Sky.land L2N.Zn.steady hfr hf (by rw [← hs]; exact sky) fun h3 fl3 up3 => ?_
    -- what the landed error tells at any heap
    have facts : ∀ h, HandSPX.FlyingZ B (X.env :: X.outer) a (L2N.Zn cls d) h → s'.heap.UpToSlots h → Inv X pins σ' H' { s' with heap := h } ∧ ∃ oe vs, h.get? a = some oe ∧ L2N.Zn cls d oe ∧ oe.data = .fields vs ∧ Inv (X.suite a ((a, oe) :: (X.pn ++ pins))) [] σ' H' { s' with heap := h } := fun h fl uph => by
      have Jh : Inv X pins σ' H' { s' with heap := h } := J.landed nb fl.1 (up.trans uph) os ag
      obtain ⟨oe, vs, he, hz, hd⟩ := fl.there
      have nfr : a ∉ frs (X.env :: X.outer) := fun hm => by
        obtain ⟨_, o', e', hnf⟩ := fl.2.2.1.mem hm
        rw [he] at e'
        cases e'
        exact hnf _ hd
      have nL : a ≠ X.env.locals := fun z => nfr (List.mem_filterMap.mpr ⟨X.env, List.mem_cons_self, by rw [hf, z]⟩)
      have nF : a ∉ X.fs := fun hm => by
        obtain ⟨e, he, q⟩ := List.mem_filterMap.mp hm
        exact nfr (List.mem_filterMap.mpr ⟨e, List.mem_cons_of_mem _ he, q⟩)
      exact ⟨Jh, oe, vs, he, hz, hd, Jh.suite he hd na nL nF⟩
    have looks : ∀ {h : Heap} {oe : Obj}, h.get? a = some oe → L2N.Zn cls d oe → PySem.W.Looks (model X.prog X.w) h (typeOf (.ref a)) cls := fun {h oe} he hz A Q E s k q => wpAny_typeOf_ref (k _ _ he) (by rw [hz.1]; exact q)
    have go : ∀ {hds' : List ExceptHandler} {l' : List Cl}, HdsN X hds' l' → wG Wout D l' cls d σ' H' → ∀ h, HandSPX.FlyingZ B (X.env :: X.outer) a (L2N.Zn cls d) h → s'.heap.UpToSlots h →
        wpAny (model X.prog X.w) X.A (handleBy (.ref a) X.env hds') (SP X pins D) X.xe { s' with heap := h } := by
      intro hds' l' hk
      induction hk with
      | nil =>
        intro w h fl uph
        refine wpAny_handleBy_nil ?_
        obtain ⟨_, _, _, oe, vs, T, oT, ts', he, hz, hd, h1, _⟩ := id fl
        unfold PySem.passOn
        refine wpAny_bind (wpAny_field he hd h1 ?_)
        rw [if_neg (show ¬ ((Value.ref T == Value.none) = true) from by simp)]
        have fin : wpAny (model X.prog X.w) X.A (setFlight (.ref a) X.env.frame) (fun _ s4 => wpAny (model X.prog X.w) X.A (throw (.ref a) : Sem Flow) (SP X pins D) X.xe s4) X.xe { s' with heap := h } := by
          rw [hf]
          refine HandSPX.setFlight_upZ fl fun h4 hh4 up4 => wpAny_throw (tk _ _ ?_)
          exact ⟨a, B, sI, pins, σ', H', cls, d, rfl, J, nb, (up.trans uph).trans up4, .inr (.inr (by rw [hs]; exact hh4)), na, os, ag, w⟩
        first
          | exact wpAny_bind (wpAny_pure (wpAny_bind fin))
          | exact wpAny_bind fin
      | @one t f ts b₀ suite p hds2 l2 ht hsu r ih =>
        intro w h fl uph
        obtain ⟨b, hb1, hyes, hno⟩ := w
        obtain ⟨_, oe, vs, he, hz, hd, S⟩ := facts h fl uph
        refine wpAny_handleBy_cons (codeAny_handlers_test (ht a _ σ' H' _ cls b _ _ S (looks he hz) hb1 fun h5 k5 => ?_)) (by intro q; cases q)
        have fl5 := flying_keeps fl k5
        have up5 := uph.trans (Heap.UpToSlots.of_keeps k5)
        cases b with
        | true =>
          refine codeAny_handlers_suite ?_
          refine HandSPX.lands_againZ fl5 fun h4 fl4 up4 => ?_
          obtain ⟨_, oe4, vs4, he4, hz4, hd4, S4⟩ := facts h4 fl4 (up5.trans up4)
          refine wpAny_mono ((hsu a oe4 cls d (X.pn ++ pins) hz4 ⟨_, hd4⟩ ⟨(a, oe4), ⟨rfl, vs4, hd4, hz4.2.2 vs4 hd4⟩, List.mem_cons_self⟩).run [] _ _ H' _ S4 (hyes rfl a na)) (fun f s6 hsp => ?_) (fun _ _ z => False.elim z)
          cases f with
          | next =>
            obtain ⟨σ6, H6, S6, q6⟩ := hsp
            exact ⟨_, _, S6.unsuite ok, q6⟩
          | brk =>
            obtain ⟨σ6, H6, S6, q6⟩ := hsp
            exact ⟨_, _, S6.unsuite ok, q6⟩
          | cont =>
            obtain ⟨σ6, H6, S6, q6⟩ := hsp
            exact ⟨_, _, S6.unsuite ok, q6⟩
          | ret z =>
            obtain ⟨v6, σ6, H6, S6, r6, q6⟩ := hsp
            exact ⟨_, _, _, S6.unsuite ok, r6, q6⟩
        | false => exact ih (hno rfl) h5 fl5 up5
      | @als t n i f ts b₀ suite p hds2 l2 hi hln ht hsu r ih =>
        intro w h fl uph
        obtain ⟨b, hb1, hyes, hno⟩ := w
        obtain ⟨_, oe, vs, he, hz, hd, S⟩ := facts h fl uph
        refine wpAny_handleBy_cons (codeAny_handlers_test (ht a _ σ' H' _ cls b _ _ S (looks he hz) hb1 fun h5 k5 => ?_)) (by intro q; cases q)
        have fl5 := flying_keeps fl k5
        have up5 := uph.trans (Heap.UpToSlots.of_keeps k5)
        cases b with
        | true =>
          refine codeAny_handlers_suite_as ?_
          refine HandSPX.lands_againZ fl5 fun h4 fl4 up4 => ?_
          obtain ⟨_, oe4, vs4, he4, hz4, hd4, S4⟩ := facts h4 fl4 (up5.trans up4)
          refine store_ok (X := X.suite a ((a, oe4) :: (X.pn ++ pins))) (v := .ref a) S4 hN hi (.inl hln) rfl (fun s5 S5 => ?_) (.inr hln)
          refine wpAny_mono ((hsu a oe4 cls d (X.pn ++ pins) hz4 ⟨_, hd4⟩ ⟨(a, oe4), ⟨rfl, vs4, hd4, hz4.2.2 vs4 hd4⟩, List.mem_cons_self⟩).run [] s5 _ H' _ S5 (hyes rfl a na)) (fun f s6 hsp => ?_) (fun _ _ z => False.elim z)
          have gone : ∀ {σ6 : L2.St} {H6 : Hp} {Q : Shared → Prop}, Inv (X.suite a ((a, oe4) :: (X.pn ++ pins))) [] σ6 H6 s6 → (∀ s7, Inv X pins (σ6.set i none) H6 s7 → Q s7) →
              wpAny (model X.prog X.w) X.A (do bindName X.env n .none; unbindBehindTheSuite X.env n p) (fun _ s7 => Q s7) X.xe s6 := fun {σ6 H6 Q} S6 hq => gone_ok (S6.unsuite ok) hN hi hln hq
          cases f with
          | next =>
            obtain ⟨σ6, H6, S6, q6⟩ := hsp
            exact gone S6 fun s7 J7 => ⟨_, _, J7, q6⟩
          | brk =>
            obtain ⟨σ6, H6, S6, q6⟩ := hsp
            exact gone S6 fun s7 J7 => ⟨_, _, J7, q6⟩
          | cont =>
            obtain ⟨σ6, H6, S6, q6⟩ := hsp
            exact gone S6 fun s7 J7 => ⟨_, _, J7, q6⟩
          | ret z =>
            obtain ⟨v6, σ6, H6, S6, r6, q6⟩ := hsp
            exact gone S6 fun s7 J7 => ⟨_, _, _, J7, r6, q6⟩
        | false => exact ih (hno rfl) h5 fl5 up5
    exact go hh w h3 fl3 up3
  )) only [↓Hsh.on])
end
theorem takesN {X : Cx} : L2N.Takes X (fun _ _ _ _ => False) := fun _ _ x => by
  obtain ⟨_, _, _, _, _, _, _, _, _, _, _, _, _, _, _, _, z⟩ := x
  exact z.elim
theorem passN {X : Cx} : Passes (L2N.CX X.prog X.w) X E0 := fun _ _ _ _ _ _ _ h => by
  obtain ⟨_, _, _, _, _, _, _, _, _, _, _, _, z⟩ := h
  exact z.elim
theorem ps_raiseN {X : Cx} {W : WX} {x m : Str} {j : Nat} {p p2 pos pos2 : Pos} (hc : X.calm = true) (tk : L2N.Takes X W) (F : ExcF X.K (He.ga X.K x)) (hm : X.mg x = some (.ref (He.ga X.K x))) (hg : Gl X x) (hdb : (x == ("__debug__" : Str)) = false := by decide) :
    PS X (.Raise (some (.Call (.Name x p) [.Constant (.str m) j p2] [] pos)) none pos2) (tRaiseG W (He.ga X.K x)) :=
  L2N.ps_raise hc tk (L2N.pmk_own PySem.F.excBase_ValueError F.ex hm F.kp (raises_own F.bs F.ty) hg hdb)
/-- a def that may be called within an except suite -/
structure HotOk (P : Program) (w : World) (K : PySem.W.Frag) (mg : Str → Option Value) (base : Heap) (CX : CXT) (k : Nat) (x : Str) (ps : List Str) (sp : Sp) : Prop where
  ex : ∃ f fd, mg x = some (.ref f) ∧ PySem.W.keepIn K (.ref f) = true ∧ Binds K fd ps [] ∧ L2H.FnH P w K mg base CX k f fd ps sp
theorem roomS {k : Nat} {X : Cx} {a : Addr} {pn : List (Addr × Obj)} (r : Room k X.A) : L2H.RoomH k (X.suite a pn).A := ⟨r.dp, r.un⟩
theorem pe_callHG {X : Cx} {k : Nat} {ps : List Str} {sp : Sp} {x : Str} {p pos : Pos} {e : Expr} {es : List Expr} {t : TA} (F : HotOk X.prog X.w X.K X.mg X.base CX0 k x ps sp) (hr : L2H.RoomH k X.A) (hc : L2H.HotC X) (hg : Gl X x)
    (ha : PA X (e :: es) t) (hdb : (x == ("__debug__" : Str)) = false := by decide) (he : starEach (e :: es) X.env = (false, eval e X.env) :: starEach es X.env := by rfl) (hpl : (backTo pos (starEach es X.env)).any (·.1) = false := by rfl) :
    PE X (.Call (.Name x p) (e :: es) [] pos) (tCallS sp (fun _ => E0) t) := by
  obtain ⟨f, fd, h1, h2, h3, h4⟩ := F.ex
  exact L2H.pe_callH h4 hr hc hg h1 h2 h3 (fun _ _ _ _ _ _ _ h => h.elim) ha hdb he hpl
theorem FunD_okH {P : Program} {w : World} {K : PySem.W.Frag} {mg : Str → Option Value} {base : Heap} {x qual : Str} {params : Arguments} {body : List Stmt} {scope : Scope} {dvs : List V} {kws : List (Str × V)} {f : Addr} {fd : FuncData} {CX : CXT} {N ps : List Str} {k : Nat} {sp : Sp}
    (F : FunD K x qual params body scope dvs kws f fd) (S : FnScope N ps scope) (len : ∀ vs H Q E, sp vs H Q E → vs.length = ps.length)
    (hb : ∀ (cdv : Value) (A : Around) (outer : List Env) (s : Shared) (H : Hp) (vs : List V) (Q : VK) (E : XK) (p : Addr × Obj), L2H.HotC (L2H.cxH CX P w K mg base N qual scope f cdv A outer s H E p) → L2H.RoomH k (A.deeper (envOfC qual scope s.heap.objs.size f cdv)) → sp vs H Q E →
      ∃ t, PSs (L2H.cxH CX P w K mg base N qual scope f cdv A outer s H E p) body t ∧ t ⟨fun _ H' => Q .non H', Q, fun _ _ => False, fun _ _ => False⟩ (start N vs) H) : L2H.FnH P w K mg base CX (k + 1) f fd ps sp := Hsh.un (by simp (disch := k_dflt (
  refine Hsh.up ?_
  obtain ⟨oc, od, dV, kV, doc, pm, an, cdv, ct, osl, rfl, lk, hcd, _, _⟩ := F.ex
  refine L2H.fn_ofH lk hcd S len fun A outer s H vs Q E p hot hr hsp => hb cdv A outer s H vs Q E p ⟨p, ?_, List.mem_singleton.mpr rfl⟩ hr hsp
  exact hot
  )) only [↓Hsh.on])
/-! ### xs[a:b] = ys -/
def slE (x v : V) (a c : Option Int) (H : Hp) (P : Hp → Prop) : Prop := ∃ (l b : Addr) (xs ys : List V) (i j : Int), x = .ref l ∧ v = .ref b ∧ a = some i ∧ c = some j ∧ H l = some (.lst xs) ∧ H b = some (.lst ys) ∧ l ≠ b ∧ 0 ≤ i ∧ i ≤ j ∧ j ≤ xs.length ∧ xs.length + ys.length ≤ sizeLine ∧ P (upd H l (.lst (xs.take i.toNat ++ ys ++ xs.drop j.toNat)))
def gSl (to : TE) (tl th : TO) : TG := fun v σ H S => to σ H fun x H1 => tl σ H1 fun a H2 => th σ H2 fun c H3 => slE x v a c H3 fun H4 => S σ H4
theorem pg_slice {X : Cx} {o : Expr} {lo hi : Option Expr} {to : TE} {tl th : TO} {p2 pos : Pos} (ho : PE X o to) (hl : PO X lo tl) (hh : PO X hi th)
    (ha : ∀ v, assign (.Subscript o (.Slice lo hi none p2) pos) X.env v = (do
      let ov ← holding [v] (eval o X.env)
      let iv ← holding [v, ov] (eval (.Slice lo hi none p2) X.env)
      standAt pos
      holding [v, ov, iv] (setItem ov iv v)
      release [iv, v, ov] []) := by intro _; rfl) : PG X (.Subscript o (.Slice lo hi none p2) pos) (gSl to tl th) := by
  refine ⟨fun pins s σ H v u Q I r h => ?_⟩
  rw [ha]
  refine wpAny_bind (wpAny_holding (thn (ho.run pins s σ H _ I h) fun ov s1 ⟨x, H1, I1, r1, q1⟩ => ?_))
  refine wpAny_bind (wpAny_holding (wpAny_Slice (thn (hl.run pins s1 σ H1 _ I1 q1) fun vl s2 ⟨a, H2, I2, pl, q2⟩ => thn (hh.run pins s2 σ H2 _ I2 q2) fun vu s3 ⟨c, H3, I3, pu, q3⟩ => ?_)))
  rw [evalPart_none]
  refine wpAny_pure ?_
  obtain ⟨l, b, xs, ys, i, j, rfl, rfl, rfl, rfl, hx, hy, ne, h0, h1, h2, hz, q⟩ := q3
  cases r1
  cases r
  have I4 : Inv X pins σ H3 { s3 with heap := s3.heap.push { cls := .type "slice", data := .fields #[vl, vu, .none] } } := I3.kept (t' := s3.toks) fun b ob q => Heap.get?_push_of_some _ q
  refine wpAny_bind (wpAny_standAt (wpAny_bind (wpAny_holding (set_slice I4 hx hy ne (Heap.IsSliceOf.new ..) ?_ ?_ h0 h1 h2 hz fun s5 I5 => wpAny_release ⟨σ, _, I5, q⟩))))
  · cases pl
    exact ⟨_, rfl⟩
  · cases pu
    exact ⟨_, rfl⟩
theorem s_gSl {to : TE} {tl th : TO} {v : V} {σ : L2.St} {H : Hp} {S : L2.St → Hp → Prop} (h : to σ H fun x H1 => tl σ H1 fun a H2 => th σ H2 fun c H3 => slE x v a c H3 fun H4 => S σ H4) : gSl to tl th v σ H S := h
theorem h_slE {A : List Addr} {H0 H : Hp} {L L' : List Cell} {P : Hp → Prop} {i : Nat} {l b : Addr} {xs ys zs : List V} {a c : Int} (S : SH A H0 H L) (e : L[i]? = some (l, .lst xs)) (hb : H b = some (.lst ys)) (ne : l ≠ b) (h0 : 0 ≤ a) (h1 : a ≤ c) (h2 : c ≤ xs.length) (hz : xs.length + ys.length ≤ sizeLine)
    (ez : xs.take a.toNat ++ ys ++ xs.drop c.toNat = zs) (eL : L.set i (l, .lst zs) = L') (k : ∀ H', SH A H0 H' L' → P H') : slE (.ref l) (.ref b) (some a) (some c) H P :=
  ⟨l, b, xs, ys, a, c, rfl, rfl, rfl, rfl, S.get i e, hb, ne, h0, h1, h2, hz, by rw [ez]; exact k _ (eL ▸ S.set i e rfl _)⟩
/-! ### dicts with texts as keys, in the ledger -/
def dgetE (x y : V) (H : Hp) (Q : VK) : Prop := ∃ a v, x = .ref a ∧ DGet H a y (some v) ∧ Q v H
def dputE (x y v : V) (H : Hp) (P : Hp → Prop) : Prop := ∃ a H', x = .ref a ∧ DPut H a y v H' ∧ P H'
def dispE (p : Addr) (ps : List (V × V)) (H : Hp) (Q : VK) : Prop := H p = some (.dK []) ∧ ∃ kvs : List (L2.Key × V), ps = kvs.map (fun kv => (kV kv.1, kv.2)) ∧ kvs.length ≤ 15 ∧ Q (.ref p) (upd H p (.dK (mergeK [] kvs)))
def toKey : V → L2.Key
  | .str z => .inr z
  | .int i => .inl i
  | _ => .inl 0
section
variable {A : List Addr} {H0 H : Hp} {L L' : List Cell} {Q : VK} {P : Hp → Prop} {σ : L2.St} {v : V} {td ty tv : TE} {n b c : L2.St → Hp → Prop} {r : VK}
theorem s_dget (h : td σ H fun x H1 => ty σ H1 fun y H2 => dgetE x y H2 Q) : tDGet td ty σ H Q := h
theorem h_dget {a : Addr} {kvs : List (L2.Key × V)} {z : Str} (h : H a = some (.dK kvs)) (e : valV kvs (.inr z) = some v) (q : Q v H) : dgetE (.ref a) (.str z) H Q := ⟨a, v, rfl, e ▸ DGet.k (k := .inr z) h, q⟩
theorem s_dput (h : tv σ H fun v H1 => td σ H1 fun x H2 => ty σ H2 fun y H3 => dputE x y v H3 fun H4 => n σ H4) : sDPut td ty tv ⟨n, r, b, c⟩ σ H := h
theorem h_dput {i : Nat} {a : Addr} {kvs kvs' : List (L2.Key × V)} {z : Str} (S : SH A H0 H L) (e : L[i]? = some (a, .dK kvs)) (hl : kvs.length < sizeLine) (ek : putK kvs (.inr z) v = kvs') (eL : L.set i (a, .dK kvs') = L') (k : ∀ H', SH A H0 H' L' → P H') : dputE (.ref a) (.str z) v H P :=
  ⟨a, _, rfl, DPut.k (k := .inr z) (S.get i e) hl, by rw [ek]; exact k _ (eL ▸ S.set i e rfl _)⟩
theorem h_disp {trs : List (TE × TE)} (S : SH A H0 H L) (h : ∀ p H1, SH A H0 H1 ((p, .dK []) :: L) → tPairs trs σ H1 fun ps H2 => dispE p ps H2 Q) : tDisp trs σ H Q := fun p hp => h p _ (S.new _ hp)
theorem s_pairs0 {R : List (V × V) → Hp → Prop} (h : R [] H) : tPairs [] σ H R := h
theorem s_pairsC {trs : List (TE × TE)} {R : List (V × V) → Hp → Prop} (h : td σ H fun x H1 => tv σ H1 fun y H2 => tPairs trs σ H2 fun ps H3 => R ((x, y) :: ps) H3) : tPairs ((td, tv) :: trs) σ H R := h
theorem h_dispE {i : Nat} {p : Addr} {ps : List (V × V)} {kvs : List (L2.Key × V)} (S : SH A H0 H L) (e : L[i]? = some (p, .dK [])) (hl : ps.length ≤ 15) (ep : ps = (ps.map fun q => (toKey q.1, q.2)).map fun kv => (kV kv.1, kv.2)) (ek : mergeK [] (ps.map fun q => (toKey q.1, q.2)) = kvs) (eL : L.set i (p, .dK kvs) = L') (k : ∀ H', SH A H0 H' L' → Q (.ref p) H') : dispE p ps H Q :=
  ⟨S.get i e, _, ep, by rw [List.length_map]; exact hl, by rw [ek]; exact k _ (eL ▸ S.set i e rfl _)⟩
end
theorem hu1 {u : Nat} (h : u + 64 < cLine) : u + 1 < cLine := by omega
theorem hu_hot {k : Nat} {A : Around} (hr : L2H.RoomH k A) : A.units + 64 < cLine := by have := hr.un; omega
theorem cxKH {CX : CXT} {P : Program} {w : World} {K : PySem.W.Frag} {mg : Str → Option Value} {base : Heap} {N : List Str} {qual : Str} {scope : Scope} {f : Addr} {cd : Value} {A : Around} {outer : List Env} {s : Shared} {H : Hp} {E : XK} {p : Addr × Obj} :
    (L2H.cxH CX P w K mg base N qual scope f cd A outer s H E p).nox.K = K := rfl
theorem cxKH2 {CX : CXT} {P : Program} {w : World} {K : PySem.W.Frag} {mg : Str → Option Value} {base : Heap} {N : List Str} {qual : Str} {scope : Scope} {f : Addr} {cd : Value} {A : Around} {outer : List Env} {s : Shared} {H : Hp} {E : XK} {p : Addr × Obj} :
    (L2H.cxH CX P w K mg base N qual scope f cd A outer s H E p).K = K := rfl
end Q
set_option Elab.async false
set_option linter.all false
set_option maxRecDepth 100000
set_option maxHeartbeats 4000000
/-! Dicts of ints as rows; comprehensions over a range with tests; a list turned round. -/
namespace Q
open PySem PySem.Spec PyProof.Rows L2
section
variable {A : List Addr} {H0 H : Hp} {L L' : List Cell} {Q : VK} {P : Hp → Prop} {v : V} {σ : L2.St} {K : PySem.W.Frag} {te tb : TE} {ta : TA}
def lcRG (vs : List Nat) (g : TG) (tt : TT) (us : List V) (te : TE) (σ : L2.St) (H : Hp) (Q : VK) : Prop := ∃ j : Int, us = [.int j] ∧ -(2 ^ 62) ≤ j ∧ j < 2 ^ 62 ∧ tLc (fun _ H k => k (Itr 0 j.toNat) H) g tt te vs σ H Q
theorem s_lcRG {g : TG} {tt : TT} {vs : List Nat} (h : ta σ H fun us H1 => lcRG vs g tt us te σ H1 Q) : tLc (iRng1 ta) g tt te vs σ H Q := h
theorem u_lcRG {g : TG} {tt : TT} {vs : List Nat} {j : Int} (hS : SH A H0 H L) (Pv : Addr → Nat → Hp → Prop) (lo : -(2 ^ 62) ≤ j) (hi : j < 2 ^ 62) (h0 : ∀ D H', SH A H0 H' ((D, .lst []) :: L) → Pv D 0 H')
    (hs : ∀ D (k : Nat) H, (k : Int) < j → Pv D k H → g (.int k) (wipe σ vs) H fun σ2 H2 => wipe σ2 vs = wipe σ vs ∧ tt σ2 H2 fun b H3 => if b = true then te σ2 H3 (lcEnd D (Pv D (k + 1))) else Pv D (k + 1) H3) (hd : ∀ D H, Pv D j.toNat H → Q (.ref D) H) : lcRG vs g tt [.int j] te σ H Q := Hsh.un (by simp (disch := k_dflt (
  refine Hsh.up ?_
  refine ⟨j, rfl, lo, hi, fun D hD => ?_⟩
  refine lc_range (Pv D) (h0 D _ (hS.new _ hD)) (fun k H hk p => ?_) (fun H p => hd D H p)
  rw [show (0 : Int) + (k : Int) = (k : Int) by omega]
  exact hs D k H (by omega) p
  )) only [↓Hsh.on])
/-! ### rows: dicts of ints with True -/
def rowK (r : List Int) : List (L2.Key × V) := r.map fun n => (.inl n, .bl true)
abbrev rowO (r : List Int) : HO := .dK (rowK r)
def addK (r : List Int) (n : Int) : List Int := if n ∈ r then r else r ++ [n]
theorem rowK_len (r : List Int) : (rowK r).length = r.length := List.length_map _
theorem put_row (r : List Int) (n : Int) : putK (rowK r) (.inl n) (.bl true) = rowK (addK r n) := Hsh.un (by simp (disch := k_dflt (
  refine Hsh.up ?_
  unfold putK rowK addK
  by_cases h : n ∈ r
  · rw [if_pos h, if_pos, List.map_map]
    · apply List.map_congr_left
      intro m _
      show (if (Sum.inl m : L2.Key) = Sum.inl n then ((Sum.inl m : L2.Key), V.bl true) else (Sum.inl m, V.bl true)) = _
      split <;> rfl
    · rw [List.any_eq_true]
      exact ⟨_, List.mem_map_of_mem h, decide_eq_true rfl⟩
  · rw [if_neg h, if_neg, List.map_append]
    · rfl
    · intro z
      obtain ⟨kv, hm, e⟩ := List.any_eq_true.mp z
      obtain ⟨m, hm2, rfl⟩ := List.mem_map.mp hm
      exact h (Sum.inl.inj (of_decide_eq_true e) ▸ hm2)
  )) only [↓Hsh.on])
theorem s_lenD {a : Addr} {kvs : List (L2.Key × V)} (h : H a = some (.dK kvs)) (q : Q (.int (kvs.length : Nat)) H) : (fun (xs : List V) (H : Hp) (Q : VK) => ∃ a kvs, xs = [V.ref a] ∧ H a = some (.dK kvs) ∧ Q (.int kvs.length) H) [.ref a] H Q := ⟨a, kvs, rfl, h, q⟩
def rLenD : List V → Hp → VK → Prop := fun xs H Q => ∃ a r, xs = [V.ref a] ∧ H a = some (rowO r) ∧ Q (.int (r.length : Nat)) H
theorem x_lenD {X : Cx} : CallR X (.builtin "len") rLenD := Hsh.un (by simp (disch := k_dflt (
  refine Hsh.up ?_
  intro pins s σ H xs us Q I r q
  obtain ⟨a, w, rfl, h, q⟩ := q
  exact call_lenD pins s σ H _ us Q I r ⟨a, _, rfl, h, by rw [rowK_len]; exact q⟩
  )) only [↓Hsh.on])
def rListRow : List V → Hp → VK → Prop := fun xs H Q => ∃ a r, xs = [V.ref a] ∧ H a = some (rowO r) ∧ newO (.lst (r.map V.int)) 0 H Q
theorem x_listD {X : Cx} (hc : X.calm = true) : CallR X (.type "list") rListRow := Hsh.un (by simp (disch := k_dflt (
  refine Hsh.up ?_
  intro pins s σ H xs us Q I r q
  obtain ⟨a, w, rfl, h, q⟩ := q
  refine call_listD hc pins s σ H _ us Q I r ⟨a, _, rfl, .inl h, fun p hp => ?_⟩
  rw [show (rowK w).map (fun kv => kV kv.1) = w.map V.int by unfold rowK; rw [List.map_map]; rfl]
  exact q.2 p hp
  )) only [↓Hsh.on])
def rSortRow : List V → Hp → VK → Prop := fun xs H Q => ∃ a r, xs = [V.ref a] ∧ H a = some (rowO r) ∧ r.length < 64 ∧ ∀ (ys : List Int), ys.Perm r → ys.Pairwise (· ≤ ·) → newO (.lst (ys.map V.int)) 0 H Q
theorem x_sortedD {X : Cx} (hc : X.calm = true) : CallR X (.builtin "sorted") rSortRow := Hsh.un (by simp (disch := k_dflt (
  refine Hsh.up ?_
  intro pins s σ H xs us Q I r q
  obtain ⟨a, w, rfl, h, h64, q⟩ := q
  exact call_sortedDI hc pins s σ H _ us Q I r ⟨a, _, w, rfl, .inl h, by unfold rowK; rw [List.map_map]; rfl, h64, fun ys p h1 h2 hp => (q ys h1 h2).2 p hp⟩
  )) only [↓Hsh.on])
theorem s_lenRow {a : Addr} {r : List Int} (h : H a = some (rowO r)) (q : Q (.int (r.length : Nat)) H) : rLenD [.ref a] H Q := ⟨a, r, rfl, h, q⟩
theorem s_listRow {a : Addr} {r : List Int} (h : H a = some (rowO r)) (q : newO (.lst (r.map V.int)) 0 H Q) : rListRow [.ref a] H Q := ⟨a, r, rfl, h, q⟩
theorem s_sortRow {a : Addr} {r : List Int} (h : H a = some (rowO r)) (hl : r.length < 64) (q : ∀ (ys : List Int), ys.Perm r → ys.Pairwise (· ≤ ·) → newO (.lst (ys.map V.int)) 0 H Q) : rSortRow [.ref a] H Q := ⟨a, r, rfl, h, hl, q⟩
theorem h_dputI {i : Nat} {a : Addr} {r : List Int} {n : Int} (S : SH A H0 H L) (e : L[i]? = some (a, rowO r)) (hl : r.length < sizeLine) (k : ∀ H', SH A H0 H' (L.set i (a, rowO (addK r n))) → P H') : dputE (.ref a) (.int n) (.bl true) H P :=
  ⟨a, _, rfl, DPut.k (k := .inl n) (S.get i e) (by rw [rowK_len]; exact hl), by rw [put_row]; exact k _ (S.set i e rfl _)⟩
theorem h_new0 {D : Addr → Hp → Prop} (S : SH A H0 H L) (h : ∀ p H', SH A H0 H' ((p, .dK []) :: L) → Q (.ref p) H') : tDNewK σ H Q := fun p hp => h p _ (S.new _ hp)
/-! ### a list turned round -/
def revE (K : PySem.W.Frag) (x : V) (H : Hp) (Q : VK) : Prop := ∃ a xs, x = .ref a ∧ SqL K H a xs ∧ newO (.lst xs.reverse) 0 H Q
theorem s_revL (h : te σ H fun x H1 => revE K x H1 Q) : tRevL K te σ H Q := Hsh.un (by simp (disch := k_dflt (
  refine Hsh.up ?_
  unfold tRevL
  have e : (fun x H1 => revE K x H1 Q) = fun x H1 => ∃ a xs, x = .ref a ∧ SqL K H1 a xs ∧ (0 ≤ sizeLine ∧ ∀ p, H1 p = none → Q (.ref p) (upd H1 p (.lst xs.reverse))) := rfl
  rw [e] at h
  have e2 : (fun (x : V) (H1 : Hp) => ∃ a xs, x = .ref a ∧ SqL K H1 a xs ∧ (0 ≤ sizeLine ∧ ∀ p, H1 p = none → Q (.ref p) (upd H1 p (.lst xs.reverse)))) = fun x H1 => ∃ a xs, x = .ref a ∧ SqL K H1 a xs ∧ ∀ p, H1 p = none → Q (.ref p) (upd H1 p (.lst xs.reverse)) := by
    funext x H1
    exact propext ⟨fun ⟨a, xs, h1, h2, h3⟩ => ⟨a, xs, h1, h2, h3.2⟩, fun ⟨a, xs, h1, h2, h3⟩ => ⟨a, xs, h1, h2, Nat.zero_le _, h3⟩⟩
  rw [e2] at h
  exact h
  )) only [↓Hsh.on])
theorem s_revE {a : Addr} {xs : List V} (h : SqL K H a xs) (q : newO (.lst xs.reverse) 0 H Q) : revE K (.ref a) H Q := ⟨a, xs, rfl, h, q⟩
end
/-! ### list(range(n)) -/
def rgX (x : V) (H : Hp) (Q : VK) : Prop := ∃ n : Int, x = .int n ∧ RgOk 0 n ∧ ∀ q, H q = none → Q (.ref q) (upd H q (.lst (rgV 0 n)))
theorem s_listRg {σ : L2.St} {ta : TE} {H : Hp} {Q : VK} (h : ta σ H fun x H1 => rgX x H1 Q) : tLstRg (tRg1 ta) σ H Q := h
theorem rgV_nat (n : Nat) : rgV 0 (n : Nat) = (List.range n).map fun (i : Nat) => V.int i := by
  unfold rgV
  simp
theorem s_rgX {n : Nat} {H : Hp} {Q : VK} (hn : n ≤ 1000) (q : newO (.lst ((List.range n).map fun (i : Nat) => V.int i)) 0 H Q) : rgX (.int (n : Nat)) H Q :=
  ⟨_, rfl, RgOk.of_le (Int.le_refl 0) (by omega) (by omega) (by omega), by rw [rgV_nat]; exact q.2⟩
theorem set_bls (l : List Bool) (i : Nat) (a : Bool) : (l.map V.bl).set i (.bl a) = (l.set i a).map V.bl := by rw [List.map_set]
theorem atI_bls {bs : List Bool} {i : Int} (h0 : 0 ≤ i) (h1 : i < (bs.map V.bl).length) : atI (bs.map V.bl) i = some (.bl (bs.getD i.toNat false)) := Hsh.un (by simp (disch := k_dflt (
  refine Hsh.up ?_
  rw [List.length_map] at h1
  unfold atI ixN
  rw [if_pos h0, if_pos (by rw [List.length_map]; exact h1)]
  show (bs.map V.bl)[i.toNat]? = _
  rw [List.getElem?_map, List.getD_eq_getElem?_getD, List.getElem?_eq_getElem (by omega)]
  rfl
  )) only [↓Hsh.on])
def mk6 (P : V → V → V → V → V → V → Hp → VK → XK → Prop) : Sp := fun vs H Q E => ∃ a b c d e f, vs = [a, b, c, d, e, f] ∧ P a b c d e f H Q E
theorem mk6_len {P} (vs H Q E) (h : mk6 P vs H Q E) : vs.length = 6 := by obtain ⟨_, _, _, _, _, _, rfl, _⟩ := h; rfl
def mk7 (P : V → V → V → V → V → V → V → Hp → VK → XK → Prop) : Sp := fun vs H Q E => ∃ a b c d e f g, vs = [a, b, c, d, e, f, g] ∧ P a b c d e f g H Q E
theorem mk7_len {P} (vs H Q E) (h : mk7 P vs H Q E) : vs.length = 7 := by obtain ⟨_, _, _, _, _, _, _, rfl, _⟩ := h; rfl
def mk8 (P : V → V → V → V → V → V → V → V → Hp → VK → XK → Prop) : Sp := fun vs H Q E => ∃ a b c d e f g h, vs = [a, b, c, d, e, f, g, h] ∧ P a b c d e f g h H Q E
theorem mk8_len {P} (vs H Q E) (h : mk8 P vs H Q E) : vs.length = 8 := by obtain ⟨_, _, _, _, _, _, _, _, rfl, _⟩ := h; rfl
theorem SH.callE {A : List Addr} {H0 H H' : Hp} {B B2 : List Cell} (S : SH A H0 H B) (C : SH (B.map (·.1)) H H' B2) : SH A H0 H' B2 := by
  have := SH.call (F := []) (by rw [List.append_nil]; exact S) C
  rwa [List.append_nil] at this
theorem SH.old {A : List Addr} {H0 H : Hp} {L : List Cell} {a : Addr} {o : HO} (S : SH A H0 H L) (h : H0 a = some o) (n : a ∉ A) : a ∉ L.map (·.1) := fun z => by
  obtain ⟨c, hc, rfl⟩ := List.mem_map.mp z
  rcases S.ow c hc with w | w
  · exact n w
  · rw [h] at w; cases w
/-- a list grown by one, what else was made forgotten -/
theorem un_sh {A : List Addr} {H0 H H' : Hp} {L0 L' R : List Cell} {cd l : Addr} {cs : List Addr} (hS1 : SH A H0 H L0) (hS : SH (L0.map (·.1)) H H' L') (h : ((cd, HO.lst (cs.map V.ref ++ [V.ref l])) :: R).Sublist L') : SH A H0 H' ((cd, .lst ((cs ++ [l]).map V.ref)) :: R) := by
  rw [List.map_append]
  exact hS1.callE (hS.sub h)
/-! ### for i, x in enumerate(t) of a tuple -/
set_option maxHeartbeats 1000000 in
theorem meets_enumerate_new1 {v : Value} {o : Obj} {H : Heap → Prop} (B : Begins v o H) :
    Meets (Builtin.«enumerate.__new__» ⟨[.type "enumerate", v], []⟩) (fun _ R s => H s.heap ∧
      R (.ok (.ret (.ref (s.heap.push o).objs.size))) { s with heap := (s.heap.push o).push { cls := .type "enumerate", data := .fields #[.none, .bool false, .ref s.heap.objs.size, rawInt 0, .none, .none] } }) :=
  .of_wp fun prog w A R s h => by
    obtain ⟨hp, g, d, tk, os⟩ := s; obtain ⟨h1, h⟩ := h
    have hsub := sub_enumerate
    have q1 : ∀ {A' : Around} {E : Value → Shared → Prop} {Q : Value → Shared → Prop}, Q (.ref hp.objs.size) ⟨hp.push o, g, d, tk, os⟩ → wpAny (model prog w) A' (pyIter v) Q E ⟨hp, g, d, tk, os⟩ :=
      fun q => B.iter prog w _ _ ⟨hp, g, d, tk, os⟩ _ h1 q
    wp_walk using q1
    refine wpAny_stack_any fun st => wpAny_pure ?_
    split
    · rename_i c _ _ _ _ _
      cases (c == Value.type "enumerate")
      · wp_walk using q1
        exact ⟨_, rfl, h⟩
      · wp_walk using q1
        exact ⟨_, rfl, h⟩
    · wp_walk using q1
      exact ⟨_, rfl, h⟩
theorem enum_begins1 {prog : Program} {w : World} {A : Around} {E : Value → Shared → Prop} {s : Shared} {v : Value} {o : Obj} {H : Heap → Prop} {Q : Value → Shared → Prop} (B : Begins v o H) (h1 : H s.heap)
    (h : ∀ h', IsEnum h' (s.heap.objs.size + 1) s.heap.objs.size 0 .none → h'.get? s.heap.objs.size = some o → h'.objs.size = s.heap.objs.size + 2 →
      (∀ b o, s.heap.get? b = some o → h'.get? b = some o) → Q (.ref (s.heap.objs.size + 1)) { s with heap := h' }) :
    wpAny (model prog w) A (call (.type "enumerate") [v]) Q E s := by
  refine callType_new F.called_enumerate (by decide) (F.typeCall_enumerate_1 _) (F.newCall_enumerate_1 _) (fun obj => F.args_object_init_2 obj _) F.entry_enumerate_new
    (meets_enumerate_new1 B) ⟨h1, ?_⟩
  have hz : (s.heap.push o).objs.size = s.heap.objs.size + 1 := Heap.size_push ..
  show _ ∧ _
  rw [hz]
  have he : IsEnum ((s.heap.push o).push { cls := .type "enumerate", data := .fields #[.none, .bool false, .ref s.heap.objs.size, rawInt 0, .none, .none] }) (s.heap.objs.size + 1) s.heap.objs.size 0 .none := by
    have := Heap.get?_push_size (s.heap.push o) (o := { cls := .type "enumerate", data := .fields #[.none, .bool false, .ref s.heap.objs.size, rawInt 0, .none, .none] }) rfl
    rw [hz] at this; exact this
  refine ⟨⟨_, he, rfl⟩, h _ he (Heap.get?_push_of_some _ (Heap.get?_push_size _ B.free)) (by rw [Heap.size_push, hz]) fun b o x => Heap.get?_push_of_some _ (Heap.get?_push_of_some _ x)⟩
theorem pyNext_enumT_end {prog : Program} {w : World} {A : Around} {E : Value → Shared → Prop} {s : Shared} {e it l : Addr} {i : Nat} {items : Array Value} {old : Value} {Q : Option Value → Shared → Prop} (hh : A.handled = none)
    (he : IsEnum s.heap e it i old) (hit : s.heap.IsTupleIter it l i) (hl : s.heap.IsTuple l items) (hx : items[i]? = none)
    (hQ : ∀ h', Heap.ExtBut it s.heap h' → Q none { s with heap := h' }) : wpAny (model prog w) A (pyNext (.ref e)) Q E s := by
  have hT : s.TypeIs (.ref e) "enumerate" := ⟨_, he, rfl⟩
  unfold pyNext
  refine wpAny_bind (wpAny_attempt (wpAny_callSpecial?_slot (name := Str.ofString "__next__") hT F.slot_enumerate_next
    (wpAny_call_entry F.slot_enumerate_next hT F.entry_enumerate_next ?_ (F.args_enumerate_next_1 _))))
  show wpAny _ _ (field (.ref e) 2 >>= _) _ _ _
  refine wpAny_bind (wpAny_field he rfl (x := .ref it) rfl ?_)
  refine wpAny_bind (wpAny_nextOf_tuple_end hh hit hl hx fun h' x he' hx' => ?_)
  obtain ⟨o, ho, hc⟩ := hx'
  refine wpAny_bind (wpAny_isInstance (T := "StopIteration") (b := true) ⟨o, ho, hc⟩ isSubtype_stop ?_)
  exact wpAny_pure (hQ _ he')
def IteT (K : PySem.W.Frag) (a : Addr) : It :=
  ⟨fun i H => ∃ (xs : List V) (x : V), SqT K H a xs ∧ xs[i]? = some x, fun i H v H' => ∃ T x, v = .ref T ∧ H T = none ∧ H' = upd H T (.tup [.int (i : Nat), x]) ∧ ∀ xs, SqT K H a xs → xs[i]? = some x, fun i H => ∃ xs : List V, SqT K H a xs ∧ xs.length ≤ i⟩
theorem turn_enumT {P : Program} {w : World} {K : PySem.W.Frag} {elts : List Expr} {kk : Nat} {tpos : Pos} (a e it : Addr) :
    Turn P w K (.Tuple elts kk tpos) (IteT K a) [e, it] e (fun i h => (∃ old, IsEnum h e it ((i : Nat) : Int) old) ∧ h.IsTupleIter it a i ∧ e ≠ it ∧ a ≠ it ∧ a ≠ e) where
  mem := by simp
  obj := fun i h st b hb => by
    obtain ⟨⟨old, he⟩, ⟨o, ho, hc, hd⟩, _⟩ := st
    have e' : b = e ∨ b = it := by simpa using hb
    rcases e' with z | z
    · rw [z]; exact ⟨_, he, fun v q => nomatch q⟩
    · rw [z]; exact ⟨o, ho, fun v q => by rw [hd] at q; cases q⟩
  keep := fun i h h' st k => let ⟨⟨old, he⟩, hi, hne⟩ := st; ⟨⟨old, k e (by simp) _ he⟩, hi.at fun o q => k it (by simp) o q, hne⟩
  item := by
    intro X hP hw hK hc i pins s σ H E I hf st hg
    subst hP hw hK
    obtain ⟨⟨old, he⟩, hit, hne, hai, hae⟩ := st
    obtain ⟨xs, x, hq, hx⟩ := hg
    obtain ⟨its, rv, p, hz⟩ := I.tuple hq
    obtain ⟨u, hu, ru⟩ := rv.get hx
    have hel : e < s.heap.objs.size := Heap.lt_size he
    have hil : it < s.heap.objs.size := by obtain ⟨_, q, _⟩ := hit; exact Heap.lt_size q
    have hlt : i < its.toArray.size := by
      rw [List.size_toArray]
      exact (List.getElem?_eq_some_iff.mp hu).1
    refine wpAny_pyNext_enum_itemD (Draws.tuple (prog := X.prog) (w := X.w) (A := X.A.in1) (I.ok.hd hc) it a hai its.toArray) he ⟨hit, (show s.heap.IsTuple a its.toArray from p)⟩ hlt hne (by simp [hne, Ne.symm hae]) fun x2 h' tk hx2 ho hit' hT hsz hk => ?_
    have ex : x2 = u := by
      have hx2 : its.toArray[i]? = some x2 := hx2
      rw [List.getElem?_toArray, hu] at hx2
      exact (Option.some.inj hx2).symm
    subst ex
    refine ⟨_, rfl, wpAny_letOwnedTupleGo_enum (s := { s with heap := h', toks := tk + 1 }) ho fun h'' he' sb => ?_⟩
    have hT2 : h''.get? s.heap.objs.size = some { cls := .type "tuple", data := .seq #[.int i tk, x2] } := (sb.2 _ (Nat.ne_of_gt hel)).trans hT
    have new : ObjOk X.prog X.w (upd H s.heap.objs.size (.tup [.int (i : Nat), x])) h'' s.heap.objs.size (.tup [.int (i : Nat), x]) :=
      ⟨by show 2 ≤ sizeLine; decide, [.int i tk, x2], .cons ⟨_, rfl⟩ (.cons ru .nil), ⟨_, hT2, rfl, _, rfl⟩⟩
    have I1 : Inv X pins σ (upd H s.heap.objs.size (.tup [.int (i : Nat), x])) { s with heap := h'', toks := tk + 1 } :=
      I.turnedNew (t' := tk + 1) (ch := [e, it]) (fun b ob hb q => (sb.2 b (fun z => hb (by simp [z]))).trans (hk b ob (fun z => hb (by simp [z])) (fun z => hb (by simp [z])) q)) hf (Nat.le_refl _) new
    refine ⟨.ref s.heap.objs.size, _, I1, rfl, ⟨_, x, rfl, I.hok.fresh (Nat.le_refl _), rfl, fun ys hy => by rw [I.tuple_inj hy hq]; exact hx⟩, ⟨⟨x2, ?_⟩, hit'.1.at fun o q => (sb.2 it (Ne.symm hne)).trans q, hne, hai, hae⟩, fun b hb => ?_⟩
    · have e1 : ((i + 1 : Nat) : Int) = (i : Int) + 1 := by omega
      rw [e1]; exact he'
    · have hb' : b < s.heap.objs.size := by
        have e' : b = e ∨ b = it := by simpa using hb
        rcases e' with z | z
        · rw [z]; exact hel
        · rw [z]; exact hil
      rw [upd_ne (Nat.ne_of_lt hb')]
      exact (hf b hb).1
  done := by
    intro X hP hw hK hc i pins s σ H E I hf st hg
    subst hP hw hK
    obtain ⟨⟨old, he⟩, hit, hne, hai, hae⟩ := st
    obtain ⟨xs, hq, hx⟩ := hg
    obtain ⟨its, rv, p, hz⟩ := I.tuple hq
    obtain ⟨f0, f1, f2, f3, f4, f5⟩ := hf it (by simp)
    have hl := rv.length
    exact pyNext_enumT_end (I.ok.hd hc) he hit (show s.heap.IsTuple a its.toArray from p) (by simp; omega) fun h' eb => ⟨rfl, I.turned (t' := s.toks) (fun b o hb q => eb b o hb q) f0 f1 f3 f4 f5⟩
  self := fun A i s Q E st h => let ⟨⟨_, he⟩, _⟩ := st; wpAny_pyIter_enum he h
def iEnumT (K : PySem.W.Frag) (ta : TA) : TI := fun σ H R => ta σ H fun vs H1 => ∃ a xs, vs = [.ref a] ∧ SqT K H1 a xs ∧ R (IteT K a) H1
theorem pi_enumT {X : Cx} {e : Expr} {ta : TA} {p pos tpos : Pos} {elts : List Expr} {kk : Nat} (hg : Gl X "enumerate") (hm : X.mg "enumerate" = none) (ha : PA X [e] ta) (hs : starEach [e] X.env = [(false, eval e X.env)] := by rfl) :
    PI X (.Tuple elts kk tpos) (.Call (.Name "enumerate" p) [e] [] pos) (iEnumT X.K ta) := by
  refine ⟨fun pins s σ H R I h => ?_⟩
  refine Call_ (ld_blt I hg hm boot_enumerate (PyProof.Rows.callWith_type1 (thn (ha.run pos pins s σ H _ I h) fun us s1 ⟨vs, H1, I1, r1, q1⟩ => ?_) hs rfl))
  obtain ⟨a, xs, ex, hq, q⟩ := q1
  subst ex
  cases r1 with
  | cons r rr =>
    cases rr
    cases r
    obtain ⟨its, rv, p', hz⟩ := I1.tuple hq
    have hp' : s1.heap.IsTuple a its.toArray := p'
    have hal : a < s1.heap.objs.size := by obtain ⟨_, q, _⟩ := hp'; exact Heap.lt_size q
    refine enum_begins1 (begins_tuple a its.toArray) hp' fun h' he hit hsz hk => wpAny_pyIter_enum he ?_
    have I2 : Inv X pins σ H1 { s1 with heap := h' } := I1.kept (t' := s1.toks) hk
    refine ⟨s1.heap.objs.size + 1, [s1.heap.objs.size + 1, s1.heap.objs.size], _, _, H1, rfl, I2, turn_enumT a (s1.heap.objs.size + 1) s1.heap.objs.size, ⟨⟨.none, he⟩, ⟨_, hit, rfl, rfl⟩, Nat.succ_ne_self _, Nat.ne_of_lt hal, Nat.ne_of_lt (Nat.lt_succ_of_lt hal)⟩, fun b hb => ?_, q⟩
    have e' : b = s1.heap.objs.size + 1 ∨ b = s1.heap.objs.size := by simpa using hb
    have hle : s1.heap.objs.size ≤ b := by
      rcases e' with z | z
      · rw [z]; exact Nat.le_add_right _ _
      · rw [z]; exact Nat.le_refl _
    exact I1.fpOk hle (I1.hok.fresh hle)
def forE (K : PySem.W.Frag) (vs : List V) (g : TG) (tb : TS) (D : Ends) (σ : L2.St) (H : Hp) : Prop := ∃ a, vs = [.ref a] ∧ (∃ xs, SqT K H a xs) ∧ loopI (IteT K a) g tb D σ H
theorem s_forE {K : PySem.W.Frag} {σ : L2.St} {H : Hp} {g : TG} {tb : TS} {ta : TA} {D : Ends} (h : ta σ H fun vs H1 => forE K vs g tb D σ H1) : tFor (iEnumT K ta) g tb D σ H := Hsh.un (by simp (disch := k_dflt (
  refine Hsh.up ?_
  unfold tFor iEnumT
  refine (congrArg (ta σ H) ?_).mp h
  funext vs H1
  apply propext
  constructor
  · rintro ⟨a, e, ⟨xs, h1⟩, h2⟩
    exact ⟨a, xs, e, h1, h2⟩
  · rintro ⟨a, xs, e, h1, h2⟩
    exact ⟨a, e, ⟨xs, h1⟩, h2⟩
  )) only [↓Hsh.on])
theorem u_forE {K : PySem.W.Frag} {σ : L2.St} {H : Hp} {g : TG} {tb : TS} {n b c : L2.St → Hp → Prop} {r : VK} {a : Addr} {xs : List V} (Pv : Nat → L2.St → Hp → Prop) (h : SqT K H a xs) (h0 : Pv 0 σ H) (hl : ∀ i σ H, i ≤ xs.length → Pv i σ H → SqT K H a xs)
    (hs : ∀ (i : Nat) (x : V) σ H T, xs[i]? = some x → H T = none → Pv i σ H → g (.ref T) σ (upd H T (.tup [.int (i : Nat), x])) fun σ2 H2 => tb ⟨Pv (i + 1), r, n, Pv (i + 1)⟩ σ2 H2) (hd : ∀ σ H, Pv xs.length σ H → n σ H) : forE K [.ref a] g tb ⟨n, r, b, c⟩ σ H := Hsh.un (by simp (disch := k_dflt (
  refine Hsh.up ?_
  refine ⟨a, rfl, ⟨xs, h⟩, fun i m σ H => m = xs.length - i ∧ i ≤ xs.length ∧ Pv i σ H, ⟨xs.length, by simp, Nat.zero_le _, h0⟩, ?_⟩
  rintro i m σ H ⟨rfl, hi, p⟩
  have q := hl i σ H hi p
  by_cases hlt : i < xs.length
  · refine .inr ⟨⟨xs, xs[i], q, by simp [hlt]⟩, Pv (i + 1), fun σ' H' p' => ⟨xs.length - (i + 1), by omega, rfl, hlt, p'⟩, fun x H' y => ?_⟩
    obtain ⟨T, x, rfl, hT, rfl, y⟩ := y
    exact hs i x σ H T (y xs q) hT p
  · obtain rfl : i = xs.length := by omega
    exact .inl ⟨⟨xs, q, Nat.le_refl _⟩, hd σ H p⟩
  )) only [↓Hsh.on])
end Q

namespace Law
open PySem L2 Q
/-! words: one step; arithmetic; a heap fact; a sequence -/
set_option hygiene false
local macro_rules | `(tactic| walk_at "ar") => `(tactic| first | (with_reducible assumption) | omega | decide | (constructor <;> omega) | (simp only [List.length_cons, List.length_nil, List.length_append, List.length_map, List.length_replicate, List.length_set] at *; omega))
local macro_rules | `(tactic| walk_at "sz") => `(tactic| first | exact Nat.le_of_ble_eq_true rfl | (rw [sizeLine_eq]; first | omega | (simp only [List.length_cons, List.length_nil, List.length_append, List.length_map, List.length_replicate, List.length_set]; omega)))
local macro_rules | `(tactic| walk_at "szs") => `(tactic| first | (rw [sizeLine_eq]; first | decide +kernel | omega) | walk_at "sz")
local macro_rules | `(tactic| walk_at "ix") => `(tactic| first | exact (rfl : (_ : List Cell)[0]? = _) | exact (rfl : (_ : List Cell)[1]? = _) | exact (rfl : (_ : List Cell)[2]? = _) | exact (rfl : (_ : List Cell)[3]? = _) | exact (rfl : (_ : List Cell)[4]? = _) | exact (rfl : (_ : List Cell)[5]? = _) | exact (rfl : (_ : List Cell)[6]? = _) | exact (rfl : (_ : List Cell)[7]? = _) | exact (rfl : (_ : List Cell)[8]? = _) | exact (rfl : (_ : List Cell)[9]? = _) | exact (rfl : (_ : List Cell)[10]? = _) | exact (rfl : (_ : List Cell)[11]? = _) | exact (rfl : (_ : List Cell)[12]? = _) | exact (rfl : (_ : List Cell)[13]? = _) | exact (rfl : (_ : List Cell)[14]? = _) | exact (rfl : (_ : List Cell)[15]? = _) | exact (rfl : (_ : List Cell)[16]? = _) | exact (rfl : (_ : List Cell)[17]? = _) | exact (rfl : (_ : List Cell)[18]? = _) | exact (rfl : (_ : List Cell)[19]? = _))
local macro_rules | `(tactic| walk_at "hp") => `(tactic| first | assumption | exact hS.get 0 rfl | exact hS.get 1 rfl | exact hS.get 2 rfl | exact hS.get 3 rfl | exact hS.get 4 rfl | exact hS.get 5 rfl | exact hS.get 6 rfl | exact hS.get 7 rfl | exact hS.get 8 rfl | exact hS.get 9 rfl | exact hS.get 10 rfl | exact hS.get 11 rfl | exact hS.get 12 rfl | exact hS.get 13 rfl | exact hS.get 14 rfl | exact hS.get 15 rfl | exact hS.ro (by assumption) | exact hS.imm (by assumption) rfl)
local macro_rules | `(tactic| walk_at "sq") => `(tactic| first | exact SqL.of (by walk_at "hp") | exact SqT.of (by walk_at "hp") | exact Scr.sq (Scr.keep (by assumption) hS.kp) | assumption | exact SqT_keep (by assumption) hS.kp)
local macro_rules | `(tactic| walk_at "lit") => `(tactic| first | exact atI_lit 0 (by omega) rfl | exact atI_lit 1 (by omega) rfl | exact atI_lit 2 (by omega) rfl | exact atI_lit 3 (by omega) rfl | exact atI_lit 4 (by omega) rfl | exact atI_lit 5 (by omega) rfl | exact atI_lit 6 (by omega) rfl | exact atI_lit 7 (by omega) rfl)
local macro_rules | `(tactic| walk_at "at") => `(tactic| first | exact rfl | exact atI_ints (by walk_at "ar") (by walk_at "ar") | exact atI_strs (by walk_at "ar") (by walk_at "ar") | exact atI_refs (by walk_at "ar") (by walk_at "ar") | walk_at "lit" | exact atI_ilit (by walk_at "ar") (by walk_at "ar") rfl | exact atI_in (by walk_at "ar") (by walk_at "ar"))
local macro_rules | `(tactic| walk_at "ij") => `(tactic| first | exact rfl | exact ixN_in (by walk_at "ar") (by walk_at "ar"))
local macro_rules | `(tactic| walk_at "ls") => `(tactic| first | ((try simp only [List.set_cons_zero, List.set_cons_succ, set_ints]); exact rfl))
local macro_rules | `(tactic| walk_at "sl") => `(tactic| repeat (first | exact List.Sublist.refl _ | refine List.Sublist.cons_cons _ ?_ | refine List.Sublist.cons _ ?_))
local macro_rules | `(tactic| walk_at "cl") => `(tactic| assumption)
local macro_rules | `(tactic| walk_at "na") => `(tactic| assumption)
local macro_rules | `(tactic| walk_at "pf") => `(tactic| first
  | (apply pf_new; (· exact rfl); (· (simp only [List.cons_append, List.nil_append]; exact rfl)))
  | (apply pf_set 0; (· exact rfl); (· walk_at "ls")) | (apply pf_set 1; (· exact rfl); (· walk_at "ls")) | (apply pf_set 2; (· exact rfl); (· walk_at "ls")) | (apply pf_set 3; (· exact rfl); (· walk_at "ls"))
  | (apply pf_set 4; (· exact rfl); (· walk_at "ls")) | (apply pf_set 5; (· exact rfl); (· walk_at "ls")) | (apply pf_set 6; (· exact rfl); (· walk_at "ls")) | (apply pf_set 7; (· exact rfl); (· walk_at "ls")))
local macro_rules | `(tactic| walk_at "nw") => `(tactic| (clear hS; rename SH _ _ _ _ => hS))
local macro_rules | `(tactic| walk_at "pv") => `(tactic| first | exact rfl | exact last_snoc _ _ | assumption)
local macro_rules | `(tactic| walk_at "dl") => `(tactic| first | (simp only [List.dropLast_concat]; exact rfl) | exact rfl)
local macro_rules | `(tactic| walk_at "tri") => `(tactic| first | rfl | decide | (exfalso; omega))
local macro_rules | `(tactic| walk_at "ty") => `(tactic| first | exact .base .non | exact .base (.bl _) | exact .base (.int _) | exact .base (.str _) | exact .base (.lst (by walk_at "hp")) | exact .base (.tup (by walk_at "hp")) | exact .base (.dK (by walk_at "hp")) | exact tyT (by walk_at "sq") | exact tyL (by walk_at "sq"))
local macro_rules | `(tactic| walk_at "dp") => `(tactic| first | exact .non | exact .bl _ | exact .int _ | exact .str _ | (apply Dp.lst; (· walk_at "sq"); (· walk_at "dps")) | (apply Dp.tup; (· walk_at "sq"); (· walk_at "dps")))
local macro_rules | `(tactic| walk_at "dps") => `(tactic| first | exact DpAll.nil | (apply DpAll.cons; (· walk_at "dp"); (· walk_at "dps")))
local macro_rules | `(tactic| walk_at "st") => `(tactic| first
  | (with_reducible refine s_seq ?_)
  | (with_reducible refine s_try ?_)
  | (with_reducible refine s_callS ?_)
  | ((with_reducible refine s_raise ?_); (try dsimp only))
  | ((with_reducible apply s_wGn); (· walk_at "em"))
  | ((with_reducible apply s_wGy); (· walk_at "em"); intro ea hea)
  | ((with_reducible apply s_wGa); (· walk_at "em"); (intro ea hea; (try simp only [List.set_cons_succ, List.set_cons_zero])))
  | ((with_reducible apply s_isE); (· walk_at "ec"); (· walk_at "ki"))
  | ((with_reducible apply s_isEt); (· walk_at "ec"); (· walk_at "ki"))
  | ((with_reducible apply s_ixD); (· walk_at "dk"))
  | ((with_reducible show tVar _ _ _ _); refine s_var rfl ?_)
  | (with_reducible refine s_C ?_)
  | (with_reducible refine s_op ?_)
  | (with_reducible refine s_asg ?_)
  | ((with_reducible apply s_gname); (· walk_at "ls"))
  | (with_reducible refine s_gsub ?_)
  | (with_reducible refine s_ifS ?_)
  | (with_reducible refine s_next ?_)
  | (with_reducible refine s_ret ?_)
  | (with_reducible refine s_retN ?_)
  | (with_reducible refine s_drop ?_)
  | (with_reducible refine s_test ?_)
  | (with_reducible refine s_tB ?_)
  | (with_reducible refine s_bl ?_)
  | ((with_reducible apply s_ixL); (· walk_at "sq"); (· walk_at "at"))
  | ((with_reducible apply s_ixT); (· walk_at "sq"); (· walk_at "at"))
  | (with_reducible refine s_addI ?_)
  | (with_reducible refine s_rI0 ?_)
  | ((with_reducible apply s_addS); (· walk_at "szs"))
  | ((with_reducible apply s_inT0); (· walk_at "sq"); (· rfl); (· rfl))
  | ((with_reducible apply s_inL0); (· walk_at "sq"); (· rfl); (· rfl))
  | ((with_reducible apply s_niT0); (· walk_at "sq"); (· rfl); (· rfl))
  | ((with_reducible apply s_niL0); (· walk_at "sq"); (· rfl); (· rfl))
  | ((with_reducible refine s_mulR ?_ ?_); (· walk_at "ar"))
  | ((with_reducible refine s_mulL ?_ ?_); (· walk_at "ar"))
  | ((with_reducible refine s_mod ?_ ?_); (· walk_at "ar"))
  | ((with_reducible refine s_div ?_ ?_ ?_); (· walk_at "ar"); (· walk_at "ar"))
  | ((with_reducible refine s_divX ?_ ?_ ?_); (· walk_at "ar"); (· walk_at "ar"))
  | ((with_reducible refine s_modN ?_ ?_); (· walk_at "ar"))
  | (with_reducible refine s_int ?_)
  | (with_reducible refine s_intB ?_)
  | (with_reducible refine s_CB ?_)
  | (with_reducible refine s_cons ?_)
  | (with_reducible refine s_nil ?_)
  | (with_reducible refine s_call ?_)
  | (with_reducible refine s_un ?_)
  | (with_reducible refine s_rU ?_)
  | ((with_reducible apply s_lenL); (· walk_at "sq"))
  | ((with_reducible apply s_lenT); (· walk_at "sq"))
  | (with_reducible refine s_eqI ?_)
  | (with_reducible refine s_neI ?_)
  | (with_reducible refine s_eqS ?_)
  | (with_reducible refine s_neS ?_)
  | (with_reducible refine s_eqB ?_)
  | (with_reducible refine s_neB ?_)
  | ((with_reducible apply s_eqD); (· walk_at "dp"); (· walk_at "dp"); (· exact rfl); (· exact rfl); (· first | exact (rfl : _ = true) | exact (rfl : _ = false) | exact rfl))
  | ((with_reducible apply s_neD); (· walk_at "dp"); (· walk_at "dp"); (· exact rfl); (· exact rfl); (· first | exact (rfl : _ = true) | exact (rfl : _ = false) | exact rfl))
  | (with_reducible refine s_isN ?_)
  | (with_reducible refine s_isNotN ?_)
  | (with_reducible refine s_isB ?_)
  | (with_reducible refine s_isNotB ?_)
  | ((with_reducible apply s_isT); (· walk_at "ty"); (· decide +kernel))
  | ((with_reducible apply s_isF); (· walk_at "ty"); (· decide +kernel))
  | (with_reducible refine s_forR1 ?_)
  | (with_reducible refine s_forR2 ?_)
  | (with_reducible refine s_forL ?_)
  | (with_reducible refine s_forT ?_)
  | (with_reducible refine s_and ?_)
  | (with_reducible refine s_or ?_)
  | (with_reducible refine s_not ?_)
  | (with_reducible refine s_andV ?_)
  | (with_reducible refine s_orV ?_)
  | (with_reducible refine s_notV ?_)
  | (with_reducible refine s_if ?_)
  | (with_reducible refine s_chain ?_)
  | (with_reducible refine s_tup ?_)
  | (with_reducible refine s_lst ?_)
  | ((with_reducible apply s_pow); (· exact ⟨by decide, by decide, by decide⟩); (· (simp only [Int.reduceToNat, Int.reducePow]; exact rfl)))
  | (with_reducible refine s_fld ?_)
  | ((with_reducible apply h_fld hS); (· walk_at "hp"); (· walk_at "cl"); (· walk_at "na"); (· exact rfl))
  | (with_reducible refine s_sfld ?_)
  | (with_reducible refine s_gattr ?_)
  | ((with_reducible apply s_gtup); (· walk_at "sq"); (· exact rfl))
  | (with_reducible refine s_gcons ?_)
  | (with_reducible refine s_gnil ?_)
  | (with_reducible refine s_bm0 ?_)
  | (with_reducible refine s_bm ?_)
  | ((with_reducible apply s_bmL); (· walk_at "sq"))
  | ((with_reducible apply s_bmT); (· walk_at "tt"); (· exact rfl))
  | (with_reducible refine s_bmS ?_)
  | ((with_reducible apply s_sum); (· walk_at "sq"))
  | ((with_reducible apply s_all); (· walk_at "sq"))
  | ((with_reducible apply s_any); (· walk_at "sq"))
  | ((with_reducible apply s_maxL2); (· walk_at "sq"))
  | ((with_reducible apply s_minL2); (· walk_at "sq"))
  | ((with_reducible apply s_methO); (· walk_at "hp"); (· exact rfl))
  | ((with_reducible apply s_propO); (· walk_at "hp"))
  | (with_reducible refine h_make hS (fun x dx H1 hS1 => ?_); walk_at "nw")
  | (with_reducible refine s_abs ?_)
  | (with_reducible refine s_max2 ?_)
  | (with_reducible refine s_min2 ?_)
  | ((with_reducible refine h_new hS ?_ (fun p H1 hS1 hp => ?_)); (· walk_at "sz"); clear hS; rename SH _ _ _ _ => hS)
  | ((with_reducible apply s_rep1); (· walk_at "hp"); (· walk_at "ar"); (· first | (simp only [Int.reduceToNat]; exact rfl) | exact rfl))
  | ((with_reducible apply s_rep); (· walk_at "hp"); (· walk_at "ar"); (· walk_at "sz"); (· exact rfl))
  | ((with_reducible apply s_cat); (· walk_at "hp"); (· walk_at "hp"); (· walk_at "sz"); (· exact rfl))
  | ((with_reducible apply s_catA0); (· walk_at "sq"); (· walk_at "sq"); (· exact List.cons_ne_nil _ _); (· walk_at "sz"))
  | ((with_reducible apply s_catA); (· walk_at "sq"); (· walk_at "sq"); (· exact List.cons_ne_nil _ _); (· exact List.cons_ne_nil _ _); (· walk_at "sz"); (· exact rfl))
  | ((with_reducible apply s_listO); (· walk_at "sq"))
  | ((with_reducible apply s_listT); (· walk_at "sq"))
  | ((with_reducible apply s_tupL); (· walk_at "sq"))
  | ((with_reducible apply s_tupT); (· walk_at "sq"))
  | ((with_reducible apply h_setL hS); (· walk_at "ix"); (· walk_at "ij"); (· walk_at "ls"); (· walk_at "ls"); intro H1 hS1; clear hS; rename SH _ _ _ _ => hS)
  | ((with_reducible apply h_sfld hS); (· walk_at "ix"); (· walk_at "cl"); (· walk_at "na"); (· exact Nat.le_of_ble_eq_true rfl); (· walk_at "pf"); (· walk_at "ls"); intro H1 hS1; walk_at "nw")
  | ((with_reducible apply h_append hS); (· walk_at "ix"); (· walk_at "sz"); (· first | exact rfl); (· walk_at "ls"); intro H1 hS1; walk_at "nw")
  | ((with_reducible apply h_pop0 hS); (· walk_at "ix"); (· walk_at "ar"); intro pn pms H1 hpn hS1; walk_at "nw"; simp only [List.set_cons_zero, List.set_cons_succ] at hS)
  | ((with_reducible apply h_pop hS); (· walk_at "ix"); (· walk_at "pv"); (· walk_at "dl"); (· walk_at "ls"); intro H1 hS1; walk_at "nw")
  | (with_reducible refine s_sl ?_)
  | (with_reducible refine s_part ?_)
  | (with_reducible refine s_partI ?_)
  | (with_reducible refine s_noPart ?_)
  | ((with_reducible apply s_slL); (· walk_at "sq"); (· exact rfl))
  | (with_reducible refine s_lcR1 ?_)
  | (with_reducible refine s_lcL ?_)
  | (with_reducible refine s_lcLG ?_)
  | ((with_reducible refine s_wipe ?_ ?_); (· exact rfl))
  | (with_reducible refine s_tYes ?_)
  | ((with_reducible apply h_lcEnd hS); (· walk_at "ix"); (· walk_at "sz"); (· first | exact rfl); (· walk_at "ls"); intro H1 hS1; walk_at "nw")
  | (with_reducible refine i_not ?_)
  | ((with_reducible refine i_pos ?_ ?_); (· first | rfl | decide | exact decide_eq_true (by omega)))
  | ((with_reducible refine i_neg ?_ ?_); (· first | rfl | decide | exact decide_eq_false (by omega)))
  | (with_reducible refine i_dec (fun hc => ?_) (fun hc => ?_))
  | (with_reducible refine i_gen (fun hc => ?_) (fun hc => ?_)))
def top (i : Nat) : Stmt := PySem.Challenge.pw_windowada_k53_sound_assignments.main.body.getD i (.Pass ⟨0, 0, 0, 0⟩)
abbrev s_Unit_init__ : Stmt := inClass (top 6) 0
abbrev s_Module_init__ : Stmt := inClass (top 7) 0
abbrev s_operands : Stmt := top 8
abbrev s_reads : Stmt := top 9
abbrev s_writes : Stmt := top 10
abbrev s_can_raise : Stmt := top 11
abbrev s_followers : Stmt := top 12
abbrev s_region_of : Stmt := top 13
abbrev s_grow : Stmt := top 15
abbrev s_live : Stmt := top 16
abbrev s_live_behind : Stmt := top 17
abbrev s_add_pairs : Stmt := top 21
abbrev s_conflicts : Stmt := top 22
abbrev s_used_registers : Stmt := top 23
abbrev s_candidate : Stmt := top 24
abbrev s_first_free : Stmt := top 25
abbrev s_assign : Stmt := top 26
abbrev s_is_sound : Stmt := top 27
abbrev s_z_start : Stmt := top 29
abbrev s_z_take : Stmt := top 30
abbrev s_z_place : Stmt := top 31
abbrev s_z_operand : Stmt := top 32
abbrev s_z_target : Stmt := top 33
abbrev s_z_around : Stmt := top 34
abbrev s_z_memory : Stmt := top 35
abbrev s_z_call : Stmt := top 36
abbrev s_z_instruction : Stmt := top 37
abbrev s_z_regions : Stmt := top 38
abbrev s_z_unit : Stmt := top 39
abbrev s_z_shapes : Stmt := top 40
abbrev s_z_module : Stmt := top 41
abbrev s_z_operands : Stmt := top 42
abbrev s_z_reads : Stmt := top 43
abbrev s_z_writes : Stmt := top 44
abbrev s_z_onward : Stmt := top 45
abbrev s_z_ways : Stmt := top 46
abbrev s_z_live : Stmt := top 47
abbrev s_z_pairs : Stmt := top 48
abbrev s_z_conflicts : Stmt := top 49
abbrev s_z_used : Stmt := top 50
abbrev s_z_sound : Stmt := top 51
abbrev s_z_is_place : Stmt := top 52
abbrev s_z_changed : Stmt := top 53
abbrev s_law : Stmt := top 54
abbrev N_Unit_init__ : List Str := ["self", "parent", "arguments", "results", "registers", "cells", "code", "regions"]
theorem st_Unit_init__ (a0 a1 a2 a3 a4 a5 a6 a7 : V) : L2.start N_Unit_init__ [a0, a1, a2, a3, a4, a5, a6, a7] = [some a0, some a1, some a2, some a3, some a4, some a5, some a6, some a7] := rfl
theorem sc_Unit_init__ : FnScope N_Unit_init__ ["self", "parent", "arguments", "results", "registers", "cells", "code", "regions"] (defScope s_Unit_init__) := ⟨rfl, rfl, rfl, by decide +kernel, rfl, by decide +kernel, by decide +kernel⟩
abbrev N_Module_init__ : List Str := ["self", "units", "names", "places"]
theorem st_Module_init__ (a0 a1 a2 a3 : V) : L2.start N_Module_init__ [a0, a1, a2, a3] = [some a0, some a1, some a2, some a3] := rfl
theorem sc_Module_init__ : FnScope N_Module_init__ ["self", "units", "names", "places"] (defScope s_Module_init__) := ⟨rfl, rfl, rfl, by decide +kernel, rfl, by decide +kernel, by decide +kernel⟩
abbrev N_operands : List Str := ["instruction", "name"]
theorem st_operands (a0 : V) : L2.start N_operands [a0] = [some a0, none] := rfl
theorem sc_operands : FnScope N_operands ["instruction"] (defScope s_operands) := ⟨rfl, rfl, rfl, by decide +kernel, rfl, by decide +kernel, by decide +kernel⟩
abbrev N_reads : List Str := ["instruction", "operand"]
theorem st_reads (a0 : V) : L2.start N_reads [a0] = [some a0, none] := rfl
theorem sc_reads : FnScope N_reads ["instruction"] (defScope s_reads) := ⟨rfl, rfl, rfl, by decide +kernel, rfl, by decide +kernel, by decide +kernel⟩
abbrev N_writes : List Str := ["instruction", "name"]
theorem st_writes (a0 : V) : L2.start N_writes [a0] = [some a0, none] := rfl
theorem sc_writes : FnScope N_writes ["instruction"] (defScope s_writes) := ⟨rfl, rfl, rfl, by decide +kernel, rfl, by decide +kernel, by decide +kernel⟩
abbrev N_can_raise : List Str := ["instruction"]
theorem st_can_raise (a0 : V) : L2.start N_can_raise [a0] = [some a0] := rfl
theorem sc_can_raise : FnScope N_can_raise ["instruction"] (defScope s_can_raise) := ⟨rfl, rfl, rfl, by decide +kernel, rfl, by decide +kernel, by decide +kernel⟩
abbrev N_followers : List Str := ["instruction", "index", "name"]
theorem st_followers (a0 a1 : V) : L2.start N_followers [a0, a1] = [some a0, some a1, none] := rfl
theorem sc_followers : FnScope N_followers ["instruction", "index"] (defScope s_followers) := ⟨rfl, rfl, rfl, by decide +kernel, rfl, by decide +kernel, by decide +kernel⟩
abbrev N_region_of : List Str := ["unit", "index", "region"]
theorem st_region_of (a0 a1 : V) : L2.start N_region_of [a0, a1] = [some a0, some a1, none] := rfl
theorem sc_region_of : FnScope N_region_of ["unit", "index"] (defScope s_region_of) := ⟨rfl, rfl, rfl, by decide +kernel, rfl, by decide +kernel, by decide +kernel⟩
abbrev N_grow : List Str := ["unit", "rows", "index", "instruction", "row", "before", "number", "written", "following", "region"]
theorem st_grow (a0 a1 a2 : V) : L2.start N_grow [a0, a1, a2] = [some a0, some a1, some a2, none, none, none, none, none, none, none] := rfl
theorem sc_grow : FnScope N_grow ["unit", "rows", "index"] (defScope s_grow) := ⟨rfl, rfl, rfl, by decide +kernel, rfl, by decide +kernel, by decide +kernel⟩
abbrev N_live : List Str := ["unit", "index", "rows", "grew", "row"]
theorem st_live (a0 : V) : L2.start N_live [a0] = [some a0, none, none, none, none] := rfl
theorem sc_live : FnScope N_live ["unit"] (defScope s_live) := ⟨rfl, rfl, rfl, by decide +kernel, rfl, by decide +kernel, by decide +kernel⟩
abbrev N_live_behind : List Str := ["unit", "rows", "index", "found", "following", "number"]
theorem st_live_behind (a0 a1 a2 : V) : L2.start N_live_behind [a0, a1, a2] = [some a0, some a1, some a2, none, none, none] := rfl
theorem sc_live_behind : FnScope N_live_behind ["unit", "rows", "index"] (defScope s_live_behind) := ⟨rfl, rfl, rfl, by decide +kernel, rfl, by decide +kernel, by decide +kernel⟩
abbrev N_add_pairs : List Str := ["found", "first", "second", "one", "other"]
theorem st_add_pairs (a0 a1 a2 : V) : L2.start N_add_pairs [a0, a1, a2] = [some a0, some a1, some a2, none, none] := rfl
theorem sc_add_pairs : FnScope N_add_pairs ["found", "first", "second"] (defScope s_add_pairs) := ⟨rfl, rfl, rfl, by decide +kernel, rfl, by decide +kernel, by decide +kernel⟩
abbrev N_conflicts : List Str := ["unit", "rows", "number", "found", "index", "row", "written", "start", "stop", "entry", "number_register", "place_register", "pair"]
theorem st_conflicts (a0 : V) : L2.start N_conflicts [a0] = [some a0, none, none, none, none, none, none, none, none, none, none, none, none] := rfl
theorem sc_conflicts : FnScope N_conflicts ["unit"] (defScope s_conflicts) := ⟨rfl, rfl, rfl, by decide +kernel, rfl, by decide +kernel, by decide +kernel⟩
abbrev N_used_registers : List Str := ["unit", "found", "instruction", "number"]
theorem st_used_registers (a0 : V) : L2.start N_used_registers [a0] = [some a0, none, none, none] := rfl
theorem sc_used_registers : FnScope N_used_registers ["unit"] (defScope s_used_registers) := ⟨rfl, rfl, rfl, by decide +kernel, rfl, by decide +kernel, by decide +kernel⟩
abbrev N_candidate : List Str := ["at"]
theorem st_candidate (a0 : V) : L2.start N_candidate [a0] = [some a0] := rfl
theorem sc_candidate : FnScope N_candidate ["at"] (defScope s_candidate) := ⟨rfl, rfl, rfl, by decide +kernel, rfl, by decide +kernel, by decide +kernel⟩
abbrev N_first_free : List Str := ["taken", "at"]
theorem st_first_free (a0 : V) : L2.start N_first_free [a0] = [some a0, none] := rfl
theorem sc_first_free : FnScope N_first_free ["taken"] (defScope s_first_free) := ⟨rfl, rfl, rfl, by decide +kernel, rfl, by decide +kernel, by decide +kernel⟩
abbrev N_assign : List Str := ["unit", "others", "places", "first", "number", "other"]
theorem st_assign (a0 : V) : L2.start N_assign [a0] = [some a0, none, none, none, none, none] := rfl
theorem sc_assign : FnScope N_assign ["unit"] (defScope s_assign) := ⟨rfl, rfl, rfl, by decide +kernel, rfl, by decide +kernel, by decide +kernel⟩
abbrev N_is_sound : List Str := ["unit", "assignment", "used", "first", "others", "number", "place", "other"]
theorem st_is_sound (a0 a1 : V) : L2.start N_is_sound [a0, a1] = [some a0, some a1, none, none, none, none, none, none] := rfl
theorem sc_is_sound : FnScope N_is_sound ["unit", "assignment"] (defScope s_is_sound) := ⟨rfl, rfl, rfl, by decide +kernel, rfl, by decide +kernel, by decide +kernel⟩
abbrev N_z_start : List Str := ["_law_script", "_law_great", "_law_seed", "_law_cell", "_law_state"]
theorem st_z_start (a0 : V) : L2.start N_z_start [a0] = [some a0, none, none, none, none] := rfl
theorem sc_z_start : FnScope N_z_start ["_law_script"] (defScope s_z_start) := ⟨rfl, rfl, rfl, by decide +kernel, rfl, by decide +kernel, by decide +kernel⟩
abbrev N_z_take : List Str := ["_law_state", "_law_many", "_law_digit", "_law_mixed"]
theorem st_z_take (a0 a1 : V) : L2.start N_z_take [a0, a1] = [some a0, some a1, none, none] := rfl
theorem sc_z_take : FnScope N_z_take ["_law_state", "_law_many"] (defScope s_z_take) := ⟨rfl, rfl, rfl, by decide +kernel, rfl, by decide +kernel, by decide +kernel⟩
abbrev N_z_place : List Str := ["_law_state"]
theorem st_z_place (a0 : V) : L2.start N_z_place [a0] = [some a0] := rfl
theorem sc_z_place : FnScope N_z_place ["_law_state"] (defScope s_z_place) := ⟨rfl, rfl, rfl, by decide +kernel, rfl, by decide +kernel, by decide +kernel⟩
abbrev N_z_operand : List Str := ["_law_state", "_law_shape"]
theorem st_z_operand (a0 a1 : V) : L2.start N_z_operand [a0, a1] = [some a0, some a1] := rfl
theorem sc_z_operand : FnScope N_z_operand ["_law_state", "_law_shape"] (defScope s_z_operand) := ⟨rfl, rfl, rfl, by decide +kernel, rfl, by decide +kernel, by decide +kernel⟩
abbrev N_z_target : List Str := ["_law_state", "_law_index", "_law_ticks", "_law_target_here"]
theorem st_z_target (a0 a1 a2 : V) : L2.start N_z_target [a0, a1, a2] = [some a0, some a1, some a2, none] := rfl
theorem sc_z_target : FnScope N_z_target ["_law_state", "_law_index", "_law_ticks"] (defScope s_z_target) := ⟨rfl, rfl, rfl, by decide +kernel, rfl, by decide +kernel, by decide +kernel⟩
abbrev N_z_around : List Str := ["_law_shapes_here", "_law_number", "_law_hops", "_law_k"]
theorem st_z_around (a0 a1 a2 : V) : L2.start N_z_around [a0, a1, a2] = [some a0, some a1, some a2, none] := rfl
theorem sc_z_around : FnScope N_z_around ["_law_shapes_here", "_law_number", "_law_hops"] (defScope s_z_around) := ⟨rfl, rfl, rfl, by decide +kernel, rfl, by decide +kernel, by decide +kernel⟩
abbrev N_z_memory : List Str := ["_law_state", "_law_shapes_here", "_law_number", "_law_shape", "_law_hops", "_law_cells", "_law_cell", "_law_count", "_law_element"]
theorem st_z_memory (a0 a1 a2 : V) : L2.start N_z_memory [a0, a1, a2] = [some a0, some a1, some a2, none, none, none, none, none, none] := rfl
theorem sc_z_memory : FnScope N_z_memory ["_law_state", "_law_shapes_here", "_law_number"] (defScope s_z_memory) := ⟨rfl, rfl, rfl, by decide +kernel, rfl, by decide +kernel, by decide +kernel⟩
abbrev N_z_call : List Str := ["_law_state", "_law_shapes_here", "_law_number", "_law_shape", "_law_hops", "_law_parent", "_law_k", "_law_called", "_law_other", "_law_given", "_law_first", "_law_results"]
theorem st_z_call (a0 a1 a2 : V) : L2.start N_z_call [a0, a1, a2] = [some a0, some a1, some a2, none, none, none, none, none, none, none, none, none] := rfl
theorem sc_z_call : FnScope N_z_call ["_law_state", "_law_shapes_here", "_law_number"] (defScope s_z_call) := ⟨rfl, rfl, rfl, by decide +kernel, rfl, by decide +kernel, by decide +kernel⟩
abbrev N_z_instruction : List Str := ["_law_state", "_law_shapes_here", "_law_number", "_law_index", "_law_ticks", "_law_regions_here", "_law_shape", "_law_kind", "_law_d", "_law_p", "_law_x", "_law_op", "_law_low", "_law_region", "_law_k"]
theorem st_z_instruction (a0 a1 a2 a3 a4 a5 : V) : L2.start N_z_instruction [a0, a1, a2, a3, a4, a5] = [some a0, some a1, some a2, some a3, some a4, some a5, none, none, none, none, none, none, none, none, none] := rfl
theorem sc_z_instruction : FnScope N_z_instruction ["_law_state", "_law_shapes_here", "_law_number", "_law_index", "_law_ticks", "_law_regions_here"] (defScope s_z_instruction) := ⟨rfl, rfl, rfl, by decide +kernel, rfl, by decide +kernel, by decide +kernel⟩
abbrev N_z_regions : List Str := ["_law_state", "_law_shape", "_law_size", "_law_regions_here", "_law_k", "_law_start_here", "_law_stop", "_law_entry", "_law_first", "_law_second"]
theorem st_z_regions (a0 a1 a2 : V) : L2.start N_z_regions [a0, a1, a2] = [some a0, some a1, some a2, none, none, none, none, none, none, none] := rfl
theorem sc_z_regions : FnScope N_z_regions ["_law_state", "_law_shape", "_law_size"] (defScope s_z_regions) := ⟨rfl, rfl, rfl, by decide +kernel, rfl, by decide +kernel, by decide +kernel⟩
abbrev N_z_unit : List Str := ["_law_state", "_law_shapes_here", "_law_number", "_law_shape", "_law_wide", "_law_size", "_law_ticks", "_law_index", "_law_regions_here", "_law_bare", "_law_code", "_law_k", "_law_last", "_law_ends"]
theorem st_z_unit (a0 a1 a2 : V) : L2.start N_z_unit [a0, a1, a2] = [some a0, some a1, some a2, none, none, none, none, none, none, none, none, none, none, none] := rfl
theorem sc_z_unit : FnScope N_z_unit ["_law_state", "_law_shapes_here", "_law_number"] (defScope s_z_unit) := ⟨rfl, rfl, rfl, by decide +kernel, rfl, by decide +kernel, by decide +kernel⟩
abbrev N_z_shapes : List Str := ["_law_state", "_law_shapes_here", "_law_more", "_law_number", "_law_parent", "_law_level", "_law_arguments", "_law_results", "_law_registers"]
theorem st_z_shapes (a0 : V) : L2.start N_z_shapes [a0] = [some a0, none, none, none, none, none, none, none, none] := rfl
theorem sc_z_shapes : FnScope N_z_shapes ["_law_state"] (defScope s_z_shapes) := ⟨rfl, rfl, rfl, by decide +kernel, rfl, by decide +kernel, by decide +kernel⟩
abbrev N_z_module : List Str := ["_law_state", "_law_shapes_here", "_law_number", "_law_units", "_law_names", "_law_k", "_law_places"]
theorem st_z_module (a0 : V) : L2.start N_z_module [a0] = [some a0, none, none, none, none, none, none] := rfl
theorem sc_z_module : FnScope N_z_module ["_law_state"] (defScope s_z_module) := ⟨rfl, rfl, rfl, by decide +kernel, rfl, by decide +kernel, by decide +kernel⟩
abbrev N_z_operands : List Str := ["_law_instruction_here", "_law_name"]
theorem st_z_operands (a0 : V) : L2.start N_z_operands [a0] = [some a0, none] := rfl
theorem sc_z_operands : FnScope N_z_operands ["_law_instruction_here"] (defScope s_z_operands) := ⟨rfl, rfl, rfl, by decide +kernel, rfl, by decide +kernel, by decide +kernel⟩
abbrev N_z_reads : List Str := ["_law_instruction_here", "_law_operand_here"]
theorem st_z_reads (a0 : V) : L2.start N_z_reads [a0] = [some a0, none] := rfl
theorem sc_z_reads : FnScope N_z_reads ["_law_instruction_here"] (defScope s_z_reads) := ⟨rfl, rfl, rfl, by decide +kernel, rfl, by decide +kernel, by decide +kernel⟩
abbrev N_z_writes : List Str := ["_law_instruction_here"]
theorem st_z_writes (a0 : V) : L2.start N_z_writes [a0] = [some a0] := rfl
theorem sc_z_writes : FnScope N_z_writes ["_law_instruction_here"] (defScope s_z_writes) := ⟨rfl, rfl, rfl, by decide +kernel, rfl, by decide +kernel, by decide +kernel⟩
abbrev N_z_onward : List Str := ["_law_unit_here", "_law_index", "_law_instruction_here"]
theorem st_z_onward (a0 a1 : V) : L2.start N_z_onward [a0, a1] = [some a0, some a1, none] := rfl
theorem sc_z_onward : FnScope N_z_onward ["_law_unit_here", "_law_index"] (defScope s_z_onward) := ⟨rfl, rfl, rfl, by decide +kernel, rfl, by decide +kernel, by decide +kernel⟩
abbrev N_z_ways : List Str := ["_law_unit_here", "_law_index", "_law_instruction_here", "_law_following", "_law_ways_here", "_law_raising", "_law_region"]
theorem st_z_ways (a0 a1 : V) : L2.start N_z_ways [a0, a1] = [some a0, some a1, none, none, none, none, none] := rfl
theorem sc_z_ways : FnScope N_z_ways ["_law_unit_here", "_law_index"] (defScope s_z_ways) := ⟨rfl, rfl, rfl, by decide +kernel, rfl, by decide +kernel, by decide +kernel⟩
abbrev N_z_live : List Str := ["_law_unit_here", "_law_size", "_law_instruction_here", "_law_k", "_law_rows", "_law_index", "_law_ways_here", "_law_turn", "_law_grew", "_law_back", "_law_way", "_law_row"]
theorem st_z_live (a0 : V) : L2.start N_z_live [a0] = [some a0, none, none, none, none, none, none, none, none, none, none, none] := rfl
theorem sc_z_live : FnScope N_z_live ["_law_unit_here"] (defScope s_z_live) := ⟨rfl, rfl, rfl, by decide +kernel, rfl, by decide +kernel, by decide +kernel⟩
abbrev N_z_pairs : List Str := ["_law_found", "_law_first", "_law_second", "_law_one", "_law_other", "_law_row"]
theorem st_z_pairs (a0 a1 a2 : V) : L2.start N_z_pairs [a0, a1, a2] = [some a0, some a1, some a2, none, none, none] := rfl
theorem sc_z_pairs : FnScope N_z_pairs ["_law_found", "_law_first", "_law_second"] (defScope s_z_pairs) := ⟨rfl, rfl, rfl, by decide +kernel, rfl, by decide +kernel, by decide +kernel⟩
abbrev N_z_conflicts : List Str := ["_law_unit_here", "_law_row", "_law_k", "_law_live_here", "_law_found", "_law_index", "_law_written", "_law_following", "_law_region"]
theorem st_z_conflicts (a0 : V) : L2.start N_z_conflicts [a0] = [some a0, none, none, none, none, none, none, none, none] := rfl
theorem sc_z_conflicts : FnScope N_z_conflicts ["_law_unit_here"] (defScope s_z_conflicts) := ⟨rfl, rfl, rfl, by decide +kernel, rfl, by decide +kernel, by decide +kernel⟩
abbrev N_z_used : List Str := ["_law_unit_here", "_law_used_here", "_law_instruction_here"]
theorem st_z_used (a0 : V) : L2.start N_z_used [a0] = [some a0, none, none] := rfl
theorem sc_z_used : FnScope N_z_used ["_law_unit_here"] (defScope s_z_used) := ⟨rfl, rfl, rfl, by decide +kernel, rfl, by decide +kernel, by decide +kernel⟩
abbrev N_z_sound : List Str := ["_law_unit_here", "_law_assignment", "_law_used_here", "_law_first", "_law_found", "_law_number", "_law_place_here", "_law_other"]
theorem st_z_sound (a0 a1 : V) : L2.start N_z_sound [a0, a1] = [some a0, some a1, none, none, none, none, none, none] := rfl
theorem sc_z_sound : FnScope N_z_sound ["_law_unit_here", "_law_assignment"] (defScope s_z_sound) := ⟨rfl, rfl, rfl, by decide +kernel, rfl, by decide +kernel, by decide +kernel⟩
abbrev N_z_is_place : List Str := ["_law_place_here"]
theorem st_z_is_place (a0 : V) : L2.start N_z_is_place [a0] = [some a0] := rfl
theorem sc_z_is_place : FnScope N_z_is_place ["_law_place_here"] (defScope s_z_is_place) := ⟨rfl, rfl, rfl, by decide +kernel, rfl, by decide +kernel, by decide +kernel⟩
abbrev N_z_changed : List Str := ["_law_state", "_law_assignment", "_law_changed_here", "_law_k", "_law_at", "_law_kind", "_law_slot"]
theorem st_z_changed (a0 a1 : V) : L2.start N_z_changed [a0, a1] = [some a0, some a1, none, none, none, none, none] := rfl
theorem sc_z_changed : FnScope N_z_changed ["_law_state", "_law_assignment"] (defScope s_z_changed) := ⟨rfl, rfl, rfl, by decide +kernel, rfl, by decide +kernel, by decide +kernel⟩
abbrev N_law : List Str := ["_law_script", "_law_state", "_law_module_here", "_law_unit_here", "_law_assignment", "_law_place_here", "_law_changed_here", "_law_told"]
theorem st_law (a0 : V) : L2.start N_law [a0] = [some a0, none, none, none, none, none, none, none] := rfl
theorem sc_law : FnScope N_law ["_law_script"] (defScope s_law) := ⟨rfl, rfl, rfl, by decide +kernel, rfl, by decide +kernel, by decide +kernel⟩
structure Env (w : World) (K : PySem.W.Frag) (mg : Str → Option Value) : Prop where
  mg_operands : mg "operands" = some (.ref (He.ga K "operands"))
  mg_reads : mg "reads" = some (.ref (He.ga K "reads"))
  mg_writes : mg "writes" = some (.ref (He.ga K "writes"))
  mg_can_raise : mg "can_raise" = some (.ref (He.ga K "can_raise"))
  mg_followers : mg "followers" = some (.ref (He.ga K "followers"))
  mg_region_of : mg "region_of" = some (.ref (He.ga K "region_of"))
  mg_grow : mg "grow" = some (.ref (He.ga K "grow"))
  mg_live : mg "live" = some (.ref (He.ga K "live"))
  mg_live_behind : mg "live_behind" = some (.ref (He.ga K "live_behind"))
  mg_add_pairs : mg "add_pairs" = some (.ref (He.ga K "add_pairs"))
  mg_conflicts : mg "conflicts" = some (.ref (He.ga K "conflicts"))
  mg_used_registers : mg "used_registers" = some (.ref (He.ga K "used_registers"))
  mg_candidate : mg "candidate" = some (.ref (He.ga K "candidate"))
  mg_first_free : mg "first_free" = some (.ref (He.ga K "first_free"))
  mg_assign : mg "assign" = some (.ref (He.ga K "assign"))
  mg_is_sound : mg "is_sound" = some (.ref (He.ga K "is_sound"))
  mg_z_start : mg "_law_start" = some (.ref (He.ga K "_law_start"))
  mg_z_take : mg "_law_take" = some (.ref (He.ga K "_law_take"))
  mg_z_place : mg "_law_place" = some (.ref (He.ga K "_law_place"))
  mg_z_operand : mg "_law_operand" = some (.ref (He.ga K "_law_operand"))
  mg_z_target : mg "_law_target" = some (.ref (He.ga K "_law_target"))
  mg_z_around : mg "_law_around" = some (.ref (He.ga K "_law_around"))
  mg_z_memory : mg "_law_memory" = some (.ref (He.ga K "_law_memory"))
  mg_z_call : mg "_law_call" = some (.ref (He.ga K "_law_call"))
  mg_z_instruction : mg "_law_instruction" = some (.ref (He.ga K "_law_instruction"))
  mg_z_regions : mg "_law_regions" = some (.ref (He.ga K "_law_regions"))
  mg_z_unit : mg "_law_unit" = some (.ref (He.ga K "_law_unit"))
  mg_z_shapes : mg "_law_shapes" = some (.ref (He.ga K "_law_shapes"))
  mg_z_module : mg "_law_module" = some (.ref (He.ga K "_law_module"))
  mg_z_operands : mg "_law_operands" = some (.ref (He.ga K "_law_operands"))
  mg_z_reads : mg "_law_reads" = some (.ref (He.ga K "_law_reads"))
  mg_z_writes : mg "_law_writes" = some (.ref (He.ga K "_law_writes"))
  mg_z_onward : mg "_law_onward" = some (.ref (He.ga K "_law_onward"))
  mg_z_ways : mg "_law_ways" = some (.ref (He.ga K "_law_ways"))
  mg_z_live : mg "_law_live" = some (.ref (He.ga K "_law_live"))
  mg_z_pairs : mg "_law_pairs" = some (.ref (He.ga K "_law_pairs"))
  mg_z_conflicts : mg "_law_conflicts" = some (.ref (He.ga K "_law_conflicts"))
  mg_z_used : mg "_law_used" = some (.ref (He.ga K "_law_used"))
  mg_z_sound : mg "_law_sound" = some (.ref (He.ga K "_law_sound"))
  mg_z_is_place : mg "_law_is_place" = some (.ref (He.ga K "_law_is_place"))
  mg_z_changed : mg "_law_changed" = some (.ref (He.ga K "_law_changed"))
  mg_law : mg "law" = some (.ref (He.ga K "law"))
  mg_Unit : mg "Unit" = some (.ref (He.ga K "Unit"))
  cl_Unit : Cls K (He.ga K "Unit")
  mk_Unit : Mk K (He.ga K "Unit") (He.ma K (He.ga K "Unit") "__init__")
  na_Unit_parent : NoAttr K (He.ga K "Unit") "parent"
  na_Unit_arguments : NoAttr K (He.ga K "Unit") "arguments"
  na_Unit_results : NoAttr K (He.ga K "Unit") "results"
  na_Unit_registers : NoAttr K (He.ga K "Unit") "registers"
  na_Unit_cells : NoAttr K (He.ga K "Unit") "cells"
  na_Unit_code : NoAttr K (He.ga K "Unit") "code"
  na_Unit_regions : NoAttr K (He.ga K "Unit") "regions"
  mg_Module : mg "Module" = some (.ref (He.ga K "Module"))
  cl_Module : Cls K (He.ga K "Module")
  mk_Module : Mk K (He.ga K "Module") (He.ma K (He.ga K "Module") "__init__")
  na_Module_units : NoAttr K (He.ga K "Module") "units"
  na_Module_names : NoAttr K (He.ga K "Module") "names"
  na_Module_places : NoAttr K (He.ga K "Module") "places"
  mg_ARITHMETIC : mg "ARITHMETIC" = some (.ref (He.ga K "ARITHMETIC"))
  dk_ARITHMETIC : ∀ q ∈ ([("add", .str "+"), ("sub", .str "-"), ("mul", .str "*"), ("div", .str "/"), ("mod", .str "mod"), ("rem", .str "rem")] : List (Str × He.Dv)), KDct K w (He.ga K "ARITHMETIC") q.1 (q.2.v K)
  di_ARITHMETIC : ∀ q ∈ ([("tick", false), ("move", false), ("neg", false), ("abs", false), ("add", true), ("sub", true), ("mul", true), ("div", true), ("mod", true), ("rem", true), ("less", false), ("equal", false), ("check", false), ("load", false), ("store", false), ("jump", false), ("branch", false), ("call", false), ("return", false), ("raise", false), ("again", false), ("put", false), ("get", false)] : List (Str × Bool)), KIn K w (He.ga K "ARITHMETIC") q.1 q.2
  mg_SIGNS : mg "SIGNS" = some (.ref (He.ga K "SIGNS"))
  tp_SIGNS : ∀ H : Hp, SqT K H (He.ga K "SIGNS") [V.str "neg", V.str "abs"]
  mg_RELATIONS : mg "RELATIONS" = some (.ref (He.ga K "RELATIONS"))
  tp_RELATIONS : ∀ H : Hp, SqT K H (He.ga K "RELATIONS") [V.str "less", V.str "equal"]
  mg_RAISING : mg "RAISING" = some (.ref (He.ga K "RAISING"))
  tp_RAISING : ∀ H : Hp, SqT K H (He.ga K "RAISING") [V.str "neg", V.str "abs", V.str "add", V.str "sub", V.str "mul", V.str "div", V.str "mod", V.str "rem", V.str "check", V.str "call", V.str "raise", V.str "again", V.str "get"]
  mg_ENDING : mg "ENDING" = some (.ref (He.ga K "ENDING"))
  tp_ENDING : ∀ H : Hp, SqT K H (He.ga K "ENDING") [V.str "jump", V.str "return", V.str "raise", V.str "again"]
  c_LOCALS : ∃ t, mg "LOCALS" = some (.int (8) t)
  c_INS : ∃ t, mg "INS" = some (.int (6) t)
  z_bool : mg "bool" = none
  z_enumerate : mg "enumerate" = none
  z_int : mg "int" = none
  z_isinstance : mg "isinstance" = none
  z_len : mg "len" = none
  z_list : mg "list" = none
  z_range : mg "range" = none
  z_sorted : mg "sorted" = none
  z_str : mg "str" = none
  z_tuple : mg "tuple" = none
  fd_Unit_init__ : ∃ fd, FunD K "__init__" "Unit.__init__" (defArgs s_Unit_init__) (defBody s_Unit_init__) (defScope s_Unit_init__) [] [] (He.fAd K ("Unit", some "__init__")) fd
  fd_Module_init__ : ∃ fd, FunD K "__init__" "Module.__init__" (defArgs s_Module_init__) (defBody s_Module_init__) (defScope s_Module_init__) [] [] (He.fAd K ("Module", some "__init__")) fd
  fd_operands : ∃ fd, FunD K "operands" "operands" (defArgs s_operands) (defBody s_operands) (defScope s_operands) [] [] (He.fAd K ("operands", none)) fd
  fd_reads : ∃ fd, FunD K "reads" "reads" (defArgs s_reads) (defBody s_reads) (defScope s_reads) [] [] (He.fAd K ("reads", none)) fd
  fd_writes : ∃ fd, FunD K "writes" "writes" (defArgs s_writes) (defBody s_writes) (defScope s_writes) [] [] (He.fAd K ("writes", none)) fd
  fd_can_raise : ∃ fd, FunD K "can_raise" "can_raise" (defArgs s_can_raise) (defBody s_can_raise) (defScope s_can_raise) [] [] (He.fAd K ("can_raise", none)) fd
  fd_followers : ∃ fd, FunD K "followers" "followers" (defArgs s_followers) (defBody s_followers) (defScope s_followers) [] [] (He.fAd K ("followers", none)) fd
  fd_region_of : ∃ fd, FunD K "region_of" "region_of" (defArgs s_region_of) (defBody s_region_of) (defScope s_region_of) [] [] (He.fAd K ("region_of", none)) fd
  fd_grow : ∃ fd, FunD K "grow" "grow" (defArgs s_grow) (defBody s_grow) (defScope s_grow) [] [] (He.fAd K ("grow", none)) fd
  fd_live : ∃ fd, FunD K "live" "live" (defArgs s_live) (defBody s_live) (defScope s_live) [] [] (He.fAd K ("live", none)) fd
  fd_live_behind : ∃ fd, FunD K "live_behind" "live_behind" (defArgs s_live_behind) (defBody s_live_behind) (defScope s_live_behind) [] [] (He.fAd K ("live_behind", none)) fd
  fd_add_pairs : ∃ fd, FunD K "add_pairs" "add_pairs" (defArgs s_add_pairs) (defBody s_add_pairs) (defScope s_add_pairs) [] [] (He.fAd K ("add_pairs", none)) fd
  fd_conflicts : ∃ fd, FunD K "conflicts" "conflicts" (defArgs s_conflicts) (defBody s_conflicts) (defScope s_conflicts) [] [] (He.fAd K ("conflicts", none)) fd
  fd_used_registers : ∃ fd, FunD K "used_registers" "used_registers" (defArgs s_used_registers) (defBody s_used_registers) (defScope s_used_registers) [] [] (He.fAd K ("used_registers", none)) fd
  fd_candidate : ∃ fd, FunD K "candidate" "candidate" (defArgs s_candidate) (defBody s_candidate) (defScope s_candidate) [] [] (He.fAd K ("candidate", none)) fd
  fd_first_free : ∃ fd, FunD K "first_free" "first_free" (defArgs s_first_free) (defBody s_first_free) (defScope s_first_free) [] [] (He.fAd K ("first_free", none)) fd
  fd_assign : ∃ fd, FunD K "assign" "assign" (defArgs s_assign) (defBody s_assign) (defScope s_assign) [] [] (He.fAd K ("assign", none)) fd
  fd_is_sound : ∃ fd, FunD K "is_sound" "is_sound" (defArgs s_is_sound) (defBody s_is_sound) (defScope s_is_sound) [] [] (He.fAd K ("is_sound", none)) fd
  fd_z_start : ∃ fd, FunD K "_law_start" "_law_start" (defArgs s_z_start) (defBody s_z_start) (defScope s_z_start) [] [] (He.fAd K ("_law_start", none)) fd
  fd_z_take : ∃ fd, FunD K "_law_take" "_law_take" (defArgs s_z_take) (defBody s_z_take) (defScope s_z_take) [] [] (He.fAd K ("_law_take", none)) fd
  fd_z_place : ∃ fd, FunD K "_law_place" "_law_place" (defArgs s_z_place) (defBody s_z_place) (defScope s_z_place) [] [] (He.fAd K ("_law_place", none)) fd
  fd_z_operand : ∃ fd, FunD K "_law_operand" "_law_operand" (defArgs s_z_operand) (defBody s_z_operand) (defScope s_z_operand) [] [] (He.fAd K ("_law_operand", none)) fd
  fd_z_target : ∃ fd, FunD K "_law_target" "_law_target" (defArgs s_z_target) (defBody s_z_target) (defScope s_z_target) [] [] (He.fAd K ("_law_target", none)) fd
  fd_z_around : ∃ fd, FunD K "_law_around" "_law_around" (defArgs s_z_around) (defBody s_z_around) (defScope s_z_around) [] [] (He.fAd K ("_law_around", none)) fd
  fd_z_memory : ∃ fd, FunD K "_law_memory" "_law_memory" (defArgs s_z_memory) (defBody s_z_memory) (defScope s_z_memory) [] [] (He.fAd K ("_law_memory", none)) fd
  fd_z_call : ∃ fd, FunD K "_law_call" "_law_call" (defArgs s_z_call) (defBody s_z_call) (defScope s_z_call) [] [] (He.fAd K ("_law_call", none)) fd
  fd_z_instruction : ∃ fd, FunD K "_law_instruction" "_law_instruction" (defArgs s_z_instruction) (defBody s_z_instruction) (defScope s_z_instruction) [] [] (He.fAd K ("_law_instruction", none)) fd
  fd_z_regions : ∃ fd, FunD K "_law_regions" "_law_regions" (defArgs s_z_regions) (defBody s_z_regions) (defScope s_z_regions) [] [] (He.fAd K ("_law_regions", none)) fd
  fd_z_unit : ∃ fd, FunD K "_law_unit" "_law_unit" (defArgs s_z_unit) (defBody s_z_unit) (defScope s_z_unit) [] [] (He.fAd K ("_law_unit", none)) fd
  fd_z_shapes : ∃ fd, FunD K "_law_shapes" "_law_shapes" (defArgs s_z_shapes) (defBody s_z_shapes) (defScope s_z_shapes) [] [] (He.fAd K ("_law_shapes", none)) fd
  fd_z_module : ∃ fd, FunD K "_law_module" "_law_module" (defArgs s_z_module) (defBody s_z_module) (defScope s_z_module) [] [] (He.fAd K ("_law_module", none)) fd
  fd_z_operands : ∃ fd, FunD K "_law_operands" "_law_operands" (defArgs s_z_operands) (defBody s_z_operands) (defScope s_z_operands) [] [] (He.fAd K ("_law_operands", none)) fd
  fd_z_reads : ∃ fd, FunD K "_law_reads" "_law_reads" (defArgs s_z_reads) (defBody s_z_reads) (defScope s_z_reads) [] [] (He.fAd K ("_law_reads", none)) fd
  fd_z_writes : ∃ fd, FunD K "_law_writes" "_law_writes" (defArgs s_z_writes) (defBody s_z_writes) (defScope s_z_writes) [] [] (He.fAd K ("_law_writes", none)) fd
  fd_z_onward : ∃ fd, FunD K "_law_onward" "_law_onward" (defArgs s_z_onward) (defBody s_z_onward) (defScope s_z_onward) [] [] (He.fAd K ("_law_onward", none)) fd
  fd_z_ways : ∃ fd, FunD K "_law_ways" "_law_ways" (defArgs s_z_ways) (defBody s_z_ways) (defScope s_z_ways) [] [] (He.fAd K ("_law_ways", none)) fd
  fd_z_live : ∃ fd, FunD K "_law_live" "_law_live" (defArgs s_z_live) (defBody s_z_live) (defScope s_z_live) [] [] (He.fAd K ("_law_live", none)) fd
  fd_z_pairs : ∃ fd, FunD K "_law_pairs" "_law_pairs" (defArgs s_z_pairs) (defBody s_z_pairs) (defScope s_z_pairs) [] [] (He.fAd K ("_law_pairs", none)) fd
  fd_z_conflicts : ∃ fd, FunD K "_law_conflicts" "_law_conflicts" (defArgs s_z_conflicts) (defBody s_z_conflicts) (defScope s_z_conflicts) [] [] (He.fAd K ("_law_conflicts", none)) fd
  fd_z_used : ∃ fd, FunD K "_law_used" "_law_used" (defArgs s_z_used) (defBody s_z_used) (defScope s_z_used) [] [] (He.fAd K ("_law_used", none)) fd
  fd_z_sound : ∃ fd, FunD K "_law_sound" "_law_sound" (defArgs s_z_sound) (defBody s_z_sound) (defScope s_z_sound) [] [] (He.fAd K ("_law_sound", none)) fd
  fd_z_is_place : ∃ fd, FunD K "_law_is_place" "_law_is_place" (defArgs s_z_is_place) (defBody s_z_is_place) (defScope s_z_is_place) [] [] (He.fAd K ("_law_is_place", none)) fd
  fd_z_changed : ∃ fd, FunD K "_law_changed" "_law_changed" (defArgs s_z_changed) (defBody s_z_changed) (defScope s_z_changed) [] [] (He.fAd K ("_law_changed", none)) fd
  fd_law : ∃ fd, FunD K "law" "law" (defArgs s_law) (defBody s_law) (defScope s_law) [] [] (He.fAd K ("law", none)) fd
def fa : List He.Fa := [.glo "operands", .glo "reads", .glo "writes", .glo "can_raise", .glo "followers", .glo "region_of", .glo "grow", .glo "live", .glo "live_behind", .glo "add_pairs", .glo "conflicts", .glo "used_registers", .glo "candidate", .glo "first_free", .glo "assign", .glo "is_sound", .glo "_law_start", .glo "_law_take", .glo "_law_place", .glo "_law_operand", .glo "_law_target", .glo "_law_around", .glo "_law_memory", .glo "_law_call", .glo "_law_instruction", .glo "_law_regions", .glo "_law_unit", .glo "_law_shapes", .glo "_law_module", .glo "_law_operands", .glo "_law_reads", .glo "_law_writes", .glo "_law_onward", .glo "_law_ways", .glo "_law_live", .glo "_law_pairs", .glo "_law_conflicts", .glo "_law_used", .glo "_law_sound", .glo "_law_is_place", .glo "_law_changed", .glo "law", .glo "Unit", .cls "Unit", .mkr "Unit", .noat "Unit" "parent", .noat "Unit" "arguments", .noat "Unit" "results", .noat "Unit" "registers", .noat "Unit" "cells", .noat "Unit" "code", .noat "Unit" "regions", .glo "Module", .cls "Module", .mkr "Module", .noat "Module" "units", .noat "Module" "names", .noat "Module" "places", .glo "ARITHMETIC", .glo "SIGNS", .glo "RELATIONS", .glo "RAISING", .glo "ENDING", .int "LOCALS" (8), .int "INS" (6), .free "bool", .free "enumerate", .free "int", .free "isinstance", .free "len", .free "list", .free "range", .free "sorted", .free "str", .free "tuple"]
def fn : List He.DefD := [⟨("Unit", some "__init__"), "__init__", "Unit.__init__", defArgs s_Unit_init__, defBody s_Unit_init__, defScope s_Unit_init__, [], []⟩, ⟨("Module", some "__init__"), "__init__", "Module.__init__", defArgs s_Module_init__, defBody s_Module_init__, defScope s_Module_init__, [], []⟩, ⟨("operands", none), "operands", "operands", defArgs s_operands, defBody s_operands, defScope s_operands, [], []⟩, ⟨("reads", none), "reads", "reads", defArgs s_reads, defBody s_reads, defScope s_reads, [], []⟩, ⟨("writes", none), "writes", "writes", defArgs s_writes, defBody s_writes, defScope s_writes, [], []⟩, ⟨("can_raise", none), "can_raise", "can_raise", defArgs s_can_raise, defBody s_can_raise, defScope s_can_raise, [], []⟩, ⟨("followers", none), "followers", "followers", defArgs s_followers, defBody s_followers, defScope s_followers, [], []⟩, ⟨("region_of", none), "region_of", "region_of", defArgs s_region_of, defBody s_region_of, defScope s_region_of, [], []⟩, ⟨("grow", none), "grow", "grow", defArgs s_grow, defBody s_grow, defScope s_grow, [], []⟩, ⟨("live", none), "live", "live", defArgs s_live, defBody s_live, defScope s_live, [], []⟩, ⟨("live_behind", none), "live_behind", "live_behind", defArgs s_live_behind, defBody s_live_behind, defScope s_live_behind, [], []⟩, ⟨("add_pairs", none), "add_pairs", "add_pairs", defArgs s_add_pairs, defBody s_add_pairs, defScope s_add_pairs, [], []⟩, ⟨("conflicts", none), "conflicts", "conflicts", defArgs s_conflicts, defBody s_conflicts, defScope s_conflicts, [], []⟩, ⟨("used_registers", none), "used_registers", "used_registers", defArgs s_used_registers, defBody s_used_registers, defScope s_used_registers, [], []⟩, ⟨("candidate", none), "candidate", "candidate", defArgs s_candidate, defBody s_candidate, defScope s_candidate, [], []⟩, ⟨("first_free", none), "first_free", "first_free", defArgs s_first_free, defBody s_first_free, defScope s_first_free, [], []⟩, ⟨("assign", none), "assign", "assign", defArgs s_assign, defBody s_assign, defScope s_assign, [], []⟩, ⟨("is_sound", none), "is_sound", "is_sound", defArgs s_is_sound, defBody s_is_sound, defScope s_is_sound, [], []⟩, ⟨("_law_start", none), "_law_start", "_law_start", defArgs s_z_start, defBody s_z_start, defScope s_z_start, [], []⟩, ⟨("_law_take", none), "_law_take", "_law_take", defArgs s_z_take, defBody s_z_take, defScope s_z_take, [], []⟩, ⟨("_law_place", none), "_law_place", "_law_place", defArgs s_z_place, defBody s_z_place, defScope s_z_place, [], []⟩, ⟨("_law_operand", none), "_law_operand", "_law_operand", defArgs s_z_operand, defBody s_z_operand, defScope s_z_operand, [], []⟩, ⟨("_law_target", none), "_law_target", "_law_target", defArgs s_z_target, defBody s_z_target, defScope s_z_target, [], []⟩, ⟨("_law_around", none), "_law_around", "_law_around", defArgs s_z_around, defBody s_z_around, defScope s_z_around, [], []⟩, ⟨("_law_memory", none), "_law_memory", "_law_memory", defArgs s_z_memory, defBody s_z_memory, defScope s_z_memory, [], []⟩, ⟨("_law_call", none), "_law_call", "_law_call", defArgs s_z_call, defBody s_z_call, defScope s_z_call, [], []⟩, ⟨("_law_instruction", none), "_law_instruction", "_law_instruction", defArgs s_z_instruction, defBody s_z_instruction, defScope s_z_instruction, [], []⟩, ⟨("_law_regions", none), "_law_regions", "_law_regions", defArgs s_z_regions, defBody s_z_regions, defScope s_z_regions, [], []⟩, ⟨("_law_unit", none), "_law_unit", "_law_unit", defArgs s_z_unit, defBody s_z_unit, defScope s_z_unit, [], []⟩, ⟨("_law_shapes", none), "_law_shapes", "_law_shapes", defArgs s_z_shapes, defBody s_z_shapes, defScope s_z_shapes, [], []⟩, ⟨("_law_module", none), "_law_module", "_law_module", defArgs s_z_module, defBody s_z_module, defScope s_z_module, [], []⟩, ⟨("_law_operands", none), "_law_operands", "_law_operands", defArgs s_z_operands, defBody s_z_operands, defScope s_z_operands, [], []⟩, ⟨("_law_reads", none), "_law_reads", "_law_reads", defArgs s_z_reads, defBody s_z_reads, defScope s_z_reads, [], []⟩, ⟨("_law_writes", none), "_law_writes", "_law_writes", defArgs s_z_writes, defBody s_z_writes, defScope s_z_writes, [], []⟩, ⟨("_law_onward", none), "_law_onward", "_law_onward", defArgs s_z_onward, defBody s_z_onward, defScope s_z_onward, [], []⟩, ⟨("_law_ways", none), "_law_ways", "_law_ways", defArgs s_z_ways, defBody s_z_ways, defScope s_z_ways, [], []⟩, ⟨("_law_live", none), "_law_live", "_law_live", defArgs s_z_live, defBody s_z_live, defScope s_z_live, [], []⟩, ⟨("_law_pairs", none), "_law_pairs", "_law_pairs", defArgs s_z_pairs, defBody s_z_pairs, defScope s_z_pairs, [], []⟩, ⟨("_law_conflicts", none), "_law_conflicts", "_law_conflicts", defArgs s_z_conflicts, defBody s_z_conflicts, defScope s_z_conflicts, [], []⟩, ⟨("_law_used", none), "_law_used", "_law_used", defArgs s_z_used, defBody s_z_used, defScope s_z_used, [], []⟩, ⟨("_law_sound", none), "_law_sound", "_law_sound", defArgs s_z_sound, defBody s_z_sound, defScope s_z_sound, [], []⟩, ⟨("_law_is_place", none), "_law_is_place", "_law_is_place", defArgs s_z_is_place, defBody s_z_is_place, defScope s_z_is_place, [], []⟩, ⟨("_law_changed", none), "_law_changed", "_law_changed", defArgs s_z_changed, defBody s_z_changed, defScope s_z_changed, [], []⟩, ⟨("law", none), "law", "law", defArgs s_law, defBody s_law, defScope s_law, [], []⟩]
def exl : List (PySem.W.Frag → Bool) := [(fun K => He.valsB K (He.ga K "ARITHMETIC") [("add", .str "+"), ("sub", .str "-"), ("mul", .str "*"), ("div", .str "/"), ("mod", .str "mod"), ("rem", .str "rem")]), (fun K => dinB K (He.ga K "ARITHMETIC") [("tick", false), ("move", false), ("neg", false), ("abs", false), ("add", true), ("sub", true), ("mul", true), ("div", true), ("mod", true), ("rem", true), ("less", false), ("equal", false), ("check", false), ("load", false), ("store", false), ("jump", false), ("branch", false), ("call", false), ("return", false), ("raise", false), ("again", false), ("put", false), ("get", false)]), (fun K => He.tupB K "SIGNS" [.str "neg", .str "abs"]), (fun K => He.tupB K "RELATIONS" [.str "less", .str "equal"]), (fun K => He.tupB K "RAISING" [.str "neg", .str "abs", .str "add", .str "sub", .str "mul", .str "div", .str "mod", .str "rem", .str "check", .str "call", .str "raise", .str "again", .str "get"]), (fun K => He.tupB K "ENDING" [.str "jump", .str "return", .str "raise", .str "again"])]
def ex (K : PySem.W.Frag) : Bool := exl.all fun f => f K
def ts : List He.Tab := [((fun K => He.ga K "ARITHMETIC"), ["add", "sub", "mul", "div", "mod", "rem"])]
def prl : List He.DefD := []
theorem env_mk {w : World} {K : PySem.W.Frag} {h : Heap} {mg : Str → Option Value} (X : K.In h) (G : h.Ns mainGlobals mg) (c : SaysP fa fn ts ex prl w h K) : Env w K mg := ⟨
  He.glo_ok X G (c.x.t.d.fact 0 rfl),
  He.glo_ok X G (c.x.t.d.fact 1 rfl),
  He.glo_ok X G (c.x.t.d.fact 2 rfl),
  He.glo_ok X G (c.x.t.d.fact 3 rfl),
  He.glo_ok X G (c.x.t.d.fact 4 rfl),
  He.glo_ok X G (c.x.t.d.fact 5 rfl),
  He.glo_ok X G (c.x.t.d.fact 6 rfl),
  He.glo_ok X G (c.x.t.d.fact 7 rfl),
  He.glo_ok X G (c.x.t.d.fact 8 rfl),
  He.glo_ok X G (c.x.t.d.fact 9 rfl),
  He.glo_ok X G (c.x.t.d.fact 10 rfl),
  He.glo_ok X G (c.x.t.d.fact 11 rfl),
  He.glo_ok X G (c.x.t.d.fact 12 rfl),
  He.glo_ok X G (c.x.t.d.fact 13 rfl),
  He.glo_ok X G (c.x.t.d.fact 14 rfl),
  He.glo_ok X G (c.x.t.d.fact 15 rfl),
  He.glo_ok X G (c.x.t.d.fact 16 rfl),
  He.glo_ok X G (c.x.t.d.fact 17 rfl),
  He.glo_ok X G (c.x.t.d.fact 18 rfl),
  He.glo_ok X G (c.x.t.d.fact 19 rfl),
  He.glo_ok X G (c.x.t.d.fact 20 rfl),
  He.glo_ok X G (c.x.t.d.fact 21 rfl),
  He.glo_ok X G (c.x.t.d.fact 22 rfl),
  He.glo_ok X G (c.x.t.d.fact 23 rfl),
  He.glo_ok X G (c.x.t.d.fact 24 rfl),
  He.glo_ok X G (c.x.t.d.fact 25 rfl),
  He.glo_ok X G (c.x.t.d.fact 26 rfl),
  He.glo_ok X G (c.x.t.d.fact 27 rfl),
  He.glo_ok X G (c.x.t.d.fact 28 rfl),
  He.glo_ok X G (c.x.t.d.fact 29 rfl),
  He.glo_ok X G (c.x.t.d.fact 30 rfl),
  He.glo_ok X G (c.x.t.d.fact 31 rfl),
  He.glo_ok X G (c.x.t.d.fact 32 rfl),
  He.glo_ok X G (c.x.t.d.fact 33 rfl),
  He.glo_ok X G (c.x.t.d.fact 34 rfl),
  He.glo_ok X G (c.x.t.d.fact 35 rfl),
  He.glo_ok X G (c.x.t.d.fact 36 rfl),
  He.glo_ok X G (c.x.t.d.fact 37 rfl),
  He.glo_ok X G (c.x.t.d.fact 38 rfl),
  He.glo_ok X G (c.x.t.d.fact 39 rfl),
  He.glo_ok X G (c.x.t.d.fact 40 rfl),
  He.glo_ok X G (c.x.t.d.fact 41 rfl),
  He.glo_ok X G (c.x.t.d.fact 42 rfl),
  He.cls_ok (c.x.t.d.fact 43 rfl),
  He.mkr_ok (c.x.t.d.fact 44 rfl),
  He.noat_ok (c.x.t.d.fact 45 rfl),
  He.noat_ok (c.x.t.d.fact 46 rfl),
  He.noat_ok (c.x.t.d.fact 47 rfl),
  He.noat_ok (c.x.t.d.fact 48 rfl),
  He.noat_ok (c.x.t.d.fact 49 rfl),
  He.noat_ok (c.x.t.d.fact 50 rfl),
  He.noat_ok (c.x.t.d.fact 51 rfl),
  He.glo_ok X G (c.x.t.d.fact 52 rfl),
  He.cls_ok (c.x.t.d.fact 53 rfl),
  He.mkr_ok (c.x.t.d.fact 54 rfl),
  He.noat_ok (c.x.t.d.fact 55 rfl),
  He.noat_ok (c.x.t.d.fact 56 rfl),
  He.noat_ok (c.x.t.d.fact 57 rfl),
  He.glo_ok X G (c.x.t.d.fact 58 rfl),
  kdct_ok (c.x.t.tab 0 rfl) (exget c.x.more 0 rfl),
  din_ok (c.x.t.tab 0 rfl) (exget c.x.more 1 rfl),
  He.glo_ok X G (c.x.t.d.fact 59 rfl),
  fun H => He.tupB_ok (exget c.x.more 2 rfl) H,
  He.glo_ok X G (c.x.t.d.fact 60 rfl),
  fun H => He.tupB_ok (exget c.x.more 3 rfl) H,
  He.glo_ok X G (c.x.t.d.fact 61 rfl),
  fun H => He.tupB_ok (exget c.x.more 4 rfl) H,
  He.glo_ok X G (c.x.t.d.fact 62 rfl),
  fun H => He.tupB_ok (exget c.x.more 5 rfl) H,
  He.int_ok X G (c.x.t.d.fact 63 rfl),
  He.int_ok X G (c.x.t.d.fact 64 rfl),
  He.free_ok X G (c.x.t.d.fact 65 rfl),
  He.free_ok X G (c.x.t.d.fact 66 rfl),
  He.free_ok X G (c.x.t.d.fact 67 rfl),
  He.free_ok X G (c.x.t.d.fact 68 rfl),
  He.free_ok X G (c.x.t.d.fact 69 rfl),
  He.free_ok X G (c.x.t.d.fact 70 rfl),
  He.free_ok X G (c.x.t.d.fact 71 rfl),
  He.free_ok X G (c.x.t.d.fact 72 rfl),
  He.free_ok X G (c.x.t.d.fact 73 rfl),
  He.free_ok X G (c.x.t.d.fact 74 rfl),
  c.x.t.d.def_ 0 rfl,
  c.x.t.d.def_ 1 rfl,
  c.x.t.d.def_ 2 rfl,
  c.x.t.d.def_ 3 rfl,
  c.x.t.d.def_ 4 rfl,
  c.x.t.d.def_ 5 rfl,
  c.x.t.d.def_ 6 rfl,
  c.x.t.d.def_ 7 rfl,
  c.x.t.d.def_ 8 rfl,
  c.x.t.d.def_ 9 rfl,
  c.x.t.d.def_ 10 rfl,
  c.x.t.d.def_ 11 rfl,
  c.x.t.d.def_ 12 rfl,
  c.x.t.d.def_ 13 rfl,
  c.x.t.d.def_ 14 rfl,
  c.x.t.d.def_ 15 rfl,
  c.x.t.d.def_ 16 rfl,
  c.x.t.d.def_ 17 rfl,
  c.x.t.d.def_ 18 rfl,
  c.x.t.d.def_ 19 rfl,
  c.x.t.d.def_ 20 rfl,
  c.x.t.d.def_ 21 rfl,
  c.x.t.d.def_ 22 rfl,
  c.x.t.d.def_ 23 rfl,
  c.x.t.d.def_ 24 rfl,
  c.x.t.d.def_ 25 rfl,
  c.x.t.d.def_ 26 rfl,
  c.x.t.d.def_ 27 rfl,
  c.x.t.d.def_ 28 rfl,
  c.x.t.d.def_ 29 rfl,
  c.x.t.d.def_ 30 rfl,
  c.x.t.d.def_ 31 rfl,
  c.x.t.d.def_ 32 rfl,
  c.x.t.d.def_ 33 rfl,
  c.x.t.d.def_ 34 rfl,
  c.x.t.d.def_ 35 rfl,
  c.x.t.d.def_ 36 rfl,
  c.x.t.d.def_ 37 rfl,
  c.x.t.d.def_ 38 rfl,
  c.x.t.d.def_ 39 rfl,
  c.x.t.d.def_ 40 rfl,
  c.x.t.d.def_ 41 rfl,
  c.x.t.d.def_ 42 rfl,
  c.x.t.d.def_ 43 rfl⟩
local macro_rules | `(tactic| walk_at "na") => `(tactic| first | (with_reducible exact Y.na_Unit_parent) | (with_reducible exact Y.na_Unit_arguments) | (with_reducible exact Y.na_Unit_results) | (with_reducible exact Y.na_Unit_registers) | (with_reducible exact Y.na_Unit_cells) | (with_reducible exact Y.na_Unit_code) | (with_reducible exact Y.na_Unit_regions) | (with_reducible exact Y.na_Module_units) | (with_reducible exact Y.na_Module_names) | (with_reducible exact Y.na_Module_places))
local macro_rules | `(tactic| walk_at "cl") => `(tactic| first | (with_reducible exact Y.cl_Unit) | (with_reducible exact Y.cl_Module))
/-! ### the head: facts by names, the run -/
abbrev R : PySem.W.OpenRow := PySem.W.OpenLaw.row PySem.Challenge.rw_windowada_k53_sound_assignments
abbrev hk : PySem.W.Hook := hookP 5 fa fn ts ex prl
def ob (s : PySem.W.SharedT) : AlP := obsP 5 fa fn ts ex prl (HandSHeadRun.getT s)
theorem ob_eq (s : PySem.W.SharedT) : ob s = hk.obs s.abs := obsP_eq (HandSHeadRun.getT_eq s)
def loose : List Str := (["__name__", "ARITHMETIC", "SIGNS", "RELATIONS", "RAISING", "ENDING", "Unit", "Module", "operands", "reads", "writes", "can_raise", "followers", "region_of", "grow", "live", "live_behind", "LOCALS", "INS", "add_pairs", "conflicts", "used_registers", "candidate", "first_free", "assign"] : List Str) ++ (["is_sound", "_law_start", "_law_take", "_law_place", "_law_operand", "_law_target", "_law_around", "_law_memory", "_law_call", "_law_instruction", "_law_regions", "_law_unit", "_law_shapes", "_law_module", "_law_operands", "_law_reads", "_law_writes", "_law_onward", "_law_ways", "_law_live", "_law_pairs", "_law_conflicts", "_law_used", "_law_sound", "_law_is_place"] : List Str) ++ (["_law_changed"] : List Str)
theorem runF (w : World) : HandSHeadRun.RunEq R (PySem.W.view R.prog [54]) hk ob 4000 loose (w.withFollow "special-get-raises" false) := by
  intro os
  kernel_rfl
theorem runT (w : World) : HandSHeadRun.RunEq R (PySem.W.view R.prog [54]) hk ob 4000 loose (w.withFollow "special-get-raises" true) := by
  intro os
  kernel_rfl
theorem run (w : World) : HandSHeadRun.RunEq R (PySem.W.view R.prog [54]) hk ob 4000 loose w := by
  exact PySem.W.byRow2 "special-get-raises" (P := fun w => HandSHeadRun.RunEq R (PySem.W.view R.prog [54]) hk ob 4000 loose w) runF runT w
/-! ### rows for sets, tables, tuples -/
local macro_rules | `(tactic| walk_at "st") => `(tactic| first
  | ((with_reducible refine h_set2 hS (fun ps H1 hS1 => ?_)); walk_at "nw")
  | ((with_reducible apply h_set2E hS); (· walk_at "ix"); intro Sm nm H1 hsm hnm hS1; clear hS; rename SH _ _ _ _ => hS; simp only [List.set_cons_zero, List.set_cons_succ] at hS)
  | ((with_reducible apply h_setI2 hS); (· walk_at "sq"); intro ps Sm nm H1 hsm hnm hS1; clear hS; rename SH _ _ _ _ => hS)
  | ((with_reducible apply s_sortedSet); (· walk_at "hp"); (· exact hsm); (· omega))
  | ((with_reducible apply s_inKD); (· walk_at "di"))
  | (with_reducible refine s_lcTG ?_)
  | ((with_reducible apply s_unl); (· walk_at "sq"); (· exact rfl))
  | ((with_reducible apply s_repT1); (· walk_at "sq"); (· exact ⟨by decide, by decide⟩); (· exact rfl))
  | fail)
/-! ### operands, instructions -/
def kindS (b : Bool) : Str := if b = true then "reg" else "int"
structure Opd where
  reg : Bool
  n : Int
abbrev Opd.o (x : Opd) : HO := .tup [.str (kindS x.reg), .int x.n]
abbrev OpAt (K : PySem.W.Frag) (H : Hp) (q : Addr) (x : Opd) : Prop := SqT K H q [.str (kindS x.reg), .int x.n]
def OpsAt (K : PySem.W.Frag) (H : Hp) (qs : List Addr) (os : List Opd) : Prop := qs.length = os.length ∧ ∀ (k : Nat) (q : Addr) (x : Opd), qs[k]? = some q → os[k]? = some x → OpAt K H q x
theorem OpsAt.keep {K : PySem.W.Frag} {A : List Addr} {H H' : Hp} {qs : List Addr} {os : List Opd} (h : OpsAt K H qs os) (k : Keep A H H') : OpsAt K H' qs os := ⟨h.1, fun i q x a b => SqT_keep (h.2 i q x a b) k⟩
theorem OpsAt.nil {K : PySem.W.Frag} {H : Hp} : OpsAt K H [] [] := ⟨rfl, fun k q x h => nomatch h⟩
theorem OpsAt.cons {K : PySem.W.Frag} {H : Hp} {q : Addr} {x : Opd} {qs : List Addr} {os : List Opd} (h : OpAt K H q x) (t : OpsAt K H qs os) : OpsAt K H (q :: qs) (x :: os) := Hsh.un (by simp (disch := k_dflt (
  refine Hsh.up ?_
  refine ⟨by rw [List.length_cons, List.length_cons, t.1], fun k a b h1 h2 => ?_⟩
  cases k with
  | zero => cases h1; cases h2; exact h
  | succ k => exact t.2 k a b h1 h2
  )) only [↓Hsh.on])
/-- an instruction of the law: its name, its operands, what it writes, what may follow -/
inductive InsR (K : PySem.W.Frag) (H : Hp) (ix : Int) : Str → Addr → List Addr → List Opd → List Int → List Int → Prop
  | tick {p : Addr} (h : SqT K H p [.str "tick"]) : InsR K H ix "tick" p [] [] [] [ix + 1]
  | jump {p : Addr} {t : Int} (h : SqT K H p [.str "jump", .int t]) : InsR K H ix "jump" p [] [] [] [t]
  | branch {p x : Addr} {a : Opd} {t : Int} (h : SqT K H p [.str "branch", .ref x, .int t]) (hx : OpAt K H x a) : InsR K H ix "branch" p [x] [a] [] (srt2 t (ix + 1))
  | ret {p v : Addr} {qs : List Addr} {os : List Opd} (h : SqT K H p [.str "return", .ref v]) (hv : SqT K H v (qs.map V.ref)) (ho : OpsAt K H qs os) (hl : os.length ≤ 6) : InsR K H ix "return" p qs os [] []
  | raise {p : Addr} {a b : Int} (h : SqT K H p [.str "raise", .int a, .int b]) : InsR K H ix "raise" p [] [] [] []
  | again {p x y : Addr} {a b : Opd} (h : SqT K H p [.str "again", .ref x, .ref y]) (hx : OpAt K H x a) (hy : OpAt K H y b) : InsR K H ix "again" p [x, y] [a, b] [] []
  | put {p x : Addr} {a : Opd} (h : SqT K H p [.str "put", .ref x]) (hx : OpAt K H x a) : InsR K H ix "put" p [x] [a] [] [ix + 1]
  | move {p x : Addr} {a : Opd} {d : Int} (h : SqT K H p [.str "move", .int d, .ref x]) (hx : OpAt K H x a) : InsR K H ix "move" p [x] [a] [d] [ix + 1]
  | sign {nm : Str} {p x : Addr} {a : Opd} {d l : Int} (hn : nm = "neg" ∨ nm = "abs") (h : SqT K H p [.str nm, .int d, .ref x, .int l]) (hx : OpAt K H x a) : InsR K H ix nm p [x] [a] [d] [ix + 1]
  | rel {nm : Str} {p x y : Addr} {a b : Opd} {d : Int} (hn : nm = "less" ∨ nm = "equal") (h : SqT K H p [.str nm, .int d, .ref x, .ref y]) (hx : OpAt K H x a) (hy : OpAt K H y b) : InsR K H ix nm p [x, y] [a, b] [d] [ix + 1]
  | check {p x : Addr} {a : Opd} {lo hi l : Int} (h : SqT K H p [.str "check", .ref x, .int lo, .int hi, .int l]) (hx : OpAt K H x a) : InsR K H ix "check" p [x] [a] [] [ix + 1]
  | load {p x : Addr} {a : Opd} {d f c n : Int} (h : SqT K H p [.str "load", .int d, .int f, .int c, .int n, .ref x]) (hx : OpAt K H x a) : InsR K H ix "load" p [x] [a] [d] [ix + 1]
  | store {p x y : Addr} {a b : Opd} {f c n : Int} (h : SqT K H p [.str "store", .int f, .int c, .int n, .ref x, .ref y]) (hx : OpAt K H x a) (hy : OpAt K H y b) : InsR K H ix "store" p [x, y] [a, b] [] [ix + 1]
  | get {p : Addr} {d l : Int} (h : SqT K H p [.str "get", .int d, .int l]) : InsR K H ix "get" p [] [] [d] [ix + 1]
  | call {p v s : Addr} {qs : List Addr} {os : List Opd} {ws : List Int} {u f l : Int} (h : SqT K H p [.str "call", .int u, .int f, .ref v, .ref s, .int l]) (hv : SqT K H v (qs.map V.ref)) (hw : SqT K H s (ws.map V.int)) (ho : OpsAt K H qs os) (hl : os.length ≤ 6) (hm : ws.length ≤ 6) : InsR K H ix "call" p qs os ws [ix + 1]
  | arith {nm : Str} {p x y : Addr} {a b : Opd} {d l : Int} (hn : nm = "add" ∨ nm = "sub" ∨ nm = "mul" ∨ nm = "div" ∨ nm = "mod" ∨ nm = "rem") (h : SqT K H p [.str nm, .int d, .ref x, .ref y, .int l]) (hx : OpAt K H x a) (hy : OpAt K H y b) : InsR K H ix nm p [x, y] [a, b] [d] [ix + 1]
section
variable {K : PySem.W.Frag} {A : List Addr} {H H' : Hp} {ix : Int} {nm : Str} {p : Addr} {qs : List Addr} {os : List Opd} {ws bs : List Int}
theorem InsR.keep (h : InsR K H ix nm p qs os ws bs) (k : Keep A H H') : InsR K H' ix nm p qs os ws bs := Hsh.un (by simp (disch := k_dflt (
  refine Hsh.up ?_
  cases h with
  | tick h => exact .tick (SqT_keep h k)
  | jump h => exact .jump (SqT_keep h k)
  | branch h hx => exact .branch (SqT_keep h k) (SqT_keep hx k)
  | ret h hv ho hl => exact .ret (SqT_keep h k) (SqT_keep hv k) (ho.keep k) hl
  | raise h => exact .raise (SqT_keep h k)
  | again h hx hy => exact .again (SqT_keep h k) (SqT_keep hx k) (SqT_keep hy k)
  | put h hx => exact .put (SqT_keep h k) (SqT_keep hx k)
  | move h hx => exact .move (SqT_keep h k) (SqT_keep hx k)
  | sign hn h hx => exact .sign hn (SqT_keep h k) (SqT_keep hx k)
  | rel hn h hx hy => exact .rel hn (SqT_keep h k) (SqT_keep hx k) (SqT_keep hy k)
  | check h hx => exact .check (SqT_keep h k) (SqT_keep hx k)
  | load h hx => exact .load (SqT_keep h k) (SqT_keep hx k)
  | store h hx hy => exact .store (SqT_keep h k) (SqT_keep hx k) (SqT_keep hy k)
  | get h => exact .get (SqT_keep h k)
  | call h hv hw ho hl hm => exact .call (SqT_keep h k) (SqT_keep hv k) (SqT_keep hw k) (ho.keep k) hl hm
  | arith hn h hx hy => exact .arith hn (SqT_keep h k) (SqT_keep hx k) (SqT_keep hy k)
  )) only [↓Hsh.on])
theorem InsR.head (h : InsR K H ix nm p qs os ws bs) : ∃ r, SqT K H p (.str nm :: r) := Hsh.un (by simp (disch := k_dflt (
  refine Hsh.up ?_
  cases h with
  | tick h => exact ⟨_, h⟩
  | jump h => exact ⟨_, h⟩
  | branch h hx => exact ⟨_, h⟩
  | ret h hv ho hl => exact ⟨_, h⟩
  | raise h => exact ⟨_, h⟩
  | again h hx hy => exact ⟨_, h⟩
  | put h hx => exact ⟨_, h⟩
  | move h hx => exact ⟨_, h⟩
  | sign hn h hx => exact ⟨_, h⟩
  | rel hn h hx hy => exact ⟨_, h⟩
  | check h hx => exact ⟨_, h⟩
  | load h hx => exact ⟨_, h⟩
  | store h hx hy => exact ⟨_, h⟩
  | get h => exact ⟨_, h⟩
  | call h hv hw ho hl hm => exact ⟨_, h⟩
  | arith hn h hx hy => exact ⟨_, h⟩
  )) only [↓Hsh.on])
end
local macro_rules | `(tactic| walk_at "di") => `(tactic| first | exact Y.di_ARITHMETIC (_, true) (by decide +kernel) | exact Y.di_ARITHMETIC (_, false) (by decide +kernel))
section
 local macro_rules | `(tactic| walk_at "sq") => `(tactic| first | exact Y.tp_SIGNS _ | exact Y.tp_RELATIONS _ | exact Y.tp_RAISING _ | exact Y.tp_ENDING _ | fail)
def sp_operands (K : PySem.W.Frag) : Sp := mk1 fun a H Q _ => ∃ (p : Addr) (ix : Int) (nm : Str) (qs : List Addr) (os : List Opd) (ws bs : List Int), a = .ref p ∧ InsR K H ix nm p qs os ws bs ∧ ∀ t H', Keep [] H H' → SqT K H' t (qs.map V.ref) → Q (.ref t) H'
theorem ok_operands {P : Program} {w : World} {K : PySem.W.Frag} {mg : Str → Option Value} {base : Heap} (Y : Env w K mg)  : CallOk P w K mg base CX0 1 "operands" ["instruction"] (sp_operands K) := Hsh.un (by simp (disch := k_dflt (
  refine Hsh.up ?_
  obtain ⟨fd, F⟩ := Y.fd_operands
  refine ⟨_, fd, Y.mg_operands, F.kp, F.bindsN (fun _ _ _ _ _ _ us hl => match us, hl with | [_], _ => rfl), F.ok sc_operands mk1_len (fun cdv A outer s H vs Q E hr h => ?_)⟩
  have hu := hu_room hr
  obtain ⟨_, rfl, p, ix, nm, qs, os, ws, bs, rfl, hI, k⟩ := h
  have hS : SH [] H H [] := SH.start0
  refine ⟨_, PSs.nox (pss_cons (ps_set (i := 1) sc_operands.nd rfl (Or.inl rfl) (pe_ix xIx (pv 0) pe_int (fun _ _ => rfl)))
  (pss_cons (ps_if (PW.pt (pw_or (pt_cmpR (xEq hu) (pv 1) pe_str (nomark _)) (pw_or1 (pt_cmpR xIn (pv 1) (pe_gr rfl Y.mg_SIGNS) rfl)))) (pss_one (ps_ret (pe_tup (pa_cons (pe_ix xIx (pv 0) pe_int (fun _ _ => rfl)) pa_nil)))) pss_nil)
  (pss_cons (ps_if (PW.pt (pw_or (pt_cmpR x_inKD (pv 1) (pe_gr rfl Y.mg_ARITHMETIC) rfl) (pw_or1 (pt_cmpR xIn (pv 1) (pe_gr rfl Y.mg_RELATIONS) rfl)))) (pss_one (ps_ret (pe_tup (pa_cons (pe_ix xIx (pv 0) pe_int (fun _ _ => rfl)) (pa_cons (pe_ix xIx (pv 0) pe_int (fun _ _ => rfl)) pa_nil))))) pss_nil)
  (pss_cons (ps_if (PW.pt (pw_or (pt_cmpR (xEq hu) (pv 1) pe_str (nomark _)) (pw_or (pt_cmpR (xEq hu) (pv 1) pe_str (nomark _)) (pw_or1 (pt_cmpR (xEq hu) (pv 1) pe_str (nomark _)))))) (pss_one (ps_ret (pe_tup (pa_cons (pe_ix xIx (pv 0) pe_int (fun _ _ => rfl)) pa_nil)))) pss_nil)
  (pss_cons (ps_if (pt_cmpR (xEq hu) (pv 1) pe_str (nomark _)) (pss_one (ps_ret (pe_tup (pa_cons (pe_ix xIx (pv 0) pe_int (fun _ _ => rfl)) pa_nil)))) pss_nil)
  (pss_cons (ps_if (pt_cmpR (xEq hu) (pv 1) pe_str (nomark _)) (pss_one (ps_ret (pe_tup (pa_cons (pe_ix xIx (pv 0) pe_int (fun _ _ => rfl)) (pa_cons (pe_ix xIx (pv 0) pe_int (fun _ _ => rfl)) pa_nil))))) pss_nil)
  (pss_cons (ps_if (pt_cmpR (xEq hu) (pv 1) pe_str (nomark _)) (pss_one (ps_ret (pe_callTy x_tuple rfl Y.z_tuple (by decide +kernel) (pa_cons (pe_ix xIx (pv 0) pe_int (fun _ _ => rfl)) pa_nil)))) pss_nil)
  (pss_cons (ps_if (pt_cmpR (xEq hu) (pv 1) pe_str (nomark _)) (pss_one (ps_ret (pe_callTy x_tuple rfl Y.z_tuple (by decide +kernel) (pa_cons (pe_ix xIx (pv 0) pe_int (fun _ _ => rfl)) pa_nil)))) pss_nil)
  (pss_cons (ps_if (pt_cmpR (xEq hu) (pv 1) pe_str (nomark _)) (pss_one (ps_ret (pe_tup (pa_cons (pe_ix xIx (pv 0) pe_int (fun _ _ => rfl)) (pa_cons (pe_ix xIx (pv 0) pe_int (fun _ _ => rfl)) pa_nil))))) pss_nil)
  (pss_one (ps_ret (pe_tup pa_nil)))))))))))), ?_⟩
  rw [st_operands]
  try simp only [cxK, cxK2, cxW, cxW2]
  clear hu hr F
  cases hI with
  | sign hn h hx =>
    rcases hn with rfl | rfl
    all_goals repeat' walk_at "st"
    all_goals exact k _ _ hS.kp (SqT.of (hS.get 0 rfl))
  | rel hn h hx hy =>
    rcases hn with rfl | rfl
    all_goals repeat' walk_at "st"
    all_goals exact k _ _ hS.kp (SqT.of (hS.get 0 rfl))
  | arith hn h hx hy =>
    rcases hn with rfl | rfl | rfl | rfl | rfl | rfl
    all_goals repeat' walk_at "st"
    all_goals exact k _ _ hS.kp (SqT.of (hS.get 0 rfl))
  | ret h hv ho hl =>
    repeat' walk_at "st"
    exact k _ _ hS.kp (SqT_keep hv hS.kp)
  | call h hv hw ho hl hm =>
    repeat' walk_at "st"
    exact k _ _ hS.kp (SqT_keep hv hS.kp)
  | _ =>
    repeat' walk_at "st"
    exact k _ _ hS.kp (SqT.of (hS.get 0 rfl))
  )) only [↓Hsh.on])
end
theorem c_operands {K : PySem.W.Frag} {A : List Addr} {H0 H : Hp} {L : List Cell} {p : Addr} {ix : Int} {nm : Str} {qs : List Addr} {os : List Opd} {ws bs : List Int} {Q : VK} {E : XK} (hS : SH A H0 H L) (h : InsR K H ix nm p qs os ws bs) (k : ∀ t H', SH A H0 H' L → Keep [] H H' → SqT K H' t (qs.map V.ref) → Q (.ref t) H') : sp_operands K ([.ref p] ++ []) H Q E :=
  ⟨_, rfl, p, ix, nm, qs, os, ws, bs, rfl, h, fun t H' kp hq => k t H' (hS.call0 kp) kp hq⟩
/-- the registers among operands -/
def rdL (os : List Opd) : List Int := (os.filter fun x => x.reg).map fun x => x.n
theorem rdL_step {os : List Opd} {k : Nat} {x : Opd} (h : os[k]? = some x) : rdL (os.take (k + 1)) = rdL (os.take k) ++ if x.reg = true then [x.n] else [] := Hsh.un (by simp (disch := k_dflt (
  refine Hsh.up ?_
  unfold rdL
  rw [List.take_add_one, h, List.filter_append, List.map_append]
  congr 1
  cases hx : x.reg <;> simp [hx]
  )) only [↓Hsh.on])
theorem rdL_len (os : List Opd) (k : Nat) : (rdL (os.take k)).length ≤ os.length := Hsh.un (by simp (disch := k_dflt (
  refine Hsh.up ?_
  unfold rdL
  rw [List.length_map]
  exact Nat.le_trans (List.length_filter_le _ _) (by rw [List.length_take]; exact Nat.min_le_right _ _)
  )) only [↓Hsh.on])
def sp_reads (K : PySem.W.Frag) : Sp := mk1 fun a H Q _ => ∃ (p : Addr) (ix : Int) (nm : Str) (qs : List Addr) (os : List Opd) (ws bs : List Int), a = .ref p ∧ InsR K H ix nm p qs os ws bs ∧ OpsAt K H qs os ∧ os.length ≤ 6 ∧ ∀ t H', Keep [] H H' → SqT K H' t ((rdL os).map V.int) → Q (.ref t) H'
theorem ok_reads {P : Program} {w : World} {K : PySem.W.Frag} {mg : Str → Option Value} {base : Heap} (Y : Env w K mg) (G_operands : CallOk P w K mg base CX0 1 "operands" ["instruction"] (sp_operands K)) : CallOk P w K mg base CX0 2 "reads" ["instruction"] (sp_reads K) := Hsh.un (by simp (disch := k_dflt (
  refine Hsh.up ?_
  obtain ⟨fd, F⟩ := Y.fd_reads
  refine ⟨_, fd, Y.mg_reads, F.kp, F.bindsN (fun _ _ _ _ _ _ us hl => match us, hl with | [_], _ => rfl), F.ok sc_reads mk1_len (fun cdv A outer s H vs Q E hr h => ?_)⟩
  have hu := hu_room hr
  obtain ⟨_, rfl, p, ix, nm, qs, os, ws, bs, rfl, hI, ho, hl, k⟩ := h
  have hS : SH [] H H [] := SH.start0
  refine ⟨_, PSs.nox (pss_one (ps_ret (pe_callTy x_tuple rfl Y.z_tuple (by decide +kernel) (pa_cons (pe_lc (own := [("operand", 1)]) (g := gName 1) rfl sc_reads.nd (pi_tup (pe_callG G_operands hr rfl pass0 (pa_cons (pv 0) pa_nil))) (blkOk_by (N := N_reads) (sc := defScope s_reads) (by decide +kernel)) (fun _ _ _ _ _ => pg_name (i := 1) sc_reads.nd rfl (Or.inl rfl)) (fun _ _ _ _ _ => (pts_one (pt_cmpR (OpR.k (K := K) (r := rEqX) (xEq hu) rfl) (pe_ix (IxR.k (K := K) (r := rIxX) xIx rfl) (pv 1) pe_int (fun _ _ => rfl)) pe_str (nomark _)))) (fun _ _ _ _ _ => (pe_ix (IxR.k (K := K) (r := rIxX) xIx rfl) (pv 1) pe_int (fun _ _ => rfl)))) pa_nil)))), ?_⟩
  rw [st_reads]
  try simp only [cxK, cxK2, cxW, cxW2]
  clear hu hr F
  repeat' walk_at "st"
  refine c_operands hS hI (fun t H1 hS1 kp ht => ?_)
  clear hS
  have hS : SH [] H1 H1 [] := SH.start0
  have ho := ho.keep kp
  clear hS1 hI
  repeat' walk_at "st"
  refine u_lcTG (xs := qs.map V.ref) hS (fun D k H' => SH [] H1 H' [(D, .lst ((rdL (os.take k)).map V.int))]) ht (fun D H2 hS => hS) (fun D k H2 _ hS => SqT_keep ht hS.kp) ?_ ?_
  · rintro D i x H2 hx hS
    rw [List.getElem?_map] at hx
    obtain ⟨q, hq, rfl⟩ := Option.map_eq_some_iff.mp hx
    have hi : i < qs.length := (List.getElem?_eq_some_iff.mp hq).1
    obtain ⟨o, hoo⟩ : ∃ o, os[i]? = some o := ⟨_, List.getElem?_eq_getElem (by rw [← ho.1]; exact hi)⟩
    have hop : OpAt K H2 q o := SqT_keep (ho.2 i q o hq hoo) hS.kp
    have hlen := rdL_len os i
    have hlen2 : ((rdL (os.take i)).map V.int).length ≤ 6 := by rw [List.length_map]; omega
    have hst := rdL_step hoo
    obtain ⟨rg, on⟩ := o
    cases rg
    · repeat' walk_at "st"
      rw [hst, if_neg Bool.false_ne_true, List.append_nil]
      exact hS
    · repeat' walk_at "st"
      rw [hst, if_pos rfl, List.map_append]
      exact hS
  · rintro D H2 hS
    repeat' walk_at "st"
    refine k _ _ (kp.trans hS.kp) ?_
    have e : (rdL (os.take (qs.map V.ref).length)) = rdL os := by rw [List.length_map, ho.1, List.take_length]
    rw [e] at hS
    exact SqT.of (hS.get 0 rfl)
  )) only [↓Hsh.on])
section
 local macro_rules | `(tactic| walk_at "sq") => `(tactic| first | exact Y.tp_SIGNS _ | exact Y.tp_RELATIONS _ | exact Y.tp_RAISING _ | exact Y.tp_ENDING _ | fail)
def sp_writes (K : PySem.W.Frag) : Sp := mk1 fun a H Q _ => ∃ (p : Addr) (ix : Int) (nm : Str) (qs : List Addr) (os : List Opd) (ws bs : List Int), a = .ref p ∧ InsR K H ix nm p qs os ws bs ∧ ∀ t H', Keep [] H H' → SqT K H' t (ws.map V.int) → Q (.ref t) H'
theorem ok_writes {P : Program} {w : World} {K : PySem.W.Frag} {mg : Str → Option Value} {base : Heap} (Y : Env w K mg)  : CallOk P w K mg base CX0 1 "writes" ["instruction"] (sp_writes K) := Hsh.un (by simp (disch := k_dflt (
  refine Hsh.up ?_
  obtain ⟨fd, F⟩ := Y.fd_writes
  refine ⟨_, fd, Y.mg_writes, F.kp, F.bindsN (fun _ _ _ _ _ _ us hl => match us, hl with | [_], _ => rfl), F.ok sc_writes mk1_len (fun cdv A outer s H vs Q E hr h => ?_)⟩
  have hu := hu_room hr
  obtain ⟨_, rfl, p, ix, nm, qs, os, ws, bs, rfl, hI, k⟩ := h
  have hS : SH [] H H [] := SH.start0
  refine ⟨_, PSs.nox (pss_cons (ps_set (i := 1) sc_writes.nd rfl (Or.inl rfl) (pe_ix xIx (pv 0) pe_int (fun _ _ => rfl)))
  (pss_cons (ps_if (pt_cmpR (xEq hu) (pv 1) pe_str (nomark _)) (pss_one (ps_ret (pe_callTy x_tuple rfl Y.z_tuple (by decide +kernel) (pa_cons (pe_ix xIx (pv 0) pe_int (fun _ _ => rfl)) pa_nil)))) pss_nil)
  (pss_cons (ps_if (PW.pt (pw_or (pt_cmpR (xEq hu) (pv 1) pe_str (nomark _)) (pw_or (pt_cmpR xIn (pv 1) (pe_gr rfl Y.mg_SIGNS) rfl) (pw_or (pt_cmpR x_inKD (pv 1) (pe_gr rfl Y.mg_ARITHMETIC) rfl) (pw_or (pt_cmpR xIn (pv 1) (pe_gr rfl Y.mg_RELATIONS) rfl) (pw_or (pt_cmpR (xEq hu) (pv 1) pe_str (nomark _)) (pw_or1 (pt_cmpR (xEq hu) (pv 1) pe_str (nomark _))))))))) (pss_one (ps_ret (pe_tup (pa_cons (pe_ix xIx (pv 0) pe_int (fun _ _ => rfl)) pa_nil)))) pss_nil)
  (pss_one (ps_ret (pe_tup pa_nil)))))), ?_⟩
  rw [st_writes]
  try simp only [cxK, cxK2, cxW, cxW2]
  clear hu hr F
  cases hI with
  | sign hn h hx =>
    rcases hn with rfl | rfl
    all_goals repeat' walk_at "st"
    all_goals exact k _ _ hS.kp (SqT.of (hS.get 0 rfl))
  | rel hn h hx hy =>
    rcases hn with rfl | rfl
    all_goals repeat' walk_at "st"
    all_goals exact k _ _ hS.kp (SqT.of (hS.get 0 rfl))
  | arith hn h hx hy =>
    rcases hn with rfl | rfl | rfl | rfl | rfl | rfl
    all_goals repeat' walk_at "st"
    all_goals exact k _ _ hS.kp (SqT.of (hS.get 0 rfl))
  | call h hv hw ho hl hm =>
    repeat' walk_at "st"
    exact k _ _ hS.kp (SqT_keep hw hS.kp)
  | _ =>
    repeat' walk_at "st"
    exact k _ _ hS.kp (SqT.of (hS.get 0 rfl))
  )) only [↓Hsh.on])
abbrev raisers : List V := [.str "neg", .str "abs", .str "add", .str "sub", .str "mul", .str "div", .str "mod", .str "rem", .str "check", .str "call", .str "raise", .str "again", .str "get"]
def sp_can_raise (K : PySem.W.Frag) : Sp := mk1 fun a H Q _ => ∃ (p : Addr) (nm : Str) (r : List V), a = .ref p ∧ SqT K H p (.str nm :: r) ∧ Q (.bl (inV (.str nm) raisers)) H
theorem ok_can_raise {P : Program} {w : World} {K : PySem.W.Frag} {mg : Str → Option Value} {base : Heap} (Y : Env w K mg)  : CallOk P w K mg base CX0 1 "can_raise" ["instruction"] (sp_can_raise K) := Hsh.un (by simp (disch := k_dflt (
  refine Hsh.up ?_
  obtain ⟨fd, F⟩ := Y.fd_can_raise
  refine ⟨_, fd, Y.mg_can_raise, F.kp, F.bindsN (fun _ _ _ _ _ _ us hl => match us, hl with | [_], _ => rfl), F.ok sc_can_raise mk1_len (fun cdv A outer s H vs Q E hr h => ?_)⟩
  have hu := hu_room hr
  obtain ⟨_, rfl, p, nm, r, rfl, hp, k⟩ := h
  have hS : SH [] H H [] := SH.start0
  refine ⟨_, PSs.nox (pss_one (ps_ret (pe_cmpR xIn (pe_ix xIx (pv 0) pe_int (fun _ _ => rfl)) (pe_gr rfl Y.mg_RAISING) rfl))), ?_⟩
  rw [st_can_raise]
  try simp only [cxK, cxK2, cxW, cxW2]
  clear hu hr F
  repeat' walk_at "st"
  exact k
  )) only [↓Hsh.on])
def sp_followers (K : PySem.W.Frag) : Sp := mk2 fun a b H Q _ => ∃ (p : Addr) (ix : Int) (nm : Str) (qs : List Addr) (os : List Opd) (ws bs : List Int), a = .ref p ∧ b = .int ix ∧ InsR K H ix nm p qs os ws bs ∧ ∀ t H', Keep [] H H' → SqT K H' t (bs.map V.int) → Q (.ref t) H'
theorem ok_followers {P : Program} {w : World} {K : PySem.W.Frag} {mg : Str → Option Value} {base : Heap} (Y : Env w K mg)  : CallOk P w K mg base CX0 1 "followers" ["instruction", "index"] (sp_followers K) := Hsh.un (by simp (disch := k_dflt (
  refine Hsh.up ?_
  obtain ⟨fd, F⟩ := Y.fd_followers
  refine ⟨_, fd, Y.mg_followers, F.kp, F.bindsN (fun _ _ _ _ _ _ us hl => match us, hl with | [_, _], _ => rfl), FunD_okC F sc_followers mk2_len (fun cdv A outer s H vs Q E hcd hr h => ?_)⟩
  have hu := hu_room hr
  obtain ⟨_, _, rfl, p, ix, nm, qs, os, ws, bs, rfl, rfl, hI, k⟩ := h
  have hS : SH [] H H [] := SH.start0
  refine ⟨_, PSs.nox (pss_cons (ps_set (i := 2) sc_followers.nd rfl (Or.inl rfl) (pe_ix xIx (pv 0) pe_int (fun _ _ => rfl)))
  (pss_cons (ps_if (pt_cmpR (xEq hu) (pv 2) pe_str (nomark _)) (pss_one (ps_ret (pe_tup (pa_cons (pe_ix xIx (pv 0) pe_int (fun _ _ => rfl)) pa_nil)))) pss_nil)
  (pss_cons (ps_if (pt_cmpR (xEq hu) (pv 2) pe_str (nomark _)) (pss_one (ps_ret (pe_callTy x_tuple rfl Y.z_tuple (by decide +kernel) (pa_cons (pe_callB (cr_sortedSet rfl) rfl Y.z_sorted (by decide +kernel) (pa_cons (pe_set2 (pe_ix xIx (pv 0) pe_int (fun _ _ => rfl)) (pe_op xAdd (pv 1) pe_int) (L2.kdsCode_of hcd)) pa_nil)) pa_nil)))) pss_nil)
  (pss_cons (ps_if (pt_cmpR xIn (pv 2) (pe_gr rfl Y.mg_ENDING) rfl) (pss_one (ps_ret (pe_tup pa_nil))) pss_nil)
  (pss_one (ps_ret (pe_tup (pa_cons (pe_op xAdd (pv 1) pe_int) pa_nil)))))))), ?_⟩
  rw [st_followers]
  try simp only [cxK, cxK2, cxW, cxW2]
  clear hu hr F
  cases hI with
  | sign hn h hx =>
    rcases hn with rfl | rfl
    all_goals repeat' walk_at "st"
    all_goals exact k _ _ hS.kp (SqT.of (hS.get 0 rfl))
  | rel hn h hx hy =>
    rcases hn with rfl | rfl
    all_goals repeat' walk_at "st"
    all_goals exact k _ _ hS.kp (SqT.of (hS.get 0 rfl))
  | arith hn h hx hy =>
    rcases hn with rfl | rfl | rfl | rfl | rfl | rfl
    all_goals repeat' walk_at "st"
    all_goals exact k _ _ hS.kp (SqT.of (hS.get 0 rfl))
  | _ =>
    repeat' walk_at "st"
    exact k _ _ hS.kp (SqT.of (hS.get 0 rfl))
  )) only [↓Hsh.on])
end
def OpC (L : List Cell) (qs : List Addr) (os : List Opd) : Prop := qs.length = os.length ∧ ∀ (k : Nat) (q : Addr) (x : Opd), qs[k]? = some q → os[k]? = some x → (q, x.o) ∈ L
theorem OpC.nil {L : List Cell} : OpC L [] [] := ⟨rfl, fun k q x h => nomatch h⟩
theorem OpC.snoc {L : List Cell} {qs : List Addr} {os : List Opd} {q : Addr} {x : Opd} (h : OpC L qs os) : OpC ((q, x.o) :: L) (qs ++ [q]) (os ++ [x]) := Hsh.un (by simp (disch := k_dflt (
  refine Hsh.up ?_
  refine ⟨by rw [List.length_append, List.length_append, h.1]; rfl, fun k a b h1 h2 => ?_⟩
  by_cases hk : k < qs.length
  · rw [List.getElem?_append_left hk] at h1
    rw [List.getElem?_append_left (by rw [← h.1]; exact hk)] at h2
    exact List.mem_cons_of_mem _ (h.2 k a b h1 h2)
  · have hk2 : k = qs.length := by
      have := (List.getElem?_eq_some_iff.mp h1).1
      rw [List.length_append, List.length_singleton] at this
      omega
    subst hk2
    rw [List.getElem?_append_right (Nat.le_refl _), Nat.sub_self] at h1
    rw [List.getElem?_append_right (by rw [h.1]; exact Nat.le_refl _), h.1, Nat.sub_self] at h2
    cases h1
    cases h2
    exact List.mem_cons_self
  )) only [↓Hsh.on])
theorem OpC.at {K : PySem.W.Frag} {H : Hp} {L : List Cell} {qs : List Addr} {os : List Opd} (h : OpC L qs os) (hL : ∀ c ∈ L, H c.1 = some c.2) : OpsAt K H qs os := ⟨h.1, fun k q x a b => SqT.of (hL _ (h.2 k q x a b))⟩

/-! ### the law's draws: a list [great numbers, rest, seed, count, three of the places, four zeros] -/
abbrev stG (q : Addr) (c s k a b d : Int) : HO := .lst [.ref q, .int c, .int s, .int k, .int a, .int b, .int d, .int 0, .int 0, .int 0, .int 0]
abbrev Pos (ns : List Int) : Prop := ∀ n ∈ ns, 0 ≤ n
abbrev GC (p q : Addr) (ms : List Int) (c s k a b d : Int) : List Cell := [(p, stG q c s k a b d), (q, .lst (ms.map V.int))]
def sp_z_take (K : PySem.W.Frag) : Sp := mk2 fun a b H Q _ => ∃ (p q : Addr) (ns : List Int) (c s n x y z lim : Int), a = .ref p ∧ b = .int lim ∧ Blk H (GC p q ns c s n x y z) ∧ Pos ns ∧ 0 ≤ c ∧ 0 < lim ∧ lim < 2 ^ 64 ∧
  ∀ (r c' s' n' : Int) ms H', 0 ≤ r → r < lim → 0 ≤ c' → Pos ms → SH [p, q] H H' (GC p q ms c' s' n' x y z) → Q (.int r) H'
theorem ok_z_take {P : Program} {w : World} {K : PySem.W.Frag} {mg : Str → Option Value} {base : Heap} (Y : Env w K mg)  : CallOk P w K mg base CX0 1 "_law_take" ["_law_state", "_law_many"] (sp_z_take K) := Hsh.un (by simp (disch := k_dflt (
  refine Hsh.up ?_
  obtain ⟨fd, F⟩ := Y.fd_z_take
  refine ⟨_, fd, Y.mg_z_take, F.kp, F.bindsN (fun _ _ _ _ _ _ us hl => match us, hl with | [_, _], _ => rfl), F.ok sc_z_take mk2_len (fun cdv A outer s H vs Q E hr h => ?_)⟩
  have hu := hu_room hr
  obtain ⟨_, _, rfl, p, q, ns, c, s, n, x, y, z, lim, rfl, rfl, hB, hp, hc, hl, hl2, k⟩ := h
  have hS : SH [p, q] H H (GC p q ns c s n x y z) := hB.sh
  refine ⟨_, PSs.nox (pss_cons (ps_if (PW.pt (pw_and (pt_cmpR (xEq hu) (pe_ix xIx (pv 0) pe_int (fun _ _ => rfl)) pe_int (nomark _)) (pw_and1 (pt_cmpR op_gt (pe_callB x_len rfl Y.z_len (by decide +kernel) (pa_cons (pe_ix xIx (pv 0) pe_int (fun _ _ => rfl)) pa_nil)) pe_int (nomark _))))) (pss_one (ps_asg (pe_bm PySem.F.plainAttrs_list PySem.F.slot_list_pop PySem.F.type_list_pop mt_popAt (pe_ix xIx (pv 0) pe_int (fun _ _ => rfl)) (pa_cons pe_int pa_nil)) (pg_sub (pv 0) pe_int set_list))) pss_nil)
  (pss_cons (ps_if (pt_cmpR op_gt (pe_ix xIx (pv 0) pe_int (fun _ _ => rfl)) pe_int (nomark _)) (pss_cons (ps_set (i := 2) sc_z_take.nd rfl (Or.inl rfl) (pe_op xMod (pe_callTy x_int rfl Y.z_int (by decide +kernel) (pa_cons (pe_ix xIx (pv 0) pe_int (fun _ _ => rfl)) pa_nil)) (pv 1)))
  (pss_cons (ps_asg (pe_op xDiv (pe_ix xIx (pv 0) pe_int (fun _ _ => rfl)) (pv 1)) (pg_sub (pv 0) pe_int set_list))
  (pss_one (ps_ret (pv 2))))) pss_nil)
  (pss_cons (ps_asg (pe_op xMod (pe_callTy x_int rfl Y.z_int (by decide +kernel) (pa_cons (pe_op xMul (pe_ix xIx (pv 0) pe_int (fun _ _ => rfl)) pe_int) pa_nil)) pe_int) (pg_sub (pv 0) pe_int set_list))
  (pss_cons (ps_asg (pe_op xAdd (pe_ix xIx (pv 0) pe_int (fun _ _ => rfl)) pe_int) (pg_sub (pv 0) pe_int set_list))
  (pss_cons (ps_set (i := 3) sc_z_take.nd rfl (Or.inl rfl) (pe_op xMod (pe_callTy x_int rfl Y.z_int (by decide +kernel) (pa_cons (pe_op xAdd (pe_op xMul (pe_ix xIx (pv 0) pe_int (fun _ _ => rfl)) pe_int) (pe_op xMul (pe_ix xIx (pv 0) pe_int (fun _ _ => rfl)) pe_int)) pa_nil)) pe_int))
  (pss_one (ps_ret (pe_op xMod (pe_callTy x_int rfl Y.z_int (by decide +kernel) (pa_cons (pv 3) pa_nil)) (pv 1))))))))), ?_⟩
  rw [st_z_take]
  try simp only [cxK, cxK2, cxW, cxW2]
  clear hu hr F
  repeat' walk_at "st"
  all_goals try (have hpn2 := hp _ (by rw [hpn]; exact List.mem_cons_self))
  all_goals try (have hp2 : Pos pms := fun z hz => hp z (by rw [hpn]; exact List.mem_cons_of_mem _ hz))
  all_goals first
    | exact k _ _ _ _ _ _ (Int.emod_nonneg _ (by omega)) (Int.emod_lt_of_pos _ hl) (Int.ediv_nonneg (by omega) (by omega)) (by assumption) hS
    | exact k _ _ _ _ _ _ (Int.emod_nonneg _ (by omega)) (Int.emod_lt_of_pos _ hl) (by omega) (by assumption) hS
  )) only [↓Hsh.on])
theorem c_z_take {K : PySem.W.Frag} {A : List Addr} {H0 H : Hp} {L : List Cell} {p q : Addr} {ns : List Int} {c s n x y z lim : Int} {Q : VK} {E : XK} {i j : Nat} (hS : SH A H0 H L) (e : L[i]? = some (p, stG q c s n x y z)) (e2 : L[j]? = some (q, .lst (ns.map V.int))) (ne : i ≠ j) (hp : Pos ns) (h0 : 0 ≤ c) (h2 : 0 < lim) (h3 : lim < 2 ^ 64)
    (k : ∀ (r c' s' n' : Int) ms H', 0 ≤ r → r < lim → 0 ≤ c' → Pos ms → SH A H0 H' ((L.set i (p, stG q c' s' n' x y z)).set j (q, .lst (ms.map V.int))) → Q (.int r) H') : sp_z_take K ([.ref p, .int lim] ++ []) H Q E :=
  ⟨_, _, rfl, p, q, ns, c, s, n, x, y, z, lim, rfl, rfl, (hS.pick [i, j] (by simpa using ne) (by simp [e, e2])).blk, hp, h0, h2, h3, fun r c' s' n' ms H' a b d f C => k r c' s' n' ms H' a b d f (hS.call2 i j e e2 rfl rfl C.kp (C.get 0 rfl) (C.get 1 rfl))⟩
local macro_rules | `(tactic| walk_at "st") => `(tactic| first
  | ((with_reducible show sp_z_take _ _ _ _ _); apply c_z_take hS; (· walk_at "ix"); (· walk_at "ix"); (· decide); (· assumption); (· walk_at "ar"); (· walk_at "ar"); (· walk_at "ar"); intro r c1 s1 n1 ms1 H1 hr0 hr1 hc1 hms1 hS1; clear hS; rename SH _ _ _ _ => hS; simp only [List.set_cons_zero, List.set_cons_succ] at hS)
  | fail)
def sp_z_start (K : PySem.W.Frag) : Sp := mk1 fun a H Q _ => ∃ (s : Addr) (ns : List Int), a = .ref s ∧ ns.length ≤ 63 ∧ Scr K H s (ns.map V.int) ∧
  ∀ p q ms c s n y z H', SH [] H H' (GC p q ms c s n 0 y z) → Pos ms → 0 ≤ c → Q (.ref p) H'
theorem ok_z_start {P : Program} {w : World} {K : PySem.W.Frag} {mg : Str → Option Value} {base : Heap} (Y : Env w K mg) (G_z_take : CallOk P w K mg base CX0 1 "_law_take" ["_law_state", "_law_many"] (sp_z_take K)) : CallOk P w K mg base CX0 2 "_law_start" ["_law_script"] (sp_z_start K) := Hsh.un (by simp (disch := k_dflt (
  refine Hsh.up ?_
  obtain ⟨fd, F⟩ := Y.fd_z_start
  refine ⟨_, fd, Y.mg_z_start, F.kp, F.bindsN (fun _ _ _ _ _ _ us hl => match us, hl with | [_], _ => rfl), F.ok sc_z_start mk1_len (fun cdv A outer s H vs Q E hr h => ?_)⟩
  have hu := hu_room hr
  obtain ⟨_, rfl, sc, ns, rfl, hl, hs, k⟩ := h
  have hS : SH [] H H [] := SH.start0
  refine ⟨_, PSs.nox (pss_cons (ps_set (i := 1) sc_z_start.nd rfl (Or.inl rfl) (pe_lst pa_nil))
  (pss_cons (ps_set (i := 2) sc_z_start.nd rfl (Or.inl rfl) pe_int)
  (pss_cons (ps_for PassesOwn.never rfl (pi_list (pv 0)) (pg_name (i := 3) sc_z_start.nd rfl (Or.inl rfl))
  (pss_cons (ps_set (i := 2) sc_z_start.nd rfl (Or.inl rfl) (pe_op xMod (pe_callTy x_int rfl Y.z_int (by decide +kernel) (pa_cons (pe_op xAdd (pe_op xAdd (pe_op xMul (pv 2) pe_int) (pv 3)) pe_int) pa_nil)) pe_int))
  (pss_one (ps_if (pt_cmpR op_ge (pv 3) (pe_op op_pow pe_int pe_int) (nomark _)) (pss_one (ps_expr (pe_bm PySem.F.plainAttrs_list PySem.F.slot_list_append PySem.F.type_list_append mt_append (pv 1) (pa_cons (pv 3) pa_nil)))) pss_nil))))
  (pss_cons (ps_set (i := 4) sc_z_start.nd rfl (Or.inl rfl) (pe_lst (pa_cons (pv 1) (pa_cons pe_int (pa_cons (pe_op xAdd pe_int (pe_op xMod (pe_callTy x_int rfl Y.z_int (by decide +kernel) (pa_cons (pv 2) pa_nil)) pe_int)) (pa_cons pe_int (pa_cons pe_int (pa_cons pe_int (pa_cons pe_int (pa_cons pe_int (pa_cons pe_int (pa_cons pe_int (pa_cons pe_int pa_nil)))))))))))))
  (pss_cons (ps_asg (pe_op xAdd pe_int (pe_callG G_z_take hr rfl pass0 (pa_cons (pv 4) (pa_cons pe_int pa_nil)))) (pg_sub (pv 4) pe_int set_list))
  (pss_cons (ps_asg (pe_callG G_z_take hr rfl pass0 (pa_cons (pv 4) (pa_cons pe_int pa_nil))) (pg_sub (pv 4) pe_int set_list))
  (pss_one (ps_ret (pv 4))))))))), ?_⟩
  rw [st_z_start]
  try simp only [cxK, cxK2, cxW, cxW2]
  clear hu hr F
  repeat' walk_at "st"
  refine u_forL (xs := ns.map V.int) (fun i σ H' => ∃ sd v ms, σ = [some (.ref sc), some (.ref p), some (.int sd), v, none] ∧ SH [] H H' [(p, .lst (ms.map V.int))] ∧ Pos ms ∧ ms.length ≤ i) (hs.keep hS.kp).sq ⟨_, _, [], rfl, hS, (fun _ z => nomatch z), Nat.le_refl _⟩ ?_ ?_ ?_
  · rintro i σ H' _ ⟨sd, v, ms, rfl, hS, _, _⟩
    exact (hs.keep hS.kp).sq
  · rintro i x σ H' hx ⟨sd, v, ms, rfl, hS, hpo, hm⟩
    have hi : i < 63 := by
      obtain ⟨z, _⟩ := List.getElem?_eq_some_iff.mp hx
      rw [List.length_map] at z
      omega
    rw [List.getElem?_map] at hx
    obtain ⟨n, hn, rfl⟩ := Option.map_eq_some_iff.mp hx
    repeat' walk_at "st"
    · refine ⟨_, _, ms ++ [n], rfl, ?_, ?_, ?_⟩
      · rw [List.map_append]; exact hS
      · intro z hz
        rcases List.mem_append.mp hz with hz | hz
        · exact hpo z hz
        · rw [List.mem_singleton.mp hz]; omega
      · rw [List.length_append, List.length_singleton]; omega
    · exact ⟨_, _, ms, rfl, hS, hpo, by omega⟩
  · rintro σ H' ⟨sd, v, ms, rfl, hS, hpo, hm⟩
    have h00 : (0 : Int) ≤ 0 := Int.le_refl 0
    repeat' walk_at "st"
    exact k _ _ _ _ _ _ _ _ _ hS (by assumption) (by assumption)
  )) only [↓Hsh.on])
theorem c_z_start {K : PySem.W.Frag} {A : List Addr} {H0 H : Hp} {L : List Cell} {s : Addr} {ns : List Int} {Q : VK} {E : XK} (hS : SH A H0 H L) (hl : ns.length ≤ 63) (sc : Scr K H0 s (ns.map V.int))
    (k : ∀ p q ms c s n y z H', SH A H0 H' (GC p q ms c s n 0 y z ++ L) → Pos ms → 0 ≤ c → Q (.ref p) H') : sp_z_start K ([.ref s] ++ []) H Q E :=
  ⟨_, rfl, s, ns, rfl, hl, sc.keep hS.kp, fun p q ms c s n y z H' C hp hc => k p q ms c s n y z H' (SH.call (B := []) (F := L) hS C) hp hc⟩
/-! ### operands drawn -/
theorem snocI {A : List Addr} {H0 H : Hp} {D : Addr} {ms : List Int} {x : Int} {L : List Cell} (hS : SH A H0 H ((D, .lst (ms.map V.int ++ [V.int x])) :: L)) : SH A H0 H ((D, .lst ((ms ++ [x]).map V.int)) :: L) := by
  rw [List.map_append]
  exact hS
structure Shp where
  pa : Int
  ar : Int
  re : Int
  rg : Int
  ce : Int
  le : Int
abbrev Shp.row (s : Shp) : List V := [.int s.pa, .int s.ar, .int s.re, .int s.rg, .int s.ce, .int s.le]
structure Shp.ok (m : Nat) (s : Shp) : Prop where
  p0 : -1 ≤ s.pa
  p1 : s.pa < m
  a0 : 0 ≤ s.ar
  a1 : s.ar ≤ 6
  e0 : 0 ≤ s.re
  e1 : s.re ≤ 6
  g0 : 3 ≤ s.rg
  g1 : s.rg ≤ 23
  c0 : 0 ≤ s.ce
  c1 : s.ce ≤ 4
  l0 : 0 ≤ s.le
  l1 : s.le ≤ 100
  ag : s.ar ≤ s.rg
/-- a list of six numbers that none of B is -/
def ShA (H : Hp) (B : List Addr) (a : Addr) (s : Shp) : Prop := H a = some (.lst s.row) ∧ a ∉ B
theorem ShA.keep {H H' : Hp} {B : List Addr} {a : Addr} {s : Shp} (h : ShA H B a s) (k : Keep B H H') : ShA H' B a s := ⟨k.k _ _ h.1 (.inl h.2), h.2⟩
structure Shs (H : Hp) (B : List Addr) (sl : Addr) (rs : List Addr) (shs : List Shp) : Prop where
  l : H sl = some (.lst (rs.map V.ref))
  nl : sl ∉ B
  len : rs.length = shs.length
  at_ : ∀ (k : Nat) (r : Addr) (s : Shp), rs[k]? = some r → shs[k]? = some s → ShA H B r s
  ok : ∀ s ∈ shs, s.ok shs.length
  n1 : 1 ≤ shs.length
  n4 : shs.length ≤ 4
theorem Shs.keep {H H' : Hp} {B : List Addr} {sl : Addr} {rs : List Addr} {shs : List Shp} (h : Shs H B sl rs shs) (k : Keep B H H') : Shs H' B sl rs shs :=
  ⟨k.k _ _ h.l (.inl h.nl), h.nl, h.len, fun i r s a b => (h.at_ i r s a b).keep k, h.ok, h.n1, h.n4⟩
def Shp0 : Shp := ⟨0, 0, 0, 0, 0, 0⟩
theorem Shs.get {H : Hp} {B : List Addr} {sl : Addr} {rs : List Addr} {shs : List Shp} (h : Shs H B sl rs shs) {k : Nat} (hk : k < shs.length) : ShA H B (rs.getD k 0) (shs.getD k Shp0) ∧ (shs.getD k Shp0).ok shs.length := Hsh.un (by simp (disch := k_dflt (
  refine Hsh.up ?_
  have hk2 : k < rs.length := by rw [h.len]; exact hk
  rw [List.getD_eq_getElem?_getD, List.getD_eq_getElem?_getD, List.getElem?_eq_getElem hk, List.getElem?_eq_getElem hk2]
  exact ⟨h.at_ k _ _ (List.getElem?_eq_getElem hk2) (List.getElem?_eq_getElem hk), h.ok _ (List.getElem_mem _)⟩
  )) only [↓Hsh.on])
/-- places from the end, too -/
theorem Shs.ix {H : Hp} {B : List Addr} {sl : Addr} {rs : List Addr} {shs : List Shp} (h : Shs H B sl rs shs) {i : Int} (h0 : -1 ≤ i) (h1 : i < shs.length) : ∃ k, k < shs.length ∧ atI (rs.map V.ref) i = some (.ref (rs.getD k 0)) := Hsh.un (by simp (disch := k_dflt (
  refine Hsh.up ?_
  have n1 := h.n1
  have key : ∀ k, k < shs.length → (rs.map V.ref)[k]? = some (.ref (rs.getD k 0)) := fun k hk => by
    have hk2 : k < rs.length := by rw [h.len]; exact hk
    rw [List.getElem?_map, List.getD_eq_getElem?_getD, List.getElem?_eq_getElem hk2]
    rfl
  have len : (rs.map V.ref).length = shs.length := by rw [List.length_map, h.len]
  by_cases q : i = -1
  · refine ⟨shs.length - 1, by omega, ?_⟩
    unfold atI ixN
    rw [len, if_neg (by omega), if_pos (by omega)]
    show (rs.map V.ref)[(i + (shs.length : Int)).toNat]? = _
    rw [show (i + (shs.length : Int)).toNat = shs.length - 1 by omega]
    exact key _ (by omega)
  · refine ⟨i.toNat, by omega, ?_⟩
    unfold atI ixN
    rw [len, if_pos (by omega), if_pos h1]
    exact key _ (by omega)
  )) only [↓Hsh.on])
theorem new2 {H H' : Hp} {p q x : Addr} {o u v : HO} {L : List Cell} {i j k : Nat} (S : SH [p, q] H H' L) (e : L[i]? = some (x, v)) (ep : L[j]? = some (p, o)) (eq : L[k]? = some (q, u)) (n1 : j ≠ i) (n2 : k ≠ i) : H x = none := Hsh.un (by simp (disch := k_dflt (
  refine Hsh.up ?_
  refine (S.ow (x, v) (List.mem_of_getElem? e)).resolve_left fun z => ?_
  rcases List.mem_cons.mp z with z | z
  · exact S.ne e ep n1 z.symm
  · exact S.ne e eq n2 (List.mem_singleton.mp z).symm
  )) only [↓Hsh.on])
def sp_z_operand (K : PySem.W.Frag) : Sp := mk2 fun a b H Q _ => ∃ (p q sh : Addr) (ns : List Int) (c s n x y z : Int) (w : Shp), a = .ref p ∧ b = .ref sh ∧ Blk H (GC p q ns c s n x y z) ∧ Pos ns ∧ 0 ≤ c ∧ ShA H [p, q] sh w ∧ 0 < w.rg ∧ w.rg < 100 ∧
  ∀ (l : Addr) (o : Opd) (c' s' n' : Int) ms H', H l = none → H' l = some o.o → (o.reg = true → 0 ≤ o.n ∧ o.n < w.rg) → 0 ≤ c' → Pos ms → Keep [p, q] H H' → H' p = some (stG q c' s' n' x y z) → H' q = some (.lst (ms.map V.int)) → Q (.ref l) H'
section
 local macro_rules | `(tactic| walk_at "hp") => `(tactic| exact (ShA.keep (by assumption) hS.kp).1)
theorem ok_z_operand {P : Program} {w : World} {K : PySem.W.Frag} {mg : Str → Option Value} {base : Heap} (Y : Env w K mg) (G_z_take : CallOk P w K mg base CX0 1 "_law_take" ["_law_state", "_law_many"] (sp_z_take K)) : CallOk P w K mg base CX0 2 "_law_operand" ["_law_state", "_law_shape"] (sp_z_operand K) := Hsh.un (by simp (disch := k_dflt (
  refine Hsh.up ?_
  obtain ⟨fd, F⟩ := Y.fd_z_operand
  refine ⟨_, fd, Y.mg_z_operand, F.kp, F.bindsN (fun _ _ _ _ _ _ us hl => match us, hl with | [_, _], _ => rfl), F.ok sc_z_operand mk2_len (fun cdv A outer s H vs Q E hr h => ?_)⟩
  have hu := hu_room hr
  obtain ⟨_, _, rfl, pst, q, sh, ns, c, s, n, x, y, z, w, rfl, rfl, hB, hp, hc, hsh, hw0, hw1, k⟩ := h
  have hS : SH [pst, q] H H (GC pst q ns c s n x y z) := hB.sh
  refine ⟨_, PSs.nox (pss_cons (ps_if (pt_cmpR (xEq hu) (pe_callG G_z_take hr rfl pass0 (pa_cons (pv 0) (pa_cons pe_int pa_nil))) pe_int (nomark _)) (pss_one (ps_ret (pe_tup (pa_cons pe_str (pa_cons (pe_ix xIx (pe_lst (pa_cons pe_int (pa_cons pe_int (pa_cons pe_int (pa_cons (pe_un un_neg pe_int) (pa_cons pe_int (pa_cons pe_int (pa_cons pe_int (pa_cons (pe_un un_neg pe_int) pa_nil))))))))) (pe_callG G_z_take hr rfl pass0 (pa_cons (pv 0) (pa_cons pe_int pa_nil))) (fun _ _ => rfl)) pa_nil))))) pss_nil)
  (pss_one (ps_ret (pe_tup (pa_cons pe_str (pa_cons (pe_callG G_z_take hr rfl pass0 (pa_cons (pv 0) (pa_cons (pe_ix xIx (pv 1) pe_int (fun _ _ => rfl)) pa_nil))) pa_nil)))))), ?_⟩
  rw [st_z_operand]
  try simp only [cxK, cxK2, cxW, cxW2]
  clear hu hr F
  repeat' walk_at "st"
  · exact k _ ⟨false, _⟩ _ _ _ _ _ (new2 hS (i := 0) (j := 2) (k := 3) rfl rfl rfl (by decide) (by decide)) (hS.get 0 rfl) (fun z => by cases z) hc1 hms1 hS.kp (hS.get 2 rfl) (hS.get 3 rfl)
  · exact k _ ⟨true, _⟩ _ _ _ _ _ (new2 hS (i := 0) (j := 1) (k := 2) rfl rfl rfl (by decide) (by decide)) (hS.get 0 rfl) (fun _ => ⟨by assumption, by assumption⟩) hc1 hms1 hS.kp (hS.get 1 rfl) (hS.get 2 rfl)
  )) only [↓Hsh.on])
end
theorem blk2 {A : List Addr} {H0 H : Hp} {L : List Cell} {c d : Cell} {i j : Nat} (hS : SH A H0 H L) (e : L[i]? = some c) (e2 : L[j]? = some d) (ne : i ≠ j) : Blk H [c, d] := (hS.pick [i, j] (by simpa using ne) (by simp [e, e2])).blk
theorem c_z_operand {K : PySem.W.Frag} {A : List Addr} {H0 H : Hp} {L : List Cell} {p q sh : Addr} {ns : List Int} {c s n x y z : Int} {w : Shp} {Q : VK} {E : XK} {i j : Nat} (hS : SH A H0 H L) (e : L[i]? = some (p, stG q c s n x y z)) (e2 : L[j]? = some (q, .lst (ns.map V.int))) (ne : i ≠ j) (hp : Pos ns) (h0 : 0 ≤ c) (hw : ShA H [p, q] sh w) (h1 : 0 < w.rg) (h2 : w.rg < 100)
    (k : ∀ (l : Addr) (o : Opd) (c' s' n' : Int) ms H', (o.reg = true → 0 ≤ o.n ∧ o.n < w.rg) → 0 ≤ c' → Pos ms → SH A H0 H' ((l, o.o) :: (L.set i (p, stG q c' s' n' x y z)).set j (q, .lst (ms.map V.int))) → Q (.ref l) H') : sp_z_operand K ([.ref p, .ref sh] ++ []) H Q E :=
  ⟨_, _, rfl, p, q, sh, ns, c, s, n, x, y, z, w, rfl, rfl, blk2 hS e e2 ne, hp, h0, hw, h1, h2, fun l o c' s' n' ms H' a a2 b d f kp f1 f2 => k l o c' s' n' ms H' b d f (hS.call2n i j e e2 rfl rfl kp f1 f2 a a2)⟩
local macro_rules | `(tactic| walk_at "st") => `(tactic| first
  | ((with_reducible show sp_z_operand _ _ _ _ _); apply c_z_operand hS; (· walk_at "ix"); (· walk_at "ix"); (· decide); (· assumption); (· walk_at "ar"); (· exact ShA.keep (by assumption) hS.kp); (· assumption); (· assumption); intro lo oo c1 s1 n1 ms1 H1 hob hc1 hms1 hS1; clear hS; rename SH _ _ _ _ => hS; simp only [List.set_cons_zero, List.set_cons_succ] at hS)
  | fail)
def sp_z_target (K : PySem.W.Frag) : Sp := mk3 fun a b e H Q _ => ∃ (p q t : Addr) (ns : List Int) (c s n x y z ix : Int) (bs : List Bool), a = .ref p ∧ b = .int ix ∧ e = .ref t ∧ Blk H (GC p q ns c s n x y z) ∧ Pos ns ∧ 0 ≤ c ∧ H t = some (.lst (bs.map V.bl)) ∧ t ∉ [p, q] ∧ 0 < bs.length ∧ bs.length < 1000 ∧ 0 ≤ ix ∧ ix + 1 < bs.length ∧
  ∀ (r c' s' n' : Int) ms H', 0 ≤ r → r < bs.length → 0 ≤ c' → Pos ms → Keep [p, q] H H' → H' p = some (stG q c' s' n' x y z) → H' q = some (.lst (ms.map V.int)) → Q (.int r) H'
section
 local macro_rules | `(tactic| walk_at "hp") => `(tactic| exact hS.kp.k _ _ ht (.inl htn))
 local macro_rules | `(tactic| walk_at "at") => `(tactic| exact atI_bls (by walk_at "ar") (by walk_at "ar"))
theorem ok_z_target {P : Program} {w : World} {K : PySem.W.Frag} {mg : Str → Option Value} {base : Heap} (Y : Env w K mg) (G_z_take : CallOk P w K mg base CX0 1 "_law_take" ["_law_state", "_law_many"] (sp_z_take K)) : CallOk P w K mg base CX0 2 "_law_target" ["_law_state", "_law_index", "_law_ticks"] (sp_z_target K) := Hsh.un (by simp (disch := k_dflt (
  refine Hsh.up ?_
  obtain ⟨fd, F⟩ := Y.fd_z_target
  refine ⟨_, fd, Y.mg_z_target, F.kp, F.bindsN (fun _ _ _ _ _ _ us hl => match us, hl with | [_, _, _], _ => rfl), F.ok sc_z_target mk3_len (fun cdv A outer s H vs Q E hr h => ?_)⟩
  have hu := hu_room hr
  obtain ⟨_, _, _, rfl, pst, q, t, ns, c, s, n, x, y, z, ix, bs, rfl, rfl, rfl, hB, hp, hc, ht, htn, hb0, hb1, hi0, hi1, k⟩ := h
  have hS : SH [pst, q] H H (GC pst q ns c s n x y z) := hB.sh
  have hbl : (bs.map V.bl).length = bs.length := List.length_map _
  refine ⟨_, PSs.nox (pss_cons (ps_set (i := 3) sc_z_target.nd rfl (Or.inl rfl) (pe_callG G_z_take hr rfl pass0 (pa_cons (pv 0) (pa_cons (pe_callB x_len rfl Y.z_len (by decide +kernel) (pa_cons (pv 2) pa_nil)) pa_nil))))
  (pss_cons (ps_if (PW.pt (pw_and (pt_cmpR op_le (pv 3) (pv 1) (nomark _)) (pw_and1 (pt_not (pt_val (pe_ix xIx (pv 2) (pv 3) (fun _ _ => rfl))))))) (pss_one (ps_ret (pe_op xAdd (pv 1) pe_int))) pss_nil)
  (pss_one (ps_ret (pv 3))))), ?_⟩
  rw [st_z_target]
  try simp only [cxK, cxK2, cxW, cxW2]
  clear hu hr F
  repeat' walk_at "st"
  all_goals exact k _ _ _ _ _ _ (by omega) (by omega) hc1 hms1 hS.kp (hS.get 0 rfl) (hS.get 1 rfl)
  )) only [↓Hsh.on])
end
theorem c_z_target {K : PySem.W.Frag} {A : List Addr} {H0 H : Hp} {L : List Cell} {p q t : Addr} {ns : List Int} {c s n x y z ix : Int} {bs : List Bool} {Q : VK} {E : XK} {i j : Nat} (hS : SH A H0 H L) (e : L[i]? = some (p, stG q c s n x y z)) (e2 : L[j]? = some (q, .lst (ns.map V.int))) (ne : i ≠ j) (hp : Pos ns) (h0 : 0 ≤ c) (ht : H t = some (.lst (bs.map V.bl))) (htn : t ∉ [p, q]) (b0 : 0 < bs.length) (b1 : bs.length < 1000) (i0 : 0 ≤ ix) (i1 : ix + 1 < bs.length)
    (k : ∀ (r c' s' n' : Int) ms H', 0 ≤ r → r < bs.length → 0 ≤ c' → Pos ms → SH A H0 H' ((L.set i (p, stG q c' s' n' x y z)).set j (q, .lst (ms.map V.int))) → Q (.int r) H') : sp_z_target K ([.ref p, .int ix, .ref t] ++ []) H Q E :=
  ⟨_, _, _, rfl, p, q, t, ns, c, s, n, x, y, z, ix, bs, rfl, rfl, rfl, blk2 hS e e2 ne, hp, h0, ht, htn, b0, b1, i0, i1, fun r c' s' n' ms H' a b d f kp f1 f2 => k r c' s' n' ms H' a b d f (hS.call2 i j e e2 rfl rfl kp f1 f2)⟩
/-- the unit that is so many hops around: any place of the list, from the end, too -/
def sp_z_around (K : PySem.W.Frag) : Sp := mk3 fun a b e H Q _ => ∃ (sl : Addr) (rs : List Addr) (shs : List Shp) (u h : Int), a = .ref sl ∧ b = .int u ∧ e = .int h ∧ Shs H [] sl rs shs ∧ -1 ≤ u ∧ u < shs.length ∧ h ≤ 200 ∧ -200 ≤ h ∧
  ∀ (r : Int) H', -1 ≤ r → r < shs.length → Keep [] H H' → Q (.int r) H'
section
 local macro_rules | `(tactic| walk_at "hp") => `(tactic| first | exact (hsl.keep hS.kp).l | exact (hg.keep hS.kp).1)
 local macro_rules | `(tactic| walk_at "at") => `(tactic| exact hat)
theorem ok_z_around {P : Program} {w : World} {K : PySem.W.Frag} {mg : Str → Option Value} {base : Heap} (Y : Env w K mg)  : CallOk P w K mg base CX0 1 "_law_around" ["_law_shapes_here", "_law_number", "_law_hops"] (sp_z_around K) := Hsh.un (by simp (disch := k_dflt (
  refine Hsh.up ?_
  obtain ⟨fd, F⟩ := Y.fd_z_around
  refine ⟨_, fd, Y.mg_z_around, F.kp, F.bindsN (fun _ _ _ _ _ _ us hl => match us, hl with | [_, _, _], _ => rfl), F.ok sc_z_around mk3_len (fun cdv A outer s H vs Q E hr h => ?_)⟩
  have hu := hu_room hr
  obtain ⟨_, _, _, rfl, sl, rs, shs, u, h, rfl, rfl, rfl, hsl, hu0, hu1, hh, hh2, k⟩ := h
  have hS : SH [] H H [] := SH.start0
  refine ⟨_, PSs.nox (pss_cons (ps_for PassesOwn.never rfl (pi_range1 rfl Y.z_range (pa_cons (pv 2) pa_nil)) (pg_name (i := 3) sc_z_around.nd rfl (Or.inl rfl))
  (pss_one (ps_set (i := 1) sc_z_around.nd rfl (Or.inl rfl) (pe_ix xIx (pe_ix xIx (pv 0) (pv 1) (fun _ _ => rfl)) pe_int (fun _ _ => rfl)))))
  (pss_one (ps_ret (pv 1)))), ?_⟩
  rw [st_z_around]
  try simp only [cxK, cxK2, cxW, cxW2]
  clear hu hr F
  repeat' walk_at "st"
  refine u_forR1 (fun _ σ H' => ∃ v u, σ = [some (.ref sl), some (.int u), some (.int h), v] ∧ SH [] H H' [] ∧ -1 ≤ u ∧ u < shs.length) (by omega) (by omega) ⟨_, _, rfl, hS, hu0, hu1⟩ ?_ ?_
  · rintro i σ H2 hi ⟨v, u, rfl, hS, hu0, hu1⟩
    obtain ⟨m, hm, hat⟩ := hsl.ix hu0 hu1
    obtain ⟨hg, hok⟩ := hsl.get hm
    repeat' walk_at "st"
    exact ⟨_, _, rfl, hS, hok.p0, hok.p1⟩
  · rintro σ H2 ⟨v, u, rfl, hS, hu0, hu1⟩
    repeat' walk_at "st"
    exact k _ _ hu0 hu1 hS.kp
  )) only [↓Hsh.on])
end
theorem Shs.nb {H : Hp} {B : List Addr} {sl : Addr} {rs : List Addr} {shs : List Shp} (h : Shs H B sl rs shs) : Shs H [] sl rs shs := ⟨h.l, (fun z => nomatch z), h.len, fun k r s a b => ⟨(h.at_ k r s a b).1, (fun z => nomatch z)⟩, h.ok, h.n1, h.n4⟩
theorem c_z_around {K : PySem.W.Frag} {A : List Addr} {H0 H : Hp} {L : List Cell} {sl : Addr} {rs : List Addr} {shs : List Shp} {u h : Int} {Q : VK} {E : XK} (hS : SH A H0 H L) (hsl : Shs H [] sl rs shs) (hu0 : -1 ≤ u) (hu1 : u < shs.length) (hh : h ≤ 200) (hh2 : -200 ≤ h)
    (k : ∀ (r : Int) H', -1 ≤ r → r < shs.length → SH A H0 H' L → Q (.int r) H') : sp_z_around K ([.ref sl, .int u, .int h] ++ []) H Q E :=
  ⟨_, _, _, rfl, sl, rs, shs, u, h, rfl, rfl, rfl, hsl, hu0, hu1, hh, hh2, fun r H' a b kp => k r H' a b (hS.call0 kp)⟩
theorem no_mem {α : Type} {P : α → Prop} : ∀ b ∈ ([] : List α), P b := fun _ z => nomatch z
def InsW (K : PySem.W.Frag) (H : Hp) (R N ix : Int) (l : Addr) : Prop := ∃ nm qs os ws bs, InsR K H ix nm l qs os ws bs ∧ (∀ o ∈ os, o.reg = true → 0 ≤ o.n ∧ o.n < R) ∧ (∀ b ∈ bs, 0 ≤ b ∧ b < N) ∧ ∀ b ∈ ws, 0 ≤ b ∧ b < R
theorem InsW.keep {K : PySem.W.Frag} {A : List Addr} {H H' : Hp} {R N ix : Int} {l : Addr} (h : InsW K H R N ix l) (k : Keep A H H') : InsW K H' R N ix l := by
  obtain ⟨nm, qs, os, ws, bs, h, h1, h2⟩ := h
  exact ⟨nm, qs, os, ws, bs, h.keep k, h1, h2⟩
theorem opI {K : PySem.W.Frag} {H : Hp} {l : Addr} {r : Int} (h : SqT K H l [.str "int", .int r]) : OpAt K H l ⟨false, r⟩ := h
theorem opR {K : PySem.W.Frag} {H : Hp} {l : Addr} {r : Int} (h : SqT K H l [.str "reg", .int r]) : OpAt K H l ⟨true, r⟩ := h
local macro_rules | `(tactic| walk_at "wo") => `(tactic| first | (with_reducible exact no_mem) | (intro o ho; simp only [List.mem_cons, List.not_mem_nil, or_false] at ho; first | exact ho.elim | (subst ho; first | assumption | (intro z; exact absurd z Bool.false_ne_true)) | (rcases ho with rfl | rfl <;> first | assumption | (intro z; exact absurd z Bool.false_ne_true))))
local macro_rules | `(tactic| walk_at "wb") => `(tactic| first | (with_reducible exact no_mem) | (intro b hb; simp only [List.mem_cons, List.not_mem_nil, or_false] at hb; first | exact hb.elim | (subst hb; omega) | (rcases hb with rfl | rfl <;> omega)))
local macro_rules | `(tactic| walk_at "op") => `(tactic| first | exact opI (SqT.of (by walk_at "hp")) | exact SqT.of (by walk_at "hp") | fail)
def sp_z_memory (K : PySem.W.Frag) : Sp := mk3 fun a b e H Q _ => ∃ (p q sl : Addr) (rs : List Addr) (shs : List Shp) (ns : List Int) (c s n x y z u ix N : Int), a = .ref p ∧ b = .ref sl ∧ e = .int u ∧ Blk H (GC p q ns c s n x y z) ∧ Pos ns ∧ 0 ≤ c ∧ Shs H [p, q] sl rs shs ∧ 0 ≤ u ∧ u < shs.length ∧ 0 ≤ ix ∧ ix + 1 < N ∧
  ∀ (l : Addr) (c' s' n' : Int) ms H', InsW K H' (shs.getD u.toNat Shp0).rg N ix l → 0 ≤ c' → Pos ms → Keep [p, q] H H' → H' p = some (stG q c' s' n' x y z) → H' q = some (.lst (ms.map V.int)) → Q (.ref l) H'
section
 local macro_rules | `(tactic| walk_at "hp") => `(tactic| first | exact (hsl.keep hS.kp).l | exact (hsh.keep hS.kp).1 | exact (hg.keep hS.kp).1 | fail)
 local macro_rules | `(tactic| walk_at "at") => `(tactic| first | exact hat | fail)
 local macro_rules | `(tactic| walk_at "st") => `(tactic| first
  | ((with_reducible show sp_z_around _ _ _ _ _); refine c_z_around hS (hsl.keep hS.kp).nb ?_ ?_ ?_ ?_ (fun ra H1 hra0 hra1 hS1 => ?_); (· omega); (· omega); (· omega); (· omega); walk_at "nw")
  | fail)
theorem ok_z_memory {P : Program} {w : World} {K : PySem.W.Frag} {mg : Str → Option Value} {base : Heap} (Y : Env w K mg) (G_z_around : CallOk P w K mg base CX0 1 "_law_around" ["_law_shapes_here", "_law_number", "_law_hops"] (sp_z_around K)) (G_z_operand : CallOk P w K mg base CX0 2 "_law_operand" ["_law_state", "_law_shape"] (sp_z_operand K)) (G_z_take : CallOk P w K mg base CX0 1 "_law_take" ["_law_state", "_law_many"] (sp_z_take K)) : CallOk P w K mg base CX0 3 "_law_memory" ["_law_state", "_law_shapes_here", "_law_number"] (sp_z_memory K) := Hsh.un (by simp (disch := k_dflt (
  refine Hsh.up ?_
  obtain ⟨fd, F⟩ := Y.fd_z_memory
  refine ⟨_, fd, Y.mg_z_memory, F.kp, F.bindsN (fun _ _ _ _ _ _ us hl => match us, hl with | [_, _, _], _ => rfl), F.ok sc_z_memory mk3_len (fun cdv A outer s H vs Q E hr h => ?_)⟩
  have hu := hu_room hr
  obtain ⟨_, _, _, rfl, pst, q, sl, rs, shs, ns, c, s, n, x, y, z, u, ix, N, rfl, rfl, rfl, hB, hp, hc, hsl, hu0, hu1, hi0, hi1, k⟩ := h
  have hS : SH [pst, q] H H (GC pst q ns c s n x y z) := hB.sh
  have hrl : (rs.map V.ref).length = shs.length := by rw [List.length_map, hsl.len]
  obtain ⟨hsh, hok⟩ := hsl.get (k := u.toNat) (by omega)
  have h1 := hok.l0; have h2 := hok.l1; have h3 := hok.g0; have h4 := hok.g1
  have h5 : 0 < (shs.getD u.toNat Shp0).rg := by omega
  have h6 : (shs.getD u.toNat Shp0).rg < 100 := by omega
  refine ⟨_, PSs.nox (pss_cons (ps_set (i := 3) sc_z_memory.nd rfl (Or.inl rfl) (pe_ix xIx (pv 1) (pv 2) (fun _ _ => rfl)))
  (pss_cons (ps_set (i := 4) sc_z_memory.nd rfl (Or.inl rfl) (pe_callG G_z_take (hr.mono (by decide)) rfl pass0 (pa_cons (pv 0) (pa_cons (pe_op xAdd (pe_ix xIx (pv 3) pe_int (fun _ _ => rfl)) pe_int) pa_nil))))
  (pss_cons (ps_set (i := 5) sc_z_memory.nd rfl (Or.inl rfl) (pe_ix xIx (pe_ix xIx (pv 1) (pe_callG G_z_around (hr.mono (by decide)) rfl pass0 (pa_cons (pv 1) (pa_cons (pv 2) (pa_cons (pv 4) pa_nil)))) (fun _ _ => rfl)) pe_int (fun _ _ => rfl)))
  (pss_cons (ps_if (pt_cmpR (xEq hu) (pv 5) pe_int (nomark _)) (pss_one (ps_ret (pe_tup (pa_cons pe_str (pa_cons (pe_callG G_z_operand hr rfl pass0 (pa_cons (pv 0) (pa_cons (pv 3) pa_nil))) pa_nil))))) pss_nil)
  (pss_cons (ps_set (i := 6) sc_z_memory.nd rfl (Or.inl rfl) (pe_callG G_z_take (hr.mono (by decide)) rfl pass0 (pa_cons (pv 0) (pa_cons (pv 5) pa_nil))))
  (pss_cons (ps_set (i := 7) sc_z_memory.nd rfl (Or.inl rfl) (pe_op xAdd pe_int (pe_callG G_z_take (hr.mono (by decide)) rfl pass0 (pa_cons (pv 0) (pa_cons (pe_op op_sub (pv 5) (pv 6)) pa_nil)))))
  (pss_cons (ps_set (i := 8) sc_z_memory.nd rfl (Or.inl rfl) (pe_tup (pa_cons pe_str (pa_cons (pe_callG G_z_take (hr.mono (by decide)) rfl pass0 (pa_cons (pv 0) (pa_cons (pv 7) pa_nil))) pa_nil))))
  (pss_cons (ps_if (pt_cmpR (xEq hu) (pe_callG G_z_take (hr.mono (by decide)) rfl pass0 (pa_cons (pv 0) (pa_cons pe_int pa_nil))) pe_int (nomark _)) (pss_one (ps_set (i := 8) sc_z_memory.nd rfl (Or.inl rfl) (pe_callG G_z_operand hr rfl pass0 (pa_cons (pv 0) (pa_cons (pv 3) pa_nil))))) pss_nil)
  (pss_cons (ps_if (pt_cmpR (xEq hu) (pe_callG G_z_take (hr.mono (by decide)) rfl pass0 (pa_cons (pv 0) (pa_cons pe_int pa_nil))) pe_int (nomark _)) (pss_one (ps_ret (pe_tup (pa_cons pe_str (pa_cons (pe_callG G_z_take (hr.mono (by decide)) rfl pass0 (pa_cons (pv 0) (pa_cons (pe_ix xIx (pv 3) pe_int (fun _ _ => rfl)) pa_nil))) (pa_cons (pv 4) (pa_cons (pv 6) (pa_cons (pv 7) (pa_cons (pv 8) pa_nil))))))))) pss_nil)
  (pss_one (ps_ret (pe_tup (pa_cons pe_str (pa_cons (pv 4) (pa_cons (pv 6) (pa_cons (pv 7) (pa_cons (pv 8) (pa_cons (pe_callG G_z_operand hr rfl pass0 (pa_cons (pv 0) (pa_cons (pv 3) pa_nil))) pa_nil)))))))))))))))))), ?_⟩
  rw [st_z_memory]
  try simp only [cxK, cxK2, cxW, cxW2]
  clear hu hr F
  repeat' walk_at "st"
  obtain ⟨m, hm, hat⟩ := hsl.ix hra0 hra1
  obtain ⟨hg, hok2⟩ := hsl.get hm
  have h7 := hok2.c0; have h8 := hok2.c1
  repeat' walk_at "st"
  all_goals first
    | exact k _ _ _ _ _ _ ⟨_, _, _, _, _, .put (SqT.of (by walk_at "hp")) (by walk_at "op"), by walk_at "wo", by walk_at "wb", by walk_at "wb"⟩ hc1 hms1 hS.kp (by walk_at "hp") (by walk_at "hp")
    | exact k _ _ _ _ _ _ ⟨_, _, _, _, _, .load (SqT.of (by walk_at "hp")) (by walk_at "op"), by walk_at "wo", by walk_at "wb", by walk_at "wb"⟩ hc1 hms1 hS.kp (by walk_at "hp") (by walk_at "hp")
    | exact k _ _ _ _ _ _ ⟨_, _, _, _, _, .store (SqT.of (by walk_at "hp")) (by walk_at "op") (by walk_at "op"), by walk_at "wo", by walk_at "wb", by walk_at "wb"⟩ hc1 hms1 hS.kp (by walk_at "hp") (by walk_at "hp")
  )) only [↓Hsh.on])
end
theorem c_z_memory {K : PySem.W.Frag} {A : List Addr} {H0 H : Hp} {L : List Cell} {p q sl : Addr} {rs : List Addr} {shs : List Shp} {ns : List Int} {c s n x y z u ix N : Int} {Q : VK} {E : XK} {i j : Nat} (hS : SH A H0 H L) (e : L[i]? = some (p, stG q c s n x y z)) (e2 : L[j]? = some (q, .lst (ns.map V.int))) (ne : i ≠ j) (hp : Pos ns) (h0 : 0 ≤ c) (hsl : Shs H [p, q] sl rs shs) (hu0 : 0 ≤ u) (hu1 : u < shs.length) (i0 : 0 ≤ ix) (i1 : ix + 1 < N)
    (k : ∀ (l : Addr) (c' s' n' : Int) ms H', InsW K H' (shs.getD u.toNat Shp0).rg N ix l → 0 ≤ c' → Pos ms → SH A H0 H' ((L.set i (p, stG q c' s' n' x y z)).set j (q, .lst (ms.map V.int))) → Q (.ref l) H') : sp_z_memory K ([.ref p, .ref sl, .int u] ++ []) H Q E :=
  ⟨_, _, _, rfl, p, q, sl, rs, shs, ns, c, s, n, x, y, z, u, ix, N, rfl, rfl, rfl, blk2 hS e e2 ne, hp, h0, hsl, hu0, hu1, i0, i1, fun l c' s' n' ms H' a b d kp f1 f2 => k l c' s' n' ms H' a b d (hS.call2 i j e e2 rfl rfl kp f1 f2)⟩
def sp_z_call (K : PySem.W.Frag) : Sp := mk3 fun a b e H Q _ => ∃ (p q sl : Addr) (rs : List Addr) (shs : List Shp) (ns : List Int) (c s n x y z u ix N : Int), a = .ref p ∧ b = .ref sl ∧ e = .int u ∧ Blk H (GC p q ns c s n x y z) ∧ Pos ns ∧ 0 ≤ c ∧ Shs H [p, q] sl rs shs ∧ 0 ≤ u ∧ u < shs.length ∧ 0 ≤ ix ∧ ix + 1 < N ∧
  ∀ (l : Addr) (c' s' n' : Int) ms H', InsW K H' (shs.getD u.toNat Shp0).rg N ix l → 0 ≤ c' → Pos ms → Keep [p, q] H H' → H' p = some (stG q c' s' n' x y z) → H' q = some (.lst (ms.map V.int)) → Q (.ref l) H'
section
 local macro_rules | `(tactic| walk_at "hp") => `(tactic| first | exact (hsl.keep hS.kp).l | exact (hsh.keep hS.kp).1 | exact (hg.keep hS.kp).1 | fail)
 local macro_rules | `(tactic| walk_at "at") => `(tactic| first | exact hat | fail)
 local macro_rules | `(tactic| walk_at "st") => `(tactic| first
  | ((with_reducible show sp_z_around _ _ _ _ _); refine c_z_around hS (hsl.keep hS.kp).nb ?_ ?_ ?_ ?_ (fun ra H1 hra0 hra1 hS1 => ?_); (· omega); (· omega); (· omega); (· omega); walk_at "nw")
  | (with_reducible refine s_lcRG ?_)
  | fail)
theorem ok_z_call {P : Program} {w : World} {K : PySem.W.Frag} {mg : Str → Option Value} {base : Heap} (Y : Env w K mg) (G_z_around : CallOk P w K mg base CX0 1 "_law_around" ["_law_shapes_here", "_law_number", "_law_hops"] (sp_z_around K)) (G_z_operand : CallOk P w K mg base CX0 2 "_law_operand" ["_law_state", "_law_shape"] (sp_z_operand K)) (G_z_take : CallOk P w K mg base CX0 1 "_law_take" ["_law_state", "_law_many"] (sp_z_take K)) : CallOk P w K mg base CX0 3 "_law_call" ["_law_state", "_law_shapes_here", "_law_number"] (sp_z_call K) := Hsh.un (by simp (disch := k_dflt (
  refine Hsh.up ?_
  obtain ⟨fd, F⟩ := Y.fd_z_call
  refine ⟨_, fd, Y.mg_z_call, F.kp, F.bindsN (fun _ _ _ _ _ _ us hl => match us, hl with | [_, _, _], _ => rfl), F.ok sc_z_call mk3_len (fun cdv A outer s H vs Q E hr h => ?_)⟩
  have hu := hu_room hr
  obtain ⟨_, _, _, rfl, pst, q, sl, rs, shs, ns, c, s, n, x, y, z, u, ix, N, rfl, rfl, rfl, hB, hp, hc, hsl, hu0, hu1, hi0, hi1, k⟩ := h
  have hS : SH [pst, q] H H (GC pst q ns c s n x y z) := hB.sh
  have hrl : (rs.map V.ref).length = shs.length := by rw [List.length_map, hsl.len]
  obtain ⟨hsh, hok⟩ := hsl.get (k := u.toNat) (by omega)
  have h1 := hok.l0; have h2 := hok.l1; have h3 := hok.g0; have h4 := hok.g1
  have h5 : 0 < (shs.getD u.toNat Shp0).rg := by omega
  have h6 : (shs.getD u.toNat Shp0).rg < 100 := by omega
  have hn4 := hsl.n4
  refine ⟨_, PSs.nox (pss_cons (ps_set (i := 3) sc_z_call.nd rfl (Or.inr rfl) (pe_ix xIx (pv 1) (pv 2) (fun _ _ => rfl)))
  (pss_cons (ps_set (i := 4) sc_z_call.nd rfl (Or.inl rfl) (pe_callG G_z_take (hr.mono (by decide)) rfl pass0 (pa_cons (pv 0) (pa_cons (pe_op xAdd (pe_ix xIx (pv 3) pe_int (fun _ _ => rfl)) pe_int) pa_nil))))
  (pss_cons (ps_set (i := 5) sc_z_call.nd rfl (Or.inr rfl) (pe_callG G_z_around (hr.mono (by decide)) rfl pass0 (pa_cons (pv 1) (pa_cons (pv 2) (pa_cons (pv 4) pa_nil)))))
  (pss_cons (ps_setLc (i := 7) (own := [("_law_k", 6)]) (g := gName 6) rfl sc_z_call.nd rfl rfl (sw_true rfl rfl rfl (by decide +kernel)) (pi_range1 rfl Y.z_range (pa_cons (pe_callB x_len rfl Y.z_len (by decide +kernel) (pa_cons (pv 1) pa_nil)) pa_nil)) (blkOk_by (N := N_z_call) (sc := defScope s_z_call) (by decide +kernel)) (fun _ _ _ _ _ => pg_name (i := 6) sc_z_call.nd rfl (Or.inl rfl)) (fun _ _ _ _ _ => (pts_one (pt_cmpR (OpR.k (K := K) (r := rEqX) (xEq hu) rfl) (pe_ix (IxR.k (K := K) (r := rIxX) xIx rfl) (pe_ix (IxR.k (K := K) (r := rIxX) xIx rfl) (pv 1) (pv 6) (fun _ _ => rfl)) pe_int (fun _ _ => rfl)) (pv 5) (nomark _)))) (fun _ _ _ _ _ => (pv 6)))
  (pss_cons (ps_if (pt_cmpR (xEq hu) (pv 7) (pe_lst pa_nil) (nomark _)) (pss_one (ps_ret (pe_tup (pa_cons pe_str (pa_cons (pe_callG G_z_operand hr rfl pass0 (pa_cons (pv 0) (pa_cons (pv 3) pa_nil))) pa_nil))))) pss_nil)
  (pss_cons (ps_set (i := 8) sc_z_call.nd rfl (Or.inl rfl) (pe_ix xIx (pv 7) (pe_callG G_z_take (hr.mono (by decide)) rfl pass0 (pa_cons (pv 0) (pa_cons (pe_callB x_len rfl Y.z_len (by decide +kernel) (pa_cons (pv 7) pa_nil)) pa_nil))) (fun _ _ => rfl)))
  (pss_cons (ps_set (i := 9) sc_z_call.nd rfl (Or.inl rfl) (pe_callTy x_tuple rfl Y.z_tuple (by decide +kernel) (pa_cons (pe_lc (own := [("_law_k", 6)]) (g := gName 6) rfl sc_z_call.nd (pi_range1 rfl Y.z_range (pa_cons (pe_ix xIx (pe_ix xIx (pv 1) (pv 8) (fun _ _ => rfl)) pe_int (fun _ _ => rfl)) pa_nil)) (blkOk_by (N := N_z_call) (sc := defScope s_z_call) (by decide +kernel)) (fun _ _ _ _ _ => pg_name (i := 6) sc_z_call.nd rfl (Or.inl rfl)) (fun _ _ _ _ _ => pts_nil) (fun _ _ _ _ _ => (pe_callG G_z_operand hr rfl pass0 (pa_cons (pv 0) (pa_cons (pv 3) pa_nil))))) pa_nil)))
  (pss_cons (ps_set (i := 10) sc_z_call.nd rfl (Or.inr rfl) (pe_callG G_z_take (hr.mono (by decide)) rfl pass0 (pa_cons (pv 0) (pa_cons (pe_ix xIx (pv 3) pe_int (fun _ _ => rfl)) pa_nil))))
  (pss_cons (ps_set (i := 11) sc_z_call.nd rfl (Or.inl rfl) (pe_callTy x_tuple rfl Y.z_tuple (by decide +kernel) (pa_cons (pe_lc (own := [("_law_k", 6)]) (g := gName 6) rfl sc_z_call.nd (pi_range1 rfl Y.z_range (pa_cons (pe_ix xIx (pe_ix xIx (pv 1) (pv 8) (fun _ _ => rfl)) pe_int (fun _ _ => rfl)) pa_nil)) (blkOk_by (N := N_z_call) (sc := defScope s_z_call) (by decide +kernel)) (fun _ _ _ _ _ => pg_name (i := 6) sc_z_call.nd rfl (Or.inl rfl)) (fun _ _ _ _ _ => pts_nil) (fun _ _ _ _ _ => (pe_op xMod (pe_callTy x_int rfl Y.z_int (by decide +kernel) (pa_cons (pe_op (OpR.k (K := K) (r := rAddX) xAdd rfl) (pv 10) (pv 6)) pa_nil)) (pe_ix (IxR.k (K := K) (r := rIxX) xIx rfl) (pv 3) pe_int (fun _ _ => rfl))))) pa_nil)))
  (pss_one (ps_ret (pe_tup (pa_cons pe_str (pa_cons (pv 8) (pa_cons (pv 4) (pa_cons (pv 9) (pa_cons (pv 11) (pa_cons (pe_callG G_z_take (hr.mono (by decide)) rfl pass0 (pa_cons (pv 0) (pa_cons pe_int pa_nil))) pa_nil)))))))))))))))))), ?_⟩
  rw [st_z_call]
  try simp only [cxK, cxK2, cxW, cxW2]
  clear hu hr F
  repeat' walk_at "st"
  refine u_lcRG hS (fun D k H' => ∃ ls : List Int, ls.length ≤ k ∧ (∀ i ∈ ls, 0 ≤ i ∧ i < shs.length) ∧ SH [pst, q] H H' ((D, .lst (ls.map V.int)) :: (GC pst q ms1 c1 s1 n1 x y z))) (by omega) (by omega) (fun D H1 hS => ⟨[], Nat.zero_le _, (fun _ z => nomatch z), hS⟩) ?_ ?_
  · rintro D m H1 hm ⟨ls, hl, hin, hS⟩
    rw [hrl] at hm
    obtain ⟨hg, hok2⟩ := hsl.get (k := ((m : Nat) : Int).toNat) (by omega)
    have hll : (ls.map V.int).length = ls.length := List.length_map _
    repeat' walk_at "st"
    · refine ⟨ls ++ [(m : Int)], by rw [List.length_append, List.length_singleton]; omega, fun i hi => ?_, snocI hS⟩
      rcases List.mem_append.mp hi with hi | hi
      · exact hin i hi
      · rw [List.mem_singleton.mp hi]; omega
    · exact ⟨ls, by omega, hin, hS⟩
  · rintro D H1 ⟨ls, hl, hin, hS⟩
    have hll : (ls.map V.int).length = ls.length := List.length_map _
    obtain ⟨D0, eD⟩ : ∃ D0, D0 = D := ⟨_, rfl⟩
    rw [← eD] at hS ⊢
    clear eD
    repeat' walk_at "st"
    refine s_eqLI (ns := ls) (ms := []) (SqL.of (hS.get 1 rfl)) (SqL.of (hS.get 0 rfl)) ⟨_, rfl, ?_⟩
    refine i_dec (fun hc => ?_) (fun hc => ?_)
    · repeat' walk_at "st"
      exact k _ _ _ _ _ _ ⟨_, _, _, _, _, .put (SqT.of (by walk_at "hp")) (by walk_at "op"), by walk_at "wo", by walk_at "wb", by walk_at "wb"⟩ hc1 hms1 hS.kp (by walk_at "hp") (by walk_at "hp")
    · have hlp : 0 < ls.length := List.length_pos_iff.mpr hc
      repeat' walk_at "st"
      have hoth := hin (ls.getD r.toNat 0) (by
        rw [List.getD_eq_getElem?_getD, List.getElem?_eq_getElem (by omega)]
        exact List.getElem_mem _)
      obtain ⟨ho0, ho1⟩ := hoth
      obtain ⟨hg, hok2⟩ := hsl.get (k := (ls.getD r.toNat 0).toNat) (by omega)
      have h7 := hok2.a0; have h8 := hok2.a1; have h9 := hok2.e0; have h10 := hok2.e1
      repeat' walk_at "st"
      refine u_lcRG hS (fun D k H' => ∃ (qs : List Addr) (os : List Opd) (Lx : List Cell) (c s n : Int) (ms : List Int), qs.length = k ∧ OpC Lx qs os ∧ (∀ o ∈ os, o.reg = true → 0 ≤ o.n ∧ o.n < (shs.getD u.toNat Shp0).rg) ∧ 0 ≤ c ∧ Pos ms ∧ SH [pst, q] H H' ((D, .lst (qs.map V.ref)) :: (p, .lst []) :: (D0, .lst (ls.map V.int)) :: (pst, stG q c s n x y z) :: (q, .lst (ms.map V.int)) :: Lx)) (by omega) (by omega) (fun D H1 hS => ⟨[], [], [], _, _, _, _, rfl, .nil, (fun _ z => nomatch z), by assumption, by assumption, hS⟩) ?_ ?_
      · rintro D m H1 hm ⟨qs, os, Lx, c, s, n, ms, hql, hoc, hbo, hc, hms, hS⟩
        have hql2 : (qs.map V.ref).length = m := by rw [List.length_map]; exact hql
        repeat' walk_at "st"
        refine ⟨qs ++ [lo], os ++ [oo], _, c1, s1, n1, ms1, by rw [List.length_append, hql]; rfl, hoc.snoc, fun o ho => ?_, hc1, hms1, ?_⟩
        · rcases List.mem_append.mp ho with ho | ho
          · exact hbo o ho
          · rw [List.mem_singleton.mp ho]; exact hob
        · have z := hS.perm (List.perm_middle (l₁ := [_, _, _, _, _])).symm
          rw [List.map_append]
          exact z
      · rintro D H1 ⟨qs, os, Lx, c1, s1, n1, ms1, hql, hoc, hbo, hc1, hms1, hS⟩
        obtain ⟨D1, eD⟩ : ∃ D1, D1 = D := ⟨_, rfl⟩
        rw [← eD] at hS ⊢
        clear eD
        repeat' walk_at "st"
        rename_i px _ _ _
        refine u_lcRG hS (fun D k H' => ∃ ws : List Int, ws.length = k ∧ (∀ w ∈ ws, 0 ≤ w ∧ w < (shs.getD u.toNat Shp0).rg) ∧ SH [pst, q] H H' ((D, .lst (ws.map V.int)) :: _)) (by omega) (by omega) (fun D H1 hS => ⟨[], rfl, no_mem, hS⟩) ?_ ?_
        · rintro D m H1 hm ⟨ws, hwl, hwb, hS⟩
          have hwl2 : (ws.map V.int).length = m := by rw [List.length_map]; exact hwl
          repeat' walk_at "st"
          refine ⟨ws ++ [_], by rw [List.length_append, hwl]; rfl, fun w hw => ?_, snocI hS⟩
          rcases List.mem_append.mp hw with hw | hw
          · exact hwb w hw
          · rw [List.mem_singleton.mp hw]
            exact ⟨Int.emod_nonneg _ (by omega), Int.emod_lt_of_pos _ (by omega)⟩
        · rintro D H1 ⟨ws, hwl, hwb, hS⟩
          repeat' walk_at "st"
          have hL : ∀ c ∈ Lx, H1 c.1 = some c.2 := fun c hc => hS.hs c (List.mem_append_right [_, _, _, _, _, _, _, _, _] hc)
          exact k _ _ _ _ _ _ ⟨_, qs, os, ws, _, .call (SqT.of (by walk_at "hp")) (SqT.of (by walk_at "hp")) (SqT.of (by walk_at "hp")) (hoc.at hL) (by have := hoc.1; omega) (by omega), hbo, by walk_at "wb", hwb⟩ hc1 hms1 hS.kp (by walk_at "hp") (by walk_at "hp")
  )) only [↓Hsh.on])
end
theorem c_z_call {K : PySem.W.Frag} {A : List Addr} {H0 H : Hp} {L : List Cell} {p q sl : Addr} {rs : List Addr} {shs : List Shp} {ns : List Int} {c s n x y z u ix N : Int} {Q : VK} {E : XK} {i j : Nat} (hS : SH A H0 H L) (e : L[i]? = some (p, stG q c s n x y z)) (e2 : L[j]? = some (q, .lst (ns.map V.int))) (ne : i ≠ j) (hp : Pos ns) (h0 : 0 ≤ c) (hsl : Shs H [p, q] sl rs shs) (hu0 : 0 ≤ u) (hu1 : u < shs.length) (i0 : 0 ≤ ix) (i1 : ix + 1 < N)
    (k : ∀ (l : Addr) (c' s' n' : Int) ms H', InsW K H' (shs.getD u.toNat Shp0).rg N ix l → 0 ≤ c' → Pos ms → SH A H0 H' ((L.set i (p, stG q c' s' n' x y z)).set j (q, .lst (ms.map V.int))) → Q (.ref l) H') : sp_z_call K ([.ref p, .ref sl, .int u] ++ []) H Q E :=
  ⟨_, _, _, rfl, p, q, sl, rs, shs, ns, c, s, n, x, y, z, u, ix, N, rfl, rfl, rfl, blk2 hS e e2 ne, hp, h0, hsl, hu0, hu1, i0, i1, fun l c' s' n' ms H' a b d kp f1 f2 => k l c' s' n' ms H' a b d (hS.call2 i j e e2 rfl rfl kp f1 f2)⟩
/-- a region of the law: five numbers -/
def RegR (K : PySem.W.Frag) (H : Hp) (R N : Int) (a : Addr) (d : List Int) : Prop := SqT K H a (d.map V.int) ∧ d.length = 5 ∧ 0 ≤ d.getD 2 0 ∧ d.getD 2 0 < N ∧ 0 ≤ d.getD 3 0 ∧ d.getD 3 0 < R ∧ 0 ≤ d.getD 4 0 ∧ d.getD 4 0 < R
theorem RegR.keep {K : PySem.W.Frag} {A : List Addr} {H H' : Hp} {R N : Int} {a : Addr} {d : List Int} (h : RegR K H R N a d) (k : Keep A H H') : RegR K H' R N a d := ⟨SqT_keep h.1 k, h.2⟩
def RegsR (K : PySem.W.Frag) (H : Hp) (R N : Int) (gs : List Addr) (ds : List (List Int)) : Prop := gs.length = ds.length ∧ ∀ (k : Nat) (g : Addr) (d : List Int), gs[k]? = some g → ds[k]? = some d → RegR K H R N g d
theorem RegsR.keep {K : PySem.W.Frag} {A : List Addr} {H H' : Hp} {R N : Int} {gs : List Addr} {ds : List (List Int)} (h : RegsR K H R N gs ds) (k : Keep A H H') : RegsR K H' R N gs ds := ⟨h.1, fun i g d a b => (h.2 i g d a b).keep k⟩
theorem RegsR.get {K : PySem.W.Frag} {H : Hp} {R N : Int} {gs : List Addr} {ds : List (List Int)} (h : RegsR K H R N gs ds) {k : Nat} (hk : k < gs.length) : RegR K H R N (gs.getD k 0) (ds.getD k []) := Hsh.un (by simp (disch := k_dflt (
  refine Hsh.up ?_
  have hk2 : k < ds.length := by rw [← h.1]; exact hk
  rw [List.getD_eq_getElem?_getD, List.getD_eq_getElem?_getD, List.getElem?_eq_getElem hk, List.getElem?_eq_getElem hk2]
  exact h.2 k _ _ (List.getElem?_eq_getElem hk) (List.getElem?_eq_getElem hk2)
  )) only [↓Hsh.on])
theorem dp_row {K : PySem.W.Frag} {H : Hp} {R N : Int} {gs : List Addr} {ds : List (List Int)} (h : RegsR K H R N gs ds) : DpAll K H (gs.map V.ref) (ds.map fun d => .tuple (d.map PyData.int)) := Hsh.un (by simp (disch := k_dflt (
  refine Hsh.up ?_
  obtain ⟨hl, h⟩ := h
  induction gs generalizing ds with
  | nil =>
    cases ds with
    | nil => exact .nil
    | cons d ds => cases hl
  | cons g gs ih =>
    cases ds with
    | nil => cases hl
    | cons d ds => exact .cons (.tup (h 0 g d rfl rfl).1 (dp_ints d)) (ih (Nat.succ.inj hl) fun k g d a b => h (k + 1) g d a b)
  )) only [↓Hsh.on])
theorem shaped_rows (ds : List (List Int)) : SeqAt.shaped (.list (ds.map fun d => .tuple (d.map PyData.int))) = true := Hsh.un (by simp (disch := k_dflt (
  refine Hsh.up ?_
  have h0 : ∀ l : List Int, PyData.canLayAll0 (l.map PyData.int) = true := fun l => by
    induction l with
    | nil => rfl
    | cons n r ih => rw [List.map_cons, PyData.canLayAll0, ih]; rfl
  have h1 : ∀ l : List Int, PyData.depthAll (l.map PyData.int) = 0 := fun l => by
    induction l with
    | nil => rfl
    | cons n r ih => rw [List.map_cons, PyData.depthAll, ih]; rfl
  have h2 : ∀ l : List (List Int), PyData.canLayAll0 (l.map fun d => .tuple (d.map PyData.int)) = true := fun l => by
    induction l with
    | nil => rfl
    | cons n r ih => rw [List.map_cons, PyData.canLayAll0, ih, PyData.canLay0, h0]; rfl
  have h3 : ∀ l : List (List Int), PyData.depthAll (l.map fun d => .tuple (d.map PyData.int)) ≤ 1 := fun l => by
    induction l with
    | nil => exact Nat.zero_le _
    | cons n r ih => rw [List.map_cons, PyData.depthAll, PyData.depth, h1]; exact Nat.max_le.mpr ⟨Nat.le_refl _, ih⟩
  unfold SeqAt.shaped
  rw [PyData.canLay0, h2, PyData.depth, Bool.true_and]
  have := h3 ds
  exact decide_eq_true (by omega)
  )) only [↓Hsh.on])
theorem eqv_rows0 (ds : List (List Int)) : PyData.eqv (.list (ds.map fun d => .tuple (d.map PyData.int))) (.list []) = decide (ds = []) := Hsh.un (by simp (disch := k_dflt (
  refine Hsh.up ?_
  cases ds with
  | nil => rfl
  | cons d r => rfl
  )) only [↓Hsh.on])
theorem s_neRows {K : PySem.W.Frag} {H : Hp} {Q : VK} {R N : Int} {p q : Addr} {gs : List Addr} {ds : List (List Int)} (h : RegsR K H R N gs ds) (h1 : SqL K H p (gs.map V.ref)) (h2 : SqL K H q []) (k : Q (.bl (!decide (ds = []))) H) : rNeX K (.ref p) (.ref q) H Q :=
  s_neD (.lst h1 (dp_row h)) (.lst h2 .nil) (shaped_rows ds) rfl (eqv_rows0 ds) k
section
variable {K : PySem.W.Frag} {H : Hp} {R N ix r d l : Int} {p x y : Addr} {a b : Opd}
theorem one_b {P : Int → Prop} {i : Int} (h : P i) : ∀ b ∈ [i], P b := fun b hb => by rw [List.mem_singleton.mp hb]; exact h
theorem one_o {P : Opd → Prop} {i : Opd} (h : P i) : ∀ b ∈ [i], P b := fun b hb => by rw [List.mem_singleton.mp hb]; exact h
theorem two_o {P : Opd → Prop} {i j : Opd} (h : P i) (h2 : P j) : ∀ b ∈ [i, j], P b := fun b hb => by
  rcases List.mem_cons.mp hb with rfl | hb
  · exact h
  · rw [List.mem_singleton.mp hb]; exact h2
theorem InsW.sign (h : SqT K H p [([V.str "neg", V.str "abs"] : List V).getD r.toNat .non, .int d, .ref x, .int l]) (hx : OpAt K H x a) (h0 : 0 ≤ r) (h1 : r < 2) (ho : a.reg = true → 0 ≤ a.n ∧ a.n < R) (hb : 0 ≤ ix + 1 ∧ ix + 1 < N) (hd : 0 ≤ d ∧ d < R) : InsW K H R N ix p := Hsh.un (by simp (disch := k_dflt (
  refine Hsh.up ?_
  rcases (show r = 0 ∨ r = 1 by omega) with rfl | rfl
  · exact ⟨_, _, _, _, _, .sign (.inl rfl) h hx, one_o ho, one_b hb, one_b hd⟩
  · exact ⟨_, _, _, _, _, .sign (.inr rfl) h hx, one_o ho, one_b hb, one_b hd⟩
  )) only [↓Hsh.on])
theorem InsW.rel (h : SqT K H p [([V.str "less", V.str "equal"] : List V).getD r.toNat .non, .int d, .ref x, .ref y]) (hx : OpAt K H x a) (hy : OpAt K H y b) (h0 : 0 ≤ r) (h1 : r < 2) (ho : a.reg = true → 0 ≤ a.n ∧ a.n < R) (ho2 : b.reg = true → 0 ≤ b.n ∧ b.n < R) (hb : 0 ≤ ix + 1 ∧ ix + 1 < N) (hd : 0 ≤ d ∧ d < R) : InsW K H R N ix p := Hsh.un (by simp (disch := k_dflt (
  refine Hsh.up ?_
  rcases (show r = 0 ∨ r = 1 by omega) with rfl | rfl
  · exact ⟨_, _, _, _, _, .rel (.inl rfl) h hx hy, two_o ho ho2, one_b hb, one_b hd⟩
  · exact ⟨_, _, _, _, _, .rel (.inr rfl) h hx hy, two_o ho ho2, one_b hb, one_b hd⟩
  )) only [↓Hsh.on])
theorem InsW.arith (h : SqT K H p [([V.str "add", V.str "sub", V.str "mul", V.str "div", V.str "mod", V.str "rem"] : List V).getD r.toNat .non, .int d, .ref x, .ref y, .int l]) (hx : OpAt K H x a) (hy : OpAt K H y b) (h0 : 0 ≤ r) (h1 : r < 6) (ho : a.reg = true → 0 ≤ a.n ∧ a.n < R) (ho2 : b.reg = true → 0 ≤ b.n ∧ b.n < R) (hb : 0 ≤ ix + 1 ∧ ix + 1 < N) (hd : 0 ≤ d ∧ d < R) : InsW K H R N ix p := Hsh.un (by simp (disch := k_dflt (
  refine Hsh.up ?_
  rcases (show r = 0 ∨ r = 1 ∨ r = 2 ∨ r = 3 ∨ r = 4 ∨ r = 5 by omega) with rfl | rfl | rfl | rfl | rfl | rfl
  · exact ⟨_, _, _, _, _, .arith (.inl rfl) h hx hy, two_o ho ho2, one_b hb, one_b hd⟩
  · exact ⟨_, _, _, _, _, .arith (.inr (.inl rfl)) h hx hy, two_o ho ho2, one_b hb, one_b hd⟩
  · exact ⟨_, _, _, _, _, .arith (.inr (.inr (.inl rfl))) h hx hy, two_o ho ho2, one_b hb, one_b hd⟩
  · exact ⟨_, _, _, _, _, .arith (.inr (.inr (.inr (.inl rfl)))) h hx hy, two_o ho ho2, one_b hb, one_b hd⟩
  · exact ⟨_, _, _, _, _, .arith (.inr (.inr (.inr (.inr (.inl rfl))))) h hx hy, two_o ho ho2, one_b hb, one_b hd⟩
  · exact ⟨_, _, _, _, _, .arith (.inr (.inr (.inr (.inr (.inr rfl))))) h hx hy, two_o ho ho2, one_b hb, one_b hd⟩
  )) only [↓Hsh.on])
theorem InsW.putR (h : SqT K H p [.str "put", .ref x]) (hx : SqT K H x [.str "reg", .int r]) (r0 : 0 ≤ r) (r1 : r < R) (hb : 0 ≤ ix + 1 ∧ ix + 1 < N) : InsW K H R N ix p := ⟨_, _, _, _, _, .put h (opR hx), one_o (fun _ => ⟨r0, r1⟩), one_b hb, no_mem⟩
theorem InsW.branch {t : Int} (h : SqT K H p [.str "branch", .ref x, .int t]) (hx : OpAt K H x a) (ho : a.reg = true → 0 ≤ a.n ∧ a.n < R) (ht : 0 ≤ t ∧ t < N) (hb : 0 ≤ ix + 1 ∧ ix + 1 < N) : InsW K H R N ix p :=
  ⟨_, _, _, _, _, .branch h hx, one_o ho, fun b hm => by
    rcases (srt2_mem _ _ b).mp hm with rfl | rfl
    · exact ht
    · exact hb, no_mem⟩
end
def sp_z_instruction (K : PySem.W.Frag) : Sp := mk6 fun a b e f g h H Q _ => ∃ (p q sl t rl : Addr) (rs : List Addr) (shs : List Shp) (ns : List Int) (c s n x y z u ix : Int) (bs : List Bool) (gs : List Addr) (ds : List (List Int)), a = .ref p ∧ b = .ref sl ∧ e = .int u ∧ f = .int ix ∧ g = .ref t ∧ h = .ref rl ∧ Blk H (GC p q ns c s n x y z) ∧ Pos ns ∧ 0 ≤ c ∧ Shs H [p, q] sl rs shs ∧ 0 ≤ u ∧ u < shs.length ∧ 0 ≤ ix ∧ ix + 1 < bs.length ∧
  H t = some (.lst (bs.map V.bl)) ∧ t ∉ [p, q] ∧ bs.length < 1000 ∧ H rl = some (.lst (gs.map V.ref)) ∧ rl ∉ [p, q] ∧ gs.length ≤ 5 ∧ RegsR K H (shs.getD u.toNat Shp0).rg bs.length gs ds ∧
  ∀ (l : Addr) (c' s' n' : Int) ms H', InsW K H' (shs.getD u.toNat Shp0).rg bs.length ix l → 0 ≤ c' → Pos ms → Keep [p, q] H H' → H' p = some (stG q c' s' n' x y z) → H' q = some (.lst (ms.map V.int)) → Q (.ref l) H'
section
 local macro_rules | `(tactic| walk_at "hp") => `(tactic| first | exact (hsl.keep hS.kp).l | exact (hsh.keep hS.kp).1 | exact hS.kp.k _ _ ht (.inl htn) | exact hS.kp.k _ _ hrl (.inl hrn) | fail)
 local macro_rules | `(tactic| walk_at "st") => `(tactic| first
  | ((with_reducible show sp_z_memory _ _ _ _ _); refine c_z_memory hS (by walk_at "ix") (by walk_at "ix") (by decide) (by assumption) (by assumption) (hsl.keep hS.kp) hu0 hu1 hi0 hi1 (fun l c' s' n' ms H' a b d hS => k l c' s' n' ms H' a b d hS.kp (hS.get 1 rfl) (hS.get 2 rfl)))
  | ((with_reducible show sp_z_call _ _ _ _ _); refine c_z_call hS (by walk_at "ix") (by walk_at "ix") (by decide) (by assumption) (by assumption) (hsl.keep hS.kp) hu0 hu1 hi0 hi1 (fun l c' s' n' ms H' a b d hS => k l c' s' n' ms H' a b d hS.kp (hS.get 1 rfl) (hS.get 2 rfl)))
  | ((with_reducible show sp_z_target _ _ _ _ _); apply c_z_target hS; (· walk_at "ix"); (· walk_at "ix"); (· decide); (· assumption); (· walk_at "ar"); (· exact hS.kp.k _ _ ht (.inl htn)); (· exact htn); (· omega); (· omega); (· omega); (· omega); intro rt c1 s1 n1 ms1 H1 hr0 hr1 hc1 hms1 hS1; clear hS; rename SH _ _ _ _ => hS; simp only [List.set_cons_zero, List.set_cons_succ] at hS)
  | fail)
theorem ok_z_instruction {P : Program} {w : World} {K : PySem.W.Frag} {mg : Str → Option Value} {base : Heap} (Y : Env w K mg) (G_z_call : CallOk P w K mg base CX0 3 "_law_call" ["_law_state", "_law_shapes_here", "_law_number"] (sp_z_call K)) (G_z_memory : CallOk P w K mg base CX0 3 "_law_memory" ["_law_state", "_law_shapes_here", "_law_number"] (sp_z_memory K)) (G_z_operand : CallOk P w K mg base CX0 2 "_law_operand" ["_law_state", "_law_shape"] (sp_z_operand K)) (G_z_take : CallOk P w K mg base CX0 1 "_law_take" ["_law_state", "_law_many"] (sp_z_take K)) (G_z_target : CallOk P w K mg base CX0 2 "_law_target" ["_law_state", "_law_index", "_law_ticks"] (sp_z_target K)) : CallOk P w K mg base CX0 4 "_law_instruction" ["_law_state", "_law_shapes_here", "_law_number", "_law_index", "_law_ticks", "_law_regions_here"] (sp_z_instruction K) := Hsh.un (by simp (disch := k_dflt (
  refine Hsh.up ?_
  obtain ⟨fd, F⟩ := Y.fd_z_instruction
  refine ⟨_, fd, Y.mg_z_instruction, F.kp, F.bindsN (fun _ _ _ _ _ _ us hl => match us, hl with | [_, _, _, _, _, _], _ => rfl), F.ok sc_z_instruction mk6_len (fun cdv A outer s H vs Q E hr h => ?_)⟩
  have hu := hu_room hr
  obtain ⟨_, _, _, _, _, _, rfl, pst, q, sl, t, rl, rs, shs, ns, c, s, n, x, y, z, u, ix, bs, gs, ds, rfl, rfl, rfl, rfl, rfl, rfl, hB, hp, hc, hsl, hu0, hu1, hi0, hi1, ht, htn, hb1, hrl, hrn, hg5, hrg, k⟩ := h
  have hS : SH [pst, q] H H (GC pst q ns c s n x y z) := hB.sh
  have hrsl : (rs.map V.ref).length = shs.length := by rw [List.length_map, hsl.len]
  obtain ⟨hsh, hok⟩ := hsl.get (k := u.toNat) (by omega)
  have h1 := hok.l0; have h2 := hok.l1; have h3 := hok.g0; have h4 := hok.g1
  have h5 : 0 < (shs.getD u.toNat Shp0).rg := by omega
  have h6 : (shs.getD u.toNat Shp0).rg < 100 := by omega
  refine ⟨_, PSs.nox (pss_cons (ps_set (i := 6) sc_z_instruction.nd rfl (Or.inr rfl) (pe_ix xIx (pv 1) (pv 2) (fun _ _ => rfl)))
  (pss_cons (ps_set (i := 7) sc_z_instruction.nd rfl (Or.inl rfl) (pe_callG G_z_take (hr.mono (by decide)) rfl pass0 (pa_cons (pv 0) (pa_cons pe_int pa_nil))))
  (pss_cons (ps_set (i := 8) sc_z_instruction.nd rfl (Or.inl rfl) (pe_callG G_z_take (hr.mono (by decide)) rfl pass0 (pa_cons (pv 0) (pa_cons (pe_ix xIx (pv 6) pe_int (fun _ _ => rfl)) pa_nil))))
  (pss_cons (ps_set (i := 9) sc_z_instruction.nd rfl (Or.inl rfl) (pe_callG G_z_take (hr.mono (by decide)) rfl pass0 (pa_cons (pv 0) (pa_cons pe_int pa_nil))))
  (pss_cons (ps_set (i := 10) sc_z_instruction.nd rfl (Or.inl rfl) (pe_callG G_z_operand (hr.mono (by decide)) rfl pass0 (pa_cons (pv 0) (pa_cons (pv 6) pa_nil))))
  (pss_cons (ps_if (pt_cmpR op_lt (pv 7) pe_int (nomark _)) (pss_one (ps_ret (pe_tup (pa_cons pe_str (pa_cons (pv 8) (pa_cons (pv 10) pa_nil)))))) pss_nil)
  (pss_cons (ps_if (pt_cmpR (xEq hu) (pv 7) pe_int (nomark _)) (pss_one (ps_ret (pe_tup (pa_cons (pe_ix xIx (pe_lst (pa_cons pe_str (pa_cons pe_str pa_nil))) (pe_callG G_z_take (hr.mono (by decide)) rfl pass0 (pa_cons (pv 0) (pa_cons pe_int pa_nil))) (fun _ _ => rfl)) (pa_cons (pv 8) (pa_cons (pv 10) (pa_cons (pv 9) pa_nil))))))) pss_nil)
  (pss_cons (ps_if (pt_cmpR op_lt (pv 7) pe_int (nomark _)) (pss_cons (ps_set (i := 11) sc_z_instruction.nd rfl (Or.inl rfl) (pe_ix xIx (pe_lst (pa_cons pe_str (pa_cons pe_str (pa_cons pe_str (pa_cons pe_str (pa_cons pe_str (pa_cons pe_str pa_nil))))))) (pe_callG G_z_take (hr.mono (by decide)) rfl pass0 (pa_cons (pv 0) (pa_cons pe_int pa_nil))) (fun _ _ => rfl)))
  (pss_one (ps_ret (pe_tup (pa_cons (pv 11) (pa_cons (pv 8) (pa_cons (pv 10) (pa_cons (pe_callG G_z_operand (hr.mono (by decide)) rfl pass0 (pa_cons (pv 0) (pa_cons (pv 6) pa_nil))) (pa_cons (pv 9) pa_nil))))))))) pss_nil)
  (pss_cons (ps_if (pt_cmpR op_lt (pv 7) pe_int (nomark _)) (pss_one (ps_ret (pe_tup (pa_cons (pe_ix xIx (pe_lst (pa_cons pe_str (pa_cons pe_str pa_nil))) (pe_callG G_z_take (hr.mono (by decide)) rfl pass0 (pa_cons (pv 0) (pa_cons pe_int pa_nil))) (fun _ _ => rfl)) (pa_cons (pv 8) (pa_cons (pv 10) (pa_cons (pe_callG G_z_operand (hr.mono (by decide)) rfl pass0 (pa_cons (pv 0) (pa_cons (pv 6) pa_nil))) pa_nil))))))) pss_nil)
  (pss_cons (ps_if (pt_cmpR (xEq hu) (pv 7) pe_int (nomark _)) (pss_cons (ps_set (i := 12) sc_z_instruction.nd rfl (Or.inl rfl) (pe_op op_sub (pe_callG G_z_take (hr.mono (by decide)) rfl pass0 (pa_cons (pv 0) (pa_cons pe_int pa_nil))) pe_int))
  (pss_one (ps_ret (pe_tup (pa_cons pe_str (pa_cons (pv 10) (pa_cons (pv 12) (pa_cons (pe_op xAdd (pv 12) (pe_callG G_z_take (hr.mono (by decide)) rfl pass0 (pa_cons (pv 0) (pa_cons pe_int pa_nil)))) (pa_cons (pv 9) pa_nil))))))))) pss_nil)
  (pss_cons (ps_if (pt_cmpR op_lt (pv 7) pe_int (nomark _)) (pss_one (ps_ret (pe_callG G_z_memory hr rfl pass0 (pa_cons (pv 0) (pa_cons (pv 1) (pa_cons (pv 2) pa_nil)))))) pss_nil)
  (pss_cons (ps_if (pt_cmpR (xEq hu) (pv 7) pe_int (nomark _)) (pss_one (ps_ret (pe_tup (pa_cons pe_str (pa_cons (pe_callG G_z_target (hr.mono (by decide)) rfl pass0 (pa_cons (pv 0) (pa_cons (pv 3) (pa_cons (pv 4) pa_nil)))) pa_nil))))) pss_nil)
  (pss_cons (ps_if (pt_cmpR op_lt (pv 7) pe_int (nomark _)) (pss_one (ps_ret (pe_tup (pa_cons pe_str (pa_cons (pv 10) (pa_cons (pe_callG G_z_target (hr.mono (by decide)) rfl pass0 (pa_cons (pv 0) (pa_cons (pv 3) (pa_cons (pv 4) pa_nil)))) pa_nil)))))) pss_nil)
  (pss_cons (ps_if (pt_cmpR op_lt (pv 7) pe_int (nomark _)) (pss_one (ps_ret (pe_callG G_z_call hr rfl pass0 (pa_cons (pv 0) (pa_cons (pv 1) (pa_cons (pv 2) pa_nil)))))) pss_nil)
  (pss_cons (ps_if (pt_cmpR (xEq hu) (pv 7) pe_int (nomark _)) (pss_one (ps_ret (pe_tup (pa_cons pe_str (pa_cons (pe_callG G_z_take (hr.mono (by decide)) rfl pass0 (pa_cons (pv 0) (pa_cons pe_int pa_nil))) (pa_cons (pv 9) pa_nil)))))) pss_nil)
  (pss_cons (ps_if (PW.pt (pw_and (pt_cmpR (xEq hu) (pv 7) pe_int (nomark _)) (pw_and1 (pt_cmpR (xNe hu) (pv 5) (pe_lst pa_nil) (nomark _))))) (pss_cons (ps_set (i := 13) sc_z_instruction.nd rfl (Or.inl rfl) (pe_ix xIx (pv 5) (pe_callG G_z_take (hr.mono (by decide)) rfl pass0 (pa_cons (pv 0) (pa_cons (pe_callB x_len rfl Y.z_len (by decide +kernel) (pa_cons (pv 5) pa_nil)) pa_nil))) (fun _ _ => rfl)))
  (pss_one (ps_ret (pe_tup (pa_cons pe_str (pa_cons (pe_tup (pa_cons pe_str (pa_cons (pe_ix xIx (pv 13) pe_int (fun _ _ => rfl)) pa_nil))) (pa_cons (pe_tup (pa_cons pe_str (pa_cons (pe_ix xIx (pv 13) pe_int (fun _ _ => rfl)) pa_nil))) pa_nil))))))) pss_nil)
  (pss_cons (ps_if (pt_cmpR (xEq hu) (pv 7) pe_int (nomark _)) (pss_one (ps_ret (pe_tup (pa_cons pe_str (pa_cons (pv 8) (pa_cons (pv 9) pa_nil)))))) pss_nil)
  (pss_cons (ps_if (pt_cmpR (xEq hu) (pv 7) pe_int (nomark _)) (pss_one (ps_ret (pe_tup (pa_cons pe_str (pa_cons (pe_callTy x_tuple rfl Y.z_tuple (by decide +kernel) (pa_cons (pe_lc (own := [("_law_k", 14)]) (g := gName 14) rfl sc_z_instruction.nd (pi_range1 rfl Y.z_range (pa_cons (pe_ix xIx (pv 6) pe_int (fun _ _ => rfl)) pa_nil)) (blkOk_by (N := N_z_instruction) (sc := defScope s_z_instruction) (by decide +kernel)) (fun _ _ _ _ _ => pg_name (i := 14) sc_z_instruction.nd rfl (Or.inl rfl)) (fun _ _ _ _ _ => pts_nil) (fun _ _ _ _ _ => (pe_callG G_z_operand (hr.mono (by decide)) rfl pass0 (pa_cons (pv 0) (pa_cons (pv 6) pa_nil))))) pa_nil)) pa_nil))))) pss_nil)
  (pss_one (ps_ret (pe_tup (pa_cons pe_str (pa_cons (pv 10) pa_nil))))))))))))))))))))))), ?_⟩
  rw [st_z_instruction]
  try simp only [cxK, cxK2, cxW, cxW2]
  clear hu hr F
  repeat' walk_at "st"
  · exact k _ _ _ _ _ _ ⟨_, _, _, _, _, .move (SqT.of (by walk_at "hp")) (by walk_at "op"), by walk_at "wo", by walk_at "wb", by walk_at "wb"⟩ hc1 hms1 hS.kp (by walk_at "hp") (by walk_at "hp")
  · exact k _ _ _ _ _ _ (.sign (SqT.of (by walk_at "hp")) (by walk_at "op") (by assumption) (by assumption) (by assumption) (by omega) (by omega)) hc1 hms1 hS.kp (by walk_at "hp") (by walk_at "hp")
  · exact k _ _ _ _ _ _ (.arith (SqT.of (by walk_at "hp")) (by walk_at "op") (by walk_at "op") (by assumption) (by assumption) (by assumption) (by assumption) (by omega) (by omega)) hc1 hms1 hS.kp (by walk_at "hp") (by walk_at "hp")
  · exact k _ _ _ _ _ _ (.rel (SqT.of (by walk_at "hp")) (by walk_at "op") (by walk_at "op") (by assumption) (by assumption) (by assumption) (by assumption) (by omega) (by omega)) hc1 hms1 hS.kp (by walk_at "hp") (by walk_at "hp")
  · exact k _ _ _ _ _ _ ⟨_, _, _, _, _, .check (SqT.of (by walk_at "hp")) (by walk_at "op"), by walk_at "wo", by walk_at "wb", by walk_at "wb"⟩ hc1 hms1 hS.kp (by walk_at "hp") (by walk_at "hp")
  · exact k _ _ _ _ _ _ ⟨_, _, _, _, _, .jump (SqT.of (by walk_at "hp")), by walk_at "wo", by walk_at "wb", by walk_at "wb"⟩ hc1 hms1 hS.kp (by walk_at "hp") (by walk_at "hp")
  · exact k _ _ _ _ _ _ (.branch (SqT.of (by walk_at "hp")) (by walk_at "op") (by assumption) (by omega) (by omega)) hc1 hms1 hS.kp (by walk_at "hp") (by walk_at "hp")
  · exact k _ _ _ _ _ _ ⟨_, _, _, _, _, .raise (SqT.of (by walk_at "hp")), by walk_at "wo", by walk_at "wb", by walk_at "wb"⟩ hc1 hms1 hS.kp (by walk_at "hp") (by walk_at "hp")
  · refine s_neRows (hrg.keep hS.kp) (SqL.of (by walk_at "hp")) (SqL.of (by walk_at "hp")) ⟨_, rfl, ?_⟩
    refine i_not (i_dec (fun hd => ?_) (fun hd => ?_))
    · repeat' walk_at "st"
      exact k _ _ _ _ _ _ ⟨_, _, _, _, _, .put (SqT.of (by walk_at "hp")) (by walk_at "op"), by walk_at "wo", by walk_at "wb", by walk_at "wb"⟩ hc1 hms1 hS.kp (by walk_at "hp") (by walk_at "hp")
    · have hgp : 0 < gs.length := by rw [hrg.1]; exact List.length_pos_iff.mpr hd
      have hgl : (gs.map V.ref).length = gs.length := List.length_map _
      repeat' walk_at "st"
      obtain ⟨hgq, hd5, e0, e1, e2, e3, e4, e5⟩ := hrg.get (k := r.toNat) (by omega)
      have hd5 : ((ds.getD r.toNat []).map V.int).length = 5 := by rw [List.length_map]; exact hd5
      repeat' walk_at "st"
      exact k _ _ _ _ _ _ ⟨_, _, _, _, _, .again (SqT.of (by walk_at "hp")) (opR (SqT.of (by walk_at "hp"))) (opR (SqT.of (by walk_at "hp"))), two_o (fun _ => ⟨e2, e3⟩) (fun _ => ⟨e4, e5⟩), by walk_at "wb", by walk_at "wb"⟩ hc1 hms1 hS.kp (by walk_at "hp") (by walk_at "hp")
  · exact k _ _ _ _ _ _ ⟨_, _, _, _, _, .get (SqT.of (by walk_at "hp")), by walk_at "wo", by walk_at "wb", by walk_at "wb"⟩ hc1 hms1 hS.kp (by walk_at "hp") (by walk_at "hp")
  · have h9 := hok.e0; have h10 := hok.e1
    refine u_lcR1 hS (fun D k H' => ∃ (qs : List Addr) (os : List Opd) (Lx : List Cell) (c s n : Int) (ms : List Int), qs.length = k ∧ OpC Lx qs os ∧ (∀ o ∈ os, o.reg = true → 0 ≤ o.n ∧ o.n < (shs.getD u.toNat Shp0).rg) ∧ 0 ≤ c ∧ Pos ms ∧ SH [pst, q] H H' ((D, .lst (qs.map V.ref)) :: (lo, oo.o) :: (pst, stG q c s n x y z) :: (q, .lst (ms.map V.int)) :: Lx)) (by omega) (by omega) (fun D H1 hS => ⟨[], [], [], _, _, _, _, rfl, .nil, (fun _ z => nomatch z), by assumption, by assumption, hS⟩) ?_ ?_
    · rintro D m H1 hm ⟨qs, os, Lx, c, s, n, ms, hql, hoc, hbo, hc, hms, hS⟩
      have hql2 : (qs.map V.ref).length = m := by rw [List.length_map]; exact hql
      repeat' walk_at "st"
      refine ⟨qs ++ [lo], os ++ [oo], _, c1, s1, n1, ms1, by rw [List.length_append, hql]; rfl, hoc.snoc, fun o ho => ?_, hc1, hms1, ?_⟩
      · rcases List.mem_append.mp ho with ho | ho
        · exact hbo o ho
        · rw [List.mem_singleton.mp ho]; exact hob
      · have z := hS.perm (List.perm_middle (l₁ := [_, _, _, _])).symm
        rw [List.map_append]
        exact z
    · rintro D H1 ⟨qs, os, Lx, c1, s1, n1, ms1, hql, hoc, hbo, hc1, hms1, hS⟩
      repeat' walk_at "st"
      have hL : ∀ c ∈ Lx, H1 c.1 = some c.2 := fun c hc => hS.hs c (List.mem_append_right [_, _, _, _, _, _] hc)
      exact k _ _ _ _ _ _ ⟨_, qs, os, _, _, .ret (SqT.of (by walk_at "hp")) (SqT.of (by walk_at "hp")) (hoc.at hL) (by have := hoc.1; omega), hbo, by walk_at "wb", by walk_at "wb"⟩ hc1 hms1 hS.kp (by walk_at "hp") (by walk_at "hp")
  · exact k _ _ _ _ _ _ ⟨_, _, _, _, _, .put (SqT.of (by walk_at "hp")) (by walk_at "op"), by walk_at "wo", by walk_at "wb", by walk_at "wb"⟩ hc1 hms1 hS.kp (by walk_at "hp") (by walk_at "hp")
  )) only [↓Hsh.on])
end
theorem c_z_instruction {K : PySem.W.Frag} {A : List Addr} {H0 H : Hp} {L : List Cell} {p q sl t rl : Addr} {rs : List Addr} {shs : List Shp} {ns : List Int} {c s n x y z u ix : Int} {bs : List Bool} {gs : List Addr} {ds : List (List Int)} {Q : VK} {E : XK} {i j : Nat} (hS : SH A H0 H L) (e : L[i]? = some (p, stG q c s n x y z)) (e2 : L[j]? = some (q, .lst (ns.map V.int))) (ne : i ≠ j) (hp : Pos ns) (h0 : 0 ≤ c) (hsl : Shs H [p, q] sl rs shs) (hu0 : 0 ≤ u) (hu1 : u < shs.length) (i0 : 0 ≤ ix) (i1 : ix + 1 < bs.length)
    (ht : H t = some (.lst (bs.map V.bl))) (htn : t ∉ [p, q]) (hb1 : bs.length < 1000) (hrl : H rl = some (.lst (gs.map V.ref))) (hrn : rl ∉ [p, q]) (hg5 : gs.length ≤ 5) (hrg : RegsR K H (shs.getD u.toNat Shp0).rg bs.length gs ds)
    (k : ∀ (l : Addr) (c' s' n' : Int) ms H', InsW K H' (shs.getD u.toNat Shp0).rg bs.length ix l → 0 ≤ c' → Pos ms → SH A H0 H' ((L.set i (p, stG q c' s' n' x y z)).set j (q, .lst (ms.map V.int))) → Q (.ref l) H') : sp_z_instruction K ([.ref p, .ref sl, .int u, .int ix, .ref t, .ref rl] ++ []) H Q E :=
  ⟨_, _, _, _, _, _, rfl, p, q, sl, t, rl, rs, shs, ns, c, s, n, x, y, z, u, ix, bs, gs, ds, rfl, rfl, rfl, rfl, rfl, rfl, blk2 hS e e2 ne, hp, h0, hsl, hu0, hu1, i0, i1, ht, htn, hb1, hrl, hrn, hg5, hrg, fun l c' s' n' ms H' a b d kp f1 f2 => k l c' s' n' ms H' a b d (hS.call2 i j e e2 rfl rfl kp f1 f2)⟩
def RegC (R N : Int) (L : List Cell) (gs : List Addr) (ds : List (List Int)) : Prop := gs.length = ds.length ∧ ∀ (k : Nat) (g : Addr) (d : List Int), gs[k]? = some g → ds[k]? = some d → (g, .tup (d.map V.int)) ∈ L ∧ d.length = 5 ∧ 0 ≤ d.getD 2 0 ∧ d.getD 2 0 < N ∧ 0 ≤ d.getD 3 0 ∧ d.getD 3 0 < R ∧ 0 ≤ d.getD 4 0 ∧ d.getD 4 0 < R
theorem RegC.nil {R N : Int} {L : List Cell} : RegC R N L [] [] := ⟨rfl, fun k g d h => nomatch h⟩
theorem RegC.snoc {R N : Int} {L : List Cell} {gs : List Addr} {ds : List (List Int)} {g : Addr} {a b e f h : Int} (C : RegC R N L gs ds) (e0 : 0 ≤ e) (e1 : e < N) (f0 : 0 ≤ f) (f1 : f < R) (h0 : 0 ≤ h) (h1 : h < R) : RegC R N ((g, .tup (([a, b, e, f, h] : List Int).map V.int)) :: L) (gs ++ [g]) (ds ++ [[a, b, e, f, h]]) := Hsh.un (by simp (disch := k_dflt (
  refine Hsh.up ?_
  refine ⟨by rw [List.length_append, List.length_append, C.1]; rfl, fun k x d h1' h2' => ?_⟩
  by_cases hk : k < gs.length
  · rw [List.getElem?_append_left hk] at h1'
    rw [List.getElem?_append_left (by rw [← C.1]; exact hk)] at h2'
    obtain ⟨m, z⟩ := C.2 k x d h1' h2'
    exact ⟨List.mem_cons_of_mem _ m, z⟩
  · have hk2 : k = gs.length := by
      have := (List.getElem?_eq_some_iff.mp h1').1
      rw [List.length_append, List.length_singleton] at this
      omega
    subst hk2
    rw [List.getElem?_append_right (Nat.le_refl _), Nat.sub_self] at h1'
    rw [List.getElem?_append_right (by rw [C.1]; exact Nat.le_refl _), C.1, Nat.sub_self] at h2'
    cases h1'
    cases h2'
    exact ⟨List.mem_cons_self, rfl, e0, e1, f0, f1, h0, h1⟩
  )) only [↓Hsh.on])
theorem reg_step {A : List Addr} {H0 H : Hp} {R N a b e f h : Int} {gs : List Addr} {ds : List (List Int)} {p rl : Addr} {c1 c2 : Cell} {Lx : List Cell} (hS : SH A H0 H ((p, .tup [.int a, .int b, .int e, .int f, .int h]) :: (rl, .lst (gs.map V.ref ++ [V.ref p])) :: c1 :: c2 :: Lx)) (C : RegC R N Lx gs ds) (e0 : 0 ≤ e) (e1 : e < N) (f0 : 0 ≤ f) (f1 : f < R) (h0 : 0 ≤ h) (h1 : h < R) :
    ∃ gs' ds' Lx', gs' = gs ++ [p] ∧ RegC R N Lx' gs' ds' ∧ SH A H0 H ((rl, .lst (gs'.map V.ref)) :: c1 :: c2 :: Lx') := Hsh.un (by simp (disch := k_dflt (
  refine Hsh.up ?_
  refine ⟨_, _, _, rfl, C.snoc (g := p) (a := a) (b := b) e0 e1 f0 f1 h0 h1, ?_⟩
  rw [List.map_append]
  exact hS.perm (List.perm_middle (l₁ := [_, _, _])).symm
  )) only [↓Hsh.on])
theorem RegC.at {K : PySem.W.Frag} {H : Hp} {R N : Int} {L : List Cell} {gs : List Addr} {ds : List (List Int)} (h : RegC R N L gs ds) (hL : ∀ c ∈ L, H c.1 = some c.2) : RegsR K H R N gs ds := ⟨h.1, fun k g d a b => ⟨SqT.of (hL _ (h.2 k g d a b).1), (h.2 k g d a b).2⟩⟩
def sp_z_regions (K : PySem.W.Frag) : Sp := mk3 fun a b e H Q _ => ∃ (p q sh : Addr) (ns : List Int) (c s n x y z N : Int) (w : Shp), a = .ref p ∧ b = .ref sh ∧ e = .int N ∧ Blk H (GC p q ns c s n x y z) ∧ Pos ns ∧ 0 ≤ c ∧ ShA H [p, q] sh w ∧ 3 ≤ w.rg ∧ w.rg < 100 ∧ 4 ≤ N ∧ N < 1000 ∧
  ∀ (rl : Addr) (gs : List Addr) (ds : List (List Int)) (c' s' n' : Int) ms H', H rl = none → H' rl = some (.lst (gs.map V.ref)) → gs.length ≤ 5 → RegsR K H' w.rg N gs ds → 0 ≤ c' → Pos ms → Keep [p, q] H H' → H' p = some (stG q c' s' n' x y z) → H' q = some (.lst (ms.map V.int)) → Q (.ref rl) H'
section
 local macro_rules | `(tactic| walk_at "hp") => `(tactic| first | exact (hsh.keep hS.kp).1 | fail)
theorem ok_z_regions {P : Program} {w : World} {K : PySem.W.Frag} {mg : Str → Option Value} {base : Heap} (Y : Env w K mg) (G_z_take : CallOk P w K mg base CX0 1 "_law_take" ["_law_state", "_law_many"] (sp_z_take K)) : CallOk P w K mg base CX0 2 "_law_regions" ["_law_state", "_law_shape", "_law_size"] (sp_z_regions K) := Hsh.un (by simp (disch := k_dflt (
  refine Hsh.up ?_
  obtain ⟨fd, F⟩ := Y.fd_z_regions
  refine ⟨_, fd, Y.mg_z_regions, F.kp, F.bindsN (fun _ _ _ _ _ _ us hl => match us, hl with | [_, _, _], _ => rfl), F.ok sc_z_regions mk3_len (fun cdv A outer s H vs Q E hr h => ?_)⟩
  have hu := hu_room hr
  obtain ⟨_, _, _, rfl, pst, q, sh, ns, c, s, n, x, y, z, N, w, rfl, rfl, rfl, hB, hp, hc, hsh, hw0, hw1, hN0, hN1, k⟩ := h
  have hS : SH [pst, q] H H (GC pst q ns c s n x y z) := hB.sh
  refine ⟨_, PSs.nox (pss_cons (ps_set (i := 3) sc_z_regions.nd rfl (Or.inl rfl) (pe_lst pa_nil))
  (pss_cons (ps_for PassesOwn.never rfl (pi_range1 rfl Y.z_range (pa_cons (pe_callG G_z_take hr rfl pass0 (pa_cons (pv 0) (pa_cons pe_int pa_nil))) pa_nil)) (pg_name (i := 4) sc_z_regions.nd rfl (Or.inl rfl))
  (pss_cons (ps_set (i := 5) sc_z_regions.nd rfl (Or.inl rfl) (pe_callG G_z_take hr rfl pass0 (pa_cons (pv 0) (pa_cons (pe_op op_sub (pv 2) pe_int) pa_nil))))
  (pss_cons (ps_set (i := 6) sc_z_regions.nd rfl (Or.inl rfl) (pe_op xAdd (pe_op xAdd (pv 5) pe_int) (pe_callG G_z_take hr rfl pass0 (pa_cons (pv 0) (pa_cons (pe_op op_sub (pe_op op_sub (pv 2) pe_int) (pv 5)) pa_nil)))))
  (pss_cons (ps_set (i := 7) sc_z_regions.nd rfl (Or.inl rfl) (pe_op xAdd (pv 6) (pe_callG G_z_take hr rfl pass0 (pa_cons (pv 0) (pa_cons (pe_op op_sub (pv 2) (pv 6)) pa_nil)))))
  (pss_cons (ps_set (i := 8) sc_z_regions.nd rfl (Or.inl rfl) (pe_callG G_z_take hr rfl pass0 (pa_cons (pv 0) (pa_cons (pe_ix xIx (pv 1) pe_int (fun _ _ => rfl)) pa_nil))))
  (pss_cons (ps_set (i := 9) sc_z_regions.nd rfl (Or.inl rfl) (pe_op xMod (pe_callTy x_int rfl Y.z_int (by decide +kernel) (pa_cons (pe_op xAdd (pe_op xAdd (pv 8) pe_int) (pe_callG G_z_take hr rfl pass0 (pa_cons (pv 0) (pa_cons (pe_op op_sub (pe_ix xIx (pv 1) pe_int (fun _ _ => rfl)) pe_int) pa_nil)))) pa_nil)) (pe_ix xIx (pv 1) pe_int (fun _ _ => rfl))))
  (pss_one (ps_expr (pe_bm PySem.F.plainAttrs_list PySem.F.slot_list_append PySem.F.type_list_append mt_append (pv 3) (pa_cons (pe_tup (pa_cons (pv 5) (pa_cons (pv 6) (pa_cons (pv 7) (pa_cons (pv 8) (pa_cons (pv 9) pa_nil)))))) pa_nil))))))))))
  (pss_one (ps_ret (pv 3))))), ?_⟩
  rw [st_z_regions]
  try simp only [cxK, cxK2, cxW, cxW2]
  clear hu hr F
  repeat' walk_at "st"
  refine u_forR1 (fun j σ H' => ∃ (gs : List Addr) (ds : List (List Int)) (Lx : List Cell) (c s n : Int) (ms : List Int) (v4 v5 v6 v7 v8 v9 : Option V), σ = [some (.ref pst), some (.ref sh), some (.int N), some (.ref p), v4, v5, v6, v7, v8, v9] ∧ gs.length = j ∧ RegC w.rg N Lx gs ds ∧ 0 ≤ c ∧ Pos ms ∧ SH [pst, q] H H' ((p, .lst (gs.map V.ref)) :: (pst, stG q c s n x y z) :: (q, .lst (ms.map V.int)) :: Lx)) (by omega) (by omega) ⟨[], [], [], _, _, _, _, _, _, _, _, _, _, rfl, rfl, .nil, hc1, hms1, hS⟩ ?_ ?_
  · rintro j σ H2 hj ⟨gs, ds, Lx, c, s, n, ms, v4, v5, v6, v7, v8, v9, rfl, hgl, hrc, hc, hms, hS⟩
    have hgl2 : (gs.map V.ref).length = j := by rw [List.length_map]; exact hgl
    obtain ⟨rl, erl⟩ : ∃ rl, rl = p := ⟨_, rfl⟩
    rw [← erl] at hS ⊢
    clear erl
    repeat' walk_at "st"
    obtain ⟨gs', ds', Lx', eg, hrc', z⟩ := reg_step hS hrc (by omega) (by omega) (by omega) (by omega) (Int.emod_nonneg _ (by omega)) (Int.emod_lt_of_pos _ (by omega))
    exact ⟨gs', ds', Lx', c1, s1, n1, ms1, _, _, _, _, _, _, rfl, by rw [eg, List.length_append, hgl]; rfl, hrc', hc1, hms1, z⟩
  · rintro σ H2 ⟨gs, ds, Lx, c1, s1, n1, ms1, v4, v5, v6, v7, v8, v9, rfl, hgl, hrc, hc1, hms1, hS⟩
    repeat' walk_at "st"
    have hL : ∀ c ∈ Lx, H2 c.1 = some c.2 := fun c hc => hS.hs c (List.mem_append_right [_, _, _] hc)
    exact k _ gs ds _ _ _ _ _ (new2 hS (i := 0) (j := 1) (k := 2) rfl rfl rfl (by decide) (by decide)) (hS.get 0 rfl) (by omega) (hrc.at hL) hc1 hms1 hS.kp (hS.get 1 rfl) (hS.get 2 rfl)
  )) only [↓Hsh.on])
end
theorem c_z_regions {K : PySem.W.Frag} {A : List Addr} {H0 H : Hp} {L : List Cell} {p q sh : Addr} {ns : List Int} {c s n x y z N : Int} {w : Shp} {Q : VK} {E : XK} {i j : Nat} (hS : SH A H0 H L) (e : L[i]? = some (p, stG q c s n x y z)) (e2 : L[j]? = some (q, .lst (ns.map V.int))) (ne : i ≠ j) (hp : Pos ns) (h0 : 0 ≤ c) (hw : ShA H [p, q] sh w) (h1 : 3 ≤ w.rg) (h2 : w.rg < 100) (h3 : 4 ≤ N) (h4 : N < 1000)
    (k : ∀ (rl : Addr) (gs : List Addr) (ds : List (List Int)) (c' s' n' : Int) ms H', gs.length ≤ 5 → RegsR K H' w.rg N gs ds → 0 ≤ c' → Pos ms → SH A H0 H' ((rl, .lst (gs.map V.ref)) :: (L.set i (p, stG q c' s' n' x y z)).set j (q, .lst (ms.map V.int))) → Q (.ref rl) H') : sp_z_regions K ([.ref p, .ref sh, .int N] ++ []) H Q E :=
  ⟨_, _, _, rfl, p, q, sh, ns, c, s, n, x, y, z, N, w, rfl, rfl, rfl, blk2 hS e e2 ne, hp, h0, hw, h1, h2, h3, h4, fun rl gs ds c' s' n' ms H' a b d f g h kp f1 f2 => k rl gs ds c' s' n' ms H' d f g h (hS.call2n i j e e2 rfl rfl kp f1 f2 a b)⟩
/-! ### units -/
abbrev unO (K : PySem.W.Frag) (dx : Addr) (w : Shp) (cd rg : Addr) : HO := .ins (He.ga K "Unit") dx [("parent", .int w.pa), ("arguments", .int w.ar), ("results", .int w.re), ("registers", .int w.rg), ("cells", .int w.ce), ("code", .ref cd), ("regions", .ref rg)]
def sp_Unit_init__ (K : PySem.W.Frag) : Sp := mk8 fun a b e f g h i j H Q _ => ∃ (o dx cd rg : Addr) (w : Shp), a = .ref o ∧ b = .int w.pa ∧ e = .int w.ar ∧ f = .int w.re ∧ g = .int w.rg ∧ h = .int w.ce ∧ i = .ref cd ∧ j = .ref rg ∧ H o = some (.ins (He.ga K "Unit") dx []) ∧ ∀ H', SH [o] H H' [(o, unO K dx w cd rg)] → Q .non H'
section
 local macro_rules | `(tactic| walk_at "pf") => `(tactic| (apply pf_set 8; (· exact rfl); (· walk_at "ls")))
theorem ok_Unit_init__ {P : Program} {w : World} {K : PySem.W.Frag} {mg : Str → Option Value} {base : Heap} (Y : Env w K mg)  : MakeOk P w K mg base CX0 1 "Unit" ["self", "parent", "arguments", "results", "registers", "cells", "code", "regions"] (sp_Unit_init__ K) := Hsh.un (by simp (disch := k_dflt (
  refine Hsh.up ?_
  obtain ⟨fd, F⟩ := Y.fd_Unit_init__
  refine ⟨fd, Y.mg_Unit, Y.mk_Unit, F.bindsN (fun _ _ _ _ _ _ us hl => match us, hl with | [_, _, _, _, _, _, _, _], _ => rfl), F.ok sc_Unit_init__ mk8_len (fun cdv A outer s H vs Q E hr h => ?_)⟩
  have hu := hu_room hr
  obtain ⟨_, _, _, _, _, _, _, _, rfl, o, dx, cd, rg, w, rfl, rfl, rfl, rfl, rfl, rfl, rfl, rfl, ho, k⟩ := h
  have hS : SH [o] H H [(o, .ins (He.ga K "Unit") dx [])] := SH.start1 ho
  refine ⟨_, PSs.nox (pss_cons (ps_fld (pv 0) (pv 1) rfl)
  (pss_cons (ps_fld (pv 0) (pv 2) rfl)
  (pss_cons (ps_fld (pv 0) (pv 3) rfl)
  (pss_cons (ps_fld (pv 0) (pv 4) rfl)
  (pss_cons (ps_fld (pv 0) (pv 5) rfl)
  (pss_cons (ps_fld (pv 0) (pv 6) rfl)
  (pss_one (ps_fld (pv 0) (pv 7) rfl)))))))), ?_⟩
  rw [st_Unit_init__]
  try simp only [cxK, cxK2, cxW, cxW2]
  clear hu hr F
  repeat' walk_at "st"
  exact k _ hS
  )) only [↓Hsh.on])
end
abbrev moO (K : PySem.W.Frag) (dx us nm pl : Addr) : HO := .ins (He.ga K "Module") dx [("units", .ref us), ("names", .ref nm), ("places", .ref pl)]
def sp_Module_init__ (K : PySem.W.Frag) : Sp := mk4 fun a b e f H Q _ => ∃ (o dx us nm pl : Addr), a = .ref o ∧ b = .ref us ∧ e = .ref nm ∧ f = .ref pl ∧ H o = some (.ins (He.ga K "Module") dx []) ∧ ∀ H', SH [o] H H' [(o, moO K dx us nm pl)] → Q .non H'
theorem ok_Module_init__ {P : Program} {w : World} {K : PySem.W.Frag} {mg : Str → Option Value} {base : Heap} (Y : Env w K mg)  : MakeOk P w K mg base CX0 1 "Module" ["self", "units", "names", "places"] (sp_Module_init__ K) := Hsh.un (by simp (disch := k_dflt (
  refine Hsh.up ?_
  obtain ⟨fd, F⟩ := Y.fd_Module_init__
  refine ⟨fd, Y.mg_Module, Y.mk_Module, F.bindsN (fun _ _ _ _ _ _ us hl => match us, hl with | [_, _, _, _], _ => rfl), F.ok sc_Module_init__ mk4_len (fun cdv A outer s H vs Q E hr h => ?_)⟩
  have hu := hu_room hr
  obtain ⟨_, _, _, _, rfl, o, dx, us, nm, pl, rfl, rfl, rfl, rfl, ho, k⟩ := h
  have hS : SH [o] H H [(o, .ins (He.ga K "Module") dx [])] := SH.start1 ho
  refine ⟨_, PSs.nox (pss_cons (ps_fld (pv 0) (pv 1) rfl)
  (pss_cons (ps_fld (pv 0) (pv 2) rfl)
  (pss_one (ps_fld (pv 0) (pv 3) rfl)))), ?_⟩
  rw [st_Module_init__]
  try simp only [cxK, cxK2, cxW, cxW2]
  clear hu hr F
  repeat' walk_at "st"
  exact k _ hS
  )) only [↓Hsh.on])
/-- a unit of the law, its code and its regions; none of its cells is among B -/
structure UnA (K : PySem.W.Frag) (H : Hp) (u : Addr) (w : Shp) (cs gs : List Addr) (ds : List (List Int)) : Prop where
  ex : ∃ dx cd rg, H u = some (unO K dx w cd rg) ∧ SqT K H cd (cs.map V.ref) ∧ SqT K H rg (gs.map V.ref)
  code : ∀ (k : Nat) (l : Addr), cs[k]? = some l → InsW K H w.rg cs.length k l
  regs : RegsR K H w.rg cs.length gs ds
  g5 : gs.length ≤ 5
  c0 : 4 ≤ cs.length
  c1 : cs.length ≤ 64
  r0 : 3 ≤ w.rg
  r1 : w.rg ≤ 23
  a0 : 0 ≤ w.ar
  a1 : w.ar ≤ w.rg
  a6 : w.ar ≤ 6
def sp_z_unit (K : PySem.W.Frag) : Sp := mk3 fun a b e H Q _ => ∃ (p q sl : Addr) (rs : List Addr) (shs : List Shp) (ns : List Int) (c s n x y z u : Int), a = .ref p ∧ b = .ref sl ∧ e = .int u ∧ Blk H (GC p q ns c s n x y z) ∧ Pos ns ∧ 0 ≤ c ∧ Shs H [p, q] sl rs shs ∧ 0 ≤ u ∧ u < shs.length ∧
  ∀ (un : Addr) (cs gs : List Addr) (ds : List (List Int)) (c' s' n' : Int) ms o H', H un = none → H' un = some o → UnA K H' un (shs.getD u.toNat Shp0) cs gs ds → 0 ≤ c' → Pos ms → Keep [p, q] H H' → H' p = some (stG q c' s' n' x y z) → H' q = some (.lst (ms.map V.int)) → Q (.ref un) H'
theorem ShA.re {B : List Addr} {H H2 : Hp} {L : List Cell} {a : Addr} {s : Shp} (h : ShA H B a s) (S : SH B H H2 L) : ShA H2 (L.map (·.1)) a s := ⟨S.kp.k _ _ h.1 (.inl h.2), SH.old S h.1 h.2⟩
theorem Shs.re {B : List Addr} {H H2 : Hp} {L : List Cell} {sl : Addr} {rs : List Addr} {shs : List Shp} (h : Shs H B sl rs shs) (S : SH B H H2 L) : Shs H2 (L.map (·.1)) sl rs shs :=
  ⟨S.kp.k _ _ h.l (.inl h.nl), SH.old S h.l h.nl, h.len, fun k r s a b => (h.at_ k r s a b).re S, h.ok, h.n1, h.n4⟩
theorem ShA.mono {B B' : List Addr} {H : Hp} {a : Addr} {s : Shp} (h : ShA H B a s) (m : ∀ b ∈ B', b ∈ B) : ShA H B' a s := ⟨h.1, fun z => h.2 (m _ z)⟩
theorem Shs.mono {B B' : List Addr} {H : Hp} {sl : Addr} {rs : List Addr} {shs : List Shp} (h : Shs H B sl rs shs) (m : ∀ b ∈ B', b ∈ B) : Shs H B' sl rs shs := ⟨h.l, fun z => h.nl (m _ z), h.len, fun k r s a b => (h.at_ k r s a b).mono m, h.ok, h.n1, h.n4⟩
local macro_rules | `(tactic| walk_at "sl0") => `(tactic| (refine List.Sublist.cons_cons _ (List.Sublist.cons_cons _ (List.Sublist.cons_cons _ (List.Sublist.cons_cons _ (List.Sublist.cons_cons _ (List.nil_sublist _)))))))
/-- so much of the code stands -/
def CodeR (K : PySem.W.Frag) (H : Hp) (R N : Int) (cs : List Addr) : Prop := ∀ (k : Nat) (l : Addr), cs[k]? = some l → InsW K H R N k l
theorem CodeR.keep {K : PySem.W.Frag} {A : List Addr} {H H' : Hp} {R N : Int} {cs : List Addr} (h : CodeR K H R N cs) (k : Keep A H H') : CodeR K H' R N cs := fun i l a => (h i l a).keep k
theorem CodeR.snoc {K : PySem.W.Frag} {H : Hp} {R N : Int} {cs : List Addr} {l : Addr} (h : CodeR K H R N cs) (x : InsW K H R N cs.length l) : CodeR K H R N (cs ++ [l]) := fun k m a => by
  by_cases hk : k < cs.length
  · rw [List.getElem?_append_left hk] at a
    exact h k m a
  · have := (List.getElem?_eq_some_iff.mp a).1
    rw [List.length_append, List.length_singleton] at this
    obtain rfl : k = cs.length := by omega
    rw [List.getElem?_append_right (Nat.le_refl _), Nat.sub_self] at a
    cases a
    exact x
def UW (K : PySem.W.Frag) (KB : List Addr) (Hb : Hp) (R : Int) (N : Nat) (pst q sl sh : Addr) (u wd : Int) (bs : List Bool) (tk rl : Addr) (gs : List Addr) (x y z : Int) (m : Nat) (σ : L2.St) (H' : Hp) : Prop :=
  ∃ (v7 v11 : Option V) (b9 : Bool) (cd : Addr) (cs : List Addr) (c s n : Int) (ms : List Int), σ = [some (.ref pst), some (.ref sl), some (.int u), some (.ref sh), some (.int wd), some (.int (bs.length : Nat)), some (.ref tk), v7, some (.ref rl), some (.bl b9), some (.ref cd), v11, none, none] ∧
    SH KB Hb H' ((cd, .lst (cs.map V.ref)) :: (rl, .lst (gs.map V.ref)) :: (tk, .lst (bs.map V.bl)) :: GC pst q ms c s n x y z) ∧ cs.length = m ∧ CodeR K H' R N cs ∧ 0 ≤ c ∧ Pos ms
section
 local macro_rules | `(tactic| walk_at "hp") => `(tactic| first | exact (hsl.keep hS.kp).l | exact (hsh.keep hS.kp).1 | fail)
 local macro_rules | `(tactic| walk_at "ls") => `(tactic| ((try simp only [List.set_cons_zero, List.set_cons_succ, set_bls]); exact rfl))
 local macro_rules | `(tactic| walk_at "at") => `(tactic| first | exact atI_bls (by walk_at "ar") (by walk_at "ar") | fail)
 local macro_rules | `(tactic| walk_at "st") => `(tactic| first
  | ((with_reducible show sp_z_operand _ _ _ _ _); apply c_z_operand hS; (· walk_at "ix"); (· walk_at "ix"); (· decide); (· assumption); (· walk_at "ar"); (· exact (hsh.keep hS.kp).mono hm); (· omega); (· omega); intro lo oo c1 s1 n1 ms1 H1 hob hc1 hms1 hS1; clear hS; rename SH _ _ _ _ => hS; simp only [List.set_cons_zero, List.set_cons_succ] at hS)
  | fail)
theorem ok_z_unit {P : Program} {w : World} {K : PySem.W.Frag} {mg : Str → Option Value} {base : Heap} (Y : Env w K mg) (G_Unit_init__ : MakeOk P w K mg base CX0 1 "Unit" ["self", "parent", "arguments", "results", "registers", "cells", "code", "regions"] (sp_Unit_init__ K)) (G_z_instruction : CallOk P w K mg base CX0 4 "_law_instruction" ["_law_state", "_law_shapes_here", "_law_number", "_law_index", "_law_ticks", "_law_regions_here"] (sp_z_instruction K)) (G_z_operand : CallOk P w K mg base CX0 2 "_law_operand" ["_law_state", "_law_shape"] (sp_z_operand K)) (G_z_regions : CallOk P w K mg base CX0 2 "_law_regions" ["_law_state", "_law_shape", "_law_size"] (sp_z_regions K)) (G_z_take : CallOk P w K mg base CX0 1 "_law_take" ["_law_state", "_law_many"] (sp_z_take K)) : CallOk P w K mg base CX0 5 "_law_unit" ["_law_state", "_law_shapes_here", "_law_number"] (sp_z_unit K) := Hsh.un (by simp (disch := k_dflt (
  refine Hsh.up ?_
  obtain ⟨fd, F⟩ := Y.fd_z_unit
  refine ⟨_, fd, Y.mg_z_unit, F.kp, F.bindsN (fun _ _ _ _ _ _ us hl => match us, hl with | [_, _, _], _ => rfl), F.ok sc_z_unit mk3_len (fun cdv A outer s H vs Q E hr h => ?_)⟩
  have hu := hu_room hr
  obtain ⟨_, _, _, rfl, pst, q, sl, rs, shs, ns, c, s, n, x, y, z, u, rfl, rfl, rfl, hB, hp, hc, hsl, hu0, hu1, k⟩ := h
  have hS : SH [pst, q] H H (GC pst q ns c s n x y z) := hB.sh
  have hrsl : (rs.map V.ref).length = shs.length := by rw [List.length_map, hsl.len]
  obtain ⟨hsh, hok⟩ := hsl.get (k := u.toNat) (by omega)
  have h1 := hok.l0; have h2 := hok.l1; have h3 := hok.g0; have h4 := hok.g1
  refine ⟨_, PSs.nox (pss_cons (ps_set (i := 3) sc_z_unit.nd rfl (Or.inr rfl) (pe_ix xIx (pv 1) (pv 2) (fun _ _ => rfl)))
  (pss_cutG (ps_set (i := 4) sc_z_unit.nd rfl (Or.inl rfl) (pe_op xMul (pe_ix xIx (pv 3) pe_int (fun _ _ => rfl)) (pe_callTy x_int rfl Y.z_int (by decide +kernel) (pa_cons (pe_cmpR op_gt (pe_ix xIx (pv 3) pe_int (fun _ _ => rfl)) pe_int (nomark _)) pa_nil))))
  (pss_cons (ps_set (i := 5) sc_z_unit.nd rfl (Or.inl rfl) (pe_op xAdd (pe_op xAdd pe_int (pe_op xMul pe_int (pv 4))) (pe_callG G_z_take (hr.mono (by decide)) rfl pass0 (pa_cons (pv 0) (pa_cons pe_int pa_nil)))))
  (pss_cons (ps_set (i := 6) sc_z_unit.nd rfl (Or.inr rfl) (pe_op xMul (pe_lst (pa_cons pe_bl pa_nil)) (pv 5)))
  (pss_cons (ps_asg pe_bl (pg_sub (pv 6) pe_int set_list))
  (pss_cutG (ps_for PassesOwn.never rfl (pi_range2 rfl Y.z_range (pa_cons (pe_op xAdd pe_int (pv 4)) (pa_cons (pe_op op_sub (pe_op op_sub (pv 5) pe_int) (pv 4)) pa_nil))) (pg_name (i := 7) sc_z_unit.nd rfl (Or.inl rfl))
  (pss_one (ps_asg (pe_cmpR (xEq hu) (pe_callG G_z_take (hr.mono (by decide)) rfl pass0 (pa_cons (pv 0) (pa_cons pe_int pa_nil))) pe_int (nomark _)) (pg_sub (pv 6) (pv 7) set_list))))
  (pss_cons (ps_set (i := 8) sc_z_unit.nd rfl (Or.inl rfl) (pe_callG G_z_regions (hr.mono (by decide)) rfl pass0 (pa_cons (pv 0) (pa_cons (pv 3) (pa_cons (pv 5) pa_nil)))))
  (pss_cons (ps_set (i := 9) sc_z_unit.nd rfl (Or.inl rfl) (pe_cmpR (xEq hu) (pe_callG G_z_take (hr.mono (by decide)) rfl pass0 (pa_cons (pv 0) (pa_cons pe_int pa_nil))) pe_int (nomark _)))
  (pss_cons (ps_set (i := 10) sc_z_unit.nd rfl (Or.inl rfl) (pe_lst (pa_cons (pe_tup (pa_cons pe_str pa_nil)) pa_nil)))
  (pss_cutG (ps_for PassesOwn.never rfl (pi_range2 rfl Y.z_range (pa_cons pe_int (pa_cons (pe_op op_sub (pv 5) pe_int) pa_nil))) (pg_name (i := 7) sc_z_unit.nd rfl (Or.inl rfl))
  (pss_one (ps_if (pt_val (pe_ix xIx (pv 6) (pv 7) (fun _ _ => rfl))) (pss_one (ps_expr (pe_bm PySem.F.plainAttrs_list PySem.F.slot_list_append PySem.F.type_list_append mt_append (pv 10) (pa_cons (pe_tup (pa_cons pe_str pa_nil)) pa_nil)))) (pss_one (ps_if (pt_cmpR op_le (pv 7) (pv 4) (nomark _)) (pss_one (ps_expr (pe_bm PySem.F.plainAttrs_list PySem.F.slot_list_append PySem.F.type_list_append mt_append (pv 10) (pa_cons (pe_ix xIx (pe_lst (pa_cons (pe_tup (pa_cons pe_str (pa_cons (pe_op op_sub (pv 7) pe_int) (pa_cons (pe_tup (pa_cons pe_str (pa_cons (pe_op xAdd pe_int (pv 7)) pa_nil))) pa_nil)))) (pa_cons (pe_tup (pa_cons pe_str (pa_cons (pe_tup (pa_cons pe_str (pa_cons (pv 7) pa_nil))) pa_nil))) pa_nil))) (pe_callTy x_int rfl Y.z_int (by decide +kernel) (pa_cons (pv 9) pa_nil)) (fun _ _ => rfl)) pa_nil)))) (pss_one (ps_if (pt_cmpR op_ge (pv 7) (pe_op op_sub (pe_op op_sub (pv 5) pe_int) (pv 4)) (nomark _)) (pss_one (ps_expr (pe_bm PySem.F.plainAttrs_list PySem.F.slot_list_append PySem.F.type_list_append mt_append (pv 10) (pa_cons (pe_tup (pa_cons pe_str (pa_cons (pe_tup (pa_cons pe_str (pa_cons (pe_op xAdd (pe_op xAdd (pe_op op_sub (pv 7) (pv 5)) pe_int) (pv 4)) pa_nil))) pa_nil))) pa_nil)))) (pss_one (ps_expr (pe_bm PySem.F.plainAttrs_list PySem.F.slot_list_append PySem.F.type_list_append mt_append (pv 10) (pa_cons (pe_callG G_z_instruction hr rfl pass0 (pa_cons (pv 0) (pa_cons (pv 1) (pa_cons (pv 2) (pa_cons (pv 7) (pa_cons (pv 6) (pa_cons (pv 8) pa_nil))))))) pa_nil)))))))))))
  (pss_cons (ps_set (i := 12) sc_z_unit.nd rfl (Or.inl rfl) (pe_tup (pa_cons pe_str (pa_cons (pe_callTy x_tuple rfl Y.z_tuple (by decide +kernel) (pa_cons (pe_lc (own := [("_law_k", 11)]) (g := gName 11) rfl sc_z_unit.nd (pi_range1 rfl Y.z_range (pa_cons (pe_ix xIx (pv 3) pe_int (fun _ _ => rfl)) pa_nil)) (blkOk_by (N := N_z_unit) (sc := defScope s_z_unit) (by decide +kernel)) (fun _ _ _ _ _ => pg_name (i := 11) sc_z_unit.nd rfl (Or.inl rfl)) (fun _ _ _ _ _ => pts_nil) (fun _ _ _ _ _ => (pe_callG G_z_operand (hr.mono (by decide)) rfl pass0 (pa_cons (pv 0) (pa_cons (pv 3) pa_nil))))) pa_nil)) pa_nil))))
  (pss_cons (ps_setLc (i := 13) (own := [("_law_k", 11)]) (g := gName 11) rfl sc_z_unit.nd rfl rfl (sw_true rfl rfl rfl (by decide +kernel)) (pi_range1 rfl Y.z_range (pa_cons (pe_op op_sub (pv 5) pe_int) pa_nil)) (blkOk_by (N := N_z_unit) (sc := defScope s_z_unit) (by decide +kernel)) (fun _ _ _ _ _ => pg_name (i := 11) sc_z_unit.nd rfl (Or.inl rfl)) (fun _ _ _ _ _ => (pts_one (pt_val (pe_ix (IxR.k (K := K) (r := rIxX) xIx rfl) (pv 6) (pv 11) (fun _ _ => rfl))))) (fun _ _ _ _ _ => (pv 11)))
  (pss_cutG (ps_if (pt_cmpR (xEq hu) (pe_callG G_z_take (hr.mono (by decide)) rfl pass0 (pa_cons (pv 0) (pa_cons pe_int pa_nil))) pe_int (nomark _)) (pss_one (ps_set (i := 12) sc_z_unit.nd rfl (Or.inl rfl) (pe_ix xIx (pe_lst (pa_cons (pe_tup (pa_cons pe_str (pa_cons (pe_ix xIx (pv 13) (pe_callG G_z_take (hr.mono (by decide)) rfl pass0 (pa_cons (pv 0) (pa_cons (pe_callB x_len rfl Y.z_len (by decide +kernel) (pa_cons (pv 13) pa_nil)) pa_nil))) (fun _ _ => rfl)) pa_nil))) (pa_cons (pe_tup (pa_cons pe_str (pa_cons (pe_callG G_z_take (hr.mono (by decide)) rfl pass0 (pa_cons (pv 0) (pa_cons pe_int pa_nil))) (pa_cons (pe_callG G_z_take (hr.mono (by decide)) rfl pass0 (pa_cons (pv 0) (pa_cons pe_int pa_nil))) pa_nil)))) pa_nil))) (pe_callG G_z_take (hr.mono (by decide)) rfl pass0 (pa_cons (pv 0) (pa_cons pe_int pa_nil))) (fun _ _ => rfl)))) pss_nil)
  (pss_cons (ps_expr (pe_bm PySem.F.plainAttrs_list PySem.F.slot_list_append PySem.F.type_list_append mt_append (pv 10) (pa_cons (pv 12) pa_nil)))
  (pss_one (ps_ret (pe_makeG G_Unit_init__ (hr.mono (by decide)) rfl pass0 (pa_cons (pe_ix xIx (pv 3) pe_int (fun _ _ => rfl)) (pa_cons (pe_ix xIx (pv 3) pe_int (fun _ _ => rfl)) (pa_cons (pe_ix xIx (pv 3) pe_int (fun _ _ => rfl)) (pa_cons (pe_ix xIx (pv 3) pe_int (fun _ _ => rfl)) (pa_cons (pe_ix xIx (pv 3) pe_int (fun _ _ => rfl)) (pa_cons (pe_callTy x_tuple rfl Y.z_tuple (by decide +kernel) (pa_cons (pv 10) pa_nil)) (pa_cons (pe_callTy x_tuple rfl Y.z_tuple (by decide +kernel) (pa_cons (pv 8) pa_nil)) pa_nil)))))))))))))))))))))))), ?_⟩
  rw [st_z_unit]
  try simp only [cxK, cxK2, cxW, cxW2]
  clear hu hr F
  repeat' walk_at "st"
  refine s_cutG (fun σ H' => ∃ wd : Int, σ = [some (.ref pst), some (.ref sl), some (.int u), some (.ref (rs.getD u.toNat 0)), some (.int wd), none, none, none, none, none, none, none, none, none] ∧ SH [pst, q] H H' (GC pst q ns c s n x y z) ∧ 0 ≤ wd ∧ wd ≤ (shs.getD u.toNat Shp0).rg) ?_ ?_
  · repeat' walk_at "st"
    · exact ⟨_, rfl, hS, by omega, by omega⟩
    · exact ⟨_, rfl, hS, by omega, by omega⟩
  clear hS hB
  rintro σ H1 ⟨wd, rfl, hS, hwd0, hwd1⟩
  repeat' walk_at "st"
  refine s_cutG (fun σ H' => ∃ (bs : List Bool) (tk : Addr) (v7 : Option V) (c s n : Int) (ms : List Int), σ = [some (.ref pst), some (.ref sl), some (.int u), some (.ref (rs.getD u.toNat 0)), some (.int wd), some (.int (bs.length : Nat)), some (.ref tk), v7, none, none, none, none, none, none] ∧ SH [pst, q] H H' ((tk, .lst (bs.map V.bl)) :: GC pst q ms c s n x y z) ∧ 0 ≤ c ∧ Pos ms ∧ bs.getD 0 false = true ∧ 4 + 2 * wd ≤ bs.length ∧ bs.length ≤ 64) ?_ ?_
  · repeat' walk_at "st"
    obtain ⟨N, hN⟩ : ∃ N : Nat, (4 + 2 * wd + r) = (N : Int) := ⟨(4 + 2 * wd + r).toNat, by omega⟩
    obtain ⟨bs0, e0, l0, t0⟩ : ∃ bs0 : List Bool, (List.replicate (4 + 2 * wd + r).toNat (V.bl false)).set (Int.toNat 0) (V.bl true) = bs0.map V.bl ∧ bs0.length = N ∧ bs0.getD 0 false = true := by
      refine ⟨(List.replicate N false).set 0 true, ?_, by rw [List.length_set, List.length_replicate], ?_⟩
      · rw [hN, List.map_set, List.map_replicate]
        rfl
      · rw [List.getD_eq_getElem?_getD, List.getElem?_set_self (by rw [List.length_replicate]; omega)]
        rfl
    rw [e0] at hS
    obtain ⟨tk, etk⟩ : ∃ tk, tk = p := ⟨_, rfl⟩
    rw [← etk] at hS ⊢
    clear etk
    rw [hN]
    refine u_forR2 (fun j σ H' => ∃ (bs : List Bool) (v7 : Option V) (c s n : Int) (ms : List Int), σ = [some (.ref pst), some (.ref sl), some (.int u), some (.ref (rs.getD u.toNat 0)), some (.int wd), some (.int (N : Nat)), some (.ref tk), v7, none, none, none, none, none, none] ∧ bs.length = N ∧ bs.getD 0 false = true ∧ 0 ≤ c ∧ Pos ms ∧ SH [pst, q] H H' ((tk, .lst (bs.map V.bl)) :: _ :: GC pst q ms c s n x y z)) (by omega) ⟨bs0, _, _, _, _, _, rfl, l0, t0, hc1, hms1, hS⟩ ?_ ?_
    · rintro j σ H2 hj ⟨bs, v7, c, s, n, ms, rfl, l0, t0, hc, hms, hS⟩
      have hbl : (bs.map V.bl).length = N := by rw [List.length_map]; exact l0
      repeat' walk_at "st"
      refine ⟨_, _, _, _, _, _, rfl, ?_, ?_, hc1, hms1, hS⟩
      · rw [List.length_set]; exact l0
      · rw [List.getD_eq_getElem?_getD, List.getElem?_set_ne (by omega), ← List.getD_eq_getElem?_getD]
        exact t0
    · rintro σ H2 ⟨bs, v7, c, s, n, ms, rfl, l0, t0, hc, hms, hS⟩
      subst l0
      exact ⟨bs, tk, v7, c, s, n, ms, rfl, hS.sub (List.Sublist.cons_cons _ (List.sublist_cons_self _ _)), hc, hms, t0, by omega, by omega⟩
  clear hS hc hp
  rintro σ H1 ⟨bs, tk, v7, c, s, n, ms, rfl, hS, hc, hms, hb0, hbl0, hbl1⟩
  repeat' walk_at "st"
  refine c_z_regions hS (i := 1) (j := 2) rfl rfl (by decide) hms hc (hsh.keep hS.kp) h3 (by omega) (by omega) (by omega) (fun rl gs ds c1 s1 n1 ms1 H2 hg5 hrg hc1 hms1 hS => ?_)
  simp only [List.set_cons_zero, List.set_cons_succ] at hS
  have hS0 := hS
  have hsl := hsl.re hS
  have hsh := hsh.re hS
  have hS := hS.blk.sh
  generalize hKB : (List.map (fun x : Cell => x.1) ((rl, HO.lst (gs.map V.ref)) :: (tk, .lst (bs.map V.bl)) :: GC pst q ms1 c1 s1 n1 x y z)) = KB at hS hsl hsh
  repeat' walk_at "st"
  refine s_cutG (UW K KB H2 (shs.getD u.toNat Shp0).rg bs.length pst q sl (rs.getD u.toNat 0) u wd bs tk rl gs x y z (bs.length - 1)) ?_ ?_
  · repeat' walk_at "st"
    refine u_forR2 (fun j => UW K KB H2 (shs.getD u.toNat Shp0).rg bs.length pst q sl (rs.getD u.toNat 0) u wd bs tk rl gs x y z (j + 1)) (by omega) ⟨_, _, _, p, [_], _, _, _, _, rfl, hS.sub (by walk_at "sl"), rfl, ?_, hc1, hms1⟩ ?_ ?_
    · intro k l a
      cases k with
      | zero => cases a; exact ⟨_, _, _, _, _, .tick (SqT.of (hS.get 1 rfl)), no_mem, one_b ⟨by omega, by omega⟩, no_mem⟩
      | succ k => cases a
    · clear hS hc1 hms1
      rintro j σ H3 hj ⟨v7, v11, b9, cd, cs, c, s, n, ms, rfl, hS, hl, hC, hcc, hms⟩
      have hS1 := hS
      have hm : ∀ b ∈ [pst, q], b ∈ List.map (fun x : Cell => x.1) ((cd, HO.lst (cs.map V.ref)) :: (rl, .lst (gs.map V.ref)) :: (tk, .lst (bs.map V.bl)) :: GC pst q ms c s n x y z) := fun b hb => by
        rcases List.mem_cons.mp hb with rfl | hb
        · simp
        · rw [List.mem_singleton.mp hb]; simp
      have hsl := hsl.re hS
      have hsh := hsh.re hS
      have hS := hS.blk.sh
      have hbl : (bs.map V.bl).length = bs.length := List.length_map _
      have hcl : (cs.map V.ref).length = cs.length := List.length_map _
      repeat' walk_at "st"
      · refine ⟨_, _, b9, cd, cs ++ [_], c, s, n, ms, rfl, un_sh hS1 hS (by walk_at "sl"), ?_, (hC.keep hS.kp).snoc ?_, hcc, hms⟩
        · rw [List.length_append, hl]; rfl
        · rw [hl]
          exact ⟨_, _, _, _, _, .tick (SqT.of (by walk_at "hp")), no_mem, one_b ⟨by omega, by omega⟩, no_mem⟩
      · refine ⟨_, _, b9, cd, cs ++ [_], c, s, n, ms, rfl, un_sh hS1 hS (by walk_at "sl"), ?_, (hC.keep hS.kp).snoc ?_, hcc, hms⟩
        · rw [List.length_append, hl]; rfl
        · rw [hl]
          exact ⟨_, _, _, _, _, .put (SqT.of (by walk_at "hp")) (by walk_at "op"), by walk_at "wo", one_b ⟨by omega, by omega⟩, no_mem⟩
      · refine ⟨_, _, b9, cd, cs ++ [_], c, s, n, ms, rfl, un_sh hS1 hS (by walk_at "sl"), ?_, (hC.keep hS.kp).snoc ?_, hcc, hms⟩
        · rw [List.length_append, hl]; rfl
        · rw [hl]
          exact ⟨_, _, _, _, _, .move (SqT.of (by walk_at "hp")) (by walk_at "op"), by walk_at "wo", one_b ⟨by omega, by omega⟩, one_b ⟨by omega, by omega⟩⟩
      · refine ⟨_, _, b9, cd, cs ++ [_], c, s, n, ms, rfl, un_sh hS1 hS (by walk_at "sl"), ?_, (hC.keep hS.kp).snoc ?_, hcc, hms⟩
        · rw [List.length_append, hl]; rfl
        · rw [hl]
          exact .putR (SqT.of (by walk_at "hp")) (SqT.of (by walk_at "hp")) (by omega) (by omega) ⟨by omega, by omega⟩
      · have htn : tk ∉ [pst, q] := fun z => by
          rcases List.mem_cons.mp z with e | z
          · exact hS.ne (i := 3) (j := 2) rfl rfl (by decide) e
          · exact hS.ne (i := 4) (j := 2) rfl rfl (by decide) (List.mem_singleton.mp z)
        have hrn : rl ∉ [pst, q] := fun z => by
          rcases List.mem_cons.mp z with e | z
          · exact hS.ne (i := 3) (j := 1) rfl rfl (by decide) e
          · exact hS.ne (i := 4) (j := 1) rfl rfl (by decide) (List.mem_singleton.mp z)
        refine c_z_instruction hS (i := 3) (j := 4) rfl rfl (by decide) hms hcc (hsl.mono hm) hu0 hu1 (by omega) (by omega) (hS.get 2 rfl) htn (by omega) (hS.get 1 rfl) hrn hg5 (hrg.keep hS1.kp) (fun l c1 s1 n1 ms1 H4 hI hc1 hms1 hS => ?_)
        simp only [List.set_cons_zero, List.set_cons_succ] at hS
        have hS4 := hS
        have hS := hS.blk.sh
        repeat' walk_at "st"
        refine ⟨_, _, b9, cd, cs ++ [_], c1, s1, n1, ms1, rfl, un_sh (hS1.callE hS4) hS (by walk_at "sl"), ?_, (hC.keep (hS4.kp)).keep hS.kp |>.snoc ?_, hc1, hms1⟩
        · rw [List.length_append, hl]; rfl
        · rw [show ((cs.length : Nat) : Int) = 1 + (j : Int) by omega]
          exact hI.keep hS.kp
    · rintro σ H3 h
      have e : (((bs.length : Nat) : Int) - 1 - 1).toNat + 1 = bs.length - 1 := by omega
      rw [e] at h
      exact h
  · clear hS hc1 hms1
    rintro σ H3 ⟨v7, v11, b9, cd, cs, c, s, n, ms, rfl, hS, hl, hC, hcc, hms⟩
    have hm : ∀ b ∈ [pst, q], b ∈ List.map (fun x : Cell => x.1) ((cd, HO.lst (cs.map V.ref)) :: (rl, .lst (gs.map V.ref)) :: (tk, .lst (bs.map V.bl)) :: GC pst q ms c s n x y z) := fun b hb => by
      rcases List.mem_cons.mp hb with rfl | hb
      · simp
      · rw [List.mem_singleton.mp hb]; simp
    have hS1 := hS
    have hsl := hsl.re hS
    have hsh := hsh.re hS
    have hS := hS.blk.sh
    have hbl : (bs.map V.bl).length = bs.length := List.length_map _
    have hcl : (cs.map V.ref).length = cs.length := List.length_map _
    have h9 := hok.e0; have h10 := hok.e1
    repeat' walk_at "st"
    refine u_lcR1 hS (fun D k H' => ∃ (qs : List Addr) (os : List Opd) (Lx : List Cell) (c s n : Int) (ms : List Int), qs.length = k ∧ OpC Lx qs os ∧ (∀ o ∈ os, o.reg = true → 0 ≤ o.n ∧ o.n < (shs.getD u.toNat Shp0).rg) ∧ 0 ≤ c ∧ Pos ms ∧ SH _ H3 H' ((D, .lst (qs.map V.ref)) :: (cd, .lst (cs.map V.ref)) :: (rl, .lst (gs.map V.ref)) :: (tk, .lst (bs.map V.bl)) :: (pst, stG q c s n x y z) :: (q, .lst (ms.map V.int)) :: Lx)) (by omega) (by omega) (fun D H1 hS => ⟨[], [], [], _, _, _, _, rfl, .nil, no_mem, hcc, hms, hS⟩) ?_ ?_
    · rintro D m H1 hm' ⟨qs, os, Lx, c, s, n, ms, hql, hoc, hbo, hc, hms, hS⟩
      have hql2 : (qs.map V.ref).length = m := by rw [List.length_map]; exact hql
      repeat' walk_at "st"
      refine ⟨qs ++ [lo], os ++ [oo], _, c1, s1, n1, ms1, by rw [List.length_append, hql]; rfl, hoc.snoc, fun o ho => ?_, hc1, hms1, ?_⟩
      · rcases List.mem_append.mp ho with ho | ho
        · exact hbo o ho
        · rw [List.mem_singleton.mp ho]; exact hob
      · have z := hS.perm (List.perm_middle (l₁ := [_, _, _, _, _, _])).symm
        rw [List.map_append]
        exact z
    · rintro D H1 ⟨qs, os, Lx, c1, s1, n1, ms1, hql, hoc, hbo, hc1, hms1, hS⟩
      repeat' walk_at "st"
      have hL : ∀ c ∈ Lx, H1 c.1 = some c.2 := fun c hc => hS.hs c (List.mem_append_right [_, _, _, _, _, _, _, _] hc)
      have hRet : InsW K H1 (shs.getD u.toNat Shp0).rg bs.length ((cs.length : Nat) : Int) p := ⟨_, qs, os, _, _, .ret (SqT.of (by walk_at "hp")) (SqT.of (by walk_at "hp")) (hoc.at hL) (by have := hoc.1; omega), hbo, no_mem, no_mem⟩
      have hC := hC.keep hS.kp
      have hrg := hrg.keep (hS1.callE hS).kp
      have hS := (hS.drop1.drop1.drop1).sub (L' := (cd, HO.lst (cs.map V.ref)) :: (rl, .lst (gs.map V.ref)) :: (tk, .lst (bs.map V.bl)) :: GC pst q ms1 c1 s1 n1 x y z) (by walk_at "sl0")
      have hS1 := hS1.callE hS
      have hsl : Shs H1 [cd, rl, tk, pst, q] sl rs shs := hsl.re hS
      have hsh : ShA H1 [cd, rl, tk, pst, q] (rs.getD u.toNat 0) (shs.getD u.toNat Shp0) := hsh.re hS
      have hS : SH [cd, rl, tk, pst, q] H1 H1 ((cd, HO.lst (cs.map V.ref)) :: (rl, .lst (gs.map V.ref)) :: (tk, .lst (bs.map V.bl)) :: GC pst q ms1 c1 s1 n1 x y z) := hS.blk.sh
      refine s_lcRG ?_
      repeat' walk_at "st"
      refine u_lcRG hS (fun D k H' => ∃ ls : List Int, ls.length ≤ k ∧ (∀ i ∈ ls, 0 ≤ i ∧ i < bs.length) ∧ (0 < k → 0 < ls.length) ∧ SH [cd, rl, tk, pst, q] H1 H' ((D, .lst (ls.map V.int)) :: (cd, .lst (cs.map V.ref)) :: (rl, .lst (gs.map V.ref)) :: (tk, .lst (bs.map V.bl)) :: GC pst q ms1 c1 s1 n1 x y z)) (by omega) (by omega) (fun D H2 hS => ⟨[], Nat.zero_le _, no_mem, fun z => absurd z (Nat.lt_irrefl _), hS⟩) ?_ ?_
      · rintro D m H4 hm' ⟨ls, hll, hin, hne, hS⟩
        have hlm : (ls.map V.int).length = ls.length := List.length_map _
        repeat' walk_at "st"
        · refine ⟨ls ++ [(m : Int)], by rw [List.length_append, List.length_singleton]; omega, fun i hi => ?_, fun _ => by rw [List.length_append]; exact Nat.lt_of_lt_of_le Nat.one_pos (Nat.le_add_left _ _), snocI hS⟩
          rcases List.mem_append.mp hi with hi | hi
          · exact hin i hi
          · rw [List.mem_singleton.mp hi]; omega
        · refine ⟨ls, by omega, hin, fun _ => ?_, hS⟩
          by_cases hm0 : m = 0
          · subst hm0
            rw [Int.toNat_natCast, hb0] at hc
            cases hc
          · exact hne (by omega)
      · rintro D H4 ⟨ls, hll, hin, hne, hS⟩
        have hlm : (ls.map V.int).length = ls.length := List.length_map _
        have hlp := hne (by omega)
        repeat' walk_at "st"
        refine s_cutG (fun σ H' => ∃ (lp : Addr) (v7 v11 v13 : Option V) (c s n : Int) (ms : List Int), σ = [some (.ref pst), some (.ref sl), some (.int u), some (.ref (rs.getD u.toNat 0)), some (.int wd), some (.int (bs.length : Nat)), some (.ref tk), v7, some (.ref rl), some (.bl b9), some (.ref cd), v11, some (.ref lp), v13] ∧ SH [cd, rl, tk, pst, q] H1 H' ((cd, .lst (cs.map V.ref)) :: (rl, .lst (gs.map V.ref)) :: (tk, .lst (bs.map V.bl)) :: GC pst q ms c s n x y z) ∧ InsW K H' (shs.getD u.toNat Shp0).rg bs.length ((cs.length : Nat) : Int) lp ∧ 0 ≤ c ∧ Pos ms) ?_ ?_
        · repeat' walk_at "st"
          · have hget : ∀ r : Int, 0 ≤ r → r < ls.length → 0 ≤ ls.getD r.toNat 0 ∧ ls.getD r.toNat 0 < bs.length := fun r h0 h1 => hin _ (by
              rw [List.getD_eq_getElem?_getD, List.getElem?_eq_getElem (by omega)]
              exact List.getElem_mem _)
            rcases (show r = 0 ∨ r = 1 by omega) with rfl | rfl
            · exact ⟨_, _, _, _, _, _, _, _, rfl, hS.sub (by walk_at "sl"), ⟨_, _, _, _, _, .jump (SqT.of (hS.get 2 rfl)), no_mem, one_b (hget _ (by assumption) (by omega)), no_mem⟩, hc1, hms1⟩
            · exact ⟨_, _, _, _, _, _, _, _, rfl, hS.sub (by walk_at "sl"), ⟨_, _, _, _, _, .raise (SqT.of (hS.get 1 rfl)), no_mem, no_mem, no_mem⟩, hc1, hms1⟩
          · exact ⟨p, _, _, _, _, _, _, _, rfl, hS.sub (by walk_at "sl"), hRet.keep hS.kp, by assumption, by assumption⟩
        · rintro σ H5 ⟨lp, v7, v11, v13, c2, s2, n2, ms2, rfl, hS, hI, hc2, hms2⟩
          have hC := hC.keep hS.kp
          have hrg := hrg.keep hS.kp
          have hS5 := hS1.callE hS
          have hsl : Shs H5 [cd, rl, tk, pst, q] sl rs shs := hsl.re hS
          have hsh : ShA H5 [cd, rl, tk, pst, q] (rs.getD u.toNat 0) (shs.getD u.toNat Shp0) := hsh.re hS
          have hS : SH [cd, rl, tk, pst, q] H5 H5 ((cd, HO.lst (cs.map V.ref)) :: (rl, .lst (gs.map V.ref)) :: (tk, .lst (bs.map V.bl)) :: GC pst q ms2 c2 s2 n2 x y z) := hS.blk.sh
          have h1c := hok.g0
          repeat' walk_at "st"
          refine ⟨_, _, _, _, _, _, _, _, rfl, x, dx, _, _, shs.getD u.toNat Shp0, rfl, rfl, rfl, rfl, rfl, rfl, rfl, rfl, hS.get 0 rfl, fun H6 C => ⟨rfl, ?_⟩⟩
          have hS := SH.call (B := [(x, _)]) hS C
          have hA := hS5.callE hS
          rw [← hKB] at hA
          have hA := hS0.callE hA
          have hlen : (cs ++ [lp]).length = bs.length := by rw [List.length_append, hl]; show bs.length - 1 + 1 = bs.length; omega
          refine k x (cs ++ [lp]) gs ds c2 s2 n2 ms2 _ H6 (new2 hA (i := 0) (j := 6) (k := 7) rfl rfl rfl (by decide) (by decide)) (hS.get 0 rfl) ⟨⟨dx, _, _, hS.get 0 rfl, by rw [List.map_append]; exact SqT.of (hS.get 2 rfl), SqT.of (hS.get 1 rfl)⟩, ?_, ?_, hg5, by omega, by omega, h3, h4, hok.a0, hok.ag, hok.a1⟩ hc2 hms2 hA.kp (hS.get 6 rfl) (hS.get 7 rfl)
          · rw [hlen]
            exact (hC.keep hS.kp).snoc (hI.keep hS.kp)
          · rw [hlen]
            exact hrg.keep hS.kp
  )) only [↓Hsh.on])
end
theorem UnA.keep {K : PySem.W.Frag} {A : List Addr} {H H' : Hp} {u : Addr} {w : Shp} {cs gs : List Addr} {ds : List (List Int)} (h : UnA K H u w cs gs ds) (k : Keep A H H') (n : u ∉ A) : UnA K H' u w cs gs ds := by
  obtain ⟨⟨dx, cd, rg, e1, e2, e3⟩, h2, h3, h4, h5, h6, h7, h8, h9, h10, h11⟩ := h
  exact ⟨⟨dx, cd, rg, k.k _ _ e1 (.inl n), SqT_keep e2 k, SqT_keep e3 k⟩, fun i l a => (h2 i l a).keep k, h3.keep k, h4, h5, h6, h7, h8, h9, h10, h11⟩

theorem c_z_unit {K : PySem.W.Frag} {A : List Addr} {H0 H : Hp} {L : List Cell} {p q sl : Addr} {rs : List Addr} {shs : List Shp} {ns : List Int} {c s n x y z u : Int} {Q : VK} {E : XK} {i j : Nat} (hS : SH A H0 H L) (e : L[i]? = some (p, stG q c s n x y z)) (e2 : L[j]? = some (q, .lst (ns.map V.int))) (ne : i ≠ j) (hp : Pos ns) (h0 : 0 ≤ c) (hsl : Shs H [p, q] sl rs shs) (hu0 : 0 ≤ u) (hu1 : u < shs.length)
    (k : ∀ (un : Addr) (cs gs : List Addr) (ds : List (List Int)) (c' s' n' : Int) ms o H', UnA K H' un (shs.getD u.toNat Shp0) cs gs ds → Keep [p, q] H H' → 0 ≤ c' → Pos ms → SH A H0 H' ((un, o) :: (L.set i (p, stG q c' s' n' x y z)).set j (q, .lst (ms.map V.int))) → Q (.ref un) H') : sp_z_unit K ([.ref p, .ref sl, .int u] ++ []) H Q E :=
  ⟨_, _, _, rfl, p, q, sl, rs, shs, ns, c, s, n, x, y, z, u, rfl, rfl, rfl, blk2 hS e e2 ne, hp, h0, hsl, hu0, hu1, fun un cs gs ds c' s' n' ms o H' a b d f g kp f1 f2 => k un cs gs ds c' s' n' ms o H' d kp f g (hS.call2n i j e e2 rfl rfl kp f1 f2 a b)⟩
def ShC (L : List Cell) (rs : List Addr) (shs : List Shp) : Prop := rs.length = shs.length ∧ ∀ (k : Nat) (r : Addr) (s : Shp), rs[k]? = some r → shs[k]? = some s → (r, .lst s.row) ∈ L
theorem ShC.nil {L : List Cell} : ShC L [] [] := ⟨rfl, fun k q x h => nomatch h⟩
theorem ShC.snoc {L : List Cell} {rs : List Addr} {shs : List Shp} {r : Addr} {s : Shp} (h : ShC L rs shs) : ShC ((r, .lst s.row) :: L) (rs ++ [r]) (shs ++ [s]) := Hsh.un (by simp (disch := k_dflt (
  refine Hsh.up ?_
  refine ⟨by rw [List.length_append, List.length_append, h.1]; rfl, fun k a b h1 h2 => ?_⟩
  by_cases hk : k < rs.length
  · rw [List.getElem?_append_left hk] at h1
    rw [List.getElem?_append_left (by rw [← h.1]; exact hk)] at h2
    exact List.mem_cons_of_mem _ (h.2 k a b h1 h2)
  · have hk2 : k = rs.length := by
      have := (List.getElem?_eq_some_iff.mp h1).1
      rw [List.length_append, List.length_singleton] at this
      omega
    subst hk2
    rw [List.getElem?_append_right (Nat.le_refl _), Nat.sub_self] at h1
    rw [List.getElem?_append_right (by rw [h.1]; exact Nat.le_refl _), h.1, Nat.sub_self] at h2
    cases h1
    cases h2
    exact List.mem_cons_self
  )) only [↓Hsh.on])
theorem ShC.get {H : Hp} {L : List Cell} {rs : List Addr} {shs : List Shp} (h : ShC L rs shs) (hL : ∀ c ∈ L, H c.1 = some c.2) {k : Nat} (hk : k < rs.length) : H (rs.getD k 0) = some (.lst (shs.getD k Shp0).row) ∧ shs.getD k Shp0 ∈ shs := Hsh.un (by simp (disch := k_dflt (
  refine Hsh.up ?_
  have hk2 : k < shs.length := by rw [← h.1]; exact hk
  rw [List.getD_eq_getElem?_getD, List.getD_eq_getElem?_getD, List.getElem?_eq_getElem hk, List.getElem?_eq_getElem hk2]
  exact ⟨hL _ (h.2 k _ _ (List.getElem?_eq_getElem hk) (List.getElem?_eq_getElem hk2)), List.getElem_mem _⟩
  )) only [↓Hsh.on])
theorem sh_step {A : List Addr} {H0 H : Hp} {a b e f g h : Int} {rs : List Addr} {shs : List Shp} {p rl : Addr} {c1 c2 : Cell} {Lx : List Cell} (hS : SH A H0 H ((p, .lst [.int a, .int b, .int e, .int f, .int g, .int h]) :: (rl, .lst (rs.map V.ref ++ [V.ref p])) :: c1 :: c2 :: Lx)) (C : ShC Lx rs shs) :
    ∃ Lx', ShC Lx' (rs ++ [p]) (shs ++ [⟨a, b, e, f, g, h⟩]) ∧ SH A H0 H ((rl, .lst ((rs ++ [p]).map V.ref)) :: c1 :: c2 :: Lx') := Hsh.un (by simp (disch := k_dflt (
  refine Hsh.up ?_
  refine ⟨_, C.snoc (r := p) (s := ⟨a, b, e, f, g, h⟩), ?_⟩
  rw [List.map_append]
  exact hS.perm (List.perm_middle (l₁ := [_, _, _])).symm
  )) only [↓Hsh.on])
theorem ok_mk {T : Nat} {a b e f g h : Int} (p0 : -1 ≤ a) (p1 : a < T) (a0 : 0 ≤ b) (a1 : b ≤ 6) (e0 : 0 ≤ e) (e1 : e ≤ 6) (g0 : 3 ≤ f) (g1 : f ≤ 23) (c0 : 0 ≤ g) (c1 : g ≤ 4) (l0 : 0 ≤ h) (l1 : h ≤ 100) (ag : b ≤ f) : Shp.ok T ⟨a, b, e, f, g, h⟩ := ⟨p0, p1, a0, a1, e0, e1, g0, g1, c0, c1, l0, l1, ag⟩
theorem snoc_ok {T j : Nat} {shs : List Shp} {s : Shp} (h : ∀ s ∈ shs, s.ok T ∧ s.le + 1 ≤ (j : Int)) (h1 : s.ok T) (h2 : s.le + 1 ≤ ((j + 1 : Nat) : Int)) : ∀ t ∈ shs ++ [s], t.ok T ∧ t.le + 1 ≤ ((j + 1 : Nat) : Int) := fun t ht => by
  rcases List.mem_append.mp ht with ht | ht
  · exact ⟨(h t ht).1, by have := (h t ht).2; omega⟩
  · rw [List.mem_singleton.mp ht]; exact ⟨h1, h2⟩
def sp_z_shapes (K : PySem.W.Frag) : Sp := mk1 fun a H Q _ => ∃ (p q : Addr) (ns : List Int) (c s n x y z : Int), a = .ref p ∧ Blk H (GC p q ns c s n x y z) ∧ Pos ns ∧ 0 ≤ c ∧
  ∀ (sl : Addr) (rs : List Addr) (shs : List Shp) (c' s' n' : Int) ms H', Shs H' [p, q] sl rs shs → 0 ≤ c' → Pos ms → Keep [p, q] H H' → H' p = some (stG q c' s' n' x y z) → H' q = some (.lst (ms.map V.int)) → Q (.ref sl) H'
section
 local macro_rules | `(tactic| walk_at "hp") => `(tactic| exact hrow)
theorem ok_z_shapes {P : Program} {w : World} {K : PySem.W.Frag} {mg : Str → Option Value} {base : Heap} (Y : Env w K mg) (G_z_take : CallOk P w K mg base CX0 1 "_law_take" ["_law_state", "_law_many"] (sp_z_take K)) : CallOk P w K mg base CX0 2 "_law_shapes" ["_law_state"] (sp_z_shapes K) := Hsh.un (by simp (disch := k_dflt (
  refine Hsh.up ?_
  obtain ⟨fd, F⟩ := Y.fd_z_shapes
  refine ⟨_, fd, Y.mg_z_shapes, F.kp, F.bindsN (fun _ _ _ _ _ _ us hl => match us, hl with | [_], _ => rfl), F.ok sc_z_shapes mk1_len (fun cdv A outer s H vs Q E hr h => ?_)⟩
  have hu := hu_room hr
  obtain ⟨_, rfl, pst, q, ns, c, s, n, x, y, z, rfl, hB, hp, hc, k⟩ := h
  have hS : SH [pst, q] H H (GC pst q ns c s n x y z) := hB.sh
  refine ⟨_, PSs.nox (pss_cons (ps_set (i := 1) sc_z_shapes.nd rfl (Or.inl rfl) (pe_lst pa_nil))
  (pss_cutG (ps_set (i := 2) sc_z_shapes.nd rfl (Or.inl rfl) (pe_op xMul pe_int (pe_callTy x_int rfl Y.z_int (by decide +kernel) (pa_cons (pe_cmpR (xEq hu) (pe_callG G_z_take hr rfl pass0 (pa_cons (pv 0) (pa_cons pe_int pa_nil))) pe_int (nomark _)) pa_nil))))
  (pss_cons (ps_for PassesOwn.never rfl (pi_range1 rfl Y.z_range (pa_cons (pe_op xAdd pe_int (pe_callG G_z_take hr rfl pass0 (pa_cons (pv 0) (pa_cons pe_int pa_nil)))) pa_nil)) (pg_name (i := 3) sc_z_shapes.nd rfl (Or.inl rfl))
  (pss_cons (ps_set (i := 4) sc_z_shapes.nd rfl (Or.inl rfl) (pe_un un_neg pe_int))
  (pss_cons (ps_set (i := 5) sc_z_shapes.nd rfl (Or.inl rfl) pe_int)
  (pss_cons (ps_set (i := 6) sc_z_shapes.nd rfl (Or.inl rfl) pe_int)
  (pss_cons (ps_set (i := 7) sc_z_shapes.nd rfl (Or.inl rfl) pe_int)
  (pss_cons (ps_if (pt_cmpR op_gt (pv 3) pe_int (nomark _)) (pss_cons (ps_set (i := 4) sc_z_shapes.nd rfl (Or.inl rfl) (pe_callG G_z_take hr rfl pass0 (pa_cons (pv 0) (pa_cons (pv 3) pa_nil))))
  (pss_cons (ps_set (i := 5) sc_z_shapes.nd rfl (Or.inl rfl) (pe_op xAdd (pe_ix xIx (pe_ix xIx (pv 1) (pv 4) (fun _ _ => rfl)) pe_int (fun _ _ => rfl)) pe_int))
  (pss_cons (ps_set (i := 6) sc_z_shapes.nd rfl (Or.inl rfl) (pe_callG G_z_take hr rfl pass0 (pa_cons (pv 0) (pa_cons (pe_op xAdd pe_int (pv 2)) pa_nil))))
  (pss_one (ps_set (i := 7) sc_z_shapes.nd rfl (Or.inl rfl) (pe_callG G_z_take hr rfl pass0 (pa_cons (pv 0) (pa_cons (pe_op xAdd (pe_op xAdd pe_int (pv 2)) (pe_op xDiv (pv 2) pe_int)) pa_nil)))))))) pss_nil)
  (pss_cons (ps_set (i := 8) sc_z_shapes.nd rfl (Or.inl rfl) (pe_op xAdd (pe_op xAdd (pe_op xAdd pe_int (pv 2)) (pe_op xDiv (pv 2) pe_int)) (pe_callG G_z_take hr rfl pass0 (pa_cons (pv 0) (pa_cons pe_int pa_nil)))))
  (pss_cons (ps_if (pt_cmpR (xEq hu) (pe_callG G_z_take hr rfl pass0 (pa_cons (pv 0) (pa_cons pe_int pa_nil))) pe_int (nomark _)) (pss_one (ps_set (i := 8) sc_z_shapes.nd rfl (Or.inl rfl) (pe_op xAdd pe_int (pe_callG G_z_take hr rfl pass0 (pa_cons (pv 0) (pa_cons pe_int pa_nil)))))) pss_nil)
  (pss_one (ps_expr (pe_bm PySem.F.plainAttrs_list PySem.F.slot_list_append PySem.F.type_list_append mt_append (pv 1) (pa_cons (pe_lst (pa_cons (pv 4) (pa_cons (pv 6) (pa_cons (pv 7) (pa_cons (pv 8) (pa_cons (pe_callG G_z_take hr rfl pass0 (pa_cons (pv 0) (pa_cons pe_int pa_nil))) (pa_cons (pv 5) pa_nil))))))) pa_nil))))))))))))
  (pss_one (ps_ret (pv 1)))))), ?_⟩
  rw [st_z_shapes]
  try simp only [cxK, cxK2, cxW, cxW2]
  clear hu hr F
  repeat' walk_at "st"
  obtain ⟨sl, esl⟩ : ∃ sl, sl = p := ⟨_, rfl⟩
  rw [← esl] at hS ⊢
  clear esl
  refine s_cutG (fun σ H' => ∃ (more c s n : Int) (ms : List Int), σ = [some (.ref pst), some (.ref sl), some (.int more), none, none, none, none, none, none] ∧ SH [pst, q] H H' ((sl, .lst []) :: GC pst q ms c s n x y z) ∧ 0 ≤ c ∧ Pos ms ∧ (more = 0 ∨ more = 3)) ?_ ?_
  · repeat' walk_at "st"
    · exact ⟨_, _, _, _, _, rfl, hS, by assumption, by assumption, by omega⟩
    · exact ⟨_, _, _, _, _, rfl, hS, by assumption, by assumption, by omega⟩
  clear hS hB hc
  rintro σ H1 ⟨more, c, s, n, ms, rfl, hS, hc, hms, hmo⟩
  repeat' walk_at "st"
  obtain ⟨T, hT⟩ : ∃ T : Nat, (1 + r) = (T : Int) := ⟨(1 + r).toNat, by omega⟩
  refine u_forR1 (fun j σ H' => ∃ (rs : List Addr) (shs : List Shp) (Lx : List Cell) (c s n : Int) (ms : List Int) (v3 v4 v5 v6 v7 v8 : Option V), σ = [some (.ref pst), some (.ref sl), some (.int more), v3, v4, v5, v6, v7, v8] ∧ rs.length = j ∧ ShC Lx rs shs ∧ (∀ s ∈ shs, s.ok T ∧ s.le + 1 ≤ j) ∧ 0 ≤ c ∧ Pos ms ∧ SH [pst, q] H H' ((sl, .lst (rs.map V.ref)) :: (pst, stG q c s n x y z) :: (q, .lst (ms.map V.int)) :: Lx)) (by omega) (by omega) ⟨[], [], [], _, _, _, _, _, _, _, _, _, _, rfl, rfl, .nil, no_mem, hc1, hms1, hS⟩ ?_ ?_
  · clear hS hc hms
    rintro j σ H2 hj ⟨rs, shs, Lx, c, s, n, ms, v3, v4, v5, v6, v7, v8, rfl, hrl, hsc, hok, hc, hms, hS⟩
    have hrl2 : (rs.map V.ref).length = j := by rw [List.length_map]; exact hrl
    repeat' walk_at "st"
    · obtain ⟨hrow, hmem⟩ := hsc.get (k := r.toNat) (fun c hc => hS.hs c (List.mem_append_right [_, _, _] hc)) (by omega)
      obtain ⟨hok1, hle⟩ := hok _ hmem
      have hl0 := hok1.l0
      repeat' walk_at "st"
      · obtain ⟨Lx', hsc', z'⟩ := sh_step hS hsc
        exact ⟨_, _, Lx', c1, s1, n1, ms1, _, _, _, _, _, _, rfl, by rw [List.length_append, hrl]; rfl, hsc', snoc_ok hok (ok_mk (by omega) (by omega) (by omega) (by omega) (by omega) (by omega) (by omega) (by omega) (by omega) (by omega) (by omega) (by omega) (by omega)) (by show _ + 1 + 1 ≤ _; omega), hc1, hms1, z'⟩
      · obtain ⟨Lx', hsc', z'⟩ := sh_step hS hsc
        exact ⟨_, _, Lx', c1, s1, n1, ms1, _, _, _, _, _, _, rfl, by rw [List.length_append, hrl]; rfl, hsc', snoc_ok hok (ok_mk (by omega) (by omega) (by omega) (by omega) (by omega) (by omega) (by omega) (by omega) (by omega) (by omega) (by omega) (by omega) (by omega)) (by show _ + 1 + 1 ≤ _; omega), hc1, hms1, z'⟩
    · obtain ⟨Lx', hsc', z'⟩ := sh_step hS hsc
      exact ⟨_, _, Lx', c1, s1, n1, ms1, _, _, _, _, _, _, rfl, by rw [List.length_append, hrl]; rfl, hsc', snoc_ok hok (ok_mk (by omega) (by omega) (by omega) (by omega) (by omega) (by omega) (by omega) (by omega) (by omega) (by omega) (by omega) (by omega) (by omega)) (by show (0 : Int) + 1 ≤ _; omega), hc1, hms1, z'⟩
    · obtain ⟨Lx', hsc', z'⟩ := sh_step hS hsc
      exact ⟨_, _, Lx', c1, s1, n1, ms1, _, _, _, _, _, _, rfl, by rw [List.length_append, hrl]; rfl, hsc', snoc_ok hok (ok_mk (by omega) (by omega) (by omega) (by omega) (by omega) (by omega) (by omega) (by omega) (by omega) (by omega) (by omega) (by omega) (by omega)) (by show (0 : Int) + 1 ≤ _; omega), hc1, hms1, z'⟩
  · rintro σ H2 ⟨rs, shs, Lx, c1, s1, n1, ms1, v3, v4, v5, v6, v7, v8, rfl, hrl, hsc, hok, hc1, hms1, hS⟩
    repeat' walk_at "st"
    have hlen : shs.length = T := by rw [← hsc.1, hrl]; omega
    refine k sl rs shs _ _ _ _ H2 ⟨hS.get 0 rfl, fun z => ?_, hsc.1, fun i r s a b => ?_, fun s hs => by rw [hlen]; exact (hok s hs).1, by omega, by omega⟩ hc1 hms1 hS.kp (hS.get 1 rfl) (hS.get 2 rfl)
    · rcases List.mem_cons.mp z with e | z
      · exact hS.ne (i := 1) (j := 0) rfl rfl (by decide) e
      · exact hS.ne (i := 2) (j := 0) rfl rfl (by decide) (List.mem_singleton.mp z)
    · have hm := hsc.2 i r s a b
      refine ⟨hS.hs (r, _) (List.mem_append_right [_, _, _] hm), fun z => ?_⟩
      obtain ⟨m, hm2⟩ := List.getElem?_of_mem hm
      rcases List.mem_cons.mp z with e | z
      · exact hS.ne (i := 1) (j := m + 3) rfl hm2 (by omega) e
      · exact hS.ne (i := 2) (j := m + 3) rfl hm2 (by omega) (List.mem_singleton.mp z)
  )) only [↓Hsh.on])
end
def sp_z_place (K : PySem.W.Frag) : Sp := mk1 fun a H Q _ => ∃ (p q : Addr) (c s n x y z : Int), a = .ref p ∧ H p = some (stG q c s n x y z) ∧ ∀ (t : Addr) (u v x' : Int) H', H t = none → H' t = some (.tup [.int u, .int v]) → Keep [p] H H' → H' p = some (stG q c s n x' y z) → Q (.ref t) H'
theorem ok_z_place {P : Program} {w : World} {K : PySem.W.Frag} {mg : Str → Option Value} {base : Heap} (Y : Env w K mg)  : CallOk P w K mg base CX0 1 "_law_place" ["_law_state"] (sp_z_place K) := Hsh.un (by simp (disch := k_dflt (
  refine Hsh.up ?_
  obtain ⟨fd, F⟩ := Y.fd_z_place
  refine ⟨_, fd, Y.mg_z_place, F.kp, F.bindsN (fun _ _ _ _ _ _ us hl => match us, hl with | [_], _ => rfl), F.ok sc_z_place mk1_len (fun cdv A outer s H vs Q E hr h => ?_)⟩
  have hu := hu_room hr
  obtain ⟨_, rfl, pst, q, c, s, n, x, y, z, rfl, hp, k⟩ := h
  have hS : SH [pst] H H [(pst, stG q c s n x y z)] := SH.start1 hp
  refine ⟨_, PSs.nox (pss_cons (ps_asg (pe_op xAdd (pe_ix xIx (pv 0) pe_int (fun _ _ => rfl)) pe_int) (pg_sub (pv 0) pe_int set_list))
  (pss_one (ps_ret (pe_tup (pa_cons (pe_op xAdd (pe_ix xIx (pv 0) pe_int (fun _ _ => rfl)) (pe_op xDiv (pe_ix xIx (pv 0) pe_int (fun _ _ => rfl)) pe_int)) (pa_cons (pe_op xAdd pe_int (pe_op xMod (pe_callTy x_int rfl Y.z_int (by decide +kernel) (pa_cons (pe_op xAdd (pe_ix xIx (pv 0) pe_int (fun _ _ => rfl)) (pe_op xMul (pe_ix xIx (pv 0) pe_int (fun _ _ => rfl)) pe_int)) pa_nil)) pe_int)) pa_nil)))))), ?_⟩
  rw [st_z_place]
  try simp only [cxK, cxK2, cxW, cxW2]
  clear hu hr F
  repeat' walk_at "st"
  exact k _ _ _ _ _ (hS.fr1 0 1 rfl rfl (by decide)) (hS.get 0 rfl) hS.kp (hS.get 1 rfl)
  )) only [↓Hsh.on])
theorem c_z_place {K : PySem.W.Frag} {A : List Addr} {H0 H : Hp} {L : List Cell} {p q : Addr} {c s n x y z : Int} {Q : VK} {E : XK} {i : Nat} (hS : SH A H0 H L) (e : L[i]? = some (p, stG q c s n x y z))
    (k : ∀ (t : Addr) (u v x' : Int) H', SH A H0 H' ((t, .tup [.int u, .int v]) :: L.set i (p, stG q c s n x' y z)) → Q (.ref t) H') : sp_z_place K ([.ref p] ++ []) H Q E :=
  ⟨_, rfl, p, q, c, s, n, x, y, z, rfl, hS.get i e, fun t u v x' H' a b kp f => k t u v x' H' (hS.call1n i e rfl kp f a b)⟩
def UnE (K : PySem.W.Frag) (H : Hp) (u : Addr) : Prop := ∃ w cs gs ds, UnA K H u w cs gs ds
/-- the law's draws stand apart from the module -/
structure StM (H : Hp) (p q : Addr) (y z : Int) (mo : Addr) (uns : List Addr) : Prop where
  ex : ∃ (c s n x : Int) (ms : List Int), Blk H (GC p q ms c s n x y z) ∧ 0 ≤ c ∧ Pos ms
  nu : ∀ u ∈ uns, u ∉ [p, q]
  nm : mo ∉ [p, q]
def sp_z_module (K : PySem.W.Frag) : Sp := mk1 fun a H Q _ => ∃ (p q : Addr) (ns : List Int) (c s n x y z : Int), a = .ref p ∧ Blk H (GC p q ns c s n x y z) ∧ Pos ns ∧ 0 ≤ c ∧
  ∀ (mo dx us nm pl : Addr) (uns : List Addr) H', H' mo = some (moO K dx us nm pl) → SqT K H' us (uns.map V.ref) → uns.length ≤ 4 → (∀ u ∈ uns, UnE K H' u) → Keep [p, q] H H' → StM H' p q y z mo uns → Q (.ref mo) H'
theorem ok_z_module {P : Program} {w : World} {K : PySem.W.Frag} {mg : Str → Option Value} {base : Heap} (Y : Env w K mg) (G_Module_init__ : MakeOk P w K mg base CX0 1 "Module" ["self", "units", "names", "places"] (sp_Module_init__ K)) (G_z_place : CallOk P w K mg base CX0 1 "_law_place" ["_law_state"] (sp_z_place K)) (G_z_shapes : CallOk P w K mg base CX0 2 "_law_shapes" ["_law_state"] (sp_z_shapes K)) (G_z_unit : CallOk P w K mg base CX0 5 "_law_unit" ["_law_state", "_law_shapes_here", "_law_number"] (sp_z_unit K)) : CallOk P w K mg base CX0 6 "_law_module" ["_law_state"] (sp_z_module K) := Hsh.un (by simp (disch := k_dflt (
  refine Hsh.up ?_
  obtain ⟨fd, F⟩ := Y.fd_z_module
  refine ⟨_, fd, Y.mg_z_module, F.kp, F.bindsN (fun _ _ _ _ _ _ us hl => match us, hl with | [_], _ => rfl), F.ok sc_z_module mk1_len (fun cdv A outer s H vs Q E hr h => ?_)⟩
  have hu := hu_room hr
  obtain ⟨_, rfl, pst, q, ns, c, s, n, x, y, z, rfl, hB, hp, hc, k⟩ := h
  have hS : SH [pst, q] H H (GC pst q ns c s n x y z) := hB.sh
  refine ⟨_, PSs.nox (pss_cons (ps_set (i := 1) sc_z_module.nd rfl (Or.inr rfl) (pe_callG G_z_shapes (hr.mono (by decide)) rfl pass0 (pa_cons (pv 0) pa_nil)))
  (pss_cons (ps_setLc (i := 3) (own := [("_law_number", 2)]) (g := gName 2) rfl sc_z_module.nd rfl rfl (sw_true rfl rfl rfl (by decide +kernel)) (pi_range1 rfl Y.z_range (pa_cons (pe_callB x_len rfl Y.z_len (by decide +kernel) (pa_cons (pv 1) pa_nil)) pa_nil)) (blkOk_by (N := N_z_module) (sc := defScope s_z_module) (by decide +kernel)) (fun _ _ _ _ _ => pg_name (i := 2) sc_z_module.nd rfl (Or.inl rfl)) (fun _ _ _ _ _ => pts_nil) (fun _ _ _ _ _ => (pe_callG G_z_unit hr rfl pass0 (pa_cons (pv 0) (pa_cons (pv 1) (pa_cons (pv 2) pa_nil))))))
  (pss_cons (ps_set (i := 4) sc_z_module.nd rfl (Or.inl rfl) (pe_tup (pa_cons pe_str (pa_cons pe_str (pa_cons pe_str (pa_cons pe_str (pa_cons pe_str pa_nil)))))))
  (pss_cons (ps_set (i := 6) sc_z_module.nd rfl (Or.inl rfl) (pe_callTy x_tuple rfl Y.z_tuple (by decide +kernel) (pa_cons (pe_lc (own := [("_law_k", 5)]) (g := gName 5) rfl sc_z_module.nd (pi_range1 rfl Y.z_range (pa_cons pe_int pa_nil)) (blkOk_by (N := N_z_module) (sc := defScope s_z_module) (by decide +kernel)) (fun _ _ _ _ _ => pg_name (i := 5) sc_z_module.nd rfl (Or.inl rfl)) (fun _ _ _ _ _ => pts_nil) (fun _ _ _ _ _ => (pe_callG G_z_place (hr.mono (by decide)) rfl pass0 (pa_cons (pv 0) pa_nil)))) pa_nil)))
  (pss_one (ps_ret (pe_makeG G_Module_init__ (hr.mono (by decide)) rfl pass0 (pa_cons (pe_callTy x_tuple rfl Y.z_tuple (by decide +kernel) (pa_cons (pv 3) pa_nil)) (pa_cons (pv 4) (pa_cons (pv 6) pa_nil)))))))))), ?_⟩
  rw [st_z_module]
  try simp only [cxK, cxK2, cxW, cxW2]
  clear hu hr F
  repeat' walk_at "st"
  refine ⟨_, rfl, pst, q, ns, c, s, n, x, y, z, rfl, hS.blk, hp, hc, fun sl rs shs c s n ms H1 hsl hc hms kp1 e1 e2 => ?_⟩
  have hS := hS.call2 0 1 rfl rfl rfl rfl kp1 e1 e2
  have hS : SH [pst, q] H1 H1 (GC pst q ms c s n x y z) := hS.blk.sh
  have hrsl : (rs.map V.ref).length = shs.length := by rw [List.length_map, hsl.len]
  have hn4 := hsl.n4
  clear hB e1 e2 hp
  repeat' walk_at "st"
  refine s_lenL (SqL.of (hsl.keep hS.kp).l) ?_
  repeat' walk_at "st"
  refine u_lcR1 hS (fun D k H' => ∃ (uns : List Addr) (Lx : List Cell) (c s n : Int) (ms : List Int), uns.length = k ∧ (∀ u ∈ uns, u ∈ Lx.map (·.1) ∧ UnE K H' u) ∧ 0 ≤ c ∧ Pos ms ∧ SH [pst, q] H1 H' ([(D, .lst (uns.map V.ref)), (pst, stG q c s n x y z), (q, .lst (ms.map V.int))] ++ Lx)) (by omega) (by omega) (fun D H1 hS => ⟨[], [], _, _, _, _, rfl, no_mem, hc, hms, hS⟩) ?_ ?_
  · rintro D m H2 hm ⟨uns, Lx, c, s, n, ms, hul, hU, hc, hms, hS⟩
    have hul2 : (uns.map V.ref).length = m := by rw [List.length_map]; exact hul
    have hSb := hS
    have hnm : ∀ u ∈ Lx.map (·.1), u ∉ [D, pst, q] := fun u hu z => by
      obtain ⟨cc, hcc, rfl⟩ := List.mem_map.mp hu
      obtain ⟨i, hi⟩ := List.getElem?_of_mem hcc
      rcases List.mem_cons.mp z with e | z
      · exact hSb.ne (i := 0) (j := i + 3) rfl hi (by omega) e
      · rcases List.mem_cons.mp z with e | z
        · exact hSb.ne (i := 1) (j := i + 3) rfl hi (by omega) e
        · exact hSb.ne (i := 2) (j := i + 3) rfl hi (by omega) (List.mem_singleton.mp z)
    have hsl2 : Shs H2 [pst, q] sl rs shs := hsl.keep hS.kp
    have hS : SH [D, pst, q] H2 H2 [(D, .lst (uns.map V.ref)), (pst, stG q c s n x y z), (q, .lst (ms.map V.int))] := (hS.sub (List.sublist_append_left _ _)).blk.sh
    repeat' walk_at "st"
    refine c_z_unit hS (i := 1) (j := 2) rfl rfl (by decide) hms hc hsl2 (by omega) (by rw [hrsl] at hm; exact hm) (fun un cs gs ds c1 s1 n1 ms1 o H3 hUn kp hc1 hms1 hS => ?_)
    simp only [List.set_cons_zero, List.set_cons_succ] at hS
    have hS3 := hS
    have hun : un ∉ [D, pst, q] := fun z => by
      rcases List.mem_cons.mp z with e | z
      · exact hS3.ne (i := 1) (j := 0) rfl rfl (by decide) e
      · rcases List.mem_cons.mp z with e | z
        · exact hS3.ne (i := 2) (j := 0) rfl rfl (by decide) e
        · exact hS3.ne (i := 3) (j := 0) rfl rfl (by decide) (List.mem_singleton.mp z)
    have hS : SH [D, pst, q] H3 H3 [(D, .lst (uns.map V.ref)), (pst, stG q c1 s1 n1 x y z), (q, .lst (ms1.map V.int))] := hS.drop1.blk.sh
    repeat' walk_at "st"
    have hJ := SH.callR (F := [(un, o)]) hS3 hS
    have hJ2 := SH.call (F := Lx) hSb hJ
    refine ⟨uns ++ [un], (un, o) :: Lx, c1, s1, n1, ms1, by rw [List.length_append, hul]; rfl, fun u hu => ?_, hc1, hms1, ?_⟩
    · rcases List.mem_append.mp hu with hu | hu
      · obtain ⟨h1, w, cs, gs, ds, h2⟩ := hU u hu
        exact ⟨List.mem_cons_of_mem _ h1, w, cs, gs, ds, h2.keep hJ.kp (hnm u h1)⟩
      · rw [List.mem_singleton.mp hu]
        exact ⟨List.mem_cons_self, _, cs, gs, ds, hUn.keep hS.kp hun⟩
    · rw [List.map_append]
      exact hJ2.perm (List.perm_middle (l₁ := [_, _, _])).symm
  · rintro D H2 ⟨uns, Lx, c, s, n, ms, hul, hU, hc, hms, hS⟩
    have hSb := hS
    have hnm : ∀ u ∈ Lx.map (·.1), u ∉ [D, pst, q] := fun u hu z => by
      obtain ⟨cc, hcc, rfl⟩ := List.mem_map.mp hu
      obtain ⟨i, hi⟩ := List.getElem?_of_mem hcc
      rcases List.mem_cons.mp z with e | z
      · exact hSb.ne (i := 0) (j := i + 3) rfl hi (by omega) e
      · rcases List.mem_cons.mp z with e | z
        · exact hSb.ne (i := 1) (j := i + 3) rfl hi (by omega) e
        · exact hSb.ne (i := 2) (j := i + 3) rfl hi (by omega) (List.mem_singleton.mp z)
    have hS : SH [D, pst, q] H2 H2 [(D, .lst (uns.map V.ref)), (pst, stG q c s n x y z), (q, .lst (ms.map V.int))] := (hS.sub (List.sublist_append_left _ _)).blk.sh

    repeat' walk_at "st"
    obtain ⟨nm, enm⟩ : ∃ nm, nm = p := ⟨_, rfl⟩
    rw [← enm] at hS ⊢
    clear enm
    refine u_lcR1 hS (fun D2 k H' => ∃ (ts : List Addr) (Ly : List Cell) (x : Int), ts.length = k ∧ SH [D, pst, q] H2 H' ((D2, .lst (ts.map V.ref)) :: (nm, _) :: (D, .lst (uns.map V.ref)) :: (pst, stG q c s n x y z) :: (q, .lst (ms.map V.int)) :: Ly)) (by decide) (by decide) (fun D2 H1 hS => ⟨[], [], _, rfl, hS⟩) ?_ ?_
    · rintro D2 m H3 hm ⟨ts, Ly, x, htl, hS⟩
      have htl2 : (ts.map V.ref).length = m := by rw [List.length_map]; exact htl
      repeat' walk_at "st"
      refine c_z_place hS (i := 3) rfl (fun t u v x' H4 hS => ?_)
      simp only [List.set_cons_zero, List.set_cons_succ] at hS
      repeat' walk_at "st"
      refine ⟨ts ++ [t], (t, .tup [.int u, .int v]) :: Ly, x', by rw [List.length_append, htl]; rfl, ?_⟩
      rw [List.map_append]
      exact hS.perm (List.perm_middle (l₁ := [_, _, _, _, _])).symm
    · rintro D2 H3 ⟨ts, Ly, x, htl, hS⟩
      repeat' walk_at "st"
      refine ⟨_, _, _, _, rfl, _, dx, _, _, _, rfl, rfl, rfl, rfl, hS.get 0 rfl, fun H6 C => ⟨rfl, ?_⟩⟩
      have hS := SH.call (B := [(_, _)]) hS C
      have hJ := SH.call (F := Lx) hSb hS
      exact k _ dx _ _ _ uns H6 (hS.get 0 rfl) (SqT.of (hS.get 1 rfl)) (by omega) (fun u hu => by
        obtain ⟨h1, w, cs, gs, ds, h2⟩ := hU u hu
        exact ⟨w, cs, gs, ds, h2.keep hS.kp (hnm u h1)⟩) (kp1.trans hJ.kp) ⟨⟨_, _, _, _, _, blk2 hS (i := 6) (j := 7) rfl rfl (by decide), hc, hms⟩, fun u hu z => hnm u (hU u hu).1 (.tail _ z), fun z => by
        rcases List.mem_cons.mp z with e | z
        · exact hS.ne (i := 6) (j := 0) rfl rfl (by decide) e
        · exact hS.ne (i := 7) (j := 0) rfl rfl (by decide) (List.mem_singleton.mp z)⟩
  )) only [↓Hsh.on])

/-! ### the program's walk over one instruction -/
theorem InsR.sizes {K : PySem.W.Frag} {H : Hp} {ix : Int} {nm : Str} {p : Addr} {qs : List Addr} {os : List Opd} {ws bs : List Int} (h : InsR K H ix nm p qs os ws bs) : OpsAt K H qs os ∧ os.length ≤ 6 ∧ ws.length ≤ 6 ∧ bs.length ≤ 6 := Hsh.un (by simp (disch := k_dflt (
  refine Hsh.up ?_
  cases h with
  | tick h => exact ⟨.nil, Nat.le_of_ble_eq_true rfl, Nat.le_of_ble_eq_true rfl, Nat.le_of_ble_eq_true rfl⟩
  | jump h => exact ⟨.nil, Nat.le_of_ble_eq_true rfl, Nat.le_of_ble_eq_true rfl, Nat.le_of_ble_eq_true rfl⟩
  | branch h hx => exact ⟨.cons hx .nil, Nat.le_of_ble_eq_true rfl, Nat.le_of_ble_eq_true rfl, Nat.le_trans (srt2_le _ _) (by decide)⟩
  | ret h hv ho hl => exact ⟨ho, hl, Nat.le_of_ble_eq_true rfl, Nat.le_of_ble_eq_true rfl⟩
  | raise h => exact ⟨.nil, Nat.le_of_ble_eq_true rfl, Nat.le_of_ble_eq_true rfl, Nat.le_of_ble_eq_true rfl⟩
  | again h hx hy => exact ⟨.cons hx (.cons hy .nil), Nat.le_of_ble_eq_true rfl, Nat.le_of_ble_eq_true rfl, Nat.le_of_ble_eq_true rfl⟩
  | put h hx => exact ⟨.cons hx .nil, Nat.le_of_ble_eq_true rfl, Nat.le_of_ble_eq_true rfl, Nat.le_of_ble_eq_true rfl⟩
  | move h hx => exact ⟨.cons hx .nil, Nat.le_of_ble_eq_true rfl, Nat.le_of_ble_eq_true rfl, Nat.le_of_ble_eq_true rfl⟩
  | sign hn h hx => exact ⟨.cons hx .nil, Nat.le_of_ble_eq_true rfl, Nat.le_of_ble_eq_true rfl, Nat.le_of_ble_eq_true rfl⟩
  | rel hn h hx hy => exact ⟨.cons hx (.cons hy .nil), Nat.le_of_ble_eq_true rfl, Nat.le_of_ble_eq_true rfl, Nat.le_of_ble_eq_true rfl⟩
  | check h hx => exact ⟨.cons hx .nil, Nat.le_of_ble_eq_true rfl, Nat.le_of_ble_eq_true rfl, Nat.le_of_ble_eq_true rfl⟩
  | load h hx => exact ⟨.cons hx .nil, Nat.le_of_ble_eq_true rfl, Nat.le_of_ble_eq_true rfl, Nat.le_of_ble_eq_true rfl⟩
  | store h hx hy => exact ⟨.cons hx (.cons hy .nil), Nat.le_of_ble_eq_true rfl, Nat.le_of_ble_eq_true rfl, Nat.le_of_ble_eq_true rfl⟩
  | get h => exact ⟨.nil, Nat.le_of_ble_eq_true rfl, Nat.le_of_ble_eq_true rfl, Nat.le_of_ble_eq_true rfl⟩
  | call h hv hw ho hl hm => exact ⟨ho, hl, hm, Nat.le_of_ble_eq_true rfl⟩
  | arith hn h hx hy => exact ⟨.cons hx (.cons hy .nil), Nat.le_of_ble_eq_true rfl, Nat.le_of_ble_eq_true rfl, Nat.le_of_ble_eq_true rfl⟩
  )) only [↓Hsh.on])
section
variable {K : PySem.W.Frag} {A : List Addr} {H0 H : Hp} {L : List Cell} {p : Addr} {ix : Int} {nm : Str} {qs : List Addr} {os : List Opd} {ws bs : List Int} {Q : VK} {E : XK}
theorem c_reads (hS : SH A H0 H L) (h : InsR K H ix nm p qs os ws bs) (k : ∀ t H', SH A H0 H' L → Keep [] H H' → SqT K H' t ((rdL os).map V.int) → Q (.ref t) H') : sp_reads K ([.ref p] ++ []) H Q E :=
  ⟨_, rfl, p, ix, nm, qs, os, ws, bs, rfl, h, h.sizes.1, h.sizes.2.1, fun t H' kp hq => k t H' (hS.call0 kp) kp hq⟩
theorem c_writes (hS : SH A H0 H L) (h : InsR K H ix nm p qs os ws bs) (k : ∀ t H', SH A H0 H' L → Keep [] H H' → SqT K H' t (ws.map V.int) → Q (.ref t) H') : sp_writes K ([.ref p] ++ []) H Q E :=
  ⟨_, rfl, p, ix, nm, qs, os, ws, bs, rfl, h, fun t H' kp hq => k t H' (hS.call0 kp) kp hq⟩
theorem c_followers (hS : SH A H0 H L) (h : InsR K H ix nm p qs os ws bs) (k : ∀ t H', SH A H0 H' L → Keep [] H H' → SqT K H' t (bs.map V.int) → Q (.ref t) H') : sp_followers K ([.ref p, .int ix] ++ []) H Q E :=
  ⟨_, _, rfl, p, ix, nm, qs, os, ws, bs, rfl, rfl, h, fun t H' kp hq => k t H' (hS.call0 kp) kp hq⟩
theorem c_can_raise (h : InsR K H ix nm p qs os ws bs) (k : Q (.bl (inV (.str nm) raisers)) H) : sp_can_raise K ([.ref p] ++ []) H Q E := by
  obtain ⟨r, hr⟩ := h.head
  exact ⟨_, rfl, p, nm, r, rfl, hr, k⟩
end
structure AI where
  nm : Str
  os : List Opd
  ws : List Int
  bs : List Int
def AI0 : AI := ⟨"", [], [], []⟩
def AI.cr (a : AI) : Bool := inV (.str a.nm) raisers
theorem ai_list {P : Nat → AI → Prop} : ∀ (n : Nat) (_ : ∀ k, k < n → ∃ a, P k a), ∃ l : List AI, l.length = n ∧ ∀ k a, l[k]? = some a → P k a
  | 0, _ => ⟨[], rfl, fun k a h => nomatch h⟩
  | n + 1, h => by
    obtain ⟨l, hl, hP⟩ := ai_list n fun k hk => h k (by omega)
    obtain ⟨a, ha⟩ := h n (by omega)
    refine ⟨l ++ [a], by rw [List.length_append, hl]; rfl, fun k b hb => ?_⟩
    by_cases hk : k < n
    · rw [List.getElem?_append_left (by omega)] at hb
      exact hP k b hb
    · have := (List.getElem?_eq_some_iff.mp hb).1
      rw [List.length_append, List.length_singleton] at this
      obtain rfl : k = l.length := by omega
      rw [List.getElem?_append_right (Nat.le_refl _), Nat.sub_self] at hb
      cases hb
      rw [hl]
      exact ha
/-- a unit as the program sees it -/
structure UL (K : PySem.W.Frag) (H : Hp) (u : Addr) (R : Int) (ais : List AI) (ds : List (List Int)) : Prop where
  ex : ∃ (dx cd rg : Addr) (w : Shp) (cs gs : List Addr), H u = some (unO K dx w cd rg) ∧ w.rg = R ∧ SqT K H cd (cs.map V.ref) ∧ SqT K H rg (gs.map V.ref) ∧ cs.length = ais.length ∧ RegsR K H R ais.length gs ds ∧ gs.length ≤ 5 ∧
    ∀ (k : Nat) (l : Addr) (a : AI), cs[k]? = some l → ais[k]? = some a → ∃ qs, InsR K H k a.nm l qs a.os a.ws a.bs
  rd : ∀ a ∈ ais, ∀ n ∈ rdL a.os, 0 ≤ n ∧ n < R
  fl : ∀ a ∈ ais, ∀ b ∈ a.bs, 0 ≤ b ∧ b < ais.length
  n4 : 4 ≤ ais.length
  n64 : ais.length ≤ 64
  r3 : 3 ≤ R
  r23 : R ≤ 23
  wr : ∀ a ∈ ais, ∀ n ∈ a.ws, 0 ≤ n ∧ n < R
  wa : ∀ dx cd rg (w : Shp), H u = some (unO K dx w cd rg) → 0 ≤ w.ar ∧ w.ar ≤ R ∧ w.ar ≤ 6
theorem rdL_of {os : List Opd} {n : Int} (h : n ∈ rdL os) : ∃ o ∈ os, o.reg = true ∧ o.n = n := Hsh.un (by simp (disch := k_dflt (
  refine Hsh.up ?_
  unfold rdL at h
  obtain ⟨o, ho, rfl⟩ := List.mem_map.mp h
  obtain ⟨h1, h2⟩ := List.mem_filter.mp ho
  exact ⟨o, h1, h2, rfl⟩
  )) only [↓Hsh.on])
theorem UnA.ul {K : PySem.W.Frag} {H : Hp} {u : Addr} {w : Shp} {cs gs : List Addr} {ds : List (List Int)} (h : UnA K H u w cs gs ds) : ∃ ais, UL K H u w.rg ais ds := Hsh.un (by simp (disch := k_dflt (
  refine Hsh.up ?_
  obtain ⟨⟨dx, cd, rg, e1, e2, e3⟩, h2, h3, h4, h5, h6, h7, h8, h9, h10, h11⟩ := h
  obtain ⟨ais, hl, hP⟩ := ai_list (P := fun k a => (∀ l, cs[k]? = some l → ∃ qs, InsR K H k a.nm l qs a.os a.ws a.bs) ∧ (∀ o ∈ a.os, o.reg = true → 0 ≤ o.n ∧ o.n < w.rg) ∧ (∀ b ∈ a.bs, 0 ≤ b ∧ b < (cs.length : Int)) ∧ ∀ b ∈ a.ws, 0 ≤ b ∧ b < w.rg) cs.length (fun k hk => by
    obtain ⟨nm, qs, os, ws, bs, hI, b1, b2⟩ := h2 k _ (List.getElem?_eq_getElem hk)
    exact ⟨⟨nm, os, ws, bs⟩, fun l hl => ⟨qs, by rw [List.getElem?_eq_getElem hk] at hl; cases hl; exact hI⟩, b1, b2⟩)
  have mem : ∀ a ∈ ais, ∃ k, ais[k]? = some a := fun a ha => List.getElem?_of_mem ha
  refine ⟨ais, ⟨dx, cd, rg, w, cs, gs, e1, rfl, e2, e3, hl.symm, by rw [hl]; exact h3, h4, fun k l a a1 a2 => (hP k a a2).1 l a1⟩, fun a ha n hn => ?_, fun a ha b hb => ?_, by omega, by omega, h7, h8, fun a ha b hb => ?_, fun dx2 cd2 rg2 w2 e => ?_⟩
  · obtain ⟨k, hk⟩ := mem a ha
    obtain ⟨o, ho, hr, rfl⟩ := rdL_of hn
    exact (hP k a hk).2.1 o ho hr
  · obtain ⟨k, hk⟩ := mem a ha
    rw [hl]
    exact (hP k a hk).2.2.1 b hb
  · obtain ⟨k, hk⟩ := mem a ha
    exact (hP k a hk).2.2.2 b hb
  · have e := Option.some.inj (e1.symm.trans e)
    have e : w.ar = w2.ar := by
      injection e with _ _ e
      injection e with _ e
      injection e with e _
      injection e with _ e
      injection e
    omega
  )) only [↓Hsh.on])
theorem UL.keep {K : PySem.W.Frag} {A : List Addr} {H H' : Hp} {u : Addr} {R : Int} {ais : List AI} {ds : List (List Int)} (h : UL K H u R ais ds) (k : Keep A H H') (n : u ∉ A) : UL K H' u R ais ds := by
  obtain ⟨⟨dx, cd, rg, w, cs, gs, e1, e2, e3, e4, e5, e6, e7, e8⟩, h2, h3, h4, h5, h6, h7, h8, h9⟩ := h
  exact ⟨⟨dx, cd, rg, w, cs, gs, k.k _ _ e1 (.inl n), e2, SqT_keep e3 k, SqT_keep e4 k, e5, e6.keep k, e7, fun i l a a1 a2 => by obtain ⟨qs, hI⟩ := e8 i l a a1 a2; exact ⟨qs, hI.keep k⟩⟩, h2, h3, h4, h5, h6, h7, h8, fun dx2 cd2 rg2 w2 e => h9 dx2 cd2 rg2 w2 (e1.trans ((k.k _ _ e1 (.inl n)).symm.trans e))⟩
def hit (i : Int) (d : List Int) : Bool := decide (d.getD 0 0 ≤ i) && decide (i < d.getD 1 0)
theorem len5 {l : List Int} (h : l.length = 5) : ∃ a b c d e, l = [a, b, c, d, e] := match l, h with | [a, b, c, d, e], _ => ⟨a, b, c, d, e, rfl⟩
theorem find_at {p : List Int → Bool} : ∀ {ds : List (List Int)} {j : Nat} {d : List Int}, ds[j]? = some d → p d = true → (∀ (m : Nat) (d' : List Int), m < j → ds[m]? = some d' → p d' = false) → ds.find? p = some d
  | [], _, _, h, _, _ => nomatch h
  | b :: ds, 0, d, h, hp, _ => by cases h; exact List.find?_cons_of_pos hp
  | b :: ds, j + 1, d, h, hp, hn => by
    rw [List.find?_cons_of_neg (by rw [hn 0 b (Nat.succ_pos _) rfl]; exact Bool.false_ne_true)]
    exact find_at (j := j) h hp fun m d' hm e => hn (m + 1) d' (Nat.succ_lt_succ hm) e
theorem find_no {p : List Int → Bool} {ds : List (List Int)} (h : ∀ (m : Nat) (d' : List Int), ds[m]? = some d' → p d' = false) : ds.find? p = none := Hsh.un (by simp (disch := k_dflt (
  refine Hsh.up ?_
  rw [List.find?_eq_none]
  intro d hd
  obtain ⟨m, hm⟩ := List.getElem?_of_mem hd
  rw [h m d hm]
  exact Bool.false_ne_true
  )) only [↓Hsh.on])
def sp_region_of (K : PySem.W.Frag) : Sp := mk2 fun a b H Q _ => ∃ (u dx cd rg : Addr) (w : Shp) (gs : List Addr) (ds : List (List Int)) (R N i : Int), a = .ref u ∧ b = .int i ∧ H u = some (unO K dx w cd rg) ∧ SqT K H rg (gs.map V.ref) ∧ RegsR K H R N gs ds ∧ gs.length ≤ 5 ∧
  (∀ (m : Nat) (g : Addr) (d : List Int) H', ds.find? (hit i) = some d → gs[m]? = some g → ds[m]? = some d → Keep [] H H' → Q (.ref g) H') ∧ (∀ H', ds.find? (hit i) = none → Keep [] H H' → Q .non H')
theorem ok_region_of {P : Program} {w : World} {K : PySem.W.Frag} {mg : Str → Option Value} {base : Heap} (Y : Env w K mg)  : CallOk P w K mg base CX0 1 "region_of" ["unit", "index"] (sp_region_of K) := Hsh.un (by simp (disch := k_dflt (
  refine Hsh.up ?_
  obtain ⟨fd, F⟩ := Y.fd_region_of
  refine ⟨_, fd, Y.mg_region_of, F.kp, F.bindsN (fun _ _ _ _ _ _ us hl => match us, hl with | [_, _], _ => rfl), F.ok sc_region_of mk2_len (fun cdv A outer s H vs Q E hr h => ?_)⟩
  have hu := hu_room hr
  obtain ⟨_, _, rfl, u, dx, cd, rg, w0, gs, ds, R, N, i, rfl, rfl, hu0, ht, hrg, hl, k1, k2⟩ := h
  have hS : SH [] H H [] := SH.start0
  refine ⟨_, PSs.nox (pss_cons (ps_for PassesOwn.never rfl (pi_tup (pe_fld (pv 0) rfl)) (pg_name (i := 2) sc_region_of.nd rfl (Or.inl rfl))
  (pss_one (ps_if (pt_chain op_le op_lt (pe_ix xIx (pv 2) pe_int (fun _ _ => rfl)) (pv 1) (pe_ix xIx (pv 2) pe_int (fun _ _ => rfl))) (pss_one (ps_ret (pv 2))) pss_nil)))
  (pss_one (ps_ret pe_non))), ?_⟩
  rw [st_region_of]
  try simp only [cxK, cxK2, cxW, cxW2]
  clear hu hr F
  repeat' walk_at "st"
  refine u_forT (xs := gs.map V.ref) (fun j σ H' => ∃ v, σ = [some (.ref u), some (.int i), v] ∧ SH [] H H' [] ∧ ∀ (m : Nat) (d : List Int), m < j → ds[m]? = some d → hit i d = false) ht ⟨_, rfl, hS, fun m d hm => absurd hm (Nat.not_lt_zero _)⟩ ?_ ?_ ?_
  · rintro j σ H1 _ ⟨v, rfl, hS, _⟩
    exact SqT_keep ht hS.kp
  · rintro j x σ H1 hx ⟨v, rfl, hS, hno⟩
    rw [List.getElem?_map] at hx
    obtain ⟨g, hg, rfl⟩ := Option.map_eq_some_iff.mp hx
    obtain ⟨d, hd⟩ : ∃ d, ds[j]? = some d := ⟨_, List.getElem?_eq_getElem (by rw [← hrg.1]; exact (List.getElem?_eq_some_iff.mp hg).1)⟩
    obtain ⟨hgd, hd5, _⟩ := hrg.2 j g d hg hd
    obtain ⟨a, b, c2, e, f, rfl⟩ := len5 hd5
    have hgd2 : SqT K H1 g [.int a, .int b, .int c2, .int e, .int f] := SqT_keep hgd hS.kp
    repeat' walk_at "st"
    · have hh : hit i [a, b, c2, e, f] = true := show (decide (a ≤ i) && decide (i < b)) = true by rw [decide_eq_true (by assumption), decide_eq_true (by assumption)]; rfl
      exact k1 j g _ _ (find_at hd hh hno) hg hd hS.kp
    all_goals
      have hh : hit i [a, b, c2, e, f] = false := show (decide (a ≤ i) && decide (i < b)) = false by simp; omega
      refine ⟨_, rfl, hS, fun m d hm hd2 => ?_⟩
      by_cases q : m < j
      · exact hno m d q hd2
      · obtain rfl : m = j := by omega
        rw [hd] at hd2
        cases hd2
        exact hh
  · rintro σ H1 ⟨v, rfl, hS, hno⟩
    repeat' walk_at "st"
    refine k2 _ (find_no fun m d e => hno m d ?_ e) hS.kp
    rw [List.length_map, hrg.1]
    exact (List.getElem?_eq_some_iff.mp e).1
  )) only [↓Hsh.on])
theorem c_region_of {K : PySem.W.Frag} {A : List Addr} {H0 H : Hp} {L : List Cell} {u dx cd rg : Addr} {w : Shp} {gs : List Addr} {ds : List (List Int)} {R N i : Int} {Q : VK} {E : XK} (hS : SH A H0 H L) (hu : H u = some (unO K dx w cd rg)) (ht : SqT K H rg (gs.map V.ref)) (hr : RegsR K H R N gs ds) (hl : gs.length ≤ 5)
    (k1 : ∀ (m : Nat) (g : Addr) (d : List Int) H', ds.find? (hit i) = some d → gs[m]? = some g → ds[m]? = some d → SH A H0 H' L → Q (.ref g) H') (k2 : ∀ H', ds.find? (hit i) = none → SH A H0 H' L → Q .non H') : sp_region_of K ([.ref u, .int i] ++ []) H Q E :=
  ⟨_, _, rfl, u, dx, cd, rg, w, gs, ds, R, N, i, rfl, rfl, hu, ht, hr, hl, fun m g d H' a b c kp => k1 m g d H' a b c (hS.call0 kp), fun H' a kp => k2 H' a (hS.call0 kp)⟩
/-! ### rows that grow -/
def rCd (rs : List Addr) (RS : List (List Int)) : List Cell := List.zipWith (fun a r => (a, rowO r)) rs RS
theorem rCd_len {rs : List Addr} {RS : List (List Int)} (h : rs.length = RS.length) : (rCd rs RS).length = RS.length := by
  unfold rCd
  rw [List.length_zipWith, h, Nat.min_self]
theorem rCd_get {rs : List Addr} {RS : List (List Int)} (h : rs.length = RS.length) {k : Nat} (hk : k < RS.length) : (rCd rs RS)[k]? = some (rs.getD k 0, rowO (RS.getD k [])) := Hsh.un (by simp (disch := k_dflt (
  refine Hsh.up ?_
  unfold rCd
  rw [List.getElem?_zipWith, List.getD_eq_getElem?_getD, List.getD_eq_getElem?_getD, List.getElem?_eq_getElem (by omega), List.getElem?_eq_getElem hk]
  rfl
  )) only [↓Hsh.on])
theorem rCd_set {rs : List Addr} {RS : List (List Int)} (h : rs.length = RS.length) {k : Nat} (hk : k < RS.length) (l : List Int) : (rCd rs RS).set k (rs.getD k 0, rowO l) = rCd rs (RS.set k l) := Hsh.un (by simp (disch := k_dflt (
  refine Hsh.up ?_
  apply List.ext_getElem?
  intro j
  rw [List.getElem?_set]
  by_cases q : k = j
  · subst q
    rw [if_pos rfl, if_pos (by rw [rCd_len h]; exact hk), rCd_get (by rw [List.length_set]; exact h) (by rw [List.length_set]; exact hk)]
    rw [List.getD_eq_getElem?_getD (l := RS.set k l), List.getElem?_set_self hk]
    rfl
  · rw [if_neg q]
    unfold rCd
    rw [List.getElem?_zipWith, List.getElem?_zipWith, List.getElem?_set_ne q]
  )) only [↓Hsh.on])
theorem getD_set_ne {α : Type} {l : List α} {k j : Nat} {x d : α} (h : k ≠ j) : (l.set k x).getD j d = l.getD j d := by
  rw [List.getD_eq_getElem?_getD, List.getD_eq_getElem?_getD, List.getElem?_set_ne h]
theorem getD_set_eq {α : Type} {l : List α} {k : Nat} {x d : α} (h : k < l.length) : (l.set k x).getD k d = x := by
  rw [List.getD_eq_getElem?_getD, List.getElem?_set_self h]
  rfl
/-- what makes n live at k -/
def dueP (ais : List AI) (ds RS : List (List Int)) (k : Nat) (n : Int) : Prop :=
  n ∈ rdL (ais.getD k AI0).os ∨ (∃ f ∈ (ais.getD k AI0).bs, n ∈ RS.getD f.toNat [] ∧ n ∉ (ais.getD k AI0).ws) ∨
    ((ais.getD k AI0).cr = true ∧ ∃ d, ds.find? (hit k) = some d ∧ n ∈ RS.getD (d.getD 2 0).toNat [] ∧ n ≠ d.getD 3 0 ∧ n ≠ d.getD 4 0)
/-- the row in the making -/
def GoodN (ais : List AI) (ds RS : List (List Int)) (R : Int) (k : Nat) (cur : List Int) : Prop := ∃ new, cur = RS.getD k [] ++ new ∧ (∀ n ∈ new, dueP ais ds RS k n) ∧ cur.Nodup ∧ ∀ n ∈ cur, 0 ≤ n ∧ n < R
theorem mem_addK {r : List Int} {n m : Int} : m ∈ addK r n ↔ m ∈ r ∨ m = n := Hsh.un (by simp (disch := k_dflt (
  refine Hsh.up ?_
  unfold addK
  by_cases h : n ∈ r
  · rw [if_pos h]
    exact ⟨.inl, fun z => z.elim id fun e => e ▸ h⟩
  · rw [if_neg h, List.mem_append, List.mem_singleton]
  )) only [↓Hsh.on])
theorem GoodN.add {ais : List AI} {ds RS : List (List Int)} {R : Int} {k : Nat} {cur : List Int} {n : Int} (g : GoodN ais ds RS R k cur) (hb : 0 ≤ n ∧ n < R) (h : n ∈ cur ∨ dueP ais ds RS k n) : GoodN ais ds RS R k (addK cur n) := Hsh.un (by simp (disch := k_dflt (
  refine Hsh.up ?_
  unfold addK
  by_cases q : n ∈ cur
  · rw [if_pos q]; exact g
  · rw [if_neg q]
    obtain ⟨new, rfl, h1, h2, h3⟩ := g
    refine ⟨new ++ [n], by rw [List.append_assoc], fun m hm => ?_, ?_, fun m hm => ?_⟩
    · rcases List.mem_append.mp hm with hm | hm
      · exact h1 m hm
      · rw [List.mem_singleton.mp hm]; exact h.resolve_left q
    · rw [List.nodup_append]
      exact ⟨h2, by simp, fun a ha b hb e => q (by rw [List.mem_singleton.mp hb] at e; exact e ▸ ha)⟩
    · rcases List.mem_append.mp hm with hm | hm
      · exact h3 m hm
      · rw [List.mem_singleton.mp hm]; exact hb
  )) only [↓Hsh.on])
theorem nodup_bnd : ∀ {R : Nat} {l : List Int}, l.Nodup → (∀ n ∈ l, 0 ≤ n ∧ n < (R : Int)) → l.length ≤ R
  | 0, [], _, _ => Nat.le_refl _
  | 0, a :: l, _, hb => by have := hb a List.mem_cons_self; omega
  | R + 1, l, hn, hb => by
    have h1 := nodup_bnd (R := R) (l := l.erase (R : Int)) (hn.erase _) (fun n hm => by
      obtain ⟨h1, h2⟩ := (List.Nodup.mem_erase_iff hn).mp hm
      have := hb n h2
      omega)
    rw [List.length_erase] at h1
    split at h1 <;> omega
theorem h_rowput {A : List Addr} {H0 H : Hp} {P : Hp → Prop} {F : List Cell} {rs : List Addr} {RS : List (List Int)} {k : Nat} {cur : List Int} {n : Int} (hS : SH A H0 H (F ++ rCd rs (RS.set k cur))) (hl : rs.length = RS.length) (hk : k < RS.length) (hc : cur.length ≤ 1000)
    (h : ∀ H', SH A H0 H' (F ++ rCd rs (RS.set k (addK cur n))) → P H') : dputE (.ref (rs.getD k 0)) (.int n) (.bl true) H P := Hsh.un (by simp (disch := k_dflt (
  refine Hsh.up ?_
  have hl2 : rs.length = (RS.set k cur).length := by rw [List.length_set]; exact hl
  have hk2 : k < (RS.set k cur).length := by rw [List.length_set]; exact hk
  have e := rCd_get hl2 hk2
  rw [getD_set_eq hk] at e
  refine h_dputI hS (i := F.length + k) (r := cur) ?_ (by rw [sizeLine_eq]; omega) (fun H' hS' => h H' ?_)
  · rw [List.getElem?_append_right (by omega), show F.length + k - F.length = k by omega]
    exact e
  · rw [List.set_append_right _ _ (by omega), show F.length + k - F.length = k by omega, rCd_set hl2 hk2, List.set_set] at hS'
    exact hS'
  )) only [↓Hsh.on])

theorem inV_ints (n : Int) (l : List Int) : inV (.int n) (l.map V.int) = decide (n ∈ l) := Hsh.un (by simp (disch := k_dflt (
  refine Hsh.up ?_
  unfold inV
  rw [List.any_map]
  rw [Bool.eq_iff_iff, List.any_eq_true, decide_eq_true_eq]
  constructor
  · rintro ⟨x, hx, e⟩
    have e2 : eqV (.int x) (.int n) = true := e
    have : x = n := by simpa [eqV] using e2
    exact this ▸ hx
  · intro h
    exact ⟨n, h, by show eqV (.int n) (.int n) = true; simp [eqV]⟩
  )) only [↓Hsh.on])
theorem rCd_keys {rs : List Addr} {RS : List (List Int)} (h : rs.length = RS.length) : (rCd rs RS).map (·.1) = rs := Hsh.un (by simp (disch := k_dflt (
  refine Hsh.up ?_
  unfold rCd
  induction rs generalizing RS with
  | nil => rfl
  | cons a r ih =>
    cases RS with
    | nil => cases h
    | cons b t =>
      rw [List.zipWith_cons_cons, List.map_cons, ih (Nat.succ.inj h)]
  )) only [↓Hsh.on])
theorem SH.reK {A : List Addr} {H0 H : Hp} {rw_ : Addr} {o : HO} {rs : List Addr} {RS : List (List Int)} (hS : SH A H0 H ((rw_, o) :: rCd rs RS)) (hl : rs.length = RS.length) : SH (rw_ :: rs) H H ((rw_, o) :: rCd rs RS) := Hsh.un (by simp (disch := k_dflt (
  refine Hsh.up ?_
  have h := hS.blk.sh
  rw [List.map_cons, rCd_keys hl] at h
  exact h
  )) only [↓Hsh.on])
theorem SH.joinK {A : List Addr} {H0 H H' : Hp} {rw_ : Addr} {o : HO} {rs : List Addr} {RS : List (List Int)} {L2 : List Cell} (hS : SH A H0 H ((rw_, o) :: rCd rs RS)) (hl : rs.length = RS.length) (C : SH (rw_ :: rs) H H' L2) : SH A H0 H' L2 := Hsh.un (by simp (disch := k_dflt (
  refine Hsh.up ?_
  refine hS.callE ?_
  rw [List.map_cons, rCd_keys hl]
  exact C
  )) only [↓Hsh.on])
theorem set_getD_same {α : Type} {l : List α} {k : Nat} {d : α} (hk : k < l.length) : l.set k (l.getD k d) = l := by
  rw [List.getD_eq_getElem?_getD, List.getElem?_eq_getElem hk]
  exact List.set_getElem_self hk
theorem rowAt {A : List Addr} {H0 H : Hp} {F : List Cell} {rs : List Addr} {RS : List (List Int)} (hS : SH A H0 H (F ++ rCd rs RS)) (hl : rs.length = RS.length) {k : Nat} (hk : k < RS.length) : H (rs.getD k 0) = some (rowO (RS.getD k [])) :=
  hS.hs _ (List.mem_append_right _ (List.mem_of_getElem? (rCd_get hl hk)))
def RowsOk (R : Int) (RS : List (List Int)) : Prop := ∀ r ∈ RS, r.Nodup ∧ ∀ n ∈ r, 0 ≤ n ∧ n < R
theorem RowsOk.at {R : Int} {RS : List (List Int)} (h : RowsOk R RS) {k : Nat} : (RS.getD k []).Nodup ∧ ∀ n ∈ RS.getD k [], 0 ≤ n ∧ n < R := Hsh.un (by simp (disch := k_dflt (
  refine Hsh.up ?_
  rw [List.getD_eq_getElem?_getD]
  cases e : RS[k]? with
  | none => exact ⟨List.nodup_nil, no_mem⟩
  | some r => exact h r (List.mem_of_getElem? e)
  )) only [↓Hsh.on])
theorem GoodN.len {ais : List AI} {ds RS : List (List Int)} {R : Int} {k : Nat} {cur : List Int} (g : GoodN ais ds RS R k cur) (hR : R ≤ 23) : cur.length ≤ 23 := by
  obtain ⟨_, _, _, h2, h3⟩ := g
  exact nodup_bnd (R := 23) h2 fun n hn => ⟨(h3 n hn).1, by have := (h3 n hn).2; omega⟩
theorem GoodN.start {ais : List AI} {ds RS : List (List Int)} {R : Int} {k : Nat} (h : RowsOk R RS) : GoodN ais ds RS R k (RS.getD k []) := ⟨[], (List.append_nil _).symm, no_mem, h.at.1, h.at.2⟩
theorem GoodN.old {ais : List AI} {ds RS : List (List Int)} {R : Int} {k : Nat} {cur : List Int} (g : GoodN ais ds RS R k cur) : ∀ n ∈ RS.getD k [], n ∈ cur := fun n hn => by
  obtain ⟨new, rfl, _⟩ := g
  exact List.mem_append_left _ hn
theorem flat_ints (l : List Int) : (l.map V.int).all flatV = true := by
  rw [List.all_map, List.all_eq_true]
  exact fun _ _ => rfl
theorem items_of {RS : List (List Int)} {k f : Nat} {cur : List Int} (hk : k < RS.length) : ((RS.set k cur).getD f [] = cur ∧ f = k) ∨ (RS.set k cur).getD f [] = RS.getD f [] := Hsh.un (by simp (disch := k_dflt (
  refine Hsh.up ?_
  by_cases h : f = k
  · subst h
    exact .inl ⟨getD_set_eq hk, rfl⟩
  · exact .inr (getD_set_ne (Ne.symm h))
  )) only [↓Hsh.on])
def sp_grow (K : PySem.W.Frag) : Sp := mk3 fun a b c H Q _ => ∃ (u rw_ : Addr) (rs : List Addr) (RS : List (List Int)) (R : Int) (ais : List AI) (ds : List (List Int)) (k : Nat), a = .ref u ∧ b = .ref rw_ ∧ c = .int (k : Nat) ∧ UL K H u R ais ds ∧ u ∉ rw_ :: rs ∧ Blk H ((rw_, .lst (rs.map V.ref)) :: rCd rs RS) ∧ rs.length = RS.length ∧ RS.length = ais.length ∧ k < RS.length ∧ RowsOk R RS ∧
  ∀ cur H', SH (rw_ :: rs) H H' ((rw_, .lst (rs.map V.ref)) :: rCd rs (RS.set k cur)) → GoodN ais ds RS R k cur → (∀ n, dueP ais ds RS k n → n ∈ cur) → Q (.bl (decide ((((RS.getD k []).length : Nat) : Int) < ((cur.length : Nat) : Int)))) H'
section
 local macro_rules | `(tactic| walk_at "hp") => `(tactic| exact hS.kp.k _ _ huu (.inl hun))
 local macro_rules | `(tactic| walk_at "st") => `(tactic| first
  | (with_reducible refine s_dput ?_)
  | fail)
theorem ok_grow {P : Program} {w : World} {K : PySem.W.Frag} {mg : Str → Option Value} {base : Heap} (Y : Env w K mg) (G_can_raise : CallOk P w K mg base CX0 1 "can_raise" ["instruction"] (sp_can_raise K)) (G_followers : CallOk P w K mg base CX0 1 "followers" ["instruction", "index"] (sp_followers K)) (G_reads : CallOk P w K mg base CX0 2 "reads" ["instruction"] (sp_reads K)) (G_region_of : CallOk P w K mg base CX0 1 "region_of" ["unit", "index"] (sp_region_of K)) (G_writes : CallOk P w K mg base CX0 1 "writes" ["instruction"] (sp_writes K)) : CallOk P w K mg base CX0 3 "grow" ["unit", "rows", "index"] (sp_grow K) := Hsh.un (by simp (disch := k_dflt (
  refine Hsh.up ?_
  obtain ⟨fd, F⟩ := Y.fd_grow
  refine ⟨_, fd, Y.mg_grow, F.kp, F.bindsN (fun _ _ _ _ _ _ us hl => match us, hl with | [_, _, _], _ => rfl), F.ok sc_grow mk3_len (fun cdv A outer s H vs Q E hr h => ?_)⟩
  have hu := hu_room hr
  obtain ⟨_, _, _, rfl, u, rw_, rs, RS, R, ais, ds, k, rfl, rfl, rfl, hUL, hun, hB, hl, hlr, hk, hok, kk⟩ := h
  have hS : SH (rw_ :: rs) H H ((rw_, .lst (rs.map V.ref)) :: rCd rs RS) := by
    have h := hB.sh
    rw [List.map_cons, rCd_keys hl] at h
    exact h
  obtain ⟨⟨dx, cd, rg, w0, cs, gs, huu, ew, hcd, hrg, hcl, hregs, hg5, hins⟩, hrd, hfl, n4, n64, r3, r23, hwr, hwa⟩ := hUL
  have hka : ais[k]? = some (ais.getD k AI0) := by rw [List.getD_eq_getElem?_getD, List.getElem?_eq_getElem (by omega)]; rfl
  have hma : ais.getD k AI0 ∈ ais := List.mem_of_getElem? hka
  have hkc : cs[k]? = some (cs.getD k 0) := by rw [List.getD_eq_getElem?_getD, List.getElem?_eq_getElem (by omega)]; rfl
  obtain ⟨qs, hI⟩ := hins k _ _ hkc hka
  have hcl2 : (cs.map V.ref).length = ais.length := by rw [List.length_map, hcl]
  have hrl2 : (rs.map V.ref).length = RS.length := by rw [List.length_map, hl]
  refine ⟨_, PSs.nox (pss_cons (ps_set (i := 3) sc_grow.nd rfl (Or.inl rfl) (pe_ix xIx (pe_fld (pv 0) rfl) (pv 2) (fun _ _ => rfl)))
  (pss_cons (ps_set (i := 4) sc_grow.nd rfl (Or.inl rfl) (pe_ix xIx (pv 1) (pv 2) (fun _ _ => rfl)))
  (pss_cons (ps_set (i := 5) sc_grow.nd rfl (Or.inl rfl) (pe_callB x_lenD rfl Y.z_len (by decide +kernel) (pa_cons (pv 4) pa_nil)))
  (pss_cutG (ps_for PassesOwn.never rfl (pi_tup (pe_callG G_reads hr rfl pass0 (pa_cons (pv 3) pa_nil))) (pg_name (i := 6) sc_grow.nd rfl (Or.inl rfl))
  (pss_one (ps_dput (hu1 hu) (pv 4) (pv 6) pe_bl rfl)))
  (pss_cons (ps_set (i := 7) sc_grow.nd rfl (Or.inl rfl) (pe_callG G_writes (hr.mono (by decide)) rfl pass0 (pa_cons (pv 3) pa_nil)))
  (pss_cutG (ps_for PassesOwn.never rfl (pi_tup (pe_callG G_followers (hr.mono (by decide)) rfl pass0 (pa_cons (pv 3) (pa_cons (pv 2) pa_nil)))) (pg_name (i := 8) sc_grow.nd rfl (Or.inl rfl))
  (pss_one (ps_for PassesOwn.never rfl (pi_list (pe_callTy (x_listD rfl) rfl Y.z_list (by decide +kernel) (pa_cons (pe_ix xIx (pv 1) (pv 8) (fun _ _ => rfl)) pa_nil))) (pg_name (i := 6) sc_grow.nd rfl (Or.inl rfl))
  (pss_one (ps_if (pt_cmpR xNotIn (pv 6) (pv 7) rfl) (pss_one (ps_dput (hu1 hu) (pv 4) (pv 6) pe_bl rfl)) pss_nil)))))
  (pss_cutG (ps_if (pt_val (pe_callG G_can_raise (hr.mono (by decide)) rfl pass0 (pa_cons (pv 3) pa_nil))) (pss_cons (ps_set (i := 9) sc_grow.nd rfl (Or.inl rfl) (pe_callG G_region_of (hr.mono (by decide)) rfl pass0 (pa_cons (pv 0) (pa_cons (pv 2) pa_nil))))
  (pss_one (ps_if (pt_cmpR xIsNot (pv 9) pe_non (nomark _)) (pss_one (ps_for PassesOwn.never rfl (pi_list (pe_callTy (x_listD rfl) rfl Y.z_list (by decide +kernel) (pa_cons (pe_ix xIx (pv 1) (pe_ix xIx (pv 9) pe_int (fun _ _ => rfl)) (fun _ _ => rfl)) pa_nil))) (pg_name (i := 6) sc_grow.nd rfl (Or.inl rfl))
  (pss_one (ps_if (PW.pt (pw_and (pt_cmpR (xNe hu) (pv 6) (pe_ix xIx (pv 9) pe_int (fun _ _ => rfl)) (nomark _)) (pw_and1 (pt_cmpR (xNe hu) (pv 6) (pe_ix xIx (pv 9) pe_int (fun _ _ => rfl)) (nomark _))))) (pss_one (ps_dput (hu1 hu) (pv 4) (pv 6) pe_bl rfl)) pss_nil)))) pss_nil))) pss_nil)
  (pss_one (ps_ret (pe_cmpR op_gt (pe_callB x_lenD rfl Y.z_len (by decide +kernel) (pa_cons (pv 4) pa_nil)) (pv 5) (nomark _))))))))))), ?_⟩
  rw [st_grow]
  try simp only [cxK, cxK2, cxW, cxW2]
  clear hu hr F
  repeat' walk_at "st"
  refine s_lenRow (rowAt (F := [_]) hS hl hk) ?_
  repeat' walk_at "st"
  refine s_cutG (fun σ H' => ∃ (v6 : Option V) (cur : List Int), σ = [some (.ref u), some (.ref rw_), some (.int (k : Nat)), some (.ref (cs.getD k 0)), some (.ref (rs.getD k 0)), some (.int ((RS.getD k []).length : Nat)), v6, none, none, none] ∧ SH (rw_ :: rs) H H' ((rw_, .lst (rs.map V.ref)) :: rCd rs (RS.set k cur)) ∧ GoodN ais ds RS R k cur ∧ ∀ n ∈ rdL (ais.getD k AI0).os, n ∈ cur) ?_ ?_
  · repeat' walk_at "st"
    refine c_reads hS hI (fun t H1 hS0 kp ht => ?_)
    have hS : SH (rw_ :: rs) H1 H1 ((rw_, .lst (rs.map V.ref)) :: rCd rs RS) := SH.reK hS0 hl
    repeat' walk_at "st"
    refine u_forT (xs := (rdL (ais.getD k AI0).os).map V.int) (fun i σ H' => ∃ (v6 : Option V) (cur : List Int), σ = [some (.ref u), some (.ref rw_), some (.int (k : Nat)), some (.ref (cs.getD k 0)), some (.ref (rs.getD k 0)), some (.int ((RS.getD k []).length : Nat)), v6, none, none, none] ∧ SH (rw_ :: rs) H1 H' ((rw_, .lst (rs.map V.ref)) :: rCd rs (RS.set k cur)) ∧ GoodN ais ds RS R k cur ∧ ∀ n ∈ (rdL (ais.getD k AI0).os).take i, n ∈ cur) ht ⟨_, RS.getD k [], rfl, by rw [set_getD_same hk]; exact hS, GoodN.start hok, by rw [List.take_zero]; exact no_mem⟩ ?_ ?_ ?_
    · rintro i σ H2 _ ⟨v6, cur, rfl, hS, _⟩
      exact SqT_keep ht hS.kp
    · rintro i x σ H2 hx ⟨v6, cur, rfl, hS, hg, hC⟩
      rw [List.getElem?_map] at hx
      obtain ⟨n, hn, rfl⟩ := Option.map_eq_some_iff.mp hx
      have hb := hrd _ hma n (List.mem_of_getElem? hn)
      repeat' walk_at "st"
      refine h_rowput (F := [_]) hS hl hk (by have := hg.len r23; omega) (fun H3 hS => ?_)
      refine ⟨_, addK cur n, rfl, hS, hg.add hb (.inr (.inl (List.mem_of_getElem? hn))), fun m hm => ?_⟩
      rw [List.take_add_one, hn] at hm
      rcases List.mem_append.mp hm with hm | hm
      · exact mem_addK.mpr (.inl (hC m hm))
      · exact mem_addK.mpr (.inr (List.mem_singleton.mp hm))
    · rintro σ H2 ⟨v6, cur, rfl, hS, hg, hC⟩
      refine ⟨v6, cur, rfl, SH.joinK hS0 hl hS, hg, ?_⟩
      rw [List.length_map, List.take_length] at hC
      exact hC
  clear hS hB
  rintro σ H1 ⟨v6, cur0, rfl, hS, hg, hC1⟩
  have hls : ∀ c, rs.length = (RS.set k c).length := fun c => by rw [List.length_set]; exact hl
  repeat' walk_at "st"
  refine c_writes hS (hI.keep hS.kp) (fun tw H2 hS0 kp htw => ?_)
  have hI2 := hI.keep hS0.kp
  have huu := hS0.kp.k _ _ huu (.inl hun)
  have hcd := SqT_keep hcd hS0.kp
  have hrg := SqT_keep hrg hS0.kp
  have hregs := hregs.keep hS0.kp
  have hS : SH (rw_ :: rs) H2 H2 ((rw_, .lst (rs.map V.ref)) :: rCd rs (RS.set k cur0)) := SH.reK hS0 (hls _)
  repeat' walk_at "st"
  refine s_cutG (fun σ H' => ∃ (v6 v8 : Option V) (cur : List Int), σ = [some (.ref u), some (.ref rw_), some (.int (k : Nat)), some (.ref (cs.getD k 0)), some (.ref (rs.getD k 0)), some (.int ((RS.getD k []).length : Nat)), v6, some (.ref tw), v8, none] ∧ SH (rw_ :: rs) H2 H' ((rw_, .lst (rs.map V.ref)) :: rCd rs (RS.set k cur)) ∧ GoodN ais ds RS R k cur ∧ (∀ n ∈ rdL (ais.getD k AI0).os, n ∈ cur) ∧ ∀ f ∈ (ais.getD k AI0).bs, ∀ n ∈ RS.getD f.toNat [], n ∉ (ais.getD k AI0).ws → n ∈ cur) ?_ ?_
  · repeat' walk_at "st"
    refine c_followers hS (hI2.keep hS.kp) (fun t H3 hS1 kp2 ht => ?_)
    have htw := SqT_keep htw hS1.kp
    have hS : SH (rw_ :: rs) H3 H3 ((rw_, .lst (rs.map V.ref)) :: rCd rs (RS.set k cur0)) := SH.reK hS1 (hls _)
    repeat' walk_at "st"
    refine u_forT (xs := (ais.getD k AI0).bs.map V.int) (fun i σ H' => ∃ (v6 v8 : Option V) (cur : List Int), σ = [some (.ref u), some (.ref rw_), some (.int (k : Nat)), some (.ref (cs.getD k 0)), some (.ref (rs.getD k 0)), some (.int ((RS.getD k []).length : Nat)), v6, some (.ref tw), v8, none] ∧ SH (rw_ :: rs) H3 H' ((rw_, .lst (rs.map V.ref)) :: rCd rs (RS.set k cur)) ∧ GoodN ais ds RS R k cur ∧ (∀ n ∈ rdL (ais.getD k AI0).os, n ∈ cur) ∧ ∀ f ∈ (ais.getD k AI0).bs.take i, ∀ n ∈ RS.getD f.toNat [], n ∉ (ais.getD k AI0).ws → n ∈ cur) ht ⟨_, _, cur0, rfl, hS, hg, hC1, by rw [List.take_zero]; exact no_mem⟩ ?_ ?_ ?_
    · rintro i σ H4 _ ⟨v6, v8, cur, rfl, hS, _⟩
      exact SqT_keep ht hS.kp
    · clear hS hg hC1
      rintro i x σ H4 hx ⟨v6, v8, cur, rfl, hS, hg, hC1, hC2⟩
      rw [List.getElem?_map] at hx
      obtain ⟨f, hf, rfl⟩ := Option.map_eq_some_iff.mp hx
      obtain ⟨hf0, hf1⟩ := hfl _ hma f (List.mem_of_getElem? hf)
      have hfm : f ∈ (ais.getD k AI0).bs := List.mem_of_getElem? hf
      have hfn : f.toNat < RS.length := by omega
      repeat' walk_at "st"
      refine s_listRow (rowAt (F := [_]) hS (hls _) (k := f.toNat) (by rw [List.length_set]; exact hfn)) ?_
      repeat' walk_at "st"
      obtain ⟨lst, el⟩ : ∃ lst, lst = p := ⟨_, rfl⟩
      rw [← el] at hS ⊢
      clear el
      have hit := items_of (f := f.toNat) (cur := cur) hk
      generalize (RS.set k cur).getD f.toNat [] = items at hS hit
      have hin : ∀ n ∈ items, (0 ≤ n ∧ n < R) ∧ (n ∈ cur ∨ n ∈ RS.getD f.toNat []) := fun n hn => by
        rcases hit with ⟨e, _⟩ | e
        · rw [e] at hn
          obtain ⟨_, _, _, _, hb⟩ := hg
          exact ⟨hb n hn, .inl hn⟩
        · rw [e] at hn
          exact ⟨hok.at.2 n hn, .inr hn⟩
      refine u_forL (xs := items.map V.int) (fun j σ H' => ∃ (v6 : Option V) (cur2 : List Int), σ = [some (.ref u), some (.ref rw_), some (.int (k : Nat)), some (.ref (cs.getD k 0)), some (.ref (rs.getD k 0)), some (.int ((RS.getD k []).length : Nat)), v6, some (.ref tw), some (.int f), none] ∧ SH (rw_ :: rs) H3 H' ((lst, .lst (items.map V.int)) :: (rw_, .lst (rs.map V.ref)) :: rCd rs (RS.set k cur2)) ∧ GoodN ais ds RS R k cur2 ∧ (∀ m ∈ cur, m ∈ cur2) ∧ ∀ n ∈ items.take j, n ∉ (ais.getD k AI0).ws → n ∈ cur2) (SqL.of (hS.get 0 rfl)) ⟨_, cur, rfl, hS, hg, fun _ h => h, by rw [List.take_zero]; exact no_mem⟩ ?_ ?_ ?_
      · rintro j σ H5 _ ⟨v6, cur2, rfl, hS, _⟩
        exact SqL.of (hS.get 0 rfl)
      · clear hS
        rintro j x σ H5 hx ⟨v6, cur2, rfl, hS, hg2, hsub, hC⟩
        rw [List.getElem?_map] at hx
        obtain ⟨n, hn, rfl⟩ := Option.map_eq_some_iff.mp hx
        obtain ⟨hb, hor⟩ := hin n (List.mem_of_getElem? hn)
        repeat' walk_at "st"
        refine s_niT0 (SqT_keep htw hS.kp) rfl (flat_ints _) ⟨_, rfl, ?_⟩
        rw [inV_ints]
        refine i_not (i_dec (fun hw => ?_) (fun hw => ?_))
        · repeat' walk_at "st"
          refine ⟨_, cur2, rfl, hS, hg2, hsub, fun m hm hmw => ?_⟩
          rw [List.take_add_one, hn] at hm
          rcases List.mem_append.mp hm with hm | hm
          · exact hC m hm hmw
          · rw [List.mem_singleton.mp hm] at hmw; exact absurd hw hmw
        · repeat' walk_at "st"
          refine h_rowput (F := [_, _]) hS hl hk (by have := hg2.len r23; omega) (fun H6 hS => ?_)
          refine ⟨_, addK cur2 n, rfl, hS, hg2.add hb (hor.imp (hsub n) fun h => .inr (.inl ⟨f, hfm, h, hw⟩)), fun m hm => mem_addK.mpr (.inl (hsub m hm)), fun m hm hmw => ?_⟩
          rw [List.take_add_one, hn] at hm
          rcases List.mem_append.mp hm with hm | hm
          · exact mem_addK.mpr (.inl (hC m hm hmw))
          · exact mem_addK.mpr (.inr (List.mem_singleton.mp hm))
      · rintro σ H5 ⟨v6, cur2, rfl, hS, hg2, hsub, hC⟩
        refine ⟨_, _, cur2, rfl, hS.drop1, hg2, fun n hn => hsub n (hC1 n hn), fun g hg3 n hn hnw => ?_⟩
        rw [List.length_map, List.take_length] at hC
        rw [List.take_add_one, hf] at hg3
        rcases List.mem_append.mp hg3 with hg3 | hg3
        · exact hsub n (hC2 g hg3 n hn hnw)
        · rw [List.mem_singleton.mp hg3] at hn
          rcases hit with ⟨_, e⟩ | e
          · rw [e] at hn
            exact hg2.old n hn
          · rw [← e] at hn
            exact hC n hn hnw
    · rintro σ H4 ⟨v6, v8, cur, rfl, hS, hg, hC1, hC2⟩
      refine ⟨v6, v8, cur, rfl, SH.joinK hS1 (hls _) hS, hg, hC1, ?_⟩
      rw [List.length_map, List.take_length] at hC2
      exact hC2
  clear hS hg hC1
  rintro σ H3 ⟨v6, v8, cur0, rfl, hS, hg, hC1, hC2⟩
  refine s_cutG (fun σ H' => ∃ (v6 v8 v9 : Option V) (cur : List Int), σ = [some (.ref u), some (.ref rw_), some (.int (k : Nat)), some (.ref (cs.getD k 0)), some (.ref (rs.getD k 0)), some (.int ((RS.getD k []).length : Nat)), v6, some (.ref tw), v8, v9] ∧ SH (rw_ :: rs) H2 H' ((rw_, .lst (rs.map V.ref)) :: rCd rs (RS.set k cur)) ∧ GoodN ais ds RS R k cur ∧ (∀ n ∈ cur0, n ∈ cur) ∧ ((ais.getD k AI0).cr = true → ∀ d, ds.find? (hit k) = some d → ∀ n ∈ RS.getD (d.getD 2 0).toNat [], n ≠ d.getD 3 0 → n ≠ d.getD 4 0 → n ∈ cur)) ?_ ?_
  · repeat' walk_at "st"
    refine c_can_raise (hI2.keep hS.kp) ⟨_, rfl, ?_⟩
    refine i_gen (fun hcr => ?_) (fun hcr => ?_)
    · repeat' walk_at "st"
      refine c_region_of hS (hS.kp.k _ _ huu (.inl hun)) (SqT_keep hrg hS.kp) (hregs.keep hS.kp) hg5 (fun m g d H4 hfd hgm hdm hS => ?_) (fun H4 hfd hS => ?_)
      · obtain ⟨hgq, hd5, d20, d21, _⟩ := hregs.2 m g d hgm hdm
        have hd5 : (d.map V.int).length = 5 := by rw [List.length_map]; exact hd5
        have hfn : (d.getD 2 0).toNat < RS.length := by omega
        have d20' : 0 ≤ d.getD (Int.toNat 2) 0 := d20
        have d21' : d.getD (Int.toNat 2) 0 < RS.length := by show d.getD 2 0 < _; omega
        repeat' walk_at "st"
        refine s_listRow (rowAt (F := [_]) hS (hls _) (k := (d.getD 2 0).toNat) (by rw [List.length_set]; exact hfn)) ?_
        repeat' walk_at "st"
        obtain ⟨lst, el⟩ : ∃ lst, lst = p := ⟨_, rfl⟩
        rw [← el] at hS ⊢
        clear el
        have hit := items_of (f := (d.getD 2 0).toNat) (cur := cur0) hk
        generalize (RS.set k cur0).getD (d.getD 2 0).toNat [] = items at hS hit
        have hin : ∀ n ∈ items, (0 ≤ n ∧ n < R) ∧ (n ∈ cur0 ∨ n ∈ RS.getD (d.getD 2 0).toNat []) := fun n hn => by
          rcases hit with ⟨e, _⟩ | e
          · rw [e] at hn
            obtain ⟨_, _, _, _, hb⟩ := hg
            exact ⟨hb n hn, .inl hn⟩
          · rw [e] at hn
            exact ⟨hok.at.2 n hn, .inr hn⟩
        refine u_forL (xs := items.map V.int) (fun j σ H' => ∃ (v6 : Option V) (cur2 : List Int), σ = [some (.ref u), some (.ref rw_), some (.int (k : Nat)), some (.ref (cs.getD k 0)), some (.ref (rs.getD k 0)), some (.int ((RS.getD k []).length : Nat)), v6, some (.ref tw), v8, some (.ref g)] ∧ SH (rw_ :: rs) H2 H' ((lst, .lst (items.map V.int)) :: (rw_, .lst (rs.map V.ref)) :: rCd rs (RS.set k cur2)) ∧ GoodN ais ds RS R k cur2 ∧ (∀ m ∈ cur0, m ∈ cur2) ∧ ∀ n ∈ items.take j, n ≠ d.getD 3 0 → n ≠ d.getD 4 0 → n ∈ cur2) (SqL.of (hS.get 0 rfl)) ⟨_, cur0, rfl, hS, hg, fun _ h => h, by rw [List.take_zero]; exact no_mem⟩ ?_ ?_ ?_
        · rintro j σ H5 _ ⟨v6, cur2, rfl, hS, _⟩
          exact SqL.of (hS.get 0 rfl)
        · clear hS
          rintro j x σ H5 hx ⟨v6, cur2, rfl, hS, hg2, hsub, hC⟩
          rw [List.getElem?_map] at hx
          obtain ⟨n, hn, rfl⟩ := Option.map_eq_some_iff.mp hx
          obtain ⟨hb, hor⟩ := hin n (List.mem_of_getElem? hn)
          repeat' walk_at "st"
          · refine ⟨_, cur2, rfl, hS, hg2, hsub, fun m hm h3 h4 => ?_⟩
            rw [List.take_add_one, hn] at hm
            rcases List.mem_append.mp hm with hm | hm
            · exact hC m hm h3 h4
            · rw [List.mem_singleton.mp hm] at h3; exact absurd (by assumption) h3
          · refine ⟨_, cur2, rfl, hS, hg2, hsub, fun m hm h3 h4 => ?_⟩
            rw [List.take_add_one, hn] at hm
            rcases List.mem_append.mp hm with hm | hm
            · exact hC m hm h3 h4
            · rw [List.mem_singleton.mp hm] at h4; exact absurd (by assumption) h4
          · refine h_rowput (F := [_, _]) hS hl hk (by have := hg2.len r23; omega) (fun H6 hS => ?_)
            refine ⟨_, addK cur2 n, rfl, hS, hg2.add hb (hor.imp (hsub n) fun h => .inr (.inr ⟨hcr, d, hfd, h, by assumption, by assumption⟩)), fun m hm => mem_addK.mpr (.inl (hsub m hm)), fun m hm h3 h4 => ?_⟩
            rw [List.take_add_one, hn] at hm
            rcases List.mem_append.mp hm with hm | hm
            · exact mem_addK.mpr (.inl (hC m hm h3 h4))
            · exact mem_addK.mpr (.inr (List.mem_singleton.mp hm))
        · rintro σ H5 ⟨v6, cur2, rfl, hS, hg2, hsub, hC⟩
          rw [List.length_map, List.take_length] at hC
          refine ⟨_, _, _, cur2, rfl, hS.drop1, hg2, hsub, fun _ d' hd' n hn h3 h4 => ?_⟩
          rw [hfd] at hd'
          cases hd'
          rcases hit with ⟨_, e⟩ | e
          · rw [e] at hn
            exact hg2.old n hn
          · rw [← e] at hn
            exact hC n hn h3 h4
      · repeat' walk_at "st"
        exact ⟨_, _, _, cur0, rfl, hS, hg, fun _ h => h, fun _ d hd => by rw [hfd] at hd; cases hd⟩
    · repeat' walk_at "st"
      exact ⟨_, _, _, cur0, rfl, hS, hg, fun _ h => h, fun h => by rw [show (ais.getD k AI0).cr = false from hcr] at h; cases h⟩
  · clear hS hg
    rintro σ H4 ⟨v6, v8, v9, cur, rfl, hS, hg, hsub, hC3⟩
    repeat' walk_at "st"
    have hrow := rowAt (F := [_]) hS (hls _) (k := k) (by rw [List.length_set]; exact hk)
    rw [getD_set_eq hk] at hrow
    refine s_lenRow hrow ?_
    repeat' walk_at "st"
    refine kk cur _ (SH.joinK hS0 (hls _) hS) hg fun n hd => ?_
    rcases hd with hd | ⟨f, hf, h1, h2⟩ | ⟨h1, d, h2, h3, h4, h5⟩
    · exact hsub n (hC1 n hd)
    · exact hsub n (hC2 f hf n h1 h2)
    · exact hC3 h1 d h2 n h3 h4 h5
  )) only [↓Hsh.on])
end

/-! ### live -/
inductive LvP (ais : List AI) (ds : List (List Int)) : Nat → Int → Prop
  | rd {k : Nat} {n : Int} (h : n ∈ rdL (ais.getD k AI0).os) : LvP ais ds k n
  | go {k : Nat} {n f : Int} (h : f ∈ (ais.getD k AI0).bs) (l : LvP ais ds f.toNat n) (w : n ∉ (ais.getD k AI0).ws) : LvP ais ds k n
  | ex {k : Nat} {n : Int} {d : List Int} (h : (ais.getD k AI0).cr = true) (e : ds.find? (hit k) = some d) (l : LvP ais ds (d.getD 2 0).toNat n) (h3 : n ≠ d.getD 3 0) (h4 : n ≠ d.getD 4 0) : LvP ais ds k n
theorem LvP.due {ais : List AI} {ds RS : List (List Int)} (h : ∀ k n, n ∈ RS.getD k [] → LvP ais ds k n) {k : Nat} {n : Int} (d : dueP ais ds RS k n) : LvP ais ds k n := Hsh.un (by simp (disch := k_dflt (
  refine Hsh.up ?_
  rcases d with d | ⟨f, hf, h1, h2⟩ | ⟨h1, d, h2, h3, h4, h5⟩
  · exact .rd d
  · exact .go hf (h _ _ h1) h2
  · exact .ex h1 h2 (h _ _ h3) h4 h5
  )) only [↓Hsh.on])
def Closed (ais : List AI) (ds RS : List (List Int)) (k : Nat) : Prop := ∀ n, dueP ais ds RS k n → n ∈ RS.getD k []
/-- the rows so far -/
structure RowsI (ais : List AI) (ds : List (List Int)) (R : Int) (RS : List (List Int)) : Prop where
  len : RS.length = ais.length
  ok : RowsOk R RS
  lv : ∀ k n, n ∈ RS.getD k [] → LvP ais ds k n
/-- where every place is closed, the rows are what is live -/
theorem closed_all {ais : List AI} {ds RS : List (List Int)} {R : Int} (h : RowsI ais ds R RS) (hfl : ∀ a ∈ ais, ∀ b ∈ a.bs, 0 ≤ b ∧ b < ais.length) (hds : ∀ d ∈ ds, 0 ≤ d.getD 2 0 ∧ d.getD 2 0 < ais.length) (hc : ∀ k, k < ais.length → Closed ais ds RS k) {k : Nat} (hk : k < ais.length) (n : Int) : n ∈ RS.getD k [] ↔ LvP ais ds k n := Hsh.un (by simp (disch := k_dflt (
  refine Hsh.up ?_
  refine ⟨h.lv k n, fun l => ?_⟩
  induction l with
  | rd h1 => exact hc _ hk _ (.inl h1)
  | @go k n f h1 l w ih =>
    have hm : ais.getD k AI0 ∈ ais := by
      rw [List.getD_eq_getElem?_getD, List.getElem?_eq_getElem hk]
      exact List.getElem_mem _
    obtain ⟨b0, b1⟩ := hfl _ hm f h1
    exact hc _ hk _ (.inr (.inl ⟨f, h1, ih (by omega), w⟩))
  | @ex k n d h1 e l h3 h4 ih =>
    obtain ⟨b0, b1⟩ := hds d (List.mem_of_find?_eq_some e)
    exact hc _ hk _ (.inr (.inr ⟨h1, d, e, ih (by omega), h3, h4⟩))
  )) only [↓Hsh.on])
def total (RS : List (List Int)) : Nat := (RS.map List.length).sum
theorem total_set : ∀ {RS : List (List Int)} {k : Nat} {cur : List Int}, k < RS.length → total (RS.set k cur) + (RS.getD k []).length = total RS + cur.length
  | [], _, _, h => absurd h (Nat.not_lt_zero _)
  | r :: RS, 0, cur, _ => by
    show (cur.length + total RS) + r.length = (r.length + total RS) + cur.length
    omega
  | r :: RS, k + 1, cur, h => by
    have := total_set (RS := RS) (k := k) (cur := cur) (Nat.lt_of_succ_lt_succ h)
    show (r.length + total (RS.set k cur)) + (RS.getD k []).length = (r.length + total RS) + cur.length
    omega
theorem total_le {R : Int} : ∀ {RS : List (List Int)}, RowsOk R RS → R ≤ 23 → total RS ≤ RS.length * 23
  | [], _, _ => Nat.le_refl _
  | r :: RS, h, hR => by
    have h1 := total_le (RS := RS) (fun x hx => h x (List.mem_cons_of_mem _ hx)) hR
    obtain ⟨h2, h3⟩ := h r List.mem_cons_self
    have h4 := nodup_bnd (R := 23) h2 fun n hn => ⟨(h3 n hn).1, by have := (h3 n hn).2; omega⟩
    show r.length + total RS ≤ (RS.length + 1) * 23
    omega
theorem RowsI.set {ais : List AI} {ds RS : List (List Int)} {R : Int} {k : Nat} {cur : List Int} (h : RowsI ais ds R RS) (hk : k < RS.length) (g : GoodN ais ds RS R k cur) : RowsI ais ds R (RS.set k cur) := Hsh.un (by simp (disch := k_dflt (
  refine Hsh.up ?_
  obtain ⟨new, e, h1, h2, h3⟩ := g
  refine ⟨by rw [List.length_set]; exact h.len, fun r hr => ?_, fun j n hn => ?_⟩
  · rcases List.mem_or_eq_of_mem_set hr with hr | rfl
    · exact h.ok r hr
    · exact ⟨h2, h3⟩
  · by_cases q : k = j
    · subst q
      rw [getD_set_eq hk, e] at hn
      rcases List.mem_append.mp hn with hn | hn
      · exact h.lv k n hn
      · exact LvP.due h.lv (h1 n hn)
    · rw [getD_set_ne q] at hn
      exact h.lv j n hn
  )) only [↓Hsh.on])
theorem goodN_eq {ais : List AI} {ds RS : List (List Int)} {R : Int} {k : Nat} {cur : List Int} (g : GoodN ais ds RS R k cur) : (RS.getD k []).length ≤ cur.length ∧ (cur.length = (RS.getD k []).length → cur = RS.getD k []) := Hsh.un (by simp (disch := k_dflt (
  refine Hsh.up ?_
  obtain ⟨new, rfl, _⟩ := g
  rw [List.length_append]
  refine ⟨by omega, fun e => ?_⟩
  have : new = [] := List.eq_nil_of_length_eq_zero (by omega)
  rw [this, List.append_nil]
  )) only [↓Hsh.on])
theorem rev_get {N i : Nat} {x : V} (h : (((List.range N).map fun (j : Nat) => V.int j).reverse)[i]? = some x) : i < N ∧ x = .int ((N - 1 - i : Nat) : Int) := Hsh.un (by simp (disch := k_dflt (
  refine Hsh.up ?_
  obtain ⟨h1, h2⟩ := List.getElem?_eq_some_iff.mp h
  rw [List.length_reverse, List.length_map, List.length_range] at h1
  refine ⟨h1, ?_⟩
  rw [List.getElem_reverse, List.getElem_map, List.getElem_range, List.length_map, List.length_range] at h2
  exact h2.symm
  )) only [↓Hsh.on])
theorem rCd_snoc {rs : List Addr} {RS : List (List Int)} {p : Addr} {r : List Int} (h : rs.length = RS.length) : rCd (rs ++ [p]) (RS ++ [r]) = rCd rs RS ++ [(p, rowO r)] := Hsh.un (by simp (disch := k_dflt (
  refine Hsh.up ?_
  unfold rCd
  rw [List.zipWith_append h]
  rfl
  )) only [↓Hsh.on])
/-- what the program tells of a unit -/
structure LiveOk (R : Int) (ais : List AI) (ds YS : List (List Int)) : Prop where
  len : YS.length = ais.length
  asc : ∀ k, k < ais.length → (YS.getD k []).Pairwise (· < ·)
  bnd : ∀ k, k < ais.length → ∀ n ∈ YS.getD k [], 0 ≤ n ∧ n < R
  lv : ∀ k, k < ais.length → ∀ n, n ∈ YS.getD k [] ↔ LvP ais ds k n
def YC (RS : List (List Int)) (L : List Cell) (ts : List Addr) (YS : List (List Int)) : Prop := ts.length = YS.length ∧ ∀ (k : Nat) (a : Addr) (y : List Int), ts[k]? = some a → YS[k]? = some y → (a, HO.tup (y.map V.int)) ∈ L ∧ y.Perm (RS.getD k []) ∧ y.Pairwise (· ≤ ·)
theorem YC.nil {RS : List (List Int)} {L : List Cell} : YC RS L [] [] := ⟨rfl, fun k a y h => nomatch h⟩
theorem YC.snoc {RS : List (List Int)} {L : List Cell} {ts : List Addr} {YS : List (List Int)} {p : Addr} {y : List Int} (h : YC RS L ts YS) (hp : y.Perm (RS.getD ts.length [])) (hw : y.Pairwise (· ≤ ·)) : YC RS ((p, .tup (y.map V.int)) :: L) (ts ++ [p]) (YS ++ [y]) := Hsh.un (by simp (disch := k_dflt (
  refine Hsh.up ?_
  refine ⟨by rw [List.length_append, List.length_append, h.1]; rfl, fun k a z h1 h2 => ?_⟩
  by_cases hk : k < ts.length
  · rw [List.getElem?_append_left hk] at h1
    rw [List.getElem?_append_left (by rw [← h.1]; exact hk)] at h2
    exact ⟨List.mem_cons_of_mem _ (h.2 k a z h1 h2).1, (h.2 k a z h1 h2).2⟩
  · have hk2 : k = ts.length := by
      have := (List.getElem?_eq_some_iff.mp h1).1
      rw [List.length_append, List.length_singleton] at this
      omega
    subst hk2
    rw [List.getElem?_append_right (Nat.le_refl _), Nat.sub_self] at h1
    rw [List.getElem?_append_right (by rw [h.1]; exact Nat.le_refl _), h.1, Nat.sub_self] at h2
    cases h1
    cases h2
    exact ⟨List.mem_cons_self, hp, hw⟩
  )) only [↓Hsh.on])
theorem live_ok {R : Int} {ais : List AI} {ds RS YS : List (List Int)} {L : List Cell} {ts : List Addr} (h : YC RS L ts YS) (hl : ts.length = ais.length) (hR : RowsI ais ds R RS) (hlv : ∀ k, k < ais.length → ∀ n, n ∈ RS.getD k [] ↔ LvP ais ds k n) : LiveOk R ais ds YS := Hsh.un (by simp (disch := k_dflt (
  refine Hsh.up ?_
  have hy : YS.length = ais.length := by rw [← h.1, hl]
  have key : ∀ k, k < ais.length → (YS.getD k []).Perm (RS.getD k []) ∧ (YS.getD k []).Pairwise (· ≤ ·) := fun k hk => by
    have e1 : ts[k]? = some (ts[k]'(by omega)) := List.getElem?_eq_getElem _
    have e2 : YS[k]? = some (YS[k]'(by omega)) := List.getElem?_eq_getElem _
    have := (h.2 k _ _ e1 e2).2
    rw [List.getD_eq_getElem?_getD, e2]
    exact this
  refine ⟨hy, fun k hk => ?_, fun k hk n hn => ?_, fun k hk n => ?_⟩
  · obtain ⟨h1, h2⟩ := key k hk
    have h3 : (YS.getD k []).Nodup := h1.nodup_iff.mpr hR.ok.at.1
    exact (h2.and h3).imp fun {x y} z => by have := z.1; have := z.2; omega
  · exact hR.ok.at.2 n ((key k hk).1.mem_iff.mp hn)
  · rw [(key k hk).1.mem_iff]
    exact hlv k hk n
  )) only [↓Hsh.on])
def sp_live (K : PySem.W.Frag) : Sp := mk1 fun a H Q _ => ∃ (u : Addr) (R : Int) (ais : List AI) (ds : List (List Int)), a = .ref u ∧ UL K H u R ais ds ∧
  ∀ (t : Addr) (ts : List Addr) (YS : List (List Int)) H', Keep [] H H' → SqT K H' t (ts.map V.ref) → ts.length = YS.length → (∀ (k : Nat) (a : Addr) (y : List Int), ts[k]? = some a → YS[k]? = some y → SqT K H' a (y.map V.int)) → LiveOk R ais ds YS → Q (.ref t) H'
section
 local macro_rules | `(tactic| walk_at "hp") => `(tactic| exact hS.kp.k _ _ huu (.inl (fun z => nomatch z)))
 local macro_rules | `(tactic| walk_at "st") => `(tactic| first
  | (with_reducible refine s_listRg ?_)
  | (with_reducible refine s_revL ?_)
  | fail)
theorem ok_live {P : Program} {w : World} {K : PySem.W.Frag} {mg : Str → Option Value} {base : Heap} (Y : Env w K mg) (G_grow : CallOk P w K mg base CX0 3 "grow" ["unit", "rows", "index"] (sp_grow K)) : CallOk P w K mg base CX0 4 "live" ["unit"] (sp_live K) := Hsh.un (by simp (disch := k_dflt (
  refine Hsh.up ?_
  obtain ⟨fd, F⟩ := Y.fd_live
  refine ⟨_, fd, Y.mg_live, F.kp, F.bindsN (fun _ _ _ _ _ _ us hl => match us, hl with | [_], _ => rfl), F.ok sc_live mk1_len (fun cdv A outer s H vs Q E hr h => ?_)⟩
  have hu := hu_room hr
  obtain ⟨_, rfl, u, R, ais, ds, rfl, hUL, kk⟩ := h
  have hUL0 := hUL
  obtain ⟨⟨dx, cd, rg, w0, cs, gs, huu, ew, hcd, hrg, hcl, hregs, hg5, hins⟩, hrd, hfl, n4, n64, r3, r23, hwr, hwa⟩ := hUL
  have hcl2 : (cs.map V.ref).length = ais.length := by rw [List.length_map, hcl]
  have hS : SH [] H H [] := SH.start0
  refine ⟨_, PSs.nox (pss_cons (ps_setLc (i := 2) (own := [("index", 1)]) (g := gName 1) rfl sc_live.nd rfl rfl (sw_true rfl rfl rfl (by decide +kernel)) (pi_range1 rfl Y.z_range (pa_cons (pe_callB x_len rfl Y.z_len (by decide +kernel) (pa_cons (pe_fld (pv 0) rfl) pa_nil)) pa_nil)) (blkOk_by (N := N_live) (sc := defScope s_live) (by decide +kernel)) (fun _ _ _ _ _ => pg_name (i := 1) sc_live.nd rfl (Or.inl rfl)) (fun _ _ _ _ _ => pts_nil) (fun _ _ _ _ _ => pe_dnewK))
  (pss_cons (ps_set (i := 3) sc_live.nd rfl (Or.inl rfl) pe_bl)
  (pss_cons (ps_while PassesOwn.never (pt_val (pv 3))
  (pss_cons (ps_set (i := 3) sc_live.nd rfl (Or.inl rfl) pe_bl)
  (pss_one (ps_for PassesOwn.never rfl (pi_list (pe_revL (pe_listRg rfl rfl Y.z_list (prg_1 rfl Y.z_range (pe_callB x_len rfl Y.z_len (by decide +kernel) (pa_cons (pe_fld (pv 0) rfl) pa_nil)))))) (pg_name (i := 1) sc_live.nd rfl (Or.inl rfl))
  (pss_one (ps_if (pt_val (pe_callG G_grow hr rfl pass0 (pa_cons (pv 0) (pa_cons (pv 2) (pa_cons (pv 1) pa_nil))))) (pss_one (ps_set (i := 3) sc_live.nd rfl (Or.inl rfl) pe_bl)) pss_nil))))))
  (pss_one (ps_ret (pe_callTy x_tuple rfl Y.z_tuple (by decide +kernel) (pa_cons (pe_lc (own := [("row", 4)]) (g := gName 4) rfl sc_live.nd (pi_list (pv 2)) (blkOk_by (N := N_live) (sc := defScope s_live) (by decide +kernel)) (fun _ _ _ _ _ => pg_name (i := 4) sc_live.nd rfl (Or.inl rfl)) (fun _ _ _ _ _ => pts_nil) (fun _ _ _ _ _ => (pe_callTy (CallR.k (K := K) (r := rTupX) x_tuple rfl) rfl Y.z_tuple (by decide +kernel) (pa_cons (pe_callB (x_sortedD rfl) rfl Y.z_sorted (by decide +kernel) (pa_cons (pv 4) pa_nil)) pa_nil)))) pa_nil))))))), ?_⟩
  rw [st_live]
  try simp only [cxK, cxK2, cxW, cxW2]
  clear hu hr F
  repeat' walk_at "st"
  refine u_lcR1 hS (fun D k H' => ∃ rs : List Addr, rs.length = k ∧ SH [] H H' ((D, .lst (rs.map V.ref)) :: rCd rs (List.replicate k []))) (by omega) (by omega) (fun D H1 hS => ⟨[], rfl, hS⟩) ?_ ?_
  · rintro D m H1 hm ⟨rs, hl, hS⟩
    have hl2 : (rs.map V.ref).length = m := by rw [List.length_map]; exact hl
    refine h_new0 (D := fun _ _ => True) hS (fun p H2 hS => ?_)
    refine h_lcEnd hS (i := 1) rfl (by rw [sizeLine_eq]; omega) rfl rfl (fun H3 hS => ?_)
    refine ⟨rs ++ [p], by rw [List.length_append, hl]; rfl, ?_⟩
    rw [List.replicate_succ', rCd_snoc (by rw [List.length_replicate]; exact hl), List.map_append]
    exact hS.perm (List.perm_append_singleton _ (_ :: rCd rs _)).symm
  · rintro D H1 ⟨rs, hl, hS⟩
    have hlN : rs.length = ais.length := by omega
    repeat' walk_at "st"
    have hds : ∀ d ∈ ds, 0 ≤ d.getD 2 0 ∧ d.getD 2 0 < ais.length := fun d hd => by
      obtain ⟨m, hm⟩ := List.getElem?_of_mem hd
      have hg : ∃ g, gs[m]? = some g := ⟨_, List.getElem?_eq_getElem (by rw [hregs.1]; exact (List.getElem?_eq_some_iff.mp hm).1)⟩
      obtain ⟨g, hg⟩ := hg
      obtain ⟨_, _, h1, h2, _⟩ := hregs.2 m g d hg hm
      exact ⟨h1, h2⟩
    refine ⟨fun m σ H' => ∃ (RS : List (List Int)) (b : Bool) (v1 : Option V), m = 2 * (ais.length * 23 - total RS) + (if b = true then 1 else 0) ∧ σ = [some (.ref u), v1, some (.ref D), some (.bl b), none] ∧ SH [] H H' ((D, .lst (rs.map V.ref)) :: rCd rs RS) ∧ RowsI ais ds R RS ∧ (b = false → ∀ k, k < ais.length → Closed ais ds RS k), ⟨_, List.replicate ais.length [], true, _, rfl, rfl, ?_, ⟨List.length_replicate, fun r hr => ?_, fun k n hn => ?_⟩, fun h => by cases h⟩, ?_⟩
    · have e : ((cs.map V.ref).length : Int).toNat = ais.length := by omega
      rw [e] at hS
      exact hS
    · rw [(List.mem_replicate.mp hr).2]
      exact ⟨List.nodup_nil, no_mem⟩
    · rw [List.getD_eq_getElem?_getD, List.getElem?_replicate] at hn
      split at hn <;> cases hn
    clear hS
    rintro m σ H2 ⟨RS, b, v1, rfl, rfl, hS, hR, hcl0⟩
    have hl3 : rs.length = RS.length := by rw [hR.len, hlN]
    repeat' walk_at "st"
    · refine ⟨fun σ' H' => ∃ m', m' < _ ∧ _, fun σ' H' h => h, ?_⟩
      rw [hc]
      repeat' walk_at "st"
      rw [hcl2]
      refine s_rgX (by omega) ?_
      repeat' walk_at "st"
      refine s_revE (SqL.of (hS.get 0 rfl)) ?_
      repeat' walk_at "st"
      refine u_forL (xs := ((List.range ais.length).map fun (j : Nat) => V.int j).reverse) (fun i σ H' => ∃ (RS' : List (List Int)) (b' : Bool) (v1 : Option V), σ = [some (.ref u), v1, some (.ref D), some (.bl b'), none] ∧ SH [] H H' ((_, .lst ((List.range ais.length).map fun (j : Nat) => V.int j).reverse) :: _ :: (D, .lst (rs.map V.ref)) :: rCd rs RS') ∧ RowsI ais ds R RS' ∧ (b' = false → RS' = RS ∧ ∀ j, j < i → Closed ais ds RS' (ais.length - 1 - j)) ∧ (b' = true → total RS < total RS') ∧ total RS ≤ total RS') (SqL.of (hS.get 0 rfl)) ⟨RS, false, _, rfl, hS, hR, fun _ => ⟨rfl, fun j hj => absurd hj (Nat.not_lt_zero _)⟩, (fun h => absurd h Bool.false_ne_true), Nat.le_refl _⟩ ?_ ?_ ?_
      · rintro i σ H3 _ ⟨RS', b', v1, rfl, hS, _⟩
        exact SqL.of (hS.get 0 rfl)
      · clear hS hR hcl0 hl3
        rintro i x σ H3 hx ⟨RS', b', v1, rfl, hS, hR, hcl, htt, htl⟩
        obtain ⟨hi, rfl⟩ := rev_get hx
        have hl3 : rs.length = RS'.length := by rw [hR.len, hlN]
        have hk : ais.length - 1 - i < RS'.length := by rw [hR.len]; omega
        generalize hkk : ais.length - 1 - i = kx at hk ⊢
        repeat' walk_at "st"
        refine ⟨_, _, _, rfl, u, D, rs, RS', R, ais, ds, kx, rfl, rfl, rfl, hUL0.keep hS.kp (fun z => nomatch z), fun z => hS.old huu (fun z => nomatch z) ?_, SH.blkR [_, _] _ hS, hl3, hR.len, hk, hR.ok, fun cur H4 C hg hcl4 => ?_⟩
        · rw [List.map_cons, List.map_cons, List.map_cons, rCd_keys hl3]
          exact .tail _ (.tail _ z)
        · have hS := SH.callR (F := [_, _]) hS (B2 := (D, .lst (rs.map V.ref)) :: rCd rs (RS'.set kx cur)) (by
            rw [List.map_cons, rCd_keys hl3]
            exact C)
          have ht := total_set (cur := cur) hk
          obtain ⟨hg1, hg2⟩ := goodN_eq hg
          repeat' walk_at "st"
          · refine ⟨RS'.set kx cur, true, _, rfl, hS, hR.set hk hg, (fun h => absurd h.symm Bool.false_ne_true), (fun _ => by omega), by omega⟩
          · have e : cur = RS'.getD kx [] := hg2 (by omega)
            have e2 : RS'.set kx cur = RS' := by rw [e]; exact set_getD_same hk
            rw [e2] at hS
            rw [e] at hcl4
            refine ⟨RS', b', _, rfl, hS, hR, fun hb => ⟨(hcl hb).1, fun j hj => ?_⟩, htt, htl⟩
            by_cases q : j < i
            · exact (hcl hb).2 j q
            · obtain rfl : j = i := by omega
              rw [hkk]
              exact hcl4
      · rintro σ H3 ⟨RS', b', v1, rfl, hS, hR', hcl, htt, htl⟩
        have hmax := total_le hR'.ok r23
        rw [hR'.len] at hmax
        refine ⟨_, ?_, RS', b', v1, rfl, rfl, hS.drop1.drop1, hR', fun hb k hk => ?_⟩
        · cases b' with
          | true =>
            have := htt rfl
            simp only [if_true]
            omega
          | false =>
            rw [(hcl rfl).1]
            simp
        · have := (hcl hb).2 (ais.length - 1 - k) (by rw [List.length_reverse, List.length_map, List.length_range]; omega)
          rw [show ais.length - 1 - (ais.length - 1 - k) = k by omega] at this
          exact this
    · refine u_lcL hS (xs := rs.map V.ref) (fun D2 i H' => ∃ (ts : List Addr) (YS : List (List Int)) (Lx : List Cell), ts.length = i ∧ YC RS Lx ts YS ∧ SH [] H H' ((D2, .lst (ts.map V.ref)) :: (D, .lst (rs.map V.ref)) :: (rCd rs RS ++ Lx))) (SqL.of (hS.get 0 rfl)) (fun D2 H3 hS => ⟨[], [], [], rfl, .nil, by rw [List.append_nil]; exact hS⟩) (fun D2 k H3 _ h => by obtain ⟨ts, YS, Lx, _, _, hS⟩ := h; exact SqL.of (hS.get 1 rfl)) ?_ ?_
      · clear hS
        rintro D2 i x H3 hx ⟨ts, YS, Lx, htl, hP, hS⟩
        rw [List.getElem?_map] at hx
        obtain ⟨a, ha, rfl⟩ := Option.map_eq_some_iff.mp hx
        have hi : i < RS.length := by have := (List.getElem?_eq_some_iff.mp ha).1; omega
        have ea : rs.getD i 0 = a := by rw [List.getD_eq_getElem?_getD, ha]; rfl
        have hrow : H3 a = some (rowO (RS.getD i [])) := by
          rw [← ea]
          exact hS.hs _ (.tail _ (.tail _ (List.mem_append_left _ (List.mem_of_getElem? (rCd_get hl3 hi)))))
        have hrl : (RS.getD i []).length ≤ 23 := nodup_bnd (R := 23) hR.ok.at.1 fun n hn => ⟨(hR.ok.at.2 n hn).1, by have := (hR.ok.at.2 n hn).2; omega⟩
        have htl2 : (ts.map V.ref).length = i := by rw [List.length_map]; exact htl
        repeat' walk_at "st"
        refine s_sortRow hrow (by omega) (fun ys hp hpw => ?_)
        repeat' walk_at "st"
        subst htl
        refine ⟨ts ++ [p], YS ++ [ys], (p, .tup (ys.map V.int)) :: Lx, by rw [List.length_append]; rfl, hP.snoc hp hpw, ?_⟩
        rw [List.map_append]
        have h1 := hS.sub (List.Sublist.cons_cons _ (List.sublist_cons_self _ _))
        exact h1.perm (List.perm_middle (l₁ := (D2, _) :: (D, _) :: rCd rs RS)).symm
      · rintro D2 H3 ⟨ts, YS, Lx, htl, hP, hS⟩
        rw [List.length_map] at htl
        repeat' walk_at "st"
        refine kk p ts YS _ hS.kp (SqT.of (hS.get 0 rfl)) hP.1 (fun k a y h1 h2 => ?_) (live_ok hP (by omega) hR (fun k hk n => closed_all hR hfl hds (hcl0 hc) hk n))
        exact SqT.of (hS.hs (a, _) (.tail _ (.tail _ (.tail _ (List.mem_append_right _ (hP.2 k a y h1 h2).1)))))
  )) only [↓Hsh.on])
end

/-! ### the law's own reading of an instruction -/
def sp_z_operands (K : PySem.W.Frag) : Sp := mk1 fun a H Q _ => ∃ (p : Addr) (ix : Int) (nm : Str) (qs : List Addr) (os : List Opd) (ws bs : List Int), a = .ref p ∧ InsR K H ix nm p qs os ws bs ∧ ∀ l Lx H', SH [] H H' ((l, .lst (qs.map V.ref)) :: Lx) → Q (.ref l) H'
theorem ok_z_operands {P : Program} {w : World} {K : PySem.W.Frag} {mg : Str → Option Value} {base : Heap} (Y : Env w K mg)  : CallOk P w K mg base CX0 1 "_law_operands" ["_law_instruction_here"] (sp_z_operands K) := Hsh.un (by simp (disch := k_dflt (
  refine Hsh.up ?_
  obtain ⟨fd, F⟩ := Y.fd_z_operands
  refine ⟨_, fd, Y.mg_z_operands, F.kp, F.bindsN (fun _ _ _ _ _ _ us hl => match us, hl with | [_], _ => rfl), F.ok sc_z_operands mk1_len (fun cdv A outer s H vs Q E hr h => ?_)⟩
  have hu := hu_room hr
  obtain ⟨_, rfl, p, ix, nm, qs, os, ws, bs, rfl, hI, k⟩ := h
  have hS : SH [] H H [] := SH.start0
  refine ⟨_, PSs.nox (pss_cons (ps_set (i := 1) sc_z_operands.nd rfl (Or.inl rfl) (pe_ix xIx (pv 0) pe_int (fun _ _ => rfl)))
  (pss_cons (ps_if (pt_cmpR xIn (pv 1) (pe_lst (pa_cons pe_str (pa_cons pe_str (pa_cons pe_str pa_nil)))) rfl) (pss_one (ps_ret (pe_lst (pa_cons (pe_ix xIx (pv 0) pe_int (fun _ _ => rfl)) pa_nil)))) pss_nil)
  (pss_cons (ps_if (pt_cmpR xIn (pv 1) (pe_lst (pa_cons pe_str (pa_cons pe_str (pa_cons pe_str (pa_cons pe_str (pa_cons pe_str (pa_cons pe_str (pa_cons pe_str (pa_cons pe_str pa_nil))))))))) rfl) (pss_one (ps_ret (pe_lst (pa_cons (pe_ix xIx (pv 0) pe_int (fun _ _ => rfl)) (pa_cons (pe_ix xIx (pv 0) pe_int (fun _ _ => rfl)) pa_nil))))) pss_nil)
  (pss_cons (ps_if (pt_cmpR xIn (pv 1) (pe_lst (pa_cons pe_str (pa_cons pe_str (pa_cons pe_str pa_nil)))) rfl) (pss_one (ps_ret (pe_lst (pa_cons (pe_ix xIx (pv 0) pe_int (fun _ _ => rfl)) pa_nil)))) pss_nil)
  (pss_cons (ps_if (pt_cmpR (xEq hu) (pv 1) pe_str (nomark _)) (pss_one (ps_ret (pe_lst (pa_cons (pe_ix xIx (pv 0) pe_int (fun _ _ => rfl)) pa_nil)))) pss_nil)
  (pss_cons (ps_if (pt_cmpR (xEq hu) (pv 1) pe_str (nomark _)) (pss_one (ps_ret (pe_lst (pa_cons (pe_ix xIx (pv 0) pe_int (fun _ _ => rfl)) (pa_cons (pe_ix xIx (pv 0) pe_int (fun _ _ => rfl)) pa_nil))))) pss_nil)
  (pss_cons (ps_if (pt_cmpR (xEq hu) (pv 1) pe_str (nomark _)) (pss_one (ps_ret (pe_callTy x_list rfl Y.z_list (by decide +kernel) (pa_cons (pe_ix xIx (pv 0) pe_int (fun _ _ => rfl)) pa_nil)))) pss_nil)
  (pss_cons (ps_if (pt_cmpR (xEq hu) (pv 1) pe_str (nomark _)) (pss_one (ps_ret (pe_callTy x_list rfl Y.z_list (by decide +kernel) (pa_cons (pe_ix xIx (pv 0) pe_int (fun _ _ => rfl)) pa_nil)))) pss_nil)
  (pss_cons (ps_if (pt_cmpR (xEq hu) (pv 1) pe_str (nomark _)) (pss_one (ps_ret (pe_lst (pa_cons (pe_ix xIx (pv 0) pe_int (fun _ _ => rfl)) (pa_cons (pe_ix xIx (pv 0) pe_int (fun _ _ => rfl)) pa_nil))))) pss_nil)
  (pss_one (ps_ret (pe_lst pa_nil)))))))))))), ?_⟩
  rw [st_z_operands]
  try simp only [cxK, cxK2, cxW, cxW2]
  clear hu hr F
  cases hI with
  | sign hn h hx =>
    rcases hn with rfl | rfl
    all_goals repeat' walk_at "st"
    all_goals exact k _ _ _ hS
  | rel hn h hx hy =>
    rcases hn with rfl | rfl
    all_goals repeat' walk_at "st"
    all_goals exact k _ _ _ hS
  | arith hn h hx hy =>
    rcases hn with rfl | rfl | rfl | rfl | rfl | rfl
    all_goals repeat' walk_at "st"
    all_goals exact k _ _ _ hS
  | _ =>
    repeat' walk_at "st"
    exact k _ _ _ hS
  )) only [↓Hsh.on])
def sp_z_writes (K : PySem.W.Frag) : Sp := mk1 fun a H Q _ => ∃ (p : Addr) (ix : Int) (nm : Str) (qs : List Addr) (os : List Opd) (ws bs : List Int), a = .ref p ∧ InsR K H ix nm p qs os ws bs ∧ ∀ l Lx H', SH [] H H' ((l, .lst (ws.map V.int)) :: Lx) → Q (.ref l) H'
theorem ok_z_writes {P : Program} {w : World} {K : PySem.W.Frag} {mg : Str → Option Value} {base : Heap} (Y : Env w K mg)  : CallOk P w K mg base CX0 1 "_law_writes" ["_law_instruction_here"] (sp_z_writes K) := Hsh.un (by simp (disch := k_dflt (
  refine Hsh.up ?_
  obtain ⟨fd, F⟩ := Y.fd_z_writes
  refine ⟨_, fd, Y.mg_z_writes, F.kp, F.bindsN (fun _ _ _ _ _ _ us hl => match us, hl with | [_], _ => rfl), F.ok sc_z_writes mk1_len (fun cdv A outer s H vs Q E hr h => ?_)⟩
  have hu := hu_room hr
  obtain ⟨_, rfl, p, ix, nm, qs, os, ws, bs, rfl, hI, k⟩ := h
  have hS : SH [] H H [] := SH.start0
  refine ⟨_, PSs.nox (pss_cons (ps_if (pt_cmpR (xEq hu) (pe_ix xIx (pv 0) pe_int (fun _ _ => rfl)) pe_str (nomark _)) (pss_one (ps_ret (pe_callTy x_list rfl Y.z_list (by decide +kernel) (pa_cons (pe_ix xIx (pv 0) pe_int (fun _ _ => rfl)) pa_nil)))) pss_nil)
  (pss_cons (ps_if (pt_cmpR xIn (pe_ix xIx (pv 0) pe_int (fun _ _ => rfl)) (pe_lst (pa_cons pe_str (pa_cons pe_str (pa_cons pe_str (pa_cons pe_str (pa_cons pe_str (pa_cons pe_str (pa_cons pe_str (pa_cons pe_str (pa_cons pe_str (pa_cons pe_str (pa_cons pe_str pa_nil)))))))))))) rfl) (pss_one (ps_ret (pe_lst (pa_cons (pe_ix xIx (pv 0) pe_int (fun _ _ => rfl)) pa_nil)))) pss_nil)
  (pss_cons (ps_if (pt_cmpR xIn (pe_ix xIx (pv 0) pe_int (fun _ _ => rfl)) (pe_lst (pa_cons pe_str (pa_cons pe_str pa_nil))) rfl) (pss_one (ps_ret (pe_lst (pa_cons (pe_ix xIx (pv 0) pe_int (fun _ _ => rfl)) pa_nil)))) pss_nil)
  (pss_one (ps_ret (pe_lst pa_nil)))))), ?_⟩
  rw [st_z_writes]
  try simp only [cxK, cxK2, cxW, cxW2]
  clear hu hr F
  cases hI with
  | sign hn h hx =>
    rcases hn with rfl | rfl
    all_goals repeat' walk_at "st"
    all_goals exact k _ _ _ hS
  | rel hn h hx hy =>
    rcases hn with rfl | rfl
    all_goals repeat' walk_at "st"
    all_goals exact k _ _ _ hS
  | arith hn h hx hy =>
    rcases hn with rfl | rfl | rfl | rfl | rfl | rfl
    all_goals repeat' walk_at "st"
    all_goals exact k _ _ _ hS
  | _ =>
    repeat' walk_at "st"
    exact k _ _ _ hS
  )) only [↓Hsh.on])
section
variable {K : PySem.W.Frag} {A : List Addr} {H0 H : Hp} {L : List Cell} {p : Addr} {ix : Int} {nm : Str} {qs : List Addr} {os : List Opd} {ws bs : List Int} {Q : VK} {E : XK}
theorem c_z_operands (hS : SH A H0 H L) (h : InsR K H ix nm p qs os ws bs) (k : ∀ l Lx H', SH A H0 H' ((l, .lst (qs.map V.ref)) :: (Lx ++ L)) → Keep [] H H' → Q (.ref l) H') : sp_z_operands K ([.ref p] ++ []) H Q E :=
  ⟨_, rfl, p, ix, nm, qs, os, ws, bs, rfl, h, fun l Lx H' C => k l Lx H' (SH.call (B := []) (F := L) hS C) C.kp⟩
theorem c_z_writes (hS : SH A H0 H L) (h : InsR K H ix nm p qs os ws bs) (k : ∀ l Lx H', SH A H0 H' ((l, .lst (ws.map V.int)) :: (Lx ++ L)) → Keep [] H H' → Q (.ref l) H') : sp_z_writes K ([.ref p] ++ []) H Q E :=
  ⟨_, rfl, p, ix, nm, qs, os, ws, bs, rfl, h, fun l Lx H' C => k l Lx H' (SH.call (B := []) (F := L) hS C) C.kp⟩
end
def sp_z_reads (K : PySem.W.Frag) : Sp := mk1 fun a H Q _ => ∃ (p : Addr) (ix : Int) (nm : Str) (qs : List Addr) (os : List Opd) (ws bs : List Int), a = .ref p ∧ InsR K H ix nm p qs os ws bs ∧ ∀ l Lx H', SH [] H H' ((l, .lst ((rdL os).map V.int)) :: Lx) → Q (.ref l) H'
theorem ok_z_reads {P : Program} {w : World} {K : PySem.W.Frag} {mg : Str → Option Value} {base : Heap} (Y : Env w K mg) (G_z_operands : CallOk P w K mg base CX0 1 "_law_operands" ["_law_instruction_here"] (sp_z_operands K)) : CallOk P w K mg base CX0 2 "_law_reads" ["_law_instruction_here"] (sp_z_reads K) := Hsh.un (by simp (disch := k_dflt (
  refine Hsh.up ?_
  obtain ⟨fd, F⟩ := Y.fd_z_reads
  refine ⟨_, fd, Y.mg_z_reads, F.kp, F.bindsN (fun _ _ _ _ _ _ us hl => match us, hl with | [_], _ => rfl), F.ok sc_z_reads mk1_len (fun cdv A outer s H vs Q E hr h => ?_)⟩
  have hu := hu_room hr
  obtain ⟨_, rfl, p, ix, nm, qs, os, ws, bs, rfl, hI, k⟩ := h
  have hS : SH [] H H [] := SH.start0
  obtain ⟨ho, hl6, _, _⟩ := hI.sizes
  refine ⟨_, PSs.nox (pss_one (ps_ret (pe_lc (own := [("_law_operand_here", 1)]) (g := gName 1) rfl sc_z_reads.nd (pi_list (pe_callG G_z_operands hr rfl pass0 (pa_cons (pv 0) pa_nil))) (blkOk_by (N := N_z_reads) (sc := defScope s_z_reads) (by decide +kernel)) (fun _ _ _ _ _ => pg_name (i := 1) sc_z_reads.nd rfl (Or.inl rfl)) (fun _ _ _ _ _ => (pts_one (pt_cmpR (OpR.k (K := K) (r := rEqX) (xEq hu) rfl) (pe_ix (IxR.k (K := K) (r := rIxX) xIx rfl) (pv 1) pe_int (fun _ _ => rfl)) pe_str (nomark _)))) (fun _ _ _ _ _ => (pe_ix (IxR.k (K := K) (r := rIxX) xIx rfl) (pv 1) pe_int (fun _ _ => rfl)))))), ?_⟩
  rw [st_z_reads]
  try simp only [cxK, cxK2, cxW, cxW2]
  clear hu hr F
  repeat' walk_at "st"
  refine c_z_operands hS hI (fun lo Lo H1 hS kp => ?_)
  repeat' walk_at "st"
  refine u_lcLG (xs := qs.map V.ref) hS (fun D k H' => SH [] H H' ((D, .lst ((rdL (os.take k)).map V.int)) :: (lo, .lst (qs.map V.ref)) :: (Lo ++ []))) (SqL.of (hS.get 0 rfl)) (fun D H2 hS => hS) (fun D k H2 _ hS => SqL.of (hS.get 1 rfl)) ?_ ?_
  · rintro D i x H2 hx hS
    rw [List.getElem?_map] at hx
    obtain ⟨q, hq, rfl⟩ := Option.map_eq_some_iff.mp hx
    have hi : i < qs.length := (List.getElem?_eq_some_iff.mp hq).1
    obtain ⟨o, hoo⟩ : ∃ o, os[i]? = some o := ⟨_, List.getElem?_eq_getElem (by rw [← ho.1]; exact hi)⟩
    have hop : OpAt K H2 q o := SqT_keep (ho.2 i q o hq hoo) hS.kp
    have hlen := rdL_len os i
    have hlen2 : ((rdL (os.take i)).map V.int).length ≤ 6 := by rw [List.length_map]; omega
    have hst := rdL_step hoo
    obtain ⟨rg, on⟩ := o
    cases rg
    · repeat' walk_at "st"
      rw [hst, if_neg Bool.false_ne_true, List.append_nil]
      exact hS
    · repeat' walk_at "st"
      rw [hst, if_pos rfl, List.map_append]
      exact hS
  · rintro D H2 hS
    repeat' walk_at "st"
    have e : (rdL (os.take (qs.map V.ref).length)) = rdL os := by rw [List.length_map, ho.1, List.take_length]
    rw [e] at hS
    exact k _ _ _ hS
  )) only [↓Hsh.on])
theorem c_z_reads {K : PySem.W.Frag} {A : List Addr} {H0 H : Hp} {L : List Cell} {p : Addr} {ix : Int} {nm : Str} {qs : List Addr} {os : List Opd} {ws bs : List Int} {Q : VK} {E : XK} (hS : SH A H0 H L) (h : InsR K H ix nm p qs os ws bs) (k : ∀ l Lx H', SH A H0 H' ((l, .lst ((rdL os).map V.int)) :: (Lx ++ L)) → Keep [] H H' → Q (.ref l) H') : sp_z_reads K ([.ref p] ++ []) H Q E :=
  ⟨_, rfl, p, ix, nm, qs, os, ws, bs, rfl, h, fun l Lx H' C => k l Lx H' (SH.call (B := []) (F := L) hS C) C.kp⟩
/-- a unit's parts at one place -/
theorem UL.at {K : PySem.W.Frag} {H : Hp} {u : Addr} {R : Int} {ais : List AI} {ds : List (List Int)} (h : UL K H u R ais ds) : ∃ (dx cd rg : Addr) (w : Shp) (cs gs : List Addr), H u = some (unO K dx w cd rg) ∧ w.rg = R ∧ SqT K H cd (cs.map V.ref) ∧ SqT K H rg (gs.map V.ref) ∧ (cs.map V.ref).length = ais.length ∧ RegsR K H R ais.length gs ds ∧ gs.length ≤ 5 ∧
    ∀ k, k < ais.length → ∃ qs, InsR K H k (ais.getD k AI0).nm (cs.getD k 0) qs (ais.getD k AI0).os (ais.getD k AI0).ws (ais.getD k AI0).bs := Hsh.un (by simp (disch := k_dflt (
  refine Hsh.up ?_
  obtain ⟨⟨dx, cd, rg, w, cs, gs, e1, e2, e3, e4, e5, e6, e7, e8⟩, _⟩ := h
  refine ⟨dx, cd, rg, w, cs, gs, e1, e2, e3, e4, by rw [List.length_map, e5], e6, e7, fun k hk => e8 k _ _ ?_ ?_⟩
  · rw [List.getD_eq_getElem?_getD, List.getElem?_eq_getElem (by omega)]; rfl
  · rw [List.getD_eq_getElem?_getD, List.getElem?_eq_getElem hk]; rfl
  )) only [↓Hsh.on])
def sp_z_onward (K : PySem.W.Frag) : Sp := mk2 fun a b H Q _ => ∃ (u : Addr) (R : Int) (ais : List AI) (ds : List (List Int)) (k : Nat), a = .ref u ∧ b = .int (k : Nat) ∧ UL K H u R ais ds ∧ k < ais.length ∧ ∀ l Lx (fs : List Int) H', SH [] H H' ((l, .lst (fs.map V.int)) :: Lx) → (∀ f, f ∈ fs ↔ f ∈ (ais.getD k AI0).bs) → fs.length ≤ 6 → Q (.ref l) H'
section
 local macro_rules | `(tactic| walk_at "hp") => `(tactic| exact hS.kp.k _ _ huu (.inl (fun z => nomatch z)))
theorem ok_z_onward {P : Program} {w : World} {K : PySem.W.Frag} {mg : Str → Option Value} {base : Heap} (Y : Env w K mg)  : CallOk P w K mg base CX0 1 "_law_onward" ["_law_unit_here", "_law_index"] (sp_z_onward K) := Hsh.un (by simp (disch := k_dflt (
  refine Hsh.up ?_
  obtain ⟨fd, F⟩ := Y.fd_z_onward
  refine ⟨_, fd, Y.mg_z_onward, F.kp, F.bindsN (fun _ _ _ _ _ _ us hl => match us, hl with | [_, _], _ => rfl), F.ok sc_z_onward mk2_len (fun cdv A outer s H vs Q E hr h => ?_)⟩
  have hu := hu_room hr
  obtain ⟨_, _, rfl, u, R, ais, ds, k, rfl, rfl, hUL, hk, kk⟩ := h
  obtain ⟨dx, cd, rg, w0, cs, gs, huu, ew, hcd, hrg, hcl, hregs, hg5, hins⟩ := hUL.at
  have hS : SH [] H H [] := SH.start0
  obtain ⟨qs, hI⟩ := hins k hk
  obtain ⟨p, hp⟩ : ∃ p, cs.getD k 0 = p := ⟨_, rfl⟩
  obtain ⟨⟨nm, os, ws, bs⟩, ha⟩ : ∃ a, ais.getD k AI0 = a := ⟨_, rfl⟩
  rw [hp, ha] at hI
  rw [ha] at kk
  dsimp only at hI kk
  refine ⟨_, PSs.nox (pss_cutG (ps_set (i := 2) sc_z_onward.nd rfl (Or.inl rfl) (pe_ix xIx (pe_fld (pv 0) rfl) (pv 1) (fun _ _ => rfl)))
  (pss_cons (ps_if (pt_cmpR (xEq hu) (pe_ix xIx (pv 2) pe_int (fun _ _ => rfl)) pe_str (nomark _)) (pss_one (ps_ret (pe_lst (pa_cons (pe_ix xIx (pv 2) pe_int (fun _ _ => rfl)) pa_nil)))) pss_nil)
  (pss_cons (ps_if (pt_cmpR (xEq hu) (pe_ix xIx (pv 2) pe_int (fun _ _ => rfl)) pe_str (nomark _)) (pss_one (ps_ret (pe_lst (pa_cons (pe_op xAdd (pv 1) pe_int) (pa_cons (pe_ix xIx (pv 2) pe_int (fun _ _ => rfl)) pa_nil))))) pss_nil)
  (pss_cons (ps_if (pt_cmpR xIn (pe_ix xIx (pv 2) pe_int (fun _ _ => rfl)) (pe_lst (pa_cons pe_str (pa_cons pe_str (pa_cons pe_str pa_nil)))) rfl) (pss_one (ps_ret (pe_lst pa_nil))) pss_nil)
  (pss_one (ps_ret (pe_lst (pa_cons (pe_op xAdd (pv 1) pe_int) pa_nil)))))))), ?_⟩
  rw [st_z_onward]
  try simp only [cxK, cxK2, cxW, cxW2]
  clear hu hr F
  refine s_cutG (fun σ H' => σ = [some (.ref u), some (.int (k : Nat)), some (.ref p)] ∧ SH [] H H' []) ?_ ?_
  · repeat' walk_at "st"
    exact ⟨by rw [← hp]; rfl, hS⟩
  clear hS
  rintro σ H1 ⟨rfl, hS⟩
  cases hI with
  | sign hn h hx =>
    rcases hn with rfl | rfl
    all_goals repeat' walk_at "st"
    all_goals exact kk _ _ [_] _ hS (fun _ => Iff.rfl) (Nat.le_of_ble_eq_true rfl)
  | rel hn h hx hy =>
    rcases hn with rfl | rfl
    all_goals repeat' walk_at "st"
    all_goals exact kk _ _ [_] _ hS (fun _ => Iff.rfl) (Nat.le_of_ble_eq_true rfl)
  | arith hn h hx hy =>
    rcases hn with rfl | rfl | rfl | rfl | rfl | rfl
    all_goals repeat' walk_at "st"
    all_goals exact kk _ _ [_] _ hS (fun _ => Iff.rfl) (Nat.le_of_ble_eq_true rfl)
  | branch h hx =>
    repeat' walk_at "st"
    exact kk _ _ [_, _] _ hS (fun f => by rw [srt2_mem]; simp only [List.mem_cons, List.not_mem_nil, or_false]; exact or_comm) (Nat.le_of_ble_eq_true rfl)
  | ret h hv ho hl =>
    repeat' walk_at "st"
    exact kk _ _ [] _ hS (fun _ => Iff.rfl) (Nat.le_of_ble_eq_true rfl)
  | raise h =>
    repeat' walk_at "st"
    exact kk _ _ [] _ hS (fun _ => Iff.rfl) (Nat.le_of_ble_eq_true rfl)
  | again h hx hy =>
    repeat' walk_at "st"
    exact kk _ _ [] _ hS (fun _ => Iff.rfl) (Nat.le_of_ble_eq_true rfl)
  | _ =>
    repeat' walk_at "st"
    exact kk _ _ [_] _ hS (fun _ => Iff.rfl) (Nat.le_of_ble_eq_true rfl)
  )) only [↓Hsh.on])
end
theorem c_z_onward {K : PySem.W.Frag} {A : List Addr} {H0 H : Hp} {L : List Cell} {u : Addr} {R : Int} {ais : List AI} {ds : List (List Int)} {k : Nat} {Q : VK} {E : XK} (hS : SH A H0 H L) (hU : UL K H u R ais ds) (hk : k < ais.length)
    (kk : ∀ l Lx (fs : List Int) H', SH A H0 H' ((l, .lst (fs.map V.int)) :: (Lx ++ L)) → Keep [] H H' → (∀ f, f ∈ fs ↔ f ∈ (ais.getD k AI0).bs) → fs.length ≤ 6 → Q (.ref l) H') : sp_z_onward K ([.ref u, .int (k : Nat)] ++ []) H Q E :=
  ⟨_, _, rfl, u, R, ais, ds, k, rfl, rfl, hU, hk, fun l Lx fs H' C h1 h2 => kk l Lx fs H' (SH.call (B := []) (F := L) hS C) C.kp h1 h2⟩
/-- the ways onward: where to, and what is written on the way -/
def WayC (L : List Cell) (ps : List Addr) (ys : List (Int × List Int)) : Prop := ps.length = ys.length ∧ ∀ (j : Nat) (p : Addr) (y : Int × List Int), ps[j]? = some p → ys[j]? = some y → ∃ w, (p, HO.lst [.int y.1, .ref w]) ∈ L ∧ (w, HO.lst (y.2.map V.int)) ∈ L
theorem WayC.nil {L : List Cell} : WayC L [] [] := ⟨rfl, fun k a y h => nomatch h⟩
theorem WayC.mono {L L' : List Cell} {ps : List Addr} {ys : List (Int × List Int)} (h : WayC L ps ys) (m : ∀ c ∈ L, c ∈ L') : WayC L' ps ys := ⟨h.1, fun j p y a b => by obtain ⟨w, h1, h2⟩ := h.2 j p y a b; exact ⟨w, m _ h1, m _ h2⟩⟩
theorem WayC.snoc {L : List Cell} {ps : List Addr} {ys : List (Int × List Int)} {p w : Addr} {f : Int} {ws : List Int} (h : WayC L ps ys) (h1 : (p, HO.lst [.int f, .ref w]) ∈ L) (h2 : (w, HO.lst (ws.map V.int)) ∈ L) : WayC L (ps ++ [p]) (ys ++ [(f, ws)]) := Hsh.un (by simp (disch := k_dflt (
  refine Hsh.up ?_
  refine ⟨by rw [List.length_append, List.length_append, h.1]; rfl, fun k a z e1 e2 => ?_⟩
  by_cases hk : k < ps.length
  · rw [List.getElem?_append_left hk] at e1
    rw [List.getElem?_append_left (by rw [← h.1]; exact hk)] at e2
    exact h.2 k a z e1 e2
  · have hk2 : k = ps.length := by
      have := (List.getElem?_eq_some_iff.mp e1).1
      rw [List.length_append, List.length_singleton] at this
      omega
    subst hk2
    rw [List.getElem?_append_right (Nat.le_refl _), Nat.sub_self] at e1
    rw [List.getElem?_append_right (by rw [h.1]; exact Nat.le_refl _), h.1, Nat.sub_self] at e2
    cases e1
    cases e2
    exact ⟨w, h1, h2⟩
  )) only [↓Hsh.on])
/-- the ways of a place are just these -/
def isWay (ais : List AI) (ds : List (List Int)) (k : Nat) (y : Int × List Int) : Prop := (y.1 ∈ (ais.getD k AI0).bs ∧ y.2 = (ais.getD k AI0).ws) ∨ ((ais.getD k AI0).cr = true ∧ ∃ d, ds.find? (hit k) = some d ∧ y = (d.getD 2 0, [d.getD 3 0, d.getD 4 0]))
theorem perm_w {a b c : Cell} {X Y : List Cell} : (a :: (X ++ (b :: c :: Y))).Perm (b :: c :: (a :: (X ++ Y))) :=
  (List.perm_middle (l₁ := a :: X)).trans (List.Perm.cons _ (List.perm_middle (l₁ := a :: X)))
def sp_z_ways (K : PySem.W.Frag) : Sp := mk2 fun a b H Q _ => ∃ (u : Addr) (R : Int) (ais : List AI) (ds : List (List Int)) (k : Nat), a = .ref u ∧ b = .int (k : Nat) ∧ UL K H u R ais ds ∧ k < ais.length ∧ ∀ l Lx ps (ys : List (Int × List Int)) H', SH [] H H' ((l, .lst (ps.map V.ref)) :: Lx) → WayC Lx ps ys → (∀ y, y ∈ ys ↔ isWay ais ds k y) → Q (.ref l) H'
section
 local macro_rules | `(tactic| walk_at "hp") => `(tactic| exact hS.kp.k _ _ huu (.inl (fun z => nomatch z)))
theorem ok_z_ways {P : Program} {w : World} {K : PySem.W.Frag} {mg : Str → Option Value} {base : Heap} (Y : Env w K mg) (G_z_onward : CallOk P w K mg base CX0 1 "_law_onward" ["_law_unit_here", "_law_index"] (sp_z_onward K)) (G_z_writes : CallOk P w K mg base CX0 1 "_law_writes" ["_law_instruction_here"] (sp_z_writes K)) : CallOk P w K mg base CX0 2 "_law_ways" ["_law_unit_here", "_law_index"] (sp_z_ways K) := Hsh.un (by simp (disch := k_dflt (
  refine Hsh.up ?_
  obtain ⟨fd, F⟩ := Y.fd_z_ways
  refine ⟨_, fd, Y.mg_z_ways, F.kp, F.bindsN (fun _ _ _ _ _ _ us hl => match us, hl with | [_, _], _ => rfl), F.ok sc_z_ways mk2_len (fun cdv A outer s H vs Q E hr h => ?_)⟩
  have hu := hu_room hr
  obtain ⟨_, _, rfl, u, R, ais, ds, k, rfl, rfl, hUL, hk, kk⟩ := h
  have hUL0 := hUL
  obtain ⟨dx, cd, rg, w0, cs, gs, huu, ew, hcd, hrg, hcl, hregs, hg5, hins⟩ := hUL.at
  have hS : SH [] H H [] := SH.start0
  obtain ⟨qs, hI⟩ := hins k hk
  refine ⟨_, PSs.nox (pss_cons (ps_set (i := 2) sc_z_ways.nd rfl (Or.inr rfl) (pe_ix xIx (pe_fld (pv 0) rfl) (pv 1) (fun _ _ => rfl)))
  (pss_cons (ps_setLc (i := 4) (own := [("_law_following", 3)]) (g := gName 3) rfl sc_z_ways.nd rfl rfl (sw_true rfl rfl rfl (by decide +kernel)) (pi_list (pe_callG G_z_onward hr rfl pass0 (pa_cons (pv 0) (pa_cons (pv 1) pa_nil)))) (blkOk_by (N := N_z_ways) (sc := defScope s_z_ways) (by decide +kernel)) (fun _ _ _ _ _ => pg_name (i := 3) sc_z_ways.nd rfl (Or.inl rfl)) (fun _ _ _ _ _ => pts_nil) (fun _ _ _ _ _ => (pe_lst (pa_cons (pv 3) (pa_cons (pe_callG G_z_writes hr rfl pass0 (pa_cons (pv 2) pa_nil)) pa_nil)))))
  (pss_cons (ps_set (i := 5) sc_z_ways.nd rfl (Or.inl rfl) (pe_lst (pa_cons pe_str (pa_cons pe_str (pa_cons pe_str (pa_cons pe_str (pa_cons pe_str (pa_cons pe_str (pa_cons pe_str (pa_cons pe_str (pa_cons pe_str (pa_cons pe_str (pa_cons pe_str (pa_cons pe_str (pa_cons pe_str pa_nil)))))))))))))))
  (pss_cons (ps_if (pt_cmpR xIn (pe_ix xIx (pv 2) pe_int (fun _ _ => rfl)) (pv 5) rfl) (pss_one (ps_for PassesOwn.never rfl (pi_tup (pe_fld (pv 0) rfl)) (pg_name (i := 6) sc_z_ways.nd rfl (Or.inl rfl))
  (pss_one (ps_if (PW.pt (pw_and (pt_cmpR op_le (pe_ix xIx (pv 6) pe_int (fun _ _ => rfl)) (pv 1) (nomark _)) (pw_and1 (pt_cmpR op_lt (pv 1) (pe_ix xIx (pv 6) pe_int (fun _ _ => rfl)) (nomark _))))) (pss_cons (ps_expr (pe_bm PySem.F.plainAttrs_list PySem.F.slot_list_append PySem.F.type_list_append mt_append (pv 4) (pa_cons (pe_lst (pa_cons (pe_ix xIx (pv 6) pe_int (fun _ _ => rfl)) (pa_cons (pe_lst (pa_cons (pe_ix xIx (pv 6) pe_int (fun _ _ => rfl)) (pa_cons (pe_ix xIx (pv 6) pe_int (fun _ _ => rfl)) pa_nil))) pa_nil))) pa_nil)))
  (pss_one (ps_ret (pv 4)))) pss_nil)))) pss_nil)
  (pss_one (ps_ret (pv 4))))))), ?_⟩
  rw [st_z_ways]
  try simp only [cxK, cxK2, cxW, cxW2]
  clear hu hr F
  have hnn : ∀ u : Addr, u ∉ ([] : List Addr) := fun _ z => nomatch z
  obtain ⟨⟨nm, os, ws, bs⟩, ha⟩ : ∃ a, ais.getD k AI0 = a := ⟨_, rfl⟩
  have hcr : (ais.getD k AI0).cr = inV (.str nm) raisers := by rw [ha]; rfl
  have hway0 : ∀ y, isWay ais ds k y ↔ (y.1 ∈ bs ∧ y.2 = ws) ∨ ((ais.getD k AI0).cr = true ∧ ∃ d, ds.find? (hit k) = some d ∧ y = (d.getD 2 0, [d.getD 3 0, d.getD 4 0])) := fun y => by unfold isWay; rw [ha]
  rw [ha] at hI
  dsimp only at hI
  obtain ⟨hd, hhd⟩ := hI.head
  repeat' walk_at "st"
  refine c_z_onward hS (hUL0.keep hS.kp (hnn _)) hk (fun l Lx fs H1 hS _ hfs hf6 => ?_)
  rw [ha] at hfs
  dsimp only at hfs
  repeat' walk_at "st"
  refine u_lcL hS (xs := fs.map V.int) (fun D i H' => ∃ (ps : List Addr) (Ly : List Cell), ps.length = i ∧ WayC Ly ps ((fs.take i).map fun f => (f, ws)) ∧ SH [] H H' ((D, .lst (ps.map V.ref)) :: (l, .lst (fs.map V.int)) :: Ly)) (SqL.of (hS.get 0 rfl)) (fun D H2 hS => ⟨[], _, rfl, .nil, hS⟩) (fun D i H2 _ h => by obtain ⟨ps, Ly, _, _, hS⟩ := h; exact SqL.of (hS.get 1 rfl)) ?_ ?_
  · clear hS
    rintro D i x H2 hx ⟨ps, Ly, hpl, hW, hS⟩
    rw [List.getElem?_map] at hx
    obtain ⟨f, hf, rfl⟩ := Option.map_eq_some_iff.mp hx
    have hi : i < fs.length := (List.getElem?_eq_some_iff.mp hf).1
    have hpl2 : (ps.map V.ref).length = i := by rw [List.length_map]; exact hpl
    repeat' walk_at "st"
    refine c_z_writes hS (hI.keep hS.kp) (fun lw Lw H3 hS _ => ?_)
    have hS := hS.perm perm_w
    repeat' walk_at "st"
    refine ⟨ps ++ [p], (p, .lst [.int f, .ref lw]) :: (lw, .lst (ws.map V.int)) :: (Lw ++ Ly), by rw [List.length_append, hpl]; rfl, ?_, ?_⟩
    · rw [List.take_add_one, hf, List.map_append]
      exact (hW.mono fun c hc => .tail _ (.tail _ (List.mem_append_right _ hc))).snoc (.head _) (.tail _ (.head _))
    · rw [List.map_append]
      exact hS.perm (List.perm_middle (l₁ := [_, _])).symm
  · clear hS
    rintro D H2 ⟨ps, Ly, hpl, hW, hS⟩
    rw [List.length_map] at hpl hW
    rw [List.take_length] at hW
    have hys : ∀ y, y ∈ fs.map (fun f => (f, ws)) ↔ y.1 ∈ bs ∧ y.2 = ws := fun y => by
      rw [List.mem_map]
      constructor
      · rintro ⟨f, hf, rfl⟩
        exact ⟨(hfs f).mp hf, rfl⟩
      · rintro ⟨h1, h2⟩
        exact ⟨y.1, (hfs _).mpr h1, by rw [← h2]⟩
    generalize fs.map (fun f => (f, ws)) = ys at hW hys
    have hpl3 : (ps.map V.ref).length ≤ 6 := by rw [List.length_map]; omega
    repeat' walk_at "st"
    · refine u_forT (xs := gs.map V.ref) (fun j σ H' => ∃ v6, σ = [some (.ref u), some (.int (k : Nat)), some (.ref (cs.getD k 0)), none, some (.ref D), some (.ref p), v6] ∧ SH [] H H' ((p, _) :: (D, .lst (ps.map V.ref)) :: (l, .lst (fs.map V.int)) :: Ly) ∧ ∀ (m : Nat) (d : List Int), m < j → ds[m]? = some d → hit k d = false) (SqT_keep hrg hS.kp) ⟨_, rfl, hS, fun m d hm => absurd hm (Nat.not_lt_zero _)⟩ ?_ ?_ ?_
      · rintro j σ H3 _ ⟨v6, rfl, hS, _⟩
        exact SqT_keep hrg hS.kp
      · rintro j x σ H3 hx ⟨v6, rfl, hS, hno⟩
        rw [List.getElem?_map] at hx
        obtain ⟨g, hg, rfl⟩ := Option.map_eq_some_iff.mp hx
        obtain ⟨d, hd⟩ : ∃ d, ds[j]? = some d := ⟨_, List.getElem?_eq_getElem (by rw [← hregs.1]; exact (List.getElem?_eq_some_iff.mp hg).1)⟩
        obtain ⟨hgd, hd5, _⟩ := hregs.2 j g d hg hd
        obtain ⟨a, b, c2, e, f, rfl⟩ := len5 hd5
        have hgd2 : SqT K H g [.int a, .int b, .int c2, .int e, .int f] := hgd
        repeat' walk_at "st"
        · have hh : hit k [a, b, c2, e, f] = true := show (decide (a ≤ (k : Int)) && decide ((k : Int) < b)) = true by rw [decide_eq_true (by assumption), decide_eq_true (by assumption)]; rfl
          have hcrt : (ais.getD k AI0).cr = true := hcr.trans (by assumption)
          rw [show ps.map V.ref ++ [V.ref p] = (ps ++ [p]).map V.ref by rw [List.map_append]; rfl] at hS
          refine kk D _ _ (ys ++ [(c2, [e, f])]) _ (hS.perm (List.perm_middle (l₁ := [_, _, _]))) ((hW.mono fun c hc => .tail _ (.tail _ (.tail _ (.tail _ hc)))).snoc (.head _) (.tail _ (.head _))) (fun y => ?_)
          rw [List.mem_append, hys, hway0, find_at hd hh hno, List.mem_singleton]
          exact ⟨fun h => h.imp id fun h => ⟨hcrt, _, rfl, h⟩, fun h => h.imp id fun z => by obtain ⟨_, d, h1, h2⟩ := z; cases h1; exact h2⟩
        all_goals
          have hh : hit k [a, b, c2, e, f] = false := show (decide (a ≤ (k : Int)) && decide ((k : Int) < b)) = false by simp; omega
          refine ⟨_, rfl, hS, fun m d hm hd2 => ?_⟩
          by_cases q : m < j
          · exact hno m d q hd2
          · obtain rfl : m = j := by omega
            rw [hd] at hd2
            cases hd2
            exact hh
      · rintro σ H3 ⟨v6, rfl, hS, hno⟩
        repeat' walk_at "st"
        refine kk D _ ps ys _ (hS.perm (List.Perm.swap _ _ _)) (hW.mono fun c hc => .tail _ (.tail _ hc)) (fun y => ?_)
        rw [hys, hway0, find_no fun m d e => hno m d (by rw [List.length_map, hregs.1]; exact (List.getElem?_eq_some_iff.mp e).1) e]
        exact ⟨.inl, fun h => h.elim id fun z => by obtain ⟨_, d, h, _⟩ := z; cases h⟩
    · refine kk D _ ps ys _ (hS.perm (List.Perm.swap _ _ _)) (hW.mono fun c hc => .tail _ (.tail _ hc)) (fun y => ?_)
      rw [hys, hway0, hcr]
      exact ⟨.inl, fun h => h.elim id fun z => absurd (z.1.symm.trans (by assumption)) (by decide)⟩
  )) only [↓Hsh.on])
end
theorem c_z_ways {K : PySem.W.Frag} {A : List Addr} {H0 H : Hp} {L : List Cell} {u : Addr} {R : Int} {ais : List AI} {ds : List (List Int)} {k : Nat} {Q : VK} {E : XK} (hS : SH A H0 H L) (hU : UL K H u R ais ds) (hk : k < ais.length)
    (kk : ∀ l Lx ps (ys : List (Int × List Int)) H', SH A H0 H' ((l, .lst (ps.map V.ref)) :: (Lx ++ L)) → WayC Lx ps ys → (∀ y, y ∈ ys ↔ isWay ais ds k y) → Q (.ref l) H') : sp_z_ways K ([.ref u, .int (k : Nat)] ++ []) H Q E :=
  ⟨_, _, rfl, u, R, ais, ds, k, rfl, rfl, hU, hk, fun l Lx ps ys H' C h1 h2 => kk l Lx ps ys H' (SH.call (B := []) (F := L) hS C) h1 h2⟩

/-! ### the law's own sums -/
/-- the rows that the program told -/
def RowsAt (K : PySem.W.Frag) (H : Hp) (t : Addr) (YS : List (List Int)) : Prop := ∃ ts : List Addr, SqT K H t (ts.map V.ref) ∧ ts.length = YS.length ∧ ∀ (k : Nat) (a : Addr) (y : List Int), ts[k]? = some a → YS[k]? = some y → SqT K H a (y.map V.int)
theorem RowsAt.keep {K : PySem.W.Frag} {A : List Addr} {H H' : Hp} {t : Addr} {YS : List (List Int)} (h : RowsAt K H t YS) (k : Keep A H H') : RowsAt K H' t YS := by
  obtain ⟨ts, h1, h2, h3⟩ := h
  exact ⟨ts, SqT_keep h1 k, h2, fun i a y e1 e2 => SqT_keep (h3 i a y e1 e2) k⟩
theorem way_bnd {K : PySem.W.Frag} {H : Hp} {u : Addr} {R : Int} {ais : List AI} {ds : List (List Int)} (hU : UL K H u R ais ds) {k : Nat} (hk : k < ais.length) {y : Int × List Int} (h : isWay ais ds k y) : 0 ≤ y.1 ∧ y.1 < ais.length := Hsh.un (by simp (disch := k_dflt (
  refine Hsh.up ?_
  obtain ⟨⟨dx, cd, rg, w0, cs, gs, huu, ew, hcd, hrg, hcl, hregs, hg5, hins⟩, hrd, hfl, n4, n64, r3, r23, hwr, hwa⟩ := hU
  rcases h with ⟨h1, _⟩ | ⟨_, d, e1, e2⟩
  · refine hfl _ ?_ _ h1
    rw [List.getD_eq_getElem?_getD, List.getElem?_eq_getElem hk]
    exact List.getElem_mem _
  · obtain ⟨m, hm⟩ := List.getElem?_of_mem (List.mem_of_find?_eq_some e1)
    obtain ⟨g, hg⟩ : ∃ g, gs[m]? = some g := ⟨_, List.getElem?_eq_getElem (by rw [hregs.1]; exact (List.getElem?_eq_some_iff.mp hm).1)⟩
    obtain ⟨_, _, h1, h2, _⟩ := hregs.2 m g d hg hm
    rw [e2]
    exact ⟨h1, h2⟩
  )) only [↓Hsh.on])
theorem c_live {K : PySem.W.Frag} {A : List Addr} {H0 H : Hp} {L : List Cell} {u : Addr} {R : Int} {ais : List AI} {ds : List (List Int)} {Q : VK} {E : XK} (hS : SH A H0 H L) (hU : UL K H u R ais ds)
    (kk : ∀ t YS H', SH A H0 H' L → Keep [] H H' → RowsAt K H' t YS → LiveOk R ais ds YS → Q (.ref t) H') : sp_live K ([.ref u] ++ []) H Q E :=
  ⟨_, rfl, u, R, ais, ds, rfl, hU, fun t ts YS H' kp h1 h2 h3 h4 => kk t YS H' (hS.call0 kp) kp ⟨ts, h1, h2, h3⟩ h4⟩
/-! ### live_behind -/
def sp_live_behind (K : PySem.W.Frag) : Sp := mk3 fun a b e H Q _ => ∃ (u t : Addr) (R : Int) (ais : List AI) (ds YS : List (List Int)) (k : Nat), a = .ref u ∧ b = .ref t ∧ e = .int (k : Nat) ∧ UL K H u R ais ds ∧ RowsAt K H t YS ∧ YS.length = ais.length ∧ (∀ j, j < ais.length → ∀ n ∈ YS.getD j [], 0 ≤ n ∧ n < R) ∧ k < ais.length ∧
  ∀ (p : Addr) (ys : List Int) H', Keep [] H H' → SqT K H' p (ys.map V.int) → (∀ n, n ∈ ys ↔ ∃ f ∈ (ais.getD k AI0).bs, n ∈ YS.getD f.toNat []) → Q (.ref p) H'
section
 local macro_rules | `(tactic| walk_at "hp") => `(tactic| exact hS.kp.k _ _ huu (.inl (fun z => nomatch z)))
 local macro_rules | `(tactic| walk_at "st") => `(tactic| first
  | (with_reducible refine s_dput ?_)
  | (with_reducible refine h_new0 (D := fun _ _ => True) hS (fun p H1 hS1 => ?_); clear hS; rename SH _ _ _ _ => hS)
  | fail)
theorem ok_live_behind {P : Program} {w : World} {K : PySem.W.Frag} {mg : Str → Option Value} {base : Heap} (Y : Env w K mg) (G_followers : CallOk P w K mg base CX0 1 "followers" ["instruction", "index"] (sp_followers K)) : CallOk P w K mg base CX0 2 "live_behind" ["unit", "rows", "index"] (sp_live_behind K) := Hsh.un (by simp (disch := k_dflt (
  refine Hsh.up ?_
  obtain ⟨fd, F⟩ := Y.fd_live_behind
  refine ⟨_, fd, Y.mg_live_behind, F.kp, F.bindsN (fun _ _ _ _ _ _ us hl => match us, hl with | [_, _, _], _ => rfl), F.ok sc_live_behind mk3_len (fun cdv A outer s H vs Q E hr h => ?_)⟩
  have hu := hu_room hr
  obtain ⟨_, _, _, rfl, u, t, R, ais, ds, YS, k, rfl, rfl, rfl, hUL0, hRW, hyl, hbd, hk, kk⟩ := h
  obtain ⟨dx, cd, rg, w0, cs, gs, huu, ew, hcd, hrg, hcl, hregs, hg5, hins⟩ := hUL0.at
  have hS : SH [] H H [] := SH.start0
  obtain ⟨qs, hI⟩ := hins k hk
  obtain ⟨ts, ht1, ht2, ht3⟩ := hRW
  have htl : (ts.map V.ref).length = ais.length := by rw [List.length_map]; omega
  have r23 := hUL0.r23
  have hma : ais.getD k AI0 ∈ ais := by
    rw [List.getD_eq_getElem?_getD, List.getElem?_eq_getElem hk]
    exact List.getElem_mem _
  refine ⟨_, PSs.nox (pss_cons (ps_set (i := 3) sc_live_behind.nd rfl (Or.inl rfl) pe_dnewK)
  (pss_cons (ps_for PassesOwn.never rfl (pi_tup (pe_callG G_followers hr rfl pass0 (pa_cons (pe_ix xIx (pe_fld (pv 0) rfl) (pv 2) (fun _ _ => rfl)) (pa_cons (pv 2) pa_nil)))) (pg_name (i := 4) sc_live_behind.nd rfl (Or.inl rfl))
  (pss_one (ps_for PassesOwn.never rfl (pi_tup (pe_ix xIx (pv 1) (pv 4) (fun _ _ => rfl))) (pg_name (i := 5) sc_live_behind.nd rfl (Or.inl rfl))
  (pss_one (ps_dput (hu1 hu) (pv 3) (pv 5) pe_bl rfl)))))
  (pss_one (ps_ret (pe_callTy x_tuple rfl Y.z_tuple (by decide +kernel) (pa_cons (pe_callB (x_sortedD rfl) rfl Y.z_sorted (by decide +kernel) (pa_cons (pv 3) pa_nil)) pa_nil)))))), ?_⟩
  rw [st_live_behind]
  try simp only [cxK, cxK2, cxW, cxW2]
  clear hu hr F
  repeat' walk_at "st"
  refine c_followers hS (hI.keep hS.kp) (fun tf H3 hS kp2 ht => ?_)
  repeat' walk_at "st"
  obtain ⟨fo, efo⟩ : ∃ fo, fo = p := ⟨_, rfl⟩
  rw [← efo] at hS ⊢
  clear efo
  have hS1 := hS
  have ht1 := SqT_keep ht1 hS1.kp
  have hrow : ∀ f : Int, 0 ≤ f → f < ais.length → SqT K H3 (ts.getD f.toNat 0) ((YS.getD f.toNat []).map V.int) := fun f f0 f1 => by
    have e1 : ts[f.toNat]? = some (ts[f.toNat]'(by rw [List.length_map] at htl; omega)) := List.getElem?_eq_getElem _
    have e2 : YS[f.toNat]? = some (YS[f.toNat]'(by omega)) := List.getElem?_eq_getElem _
    rw [List.getD_eq_getElem?_getD, List.getD_eq_getElem?_getD, e1, e2]
    exact SqT_keep (ht3 _ _ _ e1 e2) hS1.kp
  clear hS
  have hS : SH [fo] H3 H3 [(fo, rowO [])] := hS1.blk.sh
  refine u_forT (xs := (ais.getD k AI0).bs.map V.int) (fun i σ H' => ∃ (r : List Int) (v4 v5 : Option V), σ = [some (.ref u), some (.ref t), some (.int (k : Nat)), some (.ref fo), v4, v5] ∧ SH [fo] H3 H' [(fo, rowO r)] ∧ (r.Nodup ∧ ∀ n ∈ r, 0 ≤ n ∧ n < R) ∧ ∀ n, n ∈ r ↔ ∃ f ∈ (ais.getD k AI0).bs.take i, n ∈ YS.getD f.toNat []) ht ⟨[], _, _, rfl, hS, ⟨List.nodup_nil, no_mem⟩, fun n => ⟨fun h => absurd h List.not_mem_nil, fun ⟨f, h, _⟩ => absurd h List.not_mem_nil⟩⟩ ?_ ?_ ?_
  · rintro i σ H4 _ ⟨r, v4, v5, rfl, hS, _⟩
    exact SqT_keep ht hS.kp
  · clear hS
    rintro i x σ H4 hx ⟨r, v4, v5, rfl, hS, hr, hm⟩
    rw [List.getElem?_map] at hx
    obtain ⟨f, hf, rfl⟩ := Option.map_eq_some_iff.mp hx
    obtain ⟨f0, f1⟩ := hUL0.fl _ hma f (List.mem_of_getElem? hf)
    have hrw := hrow f f0 f1
    have hbf := hbd f.toNat (by omega)
    repeat' walk_at "st"
    refine u_forT (xs := (YS.getD f.toNat []).map V.int) (fun j σ H' => ∃ (r2 : List Int) (v5 : Option V), σ = [some (.ref u), some (.ref t), some (.int (k : Nat)), some (.ref fo), some (.int f), v5] ∧ SH [fo] H3 H' [(fo, rowO r2)] ∧ (r2.Nodup ∧ ∀ n ∈ r2, 0 ≤ n ∧ n < R) ∧ ∀ n, n ∈ r2 ↔ n ∈ r ∨ n ∈ (YS.getD f.toNat []).take j) (SqT_keep hrw hS.kp) ⟨r, _, rfl, hS, hr, fun n => ⟨.inl, fun z => z.elim id fun z => absurd z List.not_mem_nil⟩⟩ ?_ ?_ ?_
    · rintro j σ H5 _ ⟨r2, v5, rfl, hS, _⟩
      exact SqT_keep hrw hS.kp
    · clear hS
      rintro j x σ H5 hx2 ⟨r2, v5, rfl, hS, hr2, hm2⟩
      rw [List.getElem?_map] at hx2
      obtain ⟨n, hn, rfl⟩ := Option.map_eq_some_iff.mp hx2
      have hnb := hbf n (List.mem_of_getElem? hn)
      have hle := nodup_bnd (R := 23) hr2.1 fun n hn => ⟨(hr2.2 n hn).1, by have := (hr2.2 n hn).2; omega⟩
      repeat' walk_at "st"
      refine h_dputI hS (i := 0) rfl (by rw [sizeLine_eq]; omega) (fun H6 hS => ?_)
      refine ⟨addK r2 n, _, rfl, hS, ⟨?_, fun m hm => ?_⟩, fun m => ?_⟩
      · unfold addK
        by_cases q : n ∈ r2
        · rw [if_pos q]; exact hr2.1
        · rw [if_neg q, List.nodup_append]
          exact ⟨hr2.1, by simp, fun a ha b hb e => q (by rw [List.mem_singleton.mp hb] at e; exact e ▸ ha)⟩
      · rcases mem_addK.mp hm with hm | rfl
        · exact hr2.2 m hm
        · exact hnb
      · rw [mem_addK, hm2, List.take_add_one, hn, List.mem_append, or_assoc]
        exact or_congr_right (or_congr_right List.mem_singleton.symm)
    · rintro σ H5 ⟨r2, v5, rfl, hS, hr2, hm2⟩
      rw [List.length_map, List.take_length] at hm2
      refine ⟨r2, _, _, rfl, hS, hr2, fun n => ?_⟩
      rw [hm2, hm, List.take_add_one, hf]
      constructor
      · rintro (⟨g, g1, g2⟩ | h)
        · exact ⟨g, List.mem_append_left _ g1, g2⟩
        · exact ⟨f, List.mem_append_right _ List.mem_cons_self, h⟩
      · rintro ⟨g, g1, g2⟩
        rcases List.mem_append.mp g1 with g1 | g1
        · exact .inl ⟨g, g1, g2⟩
        · rw [List.mem_singleton.mp g1] at g2
          exact .inr g2
  · rintro σ H4 ⟨r, v4, v5, rfl, hS, hr, hm⟩
    rw [List.length_map, List.take_length] at hm
    have h64 : r.length < 64 := by
      have := nodup_bnd (R := 23) hr.1 fun n hn => ⟨(hr.2 n hn).1, by have := (hr.2 n hn).2; omega⟩
      omega
    repeat' walk_at "st"
    refine s_sortRow (hS.get 0 rfl) h64 (fun ys hpm hw => ?_)
    repeat' walk_at "st"
    exact kk p ys _ (SH.callE hS1 hS).kp (SqT.of (hS.get 0 rfl)) fun n => by rw [hpm.mem_iff, hm]
  )) only [↓Hsh.on])
end

/-! ### pairs in rows -/
/-- b put into row a -/
def putP (RS : List (List Int)) (a b : Int) : List (List Int) := RS.set a.toNat (addK (RS.getD a.toNat []) b)
theorem putP_len (RS : List (List Int)) (a b : Int) : (putP RS a b).length = RS.length := List.length_set
theorem nodup_addK {r : List Int} {n : Int} (h : r.Nodup) : (addK r n).Nodup := Hsh.un (by simp (disch := k_dflt (
  refine Hsh.up ?_
  unfold addK
  by_cases q : n ∈ r
  · rw [if_pos q]; exact h
  · rw [if_neg q, List.nodup_append]
    exact ⟨h, by simp, fun a ha b hb e => q (by rw [List.mem_singleton.mp hb] at e; exact e ▸ ha)⟩
  )) only [↓Hsh.on])
theorem mem_putP {RS : List (List Int)} {a b : Int} (h0 : 0 ≤ a) (h1 : a < RS.length) (i : Nat) (n : Int) : n ∈ (putP RS a b).getD i [] ↔ n ∈ RS.getD i [] ∨ ((i : Int) = a ∧ n = b) := Hsh.un (by simp (disch := k_dflt (
  refine Hsh.up ?_
  unfold putP
  by_cases q : a.toNat = i
  · subst q
    rw [getD_set_eq (by omega), mem_addK]
    exact or_congr_right ⟨fun e => ⟨by omega, e⟩, fun e => e.2⟩
  · rw [getD_set_ne q]
    exact ⟨.inl, fun z => z.elim id fun z => absurd (by omega) q⟩
  )) only [↓Hsh.on])
theorem RowsOk.putP {R : Int} {RS : List (List Int)} {a b : Int} (h : RowsOk R RS) (h0 : 0 ≤ b ∧ b < R) : RowsOk R (putP RS a b) := fun r hr => by
  unfold Law.putP at hr
  rcases List.mem_or_eq_of_mem_set hr with hr | rfl
  · exact h r hr
  · refine ⟨nodup_addK h.at.1, fun n hn => ?_⟩
    rcases mem_addK.mp hn with hn | rfl
    · exact h.at.2 n hn
    · exact h0
/-- all pairs of a number of xs and another of ys, both ways -/
def pairP (xs ys : List Int) (i : Nat) (n : Int) : Prop := (i : Int) ≠ n ∧ (((i : Int) ∈ xs ∧ n ∈ ys) ∨ (n ∈ xs ∧ (i : Int) ∈ ys))
theorem pairP_nil (ys : List Int) (i : Nat) (n : Int) : ¬ pairP [] ys i n := fun h => by
  unfold pairP at h
  rcases h.2 with h | h
  · exact absurd h.1 List.not_mem_nil
  · exact absurd h.1 List.not_mem_nil
theorem pairP_nilR (xs : List Int) (i : Nat) (n : Int) : ¬ pairP xs [] i n := fun h => by
  unfold pairP at h
  rcases h.2 with h | h
  · exact absurd h.2 List.not_mem_nil
  · exact absurd h.2 List.not_mem_nil
theorem pairP_appL (xs zs ys : List Int) (i : Nat) (n : Int) : pairP (xs ++ zs) ys i n ↔ pairP xs ys i n ∨ pairP zs ys i n := Hsh.un (by simp (disch := k_dflt (
  refine Hsh.up ?_
  unfold pairP
  simp only [List.mem_append]
  grind
  )) only [↓Hsh.on])
theorem pairP_appR (xs ys zs : List Int) (i : Nat) (n : Int) : pairP xs (ys ++ zs) i n ↔ pairP xs ys i n ∨ pairP xs zs i n := Hsh.un (by simp (disch := k_dflt (
  refine Hsh.up ?_
  unfold pairP
  simp only [List.mem_append]
  grind
  )) only [↓Hsh.on])
theorem pairP_one {x y : Int} (h : x ≠ y) (i : Nat) (n : Int) : pairP [x] [y] i n ↔ ((i : Int) = x ∧ n = y) ∨ ((i : Int) = y ∧ n = x) := Hsh.un (by simp (disch := k_dflt (
  refine Hsh.up ?_
  unfold pairP
  simp only [List.mem_singleton]
  grind
  )) only [↓Hsh.on])
theorem pairP_same (x : Int) (i : Nat) (n : Int) : ¬ pairP [x] [x] i n := Hsh.un (by simp (disch := k_dflt (
  refine Hsh.up ?_
  unfold pairP
  simp only [List.mem_singleton]
  grind
  )) only [↓Hsh.on])
theorem set_getD_self {RS : List (List Int)} {k : Nat} : RS.set k (RS.getD k []) = RS := Hsh.un (by simp (disch := k_dflt (
  refine Hsh.up ?_
  apply List.ext_getElem?
  intro j
  rw [List.getElem?_set]
  by_cases q : k = j
  · subst q
    rw [if_pos rfl, List.getD_eq_getElem?_getD]
    by_cases h : k < RS.length
    · rw [if_pos h, List.getElem?_eq_getElem h]; rfl
    · rw [if_neg h, List.getElem?_eq_none (by omega)]
  · rw [if_neg q]
  )) only [↓Hsh.on])
theorem h_rowput1 {A : List Addr} {H0 H : Hp} {P : Hp → Prop} {F : List Cell} {rs : List Addr} {RS : List (List Int)} {a n : Int} (hS : SH A H0 H (F ++ rCd rs RS)) (hl : rs.length = RS.length) (h0 : 0 ≤ a) (h1 : a < RS.length) (hc : (RS.getD a.toNat []).length ≤ 1000)
    (h : ∀ H', SH A H0 H' (F ++ rCd rs (putP RS a n)) → P H') : dputE (.ref (rs.getD a.toNat 0)) (.int n) (.bl true) H P :=
  h_rowput (k := a.toNat) (cur := RS.getD a.toNat []) (F := F) (by rw [set_getD_self]; exact hS) hl (by omega) hc h
theorem RowsOk.le23 {R : Int} {RS : List (List Int)} (h : RowsOk R RS) (r : R ≤ 23) (k : Nat) : (RS.getD k []).length ≤ 23 :=
  nodup_bnd (R := 23) h.at.1 fun n hn => ⟨(h.at.2 n hn).1, by have := (h.at.2 n hn).2; omega⟩

def sp_add_pairs (K : PySem.W.Frag) : Sp := mk3 fun a b c H Q _ => ∃ (fo p q : Addr) (rs : List Addr) (RS : List (List Int)) (R : Int) (xs ys : List Int), a = .ref fo ∧ b = .ref p ∧ c = .ref q ∧ SqT K H p (xs.map V.int) ∧ SqT K H q (ys.map V.int) ∧ Blk H ((fo, .lst (rs.map V.ref)) :: rCd rs RS) ∧ rs.length = RS.length ∧ (RS.length : Int) = R ∧ R ≤ 23 ∧ RowsOk R RS ∧ (∀ x ∈ xs, 0 ≤ x ∧ x < R) ∧ (∀ y ∈ ys, 0 ≤ y ∧ y < R) ∧
  ∀ RS' H', SH (fo :: rs) H H' ((fo, .lst (rs.map V.ref)) :: rCd rs RS') → RS'.length = RS.length → RowsOk R RS' → (∀ i n, n ∈ RS'.getD i [] ↔ n ∈ RS.getD i [] ∨ pairP xs ys i n) → Q .non H'
section
 local macro_rules | `(tactic| walk_at "st") => `(tactic| first
  | (with_reducible refine s_dput ?_)
  | fail)
theorem ok_add_pairs {P : Program} {w : World} {K : PySem.W.Frag} {mg : Str → Option Value} {base : Heap} (Y : Env w K mg)  : CallOk P w K mg base CX0 1 "add_pairs" ["found", "first", "second"] (sp_add_pairs K) := Hsh.un (by simp (disch := k_dflt (
  refine Hsh.up ?_
  obtain ⟨fd, F⟩ := Y.fd_add_pairs
  refine ⟨_, fd, Y.mg_add_pairs, F.kp, F.bindsN (fun _ _ _ _ _ _ us hl => match us, hl with | [_, _, _], _ => rfl), F.ok sc_add_pairs mk3_len (fun cdv A outer s H vs Q E hr h => ?_)⟩
  have hu := hu_room hr
  obtain ⟨_, _, _, rfl, fo, p, q, rs, RS, R, xs, ys, rfl, rfl, rfl, hp, hq, hB, hl, hR, r23, hok, hx, hy, kk⟩ := h
  have hS : SH (fo :: rs) H H ((fo, .lst (rs.map V.ref)) :: rCd rs RS) := by
    have h := hB.sh
    rw [List.map_cons, rCd_keys hl] at h
    exact h
  have hrl : (rs.map V.ref).length = RS.length := by rw [List.length_map, hl]
  refine ⟨_, PSs.nox (pss_one (ps_for PassesOwn.never rfl (pi_tup (pv 1)) (pg_name (i := 3) sc_add_pairs.nd rfl (Or.inl rfl))
  (pss_one (ps_for PassesOwn.never rfl (pi_tup (pv 2)) (pg_name (i := 4) sc_add_pairs.nd rfl (Or.inl rfl))
  (pss_one (ps_if (pt_cmpR (xNe hu) (pv 3) (pv 4) (nomark _)) (pss_cons (ps_dput (hu1 hu) (pe_ix xIx (pv 0) (pv 3) (fun _ _ => rfl)) (pv 4) pe_bl rfl)
  (pss_one (ps_dput (hu1 hu) (pe_ix xIx (pv 0) (pv 4) (fun _ _ => rfl)) (pv 3) pe_bl rfl))) pss_nil)))))), ?_⟩
  rw [st_add_pairs]
  try simp only [cxK, cxK2, cxW, cxW2]
  clear hu hr F
  repeat' walk_at "st"
  refine u_forT (xs := xs.map V.int) (fun i σ H' => ∃ (RS1 : List (List Int)) (v3 v4 : Option V), σ = [some (.ref fo), some (.ref p), some (.ref q), v3, v4] ∧ SH (fo :: rs) H H' ((fo, .lst (rs.map V.ref)) :: rCd rs RS1) ∧ (RS1.length = RS.length ∧ RowsOk R RS1) ∧ ∀ i' n, n ∈ RS1.getD i' [] ↔ n ∈ RS.getD i' [] ∨ pairP (xs.take i) ys i' n) hp ⟨RS, _, _, rfl, hS, ⟨rfl, hok⟩, fun i' n => ⟨.inl, fun z => z.elim id fun z => absurd z (pairP_nil _ _ _)⟩⟩ ?_ ?_ ?_
  · rintro i σ H1 _ ⟨RS1, v3, v4, rfl, hS, _⟩
    exact SqT_keep hp hS.kp
  · clear hS
    rintro i x σ H1 hxi ⟨RS1, v3, v4, rfl, hS, ⟨hl1, hok1⟩, hm1⟩
    rw [List.getElem?_map] at hxi
    obtain ⟨x, hxx, rfl⟩ := Option.map_eq_some_iff.mp hxi
    obtain ⟨x0, x1⟩ := hx x (List.mem_of_getElem? hxx)
    repeat' walk_at "st"
    refine u_forT (xs := ys.map V.int) (fun j σ H' => ∃ (RS2 : List (List Int)) (v4 : Option V), σ = [some (.ref fo), some (.ref p), some (.ref q), some (.int x), v4] ∧ SH (fo :: rs) H H' ((fo, .lst (rs.map V.ref)) :: rCd rs RS2) ∧ (RS2.length = RS.length ∧ RowsOk R RS2) ∧ ∀ i' n, n ∈ RS2.getD i' [] ↔ n ∈ RS1.getD i' [] ∨ pairP [x] (ys.take j) i' n) (SqT_keep hq hS.kp) ⟨RS1, _, rfl, hS, ⟨hl1, hok1⟩, fun i' n => ⟨.inl, fun z => z.elim id fun z => absurd z (pairP_nilR _ _ _)⟩⟩ ?_ ?_ ?_
    · rintro j σ H2 _ ⟨RS2, v4, rfl, hS, _⟩
      exact SqT_keep hq hS.kp
    · clear hS
      rintro j y σ H2 hyj ⟨RS2, v4, rfl, hS, ⟨hl2, hok2⟩, hm2⟩
      rw [List.getElem?_map] at hyj
      obtain ⟨y, hyy, rfl⟩ := Option.map_eq_some_iff.mp hyj
      obtain ⟨y0, y1⟩ := hy y (List.mem_of_getElem? hyy)
      have etk : ys.take (j + 1) = ys.take j ++ [y] := by rw [List.take_add_one, hyy]; rfl
      repeat' walk_at "st"
      · have e : x = y := by omega
        subst e
        refine ⟨RS2, _, rfl, hS, ⟨hl2, hok2⟩, fun i' n => ?_⟩
        rw [hm2, etk, pairP_appR]
        exact or_congr_right ⟨.inl, fun z => z.elim id fun z => absurd z (pairP_same _ _ _)⟩
      · have e : x ≠ y := by omega
        refine h_rowput1 (F := [_]) hS (hl.trans hl2.symm) x0 (by omega) (by have := hok2.le23 r23 x.toNat; omega) (fun H3 hS => ?_)
        have hok3 := hok2.putP (a := x) (b := y) ⟨y0, y1⟩
        have hl3 := (putP_len RS2 x y).trans hl2
        repeat' walk_at "st"
        refine h_rowput1 (F := [_]) hS (hl.trans hl3.symm) y0 (by omega) (by have := hok3.le23 r23 y.toNat; omega) (fun H4 hS => ?_)
        have hok4 := hok3.putP (a := y) (b := x) ⟨x0, x1⟩
        have hl4 := (putP_len (putP RS2 x y) y x).trans hl3
        repeat' walk_at "st"
        refine ⟨putP (putP RS2 x y) y x, _, rfl, hS, ⟨hl4, hok4⟩, fun i' n => ?_⟩
        rw [mem_putP y0 (by omega), mem_putP x0 (by omega), hm2, etk, pairP_appR, pairP_one e, or_assoc, or_assoc]
    · rintro σ H2 ⟨RS2, v4, rfl, hS, hg, hm2⟩
      refine ⟨RS2, _, _, rfl, hS, hg, fun i' n => ?_⟩
      rw [List.length_map, List.take_length] at hm2
      rw [show xs.take (i + 1) = xs.take i ++ [x] by rw [List.take_add_one, hxx]; rfl, pairP_appL, hm2, hm1, or_assoc]
  · rintro σ H1 ⟨RS1, v3, v4, rfl, hS, ⟨hl1, hok1⟩, hm1⟩
    rw [List.length_map, List.take_length] at hm1
    repeat' walk_at "st"
    exact kk RS1 _ hS hl1 hok1 hm1
  )) only [↓Hsh.on])
end

/-! ### rows of truth values -/
def bCd (bs : List Addr) (BS : List (List Bool)) : List Cell := List.zipWith (fun a r => (a, HO.lst (r.map V.bl))) bs BS
theorem bCd_len {bs : List Addr} {BS : List (List Bool)} (h : bs.length = BS.length) : (bCd bs BS).length = BS.length := by
  unfold bCd
  rw [List.length_zipWith, h, Nat.min_self]
theorem bCd_get {bs : List Addr} {BS : List (List Bool)} (h : bs.length = BS.length) {k : Nat} (hk : k < BS.length) : (bCd bs BS)[k]? = some (bs.getD k 0, HO.lst ((BS.getD k []).map V.bl)) := Hsh.un (by simp (disch := k_dflt (
  refine Hsh.up ?_
  unfold bCd
  rw [List.getElem?_zipWith, List.getD_eq_getElem?_getD, List.getD_eq_getElem?_getD, List.getElem?_eq_getElem (by omega), List.getElem?_eq_getElem hk]
  rfl
  )) only [↓Hsh.on])
theorem bCd_set {bs : List Addr} {BS : List (List Bool)} (h : bs.length = BS.length) {k : Nat} (hk : k < BS.length) (l : List Bool) : (bCd bs BS).set k (bs.getD k 0, HO.lst (l.map V.bl)) = bCd bs (BS.set k l) := Hsh.un (by simp (disch := k_dflt (
  refine Hsh.up ?_
  apply List.ext_getElem?
  intro j
  rw [List.getElem?_set]
  by_cases q : k = j
  · subst q
    rw [if_pos rfl, if_pos (by rw [bCd_len h]; exact hk), bCd_get (by rw [List.length_set]; exact h) (by rw [List.length_set]; exact hk)]
    rw [List.getD_eq_getElem?_getD (l := BS.set k l), List.getElem?_set_self hk]
    rfl
  · rw [if_neg q]
    unfold bCd
    rw [List.getElem?_zipWith, List.getElem?_zipWith, List.getElem?_set_ne q]
  )) only [↓Hsh.on])
theorem bCd_keys : ∀ {bs : List Addr} {BS : List (List Bool)}, bs.length = BS.length → (bCd bs BS).map (·.1) = bs
  | [], [], _ => rfl
  | [], _ :: _, h => nomatch h
  | _ :: _, [], h => nomatch h
  | b :: bs, r :: BS, h => by
    show b :: (bCd bs BS).map (·.1) = b :: bs
    rw [bCd_keys (Nat.succ.inj h)]
/-- True at one place -/
def putB (BS : List (List Bool)) (a b : Int) : List (List Bool) := BS.set a.toNat ((BS.getD a.toNat []).set b.toNat true)
def getB (BS : List (List Bool)) (i j : Nat) : Bool := (BS.getD i []).getD j false
/-- N rows of R truth values -/
def DimB (N R : Nat) (BS : List (List Bool)) : Prop := BS.length = N ∧ ∀ r ∈ BS, r.length = R
theorem DimB.at {N R : Nat} {BS : List (List Bool)} (h : DimB N R BS) {k : Nat} (hk : k < N) : (BS.getD k []).length = R := Hsh.un (by simp (disch := k_dflt (
  refine Hsh.up ?_
  have hk2 : k < BS.length := by rw [h.1]; exact hk
  rw [List.getD_eq_getElem?_getD, List.getElem?_eq_getElem hk2]
  exact h.2 _ (List.getElem_mem hk2)
  )) only [↓Hsh.on])
theorem DimB.put {N R : Nat} {BS : List (List Bool)} {a b : Int} (h : DimB N R BS) (ha : a.toNat < N) : DimB N R (putB BS a b) := Hsh.un (by simp (disch := k_dflt (
  refine Hsh.up ?_
  refine ⟨List.length_set.trans h.1, fun r hr => ?_⟩
  unfold putB at hr
  rcases List.mem_or_eq_of_mem_set hr with hr | rfl
  · exact h.2 r hr
  · rw [List.length_set]; exact h.at ha
  )) only [↓Hsh.on])
theorem getB_put {N R : Nat} {BS : List (List Bool)} {a b : Int} (h : DimB N R BS) (a0 : 0 ≤ a) (a1 : a < N) (b0 : 0 ≤ b) (b1 : b < R) (i j : Nat) : getB (putB BS a b) i j = true ↔ getB BS i j = true ∨ ((i : Int) = a ∧ (j : Int) = b) := Hsh.un (by simp (disch := k_dflt (
  refine Hsh.up ?_
  unfold getB putB
  have hl := h.1
  by_cases q : a.toNat = i
  · subst q
    rw [getD_set_eq (by omega)]
    have hr := h.at (k := a.toNat) (by omega)
    by_cases p : b.toNat = j
    · subst p
      rw [getD_set_eq (by omega)]
      exact ⟨fun _ => .inr ⟨by omega, by omega⟩, fun _ => rfl⟩
    · rw [getD_set_ne p]
      exact ⟨.inl, fun z => z.elim id fun z => absurd (by omega) p⟩
  · rw [getD_set_ne q]
    exact ⟨.inl, fun z => z.elim id fun z => absurd (by omega) q⟩
  )) only [↓Hsh.on])
theorem h_bitput {A : List Addr} {H0 H : Hp} {P : Hp → Prop} {F : List Cell} {bs : List Addr} {BS : List (List Bool)} {N R : Nat} {a b : Int} (hS : SH A H0 H (F ++ bCd bs BS)) (hl : bs.length = BS.length) (h : DimB N R BS) (a0 : 0 ≤ a) (a1 : a < N) (b0 : 0 ≤ b) (b1 : b < R)
    (k : ∀ H', SH A H0 H' (F ++ bCd bs (putB BS a b)) → P H') : rSetL (.ref (bs.getD a.toNat 0)) (.int b) (.bl true) H P := Hsh.un (by simp (disch := k_dflt (
  refine Hsh.up ?_
  have hl2 := h.1
  have hk2 : a.toNat < BS.length := by omega
  have hr := h.at (k := a.toNat) (by omega)
  have e := bCd_get hl hk2
  refine h_setL hS (i := F.length + a.toNat) (xs := (BS.getD a.toNat []).map V.bl) (j := b.toNat) ?_ (ixN_in b0 (by rw [List.length_map, hr]; exact b1)) (set_bls _ _ _) rfl (fun H' hS' => k H' ?_)
  · rw [List.getElem?_append_right (by omega), show F.length + a.toNat - F.length = a.toNat by omega]
    exact e
  · rw [List.set_append_right _ _ (by omega), show F.length + a.toNat - F.length = a.toNat by omega, bCd_set hl hk2] at hS'
    exact hS'
  )) only [↓Hsh.on])
/-- how many are True -/
def totB (BS : List (List Bool)) : Nat := (BS.map fun r => r.count true).sum
theorem totB_le {N R : Nat} : ∀ {BS : List (List Bool)}, (∀ r ∈ BS, r.length = R) → totB BS ≤ BS.length * R
  | [], _ => Nat.zero_le _
  | r :: BS, h => by
    have h1 := totB_le (BS := BS) (N := N) fun x hx => h x (List.mem_cons_of_mem _ hx)
    have h2 := List.count_le_length (a := true) (l := r)
    rw [h r List.mem_cons_self] at h2
    show r.count true + totB BS ≤ (BS.length + 1) * R
    rw [Nat.add_mul]
    omega
theorem totB_set : ∀ {BS : List (List Bool)} {k : Nat} {r : List Bool}, k < BS.length → totB (BS.set k r) + (BS.getD k []).count true = totB BS + r.count true
  | [], _, _, h => absurd h (Nat.not_lt_zero _)
  | x :: BS, 0, r, _ => by
    show (r.count true + totB BS) + x.count true = (x.count true + totB BS) + r.count true
    omega
  | x :: BS, k + 1, r, h => by
    have := totB_set (BS := BS) (k := k) (r := r) (Nat.lt_of_succ_lt_succ h)
    show (x.count true + totB (BS.set k r)) + (BS.getD k []).count true = (x.count true + totB BS) + r.count true
    omega
theorem totB_put {N R : Nat} {BS : List (List Bool)} {a b : Int} (h : DimB N R BS) (a1 : a.toNat < N) (b1 : b.toNat < R) (hb : getB BS a.toNat b.toNat = false) : totB (putB BS a b) = totB BS + 1 := Hsh.un (by simp (disch := k_dflt (
  refine Hsh.up ?_
  have h1 := totB_set (BS := BS) (k := a.toNat) (r := (BS.getD a.toNat []).set b.toNat true) (by rw [h.1]; exact a1)
  have h2 : b.toNat < (BS.getD a.toNat []).length := by rw [h.at a1]; exact b1
  have h3 : (BS.getD a.toNat [])[b.toNat] = false := by
    unfold getB at hb
    rw [List.getD_eq_getElem?_getD (l := BS.getD a.toNat []), List.getElem?_eq_getElem h2] at hb
    exact hb
  rw [List.count_set h2, h3] at h1
  unfold putB
  simp at h1 ⊢
  omega
  )) only [↓Hsh.on])
/-- between what is read and what is live -/
structure LB (ais : List AI) (ds : List (List Int)) (N R : Nat) (BS : List (List Bool)) : Prop where
  dim : DimB N R BS
  rd : ∀ k, k < N → ∀ n ∈ rdL (ais.getD k AI0).os, getB BS k n.toNat = true
  lv : ∀ k j, getB BS k j = true → LvP ais ds k (j : Nat)
theorem LB.put {ais : List AI} {ds : List (List Int)} {N R : Nat} {BS : List (List Bool)} {a b : Int} (h : LB ais ds N R BS) (a0 : 0 ≤ a) (a1 : a < N) (b0 : 0 ≤ b) (b1 : b < R) (l : LvP ais ds a.toNat b) : LB ais ds N R (putB BS a b) := Hsh.un (by simp (disch := k_dflt (
  refine Hsh.up ?_
  refine ⟨h.dim.put (by omega), fun k hk n hn => (getB_put h.dim a0 a1 b0 b1 _ _).mpr (.inl (h.rd k hk n hn)), fun k j hj => ?_⟩
  rcases (getB_put h.dim a0 a1 b0 b1 _ _).mp hj with hj | ⟨e1, e2⟩
  · exact h.lv k j hj
  · rw [show k = a.toNat by omega, e2]
    exact l
  )) only [↓Hsh.on])
def ClosedB (ais : List AI) (ds : List (List Int)) (R : Nat) (BS : List (List Bool)) (k : Nat) : Prop := ∀ y, isWay ais ds k y → ∀ j, j < R → getB BS y.1.toNat j = true → (j : Int) ∉ y.2 → getB BS k j = true
theorem bits_lv {K : PySem.W.Frag} {H : Hp} {u : Addr} {R : Int} {ais : List AI} {ds : List (List Int)} {BS : List (List Bool)} (hU : UL K H u R ais ds) (h : LB ais ds ais.length R.toNat BS) (hc : ∀ k, k < ais.length → ClosedB ais ds R.toNat BS k) {k : Nat} {n : Int} (l : LvP ais ds k n) : k < ais.length → (0 ≤ n ∧ n < R) ∧ getB BS k n.toNat = true := Hsh.un (by simp (disch := k_dflt (
  refine Hsh.up ?_
  have hm : ∀ k, k < ais.length → ais.getD k AI0 ∈ ais := fun k hk => by
    rw [List.getD_eq_getElem?_getD, List.getElem?_eq_getElem hk]
    exact List.getElem_mem _
  induction l with
  | rd h1 => exact fun hk => ⟨hU.rd _ (hm _ hk) _ h1, h.rd _ hk _ h1⟩
  | @go k n f h1 l w ih =>
    intro hk
    have hw : isWay ais ds k (f, (ais.getD k AI0).ws) := .inl ⟨h1, rfl⟩
    obtain ⟨b0, b1⟩ := way_bnd hU hk hw
    have b0 : 0 ≤ f := b0
    have b1 : f < ais.length := b1
    obtain ⟨nb, hb⟩ := ih (by omega)
    refine ⟨nb, hc k hk _ hw n.toNat (by omega) hb ?_⟩
    rw [show ((n.toNat : Nat) : Int) = n by omega]
    exact w
  | @ex k n d h1 e l h3 h4 ih =>
    intro hk
    have hw : isWay ais ds k (d.getD 2 0, [d.getD 3 0, d.getD 4 0]) := .inr ⟨h1, d, e, rfl⟩
    obtain ⟨b0, b1⟩ := way_bnd hU hk hw
    have b0 : 0 ≤ d.getD 2 0 := b0
    have b1 : d.getD 2 0 < ais.length := b1
    obtain ⟨nb, hb⟩ := ih (by omega)
    refine ⟨nb, hc k hk _ hw n.toNat (by omega) hb ?_⟩
    rw [show ((n.toNat : Nat) : Int) = n by omega]
    simp only [List.mem_cons, List.not_mem_nil, or_false, not_or]
    exact ⟨h3, h4⟩
  )) only [↓Hsh.on])
theorem LvP.way {ais : List AI} {ds : List (List Int)} {k : Nat} {y : Int × List Int} {n : Int} (w : isWay ais ds k y) (l : LvP ais ds y.1.toNat n) (h : n ∉ y.2) : LvP ais ds k n := Hsh.un (by simp (disch := k_dflt (
  refine Hsh.up ?_
  rcases w with ⟨h1, e⟩ | ⟨h1, d, e1, e2⟩
  · exact .go h1 l (e ▸ h)
  · subst e2
    simp only [List.mem_cons, List.not_mem_nil, or_false, not_or] at h
    exact .ex h1 e1 l h.1 h.2
  )) only [↓Hsh.on])

/-! ### the law's own matrix of truth values -/
def rowB (os : List Opd) (R : Nat) : List Bool := (List.range R).map fun (j : Nat) => decide ((j : Int) ∈ rdL os)
theorem rowB_len (os : List Opd) (R : Nat) : (rowB os R).length = R := by
  unfold rowB
  rw [List.length_map, List.length_range]
theorem rowB_get {os : List Opd} {R j : Nat} (h : j < R) : (rowB os R).getD j false = decide ((j : Int) ∈ rdL os) := Hsh.un (by simp (disch := k_dflt (
  refine Hsh.up ?_
  unfold rowB
  rw [List.getD_eq_getElem?_getD, List.getElem?_map, List.getElem?_range h]
  rfl
  )) only [↓Hsh.on])
theorem rowB_succ (os : List Opd) (j : Nat) : rowB os (j + 1) = rowB os j ++ [decide ((j : Int) ∈ rdL os)] := Hsh.un (by simp (disch := k_dflt (
  refine Hsh.up ?_
  unfold rowB
  rw [List.range_succ, List.map_append]
  rfl
  )) only [↓Hsh.on])
theorem toNat_mul1 {N : Nat} {R : Int} (h : 0 ≤ R) : ((N : Int) * R + 1).toNat = N * R.toNat + 1 := Hsh.un (by simp (disch := k_dflt (
  refine Hsh.up ?_
  obtain ⟨r, rfl⟩ := Int.eq_ofNat_of_zero_le h
  have e : (N : Int) * (r : Int) = ((N * r : Nat) : Int) := (Int.natCast_mul N r).symm
  rw [e, Int.toNat_natCast]
  omega
  )) only [↓Hsh.on])
theorem mul_bnd {N : Nat} {R : Int} (h0 : 0 ≤ R) (h1 : R ≤ 23) (h2 : N ≤ 64) : 0 ≤ (N : Int) * R ∧ (N : Int) * R ≤ 1472 := Hsh.un (by simp (disch := k_dflt (
  refine Hsh.up ?_
  obtain ⟨r, rfl⟩ := Int.eq_ofNat_of_zero_le h0
  have e : (N : Int) * (r : Int) = ((N * r : Nat) : Int) := (Int.natCast_mul N r).symm
  have := Nat.mul_le_mul h2 (show r ≤ 23 by omega)
  rw [e]
  omega
  )) only [↓Hsh.on])
theorem perm_c2 {a b : Cell} {X Y : List Cell} : (a :: (X ++ (b :: Y))).Perm (b :: a :: (X ++ Y)) := List.perm_middle (l₁ := a :: X)
/-- a way that asks for nothing more -/
def CW (BS : List (List Bool)) (k : Nat) (y : Int × List Int) (j : Nat) : Prop := getB BS y.1.toNat j = true → (j : Int) ∉ y.2 → getB BS k j = true
theorem bCd_snoc {bs : List Addr} {BS : List (List Bool)} {p : Addr} {r : List Bool} (h : bs.length = BS.length) : bCd (bs ++ [p]) (BS ++ [r]) = bCd bs BS ++ [(p, .lst (r.map V.bl))] := Hsh.un (by simp (disch := k_dflt (
  refine Hsh.up ?_
  unfold bCd
  rw [List.zipWith_append h]
  rfl
  )) only [↓Hsh.on])
/-- the ways of the first places -/
def WaysC (ais : List AI) (ds : List (List Int)) (L : List Cell) (ws : List Addr) : Prop := ∀ (k : Nat) (a : Addr), ws[k]? = some a → ∃ (ps : List Addr) (ys : List (Int × List Int)), (a, HO.lst (ps.map V.ref)) ∈ L ∧ WayC L ps ys ∧ ∀ y, y ∈ ys ↔ isWay ais ds k y
theorem WaysC.nil {ais : List AI} {ds : List (List Int)} {L : List Cell} : WaysC ais ds L [] := fun k a h => nomatch h
theorem WaysC.snoc {ais : List AI} {ds : List (List Int)} {L Lx : List Cell} {ws ps : List Addr} {ys : List (Int × List Int)} {l : Addr} (h : WaysC ais ds L ws) (hW : WayC Lx ps ys) (hy : ∀ y, y ∈ ys ↔ isWay ais ds ws.length y) : WaysC ais ds ((l, .lst (ps.map V.ref)) :: (Lx ++ L)) (ws ++ [l]) := Hsh.un (by simp (disch := k_dflt (
  refine Hsh.up ?_
  intro k a e
  by_cases hk : k < ws.length
  · rw [List.getElem?_append_left hk] at e
    obtain ⟨ps, ys, h1, h2, h3⟩ := h k a e
    exact ⟨ps, ys, .tail _ (List.mem_append_right _ h1), h2.mono fun c hc => .tail _ (List.mem_append_right _ hc), h3⟩
  · have hk2 : k = ws.length := by
      have := (List.getElem?_eq_some_iff.mp e).1
      rw [List.length_append, List.length_singleton] at this
      omega
    subst hk2
    rw [List.getElem?_append_right (Nat.le_refl _), Nat.sub_self] at e
    cases e
    exact ⟨ps, ys, .head _, hW.mono fun c hc => .tail _ (List.mem_append_left _ hc), hy⟩
  )) only [↓Hsh.on])
/-- a turn in the making: nothing grew, then C holds of the rows as they were; or they grew -/
structure PrB (ais : List AI) (ds : List (List Int)) (N R : Nat) (B0 : List (List Bool)) (C : Prop) (b : Bool) (BS : List (List Bool)) : Prop where
  lb : LB ais ds N R BS
  no : b = false → BS = B0 ∧ C
  yes : b = true → totB B0 < totB BS
theorem PrB.mono {ais : List AI} {ds : List (List Int)} {N R : Nat} {B0 BS : List (List Bool)} {C C' : Prop} {b : Bool} (h : PrB ais ds N R B0 C b BS) (f : BS = B0 → C → C') : PrB ais ds N R B0 C' b BS := ⟨h.lb, fun e => ⟨(h.no e).1, f (h.no e).1 (h.no e).2⟩, h.yes⟩
theorem PrB.le {ais : List AI} {ds : List (List Int)} {N R : Nat} {B0 BS : List (List Bool)} {C : Prop} {b : Bool} (h : PrB ais ds N R B0 C b BS) : totB B0 ≤ totB BS := Hsh.un (by simp (disch := k_dflt (
  refine Hsh.up ?_
  cases b with
  | false => rw [(h.no rfl).1]; exact Nat.le_refl _
  | true => exact Nat.le_of_lt (h.yes rfl)
  )) only [↓Hsh.on])
theorem PrB.put {ais : List AI} {ds : List (List Int)} {N R : Nat} {B0 BS : List (List Bool)} {C C' : Prop} {b : Bool} {x y : Int} (h : PrB ais ds N R B0 C b BS) (x0 : 0 ≤ x) (x1 : x < N) (y0 : 0 ≤ y) (y1 : y < R) (l : LvP ais ds x.toNat y) (f : getB BS x.toNat y.toNat = false) : PrB ais ds N R B0 C' true (putB BS x y) :=
  ⟨h.lb.put x0 x1 y0 y1 l, (fun e => nomatch e), fun _ => by
    have h1 := h.le
    have h2 := totB_put (a := x) (b := y) h.lb.dim (by omega) (by omega) f
    omega⟩
theorem atI_bl2 {bs : List Bool} {i : Int} (h0 : 0 ≤ i) (h1 : i < bs.length) : atI (bs.map V.bl) i = some (.bl (bs.getD i.toNat false)) := atI_bls h0 (by rw [List.length_map]; exact h1)
def sp_z_live (K : PySem.W.Frag) : Sp := mk1 fun a H Q _ => ∃ (u : Addr) (R : Int) (ais : List AI) (ds : List (List Int)), a = .ref u ∧ UL K H u R ais ds ∧
  ∀ (lr : Addr) (bs : List Addr) (BS : List (List Bool)) H', SH [] H H' ((lr, .lst (bs.map V.ref)) :: bCd bs BS) → bs.length = BS.length → DimB ais.length R.toNat BS → (∀ k, k < ais.length → ∀ j, j < R.toNat → (getB BS k j = true ↔ LvP ais ds k (j : Nat))) → Q (.ref lr) H'
section
 local macro_rules | `(tactic| walk_at "hp") => `(tactic| exact hS.kp.k _ _ huu (.inl (fun z => nomatch z)))
 local macro_rules | `(tactic| walk_at "at") => `(tactic| first | exact atI_bls (by walk_at "ar") (by walk_at "ar") | fail)
theorem ok_z_live {P : Program} {w : World} {K : PySem.W.Frag} {mg : Str → Option Value} {base : Heap} (Y : Env w K mg) (G_z_reads : CallOk P w K mg base CX0 2 "_law_reads" ["_law_instruction_here"] (sp_z_reads K)) (G_z_ways : CallOk P w K mg base CX0 2 "_law_ways" ["_law_unit_here", "_law_index"] (sp_z_ways K)) : CallOk P w K mg base CX0 3 "_law_live" ["_law_unit_here"] (sp_z_live K) := Hsh.un (by simp (disch := k_dflt (
  refine Hsh.up ?_
  obtain ⟨fd, F⟩ := Y.fd_z_live
  refine ⟨_, fd, Y.mg_z_live, F.kp, F.bindsN (fun _ _ _ _ _ _ us hl => match us, hl with | [_], _ => rfl), F.ok sc_z_live mk1_len (fun cdv A outer s H vs Q E hr h => ?_)⟩
  have hu := hu_room hr
  obtain ⟨_, rfl, u, R, ais, ds, rfl, hUL0, kk⟩ := h
  obtain ⟨dx, cd, rg, w0, cs, gs, huu, ew, hcd, hrg, hcl, hregs, hg5, hins⟩ := hUL0.at
  subst ew
  have hS : SH [] H H [] := SH.start0
  have n64 := hUL0.n64
  have r3 := hUL0.r3
  have r23 := hUL0.r23
  have hcl2 : cs.length = ais.length := by rw [List.length_map] at hcl; exact hcl
  refine ⟨_, PSs.nox (pss_cons (ps_set (i := 1) sc_z_live.nd rfl (Or.inl rfl) (pe_callB x_len rfl Y.z_len (by decide +kernel) (pa_cons (pe_fld (pv 0) rfl) pa_nil)))
  (pss_cons (ps_setLc (i := 4) (own := [("_law_instruction_here", 2)]) (g := gName 2) rfl sc_z_live.nd rfl rfl (sw_true rfl rfl rfl (by decide +kernel)) (pi_tup (pe_fld (pv 0) rfl)) (blkOk_by (N := N_z_live) (sc := defScope s_z_live) (by decide +kernel)) (fun _ _ _ _ _ => pg_name (i := 2) sc_z_live.nd rfl (Or.inr rfl)) (fun _ _ _ _ _ => pts_nil) (fun _ _ _ _ _ => (pe_lc (own := [("_law_k", 3)]) (g := gName 3) rfl sc_z_live.nd (pi_range1 rfl Y.z_range (pa_cons (PE.k (K := K) (t := fun K => tFld K _ "registers") (pe_fld (pv 0) rfl) rfl) pa_nil)) (blkOk_by (by kernel_rfl)) (fun _ _ _ _ _ => pg_name (i := 3) sc_z_live.nd rfl (Or.inl rfl)) (fun _ _ _ _ _ => pts_nil) (fun _ _ _ _ _ => (pe_cmpR (OpR.k (K := K) (r := (fun K => rInX K false)) xIn rfl) (pv 3) (pe_callG G_z_reads hr rfl pass0 (pa_cons (pv 2) pa_nil)) rfl)))))
  (pss_cons (ps_setLc (i := 6) (own := [("_law_index", 5)]) (g := gName 5) rfl sc_z_live.nd rfl rfl (sw_true rfl rfl rfl (by decide +kernel)) (pi_range1 rfl Y.z_range (pa_cons (pv 1) pa_nil)) (blkOk_by (N := N_z_live) (sc := defScope s_z_live) (by decide +kernel)) (fun _ _ _ _ _ => pg_name (i := 5) sc_z_live.nd rfl (Or.inl rfl)) (fun _ _ _ _ _ => pts_nil) (fun _ _ _ _ _ => (pe_callG G_z_ways hr rfl pass0 (pa_cons (pv 0) (pa_cons (pv 5) pa_nil)))))
  (pss_cons (ps_for PassesOwn.never rfl (pi_range1 rfl Y.z_range (pa_cons (pe_op xAdd (pe_op xMul (pv 1) (pe_fld (pv 0) rfl)) pe_int) pa_nil)) (pg_name (i := 7) sc_z_live.nd rfl (Or.inl rfl))
  (pss_cons (ps_set (i := 8) sc_z_live.nd rfl (Or.inl rfl) pe_bl)
  (pss_cons (ps_for PassesOwn.never rfl (pi_range1 rfl Y.z_range (pa_cons (pv 1) pa_nil)) (pg_name (i := 9) sc_z_live.nd rfl (Or.inl rfl))
  (pss_cons (ps_set (i := 5) sc_z_live.nd rfl (Or.inl rfl) (pe_op op_sub (pe_op op_sub (pv 1) pe_int) (pv 9)))
  (pss_one (ps_for PassesOwn.never rfl (pi_list (pe_ix xIx (pv 6) (pv 5) (fun _ _ => rfl))) (pg_name (i := 10) sc_z_live.nd rfl (Or.inl rfl))
  (pss_one (ps_for PassesOwn.never rfl (pi_range1 rfl Y.z_range (pa_cons (pe_fld (pv 0) rfl) pa_nil)) (pg_name (i := 3) sc_z_live.nd rfl (Or.inl rfl))
  (pss_one (ps_if (PW.pt (pw_and (pt_val (pe_ix xIx (pe_ix xIx (pv 4) (pe_ix xIx (pv 10) pe_int (fun _ _ => rfl)) (fun _ _ => rfl)) (pv 3) (fun _ _ => rfl))) (pw_and (pt_not (pt_val (pe_ix xIx (pe_ix xIx (pv 4) (pv 5) (fun _ _ => rfl)) (pv 3) (fun _ _ => rfl)))) (pw_and1 (pt_cmpR xNotIn (pv 3) (pe_ix xIx (pv 10) pe_int (fun _ _ => rfl)) rfl))))) (pss_cons (ps_set (i := 11) sc_z_live.nd rfl (Or.inl rfl) (pe_ix xIx (pv 4) (pv 5) (fun _ _ => rfl)))
  (pss_cons (ps_asg pe_bl (pg_sub (pv 11) (pv 3) set_list))
  (pss_one (ps_set (i := 8) sc_z_live.nd rfl (Or.inl rfl) pe_bl)))) pss_nil))))))))
  (pss_one (ps_if (pt_not (pt_val (pv 8))) (pss_one (ps_ret (pv 4))) pss_nil)))))
  (pss_one (ps_ret (pv 4))))))), ?_⟩
  rw [st_z_live]
  try simp only [cxK, cxK2, cxW, cxW2]
  clear hu hr F
  repeat' walk_at "st"
  refine u_lcTG (xs := cs.map V.ref) hS (fun D k H' => ∃ bs : List Addr, bs.length = k ∧ SH [] H H' ((D, .lst (bs.map V.ref)) :: bCd bs ((ais.take k).map fun (a : AI) => rowB a.os w0.rg.toNat))) hcd (fun D H1 hS => ⟨[], rfl, hS⟩) (fun D k H1 _ h => by obtain ⟨bs, _, hS⟩ := h; exact SqT_keep hcd hS.kp) ?_ ?_
  · clear hS
    rintro D k x H1 hx ⟨bs, hbl, hS⟩
    rw [List.getElem?_map] at hx
    obtain ⟨l, hl, rfl⟩ := Option.map_eq_some_iff.mp hx
    have hk : k < ais.length := by have := (List.getElem?_eq_some_iff.mp hl).1; omega
    have el : cs.getD k 0 = l := by rw [List.getD_eq_getElem?_getD, hl]; rfl
    obtain ⟨qs, hI⟩ := hins k hk
    rw [el] at hI
    have ea : ais.take (k + 1) = ais.take k ++ [ais.getD k AI0] := by
      rw [List.take_add_one, List.getD_eq_getElem?_getD, List.getElem?_eq_getElem hk]
      rfl
    have hbl2 : (bs.map V.ref).length = k := by rw [List.length_map]; exact hbl
    repeat' walk_at "st"
    refine u_lcR1 hS (fun D2 j H' => SH [] H H' ((D2, .lst ((rowB (ais.getD k AI0).os j).map V.bl)) :: (D, .lst (bs.map V.ref)) :: bCd bs ((ais.take k).map fun (a : AI) => rowB a.os w0.rg.toNat))) (by omega) (by omega) (fun D2 H2 hS => hS) ?_ ?_
    · clear hS
      rintro D2 j H2 hj hS
      repeat' walk_at "st"
      refine c_z_reads hS (hI.keep hS.kp) (fun l2 Lx H3 hS _ => ?_)
      repeat' walk_at "st"
      refine s_inL0 (SqL.of (hS.get 0 rfl)) rfl (flat_ints _) ?_
      rw [inV_ints]
      have hS := hS.sub (List.Sublist.cons _ (List.sublist_append_right Lx _))
      refine h_lcEnd hS (i := 0) rfl (by rw [List.length_map, rowB_len, sizeLine_eq]; omega) rfl rfl (fun H4 hS => ?_)
      rw [rowB_succ, List.map_append]
      exact hS
    · clear hS
      rintro D2 H2 hS
      repeat' walk_at "st"
      refine ⟨bs ++ [D2], by rw [List.length_append, hbl]; rfl, ?_⟩
      rw [ea, List.map_append (l₁ := List.take k ais), List.map_append (l₁ := bs), List.map_singleton (a := ais.getD k AI0), bCd_snoc (by rw [hbl, List.length_map, List.length_take]; omega)]
      exact hS.perm (List.perm_append_singleton _ (_ :: bCd bs _)).symm
  · clear hS
    rintro lr H1 ⟨bs, hbl, hS⟩
    rw [hcl, List.take_length] at hS
    have hbl : bs.length = ais.length := by rw [hbl, hcl]
    have hB0 : LB ais ds ais.length w0.rg.toNat (ais.map fun (a : AI) => rowB a.os w0.rg.toNat) := by
      refine ⟨⟨List.length_map _, fun r hr => ?_⟩, fun k hk n hn => ?_, fun k j hj => ?_⟩
      · obtain ⟨a, _, rfl⟩ := List.mem_map.mp hr
        exact rowB_len _ _
      · have hm : ais.getD k AI0 ∈ ais := by
          rw [List.getD_eq_getElem?_getD, List.getElem?_eq_getElem hk]
          exact List.getElem_mem _
        obtain ⟨n0, n1⟩ := hUL0.rd _ hm n hn
        unfold getB
        rw [List.getD_eq_getElem?_getD (l := List.map _ _), List.getElem?_map, List.getElem?_eq_getElem hk]
        show (rowB (ais[k]).os _).getD _ _ = _
        rw [rowB_get (by omega), decide_eq_true_iff, show ((n.toNat : Nat) : Int) = n by omega]
        rw [List.getD_eq_getElem?_getD, List.getElem?_eq_getElem hk] at hn
        exact hn
      · by_cases hk : k < ais.length
        · unfold getB at hj
          rw [List.getD_eq_getElem?_getD (l := List.map _ _), List.getElem?_map, List.getElem?_eq_getElem hk] at hj
          have hj : (rowB (ais[k]).os w0.rg.toNat).getD j false = true := hj
          by_cases hjr : j < w0.rg.toNat
          · rw [rowB_get hjr, decide_eq_true_iff] at hj
            refine .rd ?_
            rw [List.getD_eq_getElem?_getD, List.getElem?_eq_getElem hk]
            exact hj
          · rw [List.getD_eq_getElem?_getD, List.getElem?_eq_none (by rw [rowB_len]; omega)] at hj
            cases hj
        · unfold getB at hj
          rw [List.getD_eq_getElem?_getD (l := List.map _ _), List.getElem?_eq_none (by rw [List.length_map]; omega)] at hj
          cases hj
    generalize (ais.map fun (a : AI) => rowB a.os w0.rg.toNat) = B0 at hS hB0
    repeat' walk_at "st"
    refine u_lcR1 hS (fun D2 k H' => ∃ (wl : List Addr) (Lx : List Cell), wl.length = k ∧ WaysC ais ds Lx wl ∧ SH [] H H' ((D2, .lst (wl.map V.ref)) :: (Lx ++ ((lr, .lst (bs.map V.ref)) :: bCd bs B0)))) (by omega) (by omega) (fun D2 H2 hS => ⟨[], [], rfl, .nil, hS⟩) ?_ ?_
    · clear hS
      rintro D2 k H2 hk ⟨wl, Lx, hwl, hW, hS⟩
      have hwl2 : (wl.map V.ref).length = k := by rw [List.length_map]; exact hwl
      repeat' walk_at "st"
      refine c_z_ways hS (hUL0.keep hS.kp (fun z => nomatch z)) (by omega) (fun l Ly ps ys H3 hS hY hys => ?_)
      have hS := hS.perm perm_c2
      refine h_lcEnd hS (i := 0) rfl (by rw [hwl2, sizeLine_eq]; omega) rfl rfl (fun H4 hS => ?_)
      refine ⟨wl ++ [l], (l, .lst (ps.map V.ref)) :: (Ly ++ Lx), by rw [List.length_append, hwl]; rfl, hW.snoc hY (by rw [hwl]; exact hys), ?_⟩
      rw [List.map_append, List.cons_append, List.append_assoc]
      exact hS
    · clear hS
      rintro D2 H2 ⟨wl, Lx, hwl, hW, hS⟩
      have hS := hS.perm (List.Perm.cons _ List.perm_middle)
      have hwl : wl.length = ais.length := by omega
      have hwl2 : (wl.map V.ref).length = ais.length := by rw [List.length_map]; exact hwl
      have hbl2 : (bs.map V.ref).length = ais.length := by rw [List.length_map]; exact hbl
      obtain ⟨hNR0, hNR1⟩ := mul_bnd (N := ais.length) (R := w0.rg) (by omega) r23 n64
      repeat' walk_at "st"
      rw [hcl]
      refine u_forR1 (fun j σ H' => ∃ (BS : List (List Bool)) (v3 v5 v7 v8 v9 v10 v11 : Option V), σ = [some (.ref u), some (.int (ais.length : Nat)), none, v3, some (.ref lr), v5, some (.ref D2), v7, v8, v9, v10, v11] ∧ SH [] H H' ((D2, .lst (wl.map V.ref)) :: (lr, .lst (bs.map V.ref)) :: (Lx ++ bCd bs BS)) ∧ LB ais ds ais.length w0.rg.toNat BS ∧ j ≤ totB BS) (by omega) (by omega) ⟨B0, _, _, _, _, _, _, _, rfl, hS, hB0, Nat.zero_le _⟩ ?_ ?_
      · clear hS
        rintro j σ H3 hj ⟨BS, v3, v5, v7, v8, v9, v10, v11, rfl, hS, hLB, htot⟩
        repeat' walk_at "st"
        refine u_forR1 (fun i σ H' => ∃ (BS' : List (List Bool)) (b : Bool) (v3 v5 v9 v10 v11 : Option V), σ = [some (.ref u), some (.int (ais.length : Nat)), none, v3, some (.ref lr), v5, some (.ref D2), some (.int (j : Nat)), some (.bl b), v9, v10, v11] ∧ SH [] H H' ((D2, .lst (wl.map V.ref)) :: (lr, .lst (bs.map V.ref)) :: (Lx ++ bCd bs BS')) ∧ PrB ais ds ais.length w0.rg.toNat BS (∀ m, m < i → ClosedB ais ds w0.rg.toNat BS (ais.length - 1 - m)) b BS') (by omega) (by omega) ⟨BS, false, _, _, _, _, _, rfl, hS, hLB, fun _ => ⟨rfl, fun m hm => absurd hm (Nat.not_lt_zero _)⟩, fun e => nomatch e⟩ ?_ ?_
        · clear hS
          rintro i σ H4 hi ⟨BS1, b, v3, v5, v9, v10, v11, rfl, hS, hP⟩
          obtain ⟨kx, ekx⟩ : ∃ kx : Nat, (ais.length : Int) - 1 - (i : Int) = kx := ⟨ais.length - 1 - i, by omega⟩
          have hkx : kx < ais.length := by omega
          repeat' walk_at "st"
          rw [ekx, Int.toNat_natCast]
          obtain ⟨ps, ys, hw1, hW2, hys⟩ := hW kx (wl.getD kx 0) (by rw [List.getD_eq_getElem?_getD, List.getElem?_eq_getElem (by omega)]; rfl)
          have hq : ∀ {H' : Hp} {BS' : List (List Bool)}, SH [] H H' ((D2, .lst (wl.map V.ref)) :: (lr, .lst (bs.map V.ref)) :: (Lx ++ bCd bs BS')) → SqL K H' (wl.getD kx 0) (ps.map V.ref) := fun hS => SqL.of (hS.hs _ (.tail _ (.tail _ (List.mem_append_left _ hw1))))
          refine u_forL (xs := ps.map V.ref) (fun m σ H' => ∃ (BS' : List (List Bool)) (b : Bool) (v3 v10 v11 : Option V), σ = [some (.ref u), some (.int (ais.length : Nat)), none, v3, some (.ref lr), some (.int (kx : Nat)), some (.ref D2), some (.int (j : Nat)), some (.bl b), some (.int (i : Nat)), v10, v11] ∧ SH [] H H' ((D2, .lst (wl.map V.ref)) :: (lr, .lst (bs.map V.ref)) :: (Lx ++ bCd bs BS')) ∧ PrB ais ds ais.length w0.rg.toNat BS ((∀ m, m < i → ClosedB ais ds w0.rg.toNat BS (ais.length - 1 - m)) ∧ ∀ m' y, m' < m → ys[m']? = some y → ∀ n, n < w0.rg.toNat → CW BS kx y n) b BS') (hq hS) ⟨BS1, b, _, _, _, rfl, hS, hP.mono fun _ h => ⟨h, fun m' y hm => absurd hm (Nat.not_lt_zero _)⟩⟩ ?_ ?_ ?_
          · rintro m σ H5 _ ⟨BS2, b2, v3, v10, v11, rfl, hS, _⟩
            exact hq hS
          · clear hS hP
            rintro m x σ H5 hx ⟨BS2, b2, v3, v10, v11, rfl, hS, hP⟩
            rw [List.getElem?_map] at hx
            obtain ⟨p, hp, rfl⟩ := Option.map_eq_some_iff.mp hx
            obtain ⟨y, hy⟩ : ∃ y, ys[m]? = some y := ⟨_, List.getElem?_eq_getElem (by rw [← hW2.1]; exact (List.getElem?_eq_some_iff.mp hp).1)⟩
            obtain ⟨w, hw2, hw3⟩ := hW2.2 m p y hp hy
            have hyw : isWay ais ds kx y := (hys y).mp (List.mem_of_getElem? hy)
            obtain ⟨hb0, hb1⟩ := way_bnd hUL0 hkx hyw
            repeat' walk_at "st"
            refine u_forR1 (fun n σ H' => ∃ (BS' : List (List Bool)) (b : Bool) (v3 v11 : Option V), σ = [some (.ref u), some (.int (ais.length : Nat)), none, v3, some (.ref lr), some (.int (kx : Nat)), some (.ref D2), some (.int (j : Nat)), some (.bl b), some (.int (i : Nat)), some (.ref p), v11] ∧ SH [] H H' ((D2, .lst (wl.map V.ref)) :: (lr, .lst (bs.map V.ref)) :: (Lx ++ bCd bs BS')) ∧ PrB ais ds ais.length w0.rg.toNat BS (((∀ m, m < i → ClosedB ais ds w0.rg.toNat BS (ais.length - 1 - m)) ∧ ∀ m' y, m' < m → ys[m']? = some y → ∀ n, n < w0.rg.toNat → CW BS kx y n) ∧ ∀ n', n' < n → CW BS kx y n') b BS') (by omega) (by omega) ⟨BS2, b2, _, _, rfl, hS, hP.mono fun _ h => ⟨h, fun n' hn => absurd hn (Nat.not_lt_zero _)⟩⟩ ?_ ?_
            · clear hS hP
              rintro n σ H6 hn ⟨BS3, b3, v3, v11, rfl, hS, hP⟩
              have hD := hP.lb.dim
              have hbl3 : bs.length = BS3.length := hbl.trans hD.1.symm
              have hpw : H6 p = some (.lst [.int y.1, .ref w]) := hS.hs (p, _) (.tail _ (.tail _ (List.mem_append_left _ hw2)))
              have hww : H6 w = some (.lst (y.2.map V.int)) := hS.hs (w, _) (.tail _ (.tail _ (List.mem_append_left _ hw3)))
              have hr1 : H6 (bs.getD y.1.toNat 0) = some (.lst ((BS3.getD y.1.toNat []).map V.bl)) := hS.hs _ (.tail _ (.tail _ (List.mem_append_right _ (List.mem_of_getElem? (bCd_get hbl3 (by rw [hD.1]; omega))))))
              have hr2 : H6 (bs.getD kx 0) = some (.lst ((BS3.getD kx []).map V.bl)) := hS.hs _ (.tail _ (.tail _ (List.mem_append_right _ (List.mem_of_getElem? (bCd_get hbl3 (by rw [hD.1]; omega))))))
              have hl1 : ((BS3.getD y.1.toNat []).map V.bl).length = w0.rg.toNat := by rw [List.length_map]; exact hD.at (by omega)
              have hl2 : ((BS3.getD kx []).map V.bl).length = w0.rg.toNat := by rw [List.length_map]; exact hD.at (by omega)
              repeat' walk_at "st"
              · rename_i hc2
                rw [Int.toNat_natCast] at hc
                refine ⟨BS3, b3, _, _, rfl, hS, hP.mono fun e h => ⟨h.1, fun n' hn' => ?_⟩⟩
                by_cases q : n' < n
                · exact h.2 n' q
                · obtain rfl : n' = n := by omega
                  exact fun _ _ => e ▸ hc
              · rename_i hc2
                rw [Int.toNat_natCast] at hc hc2
                refine s_niL0 (SqL.of hww) rfl (flat_ints _) ⟨_, rfl, ?_⟩
                rw [inV_ints]
                refine i_not (i_dec (fun h2 => ?_) (fun h2 => ?_))
                · repeat' walk_at "st"
                  refine ⟨BS3, b3, _, _, rfl, hS, hP.mono fun e h => ⟨h.1, fun n' hn' => ?_⟩⟩
                  by_cases q : n' < n
                  · exact h.2 n' q
                  · obtain rfl : n' = n := by omega
                    exact fun _ z => absurd h2 z
                · repeat' walk_at "st"
                  refine h_bitput (F := _ :: _ :: Lx) hS hbl3 hD (Int.natCast_nonneg kx) (by omega) (Int.natCast_nonneg n) (by omega) (fun H7 hS => ?_)
                  repeat' walk_at "st"
                  exact ⟨putB BS3 kx n, true, _, _, rfl, hS, hP.put (Int.natCast_nonneg kx) (by omega) (Int.natCast_nonneg n) (by omega) (LvP.way hyw (hP.lb.lv _ _ hc2) h2) hc⟩
              · rw [Int.toNat_natCast] at hc
                refine ⟨BS3, b3, _, _, rfl, hS, hP.mono fun e h => ⟨h.1, fun n' hn' => ?_⟩⟩
                by_cases q : n' < n
                · exact h.2 n' q
                · obtain rfl : n' = n := by omega
                  refine fun z _ => absurd z ?_
                  rw [← e]
                  unfold getB
                  rw [hc]
                  exact Bool.false_ne_true
            · rintro σ H6 ⟨BS3, b3, v3, v11, rfl, hS, hP⟩
              refine ⟨BS3, b3, _, _, _, rfl, hS, hP.mono fun _ h => ⟨h.1.1, fun m' y' hm e n hn => ?_⟩⟩
              by_cases q : m' < m
              · exact h.1.2 m' y' q e n hn
              · obtain rfl : m' = m := by omega
                rw [hy] at e
                cases e
                exact h.2 n hn
          · rintro σ H5 ⟨BS2, b2, v3, v10, v11, rfl, hS, hP⟩
            refine ⟨BS2, b2, _, _, _, _, _, rfl, hS, hP.mono fun _ h m hm => ?_⟩
            by_cases q : m < i
            · exact h.1 m q
            · obtain rfl : m = i := by omega
              rw [show ais.length - 1 - m = kx by omega]
              intro y hyw n hn h1 h2
              obtain ⟨m', hm'⟩ := List.getElem?_of_mem ((hys y).mpr hyw)
              exact h.2 m' y (by rw [List.length_map, hW2.1]; exact (List.getElem?_eq_some_iff.mp hm').1) hm' n hn h1 h2
        · clear hS
          rintro σ H4 ⟨BS1, b, v3, v5, v9, v10, v11, rfl, hS, hP⟩
          rw [Int.toNat_natCast] at hP
          repeat' walk_at "st"
          · have := hP.yes (by assumption)
            exact ⟨BS1, _, _, _, _, _, _, _, rfl, hS, hP.lb, by omega⟩
          · obtain ⟨rfl, hcl3⟩ := hP.no (by assumption)
            refine kk lr bs BS1 _ (hS.sub (List.Sublist.cons _ (List.Sublist.cons_cons _ (List.sublist_append_right Lx _)))) (hbl.trans hP.lb.dim.1.symm) hP.lb.dim fun k hk m hm => ⟨hP.lb.lv k m, fun l => ?_⟩
            have := (bits_lv hUL0 hP.lb (fun k hk => by
              have := hcl3 (ais.length - 1 - k) (by omega)
              rw [show ais.length - 1 - (ais.length - 1 - k) = k by omega] at this
              exact this) l hk).2
            rw [Int.toNat_natCast] at this
            exact this
      · clear hS
        rintro σ H3 ⟨BS, v3, v5, v7, v8, v9, v10, v11, rfl, hS, hLB, htot⟩
        rw [toNat_mul1 (by omega)] at htot
        have := totB_le (N := ais.length) hLB.dim.2
        rw [hLB.dim.1] at this
        omega
  )) only [↓Hsh.on])
end

/-! ### pairs among truth values -/
def sp_z_pairs (K : PySem.W.Frag) : Sp := mk3 fun a b c H Q _ => ∃ (fo p q : Addr) (bs : List Addr) (BS : List (List Bool)) (R : Nat) (xs ys : List Int), a = .ref fo ∧ b = .ref p ∧ c = .ref q ∧ H p = some (.lst (xs.map V.int)) ∧ H q = some (.lst (ys.map V.int)) ∧ p ∉ fo :: bs ∧ q ∉ fo :: bs ∧ Blk H ((fo, .lst (bs.map V.ref)) :: bCd bs BS) ∧ bs.length = BS.length ∧ DimB R R BS ∧ (∀ x ∈ xs, 0 ≤ x ∧ x < R) ∧ (∀ y ∈ ys, 0 ≤ y ∧ y < R) ∧
  ∀ BS' H', SH (fo :: bs) H H' ((fo, .lst (bs.map V.ref)) :: bCd bs BS') → BS'.length = BS.length → DimB R R BS' → (∀ i j : Nat, getB BS' i j = true ↔ getB BS i j = true ∨ pairP xs ys i (j : Nat)) → Q .non H'
theorem ok_z_pairs {P : Program} {w : World} {K : PySem.W.Frag} {mg : Str → Option Value} {base : Heap} (Y : Env w K mg)  : CallOk P w K mg base CX0 1 "_law_pairs" ["_law_found", "_law_first", "_law_second"] (sp_z_pairs K) := Hsh.un (by simp (disch := k_dflt (
  refine Hsh.up ?_
  obtain ⟨fd, F⟩ := Y.fd_z_pairs
  refine ⟨_, fd, Y.mg_z_pairs, F.kp, F.bindsN (fun _ _ _ _ _ _ us hl => match us, hl with | [_, _, _], _ => rfl), F.ok sc_z_pairs mk3_len (fun cdv A outer s H vs Q E hr h => ?_)⟩
  have hu := hu_room hr
  obtain ⟨_, _, _, rfl, fo, p, q, bs, BS, R, xs, ys, rfl, rfl, rfl, hp, hq, hpn, hqn, hB, hl, hD, hx, hy, kk⟩ := h
  have hS : SH (fo :: bs) H H ((fo, .lst (bs.map V.ref)) :: bCd bs BS) := by
    have h := hB.sh
    rw [List.map_cons, bCd_keys hl] at h
    exact h
  have hrl : (bs.map V.ref).length = R := by rw [List.length_map, hl, hD.1]
  refine ⟨_, PSs.nox (pss_one (ps_for PassesOwn.never rfl (pi_list (pv 1)) (pg_name (i := 3) sc_z_pairs.nd rfl (Or.inl rfl))
  (pss_one (ps_for PassesOwn.never rfl (pi_list (pv 2)) (pg_name (i := 4) sc_z_pairs.nd rfl (Or.inl rfl))
  (pss_one (ps_if (pt_cmpR (xNe hu) (pv 3) (pv 4) (nomark _)) (pss_cons (ps_set (i := 5) sc_z_pairs.nd rfl (Or.inl rfl) (pe_ix xIx (pv 0) (pv 3) (fun _ _ => rfl)))
  (pss_cons (ps_asg pe_bl (pg_sub (pv 5) (pv 4) set_list))
  (pss_cons (ps_set (i := 5) sc_z_pairs.nd rfl (Or.inl rfl) (pe_ix xIx (pv 0) (pv 4) (fun _ _ => rfl)))
  (pss_one (ps_asg pe_bl (pg_sub (pv 5) (pv 3) set_list)))))) pss_nil)))))), ?_⟩
  rw [st_z_pairs]
  try simp only [cxK, cxK2, cxW, cxW2]
  clear hu hr F
  repeat' walk_at "st"
  refine u_forL (xs := xs.map V.int) (fun i σ H' => ∃ (BS1 : List (List Bool)) (v3 v4 v5 : Option V), σ = [some (.ref fo), some (.ref p), some (.ref q), v3, v4, v5] ∧ SH (fo :: bs) H H' ((fo, .lst (bs.map V.ref)) :: bCd bs BS1) ∧ (BS1.length = BS.length ∧ DimB R R BS1) ∧ ∀ i' j : Nat, getB BS1 i' j = true ↔ getB BS i' j = true ∨ pairP (xs.take i) ys i' (j : Nat)) (SqL.of hp) ⟨BS, _, _, _, rfl, hS, ⟨rfl, hD⟩, fun i' n => ⟨.inl, fun z => z.elim id fun z => absurd z (pairP_nil _ _ _)⟩⟩ ?_ ?_ ?_
  · rintro i σ H1 _ ⟨BS1, v3, v4, v5, rfl, hS, _⟩
    exact SqL.of (hS.kp.k _ _ hp (.inl hpn))
  · clear hS
    rintro i x σ H1 hxi ⟨BS1, v3, v4, v5, rfl, hS, ⟨hl1, hD1⟩, hm1⟩
    rw [List.getElem?_map] at hxi
    obtain ⟨x, hxx, rfl⟩ := Option.map_eq_some_iff.mp hxi
    obtain ⟨x0, x1⟩ := hx x (List.mem_of_getElem? hxx)
    repeat' walk_at "st"
    refine u_forL (xs := ys.map V.int) (fun j σ H' => ∃ (BS2 : List (List Bool)) (v4 v5 : Option V), σ = [some (.ref fo), some (.ref p), some (.ref q), some (.int x), v4, v5] ∧ SH (fo :: bs) H H' ((fo, .lst (bs.map V.ref)) :: bCd bs BS2) ∧ (BS2.length = BS.length ∧ DimB R R BS2) ∧ ∀ i' n : Nat, getB BS2 i' n = true ↔ getB BS1 i' n = true ∨ pairP [x] (ys.take j) i' (n : Nat)) (SqL.of (hS.kp.k _ _ hq (.inl hqn))) ⟨BS1, _, _, rfl, hS, ⟨hl1, hD1⟩, fun i' n => ⟨.inl, fun z => z.elim id fun z => absurd z (pairP_nilR _ _ _)⟩⟩ ?_ ?_ ?_
    · rintro j σ H2 _ ⟨BS2, v4, v5, rfl, hS, _⟩
      exact SqL.of (hS.kp.k _ _ hq (.inl hqn))
    · clear hS
      rintro j y σ H2 hyj ⟨BS2, v4, v5, rfl, hS, ⟨hl2, hD2⟩, hm2⟩
      rw [List.getElem?_map] at hyj
      obtain ⟨y, hyy, rfl⟩ := Option.map_eq_some_iff.mp hyj
      obtain ⟨y0, y1⟩ := hy y (List.mem_of_getElem? hyy)
      have etk : ys.take (j + 1) = ys.take j ++ [y] := by rw [List.take_add_one, hyy]; rfl
      repeat' walk_at "st"
      · have e : x = y := by omega
        subst e
        refine ⟨BS2, _, _, rfl, hS, ⟨hl2, hD2⟩, fun i' n => ?_⟩
        rw [hm2, etk, pairP_appR]
        exact or_congr_right ⟨.inl, fun z => z.elim id fun z => absurd z (pairP_same _ _ _)⟩
      · have e : x ≠ y := by omega
        refine h_bitput (F := [_]) hS (hl.trans hl2.symm) hD2 x0 x1 y0 y1 (fun H3 hS => ?_)
        have hD3 := hD2.put (a := x) (b := y) (by omega)
        have hl3 : (putB BS2 x y).length = BS.length := hD3.1.trans (hD2.1.symm.trans hl2)
        repeat' walk_at "st"
        refine h_bitput (F := [_]) hS (hl.trans hl3.symm) hD3 y0 y1 x0 x1 (fun H4 hS => ?_)
        have hD4 := hD3.put (a := y) (b := x) (by omega)
        have hl4 : (putB (putB BS2 x y) y x).length = BS.length := hD4.1.trans (hD3.1.symm.trans hl3)
        repeat' walk_at "st"
        refine ⟨putB (putB BS2 x y) y x, _, _, rfl, hS, ⟨hl4, hD4⟩, fun i' n => ?_⟩
        rw [getB_put hD3 y0 y1 x0 x1, getB_put hD2 x0 x1 y0 y1, hm2, etk, pairP_appR, pairP_one e, or_assoc, or_assoc]
    · rintro σ H2 ⟨BS2, v4, v5, rfl, hS, hg, hm2⟩
      refine ⟨BS2, _, _, _, rfl, hS, hg, fun i' n => ?_⟩
      rw [List.length_map, List.take_length] at hm2
      rw [show xs.take (i + 1) = xs.take i ++ [x] by rw [List.take_add_one, hxx]; rfl, pairP_appL, hm2, hm1, or_assoc]
  · rintro σ H1 ⟨BS1, v3, v4, v5, rfl, hS, ⟨hl1, hD1⟩, hm1⟩
    rw [List.length_map, List.take_length] at hm1
    repeat' walk_at "st"
    exact kk BS1 _ hS hl1 hD1 hm1
  )) only [↓Hsh.on])
theorem c_z_pairs {K : PySem.W.Frag} {A : List Addr} {H0 H : Hp} {F : List Cell} {fo p q : Addr} {bs : List Addr} {BS : List (List Bool)} {R : Nat} {xs ys : List Int} {Q : VK} {E : XK} (hS : SH A H0 H (F ++ ((fo, .lst (bs.map V.ref)) :: bCd bs BS))) (hp : (p, HO.lst (xs.map V.int)) ∈ F) (hq : (q, HO.lst (ys.map V.int)) ∈ F) (hl : bs.length = BS.length) (hD : DimB R R BS) (hx : ∀ x ∈ xs, 0 ≤ x ∧ x < R) (hy : ∀ y ∈ ys, 0 ≤ y ∧ y < R)
    (kk : ∀ BS' H', SH A H0 H' (F ++ ((fo, .lst (bs.map V.ref)) :: bCd bs BS')) → bs.length = BS'.length → DimB R R BS' → (∀ i j : Nat, getB BS' i j = true ↔ getB BS i j = true ∨ pairP xs ys i (j : Nat)) → Q .non H') : sp_z_pairs K ([.ref fo, .ref p, .ref q] ++ []) H Q E := Hsh.un (by simp (disch := k_dflt (
  refine Hsh.up ?_
  have apart : ∀ (a : Addr) (o : HO), (a, o) ∈ F → a ∉ fo :: bs := fun a o ha z => by
    have nd := hS.nd
    rw [List.map_append, List.map_cons, bCd_keys hl] at nd
    exact (List.nodup_append.mp nd).2.2 a (List.mem_map_of_mem (f := (·.1)) ha) a z rfl
  refine ⟨_, _, _, rfl, fo, p, q, bs, BS, R, xs, ys, rfl, rfl, rfl, hS.hs _ (List.mem_append_left _ hp), hS.hs _ (List.mem_append_left _ hq), apart _ _ hp, apart _ _ hq, SH.blkR F _ hS, hl, hD, hx, hy, fun BS' H' C h1 h2 h3 => kk BS' H' ?_ (hl.trans h1.symm) h2 h3⟩
  refine SH.callR hS ?_
  rw [List.map_cons, bCd_keys hl]
  exact C
  )) only [↓Hsh.on])

/-! ### conflicts, by the program -/
section
variable {K : PySem.W.Frag} {A : List Addr} {H0 H : Hp} {Q : VK} {E : XK}
theorem c_add_pairs {F : List Cell} {fo p q : Addr} {rs : List Addr} {RS : List (List Int)} {R : Int} {xs ys : List Int} (hS : SH A H0 H (F ++ ((fo, .lst (rs.map V.ref)) :: rCd rs RS))) (hp : SqT K H p (xs.map V.int)) (hq : SqT K H q (ys.map V.int)) (hl : rs.length = RS.length) (hR : (RS.length : Int) = R) (r23 : R ≤ 23) (hok : RowsOk R RS) (hx : ∀ x ∈ xs, 0 ≤ x ∧ x < R) (hy : ∀ y ∈ ys, 0 ≤ y ∧ y < R)
    (kk : ∀ RS' H', SH A H0 H' (F ++ ((fo, .lst (rs.map V.ref)) :: rCd rs RS')) → rs.length = RS'.length → (RS'.length : Int) = R → RowsOk R RS' → (∀ i n, n ∈ RS'.getD i [] ↔ n ∈ RS.getD i [] ∨ pairP xs ys i n) → Keep (fo :: rs) H H' → Q .non H') : sp_add_pairs K ([.ref fo, .ref p, .ref q] ++ []) H Q E := Hsh.un (by simp (disch := k_dflt (
  refine Hsh.up ?_
  refine ⟨_, _, _, rfl, fo, p, q, rs, RS, R, xs, ys, rfl, rfl, rfl, hp, hq, SH.blkR F _ hS, hl, hR, r23, hok, hx, hy, fun RS' H' C h1 h2 h3 => kk RS' H' ?_ (hl.trans h1.symm) (by rw [h1]; exact hR) h2 h3 C.kp⟩
  refine SH.callR hS ?_
  rw [List.map_cons, rCd_keys hl]
  exact C
  )) only [↓Hsh.on])
theorem c_live_behind {L : List Cell} {u t : Addr} {R : Int} {ais : List AI} {ds YS : List (List Int)} {k : Nat} (hS : SH A H0 H L) (hU : UL K H u R ais ds) (hRW : RowsAt K H t YS) (hyl : YS.length = ais.length) (hb : ∀ j, j < ais.length → ∀ n ∈ YS.getD j [], 0 ≤ n ∧ n < R) (hk : k < ais.length)
    (kk : ∀ (p : Addr) (ys : List Int) H', SH A H0 H' L → Keep [] H H' → SqT K H' p (ys.map V.int) → (∀ n, n ∈ ys ↔ ∃ f ∈ (ais.getD k AI0).bs, n ∈ YS.getD f.toNat []) → Q (.ref p) H') : sp_live_behind K ([.ref u, .ref t, .int (k : Nat)] ++ []) H Q E :=
  ⟨_, _, _, rfl, u, t, R, ais, ds, YS, k, rfl, rfl, rfl, hU, hRW, hyl, hb, hk, fun p ys H' kp h1 h2 => kk p ys H' (hS.call0 kp) kp h1 h2⟩
end
/-- what one place asks -/
def conA (ais : List AI) (Y : List (List Int)) (k : Nat) (i : Nat) (n : Int) : Prop := pairP (Y.getD k []) (Y.getD k []) i n ∨ pairP (ais.getD k AI0).ws (ais.getD k AI0).ws i n ∨ ∃ f ∈ (ais.getD k AI0).bs, pairP (ais.getD k AI0).ws (Y.getD f.toNat []) i n
/-- what one region asks -/
def conD (Y : List (List Int)) (d : List Int) (i : Nat) (n : Int) : Prop := pairP [d.getD 3 0, d.getD 4 0] (Y.getD (d.getD 2 0).toNat []) i n ∨ pairP [d.getD 3 0] [d.getD 4 0] i n
def conP (ais : List AI) (ds Y : List (List Int)) (i : Nat) (n : Int) : Prop := (∃ k, k < ais.length ∧ conA ais Y k i n) ∨ ∃ d ∈ ds, conD Y d i n
theorem pairP_behind {ws ys : List Int} {bs : List Int} {Y : List (List Int)} (h : ∀ n, n ∈ ys ↔ ∃ f ∈ bs, n ∈ Y.getD f.toNat []) (i : Nat) (n : Int) : pairP ws ys i n ↔ ∃ f ∈ bs, pairP ws (Y.getD f.toNat []) i n := Hsh.un (by simp (disch := k_dflt (
  refine Hsh.up ?_
  unfold pairP
  rw [h, h]
  constructor
  · rintro ⟨h1, (⟨h2, f, h3, h4⟩ | ⟨h2, f, h3, h4⟩)⟩
    · exact ⟨f, h3, h1, .inl ⟨h2, h4⟩⟩
    · exact ⟨f, h3, h1, .inr ⟨h2, h4⟩⟩
  · rintro ⟨f, h3, h1, (⟨h2, h4⟩ | ⟨h2, h4⟩)⟩
    · exact ⟨h1, .inl ⟨h2, f, h3, h4⟩⟩
    · exact ⟨h1, .inr ⟨h2, f, h3, h4⟩⟩
  )) only [↓Hsh.on])
theorem pairP_two (a b : Int) (i : Nat) (n : Int) : pairP [a, b] [a, b] i n ↔ pairP [a] [b] i n := Hsh.un (by simp (disch := k_dflt (
  refine Hsh.up ?_
  unfold pairP
  simp only [List.mem_cons, List.not_mem_nil, or_false]
  grind
  )) only [↓Hsh.on])
theorem pairP_congr {xs xs' ys ys' : List Int} (h1 : ∀ n, n ∈ xs ↔ n ∈ xs') (h2 : ∀ n, n ∈ ys ↔ n ∈ ys') (i : Nat) (n : Int) : pairP xs ys i n ↔ pairP xs' ys' i n := by
  unfold pairP
  rw [h1, h1, h2, h2]
theorem conP_congr {ais : List AI} {ds Y Y' : List (List Int)} (hfl : ∀ a ∈ ais, ∀ b ∈ a.bs, 0 ≤ b ∧ b < ais.length) (hds : ∀ d ∈ ds, 0 ≤ d.getD 2 0 ∧ d.getD 2 0 < ais.length) (h : ∀ k, k < ais.length → ∀ n, n ∈ Y.getD k [] ↔ n ∈ Y'.getD k []) (i : Nat) (n : Int) : conP ais ds Y i n ↔ conP ais ds Y' i n := Hsh.un (by simp (disch := k_dflt (
  refine Hsh.up ?_
  have step : ∀ {Y Y' : List (List Int)}, (∀ k, k < ais.length → ∀ n, n ∈ Y.getD k [] ↔ n ∈ Y'.getD k []) → conP ais ds Y i n → conP ais ds Y' i n := by
    intro Y Y' h c
    rcases c with ⟨k, hk, c⟩ | ⟨d, hd, c⟩
    · refine .inl ⟨k, hk, ?_⟩
      rcases c with c | c | ⟨f, hf, c⟩
      · exact .inl ((pairP_congr (h k hk) (h k hk) i n).mp c)
      · exact .inr (.inl c)
      · have hm : ais.getD k AI0 ∈ ais := by
          rw [List.getD_eq_getElem?_getD, List.getElem?_eq_getElem hk]
          exact List.getElem_mem _
        obtain ⟨f0, f1⟩ := hfl _ hm f hf
        exact .inr (.inr ⟨f, hf, (pairP_congr (fun _ => Iff.rfl) (h _ (by omega)) i n).mp c⟩)
    · refine .inr ⟨d, hd, ?_⟩
      obtain ⟨d0, d1⟩ := hds d hd
      rcases c with c | c
      · exact .inl ((pairP_congr (fun _ => Iff.rfl) (h _ (by omega)) i n).mp c)
      · exact .inr c
  exact ⟨step h, step fun k hk n => (h k hk n).symm⟩
  )) only [↓Hsh.on])
theorem ex_lt_succ {P : Nat → Prop} {m : Nat} : (∃ k, k < m + 1 ∧ P k) ↔ (∃ k, k < m ∧ P k) ∨ P m := Hsh.un (by simp (disch := k_dflt (
  refine Hsh.up ?_
  constructor
  · rintro ⟨k, h1, h2⟩
    by_cases q : k < m
    · exact .inl ⟨k, q, h2⟩
    · obtain rfl : k = m := by omega
      exact .inr h2
  · rintro (⟨k, h1, h2⟩ | h)
    · exact ⟨k, by omega, h2⟩
    · exact ⟨m, by omega, h⟩
  )) only [↓Hsh.on])
theorem ex_mem_take {α : Type} {P : α → Prop} {l : List α} {m : Nat} {x : α} (h : l[m]? = some x) : (∃ d ∈ l.take (m + 1), P d) ↔ (∃ d ∈ l.take m, P d) ∨ P x := Hsh.un (by simp (disch := k_dflt (
  refine Hsh.up ?_
  rw [List.take_add_one, h]
  constructor
  · rintro ⟨d, h1, h2⟩
    rcases List.mem_append.mp h1 with h1 | h1
    · exact .inl ⟨d, h1, h2⟩
    · rw [List.mem_singleton.mp h1] at h2
      exact .inr h2
  · rintro (⟨d, h1, h2⟩ | h2)
    · exact ⟨d, List.mem_append_left _ h1, h2⟩
    · exact ⟨x, List.mem_append_right _ List.mem_cons_self, h2⟩
  )) only [↓Hsh.on])
/-- what the program tells of conflicts -/
structure ConOk (R : Int) (ais : List AI) (ds YS ZS : List (List Int)) : Prop where
  len : (ZS.length : Int) = R
  asc : ∀ i, i < ZS.length → (ZS.getD i []).Pairwise (· < ·)
  bnd : ∀ i, i < ZS.length → ∀ n ∈ ZS.getD i [], 0 ≤ n ∧ n < R
  con : ∀ i, i < ZS.length → ∀ n, n ∈ ZS.getD i [] ↔ conP ais ds YS i n
theorem con_ok {R : Int} {ais : List AI} {ds YS RS ZS : List (List Int)} {L : List Cell} {ts : List Addr} (h : YC RS L ts ZS) (hl : ts.length = RS.length) (hR : (RS.length : Int) = R) (hok : RowsOk R RS) (hc : ∀ i n, n ∈ RS.getD i [] ↔ conP ais ds YS i n) : ConOk R ais ds YS ZS := Hsh.un (by simp (disch := k_dflt (
  refine Hsh.up ?_
  have hz : ZS.length = RS.length := by rw [← h.1, hl]
  have key : ∀ k, k < ZS.length → (ZS.getD k []).Perm (RS.getD k []) ∧ (ZS.getD k []).Pairwise (· ≤ ·) := fun k hk => by
    have e1 : ts[k]? = some (ts[k]'(by omega)) := List.getElem?_eq_getElem _
    have e2 : ZS[k]? = some (ZS[k]'(by omega)) := List.getElem?_eq_getElem _
    have := (h.2 k _ _ e1 e2).2
    rw [List.getD_eq_getElem?_getD, e2]
    exact this
  refine ⟨by omega, fun k hk => ?_, fun k hk n hn => ?_, fun k hk n => ?_⟩
  · obtain ⟨h1, h2⟩ := key k hk
    have h3 : (ZS.getD k []).Nodup := h1.nodup_iff.mpr hok.at.1
    exact (h2.and h3).imp fun {x y} z => by have := z.1; have := z.2; omega
  · exact hok.at.2 n ((key k hk).1.mem_iff.mp hn)
  · rw [(key k hk).1.mem_iff]
    exact hc k n
  )) only [↓Hsh.on])
def sp_conflicts (K : PySem.W.Frag) : Sp := mk1 fun a H Q _ => ∃ (u : Addr) (R : Int) (ais : List AI) (ds : List (List Int)), a = .ref u ∧ UL K H u R ais ds ∧
  ∀ (t : Addr) (YS ZS : List (List Int)) H', Keep [] H H' → RowsAt K H' t ZS → LiveOk R ais ds YS → ConOk R ais ds YS ZS → Q (.ref t) H'
section
 local macro_rules | `(tactic| walk_at "hp") => `(tactic| exact hS.kp.k _ _ huu (.inl (fun z => nomatch z)))
 local macro_rules | `(tactic| walk_at "st") => `(tactic| first
  | (with_reducible refine s_forE ?_)
  | fail)
theorem ok_conflicts {P : Program} {w : World} {K : PySem.W.Frag} {mg : Str → Option Value} {base : Heap} (Y : Env w K mg) (G_add_pairs : CallOk P w K mg base CX0 1 "add_pairs" ["found", "first", "second"] (sp_add_pairs K)) (G_live : CallOk P w K mg base CX0 4 "live" ["unit"] (sp_live K)) (G_live_behind : CallOk P w K mg base CX0 2 "live_behind" ["unit", "rows", "index"] (sp_live_behind K)) (G_writes : CallOk P w K mg base CX0 1 "writes" ["instruction"] (sp_writes K)) : CallOk P w K mg base CX0 5 "conflicts" ["unit"] (sp_conflicts K) := Hsh.un (by simp (disch := k_dflt (
  refine Hsh.up ?_
  obtain ⟨fd, F⟩ := Y.fd_conflicts
  refine ⟨_, fd, Y.mg_conflicts, F.kp, F.bindsN (fun _ _ _ _ _ _ us hl => match us, hl with | [_], _ => rfl), F.ok sc_conflicts mk1_len (fun cdv A outer s H vs Q E hr h => ?_)⟩
  have hu := hu_room hr
  obtain ⟨_, rfl, u, R, ais, ds, rfl, hUL0, kk⟩ := h
  have hS : SH [] H H [] := SH.start0
  refine ⟨_, PSs.nox (pss_cons (ps_set (i := 1) sc_conflicts.nd rfl (Or.inl rfl) (pe_callG G_live hr rfl pass0 (pa_cons (pv 0) pa_nil)))
  (pss_cons (ps_setLc (i := 3) (own := [("number", 2)]) (g := gName 2) rfl sc_conflicts.nd rfl rfl (sw_true rfl rfl rfl (by decide +kernel)) (pi_range1 rfl Y.z_range (pa_cons (pe_fld (pv 0) rfl) pa_nil)) (blkOk_by (N := N_conflicts) (sc := defScope s_conflicts) (by decide +kernel)) (fun _ _ _ _ _ => pg_name (i := 2) sc_conflicts.nd rfl (Or.inl rfl)) (fun _ _ _ _ _ => pts_nil) (fun _ _ _ _ _ => pe_dnewK))
  (pss_cons (ps_for PassesOwn.never rfl (pi_enumT (by rfl) Y.z_enumerate (pa_cons (pv 1) pa_nil)) (pg_tup rfl (pgs_cons (pg_name (i := 4) sc_conflicts.nd rfl (Or.inl rfl)) (pgs_cons (pg_name (i := 5) sc_conflicts.nd rfl (Or.inl rfl)) pgs_nil)))
  (pss_cons (ps_expr (pe_callG G_add_pairs (hr.mono (by decide)) rfl pass0 (pa_cons (pv 3) (pa_cons (pv 5) (pa_cons (pv 5) pa_nil)))))
  (pss_cons (ps_set (i := 6) sc_conflicts.nd rfl (Or.inl rfl) (pe_callG G_writes (hr.mono (by decide)) rfl pass0 (pa_cons (pe_ix xIx (pe_fld (pv 0) rfl) (pv 4) (fun _ _ => rfl)) pa_nil)))
  (pss_cons (ps_expr (pe_callG G_add_pairs (hr.mono (by decide)) rfl pass0 (pa_cons (pv 3) (pa_cons (pv 6) (pa_cons (pe_callG G_live_behind (hr.mono (by decide)) rfl pass0 (pa_cons (pv 0) (pa_cons (pv 1) (pa_cons (pv 4) pa_nil)))) pa_nil)))))
  (pss_one (ps_expr (pe_callG G_add_pairs (hr.mono (by decide)) rfl pass0 (pa_cons (pv 3) (pa_cons (pv 6) (pa_cons (pv 6) pa_nil))))))))))
  (pss_cons (ps_for PassesOwn.never rfl (pi_tup (pe_fld (pv 0) rfl)) (pg_tup rfl (pgs_cons (pg_name (i := 7) sc_conflicts.nd rfl (Or.inl rfl)) (pgs_cons (pg_name (i := 8) sc_conflicts.nd rfl (Or.inl rfl)) (pgs_cons (pg_name (i := 9) sc_conflicts.nd rfl (Or.inl rfl)) (pgs_cons (pg_name (i := 10) sc_conflicts.nd rfl (Or.inl rfl)) (pgs_cons (pg_name (i := 11) sc_conflicts.nd rfl (Or.inl rfl)) pgs_nil))))))
  (pss_cons (ps_set (i := 12) sc_conflicts.nd rfl (Or.inl rfl) (pe_tup (pa_cons (pv 10) (pa_cons (pv 11) pa_nil))))
  (pss_cons (ps_expr (pe_callG G_add_pairs (hr.mono (by decide)) rfl pass0 (pa_cons (pv 3) (pa_cons (pv 12) (pa_cons (pe_ix xIx (pv 1) (pv 9) (fun _ _ => rfl)) pa_nil)))))
  (pss_one (ps_expr (pe_callG G_add_pairs (hr.mono (by decide)) rfl pass0 (pa_cons (pv 3) (pa_cons (pv 12) (pa_cons (pv 12) pa_nil)))))))))
  (pss_one (ps_ret (pe_callTy x_tuple rfl Y.z_tuple (by decide +kernel) (pa_cons (pe_lc (own := [("row", 5)]) (g := gName 5) rfl sc_conflicts.nd (pi_list (pv 3)) (blkOk_by (N := N_conflicts) (sc := defScope s_conflicts) (by decide +kernel)) (fun _ _ _ _ _ => pg_name (i := 5) sc_conflicts.nd rfl (Or.inl rfl)) (fun _ _ _ _ _ => pts_nil) (fun _ _ _ _ _ => (pe_callTy (CallR.k (K := K) (r := rTupX) x_tuple rfl) rfl Y.z_tuple (by decide +kernel) (pa_cons (pe_callB (x_sortedD rfl) rfl Y.z_sorted (by decide +kernel) (pa_cons (pv 5) pa_nil)) pa_nil)))) pa_nil)))))))), ?_⟩
  rw [st_conflicts]
  try simp only [cxK, cxK2, cxW, cxW2]
  clear hu hr F
  repeat' walk_at "st"
  refine c_live hS hUL0 (fun t YS H1 hS kp1 hRW hLv => ?_)
  have hUL1 := hUL0.keep kp1 (fun z => nomatch z)
  clear hUL0 hS
  obtain ⟨dx, cd, rg, w0, cs, gs, huu, ew, hcd, hrg, hcl, hregs, hg5, hins⟩ := hUL1.at
  have hS : SH [] H1 H1 [] := SH.start0
  have n64 := hUL1.n64
  have r3 := hUL1.r3
  have r23 := hUL1.r23
  have hmem : ∀ k, k < ais.length → ais.getD k AI0 ∈ ais := fun k hk => by
    rw [List.getD_eq_getElem?_getD, List.getElem?_eq_getElem hk]
    exact List.getElem_mem _
  obtain ⟨ts, ht1, ht2, ht3⟩ := id hRW
  have hyl := hLv.len
  have htl : (ts.map V.ref).length = ais.length := by rw [List.length_map]; omega
  have hrow : ∀ k, k < ais.length → SqT K H1 (ts.getD k 0) ((YS.getD k []).map V.int) := fun k hk => by
    have e1 : ts[k]? = some (ts[k]'(by rw [List.length_map] at htl; omega)) := List.getElem?_eq_getElem _
    have e2 : YS[k]? = some (YS[k]'(by omega)) := List.getElem?_eq_getElem _
    rw [List.getD_eq_getElem?_getD, List.getD_eq_getElem?_getD, e1, e2]
    exact ht3 _ _ _ e1 e2
  repeat' walk_at "st"
  rw [ew]
  refine u_lcR1 hS (fun D k H' => ∃ rs : List Addr, rs.length = k ∧ SH [] H1 H' ((D, .lst (rs.map V.ref)) :: rCd rs (List.replicate k []))) (by omega) (by omega) (fun D H1 hS => ⟨[], rfl, hS⟩) ?_ ?_
  · clear hS
    rintro D m H2 hm ⟨rs, hl, hS⟩
    have hl2 : (rs.map V.ref).length = m := by rw [List.length_map]; exact hl
    refine h_new0 (D := fun _ _ => True) hS (fun p H3 hS => ?_)
    refine h_lcEnd hS (i := 1) rfl (by rw [sizeLine_eq]; omega) rfl rfl (fun H4 hS => ?_)
    refine ⟨rs ++ [p], by rw [List.length_append, hl]; rfl, ?_⟩
    rw [List.replicate_succ', rCd_snoc (by rw [List.length_replicate]; exact hl), List.map_append]
    exact hS.perm (List.perm_append_singleton _ (_ :: rCd rs _)).symm
  · clear hS
    rintro D H2 ⟨rs, hl, hS⟩
    have hlR : (rs.length : Int) = R := by omega
    have hrep : ∀ i n, n ∈ (List.replicate R.toNat ([] : List Int)).getD i [] ↔ ∃ k, k < 0 ∧ conA ais YS k i n := fun i n => by
      rw [List.getD_eq_getElem?_getD, List.getElem?_replicate]
      constructor
      · intro h
        split at h <;> cases h
      · rintro ⟨k, h, _⟩
        exact absurd h (Nat.not_lt_zero _)
    have hok0 : RowsOk R (List.replicate R.toNat []) := fun r hr => by
      rw [(List.mem_replicate.mp hr).2]
      exact ⟨List.nodup_nil, no_mem⟩
    have hl0 : rs.length = (List.replicate R.toNat ([] : List Int)).length := by rw [List.length_replicate]; exact hl
    generalize (List.replicate R.toNat ([] : List Int)) = RS0 at hS hrep hok0 hl0
    repeat' walk_at "st"
    refine u_forE (xs := ts.map V.ref) (fun i σ H' => ∃ (RS : List (List Int)) (v4 v5 v6 : Option V), σ = [some (.ref u), some (.ref t), none, some (.ref D), v4, v5, v6, none, none, none, none, none, none] ∧ SH [] H1 H' ((D, .lst (rs.map V.ref)) :: rCd rs RS) ∧ rs.length = RS.length ∧ RowsOk R RS ∧ ∀ i' n, n ∈ RS.getD i' [] ↔ ∃ k, k < i ∧ conA ais YS k i' n) (SqT_keep ht1 hS.kp) ⟨RS0, _, _, _, rfl, hS, hl0, hok0, hrep⟩ ?_ ?_ ?_
    · rintro i σ H3 _ ⟨RS, v4, v5, v6, rfl, hS, _⟩
      exact SqT_keep ht1 hS.kp
    · clear hS hrep hok0 hl0
      rintro i x σ H3 T hx hT ⟨RS, v4, v5, v6, rfl, hS, hlr, hok, hm⟩
      rw [List.getElem?_map] at hx
      obtain ⟨a, ha, rfl⟩ := Option.map_eq_some_iff.mp hx
      have hi : i < ais.length := by have := (List.getElem?_eq_some_iff.mp ha).1; rw [List.length_map] at htl; omega
      have ea : ts.getD i 0 = a := by rw [List.getD_eq_getElem?_getD, ha]; rfl
      have hra := hrow i hi
      rw [ea] at hra
      have hbi := hLv.bnd i hi
      have hwi := hUL1.wr _ (hmem i hi)
      have hfi := hUL1.fl _ (hmem i hi)
      obtain ⟨qs, hI⟩ := hins i hi
      have hS := hS.new (.tup [.int (i : Nat), .ref a]) hT
      repeat' walk_at "st"
      refine c_add_pairs (F := [_]) hS (SqT_keep hra hS.kp) (SqT_keep hra hS.kp) hlr (by omega) r23 hok hbi hbi (fun RS2 H4 hS hlr2 _ hok2 hm2 _ => ?_)
      repeat' walk_at "st"
      refine c_writes hS (hI.keep hS.kp) (fun tw H5 hS _ hw => ?_)
      have hS2 := hS
      repeat' walk_at "st"
      refine c_live_behind hS (hUL1.keep hS.kp (fun z => nomatch z)) (hRW.keep hS.kp) hyl hLv.bnd hi (fun p ys H6 hS kp6 hp hys => ?_)
      have hby : ∀ y ∈ ys, 0 ≤ y ∧ y < R := fun y hy => by
        obtain ⟨f, hf, hfy⟩ := (hys y).mp hy
        obtain ⟨f0, f1⟩ := hfi f hf
        exact hLv.bnd _ (by omega) y hfy
      have hw := SqT_keep hw kp6
      repeat' walk_at "st"
      refine c_add_pairs (F := [_]) hS hw hp hlr2 (by omega) r23 hok2 hwi hby (fun RS3 H7 hS hlr3 _ hok3 hm3 kp7 => ?_)
      have hw := SqT_keep hw kp7
      repeat' walk_at "st"
      refine c_add_pairs (F := [_]) hS hw hw hlr3 (by omega) r23 hok3 hwi hwi (fun RS4 H8 hS hlr4 _ hok4 hm4 _ => ?_)
      repeat' walk_at "st"
      refine ⟨RS4, _, _, _, rfl, hS.drop1, hlr4, hok4, fun i' n => ?_⟩
      rw [hm4, hm3, hm2, hm, ex_lt_succ, or_assoc, or_assoc, pairP_behind hys]
      exact or_congr_right (or_congr_right or_comm)
    · clear hS hrep hok0 hl0
      rintro σ H3 ⟨RS, v4, v5, v6, rfl, hS, hlr, hok, hm⟩
      rw [htl] at hm
      repeat' walk_at "st"
      refine u_forT (xs := gs.map V.ref) (fun i σ H' => ∃ (RS : List (List Int)) (v7 v8 v9 v10 v11 v12 : Option V), σ = [some (.ref u), some (.ref t), none, some (.ref D), v4, v5, v6, v7, v8, v9, v10, v11, v12] ∧ SH [] H1 H' ((D, .lst (rs.map V.ref)) :: rCd rs RS) ∧ rs.length = RS.length ∧ RowsOk R RS ∧ ∀ i' n, n ∈ RS.getD i' [] ↔ (∃ k, k < ais.length ∧ conA ais YS k i' n) ∨ ∃ d ∈ ds.take i, conD YS d i' n) (SqT_keep hrg hS.kp) ⟨RS, _, _, _, _, _, _, rfl, hS, hlr, hok, fun i' n => by
        rw [hm]
        exact ⟨.inl, fun z => z.elim id fun ⟨d, h, _⟩ => absurd h List.not_mem_nil⟩⟩ ?_ ?_ ?_
      · rintro i σ H4 _ ⟨RS, v7, v8, v9, v10, v11, v12, rfl, hS, _⟩
        exact SqT_keep hrg hS.kp
      · clear hS hlr hok hm
        rintro i x σ H4 hx ⟨RS, v7, v8, v9, v10, v11, v12, rfl, hS, hlr, hok, hm⟩
        rw [List.getElem?_map] at hx
        obtain ⟨g, hg, rfl⟩ := Option.map_eq_some_iff.mp hx
        obtain ⟨d, hd⟩ : ∃ d, ds[i]? = some d := ⟨_, List.getElem?_eq_getElem (by rw [← hregs.1]; exact (List.getElem?_eq_some_iff.mp hg).1)⟩
        obtain ⟨hgd, hd5, e0, e1, e2, e3, e4, e5⟩ := hregs.2 i g d hg hd
        obtain ⟨a, b, c2, e, f, rfl⟩ := len5 hd5
        have hgd2 : SqT K H1 g [.int a, .int b, .int c2, .int e, .int f] := hgd
        have e0 : 0 ≤ c2 := e0
        have e1 : c2 < ais.length := e1
        have e2 : 0 ≤ e := e2
        have e3 : e < R := e3
        have e4 : 0 ≤ f := e4
        have e5 : f < R := e5
        have hrc := hrow c2.toNat (by omega)
        have hbc := hLv.bnd c2.toNat (by omega)
        have hef : ∀ x ∈ [e, f], 0 ≤ x ∧ x < R := fun x hx => by
          rcases List.mem_cons.mp hx with rfl | hx
          · exact ⟨e2, e3⟩
          · rw [List.mem_singleton.mp hx]; exact ⟨e4, e5⟩
        repeat' walk_at "st"
        refine c_add_pairs (F := [_]) (xs := [e, f]) hS (SqT.of (hS.get 0 rfl)) (SqT_keep hrc hS.kp) hlr (by omega) r23 hok hef hbc (fun RS2 H6 hS hlr2 _ hok2 hm2 _ => ?_)
        repeat' walk_at "st"
        refine c_add_pairs (F := [_]) (xs := [e, f]) (ys := [e, f]) hS (SqT.of (hS.get 0 rfl)) (SqT.of (hS.get 0 rfl)) hlr2 (by omega) r23 hok2 hef hef (fun RS3 H7 hS hlr3 _ hok3 hm3 _ => ?_)
        repeat' walk_at "st"
        refine ⟨RS3, _, _, _, _, _, _, rfl, hS.drop1, hlr3, hok3, fun i' n => ?_⟩
        rw [hm3, hm2, hm, ex_mem_take hd, pairP_two, or_assoc, or_assoc]
        exact Iff.rfl
      · clear hS hlr hok hm
        rintro σ H4 ⟨RS, v7, v8, v9, v10, v11, v12, rfl, hS, hlr, hok, hm⟩
        rw [List.length_map, hregs.1, List.take_length] at hm
        repeat' walk_at "st"
        refine u_lcL hS (xs := rs.map V.ref) (fun D2 i H' => ∃ (zs : List Addr) (ZS : List (List Int)) (Lx : List Cell), zs.length = i ∧ YC RS Lx zs ZS ∧ SH [] H1 H' ((D2, .lst (zs.map V.ref)) :: (D, .lst (rs.map V.ref)) :: (rCd rs RS ++ Lx))) (SqL.of (hS.get 0 rfl)) (fun D2 H3 hS => ⟨[], [], [], rfl, .nil, by rw [List.append_nil]; exact hS⟩) (fun D2 k H3 _ h => by obtain ⟨zs, ZS, Lx, _, _, hS⟩ := h; exact SqL.of (hS.get 1 rfl)) ?_ ?_
        · clear hS
          rintro D2 i x H5 hx ⟨zs, ZS, Lx, hzl, hP, hS⟩
          rw [List.getElem?_map] at hx
          obtain ⟨a, ha, rfl⟩ := Option.map_eq_some_iff.mp hx
          have hi : i < RS.length := by have := (List.getElem?_eq_some_iff.mp ha).1; omega
          have ea : rs.getD i 0 = a := by rw [List.getD_eq_getElem?_getD, ha]; rfl
          have hro : H5 a = some (rowO (RS.getD i [])) := by
            rw [← ea]
            exact hS.hs _ (.tail _ (.tail _ (List.mem_append_left _ (List.mem_of_getElem? (rCd_get hlr hi)))))
          have hrl := hok.le23 r23 i
          have hzl2 : (zs.map V.ref).length = i := by rw [List.length_map]; exact hzl
          repeat' walk_at "st"
          refine s_sortRow hro (by omega) (fun ys hp hpw => ?_)
          repeat' walk_at "st"
          subst hzl
          refine ⟨zs ++ [p], ZS ++ [ys], (p, .tup (ys.map V.int)) :: Lx, by rw [List.length_append]; rfl, hP.snoc hp hpw, ?_⟩
          rw [List.map_append]
          have h1 := hS.sub (List.Sublist.cons_cons _ (List.sublist_cons_self _ _))
          exact h1.perm (List.perm_middle (l₁ := (D2, _) :: (D, _) :: rCd rs RS)).symm
        · rintro D2 H5 ⟨zs, ZS, Lx, hzl, hP, hS⟩
          rw [List.length_map] at hzl
          repeat' walk_at "st"
          refine kk p YS ZS _ (kp1.trans hS.kp) ⟨zs, SqT.of (hS.get 0 rfl), hP.1, fun k a y h1 h2 => ?_⟩ hLv (con_ok hP (by omega) (by omega) hok hm)
          exact SqT.of (hS.hs (a, _) (.tail _ (.tail _ (.tail _ (List.mem_append_right _ (hP.2 k a y h1 h2).1)))))
  )) only [↓Hsh.on])
end
theorem c_conflicts {K : PySem.W.Frag} {A : List Addr} {H0 H : Hp} {L : List Cell} {u : Addr} {R : Int} {ais : List AI} {ds : List (List Int)} {Q : VK} {E : XK} (hS : SH A H0 H L) (hU : UL K H u R ais ds)
    (kk : ∀ t YS ZS H', SH A H0 H' L → Keep [] H H' → RowsAt K H' t ZS → LiveOk R ais ds YS → ConOk R ais ds YS ZS → Q (.ref t) H') : sp_conflicts K ([.ref u] ++ []) H Q E :=
  ⟨_, rfl, u, R, ais, ds, rfl, hU, fun t YS ZS H' kp h1 h2 h3 => kk t YS ZS H' (hS.call0 kp) kp h1 h2 h3⟩

/-! ### conflicts, by the law -/
/-- the numbers of the places that are True -/
def selL (r : List Bool) (R : Nat) : List Int := ((List.range R).filter fun (j : Nat) => r.getD j false).map fun (j : Nat) => (j : Int)
theorem selL_succ (r : List Bool) (j : Nat) : selL r (j + 1) = selL r j ++ if r.getD j false = true then [(j : Int)] else [] := Hsh.un (by simp (disch := k_dflt (
  refine Hsh.up ?_
  unfold selL
  rw [List.range_succ, List.filter_append, List.map_append]
  congr 1
  cases h : r.getD j false <;> simp only [List.filter_cons, List.filter_nil, h] <;> rfl
  )) only [↓Hsh.on])
theorem mem_selL {r : List Bool} {R : Nat} {n : Int} : n ∈ selL r R ↔ (0 ≤ n ∧ n < R) ∧ r.getD n.toNat false = true := Hsh.un (by simp (disch := k_dflt (
  refine Hsh.up ?_
  unfold selL
  rw [List.mem_map]
  constructor
  · rintro ⟨j, hj, rfl⟩
    obtain ⟨h1, h2⟩ := List.mem_filter.mp hj
    rw [List.mem_range] at h1
    exact ⟨⟨by omega, by omega⟩, by rw [Int.toNat_natCast]; exact h2⟩
  · rintro ⟨⟨h1, h2⟩, h3⟩
    exact ⟨n.toNat, List.mem_filter.mpr ⟨List.mem_range.mpr (by omega), h3⟩, by omega⟩
  )) only [↓Hsh.on])
theorem selL_asc (r : List Bool) (R : Nat) : (selL r R).Pairwise (· < ·) := Hsh.un (by simp (disch := k_dflt (
  refine Hsh.up ?_
  unfold selL
  rw [List.pairwise_map]
  exact (List.pairwise_lt_range.filter _).imp fun h => by omega
  )) only [↓Hsh.on])
theorem selL_len (r : List Bool) (R : Nat) : (selL r R).length ≤ R := Hsh.un (by simp (disch := k_dflt (
  refine Hsh.up ?_
  unfold selL
  rw [List.length_map]
  exact Nat.le_trans (List.length_filter_le _ _) (by rw [List.length_range]; exact Nat.le_refl _)
  )) only [↓Hsh.on])
def iCd (ls : List Addr) (LS : List (List Int)) : List Cell := List.zipWith (fun a r => (a, HO.lst (r.map V.int))) ls LS
theorem iCd_get {ls : List Addr} {LS : List (List Int)} (h : ls.length = LS.length) {k : Nat} (hk : k < LS.length) : (ls.getD k 0, HO.lst ((LS.getD k []).map V.int)) ∈ iCd ls LS := Hsh.un (by simp (disch := k_dflt (
  refine Hsh.up ?_
  refine List.mem_of_getElem? (i := k) ?_
  unfold iCd
  rw [List.getElem?_zipWith, List.getD_eq_getElem?_getD, List.getD_eq_getElem?_getD, List.getElem?_eq_getElem (by omega), List.getElem?_eq_getElem hk]
  rfl
  )) only [↓Hsh.on])
theorem iCd_snoc {ls : List Addr} {LS : List (List Int)} {p : Addr} {r : List Int} (h : ls.length = LS.length) : iCd (ls ++ [p]) (LS ++ [r]) = iCd ls LS ++ [(p, .lst (r.map V.int))] := Hsh.un (by simp (disch := k_dflt (
  refine Hsh.up ?_
  unfold iCd
  rw [List.zipWith_append h]
  rfl
  )) only [↓Hsh.on])
theorem c_z_live {K : PySem.W.Frag} {A : List Addr} {H0 H : Hp} {L : List Cell} {u : Addr} {R : Int} {ais : List AI} {ds : List (List Int)} {Q : VK} {E : XK} (hS : SH A H0 H L) (hU : UL K H u R ais ds)
    (kk : ∀ (lr : Addr) (bs : List Addr) (BS : List (List Bool)) H', SH A H0 H' ((lr, .lst (bs.map V.ref)) :: (bCd bs BS ++ L)) → bs.length = BS.length → DimB ais.length R.toNat BS → (∀ k, k < ais.length → ∀ j, j < R.toNat → (getB BS k j = true ↔ LvP ais ds k (j : Nat))) → Q (.ref lr) H') : sp_z_live K ([.ref u] ++ []) H Q E :=
  ⟨_, rfl, u, R, ais, ds, rfl, hU, fun lr bs BS H' C h1 h2 h3 => kk lr bs BS H' (SH.call (B := []) (F := L) hS C) h1 h2 h3⟩
/-- what is live lies among the registers -/
theorem lv_bnd {K : PySem.W.Frag} {H : Hp} {u : Addr} {R : Int} {ais : List AI} {ds : List (List Int)} (hU : UL K H u R ais ds) {k : Nat} {n : Int} (l : LvP ais ds k n) : k < ais.length → 0 ≤ n ∧ n < R := Hsh.un (by simp (disch := k_dflt (
  refine Hsh.up ?_
  have hm : ∀ k, k < ais.length → ais.getD k AI0 ∈ ais := fun k hk => by
    rw [List.getD_eq_getElem?_getD, List.getElem?_eq_getElem hk]
    exact List.getElem_mem _
  induction l with
  | rd h1 => exact fun hk => hU.rd _ (hm _ hk) _ h1
  | @go k n f h1 l w ih =>
    intro hk
    obtain ⟨b0, b1⟩ := hU.fl _ (hm _ hk) f h1
    exact ih (by omega)
  | @ex k n d h1 e l h3 h4 ih =>
    intro hk
    have hw : isWay ais ds k (d.getD 2 0, [d.getD 3 0, d.getD 4 0]) := .inr ⟨h1, d, e, rfl⟩
    obtain ⟨b0, b1⟩ := way_bnd hU hk hw
    have b0 : 0 ≤ d.getD 2 0 := b0
    have b1 : d.getD 2 0 < ais.length := b1
    exact ih (by omega)
  )) only [↓Hsh.on])
theorem perm_f {a b : Cell} {X Y Z : List Cell} : (a :: (X ++ ((b :: Y) ++ Z))).Perm ((b :: a :: (X ++ Y)) ++ Z) := Hsh.un (by simp (disch := k_dflt (
  refine Hsh.up ?_
  show (a :: (X ++ (b :: (Y ++ Z)))).Perm (b :: a :: ((X ++ Y) ++ Z))
  rw [List.append_assoc]
  exact List.perm_middle (l₁ := a :: X)
  )) only [↓Hsh.on])
theorem perm_f2 {a b c : Cell} {X Y Z : List Cell} : (a :: (X ++ ((b :: c :: Y) ++ Z))).Perm ((b :: c :: a :: (X ++ Y)) ++ Z) := Hsh.un (by simp (disch := k_dflt (
  refine Hsh.up ?_
  show (a :: (X ++ (b :: c :: (Y ++ Z)))).Perm (b :: c :: a :: ((X ++ Y) ++ Z))
  rw [List.append_assoc]
  exact (List.perm_middle (l₁ := a :: X)).trans (List.Perm.cons _ (List.perm_middle (l₁ := a :: X)))
  )) only [↓Hsh.on])
def sp_z_conflicts (K : PySem.W.Frag) : Sp := mk1 fun a H Q _ => ∃ (u : Addr) (R : Int) (ais : List AI) (ds : List (List Int)), a = .ref u ∧ UL K H u R ais ds ∧
  ∀ (fo : Addr) (fs : List Addr) (FS : List (List Bool)) (LS : List (List Int)) H', SH [] H H' ((fo, .lst (fs.map V.ref)) :: bCd fs FS) → fs.length = FS.length → DimB R.toNat R.toNat FS → (∀ k, k < ais.length → ∀ n, n ∈ LS.getD k [] ↔ LvP ais ds k n) → (∀ i j : Nat, getB FS i j = true ↔ conP ais ds LS i (j : Nat)) → Q (.ref fo) H'
section
 local macro_rules | `(tactic| walk_at "hp") => `(tactic| exact hS.kp.k _ _ huu (.inl (fun z => nomatch z)))
 local macro_rules | `(tactic| walk_at "at") => `(tactic| first | exact atI_bls (by walk_at "ar") (by walk_at "ar") | fail)
 local macro_rules | `(tactic| walk_at "st") => `(tactic| first
  | (with_reducible refine s_lcRG ?_)
  | fail)
theorem ok_z_conflicts {P : Program} {w : World} {K : PySem.W.Frag} {mg : Str → Option Value} {base : Heap} (Y : Env w K mg) (G_z_live : CallOk P w K mg base CX0 3 "_law_live" ["_law_unit_here"] (sp_z_live K)) (G_z_onward : CallOk P w K mg base CX0 1 "_law_onward" ["_law_unit_here", "_law_index"] (sp_z_onward K)) (G_z_pairs : CallOk P w K mg base CX0 1 "_law_pairs" ["_law_found", "_law_first", "_law_second"] (sp_z_pairs K)) (G_z_writes : CallOk P w K mg base CX0 1 "_law_writes" ["_law_instruction_here"] (sp_z_writes K)) : CallOk P w K mg base CX0 4 "_law_conflicts" ["_law_unit_here"] (sp_z_conflicts K) := Hsh.un (by simp (disch := k_dflt (
  refine Hsh.up ?_
  obtain ⟨fd, F⟩ := Y.fd_z_conflicts
  refine ⟨_, fd, Y.mg_z_conflicts, F.kp, F.bindsN (fun _ _ _ _ _ _ us hl => match us, hl with | [_], _ => rfl), F.ok sc_z_conflicts mk1_len (fun cdv A outer s H vs Q E hr h => ?_)⟩
  have hu := hu_room hr
  obtain ⟨_, rfl, u, R, ais, ds, rfl, hUL0, kk⟩ := h
  obtain ⟨dx, cd, rg, w0, cs, gs, huu, ew, hcd, hrg, hcl, hregs, hg5, hins⟩ := hUL0.at
  subst ew
  have hS : SH [] H H [] := SH.start0
  have n64 := hUL0.n64
  have r3 := hUL0.r3
  have r23 := hUL0.r23
  have hmem : ∀ k, k < ais.length → ais.getD k AI0 ∈ ais := fun k hk => by
    rw [List.getD_eq_getElem?_getD, List.getElem?_eq_getElem hk]
    exact List.getElem_mem _
  refine ⟨_, PSs.nox (pss_cons (ps_setLc (i := 3) (own := [("_law_row", 1)]) (g := gName 1) rfl sc_z_conflicts.nd rfl rfl (sw_true rfl rfl rfl (by decide +kernel)) (pi_list (pe_callG G_z_live hr rfl pass0 (pa_cons (pv 0) pa_nil))) (blkOk_by (N := N_z_conflicts) (sc := defScope s_z_conflicts) (by decide +kernel)) (fun _ _ _ _ _ => pg_name (i := 1) sc_z_conflicts.nd rfl (Or.inr rfl)) (fun _ _ _ _ _ => pts_nil) (fun _ _ _ _ _ => (pe_lc (own := [("_law_k", 2)]) (g := gName 2) rfl sc_z_conflicts.nd (pi_range1 rfl Y.z_range (pa_cons (PE.k (K := K) (t := fun K => tFld K _ "registers") (pe_fld (pv 0) rfl) rfl) pa_nil)) (blkOk_by (by kernel_rfl)) (fun _ _ _ _ _ => pg_name (i := 2) sc_z_conflicts.nd rfl (Or.inl rfl)) (fun _ _ _ _ _ => (pts_one (pt_val (pe_ix (IxR.k (K := K) (r := rIxX) xIx rfl) (pv 1) (pv 2) (fun _ _ => rfl))))) (fun _ _ _ _ _ => (pv 2)))))
  (pss_cons (ps_setLc (i := 4) (own := [("_law_k", 2)]) (g := gName 2) rfl sc_z_conflicts.nd rfl rfl (sw_true rfl rfl rfl (by decide +kernel)) (pi_range1 rfl Y.z_range (pa_cons (pe_fld (pv 0) rfl) pa_nil)) (blkOk_by (N := N_z_conflicts) (sc := defScope s_z_conflicts) (by decide +kernel)) (fun _ _ _ _ _ => pg_name (i := 2) sc_z_conflicts.nd rfl (Or.inl rfl)) (fun _ _ _ _ _ => pts_nil) (fun _ _ _ _ _ => (pe_op (OpR.k (K := K) (r := rMulX) xMul rfl) (pe_lst (pa_cons pe_bl pa_nil)) (PE.k (K := K) (t := fun K => tFld K _ "registers") (pe_fld (pv 0) rfl) rfl))))
  (pss_cons (ps_for PassesOwn.never rfl (pi_range1 rfl Y.z_range (pa_cons (pe_callB x_len rfl Y.z_len (by decide +kernel) (pa_cons (pe_fld (pv 0) rfl) pa_nil)) pa_nil)) (pg_name (i := 5) sc_z_conflicts.nd rfl (Or.inl rfl))
  (pss_cons (ps_set (i := 6) sc_z_conflicts.nd rfl (Or.inl rfl) (pe_callG G_z_writes (hr.mono (by decide)) rfl pass0 (pa_cons (pe_ix xIx (pe_fld (pv 0) rfl) (pv 5) (fun _ _ => rfl)) pa_nil)))
  (pss_cons (ps_expr (pe_callG G_z_pairs (hr.mono (by decide)) rfl pass0 (pa_cons (pv 4) (pa_cons (pe_ix xIx (pv 3) (pv 5) (fun _ _ => rfl)) (pa_cons (pe_ix xIx (pv 3) (pv 5) (fun _ _ => rfl)) pa_nil)))))
  (pss_cons (ps_expr (pe_callG G_z_pairs (hr.mono (by decide)) rfl pass0 (pa_cons (pv 4) (pa_cons (pv 6) (pa_cons (pv 6) pa_nil)))))
  (pss_one (ps_for PassesOwn.never rfl (pi_list (pe_callG G_z_onward (hr.mono (by decide)) rfl pass0 (pa_cons (pv 0) (pa_cons (pv 5) pa_nil)))) (pg_name (i := 7) sc_z_conflicts.nd rfl (Or.inl rfl))
  (pss_one (ps_expr (pe_callG G_z_pairs (hr.mono (by decide)) rfl pass0 (pa_cons (pv 4) (pa_cons (pv 6) (pa_cons (pe_ix xIx (pv 3) (pv 7) (fun _ _ => rfl)) pa_nil))))))))))))
  (pss_cons (ps_for PassesOwn.never rfl (pi_tup (pe_fld (pv 0) rfl)) (pg_name (i := 8) sc_z_conflicts.nd rfl (Or.inl rfl))
  (pss_cons (ps_expr (pe_callG G_z_pairs (hr.mono (by decide)) rfl pass0 (pa_cons (pv 4) (pa_cons (pe_lst (pa_cons (pe_ix xIx (pv 8) pe_int (fun _ _ => rfl)) (pa_cons (pe_ix xIx (pv 8) pe_int (fun _ _ => rfl)) pa_nil))) (pa_cons (pe_ix xIx (pv 3) (pe_ix xIx (pv 8) pe_int (fun _ _ => rfl)) (fun _ _ => rfl)) pa_nil)))))
  (pss_one (ps_expr (pe_callG G_z_pairs (hr.mono (by decide)) rfl pass0 (pa_cons (pv 4) (pa_cons (pe_lst (pa_cons (pe_ix xIx (pv 8) pe_int (fun _ _ => rfl)) pa_nil)) (pa_cons (pe_lst (pa_cons (pe_ix xIx (pv 8) pe_int (fun _ _ => rfl)) pa_nil)) pa_nil))))))))
  (pss_one (ps_ret (pv 4))))))), ?_⟩
  rw [st_z_conflicts]
  try simp only [cxK, cxK2, cxW, cxW2]
  clear hu hr F
  repeat' walk_at "st"
  refine c_z_live hS hUL0 (fun lr bs BS H1 hS hbl hD hlv => ?_)
  have hBl := hD.1
  rw [List.append_nil] at hS
  repeat' walk_at "st"
  refine u_lcL hS (xs := bs.map V.ref) (fun D k H' => ∃ ls : List Addr, ls.length = k ∧ SH [] H H' ((D, .lst (ls.map V.ref)) :: (lr, .lst (bs.map V.ref)) :: (bCd bs BS ++ iCd ls ((BS.take k).map fun (r : List Bool) => selL r w0.rg.toNat)))) (SqL.of (hS.get 0 rfl)) (fun D H2 hS => ⟨[], rfl, by
    show SH [] H H2 (_ :: _ :: (bCd bs BS ++ []))
    rw [List.append_nil]
    exact hS⟩) (fun D k H2 _ h => by obtain ⟨ls, _, hS⟩ := h; exact SqL.of (hS.get 1 rfl)) ?_ ?_
  · clear hS
    rintro D k x H2 hx ⟨ls, hll, hS⟩
    rw [List.getElem?_map] at hx
    obtain ⟨a, ha, rfl⟩ := Option.map_eq_some_iff.mp hx
    have hk : k < BS.length := by have := (List.getElem?_eq_some_iff.mp ha).1; omega
    have ea : bs.getD k 0 = a := by rw [List.getD_eq_getElem?_getD, ha]; rfl
    have hre := bCd_get hbl hk
    rw [ea] at hre
    have hrl : ((BS.getD k []).map V.bl).length = w0.rg.toNat := by rw [List.length_map]; exact hD.at (by rw [← hD.1]; exact hk)
    have etk : BS.take (k + 1) = BS.take k ++ [BS.getD k []] := by
      rw [List.take_add_one, List.getD_eq_getElem?_getD, List.getElem?_eq_getElem hk]
      rfl
    have hll2 : (ls.map V.ref).length = k := by rw [List.length_map]; exact hll
    repeat' walk_at "st"
    refine u_lcRG hS (fun D2 j H' => SH [] H H' ((D2, .lst ((selL (BS.getD k []) j).map V.int)) :: (D, .lst (ls.map V.ref)) :: (lr, .lst (bs.map V.ref)) :: (bCd bs BS ++ iCd ls ((BS.take k).map fun (r : List Bool) => selL r w0.rg.toNat)))) (by omega) (by omega) (fun D2 H2 hS => hS) ?_ ?_
    · clear hS
      rintro D2 j H3 hj hS
      have hra : H3 a = some (.lst ((BS.getD k []).map V.bl)) := hS.hs (a, _) (.tail _ (.tail _ (.tail _ (List.mem_append_left _ (List.mem_of_getElem? hre)))))
      have hjl := selL_len (BS.getD k []) j
      have hjl2 : ((selL (BS.getD k []) j).map V.int).length ≤ 100 := by rw [List.length_map]; omega
      have est := selL_succ (BS.getD k []) j
      repeat' walk_at "st"
      · rw [Int.toNat_natCast] at hc
        rw [est, if_pos hc, List.map_append]
        exact hS
      · rw [Int.toNat_natCast] at hc
        rw [est, if_neg (by rw [hc]; exact Bool.false_ne_true), List.append_nil]
        exact hS
    · clear hS
      rintro D2 H3 hS
      repeat' walk_at "st"
      refine ⟨ls ++ [D2], by rw [List.length_append, hll]; rfl, ?_⟩
      rw [etk, List.map_append (l₁ := List.take k BS), List.map_append (l₁ := ls), List.map_singleton (a := BS.getD k []), iCd_snoc (by rw [hll, List.length_map, List.length_take]; omega), ← List.append_assoc]
      exact hS.perm (List.perm_append_singleton _ (_ :: _ :: (bCd bs BS ++ iCd ls _))).symm
  · clear hS
    rintro ll H2 ⟨ls, hll, hS⟩
    rw [List.length_map, hbl, List.take_length] at hS
    have hS := hS.sub (List.Sublist.cons_cons _ (List.Sublist.cons _ (List.sublist_append_right (bCd bs BS) _)))
    have hlm : ∀ k, k < ais.length → ∀ n, n ∈ (BS.map fun (r : List Bool) => selL r w0.rg.toNat).getD k [] ↔ LvP ais ds k n := fun k hk n => by
      have e : (BS.map fun (r : List Bool) => selL r w0.rg.toNat).getD k [] = selL (BS.getD k []) w0.rg.toNat := by
        rw [List.getD_eq_getElem?_getD, List.getElem?_map, List.getD_eq_getElem?_getD, List.getElem?_eq_getElem (by omega)]
        rfl
      rw [e, mem_selL]
      constructor
      · rintro ⟨⟨n0, n1⟩, h⟩
        have := (hlv k hk n.toNat (by omega)).mp h
        rw [show ((n.toNat : Nat) : Int) = n by omega] at this
        exact this
      · intro l
        have nb := lv_bnd hUL0 l hk
        refine ⟨by omega, (hlv k hk n.toNat (by omega)).mpr ?_⟩
        rw [show ((n.toNat : Nat) : Int) = n by omega]
        exact l
    have hLl : ls.length = (BS.map fun (r : List Bool) => selL r w0.rg.toNat).length := by rw [hll, List.length_map, List.length_map, hbl]
    have hLn : (BS.map fun (r : List Bool) => selL r w0.rg.toNat).length = ais.length := by rw [List.length_map, hBl]
    generalize (BS.map fun (r : List Bool) => selL r w0.rg.toNat) = LS at hS hlm hLl hLn
    have hlb : ∀ k, k < ais.length → ∀ n ∈ LS.getD k [], 0 ≤ n ∧ n < w0.rg.toNat := fun k hk n hn => by
      have := lv_bnd hUL0 ((hlm k hk n).mp hn) hk
      omega
    clear hlv hbl hD hBl
    repeat' walk_at "st"
    refine u_lcRG hS (fun D k H' => ∃ fs : List Addr, fs.length = k ∧ SH [] H H' ((D, .lst (fs.map V.ref)) :: (ll, .lst (ls.map V.ref)) :: (iCd ls LS ++ bCd fs (List.replicate k (List.replicate w0.rg.toNat false))))) (by omega) (by omega) (fun D H3 hS => ⟨[], rfl, by
      show SH [] H H3 (_ :: _ :: (iCd ls LS ++ []))
      rw [List.append_nil]
      exact hS⟩) ?_ ?_
    · clear hS
      rintro D k H3 hk ⟨fs, hfl, hS⟩
      have hfl2 : (fs.map V.ref).length = k := by rw [List.length_map]; exact hfl
      repeat' walk_at "st"
      refine ⟨fs ++ [p], by rw [List.length_append, hfl]; rfl, ?_⟩
      have hS := hS.sub (List.Sublist.cons_cons _ (List.sublist_cons_self _ _))
      rw [List.map_append, List.replicate_succ', bCd_snoc (by rw [hfl, List.length_replicate]), ← List.append_assoc, List.map_replicate]
      exact hS.perm (List.perm_append_singleton _ (_ :: _ :: (iCd ls LS ++ bCd fs _))).symm
    · clear hS
      rintro fo H3 ⟨fs, hfl, hS⟩
      have hS := hS.perm ((List.Perm.swap _ _ _).trans (List.Perm.cons _ List.perm_middle.symm))
      have hD0 : DimB w0.rg.toNat w0.rg.toNat (List.replicate w0.rg.toNat (List.replicate w0.rg.toNat false)) := ⟨List.length_replicate, fun r hr => by rw [(List.mem_replicate.mp hr).2, List.length_replicate]⟩
      have hf0 : fs.length = (List.replicate w0.rg.toNat (List.replicate w0.rg.toNat false)).length := by rw [hfl, List.length_replicate]
      have hg0 : ∀ i j : Nat, getB (List.replicate w0.rg.toNat (List.replicate w0.rg.toNat false)) i j = true ↔ ∃ k, k < 0 ∧ conA ais LS k i (j : Nat) := fun i j => by
        constructor
        · intro h
          unfold getB at h
          rw [List.getD_eq_getElem?_getD (l := List.replicate _ (List.replicate _ _)), List.getElem?_replicate] at h
          split at h
          · rw [Option.getD_some, List.getD_eq_getElem?_getD, List.getElem?_replicate] at h
            split at h <;> cases h
          · cases h
        · rintro ⟨k, h, _⟩
          exact absurd h (Nat.not_lt_zero _)
      generalize (List.replicate w0.rg.toNat (List.replicate w0.rg.toNat false)) = FS0 at hS hD0 hf0 hg0
      have hlsl : (ls.map V.ref).length = ais.length := by rw [List.length_map]; omega
      repeat' walk_at "st"
      refine u_forR1 (fun i σ H' => ∃ (FS : List (List Bool)) (v5 v6 v7 : Option V), σ = [some (.ref u), none, none, some (.ref ll), some (.ref fo), v5, v6, v7, none] ∧ SH [] H H' (((ll, .lst (ls.map V.ref)) :: iCd ls LS) ++ ((fo, .lst (fs.map V.ref)) :: bCd fs FS)) ∧ fs.length = FS.length ∧ DimB w0.rg.toNat w0.rg.toNat FS ∧ ∀ i' j : Nat, getB FS i' j = true ↔ ∃ k, k < i ∧ conA ais LS k i' (j : Nat)) (by omega) (by omega) ⟨FS0, _, _, _, rfl, hS, hf0, hD0, hg0⟩ ?_ ?_
      · clear hS hD0 hf0 hg0
        rintro i σ H4 hi ⟨FS, v5, v6, v7, rfl, hS, hfl, hD, hg⟩
        have hi : i < ais.length := by omega
        have hbi := hlb i hi
        have hwi : ∀ n ∈ (ais.getD i AI0).ws, 0 ≤ n ∧ n < w0.rg.toNat := fun n hn => by
          have := hUL0.wr _ (hmem i hi) n hn
          omega
        have hfi := hUL0.fl _ (hmem i hi)
        obtain ⟨qs, hI⟩ := hins i hi
        repeat' walk_at "st"
        refine c_z_writes hS (hI.keep hS.kp) (fun l Lx H5 hS _ => ?_)
        have hS := hS.perm perm_f
        have hiC := iCd_get hLl (k := i) (by omega)
        have hl2 : (ls.getD i 0, HO.lst ((LS.getD i []).map V.int)) ∈ ((ll, HO.lst (ls.map V.ref)) :: (l, HO.lst ((ais.getD i AI0).ws.map V.int)) :: (Lx ++ iCd ls LS)) := .tail _ (.tail _ (List.mem_append_right _ hiC))
        have hl1 : (l, HO.lst ((ais.getD i AI0).ws.map V.int)) ∈ ((ll, HO.lst (ls.map V.ref)) :: (l, HO.lst ((ais.getD i AI0).ws.map V.int)) :: (Lx ++ iCd ls LS)) := .tail _ (.head _)
        repeat' walk_at "st"
        refine c_z_pairs (F := (ll, HO.lst (ls.map V.ref)) :: (l, HO.lst ((ais.getD i AI0).ws.map V.int)) :: (Lx ++ iCd ls LS)) hS hl2 hl2 hfl hD hbi hbi (fun FS2 H6 hS hfl2 hD2 hg2 => ?_)
        repeat' walk_at "st"
        refine c_z_pairs (F := (ll, HO.lst (ls.map V.ref)) :: (l, HO.lst ((ais.getD i AI0).ws.map V.int)) :: (Lx ++ iCd ls LS)) hS hl1 hl1 hfl2 hD2 hwi hwi (fun FS3 H7 hS hfl3 hD3 hg3 => ?_)
        repeat' walk_at "st"
        refine c_z_onward hS (hUL0.keep hS.kp (fun z => nomatch z)) hi (fun lo Lo os2 H8 hS _ hos ho6 => ?_)
        have hS := hS.perm perm_f2
        repeat' walk_at "st"
        refine u_forL (xs := os2.map V.int) (fun m σ H' => ∃ (FS : List (List Bool)) (v7 : Option V), σ = [some (.ref u), none, none, some (.ref ll), some (.ref fo), some (.int (i : Nat)), some (.ref l), v7, none] ∧ SH [] H H' (((ll, HO.lst (ls.map V.ref)) :: (l, HO.lst ((ais.getD i AI0).ws.map V.int)) :: (lo, HO.lst (os2.map V.int)) :: (Lo ++ (Lx ++ iCd ls LS))) ++ ((fo, .lst (fs.map V.ref)) :: bCd fs FS)) ∧ fs.length = FS.length ∧ DimB w0.rg.toNat w0.rg.toNat FS ∧ ∀ i' j : Nat, getB FS i' j = true ↔ getB FS3 i' j = true ∨ ∃ f ∈ os2.take m, pairP (ais.getD i AI0).ws (LS.getD f.toNat []) i' (j : Nat)) (SqL.of (hS.get 2 rfl)) ⟨FS3, _, rfl, hS, hfl3, hD3, fun i' j => ⟨.inl, fun z => z.elim id fun ⟨f, h, _⟩ => absurd h List.not_mem_nil⟩⟩ ?_ ?_ ?_
        · rintro m σ H9 _ ⟨FS4, v7, rfl, hS, _⟩
          exact SqL.of (hS.get 2 rfl)
        · clear hS
          rintro m x σ H9 hx ⟨FS4, v7, rfl, hS, hfl4, hD4, hg4⟩
          rw [List.getElem?_map] at hx
          obtain ⟨f, hf, rfl⟩ := Option.map_eq_some_iff.mp hx
          obtain ⟨f0, f1⟩ := hfi f ((hos f).mp (List.mem_of_getElem? hf))
          have hbf := hlb f.toNat (by omega)
          have hfC := iCd_get hLl (k := f.toNat) (by omega)
          repeat' walk_at "st"
          refine c_z_pairs (F := (ll, HO.lst (ls.map V.ref)) :: (l, HO.lst ((ais.getD i AI0).ws.map V.int)) :: (lo, HO.lst (os2.map V.int)) :: (Lo ++ (Lx ++ iCd ls LS))) hS (.tail _ (.head _)) (.tail _ (.tail _ (.tail _ (List.mem_append_right _ (List.mem_append_right _ hfC))))) hfl4 hD4 hwi hbf (fun FS5 H10 hS hfl5 hD5 hg5 => ?_)
          repeat' walk_at "st"
          refine ⟨FS5, _, rfl, hS, hfl5, hD5, fun i' j => ?_⟩
          rw [hg5, hg4, ex_mem_take hf, or_assoc]
        · rintro σ H9 ⟨FS4, v7, rfl, hS, hfl4, hD4, hg4⟩
          rw [List.length_map, List.take_length] at hg4
          have hex : ∀ i' j : Nat, (∃ f ∈ os2, pairP (ais.getD i AI0).ws (LS.getD f.toNat []) i' (j : Nat)) ↔ ∃ f ∈ (ais.getD i AI0).bs, pairP (ais.getD i AI0).ws (LS.getD f.toNat []) i' (j : Nat) := fun i' j => ⟨fun ⟨f, h1, h2⟩ => ⟨f, (hos f).mp h1, h2⟩, fun ⟨f, h1, h2⟩ => ⟨f, (hos f).mpr h1, h2⟩⟩
          have hS := hS.sub (L' := ((ll, HO.lst (ls.map V.ref)) :: iCd ls LS) ++ ((fo, .lst (fs.map V.ref)) :: bCd fs FS4)) (by
            refine List.Sublist.append (List.Sublist.cons_cons _ (List.Sublist.cons _ (List.Sublist.cons _ ?_))) (List.Sublist.refl _)
            rw [← List.append_assoc]
            exact List.sublist_append_right _ _)
          refine ⟨FS4, _, _, _, rfl, hS, hfl4, hD4, fun i' j => ?_⟩
          rw [hg4, hg3, hg2, hg, hex, ex_lt_succ, or_assoc, or_assoc]
          exact Iff.rfl
      · clear hS hD0 hf0 hg0
        rintro σ H4 ⟨FS, v5, v6, v7, rfl, hS, hfl, hD, hg⟩
        rw [hcl, Int.toNat_natCast] at hg
        repeat' walk_at "st"
        refine u_forT (xs := gs.map V.ref) (fun i σ H' => ∃ (FS : List (List Bool)) (v8 : Option V), σ = [some (.ref u), none, none, some (.ref ll), some (.ref fo), v5, v6, v7, v8] ∧ SH [] H H' (((ll, .lst (ls.map V.ref)) :: iCd ls LS) ++ ((fo, .lst (fs.map V.ref)) :: bCd fs FS)) ∧ fs.length = FS.length ∧ DimB w0.rg.toNat w0.rg.toNat FS ∧ ∀ i' j : Nat, getB FS i' j = true ↔ (∃ k, k < ais.length ∧ conA ais LS k i' (j : Nat)) ∨ ∃ d ∈ ds.take i, conD LS d i' (j : Nat)) (SqT_keep hrg hS.kp) ⟨FS, _, rfl, hS, hfl, hD, fun i' j => by
          rw [hg]
          exact ⟨.inl, fun z => z.elim id fun ⟨d, h, _⟩ => absurd h List.not_mem_nil⟩⟩ ?_ ?_ ?_
        · rintro i σ H5 _ ⟨FS, v8, rfl, hS, _⟩
          exact SqT_keep hrg hS.kp
        · clear hS hfl hD hg
          rintro i x σ H5 hx ⟨FS, v8, rfl, hS, hfl, hD, hg⟩
          rw [List.getElem?_map] at hx
          obtain ⟨g, hgg, rfl⟩ := Option.map_eq_some_iff.mp hx
          obtain ⟨d, hd⟩ : ∃ d, ds[i]? = some d := ⟨_, List.getElem?_eq_getElem (by rw [← hregs.1]; exact (List.getElem?_eq_some_iff.mp hgg).1)⟩
          obtain ⟨hgd, hd5, e0, e1, e2, e3, e4, e5⟩ := hregs.2 i g d hgg hd
          obtain ⟨a, b, c2, e, f, rfl⟩ := len5 hd5
          have hgd2 : SqT K H g [.int a, .int b, .int c2, .int e, .int f] := hgd
          have e0 : 0 ≤ c2 := e0
          have e1 : c2 < ais.length := e1
          have e2 : 0 ≤ e := e2
          have e3 : e < w0.rg := e3
          have e4 : 0 ≤ f := e4
          have e5 : f < w0.rg := e5
          have hbc := hlb c2.toNat (by omega)
          have hcC := iCd_get hLl (k := c2.toNat) (by omega)
          have he : ∀ x ∈ [e], 0 ≤ x ∧ x < w0.rg.toNat := fun x hx => by rw [List.mem_singleton.mp hx]; omega
          have hf : ∀ x ∈ [f], 0 ≤ x ∧ x < w0.rg.toNat := fun x hx => by rw [List.mem_singleton.mp hx]; omega
          have hef : ∀ x ∈ [e, f], 0 ≤ x ∧ x < w0.rg.toNat := fun x hx => by
            rcases List.mem_cons.mp hx with rfl | hx
            · omega
            · rw [List.mem_singleton.mp hx]; omega
          repeat' walk_at "st"
          refine c_z_pairs (F := _ :: _ :: iCd ls LS) (xs := [e, f]) hS (.head _) (.tail _ (.tail _ hcC)) hfl hD hef hbc (fun FS2 H7 hS hfl2 hD2 hg2 => ?_)
          have hS := SH.drop1 hS
          repeat' walk_at "st"
          refine c_z_pairs (F := _ :: _ :: _ :: iCd ls LS) (xs := [e]) (ys := [f]) hS (.tail _ (.head _)) (.head _) hfl2 hD2 he hf (fun FS3 H8 hS hfl3 hD3 hg3 => ?_)
          have hS := SH.drop1 (SH.drop1 hS)
          repeat' walk_at "st"
          refine ⟨FS3, _, rfl, hS, hfl3, hD3, fun i' j => ?_⟩
          rw [hg3, hg2, hg, ex_mem_take hd, or_assoc, or_assoc]
          exact Iff.rfl
        · clear hS hfl hD hg
          rintro σ H5 ⟨FS, v8, rfl, hS, hfl, hD, hg⟩
          rw [List.length_map, hregs.1, List.take_length] at hg
          repeat' walk_at "st"
          exact kk fo fs FS LS _ (hS.sub (List.sublist_append_right _ _)) hfl hD hlm hg
  )) only [↓Hsh.on])
end

/-! ### the law -/
theorem c_z_conflicts {K : PySem.W.Frag} {A : List Addr} {H0 H : Hp} {L : List Cell} {u : Addr} {R : Int} {ais : List AI} {ds : List (List Int)} {Q : VK} {E : XK} (hS : SH A H0 H L) (hU : UL K H u R ais ds)
    (kk : ∀ (fo : Addr) (fs : List Addr) (FS : List (List Bool)) (LS : List (List Int)) H', SH A H0 H' ((fo, .lst (fs.map V.ref)) :: (bCd fs FS ++ L)) → fs.length = FS.length → DimB R.toNat R.toNat FS → (∀ k, k < ais.length → ∀ n, n ∈ LS.getD k [] ↔ LvP ais ds k n) → (∀ i j : Nat, getB FS i j = true ↔ conP ais ds LS i (j : Nat)) → Q (.ref fo) H') : sp_z_conflicts K ([.ref u] ++ []) H Q E :=
  ⟨_, rfl, u, R, ais, ds, rfl, hU, fun fo fs FS LS H' C h1 h2 h3 h4 => kk fo fs FS LS H' (SH.call (B := []) (F := L) hS C) h1 h2 h3 h4⟩
theorem UL.ds2 {K : PySem.W.Frag} {H : Hp} {u : Addr} {R : Int} {ais : List AI} {ds : List (List Int)} (h : UL K H u R ais ds) : ∀ d ∈ ds, 0 ≤ d.getD 2 0 ∧ d.getD 2 0 < ais.length := fun d hd => by
  obtain ⟨dx, cd, rg, w0, cs, gs, huu, ew, hcd, hrg, hcl, hregs, hg5, hins⟩ := h.at
  obtain ⟨m, hm⟩ := List.getElem?_of_mem hd
  obtain ⟨g, hg⟩ : ∃ g, gs[m]? = some g := ⟨_, List.getElem?_eq_getElem (by rw [hregs.1]; exact (List.getElem?_eq_some_iff.mp hm).1)⟩
  obtain ⟨_, _, h1, h2, _⟩ := hregs.2 m g d hg hm
  exact ⟨h1, h2⟩
theorem con_eq {K : PySem.W.Frag} {H : Hp} {u : Addr} {R : Int} {ais : List AI} {ds YS ZS LS : List (List Int)} {FS : List (List Bool)} (hU : UL K H u R ais ds) (hLv : LiveOk R ais ds YS) (hC : ConOk R ais ds YS ZS) (hL : ∀ k, k < ais.length → ∀ n, n ∈ LS.getD k [] ↔ LvP ais ds k n) (hF : ∀ i j : Nat, getB FS i j = true ↔ conP ais ds LS i (j : Nat)) {k : Nat} (hk : k < ZS.length) : ZS.getD k [] = selL (FS.getD k []) R.toNat := Hsh.un (by simp (disch := k_dflt (
  refine Hsh.up ?_
  have r3 := hU.r3
  have key : ∀ n, conP ais ds YS k n ↔ conP ais ds LS k n := conP_congr hU.fl hU.ds2 (fun j hj n => (hLv.lv j hj n).trans (hL j hj n).symm) k
  refine asc_eq (hC.asc k hk) (selL_asc _ _) fun n => ?_
  rw [mem_selL, hC.con k hk, key]
  constructor
  · intro h
    have nb := hC.bnd k hk n ((hC.con k hk n).mpr ((key n).mpr h))
    refine ⟨by omega, (hF k n.toNat).mpr ?_⟩
    rw [show ((n.toNat : Nat) : Int) = n by omega]
    exact h
  · rintro ⟨nb, h⟩
    have h := (hF k n.toNat).mp h
    rw [show ((n.toNat : Nat) : Int) = n by omega] at h
    exact h
  )) only [↓Hsh.on])

/-! ### places -/
inductive PK
  | l
  | i
  | s
  deriving DecidableEq
def PK.str : PK → Str
  | .l => "local"
  | .i => "in"
  | .s => "slot"
abbrev Plc := Option (PK × Int)
def PlA (K : PySem.W.Frag) (H : Hp) (v : V) : Plc → Prop
  | none => v = .non
  | some q => ∃ a, v = .ref a ∧ SqT K H a [.str q.1.str, .int q.2]
theorem PlA.keep {K : PySem.W.Frag} {A : List Addr} {H H' : Hp} {v : V} {p : Plc} (h : PlA K H v p) (k : Keep A H H') : PlA K H' v p := Hsh.un (by simp (disch := k_dflt (
  refine Hsh.up ?_
  cases p with
  | none => exact h
  | some q =>
    obtain ⟨a, e, h⟩ := h
    exact ⟨a, e, SqT_keep h k⟩
  )) only [↓Hsh.on])
theorem PlA.non {K : PySem.W.Frag} {H : Hp} {v : V} {p : Plc} (h : PlA K H v p) : decide (v = .non) = decide (p = none) := Hsh.un (by simp (disch := k_dflt (
  refine Hsh.up ?_
  cases p with
  | none =>
    have h : v = .non := h
    rw [h]
    rfl
  | some q =>
    obtain ⟨a, rfl, _⟩ := h
    rfl
  )) only [↓Hsh.on])
def PlsA (K : PySem.W.Frag) (H : Hp) (vs : List V) (P : List Plc) : Prop := vs.length = P.length ∧ ∀ (k : Nat) (v : V) (p : Plc), vs[k]? = some v → P[k]? = some p → PlA K H v p
section
variable {K : PySem.W.Frag} {A : List Addr} {H H' : Hp} {vs : List V} {P : List Plc} {v w : V} {p q : Plc}
theorem PlsA.keep (h : PlsA K H vs P) (k : Keep A H H') : PlsA K H' vs P := ⟨h.1, fun i v p a b => (h.2 i v p a b).keep k⟩
theorem PlsA.get (h : PlsA K H vs P) {k : Nat} (hk : k < P.length) : PlA K H (vs.getD k .non) (P.getD k none) := Hsh.un (by simp (disch := k_dflt (
  refine Hsh.up ?_
  have hk2 : k < vs.length := by rw [h.1]; exact hk
  rw [List.getD_eq_getElem?_getD, List.getD_eq_getElem?_getD, List.getElem?_eq_getElem hk, List.getElem?_eq_getElem hk2]
  exact h.2 k _ _ (List.getElem?_eq_getElem hk2) (List.getElem?_eq_getElem hk)
  )) only [↓Hsh.on])
theorem PlsA.set (h : PlsA K H vs P) (j : Nat) (hp : PlA K H v p) : PlsA K H (vs.set j v) (P.set j p) := Hsh.un (by simp (disch := k_dflt (
  refine Hsh.up ?_
  refine ⟨by rw [List.length_set, List.length_set]; exact h.1, fun k w q h1 h2 => ?_⟩
  rw [List.getElem?_set] at h1 h2
  by_cases e : j = k
  · rw [if_pos e] at h1 h2
    split at h1
    · split at h2
      · cases h1
        cases h2
        exact hp
      · cases h2
    · cases h1
  · rw [if_neg e] at h1 h2
    exact h.2 k w q h1 h2
  )) only [↓Hsh.on])
theorem PlsA.nil : PlsA K H [] [] := ⟨rfl, fun k v p h => nomatch h⟩
theorem PlsA.snoc (h : PlsA K H vs P) (hp : PlA K H v p) : PlsA K H (vs ++ [v]) (P ++ [p]) := Hsh.un (by simp (disch := k_dflt (
  refine Hsh.up ?_
  refine ⟨by rw [List.length_append, List.length_append, h.1]; rfl, fun k w q h1 h2 => ?_⟩
  by_cases hk : k < vs.length
  · rw [List.getElem?_append_left hk] at h1
    rw [List.getElem?_append_left (by rw [← h.1]; exact hk)] at h2
    exact h.2 k w q h1 h2
  · have hk2 : k = vs.length := by
      have := (List.getElem?_eq_some_iff.mp h1).1
      rw [List.length_append, List.length_singleton] at this
      omega
    subst hk2
    rw [List.getElem?_append_right (Nat.le_refl _), Nat.sub_self] at h1
    rw [List.getElem?_append_right (by rw [h.1]; exact Nat.le_refl _), h.1, Nat.sub_self] at h2
    cases h1
    cases h2
    exact hp
  )) only [↓Hsh.on])
theorem PlsA.none (n : Nat) : PlsA K H (List.replicate n .non) (List.replicate n none) := Hsh.un (by simp (disch := k_dflt (
  refine Hsh.up ?_
  refine ⟨by rw [List.length_replicate, List.length_replicate], fun k w q h1 h2 => ?_⟩
  rw [List.getElem?_replicate] at h1 h2
  by_cases hk : k < n
  · rw [if_pos hk] at h1 h2
    cases h1
    cases h2
    rfl
  · rw [if_neg hk] at h1
    cases h1
  )) only [↓Hsh.on])
/-- a place as data -/
def pD : Plc → PyData
  | none => .none
  | some q => .tuple [.str q.1.str, .int q.2]
theorem PlA.dp (h : PlA K H v p) : Dp K H v (pD p) := Hsh.un (by simp (disch := k_dflt (
  refine Hsh.up ?_
  cases p with
  | none =>
    have h : v = .non := h
    rw [h]
    exact .non
  | some q =>
    obtain ⟨a, rfl, h⟩ := h
    exact .tup h (.cons (.str _) (.cons (.int _) .nil))
  )) only [↓Hsh.on])
theorem PlsA.dp : ∀ {vs : List V} {P : List Plc}, PlsA K H vs P → DpAll K H vs (P.map pD)
  | [], [], _ => .nil
  | [], _ :: _, h => nomatch h.1
  | _ :: _, [], h => nomatch h.1
  | v :: vs, p :: P, h => .cons (h.2 0 v p rfl rfl).dp (PlsA.dp ⟨Nat.succ.inj h.1, fun k w q h1 h2 => h.2 (k + 1) w q h1 h2⟩)
theorem pk_ok (k : PK) : PyData.strOk k.str = true := by cases k <;> decide +kernel
theorem pD_lay (p : Plc) : PyData.canLay0 (pD p) = true ∧ (pD p).depth ≤ 1 := Hsh.un (by simp (disch := k_dflt (
  refine Hsh.up ?_
  cases p with
  | none => exact ⟨rfl, Nat.zero_le _⟩
  | some q =>
    constructor
    · unfold pD
      rw [PyData.canLay0, PyData.canLayAll0, PyData.canLay0, pk_ok, PyData.canLayAll0, PyData.canLay0, PyData.canLayAll0]
      rfl
    · unfold pD
      rw [PyData.depth, PyData.depthAll, PyData.depth, PyData.depthAll, PyData.depth, PyData.depthAll]
      exact Nat.le_refl _
  )) only [↓Hsh.on])
theorem pD_shaped (p : Plc) : SeqAt.shaped (pD p) = true := Hsh.un (by simp (disch := k_dflt (
  refine Hsh.up ?_
  obtain ⟨h1, h2⟩ := pD_lay p
  unfold SeqAt.shaped
  rw [h1, Bool.true_and, decide_eq_true_eq]
  omega
  )) only [↓Hsh.on])
theorem pDs_shaped (P : List Plc) : SeqAt.shaped (.list (P.map pD)) = true := Hsh.un (by simp (disch := k_dflt (
  refine Hsh.up ?_
  have h1 : PyData.canLayAll0 (P.map pD) = true := by
    induction P with
    | nil => rfl
    | cons n r ih => rw [List.map_cons, PyData.canLayAll0, ih, (pD_lay n).1]; rfl
  have h2 : PyData.depthAll (P.map pD) ≤ 1 := by
    clear h1
    induction P with
    | nil => exact Nat.zero_le _
    | cons n r ih =>
      rw [List.map_cons, PyData.depthAll]
      have := (pD_lay n).2
      omega
  unfold SeqAt.shaped
  rw [PyData.canLay0, h1, PyData.depth, Bool.true_and, decide_eq_true_eq]
  omega
  )) only [↓Hsh.on])
theorem pk_eq (a b : PK) : decide (a.str = b.str) = decide (a = b) := by cases a <;> cases b <;> decide +kernel
theorem pD_eqv (p q : Plc) : PyData.eqv (pD p) (pD q) = decide (p = q) := Hsh.un (by simp (disch := k_dflt (
  refine Hsh.up ?_
  cases p with
  | none =>
    cases q with
    | none => rfl
    | some b => rfl
  | some a =>
    cases q with
    | none => rfl
    | some b =>
      obtain ⟨a1, a2⟩ := a
      obtain ⟨b1, b2⟩ := b
      unfold pD
      simp only [PyData.eqv, PyData.eqvAll]
      have e1 := pk_eq a1 b1
      by_cases h1 : a1 = b1 <;> by_cases h2 : a2 = b2 <;> simp [h1, h2] at e1 ⊢ <;> simp [e1]
  )) only [↓Hsh.on])
theorem pDs_any (P : List Plc) (p : Plc) : ((P.map pD).any fun z => PyData.eqv z (pD p)) = decide (p ∈ P) := Hsh.un (by simp (disch := k_dflt (
  refine Hsh.up ?_
  rw [Bool.eq_iff_iff, List.any_eq_true, decide_eq_true_eq]
  constructor
  · rintro ⟨z, hz, e⟩
    obtain ⟨q, hq, rfl⟩ := List.mem_map.mp hz
    rw [pD_eqv, decide_eq_true_eq] at e
    exact e ▸ hq
  · intro h
    exact ⟨pD p, List.mem_map_of_mem h, by rw [pD_eqv]; exact decide_eq_true rfl⟩
  )) only [↓Hsh.on])
variable {Q : VK}
theorem s_eqP (h1 : PlA K H v p) (h2 : PlA K H w q) (k : Q (.bl (decide (p = q))) H) : rEqX K v w H Q := .inr ⟨_, _, h1.dp, h2.dp, pD_shaped p, pD_shaped q, by rw [pD_eqv]; exact k⟩
theorem s_neP (h1 : PlA K H v p) (h2 : PlA K H w q) (k : Q (.bl (!decide (p = q))) H) : rNeX K v w H Q := .inr ⟨_, _, h1.dp, h2.dp, pD_shaped p, pD_shaped q, by rw [pD_eqv]; exact k⟩
theorem s_inP {a : Addr} (h1 : PlA K H v p) (h2 : PlsA K H vs P) (hl : SqL K H a vs) (k : Q (.bl (decide (p ∈ P))) H) : rInD K v (.ref a) H Q := ⟨_, _, h1.dp, .lst hl h2.dp, pD_shaped p, pDs_shaped P, by rw [pDs_any]; exact k⟩
theorem s_ninP {a : Addr} (h1 : PlA K H v p) (h2 : PlsA K H vs P) (hl : SqL K H a vs) (k : Q (.bl (!decide (p ∈ P))) H) : rNotInD K v (.ref a) H Q := ⟨_, _, h1.dp, .lst hl h2.dp, pD_shaped p, pDs_shaped P, by rw [pDs_any]; exact k⟩
theorem s_isNP (h1 : PlA K H v p) (k : Q (.bl (decide (p = none))) H) : rIsX v .non H Q := .inl ⟨rfl, by rw [h1.non]; exact k⟩
theorem s_isNotNP (h1 : PlA K H v p) (k : Q (.bl (!decide (p = none))) H) : rIsNotX v .non H Q := .inl ⟨rfl, by rw [h1.non]; exact k⟩
end
/-! ### the places in their order; the first that is free -/
def cand (n : Nat) : PK × Int := if n < 8 then (.l, n) else if n < 14 then (.i, (n : Int) - 8) else (.s, (n : Int) - 14)
theorem cand_inj {m n : Nat} (h : cand m = cand n) : m = n := by
  unfold cand at h
  split at h <;> split at h <;> (try split at h) <;> (try split at h) <;> (have h1 := (Prod.mk.inj h).1; have h2 := (Prod.mk.inj h).2; first | omega | cases h1)
theorem erase_inj {T : List Plc} {m : Nat} : (∀ n, n < m → some (cand n) ∈ T) → m ≤ T.length := Hsh.un (by simp (disch := k_dflt (
  refine Hsh.up ?_
  induction m generalizing T with
  | zero => exact fun _ => Nat.zero_le _
  | succ m ih =>
    intro h
    have h1 := ih (T := T.erase (some (cand m))) fun n hn => by
      have := h n (by omega)
      rw [List.mem_erase_of_ne]
      · exact this
      · intro e
        have := cand_inj (Option.some.inj e)
        omega
    have h2 := h m (by omega)
    rw [List.length_erase_of_mem h2] at h1
    have := List.length_pos_of_mem h2
    omega
  )) only [↓Hsh.on])
/-- at is the number of the first candidate that is not in T -/
def FreeAt (T : List Plc) (n : Nat) : Prop := some (cand n) ∉ T ∧ ∀ m, m < n → some (cand m) ∈ T
theorem FreeAt.uniq {T T' : List Plc} {n m : Nat} (h : FreeAt T n) (h' : FreeAt T' m) (e : ∀ p, p ∈ T ↔ p ∈ T') : n = m := Hsh.un (by simp (disch := k_dflt (
  refine Hsh.up ?_
  by_cases q : n < m
  · exact absurd ((e _).mpr (h'.2 n q)) h.1
  · by_cases q : m < n
    · exact absurd ((e _).mp (h.2 m q)) h'.1
    · omega
  )) only [↓Hsh.on])

/-! ### the places, by the program -/
theorem hu65 {k : Nat} {A : Around} (hr : Room k A) : A.units + 65 < cLine := by have := hr.un; omega
def sp_candidate (K : PySem.W.Frag) : Sp := mk1 fun a H Q _ => ∃ n : Nat, a = .int (n : Nat) ∧ ∀ p H', Keep [] H H' → SqT K H' p [.str (cand n).1.str, .int (cand n).2] → Q (.ref p) H'
theorem ok_candidate {P : Program} {w : World} {K : PySem.W.Frag} {mg : Str → Option Value} {base : Heap} (Y : Env w K mg)  : CallOk P w K mg base CX0 1 "candidate" ["at"] (sp_candidate K) := Hsh.un (by simp (disch := k_dflt (
  refine Hsh.up ?_
  obtain ⟨fd, F⟩ := Y.fd_candidate
  refine ⟨_, fd, Y.mg_candidate, F.kp, F.bindsN (fun _ _ _ _ _ _ us hl => match us, hl with | [_], _ => rfl), F.ok sc_candidate mk1_len (fun cdv A outer s H vs Q E hr h => ?_)⟩
  have hu := hu_room hr
  obtain ⟨_, rfl, n, rfl, k⟩ := h
  have hS : SH [] H H [] := SH.start0
  refine ⟨_, PSs.nox (pss_cons (ps_if (pt_cmpR op_lt (pv 0) (pe_ci rfl Y.c_LOCALS) (nomark _)) (pss_one (ps_ret (pe_tup (pa_cons pe_str (pa_cons (pv 0) pa_nil))))) pss_nil)
  (pss_cons (ps_if (pt_cmpR op_lt (pv 0) (pe_op xAdd (pe_ci rfl Y.c_LOCALS) (pe_ci rfl Y.c_INS)) (nomark _)) (pss_one (ps_ret (pe_tup (pa_cons pe_str (pa_cons (pe_op op_sub (pv 0) (pe_ci rfl Y.c_LOCALS)) pa_nil))))) pss_nil)
  (pss_one (ps_ret (pe_tup (pa_cons pe_str (pa_cons (pe_op op_sub (pe_op op_sub (pv 0) (pe_ci rfl Y.c_LOCALS)) (pe_ci rfl Y.c_INS)) pa_nil))))))), ?_⟩
  rw [st_candidate]
  try simp only [cxK, cxK2, cxW, cxW2]
  clear hu hr F
  repeat' walk_at "st"
  · refine k _ _ hS.kp ?_
    have e : cand n = (.l, (n : Int)) := if_pos (by omega)
    rw [e]
    exact SqT.of (hS.get 0 rfl)
  · refine k _ _ hS.kp ?_
    have e : cand n = (.i, (n : Int) - 8) := (if_neg (by omega)).trans (if_pos (by omega))
    rw [e]
    exact SqT.of (hS.get 0 rfl)
  · refine k _ _ hS.kp ?_
    have e : cand n = (.s, (n : Int) - 14) := (if_neg (by omega)).trans (if_neg (by omega))
    rw [e, show (n : Int) - 14 = (n : Int) - 8 - 6 by omega]
    exact SqT.of (hS.get 0 rfl)
  )) only [↓Hsh.on])
theorem c_candidate {K : PySem.W.Frag} {A : List Addr} {H0 H : Hp} {L : List Cell} {n : Nat} {Q : VK} {E : XK} (hS : SH A H0 H L) (k : ∀ p H', SH A H0 H' L → Keep [] H H' → SqT K H' p [.str (cand n).1.str, .int (cand n).2] → Q (.ref p) H') : sp_candidate K ([.int (n : Nat)] ++ []) H Q E :=
  ⟨_, rfl, n, rfl, fun p H' kp h => k p H' (hS.call0 kp) kp h⟩
def sp_first_free (K : PySem.W.Frag) : Sp := mk1 fun a H Q _ => ∃ (q : Addr) (vs : List V) (T : List Plc), a = .ref q ∧ H q = some (.lst vs) ∧ PlsA K H vs T ∧ T.length ≤ 60 ∧ ∀ p H' n, Keep [] H H' → FreeAt T n → SqT K H' p [.str (cand n).1.str, .int (cand n).2] → Q (.ref p) H'
theorem ok_first_free {P : Program} {w : World} {K : PySem.W.Frag} {mg : Str → Option Value} {base : Heap} (Y : Env w K mg) (G_candidate : CallOk P w K mg base CX0 1 "candidate" ["at"] (sp_candidate K)) : CallOk P w K mg base CX0 2 "first_free" ["taken"] (sp_first_free K) := Hsh.un (by simp (disch := k_dflt (
  refine Hsh.up ?_
  obtain ⟨fd, F⟩ := Y.fd_first_free
  refine ⟨_, fd, Y.mg_first_free, F.kp, F.bindsN (fun _ _ _ _ _ _ us hl => match us, hl with | [_], _ => rfl), F.ok sc_first_free mk1_len (fun cdv A outer s H vs Q E hr h => ?_)⟩
  have hu := hu_room hr
  obtain ⟨_, rfl, q, vs, T, rfl, hq, hT, hl, k⟩ := h
  have hS : SH [] H H [] := SH.start0
  refine ⟨_, PSs.nox (pss_cons (ps_set (i := 1) sc_first_free.nd rfl (Or.inl rfl) pe_int)
  (pss_cons (ps_while PassesOwn.never (pt_cmpR (op_inD (hu65 hr)) (pe_callG G_candidate hr rfl pass0 (pa_cons (pv 1) pa_nil)) (pv 0) rfl)
  (pss_one (ps_set (i := 1) sc_first_free.nd rfl (Or.inl rfl) (pe_op xAdd (pv 1) pe_int))))
  (pss_one (ps_ret (pe_callG G_candidate hr rfl pass0 (pa_cons (pv 1) pa_nil)))))), ?_⟩
  rw [st_first_free]
  try simp only [cxK, cxK2, cxW, cxW2]
  clear hu hr F
  repeat' walk_at "st"
  refine ⟨fun m σ H' => ∃ n : Nat, m = 61 - n ∧ σ = [some (.ref q), some (.int (n : Nat))] ∧ SH [] H H' [] ∧ ∀ j, j < n → some (cand j) ∈ T, ⟨_, 0, rfl, rfl, hS, fun j h => absurd h (Nat.not_lt_zero _)⟩, ?_⟩
  clear hS
  rintro m σ H1 ⟨n, rfl, rfl, hS, hm⟩
  repeat' walk_at "st"
  refine c_candidate hS (fun p H2 hS _ hp => ?_)
  repeat' walk_at "st"
  refine s_inP (p := some (cand n)) ⟨p, rfl, hp⟩ (hT.keep hS.kp) (SqL.of (hS.kp.k _ _ hq (.inl (fun z => nomatch z)))) ⟨_, rfl, ?_⟩
  refine i_dec (fun hin => ?_) (fun hin => ?_)
  · refine ⟨fun σ' H' => ∃ m', m' < _ ∧ _, fun σ' H' h => h, ?_⟩
    have hall : ∀ j, j < n + 1 → some (cand j) ∈ T := fun j hj => by
      by_cases e : j < n
      · exact hm j e
      · obtain rfl : j = n := by omega
        exact hin
    have := erase_inj hall
    repeat' walk_at "st"
    exact ⟨61 - (n + 1), by omega, n + 1, rfl, rfl, hS, hall⟩
  · repeat' walk_at "st"
    refine c_candidate hS (fun p H3 hS _ hp => ?_)
    exact k p H3 n hS.kp ⟨hin, hm⟩ hp
  )) only [↓Hsh.on])
theorem c_first_free {K : PySem.W.Frag} {A : List Addr} {H0 H : Hp} {L : List Cell} {q : Addr} {vs : List V} {T : List Plc} {Q : VK} {E : XK} (hS : SH A H0 H L) (hq : H q = some (.lst vs)) (hT : PlsA K H vs T) (hl : T.length ≤ 60)
    (k : ∀ p H' n, SH A H0 H' L → Keep [] H H' → FreeAt T n → SqT K H' p [.str (cand n).1.str, .int (cand n).2] → Q (.ref p) H') : sp_first_free K ([.ref q] ++ []) H Q E :=
  ⟨_, rfl, q, vs, T, rfl, hq, hT, hl, fun p H' n kp h1 h2 => k p H' n (hS.call0 kp) kp h1 h2⟩
/-- what is read somewhere -/
def usedP (ais : List AI) (n : Int) : Prop := ∃ k, k < ais.length ∧ n ∈ rdL (ais.getD k AI0).os
structure UsedOk (ais : List AI) (us : List Int) : Prop where
  asc : us.Pairwise (· < ·)
  mem : ∀ n, n ∈ us ↔ usedP ais n
def sp_used_registers (K : PySem.W.Frag) : Sp := mk1 fun a H Q _ => ∃ (u : Addr) (R : Int) (ais : List AI) (ds : List (List Int)), a = .ref u ∧ UL K H u R ais ds ∧ ∀ p (us : List Int) H', Keep [] H H' → SqT K H' p (us.map V.int) → UsedOk ais us → Q (.ref p) H'
section
 local macro_rules | `(tactic| walk_at "hp") => `(tactic| exact hS.kp.k _ _ huu (.inl (fun z => nomatch z)))
 local macro_rules | `(tactic| walk_at "st") => `(tactic| first
  | (with_reducible refine s_dput ?_)
  | (with_reducible refine h_new0 (D := fun _ _ => True) hS (fun p H1 hS1 => ?_); clear hS; rename SH _ _ _ _ => hS)
  | fail)
theorem ok_used_registers {P : Program} {w : World} {K : PySem.W.Frag} {mg : Str → Option Value} {base : Heap} (Y : Env w K mg) (G_reads : CallOk P w K mg base CX0 2 "reads" ["instruction"] (sp_reads K)) : CallOk P w K mg base CX0 3 "used_registers" ["unit"] (sp_used_registers K) := Hsh.un (by simp (disch := k_dflt (
  refine Hsh.up ?_
  obtain ⟨fd, F⟩ := Y.fd_used_registers
  refine ⟨_, fd, Y.mg_used_registers, F.kp, F.bindsN (fun _ _ _ _ _ _ us hl => match us, hl with | [_], _ => rfl), F.ok sc_used_registers mk1_len (fun cdv A outer s H vs Q E hr h => ?_)⟩
  have hu := hu_room hr
  obtain ⟨_, rfl, u, R, ais, ds, rfl, hUL0, kk⟩ := h
  obtain ⟨dx, cd, rg, w0, cs, gs, huu, ew, hcd, hrg, hcl, hregs, hg5, hins⟩ := hUL0.at
  have hS : SH [] H H [] := SH.start0
  have n64 := hUL0.n64
  have r23 := hUL0.r23
  have hmem : ∀ k, k < ais.length → ais.getD k AI0 ∈ ais := fun k hk => by
    rw [List.getD_eq_getElem?_getD, List.getElem?_eq_getElem hk]
    exact List.getElem_mem _
  refine ⟨_, PSs.nox (pss_cons (ps_set (i := 1) sc_used_registers.nd rfl (Or.inl rfl) pe_dnewK)
  (pss_cons (ps_for PassesOwn.never rfl (pi_tup (pe_fld (pv 0) rfl)) (pg_name (i := 2) sc_used_registers.nd rfl (Or.inl rfl))
  (pss_one (ps_for PassesOwn.never rfl (pi_tup (pe_callG G_reads hr rfl pass0 (pa_cons (pv 2) pa_nil))) (pg_name (i := 3) sc_used_registers.nd rfl (Or.inl rfl))
  (pss_one (ps_dput (hu1 hu) (pv 1) (pv 3) pe_bl rfl)))))
  (pss_one (ps_ret (pe_callTy x_tuple rfl Y.z_tuple (by decide +kernel) (pa_cons (pe_callB (x_sortedD rfl) rfl Y.z_sorted (by decide +kernel) (pa_cons (pv 1) pa_nil)) pa_nil)))))), ?_⟩
  rw [st_used_registers]
  try simp only [cxK, cxK2, cxW, cxW2]
  clear hu hr F
  repeat' walk_at "st"
  obtain ⟨fo, efo⟩ : ∃ fo, fo = p := ⟨_, rfl⟩
  rw [← efo] at hS ⊢
  clear efo
  refine u_forT (xs := cs.map V.ref) (fun i σ H' => ∃ (r : List Int) (v2 v3 : Option V), σ = [some (.ref u), some (.ref fo), v2, v3] ∧ SH [] H H' [(fo, rowO r)] ∧ (r.Nodup ∧ ∀ n ∈ r, 0 ≤ n ∧ n < R) ∧ ∀ n, n ∈ r ↔ ∃ k, k < i ∧ n ∈ rdL (ais.getD k AI0).os) (SqT_keep hcd hS.kp) ⟨[], _, _, rfl, hS, ⟨List.nodup_nil, no_mem⟩, fun n => ⟨fun h => absurd h List.not_mem_nil, fun ⟨k, h, _⟩ => absurd h (Nat.not_lt_zero _)⟩⟩ ?_ ?_ ?_
  · rintro i σ H4 _ ⟨r, v2, v3, rfl, hS, _⟩
    exact SqT_keep hcd hS.kp
  · clear hS
    rintro i x σ H4 hx ⟨r, v2, v3, rfl, hS, hr, hm⟩
    rw [List.getElem?_map] at hx
    obtain ⟨l, hl, rfl⟩ := Option.map_eq_some_iff.mp hx
    have hi : i < ais.length := by have := (List.getElem?_eq_some_iff.mp hl).1; rw [List.length_map] at hcl; omega
    have el : cs.getD i 0 = l := by rw [List.getD_eq_getElem?_getD, hl]; rfl
    obtain ⟨qs, hI⟩ := hins i hi
    rw [el] at hI
    have hbr := hUL0.rd _ (hmem i hi)
    repeat' walk_at "st"
    refine c_reads hS (hI.keep hS.kp) (fun t H5 hS _ ht => ?_)
    have hS5 := hS
    clear hS
    have hS : SH [fo] H5 H5 [(fo, rowO r)] := hS5.blk.sh
    repeat' walk_at "st"
    refine u_forT (xs := (rdL (ais.getD i AI0).os).map V.int) (fun j σ H' => ∃ (r2 : List Int) (v3 : Option V), σ = [some (.ref u), some (.ref fo), some (.ref l), v3] ∧ SH [fo] H5 H' [(fo, rowO r2)] ∧ (r2.Nodup ∧ ∀ n ∈ r2, 0 ≤ n ∧ n < R) ∧ ∀ n, n ∈ r2 ↔ n ∈ r ∨ n ∈ (rdL (ais.getD i AI0).os).take j) ht ⟨r, _, rfl, hS, hr, fun n => ⟨.inl, fun z => z.elim id fun z => absurd z List.not_mem_nil⟩⟩ ?_ ?_ ?_
    · rintro j σ H6 _ ⟨r2, v3, rfl, hS, _⟩
      exact SqT_keep ht hS.kp
    · clear hS
      rintro j x σ H6 hx2 ⟨r2, v3, rfl, hS, hr2, hm2⟩
      rw [List.getElem?_map] at hx2
      obtain ⟨n, hn, rfl⟩ := Option.map_eq_some_iff.mp hx2
      have hnb := hbr n (List.mem_of_getElem? hn)
      have hle := nodup_bnd (R := 23) hr2.1 fun n hn => ⟨(hr2.2 n hn).1, by have := (hr2.2 n hn).2; omega⟩
      repeat' walk_at "st"
      refine h_dputI hS (i := 0) rfl (by rw [sizeLine_eq]; omega) (fun H7 hS => ?_)
      refine ⟨addK r2 n, _, rfl, hS, ⟨?_, fun m hm => ?_⟩, fun m => ?_⟩
      · exact nodup_addK hr2.1
      · rcases mem_addK.mp hm with hm | rfl
        · exact hr2.2 m hm
        · exact hnb
      · rw [mem_addK, hm2, List.take_add_one, hn, List.mem_append, or_assoc]
        exact or_congr_right (or_congr_right List.mem_singleton.symm)
    · rintro σ H6 ⟨r2, v3, rfl, hS, hr2, hm2⟩
      rw [List.length_map, List.take_length] at hm2
      refine ⟨r2, _, _, rfl, hS5.callE hS, hr2, fun n => ?_⟩
      rw [hm2, hm, ex_lt_succ]
  · rintro σ H4 ⟨r, v2, v3, rfl, hS, hr, hm⟩
    have h64 : r.length < 64 := by
      have := nodup_bnd (R := 23) hr.1 fun n hn => ⟨(hr.2 n hn).1, by have := (hr.2 n hn).2; omega⟩
      omega
    repeat' walk_at "st"
    refine s_sortRow (hS.get 0 rfl) h64 (fun ys hpm hw => ?_)
    repeat' walk_at "st"
    refine kk p ys _ hS.kp (SqT.of (hS.get 0 rfl)) ⟨?_, fun n => ?_⟩
    · have h3 : ys.Nodup := hpm.nodup_iff.mpr hr.1
      exact (hw.and h3).imp fun {x y} z => by have := z.1; have := z.2; omega
    · rw [hpm.mem_iff, hm, List.length_map]
      rw [List.length_map] at hcl
      rw [hcl]
      exact Iff.rfl
  )) only [↓Hsh.on])
end

theorem c_used {K : PySem.W.Frag} {A : List Addr} {H0 H : Hp} {L : List Cell} {u : Addr} {R : Int} {ais : List AI} {ds : List (List Int)} {Q : VK} {E : XK} (hS : SH A H0 H L) (hU : UL K H u R ais ds)
    (kk : ∀ p (us : List Int) H', SH A H0 H' L → Keep [] H H' → SqT K H' p (us.map V.int) → UsedOk ais us → Q (.ref p) H') : sp_used_registers K ([.ref u] ++ []) H Q E :=
  ⟨_, rfl, u, R, ais, ds, rfl, hU, fun p us H' kp h1 h2 => kk p us H' (hS.call0 kp) kp h1 h2⟩
theorem PlA.iff {K : PySem.W.Frag} {H : Hp} {v : V} {p : Plc} (h : PlA K H v p) : v = .non ↔ p = none := Hsh.un (by simp (disch := k_dflt (
  refine Hsh.up ?_
  have := h.non
  by_cases e : p = none
  · rw [decide_eq_true e, decide_eq_true_eq] at this
    exact ⟨fun _ => e, fun _ => this⟩
  · rw [decide_eq_false e, decide_eq_false_iff_not] at this
    exact ⟨fun z => absurd z this, fun z => absurd z e⟩
  )) only [↓Hsh.on])
/-- the number of arguments of a unit -/
def UA (K : PySem.W.Frag) (H : Hp) (u : Addr) (ar : Int) : Prop := ∃ dx cd rg w, H u = some (unO K dx w cd rg) ∧ w.ar = ar
theorem UA.keep {K : PySem.W.Frag} {A : List Addr} {H H' : Hp} {u : Addr} {ar : Int} (h : UA K H u ar) (k : Keep A H H') (n : u ∉ A) : UA K H' u ar := by
  obtain ⟨dx, cd, rg, w, e, h⟩ := h
  exact ⟨dx, cd, rg, w, k.k _ _ e (.inl n), h⟩
theorem UA.at {K : PySem.W.Frag} {H : Hp} {u dx cd rg : Addr} {w : Shp} {ar : Int} (h : UA K H u ar) (e1 : H u = some (unO K dx w cd rg)) : w.ar = ar := Hsh.un (by simp (disch := k_dflt (
  refine Hsh.up ?_
  obtain ⟨dx2, cd2, rg2, w2, e, h⟩ := h
  have e := Option.some.inj (e1.symm.trans e)
  have e : w.ar = w2.ar := by
    injection e with _ _ e
    injection e with _ e
    injection e with e _
    injection e with _ e
    injection e
  rw [e, h]
  )) only [↓Hsh.on])
/-- the arguments that are live at the start -/
def StartOk (R : Nat) (ar : Int) (F : List Int) (P : List Plc) : Prop := P.length = R ∧ ∀ n : Nat, n < R → P.getD n none = if (n : Int) < ar ∧ (n : Int) ∈ F then some (.i, (n : Int)) else none
theorem StartOk.zero {R : Nat} {F : List Int} : StartOk R ((0 : Nat) : Int) F (List.replicate R none) := Hsh.un (by simp (disch := k_dflt (
  refine Hsh.up ?_
  refine ⟨List.length_replicate, fun n hn => ?_⟩
  rw [if_neg (fun h => by have := h.1; omega), List.getD_eq_getElem?_getD, List.getElem?_replicate, if_pos hn]
  rfl
  )) only [↓Hsh.on])
theorem StartOk.no {R i : Nat} {F : List Int} {P : List Plc} (h : StartOk R (i : Nat) F P) (n : (i : Int) ∉ F) : StartOk R ((i + 1 : Nat) : Int) F P := Hsh.un (by simp (disch := k_dflt (
  refine Hsh.up ?_
  refine ⟨h.1, fun k hk => ?_⟩
  rw [h.2 k hk]
  by_cases e : k = i
  · subst e
    rw [if_neg (fun z => n z.2), if_neg (fun z => n z.2)]
  · by_cases q : (k : Int) < (i : Int) ∧ (k : Int) ∈ F
    · rw [if_pos q, if_pos ⟨by have := q.1; omega, q.2⟩]
    · rw [if_neg q, if_neg (fun z => q ⟨by have := z.1; omega, z.2⟩)]
  )) only [↓Hsh.on])
theorem StartOk.yes {R i : Nat} {F : List Int} {P : List Plc} (h : StartOk R (i : Nat) F P) (hi : i < R) (n : (i : Int) ∈ F) : StartOk R ((i + 1 : Nat) : Int) F (P.set i (some (.i, (i : Int)))) := Hsh.un (by simp (disch := k_dflt (
  refine Hsh.up ?_
  refine ⟨by rw [List.length_set]; exact h.1, fun k hk => ?_⟩
  by_cases e : k = i
  · subst e
    rw [getD_set_eq (by rw [h.1]; exact hi), if_pos ⟨by omega, n⟩]
  · rw [getD_set_ne (Ne.symm e), h.2 k hk]
    by_cases q : (k : Int) < (i : Int) ∧ (k : Int) ∈ F
    · rw [if_pos q, if_pos ⟨by have := q.1; omega, q.2⟩]
    · rw [if_neg q, if_neg (fun z => q ⟨by have := z.1; omega, z.2⟩)]
  )) only [↓Hsh.on])
/-- one register more -/
def AsgS (ZS : List (List Int)) (P : List Plc) (x : Int) (P' : List Plc) : Prop :=
  if P.getD x.toNat none = none then ∃ n, FreeAt ((ZS.getD x.toNat []).map fun m => P.getD m.toNat none) n ∧ P' = P.set x.toNat (some (cand n)) else P' = P
inductive AsgR (ZS : List (List Int)) (P0 : List Plc) : List Int → List Plc → Prop
  | nil : AsgR ZS P0 [] P0
  | snoc {xs : List Int} {P P' : List Plc} {x : Int} (h : AsgR ZS P0 xs P) (s : AsgS ZS P x P') : AsgR ZS P0 (xs ++ [x]) P'
theorem AsgR.len {ZS : List (List Int)} {P0 : List Plc} {xs : List Int} {P : List Plc} (h : AsgR ZS P0 xs P) : P.length = P0.length := Hsh.un (by simp (disch := k_dflt (
  refine Hsh.up ?_
  induction h with
  | nil => rfl
  | snoc h s ih =>
    unfold AsgS at s
    split at s
    · obtain ⟨n, _, rfl⟩ := s
      rw [List.length_set, ih]
    · rw [s, ih]
  )) only [↓Hsh.on])
structure AsgOk (R : Nat) (ar : Int) (YS ZS : List (List Int)) (us : List Int) (P : List Plc) : Prop where
  ex : ∃ P0, StartOk R ar (YS.getD 0 []) P0 ∧ AsgR ZS P0 us P
def sp_assign (K : PySem.W.Frag) : Sp := mk1 fun a H Q _ => ∃ (u : Addr) (R : Int) (ais : List AI) (ds : List (List Int)) (ar : Int), a = .ref u ∧ UL K H u R ais ds ∧ UA K H u ar ∧
  ∀ t (vs : List V) (P : List Plc) (YS ZS : List (List Int)) (us : List Int) H', Keep [] H H' → SqT K H' t vs → PlsA K H' vs P → LiveOk R ais ds YS → ConOk R ais ds YS ZS → UsedOk ais us → AsgOk R.toNat ar YS ZS us P → Q (.ref t) H'
section
 local macro_rules | `(tactic| walk_at "hp") => `(tactic| first | exact huu hS | exact hS.kp.k _ _ huu (.inl (fun z => nomatch z)))
theorem ok_assign {P : Program} {w : World} {K : PySem.W.Frag} {mg : Str → Option Value} {base : Heap} (Y : Env w K mg) (G_conflicts : CallOk P w K mg base CX0 5 "conflicts" ["unit"] (sp_conflicts K)) (G_first_free : CallOk P w K mg base CX0 2 "first_free" ["taken"] (sp_first_free K)) (G_live : CallOk P w K mg base CX0 4 "live" ["unit"] (sp_live K)) (G_used_registers : CallOk P w K mg base CX0 3 "used_registers" ["unit"] (sp_used_registers K)) : CallOk P w K mg base CX0 6 "assign" ["unit"] (sp_assign K) := Hsh.un (by simp (disch := k_dflt (
  refine Hsh.up ?_
  obtain ⟨fd, F⟩ := Y.fd_assign
  refine ⟨_, fd, Y.mg_assign, F.kp, F.bindsN (fun _ _ _ _ _ _ us hl => match us, hl with | [_], _ => rfl), F.ok sc_assign mk1_len (fun cdv A outer s H vs Q E hr h => ?_)⟩
  have hu := hu_room hr
  obtain ⟨_, rfl, u, R, ais, ds, ar, rfl, hUL0, hUA0, kk⟩ := h
  have hS : SH [] H H [] := SH.start0
  refine ⟨_, PSs.nox (pss_cons (ps_set (i := 1) sc_assign.nd rfl (Or.inl rfl) (pe_callG G_conflicts hr rfl pass0 (pa_cons (pv 0) pa_nil)))
  (pss_cons (ps_set (i := 2) sc_assign.nd rfl (Or.inr rfl) (pe_op xMul (pe_lst (pa_cons pe_non pa_nil)) (pe_fld (pv 0) rfl)))
  (pss_cons (ps_set (i := 3) sc_assign.nd rfl (Or.inl rfl) (pe_ix xIx (pe_callG G_live (hr.mono (by decide)) rfl pass0 (pa_cons (pv 0) pa_nil)) pe_int (fun _ _ => rfl)))
  (pss_cons (ps_for PassesOwn.never rfl (pi_range1 rfl Y.z_range (pa_cons (pe_fld (pv 0) rfl) pa_nil)) (pg_name (i := 4) sc_assign.nd rfl (Or.inl rfl))
  (pss_one (ps_if (pt_cmpR xIn (pv 4) (pv 3) rfl) (pss_one (ps_asg (pe_tup (pa_cons pe_str (pa_cons (pv 4) pa_nil))) (pg_sub (pv 2) (pv 4) set_list))) pss_nil)))
  (pss_cons (ps_for PassesOwn.never rfl (pi_tup (pe_callG G_used_registers (hr.mono (by decide)) rfl pass0 (pa_cons (pv 0) pa_nil))) (pg_name (i := 4) sc_assign.nd rfl (Or.inl rfl))
  (pss_one (ps_if (pt_cmpR xIs (pe_ix xIx (pv 2) (pv 4) (fun _ _ => rfl)) pe_non (nomark _)) (pss_one (ps_asg (pe_callG G_first_free (hr.mono (by decide)) rfl pass0 (pa_cons (pe_lc (own := [("other", 5)]) (g := gName 5) rfl sc_assign.nd (pi_tup (pe_ix xIx (pv 1) (pv 4) (fun _ _ => rfl))) (blkOk_by (N := N_assign) (sc := defScope s_assign) (by decide +kernel)) (fun _ _ _ _ _ => pg_name (i := 5) sc_assign.nd rfl (Or.inl rfl)) (fun _ _ _ _ _ => pts_nil) (fun _ _ _ _ _ => (pe_ix (IxR.k (K := K) (r := rIxX) xIx rfl) (pv 2) (pv 5) (fun _ _ => rfl)))) pa_nil)) (pg_sub (pv 2) (pv 4) set_list))) pss_nil)))
  (pss_one (ps_ret (pe_callTy x_tuple rfl Y.z_tuple (by decide +kernel) (pa_cons (pv 2) pa_nil))))))))), ?_⟩
  rw [st_assign]
  try simp only [cxK, cxK2, cxW, cxW2]
  clear hu hr F
  repeat' walk_at "st"
  refine c_conflicts hS hUL0 (fun tz YS0 ZS H1 hS kp1 hRZ hLv0 hCo0 => ?_)
  have hUL1 := hUL0.keep kp1 (fun z => nomatch z)
  have hUA1 := hUA0.keep kp1 (fun z => nomatch z)
  clear hUL0 hUA0
  have huu0 := hUL1.at
  obtain ⟨dx, cd, rg, w0, cs, gs, huu, ew, hcd, hrg, hcl, hregs, hg5, hins⟩ := hUL1.at
  have ear := hUA1.at huu
  obtain ⟨ar0, ar1, ar6⟩ := hUL1.wa _ _ _ _ huu
  subst ear
  subst ew
  clear hS
  have hS : SH [] H1 H1 [] := SH.start0
  have n4 := hUL1.n4
  have r3 := hUL1.r3
  have r23 := hUL1.r23
  repeat' walk_at "st"
  obtain ⟨pl, epl⟩ : ∃ pl, pl = p := ⟨_, rfl⟩
  rw [← epl] at hS ⊢
  clear epl
  have hS := hS.sub (L' := [(pl, HO.lst (List.replicate w0.rg.toNat V.non))]) (List.Sublist.cons_cons _ (List.nil_sublist _))
  refine c_live hS (hUL1.keep hS.kp (fun z => nomatch z)) (fun t YS H3 hS kp3 hRW hLv => ?_)
  obtain ⟨ts, ht1, ht2, ht3⟩ := hRW
  have hyl := hLv.len
  have htl : (ts.map V.ref).length = ais.length := by rw [List.length_map]; omega
  have hfi : SqT K H3 (ts.getD 0 0) ((YS.getD 0 []).map V.int) := by
    have e1 : ts[0]? = some (ts[0]'(by rw [List.length_map] at htl; omega)) := List.getElem?_eq_getElem _
    have e2 : YS[0]? = some (YS[0]'(by omega)) := List.getElem?_eq_getElem _
    rw [List.getD_eq_getElem?_getD, List.getD_eq_getElem?_getD, e1, e2]
    exact ht3 _ _ _ e1 e2
  -- from here on the list of places alone is owned
  have hS3 := hS
  clear hS
  have hUL3 := hUL1.keep hS3.kp (fun z => nomatch z)
  have huu3 := hS3.kp.k _ _ huu (.inl (fun z => nomatch z))
  have hne : u ∉ [pl] := hS3.old huu (fun z => nomatch z)
  have hRZ3 := hRZ.keep hS3.kp
  have hS : SH [pl] H3 H3 [(pl, HO.lst (List.replicate w0.rg.toNat V.non))] := hS3.blk.sh
  clear huu
  have huu : ∀ {H' : Hp} {L' : List Cell}, SH [pl] H3 H' L' → H' u = some (unO K dx w0 cd rg) := fun hS => hS.kp.k _ _ huu3 (.inl hne)
  repeat' walk_at "st"
  refine u_forR1 (fun i σ H' => ∃ (vs : List V) (P : List Plc) (v4 : Option V), σ = [some (.ref u), some (.ref tz), some (.ref pl), some (.ref (ts.getD 0 0)), v4, none] ∧ SH [pl] H3 H' [(pl, .lst vs)] ∧ PlsA K H' vs P ∧ StartOk w0.rg.toNat ((i : Nat) : Int) (YS.getD 0 []) P) (by omega) (by omega) ⟨_, List.replicate w0.rg.toNat none, _, rfl, hS, PlsA.none _, StartOk.zero⟩ ?_ ?_
  · clear hS
    rintro i σ H4 hi ⟨vs, P, v4, rfl, hS0, hP, hSt⟩
    have hvl : vs.length = w0.rg.toNat := hP.1.trans hSt.1
    have hfi := SqT_keep hfi hS0.kp
    have hS : SH [pl] H4 H4 [(pl, HO.lst vs)] := hS0.blk.sh
    repeat' walk_at "st"
    refine s_inT0 (SqT_keep hfi hS.kp) rfl (flat_ints _) ⟨_, rfl, ?_⟩
    rw [inV_ints]
    refine i_dec (fun hin => ?_) (fun hin => ?_)
    · repeat' walk_at "st"
      refine ⟨_, P.set i (some (.i, (i : Int))), _, rfl, hS0.callE hS.drop1, ?_, hSt.yes (by omega) hin⟩
      rw [Int.toNat_natCast]
      exact (hP.keep hS.kp).set _ ⟨p, rfl, SqT.of (hS.get 0 rfl)⟩
    · repeat' walk_at "st"
      exact ⟨vs, P, _, rfl, hS0.callE hS, hP.keep hS.kp, hSt.no hin⟩
  · clear hS
    rintro σ H4 ⟨vs, P0, v4, rfl, hS, hP, hSt⟩
    rw [show ((w0.ar.toNat : Nat) : Int) = w0.ar by omega] at hSt
    repeat' walk_at "st"
    refine c_used hS (hUL3.keep hS.kp hne) (fun tu us H5 hS kp5 htu hus => ?_)
    have hP := hP.keep kp5
    have hRZ5 := hRZ3.keep hS.kp
    have hS5 := hS
    clear hS
    have hS : SH [pl] H5 H5 [(pl, HO.lst vs)] := hS5.blk.sh
    obtain ⟨zs, hz1, hz2, hz3⟩ := hRZ5
    have hZl := hCo0.len
    have hzl : (zs.map V.ref).length = w0.rg.toNat := by rw [List.length_map]; omega
    have hzr : ∀ k, k < w0.rg.toNat → SqT K H5 (zs.getD k 0) ((ZS.getD k []).map V.int) := fun k hk => by
      have e1 : zs[k]? = some (zs[k]'(by rw [List.length_map] at hzl; omega)) := List.getElem?_eq_getElem _
      have e2 : ZS[k]? = some (ZS[k]'(by omega)) := List.getElem?_eq_getElem _
      rw [List.getD_eq_getElem?_getD, List.getD_eq_getElem?_getD, e1, e2]
      exact hz3 _ _ _ e1 e2
    have hub : ∀ n ∈ us, 0 ≤ n ∧ n < w0.rg := fun n hn => by
      obtain ⟨k, hk, h⟩ := (hus.mem n).mp hn
      refine hUL1.rd _ ?_ n h
      rw [List.getD_eq_getElem?_getD, List.getElem?_eq_getElem hk]
      exact List.getElem_mem _
    repeat' walk_at "st"
    refine u_forT (xs := us.map V.int) (fun i σ H' => ∃ (vs : List V) (P : List Plc) (v4 : Option V), σ = [some (.ref u), some (.ref tz), some (.ref pl), some (.ref (ts.getD 0 0)), v4, none] ∧ SH [pl] H5 H' [(pl, .lst vs)] ∧ PlsA K H' vs P ∧ AsgR ZS P0 (us.take i) P) htu ⟨vs, P0, _, rfl, hS, hP, .nil⟩ ?_ ?_ ?_
    · rintro i σ H6 _ ⟨vs, P, v4, rfl, hS, _⟩
      exact SqT_keep htu hS.kp
    · clear hS hP
      rintro i x σ H6 hx ⟨vs, P, v4, rfl, hS0, hP, hAs⟩
      rw [List.getElem?_map] at hx
      obtain ⟨n, hn, rfl⟩ := Option.map_eq_some_iff.mp hx
      obtain ⟨n0, n1⟩ := hub n (List.mem_of_getElem? hn)
      have hPl : P.length = w0.rg.toNat := hAs.len.trans hSt.1
      have hvl : vs.length = w0.rg.toNat := hP.1.trans hPl
      have hz1 := SqT_keep hz1 hS0.kp
      have hzn := SqT_keep (hzr n.toNat (by omega)) hS0.kp
      have hPn := hP.get (k := n.toNat) (by omega)
      have etk : us.take (i + 1) = us.take i ++ [n] := by rw [List.take_add_one, hn]; rfl
      have hS : SH [pl] H6 H6 [(pl, HO.lst vs)] := hS0.blk.sh
      repeat' walk_at "st"
      · have hnone : P.getD n.toNat none = none := hPn.iff.mp hc
        have hrl : (ZS.getD n.toNat []).length ≤ 23 := nodup_bnd (R := 23) ((hCo0.asc n.toNat (by omega)).imp fun h => by omega) fun m hm => by have := hCo0.bnd n.toNat (by omega) m hm; omega
        refine u_lcTG (xs := (ZS.getD n.toNat []).map V.int) hS (fun D k H' => ∃ ws, SH [pl] H6 H' [(D, .lst ws), (pl, .lst vs)] ∧ PlsA K H' ws (((ZS.getD n.toNat []).take k).map fun (m : Int) => P.getD m.toNat none)) hzn (fun D H7 hS => ⟨[], hS, .nil⟩) (fun D k H7 _ h => by obtain ⟨ws, hS, _⟩ := h; exact SqT_keep hzn hS.kp) ?_ ?_
        · clear hS
          rintro D k x H7 hx ⟨ws, hS7, hW⟩
          rw [List.getElem?_map] at hx
          obtain ⟨m, hm, rfl⟩ := Option.map_eq_some_iff.mp hx
          obtain ⟨m0, m1⟩ := hCo0.bnd n.toNat (by omega) m (List.mem_of_getElem? hm)
          have hwl : ws.length ≤ 23 := by
            rw [hW.1, List.length_map, List.length_take]
            omega
          have hS : SH [D, pl] H7 H7 [(D, .lst ws), (pl, .lst vs)] := hS7.blk.sh
          repeat' walk_at "st"
          refine ⟨_, hS7.callE hS, ?_⟩
          rw [List.take_add_one, hm, List.map_append]
          exact (hW.keep hS.kp).snoc (((hP.keep hS7.kp).keep hS.kp).get (by omega))
        · clear hS
          rintro D H7 ⟨ws, hS, hW⟩
          rw [List.length_map, List.take_length] at hW
          repeat' walk_at "st"
          refine c_first_free hS (hS.get 0 rfl) hW (by rw [List.length_map]; omega) (fun p H8 j hS8 kp8 hfree hp => ?_)
          clear hS
          have hS : SH [D, pl] H8 H8 [(D, .lst ws), (pl, .lst vs)] := hS8.blk.sh
          repeat' walk_at "st"
          refine ⟨_, P.set n.toNat (some (cand j)), _, rfl, hS0.callE (hS8.callE hS).drop1, (((hP.keep hS8.kp).keep hS.kp).set _ ⟨p, rfl, SqT_keep hp hS.kp⟩), ?_⟩
          rw [etk]
          refine hAs.snoc ?_
          unfold AsgS
          rw [if_pos hnone]
          exact ⟨j, hfree, rfl⟩
      · refine ⟨vs, P, _, rfl, hS0.callE hS, hP.keep hS.kp, ?_⟩
        rw [etk]
        refine hAs.snoc ?_
        unfold AsgS
        rw [if_neg (fun e => hc (hPn.iff.mpr e))]
    · clear hS hP
      rintro σ H6 ⟨vs, P, v4, rfl, hS0, hP, hAs⟩
      rw [List.length_map, List.take_length] at hAs
      have hS : SH [pl] H6 H6 [(pl, HO.lst vs)] := hS0.blk.sh
      repeat' walk_at "st"
      have eY : YS0.getD 0 [] = YS.getD 0 [] := asc_eq (hLv0.asc 0 (by omega)) (hLv.asc 0 (by omega)) fun k => (hLv0.lv 0 (by omega) k).trans (hLv.lv 0 (by omega) k).symm
      exact kk _ vs P YS0 ZS us _ (kp1.trans ((hS3.callE (hS5.callE (hS0.callE hS.drop1))).kp)) (SqT.of (hS.get 0 rfl)) (hP.keep hS.kp) hLv0 hCo0 hus ⟨P0, by rw [eY]; exact hSt, hAs⟩
  )) only [↓Hsh.on])
end

theorem c_assign {K : PySem.W.Frag} {A : List Addr} {H0 H : Hp} {L : List Cell} {u : Addr} {R : Int} {ais : List AI} {ds : List (List Int)} {ar : Int} {Q : VK} {E : XK} (hS : SH A H0 H L) (hU : UL K H u R ais ds) (hA : UA K H u ar)
    (kk : ∀ t (vs : List V) (P : List Plc) (YS ZS : List (List Int)) (us : List Int) H', SH A H0 H' L → Keep [] H H' → SqT K H' t vs → PlsA K H' vs P → LiveOk R ais ds YS → ConOk R ais ds YS ZS → UsedOk ais us → AsgOk R.toNat ar YS ZS us P → Q (.ref t) H') : sp_assign K ([.ref u] ++ []) H Q E :=
  ⟨_, rfl, u, R, ais, ds, ar, rfl, hU, hA, fun t vs P YS ZS us H' kp h1 h2 h3 h4 h5 h6 => kk t vs P YS ZS us H' (hS.call0 kp) kp h1 h2 h3 h4 h5 h6⟩
/-! ### sound assignments -/
theorem nd_iff {A B : Prop} [Decidable A] [Decidable B] : ((!decide A) = decide B) ↔ (¬ A ↔ B) := by
  by_cases a : A <;> by_cases b : B <;> simp [a, b]
theorem d_iff {A B : Prop} [Decidable A] [Decidable B] : ¬ (decide A = decide B) ↔ (¬ A ↔ B) := by
  by_cases a : A <;> by_cases b : B <;> simp [a, b]
def conQ (ais : List AI) (ds : List (List Int)) (n m : Nat) : Prop := ∃ Y : List (List Int), (∀ k, k < ais.length → ∀ x, x ∈ Y.getD k [] ↔ LvP ais ds k x) ∧ conP ais ds Y n (m : Nat)
theorem conQ_iff {K : PySem.W.Frag} {H : Hp} {u : Addr} {R : Int} {ais : List AI} {ds Y : List (List Int)} (hU : UL K H u R ais ds) (hY : ∀ k, k < ais.length → ∀ x, x ∈ Y.getD k [] ↔ LvP ais ds k x) (n m : Nat) : conQ ais ds n m ↔ conP ais ds Y n (m : Nat) :=
  ⟨fun ⟨Y', h1, h2⟩ => (conP_congr hU.fl hU.ds2 (fun k hk x => (h1 k hk x).trans (hY k hk x).symm) n m).mp h2, fun h => ⟨Y, hY, h⟩⟩
/-- what soundness asks of one register -/
structure Snd1 (ais : List AI) (ds : List (List Int)) (R : Nat) (ar : Int) (P : List Plc) (n : Nat) : Prop where
  us : P.getD n none ≠ none ↔ usedP ais (n : Nat)
  ar : ((n : Nat) : Int) < ar → LvP ais ds 0 (n : Nat) → P.getD n none = some (.i, ((n : Nat) : Int))
  co : ∀ m, m < R → conQ ais ds n m → P.getD n none ≠ none → P.getD n none ≠ P.getD m none
def sndU (ais : List AI) (ds : List (List Int)) (R : Nat) (ar : Int) (P : List Plc) : Prop := ∀ n, n < R → Snd1 ais ds R ar P n
def sp_is_sound (K : PySem.W.Frag) : Sp := mk2 fun a b H Q _ => ∃ (u t : Addr) (R : Int) (ais : List AI) (ds : List (List Int)) (ar : Int) (vs : List V) (P : List Plc), a = .ref u ∧ b = .ref t ∧ UL K H u R ais ds ∧ UA K H u ar ∧ SqT K H t vs ∧ PlsA K H vs P ∧ P.length = R.toNat ∧
  ∀ (b' : Bool) H', Keep [] H H' → (b' = true ↔ sndU ais ds R.toNat ar P) → Q (.bl b') H'
section
 local macro_rules | `(tactic| walk_at "hp") => `(tactic| exact hS.kp.k _ _ huu (.inl (fun z => nomatch z)))
theorem ok_is_sound {P : Program} {w : World} {K : PySem.W.Frag} {mg : Str → Option Value} {base : Heap} (Y : Env w K mg) (G_conflicts : CallOk P w K mg base CX0 5 "conflicts" ["unit"] (sp_conflicts K)) (G_live : CallOk P w K mg base CX0 4 "live" ["unit"] (sp_live K)) (G_used_registers : CallOk P w K mg base CX0 3 "used_registers" ["unit"] (sp_used_registers K)) : CallOk P w K mg base CX0 6 "is_sound" ["unit", "assignment"] (sp_is_sound K) := Hsh.un (by simp (disch := k_dflt (
  refine Hsh.up ?_
  obtain ⟨fd, F⟩ := Y.fd_is_sound
  refine ⟨_, fd, Y.mg_is_sound, F.kp, F.bindsN (fun _ _ _ _ _ _ us hl => match us, hl with | [_, _], _ => rfl), F.ok sc_is_sound mk2_len (fun cdv A outer s H vs Q E hr h => ?_)⟩
  have hu := hu_room hr
  obtain ⟨_, _, rfl, u, t, R, ais, ds, ar, vs, P, rfl, rfl, hUL0, hUA0, ht0, hP0, hPl, kk⟩ := h
  have hS : SH [] H H [] := SH.start0
  refine ⟨_, PSs.nox (pss_cons (ps_set (i := 2) sc_is_sound.nd rfl (Or.inl rfl) (pe_callG G_used_registers (hr.mono (by decide)) rfl pass0 (pa_cons (pv 0) pa_nil)))
  (pss_cons (ps_set (i := 3) sc_is_sound.nd rfl (Or.inl rfl) (pe_ix xIx (pe_callG G_live (hr.mono (by decide)) rfl pass0 (pa_cons (pv 0) pa_nil)) pe_int (fun _ _ => rfl)))
  (pss_cons (ps_set (i := 4) sc_is_sound.nd rfl (Or.inl rfl) (pe_callG G_conflicts hr rfl pass0 (pa_cons (pv 0) pa_nil)))
  (pss_cons (ps_for PassesOwn.never rfl (pi_range1 rfl Y.z_range (pa_cons (pe_fld (pv 0) rfl) pa_nil)) (pg_name (i := 5) sc_is_sound.nd rfl (Or.inl rfl))
  (pss_cons (ps_set (i := 6) sc_is_sound.nd rfl (Or.inl rfl) (pe_ix xIx (pv 1) (pv 5) (fun _ _ => rfl)))
  (pss_cons (ps_if (pt_cmpR (xNe hu) (pe_cmpR xIsNot (pv 6) pe_non (nomark _)) (pe_cmpR xIn (pv 5) (pv 2) rfl) (nomark _)) (pss_one (ps_ret pe_bl)) pss_nil)
  (pss_cutG (ps_if (PW.pt (pw_and (pt_cmpR op_lt (pv 5) (pe_fld (pv 0) rfl) (nomark _)) (pw_and (pt_cmpR xIn (pv 5) (pv 3) rfl) (pw_and1 (pt_cmpR (xNe hu) (pv 6) (pe_tup (pa_cons pe_str (pa_cons (pv 5) pa_nil))) (nomark _)))))) (pss_one (ps_ret pe_bl)) pss_nil)
  (pss_one (ps_for PassesOwn.never rfl (pi_tup (pe_ix xIx (pv 4) (pv 5) (fun _ _ => rfl))) (pg_name (i := 7) sc_is_sound.nd rfl (Or.inl rfl))
  (pss_one (ps_if (PW.pt (pw_and (pt_cmpR xIsNot (pv 6) pe_non (nomark _)) (pw_and1 (pt_cmpR (xEq hu) (pv 6) (pe_ix xIx (pv 1) (pv 7) (fun _ _ => rfl)) (nomark _))))) (pss_one (ps_ret pe_bl)) pss_nil))))))))
  (pss_one (ps_ret pe_bl)))))), ?_⟩
  rw [st_is_sound]
  try simp only [cxK, cxK2, cxW, cxW2]
  clear hu hr F
  repeat' walk_at "st"
  refine c_used hS hUL0 (fun tu us H1 hS kp1 htu hus => ?_)
  repeat' walk_at "st"
  refine c_live hS (hUL0.keep hS.kp (fun z => nomatch z)) (fun tl YS H2 hS kp2 hRW hLv => ?_)
  obtain ⟨ts, ht1, ht2, ht3⟩ := hRW
  have hyl := hLv.len
  have n4 := hUL0.n4
  have r3 := hUL0.r3
  have r23 := hUL0.r23
  have htl : (ts.map V.ref).length = ais.length := by rw [List.length_map]; omega
  have hfi : SqT K H2 (ts.getD 0 0) ((YS.getD 0 []).map V.int) := by
    have e1 : ts[0]? = some (ts[0]'(by rw [List.length_map] at htl; omega)) := List.getElem?_eq_getElem _
    have e2 : YS[0]? = some (YS[0]'(by omega)) := List.getElem?_eq_getElem _
    rw [List.getD_eq_getElem?_getD, List.getD_eq_getElem?_getD, e1, e2]
    exact ht3 _ _ _ e1 e2
  repeat' walk_at "st"
  refine c_conflicts hS (hUL0.keep hS.kp (fun z => nomatch z)) (fun tz YS2 ZS H3 hS3 kp3 hRZ hLv2 hCo => ?_)
  clear hS
  have hUL := hUL0.keep hS3.kp (fun z => nomatch z)
  have hUA := hUA0.keep hS3.kp (fun z => nomatch z)
  have ht := SqT_keep ht0 hS3.kp
  have hP := hP0.keep hS3.kp
  have htu := (SqT_keep (SqT_keep htu kp2) kp3)
  have hfi := SqT_keep hfi kp3
  clear hUL0 hUA0 ht0 hP0 ht1 ht2 ht3
  have hcon : ∀ n m : Nat, conQ ais ds n m ↔ conP ais ds YS2 n (m : Nat) := conQ_iff hUL hLv2.lv
  obtain ⟨dx, cd, rg, w0, cs, gs, huu, ew, hcd, hrg, hcl, hregs, hg5, hins⟩ := hUL.at
  have ear := hUA.at huu
  subst ear
  subst ew
  obtain ⟨zs, hz1, hz2, hz3⟩ := hRZ
  have hZl := hCo.len
  have hzl : (zs.map V.ref).length = w0.rg.toNat := by rw [List.length_map]; omega
  have hzr : ∀ k, k < w0.rg.toNat → SqT K H3 (zs.getD k 0) ((ZS.getD k []).map V.int) := fun k hk => by
    have e1 : zs[k]? = some (zs[k]'(by rw [List.length_map] at hzl; omega)) := List.getElem?_eq_getElem _
    have e2 : ZS[k]? = some (ZS[k]'(by omega)) := List.getElem?_eq_getElem _
    rw [List.getD_eq_getElem?_getD, List.getD_eq_getElem?_getD, e1, e2]
    exact hz3 _ _ _ e1 e2
  have hvl : vs.length = w0.rg.toNat := hP.1.trans hPl
  have hS : SH [] H3 H3 [] := SH.start0
  have kp0 := hS3.kp
  clear hS3 kp1 kp2 kp3
  repeat' walk_at "st"
  refine u_forR1 (fun i σ H' => ∃ (v5 v6 v7 : Option V), σ = [some (.ref u), some (.ref t), some (.ref tu), some (.ref (ts.getD 0 0)), some (.ref tz), v5, v6, v7] ∧ SH [] H3 H' [] ∧ ∀ n, n < i → Snd1 ais ds w0.rg.toNat w0.ar P n) (by omega) (by omega) ⟨_, _, _, rfl, hS, fun n h => absurd h (Nat.not_lt_zero _)⟩ ?_ ?_
  · clear hS
    rintro i σ H4 hi ⟨v5, v6, v7, rfl, hS, hall⟩
    have hzi := hzr i (by omega)
    have hPn := (hP.keep hS.kp).get (k := ((i : Nat) : Int).toNat) (by omega)
    repeat' walk_at "st"
    refine s_inT0 (SqT_keep htu hS.kp) rfl (flat_ints _) ?_
    rw [inV_ints, hPn.non]
    repeat' walk_at "st"
    · rename_i hc
      rw [Int.toNat_natCast] at hc hPn ⊢
      have h1 : P.getD i none ≠ none ↔ usedP ais (i : Nat) := by
        rw [← hus.mem]
        exact nd_iff.mp hc
      refine s_cutG (fun σ H' => σ = [some (.ref u), some (.ref t), some (.ref tu), some (.ref (ts.getD 0 0)), some (.ref tz), some (.int (i : Nat)), some (vs.getD i .non), v7] ∧ SH [] H3 H' [] ∧ (((i : Nat) : Int) < w0.ar → LvP ais ds 0 (i : Nat) → P.getD i none = some (.i, ((i : Nat) : Int)))) ?_ ?_
      · repeat' walk_at "st"
        · refine s_inT0 (SqT_keep hfi hS.kp) rfl (flat_ints _) ⟨_, rfl, ?_⟩
          rw [inV_ints]
          refine i_dec (fun hin => ?_) (fun hin => ?_)
          · repeat' walk_at "st"
            refine s_neP (q := some (.i, ((i : Nat) : Int))) (((hP.keep hS.kp).get (k := i) (by omega))) ⟨_, rfl, SqT.of (hS.get 0 rfl)⟩ ⟨_, rfl, ?_⟩
            refine i_not (i_dec (fun he => ?_) (fun he => ?_))
            · exact ⟨rfl, hS.drop1, fun _ _ => he⟩
            · repeat' walk_at "st"
              exact kk false _ (kp0.trans hS.kp) ⟨fun z => (nomatch z), fun h => absurd ((h i (by omega)).ar (by assumption) ((hLv.lv 0 (by omega) _).mp hin)) he⟩
          · exact ⟨rfl, hS, fun _ l => absurd ((hLv.lv 0 (by omega) _).mpr l) hin⟩
        · exact ⟨rfl, hS, fun z => absurd z (by assumption)⟩
      · clear hS hPn
        rintro σ H5 ⟨rfl, hS, h2⟩
        repeat' walk_at "st"
        refine u_forT (xs := (ZS.getD i []).map V.int) (fun j σ H' => ∃ (v7 : Option V), σ = [some (.ref u), some (.ref t), some (.ref tu), some (.ref (ts.getD 0 0)), some (.ref tz), some (.int (i : Nat)), some (vs.getD i .non), v7] ∧ SH [] H3 H' [] ∧ ∀ m ∈ (ZS.getD i []).take j, P.getD i none ≠ none → P.getD i none ≠ P.getD m.toNat none) (SqT_keep hzi hS.kp) ⟨_, rfl, hS, fun m h => absurd h List.not_mem_nil⟩ ?_ ?_ ?_
        · rintro j σ H6 _ ⟨v7, rfl, hS, _⟩
          exact SqT_keep hzi hS.kp
        · clear hS
          rintro j x σ H6 hx ⟨v7, rfl, hS, hco⟩
          rw [List.getElem?_map] at hx
          obtain ⟨m, hm, rfl⟩ := Option.map_eq_some_iff.mp hx
          obtain ⟨m0, m1⟩ := hCo.bnd i (by omega) m (List.mem_of_getElem? hm)
          have hPi := (hP.keep hS.kp).get (k := i) (by omega)
          have hPm := (hP.keep hS.kp).get (k := m.toNat) (by omega)
          have stp : (P.getD i none ≠ none → P.getD i none ≠ P.getD m.toNat none) → ∀ m ∈ (ZS.getD i []).take (j + 1), P.getD i none ≠ none → P.getD i none ≠ P.getD m.toNat none := fun h m' hm' => by
            rw [List.take_add_one, hm] at hm'
            rcases List.mem_append.mp hm' with hm' | hm'
            · exact hco m' hm'
            · rw [List.mem_singleton.mp hm']
              exact h
          repeat' walk_at "st"
          · exact ⟨_, rfl, hS, stp fun z => absurd (hPi.iff.mp (by assumption)) z⟩
          · refine s_eqP hPi hPm ⟨_, rfl, ?_⟩
            refine i_dec (fun he => ?_) (fun he => ?_)
            · repeat' walk_at "st"
              refine kk false _ (kp0.trans hS.kp) ⟨fun z => (nomatch z), fun h => absurd he ((h i (by omega)).co m.toNat (by omega) ((hcon i m.toNat).mpr ?_) (fun z => absurd (hPi.iff.mpr z) (by assumption)))⟩
              rw [show ((m.toNat : Nat) : Int) = m by omega]
              exact (hCo.con i (by omega) m).mp (List.mem_of_getElem? hm)
            · exact ⟨_, rfl, hS, stp fun _ => he⟩
        · rintro σ H6 ⟨v7, rfl, hS, hco⟩
          rw [List.length_map, List.take_length] at hco
          refine ⟨_, _, _, rfl, hS, fun n hn => ?_⟩
          by_cases e : n < i
          · exact hall n e
          · obtain rfl : n = i := by omega
            exact ⟨h1, h2, fun m hm hc => hco (m : Nat) ((hCo.con n (by omega) _).mpr ((hcon n m).mp hc))⟩
    · rename_i hc
      refine kk false _ (kp0.trans hS.kp) ⟨fun z => (nomatch z), fun h => absurd ?_ hc⟩
      have h1 := (h i (by omega)).us
      rw [← hus.mem] at h1
      rw [Int.toNat_natCast]
      exact nd_iff.mpr h1
  · rintro σ H4 ⟨v5, v6, v7, rfl, hS, hall⟩
    repeat' walk_at "st"
    exact kk true _ (kp0.trans hS.kp) ⟨fun _ => hall, fun _ => rfl⟩
  )) only [↓Hsh.on])
end

theorem c_is_sound {K : PySem.W.Frag} {A : List Addr} {H0 H : Hp} {L : List Cell} {u t : Addr} {R : Int} {ais : List AI} {ds : List (List Int)} {ar : Int} {vs : List V} {P : List Plc} {Q : VK} {E : XK} (hS : SH A H0 H L) (hU : UL K H u R ais ds) (hA : UA K H u ar) (ht : SqT K H t vs) (hP : PlsA K H vs P) (hl : P.length = R.toNat)
    (kk : ∀ (b' : Bool) H', SH A H0 H' L → Keep [] H H' → (b' = true ↔ sndU ais ds R.toNat ar P) → Q (.bl b') H') : sp_is_sound K ([.ref u, .ref t] ++ []) H Q E :=
  ⟨_, _, rfl, u, t, R, ais, ds, ar, vs, P, rfl, rfl, hU, hA, ht, hP, hl, fun b' H' kp h => kk b' H' (hS.call0 kp) kp h⟩
/-! ### the law's own sums -/
def sp_z_used (K : PySem.W.Frag) : Sp := mk1 fun a H Q _ => ∃ (u : Addr) (R : Int) (ais : List AI) (ds : List (List Int)), a = .ref u ∧ UL K H u R ais ds ∧ ∀ (l : Addr) (M : List Int) H', SH [] H H' [(l, .lst (M.map V.int))] → (∀ n, n ∈ M ↔ usedP ais n) → Q (.ref l) H'
section
 local macro_rules | `(tactic| walk_at "hp") => `(tactic| exact hS.kp.k _ _ huu (.inl (fun z => nomatch z)))
theorem ok_z_used {P : Program} {w : World} {K : PySem.W.Frag} {mg : Str → Option Value} {base : Heap} (Y : Env w K mg) (G_z_reads : CallOk P w K mg base CX0 2 "_law_reads" ["_law_instruction_here"] (sp_z_reads K)) : CallOk P w K mg base CX0 3 "_law_used" ["_law_unit_here"] (sp_z_used K) := Hsh.un (by simp (disch := k_dflt (
  refine Hsh.up ?_
  obtain ⟨fd, F⟩ := Y.fd_z_used
  refine ⟨_, fd, Y.mg_z_used, F.kp, F.bindsN (fun _ _ _ _ _ _ us hl => match us, hl with | [_], _ => rfl), F.ok sc_z_used mk1_len (fun cdv A outer s H vs Q E hr h => ?_)⟩
  have hu := hu_room hr
  obtain ⟨_, rfl, u, R, ais, ds, rfl, hUL0, kk⟩ := h
  obtain ⟨dx, cd, rg, w0, cs, gs, huu, ew, hcd, hrg, hcl, hregs, hg5, hins⟩ := hUL0.at
  have hS : SH [] H H [] := SH.start0
  have n64 := hUL0.n64
  refine ⟨_, PSs.nox (pss_cons (ps_set (i := 1) sc_z_used.nd rfl (Or.inl rfl) (pe_lst pa_nil))
  (pss_cons (ps_for PassesOwn.never rfl (pi_tup (pe_fld (pv 0) rfl)) (pg_name (i := 2) sc_z_used.nd rfl (Or.inl rfl))
  (pss_one (ps_set (i := 1) sc_z_used.nd rfl (Or.inl rfl) (pe_op xAdd (pv 1) (pe_callG G_z_reads hr rfl pass0 (pa_cons (pv 2) pa_nil))))))
  (pss_one (ps_ret (pv 1))))), ?_⟩
  rw [st_z_used]
  try simp only [cxK, cxK2, cxW, cxW2]
  clear hu hr F
  repeat' walk_at "st"
  refine u_forT (xs := cs.map V.ref) (fun i σ H' => ∃ (l : Addr) (M : List Int) (v2 : Option V), σ = [some (.ref u), some (.ref l), v2] ∧ SH [] H H' [(l, .lst (M.map V.int))] ∧ M.length ≤ 6 * i ∧ ∀ n, n ∈ M ↔ ∃ k, k < i ∧ n ∈ rdL (ais.getD k AI0).os) (SqT_keep hcd hS.kp) ⟨_, [], _, rfl, hS, Nat.zero_le _, fun n => ⟨fun h => absurd h List.not_mem_nil, fun ⟨k, h, _⟩ => absurd h (Nat.not_lt_zero _)⟩⟩ ?_ ?_ ?_
  · rintro i σ H4 _ ⟨l, M, v2, rfl, hS, _⟩
    exact SqT_keep hcd hS.kp
  · clear hS
    rintro i x σ H4 hx ⟨l, M, v2, rfl, hS, hM, hm⟩
    rw [List.getElem?_map] at hx
    obtain ⟨lx, hl, rfl⟩ := Option.map_eq_some_iff.mp hx
    have hi : i < ais.length := by have := (List.getElem?_eq_some_iff.mp hl).1; rw [List.length_map] at hcl; omega
    have el : cs.getD i 0 = lx := by rw [List.getD_eq_getElem?_getD, hl]; rfl
    obtain ⟨qs, hI⟩ := hins i hi
    rw [el] at hI
    obtain ⟨_, hos, _, _⟩ := hI.sizes
    have hrl : (rdL (ais.getD i AI0).os).length ≤ 6 := by
      have := rdL_len (ais.getD i AI0).os (ais.getD i AI0).os.length
      rw [List.take_length] at this
      omega
    repeat' walk_at "st"
    refine c_z_reads hS (hI.keep hS.kp) (fun l2 Lx H5 hS _ => ?_)
    have hS := hS.perm perm_c2
    repeat' walk_at "st"
    refine ⟨p, M ++ rdL (ais.getD i AI0).os, _, rfl, ?_, by rw [List.length_append]; omega, fun n => ?_⟩
    · rw [List.map_append]
      exact hS.sub (List.Sublist.cons_cons _ (List.nil_sublist _))
    · rw [List.mem_append, hm, ex_lt_succ]
  · rintro σ H4 ⟨l, M, v2, rfl, hS, hM, hm⟩
    repeat' walk_at "st"
    refine kk l M _ hS fun n => ?_
    rw [hm, hcl]
    exact Iff.rfl
  )) only [↓Hsh.on])
end
theorem c_z_used {K : PySem.W.Frag} {A : List Addr} {H0 H : Hp} {L : List Cell} {u : Addr} {R : Int} {ais : List AI} {ds : List (List Int)} {Q : VK} {E : XK} (hS : SH A H0 H L) (hU : UL K H u R ais ds)
    (kk : ∀ (l : Addr) (M : List Int) H', SH A H0 H' ((l, .lst (M.map V.int)) :: L) → (∀ n, n ∈ M ↔ usedP ais n) → Q (.ref l) H') : sp_z_used K ([.ref u] ++ []) H Q E :=
  ⟨_, rfl, u, R, ais, ds, rfl, hU, fun l M H' C h => kk l M H' (SH.call (B := []) (F := L) hS C) h⟩
def sp_z_sound (K : PySem.W.Frag) : Sp := mk2 fun a b H Q _ => ∃ (u t : Addr) (R : Int) (ais : List AI) (ds : List (List Int)) (ar : Int) (vs : List V) (P : List Plc), a = .ref u ∧ b = .ref t ∧ UL K H u R ais ds ∧ UA K H u ar ∧ SqT K H t vs ∧ PlsA K H vs P ∧ P.length = R.toNat ∧
  ∀ (b' : Bool) H', Keep [] H H' → (b' = true ↔ sndU ais ds R.toNat ar P) → Q (.bl b') H'
section
 local macro_rules | `(tactic| walk_at "hp") => `(tactic| exact hS.kp.k _ _ huu (.inl (fun z => nomatch z)))
 local macro_rules | `(tactic| walk_at "at") => `(tactic| first | exact atI_bls (by walk_at "ar") (by walk_at "ar") | fail)
theorem ok_z_sound {P : Program} {w : World} {K : PySem.W.Frag} {mg : Str → Option Value} {base : Heap} (Y : Env w K mg) (G_z_conflicts : CallOk P w K mg base CX0 4 "_law_conflicts" ["_law_unit_here"] (sp_z_conflicts K)) (G_z_live : CallOk P w K mg base CX0 3 "_law_live" ["_law_unit_here"] (sp_z_live K)) (G_z_used : CallOk P w K mg base CX0 3 "_law_used" ["_law_unit_here"] (sp_z_used K)) : CallOk P w K mg base CX0 5 "_law_sound" ["_law_unit_here", "_law_assignment"] (sp_z_sound K) := Hsh.un (by simp (disch := k_dflt (
  refine Hsh.up ?_
  obtain ⟨fd, F⟩ := Y.fd_z_sound
  refine ⟨_, fd, Y.mg_z_sound, F.kp, F.bindsN (fun _ _ _ _ _ _ us hl => match us, hl with | [_, _], _ => rfl), F.ok sc_z_sound mk2_len (fun cdv A outer s H vs Q E hr h => ?_)⟩
  have hu := hu_room hr
  obtain ⟨_, _, rfl, u, t, R, ais, ds, ar, vs, P, rfl, rfl, hUL0, hUA0, ht0, hP0, hPl, kk⟩ := h
  have hS : SH [] H H [] := SH.start0
  have n4 := hUL0.n4
  have r3 := hUL0.r3
  have r23 := hUL0.r23
  refine ⟨_, PSs.nox (pss_cons (ps_set (i := 2) sc_z_sound.nd rfl (Or.inl rfl) (pe_callG G_z_used (hr.mono (by decide)) rfl pass0 (pa_cons (pv 0) pa_nil)))
  (pss_cons (ps_set (i := 3) sc_z_sound.nd rfl (Or.inl rfl) (pe_ix xIx (pe_callG G_z_live (hr.mono (by decide)) rfl pass0 (pa_cons (pv 0) pa_nil)) pe_int (fun _ _ => rfl)))
  (pss_cons (ps_set (i := 4) sc_z_sound.nd rfl (Or.inl rfl) (pe_callG G_z_conflicts hr rfl pass0 (pa_cons (pv 0) pa_nil)))
  (pss_cons (ps_for PassesOwn.never rfl (pi_range1 rfl Y.z_range (pa_cons (pe_fld (pv 0) rfl) pa_nil)) (pg_name (i := 5) sc_z_sound.nd rfl (Or.inl rfl))
  (pss_cons (ps_set (i := 6) sc_z_sound.nd rfl (Or.inl rfl) (pe_ix xIx (pv 1) (pv 5) (fun _ _ => rfl)))
  (pss_cons (ps_if (pt_cmpR (xEq hu) (pe_cmpR xIs (pv 6) pe_non (nomark _)) (pe_cmpR xIn (pv 5) (pv 2) rfl) (nomark _)) (pss_one (ps_ret pe_bl)) pss_nil)
  (pss_cutG (ps_if (PW.pt (pw_and (pt_cmpR op_lt (pv 5) (pe_fld (pv 0) rfl) (nomark _)) (pw_and (pt_val (pe_ix xIx (pv 3) (pv 5) (fun _ _ => rfl))) (pw_and1 (pt_cmpR (xNe hu) (pv 6) (pe_tup (pa_cons pe_str (pa_cons (pv 5) pa_nil))) (nomark _)))))) (pss_one (ps_ret pe_bl)) pss_nil)
  (pss_one (ps_for PassesOwn.never rfl (pi_range1 rfl Y.z_range (pa_cons (pe_fld (pv 0) rfl) pa_nil)) (pg_name (i := 7) sc_z_sound.nd rfl (Or.inl rfl))
  (pss_one (ps_if (PW.pt (pw_and (pt_val (pe_ix xIx (pe_ix xIx (pv 4) (pv 5) (fun _ _ => rfl)) (pv 7) (fun _ _ => rfl))) (pw_and (pt_cmpR xIsNot (pv 6) pe_non (nomark _)) (pw_and1 (pt_cmpR (xEq hu) (pv 6) (pe_ix xIx (pv 1) (pv 7) (fun _ _ => rfl)) (nomark _)))))) (pss_one (ps_ret pe_bl)) pss_nil))))))))
  (pss_one (ps_ret pe_bl)))))), ?_⟩
  rw [st_z_sound]
  try simp only [cxK, cxK2, cxW, cxW2]
  clear hu hr F
  repeat' walk_at "st"
  refine c_z_used hS hUL0 (fun lu M H1 hS hus => ?_)
  repeat' walk_at "st"
  refine c_z_live hS (hUL0.keep hS.kp (fun z => nomatch z)) (fun lr bs BS H2 hS hbl hD hlv => ?_)
  have hBl := hD.1
  have hbl2 : (bs.map V.ref).length = ais.length := by rw [List.length_map]; omega
  repeat' walk_at "st"
  refine c_z_conflicts hS (hUL0.keep hS.kp (fun z => nomatch z)) (fun fo fs FS LS H3 hS3 hfl hD2 hL hF => ?_)
  have hFl := hD2.1
  clear hS
  have hUL := hUL0.keep hS3.kp (fun z => nomatch z)
  have hUA := hUA0.keep hS3.kp (fun z => nomatch z)
  have ht := SqT_keep ht0 hS3.kp
  have hP := hP0.keep hS3.kp
  clear hUL0 hUA0 ht0 hP0
  have hfo : H3 fo = some (.lst (fs.map V.ref)) := hS3.hs (fo, _) (.head _)
  have hfr : ∀ k, k < R.toNat → H3 (fs.getD k 0) = some (.lst ((FS.getD k []).map V.bl)) := fun k hk => hS3.hs _ (.tail _ (List.mem_append_left _ (List.mem_of_getElem? (bCd_get hfl (by omega)))))
  have hb0 : H3 (bs.getD 0 0) = some (.lst ((BS.getD 0 []).map V.bl)) := hS3.hs _ (.tail _ (List.mem_append_right _ (.tail _ (List.mem_append_left _ (List.mem_of_getElem? (bCd_get hbl (by omega)))))))
  have hlu : H3 lu = some (.lst (M.map V.int)) := hS3.hs (lu, _) (.tail _ (List.mem_append_right _ (.tail _ (List.mem_append_right _ (.head _)))))
  have hcon : ∀ n m : Nat, conQ ais ds n m ↔ getB FS n m = true := fun n m => (conQ_iff hUL hL n m).trans (hF n m).symm
  obtain ⟨dx, cd, rg, w0, cs, gs, huu, ew, hcd, hrg, hcl, hregs, hg5, hins⟩ := hUL.at
  have ear := hUA.at huu
  subst ear
  subst ew
  have hvl : vs.length = w0.rg.toNat := hP.1.trans hPl
  have hfl2 : (fs.map V.ref).length = w0.rg.toNat := by rw [List.length_map]; omega
  have hbr : ((BS.getD 0 []).map V.bl).length = w0.rg.toNat := by rw [List.length_map]; exact hD.at (by omega)
  have hS : SH [] H3 H3 [] := SH.start0
  have kp0 := hS3.kp
  clear hS3
  repeat' walk_at "st"
  refine u_forR1 (fun i σ H' => ∃ (v5 v6 v7 : Option V), σ = [some (.ref u), some (.ref t), some (.ref lu), some (.ref (bs.getD 0 0)), some (.ref fo), v5, v6, v7] ∧ SH [] H3 H' [] ∧ ∀ n, n < i → Snd1 ais ds w0.rg.toNat w0.ar P n) (by omega) (by omega) ⟨_, _, _, rfl, hS, fun n h => absurd h (Nat.not_lt_zero _)⟩ ?_ ?_
  · clear hS
    rintro i σ H4 hi ⟨v5, v6, v7, rfl, hS, hall⟩
    have hfi := hfr i (by omega)
    have hfil : ((FS.getD i []).map V.bl).length = w0.rg.toNat := by rw [List.length_map]; exact hD2.at (by omega)
    have hPn := (hP.keep hS.kp).get (k := ((i : Nat) : Int).toNat) (by omega)
    repeat' walk_at "st"
    refine s_inL0 (SqL.of (hS.ro hlu)) rfl (flat_ints _) ?_
    rw [inV_ints, hPn.non]
    repeat' walk_at "st"
    · rename_i hc
      refine kk false _ (kp0.trans hS.kp) ⟨fun z => (nomatch z), fun h => ?_⟩
      have h1 := (h i (by omega)).us
      rw [← hus, show P.getD i none = P.getD ((i : Nat) : Int).toNat none by rw [Int.toNat_natCast]] at h1
      exact absurd hc (d_iff.mpr h1)
    · rename_i hc
      rw [Int.toNat_natCast] at hc hPn ⊢
      have h1 : P.getD i none ≠ none ↔ usedP ais (i : Nat) := by
        rw [← hus]
        exact d_iff.mp hc
      refine s_cutG (fun σ H' => σ = [some (.ref u), some (.ref t), some (.ref lu), some (.ref (bs.getD 0 0)), some (.ref fo), some (.int (i : Nat)), some (vs.getD i .non), v7] ∧ SH [] H3 H' [] ∧ (((i : Nat) : Int) < w0.ar → LvP ais ds 0 (i : Nat) → P.getD i none = some (.i, ((i : Nat) : Int)))) ?_ ?_
      · repeat' walk_at "st"
        · refine s_neP (q := some (.i, ((i : Nat) : Int))) (((hP.keep hS.kp).get (k := i) (by omega))) ⟨_, rfl, SqT.of (hS.get 0 rfl)⟩ ⟨_, rfl, ?_⟩
          have hb : getB BS 0 i = true := by
            have : (BS.getD 0 []).getD ((i : Nat) : Int).toNat false = true := by assumption
            rw [Int.toNat_natCast] at this
            exact this
          refine i_not (i_dec (fun he => ?_) (fun he => ?_))
          · exact ⟨rfl, hS.drop1, fun _ _ => he⟩
          · repeat' walk_at "st"
            exact kk false _ (kp0.trans hS.kp) ⟨fun z => (nomatch z), fun h => absurd ((h i (by omega)).ar (by assumption) ((hlv 0 (by omega) i (by omega)).mp hb)) he⟩
        · rw [Int.toNat_natCast] at hc
          refine ⟨rfl, hS, fun _ l => ?_⟩
          have hb := (hlv 0 (by omega) i (by omega)).mpr l
          unfold getB at hb
          rw [hc] at hb
          cases hb
        · exact ⟨rfl, hS, fun z => absurd z (by assumption)⟩
      · clear hS hPn
        rintro σ H5 ⟨rfl, hS, h2⟩
        repeat' walk_at "st"
        refine u_forR1 (fun j σ H' => ∃ (v7 : Option V), σ = [some (.ref u), some (.ref t), some (.ref lu), some (.ref (bs.getD 0 0)), some (.ref fo), some (.int (i : Nat)), some (vs.getD i .non), v7] ∧ SH [] H3 H' [] ∧ ∀ m, m < j → getB FS i m = true → P.getD i none ≠ none → P.getD i none ≠ P.getD m none) (by omega) (by omega) ⟨_, rfl, hS, fun m h => absurd h (Nat.not_lt_zero _)⟩ ?_ ?_
        · clear hS
          rintro m σ H6 hm ⟨v7, rfl, hS, hco⟩
          have hPi := (hP.keep hS.kp).get (k := i) (by omega)
          have hPm := (hP.keep hS.kp).get (k := m) (by omega)
          have stp : (getB FS i m = true → P.getD i none ≠ none → P.getD i none ≠ P.getD m none) → ∀ m', m' < m + 1 → getB FS i m' = true → P.getD i none ≠ none → P.getD i none ≠ P.getD m' none := fun h m' hm' => by
            by_cases e : m' < m
            · exact hco m' e
            · obtain rfl : m' = m := by omega
              exact h
          repeat' walk_at "st"
          · exact ⟨_, rfl, hS, stp fun _ z => absurd (hPi.iff.mp (by assumption)) z⟩
          · have hb : getB FS i m = true := by
              have : (FS.getD i []).getD ((m : Nat) : Int).toNat false = true := by assumption
              rw [Int.toNat_natCast] at this
              exact this
            refine s_eqP hPi hPm ⟨_, rfl, ?_⟩
            refine i_dec (fun he => ?_) (fun he => ?_)
            · repeat' walk_at "st"
              exact kk false _ (kp0.trans hS.kp) ⟨fun z => (nomatch z), fun h => absurd he ((h i (by omega)).co m (by omega) ((hcon i m).mpr hb) (fun z => absurd (hPi.iff.mpr z) (by assumption)))⟩
            · exact ⟨_, rfl, hS, stp fun _ _ => he⟩
          · rw [Int.toNat_natCast] at hc
            refine ⟨_, rfl, hS, stp fun hb => ?_⟩
            unfold getB at hb
            rw [hc] at hb
            cases hb
        · rintro σ H6 ⟨v7, rfl, hS, hco⟩
          refine ⟨_, _, _, rfl, hS, fun n hn => ?_⟩
          by_cases e : n < i
          · exact hall n e
          · obtain rfl : n = i := by omega
            exact ⟨h1, h2, fun m hm hc => hco m (by omega) ((hcon n m).mp hc)⟩
  · rintro σ H4 ⟨v5, v6, v7, rfl, hS, hall⟩
    repeat' walk_at "st"
    exact kk true _ (kp0.trans hS.kp) ⟨fun _ => hall, fun _ => rfl⟩
  )) only [↓Hsh.on])
end

theorem c_z_sound {K : PySem.W.Frag} {A : List Addr} {H0 H : Hp} {L : List Cell} {u t : Addr} {R : Int} {ais : List AI} {ds : List (List Int)} {ar : Int} {vs : List V} {P : List Plc} {Q : VK} {E : XK} (hS : SH A H0 H L) (hU : UL K H u R ais ds) (hA : UA K H u ar) (ht : SqT K H t vs) (hP : PlsA K H vs P) (hl : P.length = R.toNat)
    (kk : ∀ (b' : Bool) H', SH A H0 H' L → Keep [] H H' → (b' = true ↔ sndU ais ds R.toNat ar P) → Q (.bl b') H') : sp_z_sound K ([.ref u, .ref t] ++ []) H Q E :=
  ⟨_, _, rfl, u, t, R, ais, ds, ar, vs, P, rfl, rfl, hU, hA, ht, hP, hl, fun b' H' kp h => kk b' H' (hS.call0 kp) kp h⟩
/-- a place that there is -/
def plcOk : Plc → Prop
  | none => True
  | some (.l, n) => 0 ≤ n ∧ n < 8
  | some (.i, n) => 0 ≤ n ∧ n < 6
  | some (.s, n) => 0 ≤ n
def sp_z_is_place (K : PySem.W.Frag) : Sp := mk1 fun a H Q _ => ∃ p : Plc, PlA K H a p ∧ plcOk p ∧ ∀ H', Keep [] H H' → Q (.bl true) H'
theorem ok_z_is_place {P : Program} {w : World} {K : PySem.W.Frag} {mg : Str → Option Value} {base : Heap} (Y : Env w K mg)  : CallOk P w K mg base CX0 1 "_law_is_place" ["_law_place_here"] (sp_z_is_place K) := Hsh.un (by simp (disch := k_dflt (
  refine Hsh.up ?_
  obtain ⟨fd, F⟩ := Y.fd_z_is_place
  refine ⟨_, fd, Y.mg_z_is_place, F.kp, F.bindsN (fun _ _ _ _ _ _ us hl => match us, hl with | [_], _ => rfl), F.ok sc_z_is_place mk1_len (fun cdv A outer s H vs Q E hr h => ?_)⟩
  have hu := hu_room hr
  obtain ⟨a, rfl, p, hp, hok, kk⟩ := h
  have hS : SH [] H H [] := SH.start0
  refine ⟨_, PSs.nox (pss_cons (ps_if (pt_cmpR xIs (pv 0) pe_non (nomark _)) (pss_one (ps_ret pe_bl)) pss_nil)
  (pss_cons (ps_if (PW.pt (pw_or (pt_not (pt_val (pe_callB x_isinstance rfl Y.z_isinstance (by decide +kernel) (pa_cons (pv 0) (pa_cons (pe_bltn rfl Y.z_tuple (by decide +kernel) (show RelV (.ty "tuple") (.type "tuple") from rfl)) pa_nil))))) (pw_or (pt_cmpR (xNe hu) (pe_callB x_len rfl Y.z_len (by decide +kernel) (pa_cons (pv 0) pa_nil)) pe_int (nomark _)) (pw_or1 (pt_not (pt_val (pe_callB x_isinstance rfl Y.z_isinstance (by decide +kernel) (pa_cons (pe_ix xIx (pv 0) pe_int (fun _ _ => rfl)) (pa_cons (pe_bltn rfl Y.z_str (by decide +kernel) (show RelV (.ty "str") (.type "str") from rfl)) pa_nil))))))))) (pss_one (ps_ret pe_bl)) pss_nil)
  (pss_cons (ps_if (PW.pt (pw_or (pt_not (pt_val (pe_callB x_isinstance rfl Y.z_isinstance (by decide +kernel) (pa_cons (pe_ix xIx (pv 0) pe_int (fun _ _ => rfl)) (pa_cons (pe_bltn rfl Y.z_int (by decide +kernel) (show RelV (.ty "int") (.type "int") from rfl)) pa_nil))))) (pw_or (pt_val (pe_callB x_isinstance rfl Y.z_isinstance (by decide +kernel) (pa_cons (pe_ix xIx (pv 0) pe_int (fun _ _ => rfl)) (pa_cons (pe_bltn rfl Y.z_bool (by decide +kernel) (show RelV (.ty "bool") (.type "bool") from rfl)) pa_nil)))) (pw_or1 (pt_cmpR op_lt (pe_ix xIx (pv 0) pe_int (fun _ _ => rfl)) pe_int (nomark _)))))) (pss_one (ps_ret pe_bl)) pss_nil)
  (pss_cons (ps_if (pt_cmpR (xEq hu) (pe_ix xIx (pv 0) pe_int (fun _ _ => rfl)) pe_str (nomark _)) (pss_one (ps_ret (pe_cmpR op_lt (pe_ix xIx (pv 0) pe_int (fun _ _ => rfl)) pe_int (nomark _)))) pss_nil)
  (pss_one (ps_ret (pe_or (pe_cmpR (xEq hu) (pe_ix xIx (pv 0) pe_int (fun _ _ => rfl)) pe_str (nomark _)) (pe_one (pe_and (pe_cmpR (xEq hu) (pe_ix xIx (pv 0) pe_int (fun _ _ => rfl)) pe_str (nomark _)) (pe_one (pe_cmpR op_lt (pe_ix xIx (pv 0) pe_int (fun _ _ => rfl)) pe_int (nomark _)))))))))))), ?_⟩
  rw [st_z_is_place]
  try simp only [cxK, cxK2, cxW, cxW2]
  clear hu hr F
  cases p with
  | none =>
    have hp : a = .non := hp
    subst hp
    repeat' walk_at "st"
    exact kk _ hS.kp
  | some q =>
    obtain ⟨x, rfl, hx⟩ := hp
    obtain ⟨k, n⟩ := q
    cases k with
    | l =>
      obtain ⟨n0, n1⟩ : 0 ≤ n ∧ n < 8 := hok
      have hx : SqT K H x [.str "local", .int n] := hx
      repeat' walk_at "st"
      all_goals first | exact kk _ hS.kp | exact q_dec (by assumption) (kk _ hS.kp)
    | i =>
      obtain ⟨n0, n1⟩ : 0 ≤ n ∧ n < 6 := hok
      have hx : SqT K H x [.str "in", .int n] := hx
      repeat' walk_at "st"
      all_goals first | exact kk _ hS.kp | exact q_dec (by assumption) (kk _ hS.kp)
    | s =>
      have n0 : 0 ≤ n := hok
      have hx : SqT K H x [.str "slot", .int n] := hx
      repeat' walk_at "st"
      all_goals first | exact kk _ hS.kp | exact q_dec (by assumption) (kk _ hS.kp)
  )) only [↓Hsh.on])
theorem c_z_is_place {K : PySem.W.Frag} {A : List Addr} {H0 H : Hp} {L : List Cell} {v : V} {p : Plc} {Q : VK} {E : XK} (hS : SH A H0 H L) (hp : PlA K H v p) (ho : plcOk p) (kk : ∀ H', SH A H0 H' L → Keep [] H H' → Q (.bl true) H') : sp_z_is_place K ([v] ++ []) H Q E :=
  ⟨_, rfl, p, hp, ho, fun H' kp => kk H' (hS.call0 kp) kp⟩
/-! ### what assign tells is sound -/
theorem lv_used {K : PySem.W.Frag} {H : Hp} {u : Addr} {R : Int} {ais : List AI} {ds : List (List Int)} (hU : UL K H u R ais ds) {k : Nat} {n : Int} (l : LvP ais ds k n) : k < ais.length → usedP ais n := Hsh.un (by simp (disch := k_dflt (
  refine Hsh.up ?_
  have hm : ∀ k, k < ais.length → ais.getD k AI0 ∈ ais := fun k hk => by
    rw [List.getD_eq_getElem?_getD, List.getElem?_eq_getElem hk]
    exact List.getElem_mem _
  induction l with
  | @rd k n h1 => exact fun hk => ⟨k, hk, h1⟩
  | @go k n f h1 l w ih =>
    intro hk
    obtain ⟨b0, b1⟩ := hU.fl _ (hm _ hk) f h1
    exact ih (by omega)
  | @ex k n d h1 e l h3 h4 ih =>
    intro hk
    obtain ⟨b0, b1⟩ := hU.ds2 d (List.mem_of_find?_eq_some e)
    exact ih (by omega)
  )) only [↓Hsh.on])
theorem pairP_sym {xs ys : List Int} {i j : Nat} (h : pairP xs ys i (j : Nat)) : pairP xs ys j (i : Nat) := Hsh.un (by simp (disch := k_dflt (
  refine Hsh.up ?_
  unfold pairP at h ⊢
  refine ⟨fun e => h.1 e.symm, ?_⟩
  rcases h.2 with h | h
  · exact .inr ⟨h.1, h.2⟩
  · exact .inl ⟨h.1, h.2⟩
  )) only [↓Hsh.on])
theorem conP_sym {ais : List AI} {ds Y : List (List Int)} {i j : Nat} (h : conP ais ds Y i (j : Nat)) : conP ais ds Y j (i : Nat) := Hsh.un (by simp (disch := k_dflt (
  refine Hsh.up ?_
  rcases h with ⟨k, hk, c⟩ | ⟨d, hd, c⟩
  · refine .inl ⟨k, hk, ?_⟩
    rcases c with c | c | ⟨f, hf, c⟩
    · exact .inl (pairP_sym c)
    · exact .inr (.inl (pairP_sym c))
    · exact .inr (.inr ⟨f, hf, pairP_sym c⟩)
  · refine .inr ⟨d, hd, ?_⟩
    rcases c with c | c
    · exact .inl (pairP_sym c)
    · exact .inr (pairP_sym c)
  )) only [↓Hsh.on])
theorem conP_irr {ais : List AI} {ds Y : List (List Int)} {i : Nat} (h : conP ais ds Y i (i : Nat)) : False := Hsh.un (by simp (disch := k_dflt (
  refine Hsh.up ?_
  rcases h with ⟨k, hk, c⟩ | ⟨d, hd, c⟩
  · rcases c with c | c | ⟨f, hf, c⟩
    · exact c.1 rfl
    · exact c.1 rfl
    · exact c.1 rfl
  · rcases c with c | c
    · exact c.1 rfl
    · exact c.1 rfl
  )) only [↓Hsh.on])
theorem cand_ok (n : Nat) : plcOk (some (cand n)) := Hsh.un (by simp (disch := k_dflt (
  refine Hsh.up ?_
  unfold cand
  split
  · exact ⟨by omega, by omega⟩
  · split
    · exact ⟨by omega, by omega⟩
    · show (0 : Int) ≤ _
      omega
  )) only [↓Hsh.on])
/-- the places in the making -/
structure AsgJ (R : Nat) (ar : Int) (F xs : List Int) (C : Nat → Nat → Prop) (P : List Plc) : Prop where
  len : P.length = R
  us : ∀ n, n < R → (P.getD n none ≠ none ↔ (((n : Nat) : Int) < ar ∧ (n : Int) ∈ F) ∨ (n : Int) ∈ xs)
  ar : ∀ n, n < R → ((n : Nat) : Int) < ar → (n : Int) ∈ F → P.getD n none = some (.i, ((n : Nat) : Int))
  co : ∀ n m, n < R → m < R → C n m → P.getD n none ≠ none → P.getD n none ≠ P.getD m none
  ok : ∀ n, n < R → plcOk (P.getD n none)
theorem StartOk.j {R : Nat} {ar : Int} {F : List Int} {C : Nat → Nat → Prop} {P : List Plc} (h : StartOk R ar F P) (h6 : ar ≤ 6) (hC : ∀ n, ¬ C n n) : AsgJ R ar F [] C P := Hsh.un (by simp (disch := k_dflt (
  refine Hsh.up ?_
  refine ⟨h.1, fun n hn => ?_, fun n hn h1 h2 => ?_, fun n m hn hm c => ?_, fun n hn => ?_⟩
  · rw [h.2 n hn]
    by_cases q : (n : Int) < ar ∧ (n : Int) ∈ F
    · rw [if_pos q]
      exact ⟨fun _ => .inl q, fun _ e => nomatch e⟩
    · rw [if_neg q]
      exact ⟨fun z => absurd rfl z, fun z => z.elim (fun z => absurd z q) fun z => absurd z List.not_mem_nil⟩
  · rw [h.2 n hn, if_pos ⟨h1, h2⟩]
  · rw [h.2 n hn, h.2 m hm]
    by_cases q : (n : Int) < ar ∧ (n : Int) ∈ F
    · rw [if_pos q]
      by_cases q2 : (m : Int) < ar ∧ (m : Int) ∈ F
      · rw [if_pos q2]
        intro _ e
        have e := congrArg (·.2) (Option.some.inj e)
        have e : (n : Int) = (m : Int) := e
        obtain rfl : n = m := by omega
        exact hC n c
      · rw [if_neg q2]
        exact fun _ e => nomatch e
    · rw [if_neg q]
      exact fun z => absurd rfl z
  · rw [h.2 n hn]
    by_cases q : (n : Int) < ar ∧ (n : Int) ∈ F
    · rw [if_pos q]
      exact ⟨by omega, by omega⟩
    · rw [if_neg q]
      trivial
  )) only [↓Hsh.on])
theorem AsgJ.step {R : Nat} {ar : Int} {F xs : List Int} {C : Nat → Nat → Prop} {ZS : List (List Int)} {P P' : List Plc} {x : Int} (h : AsgJ R ar F xs C P) (x0 : 0 ≤ x) (x1 : x < R) (hZ : ∀ m, m < R → C x.toNat m → (m : Int) ∈ ZS.getD x.toNat []) (hs : ∀ n m, C n m → C m n) (hC : ∀ n, ¬ C n n) (s : AsgS ZS P x P') : AsgJ R ar F (xs ++ [x]) C P' := Hsh.un (by simp (disch := k_dflt (
  refine Hsh.up ?_
  unfold AsgS at s
  have mem : ∀ n : Nat, (n : Int) ∈ xs ++ [x] ↔ (n : Int) ∈ xs ∨ n = x.toNat := fun n => by
    rw [List.mem_append, List.mem_singleton]
    exact or_congr_right ⟨fun e => by omega, fun e => by omega⟩
  split at s
  · rename_i hnone
    obtain ⟨k, hfree, rfl⟩ := s
    have hxl : x.toNat < P.length := by rw [h.len]; omega
    have g1 : (P.set x.toNat (some (cand k))).getD x.toNat none = some (cand k) := getD_set_eq hxl
    have g2 : ∀ n, n ≠ x.toNat → (P.set x.toNat (some (cand k))).getD n none = P.getD n none := fun n hn => getD_set_ne (Ne.symm hn)
    have free : ∀ m, m < R → C x.toNat m → some (cand k) ≠ P.getD m none := fun m hm c e => by
      refine hfree.1 (List.mem_map.mpr ⟨(m : Int), hZ m hm c, ?_⟩)
      rw [Int.toNat_natCast]
      exact e.symm
    refine ⟨by rw [List.length_set]; exact h.len, fun n hn => ?_, fun n hn h1 h2 => ?_, fun n m hn hm c => ?_, fun n hn => ?_⟩
    · by_cases e : n = x.toNat
      · rw [e, g1]
        exact ⟨fun _ => .inr ((mem x.toNat).mpr (.inr rfl)), fun _ e => nomatch e⟩
      · rw [g2 n e, h.us n hn, mem]
        exact or_congr_right ⟨.inl, fun z => z.resolve_right e⟩
    · by_cases e : n = x.toNat
      · have := h.ar n hn h1 h2
        rw [e] at this
        rw [this] at hnone
        cases hnone
      · rw [g2 n e]
        exact h.ar n hn h1 h2
    · by_cases e : n = x.toNat
      · rw [e, g1, g2 m (fun q => hC x.toNat (by rw [e, q] at c; exact c))]
        exact fun _ => free m hm (e ▸ c)
      · rw [g2 n e]
        by_cases q : m = x.toNat
        · rw [q, g1]
          exact fun _ z => free n hn (hs _ _ (q ▸ c)) z.symm
        · rw [g2 m q]
          exact h.co n m hn hm c
    · by_cases e : n = x.toNat
      · rw [e, g1]
        exact cand_ok k
      · rw [g2 n e]
        exact h.ok n hn
  · rename_i hsome
    subst s
    refine ⟨h.len, fun n hn => ?_, h.ar, h.co, h.ok⟩
    rw [mem]
    by_cases e : n = x.toNat
    · rw [e]
      exact ⟨fun _ => .inr (.inr rfl), fun _ => hsome⟩
    · rw [h.us n hn]
      exact or_congr_right ⟨.inl, fun z => z.resolve_right e⟩
  )) only [↓Hsh.on])
theorem AsgR.j {R : Nat} {ar : Int} {F : List Int} {C : Nat → Nat → Prop} {ZS : List (List Int)} {P0 P : List Plc} {xs : List Int} (h : AsgR ZS P0 xs P) (h0 : AsgJ R ar F [] C P0) (hZ : ∀ n m, n < R → m < R → C n m → (m : Int) ∈ ZS.getD n []) (hs : ∀ n m, C n m → C m n) (hC : ∀ n, ¬ C n n) : (∀ x ∈ xs, 0 ≤ x ∧ x < R) → AsgJ R ar F xs C P := Hsh.un (by simp (disch := k_dflt (
  refine Hsh.up ?_
  induction h with
  | nil => exact fun _ => h0
  | @snoc xs P P' x h s ih =>
    intro hb
    obtain ⟨x0, x1⟩ := hb x (List.mem_append_right _ List.mem_cons_self)
    exact (ih fun y hy => hb y (List.mem_append_left _ hy)).step x0 x1 (fun m hm c => hZ _ m (by omega) hm c) hs hC s
  )) only [↓Hsh.on])
theorem asg_snd {K : PySem.W.Frag} {H : Hp} {u : Addr} {R ar : Int} {ais : List AI} {ds YS ZS : List (List Int)} {us : List Int} {P : List Plc} (hU : UL K H u R ais ds) (ar6 : ar ≤ 6) (hLv : LiveOk R ais ds YS) (hCo : ConOk R ais ds YS ZS) (hus : UsedOk ais us) (hA : AsgOk R.toNat ar YS ZS us P) : P.length = R.toNat ∧ sndU ais ds R.toNat ar P ∧ ∀ n, n < R.toNat → plcOk (P.getD n none) := Hsh.un (by simp (disch := k_dflt (
  refine Hsh.up ?_
  obtain ⟨P0, h0, h1⟩ := hA
  have n4 := hU.n4
  have hZl := hCo.len
  have hcon : ∀ n m : Nat, conQ ais ds n m ↔ conP ais ds YS n (m : Nat) := conQ_iff hU hLv.lv
  have irr : ∀ n, ¬ conQ ais ds n n := fun n h => conP_irr ((hcon n n).mp h)
  have hub : ∀ n ∈ us, 0 ≤ n ∧ n < R.toNat := fun n hn => by
    obtain ⟨k, hk, h⟩ := (hus.mem n).mp hn
    have := hU.rd (ais.getD k AI0) (by
      rw [List.getD_eq_getElem?_getD, List.getElem?_eq_getElem hk]
      exact List.getElem_mem _) n h
    omega
  have J := h1.j (C := conQ ais ds) (h0.j ar6 irr) (fun n m hn hm c => (hCo.con n (by omega) _).mpr ((hcon n m).mp c)) (fun n m c => (hcon m n).mpr (conP_sym ((hcon n m).mp c))) irr hub
  refine ⟨J.len, fun n hn => ⟨?_, fun h1 l => J.ar n hn h1 ((hLv.lv 0 (by omega) _).mpr l), fun m hm c => J.co n m hn hm c⟩, J.ok⟩
  rw [J.us n hn, ← hus.mem]
  exact ⟨fun h => h.elim (fun h => (hus.mem _).mpr (lv_used hU ((hLv.lv 0 (by omega) _).mp h.2) (by omega))) id, .inr⟩
  )) only [↓Hsh.on])

theorem plS {K : PySem.W.Frag} {H : Hp} {a : Addr} {n : Int} (k : PK) (h : SqT K H a [.str k.str, .int n]) : PlA K H (.ref a) (some (k, n)) := ⟨a, rfl, h⟩
theorem plN {K : PySem.W.Frag} {H : Hp} : PlA K H .non none := rfl
def sp_z_changed (K : PySem.W.Frag) : Sp := mk2 fun a b H Q _ => ∃ (p q t : Addr) (ns : List Int) (c s n x y z : Int) (vs : List V) (P : List Plc), a = .ref p ∧ b = .ref t ∧ Blk H (GC p q ns c s n x y z) ∧ Pos ns ∧ 0 ≤ c ∧ SqT K H t vs ∧ PlsA K H vs P ∧ 0 < P.length ∧ P.length ≤ 100 ∧
  ∀ (t' : Addr) (vs' : List V) (P' : List Plc) (c' s' n' : Int) ms H', Keep [p, q] H H' → SqT K H' t' vs' → PlsA K H' vs' P' → P'.length = P.length → 0 ≤ c' → Pos ms → H' p = some (stG q c' s' n' x y z) → H' q = some (.lst (ms.map V.int)) → Q (.ref t') H'
theorem ok_z_changed {P : Program} {w : World} {K : PySem.W.Frag} {mg : Str → Option Value} {base : Heap} (Y : Env w K mg) (G_z_take : CallOk P w K mg base CX0 1 "_law_take" ["_law_state", "_law_many"] (sp_z_take K)) : CallOk P w K mg base CX0 2 "_law_changed" ["_law_state", "_law_assignment"] (sp_z_changed K) := Hsh.un (by simp (disch := k_dflt (
  refine Hsh.up ?_
  obtain ⟨fd, F⟩ := Y.fd_z_changed
  refine ⟨_, fd, Y.mg_z_changed, F.kp, F.bindsN (fun _ _ _ _ _ _ us hl => match us, hl with | [_, _], _ => rfl), F.ok sc_z_changed mk2_len (fun cdv A outer s H vs Q E hr h => ?_)⟩
  have hu := hu_room hr
  obtain ⟨_, _, rfl, pst, q, t, ns, c, s, n, x, y, z, vs, P, rfl, rfl, hB, hp, hc, ht, hP, hl0, hl1, kk⟩ := h
  have hS : SH [pst, q] H H (GC pst q ns c s n x y z) := hB.sh
  have hPl := hP.1
  refine ⟨_, PSs.nox (pss_cons (ps_set (i := 2) sc_z_changed.nd rfl (Or.inl rfl) (pe_callTy x_list rfl Y.z_list (by decide +kernel) (pa_cons (pv 1) pa_nil)))
  (pss_cons (ps_for PassesOwn.never rfl (pi_range1 rfl Y.z_range (pa_cons (pe_callG G_z_take hr rfl pass0 (pa_cons (pv 0) (pa_cons pe_int pa_nil))) pa_nil)) (pg_name (i := 3) sc_z_changed.nd rfl (Or.inl rfl))
  (pss_cons (ps_set (i := 4) sc_z_changed.nd rfl (Or.inl rfl) (pe_callG G_z_take hr rfl pass0 (pa_cons (pv 0) (pa_cons (pe_callB x_len rfl Y.z_len (by decide +kernel) (pa_cons (pv 2) pa_nil)) pa_nil))))
  (pss_cons (ps_set (i := 5) sc_z_changed.nd rfl (Or.inl rfl) (pe_callG G_z_take hr rfl pass0 (pa_cons (pv 0) (pa_cons pe_int pa_nil))))
  (pss_cons (ps_asg (pe_ix xIx (pv 2) (pe_callG G_z_take hr rfl pass0 (pa_cons (pv 0) (pa_cons (pe_callB x_len rfl Y.z_len (by decide +kernel) (pa_cons (pv 2) pa_nil)) pa_nil))) (fun _ _ => rfl)) (pg_sub (pv 2) (pv 4) set_list))
  (pss_cons (ps_if (pt_cmpR (xEq hu) (pv 5) pe_int (nomark _)) (pss_one (ps_asg (pe_tup (pa_cons pe_str (pa_cons (pe_callG G_z_take hr rfl pass0 (pa_cons (pv 0) (pa_cons pe_int pa_nil))) pa_nil))) (pg_sub (pv 2) (pv 4) set_list))) pss_nil)
  (pss_one (ps_if (pt_cmpR (xEq hu) (pv 5) pe_int (nomark _)) (pss_cons (ps_set (i := 6) sc_z_changed.nd rfl (Or.inl rfl) (pe_callG G_z_take hr rfl pass0 (pa_cons (pv 0) (pa_cons (pe_ix xIx (pe_lst (pa_cons pe_int (pa_cons pe_int pa_nil))) (pe_callG G_z_take hr rfl pass0 (pa_cons (pv 0) (pa_cons pe_int pa_nil))) (fun _ _ => rfl)) pa_nil))))
  (pss_one (ps_asg (pe_ix xIx (pe_lst (pa_cons pe_non (pa_cons (pe_tup (pa_cons pe_str (pa_cons (pe_callG G_z_take hr rfl pass0 (pa_cons (pv 0) (pa_cons pe_int pa_nil))) pa_nil))) (pa_cons (pe_tup (pa_cons pe_str (pa_cons (pv 6) pa_nil))) pa_nil)))) (pe_callG G_z_take hr rfl pass0 (pa_cons (pv 0) (pa_cons pe_int pa_nil))) (fun _ _ => rfl)) (pg_sub (pv 2) (pv 4) set_list)))) pss_nil)))))))
  (pss_one (ps_ret (pe_callTy x_tuple rfl Y.z_tuple (by decide +kernel) (pa_cons (pv 2) pa_nil)))))), ?_⟩
  rw [st_z_changed]
  try simp only [cxK, cxK2, cxW, cxW2]
  clear hu hr F
  repeat' walk_at "st"
  obtain ⟨cl, ecl⟩ : ∃ cl, cl = p := ⟨_, rfl⟩
  rw [← ecl] at hS ⊢
  clear ecl
  refine u_forR1 (fun j σ H' => ∃ (ws : List V) (W : List Plc) (c s n : Int) (ms : List Int) (v3 v4 v5 v6 : Option V), σ = [some (.ref pst), some (.ref t), some (.ref cl), v3, v4, v5, v6] ∧ SH [pst, q] H H' [(cl, .lst ws), (pst, stG q c s n x y z), (q, .lst (ms.map V.int))] ∧ PlsA K H' ws W ∧ W.length = P.length ∧ 0 ≤ c ∧ Pos ms) (by omega) (by omega) ⟨vs, P, _, _, _, _, _, _, _, _, rfl, hS, hP.keep hS.kp, rfl, hc1, hms1⟩ ?_ ?_
  · clear hS hc hc1 hms1
    rintro j σ H4 hj ⟨ws, W, c, s, n, ms, v3, v4, v5, v6, rfl, hS0, hW, hWl, hc, hms⟩
    have hwl : ws.length = P.length := hW.1.trans hWl
    have hS : SH [cl, pst, q] H4 H4 [(cl, .lst ws), (pst, stG q c s n x y z), (q, .lst (ms.map V.int))] := hS0.blk.sh
    repeat' walk_at "st"
    · refine ⟨_, _, _, _, _, _, _, _, _, _, rfl, hS0.callE hS.drop1, ((hW.keep hS.kp).set _ ((hW.keep hS.kp).get ?_)).set _ (plS .l (SqT.of (hS.get 0 rfl))), ?_, hc1, hms1⟩
      · omega
      · rw [List.length_set, List.length_set]
        exact hWl
    · rcases (show r = 0 ∨ r = 1 by omega) with rfl | rfl
      · rw [show toI (([V.int 9, V.int 1000] : List V).getD (Int.toNat 0) V.non) = 9 from rfl]
        repeat' walk_at "st"
        rcases (show r = 0 ∨ r = 1 ∨ r = 2 by omega) with rfl | rfl | rfl
        all_goals
          refine ⟨_, _, _, _, _, _, _, _, _, _, rfl, hS0.callE hS.drop1.drop1.drop1.drop1, ((hW.keep hS.kp).set _ ((hW.keep hS.kp).get ?_)).set _ (by first | exact plN | exact plS .i (SqT.of (hS.get 2 rfl)) | exact plS .s (SqT.of (hS.get 1 rfl))), ?_, hc1, hms1⟩
          · omega
          · rw [List.length_set, List.length_set]
            exact hWl
      · rw [show toI (([V.int 9, V.int 1000] : List V).getD (Int.toNat 1) V.non) = 1000 from rfl]
        repeat' walk_at "st"
        rcases (show r = 0 ∨ r = 1 ∨ r = 2 by omega) with rfl | rfl | rfl
        all_goals
          refine ⟨_, _, _, _, _, _, _, _, _, _, rfl, hS0.callE hS.drop1.drop1.drop1.drop1, ((hW.keep hS.kp).set _ ((hW.keep hS.kp).get ?_)).set _ (by first | exact plN | exact plS .i (SqT.of (hS.get 2 rfl)) | exact plS .s (SqT.of (hS.get 1 rfl))), ?_, hc1, hms1⟩
          · omega
          · rw [List.length_set, List.length_set]
            exact hWl
    · refine ⟨_, _, _, _, _, _, _, _, _, _, rfl, hS0.callE hS, ((hW.keep hS.kp).set _ ((hW.keep hS.kp).get ?_)), ?_, hc1, hms1⟩
      · omega
      · rw [List.length_set]
        exact hWl
  · clear hS hc hc1 hms1
    rintro σ H4 ⟨ws, W, c, s, n, ms, v3, v4, v5, v6, rfl, hS0, hW, hWl, hc, hms⟩
    have hS : SH [cl, pst, q] H4 H4 [(cl, .lst ws), (pst, stG q c s n x y z), (q, .lst (ms.map V.int))] := hS0.blk.sh
    repeat' walk_at "st"
    have hS2 := hS0.callE hS.drop1
    exact kk _ ws W _ _ _ _ _ hS2.kp (SqT.of (hS.get 0 rfl)) (hW.keep hS.kp) hWl hc hms (hS2.get 1 rfl) (hS2.get 2 rfl)
  )) only [↓Hsh.on])
theorem c_z_changed {K : PySem.W.Frag} {A : List Addr} {H0 H : Hp} {L : List Cell} {p q t : Addr} {ns : List Int} {c s n x y z : Int} {vs : List V} {P : List Plc} {Q : VK} {E : XK} {i j : Nat} (hS : SH A H0 H L) (e : L[i]? = some (p, stG q c s n x y z)) (e2 : L[j]? = some (q, .lst (ns.map V.int))) (ne : i ≠ j) (hp : Pos ns) (h0 : 0 ≤ c) (ht : SqT K H t vs) (hP : PlsA K H vs P) (l0 : 0 < P.length) (l1 : P.length ≤ 100)
    (kk : ∀ (t' : Addr) (vs' : List V) (P' : List Plc) (c' s' n' : Int) ms H', SH A H0 H' ((L.set i (p, stG q c' s' n' x y z)).set j (q, .lst (ms.map V.int))) → Keep [p, q] H H' → SqT K H' t' vs' → PlsA K H' vs' P' → P'.length = P.length → 0 ≤ c' → Pos ms → Q (.ref t') H') : sp_z_changed K ([.ref p, .ref t] ++ []) H Q E :=
  ⟨_, _, rfl, p, q, t, ns, c, s, n, x, y, z, vs, P, rfl, rfl, blk2 hS e e2 ne, hp, h0, ht, hP, l0, l1, fun t' vs' P' c' s' n' ms H' kp h1 h2 h3 h4 h5 f1 f2 => kk t' vs' P' c' s' n' ms H' (hS.call2 i j e e2 rfl rfl kp f1 f2) kp h1 h2 h3 h4 h5⟩
def sp_law (K : PySem.W.Frag) : Sp := mk1 fun a H Q _ => ∃ (sc : Addr) (ns : List Int), a = .ref sc ∧ ns.length ≤ 63 ∧ Scr K H sc (ns.map V.int) ∧ ∀ H', Q (.bl true) H'
section
 local macro_rules | `(tactic| walk_at "hp") => `(tactic| first | exact huu hS | fail)
theorem ok_law {P : Program} {w : World} {K : PySem.W.Frag} {mg : Str → Option Value} {base : Heap} (Y : Env w K mg) (G_z_changed : CallOk P w K mg base CX0 2 "_law_changed" ["_law_state", "_law_assignment"] (sp_z_changed K)) (G_z_is_place : CallOk P w K mg base CX0 1 "_law_is_place" ["_law_place_here"] (sp_z_is_place K)) (G_z_module : CallOk P w K mg base CX0 6 "_law_module" ["_law_state"] (sp_z_module K)) (G_z_sound : CallOk P w K mg base CX0 5 "_law_sound" ["_law_unit_here", "_law_assignment"] (sp_z_sound K)) (G_z_start : CallOk P w K mg base CX0 2 "_law_start" ["_law_script"] (sp_z_start K)) (G_assign : CallOk P w K mg base CX0 6 "assign" ["unit"] (sp_assign K)) (G_is_sound : CallOk P w K mg base CX0 6 "is_sound" ["unit", "assignment"] (sp_is_sound K)) {fd : FuncData} (F : FunD K "law" "law" (defArgs s_law) (defBody s_law) (defScope s_law) [] [] (He.fAd K ("law", none)) fd) : FnOk P w K mg base CX0 7 (He.fAd K ("law", none)) fd ["_law_script"] (sp_law K) := Hsh.un (by simp (disch := k_dflt (
  refine Hsh.up ?_
  refine F.ok sc_law mk1_len (fun cdv A outer s H vs Q E hr h => ?_)
  have hu := hu_room hr
  obtain ⟨_, rfl, sc, ns, rfl, hl63, hs, kk⟩ := h
  have hS : SH [] H H [] := SH.start0
  refine ⟨_, PSs.nox (pss_cons (ps_set (i := 1) sc_law.nd rfl (Or.inl rfl) (pe_callG G_z_start (hr.mono (by decide)) rfl pass0 (pa_cons (pv 0) pa_nil)))
  (pss_cons (ps_set (i := 2) sc_law.nd rfl (Or.inl rfl) (pe_callG G_z_module hr rfl pass0 (pa_cons (pv 1) pa_nil)))
  (pss_cons (ps_for PassesOwn.never rfl (pi_tup (pe_fld (pv 2) rfl)) (pg_name (i := 3) sc_law.nd rfl (Or.inl rfl))
  (pss_cons (ps_set (i := 4) sc_law.nd rfl (Or.inl rfl) (pe_callG G_assign hr rfl pass0 (pa_cons (pv 3) pa_nil)))
  (pss_cons (ps_if (PW.pt (pw_or (pt_not (pt_val (pe_callB x_isinstance rfl Y.z_isinstance (by decide +kernel) (pa_cons (pv 4) (pa_cons (pe_bltn rfl Y.z_tuple (by decide +kernel) (show RelV (.ty "tuple") (.type "tuple") from rfl)) pa_nil))))) (pw_or1 (pt_cmpR (xNe hu) (pe_callB x_len rfl Y.z_len (by decide +kernel) (pa_cons (pv 4) pa_nil)) (pe_fld (pv 3) rfl) (nomark _))))) (pss_one (ps_ret pe_bl)) pss_nil)
  (pss_cons (ps_for PassesOwn.never rfl (pi_tup (pv 4)) (pg_name (i := 5) sc_law.nd rfl (Or.inl rfl))
  (pss_one (ps_if (pt_not (pt_val (pe_callG G_z_is_place (hr.mono (by decide)) rfl pass0 (pa_cons (pv 5) pa_nil)))) (pss_one (ps_ret pe_bl)) pss_nil)))
  (pss_cons (ps_if (PW.pt (pw_or (pt_not (pt_val (pe_callG G_z_sound (hr.mono (by decide)) rfl pass0 (pa_cons (pv 3) (pa_cons (pv 4) pa_nil))))) (pw_or1 (pt_cmpR xIsNot (pe_callG G_is_sound hr rfl pass0 (pa_cons (pv 3) (pa_cons (pv 4) pa_nil))) pe_bl (nomark _))))) (pss_one (ps_ret pe_bl)) pss_nil)
  (pss_cons (ps_set (i := 6) sc_law.nd rfl (Or.inl rfl) (pe_callG G_z_changed (hr.mono (by decide)) rfl pass0 (pa_cons (pv 1) (pa_cons (pv 4) pa_nil))))
  (pss_cons (ps_set (i := 7) sc_law.nd rfl (Or.inl rfl) (pe_callG G_is_sound hr rfl pass0 (pa_cons (pv 3) (pa_cons (pv 6) pa_nil))))
  (pss_one (ps_if (PW.pt (pw_or (pt_not (pt_val (pe_callB x_isinstance rfl Y.z_isinstance (by decide +kernel) (pa_cons (pv 7) (pa_cons (pe_bltn rfl Y.z_bool (by decide +kernel) (show RelV (.ty "bool") (.type "bool") from rfl)) pa_nil))))) (pw_or1 (pt_cmpR (xNe hu) (pv 7) (pe_callG G_z_sound (hr.mono (by decide)) rfl pass0 (pa_cons (pv 3) (pa_cons (pv 6) pa_nil))) (nomark _))))) (pss_one (ps_ret pe_bl)) pss_nil)))))))))
  (pss_one (ps_ret pe_bl))))), ?_⟩
  rw [st_law]
  try simp only [cxK, cxK2, cxW, cxW2]
  clear hu hr F
  repeat' walk_at "st"
  refine c_z_start hS hl63 (hs.keep hS.kp) (fun pst q ms c s n y z H1 hS hms hc => ?_)
  repeat' walk_at "st"
  refine ⟨_, rfl, pst, q, ms, c, s, n, 0, y, z, rfl, SH.blkM [] (GC pst q ms c s n 0 y z) [] hS, hms, hc, fun mo dx us nm pl uns H2 hmo hus hu4 hun kp hst => ?_⟩
  obtain ⟨⟨c, s, n, x, ms, hB, hc, hms⟩, hnu, hnm⟩ := hst
  clear hS
  have hS : SH [pst, q] H2 H2 (GC pst q ms c s n x y z) := hB.sh
  have huu : ∀ {H' : Hp} {L' : List Cell}, SH [pst, q] H2 H' L' → H' mo = some (moO K dx us nm pl) := fun hS => hS.kp.k _ _ hmo (.inl hnm)
  repeat' walk_at "st"
  clear huu
  refine u_forT (xs := uns.map V.ref) (fun i σ H' => ∃ (c s n : Int) (ms : List Int) (v3 v4 v5 v6 v7 : Option V), σ = [some (.ref sc), some (.ref pst), some (.ref mo), v3, v4, v5, v6, v7] ∧ SH [pst, q] H2 H' (GC pst q ms c s n x y z) ∧ 0 ≤ c ∧ Pos ms) (SqT_keep hus hS.kp) ⟨c, s, n, ms, _, _, _, _, _, rfl, hS, hc, hms⟩ ?_ ?_ ?_
  · rintro i σ H3 _ ⟨c, s, n, ms, v3, v4, v5, v6, v7, rfl, hS, _⟩
    exact SqT_keep hus hS.kp
  · clear hS hc hms hB
    rintro i v σ H3 hx ⟨c, s, n, ms, v3, v4, v5, v6, v7, rfl, hS0, hc, hms⟩
    rw [List.getElem?_map] at hx
    obtain ⟨un, hun1, rfl⟩ := Option.map_eq_some_iff.mp hx
    have hnun := hnu un (List.mem_of_getElem? hun1)
    obtain ⟨w, cs0, gs0, ds, hUA⟩ := hun un (List.mem_of_getElem? hun1)
    obtain ⟨R, ais, hUL2⟩ : ∃ R ais, UL K H2 un R ais ds := ⟨_, hUA.ul⟩
    obtain ⟨dx2, cd, rg, w0, cs, gs, huu2, ew, hcd, hrg, hcl, hregs, hg5, hins⟩ := hUL2.at
    have hUa2 : UA K H2 un w0.ar := ⟨_, _, _, _, huu2, rfl⟩
    obtain ⟨ar0, ar1, ar6⟩ := hUL2.wa _ _ _ _ huu2
    subst ew
    have hUL := hUL2.keep hS0.kp hnun
    have hUa := hUa2.keep hS0.kp hnun
    have huu3 := hS0.kp.k _ _ huu2 (.inl hnun)
    have r3 := hUL.r3
    have r23 := hUL.r23
    have hS : SH [pst, q] H3 H3 (GC pst q ms c s n x y z) := hS0.blk.sh
    have huu : ∀ {H' : Hp} {L' : List Cell}, SH [pst, q] H3 H' L' → H' un = some (unO K dx2 w0 cd rg) := fun hS => hS.kp.k _ _ huu3 (.inl hnun)
    repeat' walk_at "st"
    refine c_assign hS hUL hUa (fun ta vs P YS ZS us2 H4 hS kp4 hta hP hLv hCo hUs hAs => ?_)
    obtain ⟨hPl, hsnd, hpok⟩ := asg_snd hUL ar6 hLv hCo hUs hAs
    have hvl : vs.length = w0.rg.toNat := hP.1.trans hPl
    repeat' walk_at "st"
    have hS4 := hS
    have hUL4 := hUL.keep hS4.kp hnun
    have hUa4 := hUa.keep hS4.kp hnun
    clear hS
    have hS : SH [pst, q] H4 H4 (GC pst q ms c s n x y z) := hS4.blk.sh
    refine u_forT (xs := vs) (fun j σ H' => ∃ (v5 : Option V), σ = [some (.ref sc), some (.ref pst), some (.ref mo), some (.ref un), some (.ref ta), v5, v6, v7] ∧ SH [pst, q] H4 H' (GC pst q ms c s n x y z)) hta ⟨_, rfl, hS⟩ ?_ ?_ ?_
    · rintro j σ H5 _ ⟨v5, rfl, hS⟩
      exact SqT_keep hta hS.kp
    · clear hS
      rintro j v σ H5 hx ⟨v5, rfl, hS⟩
      have hj : j < P.length := by rw [← hP.1]; exact (List.getElem?_eq_some_iff.mp hx).1
      have hPj := (hP.keep hS.kp).2 j v (P.getD j none) hx (by rw [List.getD_eq_getElem?_getD, List.getElem?_eq_getElem hj]; rfl)
      repeat' walk_at "st"
      refine c_z_is_place hS hPj (hpok j (by omega)) (fun H6 hS _ => ?_)
      repeat' walk_at "st"
      exact ⟨_, rfl, hS⟩
    · clear hS
      rintro σ H5 ⟨v5, rfl, hS⟩
      repeat' walk_at "st"
      refine c_z_sound hS (hUL4.keep hS.kp hnun) (hUa4.keep hS.kp hnun) (SqT_keep hta hS.kp) (hP.keep hS.kp) hPl (fun b H6 hS _ hb => ?_)
      obtain rfl : b = true := hb.mpr hsnd
      repeat' walk_at "st"
      refine c_is_sound hS (hUL4.keep hS.kp hnun) (hUa4.keep hS.kp hnun) (SqT_keep hta hS.kp) (hP.keep hS.kp) hPl (fun b H7 hS _ hb => ?_)
      obtain rfl : b = true := hb.mpr hsnd
      repeat' walk_at "st"
      refine c_z_changed hS (i := 0) (j := 1) rfl rfl (by decide) hms hc (SqT_keep hta hS.kp) (hP.keep hS.kp) (by omega) (by omega) (fun t2 vs2 P2 c2 s2 n2 ms2 H8 hS _ ht2 hP2 hl2 hc2 hms2 => ?_)
      simp only [List.set_cons_zero, List.set_cons_succ] at hS
      repeat' walk_at "st"
      refine c_is_sound hS (hUL4.keep hS.kp hnun) (hUa4.keep hS.kp hnun) ht2 hP2 (hl2.trans hPl) (fun b H9 hS kp9 hb => ?_)
      repeat' walk_at "st"
      refine c_z_sound hS (hUL4.keep hS.kp hnun) (hUa4.keep hS.kp hnun) (SqT_keep ht2 kp9) (hP2.keep kp9) (hl2.trans hPl) (fun b2 H10 hS _ hb2 => ?_)
      obtain rfl : b = b2 := Bool.eq_iff_iff.mpr (hb.trans hb2.symm)
      repeat' walk_at "st"
      · exact ⟨c2, s2, n2, ms2, _, _, _, _, _, rfl, hS0.callE (hS4.callE hS), hc2, hms2⟩
      · exact absurd rfl (by assumption)
  · rintro σ H3 ⟨c, s, n, ms, v3, v4, v5, v6, v7, rfl, hS, hc, hms⟩
    repeat' walk_at "st"
    exact kk _
  )) only [↓Hsh.on])
end

theorem law_ask {K : PySem.W.Frag} {H : Hp} (a : Addr) (ns : List Int) (hl : ns.length ≤ 63) (hO : Only H) (hS : SqL K H a (ns.map V.int)) : sp_law K [.ref a] H (fun v _ => v = .bl true) fun _ _ _ => False :=
  by first | exact ⟨_, rfl, a, ns, rfl, Scr.of hS hO, fun _ => rfl⟩ | exact ⟨_, rfl, a, ns, rfl, hl, Scr.of hS hO, fun _ => rfl⟩
theorem facts {w : World} {K : PySem.W.Frag} {h : Heap} {mg : Str → Option Value} {f : Addr} (X : K.In h) (G : h.Ns mainGlobals mg) (hfa : mg ("law" : Str) = some (.ref f)) (c : SaysP fa fn ts ex prl w h K) :
    ∃ fd : FuncData, (∀ (s : Shared) (v : Value), BindsTo s fd ⟨[v], []⟩ [("_law_script", v)]) ∧ ∀ base : Heap, K.In base → base.Ns mainGlobals mg → FnOk (PySem.Challenge.rw_windowada_k53_sound_assignments).prog w K mg base CX0 7 f fd ["_law_script"] (sp_law K) := Hsh.un (by simp (disch := k_dflt (
  refine Hsh.up ?_
  have Y : Env w K mg := env_mk X G c
  obtain ⟨fd, F⟩ := Y.fd_law
  have e := hfa.symm.trans Y.mg_law
  cases e
  have b := FunD.bindsA (ps := ["_law_script"]) F fun _ _ _ _ _ _ us hl => match us, hl with | [_], _ => rfl
  refine ⟨fd, fun s v => b s [v] rfl, fun base _ _ => ?_⟩
  have G_z_take := ok_z_take (P := (PySem.Challenge.rw_windowada_k53_sound_assignments).prog) (w := w) (base := base) Y
  have G_z_changed := ok_z_changed (P := (PySem.Challenge.rw_windowada_k53_sound_assignments).prog) (w := w) (base := base) Y G_z_take
  have G_z_is_place := ok_z_is_place (P := (PySem.Challenge.rw_windowada_k53_sound_assignments).prog) (w := w) (base := base) Y
  have G_Module_init__ := ok_Module_init__ (P := (PySem.Challenge.rw_windowada_k53_sound_assignments).prog) (w := w) (base := base) Y
  have G_z_place := ok_z_place (P := (PySem.Challenge.rw_windowada_k53_sound_assignments).prog) (w := w) (base := base) Y
  have G_z_shapes := ok_z_shapes (P := (PySem.Challenge.rw_windowada_k53_sound_assignments).prog) (w := w) (base := base) Y G_z_take
  have G_Unit_init__ := ok_Unit_init__ (P := (PySem.Challenge.rw_windowada_k53_sound_assignments).prog) (w := w) (base := base) Y
  have G_z_around := ok_z_around (P := (PySem.Challenge.rw_windowada_k53_sound_assignments).prog) (w := w) (base := base) Y
  have G_z_operand := ok_z_operand (P := (PySem.Challenge.rw_windowada_k53_sound_assignments).prog) (w := w) (base := base) Y G_z_take
  have G_z_call := ok_z_call (P := (PySem.Challenge.rw_windowada_k53_sound_assignments).prog) (w := w) (base := base) Y G_z_around G_z_operand G_z_take
  have G_z_memory := ok_z_memory (P := (PySem.Challenge.rw_windowada_k53_sound_assignments).prog) (w := w) (base := base) Y G_z_around G_z_operand G_z_take
  have G_z_target := ok_z_target (P := (PySem.Challenge.rw_windowada_k53_sound_assignments).prog) (w := w) (base := base) Y G_z_take
  have G_z_instruction := ok_z_instruction (P := (PySem.Challenge.rw_windowada_k53_sound_assignments).prog) (w := w) (base := base) Y G_z_call G_z_memory G_z_operand G_z_take G_z_target
  have G_z_regions := ok_z_regions (P := (PySem.Challenge.rw_windowada_k53_sound_assignments).prog) (w := w) (base := base) Y G_z_take
  have G_z_unit := ok_z_unit (P := (PySem.Challenge.rw_windowada_k53_sound_assignments).prog) (w := w) (base := base) Y G_Unit_init__ G_z_instruction G_z_operand G_z_regions G_z_take
  have G_z_module := ok_z_module (P := (PySem.Challenge.rw_windowada_k53_sound_assignments).prog) (w := w) (base := base) Y G_Module_init__ G_z_place G_z_shapes G_z_unit
  have G_z_operands := ok_z_operands (P := (PySem.Challenge.rw_windowada_k53_sound_assignments).prog) (w := w) (base := base) Y
  have G_z_reads := ok_z_reads (P := (PySem.Challenge.rw_windowada_k53_sound_assignments).prog) (w := w) (base := base) Y G_z_operands
  have G_z_onward := ok_z_onward (P := (PySem.Challenge.rw_windowada_k53_sound_assignments).prog) (w := w) (base := base) Y
  have G_z_writes := ok_z_writes (P := (PySem.Challenge.rw_windowada_k53_sound_assignments).prog) (w := w) (base := base) Y
  have G_z_ways := ok_z_ways (P := (PySem.Challenge.rw_windowada_k53_sound_assignments).prog) (w := w) (base := base) Y G_z_onward G_z_writes
  have G_z_live := ok_z_live (P := (PySem.Challenge.rw_windowada_k53_sound_assignments).prog) (w := w) (base := base) Y G_z_reads G_z_ways
  have G_z_pairs := ok_z_pairs (P := (PySem.Challenge.rw_windowada_k53_sound_assignments).prog) (w := w) (base := base) Y
  have G_z_conflicts := ok_z_conflicts (P := (PySem.Challenge.rw_windowada_k53_sound_assignments).prog) (w := w) (base := base) Y G_z_live G_z_onward G_z_pairs G_z_writes
  have G_z_used := ok_z_used (P := (PySem.Challenge.rw_windowada_k53_sound_assignments).prog) (w := w) (base := base) Y G_z_reads
  have G_z_sound := ok_z_sound (P := (PySem.Challenge.rw_windowada_k53_sound_assignments).prog) (w := w) (base := base) Y G_z_conflicts G_z_live G_z_used
  have G_z_start := ok_z_start (P := (PySem.Challenge.rw_windowada_k53_sound_assignments).prog) (w := w) (base := base) Y G_z_take
  have G_add_pairs := ok_add_pairs (P := (PySem.Challenge.rw_windowada_k53_sound_assignments).prog) (w := w) (base := base) Y
  have G_can_raise := ok_can_raise (P := (PySem.Challenge.rw_windowada_k53_sound_assignments).prog) (w := w) (base := base) Y
  have G_followers := ok_followers (P := (PySem.Challenge.rw_windowada_k53_sound_assignments).prog) (w := w) (base := base) Y
  have G_operands := ok_operands (P := (PySem.Challenge.rw_windowada_k53_sound_assignments).prog) (w := w) (base := base) Y
  have G_reads := ok_reads (P := (PySem.Challenge.rw_windowada_k53_sound_assignments).prog) (w := w) (base := base) Y G_operands
  have G_region_of := ok_region_of (P := (PySem.Challenge.rw_windowada_k53_sound_assignments).prog) (w := w) (base := base) Y
  have G_writes := ok_writes (P := (PySem.Challenge.rw_windowada_k53_sound_assignments).prog) (w := w) (base := base) Y
  have G_grow := ok_grow (P := (PySem.Challenge.rw_windowada_k53_sound_assignments).prog) (w := w) (base := base) Y G_can_raise G_followers G_reads G_region_of G_writes
  have G_live := ok_live (P := (PySem.Challenge.rw_windowada_k53_sound_assignments).prog) (w := w) (base := base) Y G_grow
  have G_live_behind := ok_live_behind (P := (PySem.Challenge.rw_windowada_k53_sound_assignments).prog) (w := w) (base := base) Y G_followers
  have G_conflicts := ok_conflicts (P := (PySem.Challenge.rw_windowada_k53_sound_assignments).prog) (w := w) (base := base) Y G_add_pairs G_live G_live_behind G_writes
  have G_candidate := ok_candidate (P := (PySem.Challenge.rw_windowada_k53_sound_assignments).prog) (w := w) (base := base) Y
  have G_first_free := ok_first_free (P := (PySem.Challenge.rw_windowada_k53_sound_assignments).prog) (w := w) (base := base) Y G_candidate
  have G_used_registers := ok_used_registers (P := (PySem.Challenge.rw_windowada_k53_sound_assignments).prog) (w := w) (base := base) Y G_reads
  have G_assign := ok_assign (P := (PySem.Challenge.rw_windowada_k53_sound_assignments).prog) (w := w) (base := base) Y G_conflicts G_first_free G_live G_used_registers
  have G_is_sound := ok_is_sound (P := (PySem.Challenge.rw_windowada_k53_sound_assignments).prog) (w := w) (base := base) Y G_conflicts G_live G_used_registers
  exact ok_law (P := (PySem.Challenge.rw_windowada_k53_sound_assignments).prog) (w := w) (base := base) Y G_z_changed G_z_is_place G_z_module G_z_sound G_z_start G_assign G_is_sound F
  )) only [↓Hsh.on])
end Law
open PySem PySem.W PySem.Calls PyProof.Rows
set_option maxRecDepth 100000 in
set_option maxHeartbeats 0 in
theorem PySem.Challenge.cw_windowada_k53_sound_assignments_holds : PySem.Challenge.rw_windowada_k53_sound_assignments.Holds := by
  w_on; o_law
  refine HandSHeadRun.head_any (r := OpenLaw.row PySem.Challenge.rw_windowada_k53_sound_assignments) (q := view (OpenLaw.row PySem.Challenge.rw_windowada_k53_sound_assignments).prog [54]) (H := Law.hk) (ob := Law.ob) (M := 4000) (loose := Law.loose) (d := HandSHeadRun.topDef (OpenLaw.row PySem.Challenge.rw_windowada_k53_sound_assignments).prog 54) (kwd := []) Law.ob_eq
    (by kernel_rfl) (fun s => by kernel_rfl) Law.run (by kernel_rfl) (by kernel_rfl) (by kernel_rfl) (by rfl) (by first | assumption | decide +kernel) (by decide +kernel) ⟨rfl, rfl, rfl, rfl, rfl, by decide +kernel⟩ ?hw ?hc
  case hw => w_witness2
  case hc =>
    refine L2.walk_ofE (l := PySem.Challenge.rw_windowada_k53_sound_assignments) (n := 63) (k := 7) (x := "_law_script") (CX := L2.CX0) rfl (by decide) (by kernel_rfl) ⟨rfl, by decide, by decide⟩ ?F (fun _ _ _ _ z => z)
    intro w mg fa h Y G hmg0
    obtain ⟨K, KX, c⟩ := Y
    have hmg : mg ("law" : PySem.Str) = some (.ref fa) := by
      have e : (HandSHeadRun.topDef (OpenLaw.row PySem.Challenge.rw_windowada_k53_sound_assignments).prog 54).name = ("law" : PySem.Str) := by kernel_rfl
      rw [← e]
      exact hmg0
    obtain ⟨fd, hb, hF⟩ := Law.facts (w := w) KX G hmg c
    exact ⟨K, fd, Law.sp_law K, KX, hb, fun H a ns hl hO hS => Law.law_ask a ns hl hO hS, hF⟩

