import PyProof.Rows.All
import Wide.All
import OpenK.AllK
import Wide.FinOn
import KE.KStateDown
import HandS.ForMost
import HandS.ForExc
import HandS.Wide
import HandS.TupAny
import HandS.TupMul
import HandS.TupLe
import HandS.Sort
import HandS.Style
import HandS.IsInst
import HandS.Defaults
import HandS.Property
import HandS.Head0
import HandS.Head1
import HandS.Head2
import HandS.EndBits
import HandS.HeadEnd
import HandS.HeadHook1
import HandS.HeadHook2
import HandS.HeadHook3
import HandS.HeadHook4
import HandS.HeadWalk
import KE.KTryMore
import HandS.Exc
import HandS.TryMany
import HandS.ExcOwn
import HandS.ExcIs
import HandS.Small
import HandS.WordsExc
import HandS.Strs
import PySem.Challenge.RW_windowada_k56_encode_and_decode
set_option Elab.async false
set_option linter.all false
set_option maxRecDepth 100000
set_option maxHeartbeats 4000000
/-! Steps over the hand layer: a ledger (what this code owns on the heap), one lemma for each reading, a word that takes one step. -/
namespace Hsh
def Hush (P : Prop) : Prop := P
theorem on {P : Prop} (h : P) : Hush P := h
theorem un {P : Prop} (h : Hush P) : P := h
theorem up {P : Prop} (h : P) : P := h
end Hsh

namespace Q
open PySem PySem.Spec PyProof.Rows L2

/-! ### the ledger -/
abbrev Cell := Addr × HO
def Imm : HO → Bool
  | .tup _ => true
  | .frz _ _ => true
  | _ => false
/-- all that stood is kept but what stood at A (what never changes is kept there, too); nothing is freed -/
structure Keep (A : List Addr) (H H' : Hp) : Prop where
  k : ∀ b o, H b = some o → (b ∉ A ∨ Imm o = true) → H' b = some o
  d : ∀ b, H' b = none → H b = none
theorem Keep.refl (A : List Addr) (H : Hp) : Keep A H H := ⟨fun _ _ e _ => e, fun _ e => e⟩
theorem Keep.trans {A : List Addr} {H H1 H2 : Hp} (a : Keep A H H1) (b : Keep A H1 H2) : Keep A H H2 :=
  ⟨fun c o e q => b.k c o (a.k c o e q) q, fun c e => a.d c (b.d c e)⟩
theorem Keep.mono {A B : List Addr} {H H' : Hp} (a : Keep A H H') (s : ∀ b ∈ A, b ∈ B) : Keep B H H' :=
  ⟨fun c o e q => a.k c o e (q.imp (fun n z => n (s c z)) id), a.d⟩
theorem Keep.nil {B : List Addr} {H H' : Hp} (a : Keep [] H H') : Keep B H H' := a.mono fun _ z => nomatch z
/-- A the cells that stood at the entry H0; L what is known and owned now -/
structure SH (A : List Addr) (H0 H : Hp) (L : List Cell) : Prop where
  hs : ∀ c ∈ L, H c.1 = some c.2
  nd : (L.map (·.1)).Nodup
  kp : Keep A H0 H
  ow : ∀ c ∈ L, c.1 ∈ A ∨ H0 c.1 = none
section
variable {A B : List Addr} {H0 H H' : Hp} {L L' : List Cell} {a p : Addr} {o o' : HO}
theorem SH.start (hs : ∀ c ∈ L, H c.1 = some c.2) (nd : (L.map (·.1)).Nodup) : SH (L.map (·.1)) H H L :=
  ⟨hs, nd, Keep.refl _ _, fun c hc => .inl (List.mem_map_of_mem hc)⟩
theorem SH.start0 : SH [] H H [] := ⟨(fun _ h => nomatch h), List.nodup_nil, Keep.refl _ _, (fun _ h => nomatch h)⟩
theorem SH.start1 (h : H a = some o) : SH [a] H H [(a, o)] := SH.start (L := [(a, o)]) (by intro c hc; rcases List.mem_singleton.mp hc with rfl; exact h) (by simp)
theorem SH.get (S : SH A H0 H L) (i : Nat) (e : L[i]? = some (a, o)) : H a = some o := S.hs _ (List.mem_of_getElem? e)
theorem SH.imm (S : SH A H0 H L) (h : H0 a = some o) (e : Imm o = true) : H a = some o := S.kp.k a o h (.inr e)
theorem SH.new (S : SH A H0 H L) (o : HO) (hp : H p = none) : SH A H0 (upd H p o) ((p, o) :: L) := Hsh.un (by simp (disch := k_dflt (
  refine Hsh.up ?_
  have hne : ∀ c ∈ L, c.1 ≠ p := fun c hc z => by
    have := S.hs c hc
    rw [z, hp] at this
    cases this
  refine ⟨fun c hc => ?_, ?_, ⟨fun b u e q => ?_, fun b e => ?_⟩, fun c hc => ?_⟩
  · rcases List.mem_cons.mp hc with rfl | hc
    · exact upd_same
    · rw [upd_ne (hne c hc)]
      exact S.hs c hc
  · rw [List.map_cons, List.nodup_cons]
    refine ⟨fun z => ?_, S.nd⟩
    obtain ⟨c, hc, e⟩ := List.mem_map.mp z
    exact hne c hc e
  · have h1 := S.kp.k b u e q
    rw [upd_ne (ne_of_none h1 hp)]
    exact h1
  · by_cases hb : b = p
    · rw [hb, upd_same] at e
      cases e
    · rw [upd_ne hb] at e
      exact S.kp.d b e
  · rcases List.mem_cons.mp hc with rfl | hc
    · exact .inr (S.kp.d _ hp)
    · exact S.ow c hc
  )) only [↓Hsh.on])
theorem mem_set_cell {L : List Cell} {i : Nat} {c d : Cell} (h : c ∈ L.set i d) : c = d ∨ ∃ j, j ≠ i ∧ L[j]? = some c := Hsh.un (by simp (disch := k_dflt (
  refine Hsh.up ?_
  obtain ⟨j, hj, e⟩ := List.mem_iff_getElem.mp h
  by_cases q : j = i
  · left
    subst q
    rw [List.getElem_set_self] at e
    exact e.symm
  · right
    refine ⟨j, q, ?_⟩
    rw [List.length_set] at hj
    rw [List.getElem_set_ne (Ne.symm q)] at e
    rw [List.getElem?_eq_getElem hj, e]
  )) only [↓Hsh.on])
theorem map_set_key {L : List Cell} {i : Nat} {a : Addr} {o o' : HO} (e : L[i]? = some (a, o)) : (L.set i (a, o')).map (·.1) = L.map (·.1) := Hsh.un (by simp (disch := k_dflt (
  refine Hsh.up ?_
  apply List.ext_getElem?
  intro j
  rw [List.getElem?_map, List.getElem?_map, List.getElem?_set]
  by_cases q : i = j
  · subst q
    obtain ⟨hi, e2⟩ := List.getElem?_eq_some_iff.mp e
    rw [if_pos rfl, if_pos hi, e]
    rfl
  · rw [if_neg q]
  )) only [↓Hsh.on])
theorem nodup_key {L : List Cell} (nd : (L.map (·.1)).Nodup) {i j : Nat} {c d : Cell} (h1 : L[i]? = some c) (h2 : L[j]? = some d) (ne : j ≠ i) : d.1 ≠ c.1 := fun z => by
  have e1 : (L.map (·.1))[i]? = some c.1 := by rw [List.getElem?_map, h1]; rfl
  have e2 : (L.map (·.1))[j]? = some c.1 := by rw [List.getElem?_map, h2]; exact congrArg some z
  obtain ⟨l1, q1⟩ := List.getElem?_eq_some_iff.mp e1
  obtain ⟨l2, q2⟩ := List.getElem?_eq_some_iff.mp e2
  exact ne ((List.getElem_inj nd).mp (q2.trans q1.symm))
theorem SH.set (S : SH A H0 H L) (i : Nat) (e : L[i]? = some (a, o)) (im : Imm o = false) (o' : HO) : SH A H0 (upd H a o') (L.set i (a, o')) := Hsh.un (by simp (disch := k_dflt (
  refine Hsh.up ?_
  have ha := S.get i e
  refine ⟨fun c hc => ?_, ?_, ⟨fun b u q z => ?_, fun b q => ?_⟩, fun c hc => ?_⟩
  · rcases mem_set_cell hc with rfl | ⟨j, nj, ej⟩
    · exact upd_same
    · rw [upd_ne (nodup_key S.nd e ej nj)]
      exact S.hs c (List.mem_of_getElem? ej)
  · rw [map_set_key e]
    exact S.nd
  · have h1 := S.kp.k b u q z
    have nb : b ≠ a := fun y => by
      subst y
      rw [ha] at h1
      cases h1
      rcases z with z | z
      · rcases S.ow _ (List.mem_of_getElem? e) with w | w
        · exact z w
        · rw [q] at w
          cases w
      · rw [im] at z
        cases z
    rw [upd_ne nb]
    exact h1
  · by_cases hb : b = a
    · rw [hb, upd_same] at q
      cases q
    · rw [upd_ne hb] at q
      exact S.kp.d b q
  · rcases mem_set_cell hc with rfl | ⟨j, nj, ej⟩
    · exact S.ow (a, o) (List.mem_of_getElem? e)
    · exact S.ow c (List.mem_of_getElem? ej)
  )) only [↓Hsh.on])
/-- behind a call that changed at most what stands at the keys of U (their new cells), each of them a cell of L -/
theorem SH.call0 (S : SH A H0 H L) (k : Keep [] H H') : SH A H0 H' L :=
  ⟨fun c hc => k.k _ _ (S.hs c hc) (.inl (by simp)), S.nd, S.kp.trans k.nil, S.ow⟩
theorem SH.call1 (S : SH A H0 H L) (i : Nat) (e : L[i]? = some (a, o)) (im : Imm o = false) (k : Keep [a] H H') (h : H' a = some o') : SH A H0 H' (L.set i (a, o')) := Hsh.un (by simp (disch := k_dflt (
  refine Hsh.up ?_
  have ha := S.get i e
  refine ⟨fun c hc => ?_, by rw [map_set_key e]; exact S.nd, ⟨fun b u q z => ?_, fun b q => S.kp.d b (k.d b q)⟩, fun c hc => ?_⟩
  · rcases mem_set_cell hc with rfl | ⟨j, nj, ej⟩
    · exact h
    · exact k.k _ _ (S.hs c (List.mem_of_getElem? ej)) (.inl fun z => nodup_key S.nd e ej nj (List.mem_singleton.mp z))
  · have h1 := S.kp.k b u q z
    refine k.k b u h1 ?_
    rcases z with z | z
    · refine .inl fun y => ?_
      have y' := List.mem_singleton.mp y
      subst y'
      rcases S.ow _ (List.mem_of_getElem? e) with w | w
      · exact z w
      · rw [q] at w
        cases w
    · exact .inr z
  · rcases mem_set_cell hc with rfl | ⟨j, nj, ej⟩
    · exact S.ow (a, o) (List.mem_of_getElem? e)
    · exact S.ow c (List.mem_of_getElem? ej)
  )) only [↓Hsh.on])
/-- a new object of a callee -/
theorem SH.add (S : SH A H0 H L) (S' : SH A H0 H' L') (ks : ∀ c ∈ L', H c.1 ≠ none) (n : H p = none) (h : H' p = some o) : SH A H0 H' ((p, o) :: L') := Hsh.un (by simp (disch := k_dflt (
  refine Hsh.up ?_
  refine ⟨fun c hc => ?_, ?_, S'.kp, fun c hc => ?_⟩
  · rcases List.mem_cons.mp hc with rfl | hc
    · exact h
    · exact S'.hs c hc
  · rw [List.map_cons, List.nodup_cons]
    refine ⟨fun z => ?_, S'.nd⟩
    obtain ⟨c, hc, e⟩ := List.mem_map.mp z
    exact ks c hc (e ▸ n)
  · rcases List.mem_cons.mp hc with rfl | hc
    · exact .inr (S.kp.d _ n)
    · exact S'.ow c hc
  )) only [↓Hsh.on])
theorem SH.call0n (S : SH A H0 H L) (k : Keep [] H H') (n : H p = none) (h : H' p = some o) : SH A H0 H' ((p, o) :: L) :=
  S.add (S.call0 k) (fun c hc => by rw [S.hs c hc]; exact nofun) n h
theorem SH.call1n {q : Addr} {u : HO} (S : SH A H0 H L) (i : Nat) (e : L[i]? = some (a, o)) (im : Imm o = false) (k : Keep [a] H H') (h : H' a = some o') (n : H q = none) (h2 : H' q = some u) : SH A H0 H' ((q, u) :: L.set i (a, o')) := Hsh.un (by simp (disch := k_dflt (
  refine Hsh.up ?_
  refine S.add (S.call1 i e im k h) (fun c hc => ?_) n h2
  rcases mem_set_cell hc with rfl | ⟨j, nj, ej⟩
  · rw [S.get i e]
    exact nofun
  · rw [S.hs c (List.mem_of_getElem? ej)]
    exact nofun
  )) only [↓Hsh.on])
theorem SH.sub (S : SH A H0 H L) (s : L'.Sublist L) : SH A H0 H L' :=
  ⟨fun c hc => S.hs c (s.subset hc), (s.map _).nodup S.nd, S.kp, fun c hc => S.ow c (s.subset hc)⟩
theorem SH.pick (S : SH A H0 H L) (is : List Nat) (nd : is.Nodup) (e : is.map (fun i => L[i]?) = L'.map some) : SH A H0 H L' := Hsh.un (by simp (disch := k_dflt (
  refine Hsh.up ?_
  have at_ : ∀ (j : Nat) (c : Cell), L'[j]? = some c → ∃ i, is[j]? = some i ∧ L[i]? = some c := fun j c h => by
    have q : (is.map (fun i => L[i]?))[j]? = some (some c) := by rw [e, List.getElem?_map, h]; rfl
    rw [List.getElem?_map] at q
    cases h2 : is[j]? with
    | none => rw [h2] at q; cases q
    | some i => rw [h2] at q; exact ⟨i, rfl, Option.some.inj q⟩
  have mem : ∀ c ∈ L', c ∈ L := fun c hc => by
    obtain ⟨j, hj, e2⟩ := List.mem_iff_getElem.mp hc
    obtain ⟨i, _, h⟩ := at_ j c (by rw [List.getElem?_eq_getElem hj, e2])
    exact List.mem_of_getElem? h
  refine ⟨fun c hc => S.hs c (mem c hc), ?_, S.kp, fun c hc => S.ow c (mem c hc)⟩
  refine List.pairwise_iff_getElem.mpr fun a b ha hb hab z => ?_
  rw [List.length_map] at ha hb
  rw [List.getElem_map, List.getElem_map] at z
  obtain ⟨i, i1, i2⟩ := at_ a _ (List.getElem?_eq_getElem ha)
  obtain ⟨j, j1, j2⟩ := at_ b _ (List.getElem?_eq_getElem hb)
  have hij : i ≠ j := fun q => by
    subst q
    obtain ⟨l1, q1⟩ := List.getElem?_eq_some_iff.mp i1
    obtain ⟨l2, q2⟩ := List.getElem?_eq_some_iff.mp j1
    have := (List.getElem_inj nd).mp (q1.trans q2.symm)
    omega
  exact nodup_key S.nd i2 j2 (Ne.symm hij) z.symm
  )) only [↓Hsh.on])
theorem SH.drop1 {c : Cell} (S : SH A H0 H (c :: L)) : SH A H0 H L := S.sub (List.sublist_cons_self _ _)
theorem SH.perm (S : SH A H0 H L) (p : L.Perm L') : SH A H0 H L' :=
  ⟨fun c hc => S.hs c (p.mem_iff.mpr hc), (p.map _).nodup_iff.mp S.nd, S.kp, fun c hc => S.ow c (p.mem_iff.mpr hc)⟩
theorem SH.ro (S : SH [] H0 H L) (h : H0 a = some o) : H a = some o := S.kp.k a o h (.inl fun z => nomatch z)
/-- what this code did, seen from outside -/
theorem SH.done (S : SH A H0 H L) : Keep A H0 H := S.kp
theorem SH.ne (S : SH A H0 H L) {i j : Nat} {c d : Cell} (h1 : L[i]? = some c) (h2 : L[j]? = some d) (ne : j ≠ i) : d.1 ≠ c.1 := nodup_key S.nd h1 h2 ne
end

/-- behind a call that turned the cells B into B2 -/
theorem SH.call {A : List Addr} {H0 H H' : Hp} {B B2 F : List Cell} (S : SH A H0 H (B ++ F)) (C : SH (B.map (·.1)) H H' B2) : SH A H0 H' (B2 ++ F) := Hsh.un (by simp (disch := k_dflt (
  refine Hsh.up ?_
  have apart : ∀ c ∈ F, c.1 ∉ B.map (·.1) := fun c hc z => by
    have nd := S.nd
    rw [List.map_append] at nd
    exact (List.nodup_append.mp nd).2.2 c.1 z c.1 (List.mem_map_of_mem hc) rfl
  refine ⟨fun c hc => ?_, ?_, ⟨fun b o e q => ?_, fun b e => S.kp.d b (C.kp.d b e)⟩, fun c hc => ?_⟩
  · rcases List.mem_append.mp hc with h | h
    · exact C.hs c h
    · exact C.kp.k _ _ (S.hs c (List.mem_append_right _ h)) (.inl (apart c h))
  · rw [List.map_append]
    have nd := S.nd
    rw [List.map_append] at nd
    refine List.nodup_append.mpr ⟨C.nd, (List.nodup_append.mp nd).2.1, fun a ha b hb e => ?_⟩
    subst e
    obtain ⟨c, hc, rfl⟩ := List.mem_map.mp ha
    obtain ⟨d, hd, e⟩ := List.mem_map.mp hb
    rcases C.ow c hc with w | w
    · exact apart d hd (by rw [e]; exact w)
    · rw [← e, S.hs d (List.mem_append_right _ hd)] at w
      cases w
  · have h1 := S.kp.k b o e q
    refine C.kp.k b o h1 ?_
    rcases q with q | q
    · refine .inl fun z => ?_
      obtain ⟨c, hc, e2⟩ := List.mem_map.mp z
      rcases S.ow c (List.mem_append_left _ hc) with w | w
      · exact q (e2 ▸ w)
      · rw [e2, e] at w
        cases w
    · exact .inr q
  · rcases List.mem_append.mp hc with h | h
    · rcases C.ow c h with w | w
      · obtain ⟨d, hd, e⟩ := List.mem_map.mp w
        rw [← e]
        exact S.ow d (List.mem_append_left _ hd)
      · exact .inr (S.kp.d _ w)
    · exact S.ow c (List.mem_append_right _ h)
  )) only [↓Hsh.on])
theorem SH.pickT {A : List Addr} {H0 H : Hp} {L L' : List Cell} (n : Nat) (S : SH A H0 H L) (is : List Nat) (nd : is.Nodup) (hb : ∀ i ∈ is, i < n) (e : is.map (fun i => L[i]?) = L'.map some) : SH A H0 H (L' ++ L.drop n) := Hsh.un (by simp (disch := k_dflt (
  refine Hsh.up ?_
  have S1 := S.pick is nd e
  have S2 := S.sub (List.drop_sublist n L)
  refine ⟨fun c hc => (List.mem_append.mp hc).elim (S1.hs c) (S2.hs c), ?_, S.kp, fun c hc => (List.mem_append.mp hc).elim (S1.ow c) (S2.ow c)⟩
  rw [List.map_append]
  refine List.nodup_append.mpr ⟨S1.nd, S2.nd, fun a ha b hb' q => ?_⟩
  subst q
  obtain ⟨c, hc, rfl⟩ := List.mem_map.mp ha
  obtain ⟨d, hd, ed⟩ := List.mem_map.mp hb'
  obtain ⟨j, hj, ej⟩ := List.mem_iff_getElem.mp hc
  obtain ⟨m, hm, em⟩ := List.mem_iff_getElem.mp hd
  have q : (is.map (fun i => L[i]?))[j]? = some (some c) := by rw [e, List.getElem?_map, List.getElem?_eq_getElem hj, ej]; rfl
  rw [List.getElem?_map] at q
  cases h2 : is[j]? with
  | none => rw [h2] at q; cases q
  | some i =>
    rw [h2] at q
    have hi := hb i (List.mem_of_getElem? h2)
    have e1 : L[i]? = some c := Option.some.inj q
    have e2 : L[n + m]? = some d := by rw [← List.getElem?_drop, List.getElem?_eq_getElem hm, em]
    exact nodup_key S.nd e1 e2 (by omega) ed
  )) only [↓Hsh.on])
theorem perm_mid {α : Type} (A B S : List α) : ((A ++ B) ++ S).Perm (A ++ (S ++ B)) := by
  rw [List.append_assoc]
  exact List.Perm.append_left _ List.perm_append_comm
/-- cells that are there, apart -/
structure Blk (H : Hp) (B : List Cell) : Prop where
  hs : ∀ c ∈ B, H c.1 = some c.2
  nd : (B.map (·.1)).Nodup
theorem SH.callM {A : List Addr} {H0 H H' : Hp} {F B B2 G : List Cell} (S : SH A H0 H (F ++ (B ++ G))) (C : SH (B.map (·.1)) H H' B2) : SH A H0 H' (F ++ (B2 ++ G)) := Hsh.un (by simp (disch := k_dflt (
  refine Hsh.up ?_
  have p : ∀ X : List Cell, (F ++ (X ++ G)).Perm (X ++ (F ++ G)) := fun X => by
    rw [← List.append_assoc, ← List.append_assoc]
    exact List.Perm.append_right _ List.perm_append_comm
  exact ((S.perm (p B)).call C).perm (p B2).symm
  )) only [↓Hsh.on])
theorem SH.callR {A : List Addr} {H0 H H' : Hp} {F B B2 : List Cell} (S : SH A H0 H (F ++ B)) (C : SH (B.map (·.1)) H H' B2) : SH A H0 H' (F ++ B2) :=
  ((S.perm List.perm_append_comm).call C).perm List.perm_append_comm
theorem SH.blkM {A : List Addr} {H0 H : Hp} (F B G : List Cell) (S : SH A H0 H (F ++ (B ++ G))) : Blk H B := ⟨fun c hc => S.hs c (List.mem_append_right _ (List.mem_append_left _ hc)), by
  have nd := S.nd
  rw [List.map_append, List.map_append] at nd
  exact (List.nodup_append.mp (List.nodup_append.mp nd).2.1).1⟩
theorem SH.blkR {A : List Addr} {H0 H : Hp} (F B : List Cell) (S : SH A H0 H (F ++ B)) : Blk H B := ⟨fun c hc => S.hs c (List.mem_append_right _ hc), by
  have nd := S.nd
  rw [List.map_append] at nd
  exact (List.nodup_append.mp nd).2.1⟩
theorem Blk.sh {H : Hp} {B : List Cell} (b : Blk H B) : SH (B.map (·.1)) H H B := SH.start b.hs b.nd
theorem SH.blk {A : List Addr} {H0 H : Hp} {L : List Cell} (S : SH A H0 H L) : Blk H L := ⟨S.hs, S.nd⟩
theorem Blk.sub {H : Hp} {B B' : List Cell} (b : Blk H B) (s : B'.Sublist B) : Blk H B' := ⟨fun c hc => b.hs c (s.subset hc), (s.map _).nodup b.nd⟩
theorem SH.fr0 {H0 H : Hp} {L : List Cell} {p : Addr} {o : HO} (S : SH [] H0 H L) (i : Nat) (e : L[i]? = some (p, o)) : H0 p = none := (S.ow (p, o) (List.mem_of_getElem? e)).elim (fun z => nomatch z) id
theorem SH.fr1 {H0 H : Hp} {L : List Cell} {p a : Addr} {o u : HO} (S : SH [a] H0 H L) (i j : Nat) (e : L[i]? = some (p, o)) (e2 : L[j]? = some (a, u)) (ne : i ≠ j) : H0 p = none :=
  (S.ow (p, o) (List.mem_of_getElem? e)).elim (fun z => absurd (List.mem_singleton.mp z) (nodup_key S.nd e2 e ne)) id
theorem SH.frn {A : List Addr} {H0 H : Hp} {L : List Cell} {p : Addr} {o : HO} (S : SH A H0 H L) (i : Nat) (e : L[i]? = some (p, o)) (n : p ∉ A) : H0 p = none := (S.ow (p, o) (List.mem_of_getElem? e)).elim (fun z => absurd z n) id
/-- the script (or another list that nobody changes) -/
def Scr (K : PySem.W.Frag) (H : Hp) (a : Addr) (xs : List V) : Prop :=
  (∃ o, H a = some (.frz o (.lst xs))) ∨
    ∃ (o : Obj) (its : Array Value) (n : Nat), K.lookup a = some o ∧ o.cls = .type "list" ∧ o.dict = none ∧ o.data = .seq its n ∧ its.size ≤ sizeLine ∧ Vals xs its.toList
theorem Scr.sq {K : PySem.W.Frag} {H : Hp} {a : Addr} {xs : List V} (h : Scr K H a xs) : SqL K H a xs := Hsh.un (by simp (disch := k_dflt (
  refine Hsh.up ?_
  rcases h with ⟨o, h⟩ | h
  · exact .inl (.inr ⟨o, h⟩)
  · exact .inr h
  )) only [↓Hsh.on])
theorem Scr.keep {K : PySem.W.Frag} {A : List Addr} {H H' : Hp} {a : Addr} {xs : List V} (h : Scr K H a xs) (k : Keep A H H') : Scr K H' a xs := Hsh.un (by simp (disch := k_dflt (
  refine Hsh.up ?_
  rcases h with ⟨o, h⟩ | h
  · exact .inl ⟨o, k.k _ _ h (.inr rfl)⟩
  · exact .inr h
  )) only [↓Hsh.on])
theorem Scr.of {K : PySem.W.Frag} {H : Hp} {a : Addr} {xs : List V} (h : SqL K H a xs) (O : Only H) : Scr K H a xs := Hsh.un (by simp (disch := k_dflt (
  refine Hsh.up ?_
  rcases h with (h | ⟨o, h⟩) | h
  · rcases O a with q | ⟨o, ys, q⟩
    · rw [q] at h
      cases h
    · rw [q] at h
      cases h
  · exact .inl ⟨o, h⟩
  · exact .inr h
  )) only [↓Hsh.on])

/-! ### operators for several kinds of values -/
section
variable {X : Cx}
def CDivX (_ j : Int) : Prop := j ≠ 0 ∧ j.natAbs.log2 < 9000
theorem op_fdivX : OpR X (binaryOp .FloorDiv) (rI CDivX fun i j => .int (i.fdiv j)) := opI fun _ _ _ _ _ _ _ hc q => floordiv_int hc.1 q (.inl (PyProof.noPylong_of_log2 hc.2))
def rAddX (K : PySem.W.Frag) : R2 := fun x y H Q => rI0 (fun i j => .int (i + j)) x y H Q ∨ (∃ i j, x = .str i ∧ y = .str j ∧ i.length + j.length ≤ sizeLine ∧ Q (.str (i ++ j)) H) ∨ rCat x y H Q ∨ rCatA K x y H Q
theorem xAdd : OpR X (binaryOp .Add) (rAddX X.K) := op_add.or (op_add_str.or (op_cat.or op_catA))
def rMulX (K : PySem.W.Frag) : R2 := fun x y H Q => rI CMul (fun i j => .int (i * j)) x y H Q ∨ rI CMulW (fun i j => .int (i * j)) x y H Q ∨ rRep x y H Q ∨ rRepT K x y H Q
theorem xMul : OpR X (binaryOp .Mult) (rMulX X.K) := op_mul.or (op_mulW.or (op_rep.or op_repT))
def rDivX : R2 := fun x y H Q => rI CDivW (fun i j => .int (i / j)) x y H Q ∨ rI CDivX (fun i j => .int (i.fdiv j)) x y H Q
theorem xDiv : OpR X (binaryOp .FloorDiv) rDivX := op_fdivW.or op_fdivX
def rModX : R2 := fun x y H Q => rI (fun _ j => 0 < j) (fun i j => .int (i % j)) x y H Q ∨ rI (fun _ j => j ≠ 0) (fun i j => .int (i.fmod j)) x y H Q
theorem xMod : OpR X (binaryOp .Mod) rModX := op_mod.or op_modN
def rEqX (K : PySem.W.Frag) : R2 := fun x y H Q => rEq x y H Q ∨ rEqD K x y H Q
def rNeX (K : PySem.W.Frag) : R2 := fun x y H Q => rNe x y H Q ∨ rNeD K x y H Q
theorem xEq (hu : X.A.units + 64 < cLine) : OpR X (compareOp .Eq) (rEqX X.K) := op_eq.or (op_eqD hu)
theorem xNe (hu : X.A.units + 64 < cLine) : OpR X (compareOp .NotEq) (rNeX X.K) := op_ne.or (op_neD hu)
def rInX (K : PySem.W.Frag) (neg : Bool) : R2 := rIn K neg
theorem xIn : OpR X (compareOp .In) (rInX X.K false) := op_in_seq
theorem xNotIn : OpR X (compareOp .NotIn) (rInX X.K true) := op_notIn_seq
def rIsX : R2 := fun x y H Q => (y = .non ∧ Q (.bl (decide (x = .non))) H) ∨ (∃ a b, x = .bl a ∧ y = .bl b ∧ Q (.bl (decide (a = b))) H)
def rIsNotX : R2 := fun x y H Q => (y = .non ∧ Q (.bl (!decide (x = .non))) H) ∨ (∃ a b, x = .bl a ∧ y = .bl b ∧ Q (.bl (!decide (a = b))) H)
theorem xIs : OpR X (compareOp .Is) rIsX := op_isN.or op_is_bl
theorem xIsNot : OpR X (compareOp .IsNot) rIsNotX := op_notN.or op_isnot_bl
def rIxX (K : PySem.W.Frag) : R2 := rIx K
theorem xIx : IxR X (rIxX X.K) := ix_seq
def rSlX (K : PySem.W.Frag) : V → Option Int → Option Int → Hp → VK → Prop := fun x lo hi H Q => rSlL K x lo hi H Q ∨ rSlT K x lo hi H Q
theorem xSl : SlR X (rSlX X.K) := sl_list.or sl_tup
theorem CallR.or {f : Value} {r r' : List V → Hp → VK → Prop} (h : CallR X f r) (h' : CallR X f r') : CallR X f (fun xs H Q => r xs H Q ∨ r' xs H Q) := Hsh.un (by simp (disch := k_dflt (
  refine Hsh.up ?_
  intro pins s σ H xs us Q I r1 q
  rcases q with q | q
  · exact h pins s σ H xs us Q I r1 q
  · exact h' pins s σ H xs us Q I r1 q
  )) only [↓Hsh.on])
def rInt : List V → Hp → VK → Prop := fun xs H Q => (∃ i, xs = [.int i] ∧ Q (.int i) H) ∨ ∃ k, xs = [.bl k] ∧ Q (.int (if k then 1 else 0)) H
theorem x_int : CallR X (.type "int") rInt := call_int1
def rLenX (K : PySem.W.Frag) : List V → Hp → VK → Prop := fun xs H Q => ∃ x n, xs = [x] ∧ LenV K x H n ∧ Q (.int n) H
theorem x_len : CallR X (.builtin "len") (rLenX X.K) := call_len
def rAbs : List V → Hp → VK → Prop := fun xs H Q => ∃ i, xs = [.int i] ∧ Q (.int (if i < 0 then -i else i)) H
theorem x_abs : CallR X (.builtin "abs") rAbs := call_abs
def rIsiX (K : PySem.W.Frag) : List V → Hp → VK → Prop := fun xs H Q => rIsi K xs H Q ∨ rIsiT K xs H Q
theorem x_isinstance : CallR X (.builtin "isinstance") (rIsiX X.K) := CallR.or call_isi call_isiT
def rListX (K : PySem.W.Frag) : List V → Hp → VK → Prop := fun xs H Q => ∃ p ys, xs = [.ref p] ∧ (SqL K H p ys ∨ SqT K H p ys) ∧ ∀ l, H l = none → Q (.ref l) (upd H l (.lst ys))
theorem x_list : CallR X (.type "list") (rListX X.K) := call_list_of
def rTupX (K : PySem.W.Frag) : List V → Hp → VK → Prop := fun xs H Q => ∃ p ys, xs = [.ref p] ∧ ((SqL K H p ys ∧ ∀ l, H l = none → Q (.ref l) (upd H l (.tup ys))) ∨ (SqT K H p ys ∧ Q (.ref p) H))
theorem x_tuple : CallR X (.type "tuple") (rTupX X.K) := call_tuple_of
def rMax2 : List V → Hp → VK → Prop := fun xs H Q => ∃ i j, xs = [.int i, .int j] ∧ Q (.int (if j > i then j else i)) H
theorem x_max2 (hc : X.calm = true) : CallR X (.builtin "max") rMax2 := call_max2 hc
def rMin2 : List V → Hp → VK → Prop := fun xs H Q => ∃ i j, xs = [.int i, .int j] ∧ Q (.int (if j < i then j else i)) H
theorem x_min2 (hc : X.calm = true) : CallR X (.builtin "min") rMin2 := call_min2 hc
theorem x_sum (hc : X.calm = true) : CallR X (.builtin "sum") (rSum X.K) := cr_sum hc
theorem x_max1 (hc : X.calm = true) : CallR X (.builtin "max") (rMax X.K) := cr_max hc
theorem x_min1 (hc : X.calm = true) : CallR X (.builtin "min") (rMin X.K) := cr_min hc
theorem x_all (hc : X.calm = true) : CallR X (.builtin "all") (rAll X.K) := cr_all hc
theorem x_any (hc : X.calm = true) : CallR X (.builtin "any") (rAny X.K) := cr_any hc
/-- a module's constant -/
theorem pe_ci {x : Str} {i : Int} {pos : Pos} (hg : Gl X x) (h : ∃ t, X.mg x = some (.int i t)) (hd : (x == ("__debug__" : Str)) = false := by decide) : PE X (.Name x pos) (tC (.int i)) := by
  obtain ⟨t, h⟩ := h
  exact pe_glob hg h ⟨t, rfl⟩ hd
theorem pe_gr {x : Str} {a : Addr} {pos : Pos} (hg : Gl X x) (h : X.mg x = some (.ref a)) (hd : (x == ("__debug__" : Str)) = false := by decide) : PE X (.Name x pos) (tC (.ref a)) := pe_glob hg h rfl hd
theorem pe_cs {x z : Str} {pos : Pos} (hg : Gl X x) (h : ∃ t, X.mg x = some (.str z t)) (hd : (x == ("__debug__" : Str)) = false := by decide) : PE X (.Name x pos) (tC (.str z)) := by
  obtain ⟨t, h⟩ := h
  exact pe_glob hg h ⟨t, rfl⟩ hd
end

/-! ### == of lists of ints -/
theorem shaped_ints (ns : List Int) : SeqAt.shaped (.list (ns.map PyData.int)) = true := Hsh.un (by simp (disch := k_dflt (
  refine Hsh.up ?_
  have h1 : ∀ l : List Int, PyData.canLayAll0 (l.map PyData.int) = true := fun l => by
    induction l with
    | nil => rfl
    | cons n r ih => rw [List.map_cons, PyData.canLayAll0, ih]; rfl
  have h2 : ∀ l : List Int, PyData.depthAll (l.map PyData.int) = 0 := fun l => by
    induction l with
    | nil => rfl
    | cons n r ih => rw [List.map_cons, PyData.depthAll, ih]; rfl
  unfold SeqAt.shaped
  rw [PyData.canLay0, h1, PyData.depth, h2]
  rfl
  )) only [↓Hsh.on])
theorem eqv_ints : ∀ ns ms : List Int, PyData.eqvAll (ns.map PyData.int) (ms.map PyData.int) = decide (ns = ms)
  | [], [] => by simp [PyData.eqvAll]
  | [], _ :: _ => by simp [PyData.eqvAll]
  | _ :: _, [] => by simp [PyData.eqvAll]
  | n :: ns, m :: ms => by
    rw [List.map_cons, List.map_cons, PyData.eqvAll, eqv_ints ns ms]
    by_cases h : n = m <;> by_cases h2 : ns = ms <;> simp [h, h2, PyData.eqv]
theorem dp_ints {K : PySem.W.Frag} {H : Hp} : ∀ ns : List Int, DpAll K H (ns.map V.int) (ns.map PyData.int)
  | [] => .nil
  | n :: ns => .cons (.int n) (dp_ints ns)
theorem s_eqLI {K : PySem.W.Frag} {H : Hp} {p q : Addr} {ns ms : List Int} {Q : VK} (h1 : SqL K H p (ns.map V.int)) (h2 : SqL K H q (ms.map V.int)) (h : Q (.bl (decide (ns = ms))) H) : rEqX K (.ref p) (.ref q) H Q :=
  .inr ⟨_, _, .lst h1 (dp_ints ns), .lst h2 (dp_ints ms), shaped_ints ns, shaped_ints ms, by rw [PyData.eqv, eqv_ints]; exact h⟩
/-! ### defs of the program -/
/-- the name x stands for a def that keeps the promise sp -/
structure CallOk (P : Program) (w : World) (K : PySem.W.Frag) (mg : Str → Option Value) (base : Heap) (CX : CXT) (k : Nat) (x : Str) (ps : List Str) (sp : Sp) : Prop where
  ex : ∃ f fd, mg x = some (.ref f) ∧ PySem.W.keepIn K (.ref f) = true ∧ Binds K fd ps [] ∧ FnOk P w K mg base CX k f fd ps sp
section
variable {X : Cx} {CX : CXT} {k : Nat} {ps : List Str} {sp : Sp} {E : XK} {x : Str} {p pos : Pos} {e : Expr} {es : List Expr} {t : TA}
theorem pe_callG (F : CallOk X.prog X.w X.K X.mg X.base CX k x ps sp) (hr : Room k X.A) (hg : Gl X x) (hx : Passes CX X E)
    (ha : PA X (e :: es) t) (hdb : (x == ("__debug__" : Str)) = false := by decide) (he : starEach (e :: es) X.env = (false, eval e X.env) :: starEach es X.env := by rfl) (hpl : (backTo pos (starEach es X.env)).any (·.1) = false := by rfl) :
    PE X (.Call (.Name x p) (e :: es) [] pos) (tCall sp [] E t) := by
  obtain ⟨f, fd, h1, h2, h3, h4⟩ := F.ex
  exact pe_call h4 hr hg h1 h2 h3 .nil hx ha hdb he hpl
theorem pe_callG0 (F : CallOk X.prog X.w X.K X.mg X.base CX k x ps sp) (hr : Room k X.A) (hg : Gl X x) (hx : Passes CX X E) (hdb : (x == ("__debug__" : Str)) = false := by decide) :
    PE X (.Call (.Name x p) [] [] pos) (tCall sp [] E tNil) := by
  obtain ⟨f, fd, h1, h2, h3, h4⟩ := F.ex
  exact pe_call0 h4 hr hg h1 h2 h3 .nil hx hdb
end
/-- the method m of the class that stands under the name C -/
structure MethOk (P : Program) (w : World) (K : PySem.W.Frag) (mg : Str → Option Value) (base : Heap) (CX : CXT) (k : Nat) (C m : Str) (ps : List Str) (sp : Sp) : Prop where
  ex : ∃ fd, Cls K (He.ga K C) ∧ Meth K (He.ga K C) m (He.ma K (He.ga K C) m) ∧ Binds K fd ps [] ∧ FnOk P w K mg base CX k (He.ma K (He.ga K C) m) fd ps sp
structure MakeOk (P : Program) (w : World) (K : PySem.W.Frag) (mg : Str → Option Value) (base : Heap) (CX : CXT) (k : Nat) (C : Str) (ps : List Str) (sp : Sp) : Prop where
  ex : ∃ fd, mg C = some (.ref (He.ga K C)) ∧ Mk K (He.ga K C) (He.ma K (He.ga K C) "__init__") ∧ Binds K fd ps [] ∧ FnOk P w K mg base CX k (He.ma K (He.ga K C) "__init__") fd ps sp
/-- the property f of the class C -/
structure PropOk (P : Program) (w : World) (K : PySem.W.Frag) (mg : Str → Option Value) (base : Heap) (CX : CXT) (k : Nat) (C f : Str) (ps : List Str) (sp : Sp) : Prop where
  ex : ∃ fd p g, Cls K (He.ga K C) ∧ PropOf K (He.ga K C) f p g ∧ Binds K fd ps [] ∧ FnOk P w K mg base CX k g fd ps sp
/-- a method's reading behind its object -/
def methO (C : Addr) (m : Str) (sp : Sp) (E : XK) (t : TA) (σ : L2.St) (x : V) (H : Hp) (Q : VK) : Prop := ∃ a dx fs, x = .ref a ∧ H a = some (.ins C dx fs) ∧ fs.lookup m = none ∧ t σ H fun vs H2 => sp (x :: (vs ++ [])) H2 Q E
def propO (C : Addr) (sp : Sp) (E : XK) (x : V) (H : Hp) (Q : VK) : Prop := ∃ a dx fs, x = .ref a ∧ H a = some (.ins C dx fs) ∧ sp [.ref a] H Q E
def makeO (C : Addr) (sp : Sp) (E : XK) (vs : List V) (H : Hp) (Q : VK) : Prop := ∀ x dx, H x = none → H dx = none → dx ≠ x → sp (.ref x :: (vs ++ [])) (upd (upd H dx (.own x)) x (.ins C dx [])) (fun v H2 => v = .non ∧ Q (.ref x) H2) E
section
variable {X : Cx} {CX : CXT} {k : Nat} {ps : List Str} {sp : Sp} {E : XK} {C m : Str} {p pos apos : Pos} {o e : Expr} {es : List Expr} {t : TA} {ta : TE}
theorem pe_methG {pl : Sem Bool} (he : PE X o ta) (F : MethOk X.prog X.w X.K X.mg X.base CX k C m ps sp) (hr : Room k X.A) (hx : Passes CX X E) (ha : PA X (e :: es) t)
    (hst : starEach (e :: es) X.env = (false, eval e X.env) :: starEach es X.env := by rfl) (hpl : (backTo pos (starEach es X.env)).any (·.1) = false := by rfl)
    (ht : eval (.Call (.Attribute o m apos) (e :: es) [] pos) X.env = (do
      let ov ← eval o X.env
      standAt apos.atName
      let (f, first) ← holding [ov] (getMethod ov m pl)
      callWith pos f first (backTo pos (starEach (e :: es) X.env)) (backToKw pos (keywordEach [] X.env))) := by rfl) :
    PE X (.Call (.Attribute o m apos) (e :: es) [] pos) (fun σ H Q => ta σ H fun x H1 => methO (He.ga X.K C) m sp E t σ x H1 Q) := by
  obtain ⟨fd, c, hm, hb, G⟩ := F.ex
  exact pe_meth (pl := pl) he c hm G hr hb .nil hx ha hst hpl ht
theorem pe_methG0 {pl : Sem Bool} (he : PE X o ta) (F : MethOk X.prog X.w X.K X.mg X.base CX k C m ps sp) (hr : Room k X.A) (hx : Passes CX X E)
    (ht : eval (.Call (.Attribute o m apos) [] [] pos) X.env = (do
      let ov ← eval o X.env
      standAt apos.atName
      let (f, first) ← holding [ov] (getMethod ov m pl)
      callWith pos f first (backTo pos (starEach [] X.env)) (backToKw pos (keywordEach [] X.env))) := by rfl) :
    PE X (.Call (.Attribute o m apos) [] [] pos) (fun σ H Q => ta σ H fun x H1 => methO (He.ga X.K C) m sp E tNil σ x H1 Q) := by
  obtain ⟨fd, c, hm, hb, G⟩ := F.ex
  exact pe_meth0 (pl := pl) he c hm G hr hb .nil hx ht
theorem pe_propG (he : PE X o ta) (F : PropOk X.prog X.w X.K X.mg X.base CX k C m ps sp) (hr : Room (k + 1) X.A) (hx : Passes CX X.nox E)
    (hab : attributeBase o m X.env (eval o X.env) = eval o X.env) : PE X (.Attribute o m pos) (fun σ H Q => ta σ H fun x H1 => propO (He.ga X.K C) sp E x H1 Q) := by
  obtain ⟨fd, p, g, c, hp, hb, G⟩ := F.ex
  exact pe_prop he c hp G hr hb .nil hx hab
theorem pe_makeG (F : MakeOk X.prog X.w X.K X.mg X.base CX k C ps sp) (hr : Room (k + 1) X.A) (hg : Gl X C) (hx : Passes CX X E) (ha : PA X (e :: es) t) (hdb : (C == ("__debug__" : Str)) = false := by decide)
    (he : starEach (e :: es) X.env = (false, eval e X.env) :: starEach es X.env := by rfl) (hpl : (backTo pos (starEach es X.env)).any (·.1) = false := by rfl) :
    PE X (.Call (.Name C p) (e :: es) [] pos) (fun σ H Q => t σ H fun vs H1 => makeO (He.ga X.K C) sp E vs H1 Q) := by
  obtain ⟨fd, hm, M, hb, G⟩ := F.ex
  exact pe_make M G hr hg hm hb .nil hx ha hdb he hpl
theorem pe_makeG0 (F : MakeOk X.prog X.w X.K X.mg X.base CX k C ps sp) (hr : Room (k + 1) X.A) (hg : Gl X C) (hx : Passes CX X E) (hdb : (C == ("__debug__" : Str)) = false := by decide) :
    PE X (.Call (.Name C p) [] [] pos) (fun σ H Q => makeO (He.ga X.K C) sp E [] H Q) := by
  obtain ⟨fd, hm, M, hb, G⟩ := F.ex
  exact pe_make0 M G hr hg hm hb .nil hx hdb
end
/-- promises by the number of arguments -/
def mk0 (P : Hp → VK → XK → Prop) : Sp := fun vs H Q E => vs = [] ∧ P H Q E
def mk1 (P : V → Hp → VK → XK → Prop) : Sp := fun vs H Q E => ∃ a, vs = [a] ∧ P a H Q E
def mk2 (P : V → V → Hp → VK → XK → Prop) : Sp := fun vs H Q E => ∃ a b, vs = [a, b] ∧ P a b H Q E
def mk3 (P : V → V → V → Hp → VK → XK → Prop) : Sp := fun vs H Q E => ∃ a b c, vs = [a, b, c] ∧ P a b c H Q E
def mk4 (P : V → V → V → V → Hp → VK → XK → Prop) : Sp := fun vs H Q E => ∃ a b c d, vs = [a, b, c, d] ∧ P a b c d H Q E
def mk5 (P : V → V → V → V → V → Hp → VK → XK → Prop) : Sp := fun vs H Q E => ∃ a b c d e, vs = [a, b, c, d, e] ∧ P a b c d e H Q E
theorem mk0_len {P} (vs H Q E) (h : mk0 P vs H Q E) : vs.length = 0 := by obtain ⟨rfl, _⟩ := h; rfl
theorem mk1_len {P} (vs H Q E) (h : mk1 P vs H Q E) : vs.length = 1 := by obtain ⟨_, rfl, _⟩ := h; rfl
theorem mk2_len {P} (vs H Q E) (h : mk2 P vs H Q E) : vs.length = 2 := by obtain ⟨_, _, rfl, _⟩ := h; rfl
theorem mk3_len {P} (vs H Q E) (h : mk3 P vs H Q E) : vs.length = 3 := by obtain ⟨_, _, _, rfl, _⟩ := h; rfl
theorem mk4_len {P} (vs H Q E) (h : mk4 P vs H Q E) : vs.length = 4 := by obtain ⟨_, _, _, _, rfl, _⟩ := h; rfl
theorem mk5_len {P} (vs H Q E) (h : mk5 P vs H Q E) : vs.length = 5 := by obtain ⟨_, _, _, _, _, rfl, _⟩ := h; rfl
theorem s_mk0 {P : Hp → VK → XK → Prop} {H Q E} (h : P H Q E) : mk0 P ([] ++ []) H Q E := ⟨rfl, h⟩
theorem s_mk1 {P : V → Hp → VK → XK → Prop} {a H Q E} (h : P a H Q E) : mk1 P ([a] ++ []) H Q E := ⟨a, rfl, h⟩
theorem s_mk2 {P : V → V → Hp → VK → XK → Prop} {a b H Q E} (h : P a b H Q E) : mk2 P ([a, b] ++ []) H Q E := ⟨a, b, rfl, h⟩
theorem s_mk3 {P : V → V → V → Hp → VK → XK → Prop} {a b c H Q E} (h : P a b c H Q E) : mk3 P ([a, b, c] ++ []) H Q E := ⟨a, b, c, rfl, h⟩
theorem s_mk4 {P : V → V → V → V → Hp → VK → XK → Prop} {a b c d H Q E} (h : P a b c d H Q E) : mk4 P ([a, b, c, d] ++ []) H Q E := ⟨a, b, c, d, rfl, h⟩
theorem s_mk5 {P : V → V → V → V → V → Hp → VK → XK → Prop} {a b c d e H Q E} (h : P a b c d e H Q E) : mk5 P ([a, b, c, d, e] ++ []) H Q E := ⟨a, b, c, d, e, rfl, h⟩
theorem cxK {CX : CXT} {P : Program} {w : World} {K : PySem.W.Frag} {mg : Str → Option Value} {base : Heap} {N : List Str} {qual : Str} {scope : Scope} {f : Addr} {cd : Value} {A : Around} {outer : List PySem.Env} {s : Shared} {H : Hp} {E : XK} :
    (cxOf CX P w K mg base N qual scope f cd A outer s H E).nox.K = K := rfl
theorem cxK2 {CX : CXT} {P : Program} {w : World} {K : PySem.W.Frag} {mg : Str → Option Value} {base : Heap} {N : List Str} {qual : Str} {scope : Scope} {f : Addr} {cd : Value} {A : Around} {outer : List PySem.Env} {s : Shared} {H : Hp} {E : XK} :
    (cxOf CX P w K mg base N qual scope f cd A outer s H E).K = K := rfl
theorem hu_room {k : Nat} {A : Around} (hr : Room k A) : A.units + 64 < cLine := hr.units
theorem exget {ex : List (PySem.W.Frag → Bool)} {K : PySem.W.Frag} (h : (ex.all fun f => f K) = true) (i : Nat) {f : PySem.W.Frag → Bool} (e : ex[i]? = some f) : f K = true :=
  List.all_eq_true.mp h f (List.mem_of_getElem? e)

/-! ### one lemma a reading -/
/-- a new object -/
def newO (o : HO) (n : Nat) (H : Hp) (Q : VK) : Prop := n ≤ sizeLine ∧ ∀ p, H p = none → Q (.ref p) (upd H p o)
/-- a field of the value x -/
def fldO (K : PySem.W.Frag) (f : Str) (x : V) (H : Hp) (Q : VK) : Prop := ∃ a C dx fs v, x = .ref a ∧ H a = some (.ins C dx fs) ∧ Cls K C ∧ NoAttr K C f ∧ fs.lookup f = some v ∧ Q v H
def sfldO (K : PySem.W.Frag) (f : Str) (y x : V) (H : Hp) (P : Hp → Prop) : Prop := ∃ a C dx fs, x = .ref a ∧ H a = some (.ins C dx fs) ∧ Cls K C ∧ NoAttr K C f ∧ fs.length < 1000 ∧ P (upd H a (.ins C dx (putF f y fs)))
section
variable {σ σ' : L2.St} {H : Hp} {Q : VK} {K : PySem.W.Frag} {R : Bool → Hp → Prop} {D : Ends} {ta tb : TE} {t u : TS} {tc td : TT} {v : V}
theorem s_var {i : Nat} (e : σ[i]? = some (some v)) (h : Q v H) : tVar i σ H Q := ⟨v, e, h⟩
theorem s_C (h : Q v H) : tC v σ H Q := h
theorem s_op {r : R2} (h : ta σ H fun x H1 => tb σ H1 fun y H2 => r x y H2 Q) : tOp r ta tb σ H Q := h
theorem s_un {r : V → Hp → VK → Prop} (h : ta σ H fun x H1 => r x H1 Q) : tUn r ta σ H Q := h
theorem s_rU {g : Int → V} {i : Int} (h : Q (g i) H) : rU g (.int i) H Q := ⟨i, rfl, h⟩
theorem s_rI0 {g : Int → Int → V} {i j : Int} (h : Q (g i j) H) : rI0 g (.int i) (.int j) H Q := ⟨i, j, rfl, rfl, h⟩
theorem s_rI {C : Int → Int → Prop} {g : Int → Int → V} {i j : Int} (c : C i j) (h : Q (g i j) H) : rI C g (.int i) (.int j) H Q := ⟨i, j, rfl, rfl, c, h⟩
theorem s_addI {i j : Int} (h : Q (.int (i + j)) H) : rAddX K (.int i) (.int j) H Q := .inl ⟨i, j, rfl, rfl, h⟩
theorem s_addS {i j : Str} (c : i.length + j.length ≤ sizeLine) (h : Q (.str (i ++ j)) H) : rAddX K (.str i) (.str j) H Q := .inr (.inl ⟨i, j, rfl, rfl, c, h⟩)
theorem s_mulR {i j : Int} (c : -(2 ^ 64) < j ∧ j < 2 ^ 64) (h : Q (.int (i * j)) H) : rMulX K (.int i) (.int j) H Q := .inl ⟨i, j, rfl, rfl, .inr c, h⟩
theorem s_mulL {i j : Int} (c : -(2 ^ 64) < i ∧ i < 2 ^ 64) (h : Q (.int (i * j)) H) : rMulX K (.int i) (.int j) H Q := .inl ⟨i, j, rfl, rfl, .inl c, h⟩
theorem s_div {i j : Int} (c0 : 0 < j) (c : j < 2 ^ 64) (h : Q (.int (i / j)) H) : rDivX (.int i) (.int j) H Q := .inl ⟨i, j, rfl, rfl, wide_div (b := 64) c0 (by omega) (by decide) (by decide), h⟩
theorem s_divX {i j : Int} (c0 : j ≠ 0) (c : -(2 ^ 64) < j ∧ j < 2 ^ 64) (h : Q (.int (i.fdiv j)) H) : rDivX (.int i) (.int j) H Q :=
  .inr ⟨i, j, rfl, rfl, ⟨c0, Nat.lt_of_lt_of_le (PySem.Flt.log2_lt_of (k := 64) (by decide) (by omega)) (by decide)⟩, h⟩
theorem s_mod {i j : Int} (c : 0 < j) (h : Q (.int (i % j)) H) : rModX (.int i) (.int j) H Q := .inl ⟨i, j, rfl, rfl, c, h⟩
theorem s_modN {i j : Int} (c : j ≠ 0) (h : Q (.int (i.fmod j)) H) : rModX (.int i) (.int j) H Q := .inr ⟨i, j, rfl, rfl, c, h⟩
theorem s_pow {i j : Int} (c : CPow i j) {n : Int} (e : i ^ j.toNat = n) (h : Q (.int n) H) : rI CPow (fun i j => .int (i ^ j.toNat)) (.int i) (.int j) H Q := ⟨i, j, rfl, rfl, c, by show Q (.int (i ^ j.toNat)) H; rw [e]; exact h⟩
theorem s_eqI {i j : Int} (h : Q (.bl (decide (i = j))) H) : rEqX K (.int i) (.int j) H Q := .inl ⟨rfl, by
  have e : decide (V.int i = V.int j) = decide (i = j) := by simp
  rw [e]; exact h⟩
theorem s_neI {i j : Int} (h : Q (.bl (!decide (i = j))) H) : rNeX K (.int i) (.int j) H Q := .inl ⟨rfl, by
  have e : decide (V.int i = V.int j) = decide (i = j) := by simp
  rw [e]; exact h⟩
theorem s_eqS {i j : Str} (h : Q (.bl (decide (i = j))) H) : rEqX K (.str i) (.str j) H Q := .inl ⟨rfl, by
  have e : decide (V.str i = V.str j) = decide (i = j) := by simp
  rw [e]; exact h⟩
theorem s_neS {i j : Str} (h : Q (.bl (!decide (i = j))) H) : rNeX K (.str i) (.str j) H Q := .inl ⟨rfl, by
  have e : decide (V.str i = V.str j) = decide (i = j) := by simp
  rw [e]; exact h⟩
theorem s_eqB {i j : Bool} (h : Q (.bl (decide (i = j))) H) : rEqX K (.bl i) (.bl j) H Q := .inl ⟨rfl, by
  have e : decide (V.bl i = V.bl j) = decide (i = j) := by simp
  rw [e]; exact h⟩
theorem s_neB {i j : Bool} (h : Q (.bl (!decide (i = j))) H) : rNeX K (.bl i) (.bl j) H Q := .inl ⟨rfl, by
  have e : decide (V.bl i = V.bl j) = decide (i = j) := by simp
  rw [e]; exact h⟩
theorem s_isN (h : Q (.bl (decide (v = .non))) H) : rIsX v .non H Q := .inl ⟨rfl, h⟩
theorem s_isNotN (h : Q (.bl (!decide (v = .non))) H) : rIsNotX v .non H Q := .inl ⟨rfl, h⟩
theorem s_isB {a b : Bool} (h : Q (.bl (decide (a = b))) H) : rIsX (.bl a) (.bl b) H Q := .inr ⟨a, b, rfl, rfl, h⟩
theorem s_isNotB {a b : Bool} (h : Q (.bl (!decide (a = b))) H) : rIsNotX (.bl a) (.bl b) H Q := .inr ⟨a, b, rfl, rfl, h⟩
theorem s_inT {p : Addr} {xs : List V} {b : Bool} {neg : Bool} (h1 : SqT K H p xs) (f1 : flatV v = true) (f2 : xs.all flatV = true) (e : (if neg then !inV v xs else inV v xs) = b) (h : Q (.bl b) H) : rInX K neg v (.ref p) H Q :=
  ⟨p, xs, rfl, .inr h1, f1, f2, by rw [e]; exact h⟩
theorem s_inL {p : Addr} {xs : List V} {b : Bool} {neg : Bool} (h1 : SqL K H p xs) (f1 : flatV v = true) (f2 : xs.all flatV = true) (e : (if neg then !inV v xs else inV v xs) = b) (h : Q (.bl b) H) : rInX K neg v (.ref p) H Q :=
  ⟨p, xs, rfl, .inl h1, f1, f2, by rw [e]; exact h⟩
theorem s_inT0 {p : Addr} {xs : List V} (h1 : SqT K H p xs) (f1 : flatV v = true) (f2 : xs.all flatV = true) (h : Q (.bl (inV v xs)) H) : rInX K false v (.ref p) H Q := ⟨p, xs, rfl, .inr h1, f1, f2, h⟩
theorem s_inL0 {p : Addr} {xs : List V} (h1 : SqL K H p xs) (f1 : flatV v = true) (f2 : xs.all flatV = true) (h : Q (.bl (inV v xs)) H) : rInX K false v (.ref p) H Q := ⟨p, xs, rfl, .inl h1, f1, f2, h⟩
theorem s_niT0 {p : Addr} {xs : List V} (h1 : SqT K H p xs) (f1 : flatV v = true) (f2 : xs.all flatV = true) (h : Q (.bl (!inV v xs)) H) : rInX K true v (.ref p) H Q := ⟨p, xs, rfl, .inr h1, f1, f2, h⟩
theorem s_niL0 {p : Addr} {xs : List V} (h1 : SqL K H p xs) (f1 : flatV v = true) (f2 : xs.all flatV = true) (h : Q (.bl (!inV v xs)) H) : rInX K true v (.ref p) H Q := ⟨p, xs, rfl, .inl h1, f1, f2, h⟩
theorem s_ixL {p : Addr} {xs : List V} {i : Int} (h1 : SqL K H p xs) (e : atI xs i = some v) (h : Q v H) : rIxX K (.ref p) (.int i) H Q := .inl ⟨p, xs, i, v, rfl, rfl, h1, e, h⟩
theorem s_ixT {p : Addr} {xs : List V} {i : Int} (h1 : SqT K H p xs) (e : atI xs i = some v) (h : Q v H) : rIxX K (.ref p) (.int i) H Q := .inr (.inl ⟨p, xs, i, v, rfl, rfl, h1, e, h⟩)
theorem s_ixS {z : Str} {i : Int} {c : Nat} (h1 : z.length ≤ sizeLine) (e : atI z.cps.toList i = some c) (h : Q (.str ⟨#[c]⟩) H) : rIxX K (.str z) (.int i) H Q := .inr (.inr ⟨z, i, c, rfl, rfl, h1, e, h⟩)
theorem atI_in {xs : List V} {i : Int} (h0 : 0 ≤ i) (h1 : i < xs.length) : atI xs i = some (xs.getD i.toNat .non) := Hsh.un (by simp (disch := k_dflt (
  refine Hsh.up ?_
  unfold atI ixN
  rw [if_pos h0, if_pos h1]
  show xs[i.toNat]? = _
  rw [List.getD_eq_getElem?_getD, List.getElem?_eq_getElem (by omega)]
  rfl
  )) only [↓Hsh.on])
theorem atI_ints {ns : List Int} {i : Int} (h0 : 0 ≤ i) (h1 : i < (ns.map V.int).length) : atI (ns.map V.int) i = some (.int (ns.getD i.toNat 0)) := Hsh.un (by simp (disch := k_dflt (
  refine Hsh.up ?_
  rw [List.length_map] at h1
  unfold atI ixN
  rw [if_pos h0, if_pos (by rw [List.length_map]; exact h1)]
  show (ns.map V.int)[i.toNat]? = _
  rw [List.getElem?_map, List.getD_eq_getElem?_getD, List.getElem?_eq_getElem (by omega)]
  rfl
  )) only [↓Hsh.on])
theorem atI_strs {zs : List Str} {i : Int} (h0 : 0 ≤ i) (h1 : i < (zs.map V.str).length) : atI (zs.map V.str) i = some (.str (zs.getD i.toNat "")) := Hsh.un (by simp (disch := k_dflt (
  refine Hsh.up ?_
  rw [List.length_map] at h1
  unfold atI ixN
  rw [if_pos h0, if_pos (by rw [List.length_map]; exact h1)]
  show (zs.map V.str)[i.toNat]? = _
  rw [List.getElem?_map, List.getD_eq_getElem?_getD, List.getElem?_eq_getElem (by omega)]
  rfl
  )) only [↓Hsh.on])
theorem atI_refs {rs : List Addr} {i : Int} (h0 : 0 ≤ i) (h1 : i < (rs.map V.ref).length) : atI (rs.map V.ref) i = some (.ref (rs.getD i.toNat 0)) := Hsh.un (by simp (disch := k_dflt (
  refine Hsh.up ?_
  rw [List.length_map] at h1
  unfold atI ixN
  rw [if_pos h0, if_pos (by rw [List.length_map]; exact h1)]
  show (rs.map V.ref)[i.toNat]? = _
  rw [List.getElem?_map, List.getD_eq_getElem?_getD, List.getElem?_eq_getElem (by omega)]
  rfl
  )) only [↓Hsh.on])
theorem getD_strs (l : List Str) (i : Nat) (h : i < l.length) : (l.map V.str).getD i .non = .str (l.getD i "") := by
  rw [List.getD_eq_getElem?_getD, List.getD_eq_getElem?_getD, List.getElem?_map, List.getElem?_eq_getElem h]
  rfl
theorem getD_ints (l : List Int) (i : Nat) (h : i < l.length) : (l.map V.int).getD i .non = .int (l.getD i 0) := by
  rw [List.getD_eq_getElem?_getD, List.getD_eq_getElem?_getD, List.getElem?_map, List.getElem?_eq_getElem h]
  rfl
theorem set_ints (l : List Int) (i : Nat) (a : Int) : (l.map V.int).set i (.int a) = (l.set i a).map V.int := by rw [List.map_set]
def toI : V → Int
  | .int i => i
  | _ => 0
def isI : V → Bool
  | .int _ => true
  | _ => false
theorem atI_ilit {xs : List V} {i : Int} (h0 : 0 ≤ i) (h1 : i < xs.length) (a : xs.all isI = true) : atI xs i = some (.int (toI (xs.getD i.toNat .non))) := Hsh.un (by simp (disch := k_dflt (
  refine Hsh.up ?_
  rw [atI_in h0 h1]
  have hm : xs.getD i.toNat .non ∈ xs := by
    rw [List.getD_eq_getElem?_getD, List.getElem?_eq_getElem (by omega)]
    exact List.getElem_mem _
  have := List.all_eq_true.mp a _ hm
  cases e : xs.getD i.toNat .non with
  | int j => rfl
  | _ => rw [e] at this; cases this
  )) only [↓Hsh.on])
theorem s_test (h : ta σ H fun x H' => ∃ k, x = .bl k ∧ R k H') : tTest ta σ H R := h
theorem s_tB (h : ta σ H fun x H' => ∃ k, x = .bl k ∧ R k H') : tB ta σ H R := h
theorem s_bl {b : Bool} {P : Bool → Prop} (h : P b) : ∃ k, V.bl b = .bl k ∧ P k := ⟨b, rfl, h⟩
theorem s_and (h : tc σ H fun c H1 => if c = true then td σ H1 R else R false H1) : tAnd tc td σ H R := h
theorem s_or (h : tc σ H fun c H1 => if c = true then R true H1 else td σ H1 R) : tOr tc td σ H R := h
theorem s_not (h : tc σ H fun c H1 => R (!c) H1) : tNot tc σ H R := h
theorem s_andV (h : ta σ H fun x H1 => ∃ c, x = .bl c ∧ if c = true then tb σ H1 Q else Q (.bl false) H1) : tAndV ta tb σ H Q := h
theorem s_orV (h : ta σ H fun x H1 => ∃ c, x = .bl c ∧ if c = true then Q (.bl true) H1 else tb σ H1 Q) : tOrV ta tb σ H Q := h
theorem s_notV (h : ta σ H fun x H1 => ∃ c, x = .bl c ∧ Q (.bl (!c)) H1) : tNotV ta σ H Q := h
theorem s_if (h : tc σ H fun c H1 => if c = true then ta σ H1 Q else tb σ H1 Q) : tIf tc ta tb σ H Q := h
theorem s_chain {r r' : R2} {te : TE} (h : ta σ H fun x H1 => tb σ H1 fun y H2 => r x y H2 fun z H3 => ∃ k, z = .bl k ∧ (if k = true then te σ H3 fun w' H4 => r' y w' H4 Q else Q (.bl false) H3)) : tChain r r' ta tb te σ H Q := h
theorem s_nil {S : List V → Hp → Prop} (h : S [] H) : tNil σ H S := h
theorem s_cons {S : List V → Hp → Prop} {tr : TA} (h : ta σ H fun x H1 => tr σ H1 fun xs H2 => S (x :: xs) H2) : tCons ta tr σ H S := h
theorem s_tup {tr : TA} (h : tr σ H fun xs H1 => newO (.tup xs) xs.length H1 Q) : tTup tr σ H Q := h
theorem s_lst {tr : TA} (h : tr σ H fun xs H1 => newO (.lst xs) xs.length H1 Q) : tLst tr σ H Q := h
theorem s_rep {l : Addr} {k : Int} {xs ys : List V} (h1 : H l = some (.lst xs)) (c : -(2 ^ 63) ≤ k ∧ k < 2 ^ 63) (c2 : xs.length * k.toNat ≤ sizeLine) (e : (List.replicate k.toNat xs).flatten = ys) (h : newO (.lst ys) 0 H Q) : rMulX K (.ref l) (.int k) H Q :=
  .inr (.inr (.inl ⟨l, k, xs, rfl, rfl, h1, c.1, c.2, c2, by rw [e]; exact h.2⟩))
theorem s_rep1 {l : Addr} {k : Int} {x : V} {n : Nat} (h1 : H l = some (.lst [x])) (c : 0 ≤ k ∧ k ≤ 16777216) (e : k.toNat = n) (h : newO (.lst (List.replicate n x)) 0 H Q) : rMulX K (.ref l) (.int k) H Q := Hsh.un (by simp (disch := k_dflt (
  refine Hsh.up ?_
  refine .inr (.inr (.inl ⟨l, k, [x], rfl, rfl, h1, by omega, by omega, ?_, ?_⟩))
  · rw [sizeLine_eq, List.length_singleton]
    omega
  · have q : (List.replicate k.toNat [x]).flatten = List.replicate n x := by
      rw [e]
      simp
    rw [q]
    exact h.2
  )) only [↓Hsh.on])
theorem s_cat {l b : Addr} {xs zs ys : List V} (h1 : H l = some (.lst xs)) (h2 : H b = some (.lst zs)) (c : xs.length + zs.length ≤ sizeLine) (e : xs ++ zs = ys) (h : newO (.lst ys) 0 H Q) : rAddX K (.ref l) (.ref b) H Q :=
  .inr (.inr (.inl ⟨l, b, xs, zs, rfl, rfl, h1, h2, c, by rw [e]; exact h.2⟩))
theorem s_listO {p : Addr} {ys : List V} (h1 : SqL K H p ys) (h : newO (.lst ys) 0 H Q) : rListX K [.ref p] H Q := ⟨p, ys, rfl, .inl h1, h.2⟩
theorem s_listT {p : Addr} {ys : List V} (h1 : SqT K H p ys) (h : newO (.lst ys) 0 H Q) : rListX K [.ref p] H Q := ⟨p, ys, rfl, .inr h1, h.2⟩
theorem s_tupL {p : Addr} {ys : List V} (h1 : SqL K H p ys) (h : newO (.tup ys) 0 H Q) : rTupX K [.ref p] H Q := ⟨p, ys, rfl, .inl ⟨h1, h.2⟩⟩
theorem s_tupT {p : Addr} {ys : List V} (h1 : SqT K H p ys) (h : Q (.ref p) H) : rTupX K [.ref p] H Q := ⟨p, ys, rfl, .inr ⟨h1, h⟩⟩
theorem s_slL {p : Addr} {xs ys : List V} {lo hi : Option Int} (h1 : SqL K H p xs) (e : cutV xs lo hi = ys) (h : newO (.lst ys) 0 H Q) : rSlX K (.ref p) lo hi H Q := .inl ⟨p, xs, rfl, h1, by rw [e]; exact h.2⟩
theorem s_CB {r : List V → Hp → VK → Prop} {tr : TA} (h : tr σ H fun vs H1 => r vs H1 Q) : tCB r tr σ H Q := h
theorem s_call {sp : Sp} {E : XK} {tr : TA} (h : tr σ H fun vs H1 => sp (vs ++ []) H1 Q E) : tCall sp [] E tr σ H Q := h
theorem s_int {i : Int} (h : Q (.int i) H) : rInt [.int i] H Q := .inl ⟨i, rfl, h⟩
theorem s_intB {b : Bool} (h : if b = true then Q (.int 1) H else Q (.int 0) H) : rInt [.bl b] H Q := .inr ⟨b, rfl, by cases b <;> exact h⟩
theorem s_abs {i : Int} (h : Q (.int (if i < 0 then -i else i)) H) : rAbs [.int i] H Q := ⟨i, rfl, h⟩
theorem s_max2 {i j : Int} (h : Q (.int (if j > i then j else i)) H) : rMax2 [.int i, .int j] H Q := ⟨i, j, rfl, h⟩
theorem s_min2 {i j : Int} (h : Q (.int (if j < i then j else i)) H) : rMin2 [.int i, .int j] H Q := ⟨i, j, rfl, h⟩
theorem s_lenL {p : Addr} {xs : List V} (h1 : SqL K H p xs) (h : Q (.int (xs.length : Nat)) H) : rLenX K [.ref p] H Q := ⟨_, _, rfl, .inl ⟨xs, h1, rfl⟩, h⟩
theorem s_lenT {p : Addr} {xs : List V} (h1 : SqT K H p xs) (h : Q (.int (xs.length : Nat)) H) : rLenX K [.ref p] H Q := ⟨_, _, rfl, .inr ⟨xs, h1, rfl⟩, h⟩
theorem s_sum {p : Addr} {ns : List Int} (h1 : SqL K H p (ns.map V.int)) (h : Q (.int ns.sum) H) : rSum K [.ref p] H Q := ⟨p, ns, rfl, h1, h⟩
theorem s_all {p : Addr} {bs : List Bool} (h1 : SqL K H p (bs.map V.bl)) (h : Q (.bl (bs.all id)) H) : rAll K [.ref p] H Q := ⟨p, bs, rfl, h1, h⟩
theorem s_any {p : Addr} {bs : List Bool} (h1 : SqL K H p (bs.map V.bl)) (h : Q (.bl (bs.any id)) H) : rAny K [.ref p] H Q := ⟨p, bs, rfl, h1, h⟩
theorem s_maxL2 {p : Addr} {i j : Int} (h1 : SqL K H p [.int i, .int j]) (h : Q (.int (if i ≤ j then j else i)) H) : rMax K [.ref p] H Q := ⟨p, [i, j], rfl, h1, Nat.succ_pos _, fun m hm hb => by
  have e : m = if i ≤ j then j else i := by
    have h1 := hb i (by simp)
    have h2 := hb j (by simp)
    rcases List.mem_cons.mp hm with rfl | hm
    · split <;> omega
    · rw [List.mem_singleton.mp hm] at h1 h2 ⊢
      split <;> omega
  rw [e]; exact h⟩
theorem s_minL2 {p : Addr} {i j : Int} (h1 : SqL K H p [.int i, .int j]) (h : Q (.int (if i ≤ j then i else j)) H) : rMin K [.ref p] H Q := ⟨p, [i, j], rfl, h1, Nat.succ_pos _, fun m hm hb => by
  have e : m = if i ≤ j then i else j := by
    have h1 := hb i (by simp)
    have h2 := hb j (by simp)
    rcases List.mem_cons.mp hm with rfl | hm
    · split <;> omega
    · rw [List.mem_singleton.mp hm] at h1 h2 ⊢
      split <;> omega
  rw [e]; exact h⟩
theorem s_isi {c : V} {ty un : Value} {b : Bool} (k : ClsV c un) (h1 : TyX K H v ty) (e : PySem.W.kitOne K ty un = some b) (h : Q (.bl b) H) : rIsiX K [v, c] H Q := .inl ⟨v, c, ty, un, b, rfl, k, h1, e, h⟩
theorem s_isT {a b : String} (h1 : TyX K H v (.type a)) (e : kitB a b = some true) (h : Q (.bl true) H) : rIsiX K [v, .ty b] H Q := .inl ⟨v, _, _, _, _, rfl, .ty b, h1, kit_ty e, h⟩
theorem s_isF {a b : String} (h1 : TyX K H v (.type a)) (e : kitB a b = some false) (h : Q (.bl false) H) : rIsiX K [v, .ty b] H Q := .inl ⟨v, _, _, _, _, rfl, .ty b, h1, kit_ty e, h⟩
theorem s_sl {te : TE} {tl th : TO} {r : V → Option Int → Option Int → Hp → VK → Prop} (h : te σ H fun x H1 => tl σ H1 fun l H2 => th σ H2 fun u H3 => r x l u H3 Q) : tSl r te tl th σ H Q := h
theorem s_part {te : TE} {P : Option Int → Hp → Prop} (h : te σ H fun x H1 => ∃ i, x = .int i ∧ P (some i) H1) : tPart te σ H P := h
theorem s_partI {i : Int} {P : Int → Prop} (h : P i) : ∃ j, V.int i = .int j ∧ P j := ⟨i, rfl, h⟩
theorem s_noPart {P : Option Int → Hp → Prop} (h : P none H) : tNoPart σ H P := h
-- statements
variable {n b c : L2.St → Hp → Prop} {r : VK}
theorem s_seq (h : t ⟨u ⟨n, r, b, c⟩, r, b, c⟩ σ H) : tSeq t u ⟨n, r, b, c⟩ σ H := h
theorem s_next (h : n σ H) : tNext ⟨n, r, b, c⟩ σ H := h
theorem s_break (h : b σ H) : tBreak ⟨n, r, b, c⟩ σ H := h
theorem s_cont (h : c σ H) : tCont ⟨n, r, b, c⟩ σ H := h
theorem s_drop (h : ta σ H fun _ H1 => n σ H1) : tDrop ta ⟨n, r, b, c⟩ σ H := h
theorem s_ret (h : ta σ H r) : tRet ta ⟨n, r, b, c⟩ σ H := h
theorem s_retN (h : r .non H) : tRetN ⟨n, r, b, c⟩ σ H := h
theorem s_ifS (h : tc σ H fun q H1 => if q = true then t ⟨n, r, b, c⟩ σ H1 else u ⟨n, r, b, c⟩ σ H1) : tIfS tc t u ⟨n, r, b, c⟩ σ H := h
theorem s_asg {g : TG} (h : ta σ H fun x H1 => g x σ H1 n) : tAsg ta g ⟨n, r, b, c⟩ σ H := h
theorem s_gname {i : Nat} {S : L2.St → Hp → Prop} (e : σ.set i (some v) = σ') (h : S σ' H) : gName i v σ H S := by
  show S (σ.set i (some v)) H
  rw [e]; exact h
theorem s_gsub {S : L2.St → Hp → Prop} {ts : TSet} (h : ta σ H fun o H1 => tb σ H1 fun i H2 => ts o i v H2 fun H3 => S σ H3) : gSub ta tb ts v σ H S := h
theorem s_fld {f : Str} (h : ta σ H fun x H1 => fldO K f x H1 Q) : tFld K ta f σ H Q := h
theorem s_sfld {f : Str} (h : tb σ H fun y H1 => ta σ H1 fun x H2 => sfldO K f y x H2 fun H3 => n σ H3) : sFld K ta tb f ⟨n, r, b, c⟩ σ H := h
end
/-- an attribute as a target -/
def gAttr (K : PySem.W.Frag) (to : TE) (f : Str) : TG := fun v σ H S => to σ H fun x H1 => sfldO K f v x H1 fun H2 => S σ H2
theorem pg_attr {X : Cx} {o : Expr} {f : Str} {pos : Pos} {to : TE} (ho : PE X o to) : PG X (.Attribute o f pos) (gAttr X.K to f) := Hsh.un (by simp (disch := k_dflt (
  refine Hsh.up ?_
  refine ⟨fun pins s σ H v u S I r h => ?_⟩
  rw [assign_Attribute]
  refine wpAny_bind (wpAny_holding (thn (ho.run pins s σ H _ I h) fun ov s1 ⟨x, H1, I1, r1, q1⟩ => ?_))
  obtain ⟨a, C, dx, fs, rfl, e, c, l, hl, q⟩ := q1
  obtain rfl : ov = .ref a := r1
  exact wpAny_bind (wpAny_standAt (wpAny_bind (wpAny_holding (setattr_ok I1 e c l hl r fun s2 I2 => wpAny_release ⟨σ, _, I2, q⟩))))
  )) only [↓Hsh.on])
/-- a built-in type's method, behind its object -/
def bm0O (K : PySem.W.Frag) (T : String) (r : V → List V → Hp → VK → Prop) (x : V) (H : Hp) (Q : VK) : Prop := tyV K T x H ∧ r x [] H Q
def bmO (K : PySem.W.Frag) (T : String) (r : V → List V → Hp → VK → Prop) (t : TA) (σ : L2.St) (x : V) (H : Hp) (Q : VK) : Prop := tyV K T x H ∧ t σ H fun xs H2 => r x xs H2 Q
section
variable {σ : L2.St} {H : Hp} {K : PySem.W.Frag} {to : TE} {Q : VK} {S : L2.St → Hp → Prop} {t : TA} {ts : TGs} {tg : TG} {v : V}
theorem s_gattr {f : Str} (h : to σ H fun x H1 => sfldO K f v x H1 fun H2 => S σ H2) : gAttr K to f v σ H S := h
theorem s_gtup {n : Nat} {a : Addr} {xs : List V} (h : SqT K H a xs) (l : xs.length = n) (q : ts xs σ H S) : gTup K n ts (.ref a) σ H S := ⟨a, xs, rfl, h, l, q⟩
theorem s_gcons {r : List V} (h : tg v σ H fun σ' H' => ts r σ' H' S) : gCons tg ts (v :: r) σ H S := ⟨v, r, rfl, h⟩
theorem s_gnil (h : S σ H) : gNil [] σ H S := ⟨rfl, h⟩
theorem s_bm0 {T : String} {r : V → List V → Hp → VK → Prop} (h : to σ H fun x H1 => bm0O K T r x H1 Q) : tBM0 K T r to σ H Q := h
theorem s_bm {T : String} {r : V → List V → Hp → VK → Prop} (h : to σ H fun x H1 => bmO K T r t σ x H1 Q) : tBM K T r to t σ H Q := h
theorem s_bmL {r : V → List V → Hp → VK → Prop} {l : Addr} {xs : List V} (h : SqL K H l xs) (q : t σ H fun xs H2 => r (.ref l) xs H2 Q) : bmO K "list" r t σ (.ref l) H Q := ⟨.inl ⟨rfl, _, h⟩, q⟩
theorem s_bmT {T : String} {r : V → List V → Hp → VK → Prop} {a : Addr} (h : ∃ o, K.lookup a = some o ∧ o.cls = .type "tuple" ∧ o.dict = none) (e : T = "tuple") (q : t σ H fun xs H2 => r (.ref a) xs H2 Q) : bmO K T r t σ (.ref a) H Q := ⟨.inr (.inl ⟨e, h⟩), q⟩
theorem s_bmS {r : V → List V → Hp → VK → Prop} {z : Str} (q : t σ H fun xs H2 => r (.str z) xs H2 Q) : bmO K "str" r t σ (.str z) H Q := ⟨rfl, q⟩
theorem s_methO {C a dx : Addr} {m : Str} {sp : Sp} {E : XK} {fs : List (Str × V)} (h : H a = some (.ins C dx fs)) (l : fs.lookup m = none) (q : t σ H fun vs H2 => sp (.ref a :: (vs ++ [])) H2 Q E) : methO C m sp E t σ (.ref a) H Q := ⟨a, dx, fs, rfl, h, l, q⟩
theorem s_propO {C a dx : Addr} {sp : Sp} {E : XK} {fs : List (Str × V)} (h : H a = some (.ins C dx fs)) (q : sp ([.ref a] ++ []) H Q E) : propO C sp E (.ref a) H Q := ⟨a, dx, fs, rfl, h, q⟩
theorem pf_set {f : Str} {fs fs' : List (Str × V)} (i : Nat) (h : putF f v fs = fs.set i (f, v)) (e : fs.set i (f, v) = fs') : putF f v fs = fs' := h.trans e
theorem pf_new {f : Str} {fs fs' : List (Str × V)} (h : putF f v fs = fs ++ [(f, v)]) (e : fs ++ [(f, v)] = fs') : putF f v fs = fs' := h.trans e
end
/-! ### what is done to the ledger -/
section
variable {A : List Addr} {H0 H : Hp} {L L' : List Cell} {Q : VK} {P : Hp → Prop} {v : V}
theorem h_new {o : HO} {n : Nat} (S : SH A H0 H L) (c : n ≤ sizeLine) (h : ∀ p H', SH A H0 H' ((p, o) :: L) → H p = none → Q (.ref p) H') : newO o n H Q := ⟨c, fun p hp => h p _ (S.new o hp) hp⟩
theorem h_fld {K : PySem.W.Frag} {a C dx : Addr} {fs : List (Str × V)} {f : Str} (S : SH A H0 H L) (h1 : H a = some (.ins C dx fs)) (cl : Cls K C) (na : NoAttr K C f) (e : fs.lookup f = some v) (h : Q v H) : fldO K f (.ref a) H Q := ⟨a, C, dx, fs, v, rfl, h1, cl, na, e, h⟩
theorem h_sfld {i : Nat} {K : PySem.W.Frag} {a C dx : Addr} {fs fs' : List (Str × V)} {f : Str} (S : SH A H0 H L) (h1 : L[i]? = some (a, .ins C dx fs)) (cl : Cls K C) (na : NoAttr K C f) (l : fs.length < 1000) (e : putF f v fs = fs') (eL : L.set i (a, .ins C dx fs') = L')
    (h : ∀ H', SH A H0 H' L' → P H') : sfldO K f v (.ref a) H P := ⟨a, C, dx, fs, rfl, S.get i h1, cl, na, l, by rw [e]; exact h _ (eL ▸ S.set i h1 rfl _)⟩
theorem h_upd {i : Nat} {a : Addr} {o o' : HO} (S : SH A H0 H L) (e : L[i]? = some (a, o)) (im : Imm o = false) (eL : L.set i (a, o') = L') (h : ∀ H', SH A H0 H' L' → P H') : P (upd H a o') := h _ (eL ▸ S.set i e im o')
theorem h_setL {i : Nat} {a : Addr} {xs ys : List V} {k : Int} {j : Nat} (S : SH A H0 H L) (e : L[i]? = some (a, .lst xs)) (ej : ixN xs.length k = some j) (ey : xs.set j v = ys) (eL : L.set i (a, .lst ys) = L')
    (h : ∀ H', SH A H0 H' L' → P H') : rSetL (.ref a) (.int k) v H P := ⟨a, xs, k, j, rfl, rfl, S.get i e, ej, by rw [ey]; exact h _ (eL ▸ S.set i e rfl _)⟩
theorem h_append {i : Nat} {a : Addr} {xs ys : List V} (S : SH A H0 H L) (e : L[i]? = some (a, .lst xs)) (c : xs.length < sizeLine) (ey : xs ++ [v] = ys) (eL : L.set i (a, .lst ys) = L')
    (h : ∀ H', SH A H0 H' L' → Q .non H') : rAppend (.ref a) [v] H Q := ⟨a, xs, v, rfl, rfl, S.get i e, c, by rw [ey]; exact h _ (eL ▸ S.set i e rfl _)⟩
theorem h_pop {i : Nat} {K : PySem.W.Frag} {a : Addr} {xs ys : List V} (S : SH A H0 H L) (e : L[i]? = some (a, .lst xs)) (ev : xs[xs.length - 1]? = some v) (ey : xs.dropLast = ys) (eL : L.set i (a, .lst ys) = L')
    (h : ∀ H', SH A H0 H' L' → Q v H') : bm0O K "list" rPop (.ref a) H Q := ⟨.inl ⟨rfl, _, SqL.of (S.get i e)⟩, a, xs, v, rfl, rfl, S.get i e, ev, by rw [ey]; exact h _ (eL ▸ S.set i e rfl _)⟩
theorem h_make {C : Addr} {sp : Sp} {E : XK} {vs : List V} (S : SH A H0 H L) (h : ∀ x dx H1, SH A H0 H1 ((x, .ins C dx []) :: L) → sp (.ref x :: (vs ++ [])) H1 (fun v H2 => v = .non ∧ Q (.ref x) H2) E) : makeO C sp E vs H Q := fun x dx hx hd ne => by
  have S1 := S.new (.own x) hd
  have S2 := S1.new (p := x) (.ins C dx []) (by rw [upd_ne (Ne.symm ne)]; exact hx)
  exact h x dx _ (S2.sub (List.Sublist.cons_cons _ (List.sublist_cons_self _ _)))
theorem atI_lit {xs : List V} {i : Int} {w : V} (k : Nat) (e : i = (k : Int)) (h : xs[k]? = some w) : atI xs i = some w := by
  subst e
  exact atI_nat h
theorem last_snoc (l : List V) (v : V) : (l ++ [v])[(l ++ [v]).length - 1]? = some v := by simp
theorem ixN_in {n : Nat} {i : Int} (h0 : 0 ≤ i) (h1 : i < n) : ixN n i = some i.toNat := by
  unfold ixN
  rw [if_pos h0, if_pos h1]
theorem ixN_lit {n : Nat} {i : Int} (k : Nat) (e : i = (k : Int)) (h : k < n) : ixN n i = some k := Hsh.un (by simp (disch := k_dflt (
  refine Hsh.up ?_
  subst e
  rw [ixN_in (by omega) (by omega)]
  rfl
  )) only [↓Hsh.on])
end
/-! ### loops -/
def loopI (J : It) (g : TG) (tb : TS) (D : Ends) (σ : L2.St) (H : Hp) : Prop := ∃ W : Nat → Nat → L2.St → Hp → Prop, (∃ m, W 0 m σ H) ∧ ∀ i m σ H, W i m σ H →
  (J.stop i H ∧ D.nx σ H) ∨ (J.go i H ∧ ∃ N : L2.St → Hp → Prop, (∀ σ' H', N σ' H' → ∃ m', m' < m ∧ W (i + 1) m' σ' H') ∧ ∀ x H', J.yld i H x H' → g x σ H' fun σ2 H2 => tb { D with nx := N, ct := N, bk := D.nx } σ2 H2)
def forR1 (vs : List V) (g : TG) (tb : TS) (D : Ends) (σ : L2.St) (H : Hp) : Prop := ∃ j : Int, vs = [.int j] ∧ -(2 ^ 62) ≤ j ∧ j < 2 ^ 62 ∧ loopI (Itr 0 j.toNat) g tb D σ H
def forR2 (vs : List V) (g : TG) (tb : TS) (D : Ends) (σ : L2.St) (H : Hp) : Prop := ∃ i j : Int, vs = [.int i, .int j] ∧ (-(2 ^ 62) ≤ i ∧ i < 2 ^ 62 ∧ -(2 ^ 62) ≤ j ∧ j < 2 ^ 62) ∧ loopI (Itr i (j - i).toNat) g tb D σ H
def forL (K : PySem.W.Frag) (v : V) (g : TG) (tb : TS) (D : Ends) (σ : L2.St) (H : Hp) : Prop := ∃ a, v = .ref a ∧ (∃ xs, SqL K H a xs) ∧ loopI (Itl K a) g tb D σ H
def forT (K : PySem.W.Frag) (v : V) (g : TG) (tb : TS) (D : Ends) (σ : L2.St) (H : Hp) : Prop := ∃ a, v = .ref a ∧ (∃ xs, SqT K H a xs) ∧ loopI (Itt K a) g tb D σ H
section
variable {σ : L2.St} {H : Hp} {K : PySem.W.Frag} {g : TG} {tb : TS} {ta : TA} {te : TE} {D : Ends} {n b c : L2.St → Hp → Prop} {r : VK}
theorem s_forR1 (h : ta σ H fun vs H1 => forR1 vs g tb D σ H1) : tFor (iRng1 ta) g tb D σ H := h
theorem s_forR2 (h : ta σ H fun vs H1 => forR2 vs g tb D σ H1) : tFor (iRng2 ta) g tb D σ H := h
theorem s_forL (h : te σ H fun v H1 => forL K v g tb D σ H1) : tFor (iList K te) g tb D σ H := h
theorem s_forT (h : te σ H fun v H1 => forT K v g tb D σ H1) : tFor (iTup K te) g tb D σ H := h
/-- for i in range(j), an invariant over the turn -/
theorem u_forR1 {j : Int} (Pv : Nat → L2.St → Hp → Prop) (lo : -(2 ^ 62) ≤ j) (hi : j < 2 ^ 62) (h0 : Pv 0 σ H)
    (hs : ∀ (i : Nat) σ H, (i : Int) < j → Pv i σ H → g (.int i) σ H fun σ2 H2 => tb ⟨Pv (i + 1), r, n, Pv (i + 1)⟩ σ2 H2) (hd : ∀ σ H, Pv j.toNat σ H → n σ H) : forR1 [.int j] g tb ⟨n, r, b, c⟩ σ H := Hsh.un (by simp (disch := k_dflt (
  refine Hsh.up ?_
  refine ⟨j, rfl, lo, hi, ?_⟩
  refine for_range Pv h0 (fun i σ H hi p => ?_) hd
  rw [show (0 : Int) + (i : Int) = (i : Int) by omega]
  exact hs i σ H (by omega) p
  )) only [↓Hsh.on])
theorem u_forR2 {l j : Int} (Pv : Nat → L2.St → Hp → Prop) (hb : -(2 ^ 62) ≤ l ∧ l < 2 ^ 62 ∧ -(2 ^ 62) ≤ j ∧ j < 2 ^ 62) (h0 : Pv 0 σ H)
    (hs : ∀ (i : Nat) σ H, l + (i : Int) < j → Pv i σ H → g (.int (l + i)) σ H fun σ2 H2 => tb ⟨Pv (i + 1), r, n, Pv (i + 1)⟩ σ2 H2) (hd : ∀ σ H, Pv (j - l).toNat σ H → n σ H) : forR2 [.int l, .int j] g tb ⟨n, r, b, c⟩ σ H := Hsh.un (by simp (disch := k_dflt (
  refine Hsh.up ?_
  refine ⟨l, j, rfl, hb, ?_⟩
  refine for_range Pv h0 (fun i σ H hi p => ?_) hd
  exact hs i σ H (by omega) p
  )) only [↓Hsh.on])
/-- for x in a list that stays as it is -/
theorem u_forL {a : Addr} {xs : List V} (Pv : Nat → L2.St → Hp → Prop) (h : SqL K H a xs) (h0 : Pv 0 σ H) (hl : ∀ i σ H, i ≤ xs.length → Pv i σ H → SqL K H a xs)
    (hs : ∀ (i : Nat) (x : V) σ H, xs[i]? = some x → Pv i σ H → g x σ H fun σ2 H2 => tb ⟨Pv (i + 1), r, n, Pv (i + 1)⟩ σ2 H2) (hd : ∀ σ H, Pv xs.length σ H → n σ H) : forL K (.ref a) g tb ⟨n, r, b, c⟩ σ H :=
  ⟨a, rfl, ⟨xs, h⟩, for_list Pv h0 hl (fun i x σ H e p => hs i x σ H e p) hd⟩
end
/-! ### comprehensions -/
/-! within a comprehension's block: the fragment said by its name -/
theorem OpR.k {X : Cx} {K : PySem.W.Frag} {f : Value → Value → Sem Value} {r : PySem.W.Frag → R2} (h : OpR X f (r X.K)) (e : X.K = K) : OpR X f (r K) := e ▸ h
theorem IxR.k {X : Cx} {K : PySem.W.Frag} {r : PySem.W.Frag → R2} (h : IxR X (r X.K)) (e : X.K = K) : IxR X (r K) := e ▸ h
theorem SlR.k {X : Cx} {K : PySem.W.Frag} {r : PySem.W.Frag → V → Option Int → Option Int → Hp → VK → Prop} (h : SlR X (r X.K)) (e : X.K = K) : SlR X (r K) := e ▸ h
theorem CallR.k {X : Cx} {K : PySem.W.Frag} {f : Value} {r : PySem.W.Frag → List V → Hp → VK → Prop} (h : CallR X f (r X.K)) (e : X.K = K) : CallR X f (r K) := e ▸ h
theorem PE.k {X : Cx} {K : PySem.W.Frag} {e : Expr} {t : PySem.W.Frag → TE} (h : PE X e (t X.K)) (q : X.K = K) : PE X e (t K) := q ▸ h
def lcR1 (i : Nat) (vs : List V) (te : TE) (σ : L2.St) (H : Hp) (Q : VK) : Prop := ∃ j : Int, vs = [.int j] ∧ -(2 ^ 62) ≤ j ∧ j < 2 ^ 62 ∧ tLc (fun _ H k => k (Itr 0 j.toNat) H) (gName i) tYes te [i] σ H Q
def lcL (K : PySem.W.Frag) (i : Nat) (v : V) (te : TE) (σ : L2.St) (H : Hp) (Q : VK) : Prop := ∃ a, v = .ref a ∧ (∃ xs, SqL K H a xs) ∧ tLc (fun _ H k => k (Itl K a) H) (gName i) tYes te [i] σ H Q
/-- an item is put behind the made ones -/
def lcEnd (D : Addr) (P : Hp → Prop) : VK := fun y H => ∃ acc, H D = some (.lst acc) ∧ acc.length < sizeLine ∧ P (upd H D (.lst (acc ++ [y])))
theorem wipe_one (σ : L2.St) (i : Nat) (x : Option V) : wipe ((wipe σ [i]).set i x) [i] = wipe σ [i] := by
  show ((σ.set i none).set i x).set i none = σ.set i none
  rw [List.set_set, List.set_set]
section
variable {A : List Addr} {H0 H : Hp} {L L' : List Cell} {Q : VK} {P : Hp → Prop} {v : V} {σ : L2.St} {K : PySem.W.Frag} {te : TE} {ta : TA} {tb : TE}
theorem s_lcR1 {n : Str} {i : Nat} (h : ta σ H fun vs H1 => lcR1 i vs te σ H1 Q) : tLc (iRng1 ta) (gName i) tYes te ([(n, i)].map (·.2)) σ H Q := h
theorem s_lcL {n : Str} {i : Nat} (h : tb σ H fun v H1 => lcL K i v te σ H1 Q) : tLc (iList K tb) (gName i) tYes te ([(n, i)].map (·.2)) σ H Q := h
theorem h_lcEnd {i : Nat} {a : Addr} {xs ys : List V} (S : SH A H0 H L) (e : L[i]? = some (a, .lst xs)) (c : xs.length < sizeLine) (ey : xs ++ [v] = ys) (eL : L.set i (a, .lst ys) = L')
    (h : ∀ H', SH A H0 H' L' → P H') : lcEnd a P v H := ⟨xs, S.get i e, c, by rw [ey]; exact h _ (eL ▸ S.set i e rfl _)⟩
/-- a comprehension over a list, any target, any test -/
def lcLG (K : PySem.W.Frag) (vs : List Nat) (g : TG) (tt : TT) (v : V) (te : TE) (σ : L2.St) (H : Hp) (Q : VK) : Prop := ∃ a, v = .ref a ∧ (∃ xs, SqL K H a xs) ∧ tLc (fun _ H k => k (Itl K a) H) g tt te vs σ H Q
theorem s_lcLG {g : TG} {tt : TT} {vs : List Nat} (h : tb σ H fun v H1 => lcLG K vs g tt v te σ H1 Q) : tLc (iList K tb) g tt te vs σ H Q := h
theorem u_lcLG {g : TG} {tt : TT} {vs : List Nat} {a : Addr} {xs : List V} (hS : SH A H0 H L) (Pv : Addr → Nat → Hp → Prop) (h : SqL K H a xs) (h0 : ∀ D H', SH A H0 H' ((D, .lst []) :: L) → Pv D 0 H') (hl : ∀ D k H, k ≤ xs.length → Pv D k H → SqL K H a xs)
    (hs : ∀ D (k : Nat) x H, xs[k]? = some x → Pv D k H → g x (wipe σ vs) H fun σ2 H2 => wipe σ2 vs = wipe σ vs ∧ tt σ2 H2 fun b H3 => if b = true then te σ2 H3 (lcEnd D (Pv D (k + 1))) else Pv D (k + 1) H3) (hd : ∀ D H, Pv D xs.length H → Q (.ref D) H) : lcLG K vs g tt (.ref a) te σ H Q :=
  ⟨a, rfl, ⟨xs, h⟩, fun D hD => lc_list (Pv D) (h0 D _ (hS.new _ hD)) (hl D) (fun k x H hk p => hs D k x H hk p) (fun H p => hd D H p)⟩
theorem s_wipe {σ2 : L2.St} {vs : List Nat} {P : Prop} (e : wipe σ2 vs = wipe σ vs) (h : P) : wipe σ2 vs = wipe σ vs ∧ P := ⟨e, h⟩
theorem s_tYes {P : Bool → Hp → Prop} (h : P true H) : tYes σ H P := h
theorem u_lcR1 {i : Nat} {j : Int} (hS : SH A H0 H L) (Pv : Addr → Nat → Hp → Prop) (lo : -(2 ^ 62) ≤ j) (hi : j < 2 ^ 62) (h0 : ∀ D H', SH A H0 H' ((D, .lst []) :: L) → Pv D 0 H')
    (hs : ∀ D (k : Nat) H, (k : Int) < j → Pv D k H → te (σ.set i (some (.int k))) H (lcEnd D (Pv D (k + 1)))) (hd : ∀ D H, Pv D j.toNat H → Q (.ref D) H) : lcR1 i [.int j] te σ H Q := Hsh.un (by simp (disch := k_dflt (
  refine Hsh.up ?_
  refine ⟨j, rfl, lo, hi, fun D hD => ?_⟩
  refine lc_range (Pv D) (h0 D _ (hS.new _ hD)) (fun k H hk p => ?_) (fun H p => hd D H p)
  rw [show (0 : Int) + (k : Int) = (k : Int) by omega]
  have h := hs D k H (by omega) p
  refine ⟨wipe_one _ _ _, ?_⟩
  show if true = true then te ((σ.set i none).set i _) H (lcEnd D (Pv D (k + 1))) else Pv D (k + 1) H
  rw [if_pos rfl, List.set_set]
  exact h
  )) only [↓Hsh.on])
theorem u_lcL {i : Nat} {a : Addr} {xs : List V} (hS : SH A H0 H L) (Pv : Addr → Nat → Hp → Prop) (h : SqL K H a xs) (h0 : ∀ D H', SH A H0 H' ((D, .lst []) :: L) → Pv D 0 H') (hl : ∀ D k H, k ≤ xs.length → Pv D k H → SqL K H a xs)
    (hs : ∀ D (k : Nat) x H, xs[k]? = some x → Pv D k H → te (σ.set i (some x)) H (lcEnd D (Pv D (k + 1)))) (hd : ∀ D H, Pv D xs.length H → Q (.ref D) H) : lcL K i (.ref a) te σ H Q := Hsh.un (by simp (disch := k_dflt (
  refine Hsh.up ?_
  refine ⟨a, rfl, ⟨xs, h⟩, fun D hD => ?_⟩
  refine lc_list (Pv D) (h0 D _ (hS.new _ hD)) (hl D) (fun k x H hk p => ?_) (fun H p => hd D H p)
  have h := hs D k x H hk p
  refine ⟨wipe_one _ _ _, ?_⟩
  show if true = true then te ((σ.set i none).set i _) H (lcEnd D (Pv D (k + 1))) else Pv D (k + 1) H
  rw [if_pos rfl, List.set_set]
  exact h
  )) only [↓Hsh.on])
end
/-! ### a word between a statement and the rest -/
def cutG (t u : TS) : TS := fun E σ H => ∃ M : L2.St → Hp → Prop, (∀ σ2 H2, M σ2 H2 → u E σ2 H2) ∧ t ⟨M, E.rt, E.bk, E.ct⟩ σ H
theorem pss_cutG {X : Cx} {st : Stmt} {sts : List Stmt} {t u : TS} (a : PS X st t) (b : PSs X sts u) : PSs X (st :: sts) (cutG t u) :=
  ⟨fun pins s σ H E J ⟨M, hu, ht⟩ => wpAny_execs_cons (thn (a.run pins s σ H ⟨M, E.rt, E.bk, E.ct⟩ J ht) fun f s1 q => by
    cases f with
    | next => exact let ⟨σ2, H2, J2, z⟩ := q; b.run pins s1 σ2 H2 E J2 (hu σ2 H2 z)
    | ret _ => exact q
    | brk => exact q
    | cont => exact q)⟩
theorem s_cutG {t u : TS} {n b c : L2.St → Hp → Prop} {r : VK} {σ : L2.St} {H : Hp} (M : L2.St → Hp → Prop) (h : t ⟨M, r, b, c⟩ σ H) (h2 : ∀ σ2 H2, M σ2 H2 → u ⟨n, r, b, c⟩ σ2 H2) : cutG t u ⟨n, r, b, c⟩ σ H := ⟨M, h2, h⟩
/-! ### tests decided -/
section
variable {A B : Prop}
theorem i_dec {p : Prop} [Decidable p] (h1 : p → A) (h2 : ¬ p → B) : if decide p = true then A else B := Hsh.un (by simp (disch := k_dflt (
  refine Hsh.up ?_
  by_cases h : p
  · rw [if_pos (decide_eq_true h)]; exact h1 h
  · rw [if_neg (by rw [decide_eq_false h]; exact Bool.false_ne_true)]; exact h2 h
  )) only [↓Hsh.on])
theorem i_not {x : Bool} (h : if x = true then B else A) : if (!x) = true then A else B := Hsh.un (by simp (disch := k_dflt (
  refine Hsh.up ?_
  cases x
  · exact h
  · exact h
  )) only [↓Hsh.on])
theorem i_gen {x : Bool} (h1 : x = true → A) (h2 : x = false → B) : if x = true then A else B := Hsh.un (by simp (disch := k_dflt (
  refine Hsh.up ?_
  cases x
  · exact h2 rfl
  · exact h1 rfl
  )) only [↓Hsh.on])
theorem i_pos {x : Bool} (e : x = true) (h : A) : if x = true then A else B := by rw [if_pos e]; exact h
theorem i_neg {x : Bool} (e : x = false) (h : B) : if x = true then A else B := by rw [if_neg (by rw [e]; exact Bool.false_ne_true)]; exact h
end
end Q

set_option Elab.async false
set_option linter.all false
set_option maxRecDepth 100000
set_option maxHeartbeats 4000000
/-! Errors: one rule for every try (several clauses, with or without a name, one class or two, an else), what classes of errors tell. -/
namespace Q
open PySem PySem.Spec PyProof.Rows L2
/-- the test of an except clause: f tells the answer from the error's class -/
def Tst (X : Cx) (t : Expr) (f : Value → Option Bool) : Prop :=
  ∀ (a : Addr) (pn : List (Addr × Obj)) (σ : L2.St) (H : Hp) (s : Shared) (cls : Value) (b : Bool) (Q : Bool → Shared → Prop) (E : Value → Shared → Prop),
    Inv (X.suite a pn) [] σ H s → PySem.W.Looks (model X.prog X.w) s.heap (typeOf (.ref a)) cls → f cls = some b →
    (∀ h', (∀ q o, s.heap.get? q = some o → h'.get? q = some o) → Q b { s with heap := h' }) →
    wpAny (model X.prog X.w) (X.A.mark (some (.ref a))) (eval t X.env) (fun c s1 => wpAny (model X.prog X.w) (X.A.mark (some (.ref a))) (excMatches (.ref a) c) Q E s1) E s
theorem ld_names {X : Cx} {x : Str} {c : Value} {np : Pos} {a : Addr} {pn : List (Addr × Obj)} {σ : L2.St} {H : Hp} {s : Shared} {Q : Value → Shared → Prop} {E : Value → Shared → Prop} (hc : Names X x c) (I : Inv (X.suite a pn) [] σ H s) (q : Q c s) :
    wpAny (model X.prog X.w) (X.A.mark (some (.ref a))) (eval (.Name x np) X.env) Q E s := Hsh.un (by simp (disch := k_dflt (
  refine Hsh.up ?_
  obtain ⟨hg, hd, hm | ⟨hm, hv, hn⟩⟩ := hc
  · exact ld_glob (X := X.suite a pn) I hg hm q hd
  · exact ld_blt (X := X.suite a pn) I hg hm hv q hn hd
  )) only [↓Hsh.on])
theorem tst1 {X : Cx} {x : Str} {c : Value} {np : Pos} (hc : Names X x c) : Tst X (.Name x np) (fun cls => PySem.W.exmOne X.K cls c) := by
  intro a pn σ H s cls b Q E I LT e k
  exact ld_names hc I ((PySem.W.exm_one (M := model X.prog X.w) I.kIn LT e).here (k _ fun _ _ z => z))
theorem tst2 {X : Cx} {x y : Str} {c d : Value} {np mp tp : Pos} {kk : Nat} (hc : Names X x c) (hd : Names X y d) : Tst X (.Tuple [.Name x np, .Name y mp] kk tp) (fun cls => PySem.W.exmAny X.K cls [c, d]) := Hsh.un (by simp (disch := k_dflt (
  refine Hsh.up ?_
  intro a pn σ H s cls b Q E I LT e k
  refine wpAny_Tuple ?_
  refine wpAny_items_cons (ld_names hc I ?_)
  refine wpAny_items_cons (ld_names hd I ?_)
  refine wpAny_items_nil ⟨by size_fits, ?_⟩
  have kp : ∀ q o, s.heap.get? q = some o → (s.heap.push { cls := .type "tuple", data := .seq [c, d].toArray }).get? q = some o := fun _ _ z => Heap.get?_push_of_some _ z
  exact (PySem.W.exm_tup2 (PySem.W.Frag.In.keeps I.kIn kp) (LT.keeps kp) (Heap.get?_push_size s.heap rfl) e).here (k _ kp)
  )) only [↓Hsh.on])
abbrev Cl := (Value → Option Bool) × Option Nat × (Addr → Value → Option Addr → TS)
/-- the clauses of a try -/
inductive HdsG (X : Cx) : List ExceptHandler → List Cl → Prop
  | nil : HdsG X [] []
  | one {t : Expr} {f : Value → Option Bool} {ts : Addr → Value → Option Addr → TS} {b₀ : Stmt} {suite : List Stmt} {p : Pos} {hds : List ExceptHandler} {l : List Cl} (ht : Tst X t f)
      (hsu : ∀ (a : Addr) (oe : Obj) (cls : Value) (d : Option Addr) (pn : List (Addr × Obj)), Zc cls d oe → (∃ vs, oe.data = .fields vs) → PSs (X.suite a ((a, oe) :: pn)) (b₀ :: suite) (ts a cls d)) (r : HdsG X hds l) :
      HdsG X (.ExceptHandler (some t) none (b₀ :: suite) p :: hds) ((f, none, ts) :: l)
  | als {t : Expr} {n : Str} {i : Nat} {f : Value → Option Bool} {ts : Addr → Value → Option Addr → TS} {b₀ : Stmt} {suite : List Stmt} {p : Pos} {hds : List ExceptHandler} {l : List Cl} (hi : X.N[i]? = some n) (hln : X.env.kindOf n = some .local) (ht : Tst X t f)
      (hsu : ∀ (a : Addr) (oe : Obj) (cls : Value) (d : Option Addr) (pn : List (Addr × Obj)), Zc cls d oe → (∃ vs, oe.data = .fields vs) → PSs (X.suite a ((a, oe) :: pn)) (b₀ :: suite) (ts a cls d)) (r : HdsG X hds l) :
      HdsG X (.ExceptHandler (some t) (some n) (b₀ :: suite) p :: hds) ((f, some i, ts) :: l)
/-- the ends of a suite: the name of the clause goes -/
def endsG (D : Ends) : Option Nat → Ends
  | none => D
  | some i => { nx := fun σ H => D.nx (σ.set i none) H, rt := D.rt, bk := fun σ H => D.bk (σ.set i none) H, ct := fun σ H => D.ct (σ.set i none) H }
def setG (σ : L2.St) (a : Addr) : Option Nat → L2.St
  | none => σ
  | some i => σ.set i (some (.ref a))
/-- what the clauses wish of an error of the body -/
def wG (Wout : WX) (D : Ends) : List Cl → WX
  | [] => Wout
  | (f, oi, ts) :: r => fun cls d σ H => ∃ b, f cls = some b ∧ (b = true → ∀ a, H a = none → ts a cls d (endsG D oi) (setG σ a oi) H) ∧ (b = false → wG Wout D r cls d σ H)
def tTryG (tb : WX → TS) (Wout : WX) (l : List Cl) (u : TS) : TS := fun D σ H => tb (wG Wout D l) { D with nx := u D } σ H
def tRaiseG (W : WX) (D : Addr) : TS := fun _ σ H => W (.ref D) none σ H
theorem flying_keeps {B : Heap} {l : List Env} {a : Addr} {Z : Obj → Prop} {h h' : Heap} (f : HandSPX.FlyingZ B l a Z h) (k : ∀ q o, h.get? q = some o → h'.get? q = some o) : HandSPX.FlyingZ B l a Z h' := by
  obtain ⟨k1, k2, k3, oe, vs, T, oT, ts, he, hz, hd, h1, hn, ne, hT, hdT, h3⟩ := f
  exact ⟨fun b o e => k b o (k1 b o e), k2, k3.of_keeps fun b o e _ => ⟨o, k b o e, rfl⟩, oe, vs, T, oT, ts, k _ _ he, hz, hd, h1, hn, ne, k _ _ hT, hdT, h3⟩
section
variable {X : Cx} {body orelse : List Stmt} {h₀ : ExceptHandler} {hds : List ExceptHandler} {l : List Cl} {pos : Pos} {tb : WX → TS} {u : TS} {Wout : WX}
theorem ps_tryG (hs : X.stack = X.env :: X.outer) (hf : X.env.frame = some X.env.locals) (hN : X.N.Nodup) (tk : Takes X Wout)
    (hb : ∀ (W : WX) (pn : List (Addr × Obj)) (xe : Value → Shared → Prop), Takes (X.tr pn xe) W → PassesOwn (model X.prog X.w) X.A X.env xe → PSs (X.tr pn xe) body (tb W))
    (hh : HdsG X (h₀ :: hds) l) (ho : PSs X orelse u) : PS X (.Try body (h₀ :: hds) orelse [] pos) (tTryG tb Wout l u) := Hsh.un (by simp (disch := k_dflt (
  refine Hsh.up ?_
  refine ⟨fun pins s σ H D I h => ?_⟩
  have ok := I.ok
  have hfr : X.A.frames = some (X.env :: X.outer) := by rw [ok.frames, hs]
  refine wpAny_Try_except ?_
  have body_ok := (hb (wG Wout D l) (X.pn ++ pins) (fun e s₁ => wpAny (model X.prog X.w) X.A (noteFrame e X.env) (fun _ s₂ => wpAny (model X.prog X.w) X.A (setFlight e none) (fun _ s₃ =>
    wpAny (model X.prog X.w) X.A (handleBy e X.env (h₀ :: hds)) (SP X pins D) X.xe s₃) X.xe s₂) X.xe s₁) (fun v s' xx => ?_) PassesOwn.looking).run [] s σ H { D with nx := u D } (I.toTry _) h
  · refine wpAny_mono body_ok (fun f s1 hsp => ?_) (fun e s1 he => he)
    cases f with
    | next =>
      obtain ⟨σ', H', J', q⟩ := hsp
      exact ho.run pins s1 σ' H' D (J'.ofTry ok) q
    | brk =>
      obtain ⟨σ', H', J', q⟩ := hsp
      exact ⟨σ', H', J'.ofTry ok, q⟩
    | cont =>
      obtain ⟨σ', H', J', q⟩ := hsp
      exact ⟨σ', H', J'.ofTry ok, q⟩
    | ret z =>
      obtain ⟨v, σ', H', J', r, q⟩ := hsp
      exact ⟨v, σ', H', J'.ofTry ok, r, q⟩
  · obtain ⟨a, B, sI, pins', σ', H', cls, d, rfl, J', nb, up, sky, na, os, ag, w⟩ := xx
    have J : Inv X pins σ' H' sI := J'.ofTry ok
    show wpAny (model X.prog X.w) X.A (noteFrame (.ref a) X.env) _ _ _
    refine Sky.land Zc.steady hfr hf (by rw [← hs]; exact sky) fun h3 fl3 up3 => ?_
    -- what the landed error tells at any heap
    have facts : ∀ h, HandSPX.FlyingZ B (X.env :: X.outer) a (Zc cls d) h → s'.heap.UpToSlots h → Inv X pins σ' H' { s' with heap := h } ∧ ∃ oe vs, h.get? a = some oe ∧ Zc cls d oe ∧ oe.data = .fields vs ∧ Inv (X.suite a ((a, oe) :: (X.pn ++ pins))) [] σ' H' { s' with heap := h } := fun h fl uph => by
      have Jh : Inv X pins σ' H' { s' with heap := h } := J.landed nb fl.1 (up.trans uph) os ag
      obtain ⟨oe, vs, he, hz, hd⟩ := fl.there
      have nfr : a ∉ frs (X.env :: X.outer) := fun hm => by
        obtain ⟨_, o', e', hnf⟩ := fl.2.2.1.mem hm
        rw [he] at e'
        cases e'
        exact hnf _ hd
      have nL : a ≠ X.env.locals := fun z => nfr (List.mem_filterMap.mpr ⟨X.env, List.mem_cons_self, by rw [hf, z]⟩)
      have nF : a ∉ X.fs := fun hm => by
        obtain ⟨e, he, q⟩ := List.mem_filterMap.mp hm
        exact nfr (List.mem_filterMap.mpr ⟨e, List.mem_cons_of_mem _ he, q⟩)
      exact ⟨Jh, oe, vs, he, hz, hd, Jh.suite he hd na nL nF⟩
    have looks : ∀ {h : Heap} {oe : Obj}, h.get? a = some oe → Zc cls d oe → PySem.W.Looks (model X.prog X.w) h (typeOf (.ref a)) cls := fun {h oe} he hz A Q E s k q => wpAny_typeOf_ref (k _ _ he) (by rw [hz.1]; exact q)
    have go : ∀ {hds' : List ExceptHandler} {l' : List Cl}, HdsG X hds' l' → wG Wout D l' cls d σ' H' → ∀ h, HandSPX.FlyingZ B (X.env :: X.outer) a (Zc cls d) h → s'.heap.UpToSlots h →
        wpAny (model X.prog X.w) X.A (handleBy (.ref a) X.env hds') (SP X pins D) X.xe { s' with heap := h } := by
      intro hds' l' hk
      induction hk with
      | nil =>
        intro w h fl uph
        refine wpAny_handleBy_nil ?_
        obtain ⟨_, _, _, oe, vs, T, oT, ts', he, hz, hd, h1, _⟩ := id fl
        unfold PySem.passOn
        refine wpAny_bind (wpAny_field he hd h1 ?_)
        rw [if_neg (show ¬ ((Value.ref T == Value.none) = true) from by simp)]
        have fin : wpAny (model X.prog X.w) X.A (setFlight (.ref a) X.env.frame) (fun _ s4 => wpAny (model X.prog X.w) X.A (throw (.ref a) : Sem Flow) (SP X pins D) X.xe s4) X.xe { s' with heap := h } := by
          rw [hf]
          refine HandSPX.setFlight_upZ fl fun h4 hh4 up4 => wpAny_throw (tk _ _ ?_)
          exact ⟨a, B, sI, pins, σ', H', cls, d, rfl, J, nb, (up.trans uph).trans up4, .inr (.inr (by rw [hs]; exact hh4)), na, os, ag, w⟩
        first
          | exact wpAny_bind (wpAny_pure (wpAny_bind fin))
          | exact wpAny_bind fin
      | @one t f ts b₀ suite p hds2 l2 ht hsu r ih =>
        intro w h fl uph
        obtain ⟨b, hb1, hyes, hno⟩ := w
        obtain ⟨_, oe, vs, he, hz, hd, S⟩ := facts h fl uph
        refine wpAny_handleBy_cons (codeAny_handlers_test (ht a _ σ' H' _ cls b _ _ S (looks he hz) hb1 fun h5 k5 => ?_)) (by intro q; cases q)
        have fl5 := flying_keeps fl k5
        have up5 := uph.trans (Heap.UpToSlots.of_keeps k5)
        cases b with
        | true =>
          refine codeAny_handlers_suite ?_
          refine HandSPX.lands_againZ fl5 fun h4 fl4 up4 => ?_
          obtain ⟨_, oe4, vs4, he4, hz4, hd4, S4⟩ := facts h4 fl4 (up5.trans up4)
          refine wpAny_mono ((hsu a oe4 cls d (X.pn ++ pins) hz4 ⟨_, hd4⟩).run [] _ _ H' _ S4 (hyes rfl a na)) (fun f s6 hsp => ?_) (fun _ _ z => False.elim z)
          cases f with
          | next =>
            obtain ⟨σ6, H6, S6, q6⟩ := hsp
            exact ⟨_, _, S6.unsuite ok, q6⟩
          | brk =>
            obtain ⟨σ6, H6, S6, q6⟩ := hsp
            exact ⟨_, _, S6.unsuite ok, q6⟩
          | cont =>
            obtain ⟨σ6, H6, S6, q6⟩ := hsp
            exact ⟨_, _, S6.unsuite ok, q6⟩
          | ret z =>
            obtain ⟨v6, σ6, H6, S6, r6, q6⟩ := hsp
            exact ⟨_, _, _, S6.unsuite ok, r6, q6⟩
        | false => exact ih (hno rfl) h5 fl5 up5
      | @als t n i f ts b₀ suite p hds2 l2 hi hln ht hsu r ih =>
        intro w h fl uph
        obtain ⟨b, hb1, hyes, hno⟩ := w
        obtain ⟨_, oe, vs, he, hz, hd, S⟩ := facts h fl uph
        refine wpAny_handleBy_cons (codeAny_handlers_test (ht a _ σ' H' _ cls b _ _ S (looks he hz) hb1 fun h5 k5 => ?_)) (by intro q; cases q)
        have fl5 := flying_keeps fl k5
        have up5 := uph.trans (Heap.UpToSlots.of_keeps k5)
        cases b with
        | true =>
          refine codeAny_handlers_suite_as ?_
          refine HandSPX.lands_againZ fl5 fun h4 fl4 up4 => ?_
          obtain ⟨_, oe4, vs4, he4, hz4, hd4, S4⟩ := facts h4 fl4 (up5.trans up4)
          refine store_ok (X := X.suite a ((a, oe4) :: (X.pn ++ pins))) (v := .ref a) S4 hN hi (.inl hln) rfl (fun s5 S5 => ?_) (.inr hln)
          refine wpAny_mono ((hsu a oe4 cls d (X.pn ++ pins) hz4 ⟨_, hd4⟩).run [] s5 _ H' _ S5 (hyes rfl a na)) (fun f s6 hsp => ?_) (fun _ _ z => False.elim z)
          have gone : ∀ {σ6 : L2.St} {H6 : Hp} {Q : Shared → Prop}, Inv (X.suite a ((a, oe4) :: (X.pn ++ pins))) [] σ6 H6 s6 → (∀ s7, Inv X pins (σ6.set i none) H6 s7 → Q s7) →
              wpAny (model X.prog X.w) X.A (do bindName X.env n .none; unbindBehindTheSuite X.env n p) (fun _ s7 => Q s7) X.xe s6 := fun {σ6 H6 Q} S6 hq => gone_ok (S6.unsuite ok) hN hi hln hq
          cases f with
          | next =>
            obtain ⟨σ6, H6, S6, q6⟩ := hsp
            exact gone S6 fun s7 J7 => ⟨_, _, J7, q6⟩
          | brk =>
            obtain ⟨σ6, H6, S6, q6⟩ := hsp
            exact gone S6 fun s7 J7 => ⟨_, _, J7, q6⟩
          | cont =>
            obtain ⟨σ6, H6, S6, q6⟩ := hsp
            exact gone S6 fun s7 J7 => ⟨_, _, J7, q6⟩
          | ret z =>
            obtain ⟨v6, σ6, H6, S6, r6, q6⟩ := hsp
            exact gone S6 fun s7 J7 => ⟨_, _, _, J7, r6, q6⟩
        | false => exact ih (hno rfl) h5 fl5 up5
    exact go hh w h3 fl3 up3
  )) only [↓Hsh.on])
end
theorem eqV_str (a b : Str) : eqV (.str a) (.str b) = decide (a = b) := by
  show (a == b) = _
  by_cases h : a = b <;> simp [h]
theorem inV_strs (x : Str) (l : List Str) : inV (.str x) (l.map V.str) = decide (x ∈ l) := Hsh.un (by simp (disch := k_dflt (
  refine Hsh.up ?_
  unfold inV
  rw [List.any_map]
  induction l with
  | nil => simp
  | cons a l ih =>
    rw [List.any_cons, ih]
    show (eqV (.str a) (.str x) || _) = _
    rw [eqV_str]
    by_cases h : a = x <;> by_cases h2 : x ∈ l <;> simp [h, h2, eq_comm] <;> exact fun z => h z.symm
  )) only [↓Hsh.on])
theorem q_dec {p : Prop} [Decidable p] {Q : VK} {H : Hp} (h : p) (k : Q (.bl true) H) : Q (.bl (decide p)) H := by
  rw [decide_eq_true h]
  exact k
theorem s_eqD {K : PySem.W.Frag} {H : Hp} {Q : VK} {p q : Addr} {d e : PyData} {b : Bool} (h1 : Dp K H (.ref p) d) (h2 : Dp K H (.ref q) e) (s1 : SeqAt.shaped d = true) (s2 : SeqAt.shaped e = true) (hb : PyData.eqv d e = b) (h : Q (.bl b) H) : rEqX K (.ref p) (.ref q) H Q :=
  .inr ⟨d, e, h1, h2, s1, s2, by rw [hb]; exact h⟩
theorem s_neD {K : PySem.W.Frag} {H : Hp} {Q : VK} {p q : Addr} {d e : PyData} {b : Bool} (h1 : Dp K H (.ref p) d) (h2 : Dp K H (.ref q) e) (s1 : SeqAt.shaped d = true) (s2 : SeqAt.shaped e = true) (hb : PyData.eqv d e = b) (h : Q (.bl (!b)) H) : rNeX K (.ref p) (.ref q) H Q :=
  .inr ⟨d, e, h1, h2, s1, s2, by rw [hb]; exact h⟩
/-- a number out of a list of numbers -/
theorem toI_bnd (lo hi : Int) {xs : List V} {i : Int} (h : (xs.all fun v => decide (lo ≤ toI v) && decide (toI v ≤ hi)) = true) (h0 : 0 ≤ i) (h1 : i < xs.length) : lo ≤ toI (xs.getD i.toNat .non) ∧ toI (xs.getD i.toNat .non) ≤ hi := Hsh.un (by simp (disch := k_dflt (
  refine Hsh.up ?_
  have hm : xs.getD i.toNat .non ∈ xs := by
    rw [List.getD_eq_getElem?_getD, List.getElem?_eq_getElem (by omega)]
    exact List.getElem_mem _
  have := List.all_eq_true.mp h _ hm
  simpa using this
  )) only [↓Hsh.on])
theorem SH.call2 {A : List Addr} {H0 H H' : Hp} {L : List Cell} {a b : Addr} {o u o' u' : HO} (S : SH A H0 H L) (i j : Nat) (e : L[i]? = some (a, o)) (e2 : L[j]? = some (b, u)) (im : Imm o = false) (im2 : Imm u = false) (k : Keep [a, b] H H') (h : H' a = some o') (h2 : H' b = some u') :
    SH A H0 H' ((L.set i (a, o')).set j (b, u')) := Hsh.un (by simp (disch := k_dflt (
  refine Hsh.up ?_
  have ha := S.get i e
  have hb := S.get j e2
  have rest : ∀ c m, (L.set i (a, o'))[m]? = some c → m ≠ j → c = (a, o') ∨ ∃ m, L[m]? = some c ∧ m ≠ i ∧ m ≠ j := fun c m q nj => by
    by_cases q2 : i = m
    · subst q2
      left
      obtain ⟨hi, _⟩ := List.getElem?_eq_some_iff.mp e
      rw [List.getElem?_set, if_pos rfl, if_pos hi] at q
      exact (Option.some.inj q).symm
    · rw [List.getElem?_set_ne q2] at q
      exact .inr ⟨m, q, Ne.symm q2, nj⟩
  have key : ((L.set i (a, o')).set j (b, u')).map (·.1) = L.map (·.1) := by
    by_cases q : j = i
    · subst q
      rw [e] at e2
      cases e2
      rw [List.set_set, map_set_key e]
    · rw [map_set_key (o := u) (by rw [List.getElem?_set_ne (Ne.symm q)]; exact e2), map_set_key e]
  refine ⟨fun c hc => ?_, by rw [key]; exact S.nd, ⟨fun d v q z => ?_, fun d q => S.kp.d d (k.d d q)⟩, fun c hc => ?_⟩
  · rcases mem_set_cell hc with rfl | ⟨m, nm, em⟩
    · exact h2
    · rcases rest c m em nm with rfl | ⟨m, q, ni, nj⟩
      · exact h
      · refine k.k _ _ (S.hs c (List.mem_of_getElem? q)) (.inl fun z => ?_)
        rcases List.mem_cons.mp z with z | z
        · exact nodup_key S.nd e q ni z
        · exact nodup_key S.nd e2 q nj (List.mem_singleton.mp z)
  · have h1 := S.kp.k d v q z
    refine k.k d v h1 ?_
    rcases z with z | z
    · by_cases da : d = a
      · exfalso
        subst da
        rcases S.ow _ (List.mem_of_getElem? e) with w | w
        · exact z w
        · rw [q] at w
          cases w
      · by_cases db : d = b
        · exfalso
          subst db
          rcases S.ow _ (List.mem_of_getElem? e2) with w | w
          · exact z w
          · rw [q] at w
            cases w
        · exact .inl (by simp [da, db])
    · exact .inr z
  · rcases mem_set_cell hc with rfl | ⟨m, nm, em⟩
    · exact S.ow (b, u) (List.mem_of_getElem? e2)
    · rcases rest c m em nm with rfl | ⟨m, q, ni, nj⟩
      · exact S.ow (a, o) (List.mem_of_getElem? e)
      · exact S.ow c (List.mem_of_getElem? q)
  )) only [↓Hsh.on])
theorem h_pop0 {i : Nat} {A : List Addr} {H0 H : Hp} {L : List Cell} {Q : VK} {a : Addr} {ns : List Int} (S : SH A H0 H L) (e : L[i]? = some (a, .lst (ns.map V.int))) (h0 : 0 < (ns.map V.int).length)
    (h : ∀ n ms H', ns = n :: ms → SH A H0 H' (L.set i (a, .lst (ms.map V.int))) → Q (.int n) H') : rPopAt (.ref a) [.int 0] H Q := Hsh.un (by simp (disch := k_dflt (
  refine Hsh.up ?_
  cases ns with
  | nil => exact absurd h0 (by decide)
  | cons n ms =>
    refine ⟨a, _, 0, 0, .int n, rfl, rfl, S.get i e, by decide, by decide, ?_, rfl, h n ms _ rfl (S.set i e rfl _)⟩
    unfold seqIndex?
    simp
  )) only [↓Hsh.on])
/-! ### what classes of errors tell -/
/-- all that is asked of a class of errors without own __init__ -/
structure ExcF (K : PySem.W.Frag) (D : Addr) : Prop where
  ex : PySem.W.excIn K D He.veBase "ValueError.__new__" = true
  kp : PySem.W.keepIn K (.ref D) = true
  bs : PySem.W.subIn K (.ref D) (.type "BaseException") = some true
  ty : PySem.W.typeIn K (.ref D) = some (.type "type")
theorem excF_ok {K : PySem.W.Frag} {x : Str} (c : (He.Fa.exc x).ok K = true) : ExcF K (He.ga K x) := by
  obtain ⟨h1, h2, h3, h4⟩ := He.exc_ok c
  exact ⟨h1, h2, h3, h4⟩
def excCB (K : PySem.W.Frag) (x : Str) : Bool :=
  let D := He.ga K x
  decide (PySem.W.findIn K (.ref D) "__getattribute__" = some (some (.builtin "BaseException.__getattribute__"))) && (decide (PySem.W.findIn K (.ref D) "__getattr__" = some none) &&
    (decide (PySem.W.subIn K (.ref D) (.type "BaseException") = some true) && (PySem.W.hasDictIn K D && (decide (PySem.W.findIn K (.ref D) "__class__" = some (some (.builtin "object.__class__"))) &&
      (decide (PySem.W.specialIn K (.builtin "object.__class__") "__get__" = some (some (.builtin "getset_descriptor.__get__"))) && (decide (PySem.W.takesIn K (.builtin "object.__class__") = some true) &&
        decide (PySem.W.mroIn K D (.type "object") = some true)))))))
theorem excCB_ok {K : PySem.W.Frag} {x : Str} (h : excCB K x = true) : ExcC K (He.ga K x) := Hsh.un (by simp (disch := k_dflt (
  refine Hsh.up ?_
  unfold excCB at h
  simp only [Bool.and_eq_true, decide_eq_true_eq] at h
  obtain ⟨a, b, c, d, e, f, g, i⟩ := h
  exact ⟨a, b, c, d, e, f, g, i⟩
  )) only [↓Hsh.on])
def kitCB (K : PySem.W.Frag) (x y : Str) (b : Bool) : Bool := decide (PySem.W.kitOne K (.ref (He.ga K x)) (.ref (He.ga K y)) = some b)
theorem kitCB_ok {K : PySem.W.Frag} {x y : Str} {b : Bool} (h : kitCB K x y b = true) : PySem.W.kitOne K (.ref (He.ga K x)) (.ref (He.ga K y)) = some b := of_decide_eq_true h
def kitTB (K : PySem.W.Frag) (x : Str) (y : String) (b : Bool) : Bool := decide (PySem.W.kitOne K (.ref (He.ga K x)) (.type y) = some b)
def exmTB (K : PySem.W.Frag) (x : Str) (y : String) (b : Bool) : Bool := decide (PySem.W.exmOne K (.ref (He.ga K x)) (.type y) = some b)
theorem exmTB_ok {K : PySem.W.Frag} {x : Str} {y : String} {b : Bool} (h : exmTB K x y b = true) : PySem.W.exmOne K (.ref (He.ga K x)) (.type y) = some b := of_decide_eq_true h
theorem kitTB_ok {K : PySem.W.Frag} {x : Str} {y : String} {b : Bool} (h : kitTB K x y b = true) : PySem.W.kitOne K (.ref (He.ga K x)) (.type y) = some b := of_decide_eq_true h
theorem kdct_ok {K : PySem.W.Frag} {w : World} {a : Addr} {kvs : List (Str × He.Dv)} (h : ∃ es n, KDict K w a es n) (hv : He.valsB K a kvs = true) : ∀ q ∈ kvs, KDct K w a q.1 (q.2.v K) := fun q hq => by
  obtain ⟨es, n, D⟩ := h
  obtain ⟨u, e, r⟩ := He.valsB_ok hv hq
  exact ⟨es, n, u, D.at_, D.lit, e, r⟩
theorem s_ixD {K : PySem.W.Frag} {w : World} {p : Addr} {z : Str} {v : V} {H : Hp} {Q : VK} (h : KDct K w p z v) (q : Q v H) : rIxD K w (.ref p) (.str z) H Q := ⟨p, z, v, rfl, rfl, h, q⟩
section
variable {X : Cx}
/-- raise C('text') -/
theorem ps_raiseG {W : WX} {x m : Str} {j : Nat} {p p2 pos pos2 : Pos} (hc : X.calm = true) (tk : Takes X W) (F : ExcF X.K (He.ga X.K x)) (hm : X.mg x = some (.ref (He.ga X.K x))) (hg : Gl X x) (hdb : (x == ("__debug__" : Str)) = false := by decide) :
    PS X (.Raise (some (.Call (.Name x p) [.Constant (.str m) j p2] [] pos)) none pos2) (tRaiseG W (He.ga X.K x)) :=
  ps_raise hc tk (pmk_own PySem.F.excBase_ValueError F.ex hm F.kp (raises_own F.bs F.ty) hg hdb)
/-- isinstance in a suite, of the error that it holds -/
def rIsE1 (K : PySem.W.Frag) (cls : Value) (d : Option Addr) (a : Addr) : List V → Hp → VK → Prop := fun xs H Q => ∃ D, cls = .ref D ∧ d = none ∧ ExcC K D ∧ rIsE K D a xs H Q
def rIsinE (K : PySem.W.Frag) (cls : Value) (d : Option Addr) (a : Addr) : List V → Hp → VK → Prop := fun xs H Q => rIsiX K xs H Q ∨ rIsE1 K cls d a xs H Q
theorem x_isE {a : Addr} {oe : Obj} {cls : Value} {d : Option Addr} {pn : List (Addr × Obj)} (hz : Zc cls d oe) (hf : ∃ vs, oe.data = .fields vs) :
    CallR (X.suite a ((a, oe) :: pn)) (.builtin "isinstance") (rIsE1 X.K cls d a) := Hsh.un (by simp (disch := k_dflt (
  refine Hsh.up ?_
  intro pins s σ H xs us Q I r h
  obtain ⟨D, rfl, rfl, C, h⟩ := h
  exact call_isE C hz hf pins s σ H xs us Q I r h
  )) only [↓Hsh.on])
end
theorem cxW {CX : CXT} {P : Program} {w : World} {K : PySem.W.Frag} {mg : Str → Option Value} {base : Heap} {N : List Str} {qual : Str} {scope : Scope} {f : Addr} {cd : Value} {A : Around} {outer : List PySem.Env} {s : Shared} {H : Hp} {E : XK} :
    (cxOf CX P w K mg base N qual scope f cd A outer s H E).nox.w = w := rfl
theorem cxW2 {CX : CXT} {P : Program} {w : World} {K : PySem.W.Frag} {mg : Str → Option Value} {base : Heap} {N : List Str} {qual : Str} {scope : Scope} {f : Addr} {cd : Value} {A : Around} {outer : List PySem.Env} {s : Shared} {H : Hp} {E : XK} :
    (cxOf CX P w K mg base N qual scope f cd A outer s H E).w = w := rfl
theorem x_isinE {X : Cx} {a : Addr} {oe : Obj} {cls : Value} {d : Option Addr} {pn : List (Addr × Obj)} (hz : Zc cls d oe) (hf : ∃ vs, oe.data = .fields vs) :
    CallR (X.suite a ((a, oe) :: pn)) (.builtin "isinstance") (rIsinE X.K cls d a) := CallR.or x_isinstance (x_isE hz hf)
section
variable {K : PySem.W.Frag} {a D C : Addr} {H : Hp} {σ : L2.St} {Q : VK} {b : Bool} {n bk ct : L2.St → Hp → Prop} {r : VK}
theorem s_isE (c : ExcC K D) (e : PySem.W.kitOne K (.ref D) (.ref C) = some b) (h : Q (.bl b) H) : rIsinE K (.ref D) none a [.ref a, .ref C] H Q := .inr ⟨D, rfl, rfl, c, _, _, b, rfl, fun u h => h, e, h⟩
theorem s_isEt {y : String} (c : ExcC K D) (e : PySem.W.kitOne K (.ref D) (.type y) = some b) (h : Q (.bl b) H) : rIsinE K (.ref D) none a [.ref a, .ty y] H Q := .inr ⟨D, rfl, rfl, c, _, _, b, rfl, fun u h => h, e, h⟩
theorem s_isEx {cls : Value} {d : Option Addr} {xs : List V} (h : rIsiX K xs H Q) : rIsinE K cls d a xs H Q := .inl h
theorem s_try {tb : WX → TS} {Wout : WX} {l : List Cl} {u : TS} (h : tb (wG Wout ⟨n, r, bk, ct⟩ l) ⟨u ⟨n, r, bk, ct⟩, r, bk, ct⟩ σ H) : tTryG tb Wout l u ⟨n, r, bk, ct⟩ σ H := h
theorem s_raise {W : WX} {e : Ends} (h : W (.ref D) none σ H) : tRaiseG W D e σ H := h
theorem s_WE {W : WX} {cls : Value} {d : Option Addr} (h : W cls d σ H) : WE W σ cls d H := h
theorem s_wGn {Wout : WX} {e : Ends} {f : Value → Option Bool} {oi : Option Nat} {ts : Addr → Value → Option Addr → TS} {l : List Cl} {cls : Value} {d : Option Addr} (q : f cls = some false) (h : wG Wout e l cls d σ H) : wG Wout e ((f, oi, ts) :: l) cls d σ H := ⟨false, q, (fun z => nomatch z), fun _ => h⟩
theorem s_wGy {Wout : WX} {f : Value → Option Bool} {ts : Addr → Value → Option Addr → TS} {l : List Cl} {cls : Value} {d : Option Addr} (q : f cls = some true) (h : ∀ a, H a = none → ts a cls d ⟨n, r, bk, ct⟩ σ H) :
    wG Wout ⟨n, r, bk, ct⟩ ((f, none, ts) :: l) cls d σ H := ⟨true, q, fun _ => h, (fun z => nomatch z)⟩
theorem s_wGa {Wout : WX} {i : Nat} {f : Value → Option Bool} {ts : Addr → Value → Option Addr → TS} {l : List Cl} {cls : Value} {d : Option Addr} (q : f cls = some true)
    (h : ∀ a, H a = none → ts a cls d ⟨fun σ H => n (σ.set i none) H, r, fun σ H => bk (σ.set i none) H, fun σ H => ct (σ.set i none) H⟩ (σ.set i (some (.ref a))) H) :
    wG Wout ⟨n, r, bk, ct⟩ ((f, some i, ts) :: l) cls d σ H := ⟨true, q, fun _ => h, (fun z => nomatch z)⟩
theorem s_wG0 {Wout : WX} {e : Ends} {cls : Value} {d : Option Addr} (h : Wout cls d σ H) : wG Wout e [] cls d σ H := h
end
/-- a call in a try's body -/
theorem pe_callSG {X : Cx} {CX : CXT} {k : Nat} {ps : List Str} {sp : Sp} {E : L2.St → XK} {x : Str} {p pos : Pos} {e : Expr} {es : List Expr} {t : TA} (F : CallOk X.prog X.w X.K X.mg X.base CX k x ps sp) (hr : Room k X.A) (hg : Gl X x) (hx : ∀ σ, PassesAt CX X σ (E σ))
    (ha : PA X (e :: es) t) (hdb : (x == ("__debug__" : Str)) = false := by decide) (he : starEach (e :: es) X.env = (false, eval e X.env) :: starEach es X.env := by rfl) (hpl : (backTo pos (starEach es X.env)).any (·.1) = false := by rfl) :
    PE X (.Call (.Name x p) (e :: es) [] pos) (tCallS sp E t) := by
  obtain ⟨f, fd, h1, h2, h3, h4⟩ := F.ex
  exact pe_callS h4 hr hg h1 h2 h3 hx ha hdb he hpl
theorem s_callS {σ : L2.St} {H : Hp} {Q : VK} {sp : Sp} {E : L2.St → XK} {tr : TA} (h : tr σ H fun vs H1 => sp (vs ++ []) H1 Q (E σ)) : tCallS sp E tr σ H Q := Hsh.un (by simp (disch := k_dflt (
  refine Hsh.up ?_
  unfold tCallS
  simp only [List.append_nil] at h
  exact h
  )) only [↓Hsh.on])
/-- a module's tuple, by its class -/
def tupDB (K : PySem.W.Frag) (x : Str) : Bool := match K.lookup (He.ga K x) with
  | some o => decide (o.cls = .type "tuple") && o.dict.isNone
  | none => false
theorem tupDB_ok {K : PySem.W.Frag} {x : Str} (h : tupDB K x = true) : ∃ o, K.lookup (He.ga K x) = some o ∧ o.cls = .type "tuple" ∧ o.dict = none := Hsh.un (by simp (disch := k_dflt (
  refine Hsh.up ?_
  unfold tupDB at h
  cases q : K.lookup (He.ga K x) with
  | none => rw [q] at h; cases h
  | some o =>
    rw [q] at h
    simp only [Bool.and_eq_true, decide_eq_true_eq, Option.isNone_iff_eq_none] at h
    exact ⟨o, rfl, h.1, h.2⟩
  )) only [↓Hsh.on])
/-- a text's place in a tuple of texts -/
def rTIx (K : PySem.W.Frag) (x : V) (xs : List V) (H : Hp) (Q : VK) : Prop := ∃ p, ∃ ys : List Str, ∃ z j, x = .ref p ∧ xs = [.str z] ∧ SqT K H p (ys.map V.str) ∧ ys[j]? = some z ∧ (∀ m, m < j → ys[m]? ≠ some z) ∧ Q (.int (j : Nat)) H
theorem xt_index {X : Cx} : MtR X "tuple.index" (rTIx X.K) := mt_tup_index
theorem s_tix {K : PySem.W.Frag} {H : Hp} {Q : VK} {p : Addr} {ys : List Str} {z : Str} {j : Nat} (h : SqT K H p (ys.map V.str)) (e : ys[j]? = some z) (n : ∀ m, m < j → ys[m]? ≠ some z) (q : Q (.int (j : Nat)) H) : rTIx K (.ref p) [.str z] H Q := ⟨p, ys, z, j, rfl, rfl, h, e, n, q⟩
theorem tyT {K : PySem.W.Frag} {H : Hp} {a : Addr} {xs : List V} (h : SqT K H a xs) : TyX K H (.ref a) (.type "tuple") := Hsh.un (by simp (disch := k_dflt (
  refine Hsh.up ?_
  rcases h with (h | ⟨o, h⟩) | ⟨o, its, n, h1, h2, _⟩
  · exact .base (.tup h)
  · exact .fTuple h
  · exact .kTuple h1 h2
  )) only [↓Hsh.on])
theorem tyL {K : PySem.W.Frag} {H : Hp} {a : Addr} {xs : List V} (h : SqL K H a xs) : TyX K H (.ref a) (.type "list") := Hsh.un (by simp (disch := k_dflt (
  refine Hsh.up ?_
  rcases h with (h | ⟨o, h⟩) | ⟨o, its, n, h1, h2, _⟩
  · exact .base (.lst h)
  · exact .base (.frz h)
  · exact .kList h1 h2
  )) only [↓Hsh.on])
theorem SqT_keep {K : PySem.W.Frag} {A : List Addr} {H H' : Hp} {a : Addr} {xs : List V} (h : SqT K H a xs) (k : Keep A H H') : SqT K H' a xs := Hsh.un (by simp (disch := k_dflt (
  refine Hsh.up ?_
  rcases h with (h | ⟨o, h⟩) | h
  · exact .inl (.inl (k.k _ _ h (.inr rfl)))
  · exact .inl (.inr ⟨o, k.k _ _ h (.inr rfl)⟩)
  · exact .inr h
  )) only [↓Hsh.on])
def rSplit : V → List V → Hp → VK → Prop := fun x xs H Q => ∃ a b, x = .str a ∧ xs = [.str b] ∧ (b.length == 0) = false ∧ a.length + 2 ≤ sizeLine ∧ rNewStrs (Txt.split a b) H Q
theorem xt_split {X : Cx} : MtR X "str.split" rSplit := mt_split
theorem s_split {H : Hp} {Q : VK} {a b : Str} {ys : List Str} (h0 : (b.length == 0) = false) (h1 : a.length + 2 ≤ sizeLine) (e : Txt.split a b = ys) (h : newO (.lst (ys.map V.str)) 0 H Q) : rSplit (.str a) [.str b] H Q := ⟨a, b, rfl, rfl, h0, h1, by rw [e]; exact h.2⟩
def rJoin (K : PySem.W.Frag) : V → List V → Hp → VK → Prop := fun x xs H Q => ∃ a p, ∃ ys : List Str, x = .str a ∧ xs = [.ref p] ∧ (SqL K H p (ys.map V.str) ∨ SqT K H p (ys.map V.str)) ∧ (ys.map (·.length)).sum + ys.length * a.length ≤ 16777216 ∧ Q (.str (Txt.join a ys)) H
theorem xt_join {X : Cx} : MtR X "str.join" (rJoin X.K) := mt_join
theorem s_join {K : PySem.W.Frag} {H : Hp} {Q : VK} {a : Str} {p : Addr} {ys : List Str} (h : SqL K H p (ys.map V.str)) (c : (ys.map (·.length)).sum + ys.length * a.length ≤ 16777216) (q : Q (.str (Txt.join a ys)) H) : rJoin K (.str a) [.ref p] H Q := ⟨a, p, ys, rfl, rfl, .inl h, c, q⟩
theorem xl_index {X : Cx} : MtR X "list.index" (rIndex X.K) := mt_index
theorem s_lix {K : PySem.W.Frag} {H : Hp} {Q : VK} {p : Addr} {ys : List Str} {z : Str} {j : Nat} (h : SqL K H p (ys.map V.str)) (e : ys[j]? = some z) (n : ∀ m, m < j → ys[m]? ≠ some z) (q : Q (.int (j : Nat)) H) : rIndex K (.ref p) [.str z] H Q :=
  ⟨p, ys.map V.str, .str z, j, .str z, rfl, rfl, h, rfl, List.all_eq_true.mpr fun v hv => by obtain ⟨x, _, rfl⟩ := List.mem_map.mp hv; rfl, by rw [List.getElem?_map, e]; rfl, by rw [eqV_str]; exact decide_eq_true rfl, fun m z' hm hz => by
    rw [List.getElem?_map] at hz
    obtain ⟨x, hx, rfl⟩ := Option.map_eq_some_iff.mp hz
    rw [eqV_str]
    exact decide_eq_false fun y => n m hm (y ▸ hx), q⟩
theorem s_catA {K : PySem.W.Frag} {H : Hp} {Q : VK} {l b : Addr} {xs zs ys : List V} (h1 : SqT K H l xs) (h2 : SqT K H b zs) (n1 : xs ≠ []) (n2 : zs ≠ []) (c : xs.length + zs.length ≤ sizeLine) (e : xs ++ zs = ys) (h : newO (.tup ys) 0 H Q) : rAddX K (.ref l) (.ref b) H Q :=
  .inr (.inr (.inr ⟨l, b, xs, zs, rfl, rfl, h1, h2, c, fun z => absurd z n1, fun _ z => absurd z n2, fun _ _ p hp => by rw [e]; exact h.2 p hp⟩))
theorem s_catA0 {K : PySem.W.Frag} {H : Hp} {Q : VK} {l b : Addr} {xs : List V} (h1 : SqT K H l xs) (h2 : SqT K H b []) (n1 : xs ≠ []) (c : xs.length ≤ sizeLine) (h : Q (.ref l) H) : rAddX K (.ref l) (.ref b) H Q :=
  .inr (.inr (.inr ⟨l, b, xs, [], rfl, rfl, h1, h2, c, fun z => absurd z n1, fun _ _ => h, fun _ z => absurd rfl z⟩))
end Q

namespace Law
open PySem L2 Q
/-! words: one step; arithmetic; a heap fact; a sequence -/
set_option hygiene false
local macro_rules | `(tactic| walk_at "ar") => `(tactic| first | (with_reducible assumption) | omega | decide | (constructor <;> omega) | (simp only [List.length_cons, List.length_nil, List.length_append, List.length_map, List.length_replicate, List.length_set] at *; omega))
local macro_rules | `(tactic| walk_at "sz") => `(tactic| first | exact Nat.le_of_ble_eq_true rfl | (rw [sizeLine_eq]; first | omega | (simp only [List.length_cons, List.length_nil, List.length_append, List.length_map, List.length_replicate, List.length_set]; omega)))
local macro_rules | `(tactic| walk_at "szs") => `(tactic| first | (rw [sizeLine_eq]; first | decide +kernel | omega) | walk_at "sz")
local macro_rules | `(tactic| walk_at "ix") => `(tactic| first | exact (rfl : (_ : List Cell)[0]? = _) | exact (rfl : (_ : List Cell)[1]? = _) | exact (rfl : (_ : List Cell)[2]? = _) | exact (rfl : (_ : List Cell)[3]? = _) | exact (rfl : (_ : List Cell)[4]? = _) | exact (rfl : (_ : List Cell)[5]? = _) | exact (rfl : (_ : List Cell)[6]? = _) | exact (rfl : (_ : List Cell)[7]? = _) | exact (rfl : (_ : List Cell)[8]? = _) | exact (rfl : (_ : List Cell)[9]? = _) | exact (rfl : (_ : List Cell)[10]? = _) | exact (rfl : (_ : List Cell)[11]? = _) | exact (rfl : (_ : List Cell)[12]? = _) | exact (rfl : (_ : List Cell)[13]? = _) | exact (rfl : (_ : List Cell)[14]? = _) | exact (rfl : (_ : List Cell)[15]? = _) | exact (rfl : (_ : List Cell)[16]? = _) | exact (rfl : (_ : List Cell)[17]? = _) | exact (rfl : (_ : List Cell)[18]? = _) | exact (rfl : (_ : List Cell)[19]? = _))
local macro_rules | `(tactic| walk_at "hp") => `(tactic| first | assumption | exact hS.get 0 rfl | exact hS.get 1 rfl | exact hS.get 2 rfl | exact hS.get 3 rfl | exact hS.get 4 rfl | exact hS.get 5 rfl | exact hS.get 6 rfl | exact hS.get 7 rfl | exact hS.get 8 rfl | exact hS.get 9 rfl | exact hS.get 10 rfl | exact hS.get 11 rfl | exact hS.get 12 rfl | exact hS.get 13 rfl | exact hS.get 14 rfl | exact hS.get 15 rfl | exact hS.ro (by assumption) | exact hS.imm (by assumption) rfl)
local macro_rules | `(tactic| walk_at "sq") => `(tactic| first | exact SqL.of (by walk_at "hp") | exact SqT.of (by walk_at "hp") | exact Scr.sq (Scr.keep (by assumption) hS.kp) | assumption | exact SqT_keep (by assumption) hS.kp)
local macro_rules | `(tactic| walk_at "lit") => `(tactic| first | exact atI_lit 0 (by omega) rfl | exact atI_lit 1 (by omega) rfl | exact atI_lit 2 (by omega) rfl | exact atI_lit 3 (by omega) rfl | exact atI_lit 4 (by omega) rfl | exact atI_lit 5 (by omega) rfl | exact atI_lit 6 (by omega) rfl | exact atI_lit 7 (by omega) rfl)
local macro_rules | `(tactic| walk_at "at") => `(tactic| first | exact rfl | exact atI_ints (by walk_at "ar") (by walk_at "ar") | exact atI_strs (by walk_at "ar") (by walk_at "ar") | exact atI_refs (by walk_at "ar") (by walk_at "ar") | walk_at "lit" | exact atI_ilit (by walk_at "ar") (by walk_at "ar") rfl | exact atI_in (by walk_at "ar") (by walk_at "ar"))
local macro_rules | `(tactic| walk_at "ij") => `(tactic| first | exact rfl | exact ixN_in (by walk_at "ar") (by walk_at "ar"))
local macro_rules | `(tactic| walk_at "ls") => `(tactic| first | ((try simp only [List.set_cons_zero, List.set_cons_succ, set_ints]); exact rfl))
local macro_rules | `(tactic| walk_at "sl") => `(tactic| repeat (first | exact List.Sublist.refl _ | refine List.Sublist.cons_cons _ ?_ | refine List.Sublist.cons _ ?_))
local macro_rules | `(tactic| walk_at "cl") => `(tactic| assumption)
local macro_rules | `(tactic| walk_at "na") => `(tactic| assumption)
local macro_rules | `(tactic| walk_at "pf") => `(tactic| first
  | (apply pf_new; (· exact rfl); (· (simp only [List.cons_append, List.nil_append]; exact rfl)))
  | (apply pf_set 0; (· exact rfl); (· walk_at "ls")) | (apply pf_set 1; (· exact rfl); (· walk_at "ls")) | (apply pf_set 2; (· exact rfl); (· walk_at "ls")) | (apply pf_set 3; (· exact rfl); (· walk_at "ls"))
  | (apply pf_set 4; (· exact rfl); (· walk_at "ls")) | (apply pf_set 5; (· exact rfl); (· walk_at "ls")) | (apply pf_set 6; (· exact rfl); (· walk_at "ls")) | (apply pf_set 7; (· exact rfl); (· walk_at "ls")))
local macro_rules | `(tactic| walk_at "nw") => `(tactic| (clear hS; rename SH _ _ _ _ => hS))
local macro_rules | `(tactic| walk_at "pv") => `(tactic| first | exact rfl | exact last_snoc _ _ | assumption)
local macro_rules | `(tactic| walk_at "dl") => `(tactic| first | (simp only [List.dropLast_concat]; exact rfl) | exact rfl)
local macro_rules | `(tactic| walk_at "tri") => `(tactic| first | rfl | decide | (exfalso; omega))
local macro_rules | `(tactic| walk_at "ty") => `(tactic| first | exact .base .non | exact .base (.bl _) | exact .base (.int _) | exact .base (.str _) | exact .base (.lst (by walk_at "hp")) | exact .base (.tup (by walk_at "hp")) | exact .base (.dK (by walk_at "hp")) | exact tyT (by walk_at "sq") | exact tyL (by walk_at "sq"))
local macro_rules | `(tactic| walk_at "dp") => `(tactic| first | exact .non | exact .bl _ | exact .int _ | exact .str _ | (apply Dp.lst; (· walk_at "sq"); (· walk_at "dps")) | (apply Dp.tup; (· walk_at "sq"); (· walk_at "dps")))
local macro_rules | `(tactic| walk_at "dps") => `(tactic| first | exact DpAll.nil | (apply DpAll.cons; (· walk_at "dp"); (· walk_at "dps")))
local macro_rules | `(tactic| walk_at "st") => `(tactic| first
  | (with_reducible refine s_seq ?_)
  | (with_reducible refine s_try ?_)
  | (with_reducible refine s_callS ?_)
  | ((with_reducible refine s_raise ?_); (try dsimp only))
  | ((with_reducible apply s_wGn); (· walk_at "em"))
  | ((with_reducible apply s_wGy); (· walk_at "em"); intro ea hea)
  | ((with_reducible apply s_wGa); (· walk_at "em"); (intro ea hea; (try simp only [List.set_cons_succ, List.set_cons_zero])))
  | ((with_reducible apply s_isE); (· walk_at "ec"); (· walk_at "ki"))
  | ((with_reducible apply s_isEt); (· walk_at "ec"); (· walk_at "ki"))
  | ((with_reducible apply s_ixD); (· walk_at "dk"))
  | ((with_reducible show tVar _ _ _ _); refine s_var rfl ?_)
  | (with_reducible refine s_C ?_)
  | (with_reducible refine s_op ?_)
  | (with_reducible refine s_asg ?_)
  | ((with_reducible apply s_gname); (· walk_at "ls"))
  | (with_reducible refine s_gsub ?_)
  | (with_reducible refine s_ifS ?_)
  | (with_reducible refine s_next ?_)
  | (with_reducible refine s_ret ?_)
  | (with_reducible refine s_retN ?_)
  | (with_reducible refine s_drop ?_)
  | (with_reducible refine s_test ?_)
  | (with_reducible refine s_tB ?_)
  | (with_reducible refine s_bl ?_)
  | ((with_reducible apply s_ixL); (· walk_at "sq"); (· walk_at "at"))
  | ((with_reducible apply s_ixT); (· walk_at "sq"); (· walk_at "at"))
  | (with_reducible refine s_addI ?_)
  | (with_reducible refine s_rI0 ?_)
  | ((with_reducible apply s_addS); (· walk_at "szs"))
  | ((with_reducible apply s_inT0); (· walk_at "sq"); (· rfl); (· rfl))
  | ((with_reducible apply s_inL0); (· walk_at "sq"); (· rfl); (· rfl))
  | ((with_reducible apply s_niT0); (· walk_at "sq"); (· rfl); (· rfl))
  | ((with_reducible apply s_niL0); (· walk_at "sq"); (· rfl); (· rfl))
  | ((with_reducible refine s_mulR ?_ ?_); (· walk_at "ar"))
  | ((with_reducible refine s_mulL ?_ ?_); (· walk_at "ar"))
  | ((with_reducible refine s_mod ?_ ?_); (· walk_at "ar"))
  | ((with_reducible refine s_div ?_ ?_ ?_); (· walk_at "ar"); (· walk_at "ar"))
  | ((with_reducible refine s_divX ?_ ?_ ?_); (· walk_at "ar"); (· walk_at "ar"))
  | ((with_reducible refine s_modN ?_ ?_); (· walk_at "ar"))
  | (with_reducible refine s_int ?_)
  | (with_reducible refine s_intB ?_)
  | (with_reducible refine s_CB ?_)
  | (with_reducible refine s_cons ?_)
  | (with_reducible refine s_nil ?_)
  | (with_reducible refine s_call ?_)
  | (with_reducible refine s_un ?_)
  | (with_reducible refine s_rU ?_)
  | ((with_reducible apply s_lenL); (· walk_at "sq"))
  | ((with_reducible apply s_lenT); (· walk_at "sq"))
  | (with_reducible refine s_eqI ?_)
  | (with_reducible refine s_neI ?_)
  | (with_reducible refine s_eqS ?_)
  | (with_reducible refine s_neS ?_)
  | (with_reducible refine s_eqB ?_)
  | (with_reducible refine s_neB ?_)
  | ((with_reducible apply s_eqD); (· walk_at "dp"); (· walk_at "dp"); (· exact rfl); (· exact rfl); (· first | exact (rfl : _ = true) | exact (rfl : _ = false) | exact rfl))
  | ((with_reducible apply s_neD); (· walk_at "dp"); (· walk_at "dp"); (· exact rfl); (· exact rfl); (· first | exact (rfl : _ = true) | exact (rfl : _ = false) | exact rfl))
  | (with_reducible refine s_isN ?_)
  | (with_reducible refine s_isNotN ?_)
  | (with_reducible refine s_isB ?_)
  | (with_reducible refine s_isNotB ?_)
  | ((with_reducible apply s_isT); (· walk_at "ty"); (· decide +kernel))
  | ((with_reducible apply s_isF); (· walk_at "ty"); (· decide +kernel))
  | (with_reducible refine s_forR1 ?_)
  | (with_reducible refine s_forR2 ?_)
  | (with_reducible refine s_forL ?_)
  | (with_reducible refine s_forT ?_)
  | (with_reducible refine s_and ?_)
  | (with_reducible refine s_or ?_)
  | (with_reducible refine s_not ?_)
  | (with_reducible refine s_andV ?_)
  | (with_reducible refine s_orV ?_)
  | (with_reducible refine s_notV ?_)
  | (with_reducible refine s_if ?_)
  | (with_reducible refine s_chain ?_)
  | (with_reducible refine s_tup ?_)
  | (with_reducible refine s_lst ?_)
  | ((with_reducible apply s_pow); (· exact ⟨by decide, by decide, by decide⟩); (· (simp only [Int.reduceToNat, Int.reducePow]; exact rfl)))
  | (with_reducible refine s_fld ?_)
  | ((with_reducible apply h_fld hS); (· walk_at "hp"); (· walk_at "cl"); (· walk_at "na"); (· exact rfl))
  | (with_reducible refine s_sfld ?_)
  | (with_reducible refine s_gattr ?_)
  | ((with_reducible apply s_gtup); (· walk_at "sq"); (· exact rfl))
  | (with_reducible refine s_gcons ?_)
  | (with_reducible refine s_gnil ?_)
  | (with_reducible refine s_bm0 ?_)
  | (with_reducible refine s_bm ?_)
  | ((with_reducible apply s_bmL); (· walk_at "sq"))
  | ((with_reducible apply s_bmT); (· walk_at "tt"); (· exact rfl))
  | (with_reducible refine s_bmS ?_)
  | ((with_reducible apply s_sum); (· walk_at "sq"))
  | ((with_reducible apply s_all); (· walk_at "sq"))
  | ((with_reducible apply s_any); (· walk_at "sq"))
  | ((with_reducible apply s_maxL2); (· walk_at "sq"))
  | ((with_reducible apply s_minL2); (· walk_at "sq"))
  | ((with_reducible apply s_methO); (· walk_at "hp"); (· exact rfl))
  | ((with_reducible apply s_propO); (· walk_at "hp"))
  | (with_reducible refine h_make hS (fun x dx H1 hS1 => ?_); walk_at "nw")
  | (with_reducible refine s_abs ?_)
  | (with_reducible refine s_max2 ?_)
  | (with_reducible refine s_min2 ?_)
  | ((with_reducible refine h_new hS ?_ (fun p H1 hS1 hp => ?_)); (· walk_at "sz"); clear hS; rename SH _ _ _ _ => hS)
  | ((with_reducible apply s_rep1); (· walk_at "hp"); (· walk_at "ar"); (· first | (simp only [Int.reduceToNat]; exact rfl) | exact rfl))
  | ((with_reducible apply s_rep); (· walk_at "hp"); (· walk_at "ar"); (· walk_at "sz"); (· exact rfl))
  | ((with_reducible apply s_cat); (· walk_at "hp"); (· walk_at "hp"); (· walk_at "sz"); (· exact rfl))
  | ((with_reducible apply s_catA0); (· walk_at "sq"); (· walk_at "sq"); (· exact List.cons_ne_nil _ _); (· walk_at "sz"))
  | ((with_reducible apply s_catA); (· walk_at "sq"); (· walk_at "sq"); (· exact List.cons_ne_nil _ _); (· exact List.cons_ne_nil _ _); (· walk_at "sz"); (· exact rfl))
  | ((with_reducible apply s_listO); (· walk_at "sq"))
  | ((with_reducible apply s_listT); (· walk_at "sq"))
  | ((with_reducible apply s_tupL); (· walk_at "sq"))
  | ((with_reducible apply s_tupT); (· walk_at "sq"))
  | ((with_reducible apply h_setL hS); (· walk_at "ix"); (· walk_at "ij"); (· walk_at "ls"); (· walk_at "ls"); intro H1 hS1; clear hS; rename SH _ _ _ _ => hS)
  | ((with_reducible apply h_sfld hS); (· walk_at "ix"); (· walk_at "cl"); (· walk_at "na"); (· exact Nat.le_of_ble_eq_true rfl); (· walk_at "pf"); (· walk_at "ls"); intro H1 hS1; walk_at "nw")
  | ((with_reducible apply h_append hS); (· walk_at "ix"); (· walk_at "sz"); (· first | exact rfl); (· walk_at "ls"); intro H1 hS1; walk_at "nw")
  | ((with_reducible apply h_pop0 hS); (· walk_at "ix"); (· walk_at "ar"); intro pn pms H1 hpn hS1; walk_at "nw"; simp only [List.set_cons_zero, List.set_cons_succ] at hS)
  | ((with_reducible apply h_pop hS); (· walk_at "ix"); (· walk_at "pv"); (· walk_at "dl"); (· walk_at "ls"); intro H1 hS1; walk_at "nw")
  | (with_reducible refine s_sl ?_)
  | (with_reducible refine s_part ?_)
  | (with_reducible refine s_partI ?_)
  | (with_reducible refine s_noPart ?_)
  | ((with_reducible apply s_slL); (· walk_at "sq"); (· exact rfl))
  | (with_reducible refine s_lcR1 ?_)
  | (with_reducible refine s_lcL ?_)
  | (with_reducible refine s_lcLG ?_)
  | ((with_reducible refine s_wipe ?_ ?_); (· exact rfl))
  | (with_reducible refine s_tYes ?_)
  | ((with_reducible apply h_lcEnd hS); (· walk_at "ix"); (· walk_at "sz"); (· first | exact rfl); (· walk_at "ls"); intro H1 hS1; walk_at "nw")
  | (with_reducible refine i_not ?_)
  | ((with_reducible refine i_pos ?_ ?_); (· first | rfl | decide | exact decide_eq_true (by omega)))
  | ((with_reducible refine i_neg ?_ ?_); (· first | rfl | decide | exact decide_eq_false (by omega)))
  | (with_reducible refine i_dec (fun hc => ?_) (fun hc => ?_))
  | (with_reducible refine i_gen (fun hc => ?_) (fun hc => ?_)))
def top (i : Nat) : Stmt := PySem.Challenge.pw_windowada_k56_encode_and_decode.main.body.getD i (.Pass ⟨0, 0, 0, 0⟩)
abbrev s_signed : Stmt := top 12
abbrev s_operand_of : Stmt := top 13
abbrev s_decode_operand : Stmt := top 14
abbrev s_decode : Stmt := top 15
abbrev s_bounded : Stmt := top 20
abbrev s_register_bits : Stmt := top 21
abbrev s_operand_bits : Stmt := top 22
abbrev s_encode : Stmt := top 23
abbrev s_z_mixed : Stmt := top 25
abbrev s_z_state : Stmt := top 26
abbrev s_z_draw : Stmt := top 27
abbrev s_z_same : Stmt := top 28
abbrev s_z_names : Stmt := top 29
abbrev s_z_ranges : Stmt := top 30
abbrev s_z_instruction : Stmt := top 31
abbrev s_z_encoded : Stmt := top 32
abbrev s_z_between : Stmt := top 33
abbrev s_z_decoded : Stmt := top 34
abbrev s_law : Stmt := top 35
abbrev N_signed : List Str := ["number", "size"]
theorem st_signed (a0 a1 : V) : L2.start N_signed [a0, a1] = [some a0, some a1] := rfl
theorem sc_signed : FnScope N_signed ["number", "size"] (defScope s_signed) := ⟨rfl, rfl, rfl, by decide +kernel, rfl, by decide +kernel, by decide +kernel⟩
abbrev N_operand_of : List Str := ["bits"]
theorem st_operand_of (a0 : V) : L2.start N_operand_of [a0] = [some a0] := rfl
theorem sc_operand_of : FnScope N_operand_of ["bits"] (defScope s_operand_of) := ⟨rfl, rfl, rfl, by decide +kernel, rfl, by decide +kernel, by decide +kernel⟩
abbrev N_decode_operand : List Str := ["name", "d", "a", "bits", "form", "operand"]
theorem st_decode_operand (a0 a1 a2 a3 : V) : L2.start N_decode_operand [a0, a1, a2, a3] = [some a0, some a1, some a2, some a3, none, none] := rfl
theorem sc_decode_operand : FnScope N_decode_operand ["name", "d", "a", "bits"] (defScope s_decode_operand) := ⟨rfl, rfl, rfl, by decide +kernel, rfl, by decide +kernel, by decide +kernel⟩
abbrev N_decode : List Str := ["word", "number", "rest", "name", "form", "d", "a", "bits", "m"]
theorem st_decode (a0 : V) : L2.start N_decode [a0] = [some a0, none, none, none, none, none, none, none, none] := rfl
theorem sc_decode : FnScope N_decode ["word"] (defScope s_decode) := ⟨rfl, rfl, rfl, by decide +kernel, rfl, by decide +kernel, by decide +kernel⟩
abbrev N_bounded : List Str := ["number", "least", "most"]
theorem st_bounded (a0 a1 a2 : V) : L2.start N_bounded [a0, a1, a2] = [some a0, some a1, some a2] := rfl
theorem sc_bounded : FnScope N_bounded ["number", "least", "most"] (defScope s_bounded) := ⟨rfl, rfl, rfl, by decide +kernel, rfl, by decide +kernel, by decide +kernel⟩
abbrev N_register_bits : List Str := ["number", "size"]
theorem st_register_bits (a0 a1 : V) : L2.start N_register_bits [a0, a1] = [some a0, some a1] := rfl
theorem sc_register_bits : FnScope N_register_bits ["number", "size"] (defScope s_register_bits) := ⟨rfl, rfl, rfl, by decide +kernel, rfl, by decide +kernel, by decide +kernel⟩
abbrev N_operand_bits : List Str := ["operand", "kind", "number"]
theorem st_operand_bits (a0 : V) : L2.start N_operand_bits [a0] = [some a0, none, none] := rfl
theorem sc_operand_bits : FnScope N_operand_bits ["operand"] (defScope s_operand_bits) := ⟨rfl, rfl, rfl, by decide +kernel, rfl, by decide +kernel, by decide +kernel⟩
abbrev N_encode : List Str := ["instruction", "name", "form", "word"]
theorem st_encode (a0 : V) : L2.start N_encode [a0] = [some a0, none, none, none] := rfl
theorem sc_encode : FnScope N_encode ["instruction"] (defScope s_encode) := ⟨rfl, rfl, rfl, by decide +kernel, rfl, by decide +kernel, by decide +kernel⟩
abbrev N_z_mixed : List Str := ["_law_number", "_law_count", "_law_first", "_law_second"]
theorem st_z_mixed (a0 a1 : V) : L2.start N_z_mixed [a0, a1] = [some a0, some a1, none, none] := rfl
theorem sc_z_mixed : FnScope N_z_mixed ["_law_number", "_law_count"] (defScope s_z_mixed) := ⟨rfl, rfl, rfl, by decide +kernel, rfl, by decide +kernel, by decide +kernel⟩
abbrev N_z_state : List Str := ["_law_script", "_law_budget"]
theorem st_z_state (a0 a1 : V) : L2.start N_z_state [a0, a1] = [some a0, some a1] := rfl
theorem sc_z_state : FnScope N_z_state ["_law_script", "_law_budget"] (defScope s_z_state) := ⟨rfl, rfl, rfl, by decide +kernel, rfl, by decide +kernel, by decide +kernel⟩
abbrev N_z_draw : List Str := ["_law_state_here", "_law_many", "_law_cells", "_law_cell", "_law_digit"]
theorem st_z_draw (a0 a1 : V) : L2.start N_z_draw [a0, a1] = [some a0, some a1, none, none, none] := rfl
theorem sc_z_draw : FnScope N_z_draw ["_law_state_here", "_law_many"] (defScope s_z_draw) := ⟨rfl, rfl, rfl, by decide +kernel, rfl, by decide +kernel, by decide +kernel⟩
abbrev N_z_same : List Str := ["_law_actual", "_law_due", "_law_k"]
theorem st_z_same (a0 a1 : V) : L2.start N_z_same [a0, a1] = [some a0, some a1, none] := rfl
theorem sc_z_same : FnScope N_z_same ["_law_actual", "_law_due"] (defScope s_z_same) := ⟨rfl, rfl, rfl, by decide +kernel, rfl, by decide +kernel, by decide +kernel⟩
abbrev N_z_names : List Str := ["_law_names_here"]
theorem st_z_names : L2.start N_z_names [] = [none] := rfl
theorem sc_z_names : FnScope N_z_names [] (defScope s_z_names) := ⟨rfl, rfl, rfl, by decide +kernel, rfl, by decide +kernel, by decide +kernel⟩
abbrev N_z_ranges : List Str := ["_law_name", "_law_kind", "_law_r", "_law_s"]
theorem st_z_ranges (a0 a1 : V) : L2.start N_z_ranges [a0, a1] = [some a0, some a1, none, none] := rfl
theorem sc_z_ranges : FnScope N_z_ranges ["_law_name", "_law_kind"] (defScope s_z_ranges) := ⟨rfl, rfl, rfl, by decide +kernel, rfl, by decide +kernel, by decide +kernel⟩
abbrev N_z_instruction : List Str := ["_law_name", "_law_kind", "_law_numbers"]
theorem st_z_instruction (a0 a1 a2 : V) : L2.start N_z_instruction [a0, a1, a2] = [some a0, some a1, some a2] := rfl
theorem sc_z_instruction : FnScope N_z_instruction ["_law_name", "_law_kind", "_law_numbers"] (defScope s_z_instruction) := ⟨rfl, rfl, rfl, by decide +kernel, rfl, by decide +kernel, by decide +kernel⟩
abbrev N_z_encoded : List Str := ["_law_name", "_law_kind", "_law_numbers", "_law_word"]
theorem st_z_encoded (a0 a1 a2 : V) : L2.start N_z_encoded [a0, a1, a2] = [some a0, some a1, some a2, none] := rfl
theorem sc_z_encoded : FnScope N_z_encoded ["_law_name", "_law_kind", "_law_numbers"] (defScope s_z_encoded) := ⟨rfl, rfl, rfl, by decide +kernel, rfl, by decide +kernel, by decide +kernel⟩
abbrev N_z_between : List Str := ["_law_state_here", "_law_low", "_law_high", "_law_choice"]
theorem st_z_between (a0 a1 a2 : V) : L2.start N_z_between [a0, a1, a2] = [some a0, some a1, some a2, none] := rfl
theorem sc_z_between : FnScope N_z_between ["_law_state_here", "_law_low", "_law_high"] (defScope s_z_between) := ⟨rfl, rfl, rfl, by decide +kernel, rfl, by decide +kernel, by decide +kernel⟩
abbrev N_z_decoded : List Str := ["_law_word", "_law_name", "_law_rest", "_law_kind", "_law_bits", "_law_n", "_law_numbers", "_law_ranges_here", "_law_k"]
theorem st_z_decoded (a0 : V) : L2.start N_z_decoded [a0] = [some a0, none, none, none, none, none, none, none, none] := rfl
theorem sc_z_decoded : FnScope N_z_decoded ["_law_word"] (defScope s_z_decoded) := ⟨rfl, rfl, rfl, by decide +kernel, rfl, by decide +kernel, by decide +kernel⟩
abbrev N_law : List Str := ["_law_script", "_law_state_here", "_law_name", "_law_kind", "_law_low", "_law_high", "_law_numbers", "_law_instruction_here", "_law_word", "_law_other"]
theorem st_law (a0 : V) : L2.start N_law [a0] = [some a0, none, none, none, none, none, none, none, none, none] := rfl
theorem sc_law : FnScope N_law ["_law_script"] (defScope s_law) := ⟨rfl, rfl, rfl, by decide +kernel, rfl, by decide +kernel, by decide +kernel⟩
structure Env (w : World) (K : PySem.W.Frag) (mg : Str → Option Value) : Prop where
  mg_signed : mg "signed" = some (.ref (He.ga K "signed"))
  mg_operand_of : mg "operand_of" = some (.ref (He.ga K "operand_of"))
  mg_decode_operand : mg "decode_operand" = some (.ref (He.ga K "decode_operand"))
  mg_decode : mg "decode" = some (.ref (He.ga K "decode"))
  mg_bounded : mg "bounded" = some (.ref (He.ga K "bounded"))
  mg_register_bits : mg "register_bits" = some (.ref (He.ga K "register_bits"))
  mg_operand_bits : mg "operand_bits" = some (.ref (He.ga K "operand_bits"))
  mg_encode : mg "encode" = some (.ref (He.ga K "encode"))
  mg_z_mixed : mg "_law_mixed" = some (.ref (He.ga K "_law_mixed"))
  mg_z_state : mg "_law_state" = some (.ref (He.ga K "_law_state"))
  mg_z_draw : mg "_law_draw" = some (.ref (He.ga K "_law_draw"))
  mg_z_same : mg "_law_same" = some (.ref (He.ga K "_law_same"))
  mg_z_names : mg "_law_names" = some (.ref (He.ga K "_law_names"))
  mg_z_ranges : mg "_law_ranges" = some (.ref (He.ga K "_law_ranges"))
  mg_z_instruction : mg "_law_instruction" = some (.ref (He.ga K "_law_instruction"))
  mg_z_encoded : mg "_law_encoded" = some (.ref (He.ga K "_law_encoded"))
  mg_z_between : mg "_law_between" = some (.ref (He.ga K "_law_between"))
  mg_z_decoded : mg "_law_decoded" = some (.ref (He.ga K "_law_decoded"))
  mg_law : mg "law" = some (.ref (He.ga K "law"))
  mg_AdaError : mg "AdaError" = some (.ref (He.ga K "AdaError"))
  mg_ImageError : mg "ImageError" = some (.ref (He.ga K "ImageError"))
  ef_ImageError : ExcF K (He.ga K "ImageError")
  mg_NAMES : mg "NAMES" = some (.ref (He.ga K "NAMES"))
  tp_NAMES : ∀ H : Hp, SqT K H (He.ga K "NAMES") [V.str "halt", V.str "add", V.str "sub", V.str "mul", V.str "div", V.str "mod", V.str "rem", V.str "less", V.str "equal", V.str "high", V.str "low", V.str "load", V.str "store", V.str "jump", V.str "branch", V.str "call", V.str "save", V.str "restore", V.str "back", V.str "raise", V.str "again", V.str "tick", V.str "put", V.str "get", V.str "below", V.str "above", V.str "bar", V.str "setbar", V.str "retry"]
  tt_NAMES : ∃ o, K.lookup (He.ga K "NAMES") = some o ∧ o.cls = .type "tuple" ∧ o.dict = none
  mg_FORMS : mg "FORMS" = some (.ref (He.ga K "FORMS"))
  dk_FORMS : ∀ q ∈ ([("halt", .str ""), ("restore", .str ""), ("back", .str ""), ("tick", .str ""), ("retry", .str ""), ("add", .str "das"), ("sub", .str "das"), ("mul", .str "das"), ("div", .str "das"), ("mod", .str "das"), ("rem", .str "das"), ("less", .str "das"), ("equal", .str "das"), ("load", .str "das"), ("store", .str "das"), ("save", .str "das"), ("low", .str "dam"), ("high", .str "dn"), ("branch", .str "dn"), ("jump", .str "j"), ("call", .str "c"), ("raise", .str "c"), ("again", .str "as"), ("below", .str "as"), ("above", .str "as"), ("put", .str "s"), ("setbar", .str "s"), ("get", .str "d"), ("bar", .str "d")] : List (Str × He.Dv)), KDct K w (He.ga K "FORMS") q.1 (q.2.v K)
  c_LEAST_OPERAND : ∃ t, mg "LEAST_OPERAND" = some (.int (-16384) t)
  c_MOST_OPERAND : ∃ t, mg "MOST_OPERAND" = some (.int (16383) t)
  c_PAGE : ∃ t, mg "PAGE" = some (.int (2048) t)
  c_LEAST_N : ∃ t, mg "LEAST_N" = some (.int (-1048576) t)
  c_MOST_N : ∃ t, mg "MOST_N" = some (.int (1048575) t)
  c_LEAST_JUMP : ∃ t, mg "LEAST_JUMP" = some (.int (-33554432) t)
  c_MOST_JUMP : ∃ t, mg "MOST_JUMP" = some (.int (33554431) t)
  c_MOST_ADDRESS : ∃ t, mg "MOST_ADDRESS" = some (.int (67108863) t)
  mg_BAD : mg "BAD" = some (.ref (He.ga K "BAD"))
  tp_BAD : ∀ H : Hp, SqT K H (He.ga K "BAD") [V.str "bad"]
  ec_ImageError : ExcC K (He.ga K "ImageError")
  z_ValueError : mg "ValueError" = none
  z_abs : mg "abs" = none
  z_all : mg "all" = none
  z_bool : mg "bool" = none
  z_int : mg "int" = none
  z_isinstance : mg "isinstance" = none
  z_len : mg "len" = none
  z_list : mg "list" = none
  z_max : mg "max" = none
  z_min : mg "min" = none
  z_range : mg "range" = none
  z_str : mg "str" = none
  z_sum : mg "sum" = none
  z_tuple : mg "tuple" = none
  fd_signed : ∃ fd, FunD K "signed" "signed" (defArgs s_signed) (defBody s_signed) (defScope s_signed) [] [] (He.fAd K ("signed", none)) fd
  fd_operand_of : ∃ fd, FunD K "operand_of" "operand_of" (defArgs s_operand_of) (defBody s_operand_of) (defScope s_operand_of) [] [] (He.fAd K ("operand_of", none)) fd
  fd_decode_operand : ∃ fd, FunD K "decode_operand" "decode_operand" (defArgs s_decode_operand) (defBody s_decode_operand) (defScope s_decode_operand) [] [] (He.fAd K ("decode_operand", none)) fd
  fd_decode : ∃ fd, FunD K "decode" "decode" (defArgs s_decode) (defBody s_decode) (defScope s_decode) [] [] (He.fAd K ("decode", none)) fd
  fd_bounded : ∃ fd, FunD K "bounded" "bounded" (defArgs s_bounded) (defBody s_bounded) (defScope s_bounded) [] [] (He.fAd K ("bounded", none)) fd
  fd_register_bits : ∃ fd, FunD K "register_bits" "register_bits" (defArgs s_register_bits) (defBody s_register_bits) (defScope s_register_bits) [] [] (He.fAd K ("register_bits", none)) fd
  fd_operand_bits : ∃ fd, FunD K "operand_bits" "operand_bits" (defArgs s_operand_bits) (defBody s_operand_bits) (defScope s_operand_bits) [] [] (He.fAd K ("operand_bits", none)) fd
  fd_encode : ∃ fd, FunD K "encode" "encode" (defArgs s_encode) (defBody s_encode) (defScope s_encode) [] [] (He.fAd K ("encode", none)) fd
  fd_z_mixed : ∃ fd, FunD K "_law_mixed" "_law_mixed" (defArgs s_z_mixed) (defBody s_z_mixed) (defScope s_z_mixed) [] [] (He.fAd K ("_law_mixed", none)) fd
  fd_z_state : ∃ fd, FunD K "_law_state" "_law_state" (defArgs s_z_state) (defBody s_z_state) (defScope s_z_state) [] [] (He.fAd K ("_law_state", none)) fd
  fd_z_draw : ∃ fd, FunD K "_law_draw" "_law_draw" (defArgs s_z_draw) (defBody s_z_draw) (defScope s_z_draw) [] [] (He.fAd K ("_law_draw", none)) fd
  fd_z_same : ∃ fd, FunD K "_law_same" "_law_same" (defArgs s_z_same) (defBody s_z_same) (defScope s_z_same) [] [] (He.fAd K ("_law_same", none)) fd
  fd_z_names : ∃ fd, FunD K "_law_names" "_law_names" (defArgs s_z_names) (defBody s_z_names) (defScope s_z_names) [] [] (He.fAd K ("_law_names", none)) fd
  fd_z_ranges : ∃ fd, FunD K "_law_ranges" "_law_ranges" (defArgs s_z_ranges) (defBody s_z_ranges) (defScope s_z_ranges) [] [] (He.fAd K ("_law_ranges", none)) fd
  fd_z_instruction : ∃ fd, FunD K "_law_instruction" "_law_instruction" (defArgs s_z_instruction) (defBody s_z_instruction) (defScope s_z_instruction) [] [] (He.fAd K ("_law_instruction", none)) fd
  fd_z_encoded : ∃ fd, FunD K "_law_encoded" "_law_encoded" (defArgs s_z_encoded) (defBody s_z_encoded) (defScope s_z_encoded) [] [] (He.fAd K ("_law_encoded", none)) fd
  fd_z_between : ∃ fd, FunD K "_law_between" "_law_between" (defArgs s_z_between) (defBody s_z_between) (defScope s_z_between) [] [] (He.fAd K ("_law_between", none)) fd
  fd_z_decoded : ∃ fd, FunD K "_law_decoded" "_law_decoded" (defArgs s_z_decoded) (defBody s_z_decoded) (defScope s_z_decoded) [] [] (He.fAd K ("_law_decoded", none)) fd
  fd_law : ∃ fd, FunD K "law" "law" (defArgs s_law) (defBody s_law) (defScope s_law) [] [] (He.fAd K ("law", none)) fd
def fa : List He.Fa := [.glo "signed", .glo "operand_of", .glo "decode_operand", .glo "decode", .glo "bounded", .glo "register_bits", .glo "operand_bits", .glo "encode", .glo "_law_mixed", .glo "_law_state", .glo "_law_draw", .glo "_law_same", .glo "_law_names", .glo "_law_ranges", .glo "_law_instruction", .glo "_law_encoded", .glo "_law_between", .glo "_law_decoded", .glo "law", .glo "AdaError", .glo "ImageError", .exc "ImageError", .glo "NAMES", .glo "FORMS", .int "LEAST_OPERAND" (-16384), .int "MOST_OPERAND" (16383), .int "PAGE" (2048), .int "LEAST_N" (-1048576), .int "MOST_N" (1048575), .int "LEAST_JUMP" (-33554432), .int "MOST_JUMP" (33554431), .int "MOST_ADDRESS" (67108863), .glo "BAD", .free "ValueError", .free "abs", .free "all", .free "bool", .free "int", .free "isinstance", .free "len", .free "list", .free "max", .free "min", .free "range", .free "str", .free "sum", .free "tuple"]
def fn : List He.DefD := [⟨("signed", none), "signed", "signed", defArgs s_signed, defBody s_signed, defScope s_signed, [], []⟩, ⟨("operand_of", none), "operand_of", "operand_of", defArgs s_operand_of, defBody s_operand_of, defScope s_operand_of, [], []⟩, ⟨("decode_operand", none), "decode_operand", "decode_operand", defArgs s_decode_operand, defBody s_decode_operand, defScope s_decode_operand, [], []⟩, ⟨("decode", none), "decode", "decode", defArgs s_decode, defBody s_decode, defScope s_decode, [], []⟩, ⟨("bounded", none), "bounded", "bounded", defArgs s_bounded, defBody s_bounded, defScope s_bounded, [], []⟩, ⟨("register_bits", none), "register_bits", "register_bits", defArgs s_register_bits, defBody s_register_bits, defScope s_register_bits, [], []⟩, ⟨("operand_bits", none), "operand_bits", "operand_bits", defArgs s_operand_bits, defBody s_operand_bits, defScope s_operand_bits, [], []⟩, ⟨("encode", none), "encode", "encode", defArgs s_encode, defBody s_encode, defScope s_encode, [], []⟩, ⟨("_law_mixed", none), "_law_mixed", "_law_mixed", defArgs s_z_mixed, defBody s_z_mixed, defScope s_z_mixed, [], []⟩, ⟨("_law_state", none), "_law_state", "_law_state", defArgs s_z_state, defBody s_z_state, defScope s_z_state, [], []⟩, ⟨("_law_draw", none), "_law_draw", "_law_draw", defArgs s_z_draw, defBody s_z_draw, defScope s_z_draw, [], []⟩, ⟨("_law_same", none), "_law_same", "_law_same", defArgs s_z_same, defBody s_z_same, defScope s_z_same, [], []⟩, ⟨("_law_names", none), "_law_names", "_law_names", defArgs s_z_names, defBody s_z_names, defScope s_z_names, [], []⟩, ⟨("_law_ranges", none), "_law_ranges", "_law_ranges", defArgs s_z_ranges, defBody s_z_ranges, defScope s_z_ranges, [], []⟩, ⟨("_law_instruction", none), "_law_instruction", "_law_instruction", defArgs s_z_instruction, defBody s_z_instruction, defScope s_z_instruction, [], []⟩, ⟨("_law_encoded", none), "_law_encoded", "_law_encoded", defArgs s_z_encoded, defBody s_z_encoded, defScope s_z_encoded, [], []⟩, ⟨("_law_between", none), "_law_between", "_law_between", defArgs s_z_between, defBody s_z_between, defScope s_z_between, [], []⟩, ⟨("_law_decoded", none), "_law_decoded", "_law_decoded", defArgs s_z_decoded, defBody s_z_decoded, defScope s_z_decoded, [], []⟩, ⟨("law", none), "law", "law", defArgs s_law, defBody s_law, defScope s_law, [], []⟩]
def exl : List (PySem.W.Frag → Bool) := [(fun K => He.tupB K "NAMES" [.str "halt", .str "add", .str "sub", .str "mul", .str "div", .str "mod", .str "rem", .str "less", .str "equal", .str "high", .str "low", .str "load", .str "store", .str "jump", .str "branch", .str "call", .str "save", .str "restore", .str "back", .str "raise", .str "again", .str "tick", .str "put", .str "get", .str "below", .str "above", .str "bar", .str "setbar", .str "retry"]), (fun K => tupDB K "NAMES"), (fun K => He.valsB K (He.ga K "FORMS") [("halt", .str ""), ("restore", .str ""), ("back", .str ""), ("tick", .str ""), ("retry", .str ""), ("add", .str "das"), ("sub", .str "das"), ("mul", .str "das"), ("div", .str "das"), ("mod", .str "das"), ("rem", .str "das"), ("less", .str "das"), ("equal", .str "das"), ("load", .str "das"), ("store", .str "das"), ("save", .str "das"), ("low", .str "dam"), ("high", .str "dn"), ("branch", .str "dn"), ("jump", .str "j"), ("call", .str "c"), ("raise", .str "c"), ("again", .str "as"), ("below", .str "as"), ("above", .str "as"), ("put", .str "s"), ("setbar", .str "s"), ("get", .str "d"), ("bar", .str "d")]), (fun K => He.tupB K "BAD" [.str "bad"]), (fun K => excCB K "ImageError")]
def ex (K : PySem.W.Frag) : Bool := exl.all fun f => f K
def ts : List He.Tab := [((fun K => He.ga K "FORMS"), ["halt", "restore", "back", "tick", "retry", "add", "sub", "mul", "div", "mod", "rem", "less", "equal", "load", "store", "save", "low", "high", "branch", "jump", "call", "raise", "again", "below", "above", "put", "setbar", "get", "bar"])]
theorem env_mk {w : World} {K : PySem.W.Frag} {h : Heap} {mg : Str → Option Value} (X : K.In h) (G : h.Ns mainGlobals mg) (c : He.SaysX fa fn ts [] ex w h K) : Env w K mg := ⟨
  He.glo_ok X G (c.t.d.fact 0 rfl),
  He.glo_ok X G (c.t.d.fact 1 rfl),
  He.glo_ok X G (c.t.d.fact 2 rfl),
  He.glo_ok X G (c.t.d.fact 3 rfl),
  He.glo_ok X G (c.t.d.fact 4 rfl),
  He.glo_ok X G (c.t.d.fact 5 rfl),
  He.glo_ok X G (c.t.d.fact 6 rfl),
  He.glo_ok X G (c.t.d.fact 7 rfl),
  He.glo_ok X G (c.t.d.fact 8 rfl),
  He.glo_ok X G (c.t.d.fact 9 rfl),
  He.glo_ok X G (c.t.d.fact 10 rfl),
  He.glo_ok X G (c.t.d.fact 11 rfl),
  He.glo_ok X G (c.t.d.fact 12 rfl),
  He.glo_ok X G (c.t.d.fact 13 rfl),
  He.glo_ok X G (c.t.d.fact 14 rfl),
  He.glo_ok X G (c.t.d.fact 15 rfl),
  He.glo_ok X G (c.t.d.fact 16 rfl),
  He.glo_ok X G (c.t.d.fact 17 rfl),
  He.glo_ok X G (c.t.d.fact 18 rfl),
  He.glo_ok X G (c.t.d.fact 19 rfl),
  He.glo_ok X G (c.t.d.fact 20 rfl),
  excF_ok (c.t.d.fact 21 rfl),
  He.glo_ok X G (c.t.d.fact 22 rfl),
  fun H => He.tupB_ok (exget c.more 0 rfl) H,
  tupDB_ok (exget c.more 1 rfl),
  He.glo_ok X G (c.t.d.fact 23 rfl),
  kdct_ok (c.t.tab 0 rfl) (exget c.more 2 rfl),
  He.int_ok X G (c.t.d.fact 24 rfl),
  He.int_ok X G (c.t.d.fact 25 rfl),
  He.int_ok X G (c.t.d.fact 26 rfl),
  He.int_ok X G (c.t.d.fact 27 rfl),
  He.int_ok X G (c.t.d.fact 28 rfl),
  He.int_ok X G (c.t.d.fact 29 rfl),
  He.int_ok X G (c.t.d.fact 30 rfl),
  He.int_ok X G (c.t.d.fact 31 rfl),
  He.glo_ok X G (c.t.d.fact 32 rfl),
  fun H => He.tupB_ok (exget c.more 3 rfl) H,
  excCB_ok (exget c.more 4 rfl),
  He.free_ok X G (c.t.d.fact 33 rfl),
  He.free_ok X G (c.t.d.fact 34 rfl),
  He.free_ok X G (c.t.d.fact 35 rfl),
  He.free_ok X G (c.t.d.fact 36 rfl),
  He.free_ok X G (c.t.d.fact 37 rfl),
  He.free_ok X G (c.t.d.fact 38 rfl),
  He.free_ok X G (c.t.d.fact 39 rfl),
  He.free_ok X G (c.t.d.fact 40 rfl),
  He.free_ok X G (c.t.d.fact 41 rfl),
  He.free_ok X G (c.t.d.fact 42 rfl),
  He.free_ok X G (c.t.d.fact 43 rfl),
  He.free_ok X G (c.t.d.fact 44 rfl),
  He.free_ok X G (c.t.d.fact 45 rfl),
  He.free_ok X G (c.t.d.fact 46 rfl),
  c.t.d.def_ 0 rfl,
  c.t.d.def_ 1 rfl,
  c.t.d.def_ 2 rfl,
  c.t.d.def_ 3 rfl,
  c.t.d.def_ 4 rfl,
  c.t.d.def_ 5 rfl,
  c.t.d.def_ 6 rfl,
  c.t.d.def_ 7 rfl,
  c.t.d.def_ 8 rfl,
  c.t.d.def_ 9 rfl,
  c.t.d.def_ 10 rfl,
  c.t.d.def_ 11 rfl,
  c.t.d.def_ 12 rfl,
  c.t.d.def_ 13 rfl,
  c.t.d.def_ 14 rfl,
  c.t.d.def_ 15 rfl,
  c.t.d.def_ 16 rfl,
  c.t.d.def_ 17 rfl,
  c.t.d.def_ 18 rfl⟩
local macro_rules | `(tactic| walk_at "tt") => `(tactic| first | (with_reducible exact Y.tt_NAMES))
local macro_rules | `(tactic| walk_at "ef") => `(tactic| first | (with_reducible exact Y.ef_ImageError))
local macro_rules | `(tactic| walk_at "ec") => `(tactic| first | (with_reducible exact Y.ec_ImageError))
/-! ### the head: facts by names, the run -/
abbrev R : PySem.W.OpenRow := PySem.W.OpenLaw.row PySem.Challenge.rw_windowada_k56_encode_and_decode
abbrev hk : PySem.W.Hook := He.hookX 5 fa fn ts [] ex
def ob (s : PySem.W.SharedT) : He.AlX := He.obsX 5 fa fn ts [] ex (HandSHeadRun.getT s)
theorem ob_eq (s : PySem.W.SharedT) : ob s = hk.obs s.abs := He.obsX_eq (HandSHeadRun.getT_eq s)
def loose : List Str := (["NAMES", "FORMS", "LEAST_OPERAND", "MOST_OPERAND", "PAGE", "LEAST_N", "MOST_N", "LEAST_JUMP", "MOST_JUMP", "MOST_ADDRESS", "__name__", "BAD", "signed", "operand_of", "decode_operand", "decode", "AdaError", "ImageError", "bounded", "register_bits", "operand_bits", "encode", "_law_mixed", "_law_state", "_law_draw", "_law_same", "_law_names", "_law_ranges", "_law_instruction", "_law_encoded", "_law_between", "_law_decoded"] : List Str)
theorem runF (w : World) : HandSHeadRun.RunEq R (PySem.W.view R.prog [35]) hk ob 4000 loose (w.withFollow "special-get-raises" false) := by
  intro os
  kernel_rfl
theorem runT (w : World) : HandSHeadRun.RunEq R (PySem.W.view R.prog [35]) hk ob 4000 loose (w.withFollow "special-get-raises" true) := by
  intro os
  kernel_rfl
theorem run (w : World) : HandSHeadRun.RunEq R (PySem.W.view R.prog [35]) hk ob 4000 loose w := by
  exact PySem.W.byRow2 "special-get-raises" (P := fun w => HandSHeadRun.RunEq R (PySem.W.view R.prog [35]) hk ob 4000 loose w) runF runT w
/-! ### the law's draws: a list [numbers, place, rest, count, seed, budget] -/
abbrev stD (q : Addr) (i c n sd b : Int) : HO := .lst [.ref q, .int i, .int c, .int n, .int sd, .int b]
def sp_z_mixed (K : PySem.W.Frag) : Sp := mk2 fun a b H Q _ => ∃ x y : Int, a = .int x ∧ b = .int y ∧ ∀ n, Q (.int n) H
theorem ok_z_mixed {P : Program} {w : World} {K : PySem.W.Frag} {mg : Str → Option Value} {base : Heap} (Y : Env w K mg)  : CallOk P w K mg base CX0 1 "_law_mixed" ["_law_number", "_law_count"] (sp_z_mixed K) := Hsh.un (by simp (disch := k_dflt (
  refine Hsh.up ?_
  obtain ⟨fd, F⟩ := Y.fd_z_mixed
  refine ⟨_, fd, Y.mg_z_mixed, F.kp, F.bindsN (fun _ _ _ _ _ _ us hl => match us, hl with | [_, _], _ => rfl), F.ok sc_z_mixed mk2_len (fun cdv A outer s H vs Q E hr h => ?_)⟩
  have hu := hu_room hr
  obtain ⟨_, _, rfl, x, y, rfl, rfl, k⟩ := h
  have hS : SH [] H H [] := SH.start0
  refine ⟨_, PSs.nox (pss_cons (ps_set (i := 2) sc_z_mixed.nd rfl (Or.inl rfl) (pe_op xMod (pe_callTy x_int rfl Y.z_int (by decide +kernel) (pa_cons (pe_op xAdd (pe_op xAdd (pe_op xMul (pv 0) pe_int) (pe_op xMul (pv 1) pe_int)) pe_int) pa_nil)) pe_int))
  (pss_cons (ps_set (i := 3) sc_z_mixed.nd rfl (Or.inl rfl) (pe_op xMod (pe_callTy x_int rfl Y.z_int (by decide +kernel) (pa_cons (pe_op xAdd (pe_op xAdd (pe_op xMul (pv 2) (pv 2)) (pv 0)) (pe_op xMul (pv 1) pe_int)) pa_nil)) pe_int))
  (pss_one (ps_ret (pe_op xAdd (pv 3) (pe_op xDiv (pv 2) pe_int)))))), ?_⟩
  rw [st_z_mixed]
  try simp only [cxK, cxK2, cxW, cxW2]
  clear hu hr F
  repeat' walk_at "st"
  exact k _
  )) only [↓Hsh.on])
theorem c_z_mixed {K : PySem.W.Frag} {H : Hp} {x y : Int} {Q : VK} {E : XK} (k : ∀ n, Q (.int n) H) : sp_z_mixed K ([.int x, .int y] ++ []) H Q E := ⟨_, _, rfl, x, y, rfl, rfl, k⟩
local macro_rules | `(tactic| walk_at "st") => `(tactic| first | (with_reducible refine c_z_mixed (fun mx => ?_)))
def sp_z_state (K : PySem.W.Frag) : Sp := mk2 fun a b H Q _ => ∃ (s : Addr) (ns : List Int) (bu : Int), a = .ref s ∧ b = .int bu ∧ Scr K H s (ns.map V.int) ∧
  ∀ p q sd H', SH [] H H' [(p, stD q 0 0 0 sd bu), (q, .lst (ns.map V.int))] → Q (.ref p) H'
theorem ok_z_state {P : Program} {w : World} {K : PySem.W.Frag} {mg : Str → Option Value} {base : Heap} (Y : Env w K mg)  : CallOk P w K mg base CX0 1 "_law_state" ["_law_script", "_law_budget"] (sp_z_state K) := Hsh.un (by simp (disch := k_dflt (
  refine Hsh.up ?_
  obtain ⟨fd, F⟩ := Y.fd_z_state
  refine ⟨_, fd, Y.mg_z_state, F.kp, F.bindsN (fun _ _ _ _ _ _ us hl => match us, hl with | [_, _], _ => rfl), F.ok sc_z_state mk2_len (fun cdv A outer s H vs Q E hr h => ?_)⟩
  have hu := hu_room hr
  obtain ⟨_, _, rfl, sc, ns, bu, rfl, rfl, hs, k⟩ := h
  have hS : SH [] H H [] := SH.start0
  refine ⟨_, PSs.nox (pss_one (ps_ret (pe_lst (pa_cons (pe_callTy x_list rfl Y.z_list (by decide +kernel) (pa_cons (pv 0) pa_nil)) (pa_cons pe_int (pa_cons pe_int (pa_cons pe_int (pa_cons (pe_op xAdd (pe_op xMod (pe_callTy x_int rfl Y.z_int (by decide +kernel) (pa_cons (pe_callB (x_sum rfl) rfl Y.z_sum (by decide +kernel) (pa_cons (pv 0) pa_nil)) pa_nil)) (pe_op op_pow pe_int pe_int)) (pe_callB x_len rfl Y.z_len (by decide +kernel) (pa_cons (pv 0) pa_nil))) (pa_cons (pv 1) pa_nil))))))))), ?_⟩
  rw [st_z_state]
  try simp only [cxK, cxK2, cxW, cxW2]
  clear hu hr F
  repeat' walk_at "st"
  exact k _ _ _ _ hS
  )) only [↓Hsh.on])
theorem c_z_state {K : PySem.W.Frag} {A : List Addr} {H0 H : Hp} {L : List Cell} {s : Addr} {ns : List Int} {bu : Int} {Q : VK} {E : XK} (hS : SH A H0 H L) (sc : Scr K H0 s (ns.map V.int))
    (k : ∀ p q sd H', SH A H0 H' ((p, stD q 0 0 0 sd bu) :: (q, .lst (ns.map V.int)) :: L) → Q (.ref p) H') : sp_z_state K ([.ref s, .int bu] ++ []) H Q E :=
  ⟨_, _, rfl, s, ns, bu, rfl, rfl, sc.keep hS.kp, fun p q sd H' C => k p q sd H' (SH.call (B := []) (F := L) hS C)⟩
local macro_rules | `(tactic| walk_at "st") => `(tactic| first
  | ((with_reducible show sp_z_state _ _ _ _ _); apply c_z_state hS; (· assumption); intro pst qst sd H1 hS1; clear hS; rename SH _ _ _ _ => hS))
theorem start2 {H : Hp} {p q : Addr} {o u : HO} (hp : H p = some o) (hq : H q = some u) (ne : q ≠ p) : SH [p, q] H H [(p, o), (q, u)] := Hsh.un (by simp (disch := k_dflt (
  refine Hsh.up ?_
  refine SH.start (L := [(p, o), (q, u)]) (fun d hd => ?_) (by simp [Ne.symm ne])
  rcases List.mem_cons.mp hd with rfl | hd
  · exact hp
  · rw [List.mem_singleton.mp hd]; exact hq
  )) only [↓Hsh.on])
/-- what a call did that changed the first of two cells -/
theorem keep1 {H H' : Hp} {p q : Addr} {u : HO} {L : List Cell} (S : SH [p, q] H H' L) (hq : H q = some u) (e : H' q = some u) : Keep [p] H H' := ⟨fun b o hb z => by
    by_cases y : b = q
    · subst y
      rw [hq] at hb
      cases hb
      exact e
    · refine S.kp.k b o hb (z.imp (fun z w => ?_) id)
      rcases List.mem_cons.mp w with w | w
      · exact z (by rw [w]; exact List.mem_singleton.mpr rfl)
      · exact y (List.mem_singleton.mp w), S.kp.d⟩
def sp_z_draw (K : PySem.W.Frag) : Sp := mk2 fun a b H Q _ => ∃ (p q : Addr) (ns : List Int) (i c n sd bu lim : Int), a = .ref p ∧ b = .int lim ∧ H p = some (stD q i c n sd bu) ∧ H q = some (.lst (ns.map V.int)) ∧ q ≠ p ∧ 0 ≤ i ∧ 0 < lim ∧ lim < 2 ^ 64 ∧
  ∀ (r i' c' n' : Int) H', 0 ≤ r → r < lim → 0 ≤ i' → H' p = some (stD q i' c' n' sd bu) → Keep [p] H H' → Q (.int r) H'
theorem ok_z_draw {P : Program} {w : World} {K : PySem.W.Frag} {mg : Str → Option Value} {base : Heap} (Y : Env w K mg) (G_z_mixed : CallOk P w K mg base CX0 1 "_law_mixed" ["_law_number", "_law_count"] (sp_z_mixed K)) : CallOk P w K mg base CX0 2 "_law_draw" ["_law_state_here", "_law_many"] (sp_z_draw K) := Hsh.un (by simp (disch := k_dflt (
  refine Hsh.up ?_
  obtain ⟨fd, F⟩ := Y.fd_z_draw
  refine ⟨_, fd, Y.mg_z_draw, F.kp, F.bindsN (fun _ _ _ _ _ _ us hl => match us, hl with | [_, _], _ => rfl), F.ok sc_z_draw mk2_len (fun cdv A outer s H vs Q E hr h => ?_)⟩
  have hu := hu_room hr
  obtain ⟨_, _, rfl, p, q, ns, i, c, n, sd, bu, lim, rfl, rfl, hp, hq, ne, hi, hl, hl2, k⟩ := h
  have hS : SH [p, q] H H [(p, stD q i c n sd bu), (q, .lst (ns.map V.int))] := start2 hp hq ne
  refine ⟨_, PSs.nox (pss_cons (ps_set (i := 2) sc_z_draw.nd rfl (Or.inl rfl) (pe_ix xIx (pv 0) pe_int (fun _ _ => rfl)))
  (pss_cons (ps_asg (pe_op xAdd (pe_ix xIx (pv 0) pe_int (fun _ _ => rfl)) pe_int) (pg_sub (pv 0) pe_int set_list))
  (pss_cons (ps_if (PW.pt (pw_and (pt_cmpR (xEq hu) (pe_ix xIx (pv 0) pe_int (fun _ _ => rfl)) pe_int (nomark _)) (pw_and1 (pt_cmpR op_lt (pe_ix xIx (pv 0) pe_int (fun _ _ => rfl)) (pe_callB x_len rfl Y.z_len (by decide +kernel) (pa_cons (pv 2) pa_nil)) (nomark _))))) (pss_cons (ps_asg (pe_op xAdd (pe_ix xIx (pv 0) pe_int (fun _ _ => rfl)) pe_int) (pg_sub (pv 0) pe_int set_list))
  (pss_cons (ps_set (i := 3) sc_z_draw.nd rfl (Or.inl rfl) (pe_callB x_abs rfl Y.z_abs (by decide +kernel) (pa_cons (pe_ix xIx (pv 2) (pe_op op_sub (pe_ix xIx (pv 0) pe_int (fun _ _ => rfl)) pe_int) (fun _ _ => rfl)) pa_nil)))
  (pss_cons (ps_if (pt_cmpR op_lt (pv 3) (pe_op op_pow pe_int pe_int) (nomark _)) (pss_one (ps_ret (pe_op xMod (pe_callTy x_int rfl Y.z_int (by decide +kernel) (pa_cons (pe_callG G_z_mixed hr rfl pass0 (pa_cons (pv 3) (pa_cons (pe_ix xIx (pv 0) pe_int (fun _ _ => rfl)) pa_nil))) pa_nil)) (pv 1)))) pss_nil)
  (pss_one (ps_asg (pv 3) (pg_sub (pv 0) pe_int set_list)))))) pss_nil)
  (pss_cons (ps_if (pt_cmpR (xEq hu) (pe_ix xIx (pv 0) pe_int (fun _ _ => rfl)) pe_int (nomark _)) (pss_one (ps_ret (pe_op xMod (pe_callTy x_int rfl Y.z_int (by decide +kernel) (pa_cons (pe_callG G_z_mixed hr rfl pass0 (pa_cons (pe_ix xIx (pv 0) pe_int (fun _ _ => rfl)) (pa_cons (pe_ix xIx (pv 0) pe_int (fun _ _ => rfl)) pa_nil))) pa_nil)) (pv 1)))) pss_nil)
  (pss_cons (ps_set (i := 4) sc_z_draw.nd rfl (Or.inl rfl) (pe_op xMod (pe_callTy x_int rfl Y.z_int (by decide +kernel) (pa_cons (pe_ix xIx (pv 0) pe_int (fun _ _ => rfl)) pa_nil)) (pv 1)))
  (pss_cons (ps_asg (pe_op xDiv (pe_callTy x_int rfl Y.z_int (by decide +kernel) (pa_cons (pe_ix xIx (pv 0) pe_int (fun _ _ => rfl)) pa_nil)) (pv 1)) (pg_sub (pv 0) pe_int set_list))
  (pss_one (ps_ret (pv 4))))))))), ?_⟩
  rw [st_z_draw]
  try simp only [cxK, cxK2, cxW, cxW2]
  clear hu hr F
  repeat' walk_at "st"
  · exact k _ _ _ _ _ (Int.emod_nonneg _ (by omega)) (Int.emod_lt_of_pos _ hl) (by omega) (hS.get 0 rfl) (keep1 hS hq (hS.get 1 rfl))
  · exact k _ _ _ _ _ (Int.emod_nonneg _ (by omega)) (Int.emod_lt_of_pos _ hl) (by omega) (hS.get 0 rfl) (keep1 hS hq (hS.get 1 rfl))
  · exact k _ _ _ _ _ (Int.emod_nonneg _ (by omega)) (Int.emod_lt_of_pos _ hl) hi (hS.get 0 rfl) (keep1 hS hq (hS.get 1 rfl))
  · exact k _ _ _ _ _ (Int.emod_nonneg _ (by omega)) (Int.emod_lt_of_pos _ hl) hi (hS.get 0 rfl) (keep1 hS hq (hS.get 1 rfl))
  )) only [↓Hsh.on])
theorem c_z_draw {K : PySem.W.Frag} {A : List Addr} {H0 H : Hp} {L : List Cell} {p q : Addr} {ns : List Int} {x c n sd bu lim : Int} {Q : VK} {E : XK} {i j : Nat} (hS : SH A H0 H L) (e : L[i]? = some (p, stD q x c n sd bu)) (e2 : L[j]? = some (q, .lst (ns.map V.int))) (ne : j ≠ i) (h0 : 0 ≤ x) (h2 : 0 < lim) (h3 : lim < 2 ^ 64)
    (k : ∀ (r x' c' n' : Int) H', 0 ≤ r → r < lim → 0 ≤ x' → SH A H0 H' (L.set i (p, stD q x' c' n' sd bu)) → Q (.int r) H') : sp_z_draw K ([.ref p, .int lim] ++ []) H Q E :=
  ⟨_, _, rfl, p, q, ns, x, c, n, sd, bu, lim, rfl, rfl, hS.get i e, hS.get j e2, hS.ne e e2 ne, h0, h2, h3, fun r x' c' n' H' a b d f g => k r x' c' n' H' a b d (hS.call1 i e rfl g f)⟩
local macro_rules | `(tactic| walk_at "st") => `(tactic| first
  | ((with_reducible show sp_z_draw _ _ _ _ _); apply c_z_draw hS; (· walk_at "ix"); (· walk_at "ix"); (· decide); (· walk_at "ar"); (· walk_at "ar"); (· walk_at "ar"); intro r x1 c1 n1 H1 hr0 hr1 hx1 hS1; clear hS; rename SH _ _ _ _ => hS; simp only [List.set_cons_zero, List.set_cons_succ] at hS))

/-! ### the same data at two places: nothing, truth values, numbers, texts, tuples of these -/
inductive SameT (K : PySem.W.Frag) (H : Hp) : Nat → V → V → Prop
  | non (n : Nat) : SameT K H (n + 1) .non .non
  | bl (n : Nat) (b : Bool) : SameT K H (n + 1) (.bl b) (.bl b)
  | int (n : Nat) (i : Int) : SameT K H (n + 1) (.int i) (.int i)
  | str (n : Nat) (s : Str) : SameT K H (n + 1) (.str s) (.str s)
  | tup (n : Nat) {p q : Addr} {xs ys : List V} (h1 : SqT K H p xs) (h2 : SqT K H q ys) (hl : xs.length = ys.length) (hb : ys.length ≤ 1000000) (h : ∀ (k : Nat) (x y : V), xs[k]? = some x → ys[k]? = some y → SameT K H n x y) : SameT K H (n + 1) (.ref p) (.ref q)
theorem SameT.keep {K : PySem.W.Frag} {A : List Addr} {H H' : Hp} {n : Nat} {a b : V} (h : SameT K H n a b) (k : Keep A H H') : SameT K H' n a b := Hsh.un (by simp (disch := k_dflt (
  refine Hsh.up ?_
  induction h with
  | non n => exact .non n
  | bl n b => exact .bl n b
  | int n i => exact .int n i
  | str n s => exact .str n s
  | tup n h1 h2 hl hb h ih => exact .tup n (SqT_keep h1 k) (SqT_keep h2 k) hl hb ih
  )) only [↓Hsh.on])
def sp_z_sameN (K : PySem.W.Frag) (d : Nat) : Sp := mk2 fun a b H Q _ => SameT K H d a b ∧ ∀ H', Keep [] H H' → Q (.bl true) H'
abbrev sp_z_same (K : PySem.W.Frag) : Sp := sp_z_sameN K 6
theorem c_z_sameN {K : PySem.W.Frag} {A : List Addr} {H0 H : Hp} {L : List Cell} {d : Nat} {a b : V} {Q : VK} {E : XK} (hS : SH A H0 H L) (h : SameT K H d a b) (k : ∀ H', SH A H0 H' L → Keep [] H H' → Q (.bl true) H') : sp_z_sameN K d ([a, b] ++ []) H Q E :=
  ⟨_, _, rfl, h, fun H' kp => k H' (hS.call0 kp) kp⟩
theorem kit_tupT : kitB "tuple" "tuple" = some true := by decide +kernel
theorem ok_z_sameS {P : Program} {w : World} {K : PySem.W.Frag} {mg : Str → Option Value} {base : Heap} (Y : Env w K mg) (d : Nat) (G_z_same : CallOk P w K mg base CX0 (d + 1) "_law_same" ["_law_actual", "_law_due"] (sp_z_sameN K d)) : CallOk P w K mg base CX0 (d + 2) "_law_same" ["_law_actual", "_law_due"] (sp_z_sameN K (d + 1)) := Hsh.un (by simp (disch := k_dflt (
  refine Hsh.up ?_
  obtain ⟨fd, F⟩ := Y.fd_z_same
  refine ⟨_, fd, Y.mg_z_same, F.kp, F.bindsN (fun _ _ _ _ _ _ us hl => match us, hl with | [_, _], _ => rfl), F.ok sc_z_same mk2_len (fun cdv A outer s H vs Q E hr h => ?_)⟩
  have hu := hu_room hr
  obtain ⟨va, vb, rfl, h, k⟩ := h
  have hS : SH [] H H [] := SH.start0
  refine ⟨_, PSs.nox (pss_cons (ps_if (pt_val (pe_callB x_isinstance rfl Y.z_isinstance (by decide +kernel) (pa_cons (pv 1) (pa_cons (pe_bltn rfl Y.z_tuple (by decide +kernel) (show RelV (.ty "tuple") (.type "tuple") from rfl)) pa_nil)))) (pss_cons (ps_if (PW.pt (pw_or (pt_not (pt_val (pe_callB x_isinstance rfl Y.z_isinstance (by decide +kernel) (pa_cons (pv 0) (pa_cons (pe_bltn rfl Y.z_tuple (by decide +kernel) (show RelV (.ty "tuple") (.type "tuple") from rfl)) pa_nil))))) (pw_or1 (pt_cmpR (xNe hu) (pe_callB x_len rfl Y.z_len (by decide +kernel) (pa_cons (pv 0) pa_nil)) (pe_callB x_len rfl Y.z_len (by decide +kernel) (pa_cons (pv 1) pa_nil)) (nomark _))))) (pss_one (ps_ret pe_bl)) pss_nil)
  (pss_one (ps_ret (pe_callB (x_all rfl) rfl Y.z_all (by decide +kernel) (pa_cons (pe_lc (own := [("_law_k", 2)]) (g := gName 2) rfl sc_z_same.nd (pi_range1 rfl Y.z_range (pa_cons (pe_callB x_len rfl Y.z_len (by decide +kernel) (pa_cons (pv 1) pa_nil)) pa_nil)) (blkOk_by (N := N_z_same) (sc := defScope s_z_same) (by decide +kernel)) (fun _ _ _ _ _ => pg_name (i := 2) sc_z_same.nd rfl (Or.inl rfl)) (fun _ _ _ _ _ => pts_nil) (fun _ _ _ _ _ => (pe_callG G_z_same hr rfl pass0 (pa_cons (pe_ix (IxR.k (K := K) (r := rIxX) xIx rfl) (pv 0) (pv 2) (fun _ _ => rfl)) (pa_cons (pe_ix (IxR.k (K := K) (r := rIxX) xIx rfl) (pv 1) (pv 2) (fun _ _ => rfl)) pa_nil))))) pa_nil))))) pss_nil)
  (pss_cons (ps_if (pt_cmpR xIs (pv 1) pe_non (nomark _)) (pss_one (ps_ret (pe_cmpR xIs (pv 0) pe_non (nomark _)))) pss_nil)
  (pss_cons (ps_if (pt_val (pe_callB x_isinstance rfl Y.z_isinstance (by decide +kernel) (pa_cons (pv 1) (pa_cons (pe_bltn rfl Y.z_bool (by decide +kernel) (show RelV (.ty "bool") (.type "bool") from rfl)) pa_nil)))) (pss_one (ps_ret (pe_and (pe_callB x_isinstance rfl Y.z_isinstance (by decide +kernel) (pa_cons (pv 0) (pa_cons (pe_bltn rfl Y.z_bool (by decide +kernel) (show RelV (.ty "bool") (.type "bool") from rfl)) pa_nil))) (pe_one (pe_cmpR (xEq hu) (pv 0) (pv 1) (nomark _)))))) pss_nil)
  (pss_cons (ps_if (pt_val (pe_callB x_isinstance rfl Y.z_isinstance (by decide +kernel) (pa_cons (pv 1) (pa_cons (pe_bltn rfl Y.z_str (by decide +kernel) (show RelV (.ty "str") (.type "str") from rfl)) pa_nil)))) (pss_one (ps_ret (pe_and (pe_callB x_isinstance rfl Y.z_isinstance (by decide +kernel) (pa_cons (pv 0) (pa_cons (pe_bltn rfl Y.z_str (by decide +kernel) (show RelV (.ty "str") (.type "str") from rfl)) pa_nil))) (pe_one (pe_cmpR (xEq hu) (pv 0) (pv 1) (nomark _)))))) pss_nil)
  (pss_one (ps_ret (pe_and (pe_callB x_isinstance rfl Y.z_isinstance (by decide +kernel) (pa_cons (pv 0) (pa_cons (pe_bltn rfl Y.z_int (by decide +kernel) (show RelV (.ty "int") (.type "int") from rfl)) pa_nil))) (pe_and (pe_not (pe_callB x_isinstance rfl Y.z_isinstance (by decide +kernel) (pa_cons (pv 0) (pa_cons (pe_bltn rfl Y.z_bool (by decide +kernel) (show RelV (.ty "bool") (.type "bool") from rfl)) pa_nil)))) (pe_one (pe_cmpR (xEq hu) (pv 0) (pv 1) (nomark _))))))))))), ?_⟩
  rw [st_z_same]
  try simp only [cxK, cxK2, cxW, cxW2]
  clear hu hr F
  cases h with
  | non =>
    repeat' walk_at "st"
    all_goals first | exact q_dec rfl (k _ hS.kp) | exact k _ hS.kp
  | bl _ b =>
    repeat' walk_at "st"
    all_goals first | exact q_dec rfl (k _ hS.kp) | exact k _ hS.kp
  | int _ i =>
    repeat' walk_at "st"
    all_goals first | exact q_dec rfl (k _ hS.kp) | exact k _ hS.kp
  | str _ i =>
    repeat' walk_at "st"
    all_goals first | exact q_dec rfl (k _ hS.kp) | exact k _ hS.kp
  | @tup _ p q xs ys h1 h2 hl hb h =>
    repeat' walk_at "st"
    refine u_lcR1 hS (i := 2) (j := (ys.length : Nat)) (fun D k H' => SH [] H H' [(D, .lst ((List.replicate k true).map V.bl))]) (by omega) (by omega) (fun D H1 hS => hS) ?_ ?_
    · rintro D i H1 hi hS
      have hi2 : i < ys.length := by omega
      have hs : SameT K H1 d (xs.getD i .non) (ys.getD i .non) := by
        rw [List.getD_eq_getElem?_getD, List.getD_eq_getElem?_getD, List.getElem?_eq_getElem (show i < xs.length by omega), List.getElem?_eq_getElem hi2]
        exact (h i _ _ (List.getElem?_eq_getElem (by omega)) (List.getElem?_eq_getElem hi2)).keep hS.kp
      repeat' walk_at "st"
      refine c_z_sameN hS hs (fun H2 hS2 _ => ?_)
      clear hS; rename SH _ _ _ _ => hS
      refine h_lcEnd hS (i := 0) rfl (by rw [List.length_map, List.length_replicate, sizeLine_eq]; omega) (ys := (List.replicate (i + 1) true).map V.bl) (by rw [List.replicate_succ', List.map_append]; rfl) rfl (fun H3 hS => hS)
    · rintro D H1 hS
      repeat' walk_at "st"
      have e : (List.replicate (Int.toNat (ys.length : Nat)) true).all id = true := List.all_eq_true.mpr fun x hx => (List.mem_replicate.mp hx).2
      rw [e]
      exact k _ hS.kp
  )) only [↓Hsh.on])
theorem ok_z_sameN {P : Program} {w : World} {K : PySem.W.Frag} {mg : Str → Option Value} {base : Heap} (Y : Env w K mg) : ∀ d, CallOk P w K mg base CX0 (d + 1) "_law_same" ["_law_actual", "_law_due"] (sp_z_sameN K d)
  | 0 => by
    obtain ⟨fd, F⟩ := Y.fd_z_same
    refine ⟨_, fd, Y.mg_z_same, F.kp, F.bindsN (fun _ _ _ _ _ _ us hl => match us, hl with | [_, _], _ => rfl), ⟨mk2_len, fun A outer s H args us vs Q E hr e0 b v h => ?_⟩⟩
    obtain ⟨_, _, _, h, _⟩ := h
    cases h
  | d + 1 => ok_z_sameS Y d (ok_z_sameN Y d)
theorem ok_z_same {P : Program} {w : World} {K : PySem.W.Frag} {mg : Str → Option Value} {base : Heap} (Y : Env w K mg) : CallOk P w K mg base CX0 7 "_law_same" ["_law_actual", "_law_due"] (sp_z_same K) := ok_z_sameN Y 6

/-! ### the words of instructions -/
def bnd (n lo hi : Int) : Bool := decide (lo ≤ n) && decide (n ≤ hi)
def finE (K : PySem.W.Frag) (o : Option Int) (H : Hp) (Q : VK) (E : XK) : Prop := match o with
  | some i => Q (.int i) H
  | none => E (.ref (He.ga K "ImageError")) none H
theorem s_finE0 {K : PySem.W.Frag} {H : Hp} {Q : VK} {E : XK} (h : E (.ref (He.ga K "ImageError")) none H) : finE K none H Q E := h
theorem s_finE1 {K : PySem.W.Frag} {H : Hp} {Q : VK} {E : XK} {i : Int} (h : Q (.int i) H) : finE K (some i) H Q E := h
def bdd (n lo hi : Int) : Option Int := if bnd n lo hi = true then some n else none
def sp_bounded (K : PySem.W.Frag) : Sp := mk3 fun a b c H Q E => ∃ n lo hi : Int, a = .int n ∧ b = .int lo ∧ c = .int hi ∧ finE K (bdd n lo hi) H Q E
theorem ok_bounded {P : Program} {w : World} {K : PySem.W.Frag} {mg : Str → Option Value} {base : Heap} (Y : Env w K mg)  : CallOk P w K mg base (L2.CX P w) 1 "bounded" ["number", "least", "most"] (sp_bounded K) := Hsh.un (by simp (disch := k_dflt (
  refine Hsh.up ?_
  obtain ⟨fd, F⟩ := Y.fd_bounded
  refine ⟨_, fd, Y.mg_bounded, F.kp, F.bindsN (fun _ _ _ _ _ _ us hl => match us, hl with | [_, _, _], _ => rfl), F.ok sc_bounded mk3_len (fun cdv A outer s H vs Q E hr h => ?_)⟩
  have hu := hu_room hr
  obtain ⟨_, _, _, rfl, n, lo, hi, rfl, rfl, rfl, k⟩ := h
  have hS : SH [] H H [] := SH.start0
  refine ⟨_, (pss_cons (ps_if (pt_not (pt_chain op_le op_le (pv 1) (pv 0) (pv 2))) (pss_one (ps_raiseG rfl (takes_of rfl rfl rfl rfl) Y.ef_ImageError Y.mg_ImageError rfl)) pss_nil)
  (pss_one (ps_ret (pv 0)))), ?_⟩
  rw [st_bounded]
  try simp only [cxK, cxK2, cxW, cxW2]
  clear hu hr F
  unfold bdd bnd at k
  repeat' walk_at "st"
  all_goals simp_all [finE]
  )) only [↓Hsh.on])
theorem bdd_some {n lo hi : Int} (h1 : lo ≤ n) (h2 : n ≤ hi) : bdd n lo hi = some n := by
  unfold bdd bnd
  rw [if_pos (by simp [h1, h2])]
theorem bdd_none {n lo hi : Int} (h : ¬ (lo ≤ n ∧ n ≤ hi)) : bdd n lo hi = none := by
  unfold bdd bnd
  rw [if_neg (by simp; omega)]
/-- a bounded number: in its bounds, or refused -/
theorem c_bounded {K : PySem.W.Frag} {H : Hp} {n lo hi : Int} {Q : VK} {E : XK} (k1 : lo ≤ n → n ≤ hi → Q (.int n) H) (k2 : ¬ (lo ≤ n ∧ n ≤ hi) → E (.ref (He.ga K "ImageError")) none H) : sp_bounded K ([.int n, .int lo, .int hi] ++ []) H Q E := Hsh.un (by simp (disch := k_dflt (
  refine Hsh.up ?_
  refine ⟨_, _, _, rfl, n, lo, hi, rfl, rfl, rfl, ?_⟩
  by_cases h : lo ≤ n ∧ n ≤ hi
  · rw [bdd_some h.1 h.2]; exact k1 h.1 h.2
  · rw [bdd_none h]; exact k2 h
  )) only [↓Hsh.on])
local macro_rules | `(tactic| walk_at "st") => `(tactic| first | (with_reducible refine c_bounded (fun hb1 hb2 => ?_) (fun hb => ?_)))
def sp_register_bits (K : PySem.W.Frag) : Sp := mk2 fun a b H Q E => ∃ n m : Int, a = .int n ∧ b = .int m ∧ -(2 ^ 64) < m ∧ m < 2 ^ 64 ∧ (0 ≤ n → n ≤ 31 → Q (.int (n * m)) H) ∧ (¬ (0 ≤ n ∧ n ≤ 31) → E (.ref (He.ga K "ImageError")) none H)
theorem ok_register_bits {P : Program} {w : World} {K : PySem.W.Frag} {mg : Str → Option Value} {base : Heap} (Y : Env w K mg) (G_bounded : CallOk P w K mg base (L2.CX P w) 1 "bounded" ["number", "least", "most"] (sp_bounded K)) : CallOk P w K mg base (L2.CX P w) 2 "register_bits" ["number", "size"] (sp_register_bits K) := Hsh.un (by simp (disch := k_dflt (
  refine Hsh.up ?_
  obtain ⟨fd, F⟩ := Y.fd_register_bits
  refine ⟨_, fd, Y.mg_register_bits, F.kp, F.bindsN (fun _ _ _ _ _ _ us hl => match us, hl with | [_, _], _ => rfl), F.ok sc_register_bits mk2_len (fun cdv A outer s H vs Q E hr h => ?_)⟩
  have hu := hu_room hr
  obtain ⟨_, _, rfl, n, m, rfl, rfl, h1, h2, k1, k2⟩ := h
  have hS : SH [] H H [] := SH.start0
  refine ⟨_, (pss_one (ps_ret (pe_op xMul (pe_callG G_bounded hr rfl (passes_call (takes_of rfl rfl rfl rfl) (fun _ _ _ _ h => h)) (pa_cons (pv 0) (pa_cons pe_int (pa_cons pe_int pa_nil)))) (pv 1)))), ?_⟩
  rw [st_register_bits]
  try simp only [cxK, cxK2, cxW, cxW2]
  clear hu hr F
  repeat' walk_at "st"
  · exact k1 hb1 hb2
  · exact k2 hb
  )) only [↓Hsh.on])
theorem c_register_bits {K : PySem.W.Frag} {H : Hp} {n m : Int} {Q : VK} {E : XK} (h : -(2 ^ 64) < m ∧ m < 2 ^ 64) (k1 : 0 ≤ n → n ≤ 31 → Q (.int (n * m)) H) (k2 : ¬ (0 ≤ n ∧ n ≤ 31) → E (.ref (He.ga K "ImageError")) none H) : sp_register_bits K ([.int n, .int m] ++ []) H Q E := ⟨_, _, rfl, n, m, rfl, rfl, h.1, h.2, k1, k2⟩
local macro_rules | `(tactic| walk_at "st") => `(tactic| first | ((with_reducible refine c_register_bits ?_ (fun hb1 hb2 => ?_) (fun hb => ?_)); (· walk_at "ar")))
def kindS (b : Bool) : Str := if b = true then "reg" else "int"
def opdB (b : Bool) (n : Int) : Option Int := if b = true then (if 0 ≤ n ∧ n ≤ 31 then some n else none) else if -16384 ≤ n ∧ n ≤ 16383 then some (32768 + n % 32768) else none
def sp_operand_bits (K : PySem.W.Frag) : Sp := mk1 fun a H Q E => ∃ (p : Addr) (b : Bool) (n : Int), a = .ref p ∧ SqT K H p [.str (kindS b), .int n] ∧ finE K (opdB b n) H Q E
theorem ok_operand_bits {P : Program} {w : World} {K : PySem.W.Frag} {mg : Str → Option Value} {base : Heap} (Y : Env w K mg) (G_bounded : CallOk P w K mg base (L2.CX P w) 1 "bounded" ["number", "least", "most"] (sp_bounded K)) : CallOk P w K mg base (L2.CX P w) 2 "operand_bits" ["operand"] (sp_operand_bits K) := Hsh.un (by simp (disch := k_dflt (
  refine Hsh.up ?_
  obtain ⟨fd, F⟩ := Y.fd_operand_bits
  refine ⟨_, fd, Y.mg_operand_bits, F.kp, F.bindsN (fun _ _ _ _ _ _ us hl => match us, hl with | [_], _ => rfl), F.ok sc_operand_bits mk1_len (fun cdv A outer s H vs Q E hr h => ?_)⟩
  have hu := hu_room hr
  obtain ⟨_, rfl, p, b, n, rfl, hp, k⟩ := h
  have hS : SH [] H H [] := SH.start0
  refine ⟨_, (pss_cons (ps_asg (pv 0) (pg_tup rfl (pgs_cons (pg_name (i := 1) sc_operand_bits.nd rfl (Or.inl rfl)) (pgs_cons (pg_name (i := 2) sc_operand_bits.nd rfl (Or.inl rfl)) pgs_nil))))
  (pss_cons (ps_if (pt_cmpR (xEq hu) (pv 1) pe_str (nomark _)) (pss_one (ps_ret (pe_callG G_bounded hr rfl (passes_call (takes_of rfl rfl rfl rfl) (fun _ _ _ _ h => h)) (pa_cons (pv 2) (pa_cons pe_int (pa_cons pe_int pa_nil)))))) pss_nil)
  (pss_one (ps_ret (pe_op xAdd (pe_op op_pow pe_int pe_int) (pe_op xMod (pe_callG G_bounded hr rfl (passes_call (takes_of rfl rfl rfl rfl) (fun _ _ _ _ h => h)) (pa_cons (pv 2) (pa_cons (pe_ci rfl Y.c_LEAST_OPERAND) (pa_cons (pe_ci rfl Y.c_MOST_OPERAND) pa_nil)))) (pe_op op_pow pe_int pe_int))))))), ?_⟩
  rw [st_operand_bits]
  try simp only [cxK, cxK2, cxW, cxW2]
  clear hu hr F
  unfold opdB at k
  cases b
  · simp only [kindS, if_neg Bool.false_ne_true] at k hp
    repeat' walk_at "st"
    · rw [if_pos (And.intro hb1 hb2)] at k; exact k
    · rw [if_neg hb] at k; exact k
  · simp only [kindS, if_pos rfl] at k hp
    repeat' walk_at "st"
    · rw [if_pos (And.intro hb1 hb2)] at k; exact k
    · rw [if_neg hb] at k; exact k
  )) only [↓Hsh.on])
theorem c_operand_bits {K : PySem.W.Frag} {H : Hp} {p : Addr} {b : Bool} {n : Int} {Q : VK} {E : XK} (hp : SqT K H p [.str (kindS b), .int n]) (k1 : ∀ v, opdB b n = some v → Q (.int v) H) (k2 : opdB b n = none → E (.ref (He.ga K "ImageError")) none H) : sp_operand_bits K ([.ref p] ++ []) H Q E := Hsh.un (by simp (disch := k_dflt (
  refine Hsh.up ?_
  refine ⟨_, rfl, p, b, n, rfl, hp, ?_⟩
  cases e : opdB b n with
  | none => exact k2 e
  | some v => exact k1 v e
  )) only [↓Hsh.on])
/-- the names, in their order, and the forms -/
def namesL : List Str := ["halt", "add", "sub", "mul", "div", "mod", "rem", "less", "equal", "high", "low", "load", "store", "jump", "branch", "call", "save", "restore", "back", "raise", "again", "tick", "put", "get", "below", "above", "bar", "setbar", "retry"]
def formsL : List (Str × Str) := [("halt", ""), ("restore", ""), ("back", ""), ("tick", ""), ("retry", ""), ("add", "das"), ("sub", "das"), ("mul", "das"), ("div", "das"), ("mod", "das"), ("rem", "das"), ("less", "das"), ("equal", "das"), ("load", "das"), ("store", "das"), ("save", "das"), ("low", "dam"), ("high", "dn"), ("branch", "dn"), ("jump", "j"), ("call", "c"), ("raise", "c"), ("again", "as"), ("below", "as"), ("above", "as"), ("put", "s"), ("setbar", "s"), ("get", "d"), ("bar", "d")]
/-- an instruction's numbers, and whether its operand is a register (where it has one it is the last number) -/
structure Ins where
  name : Str
  form : Str
  ns : List Int
  reg : Bool
def lenOf (form : Str) : Nat := if form = "" then 0 else if form = "j" ∨ form = "c" ∨ form = "s" ∨ form = "d" then 1 else if form = "as" ∨ form = "dn" then 2 else 3
def hasOp (form : Str) : Bool := decide (form = "s") || decide (form = "as") || decide (form = "das")
structure Ins.ok (I : Ins) : Prop where
  hf : (I.name, I.form) ∈ formsL
  ln : I.ns.length = lenOf I.form
/-- the tuple of an instruction -/
def Ins.at (K : PySem.W.Frag) (H : Hp) (I : Ins) (p : Addr) : Prop :=
  if hasOp I.form = true then ∃ q, SqT K H p (.str I.name :: (I.ns.dropLast.map V.int ++ [.ref q])) ∧ SqT K H q [.str (kindS I.reg), .int (I.ns.getLastD 0)]
  else SqT K H p (.str I.name :: I.ns.map V.int)
def num (name : Str) : Int := ((namesL.idxOf name : Nat) : Int)
def Ins.enc (I : Ins) : Option Int :=
  let w := num I.name * 67108864
  let a := I.ns.getD 0 0
  let b := I.ns.getD 1 0
  let c := I.ns.getD 2 0
  if I.form = "" then some w
  else if I.form = "j" then (bdd a (-33554432) 33554431).map fun a => w + a % 67108864
  else if I.form = "c" then (bdd a 0 67108863).map fun a => w + a
  else if I.form = "s" then (opdB I.reg a).map fun x => w + x
  else if I.form = "as" then (bdd a 0 31).bind fun a => (opdB I.reg b).map fun x => w + a * 65536 + x
  else (bdd a 0 31).bind fun a =>
    if I.form = "dn" then (bdd b (-1048576) 1048575).map fun b => w + a * 2097152 + b % 2097152
    else if I.form = "d" then some (w + a * 2097152)
    else (bdd b 0 31).bind fun b =>
      if I.form = "dam" then (bdd c 0 2047).map fun c => w + a * 2097152 + b * 65536 + 32768 + c
      else (opdB I.reg c).map fun x => w + a * 2097152 + b * 65536 + x
theorem name_at {n f : Str} (h : (n, f) ∈ formsL) : namesL[namesL.idxOf n]? = some n ∧ ∀ m, m < namesL.idxOf n → namesL[m]? ≠ some n := Hsh.un (by simp (disch := k_dflt (
  refine Hsh.up ?_
  have h0 : ∀ q ∈ formsL, namesL[namesL.idxOf q.1]? = some q.1 := by decide +kernel
  refine ⟨h0 _ h, fun m hm e => ?_⟩
  have := List.not_of_lt_findIdx (p := (· == n)) (xs := namesL) hm
  obtain ⟨hl, e2⟩ := List.getElem?_eq_some_iff.mp e
  rw [e2] at this
  simp at this
  )) only [↓Hsh.on])
theorem form_dk {w : World} {K : PySem.W.Frag} {mg : Str → Option Value} (Y : Env w K mg) {n f : Str} (h : (n, f) ∈ formsL) : KDct K w (He.ga K "FORMS") n (.str f) := by
  exact Y.dk_FORMS (n, .str f) (List.mem_map_of_mem (f := fun q : Str × Str => (q.1, He.Dv.str q.2)) h)
local macro_rules | `(tactic| walk_at "dk") => `(tactic| exact form_dk Y (by assumption))
theorem six_c : ∀ f ∈ formsL.map (fun q : Str × Str => q.2), f = ("" : Str) ∨ f = "j" ∨ f = "c" ∨ f = "s" ∨ f = "as" ∨ f = "dn" ∨ f = "d" ∨ f = "dam" ∨ f = "das" := by decide +kernel
theorem len1 {l : List Int} (h : l.length = 1) : ∃ a, l = [a] := match l, h with | [a], _ => ⟨a, rfl⟩
theorem len2 {l : List Int} (h : l.length = 2) : ∃ a b, l = [a, b] := match l, h with | [a, b], _ => ⟨a, b, rfl⟩
theorem len3 {l : List Int} (h : l.length = 3) : ∃ a b c, l = [a, b, c] := match l, h with | [a, b, c], _ => ⟨a, b, c, rfl⟩
section
variable {n : Str} {a b c : Int} {r : Bool}
theorem enc_0 : (Ins.mk n "" [] r).enc = some (num n * 67108864) := rfl
theorem enc_j : (Ins.mk n "j" [a] r).enc = (bdd a (-33554432) 33554431).map fun a => num n * 67108864 + a % 67108864 := rfl
theorem enc_c : (Ins.mk n "c" [a] r).enc = (bdd a 0 67108863).map fun a => num n * 67108864 + a := rfl
theorem enc_s : (Ins.mk n "s" [a] r).enc = (opdB r a).map fun x => num n * 67108864 + x := rfl
theorem enc_as : (Ins.mk n "as" [a, b] r).enc = (bdd a 0 31).bind fun a => (opdB r b).map fun x => num n * 67108864 + a * 65536 + x := rfl
theorem enc_dn : (Ins.mk n "dn" [a, b] r).enc = (bdd a 0 31).bind fun a => (bdd b (-1048576) 1048575).map fun b => num n * 67108864 + a * 2097152 + b % 2097152 := rfl
theorem enc_d : (Ins.mk n "d" [a] r).enc = (bdd a 0 31).bind fun a => some (num n * 67108864 + a * 2097152) := rfl
theorem enc_dam : (Ins.mk n "dam" [a, b, c] r).enc = (bdd a 0 31).bind fun a => (bdd b 0 31).bind fun b => (bdd c 0 2047).map fun c => num n * 67108864 + a * 2097152 + b * 65536 + 32768 + c := rfl
theorem enc_das : (Ins.mk n "das" [a, b, c] r).enc = (bdd a 0 31).bind fun a => (bdd b 0 31).bind fun b => (opdB r c).map fun x => num n * 67108864 + a * 2097152 + b * 65536 + x := rfl
end
section
 local macro_rules | `(tactic| walk_at "st") => `(tactic| first
  | ((with_reducible apply s_tix (ys := namesL)); (· exact Y.tp_NAMES _); (· exact hnm.1); (· exact hnm.2))
  | ((with_reducible show sp_operand_bits _ _ _ _ _); apply c_operand_bits (b := reg) (SqT_keep hq hS.kp); intro v hv; rotate_left; intro hv))
def sp_encode (K : PySem.W.Frag) : Sp := mk1 fun a H Q E => ∃ (p : Addr) (I : Ins), a = .ref p ∧ I.ok ∧ I.at K H p ∧ finE K I.enc H Q E
theorem ok_encode {P : Program} {w : World} {K : PySem.W.Frag} {mg : Str → Option Value} {base : Heap} (Y : Env w K mg) (G_bounded : CallOk P w K mg base (L2.CX P w) 1 "bounded" ["number", "least", "most"] (sp_bounded K)) (G_operand_bits : CallOk P w K mg base (L2.CX P w) 2 "operand_bits" ["operand"] (sp_operand_bits K)) (G_register_bits : CallOk P w K mg base (L2.CX P w) 2 "register_bits" ["number", "size"] (sp_register_bits K)) : CallOk P w K mg base (L2.CX P w) 3 "encode" ["instruction"] (sp_encode K) := Hsh.un (by simp (disch := k_dflt (
  refine Hsh.up ?_
  obtain ⟨fd, F⟩ := Y.fd_encode
  refine ⟨_, fd, Y.mg_encode, F.kp, F.bindsN (fun _ _ _ _ _ _ us hl => match us, hl with | [_], _ => rfl), F.ok sc_encode mk1_len (fun cdv A outer s H vs Q E hr h => ?_)⟩
  have hu := hu_room hr
  obtain ⟨_, rfl, p, ⟨name, form, ns, reg⟩, rfl, ok, hp, k⟩ := h
  have hS : SH [] H H [] := SH.start0
  have hf : (name, form) ∈ formsL := ok.hf
  have hln : ns.length = lenOf form := ok.ln
  have hnm := name_at hf
  refine ⟨_, (pss_cons (ps_set (i := 1) sc_encode.nd rfl (Or.inl rfl) (pe_ix xIx (pv 0) pe_int (fun _ _ => rfl)))
  (pss_cons (ps_set (i := 2) sc_encode.nd rfl (Or.inl rfl) (pe_ix ix_kdict (pe_gr rfl Y.mg_FORMS) (pv 1) (fun _ _ => rfl)))
  (pss_cons (ps_set (i := 3) sc_encode.nd rfl (Or.inl rfl) (pe_op xMul (pe_bm PySem.F.plainAttrs_tuple PySem.F.slot_tuple_index PySem.F.type_tuple_index xt_index (pe_gr rfl Y.mg_NAMES) (pa_cons (pv 1) pa_nil)) (pe_op op_pow pe_int pe_int)))
  (pss_cons (ps_if (pt_cmpR (xEq hu) (pv 2) pe_str (nomark _)) (pss_one (ps_ret (pe_op xAdd (pv 3) (pe_op xMod (pe_callG G_bounded (hr.mono (by decide)) rfl (passes_call (takes_of rfl rfl rfl rfl) (fun _ _ _ _ h => h)) (pa_cons (pe_ix xIx (pv 0) pe_int (fun _ _ => rfl)) (pa_cons (pe_ci rfl Y.c_LEAST_JUMP) (pa_cons (pe_ci rfl Y.c_MOST_JUMP) pa_nil)))) (pe_op op_pow pe_int pe_int))))) pss_nil)
  (pss_cons (ps_if (pt_cmpR (xEq hu) (pv 2) pe_str (nomark _)) (pss_one (ps_ret (pe_op xAdd (pv 3) (pe_callG G_bounded (hr.mono (by decide)) rfl (passes_call (takes_of rfl rfl rfl rfl) (fun _ _ _ _ h => h)) (pa_cons (pe_ix xIx (pv 0) pe_int (fun _ _ => rfl)) (pa_cons pe_int (pa_cons (pe_ci rfl Y.c_MOST_ADDRESS) pa_nil))))))) pss_nil)
  (pss_cons (ps_if (pt_cmpR (xEq hu) (pv 2) pe_str (nomark _)) (pss_one (ps_ret (pe_op xAdd (pv 3) (pe_callG G_operand_bits hr rfl (passes_call (takes_of rfl rfl rfl rfl) (fun _ _ _ _ h => h)) (pa_cons (pe_ix xIx (pv 0) pe_int (fun _ _ => rfl)) pa_nil))))) pss_nil)
  (pss_cons (ps_if (pt_cmpR (xEq hu) (pv 2) pe_str (nomark _)) (pss_one (ps_ret (pe_op xAdd (pe_op xAdd (pv 3) (pe_callG G_register_bits hr rfl (passes_call (takes_of rfl rfl rfl rfl) (fun _ _ _ _ h => h)) (pa_cons (pe_ix xIx (pv 0) pe_int (fun _ _ => rfl)) (pa_cons (pe_op op_pow pe_int pe_int) pa_nil)))) (pe_callG G_operand_bits hr rfl (passes_call (takes_of rfl rfl rfl rfl) (fun _ _ _ _ h => h)) (pa_cons (pe_ix xIx (pv 0) pe_int (fun _ _ => rfl)) pa_nil))))) pss_nil)
  (pss_cons (ps_if (pt_cmpR (xEq hu) (pv 2) pe_str (nomark _)) (pss_one (ps_ret (pv 3))) pss_nil)
  (pss_cons (ps_set (i := 3) sc_encode.nd rfl (Or.inl rfl) (pe_op xAdd (pv 3) (pe_callG G_register_bits hr rfl (passes_call (takes_of rfl rfl rfl rfl) (fun _ _ _ _ h => h)) (pa_cons (pe_ix xIx (pv 0) pe_int (fun _ _ => rfl)) (pa_cons (pe_op op_pow pe_int pe_int) pa_nil)))))
  (pss_cons (ps_if (pt_cmpR (xEq hu) (pv 2) pe_str (nomark _)) (pss_one (ps_ret (pe_op xAdd (pv 3) (pe_op xMod (pe_callG G_bounded (hr.mono (by decide)) rfl (passes_call (takes_of rfl rfl rfl rfl) (fun _ _ _ _ h => h)) (pa_cons (pe_ix xIx (pv 0) pe_int (fun _ _ => rfl)) (pa_cons (pe_ci rfl Y.c_LEAST_N) (pa_cons (pe_ci rfl Y.c_MOST_N) pa_nil)))) (pe_op op_pow pe_int pe_int))))) pss_nil)
  (pss_cons (ps_if (pt_cmpR (xEq hu) (pv 2) pe_str (nomark _)) (pss_one (ps_ret (pv 3))) pss_nil)
  (pss_cons (ps_set (i := 3) sc_encode.nd rfl (Or.inl rfl) (pe_op xAdd (pv 3) (pe_callG G_register_bits hr rfl (passes_call (takes_of rfl rfl rfl rfl) (fun _ _ _ _ h => h)) (pa_cons (pe_ix xIx (pv 0) pe_int (fun _ _ => rfl)) (pa_cons (pe_op op_pow pe_int pe_int) pa_nil)))))
  (pss_cons (ps_if (pt_cmpR (xEq hu) (pv 2) pe_str (nomark _)) (pss_one (ps_ret (pe_op xAdd (pe_op xAdd (pv 3) (pe_op op_pow pe_int pe_int)) (pe_callG G_bounded (hr.mono (by decide)) rfl (passes_call (takes_of rfl rfl rfl rfl) (fun _ _ _ _ h => h)) (pa_cons (pe_ix xIx (pv 0) pe_int (fun _ _ => rfl)) (pa_cons pe_int (pa_cons (pe_op op_sub (pe_ci rfl Y.c_PAGE) pe_int) pa_nil))))))) pss_nil)
  (pss_one (ps_ret (pe_op xAdd (pv 3) (pe_callG G_operand_bits hr rfl (passes_call (takes_of rfl rfl rfl rfl) (fun _ _ _ _ h => h)) (pa_cons (pe_ix xIx (pv 0) pe_int (fun _ _ => rfl)) pa_nil)))))))))))))))))), ?_⟩
  rw [st_encode]
  try simp only [cxK, cxK2, cxW, cxW2]
  clear hu hr F
  rcases six_c form (List.mem_map_of_mem hf) with rfl | rfl | rfl | rfl | rfl | rfl | rfl | rfl | rfl
  · have e : ns = [] := List.length_eq_zero_iff.mp hln
    subst e
    have hp : SqT K H p [.str name] := hp
    rw [enc_0] at k
    repeat' walk_at "st"
    exact k
  · obtain ⟨a, rfl⟩ := len1 hln
    have hp : SqT K H p [.str name, .int a] := hp
    rw [enc_j] at k
    repeat' walk_at "st"
    · rw [bdd_some hb1 hb2] at k; exact k
    · rw [bdd_none hb] at k; exact k
  · obtain ⟨a, rfl⟩ := len1 hln
    have hp : SqT K H p [.str name, .int a] := hp
    rw [enc_c] at k
    repeat' walk_at "st"
    · rw [bdd_some hb1 hb2] at k; exact k
    · rw [bdd_none hb] at k; exact k
  · obtain ⟨a, rfl⟩ := len1 hln
    obtain ⟨q, hp, hq⟩ : ∃ q, SqT K H p [.str name, .ref q] ∧ SqT K H q [.str (kindS reg), .int a] := hp
    rw [enc_s] at k
    repeat' walk_at "st"
    all_goals rw [hv] at k; exact k
  · obtain ⟨a, b, rfl⟩ := len2 hln
    obtain ⟨q, hp, hq⟩ : ∃ q, SqT K H p [.str name, .int a, .ref q] ∧ SqT K H q [.str (kindS reg), .int b] := hp
    rw [enc_as] at k
    repeat' walk_at "st"
    · rw [bdd_some hb1 hb2, Option.bind_some, hv] at k; exact k
    · rw [bdd_some hb1 hb2, Option.bind_some, hv] at k; exact k
    · rw [bdd_none hb] at k; exact k
  · obtain ⟨a, b, rfl⟩ := len2 hln
    have hp : SqT K H p [.str name, .int a, .int b] := hp
    rw [enc_dn] at k
    repeat' walk_at "st"
    · rw [bdd_some (n := a) (lo := 0) (hi := 31) (by assumption) (by assumption), Option.bind_some, bdd_some hb1 hb2] at k; exact k
    · rw [bdd_some hb1 hb2, Option.bind_some, bdd_none hb] at k; exact k
    · rw [bdd_none hb] at k; exact k
  · obtain ⟨a, rfl⟩ := len1 hln
    have hp : SqT K H p [.str name, .int a] := hp
    rw [enc_d] at k
    repeat' walk_at "st"
    · rw [bdd_some hb1 hb2] at k; exact k
    · rw [bdd_none hb] at k; exact k
  · obtain ⟨a, b, c, rfl⟩ := len3 hln
    have hp : SqT K H p [.str name, .int a, .int b, .int c] := hp
    rw [enc_dam] at k
    repeat' walk_at "st"
    · rw [bdd_some (n := a) (lo := 0) (hi := 31) (by assumption) (by assumption), Option.bind_some, bdd_some (n := b) (lo := 0) (hi := 31) (by assumption) (by assumption), Option.bind_some, bdd_some (n := c) (lo := 0) (hi := 2047) (by omega) (by omega)] at k; exact k
    · rw [bdd_some (n := a) (lo := 0) (hi := 31) (by assumption) (by assumption), Option.bind_some, bdd_some (n := b) (lo := 0) (hi := 31) (by assumption) (by assumption), Option.bind_some, bdd_none (n := c) (lo := 0) (hi := 2047) (by omega)] at k; exact k
    · rw [bdd_some (n := a) (lo := 0) (hi := 31) (by assumption) (by assumption), Option.bind_some, bdd_none hb] at k; exact k
    · rw [bdd_none hb] at k; exact k
  · obtain ⟨a, b, c, rfl⟩ := len3 hln
    obtain ⟨q, hp, hq⟩ : ∃ q, SqT K H p [.str name, .int a, .int b, .ref q] ∧ SqT K H q [.str (kindS reg), .int c] := hp
    rw [enc_das] at k
    repeat' walk_at "st"
    · rw [bdd_some (n := a) (lo := 0) (hi := 31) (by assumption) (by assumption), Option.bind_some, bdd_some (n := b) (lo := 0) (hi := 31) (by assumption) (by assumption), Option.bind_some, hv] at k; exact k
    · rw [bdd_some (n := a) (lo := 0) (hi := 31) (by assumption) (by assumption), Option.bind_some, bdd_some (n := b) (lo := 0) (hi := 31) (by assumption) (by assumption), Option.bind_some, hv] at k; exact k
    · rw [bdd_some (n := a) (lo := 0) (hi := 31) (by assumption) (by assumption), Option.bind_some, bdd_none hb] at k; exact k
    · rw [bdd_none hb] at k; exact k
  )) only [↓Hsh.on])
end
theorem c_encode {K : PySem.W.Frag} {H : Hp} {p : Addr} {I : Ins} {Q : VK} {E : XK} (ok : I.ok) (h : I.at K H p) (k : finE K I.enc H Q E) : sp_encode K ([.ref p] ++ []) H Q E := ⟨_, rfl, p, I, rfl, ok, h, k⟩

/-! ### the law's own table -/
theorem split_names : Txt.split (("halt add sub mul div mod rem less equal high low load store jump branch call save restore back raise again" : Str) ++ " tick put get below above bar setbar retry") " " = namesL := by decide +kernel
def sp_z_names (K : PySem.W.Frag) : Sp := mk0 fun H Q _ => ∀ p H', SH [] H H' [(p, .lst (namesL.map V.str))] → Q (.ref p) H'
theorem ok_z_names {P : Program} {w : World} {K : PySem.W.Frag} {mg : Str → Option Value} {base : Heap} (Y : Env w K mg)  : CallOk P w K mg base CX0 1 "_law_names" [] (sp_z_names K) := Hsh.un (by simp (disch := k_dflt (
  refine Hsh.up ?_
  obtain ⟨fd, F⟩ := Y.fd_z_names
  refine ⟨_, fd, Y.mg_z_names, F.kp, F.bindsN (fun _ _ _ _ _ _ us hl => match us, hl with | [], _ => rfl), F.ok sc_z_names mk0_len (fun cdv A outer s H vs Q E hr h => ?_)⟩
  have hu := hu_room hr
  obtain ⟨rfl, k⟩ := h
  have hS : SH [] H H [] := SH.start0
  refine ⟨_, PSs.nox (pss_cons (ps_set (i := 0) sc_z_names.nd rfl (Or.inl rfl) pe_str)
  (pss_one (ps_ret (pe_bm PySem.F.plainAttrs_str PySem.F.slot_str_split PySem.F.type_str_split xt_split (pe_op xAdd (pv 0) pe_str) (pa_cons pe_str pa_nil))))), ?_⟩
  rw [st_z_names]
  try simp only [cxK, cxK2, cxW, cxW2]
  clear hu hr F
  repeat' walk_at "st"
  refine s_split (ys := namesL) (by decide +kernel) (by rw [sizeLine_eq]; decide +kernel) split_names ?_
  repeat' walk_at "st"
  exact k _ _ hS
  )) only [↓Hsh.on])
theorem c_z_names {K : PySem.W.Frag} {A : List Addr} {H0 H : Hp} {L : List Cell} {Q : VK} {E : XK} (hS : SH A H0 H L) (k : ∀ p H', SH A H0 H' ((p, .lst (namesL.map V.str)) :: L) → Q (.ref p) H') : sp_z_names K ([] ++ []) H Q E :=
  ⟨rfl, fun p H' C => k p H' (SH.call (B := []) (F := L) hS C)⟩
local macro_rules | `(tactic| walk_at "st") => `(tactic| first
  | ((with_reducible show sp_z_names _ _ _ _ _); refine c_z_names hS (fun pnm H1 hS1 => ?_); walk_at "nw"))
/-! by the form, any of its names -/
theorem two_names : ∀ q ∈ formsL, (q.2 = "c" → q.1 = "call" ∨ q.1 = "raise") ∧ (q.2 = "s" → q.1 = "put" ∨ q.1 = "setbar") ∧ (q.2 = "dn" → q.1 = "high" ∨ q.1 = "branch") ∧ (q.2 = "d" → q.1 = "get" ∨ q.1 = "bar") := by decide +kernel
local macro_rules | `(tactic| walk_at "dead") => `(tactic| (exfalso; have z := two_names _ hf; first
  | (rcases z.1 rfl with e | e <;> exact absurd e (by assumption))
  | (rcases z.2.1 rfl with e | e <;> exact absurd e (by assumption))
  | (rcases z.2.2.1 rfl with e | e <;> exact absurd e (by assumption))
  | (rcases z.2.2.2 rfl with e | e <;> exact absurd e (by assumption))))
theorem pos_of {P : Str → Bool} {n f : Str} (hf : (n, f) ∈ formsL) (h : ∀ q ∈ formsL, q.2 = f → P q.1 = true) : P n = true := h _ hf rfl
theorem neg_of {P : Str → Bool} {n f : Str} (hf : (n, f) ∈ formsL) (h : ∀ q ∈ formsL, q.2 = f → P q.1 = false) : P n = false := h _ hf rfl
/-- the bounds of the numbers -/
def rngR : Int × Int := (0, 31)
def rngS (reg : Bool) : Int × Int := if reg = true then (0, 31) else (-16384, 16383)
def rng (form : Str) (reg : Bool) : List (Int × Int) :=
  if form = "" then [] else if form = "j" then [(-33554432, 33554431)] else if form = "c" then [(0, 67108863)] else if form = "s" then [rngS reg] else if form = "as" then [rngR, rngS reg]
  else if form = "dn" then [rngR, (-1048576, 1048575)] else if form = "d" then [rngR] else if form = "dam" then [rngR, rngR, (0, 2047)] else [rngR, rngR, rngS reg]
/-- these cells hold these pairs -/
def PairC (L : List Cell) (qs : List Addr) (rs : List (Int × Int)) : Prop := qs.length = rs.length ∧ ∀ (k : Nat) (q : Addr) (r : Int × Int), qs[k]? = some q → rs[k]? = some r → (q, HO.tup [.int r.1, .int r.2]) ∈ L
theorem pair0 {L : List Cell} : PairC L [] [] := ⟨rfl, fun k q r h => nomatch h⟩
theorem pairS {L : List Cell} {q : Addr} {r : Int × Int} {qs : List Addr} {rs : List (Int × Int)} (h : (q, HO.tup [.int r.1, .int r.2]) ∈ L) (t : PairC L qs rs) : PairC L (q :: qs) (r :: rs) := Hsh.un (by simp (disch := k_dflt (
  refine Hsh.up ?_
  refine ⟨by rw [List.length_cons, List.length_cons, t.1], fun k a b h1 h2 => ?_⟩
  cases k with
  | zero =>
    cases h1
    cases h2
    exact h
  | succ k => exact t.2 k a b h1 h2
  )) only [↓Hsh.on])
local macro_rules | `(tactic| walk_at "mm") => `(tactic| first | exact List.mem_of_getElem? (i := 0) rfl | exact List.mem_of_getElem? (i := 1) rfl | exact List.mem_of_getElem? (i := 2) rfl | exact List.mem_of_getElem? (i := 3) rfl | exact List.mem_of_getElem? (i := 4) rfl | exact List.mem_of_getElem? (i := 5) rfl | exact List.mem_of_getElem? (i := 6) rfl)
local macro_rules | `(tactic| walk_at "pc") => `(tactic| first | exact pair0 | ((refine pairS ?_ ?_); (· walk_at "mm"); (· walk_at "pc")))
def sp_z_ranges (K : PySem.W.Frag) : Sp := mk2 fun a b H Q _ => ∃ (name form : Str) (reg : Bool), a = .str name ∧ b = .str (kindS reg) ∧ (name, form) ∈ formsL ∧
  ∀ p qs L' H', SH [] H H' ((p, .lst (qs.map V.ref)) :: L') → PairC L' qs (rng form reg) → Q (.ref p) H'
section
 local macro_rules | `(tactic| walk_at "st") => `(tactic| first
  | ((with_reducible refine i_pos ?_ ?_); (· (apply pos_of hf; decide +kernel)))
  | ((with_reducible refine i_neg ?_ ?_); (· (apply neg_of hf; decide +kernel)))
  | fail)
theorem ok_z_ranges {P : Program} {w : World} {K : PySem.W.Frag} {mg : Str → Option Value} {base : Heap} (Y : Env w K mg)  : CallOk P w K mg base CX0 1 "_law_ranges" ["_law_name", "_law_kind"] (sp_z_ranges K) := Hsh.un (by simp (disch := k_dflt (
  refine Hsh.up ?_
  obtain ⟨fd, F⟩ := Y.fd_z_ranges
  refine ⟨_, fd, Y.mg_z_ranges, F.kp, F.bindsN (fun _ _ _ _ _ _ us hl => match us, hl with | [_, _], _ => rfl), F.ok sc_z_ranges mk2_len (fun cdv A outer s H vs Q E hr h => ?_)⟩
  have hu := hu_room hr
  obtain ⟨_, _, rfl, name, form, reg, rfl, rfl, hf, k⟩ := h
  have hS : SH [] H H [] := SH.start0
  refine ⟨_, PSs.nox (pss_cons (ps_set (i := 2) sc_z_ranges.nd rfl (Or.inl rfl) (pe_tup (pa_cons pe_int (pa_cons pe_int pa_nil))))
  (pss_cons (ps_set (i := 3) sc_z_ranges.nd rfl (Or.inl rfl) (pe_ix xIx (pe_lst (pa_cons (pe_tup (pa_cons pe_int (pa_cons pe_int pa_nil))) (pa_cons (pe_tup (pa_cons (pe_un un_neg pe_int) (pa_cons pe_int pa_nil))) pa_nil))) (pe_callTy x_int rfl Y.z_int (by decide +kernel) (pa_cons (pe_cmpR (xEq hu) (pv 1) pe_str (nomark _)) pa_nil)) (fun _ _ => rfl)))
  (pss_cons (ps_if (pt_cmpR xIn (pv 0) (pe_lst (pa_cons pe_str (pa_cons pe_str (pa_cons pe_str (pa_cons pe_str (pa_cons pe_str pa_nil)))))) rfl) (pss_one (ps_ret (pe_lst pa_nil))) pss_nil)
  (pss_cons (ps_if (PW.pt (pw_or (pt_cmpR (xEq hu) (pv 0) pe_str (nomark _)) (pw_or1 (pt_cmpR (xEq hu) (pv 0) pe_str (nomark _))))) (pss_one (ps_ret (pe_lst (pa_cons (pv 2) pa_nil)))) pss_nil)
  (pss_cons (ps_if (PW.pt (pw_or (pt_cmpR (xEq hu) (pv 0) pe_str (nomark _)) (pw_or1 (pt_cmpR (xEq hu) (pv 0) pe_str (nomark _))))) (pss_one (ps_ret (pe_lst (pa_cons (pv 3) pa_nil)))) pss_nil)
  (pss_cons (ps_if (pt_cmpR xIn (pv 0) (pe_lst (pa_cons pe_str (pa_cons pe_str (pa_cons pe_str pa_nil)))) rfl) (pss_one (ps_ret (pe_lst (pa_cons (pv 2) (pa_cons (pv 3) pa_nil))))) pss_nil)
  (pss_cons (ps_if (pt_cmpR (xEq hu) (pv 0) pe_str (nomark _)) (pss_one (ps_ret (pe_lst (pa_cons (pe_tup (pa_cons (pe_un un_neg pe_int) (pa_cons pe_int pa_nil))) pa_nil)))) pss_nil)
  (pss_cons (ps_if (PW.pt (pw_or (pt_cmpR (xEq hu) (pv 0) pe_str (nomark _)) (pw_or1 (pt_cmpR (xEq hu) (pv 0) pe_str (nomark _))))) (pss_one (ps_ret (pe_lst (pa_cons (pe_tup (pa_cons pe_int (pa_cons pe_int pa_nil))) pa_nil)))) pss_nil)
  (pss_cons (ps_if (PW.pt (pw_or (pt_cmpR (xEq hu) (pv 0) pe_str (nomark _)) (pw_or1 (pt_cmpR (xEq hu) (pv 0) pe_str (nomark _))))) (pss_one (ps_ret (pe_lst (pa_cons (pv 2) (pa_cons (pe_tup (pa_cons (pe_un un_neg pe_int) (pa_cons pe_int pa_nil))) pa_nil))))) pss_nil)
  (pss_cons (ps_if (pt_cmpR (xEq hu) (pv 0) pe_str (nomark _)) (pss_one (ps_ret (pe_lst (pa_cons (pv 2) (pa_cons (pv 2) (pa_cons (pe_tup (pa_cons pe_int (pa_cons pe_int pa_nil))) pa_nil)))))) pss_nil)
  (pss_one (ps_ret (pe_lst (pa_cons (pv 2) (pa_cons (pv 2) (pa_cons (pv 3) pa_nil)))))))))))))))), ?_⟩
  rw [st_z_ranges]
  try simp only [cxK, cxK2, cxW, cxW2]
  clear hu hr F
  cases reg
  all_goals
    simp only [kindS, if_neg Bool.false_ne_true, if_pos rfl]
    rcases six_c form (List.mem_map_of_mem hf) with rfl | rfl | rfl | rfl | rfl | rfl | rfl | rfl | rfl
    all_goals repeat' walk_at "st"
  all_goals first
    | (walk_at "dead")
    | (refine k _ [] _ _ hS ?_; walk_at "pc")
    | (refine k _ [_] _ _ hS ?_; walk_at "pc")
    | (refine k _ [_, _] _ _ hS ?_; walk_at "pc")
    | (refine k _ [_, _, _] _ _ hS ?_; walk_at "pc")
    | trace_state
  )) only [↓Hsh.on])
end
theorem c_z_ranges {K : PySem.W.Frag} {A : List Addr} {H0 H : Hp} {L : List Cell} {name form : Str} {reg : Bool} {Q : VK} {E : XK} (hS : SH A H0 H L) (hf : (name, form) ∈ formsL)
    (k : ∀ p qs L' H', SH A H0 H' ((p, .lst (qs.map V.ref)) :: (L ++ L')) → PairC L' qs (rng form reg) → Q (.ref p) H') : sp_z_ranges K ([.str name, .str (kindS reg)] ++ []) H Q E :=
  ⟨_, _, rfl, name, form, reg, rfl, rfl, hf, fun p qs L' H' C hp => k p qs L' H' ((SH.call (B := []) (F := L) hS C).perm (List.Perm.cons _ List.perm_append_comm)) hp⟩
/-- these cells make the tuple of an instruction -/
def InsC (K : PySem.W.Frag) (L : List Cell) (I : Ins) (p : Addr) : Prop := ∀ H : Hp, (∀ c ∈ L, H c.1 = some c.2) → I.at K H p
def sp_z_instruction (K : PySem.W.Frag) : Sp := mk3 fun a b c H Q _ => ∃ (I : Ins) (l : Addr), a = .str I.name ∧ b = .str (kindS I.reg) ∧ c = .ref l ∧ H l = some (.lst (I.ns.map V.int)) ∧ I.ok ∧ ∀ p L' H', SH [] H H' L' → InsC K L' I p → Q (.ref p) H'
section
 local macro_rules | `(tactic| walk_at "st") => `(tactic| first
  | ((with_reducible refine i_pos ?_ ?_); (· (apply pos_of hf; decide +kernel)))
  | ((with_reducible refine i_neg ?_ ?_); (· (apply neg_of hf; decide +kernel)))
  | fail)
theorem ok_z_instruction {P : Program} {w : World} {K : PySem.W.Frag} {mg : Str → Option Value} {base : Heap} (Y : Env w K mg)  : CallOk P w K mg base CX0 1 "_law_instruction" ["_law_name", "_law_kind", "_law_numbers"] (sp_z_instruction K) := Hsh.un (by simp (disch := k_dflt (
  refine Hsh.up ?_
  obtain ⟨fd, F⟩ := Y.fd_z_instruction
  refine ⟨_, fd, Y.mg_z_instruction, F.kp, F.bindsN (fun _ _ _ _ _ _ us hl => match us, hl with | [_, _, _], _ => rfl), F.ok sc_z_instruction mk3_len (fun cdv A outer s H vs Q E hr h => ?_)⟩
  have hu := hu_room hr
  obtain ⟨_, _, _, rfl, ⟨name, form, ns, reg⟩, l, rfl, rfl, rfl, hl, ok, k⟩ := h
  have hS : SH [] H H [] := SH.start0
  have hf : (name, form) ∈ formsL := ok.hf
  have hln : ns.length = lenOf form := ok.ln
  refine ⟨_, PSs.nox (pss_cons (ps_if (PW.pt (pw_or (pt_cmpR (xEq hu) (pe_callB x_len rfl Y.z_len (by decide +kernel) (pa_cons (pv 2) pa_nil)) pe_int (nomark _)) (pw_or1 (pt_cmpR xIn (pv 0) (pe_lst (pa_cons pe_str (pa_cons pe_str (pa_cons pe_str (pa_cons pe_str (pa_cons pe_str (pa_cons pe_str (pa_cons pe_str (pa_cons pe_str pa_nil))))))))) rfl)))) (pss_one (ps_ret (pe_op xAdd (pe_tup (pa_cons (pv 0) pa_nil)) (pe_callTy x_tuple rfl Y.z_tuple (by decide +kernel) (pa_cons (pv 2) pa_nil))))) pss_nil)
  (pss_one (ps_ret (pe_op xAdd (pe_op xAdd (pe_tup (pa_cons (pv 0) pa_nil)) (pe_callTy x_tuple rfl Y.z_tuple (by decide +kernel) (pa_cons (pe_slice xSl (pv 2) po_none (po_some (pe_un un_neg pe_int))) pa_nil))) (pe_tup (pa_cons (pe_tup (pa_cons (pv 1) (pa_cons (pe_ix xIx (pv 2) (pe_un un_neg pe_int) (fun _ _ => rfl)) pa_nil))) pa_nil)))))), ?_⟩
  rw [st_z_instruction]
  try simp only [cxK, cxK2, cxW, cxW2]
  clear hu hr F
  rcases six_c form (List.mem_map_of_mem hf) with rfl | rfl | rfl | rfl | rfl | rfl | rfl | rfl | rfl
  · have e : ns = [] := List.length_eq_zero_iff.mp hln
    subst e
    have hl : H l = some (.lst []) := hl
    repeat' walk_at "st"
    all_goals exact k _ _ _ hS (fun H2 hc => (SqT.of (hc _ (.tail _ (.head _))) : SqT K H2 _ [.str name]))
  · obtain ⟨a, rfl⟩ := len1 hln
    have hl : H l = some (.lst [.int a]) := hl
    repeat' walk_at "st"
    all_goals exact k _ _ _ hS (fun H2 hc => (SqT.of (hc (p, _) (.head _)) : SqT K H2 p [.str name, .int a]))
  · obtain ⟨a, rfl⟩ := len1 hln
    have hl : H l = some (.lst [.int a]) := hl
    repeat' walk_at "st"
    all_goals exact k _ _ _ hS (fun H2 hc => (SqT.of (hc (p, _) (.head _)) : SqT K H2 p [.str name, .int a]))
  · obtain ⟨a, rfl⟩ := len1 hln
    have hl : H l = some (.lst [.int a]) := hl
    repeat' walk_at "st"
    all_goals exact k _ _ _ hS (fun H2 hc => (⟨_, SqT.of (hc _ (.head _)), SqT.of (hc _ (.tail _ (.tail _ (.head _))))⟩ : ∃ q, SqT K H2 p [.str name, .ref q] ∧ SqT K H2 q [.str (kindS reg), .int a]))
  · obtain ⟨a, b, rfl⟩ := len2 hln
    have hl : H l = some (.lst [.int a, .int b]) := hl
    repeat' walk_at "st"
    all_goals exact k _ _ _ hS (fun H2 hc => (⟨_, SqT.of (hc _ (.head _)), SqT.of (hc _ (.tail _ (.tail _ (.head _))))⟩ : ∃ q, SqT K H2 p [.str name, .int a, .ref q] ∧ SqT K H2 q [.str (kindS reg), .int b]))
  · obtain ⟨a, b, rfl⟩ := len2 hln
    have hl : H l = some (.lst [.int a, .int b]) := hl
    repeat' walk_at "st"
    all_goals exact k _ _ _ hS (fun H2 hc => (SqT.of (hc (p, _) (.head _)) : SqT K H2 p [.str name, .int a, .int b]))
  · obtain ⟨a, rfl⟩ := len1 hln
    have hl : H l = some (.lst [.int a]) := hl
    repeat' walk_at "st"
    all_goals exact k _ _ _ hS (fun H2 hc => (SqT.of (hc (p, _) (.head _)) : SqT K H2 p [.str name, .int a]))
  · obtain ⟨a, b, c, rfl⟩ := len3 hln
    have hl : H l = some (.lst [.int a, .int b, .int c]) := hl
    repeat' walk_at "st"
    all_goals exact k _ _ _ hS (fun H2 hc => (SqT.of (hc (p, _) (.head _)) : SqT K H2 p [.str name, .int a, .int b, .int c]))
  · obtain ⟨a, b, c, rfl⟩ := len3 hln
    have hl : H l = some (.lst [.int a, .int b, .int c]) := hl
    repeat' walk_at "st"
    all_goals exact k _ _ _ hS (fun H2 hc => (⟨_, SqT.of (hc _ (.head _)), SqT.of (hc _ (.tail _ (.tail _ (.head _))))⟩ : ∃ q, SqT K H2 p [.str name, .int a, .int b, .ref q] ∧ SqT K H2 q [.str (kindS reg), .int c]))
  )) only [↓Hsh.on])
end
theorem c_z_instruction {K : PySem.W.Frag} {A : List Addr} {H0 H : Hp} {L : List Cell} {I : Ins} {l : Addr} {Q : VK} {E : XK} (hS : SH A H0 H L) (hl : H l = some (.lst (I.ns.map V.int))) (ok : I.ok)
    (k : ∀ p L' H', SH A H0 H' (L ++ L') → (∀ c ∈ L', H' c.1 = some c.2) → InsC K L' I p → Q (.ref p) H') : sp_z_instruction K ([.str I.name, .str (kindS I.reg), .ref l] ++ []) H Q E :=
  ⟨_, _, _, rfl, I, l, rfl, rfl, rfl, hl, ok, fun p L' H' C hi => k p L' H' ((SH.call (B := []) (F := L) hS C).perm List.perm_append_comm) C.hs hi⟩
/-! ### numbers within their bounds -/
def inR (ns : List Int) (rs : List (Int × Int)) : Prop := ns.length = rs.length ∧ ∀ (k : Nat) (n : Int) (r : Int × Int), ns[k]? = some n → rs[k]? = some r → r.1 ≤ n ∧ n ≤ r.2
/-- the word of an instruction whose numbers fit -/
def Ins.val (I : Ins) : Int :=
  let w := num I.name * 67108864
  let a := I.ns.getD 0 0
  let b := I.ns.getD 1 0
  let c := I.ns.getD 2 0
  let o (n : Int) : Int := if I.reg = true then n else 32768 + n % 32768
  if I.form = "" then w
  else if I.form = "j" then w + a % 67108864
  else if I.form = "c" then w + a
  else if I.form = "s" then w + o a
  else if I.form = "as" then w + a * 65536 + o b
  else if I.form = "dn" then w + a * 2097152 + b % 2097152
  else if I.form = "d" then w + a * 2097152
  else if I.form = "dam" then w + a * 2097152 + b * 65536 + 32768 + c
  else w + a * 2097152 + b * 65536 + o c
theorem opd_ok {r : Bool} {n : Int} (h1 : (rngS r).1 ≤ n) (h2 : n ≤ (rngS r).2) : opdB r n = some (if r = true then n else 32768 + n % 32768) := Hsh.un (by simp (disch := k_dflt (
  refine Hsh.up ?_
  unfold rngS at h1 h2
  unfold opdB
  cases r
  · rw [if_neg Bool.false_ne_true] at *
    rw [if_neg Bool.false_ne_true, if_pos ⟨h1, h2⟩]
  · rw [if_pos rfl] at *
    rw [if_pos rfl, if_pos ⟨h1, h2⟩]
  )) only [↓Hsh.on])
theorem opd_bad {r : Bool} {n : Int} (h : ¬ ((rngS r).1 ≤ n ∧ n ≤ (rngS r).2)) : opdB r n = none := Hsh.un (by simp (disch := k_dflt (
  refine Hsh.up ?_
  unfold rngS at h
  unfold opdB
  cases r
  · rw [if_neg Bool.false_ne_true] at *
    rw [if_neg h]
  · rw [if_pos rfl] at *
    rw [if_neg h]
  )) only [↓Hsh.on])
theorem enc_val {I : Ins} (ok : I.ok) (h : inR I.ns (rng I.form I.reg)) : I.enc = some I.val := Hsh.un (by simp (disch := k_dflt (
  refine Hsh.up ?_
  obtain ⟨name, form, ns, reg⟩ := I
  have hf : (name, form) ∈ formsL := ok.hf
  have hln : ns.length = lenOf form := ok.ln
  obtain ⟨_, h⟩ := h
  rcases six_c form (List.mem_map_of_mem hf) with rfl | rfl | rfl | rfl | rfl | rfl | rfl | rfl | rfl
  · have e : ns = [] := List.length_eq_zero_iff.mp hln
    subst e
    rfl
  · obtain ⟨a, rfl⟩ := len1 hln
    have ha := h 0 a _ rfl rfl
    rw [enc_j, bdd_some ha.1 ha.2]
    rfl
  · obtain ⟨a, rfl⟩ := len1 hln
    have ha := h 0 a _ rfl rfl
    rw [enc_c, bdd_some ha.1 ha.2]
    rfl
  · obtain ⟨a, rfl⟩ := len1 hln
    have ha := h 0 a _ rfl rfl
    rw [enc_s, opd_ok ha.1 ha.2]
    rfl
  · obtain ⟨a, b, rfl⟩ := len2 hln
    have ha : (0 : Int) ≤ a ∧ a ≤ 31 := h 0 a _ rfl rfl
    have hb := h 1 b _ rfl rfl
    rw [enc_as, bdd_some ha.1 ha.2, Option.bind_some, opd_ok hb.1 hb.2]
    rfl
  · obtain ⟨a, b, rfl⟩ := len2 hln
    have ha : (0 : Int) ≤ a ∧ a ≤ 31 := h 0 a _ rfl rfl
    have hb : (-1048576 : Int) ≤ b ∧ b ≤ 1048575 := h 1 b _ rfl rfl
    rw [enc_dn, bdd_some ha.1 ha.2, Option.bind_some, bdd_some hb.1 hb.2]
    rfl
  · obtain ⟨a, rfl⟩ := len1 hln
    have ha : (0 : Int) ≤ a ∧ a ≤ 31 := h 0 a _ rfl rfl
    rw [enc_d, bdd_some ha.1 ha.2]
    rfl
  · obtain ⟨a, b, c, rfl⟩ := len3 hln
    have ha : (0 : Int) ≤ a ∧ a ≤ 31 := h 0 a _ rfl rfl
    have hb : (0 : Int) ≤ b ∧ b ≤ 31 := h 1 b _ rfl rfl
    have hc : (0 : Int) ≤ c ∧ c ≤ 2047 := h 2 c _ rfl rfl
    rw [enc_dam, bdd_some (n := a) ha.1 ha.2, Option.bind_some, bdd_some (n := b) hb.1 hb.2, Option.bind_some, bdd_some (n := c) hc.1 hc.2]
    rfl
  · obtain ⟨a, b, c, rfl⟩ := len3 hln
    have ha : (0 : Int) ≤ a ∧ a ≤ 31 := h 0 a _ rfl rfl
    have hb : (0 : Int) ≤ b ∧ b ≤ 31 := h 1 b _ rfl rfl
    have hc := h 2 c _ rfl rfl
    rw [enc_das, bdd_some (n := a) ha.1 ha.2, Option.bind_some, bdd_some (n := b) hb.1 hb.2, Option.bind_some, opd_ok hc.1 hc.2]
    rfl
  )) only [↓Hsh.on])
theorem bdd_bind {n lo hi : Int} {f : Int → Option Int} (h : lo ≤ n ∧ n ≤ hi → f n = none) : (bdd n lo hi).bind f = none := Hsh.un (by simp (disch := k_dflt (
  refine Hsh.up ?_
  by_cases q : lo ≤ n ∧ n ≤ hi
  · rw [bdd_some q.1 q.2]; exact h q
  · rw [bdd_none q]; rfl
  )) only [↓Hsh.on])
theorem enc_bad {I : Ins} (ok : I.ok) {k : Nat} {n : Int} {r : Int × Int} (h1 : I.ns[k]? = some n) (h2 : (rng I.form I.reg)[k]? = some r) (h : ¬ (r.1 ≤ n ∧ n ≤ r.2)) : I.enc = none := Hsh.un (by simp (disch := k_dflt (
  refine Hsh.up ?_
  obtain ⟨name, form, ns, reg⟩ := I
  have hf : (name, form) ∈ formsL := ok.hf
  have hln : ns.length = lenOf form := ok.ln
  rcases six_c form (List.mem_map_of_mem hf) with rfl | rfl | rfl | rfl | rfl | rfl | rfl | rfl | rfl
  · cases h2
  · obtain ⟨a, rfl⟩ := len1 hln
    cases k with
    | zero => cases h1; cases h2; rw [enc_j, bdd_none h]; rfl
    | succ k => cases h1
  · obtain ⟨a, rfl⟩ := len1 hln
    cases k with
    | zero => cases h1; cases h2; rw [enc_c, bdd_none h]; rfl
    | succ k => cases h1
  · obtain ⟨a, rfl⟩ := len1 hln
    cases k with
    | zero => cases h1; cases h2; rw [enc_s, opd_bad h]; rfl
    | succ k => cases h1
  · obtain ⟨a, b, rfl⟩ := len2 hln
    rw [enc_as]
    rcases k with _ | _ | k
    · cases h1; cases h2; exact bdd_bind fun z => absurd z h
    · cases h1; cases h2; refine bdd_bind fun _ => ?_; rw [opd_bad h]; rfl
    · cases h1
  · obtain ⟨a, b, rfl⟩ := len2 hln
    rw [enc_dn]
    rcases k with _ | _ | k
    · cases h1; cases h2; exact bdd_bind fun z => absurd z h
    · cases h1; cases h2; refine bdd_bind fun _ => ?_; rw [bdd_none h]; rfl
    · cases h1
  · obtain ⟨a, rfl⟩ := len1 hln
    rw [enc_d]
    rcases k with _ | k
    · cases h1; cases h2; exact bdd_bind fun z => absurd z h
    · cases h1
  · obtain ⟨a, b, c, rfl⟩ := len3 hln
    rw [enc_dam]
    rcases k with _ | _ | _ | k
    · cases h1; cases h2; exact bdd_bind fun z => absurd z h
    · cases h1; cases h2; exact bdd_bind fun _ => bdd_bind fun z => absurd z h
    · cases h1; cases h2; refine bdd_bind fun _ => bdd_bind fun _ => ?_; rw [bdd_none h]; rfl
    · cases h1
  · obtain ⟨a, b, c, rfl⟩ := len3 hln
    rw [enc_das]
    rcases k with _ | _ | _ | k
    · cases h1; cases h2; exact bdd_bind fun z => absurd z h
    · cases h1; cases h2; exact bdd_bind fun _ => bdd_bind fun z => absurd z h
    · cases h1; cases h2; refine bdd_bind fun _ => bdd_bind fun _ => ?_; rw [opd_bad h]; rfl
    · cases h1
  )) only [↓Hsh.on])
def sp_z_encoded (K : PySem.W.Frag) : Sp := mk3 fun a b c H Q _ => ∃ (I : Ins) (l : Addr), a = .str I.name ∧ b = .str (kindS I.reg) ∧ c = .ref l ∧ H l = some (.lst (I.ns.map V.int)) ∧ I.ok ∧ inR I.ns (rng I.form I.reg) ∧ ∀ H', Keep [] H H' → Q (.int I.val) H'
section
 local macro_rules | `(tactic| walk_at "st") => `(tactic| first
  | ((with_reducible refine i_pos ?_ ?_); (· (apply pos_of hf; decide +kernel)))
  | ((with_reducible refine i_neg ?_ ?_); (· (apply neg_of hf; decide +kernel)))
  | ((with_reducible apply s_lix (ys := namesL)); (· walk_at "sq"); (· exact hnm.1); (· exact hnm.2))
  | fail)
theorem ok_z_encoded {P : Program} {w : World} {K : PySem.W.Frag} {mg : Str → Option Value} {base : Heap} (Y : Env w K mg) (G_z_names : CallOk P w K mg base CX0 1 "_law_names" [] (sp_z_names K)) : CallOk P w K mg base CX0 2 "_law_encoded" ["_law_name", "_law_kind", "_law_numbers"] (sp_z_encoded K) := Hsh.un (by simp (disch := k_dflt (
  refine Hsh.up ?_
  obtain ⟨fd, F⟩ := Y.fd_z_encoded
  refine ⟨_, fd, Y.mg_z_encoded, F.kp, F.bindsN (fun _ _ _ _ _ _ us hl => match us, hl with | [_, _, _], _ => rfl), F.ok sc_z_encoded mk3_len (fun cdv A outer s H vs Q E hr h => ?_)⟩
  have hu := hu_room hr
  obtain ⟨_, _, _, rfl, ⟨name, form, ns, reg⟩, l, rfl, rfl, rfl, hl, ok, hin, k⟩ := h
  have hS : SH [] H H [] := SH.start0
  have hf : (name, form) ∈ formsL := ok.hf
  have hln : ns.length = lenOf form := ok.ln
  have hnm := name_at hf
  refine ⟨_, PSs.nox (pss_cons (ps_set (i := 3) sc_z_encoded.nd rfl (Or.inl rfl) (pe_op xMul (pe_bm PySem.F.plainAttrs_list PySem.F.slot_list_index PySem.F.type_list_index xl_index (pe_callG0 G_z_names hr rfl pass0) (pa_cons (pv 0) pa_nil)) pe_int))
  (pss_cons (ps_if (pt_cmpR (xEq hu) (pe_callB x_len rfl Y.z_len (by decide +kernel) (pa_cons (pv 2) pa_nil)) pe_int (nomark _)) (pss_one (ps_ret (pv 3))) pss_nil)
  (pss_cons (ps_if (pt_cmpR xIn (pv 0) (pe_lst (pa_cons pe_str (pa_cons pe_str (pa_cons pe_str pa_nil)))) rfl) (pss_one (ps_ret (pe_op xAdd (pv 3) (pe_op xMod (pe_callTy x_int rfl Y.z_int (by decide +kernel) (pa_cons (pe_ix xIx (pv 2) pe_int (fun _ _ => rfl)) pa_nil)) pe_int)))) pss_nil)
  (pss_cons (ps_if (pt_cmpR xIn (pv 0) (pe_lst (pa_cons pe_str (pa_cons pe_str (pa_cons pe_str pa_nil)))) rfl) (pss_one (ps_set (i := 2) sc_z_encoded.nd rfl (Or.inl rfl) (pe_op xAdd (pe_lst (pa_cons pe_int pa_nil)) (pv 2)))) pss_nil)
  (pss_cons (ps_if (PW.pt (pw_or (pt_cmpR (xEq hu) (pv 0) pe_str (nomark _)) (pw_or1 (pt_cmpR (xEq hu) (pv 0) pe_str (nomark _))))) (pss_one (ps_set (i := 2) sc_z_encoded.nd rfl (Or.inl rfl) (pe_op xAdd (pe_lst (pa_cons pe_int (pa_cons pe_int pa_nil))) (pv 2)))) pss_nil)
  (pss_cons (ps_set (i := 3) sc_z_encoded.nd rfl (Or.inl rfl) (pe_op xAdd (pv 3) (pe_op xMul (pe_ix xIx (pv 2) pe_int (fun _ _ => rfl)) pe_int)))
  (pss_cons (ps_if (PW.pt (pw_or (pt_cmpR (xEq hu) (pv 0) pe_str (nomark _)) (pw_or1 (pt_cmpR (xEq hu) (pv 0) pe_str (nomark _))))) (pss_one (ps_ret (pe_op xAdd (pv 3) (pe_op xMod (pe_callTy x_int rfl Y.z_int (by decide +kernel) (pa_cons (pe_ix xIx (pv 2) pe_int (fun _ _ => rfl)) pa_nil)) pe_int)))) pss_nil)
  (pss_cons (ps_if (PW.pt (pw_or (pt_cmpR (xEq hu) (pv 0) pe_str (nomark _)) (pw_or1 (pt_cmpR (xEq hu) (pv 0) pe_str (nomark _))))) (pss_one (ps_ret (pv 3))) pss_nil)
  (pss_cons (ps_set (i := 3) sc_z_encoded.nd rfl (Or.inl rfl) (pe_op xAdd (pv 3) (pe_op xMul (pe_ix xIx (pv 2) pe_int (fun _ _ => rfl)) pe_int)))
  (pss_cons (ps_if (pt_cmpR (xEq hu) (pv 0) pe_str (nomark _)) (pss_one (ps_ret (pe_op xAdd (pe_op xAdd (pv 3) pe_int) (pe_ix xIx (pv 2) pe_int (fun _ _ => rfl))))) pss_nil)
  (pss_cons (ps_if (pt_cmpR (xEq hu) (pv 1) pe_str (nomark _)) (pss_one (ps_ret (pe_op xAdd (pe_op xAdd (pv 3) pe_int) (pe_op xMod (pe_callTy x_int rfl Y.z_int (by decide +kernel) (pa_cons (pe_ix xIx (pv 2) pe_int (fun _ _ => rfl)) pa_nil)) pe_int)))) pss_nil)
  (pss_one (ps_ret (pe_op xAdd (pv 3) (pe_ix xIx (pv 2) pe_int (fun _ _ => rfl)))))))))))))))), ?_⟩
  rw [st_z_encoded]
  try simp only [cxK, cxK2, cxW, cxW2]
  clear hu hr F
  rcases six_c form (List.mem_map_of_mem hf) with rfl | rfl | rfl | rfl | rfl | rfl | rfl | rfl | rfl
  · have e : ns = [] := List.length_eq_zero_iff.mp hln
    subst e
    have hl : H l = some (.lst []) := hl
    repeat' walk_at "st"
    all_goals first
      | (walk_at "dead")
      | exact (congrArg (fun x => Q (V.int x) _) (show Ins.val _ = _ from by show num name * 67108864 = _; unfold num; omega)).mp (k _ hS.kp)
  · obtain ⟨a, rfl⟩ := len1 hln
    have hl : H l = some (.lst [.int a]) := hl
    repeat' walk_at "st"
    all_goals first
      | (walk_at "dead")
      | exact (congrArg (fun x => Q (V.int x) _) (show Ins.val _ = _ from by show num name * 67108864 + a % 67108864 = _; unfold num; omega)).mp (k _ hS.kp)
  · obtain ⟨a, rfl⟩ := len1 hln
    have hl : H l = some (.lst [.int a]) := hl
    repeat' walk_at "st"
    have ha : (0 : Int) ≤ a ∧ a ≤ 67108863 := hin.2 0 a _ rfl rfl
    all_goals first
      | (walk_at "dead")
      | exact (congrArg (fun x => Q (V.int x) _) (show Ins.val _ = _ from by show num name * 67108864 + a = _; unfold num; omega)).mp (k _ hS.kp)
  · obtain ⟨a, rfl⟩ := len1 hln
    have hl : H l = some (.lst [.int a]) := hl
    cases reg
    all_goals
      simp only [kindS, if_neg Bool.false_ne_true, if_pos rfl]
      repeat' walk_at "st"
    all_goals first
      | (walk_at "dead")
      | exact (congrArg (fun x => Q (V.int x) _) (show Ins.val _ = _ from by show num name * 67108864 + (32768 + a % 32768) = _; unfold num; omega)).mp (k _ hS.kp)
      | exact (congrArg (fun x => Q (V.int x) _) (show Ins.val _ = _ from by show num name * 67108864 + a = _; unfold num; omega)).mp (k _ hS.kp)
  · obtain ⟨a, b, rfl⟩ := len2 hln
    have hl : H l = some (.lst [.int a, .int b]) := hl
    cases reg
    all_goals
      simp only [kindS, if_neg Bool.false_ne_true, if_pos rfl]
      repeat' walk_at "st"
    all_goals first
      | (walk_at "dead")
      | exact (congrArg (fun x => Q (V.int x) _) (show Ins.val _ = _ from by show num name * 67108864 + a * 65536 + (32768 + b % 32768) = _; unfold num; omega)).mp (k _ hS.kp)
      | exact (congrArg (fun x => Q (V.int x) _) (show Ins.val _ = _ from by show num name * 67108864 + a * 65536 + b = _; unfold num; omega)).mp (k _ hS.kp)
  · obtain ⟨a, b, rfl⟩ := len2 hln
    have hl : H l = some (.lst [.int a, .int b]) := hl
    repeat' walk_at "st"
    all_goals first
      | (walk_at "dead")
      | exact (congrArg (fun x => Q (V.int x) _) (show Ins.val _ = _ from by show num name * 67108864 + a * 2097152 + b % 2097152 = _; unfold num; omega)).mp (k _ hS.kp)
  · obtain ⟨a, rfl⟩ := len1 hln
    have hl : H l = some (.lst [.int a]) := hl
    repeat' walk_at "st"
    all_goals first
      | (walk_at "dead")
      | exact (congrArg (fun x => Q (V.int x) _) (show Ins.val _ = _ from by show num name * 67108864 + a * 2097152 = _; unfold num; omega)).mp (k _ hS.kp)
  · obtain ⟨a, b, c, rfl⟩ := len3 hln
    have hl : H l = some (.lst [.int a, .int b, .int c]) := hl
    repeat' walk_at "st"
    all_goals first
      | (walk_at "dead")
      | exact (congrArg (fun x => Q (V.int x) _) (show Ins.val _ = _ from by show num name * 67108864 + a * 2097152 + b * 65536 + 32768 + c = _; unfold num; omega)).mp (k _ hS.kp)
  · obtain ⟨a, b, c, rfl⟩ := len3 hln
    have hl : H l = some (.lst [.int a, .int b, .int c]) := hl
    cases reg
    all_goals
      simp only [kindS, if_neg Bool.false_ne_true, if_pos rfl]
      repeat' walk_at "st"
    all_goals first
      | (walk_at "dead")
      | exact (congrArg (fun x => Q (V.int x) _) (show Ins.val _ = _ from by show num name * 67108864 + a * 2097152 + b * 65536 + (32768 + c % 32768) = _; unfold num; omega)).mp (k _ hS.kp)
      | exact (congrArg (fun x => Q (V.int x) _) (show Ins.val _ = _ from by show num name * 67108864 + a * 2097152 + b * 65536 + c = _; unfold num; omega)).mp (k _ hS.kp)
  )) only [↓Hsh.on])
end
theorem c_z_encoded {K : PySem.W.Frag} {A : List Addr} {H0 H : Hp} {L : List Cell} {I : Ins} {l : Addr} {Q : VK} {E : XK} (hS : SH A H0 H L) (hl : H l = some (.lst (I.ns.map V.int))) (ok : I.ok) (hin : inR I.ns (rng I.form I.reg))
    (k : ∀ H', SH A H0 H' L → Q (.int I.val) H') : sp_z_encoded K ([.str I.name, .str (kindS I.reg), .ref l] ++ []) H Q E := ⟨_, _, _, rfl, I, l, rfl, rfl, rfl, hl, ok, hin, fun H' kp => k H' (hS.call0 kp)⟩
theorem clampR {lo hi y : Int} (h : lo ≤ hi) : lo ≤ (if lo ≤ (if hi ≤ y then hi else y) then (if hi ≤ y then hi else y) else lo) ∧ (if lo ≤ (if hi ≤ y then hi else y) then (if hi ≤ y then hi else y) else lo) ≤ hi := Hsh.un (by simp (disch := k_dflt (
  refine Hsh.up ?_
  by_cases h1 : hi ≤ y
  · rw [if_pos h1, if_pos h]; exact ⟨h, Int.le_refl _⟩
  · rw [if_neg h1]
    by_cases h2 : lo ≤ y
    · rw [if_pos h2]; omega
    · rw [if_neg h2]; exact ⟨Int.le_refl _, h⟩
  )) only [↓Hsh.on])
def sp_z_between (K : PySem.W.Frag) : Sp := mk3 fun a b d H Q _ => ∃ (p q : Addr) (ns : List Int) (i c n sd bu lo hi : Int), a = .ref p ∧ b = .int lo ∧ d = .int hi ∧ H p = some (stD q i c n sd bu) ∧ H q = some (.lst (ns.map V.int)) ∧ q ≠ p ∧ 0 ≤ i ∧ lo ≤ hi ∧ hi - lo < 2 ^ 60 ∧
  ∀ (r i' c' n' : Int) H', lo ≤ r → r ≤ hi → 0 ≤ i' → H' p = some (stD q i' c' n' sd bu) → Keep [p] H H' → Q (.int r) H'
theorem ok_z_between {P : Program} {w : World} {K : PySem.W.Frag} {mg : Str → Option Value} {base : Heap} (Y : Env w K mg) (G_z_draw : CallOk P w K mg base CX0 2 "_law_draw" ["_law_state_here", "_law_many"] (sp_z_draw K)) : CallOk P w K mg base CX0 3 "_law_between" ["_law_state_here", "_law_low", "_law_high"] (sp_z_between K) := Hsh.un (by simp (disch := k_dflt (
  refine Hsh.up ?_
  obtain ⟨fd, F⟩ := Y.fd_z_between
  refine ⟨_, fd, Y.mg_z_between, F.kp, F.bindsN (fun _ _ _ _ _ _ us hl => match us, hl with | [_, _, _], _ => rfl), F.ok sc_z_between mk3_len (fun cdv A outer s H vs Q E hr h => ?_)⟩
  have hu := hu_room hr
  obtain ⟨_, _, _, rfl, p, q, ns, i, c, n, sd, bu, lo, hi, rfl, rfl, rfl, hp, hq, ne, hi0, h1, h2, k⟩ := h
  have hS : SH [p, q] H H [(p, stD q i c n sd bu), (q, .lst (ns.map V.int))] := start2 hp hq ne
  refine ⟨_, PSs.nox (pss_cons (ps_set (i := 3) sc_z_between.nd rfl (Or.inl rfl) (pe_callG G_z_draw hr rfl pass0 (pa_cons (pv 0) (pa_cons pe_int pa_nil))))
  (pss_cons (ps_if (pt_cmpR (xEq hu) (pv 3) pe_int (nomark _)) (pss_one (ps_ret (pv 1))) pss_nil)
  (pss_cons (ps_if (pt_cmpR (xEq hu) (pv 3) pe_int (nomark _)) (pss_one (ps_ret (pv 2))) pss_nil)
  (pss_cons (ps_if (pt_cmpR (xEq hu) (pv 3) pe_int (nomark _)) (pss_one (ps_ret (pe_callB (x_max1 rfl) rfl Y.z_max (by decide +kernel) (pa_cons (pe_lst (pa_cons (pv 1) (pa_cons (pe_callB (x_min1 rfl) rfl Y.z_min (by decide +kernel) (pa_cons (pe_lst (pa_cons (pv 2) (pa_cons (pe_op op_sub (pe_callG G_z_draw hr rfl pass0 (pa_cons (pv 0) (pa_cons pe_int pa_nil))) pe_int) pa_nil))) pa_nil)) pa_nil))) pa_nil)))) pss_nil)
  (pss_one (ps_ret (pe_op xAdd (pv 1) (pe_callG G_z_draw hr rfl pass0 (pa_cons (pv 0) (pa_cons (pe_op xAdd (pe_op op_sub (pv 2) (pv 1)) pe_int) pa_nil)))))))))), ?_⟩
  rw [st_z_between]
  try simp only [cxK, cxK2, cxW, cxW2]
  clear hu hr F
  repeat' walk_at "st"
  · exact k _ _ _ _ _ (by omega) (by omega) hx1 (hS.get 0 rfl) (keep1 hS hq (hS.get 1 rfl))
  · exact k _ _ _ _ _ (by omega) (by omega) hx1 (hS.get 0 rfl) (keep1 hS hq (hS.get 1 rfl))
  · exact k _ _ _ _ _ (clampR h1).1 (clampR h1).2 hx1 (hS.get 2 rfl) (keep1 hS hq (hS.get 3 rfl))
  · exact k _ _ _ _ _ (by omega) (by omega) hx1 (hS.get 0 rfl) (keep1 hS hq (hS.get 1 rfl))
  )) only [↓Hsh.on])
theorem c_z_between {K : PySem.W.Frag} {A : List Addr} {H0 H : Hp} {L : List Cell} {p q : Addr} {ns : List Int} {x c n sd bu lo hi : Int} {Q : VK} {E : XK} {i j : Nat} (hS : SH A H0 H L) (e : L[i]? = some (p, stD q x c n sd bu)) (e2 : L[j]? = some (q, .lst (ns.map V.int))) (ne : j ≠ i) (h0 : 0 ≤ x) (h1 : lo ≤ hi) (h2 : hi - lo < 2 ^ 60)
    (k : ∀ (r x' c' n' : Int) H', lo ≤ r → r ≤ hi → 0 ≤ x' → SH A H0 H' (L.set i (p, stD q x' c' n' sd bu)) → Q (.int r) H') : sp_z_between K ([.ref p, .int lo, .int hi] ++ []) H Q E :=
  ⟨_, _, _, rfl, p, q, ns, x, c, n, sd, bu, lo, hi, rfl, rfl, rfl, hS.get i e, hS.get j e2, hS.ne e e2 ne, h0, h1, h2, fun r x' c' n' H' a b d f g => k r x' c' n' H' a b d (hS.call1 i e rfl g f)⟩

/-! ### words back to instructions -/
def formOf (n : Str) : Str := (formsL.lookup n).getD ""
theorem form_mem : ∀ n ∈ namesL, (n, formOf n) ∈ formsL := by decide +kernel
theorem num_at : ∀ i, i < 29 → num (namesL.getD i "") = (i : Nat) ∧ namesL.getD i "" ∈ namesL := by decide +kernel
def sgn (n s : Int) : Int := if s / 2 ≤ n then n - s else n
def opD (bits : Int) : Option (Bool × Int) := if 32768 ≤ bits then some (false, sgn (bits - 32768) 32768) else if bits < 32 then some (true, bits) else none
def decO (name form : Str) (d a bits : Int) : Option Ins := match opD bits with
  | none => none
  | some (r, n) => if form = "das" then some ⟨name, form, [d, a, n], r⟩ else if form = "as" then (if d = 0 then some ⟨name, form, [a, n], r⟩ else none) else if d = 0 ∧ a = 0 then some ⟨name, form, [n], r⟩ else none
def decF (name form : Str) (rest : Int) : Option Ins :=
  let d := rest / 2097152
  let a := rest / 65536 % 32
  let bits := rest % 65536
  if form = "j" then some ⟨name, form, [sgn rest 67108864], false⟩
  else if form = "c" then some ⟨name, form, [rest], false⟩
  else if form = "" then (if rest = 0 then some ⟨name, form, [], false⟩ else none)
  else if form = "dn" then some ⟨name, form, [d, sgn (rest % 2097152) 2097152], false⟩
  else if form = "d" then (if a = 0 ∧ bits = 0 then some ⟨name, form, [d], false⟩ else none)
  else if form = "dam" then (if 0 ≤ bits - 32768 ∧ bits - 32768 < 2048 then some ⟨name, form, [d, a, bits - 32768], false⟩ else none)
  else decO name form d a bits
def dec (w : Int) : Option Ins := if 29 ≤ w / 67108864 then none else decF (namesL.getD (w / 67108864).toNat "") (formOf (namesL.getD (w / 67108864).toNat "")) (w % 67108864)
theorem decO_none {n f : Str} {d a b : Int} (h : opD b = none) : decO n f d a b = none := by unfold decO; rw [h]
theorem decO_s {n : Str} {d a b m : Int} {r : Bool} (h : opD b = some (r, m)) : decO n "s" d a b = if d = 0 ∧ a = 0 then some ⟨n, "s", [m], r⟩ else none := by unfold decO; rw [h]; rfl
theorem decO_as {n : Str} {d a b m : Int} {r : Bool} (h : opD b = some (r, m)) : decO n "as" d a b = if d = 0 then some ⟨n, "as", [a, m], r⟩ else none := by unfold decO; rw [h]; rfl
theorem decO_das {n : Str} {d a b m : Int} {r : Bool} (h : opD b = some (r, m)) : decO n "das" d a b = some ⟨n, "das", [d, a, m], r⟩ := by unfold decO; rw [h]; rfl
section
variable {n : Str} {r : Int}
theorem decF_j : decF n "j" r = some ⟨n, "j", [sgn r 67108864], false⟩ := rfl
theorem decF_c : decF n "c" r = some ⟨n, "c", [r], false⟩ := rfl
theorem decF_0 : decF n "" r = if r = 0 then some ⟨n, "", [], false⟩ else none := rfl
theorem decF_dn : decF n "dn" r = some ⟨n, "dn", [r / 2097152, sgn (r % 2097152) 2097152], false⟩ := rfl
theorem decF_d : decF n "d" r = if r / 65536 % 32 = 0 ∧ r % 65536 = 0 then some ⟨n, "d", [r / 2097152], false⟩ else none := rfl
theorem decF_dam : decF n "dam" r = if 0 ≤ r % 65536 - 32768 ∧ r % 65536 - 32768 < 2048 then some ⟨n, "dam", [r / 2097152, r / 65536 % 32, r % 65536 - 32768], false⟩ else none := rfl
theorem decF_s : decF n "s" r = decO n "s" (r / 2097152) (r / 65536 % 32) (r % 65536) := rfl
theorem decF_as : decF n "as" r = decO n "as" (r / 2097152) (r / 65536 % 32) (r % 65536) := rfl
theorem decF_das : decF n "das" r = decO n "das" (r / 2097152) (r / 65536 % 32) (r % 65536) := rfl
end
/-- what decode hands back -/
def RetI (K : PySem.W.Frag) (o : Option Ins) (H : Hp) (Q : VK) : Prop := match o with
  | none => ∀ H', Keep [] H H' → Q (.ref (He.ga K "BAD")) H'
  | some I => ∀ p L' H', SH [] H H' L' → InsC K L' I p → Q (.ref p) H'
def sp_signed (K : PySem.W.Frag) : Sp := mk2 fun a b H Q _ => ∃ n s : Int, a = .int n ∧ b = .int s ∧ Q (.int (sgn n s)) H
theorem ok_signed {P : Program} {w : World} {K : PySem.W.Frag} {mg : Str → Option Value} {base : Heap} (Y : Env w K mg)  : CallOk P w K mg base CX0 1 "signed" ["number", "size"] (sp_signed K) := Hsh.un (by simp (disch := k_dflt (
  refine Hsh.up ?_
  obtain ⟨fd, F⟩ := Y.fd_signed
  refine ⟨_, fd, Y.mg_signed, F.kp, F.bindsN (fun _ _ _ _ _ _ us hl => match us, hl with | [_, _], _ => rfl), F.ok sc_signed mk2_len (fun cdv A outer s H vs Q E hr h => ?_)⟩
  have hu := hu_room hr
  obtain ⟨_, _, rfl, n, s, rfl, rfl, k⟩ := h
  have hS : SH [] H H [] := SH.start0
  refine ⟨_, PSs.nox (pss_cons (ps_if (pt_cmpR op_ge (pv 0) (pe_op xDiv (pv 1) pe_int) (nomark _)) (pss_one (ps_ret (pe_op op_sub (pv 0) (pv 1)))) pss_nil)
  (pss_one (ps_ret (pv 0)))), ?_⟩
  rw [st_signed]
  try simp only [cxK, cxK2, cxW, cxW2]
  clear hu hr F
  unfold sgn at k
  repeat' walk_at "st"
  all_goals simp_all
  )) only [↓Hsh.on])
theorem c_signed {K : PySem.W.Frag} {H : Hp} {n s : Int} {Q : VK} {E : XK} (k : Q (.int (sgn n s)) H) : sp_signed K ([.int n, .int s] ++ []) H Q E := ⟨_, _, rfl, n, s, rfl, rfl, k⟩
local macro_rules | `(tactic| walk_at "st") => `(tactic| first | (with_reducible refine c_signed ?_))
def sp_operand_of (K : PySem.W.Frag) : Sp := mk1 fun a H Q _ => ∃ n : Int, a = .int n ∧ (opD n = none → Q .non H) ∧ ∀ r m, opD n = some (r, m) → ∀ q H', SH [] H H' [(q, .tup [.str (kindS r), .int m])] → Q (.ref q) H'
theorem ok_operand_of {P : Program} {w : World} {K : PySem.W.Frag} {mg : Str → Option Value} {base : Heap} (Y : Env w K mg) (G_signed : CallOk P w K mg base CX0 1 "signed" ["number", "size"] (sp_signed K)) : CallOk P w K mg base CX0 2 "operand_of" ["bits"] (sp_operand_of K) := Hsh.un (by simp (disch := k_dflt (
  refine Hsh.up ?_
  obtain ⟨fd, F⟩ := Y.fd_operand_of
  refine ⟨_, fd, Y.mg_operand_of, F.kp, F.bindsN (fun _ _ _ _ _ _ us hl => match us, hl with | [_], _ => rfl), F.ok sc_operand_of mk1_len (fun cdv A outer s H vs Q E hr h => ?_)⟩
  have hu := hu_room hr
  obtain ⟨_, rfl, n, rfl, k1, k2⟩ := h
  have hS : SH [] H H [] := SH.start0
  refine ⟨_, PSs.nox (pss_cons (ps_if (pt_cmpR op_ge (pv 0) (pe_op op_pow pe_int pe_int) (nomark _)) (pss_one (ps_ret (pe_tup (pa_cons pe_str (pa_cons (pe_callG G_signed hr rfl pass0 (pa_cons (pe_op op_sub (pv 0) (pe_op op_pow pe_int pe_int)) (pa_cons (pe_op op_pow pe_int pe_int) pa_nil))) pa_nil))))) pss_nil)
  (pss_cons (ps_if (pt_cmpR op_lt (pv 0) pe_int (nomark _)) (pss_one (ps_ret (pe_tup (pa_cons pe_str (pa_cons (pv 0) pa_nil))))) pss_nil)
  (pss_one (ps_ret pe_non)))), ?_⟩
  rw [st_operand_of]
  try simp only [cxK, cxK2, cxW, cxW2]
  clear hu hr F
  repeat' walk_at "st"
  · exact k2 false _ (by unfold opD; rw [if_pos (by assumption)]) _ _ hS
  · exact k2 true _ (by unfold opD; rw [if_neg (by assumption), if_pos (by assumption)]) _ _ hS
  · exact k1 (by unfold opD; rw [if_neg (by assumption), if_neg (by assumption)])
  )) only [↓Hsh.on])
theorem c_operand_of {K : PySem.W.Frag} {A : List Addr} {H0 H : Hp} {L : List Cell} {n : Int} {Q : VK} {E : XK} (hS : SH A H0 H L) (k1 : opD n = none → Q .non H) (k2 : ∀ r m, opD n = some (r, m) → ∀ q H', SH A H0 H' ((q, .tup [.str (kindS r), .int m]) :: L) → Q (.ref q) H') : sp_operand_of K ([.int n] ++ []) H Q E :=
  ⟨_, rfl, n, rfl, k1, fun r m e q H' C => k2 r m e q H' (SH.call (B := []) (F := L) hS C)⟩
local macro_rules | `(tactic| walk_at "st") => `(tactic| first
  | ((with_reducible show sp_operand_of _ _ _ _ _); (refine c_operand_of hS (fun hop => ?_) (fun ro mo hop qo H1 hS1 => ?_)); rotate_left; walk_at "nw"; rotate_left))
def sp_decode_operand (K : PySem.W.Frag) : Sp := mk4 fun a b c e H Q _ => ∃ (name form : Str) (d x bits : Int), a = .str name ∧ b = .int d ∧ c = .int x ∧ e = .int bits ∧ (name, form) ∈ formsL ∧ (form = "s" ∨ form = "as" ∨ form = "das") ∧ RetI K (decO name form d x bits) H Q
theorem ok_decode_operand {P : Program} {w : World} {K : PySem.W.Frag} {mg : Str → Option Value} {base : Heap} (Y : Env w K mg) (G_operand_of : CallOk P w K mg base CX0 2 "operand_of" ["bits"] (sp_operand_of K)) : CallOk P w K mg base CX0 3 "decode_operand" ["name", "d", "a", "bits"] (sp_decode_operand K) := Hsh.un (by simp (disch := k_dflt (
  refine Hsh.up ?_
  obtain ⟨fd, F⟩ := Y.fd_decode_operand
  refine ⟨_, fd, Y.mg_decode_operand, F.kp, F.bindsN (fun _ _ _ _ _ _ us hl => match us, hl with | [_, _, _, _], _ => rfl), F.ok sc_decode_operand mk4_len (fun cdv A outer s H vs Q E hr h => ?_)⟩
  have hu := hu_room hr
  obtain ⟨_, _, _, _, rfl, name, form, d, x, bits, rfl, rfl, rfl, rfl, hf, hfm, k⟩ := h
  have hS : SH [] H H [] := SH.start0
  have hbad := Y.tp_BAD
  refine ⟨_, PSs.nox (pss_cons (ps_set (i := 4) sc_decode_operand.nd rfl (Or.inl rfl) (pe_ix ix_kdict (pe_gr rfl Y.mg_FORMS) (pv 0) (fun _ _ => rfl)))
  (pss_cons (ps_set (i := 5) sc_decode_operand.nd rfl (Or.inl rfl) (pe_callG G_operand_of hr rfl pass0 (pa_cons (pv 3) pa_nil)))
  (pss_cons (ps_if (pt_cmpR xIs (pv 5) pe_non (nomark _)) (pss_one (ps_ret (pe_gr rfl Y.mg_BAD))) pss_nil)
  (pss_cons (ps_if (pt_cmpR (xEq hu) (pv 4) pe_str (nomark _)) (pss_one (ps_ret (pe_tup (pa_cons (pv 0) (pa_cons (pv 1) (pa_cons (pv 2) (pa_cons (pv 5) pa_nil))))))) pss_nil)
  (pss_cons (ps_if (PW.pt (pw_and (pt_cmpR (xEq hu) (pv 4) pe_str (nomark _)) (pw_and1 (pt_cmpR (xEq hu) (pv 1) pe_int (nomark _))))) (pss_one (ps_ret (pe_tup (pa_cons (pv 0) (pa_cons (pv 2) (pa_cons (pv 5) pa_nil)))))) pss_nil)
  (pss_cons (ps_if (PW.pt (pw_and (pt_cmpR (xEq hu) (pv 4) pe_str (nomark _)) (pw_and (pt_cmpR (xEq hu) (pv 1) pe_int (nomark _)) (pw_and1 (pt_cmpR (xEq hu) (pv 2) pe_int (nomark _)))))) (pss_one (ps_ret (pe_tup (pa_cons (pv 0) (pa_cons (pv 5) pa_nil))))) pss_nil)
  (pss_one (ps_ret (pe_gr rfl Y.mg_BAD))))))))), ?_⟩
  rw [st_decode_operand]
  try simp only [cxK, cxK2, cxW, cxW2]
  clear hu hr F
  rcases hfm with rfl | rfl | rfl
  all_goals repeat' walk_at "st"
  · rw [decO_none hop] at k; exact k _ hS.kp
  · rw [decO_s hop, if_pos ⟨by assumption, by assumption⟩] at k
    exact k _ _ _ hS (fun H2 hc => (⟨_, SqT.of (hc _ (.head _)), SqT.of (hc _ (.tail _ (.head _)))⟩ : ∃ q, SqT K H2 p [.str name, .ref q] ∧ SqT K H2 q [.str (kindS ro), .int mo]))
  · rw [decO_s hop, if_neg (fun z => absurd z.2 (by assumption))] at k; exact k _ hS.drop1.kp
  · rw [decO_s hop, if_neg (fun z => absurd z.1 (by assumption))] at k; exact k _ hS.drop1.kp
  · rw [decO_none hop] at k; exact k _ hS.kp
  · rw [decO_as hop, if_pos (by assumption)] at k
    exact k _ _ _ hS (fun H2 hc => (⟨_, SqT.of (hc _ (.head _)), SqT.of (hc _ (.tail _ (.head _)))⟩ : ∃ q, SqT K H2 p [.str name, .int x, .ref q] ∧ SqT K H2 q [.str (kindS ro), .int mo]))
  · rw [decO_as hop, if_neg (by assumption)] at k; exact k _ hS.drop1.kp
  · rw [decO_none hop] at k; exact k _ hS.kp
  · rw [decO_das hop] at k
    exact k _ _ _ hS (fun H2 hc => (⟨_, SqT.of (hc _ (.head _)), SqT.of (hc _ (.tail _ (.head _)))⟩ : ∃ q, SqT K H2 p [.str name, .int d, .int x, .ref q] ∧ SqT K H2 q [.str (kindS ro), .int mo]))
  )) only [↓Hsh.on])
theorem c_decode_operand {K : PySem.W.Frag} {H : Hp} {name form : Str} {d x bits : Int} {Q : VK} {E : XK} (hf : (name, form) ∈ formsL) (hfm : form = "s" ∨ form = "as" ∨ form = "das") (k : RetI K (decO name form d x bits) H Q) : sp_decode_operand K ([.str name, .int d, .int x, .int bits] ++ []) H Q E :=
  ⟨_, _, _, _, rfl, name, form, d, x, bits, rfl, rfl, rfl, rfl, hf, hfm, k⟩
def sp_decode (K : PySem.W.Frag) : Sp := mk1 fun a H Q _ => ∃ w : Int, a = .int w ∧ 0 ≤ w ∧ w < 4294967296 ∧ RetI K (dec w) H Q
section
 local macro_rules | `(tactic| walk_at "st") => `(tactic| first
  | ((with_reducible show sp_decode_operand _ _ _ _ _); refine c_decode_operand hf (by simp) ?_)
  | fail)
 local macro_rules | `(tactic| walk_at "at") => `(tactic| first | exact hat | fail)
 local macro_rules | `(tactic| walk_at "sq") => `(tactic| exact (show SqT K _ _ (namesL.map V.str) from Y.tp_NAMES _))
theorem ok_decode {P : Program} {w : World} {K : PySem.W.Frag} {mg : Str → Option Value} {base : Heap} (Y : Env w K mg) (G_decode_operand : CallOk P w K mg base CX0 3 "decode_operand" ["name", "d", "a", "bits"] (sp_decode_operand K)) (G_signed : CallOk P w K mg base CX0 1 "signed" ["number", "size"] (sp_signed K)) : CallOk P w K mg base CX0 4 "decode" ["word"] (sp_decode K) := Hsh.un (by simp (disch := k_dflt (
  refine Hsh.up ?_
  obtain ⟨fd, F⟩ := Y.fd_decode
  refine ⟨_, fd, Y.mg_decode, F.kp, F.bindsN (fun _ _ _ _ _ _ us hl => match us, hl with | [_], _ => rfl), F.ok sc_decode mk1_len (fun cdv A outer s H vs Q E hr h => ?_)⟩
  have hu := hu_room hr
  obtain ⟨_, rfl, w, rfl, h0, h1, k⟩ := h
  have hS : SH [] H H [] := SH.start0
  have hbad := Y.tp_BAD
  have hnl : (namesL.map V.str).length = 29 := rfl
  unfold dec at k
  refine ⟨_, PSs.nox (pss_cons (ps_set (i := 1) sc_decode.nd rfl (Or.inl rfl) (pe_op xDiv (pv 0) (pe_op op_pow pe_int pe_int)))
  (pss_cons (ps_set (i := 2) sc_decode.nd rfl (Or.inl rfl) (pe_op xMod (pv 0) (pe_op op_pow pe_int pe_int)))
  (pss_cons (ps_if (pt_cmpR op_ge (pv 1) (pe_callB x_len rfl Y.z_len (by decide +kernel) (pa_cons (pe_gr rfl Y.mg_NAMES) pa_nil)) (nomark _)) (pss_one (ps_ret (pe_gr rfl Y.mg_BAD))) pss_nil)
  (pss_cons (ps_set (i := 3) sc_decode.nd rfl (Or.inl rfl) (pe_ix xIx (pe_gr rfl Y.mg_NAMES) (pv 1) (fun _ _ => rfl)))
  (pss_cons (ps_set (i := 4) sc_decode.nd rfl (Or.inl rfl) (pe_ix ix_kdict (pe_gr rfl Y.mg_FORMS) (pv 3) (fun _ _ => rfl)))
  (pss_cons (ps_if (pt_cmpR (xEq hu) (pv 4) pe_str (nomark _)) (pss_one (ps_ret (pe_tup (pa_cons (pv 3) (pa_cons (pe_callG G_signed (hr.mono (by decide)) rfl pass0 (pa_cons (pv 2) (pa_cons (pe_op op_pow pe_int pe_int) pa_nil))) pa_nil))))) pss_nil)
  (pss_cons (ps_if (pt_cmpR (xEq hu) (pv 4) pe_str (nomark _)) (pss_one (ps_ret (pe_tup (pa_cons (pv 3) (pa_cons (pv 2) pa_nil))))) pss_nil)
  (pss_cons (ps_if (pt_cmpR (xEq hu) (pv 4) pe_str (nomark _)) (pss_one (ps_ret (pe_ifExp (pt_cmpR (xEq hu) (pv 2) pe_int (nomark _)) (pe_tup (pa_cons (pv 3) pa_nil)) (pe_gr rfl Y.mg_BAD)))) pss_nil)
  (pss_cons (ps_set (i := 5) sc_decode.nd rfl (Or.inl rfl) (pe_op xDiv (pv 2) (pe_op op_pow pe_int pe_int)))
  (pss_cons (ps_set (i := 6) sc_decode.nd rfl (Or.inl rfl) (pe_op xMod (pe_op xDiv (pv 2) (pe_op op_pow pe_int pe_int)) pe_int))
  (pss_cons (ps_set (i := 7) sc_decode.nd rfl (Or.inl rfl) (pe_op xMod (pv 2) (pe_op op_pow pe_int pe_int)))
  (pss_cons (ps_if (pt_cmpR (xEq hu) (pv 4) pe_str (nomark _)) (pss_one (ps_ret (pe_tup (pa_cons (pv 3) (pa_cons (pv 5) (pa_cons (pe_callG G_signed (hr.mono (by decide)) rfl pass0 (pa_cons (pe_op xMod (pv 2) (pe_op op_pow pe_int pe_int)) (pa_cons (pe_op op_pow pe_int pe_int) pa_nil))) pa_nil)))))) pss_nil)
  (pss_cons (ps_if (pt_cmpR (xEq hu) (pv 4) pe_str (nomark _)) (pss_one (ps_ret (pe_ifExp (PW.pt (pw_and (pt_cmpR (xEq hu) (pv 6) pe_int (nomark _)) (pw_and1 (pt_cmpR (xEq hu) (pv 7) pe_int (nomark _))))) (pe_tup (pa_cons (pv 3) (pa_cons (pv 5) pa_nil))) (pe_gr rfl Y.mg_BAD)))) pss_nil)
  (pss_cons (ps_if (pt_cmpR (xEq hu) (pv 4) pe_str (nomark _)) (pss_cons (ps_set (i := 8) sc_decode.nd rfl (Or.inl rfl) (pe_op op_sub (pv 7) (pe_op op_pow pe_int pe_int)))
  (pss_one (ps_ret (pe_ifExp (pt_chain op_le op_lt pe_int (pv 8) (pe_ci rfl Y.c_PAGE)) (pe_tup (pa_cons (pv 3) (pa_cons (pv 5) (pa_cons (pv 6) (pa_cons (pv 8) pa_nil))))) (pe_gr rfl Y.mg_BAD))))) pss_nil)
  (pss_one (ps_ret (pe_callG G_decode_operand hr rfl pass0 (pa_cons (pv 3) (pa_cons (pv 5) (pa_cons (pv 6) (pa_cons (pv 7) pa_nil))))))))))))))))))))), ?_⟩
  rw [st_decode]
  try simp only [cxK, cxK2, cxW, cxW2]
  clear hu hr F
  by_cases hw : 29 ≤ w / 67108864
  · rw [if_pos hw] at k
    repeat' walk_at "st"
    exact k _ hS.kp
  · rw [if_neg hw] at k
    have hf := form_mem (namesL.getD (w / 67108864).toNat "") (num_at _ (by omega)).2
    obtain ⟨name, hname⟩ : ∃ n, n = namesL.getD (w / 67108864).toNat "" := ⟨_, rfl⟩
    have hat : atI (namesL.map V.str) (w / 67108864) = some (.str name) := by rw [hname]; exact atI_strs (by omega) (by omega)
    rw [← hname] at k hf
    clear hname
    generalize formOf name = form at hf k
    rcases six_c form (List.mem_map_of_mem hf) with rfl | rfl | rfl | rfl | rfl | rfl | rfl | rfl | rfl
    · rw [decF_0] at k
      repeat' walk_at "st"
      · rw [if_pos (by assumption)] at k; exact k _ _ _ hS (fun H2 hc => (SqT.of (hc (p, _) (.head _)) : SqT K H2 p [.str name]))
      · rw [if_neg (by assumption)] at k; exact k _ hS.kp
    · rw [decF_j] at k
      repeat' walk_at "st"
      exact k _ _ _ hS (fun H2 hc => (SqT.of (hc (p, _) (.head _)) : SqT K H2 p [.str name, .int _]))
    · rw [decF_c] at k
      repeat' walk_at "st"
      exact k _ _ _ hS (fun H2 hc => (SqT.of (hc (p, _) (.head _)) : SqT K H2 p [.str name, .int _]))
    · rw [decF_s] at k
      repeat' walk_at "st"
      exact k
    · rw [decF_as] at k
      repeat' walk_at "st"
      exact k
    · rw [decF_dn] at k
      repeat' walk_at "st"
      exact k _ _ _ hS (fun H2 hc => (SqT.of (hc (p, _) (.head _)) : SqT K H2 p [.str name, .int _, .int _]))
    · rw [decF_d] at k
      repeat' walk_at "st"
      · rw [if_pos ⟨by assumption, by assumption⟩] at k; exact k _ _ _ hS (fun H2 hc => (SqT.of (hc (p, _) (.head _)) : SqT K H2 p [.str name, .int _]))
      · rw [if_neg (by omega)] at k; exact k _ hS.kp
      · rw [if_neg (by omega)] at k; exact k _ hS.kp
    · rw [decF_dam] at k
      repeat' walk_at "st"
      · rw [if_pos ⟨by assumption, by assumption⟩] at k; exact k _ _ _ hS (fun H2 hc => (SqT.of (hc (p, _) (.head _)) : SqT K H2 p [.str name, .int _, .int _, .int _]))
      · rw [if_neg (by omega)] at k; exact k _ hS.kp
      · rw [if_neg (by omega)] at k; exact k _ hS.kp
    · rw [decF_das] at k
      repeat' walk_at "st"
      exact k
  )) only [↓Hsh.on])
end
theorem c_decode {K : PySem.W.Frag} {H : Hp} {w : Int} {Q : VK} {E : XK} (h0 : 0 ≤ w) (h1 : w < 4294967296) (k : RetI K (dec w) H Q) : sp_decode K ([.int w] ++ []) H Q E := ⟨_, rfl, w, rfl, h0, h1, k⟩
/-! ### two tuples of one instruction -/
def AllS (K : PySem.W.Frag) (H : Hp) (n : Nat) (xs ys : List V) : Prop := xs.length = ys.length ∧ ∀ (k : Nat) (x y : V), xs[k]? = some x → ys[k]? = some y → SameT K H n x y
section
variable {K : PySem.W.Frag} {H : Hp} {n : Nat} {xs ys zs ws : List V} {x y : V} {p q : Addr}
theorem AllS.nil : AllS K H n [] [] := ⟨rfl, fun k x y h => nomatch h⟩
theorem AllS.cons (h : SameT K H n x y) (t : AllS K H n xs ys) : AllS K H n (x :: xs) (y :: ys) := Hsh.un (by simp (disch := k_dflt (
  refine Hsh.up ?_
  refine ⟨by rw [List.length_cons, List.length_cons, t.1], fun k a b h1 h2 => ?_⟩
  cases k with
  | zero => cases h1; cases h2; exact h
  | succ k => exact t.2 k a b h1 h2
  )) only [↓Hsh.on])
theorem AllS.append (h : AllS K H n xs ys) (t : AllS K H n zs ws) : AllS K H n (xs ++ zs) (ys ++ ws) := Hsh.un (by simp (disch := k_dflt (
  refine Hsh.up ?_
  induction xs generalizing ys with
  | nil =>
    cases ys with
    | nil => exact t
    | cons y ys => exact absurd h.1 (by simp)
  | cons x xs ih =>
    cases ys with
    | nil => exact absurd h.1 (by simp)
    | cons y ys => exact .cons (h.2 0 x y rfl rfl) (ih ⟨by have := h.1; simpa using this, fun k a b h1 h2 => h.2 (k + 1) a b h1 h2⟩)
  )) only [↓Hsh.on])
theorem AllS.ints (ns : List Int) : AllS K H (n + 1) (ns.map V.int) (ns.map V.int) := Hsh.un (by simp (disch := k_dflt (
  refine Hsh.up ?_
  induction ns with
  | nil => exact .nil
  | cons a ns ih => exact .cons (.int n a) ih
  )) only [↓Hsh.on])
theorem AllS.tup (h1 : SqT K H p xs) (h2 : SqT K H q ys) (h : AllS K H n xs ys) (hb : ys.length ≤ 1000000) : SameT K H (n + 1) (.ref p) (.ref q) := .tup n h1 h2 h.1 hb h.2
end
theorem same_ins {K : PySem.W.Frag} {H : Hp} {n f : Str} {ns : List Int} {r1 r2 : Bool} {p q : Addr} (h1 : (Ins.mk n f ns r1).at K H p) (h2 : (Ins.mk n f ns r2).at K H q) (hr : hasOp f = true → r1 = r2) (hl : ns.length ≤ 3) : SameT K H 6 (.ref p) (.ref q) := Hsh.un (by simp (disch := k_dflt (
  refine Hsh.up ?_
  unfold Ins.at at h1 h2
  by_cases ho : hasOp f = true
  · have e := hr ho
    subst e
    rw [if_pos ho] at h1 h2
    obtain ⟨a, ha, hb⟩ := h1
    obtain ⟨c, hc, hd⟩ := h2
    have hz : ns.dropLast.length ≤ 3 := by rw [List.length_dropLast]; omega
    refine AllS.tup ha hc (.cons (.str _ _) (.append (.ints _) (.cons (AllS.tup (n := 4) hb hd (.cons (.str _ _) (.cons (.int _ _) .nil)) (show 2 ≤ 1000000 by decide)) .nil))) ?_
    simp only [List.length_cons, List.length_append, List.length_map, List.length_nil]
    omega
  · rw [if_neg ho] at h1 h2
    refine AllS.tup h1 h2 (.cons (.str _ _) (.ints _)) ?_
    simp only [List.length_cons, List.length_map]
    omega
  )) only [↓Hsh.on])
/-! ### the law's reading of a word, by plain numbers -/
def lawN (form : Str) (reg : Bool) (rest : Int) : List Int :=
  let d := rest / 2097152
  let a := rest / 65536 % 32
  let n := if form = "dam" then rest % 32768 else if reg = true then rest % 32768 else (rest % 32768 + 16384) % 32768 - 16384
  if form = "" then [] else if form = "j" then [(rest + 33554432) % 67108864 - 33554432] else if form = "c" then [rest] else if form = "s" then [n] else if form = "as" then [a, n]
  else if form = "dn" then [d, (rest + 1048576) % 2097152 - 1048576] else if form = "d" then [d] else [d, a, n]
theorem inR_1 {a : Int} {r : Int × Int} : inR [a] [r] ↔ r.1 ≤ a ∧ a ≤ r.2 := Hsh.un (by simp (disch := k_dflt (
  refine Hsh.up ?_
  refine ⟨fun h => h.2 0 a r rfl rfl, fun h => ⟨rfl, fun k n s h1 h2 => ?_⟩⟩
  cases k with
  | zero => cases h1; cases h2; exact h
  | succ k => cases h1
  )) only [↓Hsh.on])
theorem inR_c {a : Int} {r : Int × Int} {ns : List Int} {rs : List (Int × Int)} : inR (a :: ns) (r :: rs) ↔ (r.1 ≤ a ∧ a ≤ r.2) ∧ inR ns rs := Hsh.un (by simp (disch := k_dflt (
  refine Hsh.up ?_
  refine ⟨fun h => ⟨h.2 0 a r rfl rfl, by have := h.1; simpa using this, fun k n s h1 h2 => h.2 (k + 1) n s h1 h2⟩, fun h => ⟨by have := h.2.1; simpa using this, fun k n s h1 h2 => ?_⟩⟩
  cases k with
  | zero => cases h1; cases h2; exact h.1
  | succ k => exact h.2.2 k n s h1 h2
  )) only [↓Hsh.on])
theorem opD_t {rest : Int} (h : rest / 32768 % 2 = 0) (h2 : rest % 32768 < 32) : opD (rest % 65536) = some (true, rest % 32768) := by
  unfold opD
  rw [if_neg (by omega), if_pos (by omega), show rest % 65536 = rest % 32768 by omega]
theorem opD_tn {rest : Int} (h : rest / 32768 % 2 = 0) (h2 : ¬ rest % 32768 < 32) : opD (rest % 65536) = none := by
  unfold opD
  rw [if_neg (by omega), if_neg (by omega)]
theorem opD_f {rest : Int} (h : ¬ rest / 32768 % 2 = 0) : opD (rest % 65536) = some (false, (rest % 32768 + 16384) % 32768 - 16384) := Hsh.un (by simp (disch := k_dflt (
  refine Hsh.up ?_
  unfold opD
  rw [if_pos (by omega)]
  congr 2
  unfold sgn
  split <;> omega
  )) only [↓Hsh.on])
theorem num_cast (name : Str) : ∃ k : Int, num name = k := ⟨_, rfl⟩
theorem dec_law {name form : Str} {reg : Bool} {rest : Int} (hf : (name, form) ∈ formsL) (h0 : 0 ≤ rest) (h1 : rest < 67108864) (hreg : reg = decide (rest / 32768 % 2 = 0)) :
    (inR (lawN form reg rest) (rng form reg) ∧ (Ins.mk name form (lawN form reg rest) reg).val = num name * 67108864 + rest → ∃ r, decF name form rest = some ⟨name, form, lawN form reg rest, r⟩ ∧ (hasOp form = true → r = reg)) ∧
    (¬ (inR (lawN form reg rest) (rng form reg) ∧ (Ins.mk name form (lawN form reg rest) reg).val = num name * 67108864 + rest) → decF name form rest = none) := Hsh.un (by simp (disch := k_dflt (
  refine Hsh.up ?_
  rcases six_c form (List.mem_map_of_mem hf) with rfl | rfl | rfl | rfl | rfl | rfl | rfl | rfl | rfl
  · show (inR [] [] ∧ num name * 67108864 = num name * 67108864 + rest → _) ∧ (¬ (inR [] [] ∧ num name * 67108864 = num name * 67108864 + rest) → _)
    rw [decF_0]
    refine ⟨fun h => ⟨false, by rw [if_pos (by omega)]; rfl, fun z => nomatch z⟩, fun h => by rw [if_neg (fun z => h ⟨⟨rfl, fun k n r a => nomatch a⟩, by omega⟩)]⟩
  · show (inR [(rest + 33554432) % 67108864 - 33554432] [(-33554432, 33554431)] ∧ num name * 67108864 + ((rest + 33554432) % 67108864 - 33554432) % 67108864 = num name * 67108864 + rest → _) ∧ (¬ (inR [(rest + 33554432) % 67108864 - 33554432] [(-33554432, 33554431)] ∧ num name * 67108864 + ((rest + 33554432) % 67108864 - 33554432) % 67108864 = num name * 67108864 + rest) → _)
    rw [decF_j]
    have e : sgn rest 67108864 = (rest + 33554432) % 67108864 - 33554432 := by unfold sgn; split <;> omega
    refine ⟨fun h => ⟨false, by rw [e]; rfl, fun z => nomatch z⟩, fun h => absurd ⟨inR_1.mpr ⟨by show -33554432 ≤ _; omega, by show _ ≤ 33554431; omega⟩, by omega⟩ h⟩
  · show (inR [rest] [(0, 67108863)] ∧ num name * 67108864 + rest = num name * 67108864 + rest → _) ∧ (¬ (inR [rest] [(0, 67108863)] ∧ num name * 67108864 + rest = num name * 67108864 + rest) → _)
    rw [decF_c]
    refine ⟨fun h => ⟨false, rfl, fun z => nomatch z⟩, fun h => absurd ⟨inR_1.mpr ⟨h0, by show _ ≤ 67108863; omega⟩, rfl⟩ h⟩
  · by_cases hb : rest / 32768 % 2 = 0
    · obtain rfl : reg = true := by rw [hreg]; exact decide_eq_true hb
      show (inR [rest % 32768] [(0, 31)] ∧ num name * 67108864 + rest % 32768 = num name * 67108864 + rest → _) ∧ (¬ (inR [rest % 32768] [(0, 31)] ∧ num name * 67108864 + rest % 32768 = num name * 67108864 + rest) → _)
      rw [decF_s]
      refine ⟨fun h => ?_, fun h => ?_⟩
      · have h2 : (0 : Int) ≤ rest % 32768 ∧ rest % 32768 ≤ 31 := h.1.2 0 _ _ rfl rfl
        have h3 := h.2
        refine ⟨true, ?_, fun _ => rfl⟩
        rw [decO_s (opD_t hb (by omega)), if_pos (by omega)]
        rfl
      · by_cases h2 : rest % 32768 < 32
        · rw [decO_s (opD_t hb h2), if_neg (fun z => h ⟨inR_1.mpr ⟨by show 0 ≤ _; omega, by show _ ≤ 31; omega⟩, by omega⟩)]
        · rw [decO_none (opD_tn hb h2)]
    · obtain rfl : reg = false := by rw [hreg]; exact decide_eq_false hb
      show (inR [((rest % 32768 + 16384) % 32768 - 16384)] [(-16384, 16383)] ∧ num name * 67108864 + (32768 + ((rest % 32768 + 16384) % 32768 - 16384) % 32768) = num name * 67108864 + rest → _) ∧ (¬ (inR [((rest % 32768 + 16384) % 32768 - 16384)] [(-16384, 16383)] ∧ num name * 67108864 + (32768 + ((rest % 32768 + 16384) % 32768 - 16384) % 32768) = num name * 67108864 + rest) → _)
      rw [decF_s]
      refine ⟨fun h => ?_, fun h => ?_⟩
      · have h3 := h.2
        refine ⟨false, ?_, fun _ => rfl⟩
        rw [decO_s (opD_f hb), if_pos (by omega)]
        rfl
      · rw [decO_s (opD_f hb), if_neg (fun z => h ⟨inR_1.mpr ⟨by show -16384 ≤ _; omega, by show _ ≤ 16383; omega⟩, by omega⟩)]
  · by_cases hb : rest / 32768 % 2 = 0
    · obtain rfl : reg = true := by rw [hreg]; exact decide_eq_true hb
      show (inR [rest / 65536 % 32, rest % 32768] [(0, 31), (0, 31)] ∧ num name * 67108864 + rest / 65536 % 32 * 65536 + rest % 32768 = num name * 67108864 + rest → _) ∧ (¬ (inR [rest / 65536 % 32, rest % 32768] [(0, 31), (0, 31)] ∧ num name * 67108864 + rest / 65536 % 32 * 65536 + rest % 32768 = num name * 67108864 + rest) → _)
      rw [decF_as]
      refine ⟨fun h => ?_, fun h => ?_⟩
      · have h2 : (0 : Int) ≤ rest % 32768 ∧ rest % 32768 ≤ 31 := h.1.2 1 _ _ rfl rfl
        have h3 := h.2
        refine ⟨true, ?_, fun _ => rfl⟩
        rw [decO_as (opD_t hb (by omega)), if_pos (by omega)]
        rfl
      · by_cases h2 : rest % 32768 < 32
        · rw [decO_as (opD_t hb h2), if_neg (fun z => h ⟨inR_c.mpr ⟨⟨by show 0 ≤ _; omega, by show _ ≤ 31; omega⟩, inR_1.mpr ⟨by show 0 ≤ _; omega, by show _ ≤ 31; omega⟩⟩, by omega⟩)]
        · rw [decO_none (opD_tn hb h2)]
    · obtain rfl : reg = false := by rw [hreg]; exact decide_eq_false hb
      show (inR [rest / 65536 % 32, ((rest % 32768 + 16384) % 32768 - 16384)] [(0, 31), (-16384, 16383)] ∧ num name * 67108864 + rest / 65536 % 32 * 65536 + (32768 + ((rest % 32768 + 16384) % 32768 - 16384) % 32768) = num name * 67108864 + rest → _) ∧ (¬ (inR [rest / 65536 % 32, ((rest % 32768 + 16384) % 32768 - 16384)] [(0, 31), (-16384, 16383)] ∧ num name * 67108864 + rest / 65536 % 32 * 65536 + (32768 + ((rest % 32768 + 16384) % 32768 - 16384) % 32768) = num name * 67108864 + rest) → _)
      rw [decF_as]
      refine ⟨fun h => ?_, fun h => ?_⟩
      · have h3 := h.2
        refine ⟨false, ?_, fun _ => rfl⟩
        rw [decO_as (opD_f hb), if_pos (by omega)]
        rfl
      · rw [decO_as (opD_f hb), if_neg (fun z => h ⟨inR_c.mpr ⟨⟨by show 0 ≤ _; omega, by show _ ≤ 31; omega⟩, inR_1.mpr ⟨by show -16384 ≤ _; omega, by show _ ≤ 16383; omega⟩⟩, by omega⟩)]
  · show (inR [rest / 2097152, (rest + 1048576) % 2097152 - 1048576] [(0, 31), (-1048576, 1048575)] ∧ num name * 67108864 + rest / 2097152 * 2097152 + ((rest + 1048576) % 2097152 - 1048576) % 2097152 = num name * 67108864 + rest → _) ∧ (¬ (inR [rest / 2097152, (rest + 1048576) % 2097152 - 1048576] [(0, 31), (-1048576, 1048575)] ∧ num name * 67108864 + rest / 2097152 * 2097152 + ((rest + 1048576) % 2097152 - 1048576) % 2097152 = num name * 67108864 + rest) → _)
    rw [decF_dn]
    have e : sgn (rest % 2097152) 2097152 = (rest + 1048576) % 2097152 - 1048576 := by unfold sgn; split <;> omega
    refine ⟨fun h => ⟨false, by rw [e]; rfl, fun z => nomatch z⟩, fun h => absurd ⟨inR_c.mpr ⟨⟨by show 0 ≤ _; omega, by show _ ≤ 31; omega⟩, inR_1.mpr ⟨by show -1048576 ≤ _; omega, by show _ ≤ 1048575; omega⟩⟩, by omega⟩ h⟩
  · show (inR [rest / 2097152] [(0, 31)] ∧ num name * 67108864 + rest / 2097152 * 2097152 = num name * 67108864 + rest → _) ∧ (¬ (inR [rest / 2097152] [(0, 31)] ∧ num name * 67108864 + rest / 2097152 * 2097152 = num name * 67108864 + rest) → _)
    rw [decF_d]
    refine ⟨fun h => ⟨false, by rw [if_pos (by omega)]; rfl, fun z => nomatch z⟩, fun h => by rw [if_neg (fun z => h ⟨inR_1.mpr ⟨by show 0 ≤ _; omega, by show _ ≤ 31; omega⟩, by omega⟩)]⟩
  · show (inR [rest / 2097152, rest / 65536 % 32, rest % 32768] [(0, 31), (0, 31), (0, 2047)] ∧ num name * 67108864 + rest / 2097152 * 2097152 + rest / 65536 % 32 * 65536 + 32768 + rest % 32768 = num name * 67108864 + rest → _) ∧ (¬ (inR [rest / 2097152, rest / 65536 % 32, rest % 32768] [(0, 31), (0, 31), (0, 2047)] ∧ num name * 67108864 + rest / 2097152 * 2097152 + rest / 65536 % 32 * 65536 + 32768 + rest % 32768 = num name * 67108864 + rest) → _)
    rw [decF_dam]
    refine ⟨fun h => ?_, fun h => ?_⟩
    · have h2 : (0 : Int) ≤ rest % 32768 ∧ rest % 32768 ≤ 2047 := h.1.2 2 _ _ rfl rfl
      have h3 := h.2
      refine ⟨false, ?_, fun z => nomatch z⟩
      rw [if_pos (by omega), show rest % 65536 - 32768 = rest % 32768 by omega]
      rfl
    · rw [if_neg (fun z => h ⟨inR_c.mpr ⟨⟨by show 0 ≤ _; omega, by show _ ≤ 31; omega⟩, inR_c.mpr ⟨⟨by show 0 ≤ _; omega, by show _ ≤ 31; omega⟩, inR_1.mpr ⟨by show 0 ≤ _; omega, by show _ ≤ 2047; omega⟩⟩⟩, by omega⟩)]
  · by_cases hb : rest / 32768 % 2 = 0
    · obtain rfl : reg = true := by rw [hreg]; exact decide_eq_true hb
      show (inR [rest / 2097152, rest / 65536 % 32, rest % 32768] [(0, 31), (0, 31), (0, 31)] ∧ num name * 67108864 + rest / 2097152 * 2097152 + rest / 65536 % 32 * 65536 + rest % 32768 = num name * 67108864 + rest → _) ∧ (¬ (inR [rest / 2097152, rest / 65536 % 32, rest % 32768] [(0, 31), (0, 31), (0, 31)] ∧ num name * 67108864 + rest / 2097152 * 2097152 + rest / 65536 % 32 * 65536 + rest % 32768 = num name * 67108864 + rest) → _)
      rw [decF_das]
      refine ⟨fun h => ?_, fun h => ?_⟩
      · have h2 : (0 : Int) ≤ rest % 32768 ∧ rest % 32768 ≤ 31 := h.1.2 2 _ _ rfl rfl
        have h3 := h.2
        refine ⟨true, ?_, fun _ => rfl⟩
        rw [decO_das (opD_t hb (by omega))]
        rfl
      · by_cases h2 : rest % 32768 < 32
        · exact absurd ⟨inR_c.mpr ⟨⟨by show 0 ≤ _; omega, by show _ ≤ 31; omega⟩, inR_c.mpr ⟨⟨by show 0 ≤ _; omega, by show _ ≤ 31; omega⟩, inR_1.mpr ⟨by show 0 ≤ _; omega, by show _ ≤ 31; omega⟩⟩⟩, by omega⟩ h
        · rw [decO_none (opD_tn hb h2)]
    · obtain rfl : reg = false := by rw [hreg]; exact decide_eq_false hb
      show (inR [rest / 2097152, rest / 65536 % 32, ((rest % 32768 + 16384) % 32768 - 16384)] [(0, 31), (0, 31), (-16384, 16383)] ∧ num name * 67108864 + rest / 2097152 * 2097152 + rest / 65536 % 32 * 65536 + (32768 + ((rest % 32768 + 16384) % 32768 - 16384) % 32768) = num name * 67108864 + rest → _) ∧ (¬ (inR [rest / 2097152, rest / 65536 % 32, ((rest % 32768 + 16384) % 32768 - 16384)] [(0, 31), (0, 31), (-16384, 16383)] ∧ num name * 67108864 + rest / 2097152 * 2097152 + rest / 65536 % 32 * 65536 + (32768 + ((rest % 32768 + 16384) % 32768 - 16384) % 32768) = num name * 67108864 + rest) → _)
      rw [decF_das]
      refine ⟨fun h => ?_, fun h => ?_⟩
      · have h3 := h.2
        refine ⟨false, ?_, fun _ => rfl⟩
        rw [decO_das (opD_f hb)]
        rfl
      · exact absurd ⟨inR_c.mpr ⟨⟨by show 0 ≤ _; omega, by show _ ≤ 31; omega⟩, inR_c.mpr ⟨⟨by show 0 ≤ _; omega, by show _ ≤ 31; omega⟩, inR_1.mpr ⟨by show -16384 ≤ _; omega, by show _ ≤ 16383; omega⟩⟩⟩, by omega⟩ h
  )) only [↓Hsh.on])
theorem pair_at {L' : List Cell} {qs : List Addr} {rs : List (Int × Int)} {i : Int} (h : PairC L' qs rs) (h0 : 0 ≤ i) (h1 : i < (qs.map V.ref).length) : ∃ r, rs[i.toNat]? = some r ∧ (qs.getD i.toNat 0, HO.tup [.int r.1, .int r.2]) ∈ L' := Hsh.un (by simp (disch := k_dflt (
  refine Hsh.up ?_
  rw [List.length_map] at h1
  have h2 := h.1
  obtain ⟨r, hr⟩ : ∃ r, rs[i.toNat]? = some r := ⟨_, List.getElem?_eq_getElem (by omega)⟩
  refine ⟨r, hr, h.2 i.toNat _ r ?_ hr⟩
  rw [List.getD_eq_getElem?_getD, List.getElem?_eq_getElem (by omega)]
  rfl
  )) only [↓Hsh.on])
theorem memget {A : List Addr} {H0 H : Hp} {L : List Cell} {a : Addr} {o : HO} (S : SH A H0 H L) (h : (a, o) ∈ L) : H a = some o := S.hs _ h
local macro_rules | `(tactic| walk_at "mq") => `(tactic| first | (with_reducible exact hq) | ((with_reducible refine List.mem_cons_of_mem _ ?_); walk_at "mq") | ((with_reducible refine List.mem_append_left _ ?_); walk_at "mq") | ((with_reducible refine List.mem_append_right _ ?_); walk_at "mq") | fail)
theorem atI_kind {r : Int} (h0 : 0 ≤ r) (h1 : r < 2) : atI [V.str "reg", V.str "int"] r = some (.str (kindS (decide (r = 0)))) := Hsh.un (by simp (disch := k_dflt (
  refine Hsh.up ?_
  obtain rfl | rfl : r = 0 ∨ r = 1 := by omega
  · rfl
  · rfl
  )) only [↓Hsh.on])
theorem lawN_len {f : Str} {reg : Bool} {rest : Int} (h : f ∈ formsL.map (fun q : Str × Str => q.2)) : (lawN f reg rest).length = lenOf f := by
  rcases six_c f h with rfl | rfl | rfl | rfl | rfl | rfl | rfl | rfl | rfl <;> rfl
theorem rng_len {f : Str} {reg : Bool} (h : f ∈ formsL.map (fun q : Str × Str => q.2)) : (rng f reg).length = lenOf f := by
  rcases six_c f h with rfl | rfl | rfl | rfl | rfl | rfl | rfl | rfl | rfl <;> rfl
theorem len_le {f : Str} (h : f ∈ formsL.map (fun q : Str × Str => q.2)) : lenOf f ≤ 3 := by
  rcases six_c f h with rfl | rfl | rfl | rfl | rfl | rfl | rfl | rfl | rfl <;> decide
/-- what the law's checks say of the word -/
def Both (w : Int) (name form : Str) (reg : Bool) : Prop :=
  (inR (lawN form reg (w % 67108864)) (rng form reg) ∧ (Ins.mk name form (lawN form reg (w % 67108864)) reg).val = num name * 67108864 + w % 67108864 → ∃ r, dec w = some ⟨name, form, lawN form reg (w % 67108864), r⟩ ∧ (hasOp form = true → r = reg)) ∧
    (¬ (inR (lawN form reg (w % 67108864)) (rng form reg) ∧ (Ins.mk name form (lawN form reg (w % 67108864)) reg).val = num name * 67108864 + w % 67108864) → dec w = none)
theorem kind_int {b : Bool} (h : kindS b = "int") : b = false := Hsh.un (by simp (disch := k_dflt (
  refine Hsh.up ?_
  cases b
  · rfl
  · exact absurd h (by decide)
  )) only [↓Hsh.on])
theorem kind_reg {b : Bool} (h : ¬ kindS b = "int") : b = true := Hsh.un (by simp (disch := k_dflt (
  refine Hsh.up ?_
  cases b
  · exact absurd rfl h
  · rfl
  )) only [↓Hsh.on])
theorem app_tail {u : TS} {E : Ends} {G : Prop} (M : L2.St → Hp → Prop) (main : (∀ σ H, M σ H → u E σ H) → G) (tail : ∀ σ H, M σ H → u E σ H) : G := main tail
def sp_z_decoded (K : PySem.W.Frag) : Sp := mk1 fun a H Q _ => ∃ w : Int, a = .int w ∧ 0 ≤ w ∧ w < 4294967296 ∧ (dec w = none → ∀ p L' H', SH [] H H' ((p, .tup [.str "bad"]) :: L') → Q (.ref p) H') ∧
  (∀ name form ns r r' p L' H', dec w = some ⟨name, form, ns, r⟩ → (hasOp form = true → r = r') → ns.length ≤ 3 → SH [] H H' L' → InsC K L' ⟨name, form, ns, r'⟩ p → Q (.ref p) H')
section
set_option maxHeartbeats 4000000
 local macro_rules | `(tactic| walk_at "hp") => `(tactic| exact memget hS (by walk_at "mq"))
 local macro_rules | `(tactic| walk_at "at") => `(tactic| first | exact hat | exact hak | fail)
 local macro_rules | `(tactic| walk_at "st") => `(tactic| first
  | ((with_reducible refine i_pos ?_ ?_); (· (apply pos_of hf; decide +kernel)))
  | ((with_reducible refine i_neg ?_ ?_); (· (apply neg_of hf; decide +kernel)))
  | fail)
theorem ok_z_decoded {P : Program} {w : World} {K : PySem.W.Frag} {mg : Str → Option Value} {base : Heap} (Y : Env w K mg) (G_z_encoded : CallOk P w K mg base CX0 2 "_law_encoded" ["_law_name", "_law_kind", "_law_numbers"] (sp_z_encoded K)) (G_z_instruction : CallOk P w K mg base CX0 1 "_law_instruction" ["_law_name", "_law_kind", "_law_numbers"] (sp_z_instruction K)) (G_z_names : CallOk P w K mg base CX0 1 "_law_names" [] (sp_z_names K)) (G_z_ranges : CallOk P w K mg base CX0 1 "_law_ranges" ["_law_name", "_law_kind"] (sp_z_ranges K)) : CallOk P w K mg base CX0 3 "_law_decoded" ["_law_word"] (sp_z_decoded K) := Hsh.un (by simp (disch := k_dflt (
  refine Hsh.up ?_
  obtain ⟨fd, F⟩ := Y.fd_z_decoded
  refine ⟨_, fd, Y.mg_z_decoded, F.kp, F.bindsN (fun _ _ _ _ _ _ us hl => match us, hl with | [_], _ => rfl), F.ok sc_z_decoded mk1_len (fun cdv A outer s H vs Q E hr h => ?_)⟩
  have hu := hu_room hr
  obtain ⟨_, rfl, w, rfl, h0, h1, k1, k2⟩ := h
  have hS : SH [] H H [] := SH.start0
  refine ⟨_, PSs.nox (pss_cons (ps_if (pt_cmpR op_gt (pe_op xDiv (pv 0) pe_int) pe_int (nomark _)) (pss_one (ps_ret (pe_tup (pa_cons pe_str pa_nil)))) pss_nil)
  (pss_cons (ps_set (i := 1) sc_z_decoded.nd rfl (Or.inl rfl) (pe_ix xIx (pe_callG0 G_z_names (hr.mono (by decide)) rfl pass0) (pe_op xDiv (pv 0) pe_int) (fun _ _ => rfl)))
  (pss_cons (ps_set (i := 2) sc_z_decoded.nd rfl (Or.inl rfl) (pe_op xMod (pe_callTy x_int rfl Y.z_int (by decide +kernel) (pa_cons (pv 0) pa_nil)) pe_int))
  (pss_cons (ps_set (i := 3) sc_z_decoded.nd rfl (Or.inl rfl) (pe_ix xIx (pe_lst (pa_cons pe_str (pa_cons pe_str pa_nil))) (pe_op xMod (pe_op xDiv (pv 2) pe_int) pe_int) (fun _ _ => rfl)))
  (pss_cons (ps_set (i := 4) sc_z_decoded.nd rfl (Or.inl rfl) (pe_op xMod (pe_callTy x_int rfl Y.z_int (by decide +kernel) (pa_cons (pv 2) pa_nil)) pe_int))
  (pss_cutG (ps_set (i := 5) sc_z_decoded.nd rfl (Or.inl rfl) (pe_op op_sub (pe_op xMod (pe_callTy x_int rfl Y.z_int (by decide +kernel) (pa_cons (pe_op xAdd (pv 4) (pe_op xMul pe_int (pe_callTy x_int rfl Y.z_int (by decide +kernel) (pa_cons (pe_cmpR (xEq hu) (pv 3) pe_str (nomark _)) pa_nil)))) pa_nil)) pe_int) (pe_op xMul pe_int (pe_callTy x_int rfl Y.z_int (by decide +kernel) (pa_cons (pe_cmpR (xEq hu) (pv 3) pe_str (nomark _)) pa_nil)))))
  (pss_cons (ps_if (pt_cmpR (xEq hu) (pv 1) pe_str (nomark _)) (pss_one (ps_set (i := 5) sc_z_decoded.nd rfl (Or.inl rfl) (pv 4))) pss_nil)
  (pss_cons (ps_set (i := 6) sc_z_decoded.nd rfl (Or.inl rfl) (pe_lst (pa_cons (pe_op xDiv (pv 2) pe_int) (pa_cons (pe_op xMod (pe_op xDiv (pv 2) pe_int) pe_int) (pa_cons (pv 5) pa_nil)))))
  (pss_cons (ps_if (PW.pt (pw_or (pt_cmpR (xEq hu) (pv 1) pe_str (nomark _)) (pw_or1 (pt_cmpR (xEq hu) (pv 1) pe_str (nomark _))))) (pss_one (ps_set (i := 6) sc_z_decoded.nd rfl (Or.inl rfl) (pe_lst (pa_cons (pe_ix xIx (pv 6) pe_int (fun _ _ => rfl)) (pa_cons (pe_op op_sub (pe_op xMod (pe_callTy x_int rfl Y.z_int (by decide +kernel) (pa_cons (pe_op xAdd (pv 2) pe_int) pa_nil)) pe_int) pe_int) pa_nil))))) pss_nil)
  (pss_cons (ps_if (pt_cmpR (xEq hu) (pv 1) pe_str (nomark _)) (pss_one (ps_set (i := 6) sc_z_decoded.nd rfl (Or.inl rfl) (pe_lst (pa_cons (pe_op op_sub (pe_op xMod (pe_callTy x_int rfl Y.z_int (by decide +kernel) (pa_cons (pe_op xAdd (pv 2) pe_int) pa_nil)) pe_int) pe_int) pa_nil)))) pss_nil)
  (pss_cons (ps_if (PW.pt (pw_or (pt_cmpR (xEq hu) (pv 1) pe_str (nomark _)) (pw_or1 (pt_cmpR (xEq hu) (pv 1) pe_str (nomark _))))) (pss_one (ps_set (i := 6) sc_z_decoded.nd rfl (Or.inl rfl) (pe_lst (pa_cons (pv 2) pa_nil)))) pss_nil)
  (pss_cons (ps_set (i := 7) sc_z_decoded.nd rfl (Or.inl rfl) (pe_callG G_z_ranges (hr.mono (by decide)) rfl pass0 (pa_cons (pv 1) (pa_cons (pv 3) pa_nil))))
  (pss_cons (ps_set (i := 6) sc_z_decoded.nd rfl (Or.inl rfl) (pe_slice xSl (pv 6) (po_some (pe_op op_sub (pe_callB x_len rfl Y.z_len (by decide +kernel) (pa_cons (pv 6) pa_nil)) (pe_callB x_len rfl Y.z_len (by decide +kernel) (pa_cons (pv 7) pa_nil)))) po_none))
  (pss_cutG (ps_if (PW.pt (pw_or (pt_cmpR (xEq hu) (pv 1) pe_str (nomark _)) (pw_or1 (pt_cmpR (xEq hu) (pv 1) pe_str (nomark _))))) (pss_one (ps_set (i := 6) sc_z_decoded.nd rfl (Or.inl rfl) (pe_lst (pa_cons (pe_op xDiv (pv 2) pe_int) pa_nil)))) pss_nil)
  (pss_cons (ps_for PassesOwn.never rfl (pi_range1 rfl Y.z_range (pa_cons (pe_callB x_len rfl Y.z_len (by decide +kernel) (pa_cons (pv 7) pa_nil)) pa_nil)) (pg_name (i := 8) sc_z_decoded.nd rfl (Or.inl rfl))
  (pss_one (ps_if (PW.pt (pw_or (pt_cmpR op_lt (pe_ix xIx (pv 6) (pv 8) (fun _ _ => rfl)) (pe_ix xIx (pe_ix xIx (pv 7) (pv 8) (fun _ _ => rfl)) pe_int (fun _ _ => rfl)) (nomark _)) (pw_or1 (pt_cmpR op_gt (pe_ix xIx (pv 6) (pv 8) (fun _ _ => rfl)) (pe_ix xIx (pe_ix xIx (pv 7) (pv 8) (fun _ _ => rfl)) pe_int (fun _ _ => rfl)) (nomark _))))) (pss_one (ps_ret (pe_tup (pa_cons pe_str pa_nil)))) pss_nil)))
  (pss_cons (ps_if (pt_cmpR (xNe hu) (pe_callG G_z_encoded hr rfl pass0 (pa_cons (pv 1) (pa_cons (pv 3) (pa_cons (pv 6) pa_nil)))) (pv 0) (nomark _)) (pss_one (ps_ret (pe_tup (pa_cons pe_str pa_nil)))) pss_nil)
  (pss_one (ps_ret (pe_callG G_z_instruction (hr.mono (by decide)) rfl pass0 (pa_cons (pv 1) (pa_cons (pv 3) (pa_cons (pv 6) pa_nil)))))))))))))))))))))), ?_⟩
  rw [st_z_decoded]
  try simp only [cxK, cxK2, cxW, cxW2]
  clear hu hr F
  by_cases hw : 29 ≤ w / 67108864
  · have hd : dec w = none := by unfold dec; rw [if_pos hw]
    repeat' walk_at "st"
    all_goals exact k1 hd _ _ _ hS
  · have hf := form_mem (namesL.getD (w / 67108864).toNat "") (num_at _ (by omega)).2
    have hnum : num (namesL.getD (w / 67108864).toNat "") = w / 67108864 := by rw [(num_at _ (by omega)).1]; omega
    have hd : dec w = decF (namesL.getD (w / 67108864).toNat "") (formOf (namesL.getD (w / 67108864).toNat "")) (w % 67108864) := by unfold dec; rw [if_neg hw]
    obtain ⟨name, hname⟩ : ∃ n, n = namesL.getD (w / 67108864).toNat "" := ⟨_, rfl⟩
    have hat : atI (namesL.map V.str) (w / 67108864) = some (.str name) := by rw [hname]; exact atI_strs (by omega) (by rw [show (namesL.map V.str).length = 29 from rfl]; omega)
    rw [← hname] at hf hnum hd
    clear hname
    generalize formOf name = form at hf hd
    have hfm : form ∈ formsL.map (fun q : Str × Str => q.2) := List.mem_map_of_mem (f := fun q : Str × Str => q.2) hf
    have hr0 : 0 ≤ w % 67108864 := by omega
    have hr1 : w % 67108864 < 67108864 := by omega
    obtain ⟨reg, hreg⟩ : ∃ r, r = decide (w % 67108864 / 32768 % 2 = 0) := ⟨_, rfl⟩
    have hak : atI [V.str "reg", V.str "int"] (w % 67108864 / 32768 % 2) = some (.str (kindS reg)) := by rw [hreg]; exact atI_kind (by omega) (by omega)
    have hlaw : Both w name form reg := by have z := dec_law hf hr0 hr1 hreg; rw [← hd] at z; exact z
    clear hS
    apply app_tail (fun σ H' => ∃ (form : Str) (reg : Bool) (pn rl : Addr) (qs : List Addr) (L' : List Cell) (v5 : Option V), σ = [some (.int w), some (.str name), some (.int (w % 67108864)), some (.str (kindS reg)), some (.int (w % 67108864 % 32768)), v5, some (.ref pn), some (.ref rl), none] ∧ (name, form) ∈ formsL ∧ PairC L' qs (rng form reg) ∧ Both w name form reg ∧ SH [] H H' ((pn, .lst ((lawN form reg (w % 67108864)).map V.int)) :: (rl, .lst (qs.map V.ref)) :: L'))
    · intro tail
      apply app_tail (fun σ H' => σ = [some (.int w), some (.str name), some (.int (w % 67108864)), some (.str (kindS reg)), some (.int (w % 67108864 % 32768)), some (.int (if reg = true then w % 67108864 % 32768 else (w % 67108864 % 32768 + 16384) % 32768 - 16384)), none, none, none] ∧ SH [] H H' [])
      · intro tail5
        have hS : SH [] H H [] := SH.start0
        repeat' walk_at "st"
        refine s_cutG _ ?_ tail5
        repeat' walk_at "st"
        · have e : (w % 67108864 % 32768 + 16384 * 1) % 32768 - 16384 * 1 = (if reg = true then w % 67108864 % 32768 else (w % 67108864 % 32768 + 16384) % 32768 - 16384) := by rw [kind_int (b := reg) (by assumption), if_neg Bool.false_ne_true]; omega
          rw [e]
          exact ⟨rfl, hS.sub (List.nil_sublist _)⟩
        · have e : (w % 67108864 % 32768 + 16384 * 0) % 32768 - 16384 * 0 = (if reg = true then w % 67108864 % 32768 else (w % 67108864 % 32768 + 16384) % 32768 - 16384) := by rw [kind_reg (b := reg) (by assumption), if_pos rfl]; omega
          rw [e]
          exact ⟨rfl, hS.sub (List.nil_sublist _)⟩
      · rintro σ H1 ⟨rfl, hS⟩
        rcases six_c form hfm with rfl | rfl | rfl | rfl | rfl | rfl | rfl | rfl | rfl
        all_goals repeat' walk_at "st"
        all_goals try walk_at "dead"
        all_goals
          refine c_z_ranges (reg := reg) hS hf (fun rl qs L' H2 hS2 hpc => ?_)
          clear hS; rename SH _ _ _ _ => hS
          have hql := (List.length_map V.ref (as := qs)).trans hpc.1
          repeat' walk_at "st"
        all_goals
          refine s_cutG _ ?_ tail
          repeat' walk_at "st"
          all_goals try walk_at "dead"
          all_goals (rw [hql] at hS; exact ⟨_, reg, _, _, qs, L', _, rfl, hf, hpc, hlaw, hS.sub (by walk_at "sl")⟩)
    · clear hak hlaw hf hfm hd
      rintro σ H3 ⟨form, reg, pn, rl, qs, L', v5, rfl, hf, hpc, hlaw, hS⟩
      have hfm2 : form ∈ formsL.map (fun q : Str × Str => q.2) := List.mem_map_of_mem (f := fun q : Str × Str => q.2) hf
      have hln : (lawN form reg (w % 67108864)).length = (rng form reg).length := by rw [lawN_len hfm2, rng_len hfm2]
      have hll : ((lawN form reg (w % 67108864)).map V.int).length = (qs.map V.ref).length := by rw [List.length_map, List.length_map, hln, hpc.1]
      have hle : (qs.map V.ref).length ≤ 3 := by rw [List.length_map, hpc.1, rng_len hfm2]; exact len_le hfm2
      have hle2 : (lawN form reg (w % 67108864)).length ≤ 3 := by rw [lawN_len hfm2]; exact len_le hfm2
      have hgd : ∀ i : Nat, (i : Int) < ((qs.map V.ref).length : Nat) → (lawN form reg (w % 67108864))[i]? = some ((lawN form reg (w % 67108864)).getD i 0) := fun i hi => by
        rw [List.length_map] at hll
        rw [List.getD_eq_getElem?_getD, List.getElem?_eq_getElem (by omega)]
        rfl
      repeat' walk_at "st"
      refine u_forR1 (fun i σ H' => ∃ v8, σ = [some (.int w), some (.str name), some (.int (w % 67108864)), some (.str (kindS reg)), some (.int (w % 67108864 % 32768)), v5, some (.ref pn), some (.ref rl), v8] ∧ SH [] H H' ((pn, .lst ((lawN form reg (w % 67108864)).map V.int)) :: (rl, .lst (qs.map V.ref)) :: L') ∧ ∀ (j : Nat) (m : Int) (r : Int × Int), j < i → (lawN form reg (w % 67108864))[j]? = some m → (rng form reg)[j]? = some r → r.1 ≤ m ∧ m ≤ r.2) (by omega) (by omega) ⟨_, rfl, hS, fun j m r hj => absurd hj (Nat.not_lt_zero _)⟩ ?_ ?_
      · rintro i σ H4 hi ⟨v8, rfl, hS, hall⟩
        obtain ⟨rk, hrr, hq⟩ := pair_at hpc (i := (i : Nat)) (by omega) hi
        have hrr2 : (rng form reg)[i]? = some rk := hrr
        have hg := hgd i hi
        repeat' walk_at "st"
        · exact k1 (hlaw.2 (fun z => absurd (z.1.2 i _ rk hg hrr2).1 (Int.not_le.mpr (by assumption)))) _ _ _ hS
        · exact k1 (hlaw.2 (fun z => absurd (z.1.2 i _ rk hg hrr2).2 (Int.not_le.mpr (by assumption)))) _ _ _ hS
        · refine ⟨_, rfl, hS, fun j m r hj h1 h2 => ?_⟩
          by_cases q : j < i
          · exact hall j m r q h1 h2
          · obtain rfl : j = i := by omega
            rw [hg] at h1
            rw [hrr2] at h2
            cases h1
            cases h2
            exact ⟨Int.not_lt.mp (by assumption), Int.not_lt.mp (by assumption)⟩
      · rintro σ H4 ⟨v8, rfl, hS, hall⟩
        have hin : inR (lawN form reg (w % 67108864)) (rng form reg) := ⟨hln, fun j m r h1 h2 => hall j m r (by
          have := (List.getElem?_eq_some_iff.mp h1).1
          rw [List.length_map] at hll
          omega) h1 h2⟩
        have ok : (Ins.mk name form (lawN form reg (w % 67108864)) reg).ok := ⟨hf, lawN_len hfm2⟩
        repeat' walk_at "st"
        refine c_z_encoded (I := ⟨name, form, lawN form reg (w % 67108864), reg⟩) hS (hS.get 0 rfl) ok hin (fun H5 hS5 => ?_)
        clear hS; rename SH _ _ _ _ => hS
        repeat' walk_at "st"
        · refine c_z_instruction (I := ⟨name, form, lawN form reg (w % 67108864), reg⟩) hS (hS.get 0 rfl) ok (fun p2 L2 H6 hS6 hc2 hi2 => ?_)
          obtain ⟨r, hr1, hr2⟩ := hlaw.1 ⟨hin, by rw [hc, hnum]; omega⟩
          exact k2 _ _ _ r reg p2 L2 H6 hr1 hr2 hle2 (hS6.sub (List.sublist_append_right _ _)) hi2
        · exact k1 (hlaw.2 (fun z => hc (by rw [z.2, hnum]; omega))) _ _ _ hS
  )) only [↓Hsh.on])
end
theorem c_z_decoded {K : PySem.W.Frag} {A : List Addr} {H0 H : Hp} {L : List Cell} {w : Int} {Q : VK} {E : XK} (hS : SH A H0 H L) (h0 : 0 ≤ w) (h1 : w < 4294967296)
    (k1 : dec w = none → ∀ p L' H', SH A H0 H' (((p, .tup [.str "bad"]) :: L') ++ L) → Q (.ref p) H')
    (k2 : ∀ name form ns r r' p L' H', dec w = some ⟨name, form, ns, r⟩ → (hasOp form = true → r = r') → ns.length ≤ 3 → SH A H0 H' (L' ++ L) → InsC K L' ⟨name, form, ns, r'⟩ p → Q (.ref p) H') : sp_z_decoded K ([.int w] ++ []) H Q E :=
  ⟨_, rfl, w, rfl, h0, h1, fun e p L' H' C => k1 e p L' H' (SH.call (B := []) (F := L) hS C), fun name form ns r r' p L' H' a b c C i => k2 name form ns r r' p L' H' a b c (SH.call (B := []) (F := L) hS C) i⟩
/-! ### a word that was put together comes apart again -/
theorem form_of : ∀ q ∈ formsL, formOf q.1 = q.2 := by decide +kernel
theorem num_lt {name form : Str} (hf : (name, form) ∈ formsL) : namesL.idxOf name < 29 := (List.getElem?_eq_some_iff.mp (name_at hf).1).1
theorem dec_at {name form : Str} {rest : Int} (hf : (name, form) ∈ formsL) (h0 : 0 ≤ rest) (h1 : rest < 67108864) : dec (num name * 67108864 + rest) = decF name form rest := Hsh.un (by simp (disch := k_dflt (
  refine Hsh.up ?_
  have hn := (name_at hf).1
  have hk := num_lt hf
  have e1 : (num name * 67108864 + rest) / 67108864 = ((namesL.idxOf name : Nat) : Int) := by unfold num; omega
  have e2 : (num name * 67108864 + rest) % 67108864 = rest := by unfold num; omega
  have e3 : namesL.getD (namesL.idxOf name) "" = name := by rw [List.getD_eq_getElem?_getD, hn]; rfl
  unfold dec
  rw [e1, e2, if_neg (by omega), Int.toNat_natCast, e3, form_of _ hf]
  )) only [↓Hsh.on])
def oB (reg : Bool) (n : Int) : Int := if reg = true then n else 32768 + n % 32768
theorem opD_o {reg : Bool} {n : Int} (h : (rngS reg).1 ≤ n ∧ n ≤ (rngS reg).2) : 0 ≤ oB reg n ∧ oB reg n < 65536 ∧ opD (oB reg n) = some (reg, n) := Hsh.un (by simp (disch := k_dflt (
  refine Hsh.up ?_
  cases reg
  · have h : (-16384 : Int) ≤ n ∧ n ≤ 16383 := h
    have e : oB false n = 32768 + n % 32768 := rfl
    rw [e]
    refine ⟨by omega, by omega, ?_⟩
    unfold opD sgn
    rw [if_pos (by omega)]
    congr 2
    split <;> omega
  · have h : (0 : Int) ≤ n ∧ n ≤ 31 := h
    have e : oB true n = n := rfl
    rw [e]
    refine ⟨by omega, by omega, ?_⟩
    unfold opD
    rw [if_neg (by omega), if_pos (by omega)]
  )) only [↓Hsh.on])
theorem sgn_mod {n s : Int} (hs : s = 67108864 ∨ s = 2097152) (h0 : -(s / 2) ≤ n) (h1 : n < s / 2) : sgn (n % s) s = n := by
  unfold sgn
  rcases hs with rfl | rfl <;> split <;> omega
theorem val_split {I : Ins} (ok : I.ok) (hin : inR I.ns (rng I.form I.reg)) : ∃ rest r, I.val = num I.name * 67108864 + rest ∧ 0 ≤ rest ∧ rest < 67108864 ∧ decF I.name I.form rest = some ⟨I.name, I.form, I.ns, r⟩ ∧ (hasOp I.form = true → r = I.reg) := Hsh.un (by simp (disch := k_dflt (
  refine Hsh.up ?_
  obtain ⟨name, form, ns, reg⟩ := I
  have hf : (name, form) ∈ formsL := ok.hf
  have hln : ns.length = lenOf form := ok.ln
  obtain ⟨_, h⟩ := hin
  show ∃ rest r, Ins.val _ = num name * 67108864 + rest ∧ 0 ≤ rest ∧ rest < 67108864 ∧ decF name form rest = some ⟨name, form, ns, r⟩ ∧ (hasOp form = true → r = reg)
  rcases six_c form (List.mem_map_of_mem hf) with rfl | rfl | rfl | rfl | rfl | rfl | rfl | rfl | rfl
  · have e : ns = [] := List.length_eq_zero_iff.mp hln
    subst e
    exact ⟨0, false, (Int.add_zero _).symm, by omega, by omega, rfl, fun z => nomatch z⟩
  · obtain ⟨a, rfl⟩ := len1 hln
    have ha : (-33554432 : Int) ≤ a ∧ a ≤ 33554431 := h 0 a _ rfl rfl
    refine ⟨a % 67108864, false, rfl, by omega, by omega, ?_, fun z => nomatch z⟩
    rw [decF_j, sgn_mod (.inl rfl) (by omega) (by omega)]
  · obtain ⟨a, rfl⟩ := len1 hln
    have ha : (0 : Int) ≤ a ∧ a ≤ 67108863 := h 0 a _ rfl rfl
    exact ⟨a, false, rfl, by omega, by omega, rfl, fun z => nomatch z⟩
  · obtain ⟨a, rfl⟩ := len1 hln
    obtain ⟨h0, h1, h2⟩ := opD_o (reg := reg) (h 0 a _ rfl rfl)
    refine ⟨oB reg a, reg, rfl, by omega, by omega, ?_, fun _ => rfl⟩
    rw [decF_s, show oB reg a % 65536 = oB reg a by omega, decO_s h2, if_pos (by omega)]
  · obtain ⟨a, b, rfl⟩ := len2 hln
    have ha : (0 : Int) ≤ a ∧ a ≤ 31 := h 0 a _ rfl rfl
    obtain ⟨h0, h1, h2⟩ := opD_o (reg := reg) (h 1 b _ rfl rfl)
    refine ⟨a * 65536 + oB reg b, reg, Int.add_assoc _ _ _, by omega, by omega, ?_, fun _ => rfl⟩
    rw [decF_as, show (a * 65536 + oB reg b) % 65536 = oB reg b by omega, decO_as h2, if_pos (by omega), show (a * 65536 + oB reg b) / 65536 % 32 = a by omega]
  · obtain ⟨a, b, rfl⟩ := len2 hln
    have ha : (0 : Int) ≤ a ∧ a ≤ 31 := h 0 a _ rfl rfl
    have hb : (-1048576 : Int) ≤ b ∧ b ≤ 1048575 := h 1 b _ rfl rfl
    refine ⟨a * 2097152 + b % 2097152, false, Int.add_assoc _ _ _, by omega, by omega, ?_, fun z => nomatch z⟩
    rw [decF_dn, show (a * 2097152 + b % 2097152) / 2097152 = a by omega, show (a * 2097152 + b % 2097152) % 2097152 = b % 2097152 by omega, sgn_mod (.inr rfl) (by omega) (by omega)]
  · obtain ⟨a, rfl⟩ := len1 hln
    have ha : (0 : Int) ≤ a ∧ a ≤ 31 := h 0 a _ rfl rfl
    refine ⟨a * 2097152, false, rfl, by omega, by omega, ?_, fun z => nomatch z⟩
    rw [decF_d, if_pos (by omega), show a * 2097152 / 2097152 = a by omega]
  · obtain ⟨a, b, c, rfl⟩ := len3 hln
    have ha : (0 : Int) ≤ a ∧ a ≤ 31 := h 0 a _ rfl rfl
    have hb : (0 : Int) ≤ b ∧ b ≤ 31 := h 1 b _ rfl rfl
    have hc : (0 : Int) ≤ c ∧ c ≤ 2047 := h 2 c _ rfl rfl
    refine ⟨a * 2097152 + b * 65536 + 32768 + c, false, by show num name * 67108864 + a * 2097152 + b * 65536 + 32768 + c = _; omega, by omega, by omega, ?_, fun z => nomatch z⟩
    rw [decF_dam, if_pos (by omega), show (a * 2097152 + b * 65536 + 32768 + c) / 2097152 = a by omega, show (a * 2097152 + b * 65536 + 32768 + c) / 65536 % 32 = b by omega, show (a * 2097152 + b * 65536 + 32768 + c) % 65536 - 32768 = c by omega]
  · obtain ⟨a, b, c, rfl⟩ := len3 hln
    have ha : (0 : Int) ≤ a ∧ a ≤ 31 := h 0 a _ rfl rfl
    have hb : (0 : Int) ≤ b ∧ b ≤ 31 := h 1 b _ rfl rfl
    obtain ⟨h0, h1, h2⟩ := opD_o (reg := reg) (h 2 c _ rfl rfl)
    refine ⟨a * 2097152 + b * 65536 + oB reg c, reg, by show num name * 67108864 + a * 2097152 + b * 65536 + oB reg c = _; omega, by omega, by omega, ?_, fun _ => rfl⟩
    rw [decF_das, show (a * 2097152 + b * 65536 + oB reg c) % 65536 = oB reg c by omega, decO_das h2, show (a * 2097152 + b * 65536 + oB reg c) / 2097152 = a by omega, show (a * 2097152 + b * 65536 + oB reg c) / 65536 % 32 = b by omega]
  )) only [↓Hsh.on])
theorem dec_val {I : Ins} (ok : I.ok) (hin : inR I.ns (rng I.form I.reg)) : 0 ≤ I.val ∧ I.val < 4294967296 ∧ ∃ r, dec I.val = some ⟨I.name, I.form, I.ns, r⟩ ∧ (hasOp I.form = true → r = I.reg) := Hsh.un (by simp (disch := k_dflt (
  refine Hsh.up ?_
  obtain ⟨rest, r, e, h0, h1, h2, h3⟩ := val_split ok hin
  have hk := num_lt ok.hf
  have e2 : num I.name = ((namesL.idxOf I.name : Nat) : Int) := rfl
  refine ⟨by omega, by omega, r, ?_, h3⟩
  rw [e, dec_at ok.hf h0 h1]
  exact h2
  )) only [↓Hsh.on])
/-! ### the law -/
theorem AllS.strs {K : PySem.W.Frag} {H : Hp} {n : Nat} (ss : List Str) : AllS K H (n + 1) (ss.map V.str) (ss.map V.str) := Hsh.un (by simp (disch := k_dflt (
  refine Hsh.up ?_
  induction ss with
  | nil => exact .nil
  | cons a ss ih => exact .cons (.str n a) ih
  )) only [↓Hsh.on])
theorem rng_ok {f : Str} {reg : Bool} (h : f ∈ formsL.map (fun q : Str × Str => q.2)) : ∀ r ∈ rng f reg, r.1 ≤ r.2 ∧ r.2 - r.1 < 2 ^ 60 := by
  rcases six_c f h with rfl | rfl | rfl | rfl | rfl | rfl | rfl | rfl | rfl <;> cases reg <;> decide +kernel
theorem retI_split {K : PySem.W.Frag} {o : Option Ins} {H : Hp} {Q : VK} (k1 : o = none → ∀ H', Keep [] H H' → Q (.ref (He.ga K "BAD")) H') (k2 : ∀ I, o = some I → ∀ p L' H', SH [] H H' L' → InsC K L' I p → Q (.ref p) H') : RetI K o H Q := Hsh.un (by simp (disch := k_dflt (
  refine Hsh.up ?_
  cases o with
  | none => exact k1 rfl
  | some I => exact k2 I rfl
  )) only [↓Hsh.on])
section
 local macro_rules | `(tactic| walk_at "hp") => `(tactic| exact memget hS (by walk_at "mq"))
 local macro_rules | `(tactic| walk_at "at") => `(tactic| first | exact atI_kind (by assumption) (by assumption) | exact atI_strs (by omega) (by rw [hnl]; omega) | fail)
 local macro_rules | `(tactic| walk_at "st") => `(tactic| first
  | ((with_reducible show sp_z_draw _ ([V.ref _, V.int 29] ++ []) _ _ _); apply c_z_draw hS; (· walk_at "ix"); (· walk_at "ix"); (· decide); (· walk_at "ar"); (· walk_at "ar"); (· walk_at "ar"); intro rn x1 c1 n1 H1 hrn0 hrn1 hx1 hS1; clear hS; rename SH _ _ _ _ => hS; simp only [List.set_cons_zero, List.set_cons_succ] at hS)
  | ((with_reducible show sp_z_sameN _ _ _ _ _ _); apply c_z_sameN hS; (· first | exact .int _ _ | exact AllS.tup (n := 5) (show SqT K _ _ (namesL.map V.str) from Y.tp_NAMES _) (SqT.of (hS.get 0 rfl)) (.strs _) (by rw [hnl]; decide)); intro H1 hS1 _; walk_at "nw")
  | ((with_reducible show sp_z_between _ _ _ _ _); apply c_z_between hS; (· walk_at "ix"); (· walk_at "ix"); (· decide); (· walk_at "ar"); (· exact hrk.1); (· exact hrk.2); intro r x1 c1 n1 H1 hr0 hr1 hx1 hS1; clear hS; rename SH _ _ _ _ => hS; simp only [List.set_cons_zero, List.set_cons_succ] at hS))
def sp_law (K : PySem.W.Frag) : Sp := mk1 fun a H Q _ => ∃ (sc : Addr) (ns : List Int), a = .ref sc ∧ Scr K H sc (ns.map V.int) ∧ ∀ H', Q (.bl true) H'
theorem ok_law {P : Program} {w : World} {K : PySem.W.Frag} {mg : Str → Option Value} {base : Heap} (Y : Env w K mg) (G_z_between : CallOk P w K mg base CX0 3 "_law_between" ["_law_state_here", "_law_low", "_law_high"] (sp_z_between K)) (G_z_decoded : CallOk P w K mg base CX0 3 "_law_decoded" ["_law_word"] (sp_z_decoded K)) (G_z_draw : CallOk P w K mg base CX0 2 "_law_draw" ["_law_state_here", "_law_many"] (sp_z_draw K)) (G_z_encoded : CallOk P w K mg base CX0 2 "_law_encoded" ["_law_name", "_law_kind", "_law_numbers"] (sp_z_encoded K)) (G_z_instruction : CallOk P w K mg base CX0 1 "_law_instruction" ["_law_name", "_law_kind", "_law_numbers"] (sp_z_instruction K)) (G_z_names : CallOk P w K mg base CX0 1 "_law_names" [] (sp_z_names K)) (G_z_ranges : CallOk P w K mg base CX0 1 "_law_ranges" ["_law_name", "_law_kind"] (sp_z_ranges K)) (G_z_same : CallOk P w K mg base CX0 7 "_law_same" ["_law_actual", "_law_due"] (sp_z_same K)) (G_z_state : CallOk P w K mg base CX0 1 "_law_state" ["_law_script", "_law_budget"] (sp_z_state K)) (G_decode : CallOk P w K mg base CX0 4 "decode" ["word"] (sp_decode K)) (G_encode : CallOk P w K mg base (L2.CX P w) 3 "encode" ["instruction"] (sp_encode K)) {fd : FuncData} (F : FunD K "law" "law" (defArgs s_law) (defBody s_law) (defScope s_law) [] [] (He.fAd K ("law", none)) fd) : FnOk P w K mg base CX0 8 (He.fAd K ("law", none)) fd ["_law_script"] (sp_law K) := Hsh.un (by simp (disch := k_dflt (
  refine Hsh.up ?_
  refine F.ok sc_law mk1_len (fun cdv A outer s H vs Q E hr h => ?_)
  have hu := hu_room hr
  obtain ⟨_, rfl, sc, ns, rfl, hs, k⟩ := h
  have hS : SH [] H H [] := SH.start0
  have hnl : (namesL.map V.str).length = 29 := rfl
  refine ⟨_, PSs.nox (pss_cons (ps_if (pt_not (pt_val (pe_callG G_z_same hr rfl pass0 (pa_cons (pe_gr rfl Y.mg_NAMES) (pa_cons (pe_callTy x_tuple rfl Y.z_tuple (by decide +kernel) (pa_cons (pe_callG0 G_z_names (hr.mono (by decide)) rfl pass0) pa_nil)) pa_nil))))) (pss_one (ps_ret pe_bl)) pss_nil)
  (pss_cons (ps_set (i := 1) sc_law.nd rfl (Or.inr rfl) (pe_callG G_z_state (hr.mono (by decide)) rfl pass0 (pa_cons (pv 0) (pa_cons pe_int pa_nil))))
  (pss_cons (ps_set (i := 2) sc_law.nd rfl (Or.inl rfl) (pe_ix xIx (pe_callG0 G_z_names (hr.mono (by decide)) rfl pass0) (pe_callG G_z_draw (hr.mono (by decide)) rfl pass0 (pa_cons (pv 1) (pa_cons pe_int pa_nil))) (fun _ _ => rfl)))
  (pss_cons (ps_set (i := 3) sc_law.nd rfl (Or.inl rfl) (pe_ix xIx (pe_lst (pa_cons pe_str (pa_cons pe_str pa_nil))) (pe_callG G_z_draw (hr.mono (by decide)) rfl pass0 (pa_cons (pv 1) (pa_cons pe_int pa_nil))) (fun _ _ => rfl)))
  (pss_cons (ps_setLc (i := 6) (own := [("_law_low", 4), ("_law_high", 5)]) (g := gTup K 2 (gCons (gName 4) (gCons (gName 5) gNil))) rfl sc_law.nd rfl rfl (sw_true rfl rfl rfl (by decide +kernel)) (pi_list (pe_callG G_z_ranges (hr.mono (by decide)) rfl pass0 (pa_cons (pv 2) (pa_cons (pv 3) pa_nil)))) (blkOk_by (N := N_law) (sc := defScope s_law) (by decide +kernel)) (fun _ _ _ _ _ => pg_tup rfl (pgs_cons (pg_name (i := 4) sc_law.nd rfl (Or.inl rfl)) (pgs_cons (pg_name (i := 5) sc_law.nd rfl (Or.inl rfl)) pgs_nil))) (fun _ _ _ _ _ => pts_nil) (fun _ _ _ _ _ => (pe_callG G_z_between (hr.mono (by decide)) rfl pass0 (pa_cons (pv 1) (pa_cons (pv 4) (pa_cons (pv 5) pa_nil))))))
  (pss_cons (ps_set (i := 7) sc_law.nd rfl (Or.inl rfl) (pe_callG G_z_instruction (hr.mono (by decide)) rfl pass0 (pa_cons (pv 2) (pa_cons (pv 3) (pa_cons (pv 6) pa_nil)))))
  (pss_cons (ps_set (i := 8) sc_law.nd rfl (Or.inl rfl) (pe_callG G_z_encoded (hr.mono (by decide)) rfl pass0 (pa_cons (pv 2) (pa_cons (pv 3) (pa_cons (pv 6) pa_nil)))))
  (pss_cons (ps_if (PW.pt (pw_or (pt_not (pt_val (pe_callG G_z_same hr rfl pass0 (pa_cons (pe_callG G_encode (hr.mono (by decide)) rfl passL (pa_cons (pv 7) pa_nil)) (pa_cons (pv 8) pa_nil))))) (pw_or1 (pt_not (pt_val (pe_callG G_z_same hr rfl pass0 (pa_cons (pe_callG G_decode (hr.mono (by decide)) rfl pass0 (pa_cons (pv 8) pa_nil)) (pa_cons (pv 7) pa_nil)))))))) (pss_one (ps_ret pe_bl)) pss_nil)
  (pss_cons (ps_set (i := 9) sc_law.nd rfl (Or.inl rfl) (pe_op xAdd (pv 8) (pe_op xMul (pe_ix xIx (pe_lst (pa_cons pe_int (pa_cons pe_int (pa_cons pe_int (pa_cons pe_int (pa_cons pe_int (pa_cons pe_int (pa_cons pe_int pa_nil)))))))) (pe_callG G_z_draw (hr.mono (by decide)) rfl pass0 (pa_cons (pv 1) (pa_cons pe_int pa_nil))) (fun _ _ => rfl)) (pe_callG G_z_draw (hr.mono (by decide)) rfl pass0 (pa_cons (pv 1) (pa_cons pe_int pa_nil))))))
  (pss_cons (ps_if (pt_cmpR (xEq hu) (pe_callG G_z_draw (hr.mono (by decide)) rfl pass0 (pa_cons (pv 1) (pa_cons pe_int pa_nil))) pe_int (nomark _)) (pss_one (ps_set (i := 9) sc_law.nd rfl (Or.inl rfl) (pe_callG G_z_draw (hr.mono (by decide)) rfl pass0 (pa_cons (pv 1) (pa_cons pe_int pa_nil))))) pss_nil)
  (pss_cons (ps_set (i := 9) sc_law.nd rfl (Or.inl rfl) (pe_op xMod (pe_callTy x_int rfl Y.z_int (by decide +kernel) (pa_cons (pv 9) pa_nil)) pe_int))
  (pss_one (ps_ret (pe_callG G_z_same hr rfl pass0 (pa_cons (pe_callG G_decode (hr.mono (by decide)) rfl pass0 (pa_cons (pv 9) pa_nil)) (pa_cons (pe_callG G_z_decoded (hr.mono (by decide)) rfl pass0 (pa_cons (pv 9) pa_nil)) pa_nil)))))))))))))))), ?_⟩
  rw [st_law]
  try simp only [cxK, cxK2, cxW, cxW2]
  clear hu hr F
  repeat' walk_at "st"
  have hf := form_mem _ (num_at rn.toNat (by omega)).2
  have hS := hS.sub (L' := [(pst, stD qst x1 c1 n1 sd 0), (qst, .lst (ns.map V.int))]) (by walk_at "sl")
  generalize formOf (namesL.getD rn.toNat "") = f at hf
  generalize namesL.getD rn.toNat "" = nm at *
  generalize decide (r = 0) = reg
  have hfm : f ∈ formsL.map (fun q : Str × Str => q.2) := List.mem_map_of_mem (f := fun q : Str × Str => q.2) hf
  refine c_z_ranges hS hf (fun rl qs L' H2 hS2 hpc => ?_)
  clear hS; rename SH _ _ _ _ => hS
  have hS : SH [] H H2 ((rl, .lst (qs.map V.ref)) :: (pst, stD qst x1 c1 n1 sd 0) :: (qst, .lst (ns.map V.int)) :: L') := hS
  have hql : qs.length = (rng f reg).length := hpc.1
  repeat' walk_at "st"
  refine u_lcLG (xs := qs.map V.ref) hS (fun D k H' => ∃ (ms : List Int) (x c n : Int), ms.length = k ∧ (∀ (j : Nat) (m : Int) (r : Int × Int), ms[j]? = some m → (rng f reg)[j]? = some r → r.1 ≤ m ∧ m ≤ r.2) ∧ 0 ≤ x ∧ SH [] H H' ((D, .lst (ms.map V.int)) :: (rl, .lst (qs.map V.ref)) :: (pst, stD qst x c n sd 0) :: (qst, .lst (ns.map V.int)) :: L')) (SqL.of (hS.get 0 rfl)) (fun D H1 hS => ⟨[], _, _, _, rfl, (fun _ _ _ z => nomatch z), hx1, hS⟩) (fun D k H1 _ ⟨_, _, _, _, _, _, _, hS⟩ => SqL.of (hS.get 1 rfl)) ?_ ?_
  · rintro D i x H3 hx ⟨ms, y, c, n, hm, hms, hy, hS⟩
    rw [List.getElem?_map] at hx
    obtain ⟨q, hqq, rfl⟩ := Option.map_eq_some_iff.mp hx
    have hi : i < qs.length := (List.getElem?_eq_some_iff.mp hqq).1
    obtain ⟨rk, hrr⟩ : ∃ r, (rng f reg)[i]? = some r := ⟨_, List.getElem?_eq_getElem (by omega)⟩
    have hrk := rng_ok hfm rk (List.mem_of_getElem? hrr)
    have hq := hpc.2 i q rk hqq hrr
    have hms3 : (ms.map V.int).length ≤ 3 := by
      have := len_le hfm
      rw [← rng_len (reg := reg) hfm] at this
      rw [List.length_map]
      omega
    repeat' walk_at "st"
    refine ⟨ms ++ [r], _, _, _, by rw [List.length_append, hm]; rfl, fun j m r' h1 h2 => ?_, hx1, by rw [List.map_append]; exact hS⟩
    by_cases hj : j < ms.length
    · rw [List.getElem?_append_left hj] at h1
      exact hms j m r' h1 h2
    · rw [List.getElem?_append_right (by omega)] at h1
      have hj2 : j - ms.length = 0 := by
        have := (List.getElem?_eq_some_iff.mp h1).1
        rw [List.length_singleton] at this
        omega
      rw [hj2] at h1
      cases h1
      rw [show j = i by omega, hrr] at h2
      cases h2
      exact ⟨hr0, hr1⟩
  · rintro D H3 ⟨ms, y, c, n, hm, hms, hy, hS⟩
    rw [List.length_map] at hm
    have hml : ms.length = (rng f reg).length := by omega
    have hin : inR ms (rng f reg) := ⟨hml, hms⟩
    have ok : (Ins.mk nm f ms reg).ok := ⟨hf, by show ms.length = _; rw [hml]; exact rng_len hfm⟩
    have hm3 : ms.length ≤ 3 := by have := len_le hfm; rw [← rng_len (reg := reg) hfm] at this; omega
    repeat' walk_at "st"
    refine c_z_instruction (I := ⟨nm, f, ms, reg⟩) hS (hS.get 0 rfl) ok (fun ps L1 H4 hS4 hc1 hi1 => ?_)
    have hS : SH [] H H4 ((D, .lst (ms.map V.int)) :: (rl, .lst (qs.map V.ref)) :: (pst, stD qst y c n sd 0) :: (qst, .lst (ns.map V.int)) :: (L' ++ L1)) := hS4
    clear hS4 hc1
    repeat' walk_at "st"
    refine c_z_encoded (I := ⟨nm, f, ms, reg⟩) hS (hS.get 0 rfl) ok hin (fun H5 hS5 => ?_)
    clear hS; rename SH _ _ _ _ => hS
    obtain ⟨hv0, hv1, rd, hd, hrd⟩ := dec_val ok hin
    have hv : (Ins.mk nm f ms reg).enc = some _ := enc_val ok hin
    obtain ⟨val, hval⟩ : ∃ v, v = (Ins.mk nm f ms reg).val := ⟨_, rfl⟩
    rw [← hval] at hv0 hv1 hd hv ⊢
    repeat' walk_at "st"
    refine c_encode (I := ⟨nm, f, ms, reg⟩) ok (hi1 _ (fun c hc => hS.hs c (by have hq := hc; walk_at "mq"))) ?_
    rw [hv]
    refine s_finE1 ?_
    repeat' walk_at "st"
    refine c_decode hv0 hv1 ?_
    rw [hd]
    intro pd Ld H6 C hid
    have hS : SH [] H H6 ((D, .lst (ms.map V.int)) :: (rl, .lst (qs.map V.ref)) :: (pst, stD qst y c n sd 0) :: (qst, .lst (ns.map V.int)) :: (L' ++ L1 ++ Ld)) := (SH.call (B := []) hS C).perm List.perm_append_comm
    clear C
    repeat' walk_at "st"
    refine c_z_sameN hS (same_ins (hid _ (fun c hc => hS.hs c (by have hq := hc; walk_at "mq"))) (hi1 _ (fun c hc => hS.hs c (by have hq := hc; walk_at "mq"))) hrd hm3) (fun H7 hS7 _ => ?_)
    clear hS; rename SH _ _ _ _ => hS
    have hS := hS.sub (L' := [(pst, stD qst y c n sd 0), (qst, .lst (ns.map V.int))]) (List.Sublist.cons _ (List.Sublist.cons _ (List.sublist_append_left [_, _] _)))
    clear hi1 hid
    repeat' walk_at "st"
    all_goals
      have hS := hS.drop1
      refine c_decode (Int.emod_nonneg _ (by decide)) (Int.emod_lt_of_pos _ (by decide)) (retI_split (fun hdw H2 kp => ?_) (fun I2 hdw pd Ld H2 C hid => ?_))
      · have hS := hS.call0 kp
        repeat' walk_at "st"
        refine c_z_decoded hS (Int.emod_nonneg _ (by decide)) (Int.emod_lt_of_pos _ (by decide)) (fun hd2 p Lx H3 hS3 => ?_) (fun name form nz r1 r2 p Lx H3 hd2 hr2 hl3 hS3 hi2 => ?_)
        · clear hS; rename SH _ _ _ _ => hS
          repeat' walk_at "st"
          refine c_z_sameN hS (AllS.tup (n := 5) (Y.tp_BAD _) (SqT.of (hS.get 0 rfl)) (.cons (.str _ _) .nil) (by decide)) (fun H7 hS7 _ => ?_)
          exact k _
        · exact nomatch hdw.symm.trans hd2
      · obtain ⟨name2, form2, nz2, r4⟩ := I2
        have hS := (SH.call (B := []) hS C).perm List.perm_append_comm
        repeat' walk_at "st"
        refine c_z_decoded hS (Int.emod_nonneg _ (by decide)) (Int.emod_lt_of_pos _ (by decide)) (fun hd2 p Lx H3 hS3 => ?_) (fun name form nz r1 r2 p Lx H3 hd2 hr2 hl3 hS3 hi2 => ?_)
        · exact nomatch hdw.symm.trans hd2
        · cases hdw.symm.trans hd2
          clear hS; rename SH _ _ _ _ => hS
          repeat' walk_at "st"
          refine c_z_sameN hS (same_ins (hid _ (fun c hc => hS.hs c (List.mem_append_right _ (List.mem_append_right _ hc)))) (hi2 _ (fun c hc => hS.hs c (List.mem_append_left _ hc))) hr2 hl3) (fun H7 hS7 _ => ?_)
          exact k _
  )) only [↓Hsh.on])
end
theorem law_ask {K : PySem.W.Frag} {H : Hp} (a : Addr) (ns : List Int) (hl : ns.length ≤ 63) (hO : Only H) (hS : SqL K H a (ns.map V.int)) : sp_law K [.ref a] H (fun v _ => v = .bl true) fun _ _ _ => False :=
  by first | exact ⟨_, rfl, a, ns, rfl, Scr.of hS hO, fun _ => rfl⟩ | exact ⟨_, rfl, a, ns, rfl, hl, Scr.of hS hO, fun _ => rfl⟩
theorem facts {w : World} {K : PySem.W.Frag} {h : Heap} {mg : Str → Option Value} {f : Addr} (X : K.In h) (G : h.Ns mainGlobals mg) (hfa : mg ("law" : Str) = some (.ref f)) (c : He.SaysX fa fn ts [] ex w h K) :
    ∃ fd : FuncData, (∀ (s : Shared) (v : Value), BindsTo s fd ⟨[v], []⟩ [("_law_script", v)]) ∧ ∀ base : Heap, K.In base → base.Ns mainGlobals mg → FnOk (PySem.Challenge.rw_windowada_k56_encode_and_decode).prog w K mg base CX0 8 f fd ["_law_script"] (sp_law K) := Hsh.un (by simp (disch := k_dflt (
  refine Hsh.up ?_
  have Y : Env w K mg := env_mk X G c
  obtain ⟨fd, F⟩ := Y.fd_law
  have e := hfa.symm.trans Y.mg_law
  cases e
  have b := FunD.bindsA (ps := ["_law_script"]) F fun _ _ _ _ _ _ us hl => match us, hl with | [_], _ => rfl
  refine ⟨fd, fun s v => b s [v] rfl, fun base _ _ => ?_⟩
  have G_z_mixed := ok_z_mixed (P := (PySem.Challenge.rw_windowada_k56_encode_and_decode).prog) (w := w) (base := base) Y
  have G_z_draw := ok_z_draw (P := (PySem.Challenge.rw_windowada_k56_encode_and_decode).prog) (w := w) (base := base) Y G_z_mixed
  have G_z_between := ok_z_between (P := (PySem.Challenge.rw_windowada_k56_encode_and_decode).prog) (w := w) (base := base) Y G_z_draw
  have G_z_names := ok_z_names (P := (PySem.Challenge.rw_windowada_k56_encode_and_decode).prog) (w := w) (base := base) Y
  have G_z_encoded := ok_z_encoded (P := (PySem.Challenge.rw_windowada_k56_encode_and_decode).prog) (w := w) (base := base) Y G_z_names
  have G_z_instruction := ok_z_instruction (P := (PySem.Challenge.rw_windowada_k56_encode_and_decode).prog) (w := w) (base := base) Y
  have G_z_ranges := ok_z_ranges (P := (PySem.Challenge.rw_windowada_k56_encode_and_decode).prog) (w := w) (base := base) Y
  have G_z_decoded := ok_z_decoded (P := (PySem.Challenge.rw_windowada_k56_encode_and_decode).prog) (w := w) (base := base) Y G_z_encoded G_z_instruction G_z_names G_z_ranges
  have G_z_same := ok_z_same (P := (PySem.Challenge.rw_windowada_k56_encode_and_decode).prog) (w := w) (base := base) Y
  have G_z_state := ok_z_state (P := (PySem.Challenge.rw_windowada_k56_encode_and_decode).prog) (w := w) (base := base) Y
  have G_signed := ok_signed (P := (PySem.Challenge.rw_windowada_k56_encode_and_decode).prog) (w := w) (base := base) Y
  have G_operand_of := ok_operand_of (P := (PySem.Challenge.rw_windowada_k56_encode_and_decode).prog) (w := w) (base := base) Y G_signed
  have G_decode_operand := ok_decode_operand (P := (PySem.Challenge.rw_windowada_k56_encode_and_decode).prog) (w := w) (base := base) Y G_operand_of
  have G_decode := ok_decode (P := (PySem.Challenge.rw_windowada_k56_encode_and_decode).prog) (w := w) (base := base) Y G_decode_operand G_signed
  have G_bounded := ok_bounded (P := (PySem.Challenge.rw_windowada_k56_encode_and_decode).prog) (w := w) (base := base) Y
  have G_operand_bits := ok_operand_bits (P := (PySem.Challenge.rw_windowada_k56_encode_and_decode).prog) (w := w) (base := base) Y G_bounded
  have G_register_bits := ok_register_bits (P := (PySem.Challenge.rw_windowada_k56_encode_and_decode).prog) (w := w) (base := base) Y G_bounded
  have G_encode := ok_encode (P := (PySem.Challenge.rw_windowada_k56_encode_and_decode).prog) (w := w) (base := base) Y G_bounded G_operand_bits G_register_bits
  exact ok_law (P := (PySem.Challenge.rw_windowada_k56_encode_and_decode).prog) (w := w) (base := base) Y G_z_between G_z_decoded G_z_draw G_z_encoded G_z_instruction G_z_names G_z_ranges G_z_same G_z_state G_decode G_encode F
  )) only [↓Hsh.on])
end Law
open PySem PySem.W PySem.Calls PyProof.Rows
set_option maxRecDepth 100000 in
set_option maxHeartbeats 0 in
theorem PySem.Challenge.cw_windowada_k56_encode_and_decode_holds : PySem.Challenge.rw_windowada_k56_encode_and_decode.Holds := by
  w_on; o_law
  refine HandSHeadRun.head_any (r := OpenLaw.row PySem.Challenge.rw_windowada_k56_encode_and_decode) (q := view (OpenLaw.row PySem.Challenge.rw_windowada_k56_encode_and_decode).prog [35]) (H := Law.hk) (ob := Law.ob) (M := 4000) (loose := Law.loose) (d := HandSHeadRun.topDef (OpenLaw.row PySem.Challenge.rw_windowada_k56_encode_and_decode).prog 35) (kwd := []) Law.ob_eq
    (by kernel_rfl) (fun s => by kernel_rfl) Law.run (by kernel_rfl) (by kernel_rfl) (by kernel_rfl) (by rfl) (by first | assumption | decide +kernel) (by decide +kernel) ⟨rfl, rfl, rfl, rfl, rfl, by decide +kernel⟩ ?hw ?hc
  case hw => w_witness2
  case hc =>
    refine L2.walk_ofE (l := PySem.Challenge.rw_windowada_k56_encode_and_decode) (n := 63) (k := 8) (x := "_law_script") (CX := L2.CX0) rfl (by decide) (by kernel_rfl) ⟨rfl, by decide, by decide⟩ ?F (fun _ _ _ _ z => z)
    intro w mg fa h Y G hmg0
    obtain ⟨K, KX, c⟩ := Y
    have hmg : mg ("law" : PySem.Str) = some (.ref fa) := by
      have e : (HandSHeadRun.topDef (OpenLaw.row PySem.Challenge.rw_windowada_k56_encode_and_decode).prog 35).name = ("law" : PySem.Str) := by kernel_rfl
      rw [← e]
      exact hmg0
    obtain ⟨fd, hb, hF⟩ := Law.facts (w := w) KX G hmg c
    exact ⟨K, fd, Law.sp_law K, KX, hb, fun H a ns hl hO hS => Law.law_ask a ns hl hO hS, hF⟩

