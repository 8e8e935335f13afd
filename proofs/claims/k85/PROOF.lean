import PyProof.Rows.All
import Wide.All
import OpenK.AllK
import Wide.FinOn
import KE.KStateDown
import HandS.ForMost
import HandS.ForExc
import HandS.Wide
import HandS.TupAny
import HandS.TupMul
import HandS.TupLe
import HandS.Sort
import HandS.Style
import HandS.IsInst
import HandS.Defaults
import HandS.Property
import HandS.Head0
import HandS.Head1
import HandS.Head2
import HandS.EndBits
import HandS.HeadEnd
import HandS.HeadHook1
import HandS.HeadHook2
import HandS.HeadHook3
import HandS.HeadHook4
import HandS.HeadWalk
import KE.KTryMore
import HandS.Exc
import HandS.TryMany
import HandS.ExcOwn
import HandS.ExcIs
import HandS.Small
import HandS.WordsExc
import HandS.Strs
import HandS.More
import HandS.SetFor
import HandS.SetIn
import HandS.TryOnly
import PySem.Challenge.RW_windowada_k85_tables_of_instructions
set_option Elab.async false
set_option linter.all false
set_option maxRecDepth 100000
set_option maxHeartbeats 4000000
/-! Steps over the hand layer: a ledger (what this code owns on the heap), one lemma for each reading, a word that takes one step. -/
namespace Hsh
def Hush (P : Prop) : Prop := P
theorem on {P : Prop} (h : P) : Hush P := h
theorem un {P : Prop} (h : Hush P) : P := h
theorem up {P : Prop} (h : P) : P := h
end Hsh

namespace Q
open PySem PySem.Spec PyProof.Rows L2

/-! ### the ledger -/
abbrev Cell := Addr × HO
def Imm : HO → Bool
  | .tup _ => true
  | .frz _ _ => true
  | _ => false
/-- all that stood is kept but what stood at A (what never changes is kept there, too); nothing is freed -/
structure Keep (A : List Addr) (H H' : Hp) : Prop where
  k : ∀ b o, H b = some o → (b ∉ A ∨ Imm o = true) → H' b = some o
  d : ∀ b, H' b = none → H b = none
theorem Keep.refl (A : List Addr) (H : Hp) : Keep A H H := ⟨fun _ _ e _ => e, fun _ e => e⟩
theorem Keep.trans {A : List Addr} {H H1 H2 : Hp} (a : Keep A H H1) (b : Keep A H1 H2) : Keep A H H2 :=
  ⟨fun c o e q => b.k c o (a.k c o e q) q, fun c e => a.d c (b.d c e)⟩
theorem Keep.mono {A B : List Addr} {H H' : Hp} (a : Keep A H H') (s : ∀ b ∈ A, b ∈ B) : Keep B H H' :=
  ⟨fun c o e q => a.k c o e (q.imp (fun n z => n (s c z)) id), a.d⟩
theorem Keep.nil {B : List Addr} {H H' : Hp} (a : Keep [] H H') : Keep B H H' := a.mono fun _ z => nomatch z
/-- A the cells that stood at the entry H0; L what is known and owned now -/
structure SH (A : List Addr) (H0 H : Hp) (L : List Cell) : Prop where
  hs : ∀ c ∈ L, H c.1 = some c.2
  nd : (L.map (·.1)).Nodup
  kp : Keep A H0 H
  ow : ∀ c ∈ L, c.1 ∈ A ∨ H0 c.1 = none
section
variable {A B : List Addr} {H0 H H' : Hp} {L L' : List Cell} {a p : Addr} {o o' : HO}
theorem SH.start (hs : ∀ c ∈ L, H c.1 = some c.2) (nd : (L.map (·.1)).Nodup) : SH (L.map (·.1)) H H L :=
  ⟨hs, nd, Keep.refl _ _, fun c hc => .inl (List.mem_map_of_mem hc)⟩
theorem SH.start0 : SH [] H H [] := ⟨(fun _ h => nomatch h), List.nodup_nil, Keep.refl _ _, (fun _ h => nomatch h)⟩
theorem SH.start1 (h : H a = some o) : SH [a] H H [(a, o)] := SH.start (L := [(a, o)]) (by intro c hc; rcases List.mem_singleton.mp hc with rfl; exact h) (by simp)
theorem SH.get (S : SH A H0 H L) (i : Nat) (e : L[i]? = some (a, o)) : H a = some o := S.hs _ (List.mem_of_getElem? e)
theorem SH.imm (S : SH A H0 H L) (h : H0 a = some o) (e : Imm o = true) : H a = some o := S.kp.k a o h (.inr e)
theorem SH.new (S : SH A H0 H L) (o : HO) (hp : H p = none) : SH A H0 (upd H p o) ((p, o) :: L) := Hsh.un (by simp (disch := k_dflt (
  refine Hsh.up ?_
  have hne : ∀ c ∈ L, c.1 ≠ p := fun c hc z => by
    have := S.hs c hc
    rw [z, hp] at this
    cases this
  refine ⟨fun c hc => ?_, ?_, ⟨fun b u e q => ?_, fun b e => ?_⟩, fun c hc => ?_⟩
  · rcases List.mem_cons.mp hc with rfl | hc
    · exact upd_same
    · rw [upd_ne (hne c hc)]
      exact S.hs c hc
  · rw [List.map_cons, List.nodup_cons]
    refine ⟨fun z => ?_, S.nd⟩
    obtain ⟨c, hc, e⟩ := List.mem_map.mp z
    exact hne c hc e
  · have h1 := S.kp.k b u e q
    rw [upd_ne (ne_of_none h1 hp)]
    exact h1
  · by_cases hb : b = p
    · rw [hb, upd_same] at e
      cases e
    · rw [upd_ne hb] at e
      exact S.kp.d b e
  · rcases List.mem_cons.mp hc with rfl | hc
    · exact .inr (S.kp.d _ hp)
    · exact S.ow c hc
  )) only [↓Hsh.on])
theorem mem_set_cell {L : List Cell} {i : Nat} {c d : Cell} (h : c ∈ L.set i d) : c = d ∨ ∃ j, j ≠ i ∧ L[j]? = some c := Hsh.un (by simp (disch := k_dflt (
  refine Hsh.up ?_
  obtain ⟨j, hj, e⟩ := List.mem_iff_getElem.mp h
  by_cases q : j = i
  · left
    subst q
    rw [List.getElem_set_self] at e
    exact e.symm
  · right
    refine ⟨j, q, ?_⟩
    rw [List.length_set] at hj
    rw [List.getElem_set_ne (Ne.symm q)] at e
    rw [List.getElem?_eq_getElem hj, e]
  )) only [↓Hsh.on])
theorem map_set_key {L : List Cell} {i : Nat} {a : Addr} {o o' : HO} (e : L[i]? = some (a, o)) : (L.set i (a, o')).map (·.1) = L.map (·.1) := Hsh.un (by simp (disch := k_dflt (
  refine Hsh.up ?_
  apply List.ext_getElem?
  intro j
  rw [List.getElem?_map, List.getElem?_map, List.getElem?_set]
  by_cases q : i = j
  · subst q
    obtain ⟨hi, e2⟩ := List.getElem?_eq_some_iff.mp e
    rw [if_pos rfl, if_pos hi, e]
    rfl
  · rw [if_neg q]
  )) only [↓Hsh.on])
theorem nodup_key {L : List Cell} (nd : (L.map (·.1)).Nodup) {i j : Nat} {c d : Cell} (h1 : L[i]? = some c) (h2 : L[j]? = some d) (ne : j ≠ i) : d.1 ≠ c.1 := fun z => by
  have e1 : (L.map (·.1))[i]? = some c.1 := by rw [List.getElem?_map, h1]; rfl
  have e2 : (L.map (·.1))[j]? = some c.1 := by rw [List.getElem?_map, h2]; exact congrArg some z
  obtain ⟨l1, q1⟩ := List.getElem?_eq_some_iff.mp e1
  obtain ⟨l2, q2⟩ := List.getElem?_eq_some_iff.mp e2
  exact ne ((List.getElem_inj nd).mp (q2.trans q1.symm))
theorem SH.set (S : SH A H0 H L) (i : Nat) (e : L[i]? = some (a, o)) (im : Imm o = false) (o' : HO) : SH A H0 (upd H a o') (L.set i (a, o')) := Hsh.un (by simp (disch := k_dflt (
  refine Hsh.up ?_
  have ha := S.get i e
  refine ⟨fun c hc => ?_, ?_, ⟨fun b u q z => ?_, fun b q => ?_⟩, fun c hc => ?_⟩
  · rcases mem_set_cell hc with rfl | ⟨j, nj, ej⟩
    · exact upd_same
    · rw [upd_ne (nodup_key S.nd e ej nj)]
      exact S.hs c (List.mem_of_getElem? ej)
  · rw [map_set_key e]
    exact S.nd
  · have h1 := S.kp.k b u q z
    have nb : b ≠ a := fun y => by
      subst y
      rw [ha] at h1
      cases h1
      rcases z with z | z
      · rcases S.ow _ (List.mem_of_getElem? e) with w | w
        · exact z w
        · rw [q] at w
          cases w
      · rw [im] at z
        cases z
    rw [upd_ne nb]
    exact h1
  · by_cases hb : b = a
    · rw [hb, upd_same] at q
      cases q
    · rw [upd_ne hb] at q
      exact S.kp.d b q
  · rcases mem_set_cell hc with rfl | ⟨j, nj, ej⟩
    · exact S.ow (a, o) (List.mem_of_getElem? e)
    · exact S.ow c (List.mem_of_getElem? ej)
  )) only [↓Hsh.on])
/-- behind a call that changed at most what stands at the keys of U (their new cells), each of them a cell of L -/
theorem SH.call0 (S : SH A H0 H L) (k : Keep [] H H') : SH A H0 H' L :=
  ⟨fun c hc => k.k _ _ (S.hs c hc) (.inl (by simp)), S.nd, S.kp.trans k.nil, S.ow⟩
theorem SH.call1 (S : SH A H0 H L) (i : Nat) (e : L[i]? = some (a, o)) (im : Imm o = false) (k : Keep [a] H H') (h : H' a = some o') : SH A H0 H' (L.set i (a, o')) := Hsh.un (by simp (disch := k_dflt (
  refine Hsh.up ?_
  have ha := S.get i e
  refine ⟨fun c hc => ?_, by rw [map_set_key e]; exact S.nd, ⟨fun b u q z => ?_, fun b q => S.kp.d b (k.d b q)⟩, fun c hc => ?_⟩
  · rcases mem_set_cell hc with rfl | ⟨j, nj, ej⟩
    · exact h
    · exact k.k _ _ (S.hs c (List.mem_of_getElem? ej)) (.inl fun z => nodup_key S.nd e ej nj (List.mem_singleton.mp z))
  · have h1 := S.kp.k b u q z
    refine k.k b u h1 ?_
    rcases z with z | z
    · refine .inl fun y => ?_
      have y' := List.mem_singleton.mp y
      subst y'
      rcases S.ow _ (List.mem_of_getElem? e) with w | w
      · exact z w
      · rw [q] at w
        cases w
    · exact .inr z
  · rcases mem_set_cell hc with rfl | ⟨j, nj, ej⟩
    · exact S.ow (a, o) (List.mem_of_getElem? e)
    · exact S.ow c (List.mem_of_getElem? ej)
  )) only [↓Hsh.on])
/-- a new object of a callee -/
theorem SH.add (S : SH A H0 H L) (S' : SH A H0 H' L') (ks : ∀ c ∈ L', H c.1 ≠ none) (n : H p = none) (h : H' p = some o) : SH A H0 H' ((p, o) :: L') := Hsh.un (by simp (disch := k_dflt (
  refine Hsh.up ?_
  refine ⟨fun c hc => ?_, ?_, S'.kp, fun c hc => ?_⟩
  · rcases List.mem_cons.mp hc with rfl | hc
    · exact h
    · exact S'.hs c hc
  · rw [List.map_cons, List.nodup_cons]
    refine ⟨fun z => ?_, S'.nd⟩
    obtain ⟨c, hc, e⟩ := List.mem_map.mp z
    exact ks c hc (e ▸ n)
  · rcases List.mem_cons.mp hc with rfl | hc
    · exact .inr (S.kp.d _ n)
    · exact S'.ow c hc
  )) only [↓Hsh.on])
theorem SH.call0n (S : SH A H0 H L) (k : Keep [] H H') (n : H p = none) (h : H' p = some o) : SH A H0 H' ((p, o) :: L) :=
  S.add (S.call0 k) (fun c hc => by rw [S.hs c hc]; exact nofun) n h
theorem SH.call1n {q : Addr} {u : HO} (S : SH A H0 H L) (i : Nat) (e : L[i]? = some (a, o)) (im : Imm o = false) (k : Keep [a] H H') (h : H' a = some o') (n : H q = none) (h2 : H' q = some u) : SH A H0 H' ((q, u) :: L.set i (a, o')) := Hsh.un (by simp (disch := k_dflt (
  refine Hsh.up ?_
  refine S.add (S.call1 i e im k h) (fun c hc => ?_) n h2
  rcases mem_set_cell hc with rfl | ⟨j, nj, ej⟩
  · rw [S.get i e]
    exact nofun
  · rw [S.hs c (List.mem_of_getElem? ej)]
    exact nofun
  )) only [↓Hsh.on])
theorem SH.sub (S : SH A H0 H L) (s : L'.Sublist L) : SH A H0 H L' :=
  ⟨fun c hc => S.hs c (s.subset hc), (s.map _).nodup S.nd, S.kp, fun c hc => S.ow c (s.subset hc)⟩
theorem SH.pick (S : SH A H0 H L) (is : List Nat) (nd : is.Nodup) (e : is.map (fun i => L[i]?) = L'.map some) : SH A H0 H L' := Hsh.un (by simp (disch := k_dflt (
  refine Hsh.up ?_
  have at_ : ∀ (j : Nat) (c : Cell), L'[j]? = some c → ∃ i, is[j]? = some i ∧ L[i]? = some c := fun j c h => by
    have q : (is.map (fun i => L[i]?))[j]? = some (some c) := by rw [e, List.getElem?_map, h]; rfl
    rw [List.getElem?_map] at q
    cases h2 : is[j]? with
    | none => rw [h2] at q; cases q
    | some i => rw [h2] at q; exact ⟨i, rfl, Option.some.inj q⟩
  have mem : ∀ c ∈ L', c ∈ L := fun c hc => by
    obtain ⟨j, hj, e2⟩ := List.mem_iff_getElem.mp hc
    obtain ⟨i, _, h⟩ := at_ j c (by rw [List.getElem?_eq_getElem hj, e2])
    exact List.mem_of_getElem? h
  refine ⟨fun c hc => S.hs c (mem c hc), ?_, S.kp, fun c hc => S.ow c (mem c hc)⟩
  refine List.pairwise_iff_getElem.mpr fun a b ha hb hab z => ?_
  rw [List.length_map] at ha hb
  rw [List.getElem_map, List.getElem_map] at z
  obtain ⟨i, i1, i2⟩ := at_ a _ (List.getElem?_eq_getElem ha)
  obtain ⟨j, j1, j2⟩ := at_ b _ (List.getElem?_eq_getElem hb)
  have hij : i ≠ j := fun q => by
    subst q
    obtain ⟨l1, q1⟩ := List.getElem?_eq_some_iff.mp i1
    obtain ⟨l2, q2⟩ := List.getElem?_eq_some_iff.mp j1
    have := (List.getElem_inj nd).mp (q1.trans q2.symm)
    omega
  exact nodup_key S.nd i2 j2 (Ne.symm hij) z.symm
  )) only [↓Hsh.on])
theorem SH.drop1 {c : Cell} (S : SH A H0 H (c :: L)) : SH A H0 H L := S.sub (List.sublist_cons_self _ _)
theorem SH.perm (S : SH A H0 H L) (p : L.Perm L') : SH A H0 H L' :=
  ⟨fun c hc => S.hs c (p.mem_iff.mpr hc), (p.map _).nodup_iff.mp S.nd, S.kp, fun c hc => S.ow c (p.mem_iff.mpr hc)⟩
theorem SH.ro (S : SH [] H0 H L) (h : H0 a = some o) : H a = some o := S.kp.k a o h (.inl fun z => nomatch z)
/-- what this code did, seen from outside -/
theorem SH.done (S : SH A H0 H L) : Keep A H0 H := S.kp
theorem SH.ne (S : SH A H0 H L) {i j : Nat} {c d : Cell} (h1 : L[i]? = some c) (h2 : L[j]? = some d) (ne : j ≠ i) : d.1 ≠ c.1 := nodup_key S.nd h1 h2 ne
end

/-- behind a call that turned the cells B into B2 -/
theorem SH.call {A : List Addr} {H0 H H' : Hp} {B B2 F : List Cell} (S : SH A H0 H (B ++ F)) (C : SH (B.map (·.1)) H H' B2) : SH A H0 H' (B2 ++ F) := Hsh.un (by simp (disch := k_dflt (
  refine Hsh.up ?_
  have apart : ∀ c ∈ F, c.1 ∉ B.map (·.1) := fun c hc z => by
    have nd := S.nd
    rw [List.map_append] at nd
    exact (List.nodup_append.mp nd).2.2 c.1 z c.1 (List.mem_map_of_mem hc) rfl
  refine ⟨fun c hc => ?_, ?_, ⟨fun b o e q => ?_, fun b e => S.kp.d b (C.kp.d b e)⟩, fun c hc => ?_⟩
  · rcases List.mem_append.mp hc with h | h
    · exact C.hs c h
    · exact C.kp.k _ _ (S.hs c (List.mem_append_right _ h)) (.inl (apart c h))
  · rw [List.map_append]
    have nd := S.nd
    rw [List.map_append] at nd
    refine List.nodup_append.mpr ⟨C.nd, (List.nodup_append.mp nd).2.1, fun a ha b hb e => ?_⟩
    subst e
    obtain ⟨c, hc, rfl⟩ := List.mem_map.mp ha
    obtain ⟨d, hd, e⟩ := List.mem_map.mp hb
    rcases C.ow c hc with w | w
    · exact apart d hd (by rw [e]; exact w)
    · rw [← e, S.hs d (List.mem_append_right _ hd)] at w
      cases w
  · have h1 := S.kp.k b o e q
    refine C.kp.k b o h1 ?_
    rcases q with q | q
    · refine .inl fun z => ?_
      obtain ⟨c, hc, e2⟩ := List.mem_map.mp z
      rcases S.ow c (List.mem_append_left _ hc) with w | w
      · exact q (e2 ▸ w)
      · rw [e2, e] at w
        cases w
    · exact .inr q
  · rcases List.mem_append.mp hc with h | h
    · rcases C.ow c h with w | w
      · obtain ⟨d, hd, e⟩ := List.mem_map.mp w
        rw [← e]
        exact S.ow d (List.mem_append_left _ hd)
      · exact .inr (S.kp.d _ w)
    · exact S.ow c (List.mem_append_right _ h)
  )) only [↓Hsh.on])
theorem SH.pickT {A : List Addr} {H0 H : Hp} {L L' : List Cell} (n : Nat) (S : SH A H0 H L) (is : List Nat) (nd : is.Nodup) (hb : ∀ i ∈ is, i < n) (e : is.map (fun i => L[i]?) = L'.map some) : SH A H0 H (L' ++ L.drop n) := Hsh.un (by simp (disch := k_dflt (
  refine Hsh.up ?_
  have S1 := S.pick is nd e
  have S2 := S.sub (List.drop_sublist n L)
  refine ⟨fun c hc => (List.mem_append.mp hc).elim (S1.hs c) (S2.hs c), ?_, S.kp, fun c hc => (List.mem_append.mp hc).elim (S1.ow c) (S2.ow c)⟩
  rw [List.map_append]
  refine List.nodup_append.mpr ⟨S1.nd, S2.nd, fun a ha b hb' q => ?_⟩
  subst q
  obtain ⟨c, hc, rfl⟩ := List.mem_map.mp ha
  obtain ⟨d, hd, ed⟩ := List.mem_map.mp hb'
  obtain ⟨j, hj, ej⟩ := List.mem_iff_getElem.mp hc
  obtain ⟨m, hm, em⟩ := List.mem_iff_getElem.mp hd
  have q : (is.map (fun i => L[i]?))[j]? = some (some c) := by rw [e, List.getElem?_map, List.getElem?_eq_getElem hj, ej]; rfl
  rw [List.getElem?_map] at q
  cases h2 : is[j]? with
  | none => rw [h2] at q; cases q
  | some i =>
    rw [h2] at q
    have hi := hb i (List.mem_of_getElem? h2)
    have e1 : L[i]? = some c := Option.some.inj q
    have e2 : L[n + m]? = some d := by rw [← List.getElem?_drop, List.getElem?_eq_getElem hm, em]
    exact nodup_key S.nd e1 e2 (by omega) ed
  )) only [↓Hsh.on])
theorem perm_mid {α : Type} (A B S : List α) : ((A ++ B) ++ S).Perm (A ++ (S ++ B)) := by
  rw [List.append_assoc]
  exact List.Perm.append_left _ List.perm_append_comm
/-- cells that are there, apart -/
structure Blk (H : Hp) (B : List Cell) : Prop where
  hs : ∀ c ∈ B, H c.1 = some c.2
  nd : (B.map (·.1)).Nodup
theorem SH.callM {A : List Addr} {H0 H H' : Hp} {F B B2 G : List Cell} (S : SH A H0 H (F ++ (B ++ G))) (C : SH (B.map (·.1)) H H' B2) : SH A H0 H' (F ++ (B2 ++ G)) := Hsh.un (by simp (disch := k_dflt (
  refine Hsh.up ?_
  have p : ∀ X : List Cell, (F ++ (X ++ G)).Perm (X ++ (F ++ G)) := fun X => by
    rw [← List.append_assoc, ← List.append_assoc]
    exact List.Perm.append_right _ List.perm_append_comm
  exact ((S.perm (p B)).call C).perm (p B2).symm
  )) only [↓Hsh.on])
theorem SH.callR {A : List Addr} {H0 H H' : Hp} {F B B2 : List Cell} (S : SH A H0 H (F ++ B)) (C : SH (B.map (·.1)) H H' B2) : SH A H0 H' (F ++ B2) :=
  ((S.perm List.perm_append_comm).call C).perm List.perm_append_comm
theorem SH.blkM {A : List Addr} {H0 H : Hp} (F B G : List Cell) (S : SH A H0 H (F ++ (B ++ G))) : Blk H B := ⟨fun c hc => S.hs c (List.mem_append_right _ (List.mem_append_left _ hc)), by
  have nd := S.nd
  rw [List.map_append, List.map_append] at nd
  exact (List.nodup_append.mp (List.nodup_append.mp nd).2.1).1⟩
theorem SH.blkR {A : List Addr} {H0 H : Hp} (F B : List Cell) (S : SH A H0 H (F ++ B)) : Blk H B := ⟨fun c hc => S.hs c (List.mem_append_right _ hc), by
  have nd := S.nd
  rw [List.map_append] at nd
  exact (List.nodup_append.mp nd).2.1⟩
theorem Blk.sh {H : Hp} {B : List Cell} (b : Blk H B) : SH (B.map (·.1)) H H B := SH.start b.hs b.nd
theorem SH.blk {A : List Addr} {H0 H : Hp} {L : List Cell} (S : SH A H0 H L) : Blk H L := ⟨S.hs, S.nd⟩
theorem Blk.sub {H : Hp} {B B' : List Cell} (b : Blk H B) (s : B'.Sublist B) : Blk H B' := ⟨fun c hc => b.hs c (s.subset hc), (s.map _).nodup b.nd⟩
theorem SH.fr0 {H0 H : Hp} {L : List Cell} {p : Addr} {o : HO} (S : SH [] H0 H L) (i : Nat) (e : L[i]? = some (p, o)) : H0 p = none := (S.ow (p, o) (List.mem_of_getElem? e)).elim (fun z => nomatch z) id
theorem SH.fr1 {H0 H : Hp} {L : List Cell} {p a : Addr} {o u : HO} (S : SH [a] H0 H L) (i j : Nat) (e : L[i]? = some (p, o)) (e2 : L[j]? = some (a, u)) (ne : i ≠ j) : H0 p = none :=
  (S.ow (p, o) (List.mem_of_getElem? e)).elim (fun z => absurd (List.mem_singleton.mp z) (nodup_key S.nd e2 e ne)) id
theorem SH.frn {A : List Addr} {H0 H : Hp} {L : List Cell} {p : Addr} {o : HO} (S : SH A H0 H L) (i : Nat) (e : L[i]? = some (p, o)) (n : p ∉ A) : H0 p = none := (S.ow (p, o) (List.mem_of_getElem? e)).elim (fun z => absurd z n) id
/-- the script (or another list that nobody changes) -/
def Scr (K : PySem.W.Frag) (H : Hp) (a : Addr) (xs : List V) : Prop :=
  (∃ o, H a = some (.frz o (.lst xs))) ∨
    ∃ (o : Obj) (its : Array Value) (n : Nat), K.lookup a = some o ∧ o.cls = .type "list" ∧ o.dict = none ∧ o.data = .seq its n ∧ its.size ≤ sizeLine ∧ Vals xs its.toList
theorem Scr.sq {K : PySem.W.Frag} {H : Hp} {a : Addr} {xs : List V} (h : Scr K H a xs) : SqL K H a xs := Hsh.un (by simp (disch := k_dflt (
  refine Hsh.up ?_
  rcases h with ⟨o, h⟩ | h
  · exact .inl (.inr ⟨o, h⟩)
  · exact .inr h
  )) only [↓Hsh.on])
theorem Scr.keep {K : PySem.W.Frag} {A : List Addr} {H H' : Hp} {a : Addr} {xs : List V} (h : Scr K H a xs) (k : Keep A H H') : Scr K H' a xs := Hsh.un (by simp (disch := k_dflt (
  refine Hsh.up ?_
  rcases h with ⟨o, h⟩ | h
  · exact .inl ⟨o, k.k _ _ h (.inr rfl)⟩
  · exact .inr h
  )) only [↓Hsh.on])
theorem Scr.of {K : PySem.W.Frag} {H : Hp} {a : Addr} {xs : List V} (h : SqL K H a xs) (O : Only H) : Scr K H a xs := Hsh.un (by simp (disch := k_dflt (
  refine Hsh.up ?_
  rcases h with (h | ⟨o, h⟩) | h
  · rcases O a with q | ⟨o, ys, q⟩
    · rw [q] at h
      cases h
    · rw [q] at h
      cases h
  · exact .inl ⟨o, h⟩
  · exact .inr h
  )) only [↓Hsh.on])

/-! ### operators for several kinds of values -/
section
variable {X : Cx}
def CDivX (_ j : Int) : Prop := j ≠ 0 ∧ j.natAbs.log2 < 9000
theorem op_fdivX : OpR X (binaryOp .FloorDiv) (rI CDivX fun i j => .int (i.fdiv j)) := opI fun _ _ _ _ _ _ _ hc q => floordiv_int hc.1 q (.inl (PyProof.noPylong_of_log2 hc.2))
def rAddX (K : PySem.W.Frag) : R2 := fun x y H Q => rI0 (fun i j => .int (i + j)) x y H Q ∨ (∃ i j, x = .str i ∧ y = .str j ∧ i.length + j.length ≤ sizeLine ∧ Q (.str (i ++ j)) H) ∨ rCat x y H Q ∨ rCatA K x y H Q
theorem xAdd : OpR X (binaryOp .Add) (rAddX X.K) := op_add.or (op_add_str.or (op_cat.or op_catA))
def rMulX (K : PySem.W.Frag) : R2 := fun x y H Q => rI CMul (fun i j => .int (i * j)) x y H Q ∨ rI CMulW (fun i j => .int (i * j)) x y H Q ∨ rRep x y H Q ∨ rRepT K x y H Q
theorem xMul : OpR X (binaryOp .Mult) (rMulX X.K) := op_mul.or (op_mulW.or (op_rep.or op_repT))
def rDivX : R2 := fun x y H Q => rI CDivW (fun i j => .int (i / j)) x y H Q ∨ rI CDivX (fun i j => .int (i.fdiv j)) x y H Q
theorem xDiv : OpR X (binaryOp .FloorDiv) rDivX := op_fdivW.or op_fdivX
def rModX : R2 := fun x y H Q => rI (fun _ j => 0 < j) (fun i j => .int (i % j)) x y H Q ∨ rI (fun _ j => j ≠ 0) (fun i j => .int (i.fmod j)) x y H Q
theorem xMod : OpR X (binaryOp .Mod) rModX := op_mod.or op_modN
def rEqX (K : PySem.W.Frag) : R2 := fun x y H Q => rEq x y H Q ∨ rEqD K x y H Q
def rNeX (K : PySem.W.Frag) : R2 := fun x y H Q => rNe x y H Q ∨ rNeD K x y H Q
theorem xEq (hu : X.A.units + 64 < cLine) : OpR X (compareOp .Eq) (rEqX X.K) := op_eq.or (op_eqD hu)
theorem xNe (hu : X.A.units + 64 < cLine) : OpR X (compareOp .NotEq) (rNeX X.K) := op_ne.or (op_neD hu)
def rInX (K : PySem.W.Frag) (neg : Bool) : R2 := rIn K neg
theorem xIn : OpR X (compareOp .In) (rInX X.K false) := op_in_seq
theorem xNotIn : OpR X (compareOp .NotIn) (rInX X.K true) := op_notIn_seq
def rIsX : R2 := fun x y H Q => (y = .non ∧ Q (.bl (decide (x = .non))) H) ∨ (∃ a b, x = .bl a ∧ y = .bl b ∧ Q (.bl (decide (a = b))) H)
def rIsNotX : R2 := fun x y H Q => (y = .non ∧ Q (.bl (!decide (x = .non))) H) ∨ (∃ a b, x = .bl a ∧ y = .bl b ∧ Q (.bl (!decide (a = b))) H)
theorem xIs : OpR X (compareOp .Is) rIsX := op_isN.or op_is_bl
theorem xIsNot : OpR X (compareOp .IsNot) rIsNotX := op_notN.or op_isnot_bl
def rIxX (K : PySem.W.Frag) : R2 := rIx K
theorem xIx : IxR X (rIxX X.K) := ix_seq
def rSlX (K : PySem.W.Frag) : V → Option Int → Option Int → Hp → VK → Prop := fun x lo hi H Q => rSlL K x lo hi H Q ∨ rSlT K x lo hi H Q
theorem xSl : SlR X (rSlX X.K) := sl_list.or sl_tup
theorem CallR.or {f : Value} {r r' : List V → Hp → VK → Prop} (h : CallR X f r) (h' : CallR X f r') : CallR X f (fun xs H Q => r xs H Q ∨ r' xs H Q) := Hsh.un (by simp (disch := k_dflt (
  refine Hsh.up ?_
  intro pins s σ H xs us Q I r1 q
  rcases q with q | q
  · exact h pins s σ H xs us Q I r1 q
  · exact h' pins s σ H xs us Q I r1 q
  )) only [↓Hsh.on])
def rInt : List V → Hp → VK → Prop := fun xs H Q => (∃ i, xs = [.int i] ∧ Q (.int i) H) ∨ ∃ k, xs = [.bl k] ∧ Q (.int (if k then 1 else 0)) H
theorem x_int : CallR X (.type "int") rInt := call_int1
def rLenX (K : PySem.W.Frag) : List V → Hp → VK → Prop := fun xs H Q => ∃ x n, xs = [x] ∧ LenV K x H n ∧ Q (.int n) H
theorem x_len : CallR X (.builtin "len") (rLenX X.K) := call_len
def rAbs : List V → Hp → VK → Prop := fun xs H Q => ∃ i, xs = [.int i] ∧ Q (.int (if i < 0 then -i else i)) H
theorem x_abs : CallR X (.builtin "abs") rAbs := call_abs
def rIsiX (K : PySem.W.Frag) : List V → Hp → VK → Prop := fun xs H Q => rIsi K xs H Q ∨ rIsiT K xs H Q
theorem x_isinstance : CallR X (.builtin "isinstance") (rIsiX X.K) := CallR.or call_isi call_isiT
def rListX (K : PySem.W.Frag) : List V → Hp → VK → Prop := fun xs H Q => ∃ p ys, xs = [.ref p] ∧ (SqL K H p ys ∨ SqT K H p ys) ∧ ∀ l, H l = none → Q (.ref l) (upd H l (.lst ys))
theorem x_list : CallR X (.type "list") (rListX X.K) := call_list_of
def rTupX (K : PySem.W.Frag) : List V → Hp → VK → Prop := fun xs H Q => ∃ p ys, xs = [.ref p] ∧ ((SqL K H p ys ∧ ∀ l, H l = none → Q (.ref l) (upd H l (.tup ys))) ∨ (SqT K H p ys ∧ Q (.ref p) H))
theorem x_tuple : CallR X (.type "tuple") (rTupX X.K) := call_tuple_of
def rMax2 : List V → Hp → VK → Prop := fun xs H Q => ∃ i j, xs = [.int i, .int j] ∧ Q (.int (if j > i then j else i)) H
theorem x_max2 (hc : X.calm = true) : CallR X (.builtin "max") rMax2 := call_max2 hc
def rMin2 : List V → Hp → VK → Prop := fun xs H Q => ∃ i j, xs = [.int i, .int j] ∧ Q (.int (if j < i then j else i)) H
theorem x_min2 (hc : X.calm = true) : CallR X (.builtin "min") rMin2 := call_min2 hc
theorem x_sum (hc : X.calm = true) : CallR X (.builtin "sum") (rSum X.K) := cr_sum hc
theorem x_max1 (hc : X.calm = true) : CallR X (.builtin "max") (rMax X.K) := cr_max hc
theorem x_min1 (hc : X.calm = true) : CallR X (.builtin "min") (rMin X.K) := cr_min hc
theorem x_all (hc : X.calm = true) : CallR X (.builtin "all") (rAll X.K) := cr_all hc
theorem x_any (hc : X.calm = true) : CallR X (.builtin "any") (rAny X.K) := cr_any hc
/-- a module's constant -/
theorem pe_ci {x : Str} {i : Int} {pos : Pos} (hg : Gl X x) (h : ∃ t, X.mg x = some (.int i t)) (hd : (x == ("__debug__" : Str)) = false := by decide) : PE X (.Name x pos) (tC (.int i)) := by
  obtain ⟨t, h⟩ := h
  exact pe_glob hg h ⟨t, rfl⟩ hd
theorem pe_gr {x : Str} {a : Addr} {pos : Pos} (hg : Gl X x) (h : X.mg x = some (.ref a)) (hd : (x == ("__debug__" : Str)) = false := by decide) : PE X (.Name x pos) (tC (.ref a)) := pe_glob hg h rfl hd
theorem pe_cs {x z : Str} {pos : Pos} (hg : Gl X x) (h : ∃ t, X.mg x = some (.str z t)) (hd : (x == ("__debug__" : Str)) = false := by decide) : PE X (.Name x pos) (tC (.str z)) := by
  obtain ⟨t, h⟩ := h
  exact pe_glob hg h ⟨t, rfl⟩ hd
end

/-! ### == of lists of ints -/
theorem shaped_ints (ns : List Int) : SeqAt.shaped (.list (ns.map PyData.int)) = true := Hsh.un (by simp (disch := k_dflt (
  refine Hsh.up ?_
  have h1 : ∀ l : List Int, PyData.canLayAll0 (l.map PyData.int) = true := fun l => by
    induction l with
    | nil => rfl
    | cons n r ih => rw [List.map_cons, PyData.canLayAll0, ih]; rfl
  have h2 : ∀ l : List Int, PyData.depthAll (l.map PyData.int) = 0 := fun l => by
    induction l with
    | nil => rfl
    | cons n r ih => rw [List.map_cons, PyData.depthAll, ih]; rfl
  unfold SeqAt.shaped
  rw [PyData.canLay0, h1, PyData.depth, h2]
  rfl
  )) only [↓Hsh.on])
theorem eqv_ints : ∀ ns ms : List Int, PyData.eqvAll (ns.map PyData.int) (ms.map PyData.int) = decide (ns = ms)
  | [], [] => by simp [PyData.eqvAll]
  | [], _ :: _ => by simp [PyData.eqvAll]
  | _ :: _, [] => by simp [PyData.eqvAll]
  | n :: ns, m :: ms => by
    rw [List.map_cons, List.map_cons, PyData.eqvAll, eqv_ints ns ms]
    by_cases h : n = m <;> by_cases h2 : ns = ms <;> simp [h, h2, PyData.eqv]
theorem dp_ints {K : PySem.W.Frag} {H : Hp} : ∀ ns : List Int, DpAll K H (ns.map V.int) (ns.map PyData.int)
  | [] => .nil
  | n :: ns => .cons (.int n) (dp_ints ns)
theorem s_eqLI {K : PySem.W.Frag} {H : Hp} {p q : Addr} {ns ms : List Int} {Q : VK} (h1 : SqL K H p (ns.map V.int)) (h2 : SqL K H q (ms.map V.int)) (h : Q (.bl (decide (ns = ms))) H) : rEqX K (.ref p) (.ref q) H Q :=
  .inr ⟨_, _, .lst h1 (dp_ints ns), .lst h2 (dp_ints ms), shaped_ints ns, shaped_ints ms, by rw [PyData.eqv, eqv_ints]; exact h⟩
/-! ### defs of the program -/
/-- the name x stands for a def that keeps the promise sp -/
structure CallOk (P : Program) (w : World) (K : PySem.W.Frag) (mg : Str → Option Value) (base : Heap) (CX : CXT) (k : Nat) (x : Str) (ps : List Str) (sp : Sp) : Prop where
  ex : ∃ f fd, mg x = some (.ref f) ∧ PySem.W.keepIn K (.ref f) = true ∧ Binds K fd ps [] ∧ FnOk P w K mg base CX k f fd ps sp
section
variable {X : Cx} {CX : CXT} {k : Nat} {ps : List Str} {sp : Sp} {E : XK} {x : Str} {p pos : Pos} {e : Expr} {es : List Expr} {t : TA}
theorem pe_callG (F : CallOk X.prog X.w X.K X.mg X.base CX k x ps sp) (hr : Room k X.A) (hg : Gl X x) (hx : Passes CX X E)
    (ha : PA X (e :: es) t) (hdb : (x == ("__debug__" : Str)) = false := by decide) (he : starEach (e :: es) X.env = (false, eval e X.env) :: starEach es X.env := by rfl) (hpl : (backTo pos (starEach es X.env)).any (·.1) = false := by rfl) :
    PE X (.Call (.Name x p) (e :: es) [] pos) (tCall sp [] E t) := by
  obtain ⟨f, fd, h1, h2, h3, h4⟩ := F.ex
  exact pe_call h4 hr hg h1 h2 h3 .nil hx ha hdb he hpl
theorem pe_callG0 (F : CallOk X.prog X.w X.K X.mg X.base CX k x ps sp) (hr : Room k X.A) (hg : Gl X x) (hx : Passes CX X E) (hdb : (x == ("__debug__" : Str)) = false := by decide) :
    PE X (.Call (.Name x p) [] [] pos) (tCall sp [] E tNil) := by
  obtain ⟨f, fd, h1, h2, h3, h4⟩ := F.ex
  exact pe_call0 h4 hr hg h1 h2 h3 .nil hx hdb
end
/-- the method m of the class that stands under the name C -/
structure MethOk (P : Program) (w : World) (K : PySem.W.Frag) (mg : Str → Option Value) (base : Heap) (CX : CXT) (k : Nat) (C m : Str) (ps : List Str) (sp : Sp) : Prop where
  ex : ∃ fd, Cls K (He.ga K C) ∧ Meth K (He.ga K C) m (He.ma K (He.ga K C) m) ∧ Binds K fd ps [] ∧ FnOk P w K mg base CX k (He.ma K (He.ga K C) m) fd ps sp
structure MakeOk (P : Program) (w : World) (K : PySem.W.Frag) (mg : Str → Option Value) (base : Heap) (CX : CXT) (k : Nat) (C : Str) (ps : List Str) (sp : Sp) : Prop where
  ex : ∃ fd, mg C = some (.ref (He.ga K C)) ∧ Mk K (He.ga K C) (He.ma K (He.ga K C) "__init__") ∧ Binds K fd ps [] ∧ FnOk P w K mg base CX k (He.ma K (He.ga K C) "__init__") fd ps sp
/-- the property f of the class C -/
structure PropOk (P : Program) (w : World) (K : PySem.W.Frag) (mg : Str → Option Value) (base : Heap) (CX : CXT) (k : Nat) (C f : Str) (ps : List Str) (sp : Sp) : Prop where
  ex : ∃ fd p g, Cls K (He.ga K C) ∧ PropOf K (He.ga K C) f p g ∧ Binds K fd ps [] ∧ FnOk P w K mg base CX k g fd ps sp
/-- a method's reading behind its object -/
def methO (C : Addr) (m : Str) (sp : Sp) (E : XK) (t : TA) (σ : L2.St) (x : V) (H : Hp) (Q : VK) : Prop := ∃ a dx fs, x = .ref a ∧ H a = some (.ins C dx fs) ∧ fs.lookup m = none ∧ t σ H fun vs H2 => sp (x :: (vs ++ [])) H2 Q E
def propO (C : Addr) (sp : Sp) (E : XK) (x : V) (H : Hp) (Q : VK) : Prop := ∃ a dx fs, x = .ref a ∧ H a = some (.ins C dx fs) ∧ sp [.ref a] H Q E
def makeO (C : Addr) (sp : Sp) (E : XK) (vs : List V) (H : Hp) (Q : VK) : Prop := ∀ x dx, H x = none → H dx = none → dx ≠ x → sp (.ref x :: (vs ++ [])) (upd (upd H dx (.own x)) x (.ins C dx [])) (fun v H2 => v = .non ∧ Q (.ref x) H2) E
section
variable {X : Cx} {CX : CXT} {k : Nat} {ps : List Str} {sp : Sp} {E : XK} {C m : Str} {p pos apos : Pos} {o e : Expr} {es : List Expr} {t : TA} {ta : TE}
theorem pe_methG {pl : Sem Bool} (he : PE X o ta) (F : MethOk X.prog X.w X.K X.mg X.base CX k C m ps sp) (hr : Room k X.A) (hx : Passes CX X E) (ha : PA X (e :: es) t)
    (hst : starEach (e :: es) X.env = (false, eval e X.env) :: starEach es X.env := by rfl) (hpl : (backTo pos (starEach es X.env)).any (·.1) = false := by rfl)
    (ht : eval (.Call (.Attribute o m apos) (e :: es) [] pos) X.env = (do
      let ov ← eval o X.env
      standAt apos.atName
      let (f, first) ← holding [ov] (getMethod ov m pl)
      callWith pos f first (backTo pos (starEach (e :: es) X.env)) (backToKw pos (keywordEach [] X.env))) := by rfl) :
    PE X (.Call (.Attribute o m apos) (e :: es) [] pos) (fun σ H Q => ta σ H fun x H1 => methO (He.ga X.K C) m sp E t σ x H1 Q) := by
  obtain ⟨fd, c, hm, hb, G⟩ := F.ex
  exact pe_meth (pl := pl) he c hm G hr hb .nil hx ha hst hpl ht
theorem pe_methG0 {pl : Sem Bool} (he : PE X o ta) (F : MethOk X.prog X.w X.K X.mg X.base CX k C m ps sp) (hr : Room k X.A) (hx : Passes CX X E)
    (ht : eval (.Call (.Attribute o m apos) [] [] pos) X.env = (do
      let ov ← eval o X.env
      standAt apos.atName
      let (f, first) ← holding [ov] (getMethod ov m pl)
      callWith pos f first (backTo pos (starEach [] X.env)) (backToKw pos (keywordEach [] X.env))) := by rfl) :
    PE X (.Call (.Attribute o m apos) [] [] pos) (fun σ H Q => ta σ H fun x H1 => methO (He.ga X.K C) m sp E tNil σ x H1 Q) := by
  obtain ⟨fd, c, hm, hb, G⟩ := F.ex
  exact pe_meth0 (pl := pl) he c hm G hr hb .nil hx ht
theorem pe_propG (he : PE X o ta) (F : PropOk X.prog X.w X.K X.mg X.base CX k C m ps sp) (hr : Room (k + 1) X.A) (hx : Passes CX X.nox E)
    (hab : attributeBase o m X.env (eval o X.env) = eval o X.env) : PE X (.Attribute o m pos) (fun σ H Q => ta σ H fun x H1 => propO (He.ga X.K C) sp E x H1 Q) := by
  obtain ⟨fd, p, g, c, hp, hb, G⟩ := F.ex
  exact pe_prop he c hp G hr hb .nil hx hab
theorem pe_makeG (F : MakeOk X.prog X.w X.K X.mg X.base CX k C ps sp) (hr : Room (k + 1) X.A) (hg : Gl X C) (hx : Passes CX X E) (ha : PA X (e :: es) t) (hdb : (C == ("__debug__" : Str)) = false := by decide)
    (he : starEach (e :: es) X.env = (false, eval e X.env) :: starEach es X.env := by rfl) (hpl : (backTo pos (starEach es X.env)).any (·.1) = false := by rfl) :
    PE X (.Call (.Name C p) (e :: es) [] pos) (fun σ H Q => t σ H fun vs H1 => makeO (He.ga X.K C) sp E vs H1 Q) := by
  obtain ⟨fd, hm, M, hb, G⟩ := F.ex
  exact pe_make M G hr hg hm hb .nil hx ha hdb he hpl
theorem pe_makeG0 (F : MakeOk X.prog X.w X.K X.mg X.base CX k C ps sp) (hr : Room (k + 1) X.A) (hg : Gl X C) (hx : Passes CX X E) (hdb : (C == ("__debug__" : Str)) = false := by decide) :
    PE X (.Call (.Name C p) [] [] pos) (fun σ H Q => makeO (He.ga X.K C) sp E [] H Q) := by
  obtain ⟨fd, hm, M, hb, G⟩ := F.ex
  exact pe_make0 M G hr hg hm hb .nil hx hdb
end
/-- promises by the number of arguments -/
def mk0 (P : Hp → VK → XK → Prop) : Sp := fun vs H Q E => vs = [] ∧ P H Q E
def mk1 (P : V → Hp → VK → XK → Prop) : Sp := fun vs H Q E => ∃ a, vs = [a] ∧ P a H Q E
def mk2 (P : V → V → Hp → VK → XK → Prop) : Sp := fun vs H Q E => ∃ a b, vs = [a, b] ∧ P a b H Q E
def mk3 (P : V → V → V → Hp → VK → XK → Prop) : Sp := fun vs H Q E => ∃ a b c, vs = [a, b, c] ∧ P a b c H Q E
def mk4 (P : V → V → V → V → Hp → VK → XK → Prop) : Sp := fun vs H Q E => ∃ a b c d, vs = [a, b, c, d] ∧ P a b c d H Q E
def mk5 (P : V → V → V → V → V → Hp → VK → XK → Prop) : Sp := fun vs H Q E => ∃ a b c d e, vs = [a, b, c, d, e] ∧ P a b c d e H Q E
theorem mk0_len {P} (vs H Q E) (h : mk0 P vs H Q E) : vs.length = 0 := by obtain ⟨rfl, _⟩ := h; rfl
theorem mk1_len {P} (vs H Q E) (h : mk1 P vs H Q E) : vs.length = 1 := by obtain ⟨_, rfl, _⟩ := h; rfl
theorem mk2_len {P} (vs H Q E) (h : mk2 P vs H Q E) : vs.length = 2 := by obtain ⟨_, _, rfl, _⟩ := h; rfl
theorem mk3_len {P} (vs H Q E) (h : mk3 P vs H Q E) : vs.length = 3 := by obtain ⟨_, _, _, rfl, _⟩ := h; rfl
theorem mk4_len {P} (vs H Q E) (h : mk4 P vs H Q E) : vs.length = 4 := by obtain ⟨_, _, _, _, rfl, _⟩ := h; rfl
theorem mk5_len {P} (vs H Q E) (h : mk5 P vs H Q E) : vs.length = 5 := by obtain ⟨_, _, _, _, _, rfl, _⟩ := h; rfl
theorem s_mk0 {P : Hp → VK → XK → Prop} {H Q E} (h : P H Q E) : mk0 P ([] ++ []) H Q E := ⟨rfl, h⟩
theorem s_mk1 {P : V → Hp → VK → XK → Prop} {a H Q E} (h : P a H Q E) : mk1 P ([a] ++ []) H Q E := ⟨a, rfl, h⟩
theorem s_mk2 {P : V → V → Hp → VK → XK → Prop} {a b H Q E} (h : P a b H Q E) : mk2 P ([a, b] ++ []) H Q E := ⟨a, b, rfl, h⟩
theorem s_mk3 {P : V → V → V → Hp → VK → XK → Prop} {a b c H Q E} (h : P a b c H Q E) : mk3 P ([a, b, c] ++ []) H Q E := ⟨a, b, c, rfl, h⟩
theorem s_mk4 {P : V → V → V → V → Hp → VK → XK → Prop} {a b c d H Q E} (h : P a b c d H Q E) : mk4 P ([a, b, c, d] ++ []) H Q E := ⟨a, b, c, d, rfl, h⟩
theorem s_mk5 {P : V → V → V → V → V → Hp → VK → XK → Prop} {a b c d e H Q E} (h : P a b c d e H Q E) : mk5 P ([a, b, c, d, e] ++ []) H Q E := ⟨a, b, c, d, e, rfl, h⟩
theorem cxK {CX : CXT} {P : Program} {w : World} {K : PySem.W.Frag} {mg : Str → Option Value} {base : Heap} {N : List Str} {qual : Str} {scope : Scope} {f : Addr} {cd : Value} {A : Around} {outer : List PySem.Env} {s : Shared} {H : Hp} {E : XK} :
    (cxOf CX P w K mg base N qual scope f cd A outer s H E).nox.K = K := rfl
theorem cxK2 {CX : CXT} {P : Program} {w : World} {K : PySem.W.Frag} {mg : Str → Option Value} {base : Heap} {N : List Str} {qual : Str} {scope : Scope} {f : Addr} {cd : Value} {A : Around} {outer : List PySem.Env} {s : Shared} {H : Hp} {E : XK} :
    (cxOf CX P w K mg base N qual scope f cd A outer s H E).K = K := rfl
theorem hu_room {k : Nat} {A : Around} (hr : Room k A) : A.units + 64 < cLine := hr.units
theorem exget {ex : List (PySem.W.Frag → Bool)} {K : PySem.W.Frag} (h : (ex.all fun f => f K) = true) (i : Nat) {f : PySem.W.Frag → Bool} (e : ex[i]? = some f) : f K = true :=
  List.all_eq_true.mp h f (List.mem_of_getElem? e)

/-! ### one lemma a reading -/
/-- a new object -/
def newO (o : HO) (n : Nat) (H : Hp) (Q : VK) : Prop := n ≤ sizeLine ∧ ∀ p, H p = none → Q (.ref p) (upd H p o)
/-- a field of the value x -/
def fldO (K : PySem.W.Frag) (f : Str) (x : V) (H : Hp) (Q : VK) : Prop := ∃ a C dx fs v, x = .ref a ∧ H a = some (.ins C dx fs) ∧ Cls K C ∧ NoAttr K C f ∧ fs.lookup f = some v ∧ Q v H
def sfldO (K : PySem.W.Frag) (f : Str) (y x : V) (H : Hp) (P : Hp → Prop) : Prop := ∃ a C dx fs, x = .ref a ∧ H a = some (.ins C dx fs) ∧ Cls K C ∧ NoAttr K C f ∧ fs.length < 1000 ∧ P (upd H a (.ins C dx (putF f y fs)))
section
variable {σ σ' : L2.St} {H : Hp} {Q : VK} {K : PySem.W.Frag} {R : Bool → Hp → Prop} {D : Ends} {ta tb : TE} {t u : TS} {tc td : TT} {v : V}
theorem s_var {i : Nat} (e : σ[i]? = some (some v)) (h : Q v H) : tVar i σ H Q := ⟨v, e, h⟩
theorem s_C (h : Q v H) : tC v σ H Q := h
theorem s_op {r : R2} (h : ta σ H fun x H1 => tb σ H1 fun y H2 => r x y H2 Q) : tOp r ta tb σ H Q := h
theorem s_un {r : V → Hp → VK → Prop} (h : ta σ H fun x H1 => r x H1 Q) : tUn r ta σ H Q := h
theorem s_rU {g : Int → V} {i : Int} (h : Q (g i) H) : rU g (.int i) H Q := ⟨i, rfl, h⟩
theorem s_rI0 {g : Int → Int → V} {i j : Int} (h : Q (g i j) H) : rI0 g (.int i) (.int j) H Q := ⟨i, j, rfl, rfl, h⟩
theorem s_rI {C : Int → Int → Prop} {g : Int → Int → V} {i j : Int} (c : C i j) (h : Q (g i j) H) : rI C g (.int i) (.int j) H Q := ⟨i, j, rfl, rfl, c, h⟩
theorem s_addI {i j : Int} (h : Q (.int (i + j)) H) : rAddX K (.int i) (.int j) H Q := .inl ⟨i, j, rfl, rfl, h⟩
theorem s_addS {i j : Str} (c : i.length + j.length ≤ sizeLine) (h : Q (.str (i ++ j)) H) : rAddX K (.str i) (.str j) H Q := .inr (.inl ⟨i, j, rfl, rfl, c, h⟩)
theorem s_mulR {i j : Int} (c : -(2 ^ 64) < j ∧ j < 2 ^ 64) (h : Q (.int (i * j)) H) : rMulX K (.int i) (.int j) H Q := .inl ⟨i, j, rfl, rfl, .inr c, h⟩
theorem s_mulL {i j : Int} (c : -(2 ^ 64) < i ∧ i < 2 ^ 64) (h : Q (.int (i * j)) H) : rMulX K (.int i) (.int j) H Q := .inl ⟨i, j, rfl, rfl, .inl c, h⟩
theorem s_div {i j : Int} (c0 : 0 < j) (c : j < 2 ^ 64) (h : Q (.int (i / j)) H) : rDivX (.int i) (.int j) H Q := .inl ⟨i, j, rfl, rfl, wide_div (b := 64) c0 (by omega) (by decide) (by decide), h⟩
theorem s_divX {i j : Int} (c0 : j ≠ 0) (c : -(2 ^ 64) < j ∧ j < 2 ^ 64) (h : Q (.int (i.fdiv j)) H) : rDivX (.int i) (.int j) H Q :=
  .inr ⟨i, j, rfl, rfl, ⟨c0, Nat.lt_of_lt_of_le (PySem.Flt.log2_lt_of (k := 64) (by decide) (by omega)) (by decide)⟩, h⟩
theorem s_mod {i j : Int} (c : 0 < j) (h : Q (.int (i % j)) H) : rModX (.int i) (.int j) H Q := .inl ⟨i, j, rfl, rfl, c, h⟩
theorem s_modN {i j : Int} (c : j ≠ 0) (h : Q (.int (i.fmod j)) H) : rModX (.int i) (.int j) H Q := .inr ⟨i, j, rfl, rfl, c, h⟩
theorem s_pow {i j : Int} (c : CPow i j) {n : Int} (e : i ^ j.toNat = n) (h : Q (.int n) H) : rI CPow (fun i j => .int (i ^ j.toNat)) (.int i) (.int j) H Q := ⟨i, j, rfl, rfl, c, by show Q (.int (i ^ j.toNat)) H; rw [e]; exact h⟩
theorem s_eqI {i j : Int} (h : Q (.bl (decide (i = j))) H) : rEqX K (.int i) (.int j) H Q := .inl ⟨rfl, by
  have e : decide (V.int i = V.int j) = decide (i = j) := by simp
  rw [e]; exact h⟩
theorem s_neI {i j : Int} (h : Q (.bl (!decide (i = j))) H) : rNeX K (.int i) (.int j) H Q := .inl ⟨rfl, by
  have e : decide (V.int i = V.int j) = decide (i = j) := by simp
  rw [e]; exact h⟩
theorem s_eqS {i j : Str} (h : Q (.bl (decide (i = j))) H) : rEqX K (.str i) (.str j) H Q := .inl ⟨rfl, by
  have e : decide (V.str i = V.str j) = decide (i = j) := by simp
  rw [e]; exact h⟩
theorem s_neS {i j : Str} (h : Q (.bl (!decide (i = j))) H) : rNeX K (.str i) (.str j) H Q := .inl ⟨rfl, by
  have e : decide (V.str i = V.str j) = decide (i = j) := by simp
  rw [e]; exact h⟩
theorem s_eqB {i j : Bool} (h : Q (.bl (decide (i = j))) H) : rEqX K (.bl i) (.bl j) H Q := .inl ⟨rfl, by
  have e : decide (V.bl i = V.bl j) = decide (i = j) := by simp
  rw [e]; exact h⟩
theorem s_neB {i j : Bool} (h : Q (.bl (!decide (i = j))) H) : rNeX K (.bl i) (.bl j) H Q := .inl ⟨rfl, by
  have e : decide (V.bl i = V.bl j) = decide (i = j) := by simp
  rw [e]; exact h⟩
theorem s_isN (h : Q (.bl (decide (v = .non))) H) : rIsX v .non H Q := .inl ⟨rfl, h⟩
theorem s_isNotN (h : Q (.bl (!decide (v = .non))) H) : rIsNotX v .non H Q := .inl ⟨rfl, h⟩
theorem s_isB {a b : Bool} (h : Q (.bl (decide (a = b))) H) : rIsX (.bl a) (.bl b) H Q := .inr ⟨a, b, rfl, rfl, h⟩
theorem s_isNotB {a b : Bool} (h : Q (.bl (!decide (a = b))) H) : rIsNotX (.bl a) (.bl b) H Q := .inr ⟨a, b, rfl, rfl, h⟩
theorem s_inT {p : Addr} {xs : List V} {b : Bool} {neg : Bool} (h1 : SqT K H p xs) (f1 : flatV v = true) (f2 : xs.all flatV = true) (e : (if neg then !inV v xs else inV v xs) = b) (h : Q (.bl b) H) : rInX K neg v (.ref p) H Q :=
  ⟨p, xs, rfl, .inr h1, f1, f2, by rw [e]; exact h⟩
theorem s_inL {p : Addr} {xs : List V} {b : Bool} {neg : Bool} (h1 : SqL K H p xs) (f1 : flatV v = true) (f2 : xs.all flatV = true) (e : (if neg then !inV v xs else inV v xs) = b) (h : Q (.bl b) H) : rInX K neg v (.ref p) H Q :=
  ⟨p, xs, rfl, .inl h1, f1, f2, by rw [e]; exact h⟩
theorem s_inT0 {p : Addr} {xs : List V} (h1 : SqT K H p xs) (f1 : flatV v = true) (f2 : xs.all flatV = true) (h : Q (.bl (inV v xs)) H) : rInX K false v (.ref p) H Q := ⟨p, xs, rfl, .inr h1, f1, f2, h⟩
theorem s_inL0 {p : Addr} {xs : List V} (h1 : SqL K H p xs) (f1 : flatV v = true) (f2 : xs.all flatV = true) (h : Q (.bl (inV v xs)) H) : rInX K false v (.ref p) H Q := ⟨p, xs, rfl, .inl h1, f1, f2, h⟩
theorem s_niT0 {p : Addr} {xs : List V} (h1 : SqT K H p xs) (f1 : flatV v = true) (f2 : xs.all flatV = true) (h : Q (.bl (!inV v xs)) H) : rInX K true v (.ref p) H Q := ⟨p, xs, rfl, .inr h1, f1, f2, h⟩
theorem s_niL0 {p : Addr} {xs : List V} (h1 : SqL K H p xs) (f1 : flatV v = true) (f2 : xs.all flatV = true) (h : Q (.bl (!inV v xs)) H) : rInX K true v (.ref p) H Q := ⟨p, xs, rfl, .inl h1, f1, f2, h⟩
theorem s_ixL {p : Addr} {xs : List V} {i : Int} (h1 : SqL K H p xs) (e : atI xs i = some v) (h : Q v H) : rIxX K (.ref p) (.int i) H Q := .inl ⟨p, xs, i, v, rfl, rfl, h1, e, h⟩
theorem s_ixT {p : Addr} {xs : List V} {i : Int} (h1 : SqT K H p xs) (e : atI xs i = some v) (h : Q v H) : rIxX K (.ref p) (.int i) H Q := .inr (.inl ⟨p, xs, i, v, rfl, rfl, h1, e, h⟩)
theorem s_ixS {z : Str} {i : Int} {c : Nat} (h1 : z.length ≤ sizeLine) (e : atI z.cps.toList i = some c) (h : Q (.str ⟨#[c]⟩) H) : rIxX K (.str z) (.int i) H Q := .inr (.inr ⟨z, i, c, rfl, rfl, h1, e, h⟩)
theorem atI_in {xs : List V} {i : Int} (h0 : 0 ≤ i) (h1 : i < xs.length) : atI xs i = some (xs.getD i.toNat .non) := Hsh.un (by simp (disch := k_dflt (
  refine Hsh.up ?_
  unfold atI ixN
  rw [if_pos h0, if_pos h1]
  show xs[i.toNat]? = _
  rw [List.getD_eq_getElem?_getD, List.getElem?_eq_getElem (by omega)]
  rfl
  )) only [↓Hsh.on])
theorem atI_ints {ns : List Int} {i : Int} (h0 : 0 ≤ i) (h1 : i < (ns.map V.int).length) : atI (ns.map V.int) i = some (.int (ns.getD i.toNat 0)) := Hsh.un (by simp (disch := k_dflt (
  refine Hsh.up ?_
  rw [List.length_map] at h1
  unfold atI ixN
  rw [if_pos h0, if_pos (by rw [List.length_map]; exact h1)]
  show (ns.map V.int)[i.toNat]? = _
  rw [List.getElem?_map, List.getD_eq_getElem?_getD, List.getElem?_eq_getElem (by omega)]
  rfl
  )) only [↓Hsh.on])
theorem atI_strs {zs : List Str} {i : Int} (h0 : 0 ≤ i) (h1 : i < (zs.map V.str).length) : atI (zs.map V.str) i = some (.str (zs.getD i.toNat "")) := Hsh.un (by simp (disch := k_dflt (
  refine Hsh.up ?_
  rw [List.length_map] at h1
  unfold atI ixN
  rw [if_pos h0, if_pos (by rw [List.length_map]; exact h1)]
  show (zs.map V.str)[i.toNat]? = _
  rw [List.getElem?_map, List.getD_eq_getElem?_getD, List.getElem?_eq_getElem (by omega)]
  rfl
  )) only [↓Hsh.on])
theorem atI_refs {rs : List Addr} {i : Int} (h0 : 0 ≤ i) (h1 : i < (rs.map V.ref).length) : atI (rs.map V.ref) i = some (.ref (rs.getD i.toNat 0)) := Hsh.un (by simp (disch := k_dflt (
  refine Hsh.up ?_
  rw [List.length_map] at h1
  unfold atI ixN
  rw [if_pos h0, if_pos (by rw [List.length_map]; exact h1)]
  show (rs.map V.ref)[i.toNat]? = _
  rw [List.getElem?_map, List.getD_eq_getElem?_getD, List.getElem?_eq_getElem (by omega)]
  rfl
  )) only [↓Hsh.on])
theorem getD_strs (l : List Str) (i : Nat) (h : i < l.length) : (l.map V.str).getD i .non = .str (l.getD i "") := by
  rw [List.getD_eq_getElem?_getD, List.getD_eq_getElem?_getD, List.getElem?_map, List.getElem?_eq_getElem h]
  rfl
theorem getD_ints (l : List Int) (i : Nat) (h : i < l.length) : (l.map V.int).getD i .non = .int (l.getD i 0) := by
  rw [List.getD_eq_getElem?_getD, List.getD_eq_getElem?_getD, List.getElem?_map, List.getElem?_eq_getElem h]
  rfl
theorem set_ints (l : List Int) (i : Nat) (a : Int) : (l.map V.int).set i (.int a) = (l.set i a).map V.int := by rw [List.map_set]
def toI : V → Int
  | .int i => i
  | _ => 0
def isI : V → Bool
  | .int _ => true
  | _ => false
theorem atI_ilit {xs : List V} {i : Int} (h0 : 0 ≤ i) (h1 : i < xs.length) (a : xs.all isI = true) : atI xs i = some (.int (toI (xs.getD i.toNat .non))) := Hsh.un (by simp (disch := k_dflt (
  refine Hsh.up ?_
  rw [atI_in h0 h1]
  have hm : xs.getD i.toNat .non ∈ xs := by
    rw [List.getD_eq_getElem?_getD, List.getElem?_eq_getElem (by omega)]
    exact List.getElem_mem _
  have := List.all_eq_true.mp a _ hm
  cases e : xs.getD i.toNat .non with
  | int j => rfl
  | _ => rw [e] at this; cases this
  )) only [↓Hsh.on])
theorem s_test (h : ta σ H fun x H' => ∃ k, x = .bl k ∧ R k H') : tTest ta σ H R := h
theorem s_tB (h : ta σ H fun x H' => ∃ k, x = .bl k ∧ R k H') : tB ta σ H R := h
theorem s_bl {b : Bool} {P : Bool → Prop} (h : P b) : ∃ k, V.bl b = .bl k ∧ P k := ⟨b, rfl, h⟩
theorem s_and (h : tc σ H fun c H1 => if c = true then td σ H1 R else R false H1) : tAnd tc td σ H R := h
theorem s_or (h : tc σ H fun c H1 => if c = true then R true H1 else td σ H1 R) : tOr tc td σ H R := h
theorem s_not (h : tc σ H fun c H1 => R (!c) H1) : tNot tc σ H R := h
theorem s_andV (h : ta σ H fun x H1 => ∃ c, x = .bl c ∧ if c = true then tb σ H1 Q else Q (.bl false) H1) : tAndV ta tb σ H Q := h
theorem s_orV (h : ta σ H fun x H1 => ∃ c, x = .bl c ∧ if c = true then Q (.bl true) H1 else tb σ H1 Q) : tOrV ta tb σ H Q := h
theorem s_notV (h : ta σ H fun x H1 => ∃ c, x = .bl c ∧ Q (.bl (!c)) H1) : tNotV ta σ H Q := h
theorem s_if (h : tc σ H fun c H1 => if c = true then ta σ H1 Q else tb σ H1 Q) : tIf tc ta tb σ H Q := h
theorem s_chain {r r' : R2} {te : TE} (h : ta σ H fun x H1 => tb σ H1 fun y H2 => r x y H2 fun z H3 => ∃ k, z = .bl k ∧ (if k = true then te σ H3 fun w' H4 => r' y w' H4 Q else Q (.bl false) H3)) : tChain r r' ta tb te σ H Q := h
theorem s_nil {S : List V → Hp → Prop} (h : S [] H) : tNil σ H S := h
theorem s_cons {S : List V → Hp → Prop} {tr : TA} (h : ta σ H fun x H1 => tr σ H1 fun xs H2 => S (x :: xs) H2) : tCons ta tr σ H S := h
theorem s_tup {tr : TA} (h : tr σ H fun xs H1 => newO (.tup xs) xs.length H1 Q) : tTup tr σ H Q := h
theorem s_lst {tr : TA} (h : tr σ H fun xs H1 => newO (.lst xs) xs.length H1 Q) : tLst tr σ H Q := h
theorem s_rep {l : Addr} {k : Int} {xs ys : List V} (h1 : H l = some (.lst xs)) (c : -(2 ^ 63) ≤ k ∧ k < 2 ^ 63) (c2 : xs.length * k.toNat ≤ sizeLine) (e : (List.replicate k.toNat xs).flatten = ys) (h : newO (.lst ys) 0 H Q) : rMulX K (.ref l) (.int k) H Q :=
  .inr (.inr (.inl ⟨l, k, xs, rfl, rfl, h1, c.1, c.2, c2, by rw [e]; exact h.2⟩))
theorem s_rep1 {l : Addr} {k : Int} {x : V} {n : Nat} (h1 : H l = some (.lst [x])) (c : 0 ≤ k ∧ k ≤ 16777216) (e : k.toNat = n) (h : newO (.lst (List.replicate n x)) 0 H Q) : rMulX K (.ref l) (.int k) H Q := Hsh.un (by simp (disch := k_dflt (
  refine Hsh.up ?_
  refine .inr (.inr (.inl ⟨l, k, [x], rfl, rfl, h1, by omega, by omega, ?_, ?_⟩))
  · rw [sizeLine_eq, List.length_singleton]
    omega
  · have q : (List.replicate k.toNat [x]).flatten = List.replicate n x := by
      rw [e]
      simp
    rw [q]
    exact h.2
  )) only [↓Hsh.on])
theorem s_cat {l b : Addr} {xs zs ys : List V} (h1 : H l = some (.lst xs)) (h2 : H b = some (.lst zs)) (c : xs.length + zs.length ≤ sizeLine) (e : xs ++ zs = ys) (h : newO (.lst ys) 0 H Q) : rAddX K (.ref l) (.ref b) H Q :=
  .inr (.inr (.inl ⟨l, b, xs, zs, rfl, rfl, h1, h2, c, by rw [e]; exact h.2⟩))
theorem s_listO {p : Addr} {ys : List V} (h1 : SqL K H p ys) (h : newO (.lst ys) 0 H Q) : rListX K [.ref p] H Q := ⟨p, ys, rfl, .inl h1, h.2⟩
theorem s_listT {p : Addr} {ys : List V} (h1 : SqT K H p ys) (h : newO (.lst ys) 0 H Q) : rListX K [.ref p] H Q := ⟨p, ys, rfl, .inr h1, h.2⟩
theorem s_tupL {p : Addr} {ys : List V} (h1 : SqL K H p ys) (h : newO (.tup ys) 0 H Q) : rTupX K [.ref p] H Q := ⟨p, ys, rfl, .inl ⟨h1, h.2⟩⟩
theorem s_tupT {p : Addr} {ys : List V} (h1 : SqT K H p ys) (h : Q (.ref p) H) : rTupX K [.ref p] H Q := ⟨p, ys, rfl, .inr ⟨h1, h⟩⟩
theorem s_slL {p : Addr} {xs ys : List V} {lo hi : Option Int} (h1 : SqL K H p xs) (e : cutV xs lo hi = ys) (h : newO (.lst ys) 0 H Q) : rSlX K (.ref p) lo hi H Q := .inl ⟨p, xs, rfl, h1, by rw [e]; exact h.2⟩
theorem s_CB {r : List V → Hp → VK → Prop} {tr : TA} (h : tr σ H fun vs H1 => r vs H1 Q) : tCB r tr σ H Q := h
theorem s_call {sp : Sp} {E : XK} {tr : TA} (h : tr σ H fun vs H1 => sp (vs ++ []) H1 Q E) : tCall sp [] E tr σ H Q := h
theorem s_int {i : Int} (h : Q (.int i) H) : rInt [.int i] H Q := .inl ⟨i, rfl, h⟩
theorem s_intB {b : Bool} (h : if b = true then Q (.int 1) H else Q (.int 0) H) : rInt [.bl b] H Q := .inr ⟨b, rfl, by cases b <;> exact h⟩
theorem s_abs {i : Int} (h : Q (.int (if i < 0 then -i else i)) H) : rAbs [.int i] H Q := ⟨i, rfl, h⟩
theorem s_max2 {i j : Int} (h : Q (.int (if j > i then j else i)) H) : rMax2 [.int i, .int j] H Q := ⟨i, j, rfl, h⟩
theorem s_min2 {i j : Int} (h : Q (.int (if j < i then j else i)) H) : rMin2 [.int i, .int j] H Q := ⟨i, j, rfl, h⟩
theorem s_lenL {p : Addr} {xs : List V} (h1 : SqL K H p xs) (h : Q (.int (xs.length : Nat)) H) : rLenX K [.ref p] H Q := ⟨_, _, rfl, .inl ⟨xs, h1, rfl⟩, h⟩
theorem s_lenT {p : Addr} {xs : List V} (h1 : SqT K H p xs) (h : Q (.int (xs.length : Nat)) H) : rLenX K [.ref p] H Q := ⟨_, _, rfl, .inr ⟨xs, h1, rfl⟩, h⟩
theorem s_sum {p : Addr} {ns : List Int} (h1 : SqL K H p (ns.map V.int)) (h : Q (.int ns.sum) H) : rSum K [.ref p] H Q := ⟨p, ns, rfl, h1, h⟩
theorem s_all {p : Addr} {bs : List Bool} (h1 : SqL K H p (bs.map V.bl)) (h : Q (.bl (bs.all id)) H) : rAll K [.ref p] H Q := ⟨p, bs, rfl, h1, h⟩
theorem s_any {p : Addr} {bs : List Bool} (h1 : SqL K H p (bs.map V.bl)) (h : Q (.bl (bs.any id)) H) : rAny K [.ref p] H Q := ⟨p, bs, rfl, h1, h⟩
theorem s_maxL2 {p : Addr} {i j : Int} (h1 : SqL K H p [.int i, .int j]) (h : Q (.int (if i ≤ j then j else i)) H) : rMax K [.ref p] H Q := ⟨p, [i, j], rfl, h1, Nat.succ_pos _, fun m hm hb => by
  have e : m = if i ≤ j then j else i := by
    have h1 := hb i (by simp)
    have h2 := hb j (by simp)
    rcases List.mem_cons.mp hm with rfl | hm
    · split <;> omega
    · rw [List.mem_singleton.mp hm] at h1 h2 ⊢
      split <;> omega
  rw [e]; exact h⟩
theorem s_minL2 {p : Addr} {i j : Int} (h1 : SqL K H p [.int i, .int j]) (h : Q (.int (if i ≤ j then i else j)) H) : rMin K [.ref p] H Q := ⟨p, [i, j], rfl, h1, Nat.succ_pos _, fun m hm hb => by
  have e : m = if i ≤ j then i else j := by
    have h1 := hb i (by simp)
    have h2 := hb j (by simp)
    rcases List.mem_cons.mp hm with rfl | hm
    · split <;> omega
    · rw [List.mem_singleton.mp hm] at h1 h2 ⊢
      split <;> omega
  rw [e]; exact h⟩
theorem s_isi {c : V} {ty un : Value} {b : Bool} (k : ClsV c un) (h1 : TyX K H v ty) (e : PySem.W.kitOne K ty un = some b) (h : Q (.bl b) H) : rIsiX K [v, c] H Q := .inl ⟨v, c, ty, un, b, rfl, k, h1, e, h⟩
theorem s_isT {a b : String} (h1 : TyX K H v (.type a)) (e : kitB a b = some true) (h : Q (.bl true) H) : rIsiX K [v, .ty b] H Q := .inl ⟨v, _, _, _, _, rfl, .ty b, h1, kit_ty e, h⟩
theorem s_isF {a b : String} (h1 : TyX K H v (.type a)) (e : kitB a b = some false) (h : Q (.bl false) H) : rIsiX K [v, .ty b] H Q := .inl ⟨v, _, _, _, _, rfl, .ty b, h1, kit_ty e, h⟩
theorem s_sl {te : TE} {tl th : TO} {r : V → Option Int → Option Int → Hp → VK → Prop} (h : te σ H fun x H1 => tl σ H1 fun l H2 => th σ H2 fun u H3 => r x l u H3 Q) : tSl r te tl th σ H Q := h
theorem s_part {te : TE} {P : Option Int → Hp → Prop} (h : te σ H fun x H1 => ∃ i, x = .int i ∧ P (some i) H1) : tPart te σ H P := h
theorem s_partI {i : Int} {P : Int → Prop} (h : P i) : ∃ j, V.int i = .int j ∧ P j := ⟨i, rfl, h⟩
theorem s_noPart {P : Option Int → Hp → Prop} (h : P none H) : tNoPart σ H P := h
-- statements
variable {n b c : L2.St → Hp → Prop} {r : VK}
theorem s_seq (h : t ⟨u ⟨n, r, b, c⟩, r, b, c⟩ σ H) : tSeq t u ⟨n, r, b, c⟩ σ H := h
theorem s_next (h : n σ H) : tNext ⟨n, r, b, c⟩ σ H := h
theorem s_break (h : b σ H) : tBreak ⟨n, r, b, c⟩ σ H := h
theorem s_cont (h : c σ H) : tCont ⟨n, r, b, c⟩ σ H := h
theorem s_drop (h : ta σ H fun _ H1 => n σ H1) : tDrop ta ⟨n, r, b, c⟩ σ H := h
theorem s_ret (h : ta σ H r) : tRet ta ⟨n, r, b, c⟩ σ H := h
theorem s_retN (h : r .non H) : tRetN ⟨n, r, b, c⟩ σ H := h
theorem s_ifS (h : tc σ H fun q H1 => if q = true then t ⟨n, r, b, c⟩ σ H1 else u ⟨n, r, b, c⟩ σ H1) : tIfS tc t u ⟨n, r, b, c⟩ σ H := h
theorem s_asg {g : TG} (h : ta σ H fun x H1 => g x σ H1 n) : tAsg ta g ⟨n, r, b, c⟩ σ H := h
theorem s_gname {i : Nat} {S : L2.St → Hp → Prop} (e : σ.set i (some v) = σ') (h : S σ' H) : gName i v σ H S := by
  show S (σ.set i (some v)) H
  rw [e]; exact h
theorem s_gsub {S : L2.St → Hp → Prop} {ts : TSet} (h : ta σ H fun o H1 => tb σ H1 fun i H2 => ts o i v H2 fun H3 => S σ H3) : gSub ta tb ts v σ H S := h
theorem s_fld {f : Str} (h : ta σ H fun x H1 => fldO K f x H1 Q) : tFld K ta f σ H Q := h
theorem s_sfld {f : Str} (h : tb σ H fun y H1 => ta σ H1 fun x H2 => sfldO K f y x H2 fun H3 => n σ H3) : sFld K ta tb f ⟨n, r, b, c⟩ σ H := h
end
/-- an attribute as a target -/
def gAttr (K : PySem.W.Frag) (to : TE) (f : Str) : TG := fun v σ H S => to σ H fun x H1 => sfldO K f v x H1 fun H2 => S σ H2
theorem pg_attr {X : Cx} {o : Expr} {f : Str} {pos : Pos} {to : TE} (ho : PE X o to) : PG X (.Attribute o f pos) (gAttr X.K to f) := Hsh.un (by simp (disch := k_dflt (
  refine Hsh.up ?_
  refine ⟨fun pins s σ H v u S I r h => ?_⟩
  rw [assign_Attribute]
  refine wpAny_bind (wpAny_holding (thn (ho.run pins s σ H _ I h) fun ov s1 ⟨x, H1, I1, r1, q1⟩ => ?_))
  obtain ⟨a, C, dx, fs, rfl, e, c, l, hl, q⟩ := q1
  obtain rfl : ov = .ref a := r1
  exact wpAny_bind (wpAny_standAt (wpAny_bind (wpAny_holding (setattr_ok I1 e c l hl r fun s2 I2 => wpAny_release ⟨σ, _, I2, q⟩))))
  )) only [↓Hsh.on])
/-- a built-in type's method, behind its object -/
def bm0O (K : PySem.W.Frag) (T : String) (r : V → List V → Hp → VK → Prop) (x : V) (H : Hp) (Q : VK) : Prop := tyV K T x H ∧ r x [] H Q
def bmO (K : PySem.W.Frag) (T : String) (r : V → List V → Hp → VK → Prop) (t : TA) (σ : L2.St) (x : V) (H : Hp) (Q : VK) : Prop := tyV K T x H ∧ t σ H fun xs H2 => r x xs H2 Q
section
variable {σ : L2.St} {H : Hp} {K : PySem.W.Frag} {to : TE} {Q : VK} {S : L2.St → Hp → Prop} {t : TA} {ts : TGs} {tg : TG} {v : V}
theorem s_gattr {f : Str} (h : to σ H fun x H1 => sfldO K f v x H1 fun H2 => S σ H2) : gAttr K to f v σ H S := h
theorem s_gtup {n : Nat} {a : Addr} {xs : List V} (h : SqT K H a xs) (l : xs.length = n) (q : ts xs σ H S) : gTup K n ts (.ref a) σ H S := ⟨a, xs, rfl, h, l, q⟩
theorem s_gcons {r : List V} (h : tg v σ H fun σ' H' => ts r σ' H' S) : gCons tg ts (v :: r) σ H S := ⟨v, r, rfl, h⟩
theorem s_gnil (h : S σ H) : gNil [] σ H S := ⟨rfl, h⟩
theorem s_bm0 {T : String} {r : V → List V → Hp → VK → Prop} (h : to σ H fun x H1 => bm0O K T r x H1 Q) : tBM0 K T r to σ H Q := h
theorem s_bm {T : String} {r : V → List V → Hp → VK → Prop} (h : to σ H fun x H1 => bmO K T r t σ x H1 Q) : tBM K T r to t σ H Q := h
theorem s_bmL {r : V → List V → Hp → VK → Prop} {l : Addr} {xs : List V} (h : SqL K H l xs) (q : t σ H fun xs H2 => r (.ref l) xs H2 Q) : bmO K "list" r t σ (.ref l) H Q := ⟨.inl ⟨rfl, _, h⟩, q⟩
theorem s_bmT {T : String} {r : V → List V → Hp → VK → Prop} {a : Addr} (h : ∃ o, K.lookup a = some o ∧ o.cls = .type "tuple" ∧ o.dict = none) (e : T = "tuple") (q : t σ H fun xs H2 => r (.ref a) xs H2 Q) : bmO K T r t σ (.ref a) H Q := ⟨.inr (.inl ⟨e, h⟩), q⟩
theorem s_bmS {r : V → List V → Hp → VK → Prop} {z : Str} (q : t σ H fun xs H2 => r (.str z) xs H2 Q) : bmO K "str" r t σ (.str z) H Q := ⟨rfl, q⟩
theorem s_methO {C a dx : Addr} {m : Str} {sp : Sp} {E : XK} {fs : List (Str × V)} (h : H a = some (.ins C dx fs)) (l : fs.lookup m = none) (q : t σ H fun vs H2 => sp (.ref a :: (vs ++ [])) H2 Q E) : methO C m sp E t σ (.ref a) H Q := ⟨a, dx, fs, rfl, h, l, q⟩
theorem s_propO {C a dx : Addr} {sp : Sp} {E : XK} {fs : List (Str × V)} (h : H a = some (.ins C dx fs)) (q : sp ([.ref a] ++ []) H Q E) : propO C sp E (.ref a) H Q := ⟨a, dx, fs, rfl, h, q⟩
theorem pf_set {f : Str} {fs fs' : List (Str × V)} (i : Nat) (h : putF f v fs = fs.set i (f, v)) (e : fs.set i (f, v) = fs') : putF f v fs = fs' := h.trans e
theorem pf_new {f : Str} {fs fs' : List (Str × V)} (h : putF f v fs = fs ++ [(f, v)]) (e : fs ++ [(f, v)] = fs') : putF f v fs = fs' := h.trans e
end
/-! ### what is done to the ledger -/
section
variable {A : List Addr} {H0 H : Hp} {L L' : List Cell} {Q : VK} {P : Hp → Prop} {v : V}
theorem h_new {o : HO} {n : Nat} (S : SH A H0 H L) (c : n ≤ sizeLine) (h : ∀ p H', SH A H0 H' ((p, o) :: L) → H p = none → Q (.ref p) H') : newO o n H Q := ⟨c, fun p hp => h p _ (S.new o hp) hp⟩
theorem h_fld {K : PySem.W.Frag} {a C dx : Addr} {fs : List (Str × V)} {f : Str} (S : SH A H0 H L) (h1 : H a = some (.ins C dx fs)) (cl : Cls K C) (na : NoAttr K C f) (e : fs.lookup f = some v) (h : Q v H) : fldO K f (.ref a) H Q := ⟨a, C, dx, fs, v, rfl, h1, cl, na, e, h⟩
theorem h_sfld {i : Nat} {K : PySem.W.Frag} {a C dx : Addr} {fs fs' : List (Str × V)} {f : Str} (S : SH A H0 H L) (h1 : L[i]? = some (a, .ins C dx fs)) (cl : Cls K C) (na : NoAttr K C f) (l : fs.length < 1000) (e : putF f v fs = fs') (eL : L.set i (a, .ins C dx fs') = L')
    (h : ∀ H', SH A H0 H' L' → P H') : sfldO K f v (.ref a) H P := ⟨a, C, dx, fs, rfl, S.get i h1, cl, na, l, by rw [e]; exact h _ (eL ▸ S.set i h1 rfl _)⟩
theorem h_upd {i : Nat} {a : Addr} {o o' : HO} (S : SH A H0 H L) (e : L[i]? = some (a, o)) (im : Imm o = false) (eL : L.set i (a, o') = L') (h : ∀ H', SH A H0 H' L' → P H') : P (upd H a o') := h _ (eL ▸ S.set i e im o')
theorem h_setL {i : Nat} {a : Addr} {xs ys : List V} {k : Int} {j : Nat} (S : SH A H0 H L) (e : L[i]? = some (a, .lst xs)) (ej : ixN xs.length k = some j) (ey : xs.set j v = ys) (eL : L.set i (a, .lst ys) = L')
    (h : ∀ H', SH A H0 H' L' → P H') : rSetL (.ref a) (.int k) v H P := ⟨a, xs, k, j, rfl, rfl, S.get i e, ej, by rw [ey]; exact h _ (eL ▸ S.set i e rfl _)⟩
theorem h_append {i : Nat} {a : Addr} {xs ys : List V} (S : SH A H0 H L) (e : L[i]? = some (a, .lst xs)) (c : xs.length < sizeLine) (ey : xs ++ [v] = ys) (eL : L.set i (a, .lst ys) = L')
    (h : ∀ H', SH A H0 H' L' → Q .non H') : rAppend (.ref a) [v] H Q := ⟨a, xs, v, rfl, rfl, S.get i e, c, by rw [ey]; exact h _ (eL ▸ S.set i e rfl _)⟩
theorem h_pop {i : Nat} {K : PySem.W.Frag} {a : Addr} {xs ys : List V} (S : SH A H0 H L) (e : L[i]? = some (a, .lst xs)) (ev : xs[xs.length - 1]? = some v) (ey : xs.dropLast = ys) (eL : L.set i (a, .lst ys) = L')
    (h : ∀ H', SH A H0 H' L' → Q v H') : bm0O K "list" rPop (.ref a) H Q := ⟨.inl ⟨rfl, _, SqL.of (S.get i e)⟩, a, xs, v, rfl, rfl, S.get i e, ev, by rw [ey]; exact h _ (eL ▸ S.set i e rfl _)⟩
theorem h_make {C : Addr} {sp : Sp} {E : XK} {vs : List V} (S : SH A H0 H L) (h : ∀ x dx H1, SH A H0 H1 ((x, .ins C dx []) :: L) → sp (.ref x :: (vs ++ [])) H1 (fun v H2 => v = .non ∧ Q (.ref x) H2) E) : makeO C sp E vs H Q := fun x dx hx hd ne => by
  have S1 := S.new (.own x) hd
  have S2 := S1.new (p := x) (.ins C dx []) (by rw [upd_ne (Ne.symm ne)]; exact hx)
  exact h x dx _ (S2.sub (List.Sublist.cons_cons _ (List.sublist_cons_self _ _)))
theorem atI_lit {xs : List V} {i : Int} {w : V} (k : Nat) (e : i = (k : Int)) (h : xs[k]? = some w) : atI xs i = some w := by
  subst e
  exact atI_nat h
theorem last_snoc (l : List V) (v : V) : (l ++ [v])[(l ++ [v]).length - 1]? = some v := by simp
theorem ixN_in {n : Nat} {i : Int} (h0 : 0 ≤ i) (h1 : i < n) : ixN n i = some i.toNat := by
  unfold ixN
  rw [if_pos h0, if_pos h1]
theorem ixN_lit {n : Nat} {i : Int} (k : Nat) (e : i = (k : Int)) (h : k < n) : ixN n i = some k := Hsh.un (by simp (disch := k_dflt (
  refine Hsh.up ?_
  subst e
  rw [ixN_in (by omega) (by omega)]
  rfl
  )) only [↓Hsh.on])
end
/-! ### loops -/
def loopI (J : It) (g : TG) (tb : TS) (D : Ends) (σ : L2.St) (H : Hp) : Prop := ∃ W : Nat → Nat → L2.St → Hp → Prop, (∃ m, W 0 m σ H) ∧ ∀ i m σ H, W i m σ H →
  (J.stop i H ∧ D.nx σ H) ∨ (J.go i H ∧ ∃ N : L2.St → Hp → Prop, (∀ σ' H', N σ' H' → ∃ m', m' < m ∧ W (i + 1) m' σ' H') ∧ ∀ x H', J.yld i H x H' → g x σ H' fun σ2 H2 => tb { D with nx := N, ct := N, bk := D.nx } σ2 H2)
def forR1 (vs : List V) (g : TG) (tb : TS) (D : Ends) (σ : L2.St) (H : Hp) : Prop := ∃ j : Int, vs = [.int j] ∧ -(2 ^ 62) ≤ j ∧ j < 2 ^ 62 ∧ loopI (Itr 0 j.toNat) g tb D σ H
def forR2 (vs : List V) (g : TG) (tb : TS) (D : Ends) (σ : L2.St) (H : Hp) : Prop := ∃ i j : Int, vs = [.int i, .int j] ∧ (-(2 ^ 62) ≤ i ∧ i < 2 ^ 62 ∧ -(2 ^ 62) ≤ j ∧ j < 2 ^ 62) ∧ loopI (Itr i (j - i).toNat) g tb D σ H
def forL (K : PySem.W.Frag) (v : V) (g : TG) (tb : TS) (D : Ends) (σ : L2.St) (H : Hp) : Prop := ∃ a, v = .ref a ∧ (∃ xs, SqL K H a xs) ∧ loopI (Itl K a) g tb D σ H
def forT (K : PySem.W.Frag) (v : V) (g : TG) (tb : TS) (D : Ends) (σ : L2.St) (H : Hp) : Prop := ∃ a, v = .ref a ∧ (∃ xs, SqT K H a xs) ∧ loopI (Itt K a) g tb D σ H
section
variable {σ : L2.St} {H : Hp} {K : PySem.W.Frag} {g : TG} {tb : TS} {ta : TA} {te : TE} {D : Ends} {n b c : L2.St → Hp → Prop} {r : VK}
theorem s_forR1 (h : ta σ H fun vs H1 => forR1 vs g tb D σ H1) : tFor (iRng1 ta) g tb D σ H := h
theorem s_forR2 (h : ta σ H fun vs H1 => forR2 vs g tb D σ H1) : tFor (iRng2 ta) g tb D σ H := h
theorem s_forL (h : te σ H fun v H1 => forL K v g tb D σ H1) : tFor (iList K te) g tb D σ H := h
theorem s_forT (h : te σ H fun v H1 => forT K v g tb D σ H1) : tFor (iTup K te) g tb D σ H := h
/-- for i in range(j), an invariant over the turn -/
theorem u_forR1 {j : Int} (Pv : Nat → L2.St → Hp → Prop) (lo : -(2 ^ 62) ≤ j) (hi : j < 2 ^ 62) (h0 : Pv 0 σ H)
    (hs : ∀ (i : Nat) σ H, (i : Int) < j → Pv i σ H → g (.int i) σ H fun σ2 H2 => tb ⟨Pv (i + 1), r, n, Pv (i + 1)⟩ σ2 H2) (hd : ∀ σ H, Pv j.toNat σ H → n σ H) : forR1 [.int j] g tb ⟨n, r, b, c⟩ σ H := Hsh.un (by simp (disch := k_dflt (
  refine Hsh.up ?_
  refine ⟨j, rfl, lo, hi, ?_⟩
  refine for_range Pv h0 (fun i σ H hi p => ?_) hd
  rw [show (0 : Int) + (i : Int) = (i : Int) by omega]
  exact hs i σ H (by omega) p
  )) only [↓Hsh.on])
theorem u_forR2 {l j : Int} (Pv : Nat → L2.St → Hp → Prop) (hb : -(2 ^ 62) ≤ l ∧ l < 2 ^ 62 ∧ -(2 ^ 62) ≤ j ∧ j < 2 ^ 62) (h0 : Pv 0 σ H)
    (hs : ∀ (i : Nat) σ H, l + (i : Int) < j → Pv i σ H → g (.int (l + i)) σ H fun σ2 H2 => tb ⟨Pv (i + 1), r, n, Pv (i + 1)⟩ σ2 H2) (hd : ∀ σ H, Pv (j - l).toNat σ H → n σ H) : forR2 [.int l, .int j] g tb ⟨n, r, b, c⟩ σ H := Hsh.un (by simp (disch := k_dflt (
  refine Hsh.up ?_
  refine ⟨l, j, rfl, hb, ?_⟩
  refine for_range Pv h0 (fun i σ H hi p => ?_) hd
  exact hs i σ H (by omega) p
  )) only [↓Hsh.on])
/-- for x in a list that stays as it is -/
theorem u_forL {a : Addr} {xs : List V} (Pv : Nat → L2.St → Hp → Prop) (h : SqL K H a xs) (h0 : Pv 0 σ H) (hl : ∀ i σ H, i ≤ xs.length → Pv i σ H → SqL K H a xs)
    (hs : ∀ (i : Nat) (x : V) σ H, xs[i]? = some x → Pv i σ H → g x σ H fun σ2 H2 => tb ⟨Pv (i + 1), r, n, Pv (i + 1)⟩ σ2 H2) (hd : ∀ σ H, Pv xs.length σ H → n σ H) : forL K (.ref a) g tb ⟨n, r, b, c⟩ σ H :=
  ⟨a, rfl, ⟨xs, h⟩, for_list Pv h0 hl (fun i x σ H e p => hs i x σ H e p) hd⟩
end
/-! ### comprehensions -/
/-! within a comprehension's block: the fragment said by its name -/
theorem OpR.k {X : Cx} {K : PySem.W.Frag} {f : Value → Value → Sem Value} {r : PySem.W.Frag → R2} (h : OpR X f (r X.K)) (e : X.K = K) : OpR X f (r K) := e ▸ h
theorem IxR.k {X : Cx} {K : PySem.W.Frag} {r : PySem.W.Frag → R2} (h : IxR X (r X.K)) (e : X.K = K) : IxR X (r K) := e ▸ h
theorem SlR.k {X : Cx} {K : PySem.W.Frag} {r : PySem.W.Frag → V → Option Int → Option Int → Hp → VK → Prop} (h : SlR X (r X.K)) (e : X.K = K) : SlR X (r K) := e ▸ h
theorem CallR.k {X : Cx} {K : PySem.W.Frag} {f : Value} {r : PySem.W.Frag → List V → Hp → VK → Prop} (h : CallR X f (r X.K)) (e : X.K = K) : CallR X f (r K) := e ▸ h
theorem PE.k {X : Cx} {K : PySem.W.Frag} {e : Expr} {t : PySem.W.Frag → TE} (h : PE X e (t X.K)) (q : X.K = K) : PE X e (t K) := q ▸ h
def lcR1 (i : Nat) (vs : List V) (te : TE) (σ : L2.St) (H : Hp) (Q : VK) : Prop := ∃ j : Int, vs = [.int j] ∧ -(2 ^ 62) ≤ j ∧ j < 2 ^ 62 ∧ tLc (fun _ H k => k (Itr 0 j.toNat) H) (gName i) tYes te [i] σ H Q
def lcL (K : PySem.W.Frag) (i : Nat) (v : V) (te : TE) (σ : L2.St) (H : Hp) (Q : VK) : Prop := ∃ a, v = .ref a ∧ (∃ xs, SqL K H a xs) ∧ tLc (fun _ H k => k (Itl K a) H) (gName i) tYes te [i] σ H Q
/-- an item is put behind the made ones -/
def lcEnd (D : Addr) (P : Hp → Prop) : VK := fun y H => ∃ acc, H D = some (.lst acc) ∧ acc.length < sizeLine ∧ P (upd H D (.lst (acc ++ [y])))
theorem wipe_one (σ : L2.St) (i : Nat) (x : Option V) : wipe ((wipe σ [i]).set i x) [i] = wipe σ [i] := by
  show ((σ.set i none).set i x).set i none = σ.set i none
  rw [List.set_set, List.set_set]
section
variable {A : List Addr} {H0 H : Hp} {L L' : List Cell} {Q : VK} {P : Hp → Prop} {v : V} {σ : L2.St} {K : PySem.W.Frag} {te : TE} {ta : TA} {tb : TE}
theorem s_lcR1 {n : Str} {i : Nat} (h : ta σ H fun vs H1 => lcR1 i vs te σ H1 Q) : tLc (iRng1 ta) (gName i) tYes te ([(n, i)].map (·.2)) σ H Q := h
theorem s_lcL {n : Str} {i : Nat} (h : tb σ H fun v H1 => lcL K i v te σ H1 Q) : tLc (iList K tb) (gName i) tYes te ([(n, i)].map (·.2)) σ H Q := h
theorem h_lcEnd {i : Nat} {a : Addr} {xs ys : List V} (S : SH A H0 H L) (e : L[i]? = some (a, .lst xs)) (c : xs.length < sizeLine) (ey : xs ++ [v] = ys) (eL : L.set i (a, .lst ys) = L')
    (h : ∀ H', SH A H0 H' L' → P H') : lcEnd a P v H := ⟨xs, S.get i e, c, by rw [ey]; exact h _ (eL ▸ S.set i e rfl _)⟩
/-- a comprehension over a list, any target, any test -/
def lcLG (K : PySem.W.Frag) (vs : List Nat) (g : TG) (tt : TT) (v : V) (te : TE) (σ : L2.St) (H : Hp) (Q : VK) : Prop := ∃ a, v = .ref a ∧ (∃ xs, SqL K H a xs) ∧ tLc (fun _ H k => k (Itl K a) H) g tt te vs σ H Q
theorem s_lcLG {g : TG} {tt : TT} {vs : List Nat} (h : tb σ H fun v H1 => lcLG K vs g tt v te σ H1 Q) : tLc (iList K tb) g tt te vs σ H Q := h
theorem u_lcLG {g : TG} {tt : TT} {vs : List Nat} {a : Addr} {xs : List V} (hS : SH A H0 H L) (Pv : Addr → Nat → Hp → Prop) (h : SqL K H a xs) (h0 : ∀ D H', SH A H0 H' ((D, .lst []) :: L) → Pv D 0 H') (hl : ∀ D k H, k ≤ xs.length → Pv D k H → SqL K H a xs)
    (hs : ∀ D (k : Nat) x H, xs[k]? = some x → Pv D k H → g x (wipe σ vs) H fun σ2 H2 => wipe σ2 vs = wipe σ vs ∧ tt σ2 H2 fun b H3 => if b = true then te σ2 H3 (lcEnd D (Pv D (k + 1))) else Pv D (k + 1) H3) (hd : ∀ D H, Pv D xs.length H → Q (.ref D) H) : lcLG K vs g tt (.ref a) te σ H Q :=
  ⟨a, rfl, ⟨xs, h⟩, fun D hD => lc_list (Pv D) (h0 D _ (hS.new _ hD)) (hl D) (fun k x H hk p => hs D k x H hk p) (fun H p => hd D H p)⟩
theorem s_wipe {σ2 : L2.St} {vs : List Nat} {P : Prop} (e : wipe σ2 vs = wipe σ vs) (h : P) : wipe σ2 vs = wipe σ vs ∧ P := ⟨e, h⟩
theorem s_tYes {P : Bool → Hp → Prop} (h : P true H) : tYes σ H P := h
theorem u_lcR1 {i : Nat} {j : Int} (hS : SH A H0 H L) (Pv : Addr → Nat → Hp → Prop) (lo : -(2 ^ 62) ≤ j) (hi : j < 2 ^ 62) (h0 : ∀ D H', SH A H0 H' ((D, .lst []) :: L) → Pv D 0 H')
    (hs : ∀ D (k : Nat) H, (k : Int) < j → Pv D k H → te (σ.set i (some (.int k))) H (lcEnd D (Pv D (k + 1)))) (hd : ∀ D H, Pv D j.toNat H → Q (.ref D) H) : lcR1 i [.int j] te σ H Q := Hsh.un (by simp (disch := k_dflt (
  refine Hsh.up ?_
  refine ⟨j, rfl, lo, hi, fun D hD => ?_⟩
  refine lc_range (Pv D) (h0 D _ (hS.new _ hD)) (fun k H hk p => ?_) (fun H p => hd D H p)
  rw [show (0 : Int) + (k : Int) = (k : Int) by omega]
  have h := hs D k H (by omega) p
  refine ⟨wipe_one _ _ _, ?_⟩
  show if true = true then te ((σ.set i none).set i _) H (lcEnd D (Pv D (k + 1))) else Pv D (k + 1) H
  rw [if_pos rfl, List.set_set]
  exact h
  )) only [↓Hsh.on])
theorem u_lcL {i : Nat} {a : Addr} {xs : List V} (hS : SH A H0 H L) (Pv : Addr → Nat → Hp → Prop) (h : SqL K H a xs) (h0 : ∀ D H', SH A H0 H' ((D, .lst []) :: L) → Pv D 0 H') (hl : ∀ D k H, k ≤ xs.length → Pv D k H → SqL K H a xs)
    (hs : ∀ D (k : Nat) x H, xs[k]? = some x → Pv D k H → te (σ.set i (some x)) H (lcEnd D (Pv D (k + 1)))) (hd : ∀ D H, Pv D xs.length H → Q (.ref D) H) : lcL K i (.ref a) te σ H Q := Hsh.un (by simp (disch := k_dflt (
  refine Hsh.up ?_
  refine ⟨a, rfl, ⟨xs, h⟩, fun D hD => ?_⟩
  refine lc_list (Pv D) (h0 D _ (hS.new _ hD)) (hl D) (fun k x H hk p => ?_) (fun H p => hd D H p)
  have h := hs D k x H hk p
  refine ⟨wipe_one _ _ _, ?_⟩
  show if true = true then te ((σ.set i none).set i _) H (lcEnd D (Pv D (k + 1))) else Pv D (k + 1) H
  rw [if_pos rfl, List.set_set]
  exact h
  )) only [↓Hsh.on])
end
/-! ### a word between a statement and the rest -/
def cutG (t u : TS) : TS := fun E σ H => ∃ M : L2.St → Hp → Prop, (∀ σ2 H2, M σ2 H2 → u E σ2 H2) ∧ t ⟨M, E.rt, E.bk, E.ct⟩ σ H
theorem pss_cutG {X : Cx} {st : Stmt} {sts : List Stmt} {t u : TS} (a : PS X st t) (b : PSs X sts u) : PSs X (st :: sts) (cutG t u) :=
  ⟨fun pins s σ H E J ⟨M, hu, ht⟩ => wpAny_execs_cons (thn (a.run pins s σ H ⟨M, E.rt, E.bk, E.ct⟩ J ht) fun f s1 q => by
    cases f with
    | next => exact let ⟨σ2, H2, J2, z⟩ := q; b.run pins s1 σ2 H2 E J2 (hu σ2 H2 z)
    | ret _ => exact q
    | brk => exact q
    | cont => exact q)⟩
theorem s_cutG {t u : TS} {n b c : L2.St → Hp → Prop} {r : VK} {σ : L2.St} {H : Hp} (M : L2.St → Hp → Prop) (h : t ⟨M, r, b, c⟩ σ H) (h2 : ∀ σ2 H2, M σ2 H2 → u ⟨n, r, b, c⟩ σ2 H2) : cutG t u ⟨n, r, b, c⟩ σ H := ⟨M, h2, h⟩
/-! ### tests decided -/
section
variable {A B : Prop}
theorem i_dec {p : Prop} [Decidable p] (h1 : p → A) (h2 : ¬ p → B) : if decide p = true then A else B := Hsh.un (by simp (disch := k_dflt (
  refine Hsh.up ?_
  by_cases h : p
  · rw [if_pos (decide_eq_true h)]; exact h1 h
  · rw [if_neg (by rw [decide_eq_false h]; exact Bool.false_ne_true)]; exact h2 h
  )) only [↓Hsh.on])
theorem i_not {x : Bool} (h : if x = true then B else A) : if (!x) = true then A else B := Hsh.un (by simp (disch := k_dflt (
  refine Hsh.up ?_
  cases x
  · exact h
  · exact h
  )) only [↓Hsh.on])
theorem i_gen {x : Bool} (h1 : x = true → A) (h2 : x = false → B) : if x = true then A else B := Hsh.un (by simp (disch := k_dflt (
  refine Hsh.up ?_
  cases x
  · exact h2 rfl
  · exact h1 rfl
  )) only [↓Hsh.on])
theorem i_pos {x : Bool} (e : x = true) (h : A) : if x = true then A else B := by rw [if_pos e]; exact h
theorem i_neg {x : Bool} (e : x = false) (h : B) : if x = true then A else B := by rw [if_neg (by rw [e]; exact Bool.false_ne_true)]; exact h
end
end Q

set_option Elab.async false
set_option linter.all false
set_option maxRecDepth 100000
set_option maxHeartbeats 4000000
/-! Errors: one rule for every try (several clauses, with or without a name, one class or two, an else), what classes of errors tell. -/
namespace Q
open PySem PySem.Spec PyProof.Rows L2
/-- the test of an except clause: f tells the answer from the error's class -/
def Tst (X : Cx) (t : Expr) (f : Value → Option Bool) : Prop :=
  ∀ (a : Addr) (pn : List (Addr × Obj)) (σ : L2.St) (H : Hp) (s : Shared) (cls : Value) (b : Bool) (Q : Bool → Shared → Prop) (E : Value → Shared → Prop),
    Inv (X.suite a pn) [] σ H s → PySem.W.Looks (model X.prog X.w) s.heap (typeOf (.ref a)) cls → f cls = some b →
    (∀ h', (∀ q o, s.heap.get? q = some o → h'.get? q = some o) → Q b { s with heap := h' }) →
    wpAny (model X.prog X.w) (X.A.mark (some (.ref a))) (eval t X.env) (fun c s1 => wpAny (model X.prog X.w) (X.A.mark (some (.ref a))) (excMatches (.ref a) c) Q E s1) E s
theorem ld_names {X : Cx} {x : Str} {c : Value} {np : Pos} {a : Addr} {pn : List (Addr × Obj)} {σ : L2.St} {H : Hp} {s : Shared} {Q : Value → Shared → Prop} {E : Value → Shared → Prop} (hc : Names X x c) (I : Inv (X.suite a pn) [] σ H s) (q : Q c s) :
    wpAny (model X.prog X.w) (X.A.mark (some (.ref a))) (eval (.Name x np) X.env) Q E s := Hsh.un (by simp (disch := k_dflt (
  refine Hsh.up ?_
  obtain ⟨hg, hd, hm | ⟨hm, hv, hn⟩⟩ := hc
  · exact ld_glob (X := X.suite a pn) I hg hm q hd
  · exact ld_blt (X := X.suite a pn) I hg hm hv q hn hd
  )) only [↓Hsh.on])
theorem tst1 {X : Cx} {x : Str} {c : Value} {np : Pos} (hc : Names X x c) : Tst X (.Name x np) (fun cls => PySem.W.exmOne X.K cls c) := by
  intro a pn σ H s cls b Q E I LT e k
  exact ld_names hc I ((PySem.W.exm_one (M := model X.prog X.w) I.kIn LT e).here (k _ fun _ _ z => z))
theorem tst2 {X : Cx} {x y : Str} {c d : Value} {np mp tp : Pos} {kk : Nat} (hc : Names X x c) (hd : Names X y d) : Tst X (.Tuple [.Name x np, .Name y mp] kk tp) (fun cls => PySem.W.exmAny X.K cls [c, d]) := Hsh.un (by simp (disch := k_dflt (
  refine Hsh.up ?_
  intro a pn σ H s cls b Q E I LT e k
  refine wpAny_Tuple ?_
  refine wpAny_items_cons (ld_names hc I ?_)
  refine wpAny_items_cons (ld_names hd I ?_)
  refine wpAny_items_nil ⟨by size_fits, ?_⟩
  have kp : ∀ q o, s.heap.get? q = some o → (s.heap.push { cls := .type "tuple", data := .seq [c, d].toArray }).get? q = some o := fun _ _ z => Heap.get?_push_of_some _ z
  exact (PySem.W.exm_tup2 (PySem.W.Frag.In.keeps I.kIn kp) (LT.keeps kp) (Heap.get?_push_size s.heap rfl) e).here (k _ kp)
  )) only [↓Hsh.on])
abbrev Cl := (Value → Option Bool) × Option Nat × (Addr → Value → Option Addr → TS)
/-- the clauses of a try -/
inductive HdsG (X : Cx) : List ExceptHandler → List Cl → Prop
  | nil : HdsG X [] []
  | one {t : Expr} {f : Value → Option Bool} {ts : Addr → Value → Option Addr → TS} {b₀ : Stmt} {suite : List Stmt} {p : Pos} {hds : List ExceptHandler} {l : List Cl} (ht : Tst X t f)
      (hsu : ∀ (a : Addr) (oe : Obj) (cls : Value) (d : Option Addr) (pn : List (Addr × Obj)), Zc cls d oe → (∃ vs, oe.data = .fields vs) → PSs (X.suite a ((a, oe) :: pn)) (b₀ :: suite) (ts a cls d)) (r : HdsG X hds l) :
      HdsG X (.ExceptHandler (some t) none (b₀ :: suite) p :: hds) ((f, none, ts) :: l)
  | als {t : Expr} {n : Str} {i : Nat} {f : Value → Option Bool} {ts : Addr → Value → Option Addr → TS} {b₀ : Stmt} {suite : List Stmt} {p : Pos} {hds : List ExceptHandler} {l : List Cl} (hi : X.N[i]? = some n) (hln : X.env.kindOf n = some .local) (ht : Tst X t f)
      (hsu : ∀ (a : Addr) (oe : Obj) (cls : Value) (d : Option Addr) (pn : List (Addr × Obj)), Zc cls d oe → (∃ vs, oe.data = .fields vs) → PSs (X.suite a ((a, oe) :: pn)) (b₀ :: suite) (ts a cls d)) (r : HdsG X hds l) :
      HdsG X (.ExceptHandler (some t) (some n) (b₀ :: suite) p :: hds) ((f, some i, ts) :: l)
/-- the ends of a suite: the name of the clause goes -/
def endsG (D : Ends) : Option Nat → Ends
  | none => D
  | some i => { nx := fun σ H => D.nx (σ.set i none) H, rt := D.rt, bk := fun σ H => D.bk (σ.set i none) H, ct := fun σ H => D.ct (σ.set i none) H }
def setG (σ : L2.St) (a : Addr) : Option Nat → L2.St
  | none => σ
  | some i => σ.set i (some (.ref a))
/-- what the clauses wish of an error of the body -/
def wG (Wout : WX) (D : Ends) : List Cl → WX
  | [] => Wout
  | (f, oi, ts) :: r => fun cls d σ H => ∃ b, f cls = some b ∧ (b = true → ∀ a, H a = none → ts a cls d (endsG D oi) (setG σ a oi) H) ∧ (b = false → wG Wout D r cls d σ H)
def tTryG (tb : WX → TS) (Wout : WX) (l : List Cl) (u : TS) : TS := fun D σ H => tb (wG Wout D l) { D with nx := u D } σ H
def tRaiseG (W : WX) (D : Addr) : TS := fun _ σ H => W (.ref D) none σ H
theorem flying_keeps {B : Heap} {l : List Env} {a : Addr} {Z : Obj → Prop} {h h' : Heap} (f : HandSPX.FlyingZ B l a Z h) (k : ∀ q o, h.get? q = some o → h'.get? q = some o) : HandSPX.FlyingZ B l a Z h' := by
  obtain ⟨k1, k2, k3, oe, vs, T, oT, ts, he, hz, hd, h1, hn, ne, hT, hdT, h3⟩ := f
  exact ⟨fun b o e => k b o (k1 b o e), k2, k3.of_keeps fun b o e _ => ⟨o, k b o e, rfl⟩, oe, vs, T, oT, ts, k _ _ he, hz, hd, h1, hn, ne, k _ _ hT, hdT, h3⟩
section
variable {X : Cx} {body orelse : List Stmt} {h₀ : ExceptHandler} {hds : List ExceptHandler} {l : List Cl} {pos : Pos} {tb : WX → TS} {u : TS} {Wout : WX}
theorem ps_tryG (hs : X.stack = X.env :: X.outer) (hf : X.env.frame = some X.env.locals) (hN : X.N.Nodup) (tk : Takes X Wout)
    (hb : ∀ (W : WX) (pn : List (Addr × Obj)) (xe : Value → Shared → Prop), Takes (X.tr pn xe) W → PassesOwn (model X.prog X.w) X.A X.env xe → PSs (X.tr pn xe) body (tb W))
    (hh : HdsG X (h₀ :: hds) l) (ho : PSs X orelse u) : PS X (.Try body (h₀ :: hds) orelse [] pos) (tTryG tb Wout l u) := Hsh.un (by simp (disch := k_dflt (
  refine Hsh.up ?_
  refine ⟨fun pins s σ H D I h => ?_⟩
  have ok := I.ok
  have hfr : X.A.frames = some (X.env :: X.outer) := by rw [ok.frames, hs]
  refine wpAny_Try_except ?_
  have body_ok := (hb (wG Wout D l) (X.pn ++ pins) (fun e s₁ => wpAny (model X.prog X.w) X.A (noteFrame e X.env) (fun _ s₂ => wpAny (model X.prog X.w) X.A (setFlight e none) (fun _ s₃ =>
    wpAny (model X.prog X.w) X.A (handleBy e X.env (h₀ :: hds)) (SP X pins D) X.xe s₃) X.xe s₂) X.xe s₁) (fun v s' xx => ?_) PassesOwn.looking).run [] s σ H { D with nx := u D } (I.toTry _) h
  · refine wpAny_mono body_ok (fun f s1 hsp => ?_) (fun e s1 he => he)
    cases f with
    | next =>
      obtain ⟨σ', H', J', q⟩ := hsp
      exact ho.run pins s1 σ' H' D (J'.ofTry ok) q
    | brk =>
      obtain ⟨σ', H', J', q⟩ := hsp
      exact ⟨σ', H', J'.ofTry ok, q⟩
    | cont =>
      obtain ⟨σ', H', J', q⟩ := hsp
      exact ⟨σ', H', J'.ofTry ok, q⟩
    | ret z =>
      obtain ⟨v, σ', H', J', r, q⟩ := hsp
      exact ⟨v, σ', H', J'.ofTry ok, r, q⟩
  · obtain ⟨a, B, sI, pins', σ', H', cls, d, rfl, J', nb, up, sky, na, os, ag, w⟩ := xx
    have J : Inv X pins σ' H' sI := J'.ofTry ok
    show wpAny (model X.prog X.w) X.A (noteFrame (.ref a) X.env) _ _ _
    refine Sky.land Zc.steady hfr hf (by rw [← hs]; exact sky) fun h3 fl3 up3 => ?_
    -- what the landed error tells at any heap
    have facts : ∀ h, HandSPX.FlyingZ B (X.env :: X.outer) a (Zc cls d) h → s'.heap.UpToSlots h → Inv X pins σ' H' { s' with heap := h } ∧ ∃ oe vs, h.get? a = some oe ∧ Zc cls d oe ∧ oe.data = .fields vs ∧ Inv (X.suite a ((a, oe) :: (X.pn ++ pins))) [] σ' H' { s' with heap := h } := fun h fl uph => by
      have Jh : Inv X pins σ' H' { s' with heap := h } := J.landed nb fl.1 (up.trans uph) os ag
      obtain ⟨oe, vs, he, hz, hd⟩ := fl.there
      have nfr : a ∉ frs (X.env :: X.outer) := fun hm => by
        obtain ⟨_, o', e', hnf⟩ := fl.2.2.1.mem hm
        rw [he] at e'
        cases e'
        exact hnf _ hd
      have nL : a ≠ X.env.locals := fun z => nfr (List.mem_filterMap.mpr ⟨X.env, List.mem_cons_self, by rw [hf, z]⟩)
      have nF : a ∉ X.fs := fun hm => by
        obtain ⟨e, he, q⟩ := List.mem_filterMap.mp hm
        exact nfr (List.mem_filterMap.mpr ⟨e, List.mem_cons_of_mem _ he, q⟩)
      exact ⟨Jh, oe, vs, he, hz, hd, Jh.suite he hd na nL nF⟩
    have looks : ∀ {h : Heap} {oe : Obj}, h.get? a = some oe → Zc cls d oe → PySem.W.Looks (model X.prog X.w) h (typeOf (.ref a)) cls := fun {h oe} he hz A Q E s k q => wpAny_typeOf_ref (k _ _ he) (by rw [hz.1]; exact q)
    have go : ∀ {hds' : List ExceptHandler} {l' : List Cl}, HdsG X hds' l' → wG Wout D l' cls d σ' H' → ∀ h, HandSPX.FlyingZ B (X.env :: X.outer) a (Zc cls d) h → s'.heap.UpToSlots h →
        wpAny (model X.prog X.w) X.A (handleBy (.ref a) X.env hds') (SP X pins D) X.xe { s' with heap := h } := by
      intro hds' l' hk
      induction hk with
      | nil =>
        intro w h fl uph
        refine wpAny_handleBy_nil ?_
        obtain ⟨_, _, _, oe, vs, T, oT, ts', he, hz, hd, h1, _⟩ := id fl
        unfold PySem.passOn
        refine wpAny_bind (wpAny_field he hd h1 ?_)
        rw [if_neg (show ¬ ((Value.ref T == Value.none) = true) from by simp)]
        have fin : wpAny (model X.prog X.w) X.A (setFlight (.ref a) X.env.frame) (fun _ s4 => wpAny (model X.prog X.w) X.A (throw (.ref a) : Sem Flow) (SP X pins D) X.xe s4) X.xe { s' with heap := h } := by
          rw [hf]
          refine HandSPX.setFlight_upZ fl fun h4 hh4 up4 => wpAny_throw (tk _ _ ?_)
          exact ⟨a, B, sI, pins, σ', H', cls, d, rfl, J, nb, (up.trans uph).trans up4, .inr (.inr (by rw [hs]; exact hh4)), na, os, ag, w⟩
        first
          | exact wpAny_bind (wpAny_pure (wpAny_bind fin))
          | exact wpAny_bind fin
      | @one t f ts b₀ suite p hds2 l2 ht hsu r ih =>
        intro w h fl uph
        obtain ⟨b, hb1, hyes, hno⟩ := w
        obtain ⟨_, oe, vs, he, hz, hd, S⟩ := facts h fl uph
        refine wpAny_handleBy_cons (codeAny_handlers_test (ht a _ σ' H' _ cls b _ _ S (looks he hz) hb1 fun h5 k5 => ?_)) (by intro q; cases q)
        have fl5 := flying_keeps fl k5
        have up5 := uph.trans (Heap.UpToSlots.of_keeps k5)
        cases b with
        | true =>
          refine codeAny_handlers_suite ?_
          refine HandSPX.lands_againZ fl5 fun h4 fl4 up4 => ?_
          obtain ⟨_, oe4, vs4, he4, hz4, hd4, S4⟩ := facts h4 fl4 (up5.trans up4)
          refine wpAny_mono ((hsu a oe4 cls d (X.pn ++ pins) hz4 ⟨_, hd4⟩).run [] _ _ H' _ S4 (hyes rfl a na)) (fun f s6 hsp => ?_) (fun _ _ z => False.elim z)
          cases f with
          | next =>
            obtain ⟨σ6, H6, S6, q6⟩ := hsp
            exact ⟨_, _, S6.unsuite ok, q6⟩
          | brk =>
            obtain ⟨σ6, H6, S6, q6⟩ := hsp
            exact ⟨_, _, S6.unsuite ok, q6⟩
          | cont =>
            obtain ⟨σ6, H6, S6, q6⟩ := hsp
            exact ⟨_, _, S6.unsuite ok, q6⟩
          | ret z =>
            obtain ⟨v6, σ6, H6, S6, r6, q6⟩ := hsp
            exact ⟨_, _, _, S6.unsuite ok, r6, q6⟩
        | false => exact ih (hno rfl) h5 fl5 up5
      | @als t n i f ts b₀ suite p hds2 l2 hi hln ht hsu r ih =>
        intro w h fl uph
        obtain ⟨b, hb1, hyes, hno⟩ := w
        obtain ⟨_, oe, vs, he, hz, hd, S⟩ := facts h fl uph
        refine wpAny_handleBy_cons (codeAny_handlers_test (ht a _ σ' H' _ cls b _ _ S (looks he hz) hb1 fun h5 k5 => ?_)) (by intro q; cases q)
        have fl5 := flying_keeps fl k5
        have up5 := uph.trans (Heap.UpToSlots.of_keeps k5)
        cases b with
        | true =>
          refine codeAny_handlers_suite_as ?_
          refine HandSPX.lands_againZ fl5 fun h4 fl4 up4 => ?_
          obtain ⟨_, oe4, vs4, he4, hz4, hd4, S4⟩ := facts h4 fl4 (up5.trans up4)
          refine store_ok (X := X.suite a ((a, oe4) :: (X.pn ++ pins))) (v := .ref a) S4 hN hi (.inl hln) rfl (fun s5 S5 => ?_) (.inr hln)
          refine wpAny_mono ((hsu a oe4 cls d (X.pn ++ pins) hz4 ⟨_, hd4⟩).run [] s5 _ H' _ S5 (hyes rfl a na)) (fun f s6 hsp => ?_) (fun _ _ z => False.elim z)
          have gone : ∀ {σ6 : L2.St} {H6 : Hp} {Q : Shared → Prop}, Inv (X.suite a ((a, oe4) :: (X.pn ++ pins))) [] σ6 H6 s6 → (∀ s7, Inv X pins (σ6.set i none) H6 s7 → Q s7) →
              wpAny (model X.prog X.w) X.A (do bindName X.env n .none; unbindBehindTheSuite X.env n p) (fun _ s7 => Q s7) X.xe s6 := fun {σ6 H6 Q} S6 hq => gone_ok (S6.unsuite ok) hN hi hln hq
          cases f with
          | next =>
            obtain ⟨σ6, H6, S6, q6⟩ := hsp
            exact gone S6 fun s7 J7 => ⟨_, _, J7, q6⟩
          | brk =>
            obtain ⟨σ6, H6, S6, q6⟩ := hsp
            exact gone S6 fun s7 J7 => ⟨_, _, J7, q6⟩
          | cont =>
            obtain ⟨σ6, H6, S6, q6⟩ := hsp
            exact gone S6 fun s7 J7 => ⟨_, _, J7, q6⟩
          | ret z =>
            obtain ⟨v6, σ6, H6, S6, r6, q6⟩ := hsp
            exact gone S6 fun s7 J7 => ⟨_, _, _, J7, r6, q6⟩
        | false => exact ih (hno rfl) h5 fl5 up5
    exact go hh w h3 fl3 up3
  )) only [↓Hsh.on])
end
theorem eqV_str (a b : Str) : eqV (.str a) (.str b) = decide (a = b) := by
  show (a == b) = _
  by_cases h : a = b <;> simp [h]
theorem inV_strs (x : Str) (l : List Str) : inV (.str x) (l.map V.str) = decide (x ∈ l) := Hsh.un (by simp (disch := k_dflt (
  refine Hsh.up ?_
  unfold inV
  rw [List.any_map]
  induction l with
  | nil => simp
  | cons a l ih =>
    rw [List.any_cons, ih]
    show (eqV (.str a) (.str x) || _) = _
    rw [eqV_str]
    by_cases h : a = x <;> by_cases h2 : x ∈ l <;> simp [h, h2, eq_comm] <;> exact fun z => h z.symm
  )) only [↓Hsh.on])
theorem q_dec {p : Prop} [Decidable p] {Q : VK} {H : Hp} (h : p) (k : Q (.bl true) H) : Q (.bl (decide p)) H := by
  rw [decide_eq_true h]
  exact k
theorem s_eqD {K : PySem.W.Frag} {H : Hp} {Q : VK} {p q : Addr} {d e : PyData} {b : Bool} (h1 : Dp K H (.ref p) d) (h2 : Dp K H (.ref q) e) (s1 : SeqAt.shaped d = true) (s2 : SeqAt.shaped e = true) (hb : PyData.eqv d e = b) (h : Q (.bl b) H) : rEqX K (.ref p) (.ref q) H Q :=
  .inr ⟨d, e, h1, h2, s1, s2, by rw [hb]; exact h⟩
theorem s_neD {K : PySem.W.Frag} {H : Hp} {Q : VK} {p q : Addr} {d e : PyData} {b : Bool} (h1 : Dp K H (.ref p) d) (h2 : Dp K H (.ref q) e) (s1 : SeqAt.shaped d = true) (s2 : SeqAt.shaped e = true) (hb : PyData.eqv d e = b) (h : Q (.bl (!b)) H) : rNeX K (.ref p) (.ref q) H Q :=
  .inr ⟨d, e, h1, h2, s1, s2, by rw [hb]; exact h⟩
/-- a number out of a list of numbers -/
theorem toI_bnd (lo hi : Int) {xs : List V} {i : Int} (h : (xs.all fun v => decide (lo ≤ toI v) && decide (toI v ≤ hi)) = true) (h0 : 0 ≤ i) (h1 : i < xs.length) : lo ≤ toI (xs.getD i.toNat .non) ∧ toI (xs.getD i.toNat .non) ≤ hi := Hsh.un (by simp (disch := k_dflt (
  refine Hsh.up ?_
  have hm : xs.getD i.toNat .non ∈ xs := by
    rw [List.getD_eq_getElem?_getD, List.getElem?_eq_getElem (by omega)]
    exact List.getElem_mem _
  have := List.all_eq_true.mp h _ hm
  simpa using this
  )) only [↓Hsh.on])
theorem SH.call2 {A : List Addr} {H0 H H' : Hp} {L : List Cell} {a b : Addr} {o u o' u' : HO} (S : SH A H0 H L) (i j : Nat) (e : L[i]? = some (a, o)) (e2 : L[j]? = some (b, u)) (im : Imm o = false) (im2 : Imm u = false) (k : Keep [a, b] H H') (h : H' a = some o') (h2 : H' b = some u') :
    SH A H0 H' ((L.set i (a, o')).set j (b, u')) := Hsh.un (by simp (disch := k_dflt (
  refine Hsh.up ?_
  have ha := S.get i e
  have hb := S.get j e2
  have rest : ∀ c m, (L.set i (a, o'))[m]? = some c → m ≠ j → c = (a, o') ∨ ∃ m, L[m]? = some c ∧ m ≠ i ∧ m ≠ j := fun c m q nj => by
    by_cases q2 : i = m
    · subst q2
      left
      obtain ⟨hi, _⟩ := List.getElem?_eq_some_iff.mp e
      rw [List.getElem?_set, if_pos rfl, if_pos hi] at q
      exact (Option.some.inj q).symm
    · rw [List.getElem?_set_ne q2] at q
      exact .inr ⟨m, q, Ne.symm q2, nj⟩
  have key : ((L.set i (a, o')).set j (b, u')).map (·.1) = L.map (·.1) := by
    by_cases q : j = i
    · subst q
      rw [e] at e2
      cases e2
      rw [List.set_set, map_set_key e]
    · rw [map_set_key (o := u) (by rw [List.getElem?_set_ne (Ne.symm q)]; exact e2), map_set_key e]
  refine ⟨fun c hc => ?_, by rw [key]; exact S.nd, ⟨fun d v q z => ?_, fun d q => S.kp.d d (k.d d q)⟩, fun c hc => ?_⟩
  · rcases mem_set_cell hc with rfl | ⟨m, nm, em⟩
    · exact h2
    · rcases rest c m em nm with rfl | ⟨m, q, ni, nj⟩
      · exact h
      · refine k.k _ _ (S.hs c (List.mem_of_getElem? q)) (.inl fun z => ?_)
        rcases List.mem_cons.mp z with z | z
        · exact nodup_key S.nd e q ni z
        · exact nodup_key S.nd e2 q nj (List.mem_singleton.mp z)
  · have h1 := S.kp.k d v q z
    refine k.k d v h1 ?_
    rcases z with z | z
    · by_cases da : d = a
      · exfalso
        subst da
        rcases S.ow _ (List.mem_of_getElem? e) with w | w
        · exact z w
        · rw [q] at w
          cases w
      · by_cases db : d = b
        · exfalso
          subst db
          rcases S.ow _ (List.mem_of_getElem? e2) with w | w
          · exact z w
          · rw [q] at w
            cases w
        · exact .inl (by simp [da, db])
    · exact .inr z
  · rcases mem_set_cell hc with rfl | ⟨m, nm, em⟩
    · exact S.ow (b, u) (List.mem_of_getElem? e2)
    · rcases rest c m em nm with rfl | ⟨m, q, ni, nj⟩
      · exact S.ow (a, o) (List.mem_of_getElem? e)
      · exact S.ow c (List.mem_of_getElem? q)
  )) only [↓Hsh.on])
theorem h_pop0 {i : Nat} {A : List Addr} {H0 H : Hp} {L : List Cell} {Q : VK} {a : Addr} {ns : List Int} (S : SH A H0 H L) (e : L[i]? = some (a, .lst (ns.map V.int))) (h0 : 0 < (ns.map V.int).length)
    (h : ∀ n ms H', ns = n :: ms → SH A H0 H' (L.set i (a, .lst (ms.map V.int))) → Q (.int n) H') : rPopAt (.ref a) [.int 0] H Q := Hsh.un (by simp (disch := k_dflt (
  refine Hsh.up ?_
  cases ns with
  | nil => exact absurd h0 (by decide)
  | cons n ms =>
    refine ⟨a, _, 0, 0, .int n, rfl, rfl, S.get i e, by decide, by decide, ?_, rfl, h n ms _ rfl (S.set i e rfl _)⟩
    unfold seqIndex?
    simp
  )) only [↓Hsh.on])
/-! ### what classes of errors tell -/
/-- all that is asked of a class of errors without own __init__ -/
structure ExcF (K : PySem.W.Frag) (D : Addr) : Prop where
  ex : PySem.W.excIn K D He.veBase "ValueError.__new__" = true
  kp : PySem.W.keepIn K (.ref D) = true
  bs : PySem.W.subIn K (.ref D) (.type "BaseException") = some true
  ty : PySem.W.typeIn K (.ref D) = some (.type "type")
theorem excF_ok {K : PySem.W.Frag} {x : Str} (c : (He.Fa.exc x).ok K = true) : ExcF K (He.ga K x) := by
  obtain ⟨h1, h2, h3, h4⟩ := He.exc_ok c
  exact ⟨h1, h2, h3, h4⟩
def excCB (K : PySem.W.Frag) (x : Str) : Bool :=
  let D := He.ga K x
  decide (PySem.W.findIn K (.ref D) "__getattribute__" = some (some (.builtin "BaseException.__getattribute__"))) && (decide (PySem.W.findIn K (.ref D) "__getattr__" = some none) &&
    (decide (PySem.W.subIn K (.ref D) (.type "BaseException") = some true) && (PySem.W.hasDictIn K D && (decide (PySem.W.findIn K (.ref D) "__class__" = some (some (.builtin "object.__class__"))) &&
      (decide (PySem.W.specialIn K (.builtin "object.__class__") "__get__" = some (some (.builtin "getset_descriptor.__get__"))) && (decide (PySem.W.takesIn K (.builtin "object.__class__") = some true) &&
        decide (PySem.W.mroIn K D (.type "object") = some true)))))))
theorem excCB_ok {K : PySem.W.Frag} {x : Str} (h : excCB K x = true) : ExcC K (He.ga K x) := Hsh.un (by simp (disch := k_dflt (
  refine Hsh.up ?_
  unfold excCB at h
  simp only [Bool.and_eq_true, decide_eq_true_eq] at h
  obtain ⟨a, b, c, d, e, f, g, i⟩ := h
  exact ⟨a, b, c, d, e, f, g, i⟩
  )) only [↓Hsh.on])
def kitCB (K : PySem.W.Frag) (x y : Str) (b : Bool) : Bool := decide (PySem.W.kitOne K (.ref (He.ga K x)) (.ref (He.ga K y)) = some b)
theorem kitCB_ok {K : PySem.W.Frag} {x y : Str} {b : Bool} (h : kitCB K x y b = true) : PySem.W.kitOne K (.ref (He.ga K x)) (.ref (He.ga K y)) = some b := of_decide_eq_true h
def kitTB (K : PySem.W.Frag) (x : Str) (y : String) (b : Bool) : Bool := decide (PySem.W.kitOne K (.ref (He.ga K x)) (.type y) = some b)
def exmTB (K : PySem.W.Frag) (x : Str) (y : String) (b : Bool) : Bool := decide (PySem.W.exmOne K (.ref (He.ga K x)) (.type y) = some b)
theorem exmTB_ok {K : PySem.W.Frag} {x : Str} {y : String} {b : Bool} (h : exmTB K x y b = true) : PySem.W.exmOne K (.ref (He.ga K x)) (.type y) = some b := of_decide_eq_true h
theorem kitTB_ok {K : PySem.W.Frag} {x : Str} {y : String} {b : Bool} (h : kitTB K x y b = true) : PySem.W.kitOne K (.ref (He.ga K x)) (.type y) = some b := of_decide_eq_true h
theorem kdct_ok {K : PySem.W.Frag} {w : World} {a : Addr} {kvs : List (Str × He.Dv)} (h : ∃ es n, KDict K w a es n) (hv : He.valsB K a kvs = true) : ∀ q ∈ kvs, KDct K w a q.1 (q.2.v K) := fun q hq => by
  obtain ⟨es, n, D⟩ := h
  obtain ⟨u, e, r⟩ := He.valsB_ok hv hq
  exact ⟨es, n, u, D.at_, D.lit, e, r⟩
theorem s_ixD {K : PySem.W.Frag} {w : World} {p : Addr} {z : Str} {v : V} {H : Hp} {Q : VK} (h : KDct K w p z v) (q : Q v H) : rIxD K w (.ref p) (.str z) H Q := ⟨p, z, v, rfl, rfl, h, q⟩
section
variable {X : Cx}
/-- raise C('text') -/
theorem ps_raiseG {W : WX} {x m : Str} {j : Nat} {p p2 pos pos2 : Pos} (hc : X.calm = true) (tk : Takes X W) (F : ExcF X.K (He.ga X.K x)) (hm : X.mg x = some (.ref (He.ga X.K x))) (hg : Gl X x) (hdb : (x == ("__debug__" : Str)) = false := by decide) :
    PS X (.Raise (some (.Call (.Name x p) [.Constant (.str m) j p2] [] pos)) none pos2) (tRaiseG W (He.ga X.K x)) :=
  ps_raise hc tk (pmk_own PySem.F.excBase_ValueError F.ex hm F.kp (raises_own F.bs F.ty) hg hdb)
/-- isinstance in a suite, of the error that it holds -/
def rIsE1 (K : PySem.W.Frag) (cls : Value) (d : Option Addr) (a : Addr) : List V → Hp → VK → Prop := fun xs H Q => ∃ D, cls = .ref D ∧ d = none ∧ ExcC K D ∧ rIsE K D a xs H Q
def rIsinE (K : PySem.W.Frag) (cls : Value) (d : Option Addr) (a : Addr) : List V → Hp → VK → Prop := fun xs H Q => rIsiX K xs H Q ∨ rIsE1 K cls d a xs H Q
theorem x_isE {a : Addr} {oe : Obj} {cls : Value} {d : Option Addr} {pn : List (Addr × Obj)} (hz : Zc cls d oe) (hf : ∃ vs, oe.data = .fields vs) :
    CallR (X.suite a ((a, oe) :: pn)) (.builtin "isinstance") (rIsE1 X.K cls d a) := Hsh.un (by simp (disch := k_dflt (
  refine Hsh.up ?_
  intro pins s σ H xs us Q I r h
  obtain ⟨D, rfl, rfl, C, h⟩ := h
  exact call_isE C hz hf pins s σ H xs us Q I r h
  )) only [↓Hsh.on])
end
theorem cxW {CX : CXT} {P : Program} {w : World} {K : PySem.W.Frag} {mg : Str → Option Value} {base : Heap} {N : List Str} {qual : Str} {scope : Scope} {f : Addr} {cd : Value} {A : Around} {outer : List PySem.Env} {s : Shared} {H : Hp} {E : XK} :
    (cxOf CX P w K mg base N qual scope f cd A outer s H E).nox.w = w := rfl
theorem cxW2 {CX : CXT} {P : Program} {w : World} {K : PySem.W.Frag} {mg : Str → Option Value} {base : Heap} {N : List Str} {qual : Str} {scope : Scope} {f : Addr} {cd : Value} {A : Around} {outer : List PySem.Env} {s : Shared} {H : Hp} {E : XK} :
    (cxOf CX P w K mg base N qual scope f cd A outer s H E).w = w := rfl
theorem x_isinE {X : Cx} {a : Addr} {oe : Obj} {cls : Value} {d : Option Addr} {pn : List (Addr × Obj)} (hz : Zc cls d oe) (hf : ∃ vs, oe.data = .fields vs) :
    CallR (X.suite a ((a, oe) :: pn)) (.builtin "isinstance") (rIsinE X.K cls d a) := CallR.or x_isinstance (x_isE hz hf)
section
variable {K : PySem.W.Frag} {a D C : Addr} {H : Hp} {σ : L2.St} {Q : VK} {b : Bool} {n bk ct : L2.St → Hp → Prop} {r : VK}
theorem s_isE (c : ExcC K D) (e : PySem.W.kitOne K (.ref D) (.ref C) = some b) (h : Q (.bl b) H) : rIsinE K (.ref D) none a [.ref a, .ref C] H Q := .inr ⟨D, rfl, rfl, c, _, _, b, rfl, fun u h => h, e, h⟩
theorem s_isEt {y : String} (c : ExcC K D) (e : PySem.W.kitOne K (.ref D) (.type y) = some b) (h : Q (.bl b) H) : rIsinE K (.ref D) none a [.ref a, .ty y] H Q := .inr ⟨D, rfl, rfl, c, _, _, b, rfl, fun u h => h, e, h⟩
theorem s_isEx {cls : Value} {d : Option Addr} {xs : List V} (h : rIsiX K xs H Q) : rIsinE K cls d a xs H Q := .inl h
theorem s_try {tb : WX → TS} {Wout : WX} {l : List Cl} {u : TS} (h : tb (wG Wout ⟨n, r, bk, ct⟩ l) ⟨u ⟨n, r, bk, ct⟩, r, bk, ct⟩ σ H) : tTryG tb Wout l u ⟨n, r, bk, ct⟩ σ H := h
theorem s_raise {W : WX} {e : Ends} (h : W (.ref D) none σ H) : tRaiseG W D e σ H := h
theorem s_WE {W : WX} {cls : Value} {d : Option Addr} (h : W cls d σ H) : WE W σ cls d H := h
theorem s_wGn {Wout : WX} {e : Ends} {f : Value → Option Bool} {oi : Option Nat} {ts : Addr → Value → Option Addr → TS} {l : List Cl} {cls : Value} {d : Option Addr} (q : f cls = some false) (h : wG Wout e l cls d σ H) : wG Wout e ((f, oi, ts) :: l) cls d σ H := ⟨false, q, (fun z => nomatch z), fun _ => h⟩
theorem s_wGy {Wout : WX} {f : Value → Option Bool} {ts : Addr → Value → Option Addr → TS} {l : List Cl} {cls : Value} {d : Option Addr} (q : f cls = some true) (h : ∀ a, H a = none → ts a cls d ⟨n, r, bk, ct⟩ σ H) :
    wG Wout ⟨n, r, bk, ct⟩ ((f, none, ts) :: l) cls d σ H := ⟨true, q, fun _ => h, (fun z => nomatch z)⟩
theorem s_wGa {Wout : WX} {i : Nat} {f : Value → Option Bool} {ts : Addr → Value → Option Addr → TS} {l : List Cl} {cls : Value} {d : Option Addr} (q : f cls = some true)
    (h : ∀ a, H a = none → ts a cls d ⟨fun σ H => n (σ.set i none) H, r, fun σ H => bk (σ.set i none) H, fun σ H => ct (σ.set i none) H⟩ (σ.set i (some (.ref a))) H) :
    wG Wout ⟨n, r, bk, ct⟩ ((f, some i, ts) :: l) cls d σ H := ⟨true, q, fun _ => h, (fun z => nomatch z)⟩
theorem s_wG0 {Wout : WX} {e : Ends} {cls : Value} {d : Option Addr} (h : Wout cls d σ H) : wG Wout e [] cls d σ H := h
end
/-- a call in a try's body -/
theorem pe_callSG {X : Cx} {CX : CXT} {k : Nat} {ps : List Str} {sp : Sp} {E : L2.St → XK} {x : Str} {p pos : Pos} {e : Expr} {es : List Expr} {t : TA} (F : CallOk X.prog X.w X.K X.mg X.base CX k x ps sp) (hr : Room k X.A) (hg : Gl X x) (hx : ∀ σ, PassesAt CX X σ (E σ))
    (ha : PA X (e :: es) t) (hdb : (x == ("__debug__" : Str)) = false := by decide) (he : starEach (e :: es) X.env = (false, eval e X.env) :: starEach es X.env := by rfl) (hpl : (backTo pos (starEach es X.env)).any (·.1) = false := by rfl) :
    PE X (.Call (.Name x p) (e :: es) [] pos) (tCallS sp E t) := by
  obtain ⟨f, fd, h1, h2, h3, h4⟩ := F.ex
  exact pe_callS h4 hr hg h1 h2 h3 hx ha hdb he hpl
theorem s_callS {σ : L2.St} {H : Hp} {Q : VK} {sp : Sp} {E : L2.St → XK} {tr : TA} (h : tr σ H fun vs H1 => sp (vs ++ []) H1 Q (E σ)) : tCallS sp E tr σ H Q := Hsh.un (by simp (disch := k_dflt (
  refine Hsh.up ?_
  unfold tCallS
  simp only [List.append_nil] at h
  exact h
  )) only [↓Hsh.on])
/-- a module's tuple, by its class -/
def tupDB (K : PySem.W.Frag) (x : Str) : Bool := match K.lookup (He.ga K x) with
  | some o => decide (o.cls = .type "tuple") && o.dict.isNone
  | none => false
theorem tupDB_ok {K : PySem.W.Frag} {x : Str} (h : tupDB K x = true) : ∃ o, K.lookup (He.ga K x) = some o ∧ o.cls = .type "tuple" ∧ o.dict = none := Hsh.un (by simp (disch := k_dflt (
  refine Hsh.up ?_
  unfold tupDB at h
  cases q : K.lookup (He.ga K x) with
  | none => rw [q] at h; cases h
  | some o =>
    rw [q] at h
    simp only [Bool.and_eq_true, decide_eq_true_eq, Option.isNone_iff_eq_none] at h
    exact ⟨o, rfl, h.1, h.2⟩
  )) only [↓Hsh.on])
/-- a text's place in a tuple of texts -/
def rTIx (K : PySem.W.Frag) (x : V) (xs : List V) (H : Hp) (Q : VK) : Prop := ∃ p, ∃ ys : List Str, ∃ z j, x = .ref p ∧ xs = [.str z] ∧ SqT K H p (ys.map V.str) ∧ ys[j]? = some z ∧ (∀ m, m < j → ys[m]? ≠ some z) ∧ Q (.int (j : Nat)) H
theorem xt_index {X : Cx} : MtR X "tuple.index" (rTIx X.K) := mt_tup_index
theorem s_tix {K : PySem.W.Frag} {H : Hp} {Q : VK} {p : Addr} {ys : List Str} {z : Str} {j : Nat} (h : SqT K H p (ys.map V.str)) (e : ys[j]? = some z) (n : ∀ m, m < j → ys[m]? ≠ some z) (q : Q (.int (j : Nat)) H) : rTIx K (.ref p) [.str z] H Q := ⟨p, ys, z, j, rfl, rfl, h, e, n, q⟩
theorem tyT {K : PySem.W.Frag} {H : Hp} {a : Addr} {xs : List V} (h : SqT K H a xs) : TyX K H (.ref a) (.type "tuple") := Hsh.un (by simp (disch := k_dflt (
  refine Hsh.up ?_
  rcases h with (h | ⟨o, h⟩) | ⟨o, its, n, h1, h2, _⟩
  · exact .base (.tup h)
  · exact .fTuple h
  · exact .kTuple h1 h2
  )) only [↓Hsh.on])
theorem tyL {K : PySem.W.Frag} {H : Hp} {a : Addr} {xs : List V} (h : SqL K H a xs) : TyX K H (.ref a) (.type "list") := Hsh.un (by simp (disch := k_dflt (
  refine Hsh.up ?_
  rcases h with (h | ⟨o, h⟩) | ⟨o, its, n, h1, h2, _⟩
  · exact .base (.lst h)
  · exact .base (.frz h)
  · exact .kList h1 h2
  )) only [↓Hsh.on])
theorem SqT_keep {K : PySem.W.Frag} {A : List Addr} {H H' : Hp} {a : Addr} {xs : List V} (h : SqT K H a xs) (k : Keep A H H') : SqT K H' a xs := Hsh.un (by simp (disch := k_dflt (
  refine Hsh.up ?_
  rcases h with (h | ⟨o, h⟩) | h
  · exact .inl (.inl (k.k _ _ h (.inr rfl)))
  · exact .inl (.inr ⟨o, k.k _ _ h (.inr rfl)⟩)
  · exact .inr h
  )) only [↓Hsh.on])
def rSplit : V → List V → Hp → VK → Prop := fun x xs H Q => ∃ a b, x = .str a ∧ xs = [.str b] ∧ (b.length == 0) = false ∧ a.length + 2 ≤ sizeLine ∧ rNewStrs (Txt.split a b) H Q
theorem xt_split {X : Cx} : MtR X "str.split" rSplit := mt_split
theorem s_split {H : Hp} {Q : VK} {a b : Str} {ys : List Str} (h0 : (b.length == 0) = false) (h1 : a.length + 2 ≤ sizeLine) (e : Txt.split a b = ys) (h : newO (.lst (ys.map V.str)) 0 H Q) : rSplit (.str a) [.str b] H Q := ⟨a, b, rfl, rfl, h0, h1, by rw [e]; exact h.2⟩
def rJoin (K : PySem.W.Frag) : V → List V → Hp → VK → Prop := fun x xs H Q => ∃ a p, ∃ ys : List Str, x = .str a ∧ xs = [.ref p] ∧ (SqL K H p (ys.map V.str) ∨ SqT K H p (ys.map V.str)) ∧ (ys.map (·.length)).sum + ys.length * a.length ≤ 16777216 ∧ Q (.str (Txt.join a ys)) H
theorem xt_join {X : Cx} : MtR X "str.join" (rJoin X.K) := mt_join
theorem s_join {K : PySem.W.Frag} {H : Hp} {Q : VK} {a : Str} {p : Addr} {ys : List Str} (h : SqL K H p (ys.map V.str)) (c : (ys.map (·.length)).sum + ys.length * a.length ≤ 16777216) (q : Q (.str (Txt.join a ys)) H) : rJoin K (.str a) [.ref p] H Q := ⟨a, p, ys, rfl, rfl, .inl h, c, q⟩
theorem xl_index {X : Cx} : MtR X "list.index" (rIndex X.K) := mt_index
theorem s_lix {K : PySem.W.Frag} {H : Hp} {Q : VK} {p : Addr} {ys : List Str} {z : Str} {j : Nat} (h : SqL K H p (ys.map V.str)) (e : ys[j]? = some z) (n : ∀ m, m < j → ys[m]? ≠ some z) (q : Q (.int (j : Nat)) H) : rIndex K (.ref p) [.str z] H Q :=
  ⟨p, ys.map V.str, .str z, j, .str z, rfl, rfl, h, rfl, List.all_eq_true.mpr fun v hv => by obtain ⟨x, _, rfl⟩ := List.mem_map.mp hv; rfl, by rw [List.getElem?_map, e]; rfl, by rw [eqV_str]; exact decide_eq_true rfl, fun m z' hm hz => by
    rw [List.getElem?_map] at hz
    obtain ⟨x, hx, rfl⟩ := Option.map_eq_some_iff.mp hz
    rw [eqV_str]
    exact decide_eq_false fun y => n m hm (y ▸ hx), q⟩
theorem s_catA {K : PySem.W.Frag} {H : Hp} {Q : VK} {l b : Addr} {xs zs ys : List V} (h1 : SqT K H l xs) (h2 : SqT K H b zs) (n1 : xs ≠ []) (n2 : zs ≠ []) (c : xs.length + zs.length ≤ sizeLine) (e : xs ++ zs = ys) (h : newO (.tup ys) 0 H Q) : rAddX K (.ref l) (.ref b) H Q :=
  .inr (.inr (.inr ⟨l, b, xs, zs, rfl, rfl, h1, h2, c, fun z => absurd z n1, fun _ z => absurd z n2, fun _ _ p hp => by rw [e]; exact h.2 p hp⟩))
theorem s_catA0 {K : PySem.W.Frag} {H : Hp} {Q : VK} {l b : Addr} {xs : List V} (h1 : SqT K H l xs) (h2 : SqT K H b []) (n1 : xs ≠ []) (c : xs.length ≤ sizeLine) (h : Q (.ref l) H) : rAddX K (.ref l) (.ref b) H Q :=
  .inr (.inr (.inr ⟨l, b, xs, [], rfl, rfl, h1, h2, c, fun z => absurd z n1, fun _ _ => h, fun _ z => absurd rfl z⟩))
end Q
set_option Elab.async false
set_option linter.all false
set_option maxRecDepth 100000
set_option maxHeartbeats 4000000
/-! Properties: the getter's def is told by a hook of its own. -/
namespace Q
open PySem PySem.Spec PyProof.Rows L2
/-- the getter of the property f of the class C -/
def getA (K : PySem.W.Frag) (C f : Str) : Addr := match PySem.W.recIn K (He.ma K (He.ga K C) f) "property" with
  | some (.ref g :: _) => g
  | _ => 0
def getW (K : PySem.W.Frag) (g : Addr) : He.FnW := match K.lookup g with
  | some ⟨_, _, .func fd, _⟩ => some (fd.name, fd.qualname, fd.params, fd.body, fd.scope, fd.globals, fd.closure, fd.builtins)
  | _ => none
def getB (K : PySem.W.Frag) (d : He.DefD) (g : Addr) : Bool := PySem.W.keepIn K (.ref g) && (match K.lookup g with
  | some ⟨_, _, .func fd, _⟩ => PySem.W.codeIn K fd.code d.qual && (He.dflB K fd.defaults (d.dvs K) && He.kwdB K fd.kwdefaults (d.kws K))
  | _ => false)
theorem get_funD {K : PySem.W.Frag} {d : He.DefD} {g : Addr} (e : getW K g = d.val) (c : getB K d g = true) : ∃ fd, FunD K d.name d.qual d.params d.body d.scope (d.dvs K) (d.kws K) g fd := Hsh.un (by simp (disch := k_dflt (
  refine Hsh.up ?_
  obtain ⟨kp, c2⟩ := He.ba c
  unfold getW at e
  cases q : K.lookup g with
  | none => rw [q] at c2; cases c2
  | some o =>
    obtain ⟨oc, od, dt, osl⟩ := o
    rw [q] at c2 e
    cases dt with
    | func fd =>
      obtain ⟨m1, m2, m3, m4, m5, m6, m7, m8, m9, m10, m11, m12, m13, m14, m15⟩ := fd
      have e2 : (some (m1, m2, m3, m4, m5, m6, m7, m15) : He.FnW) = some (d.name, d.qual, d.params, .stmts d.body, d.scope, mainGlobals, [], builtinsNs) := e
      simp only [Option.some.injEq, Prod.mk.injEq] at e2
      obtain ⟨h1, h2, h3, h4, h5, h6, h7, h8⟩ := e2
      subst h1 h2 h3 h4 h5 h6 h7 h8
      obtain ⟨k1, k2⟩ := He.ba (show (PySem.W.codeIn K m13 d.qual && (He.dflB K m8 (d.dvs K) && He.kwdB K m9 (d.kws K))) = true from c2)
      obtain ⟨k3, k4⟩ := He.ba k2
      exact ⟨_, ⟨oc, od, m8, m9, m10, m11, m12, m13, m14, osl, rfl, q, k1, He.dflB_ok k3, He.kwdB_ok k4⟩, kp⟩
    | _ => cases c2
  )) only [↓Hsh.on])
/-- a property: its class, and its getter's def (the def's at_ tells class and name) -/
def prA (K : PySem.W.Frag) (d : He.DefD) : Addr := getA K d.at_.1 (d.at_.2.getD "")
def propB (K : PySem.W.Frag) (C f : Str) : Bool :=
  let p := He.ma K (He.ga K C) f
  decide (PySem.W.findIn K (.ref (He.ga K C)) f = some (some (.ref p))) && (decide (PySem.W.specialIn K (.ref p) "__get__" = some (some (.builtin "property.__get__"))) && (decide (PySem.W.takesIn K (.ref p) = some true) &&
    (match PySem.W.recIn K p "property" with
    | some (.ref _ :: _) => true
    | _ => false)))
theorem propB_ok {K : PySem.W.Frag} {C f : Str} (h : propB K C f = true) : PropOf K (He.ga K C) f (He.ma K (He.ga K C) f) (getA K C f) := Hsh.un (by simp (disch := k_dflt (
  refine Hsh.up ?_
  unfold propB at h
  obtain ⟨h1, h⟩ := He.ba h
  obtain ⟨h2, h⟩ := He.ba h
  obtain ⟨h3, h⟩ := He.ba h
  refine ⟨of_decide_eq_true h1, of_decide_eq_true h2, of_decide_eq_true h3, ?_⟩
  unfold getA
  split at h
  · rename_i g r e
    rw [e]
    exact ⟨r, rfl⟩
  · cases h
  )) only [↓Hsh.on])
structure SaysP (fa : List He.Fa) (fn : List He.DefD) (ts : List He.Tab) (ex : PySem.W.Frag → Bool) (pr : List He.DefD) (w : World) (h : Heap) (K : PySem.W.Frag) : Prop where
  x : He.SaysX fa fn ts [] ex w h K
  p : ∀ d ∈ pr, getW K (prA K d) = d.val ∧ getB K d (prA K d) = true
abbrev AlP : Type := He.AlX × List He.FnW × Bool
def obsP (n : Nat) (fa : List He.Fa) (fn : List He.DefD) (ts : List He.Tab) (ex : PySem.W.Frag → Bool) (pr : List He.DefD) (g : Addr → Option Obj) : AlP :=
  (He.obsX n fa fn ts [] ex g, (pr.map fun d => getW (He.frT g (He.asD g n)) (prA (He.frT g (He.asD g n)) d)), pr.all fun d => getB (He.frT g (He.asD g n)) d (prA (He.frT g (He.asD g n)) d))
def valP (fn : List He.DefD) (ts : List He.Tab) (pr : List He.DefD) (w : World) : AlP := (He.valX fn ts w, pr.map He.DefD.val, true)
theorem map_eq_mem {α β : Type} {f g : α → β} : ∀ {l : List α}, l.map f = l.map g → ∀ x ∈ l, f x = g x
  | [], _, _, h => nomatch h
  | a :: l, e, x, h => by
    rw [List.map_cons, List.map_cons] at e
    obtain ⟨e1, e2⟩ := List.cons.inj e
    rcases List.mem_cons.mp h with rfl | h
    · exact e1
    · exact map_eq_mem e2 x h
theorem saysP_of {n : Nat} {fa : List He.Fa} {fn : List He.DefD} {ts : List He.Tab} {ex : PySem.W.Frag → Bool} {pr : List He.DefD} {w : World} {h : Heap} (e : obsP n fa fn ts ex pr h.get? = valP fn ts pr w) : SaysP fa fn ts ex pr w h (He.frT h.get? (He.asD h.get? n)) := Hsh.un (by simp (disch := k_dflt (
  refine Hsh.up ?_
  have e1 : He.obsX n fa fn ts [] ex h.get? = He.valX fn ts w := congrArg (fun z : AlP => z.1) e
  have e2 := congrArg (fun z : AlP => z.2.1) e
  have e3 : (pr.all fun d => getB (He.frT h.get? (He.asD h.get? n)) d (prA (He.frT h.get? (He.asD h.get? n)) d)) = true := congrArg (fun z : AlP => z.2.2) e
  exact ⟨He.saysX_of e1, fun d hd => ⟨map_eq_mem e2 d hd, List.all_eq_true.mp e3 d hd⟩⟩
  )) only [↓Hsh.on])
def hookP (n : Nat) (fa : List He.Fa) (fn : List He.DefD) (ts : List He.Tab) (ex : PySem.W.Frag → Bool) (pr : List He.DefD) : PySem.W.Hook where
  α := AlP
  obs := fun s => obsP n fa fn ts ex pr s.heap.get?
  val := fun w => valP fn ts pr w
  says := fun w h => ∃ K : PySem.W.Frag, K.In h ∧ SaysP fa fn ts ex pr w h K
  of := fun _ _ e => ⟨_, He.frT_in, saysP_of e⟩
  keeps := fun _ _ _ ⟨K, hK, c⟩ k => ⟨K, PySem.W.Frag.In.keeps hK k, ⟨⟨c.x.t, c.x.more, c.x.hd, c.x.out, fun p hp => k _ _ (c.x.empty p hp)⟩, c.p⟩⟩
theorem obsP_eq {n : Nat} {fa : List He.Fa} {fn : List He.DefD} {ts : List He.Tab} {ex : PySem.W.Frag → Bool} {pr : List He.DefD} {g : Addr → Option Obj} {s : Shared} (h : ∀ a, g a = s.heap.get? a) : obsP n fa fn ts ex pr g = (hookP n fa fn ts ex pr).obs s := by
  have e : g = s.heap.get? := funext h
  rw [e] <;> rfl
theorem SaysP.get {fa : List He.Fa} {fn : List He.DefD} {ts : List He.Tab} {ex : PySem.W.Frag → Bool} {pr : List He.DefD} {w : World} {h : Heap} {K : PySem.W.Frag} (c : SaysP fa fn ts ex pr w h K) (i : Nat) {d : He.DefD} (e : pr[i]? = some d) : ∃ fd, FunD K d.name d.qual d.params d.body d.scope (d.dvs K) (d.kws K) (prA K d) fd :=
  let z := c.p d (List.mem_of_getElem? e)
  get_funD z.1 z.2
/-! ### more words on lists -/
def rInsert : V → List V → Hp → VK → Prop := fun x vs H Q => ∃ (l : Addr) (xs : List V) (i : Int) (y : V), x = .ref l ∧ vs = [.int i, y] ∧ H l = some (.lst xs) ∧ xs.length < sizeLine ∧ 0 ≤ i ∧ i < 2 ^ 63 ∧ Q .non (upd H l (.lst (xs.take i.toNat ++ [y] ++ xs.drop i.toNat)))
theorem xt_insert {X : Cx} : MtR X "list.insert" rInsert := mt_insert
theorem h_insert0 {A : List Addr} {H0 H : Hp} {L L' : List Cell} {Q : VK} {v : V} {i : Nat} {a : Addr} {xs : List V} (S : SH A H0 H L) (e : L[i]? = some (a, .lst xs)) (c : xs.length < sizeLine) (eL : L.set i (a, .lst (v :: xs)) = L')
    (h : ∀ H', SH A H0 H' L' → Q .non H') : rInsert (.ref a) [.int 0, v] H Q := ⟨a, xs, 0, v, rfl, rfl, S.get i e, c, by decide, by decide, h _ (eL ▸ S.set i e rfl _)⟩
/-! ### methods that may raise, in a try's body -/
def plO (X : Cx) (o : Expr) : Sem Bool := do return (← importBound o X.env).getD true
section
variable {X : Cx} {CX : CXT} {k : Nat} {ps : List Str} {sp : Sp} {E : L2.St → XK} {C m : Str} {p pos apos : Pos} {o e : Expr} {es : List Expr} {t : TA} {ta : TE}
theorem pe_methSG {K : PySem.W.Frag} (he : PE X o ta) (F : MethOk X.prog X.w X.K X.mg X.base CX k C m ps sp) (hr : Room k X.A) (hx : ∀ σ, PassesAt CX X σ (E σ)) (hK : X.K = K) (ha : PA X (e :: es) t)
    (ht : eval (.Call (.Attribute o m apos) (e :: es) [] pos) X.env = (do
      let ov ← eval o X.env
      standAt apos.atName
      let (f, first) ← holding [ov] (getMethod ov m (plO X o))
      callWith pos f first (backTo pos (starEach (e :: es) X.env)) (backToKw pos (keywordEach [] X.env))))
    (hst : starEach (e :: es) X.env = (false, eval e X.env) :: starEach es X.env := by rfl) (hpl : (backTo pos (starEach es X.env)).any (·.1) = false := by rfl) :
    PE X (.Call (.Attribute o m apos) (e :: es) [] pos) (fun σ H Q => ta σ H fun x H1 => methO (He.ga K C) m sp (E σ) t σ x H1 Q) := by
  subst hK
  obtain ⟨fd, c, hm, hb, G⟩ := F.ex
  refine ⟨fun pins s σ H Q I h => ?_⟩
  refine PySem.W.methodCall_KW (pl := plO X o) (thn (he.run pins s σ H _ I h) fun u s1 ⟨x, H1, I1, rx, a, dx, fs, ex, ea, l, q⟩ => ?_) ht
  subst ex
  obtain rfl : u = Value.ref a := rx
  refine getmeth_ok I1 ea c hm l ?_
  refine PySem.W.callWith_K (first := [.ref a]) (h₀ := X.base) I.ok.mod.kin hm.kp (thn (ha.run pos pins s1 σ H1 _ I1 q) fun us s2 ⟨vs, H2, I2, r, q2⟩ => ⟨I2.kIn, ?_⟩) hst hpl
  exact run_fnS (us := .ref a :: us) (vs := .ref a :: vs) G hr hb (hx σ) I2 (.cons rfl r) (by have q3 : sp (V.ref a :: (vs ++ [])) H2 Q (E σ) := q2; rw [List.append_nil] at q3; exact q3)
theorem pe_methSG0 {K : PySem.W.Frag} (he : PE X o ta) (F : MethOk X.prog X.w X.K X.mg X.base CX k C m ps sp) (hr : Room k X.A) (hx : ∀ σ, PassesAt CX X σ (E σ)) (hK : X.K = K)
    (ht : eval (.Call (.Attribute o m apos) [] [] pos) X.env = (do
      let ov ← eval o X.env
      standAt apos.atName
      let (f, first) ← holding [ov] (getMethod ov m (plO X o))
      callWith pos f first (backTo pos (starEach [] X.env)) (backToKw pos (keywordEach [] X.env)))) :
    PE X (.Call (.Attribute o m apos) [] [] pos) (fun σ H Q => ta σ H fun x H1 => methO (He.ga K C) m sp (E σ) tNil σ x H1 Q) := Hsh.un (by simp (disch := k_dflt (
  refine Hsh.up ?_
  subst hK
  obtain ⟨fd, c, hm, hb, G⟩ := F.ex
  refine ⟨fun pins s σ H Q I h => ?_⟩
  refine PySem.W.methodCall_KW (pl := plO X o) (thn (he.run pins s σ H _ I h) fun u s1 ⟨x, H1, I1, rx, a, dx, fs, ex, ea, l, q⟩ => ?_) ht
  subst ex
  obtain rfl : u = Value.ref a := rx
  refine getmeth_ok I1 ea c hm l ?_
  exact PySem.W.callWith_K0 (first := [.ref a]) I1.kIn hm.kp (run_fnS (us := [.ref a]) (vs := [.ref a]) G hr hb (hx σ) I1 (.cons rfl .nil) q)
  )) only [↓Hsh.on])
end
theorem Keep.drop {A B : List Addr} {H H' : Hp} (k : Keep A H H') (h : ∀ a ∈ A, a ∉ B → ∃ o, H a = some o ∧ H' a = some o) : Keep B H H' := Hsh.un (by simp (disch := k_dflt (
  refine Hsh.up ?_
  refine ⟨fun b o hb z => ?_, k.d⟩
  by_cases q : b ∈ A
  · by_cases q2 : b ∈ B
    · exact k.k b o hb (.inr (z.resolve_left (fun y => y q2)))
    · obtain ⟨u, h1, h2⟩ := h b q q2
      rw [hb] at h1
      cases h1
      exact h2
  · exact k.k b o hb (.inl q)
  )) only [↓Hsh.on])
theorem SH.call3 {A : List Addr} {H0 H H' : Hp} {L : List Cell} {a b c : Addr} {o u x o' u' x' : HO} (S : SH A H0 H L) (i j k : Nat) (e : L[i]? = some (a, o)) (e2 : L[j]? = some (b, u)) (e3 : L[k]? = some (c, x)) (n1 : k ≠ i) (n2 : k ≠ j) (im : Imm o = false) (im2 : Imm u = false) (im3 : Imm x = false)
    (kp : Keep [a, b, c] H H') (h1 : H' a = some o') (h2 : H' b = some u') (h3 : H' c = some x') : SH A H0 H' (((L.set k (c, x')).set i (a, o')).set j (b, u')) := Hsh.un (by simp (disch := k_dflt (
  refine Hsh.up ?_
  have S1 := S.set k e3 im3 x'
  refine S1.call2 i j (by rw [List.getElem?_set_ne n1]; exact e) (by rw [List.getElem?_set_ne n2]; exact e2) im im2 ⟨fun y v hy z => ?_, fun y hy => ?_⟩ h1 h2
  · by_cases q : y = c
    · subst q
      rw [upd_same] at hy
      cases hy
      exact h3
    · rw [upd_ne q] at hy
      refine kp.k y v hy (z.imp (fun z w => ?_) id)
      rcases List.mem_cons.mp w with w | w
      · exact z (w ▸ List.mem_cons_self)
      · rcases List.mem_cons.mp w with w | w
        · exact z (w ▸ List.mem_cons_of_mem _ List.mem_cons_self)
        · exact q (List.mem_singleton.mp w)
  · by_cases q : y = c
    · subst q
      rw [h3] at hy
      cases hy
    · rw [upd_ne q]
      exact kp.d y hy
  )) only [↓Hsh.on])
/-- the statements of a block within a def's body -/
def blkS : Stmt → Nat → List Stmt
  | .Try b _ o _ _, k => if k = 0 then b else o
  | .If _ b o _, k => if k = 0 then b else o
  | .For _ _ b _ _, _ => b
  | .While _ b _ _, _ => b
  | _, _ => []
def subS (l : List Stmt) : List (Nat × Nat) → List Stmt
  | [] => l
  | q :: r => subS (match l[q.1]? with
    | some s => blkS s q.2
    | none => []) r
theorem keys_set {L : List Cell} {i : Nat} {a : Addr} {o o' : HO} (e : L[i]? = some (a, o)) : ∀ c ∈ L.set i (a, o'), c.1 ∈ L.map (·.1) := fun c hc => by
  rw [← map_set_key (o' := o') e]
  exact List.mem_map_of_mem hc
theorem key_live {A : List Addr} {H0 H : Hp} {L : List Cell} (S : SH A H0 H L) {a : Addr} (h : a ∈ L.map (·.1)) : H a ≠ none := Hsh.un (by simp (disch := k_dflt (
  refine Hsh.up ?_
  obtain ⟨c, hc, e⟩ := List.mem_map.mp h
  rw [← e, S.hs c hc]
  exact fun z => nomatch z
  )) only [↓Hsh.on])
/-- a call that changes two cells and leaves one new -/
theorem SH.call2n {A : List Addr} {H0 H H' : Hp} {L : List Cell} {a b p : Addr} {o u o' u' x : HO} (S : SH A H0 H L) (i j : Nat) (e : L[i]? = some (a, o)) (e2 : L[j]? = some (b, u)) (im : Imm o = false) (im2 : Imm u = false) (k : Keep [a, b] H H') (h : H' a = some o') (h2 : H' b = some u') (n : H p = none) (h3 : H' p = some x) :
    SH A H0 H' ((p, x) :: (L.set i (a, o')).set j (b, u')) := Hsh.un (by simp (disch := k_dflt (
  refine Hsh.up ?_
  refine SH.add S (S.call2 i j e e2 im im2 k h h2) (fun c hc => key_live S ?_) n h3
  have hm : c.1 ∈ ((L.set i (a, o')).set j (b, u')).map (·.1) := List.mem_map_of_mem hc
  by_cases q : i = j
  · subst q
    rw [e] at e2
    cases e2
    rw [List.set_set] at hm
    rwa [map_set_key e] at hm
  · rw [map_set_key (o := u) (by rw [List.getElem?_set_ne q]; exact e2), map_set_key e] at hm
    exact hm
  )) only [↓Hsh.on])
theorem SH.call3n {A : List Addr} {H0 H H' : Hp} {L : List Cell} {a b c p q : Addr} {o u x o' u' x' y z : HO} (S : SH A H0 H L) (i j k : Nat) (e : L[i]? = some (a, o)) (e2 : L[j]? = some (b, u)) (e3 : L[k]? = some (c, x)) (n0 : i ≠ j) (n1 : k ≠ i) (n2 : k ≠ j) (im : Imm o = false) (im2 : Imm u = false) (im3 : Imm x = false)
    (kp : Keep [a, b, c] H H') (h1 : H' a = some o') (h2 : H' b = some u') (h3 : H' c = some x') (np : H p = none) (hp : H' p = some y) (nq : H q = none) (hq : H' q = some z) (pq : p ≠ q) : SH A H0 H' ((p, y) :: (q, z) :: ((L.set k (c, x')).set i (a, o')).set j (b, u')) := Hsh.un (by simp (disch := k_dflt (
  refine Hsh.up ?_
  have S3 := S.call3 i j k e e2 e3 n1 n2 im im2 im3 kp h1 h2 h3
  have hk : ∀ d ∈ ((L.set k (c, x')).set i (a, o')).set j (b, u'), H d.1 ≠ none := fun d hd => key_live S (by
    have hm : d.1 ∈ (((L.set k (c, x')).set i (a, o')).set j (b, u')).map (·.1) := List.mem_map_of_mem hd
    rw [map_set_key (o := u) (by rw [List.getElem?_set_ne n0, List.getElem?_set_ne n2]; exact e2), map_set_key (o := o) (by rw [List.getElem?_set_ne n1]; exact e), map_set_key e3] at hm
    exact hm)
  have S4 := SH.add S S3 hk nq hq
  have S5 := SH.add S S3 hk np hp
  refine ⟨fun d hd => ?_, ?_, S4.kp, fun d hd => ?_⟩
  · rcases List.mem_cons.mp hd with rfl | hd
    · exact hp
    · exact S4.hs d hd
  · rw [List.map_cons, List.nodup_cons]
    refine ⟨fun w => ?_, S4.nd⟩
    rw [List.map_cons] at w
    rcases List.mem_cons.mp w with w | w
    · exact pq w
    · have := S5.nd
      rw [List.map_cons, List.nodup_cons] at this
      exact this.1 w
  · rcases List.mem_cons.mp hd with rfl | hd
    · exact S5.ow _ List.mem_cons_self
    · exact S4.ow d hd
  )) only [↓Hsh.on])
/-- a cell that the block at the start did not hold is new -/
theorem SH.fresh {H H' : Hp} {B L : List Cell} (S : SH (B.map (·.1)) H H' L) {p : Addr} {o : HO} (e : (p, o) ∈ L) (n : ∀ a ∈ B.map (·.1), a ≠ p) : H p = none := (S.ow (p, o) e).resolve_left fun z => n p z rfl
end Q
set_option Elab.async false
set_option linter.all false
set_option maxRecDepth 100000
set_option maxHeartbeats 4000000
/-! Sets of ints: {a, b}, set of a list, sorted of a set. -/
namespace Q
open PySem PySem.Spec PyProof.Rows L2
/-- the object of a set without elements -/
abbrev noneIn (w : World) : Obj := ⟨.type "set", none, .set #[] 0 (.fresh 0 0 (!w.params.followText "set-order")), #[]⟩
section
variable {P : Program} {w : World} {A : Around} {E : Value → Shared → Prop} {s : Shared}
theorem new_set {Q : Value → Shared → Prop} (h : Q (.ref s.heap.objs.size) { s with heap := s.heap.push (noneIn w) }) : wpAny (model P w) A (newSet (.type "set")) Q E s := by
  unfold newSet setsByText
  refine wpAny_bind (wpAny_bind (wpAny_askSetting (wpAny_pure ?_)))
  dsimp only
  simp only [newObj]
  exact wpAny_bind (wpAny_alloc (wpAny_pure h))
/-- one element put in -/
theorem put_int {a : Addr} {S : Int → Bool} {n : Nat} {k : Int} {t : Tok} {Q : Bool → Shared → Prop} (R : SetR w s.heap a S n) (room : n + 1 < scanBound)
    (q : ∀ h' b, Heap.SameBut a s.heap h' → SetR w h' a (fun j => S j || decide (j = k)) (if S k = true then n else n + 1) → Q b { s with heap := h', toks := s.toks + 1 }) : wpAny (model P w) A (setAdd a (.int k t)) Q E s := by
  unfold setAdd
  refine wpAny_holding (wpAny_bind ((intKind P w).pyHash (intKind_is P w k t) ?_))
  exact setR_add_hashed (s := { s with toks := s.toks + 1 }) R room fun h' sb R' => q h' _ sb R'
/-- the display of plain elements: the set is made first -/
theorem disp_set {road : DisplayRoad} {b : Bool} {elts : List (Bool × Sem Value)} {ts : List (Sem Value)} {Q : Value → Shared → Prop} (hc : (road == .constants) = false) (hu : (road == .unsure) = false) (hs : elts.findIdx? (·.1) = none) (hl : elts.length ≤ 30) (hm : elts.map (·.2) = ts)
    (h : wpAny (model P w) A (evalAll ts) (fun vs s' => PySem.W.KdsFill (model P w) A E false s.heap.objs.size Q vs s') E { s with heap := s.heap.push (noneIn w) }) : wpAny (model P w) A (setDisplay road b elts) Q E s := by
  have hn : (if elts.length > 30 then 0 else (elts.findIdx? (·.1)).getD elts.length) = elts.length := by rw [if_neg (by omega), hs] <;> rfl
  unfold setDisplay
  try dsimp only
  rw [if_neg (by rw [hc]; exact Bool.false_ne_true)]
  refine wpAny_bind (new_set ?_)
  dsimp only
  rw [hn, List.take_length, List.drop_length, hm]
  refine wpAny_bind (wpAny_holding (wpAny_bind (wpAny_mono h (fun vs s1 h1 => ?_) fun _ _ x => x)))
  refine wpAny_bind (wpAny_holding (wpAny_bind (wpAny_mono (PySem.W.kds_for (fun x F s2 hx => ?_) vs s1 h1) (fun _ s2 h2 => ?_) fun _ _ x => x)))
  · refine wpAny_bind (wpAny_mono hx (fun _ s3 h3 => ?_) fun _ _ x => x)
    first | exact wpAny_pure ⟨rfl, h3⟩ | exact wpAny_bind (wpAny_pure (wpAny_pure ⟨rfl, h3⟩))
  · have h3 : Q (.ref s.heap.objs.size) s2 := by simpa [PySem.W.KdsFill] using h2
    rw [if_neg (by rw [hu]; exact Bool.false_ne_true)]
    refine wpAny_pure ?_
    rw [List.forIn_nil]
    exact wpAny_pure (wpAny_pure h3)
end
/-- {a, b} of two ints -/
def tSet2 (w : World) (ta tb : TE) : TE := fun σ H Q => ∀ p, H p = none → ta σ (upd H p (SetO w p (fun _ => false) 0)) fun x H1 => tb σ H1 fun y H2 => ∃ i j : Int, x = .int i ∧ y = .int j ∧ H2 p = some (SetO w p (fun _ => false) 0) ∧
  ∀ S n, (∀ k, S k = true ↔ k = i ∨ k = j) → n ≤ 2 → Q (.ref p) (upd H2 p (SetO w p S n))
theorem pe_set2 {X : Cx} {e1 e2 : Expr} {ta tb : TE} {pos : Pos} (h1 : PE X e1 ta) (h2 : PE X e2 tb) (hcd : PySem.W.kdsCode X.K X.env.code = true) (hp : [e1, e2].all PySem.W.kdsPlain = true := by rfl) : PE X (.Set [e1, e2] 0 pos) (tSet2 X.w ta tb) := by
  refine ⟨fun pins s σ H Q I h => ?_⟩
  rw [arm_eval_Set]
  refine wpAny_bind (wpAny_standAt (wpAny_bind (PySem.W.kds_main I.kIn hcd fun b => ?_)))
  rw [PySem.W.kds_star [e1, e2] hp, List.map_map]
  refine disp_set (ts := (evalEach [e1, e2] X.env).map fun t => do let v ← t; standAt pos; pure v) rfl rfl ?_ ?_ ?_ ?_
  · exact List.findIdx?_eq_none_iff.mpr fun x hx => by
      obtain ⟨t, _, rfl⟩ := List.mem_map.mp hx
      rfl
  · rw [List.length_map, PySem.W.kds_len]
    exact Nat.le_of_ble_eq_true rfl
  · rw [List.map_map]
    rfl
  have new : SetR X.w (s.heap.push (noneIn X.w)) s.heap.objs.size (fun _ => false) 0 := setR_fresh X.w
  have hfr : H s.heap.objs.size = none := I.hok.fresh (Nat.le_refl _)
  have I1 : Inv X pins σ (upd H s.heap.objs.size (SetO X.w s.heap.objs.size (fun _ => false) 0)) { s with heap := s.heap.push (noneIn X.w), toks := s.toks } := I.laid (t' := s.toks) (fun b u e => Heap.get?_push_of_some _ e) (Nat.le_refl _) (setO_new new)
  refine PySem.W.kds_all pos [e1, e2] _ _ ?_
  refine thn (h1.run pins _ σ _ _ I1 (h _ hfr)) fun v1 s1 ⟨x, H1, I2, r1, q1⟩ => ?_
  refine thn (h2.run pins s1 σ H1 _ I2 q1) fun v2 s2 ⟨y, H2, I3, r2, i, j, ex, ey, hset, q2⟩ => ?_
  subst ex
  subst ey
  obtain ⟨t1, rfl⟩ := r1
  obtain ⟨t2, rfl⟩ := r2
  refine PySem.W.kds_fill_cons (put_int (setO_get I3 hset) (by decide) fun h' _ sb R' => ?_)
  have there : ∀ {h : Heap} {S : Int → Bool} {n : Nat}, SetR X.w h s.heap.objs.size S n → ∃ u, h.get? s.heap.objs.size = some u := fun {h S n} ⟨o, _, _, _, ho, _⟩ => ⟨o, ho⟩
  have I4 : Inv X pins σ _ { s2 with heap := h', toks := s2.toks + 1 } := I3.write (e := s.heap.objs.size) (t' := s2.toks + 1) (by rw [hset]; trivial) (.inl rfl) (fun b u hb hu => (sb.2 b hb).trans hu) (there R') (setO_new R')
  refine PySem.W.kds_fill_cons (put_int (s := { s2 with heap := h', toks := s2.toks + 1 }) (setO_get I4 upd_same) (by decide) fun h2' _ sb2 R2 => ?_)
  have I5 := I4.write (e := s.heap.objs.size) (t' := s2.toks + 1 + 1) (by rw [upd_same]; trivial) (.inl rfl) (fun b u hb hu => (sb2.2 b hb).trans hu) (there R2) (setO_new R2)
  refine PySem.W.kds_fill_nil rfl ⟨.ref s.heap.objs.size, _, I5, rfl, ?_⟩
  rw [upd_upd]
  refine q2 _ _ (fun k => ?_) ?_
  · simp
  · split <;> simp
section
variable {P : Program} {w : World} {A : Around} {E : Value → Shared → Prop} {s : Shared}
/-- set(l) of a list of ints, at the value level -/
theorem set_of_list {l : Addr} {its : Array Value} (ns : List Int) {Q : Value → Shared → Prop} (hh : A.handled = none) (hl : s.heap.IsList l its) (hit : IntsAre its.toList ns) (hb : ns.length + 1 < scanBound)
    (h : ∀ (h' : Heap) (tk c : Nat), SetR w h' s.heap.objs.size (fun j => decide (j ∈ ns)) c → c ≤ ns.length → (∀ b o, s.heap.get? b = some o → h'.get? b = some o) → Q (.ref s.heap.objs.size) { s with heap := h', toks := tk }) :
    wpAny (model P w) A (call (.type "set") [.ref l]) Q E s := by
  have hn : its.size = ns.length := Array.length_toList.symm.trans (IntsAre.length hit)
  obtain ⟨cc, tl, hmro⟩ := F.called_set.mro
  have made := F.called_set.made
  have sub := F.called_set.sub
  refine wpAny_call (codeAny_of_tree (wpAny_pure (show _ ∧ _ from ⟨Code.quiet_builtin _ (by decide +kernel), codeAny_builtin F.entry_type_call ?_⟩)))
  rw [Around.under_plain (weight_type_call_type "set" [.ref l] []) rfl]
  have a1 := F.called_set.notType
  have a2 := F.called_set.canCreate
  have a3 := F.typeCall_set_1 (.ref l)
  repeat (any_goals (first | assumption | wp_step))
  have fresh := Heap.get?_push_size s.heap (o := noneIn w) rfl
  refine codeAny_mono (code_set_led1 (.ref l) (E := E) (Q₁ := fun obj s₁ => obj = .ref s.heap.objs.size ∧ s₁ = { s with heap := s.heap.push (noneIn w) }) ⟨rfl, rfl⟩) fun r s₁ hr => ?_
  cases r with
  | error e => exact hr
  | ok fl =>
    cases fl with
    | ret obj =>
      obtain ⟨rfl, rfl⟩ := hr
      have hT : Shared.TypeIs { s with heap := s.heap.push (noneIn w) } (.ref s.heap.objs.size) "set" := ⟨_, fresh, rfl⟩
      have b1 := F.called_set.init.lookup
      have b2 := F.called_set.init.bind (.ref s.heap.objs.size)
      repeat (any_goals (first | assumption | wp_step))
      refine codeAny_mono (codeAny_call_builtin (R := wants (fun r s₂ => r = .none ∧ ∃ h' tk c, s₂ = { s with heap := h', toks := tk } ∧ SetR w h' s.heap.objs.size (fun j => decide (j ∈ ns)) c ∧ c ≤ ns.length ∧ ∀ b o, s.heap.get? b = some o → h'.get? b = some o) E) F.called_set.init.plain F.entry_set_init (check_set_init_1 hT ?_)) fun r₂ s₂ hr₂ => ?_
      · have lL : (s.heap.push (noneIn w)).IsList l its := hl.push _
        obtain ⟨⟨ocls, odict, odata, oslots⟩, hol, hcl, nl, hdl⟩ := hl
        simp only at hcl hdl
        subst hcl
        subst hdl
        have c0 : (s.heap.push (noneIn w)).get? l = some ⟨.type "list", odict, .seq its nl, oslots⟩ := Heap.get?_push_of_some _ hol
        have c1 := F.sub_list_set
        have c2 := F.sub_list_frozenset
        have c3 : (Value.type "list" == Value.type "dict") = false := by decide
        unfold Builtin.«set.__init__» noKeywords Builtin.Frozenset.updateFrom
        generalize hPI : pyIter = PI
        wp_walk
        subst hPI
        refine wpAny_pyIter_list lL (wpAny_bind (wpAny_runValue ?_))
        have below : l < s.heap.objs.size := Heap.lt_size hol
        have hz : (s.heap.push (noneIn w)).objs.size = s.heap.objs.size + 1 := Heap.size_push ..
        have cold : A.in1.in1.in1.handled = none := by simp [hh]
        refine set_update_ints ((Walks.list cold _ l (Nat.ne_of_lt (by rw [hz]; exact Nat.lt_succ_of_lt below)) its).toS) s.heap.objs.size (fun z => by
          rw [hz] at z
          rcases List.mem_cons.mp z with z | z
          · exact absurd z (Nat.ne_of_lt (Nat.lt_succ_self _))
          · exact absurd (List.mem_singleton.mp z) (Nat.ne_of_gt below)) ns hn hb (fun i v hv => ?_) its.size 0 _ (by omega) (Nat.zero_le _) ⟨⟨_, Heap.get?_push_size _ rfl, rfl, rfl⟩, lL.push _⟩ ⟨0, Nat.le_refl 0, setR_new_at (Heap.get?_push_of_some _ fresh)⟩ ?_
        · have hi : i < ns.length := by rw [← hn]; exact (Array.getElem?_eq_some_iff.mp hv).1
          obtain ⟨t, e⟩ := PyProof.Rows.IntsAre.int_at hit i v (by rw [Array.getElem?_toList]; exact hv)
          exact ⟨ns[i], t, List.getElem?_eq_getElem hi, by rw [e, List.getD_eq_getElem?_getD, List.getElem?_eq_getElem hi] <;> rfl⟩
        · intro s' c hm hc hS
          obtain ⟨h', g2, d', tk', os'⟩ := s'
          obtain rfl : g2 = s.gens := hm.gens
          obtain rfl : d' = s.drawn := hm.drawn
          obtain rfl : os' = s.os := hm.os
          refine wpAny_pure (show wpAny _ _ (ret Value.none) _ _ _ from wpAny_pure ⟨rfl, h', tk', c, rfl, hS, hn ▸ hc, fun b o e => ?_⟩)
          have hb0 : b < s.heap.objs.size := Heap.lt_size e
          exact hm.heap b o (fun z => by
            rw [hz] at z
            rcases List.mem_cons.mp z with z | z
            · exact absurd z (Nat.ne_of_lt hb0)
            · exact absurd (List.mem_singleton.mp z) (Nat.ne_of_lt (Nat.lt_succ_of_lt hb0))) (Heap.get?_push_of_some _ (Heap.get?_push_of_some _ e))
      · cases r₂ with
        | error e => exact hr₂
        | ok fl₂ =>
          cases fl₂ with
          | ret r =>
            obtain ⟨rfl, h', tk, c, rfl, hS, hc, hk⟩ := hr₂
            repeat (any_goals (first | assumption | wp_step))
            exact h _ _ _ hS hc hk
          | _ => exact hr₂.elim
    | _ => exact hr.elim
end
def rSetI (K : PySem.W.Frag) (w : World) : List V → Hp → VK → Prop := fun vs H Q => ∃ (l : Addr) (ns : List Int), vs = [.ref l] ∧ SqL K H l (ns.map V.int) ∧ ns.length ≤ 60 ∧ ∀ (p : Addr) (S : Int → Bool) (n : Nat), H p = none → (∀ k, S k = true ↔ k ∈ ns) → n ≤ 60 → Q (.ref p) (upd H p (SetO w p S n))
theorem x_setI {X : Cx} (hc : X.calm = true) : CallR X (.type "set") (rSetI X.K X.w) := Hsh.un (by simp (disch := k_dflt (
  refine Hsh.up ?_
  intro pins s σ H vs us Q I r h
  obtain ⟨l, ns, rfl, hq, hl, q⟩ := h
  rw [Vals.ref1 r]
  obtain ⟨its, ri, pl, hz⟩ := I.list hq
  refine set_of_list ns (I.ok.hd hc) pl.isList (by simpa using ri.ints) (by unfold scanBound; omega) fun h' tk c hS hcl hk => ?_
  exact ⟨.ref _, upd H s.heap.objs.size (SetO X.w s.heap.objs.size (fun j => decide (j ∈ ns)) c), I.laid (t' := tk) hk (Nat.le_refl _) (setO_new hS), rfl, q _ _ c (I.hok.fresh (Nat.le_refl _)) (fun k => by simp) (by omega)⟩
  )) only [↓Hsh.on])
/-! ### readings of sets -/
section
variable {A : List Addr} {H0 H : Hp} {L L' : List Cell} {Q : VK} {v : V} {σ : L2.St} {K : PySem.W.Frag} {w : World} {te ta tb : TE}
def set2E (w : World) (p : Addr) (x y : V) (H : Hp) (Q : VK) : Prop := ∃ i j : Int, x = .int i ∧ y = .int j ∧ H p = some (SetO w p (fun _ => false) 0) ∧ ∀ S n, (∀ k, S k = true ↔ k = i ∨ k = j) → n ≤ 2 → Q (.ref p) (upd H p (SetO w p S n))
theorem h_set2 (S : SH A H0 H L) (h : ∀ p H', SH A H0 H' ((p, SetO w p (fun _ => false) 0) :: L) → ta σ H' fun x H1 => tb σ H1 fun y H2 => set2E w p x y H2 Q) : tSet2 w ta tb σ H Q := fun p hp => h p _ (S.new _ hp)
theorem h_set2E {p : Addr} {i : Nat} {a b : Int} (hS : SH A H0 H L) (e : L[i]? = some (p, SetO w p (fun _ => false) 0)) (h : ∀ S n H', (∀ k, S k = true ↔ k = a ∨ k = b) → n ≤ 2 → SH A H0 H' (L.set i (p, SetO w p S n)) → Q (.ref p) H') : set2E w p (.int a) (.int b) H Q :=
  ⟨a, b, rfl, rfl, hS.get i e, fun S n hk hn => h S n _ hk hn (hS.set i e rfl _)⟩
theorem h_setI2 {l : Addr} {a b : Int} (hS : SH A H0 H L) (h1 : SqL K H l [.int a, .int b]) (h : ∀ p S n H', (∀ k, S k = true ↔ k = a ∨ k = b) → n ≤ 60 → SH A H0 H' ((p, SetO w p S n) :: L) → Q (.ref p) H') : rSetI K w [.ref l] H Q :=
  ⟨l, [a, b], rfl, h1, Nat.le_of_ble_eq_true rfl, fun p S n hp hk hn => h p S n _ (fun k => by rw [hk]; simp) hn (hS.new _ hp)⟩
/-- two ints in their order, once each -/
def srt2 (a b : Int) : List Int := if a = b then [a] else if a < b then [a, b] else [b, a]
theorem asc_eq : ∀ {xs ys : List Int}, xs.Pairwise (· < ·) → ys.Pairwise (· < ·) → (∀ k, k ∈ xs ↔ k ∈ ys) → xs = ys
  | [], [], _, _, _ => rfl
  | [], y :: ys, _, _, h => nomatch (h y).mpr List.mem_cons_self
  | x :: xs, [], _, _, h => nomatch (h x).mp List.mem_cons_self
  | x :: xs, y :: ys, hx, hy, h => by
    rw [List.pairwise_cons] at hx hy
    have e : x = y := by
      rcases List.mem_cons.mp ((h x).mp List.mem_cons_self) with q | q
      · exact q
      · rcases List.mem_cons.mp ((h y).mpr List.mem_cons_self) with q2 | q2
        · exact q2.symm
        · have := hx.1 y q2
          have := hy.1 x q
          omega
    subst e
    rw [asc_eq hx.2 hy.2 fun k => ⟨fun hk => ?_, fun hk => ?_⟩]
    · rcases List.mem_cons.mp ((h k).mp (List.mem_cons_of_mem _ hk)) with q | q
      · have := hx.1 k hk
        omega
      · exact q
    · rcases List.mem_cons.mp ((h k).mpr (List.mem_cons_of_mem _ hk)) with q | q
      · have := hy.1 k hk
        omega
      · exact q
theorem srt2_asc (a b : Int) : (srt2 a b).Pairwise (· < ·) := Hsh.un (by simp (disch := k_dflt (
  refine Hsh.up ?_
  unfold srt2
  split
  · simp
  · split
    · simp; omega
    · simp; omega
  )) only [↓Hsh.on])
theorem srt2_mem (a b k : Int) : k ∈ srt2 a b ↔ k = a ∨ k = b := Hsh.un (by simp (disch := k_dflt (
  refine Hsh.up ?_
  unfold srt2
  split
  · simp; omega
  · split <;> simp <;> omega
  )) only [↓Hsh.on])
theorem srt2_le (a b : Int) : (srt2 a b).length ≤ 2 := Hsh.un (by simp (disch := k_dflt (
  refine Hsh.up ?_
  unfold srt2
  split
  · exact Nat.le_of_ble_eq_true rfl
  · split <;> exact Nat.le_of_ble_eq_true rfl
  )) only [↓Hsh.on])
theorem s_sortedSet {p : Addr} {S : Int → Bool} {n : Nat} {a b : Int} (h1 : H p = some (SetO w p S n)) (hk : ∀ k, S k = true ↔ k = a ∨ k = b) (hn : n < 64) (h : newO (.lst ((srt2 a b).map V.int)) 0 H Q) : rSortedSet w [.ref p] H Q := Hsh.un (by simp (disch := k_dflt (
  refine Hsh.up ?_
  refine ⟨p, S, n, rfl, h1, hn, fun ns q asc mem _ hq => ?_⟩
  rw [asc_eq asc (srt2_asc a b) fun k => by rw [mem, hk, srt2_mem]]
  exact h.2 q hq
  )) only [↓Hsh.on])
/-! ### tuples walked -/
def lcTG (K : PySem.W.Frag) (vs : List Nat) (g : TG) (tt : TT) (v : V) (te : TE) (σ : L2.St) (H : Hp) (Q : VK) : Prop := ∃ a, v = .ref a ∧ (∃ xs, SqT K H a xs) ∧ tLc (fun _ H k => k (Itt K a) H) g tt te vs σ H Q
theorem s_lcTG {g : TG} {tt : TT} {vs : List Nat} (h : tb σ H fun v H1 => lcTG K vs g tt v te σ H1 Q) : tLc (iTup K tb) g tt te vs σ H Q := h
theorem u_lcTG {g : TG} {tt : TT} {vs : List Nat} {a : Addr} {xs : List V} (hS : SH A H0 H L) (Pv : Addr → Nat → Hp → Prop) (h : SqT K H a xs) (h0 : ∀ D H', SH A H0 H' ((D, .lst []) :: L) → Pv D 0 H') (hl : ∀ D k H, k ≤ xs.length → Pv D k H → SqT K H a xs)
    (hs : ∀ D (k : Nat) x H, xs[k]? = some x → Pv D k H → g x (wipe σ vs) H fun σ2 H2 => wipe σ2 vs = wipe σ vs ∧ tt σ2 H2 fun b H3 => if b = true then te σ2 H3 (lcEnd D (Pv D (k + 1))) else Pv D (k + 1) H3) (hd : ∀ D H, Pv D xs.length H → Q (.ref D) H) : lcTG K vs g tt (.ref a) te σ H Q :=
  ⟨a, rfl, ⟨xs, h⟩, fun D hD => lc_tup (Pv D) (h0 D _ (hS.new _ hD)) (hl D) (fun k x H hk p => hs D k x H hk p) (fun H p => hd D H p)⟩
variable {g : TG} {ts : TS} {n b c : L2.St → Hp → Prop} {r : VK}
theorem u_forT {a : Addr} {xs : List V} (Pv : Nat → L2.St → Hp → Prop) (h : SqT K H a xs) (h0 : Pv 0 σ H) (hl : ∀ i σ H, i ≤ xs.length → Pv i σ H → SqT K H a xs)
    (hs : ∀ (i : Nat) (x : V) σ H, xs[i]? = some x → Pv i σ H → g x σ H fun σ2 H2 => ts ⟨Pv (i + 1), r, n, Pv (i + 1)⟩ σ2 H2) (hd : ∀ σ H, Pv xs.length σ H → n σ H) : forT K (.ref a) g ts ⟨n, r, b, c⟩ σ H :=
  ⟨a, rfl, ⟨xs, h⟩, for_tup Pv h0 hl (fun i x σ H e p => hs i x σ H e p) hd⟩
theorem s_unl {m : Nat} {a : Addr} {xs : List V} {gs : TGs} {S : L2.St → Hp → Prop} (h : SqL K H a xs) (l : xs.length = m) (q : gs xs σ H S) : gLst K m gs (.ref a) σ H S := ⟨a, xs, rfl, h, l, q⟩
theorem s_repT1 {l : Addr} {k : Int} {x : V} {n : Nat} (h1 : SqT K H l [x]) (c : 2 ≤ k ∧ k ≤ 1000) (e : k.toNat = n) (h : newO (.tup (List.replicate n x)) 0 H Q) : rMulX K (.ref l) (.int k) H Q := Hsh.un (by simp (disch := k_dflt (
  refine Hsh.up ?_
  refine .inr (.inr (.inr ⟨l, k, [x], rfl, rfl, h1, List.cons_ne_nil _ _, c.1, c.2, Nat.le_of_ble_eq_true rfl, fun p hp => ?_⟩))
  have q : (List.replicate k.toNat [x]).flatten = List.replicate n x := by rw [e]; simp
  rw [q]
  exact h.2 p hp
  )) only [↓Hsh.on])
/-! ### is this text a key of a module's table? -/
def KIn (K : PySem.W.Frag) (w : World) (d : Addr) (z : Str) (b : Bool) : Prop := (∃ es n, KDict K w d es n) ∧ ∃ r, PySem.W.nsIn K d z = some r ∧ r.isSome = b
def rInKD (K : PySem.W.Frag) (w : World) : R2 := fun x y H Q => ∃ z d b, x = .str z ∧ y = .ref d ∧ KIn K w d z b ∧ Q (.bl b) H
theorem x_inKD {X : Cx} : OpR X (compareOp .In) (rInKD X.K X.w) := Hsh.un (by simp (disch := k_dflt (
  refine Hsh.up ?_
  intro pins s σ H x y v u Q I rx ry h
  obtain ⟨z, d, b, rfl, rfl, ⟨⟨es, n, D⟩, r, e, rfl⟩, q⟩ := h
  exact op_in_kd D pins s σ H _ _ _ _ Q I rx ry ⟨z, r, rfl, rfl, e, q⟩
  )) only [↓Hsh.on])
theorem s_inKD {d : Addr} {z : Str} {b : Bool} (h : KIn K w d z b) (q : Q (.bl b) H) : rInKD K w (.str z) (.ref d) H Q := ⟨z, d, b, rfl, rfl, h, q⟩
def dinB (K : PySem.W.Frag) (a : Addr) (qs : List (Str × Bool)) : Bool := qs.all fun q => match PySem.W.nsIn K a q.1 with
  | some r => r.isSome == q.2
  | none => false
theorem din_ok {a : Addr} {qs : List (Str × Bool)} (h : ∃ es n, KDict K w a es n) (c : dinB K a qs = true) : ∀ q ∈ qs, KIn K w a q.1 q.2 := fun q hq => by
  have z := List.all_eq_true.mp c q hq
  cases e : PySem.W.nsIn K a q.1 with
  | none => rw [e] at z; cases z
  | some r => rw [e] at z; exact ⟨h, r, e, eq_of_beq z⟩
end
/-- a def's rule that tells of its code -/
theorem FunD_okC {P : Program} {w : World} {K : PySem.W.Frag} {mg : Str → Option Value} {base : Heap} {x qual : Str} {params : Arguments} {body : List Stmt} {scope : Scope} {dvs : List V} {kws : List (Str × V)} {f : Addr} {fd : FuncData} {CX : CXT} {N ps : List Str} {k : Nat} {sp : Sp}
    (F : FunD K x qual params body scope dvs kws f fd) (S : FnScope N ps scope) (len : ∀ vs H Q E, sp vs H Q E → vs.length = ps.length)
    (hb : ∀ (cdv : Value) (A : Around) (outer : List Env) (s : Shared) (H : Hp) (vs : List V) (Q : VK) (E : XK), PySem.W.codeIn K cdv qual = true → Room k (A.deeper (envOfC qual scope s.heap.objs.size f cdv)) → sp vs H Q E →
      ∃ t, PSs (cxOf CX P w K mg base N qual scope f cdv A outer s H E) body t ∧ t ⟨fun _ H' => Q .non H', Q, fun _ _ => False, fun _ _ => False⟩ (start N vs) H) : FnOk P w K mg base CX (k + 1) f fd ps sp := by
  obtain ⟨oc, od, dV, kV, doc, pm, an, cdv, ct, osl, rfl, lk, hcd, _, _⟩ := F.ex
  exact fn_of lk hcd S len fun A outer s H vs Q E hr hsp => hb cdv A outer s H vs Q E hcd hr hsp
end Q

namespace Law
open PySem L2 Q
/-! words: one step; arithmetic; a heap fact; a sequence -/
set_option hygiene false
local macro_rules | `(tactic| walk_at "ar") => `(tactic| first | (with_reducible assumption) | omega | decide | (constructor <;> omega) | (simp only [List.length_cons, List.length_nil, List.length_append, List.length_map, List.length_replicate, List.length_set] at *; omega))
local macro_rules | `(tactic| walk_at "sz") => `(tactic| first | exact Nat.le_of_ble_eq_true rfl | (rw [sizeLine_eq]; first | omega | (simp only [List.length_cons, List.length_nil, List.length_append, List.length_map, List.length_replicate, List.length_set]; omega)))
local macro_rules | `(tactic| walk_at "szs") => `(tactic| first | (rw [sizeLine_eq]; first | decide +kernel | omega) | walk_at "sz")
local macro_rules | `(tactic| walk_at "ix") => `(tactic| first | exact (rfl : (_ : List Cell)[0]? = _) | exact (rfl : (_ : List Cell)[1]? = _) | exact (rfl : (_ : List Cell)[2]? = _) | exact (rfl : (_ : List Cell)[3]? = _) | exact (rfl : (_ : List Cell)[4]? = _) | exact (rfl : (_ : List Cell)[5]? = _) | exact (rfl : (_ : List Cell)[6]? = _) | exact (rfl : (_ : List Cell)[7]? = _) | exact (rfl : (_ : List Cell)[8]? = _) | exact (rfl : (_ : List Cell)[9]? = _) | exact (rfl : (_ : List Cell)[10]? = _) | exact (rfl : (_ : List Cell)[11]? = _) | exact (rfl : (_ : List Cell)[12]? = _) | exact (rfl : (_ : List Cell)[13]? = _) | exact (rfl : (_ : List Cell)[14]? = _) | exact (rfl : (_ : List Cell)[15]? = _) | exact (rfl : (_ : List Cell)[16]? = _) | exact (rfl : (_ : List Cell)[17]? = _) | exact (rfl : (_ : List Cell)[18]? = _) | exact (rfl : (_ : List Cell)[19]? = _))
local macro_rules | `(tactic| walk_at "hp") => `(tactic| first | assumption | exact hS.get 0 rfl | exact hS.get 1 rfl | exact hS.get 2 rfl | exact hS.get 3 rfl | exact hS.get 4 rfl | exact hS.get 5 rfl | exact hS.get 6 rfl | exact hS.get 7 rfl | exact hS.get 8 rfl | exact hS.get 9 rfl | exact hS.get 10 rfl | exact hS.get 11 rfl | exact hS.get 12 rfl | exact hS.get 13 rfl | exact hS.get 14 rfl | exact hS.get 15 rfl | exact hS.ro (by assumption) | exact hS.imm (by assumption) rfl)
local macro_rules | `(tactic| walk_at "sq") => `(tactic| first | exact SqL.of (by walk_at "hp") | exact SqT.of (by walk_at "hp") | exact Scr.sq (Scr.keep (by assumption) hS.kp) | assumption | exact SqT_keep (by assumption) hS.kp)
local macro_rules | `(tactic| walk_at "lit") => `(tactic| first | exact atI_lit 0 (by omega) rfl | exact atI_lit 1 (by omega) rfl | exact atI_lit 2 (by omega) rfl | exact atI_lit 3 (by omega) rfl | exact atI_lit 4 (by omega) rfl | exact atI_lit 5 (by omega) rfl | exact atI_lit 6 (by omega) rfl | exact atI_lit 7 (by omega) rfl)
local macro_rules | `(tactic| walk_at "at") => `(tactic| first | exact rfl | exact atI_ints (by walk_at "ar") (by walk_at "ar") | exact atI_strs (by walk_at "ar") (by walk_at "ar") | exact atI_refs (by walk_at "ar") (by walk_at "ar") | walk_at "lit" | exact atI_ilit (by walk_at "ar") (by walk_at "ar") rfl | exact atI_in (by walk_at "ar") (by walk_at "ar"))
local macro_rules | `(tactic| walk_at "ij") => `(tactic| first | exact rfl | exact ixN_in (by walk_at "ar") (by walk_at "ar"))
local macro_rules | `(tactic| walk_at "ls") => `(tactic| first | ((try simp only [List.set_cons_zero, List.set_cons_succ, set_ints]); exact rfl))
local macro_rules | `(tactic| walk_at "sl") => `(tactic| repeat (first | exact List.Sublist.refl _ | refine List.Sublist.cons_cons _ ?_ | refine List.Sublist.cons _ ?_))
local macro_rules | `(tactic| walk_at "cl") => `(tactic| assumption)
local macro_rules | `(tactic| walk_at "na") => `(tactic| assumption)
local macro_rules | `(tactic| walk_at "pf") => `(tactic| first
  | (apply pf_new; (· exact rfl); (· (simp only [List.cons_append, List.nil_append]; exact rfl)))
  | (apply pf_set 0; (· exact rfl); (· walk_at "ls")) | (apply pf_set 1; (· exact rfl); (· walk_at "ls")) | (apply pf_set 2; (· exact rfl); (· walk_at "ls")) | (apply pf_set 3; (· exact rfl); (· walk_at "ls"))
  | (apply pf_set 4; (· exact rfl); (· walk_at "ls")) | (apply pf_set 5; (· exact rfl); (· walk_at "ls")) | (apply pf_set 6; (· exact rfl); (· walk_at "ls")) | (apply pf_set 7; (· exact rfl); (· walk_at "ls")))
local macro_rules | `(tactic| walk_at "nw") => `(tactic| (clear hS; rename SH _ _ _ _ => hS))
local macro_rules | `(tactic| walk_at "pv") => `(tactic| first | exact rfl | exact last_snoc _ _ | assumption)
local macro_rules | `(tactic| walk_at "dl") => `(tactic| first | (simp only [List.dropLast_concat]; exact rfl) | exact rfl)
local macro_rules | `(tactic| walk_at "tri") => `(tactic| first | rfl | decide | (exfalso; omega))
local macro_rules | `(tactic| walk_at "ty") => `(tactic| first | exact .base .non | exact .base (.bl _) | exact .base (.int _) | exact .base (.str _) | exact .base (.lst (by walk_at "hp")) | exact .base (.tup (by walk_at "hp")) | exact .base (.dK (by walk_at "hp")) | exact tyT (by walk_at "sq") | exact tyL (by walk_at "sq"))
local macro_rules | `(tactic| walk_at "dp") => `(tactic| first | exact .non | exact .bl _ | exact .int _ | exact .str _ | (apply Dp.lst; (· walk_at "sq"); (· walk_at "dps")) | (apply Dp.tup; (· walk_at "sq"); (· walk_at "dps")))
local macro_rules | `(tactic| walk_at "dps") => `(tactic| first | exact DpAll.nil | (apply DpAll.cons; (· walk_at "dp"); (· walk_at "dps")))
local macro_rules | `(tactic| walk_at "st") => `(tactic| first
  | (with_reducible refine s_seq ?_)
  | (with_reducible refine s_try ?_)
  | (with_reducible refine s_callS ?_)
  | ((with_reducible refine s_raise ?_); (try dsimp only))
  | ((with_reducible apply s_wGn); (· walk_at "em"))
  | ((with_reducible apply s_wGy); (· walk_at "em"); intro ea hea)
  | ((with_reducible apply s_wGa); (· walk_at "em"); (intro ea hea; (try simp only [List.set_cons_succ, List.set_cons_zero])))
  | ((with_reducible apply s_isE); (· walk_at "ec"); (· walk_at "ki"))
  | ((with_reducible apply s_isEt); (· walk_at "ec"); (· walk_at "ki"))
  | ((with_reducible apply s_ixD); (· walk_at "dk"))
  | ((with_reducible show tVar _ _ _ _); refine s_var rfl ?_)
  | (with_reducible refine s_C ?_)
  | (with_reducible refine s_op ?_)
  | (with_reducible refine s_asg ?_)
  | ((with_reducible apply s_gname); (· walk_at "ls"))
  | (with_reducible refine s_gsub ?_)
  | (with_reducible refine s_ifS ?_)
  | (with_reducible refine s_next ?_)
  | (with_reducible refine s_ret ?_)
  | (with_reducible refine s_retN ?_)
  | (with_reducible refine s_drop ?_)
  | (with_reducible refine s_test ?_)
  | (with_reducible refine s_tB ?_)
  | (with_reducible refine s_bl ?_)
  | ((with_reducible apply s_ixL); (· walk_at "sq"); (· walk_at "at"))
  | ((with_reducible apply s_ixT); (· walk_at "sq"); (· walk_at "at"))
  | (with_reducible refine s_addI ?_)
  | (with_reducible refine s_rI0 ?_)
  | ((with_reducible apply s_addS); (· walk_at "szs"))
  | ((with_reducible apply s_inT0); (· walk_at "sq"); (· rfl); (· rfl))
  | ((with_reducible apply s_inL0); (· walk_at "sq"); (· rfl); (· rfl))
  | ((with_reducible apply s_niT0); (· walk_at "sq"); (· rfl); (· rfl))
  | ((with_reducible apply s_niL0); (· walk_at "sq"); (· rfl); (· rfl))
  | ((with_reducible refine s_mulR ?_ ?_); (· walk_at "ar"))
  | ((with_reducible refine s_mulL ?_ ?_); (· walk_at "ar"))
  | ((with_reducible refine s_mod ?_ ?_); (· walk_at "ar"))
  | ((with_reducible refine s_div ?_ ?_ ?_); (· walk_at "ar"); (· walk_at "ar"))
  | ((with_reducible refine s_divX ?_ ?_ ?_); (· walk_at "ar"); (· walk_at "ar"))
  | ((with_reducible refine s_modN ?_ ?_); (· walk_at "ar"))
  | (with_reducible refine s_int ?_)
  | (with_reducible refine s_intB ?_)
  | (with_reducible refine s_CB ?_)
  | (with_reducible refine s_cons ?_)
  | (with_reducible refine s_nil ?_)
  | (with_reducible refine s_call ?_)
  | (with_reducible refine s_un ?_)
  | (with_reducible refine s_rU ?_)
  | ((with_reducible apply s_lenL); (· walk_at "sq"))
  | ((with_reducible apply s_lenT); (· walk_at "sq"))
  | (with_reducible refine s_eqI ?_)
  | (with_reducible refine s_neI ?_)
  | (with_reducible refine s_eqS ?_)
  | (with_reducible refine s_neS ?_)
  | (with_reducible refine s_eqB ?_)
  | (with_reducible refine s_neB ?_)
  | ((with_reducible apply s_eqD); (· walk_at "dp"); (· walk_at "dp"); (· exact rfl); (· exact rfl); (· first | exact (rfl : _ = true) | exact (rfl : _ = false) | exact rfl))
  | ((with_reducible apply s_neD); (· walk_at "dp"); (· walk_at "dp"); (· exact rfl); (· exact rfl); (· first | exact (rfl : _ = true) | exact (rfl : _ = false) | exact rfl))
  | (with_reducible refine s_isN ?_)
  | (with_reducible refine s_isNotN ?_)
  | (with_reducible refine s_isB ?_)
  | (with_reducible refine s_isNotB ?_)
  | ((with_reducible apply s_isT); (· walk_at "ty"); (· decide +kernel))
  | ((with_reducible apply s_isF); (· walk_at "ty"); (· decide +kernel))
  | (with_reducible refine s_forR1 ?_)
  | (with_reducible refine s_forR2 ?_)
  | (with_reducible refine s_forL ?_)
  | (with_reducible refine s_forT ?_)
  | (with_reducible refine s_and ?_)
  | (with_reducible refine s_or ?_)
  | (with_reducible refine s_not ?_)
  | (with_reducible refine s_andV ?_)
  | (with_reducible refine s_orV ?_)
  | (with_reducible refine s_notV ?_)
  | (with_reducible refine s_if ?_)
  | (with_reducible refine s_chain ?_)
  | (with_reducible refine s_tup ?_)
  | (with_reducible refine s_lst ?_)
  | ((with_reducible apply s_pow); (· exact ⟨by decide, by decide, by decide⟩); (· (simp only [Int.reduceToNat, Int.reducePow]; exact rfl)))
  | (with_reducible refine s_fld ?_)
  | ((with_reducible apply h_fld hS); (· walk_at "hp"); (· walk_at "cl"); (· walk_at "na"); (· exact rfl))
  | (with_reducible refine s_sfld ?_)
  | (with_reducible refine s_gattr ?_)
  | ((with_reducible apply s_gtup); (· walk_at "sq"); (· exact rfl))
  | (with_reducible refine s_gcons ?_)
  | (with_reducible refine s_gnil ?_)
  | (with_reducible refine s_bm0 ?_)
  | (with_reducible refine s_bm ?_)
  | ((with_reducible apply s_bmL); (· walk_at "sq"))
  | ((with_reducible apply s_bmT); (· walk_at "tt"); (· exact rfl))
  | (with_reducible refine s_bmS ?_)
  | ((with_reducible apply s_sum); (· walk_at "sq"))
  | ((with_reducible apply s_all); (· walk_at "sq"))
  | ((with_reducible apply s_any); (· walk_at "sq"))
  | ((with_reducible apply s_maxL2); (· walk_at "sq"))
  | ((with_reducible apply s_minL2); (· walk_at "sq"))
  | ((with_reducible apply s_methO); (· walk_at "hp"); (· exact rfl))
  | ((with_reducible apply s_propO); (· walk_at "hp"))
  | (with_reducible refine h_make hS (fun x dx H1 hS1 => ?_); walk_at "nw")
  | (with_reducible refine s_abs ?_)
  | (with_reducible refine s_max2 ?_)
  | (with_reducible refine s_min2 ?_)
  | ((with_reducible refine h_new hS ?_ (fun p H1 hS1 hp => ?_)); (· walk_at "sz"); clear hS; rename SH _ _ _ _ => hS)
  | ((with_reducible apply s_rep1); (· walk_at "hp"); (· walk_at "ar"); (· first | (simp only [Int.reduceToNat]; exact rfl) | exact rfl))
  | ((with_reducible apply s_rep); (· walk_at "hp"); (· walk_at "ar"); (· walk_at "sz"); (· exact rfl))
  | ((with_reducible apply s_cat); (· walk_at "hp"); (· walk_at "hp"); (· walk_at "sz"); (· exact rfl))
  | ((with_reducible apply s_catA0); (· walk_at "sq"); (· walk_at "sq"); (· exact List.cons_ne_nil _ _); (· walk_at "sz"))
  | ((with_reducible apply s_catA); (· walk_at "sq"); (· walk_at "sq"); (· exact List.cons_ne_nil _ _); (· exact List.cons_ne_nil _ _); (· walk_at "sz"); (· exact rfl))
  | ((with_reducible apply s_listO); (· walk_at "sq"))
  | ((with_reducible apply s_listT); (· walk_at "sq"))
  | ((with_reducible apply s_tupL); (· walk_at "sq"))
  | ((with_reducible apply s_tupT); (· walk_at "sq"))
  | ((with_reducible apply h_setL hS); (· walk_at "ix"); (· walk_at "ij"); (· walk_at "ls"); (· walk_at "ls"); intro H1 hS1; clear hS; rename SH _ _ _ _ => hS)
  | ((with_reducible apply h_sfld hS); (· walk_at "ix"); (· walk_at "cl"); (· walk_at "na"); (· exact Nat.le_of_ble_eq_true rfl); (· walk_at "pf"); (· walk_at "ls"); intro H1 hS1; walk_at "nw")
  | ((with_reducible apply h_append hS); (· walk_at "ix"); (· walk_at "sz"); (· first | exact rfl); (· walk_at "ls"); intro H1 hS1; walk_at "nw")
  | ((with_reducible apply h_pop0 hS); (· walk_at "ix"); (· walk_at "ar"); intro pn pms H1 hpn hS1; walk_at "nw"; simp only [List.set_cons_zero, List.set_cons_succ] at hS)
  | ((with_reducible apply h_pop hS); (· walk_at "ix"); (· walk_at "pv"); (· walk_at "dl"); (· walk_at "ls"); intro H1 hS1; walk_at "nw")
  | (with_reducible refine s_sl ?_)
  | (with_reducible refine s_part ?_)
  | (with_reducible refine s_partI ?_)
  | (with_reducible refine s_noPart ?_)
  | ((with_reducible apply s_slL); (· walk_at "sq"); (· exact rfl))
  | (with_reducible refine s_lcR1 ?_)
  | (with_reducible refine s_lcL ?_)
  | (with_reducible refine s_lcLG ?_)
  | ((with_reducible refine s_wipe ?_ ?_); (· exact rfl))
  | (with_reducible refine s_tYes ?_)
  | ((with_reducible apply h_lcEnd hS); (· walk_at "ix"); (· walk_at "sz"); (· first | exact rfl); (· walk_at "ls"); intro H1 hS1; walk_at "nw")
  | (with_reducible refine i_not ?_)
  | ((with_reducible refine i_pos ?_ ?_); (· first | rfl | decide | exact decide_eq_true (by omega)))
  | ((with_reducible refine i_neg ?_ ?_); (· first | rfl | decide | exact decide_eq_false (by omega)))
  | (with_reducible refine i_dec (fun hc => ?_) (fun hc => ?_))
  | (with_reducible refine i_gen (fun hc => ?_) (fun hc => ?_)))
def top (i : Nat) : Stmt := PySem.Challenge.pw_windowada_k85_tables_of_instructions.main.body.getD i (.Pass ⟨0, 0, 0, 0⟩)
abbrev s_Unit_init__ : Stmt := inClass (top 6) 0
abbrev s_operands : Stmt := top 7
abbrev s_reads : Stmt := top 8
abbrev s_writes : Stmt := top 9
abbrev s_can_raise : Stmt := top 10
abbrev s_followers : Stmt := top 11
abbrev s_region_of : Stmt := top 12
abbrev s_z_pick : Stmt := top 14
abbrev s_z_same : Stmt := top 15
abbrev s_z_operand : Stmt := top 16
abbrev s_z_target : Stmt := top 17
abbrev s_z_plain_row : Stmt := top 18
abbrev s_z_row : Stmt := top 19
abbrev s_z_regions : Stmt := top 20
abbrev s_law : Stmt := top 21
abbrev N_Unit_init__ : List Str := ["self", "parent", "arguments", "results", "registers", "cells", "code", "regions"]
theorem st_Unit_init__ (a0 a1 a2 a3 a4 a5 a6 a7 : V) : L2.start N_Unit_init__ [a0, a1, a2, a3, a4, a5, a6, a7] = [some a0, some a1, some a2, some a3, some a4, some a5, some a6, some a7] := rfl
theorem sc_Unit_init__ : FnScope N_Unit_init__ ["self", "parent", "arguments", "results", "registers", "cells", "code", "regions"] (defScope s_Unit_init__) := ⟨rfl, rfl, rfl, by decide +kernel, rfl, by decide +kernel, by decide +kernel⟩
abbrev N_operands : List Str := ["instruction", "name"]
theorem st_operands (a0 : V) : L2.start N_operands [a0] = [some a0, none] := rfl
theorem sc_operands : FnScope N_operands ["instruction"] (defScope s_operands) := ⟨rfl, rfl, rfl, by decide +kernel, rfl, by decide +kernel, by decide +kernel⟩
abbrev N_reads : List Str := ["instruction", "operand"]
theorem st_reads (a0 : V) : L2.start N_reads [a0] = [some a0, none] := rfl
theorem sc_reads : FnScope N_reads ["instruction"] (defScope s_reads) := ⟨rfl, rfl, rfl, by decide +kernel, rfl, by decide +kernel, by decide +kernel⟩
abbrev N_writes : List Str := ["instruction", "name"]
theorem st_writes (a0 : V) : L2.start N_writes [a0] = [some a0, none] := rfl
theorem sc_writes : FnScope N_writes ["instruction"] (defScope s_writes) := ⟨rfl, rfl, rfl, by decide +kernel, rfl, by decide +kernel, by decide +kernel⟩
abbrev N_can_raise : List Str := ["instruction"]
theorem st_can_raise (a0 : V) : L2.start N_can_raise [a0] = [some a0] := rfl
theorem sc_can_raise : FnScope N_can_raise ["instruction"] (defScope s_can_raise) := ⟨rfl, rfl, rfl, by decide +kernel, rfl, by decide +kernel, by decide +kernel⟩
abbrev N_followers : List Str := ["instruction", "index", "name"]
theorem st_followers (a0 a1 : V) : L2.start N_followers [a0, a1] = [some a0, some a1, none] := rfl
theorem sc_followers : FnScope N_followers ["instruction", "index"] (defScope s_followers) := ⟨rfl, rfl, rfl, by decide +kernel, rfl, by decide +kernel, by decide +kernel⟩
abbrev N_region_of : List Str := ["unit", "index", "region"]
theorem st_region_of (a0 a1 : V) : L2.start N_region_of [a0, a1] = [some a0, some a1, none] := rfl
theorem sc_region_of : FnScope N_region_of ["unit", "index"] (defScope s_region_of) := ⟨rfl, rfl, rfl, by decide +kernel, rfl, by decide +kernel, by decide +kernel⟩
abbrev N_z_pick : List Str := ["_law_state", "_law_limit", "_law_value", "_law_cell", "_law_mixed"]
theorem st_z_pick (a0 a1 : V) : L2.start N_z_pick [a0, a1] = [some a0, some a1, none, none, none] := rfl
theorem sc_z_pick : FnScope N_z_pick ["_law_state", "_law_limit"] (defScope s_z_pick) := ⟨rfl, rfl, rfl, by decide +kernel, rfl, by decide +kernel, by decide +kernel⟩
abbrev N_z_same : List Str := ["_law_actual", "_law_due", "_law_k"]
theorem st_z_same (a0 a1 : V) : L2.start N_z_same [a0, a1] = [some a0, some a1, none] := rfl
theorem sc_z_same : FnScope N_z_same ["_law_actual", "_law_due"] (defScope s_z_same) := ⟨rfl, rfl, rfl, by decide +kernel, rfl, by decide +kernel, by decide +kernel⟩
abbrev N_z_operand : List Str := ["_law_state", "_law_choice"]
theorem st_z_operand (a0 : V) : L2.start N_z_operand [a0] = [some a0, none] := rfl
theorem sc_z_operand : FnScope N_z_operand ["_law_state"] (defScope s_z_operand) := ⟨rfl, rfl, rfl, by decide +kernel, rfl, by decide +kernel, by decide +kernel⟩
abbrev N_z_target : List Str := ["_law_state", "_law_index", "_law_choice"]
theorem st_z_target (a0 a1 : V) : L2.start N_z_target [a0, a1] = [some a0, some a1, none] := rfl
theorem sc_z_target : FnScope N_z_target ["_law_state", "_law_index"] (defScope s_z_target) := ⟨rfl, rfl, rfl, by decide +kernel, rfl, by decide +kernel, by decide +kernel⟩
abbrev N_z_plain_row : List Str := ["_law_state", "_law_name", "_law_index", "_law_x", "_law_target_here", "_law_k", "_law_values", "_law_y"]
theorem st_z_plain_row (a0 a1 a2 : V) : L2.start N_z_plain_row [a0, a1, a2] = [some a0, some a1, some a2, none, none, none, none, none] := rfl
theorem sc_z_plain_row : FnScope N_z_plain_row ["_law_state", "_law_name", "_law_index"] (defScope s_z_plain_row) := ⟨rfl, rfl, rfl, by decide +kernel, rfl, by decide +kernel, by decide +kernel⟩
abbrev N_z_row : List Str := ["_law_state", "_law_name", "_law_index", "_law_d", "_law_x", "_law_y", "_law_place", "_law_behind", "_law_k", "_law_arguments", "_law_start", "_law_results"]
theorem st_z_row (a0 a1 a2 : V) : L2.start N_z_row [a0, a1, a2] = [some a0, some a1, some a2, none, none, none, none, none, none, none, none, none] := rfl
theorem sc_z_row : FnScope N_z_row ["_law_state", "_law_name", "_law_index"] (defScope s_z_row) := ⟨rfl, rfl, rfl, by decide +kernel, rfl, by decide +kernel, by decide +kernel⟩
abbrev N_z_regions : List Str := ["_law_state", "_law_regions_here", "_law_k", "_law_start", "_law_stop"]
theorem st_z_regions (a0 : V) : L2.start N_z_regions [a0] = [some a0, none, none, none, none] := rfl
theorem sc_z_regions : FnScope N_z_regions ["_law_state"] (defScope s_z_regions) := ⟨rfl, rfl, rfl, by decide +kernel, rfl, by decide +kernel, by decide +kernel⟩
abbrev N_law : List Str := ["_law_script", "_law_state", "_law_names", "_law_name", "_law_index", "_law_instruction", "_law_given", "_law_written", "_law_behind", "_law_raising", "_law_operand_here", "_law_read", "_law_regions_here", "_law_unit", "_law_at", "_law_taken", "_law_region", "_law_k"]
theorem st_law (a0 : V) : L2.start N_law [a0] = [some a0, none, none, none, none, none, none, none, none, none, none, none, none, none, none, none, none, none] := rfl
theorem sc_law : FnScope N_law ["_law_script"] (defScope s_law) := ⟨rfl, rfl, rfl, by decide +kernel, rfl, by decide +kernel, by decide +kernel⟩
structure Env (w : World) (K : PySem.W.Frag) (mg : Str → Option Value) : Prop where
  mg_operands : mg "operands" = some (.ref (He.ga K "operands"))
  mg_reads : mg "reads" = some (.ref (He.ga K "reads"))
  mg_writes : mg "writes" = some (.ref (He.ga K "writes"))
  mg_can_raise : mg "can_raise" = some (.ref (He.ga K "can_raise"))
  mg_followers : mg "followers" = some (.ref (He.ga K "followers"))
  mg_region_of : mg "region_of" = some (.ref (He.ga K "region_of"))
  mg_z_pick : mg "_law_pick" = some (.ref (He.ga K "_law_pick"))
  mg_z_same : mg "_law_same" = some (.ref (He.ga K "_law_same"))
  mg_z_operand : mg "_law_operand" = some (.ref (He.ga K "_law_operand"))
  mg_z_target : mg "_law_target" = some (.ref (He.ga K "_law_target"))
  mg_z_plain_row : mg "_law_plain_row" = some (.ref (He.ga K "_law_plain_row"))
  mg_z_row : mg "_law_row" = some (.ref (He.ga K "_law_row"))
  mg_z_regions : mg "_law_regions" = some (.ref (He.ga K "_law_regions"))
  mg_law : mg "law" = some (.ref (He.ga K "law"))
  mg_Unit : mg "Unit" = some (.ref (He.ga K "Unit"))
  cl_Unit : Cls K (He.ga K "Unit")
  mk_Unit : Mk K (He.ga K "Unit") (He.ma K (He.ga K "Unit") "__init__")
  na_Unit_parent : NoAttr K (He.ga K "Unit") "parent"
  na_Unit_arguments : NoAttr K (He.ga K "Unit") "arguments"
  na_Unit_results : NoAttr K (He.ga K "Unit") "results"
  na_Unit_registers : NoAttr K (He.ga K "Unit") "registers"
  na_Unit_cells : NoAttr K (He.ga K "Unit") "cells"
  na_Unit_code : NoAttr K (He.ga K "Unit") "code"
  na_Unit_regions : NoAttr K (He.ga K "Unit") "regions"
  mg_ARITHMETIC : mg "ARITHMETIC" = some (.ref (He.ga K "ARITHMETIC"))
  dk_ARITHMETIC : ∀ q ∈ ([("add", .str "+"), ("sub", .str "-"), ("mul", .str "*"), ("div", .str "/"), ("mod", .str "mod"), ("rem", .str "rem")] : List (Str × He.Dv)), KDct K w (He.ga K "ARITHMETIC") q.1 (q.2.v K)
  di_ARITHMETIC : ∀ q ∈ ([("tick", false), ("move", false), ("neg", false), ("abs", false), ("add", true), ("sub", true), ("mul", true), ("div", true), ("mod", true), ("rem", true), ("less", false), ("equal", false), ("check", false), ("load", false), ("store", false), ("jump", false), ("branch", false), ("call", false), ("return", false), ("raise", false), ("again", false), ("put", false), ("get", false)] : List (Str × Bool)), KIn K w (He.ga K "ARITHMETIC") q.1 q.2
  mg_SIGNS : mg "SIGNS" = some (.ref (He.ga K "SIGNS"))
  tp_SIGNS : ∀ H : Hp, SqT K H (He.ga K "SIGNS") [V.str "neg", V.str "abs"]
  mg_RELATIONS : mg "RELATIONS" = some (.ref (He.ga K "RELATIONS"))
  tp_RELATIONS : ∀ H : Hp, SqT K H (He.ga K "RELATIONS") [V.str "less", V.str "equal"]
  mg_RAISING : mg "RAISING" = some (.ref (He.ga K "RAISING"))
  tp_RAISING : ∀ H : Hp, SqT K H (He.ga K "RAISING") [V.str "neg", V.str "abs", V.str "add", V.str "sub", V.str "mul", V.str "div", V.str "mod", V.str "rem", V.str "check", V.str "call", V.str "raise", V.str "again", V.str "get"]
  mg_ENDING : mg "ENDING" = some (.ref (He.ga K "ENDING"))
  tp_ENDING : ∀ H : Hp, SqT K H (He.ga K "ENDING") [V.str "jump", V.str "return", V.str "raise", V.str "again"]
  z_all : mg "all" = none
  z_bool : mg "bool" = none
  z_int : mg "int" = none
  z_isinstance : mg "isinstance" = none
  z_len : mg "len" = none
  z_list : mg "list" = none
  z_range : mg "range" = none
  z_set : mg "set" = none
  z_sorted : mg "sorted" = none
  z_str : mg "str" = none
  z_tuple : mg "tuple" = none
  fd_Unit_init__ : ∃ fd, FunD K "__init__" "Unit.__init__" (defArgs s_Unit_init__) (defBody s_Unit_init__) (defScope s_Unit_init__) [] [] (He.fAd K ("Unit", some "__init__")) fd
  fd_operands : ∃ fd, FunD K "operands" "operands" (defArgs s_operands) (defBody s_operands) (defScope s_operands) [] [] (He.fAd K ("operands", none)) fd
  fd_reads : ∃ fd, FunD K "reads" "reads" (defArgs s_reads) (defBody s_reads) (defScope s_reads) [] [] (He.fAd K ("reads", none)) fd
  fd_writes : ∃ fd, FunD K "writes" "writes" (defArgs s_writes) (defBody s_writes) (defScope s_writes) [] [] (He.fAd K ("writes", none)) fd
  fd_can_raise : ∃ fd, FunD K "can_raise" "can_raise" (defArgs s_can_raise) (defBody s_can_raise) (defScope s_can_raise) [] [] (He.fAd K ("can_raise", none)) fd
  fd_followers : ∃ fd, FunD K "followers" "followers" (defArgs s_followers) (defBody s_followers) (defScope s_followers) [] [] (He.fAd K ("followers", none)) fd
  fd_region_of : ∃ fd, FunD K "region_of" "region_of" (defArgs s_region_of) (defBody s_region_of) (defScope s_region_of) [] [] (He.fAd K ("region_of", none)) fd
  fd_z_pick : ∃ fd, FunD K "_law_pick" "_law_pick" (defArgs s_z_pick) (defBody s_z_pick) (defScope s_z_pick) [] [] (He.fAd K ("_law_pick", none)) fd
  fd_z_same : ∃ fd, FunD K "_law_same" "_law_same" (defArgs s_z_same) (defBody s_z_same) (defScope s_z_same) [] [] (He.fAd K ("_law_same", none)) fd
  fd_z_operand : ∃ fd, FunD K "_law_operand" "_law_operand" (defArgs s_z_operand) (defBody s_z_operand) (defScope s_z_operand) [] [] (He.fAd K ("_law_operand", none)) fd
  fd_z_target : ∃ fd, FunD K "_law_target" "_law_target" (defArgs s_z_target) (defBody s_z_target) (defScope s_z_target) [] [] (He.fAd K ("_law_target", none)) fd
  fd_z_plain_row : ∃ fd, FunD K "_law_plain_row" "_law_plain_row" (defArgs s_z_plain_row) (defBody s_z_plain_row) (defScope s_z_plain_row) [] [] (He.fAd K ("_law_plain_row", none)) fd
  fd_z_row : ∃ fd, FunD K "_law_row" "_law_row" (defArgs s_z_row) (defBody s_z_row) (defScope s_z_row) [] [] (He.fAd K ("_law_row", none)) fd
  fd_z_regions : ∃ fd, FunD K "_law_regions" "_law_regions" (defArgs s_z_regions) (defBody s_z_regions) (defScope s_z_regions) [] [] (He.fAd K ("_law_regions", none)) fd
  fd_law : ∃ fd, FunD K "law" "law" (defArgs s_law) (defBody s_law) (defScope s_law) [] [] (He.fAd K ("law", none)) fd
def fa : List He.Fa := [.glo "operands", .glo "reads", .glo "writes", .glo "can_raise", .glo "followers", .glo "region_of", .glo "_law_pick", .glo "_law_same", .glo "_law_operand", .glo "_law_target", .glo "_law_plain_row", .glo "_law_row", .glo "_law_regions", .glo "law", .glo "Unit", .cls "Unit", .mkr "Unit", .noat "Unit" "parent", .noat "Unit" "arguments", .noat "Unit" "results", .noat "Unit" "registers", .noat "Unit" "cells", .noat "Unit" "code", .noat "Unit" "regions", .glo "ARITHMETIC", .glo "SIGNS", .glo "RELATIONS", .glo "RAISING", .glo "ENDING", .free "all", .free "bool", .free "int", .free "isinstance", .free "len", .free "list", .free "range", .free "set", .free "sorted", .free "str", .free "tuple"]
def fn : List He.DefD := [⟨("Unit", some "__init__"), "__init__", "Unit.__init__", defArgs s_Unit_init__, defBody s_Unit_init__, defScope s_Unit_init__, [], []⟩, ⟨("operands", none), "operands", "operands", defArgs s_operands, defBody s_operands, defScope s_operands, [], []⟩, ⟨("reads", none), "reads", "reads", defArgs s_reads, defBody s_reads, defScope s_reads, [], []⟩, ⟨("writes", none), "writes", "writes", defArgs s_writes, defBody s_writes, defScope s_writes, [], []⟩, ⟨("can_raise", none), "can_raise", "can_raise", defArgs s_can_raise, defBody s_can_raise, defScope s_can_raise, [], []⟩, ⟨("followers", none), "followers", "followers", defArgs s_followers, defBody s_followers, defScope s_followers, [], []⟩, ⟨("region_of", none), "region_of", "region_of", defArgs s_region_of, defBody s_region_of, defScope s_region_of, [], []⟩, ⟨("_law_pick", none), "_law_pick", "_law_pick", defArgs s_z_pick, defBody s_z_pick, defScope s_z_pick, [], []⟩, ⟨("_law_same", none), "_law_same", "_law_same", defArgs s_z_same, defBody s_z_same, defScope s_z_same, [], []⟩, ⟨("_law_operand", none), "_law_operand", "_law_operand", defArgs s_z_operand, defBody s_z_operand, defScope s_z_operand, [], []⟩, ⟨("_law_target", none), "_law_target", "_law_target", defArgs s_z_target, defBody s_z_target, defScope s_z_target, [], []⟩, ⟨("_law_plain_row", none), "_law_plain_row", "_law_plain_row", defArgs s_z_plain_row, defBody s_z_plain_row, defScope s_z_plain_row, [], []⟩, ⟨("_law_row", none), "_law_row", "_law_row", defArgs s_z_row, defBody s_z_row, defScope s_z_row, [], []⟩, ⟨("_law_regions", none), "_law_regions", "_law_regions", defArgs s_z_regions, defBody s_z_regions, defScope s_z_regions, [], []⟩, ⟨("law", none), "law", "law", defArgs s_law, defBody s_law, defScope s_law, [], []⟩]
def exl : List (PySem.W.Frag → Bool) := [(fun K => He.valsB K (He.ga K "ARITHMETIC") [("add", .str "+"), ("sub", .str "-"), ("mul", .str "*"), ("div", .str "/"), ("mod", .str "mod"), ("rem", .str "rem")]), (fun K => dinB K (He.ga K "ARITHMETIC") [("tick", false), ("move", false), ("neg", false), ("abs", false), ("add", true), ("sub", true), ("mul", true), ("div", true), ("mod", true), ("rem", true), ("less", false), ("equal", false), ("check", false), ("load", false), ("store", false), ("jump", false), ("branch", false), ("call", false), ("return", false), ("raise", false), ("again", false), ("put", false), ("get", false)]), (fun K => He.tupB K "SIGNS" [.str "neg", .str "abs"]), (fun K => He.tupB K "RELATIONS" [.str "less", .str "equal"]), (fun K => He.tupB K "RAISING" [.str "neg", .str "abs", .str "add", .str "sub", .str "mul", .str "div", .str "mod", .str "rem", .str "check", .str "call", .str "raise", .str "again", .str "get"]), (fun K => He.tupB K "ENDING" [.str "jump", .str "return", .str "raise", .str "again"])]
def ex (K : PySem.W.Frag) : Bool := exl.all fun f => f K
def ts : List He.Tab := [((fun K => He.ga K "ARITHMETIC"), ["add", "sub", "mul", "div", "mod", "rem"])]
def prl : List He.DefD := []
theorem env_mk {w : World} {K : PySem.W.Frag} {h : Heap} {mg : Str → Option Value} (X : K.In h) (G : h.Ns mainGlobals mg) (c : SaysP fa fn ts ex prl w h K) : Env w K mg := ⟨
  He.glo_ok X G (c.x.t.d.fact 0 rfl),
  He.glo_ok X G (c.x.t.d.fact 1 rfl),
  He.glo_ok X G (c.x.t.d.fact 2 rfl),
  He.glo_ok X G (c.x.t.d.fact 3 rfl),
  He.glo_ok X G (c.x.t.d.fact 4 rfl),
  He.glo_ok X G (c.x.t.d.fact 5 rfl),
  He.glo_ok X G (c.x.t.d.fact 6 rfl),
  He.glo_ok X G (c.x.t.d.fact 7 rfl),
  He.glo_ok X G (c.x.t.d.fact 8 rfl),
  He.glo_ok X G (c.x.t.d.fact 9 rfl),
  He.glo_ok X G (c.x.t.d.fact 10 rfl),
  He.glo_ok X G (c.x.t.d.fact 11 rfl),
  He.glo_ok X G (c.x.t.d.fact 12 rfl),
  He.glo_ok X G (c.x.t.d.fact 13 rfl),
  He.glo_ok X G (c.x.t.d.fact 14 rfl),
  He.cls_ok (c.x.t.d.fact 15 rfl),
  He.mkr_ok (c.x.t.d.fact 16 rfl),
  He.noat_ok (c.x.t.d.fact 17 rfl),
  He.noat_ok (c.x.t.d.fact 18 rfl),
  He.noat_ok (c.x.t.d.fact 19 rfl),
  He.noat_ok (c.x.t.d.fact 20 rfl),
  He.noat_ok (c.x.t.d.fact 21 rfl),
  He.noat_ok (c.x.t.d.fact 22 rfl),
  He.noat_ok (c.x.t.d.fact 23 rfl),
  He.glo_ok X G (c.x.t.d.fact 24 rfl),
  kdct_ok (c.x.t.tab 0 rfl) (exget c.x.more 0 rfl),
  din_ok (c.x.t.tab 0 rfl) (exget c.x.more 1 rfl),
  He.glo_ok X G (c.x.t.d.fact 25 rfl),
  fun H => He.tupB_ok (exget c.x.more 2 rfl) H,
  He.glo_ok X G (c.x.t.d.fact 26 rfl),
  fun H => He.tupB_ok (exget c.x.more 3 rfl) H,
  He.glo_ok X G (c.x.t.d.fact 27 rfl),
  fun H => He.tupB_ok (exget c.x.more 4 rfl) H,
  He.glo_ok X G (c.x.t.d.fact 28 rfl),
  fun H => He.tupB_ok (exget c.x.more 5 rfl) H,
  He.free_ok X G (c.x.t.d.fact 29 rfl),
  He.free_ok X G (c.x.t.d.fact 30 rfl),
  He.free_ok X G (c.x.t.d.fact 31 rfl),
  He.free_ok X G (c.x.t.d.fact 32 rfl),
  He.free_ok X G (c.x.t.d.fact 33 rfl),
  He.free_ok X G (c.x.t.d.fact 34 rfl),
  He.free_ok X G (c.x.t.d.fact 35 rfl),
  He.free_ok X G (c.x.t.d.fact 36 rfl),
  He.free_ok X G (c.x.t.d.fact 37 rfl),
  He.free_ok X G (c.x.t.d.fact 38 rfl),
  He.free_ok X G (c.x.t.d.fact 39 rfl),
  c.x.t.d.def_ 0 rfl,
  c.x.t.d.def_ 1 rfl,
  c.x.t.d.def_ 2 rfl,
  c.x.t.d.def_ 3 rfl,
  c.x.t.d.def_ 4 rfl,
  c.x.t.d.def_ 5 rfl,
  c.x.t.d.def_ 6 rfl,
  c.x.t.d.def_ 7 rfl,
  c.x.t.d.def_ 8 rfl,
  c.x.t.d.def_ 9 rfl,
  c.x.t.d.def_ 10 rfl,
  c.x.t.d.def_ 11 rfl,
  c.x.t.d.def_ 12 rfl,
  c.x.t.d.def_ 13 rfl,
  c.x.t.d.def_ 14 rfl⟩
local macro_rules | `(tactic| walk_at "na") => `(tactic| first | (with_reducible exact Y.na_Unit_parent) | (with_reducible exact Y.na_Unit_arguments) | (with_reducible exact Y.na_Unit_results) | (with_reducible exact Y.na_Unit_registers) | (with_reducible exact Y.na_Unit_cells) | (with_reducible exact Y.na_Unit_code) | (with_reducible exact Y.na_Unit_regions))
local macro_rules | `(tactic| walk_at "cl") => `(tactic| first | (with_reducible exact Y.cl_Unit))
/-! ### the head: facts by names, the run -/
abbrev R : PySem.W.OpenRow := PySem.W.OpenLaw.row PySem.Challenge.rw_windowada_k85_tables_of_instructions
abbrev hk : PySem.W.Hook := hookP 5 fa fn ts ex prl
def ob (s : PySem.W.SharedT) : AlP := obsP 5 fa fn ts ex prl (HandSHeadRun.getT s)
theorem ob_eq (s : PySem.W.SharedT) : ob s = hk.obs s.abs := obsP_eq (HandSHeadRun.getT_eq s)
def loose : List Str := (["__name__", "ARITHMETIC", "SIGNS", "RELATIONS", "RAISING", "ENDING", "Unit", "operands", "reads", "writes", "can_raise", "followers", "region_of", "_law_pick", "_law_same", "_law_operand", "_law_target", "_law_plain_row", "_law_row", "_law_regions"] : List Str)
theorem runF (w : World) : HandSHeadRun.RunEq R (PySem.W.view R.prog [21]) hk ob 4000 loose (w.withFollow "special-get-raises" false) := by
  intro os
  kernel_rfl
theorem runT (w : World) : HandSHeadRun.RunEq R (PySem.W.view R.prog [21]) hk ob 4000 loose (w.withFollow "special-get-raises" true) := by
  intro os
  kernel_rfl
theorem run (w : World) : HandSHeadRun.RunEq R (PySem.W.view R.prog [21]) hk ob 4000 loose w := by
  exact PySem.W.byRow2 "special-get-raises" (P := fun w => HandSHeadRun.RunEq R (PySem.W.view R.prog [21]) hk ob 4000 loose w) runF runT w
/-! ### rows for sets, tables, tuples -/
local macro_rules | `(tactic| walk_at "st") => `(tactic| first
  | ((with_reducible refine h_set2 hS (fun ps H1 hS1 => ?_)); walk_at "nw")
  | ((with_reducible apply h_set2E hS); (· walk_at "ix"); intro Sm nm H1 hsm hnm hS1; clear hS; rename SH _ _ _ _ => hS; simp only [List.set_cons_zero, List.set_cons_succ] at hS)
  | ((with_reducible apply h_setI2 hS); (· walk_at "sq"); intro ps Sm nm H1 hsm hnm hS1; clear hS; rename SH _ _ _ _ => hS)
  | ((with_reducible apply s_sortedSet); (· walk_at "hp"); (· exact hsm); (· omega))
  | ((with_reducible apply s_inKD); (· walk_at "di"))
  | (with_reducible refine s_lcTG ?_)
  | ((with_reducible apply s_unl); (· walk_at "sq"); (· exact rfl))
  | ((with_reducible apply s_repT1); (· walk_at "sq"); (· exact ⟨by decide, by decide⟩); (· exact rfl))
  | fail)
/-! ### the law's draws: a list [numbers, place, rest, count] -/
abbrev stO (q : Addr) (i g n : Int) : HO := .lst [.ref q, .int i, .int g, .int n]
theorem start2 {H : Hp} {p q : Addr} {o u : HO} (hp : H p = some o) (hq : H q = some u) (ne : q ≠ p) : SH [p, q] H H [(p, o), (q, u)] := Hsh.un (by simp (disch := k_dflt (
  refine Hsh.up ?_
  refine SH.start (L := [(p, o), (q, u)]) (fun d hd => ?_) (by simp [Ne.symm ne])
  rcases List.mem_cons.mp hd with rfl | hd
  · exact hp
  · rw [List.mem_singleton.mp hd]; exact hq
  )) only [↓Hsh.on])
theorem keep1 {H H' : Hp} {p q : Addr} {u : HO} {L : List Cell} (S : SH [p, q] H H' L) (hq : H q = some u) (e : H' q = some u) : Keep [p] H H' := S.kp.drop fun a ha hn => by
  rcases List.mem_cons.mp ha with rfl | ha
  · exact absurd (List.mem_singleton.mpr rfl) hn
  · obtain rfl := List.mem_singleton.mp ha
    exact ⟨u, hq, e⟩
theorem new2 {H H' : Hp} {p q x : Addr} {o u v : HO} {L : List Cell} {i j k : Nat} (S : SH [p, q] H H' L) (e : L[i]? = some (x, v)) (ep : L[j]? = some (p, o)) (eq : L[k]? = some (q, u)) (n1 : j ≠ i) (n2 : k ≠ i) : H x = none := Hsh.un (by simp (disch := k_dflt (
  refine Hsh.up ?_
  refine (S.ow (x, v) (List.mem_of_getElem? e)).resolve_left fun z => ?_
  rcases List.mem_cons.mp z with z | z
  · exact S.ne e ep n1 z.symm
  · exact S.ne e eq n2 (List.mem_singleton.mp z).symm
  )) only [↓Hsh.on])
def sp_z_pick (K : PySem.W.Frag) : Sp := mk2 fun a b H Q _ => ∃ (p q : Addr) (ns : List Int) (i g n lim : Int), a = .ref p ∧ b = .int lim ∧ H p = some (stO q i g n) ∧ H q = some (.lst (ns.map V.int)) ∧ q ≠ p ∧ 0 ≤ i ∧ 0 ≤ g ∧ 0 < lim ∧ lim < 2 ^ 64 ∧
  ∀ (r i' g' n' : Int) H', 0 ≤ r → r < lim → 0 ≤ i' → 0 ≤ g' → H' p = some (stO q i' g' n') → Keep [p] H H' → Q (.int r) H'
theorem ok_z_pick {P : Program} {w : World} {K : PySem.W.Frag} {mg : Str → Option Value} {base : Heap} (Y : Env w K mg)  : CallOk P w K mg base CX0 1 "_law_pick" ["_law_state", "_law_limit"] (sp_z_pick K) := Hsh.un (by simp (disch := k_dflt (
  refine Hsh.up ?_
  obtain ⟨fd, F⟩ := Y.fd_z_pick
  refine ⟨_, fd, Y.mg_z_pick, F.kp, F.bindsN (fun _ _ _ _ _ _ us hl => match us, hl with | [_, _], _ => rfl), F.ok sc_z_pick mk2_len (fun cdv A outer s H vs Q E hr h => ?_)⟩
  have hu := hu_room hr
  obtain ⟨_, _, rfl, p, q, ns, i, g, n, lim, rfl, rfl, hp, hq, ne, hi, hg, hl, hl2, k⟩ := h
  have hS : SH [p, q] H H [(p, stO q i g n), (q, .lst (ns.map V.int))] := start2 hp hq ne
  refine ⟨_, PSs.nox (pss_cons (ps_asg (pe_op xAdd (pe_ix xIx (pv 0) pe_int (fun _ _ => rfl)) pe_int) (pg_sub (pv 0) pe_int set_list))
  (pss_cons (ps_if (pt_cmpR op_gt (pe_ix xIx (pv 0) pe_int (fun _ _ => rfl)) pe_int (nomark _)) (pss_cons (ps_set (i := 2) sc_z_pick.nd rfl (Or.inl rfl) (pe_op xMod (pe_callTy x_int rfl Y.z_int (by decide +kernel) (pa_cons (pe_ix xIx (pv 0) pe_int (fun _ _ => rfl)) pa_nil)) (pv 1)))
  (pss_cons (ps_asg (pe_op xDiv (pe_ix xIx (pv 0) pe_int (fun _ _ => rfl)) (pv 1)) (pg_sub (pv 0) pe_int set_list))
  (pss_one (ps_ret (pv 2))))) pss_nil)
  (pss_cons (ps_set (i := 3) sc_z_pick.nd rfl (Or.inl rfl) pe_int)
  (pss_cons (ps_if (pt_cmpR op_lt (pe_ix xIx (pv 0) pe_int (fun _ _ => rfl)) (pe_callB x_len rfl Y.z_len (by decide +kernel) (pa_cons (pe_ix xIx (pv 0) pe_int (fun _ _ => rfl)) pa_nil)) (nomark _)) (pss_one (ps_set (i := 3) sc_z_pick.nd rfl (Or.inl rfl) (pe_ix xIx (pe_ix xIx (pv 0) pe_int (fun _ _ => rfl)) (pe_ix xIx (pv 0) pe_int (fun _ _ => rfl)) (fun _ _ => rfl)))) pss_nil)
  (pss_cons (ps_asg (pe_op xAdd (pe_ix xIx (pv 0) pe_int (fun _ _ => rfl)) pe_int) (pg_sub (pv 0) pe_int set_list))
  (pss_cons (ps_if (pt_cmpR op_ge (pv 3) (pe_op op_pow pe_int pe_int) (nomark _)) (pss_cons (ps_asg (pe_op xDiv (pv 3) (pv 1)) (pg_sub (pv 0) pe_int set_list))
  (pss_one (ps_ret (pe_op xMod (pe_callTy x_int rfl Y.z_int (by decide +kernel) (pa_cons (pv 3) pa_nil)) (pv 1))))) pss_nil)
  (pss_cons (ps_set (i := 4) sc_z_pick.nd rfl (Or.inl rfl) (pe_op xMod (pe_callTy x_int rfl Y.z_int (by decide +kernel) (pa_cons (pe_op xAdd (pe_op xMul (pe_op xMod (pe_callTy x_int rfl Y.z_int (by decide +kernel) (pa_cons (pe_op xAdd (pe_op xAdd (pe_op xMul (pv 3) pe_int) (pe_op xMul (pe_ix xIx (pv 0) pe_int (fun _ _ => rfl)) pe_int)) pe_int) pa_nil)) pe_int) pe_int) (pe_ix xIx (pv 0) pe_int (fun _ _ => rfl))) pa_nil)) pe_int))
  (pss_one (ps_ret (pe_op xMod (pe_callTy x_int rfl Y.z_int (by decide +kernel) (pa_cons (pe_op xDiv (pv 4) pe_int) pa_nil)) (pv 1))))))))))), ?_⟩
  rw [st_z_pick]
  try simp only [cxK, cxK2, cxW, cxW2]
  clear hu hr F
  repeat' walk_at "st"
  all_goals first
    | exact k _ _ _ _ _ (Int.emod_nonneg _ (by omega)) (Int.emod_lt_of_pos _ hl) (by omega) (by omega) (hS.get 0 rfl) (keep1 hS hq (hS.get 1 rfl))
    | exact k _ _ _ _ _ (Int.emod_nonneg _ (by omega)) (Int.emod_lt_of_pos _ hl) (by omega) (Int.ediv_nonneg (by omega) (by omega)) (hS.get 0 rfl) (keep1 hS hq (hS.get 1 rfl))
  )) only [↓Hsh.on])
theorem c_z_pick {K : PySem.W.Frag} {A : List Addr} {H0 H : Hp} {L : List Cell} {p q : Addr} {ns : List Int} {x g n lim : Int} {Q : VK} {E : XK} {i j : Nat} (hS : SH A H0 H L) (e : L[i]? = some (p, stO q x g n)) (e2 : L[j]? = some (q, .lst (ns.map V.int))) (ne : j ≠ i) (h0 : 0 ≤ x) (h1 : 0 ≤ g) (h2 : 0 < lim) (h3 : lim < 2 ^ 64)
    (k : ∀ (r x' g' n' : Int) H', 0 ≤ r → r < lim → 0 ≤ x' → 0 ≤ g' → SH A H0 H' (L.set i (p, stO q x' g' n')) → Q (.int r) H') : sp_z_pick K ([.ref p, .int lim] ++ []) H Q E :=
  ⟨_, _, rfl, p, q, ns, x, g, n, lim, rfl, rfl, hS.get i e, hS.get j e2, hS.ne e e2 ne, h0, h1, h2, h3, fun r x' g' n' H' a b c d e' f => k r x' g' n' H' a b c d (hS.call1 i e rfl f e')⟩
local macro_rules | `(tactic| walk_at "st") => `(tactic| first
  | ((with_reducible show sp_z_pick _ _ _ _ _); apply c_z_pick hS; (· walk_at "ix"); (· walk_at "ix"); (· decide); (· walk_at "ar"); (· walk_at "ar"); (· walk_at "ar"); (· walk_at "ar"); intro r x1 g1 n1 H1 hr0 hr1 hx1 hg1 hS1; clear hS; rename SH _ _ _ _ => hS; simp only [List.set_cons_zero, List.set_cons_succ] at hS))
/-! ### the same data at two places: nothing, truth values, numbers, texts, tuples of these -/
inductive SameT (K : PySem.W.Frag) (H : Hp) : Nat → V → V → Prop
  | non (n : Nat) : SameT K H (n + 1) .non .non
  | bl (n : Nat) (b : Bool) : SameT K H (n + 1) (.bl b) (.bl b)
  | int (n : Nat) (i : Int) : SameT K H (n + 1) (.int i) (.int i)
  | str (n : Nat) (s : Str) : SameT K H (n + 1) (.str s) (.str s)
  | tup (n : Nat) {p q : Addr} {xs ys : List V} (h1 : SqT K H p xs) (h2 : SqT K H q ys) (hl : xs.length = ys.length) (hb : ys.length ≤ 1000000) (h : ∀ (k : Nat) (x y : V), xs[k]? = some x → ys[k]? = some y → SameT K H n x y) : SameT K H (n + 1) (.ref p) (.ref q)
theorem SameT.keep {K : PySem.W.Frag} {A : List Addr} {H H' : Hp} {n : Nat} {a b : V} (h : SameT K H n a b) (k : Keep A H H') : SameT K H' n a b := Hsh.un (by simp (disch := k_dflt (
  refine Hsh.up ?_
  induction h with
  | non n => exact .non n
  | bl n b => exact .bl n b
  | int n i => exact .int n i
  | str n s => exact .str n s
  | tup n h1 h2 hl hb h ih => exact .tup n (SqT_keep h1 k) (SqT_keep h2 k) hl hb ih
  )) only [↓Hsh.on])
def sp_z_sameN (K : PySem.W.Frag) (d : Nat) : Sp := mk2 fun a b H Q _ => SameT K H d a b ∧ ∀ H', Keep [] H H' → Q (.bl true) H'
abbrev sp_z_same (K : PySem.W.Frag) : Sp := sp_z_sameN K 6
theorem c_z_sameN {K : PySem.W.Frag} {A : List Addr} {H0 H : Hp} {L : List Cell} {d : Nat} {a b : V} {Q : VK} {E : XK} (hS : SH A H0 H L) (h : SameT K H d a b) (k : ∀ H', SH A H0 H' L → Keep [] H H' → Q (.bl true) H') : sp_z_sameN K d ([a, b] ++ []) H Q E :=
  ⟨_, _, rfl, h, fun H' kp => k H' (hS.call0 kp) kp⟩
theorem kit_tupT : kitB "tuple" "tuple" = some true := by decide +kernel
theorem ok_z_sameS {P : Program} {w : World} {K : PySem.W.Frag} {mg : Str → Option Value} {base : Heap} (Y : Env w K mg) (d : Nat) (G_z_same : CallOk P w K mg base CX0 (d + 1) "_law_same" ["_law_actual", "_law_due"] (sp_z_sameN K d)) : CallOk P w K mg base CX0 (d + 2) "_law_same" ["_law_actual", "_law_due"] (sp_z_sameN K (d + 1)) := Hsh.un (by simp (disch := k_dflt (
  refine Hsh.up ?_
  obtain ⟨fd, F⟩ := Y.fd_z_same
  refine ⟨_, fd, Y.mg_z_same, F.kp, F.bindsN (fun _ _ _ _ _ _ us hl => match us, hl with | [_, _], _ => rfl), F.ok sc_z_same mk2_len (fun cdv A outer s H vs Q E hr h => ?_)⟩
  have hu := hu_room hr
  obtain ⟨va, vb, rfl, h, k⟩ := h
  have hS : SH [] H H [] := SH.start0
  refine ⟨_, PSs.nox (pss_cons (ps_if (pt_val (pe_callB x_isinstance rfl Y.z_isinstance (by decide +kernel) (pa_cons (pv 1) (pa_cons (pe_bltn rfl Y.z_tuple (by decide +kernel) (show RelV (.ty "tuple") (.type "tuple") from rfl)) pa_nil)))) (pss_cons (ps_if (PW.pt (pw_or (pt_not (pt_val (pe_callB x_isinstance rfl Y.z_isinstance (by decide +kernel) (pa_cons (pv 0) (pa_cons (pe_bltn rfl Y.z_tuple (by decide +kernel) (show RelV (.ty "tuple") (.type "tuple") from rfl)) pa_nil))))) (pw_or1 (pt_cmpR (xNe hu) (pe_callB x_len rfl Y.z_len (by decide +kernel) (pa_cons (pv 0) pa_nil)) (pe_callB x_len rfl Y.z_len (by decide +kernel) (pa_cons (pv 1) pa_nil)) (nomark _))))) (pss_one (ps_ret pe_bl)) pss_nil)
  (pss_one (ps_ret (pe_callB (x_all rfl) rfl Y.z_all (by decide +kernel) (pa_cons (pe_lc (own := [("_law_k", 2)]) (g := gName 2) rfl sc_z_same.nd (pi_range1 rfl Y.z_range (pa_cons (pe_callB x_len rfl Y.z_len (by decide +kernel) (pa_cons (pv 1) pa_nil)) pa_nil)) (blkOk_by (N := N_z_same) (sc := defScope s_z_same) (by decide +kernel)) (fun _ _ _ _ _ => pg_name (i := 2) sc_z_same.nd rfl (Or.inl rfl)) (fun _ _ _ _ _ => pts_nil) (fun _ _ _ _ _ => (pe_callG G_z_same hr rfl pass0 (pa_cons (pe_ix (IxR.k (K := K) (r := rIxX) xIx rfl) (pv 0) (pv 2) (fun _ _ => rfl)) (pa_cons (pe_ix (IxR.k (K := K) (r := rIxX) xIx rfl) (pv 1) (pv 2) (fun _ _ => rfl)) pa_nil))))) pa_nil))))) pss_nil)
  (pss_cons (ps_if (pt_cmpR xIs (pv 1) pe_non (nomark _)) (pss_one (ps_ret (pe_cmpR xIs (pv 0) pe_non (nomark _)))) pss_nil)
  (pss_cons (ps_if (pt_val (pe_callB x_isinstance rfl Y.z_isinstance (by decide +kernel) (pa_cons (pv 1) (pa_cons (pe_bltn rfl Y.z_bool (by decide +kernel) (show RelV (.ty "bool") (.type "bool") from rfl)) pa_nil)))) (pss_one (ps_ret (pe_and (pe_callB x_isinstance rfl Y.z_isinstance (by decide +kernel) (pa_cons (pv 0) (pa_cons (pe_bltn rfl Y.z_bool (by decide +kernel) (show RelV (.ty "bool") (.type "bool") from rfl)) pa_nil))) (pe_one (pe_cmpR (xEq hu) (pv 0) (pv 1) (nomark _)))))) pss_nil)
  (pss_cons (ps_if (pt_val (pe_callB x_isinstance rfl Y.z_isinstance (by decide +kernel) (pa_cons (pv 1) (pa_cons (pe_bltn rfl Y.z_str (by decide +kernel) (show RelV (.ty "str") (.type "str") from rfl)) pa_nil)))) (pss_one (ps_ret (pe_and (pe_callB x_isinstance rfl Y.z_isinstance (by decide +kernel) (pa_cons (pv 0) (pa_cons (pe_bltn rfl Y.z_str (by decide +kernel) (show RelV (.ty "str") (.type "str") from rfl)) pa_nil))) (pe_one (pe_cmpR (xEq hu) (pv 0) (pv 1) (nomark _)))))) pss_nil)
  (pss_one (ps_ret (pe_and (pe_callB x_isinstance rfl Y.z_isinstance (by decide +kernel) (pa_cons (pv 0) (pa_cons (pe_bltn rfl Y.z_int (by decide +kernel) (show RelV (.ty "int") (.type "int") from rfl)) pa_nil))) (pe_and (pe_not (pe_callB x_isinstance rfl Y.z_isinstance (by decide +kernel) (pa_cons (pv 0) (pa_cons (pe_bltn rfl Y.z_bool (by decide +kernel) (show RelV (.ty "bool") (.type "bool") from rfl)) pa_nil)))) (pe_one (pe_cmpR (xEq hu) (pv 0) (pv 1) (nomark _))))))))))), ?_⟩
  rw [st_z_same]
  try simp only [cxK, cxK2, cxW, cxW2]
  clear hu hr F
  cases h with
  | non =>
    repeat' walk_at "st"
    all_goals first | exact q_dec rfl (k _ hS.kp) | exact k _ hS.kp
  | bl _ b =>
    repeat' walk_at "st"
    all_goals first | exact q_dec rfl (k _ hS.kp) | exact k _ hS.kp
  | int _ i =>
    repeat' walk_at "st"
    all_goals first | exact q_dec rfl (k _ hS.kp) | exact k _ hS.kp
  | str _ i =>
    repeat' walk_at "st"
    all_goals first | exact q_dec rfl (k _ hS.kp) | exact k _ hS.kp
  | @tup _ p q xs ys h1 h2 hl hb h =>
    repeat' walk_at "st"
    refine u_lcR1 hS (i := 2) (j := (ys.length : Nat)) (fun D k H' => SH [] H H' [(D, .lst ((List.replicate k true).map V.bl))]) (by omega) (by omega) (fun D H1 hS => hS) ?_ ?_
    · rintro D i H1 hi hS
      have hi2 : i < ys.length := by omega
      have hs : SameT K H1 d (xs.getD i .non) (ys.getD i .non) := by
        rw [List.getD_eq_getElem?_getD, List.getD_eq_getElem?_getD, List.getElem?_eq_getElem (show i < xs.length by omega), List.getElem?_eq_getElem hi2]
        exact (h i _ _ (List.getElem?_eq_getElem (by omega)) (List.getElem?_eq_getElem hi2)).keep hS.kp
      repeat' walk_at "st"
      refine c_z_sameN hS hs (fun H2 hS2 _ => ?_)
      clear hS; rename SH _ _ _ _ => hS
      refine h_lcEnd hS (i := 0) rfl (by rw [List.length_map, List.length_replicate, sizeLine_eq]; omega) (ys := (List.replicate (i + 1) true).map V.bl) (by rw [List.replicate_succ', List.map_append]; rfl) rfl (fun H3 hS => hS)
    · rintro D H1 hS
      repeat' walk_at "st"
      have e : (List.replicate (Int.toNat (ys.length : Nat)) true).all id = true := List.all_eq_true.mpr fun x hx => (List.mem_replicate.mp hx).2
      rw [e]
      exact k _ hS.kp
  )) only [↓Hsh.on])
theorem ok_z_sameN {P : Program} {w : World} {K : PySem.W.Frag} {mg : Str → Option Value} {base : Heap} (Y : Env w K mg) : ∀ d, CallOk P w K mg base CX0 (d + 1) "_law_same" ["_law_actual", "_law_due"] (sp_z_sameN K d)
  | 0 => by
    obtain ⟨fd, F⟩ := Y.fd_z_same
    refine ⟨_, fd, Y.mg_z_same, F.kp, F.bindsN (fun _ _ _ _ _ _ us hl => match us, hl with | [_, _], _ => rfl), ⟨mk2_len, fun A outer s H args us vs Q E hr e0 b v h => ?_⟩⟩
    obtain ⟨_, _, _, h, _⟩ := h
    cases h
  | d + 1 => ok_z_sameS Y d (ok_z_sameN Y d)
theorem ok_z_same {P : Program} {w : World} {K : PySem.W.Frag} {mg : Str → Option Value} {base : Heap} (Y : Env w K mg) : CallOk P w K mg base CX0 7 "_law_same" ["_law_actual", "_law_due"] (sp_z_same K) := ok_z_sameN Y 6

def AllS (K : PySem.W.Frag) (H : Hp) (n : Nat) (xs ys : List V) : Prop := xs.length = ys.length ∧ ∀ (k : Nat) (x y : V), xs[k]? = some x → ys[k]? = some y → SameT K H n x y
section
variable {K : PySem.W.Frag} {H : Hp} {n : Nat} {xs ys zs ws : List V} {x y : V} {p q : Addr}
theorem AllS.nil : AllS K H n [] [] := ⟨rfl, fun k x y h => nomatch h⟩
theorem AllS.cons (h : SameT K H n x y) (t : AllS K H n xs ys) : AllS K H n (x :: xs) (y :: ys) := Hsh.un (by simp (disch := k_dflt (
  refine Hsh.up ?_
  refine ⟨by rw [List.length_cons, List.length_cons, t.1], fun k a b h1 h2 => ?_⟩
  cases k with
  | zero => cases h1; cases h2; exact h
  | succ k => exact t.2 k a b h1 h2
  )) only [↓Hsh.on])
theorem AllS.append (h : AllS K H n xs ys) (t : AllS K H n zs ws) : AllS K H n (xs ++ zs) (ys ++ ws) := Hsh.un (by simp (disch := k_dflt (
  refine Hsh.up ?_
  induction xs generalizing ys with
  | nil =>
    cases ys with
    | nil => exact t
    | cons y ys => exact absurd h.1 (by simp)
  | cons x xs ih =>
    cases ys with
    | nil => exact absurd h.1 (by simp)
    | cons y ys => exact .cons (h.2 0 x y rfl rfl) (ih ⟨by have := h.1; simpa using this, fun k a b h1 h2 => h.2 (k + 1) a b h1 h2⟩)
  )) only [↓Hsh.on])
theorem AllS.ints (ns : List Int) : AllS K H (n + 1) (ns.map V.int) (ns.map V.int) := Hsh.un (by simp (disch := k_dflt (
  refine Hsh.up ?_
  induction ns with
  | nil => exact .nil
  | cons a ns ih => exact .cons (.int n a) ih
  )) only [↓Hsh.on])
theorem AllS.tup (h1 : SqT K H p xs) (h2 : SqT K H q ys) (h : AllS K H n xs ys) (hb : ys.length ≤ 1000000) : SameT K H (n + 1) (.ref p) (.ref q) := .tup n h1 h2 h.1 hb h.2
end
theorem AllS.strs {K : PySem.W.Frag} {H : Hp} {n : Nat} (ss : List Str) : AllS K H (n + 1) (ss.map V.str) (ss.map V.str) := Hsh.un (by simp (disch := k_dflt (
  refine Hsh.up ?_
  induction ss with
  | nil => exact .nil
  | cons a ss ih => exact .cons (.str n a) ih
  )) only [↓Hsh.on])

/-! ### operands, instructions -/
def kindS (b : Bool) : Str := if b = true then "reg" else "int"
structure Opd where
  reg : Bool
  n : Int
abbrev Opd.o (x : Opd) : HO := .tup [.str (kindS x.reg), .int x.n]
abbrev OpAt (K : PySem.W.Frag) (H : Hp) (q : Addr) (x : Opd) : Prop := SqT K H q [.str (kindS x.reg), .int x.n]
def OpsAt (K : PySem.W.Frag) (H : Hp) (qs : List Addr) (os : List Opd) : Prop := qs.length = os.length ∧ ∀ (k : Nat) (q : Addr) (x : Opd), qs[k]? = some q → os[k]? = some x → OpAt K H q x
theorem OpsAt.keep {K : PySem.W.Frag} {A : List Addr} {H H' : Hp} {qs : List Addr} {os : List Opd} (h : OpsAt K H qs os) (k : Keep A H H') : OpsAt K H' qs os := ⟨h.1, fun i q x a b => SqT_keep (h.2 i q x a b) k⟩
theorem OpsAt.nil {K : PySem.W.Frag} {H : Hp} : OpsAt K H [] [] := ⟨rfl, fun k q x h => nomatch h⟩
theorem OpsAt.cons {K : PySem.W.Frag} {H : Hp} {q : Addr} {x : Opd} {qs : List Addr} {os : List Opd} (h : OpAt K H q x) (t : OpsAt K H qs os) : OpsAt K H (q :: qs) (x :: os) := Hsh.un (by simp (disch := k_dflt (
  refine Hsh.up ?_
  refine ⟨by rw [List.length_cons, List.length_cons, t.1], fun k a b h1 h2 => ?_⟩
  cases k with
  | zero => cases h1; cases h2; exact h
  | succ k => exact t.2 k a b h1 h2
  )) only [↓Hsh.on])
theorem same_op {K : PySem.W.Frag} {H : Hp} {n : Nat} {q : Addr} {x : Opd} (h : OpAt K H q x) : SameT K H (n + 2) (.ref q) (.ref q) := AllS.tup h h (.cons (.str _ _) (.cons (.int _ _) .nil)) (show 2 ≤ 1000000 by decide)
theorem same_ops {K : PySem.W.Frag} {H : Hp} {n : Nat} {qs : List Addr} {os : List Opd} (h : OpsAt K H qs os) : AllS K H (n + 2) (qs.map V.ref) (qs.map V.ref) := Hsh.un (by simp (disch := k_dflt (
  refine Hsh.up ?_
  refine ⟨rfl, fun k x y hx hy => ?_⟩
  rw [hx] at hy
  cases hy
  rw [List.getElem?_map] at hx
  obtain ⟨a, ha, rfl⟩ := Option.map_eq_some_iff.mp hx
  obtain ⟨o, ho⟩ : ∃ o, os[k]? = some o := ⟨_, List.getElem?_eq_getElem (by rw [← h.1]; exact (List.getElem?_eq_some_iff.mp ha).1)⟩
  exact same_op (h.2 k a o ha ho)
  )) only [↓Hsh.on])
/-- an instruction of the law: its name, its operands, what it writes, what may follow -/
inductive InsR (K : PySem.W.Frag) (H : Hp) (ix : Int) : Str → Addr → List Addr → List Opd → List Int → List Int → Prop
  | tick {p : Addr} (h : SqT K H p [.str "tick"]) : InsR K H ix "tick" p [] [] [] [ix + 1]
  | jump {p : Addr} {t : Int} (h : SqT K H p [.str "jump", .int t]) : InsR K H ix "jump" p [] [] [] [t]
  | branch {p x : Addr} {a : Opd} {t : Int} (h : SqT K H p [.str "branch", .ref x, .int t]) (hx : OpAt K H x a) : InsR K H ix "branch" p [x] [a] [] (srt2 t (ix + 1))
  | ret {p v : Addr} {qs : List Addr} {os : List Opd} (h : SqT K H p [.str "return", .ref v]) (hv : SqT K H v (qs.map V.ref)) (ho : OpsAt K H qs os) (hl : os.length ≤ 6) : InsR K H ix "return" p qs os [] []
  | raise {p : Addr} {a b : Int} (h : SqT K H p [.str "raise", .int a, .int b]) : InsR K H ix "raise" p [] [] [] []
  | again {p x y : Addr} {a b : Opd} (h : SqT K H p [.str "again", .ref x, .ref y]) (hx : OpAt K H x a) (hy : OpAt K H y b) : InsR K H ix "again" p [x, y] [a, b] [] []
  | put {p x : Addr} {a : Opd} (h : SqT K H p [.str "put", .ref x]) (hx : OpAt K H x a) : InsR K H ix "put" p [x] [a] [] [ix + 1]
  | move {p x : Addr} {a : Opd} {d : Int} (h : SqT K H p [.str "move", .int d, .ref x]) (hx : OpAt K H x a) : InsR K H ix "move" p [x] [a] [d] [ix + 1]
  | sign {nm : Str} {p x : Addr} {a : Opd} {d l : Int} (hn : nm = "neg" ∨ nm = "abs") (h : SqT K H p [.str nm, .int d, .ref x, .int l]) (hx : OpAt K H x a) : InsR K H ix nm p [x] [a] [d] [ix + 1]
  | rel {nm : Str} {p x y : Addr} {a b : Opd} {d : Int} (hn : nm = "less" ∨ nm = "equal") (h : SqT K H p [.str nm, .int d, .ref x, .ref y]) (hx : OpAt K H x a) (hy : OpAt K H y b) : InsR K H ix nm p [x, y] [a, b] [d] [ix + 1]
  | check {p x : Addr} {a : Opd} {lo hi l : Int} (h : SqT K H p [.str "check", .ref x, .int lo, .int hi, .int l]) (hx : OpAt K H x a) : InsR K H ix "check" p [x] [a] [] [ix + 1]
  | load {p x : Addr} {a : Opd} {d f c n : Int} (h : SqT K H p [.str "load", .int d, .int f, .int c, .int n, .ref x]) (hx : OpAt K H x a) : InsR K H ix "load" p [x] [a] [d] [ix + 1]
  | store {p x y : Addr} {a b : Opd} {f c n : Int} (h : SqT K H p [.str "store", .int f, .int c, .int n, .ref x, .ref y]) (hx : OpAt K H x a) (hy : OpAt K H y b) : InsR K H ix "store" p [x, y] [a, b] [] [ix + 1]
  | get {p : Addr} {d l : Int} (h : SqT K H p [.str "get", .int d, .int l]) : InsR K H ix "get" p [] [] [d] [ix + 1]
  | call {p v s : Addr} {qs : List Addr} {os : List Opd} {ws : List Int} {u f l : Int} (h : SqT K H p [.str "call", .int u, .int f, .ref v, .ref s, .int l]) (hv : SqT K H v (qs.map V.ref)) (hw : SqT K H s (ws.map V.int)) (ho : OpsAt K H qs os) (hl : os.length ≤ 6) (hm : ws.length ≤ 6) : InsR K H ix "call" p qs os ws [ix + 1]
  | arith {nm : Str} {p x y : Addr} {a b : Opd} {d l : Int} (hn : nm = "add" ∨ nm = "sub" ∨ nm = "mul" ∨ nm = "div" ∨ nm = "mod" ∨ nm = "rem") (h : SqT K H p [.str nm, .int d, .ref x, .ref y, .int l]) (hx : OpAt K H x a) (hy : OpAt K H y b) : InsR K H ix nm p [x, y] [a, b] [d] [ix + 1]
section
variable {K : PySem.W.Frag} {A : List Addr} {H H' : Hp} {ix : Int} {nm : Str} {p : Addr} {qs : List Addr} {os : List Opd} {ws bs : List Int}
theorem InsR.keep (h : InsR K H ix nm p qs os ws bs) (k : Keep A H H') : InsR K H' ix nm p qs os ws bs := Hsh.un (by simp (disch := k_dflt (
  refine Hsh.up ?_
  cases h with
  | tick h => exact .tick (SqT_keep h k)
  | jump h => exact .jump (SqT_keep h k)
  | branch h hx => exact .branch (SqT_keep h k) (SqT_keep hx k)
  | ret h hv ho hl => exact .ret (SqT_keep h k) (SqT_keep hv k) (ho.keep k) hl
  | raise h => exact .raise (SqT_keep h k)
  | again h hx hy => exact .again (SqT_keep h k) (SqT_keep hx k) (SqT_keep hy k)
  | put h hx => exact .put (SqT_keep h k) (SqT_keep hx k)
  | move h hx => exact .move (SqT_keep h k) (SqT_keep hx k)
  | sign hn h hx => exact .sign hn (SqT_keep h k) (SqT_keep hx k)
  | rel hn h hx hy => exact .rel hn (SqT_keep h k) (SqT_keep hx k) (SqT_keep hy k)
  | check h hx => exact .check (SqT_keep h k) (SqT_keep hx k)
  | load h hx => exact .load (SqT_keep h k) (SqT_keep hx k)
  | store h hx hy => exact .store (SqT_keep h k) (SqT_keep hx k) (SqT_keep hy k)
  | get h => exact .get (SqT_keep h k)
  | call h hv hw ho hl hm => exact .call (SqT_keep h k) (SqT_keep hv k) (SqT_keep hw k) (ho.keep k) hl hm
  | arith hn h hx hy => exact .arith hn (SqT_keep h k) (SqT_keep hx k) (SqT_keep hy k)
  )) only [↓Hsh.on])
theorem InsR.head (h : InsR K H ix nm p qs os ws bs) : ∃ r, SqT K H p (.str nm :: r) := Hsh.un (by simp (disch := k_dflt (
  refine Hsh.up ?_
  cases h with
  | tick h => exact ⟨_, h⟩
  | jump h => exact ⟨_, h⟩
  | branch h hx => exact ⟨_, h⟩
  | ret h hv ho hl => exact ⟨_, h⟩
  | raise h => exact ⟨_, h⟩
  | again h hx hy => exact ⟨_, h⟩
  | put h hx => exact ⟨_, h⟩
  | move h hx => exact ⟨_, h⟩
  | sign hn h hx => exact ⟨_, h⟩
  | rel hn h hx hy => exact ⟨_, h⟩
  | check h hx => exact ⟨_, h⟩
  | load h hx => exact ⟨_, h⟩
  | store h hx hy => exact ⟨_, h⟩
  | get h => exact ⟨_, h⟩
  | call h hv hw ho hl hm => exact ⟨_, h⟩
  | arith hn h hx hy => exact ⟨_, h⟩
  )) only [↓Hsh.on])
end
local macro_rules | `(tactic| walk_at "di") => `(tactic| first | exact Y.di_ARITHMETIC (_, true) (by decide +kernel) | exact Y.di_ARITHMETIC (_, false) (by decide +kernel))
section
 local macro_rules | `(tactic| walk_at "sq") => `(tactic| first | exact Y.tp_SIGNS _ | exact Y.tp_RELATIONS _ | exact Y.tp_RAISING _ | exact Y.tp_ENDING _ | fail)
def sp_operands (K : PySem.W.Frag) : Sp := mk1 fun a H Q _ => ∃ (p : Addr) (ix : Int) (nm : Str) (qs : List Addr) (os : List Opd) (ws bs : List Int), a = .ref p ∧ InsR K H ix nm p qs os ws bs ∧ ∀ t H', Keep [] H H' → SqT K H' t (qs.map V.ref) → Q (.ref t) H'
theorem ok_operands {P : Program} {w : World} {K : PySem.W.Frag} {mg : Str → Option Value} {base : Heap} (Y : Env w K mg)  : CallOk P w K mg base CX0 1 "operands" ["instruction"] (sp_operands K) := Hsh.un (by simp (disch := k_dflt (
  refine Hsh.up ?_
  obtain ⟨fd, F⟩ := Y.fd_operands
  refine ⟨_, fd, Y.mg_operands, F.kp, F.bindsN (fun _ _ _ _ _ _ us hl => match us, hl with | [_], _ => rfl), F.ok sc_operands mk1_len (fun cdv A outer s H vs Q E hr h => ?_)⟩
  have hu := hu_room hr
  obtain ⟨_, rfl, p, ix, nm, qs, os, ws, bs, rfl, hI, k⟩ := h
  have hS : SH [] H H [] := SH.start0
  refine ⟨_, PSs.nox (pss_cons (ps_set (i := 1) sc_operands.nd rfl (Or.inl rfl) (pe_ix xIx (pv 0) pe_int (fun _ _ => rfl)))
  (pss_cons (ps_if (PW.pt (pw_or (pt_cmpR (xEq hu) (pv 1) pe_str (nomark _)) (pw_or1 (pt_cmpR xIn (pv 1) (pe_gr rfl Y.mg_SIGNS) rfl)))) (pss_one (ps_ret (pe_tup (pa_cons (pe_ix xIx (pv 0) pe_int (fun _ _ => rfl)) pa_nil)))) pss_nil)
  (pss_cons (ps_if (PW.pt (pw_or (pt_cmpR x_inKD (pv 1) (pe_gr rfl Y.mg_ARITHMETIC) rfl) (pw_or1 (pt_cmpR xIn (pv 1) (pe_gr rfl Y.mg_RELATIONS) rfl)))) (pss_one (ps_ret (pe_tup (pa_cons (pe_ix xIx (pv 0) pe_int (fun _ _ => rfl)) (pa_cons (pe_ix xIx (pv 0) pe_int (fun _ _ => rfl)) pa_nil))))) pss_nil)
  (pss_cons (ps_if (PW.pt (pw_or (pt_cmpR (xEq hu) (pv 1) pe_str (nomark _)) (pw_or (pt_cmpR (xEq hu) (pv 1) pe_str (nomark _)) (pw_or1 (pt_cmpR (xEq hu) (pv 1) pe_str (nomark _)))))) (pss_one (ps_ret (pe_tup (pa_cons (pe_ix xIx (pv 0) pe_int (fun _ _ => rfl)) pa_nil)))) pss_nil)
  (pss_cons (ps_if (pt_cmpR (xEq hu) (pv 1) pe_str (nomark _)) (pss_one (ps_ret (pe_tup (pa_cons (pe_ix xIx (pv 0) pe_int (fun _ _ => rfl)) pa_nil)))) pss_nil)
  (pss_cons (ps_if (pt_cmpR (xEq hu) (pv 1) pe_str (nomark _)) (pss_one (ps_ret (pe_tup (pa_cons (pe_ix xIx (pv 0) pe_int (fun _ _ => rfl)) (pa_cons (pe_ix xIx (pv 0) pe_int (fun _ _ => rfl)) pa_nil))))) pss_nil)
  (pss_cons (ps_if (pt_cmpR (xEq hu) (pv 1) pe_str (nomark _)) (pss_one (ps_ret (pe_callTy x_tuple rfl Y.z_tuple (by decide +kernel) (pa_cons (pe_ix xIx (pv 0) pe_int (fun _ _ => rfl)) pa_nil)))) pss_nil)
  (pss_cons (ps_if (pt_cmpR (xEq hu) (pv 1) pe_str (nomark _)) (pss_one (ps_ret (pe_callTy x_tuple rfl Y.z_tuple (by decide +kernel) (pa_cons (pe_ix xIx (pv 0) pe_int (fun _ _ => rfl)) pa_nil)))) pss_nil)
  (pss_cons (ps_if (pt_cmpR (xEq hu) (pv 1) pe_str (nomark _)) (pss_one (ps_ret (pe_tup (pa_cons (pe_ix xIx (pv 0) pe_int (fun _ _ => rfl)) (pa_cons (pe_ix xIx (pv 0) pe_int (fun _ _ => rfl)) pa_nil))))) pss_nil)
  (pss_one (ps_ret (pe_tup pa_nil)))))))))))), ?_⟩
  rw [st_operands]
  try simp only [cxK, cxK2, cxW, cxW2]
  clear hu hr F
  cases hI with
  | sign hn h hx =>
    rcases hn with rfl | rfl
    all_goals repeat' walk_at "st"
    all_goals exact k _ _ hS.kp (SqT.of (hS.get 0 rfl))
  | rel hn h hx hy =>
    rcases hn with rfl | rfl
    all_goals repeat' walk_at "st"
    all_goals exact k _ _ hS.kp (SqT.of (hS.get 0 rfl))
  | arith hn h hx hy =>
    rcases hn with rfl | rfl | rfl | rfl | rfl | rfl
    all_goals repeat' walk_at "st"
    all_goals exact k _ _ hS.kp (SqT.of (hS.get 0 rfl))
  | ret h hv ho hl =>
    repeat' walk_at "st"
    exact k _ _ hS.kp (SqT_keep hv hS.kp)
  | call h hv hw ho hl hm =>
    repeat' walk_at "st"
    exact k _ _ hS.kp (SqT_keep hv hS.kp)
  | _ =>
    repeat' walk_at "st"
    exact k _ _ hS.kp (SqT.of (hS.get 0 rfl))
  )) only [↓Hsh.on])
end
theorem c_operands {K : PySem.W.Frag} {A : List Addr} {H0 H : Hp} {L : List Cell} {p : Addr} {ix : Int} {nm : Str} {qs : List Addr} {os : List Opd} {ws bs : List Int} {Q : VK} {E : XK} (hS : SH A H0 H L) (h : InsR K H ix nm p qs os ws bs) (k : ∀ t H', SH A H0 H' L → Keep [] H H' → SqT K H' t (qs.map V.ref) → Q (.ref t) H') : sp_operands K ([.ref p] ++ []) H Q E :=
  ⟨_, rfl, p, ix, nm, qs, os, ws, bs, rfl, h, fun t H' kp hq => k t H' (hS.call0 kp) kp hq⟩
/-- the registers among operands -/
def rdL (os : List Opd) : List Int := (os.filter fun x => x.reg).map fun x => x.n
theorem rdL_step {os : List Opd} {k : Nat} {x : Opd} (h : os[k]? = some x) : rdL (os.take (k + 1)) = rdL (os.take k) ++ if x.reg = true then [x.n] else [] := Hsh.un (by simp (disch := k_dflt (
  refine Hsh.up ?_
  unfold rdL
  rw [List.take_add_one, h, List.filter_append, List.map_append]
  congr 1
  cases hx : x.reg <;> simp [hx]
  )) only [↓Hsh.on])
theorem rdL_len (os : List Opd) (k : Nat) : (rdL (os.take k)).length ≤ os.length := Hsh.un (by simp (disch := k_dflt (
  refine Hsh.up ?_
  unfold rdL
  rw [List.length_map]
  exact Nat.le_trans (List.length_filter_le _ _) (by rw [List.length_take]; exact Nat.min_le_right _ _)
  )) only [↓Hsh.on])
def sp_reads (K : PySem.W.Frag) : Sp := mk1 fun a H Q _ => ∃ (p : Addr) (ix : Int) (nm : Str) (qs : List Addr) (os : List Opd) (ws bs : List Int), a = .ref p ∧ InsR K H ix nm p qs os ws bs ∧ OpsAt K H qs os ∧ os.length ≤ 6 ∧ ∀ t H', Keep [] H H' → SqT K H' t ((rdL os).map V.int) → Q (.ref t) H'
theorem ok_reads {P : Program} {w : World} {K : PySem.W.Frag} {mg : Str → Option Value} {base : Heap} (Y : Env w K mg) (G_operands : CallOk P w K mg base CX0 1 "operands" ["instruction"] (sp_operands K)) : CallOk P w K mg base CX0 2 "reads" ["instruction"] (sp_reads K) := Hsh.un (by simp (disch := k_dflt (
  refine Hsh.up ?_
  obtain ⟨fd, F⟩ := Y.fd_reads
  refine ⟨_, fd, Y.mg_reads, F.kp, F.bindsN (fun _ _ _ _ _ _ us hl => match us, hl with | [_], _ => rfl), F.ok sc_reads mk1_len (fun cdv A outer s H vs Q E hr h => ?_)⟩
  have hu := hu_room hr
  obtain ⟨_, rfl, p, ix, nm, qs, os, ws, bs, rfl, hI, ho, hl, k⟩ := h
  have hS : SH [] H H [] := SH.start0
  refine ⟨_, PSs.nox (pss_one (ps_ret (pe_callTy x_tuple rfl Y.z_tuple (by decide +kernel) (pa_cons (pe_lc (own := [("operand", 1)]) (g := gName 1) rfl sc_reads.nd (pi_tup (pe_callG G_operands hr rfl pass0 (pa_cons (pv 0) pa_nil))) (blkOk_by (N := N_reads) (sc := defScope s_reads) (by decide +kernel)) (fun _ _ _ _ _ => pg_name (i := 1) sc_reads.nd rfl (Or.inl rfl)) (fun _ _ _ _ _ => (pts_one (pt_cmpR (OpR.k (K := K) (r := rEqX) (xEq hu) rfl) (pe_ix (IxR.k (K := K) (r := rIxX) xIx rfl) (pv 1) pe_int (fun _ _ => rfl)) pe_str (nomark _)))) (fun _ _ _ _ _ => (pe_ix (IxR.k (K := K) (r := rIxX) xIx rfl) (pv 1) pe_int (fun _ _ => rfl)))) pa_nil)))), ?_⟩
  rw [st_reads]
  try simp only [cxK, cxK2, cxW, cxW2]
  clear hu hr F
  repeat' walk_at "st"
  refine c_operands hS hI (fun t H1 hS1 kp ht => ?_)
  clear hS
  have hS : SH [] H1 H1 [] := SH.start0
  have ho := ho.keep kp
  clear hS1 hI
  repeat' walk_at "st"
  refine u_lcTG (xs := qs.map V.ref) hS (fun D k H' => SH [] H1 H' [(D, .lst ((rdL (os.take k)).map V.int))]) ht (fun D H2 hS => hS) (fun D k H2 _ hS => SqT_keep ht hS.kp) ?_ ?_
  · rintro D i x H2 hx hS
    rw [List.getElem?_map] at hx
    obtain ⟨q, hq, rfl⟩ := Option.map_eq_some_iff.mp hx
    have hi : i < qs.length := (List.getElem?_eq_some_iff.mp hq).1
    obtain ⟨o, hoo⟩ : ∃ o, os[i]? = some o := ⟨_, List.getElem?_eq_getElem (by rw [← ho.1]; exact hi)⟩
    have hop : OpAt K H2 q o := SqT_keep (ho.2 i q o hq hoo) hS.kp
    have hlen := rdL_len os i
    have hlen2 : ((rdL (os.take i)).map V.int).length ≤ 6 := by rw [List.length_map]; omega
    have hst := rdL_step hoo
    obtain ⟨rg, on⟩ := o
    cases rg
    · repeat' walk_at "st"
      rw [hst, if_neg Bool.false_ne_true, List.append_nil]
      exact hS
    · repeat' walk_at "st"
      rw [hst, if_pos rfl, List.map_append]
      exact hS
  · rintro D H2 hS
    repeat' walk_at "st"
    refine k _ _ (kp.trans hS.kp) ?_
    have e : (rdL (os.take (qs.map V.ref).length)) = rdL os := by rw [List.length_map, ho.1, List.take_length]
    rw [e] at hS
    exact SqT.of (hS.get 0 rfl)
  )) only [↓Hsh.on])
section
 local macro_rules | `(tactic| walk_at "sq") => `(tactic| first | exact Y.tp_SIGNS _ | exact Y.tp_RELATIONS _ | exact Y.tp_RAISING _ | exact Y.tp_ENDING _ | fail)
def sp_writes (K : PySem.W.Frag) : Sp := mk1 fun a H Q _ => ∃ (p : Addr) (ix : Int) (nm : Str) (qs : List Addr) (os : List Opd) (ws bs : List Int), a = .ref p ∧ InsR K H ix nm p qs os ws bs ∧ ∀ t H', Keep [] H H' → SqT K H' t (ws.map V.int) → Q (.ref t) H'
theorem ok_writes {P : Program} {w : World} {K : PySem.W.Frag} {mg : Str → Option Value} {base : Heap} (Y : Env w K mg)  : CallOk P w K mg base CX0 1 "writes" ["instruction"] (sp_writes K) := Hsh.un (by simp (disch := k_dflt (
  refine Hsh.up ?_
  obtain ⟨fd, F⟩ := Y.fd_writes
  refine ⟨_, fd, Y.mg_writes, F.kp, F.bindsN (fun _ _ _ _ _ _ us hl => match us, hl with | [_], _ => rfl), F.ok sc_writes mk1_len (fun cdv A outer s H vs Q E hr h => ?_)⟩
  have hu := hu_room hr
  obtain ⟨_, rfl, p, ix, nm, qs, os, ws, bs, rfl, hI, k⟩ := h
  have hS : SH [] H H [] := SH.start0
  refine ⟨_, PSs.nox (pss_cons (ps_set (i := 1) sc_writes.nd rfl (Or.inl rfl) (pe_ix xIx (pv 0) pe_int (fun _ _ => rfl)))
  (pss_cons (ps_if (pt_cmpR (xEq hu) (pv 1) pe_str (nomark _)) (pss_one (ps_ret (pe_callTy x_tuple rfl Y.z_tuple (by decide +kernel) (pa_cons (pe_ix xIx (pv 0) pe_int (fun _ _ => rfl)) pa_nil)))) pss_nil)
  (pss_cons (ps_if (PW.pt (pw_or (pt_cmpR (xEq hu) (pv 1) pe_str (nomark _)) (pw_or (pt_cmpR xIn (pv 1) (pe_gr rfl Y.mg_SIGNS) rfl) (pw_or (pt_cmpR x_inKD (pv 1) (pe_gr rfl Y.mg_ARITHMETIC) rfl) (pw_or (pt_cmpR xIn (pv 1) (pe_gr rfl Y.mg_RELATIONS) rfl) (pw_or (pt_cmpR (xEq hu) (pv 1) pe_str (nomark _)) (pw_or1 (pt_cmpR (xEq hu) (pv 1) pe_str (nomark _))))))))) (pss_one (ps_ret (pe_tup (pa_cons (pe_ix xIx (pv 0) pe_int (fun _ _ => rfl)) pa_nil)))) pss_nil)
  (pss_one (ps_ret (pe_tup pa_nil)))))), ?_⟩
  rw [st_writes]
  try simp only [cxK, cxK2, cxW, cxW2]
  clear hu hr F
  cases hI with
  | sign hn h hx =>
    rcases hn with rfl | rfl
    all_goals repeat' walk_at "st"
    all_goals exact k _ _ hS.kp (SqT.of (hS.get 0 rfl))
  | rel hn h hx hy =>
    rcases hn with rfl | rfl
    all_goals repeat' walk_at "st"
    all_goals exact k _ _ hS.kp (SqT.of (hS.get 0 rfl))
  | arith hn h hx hy =>
    rcases hn with rfl | rfl | rfl | rfl | rfl | rfl
    all_goals repeat' walk_at "st"
    all_goals exact k _ _ hS.kp (SqT.of (hS.get 0 rfl))
  | call h hv hw ho hl hm =>
    repeat' walk_at "st"
    exact k _ _ hS.kp (SqT_keep hw hS.kp)
  | _ =>
    repeat' walk_at "st"
    exact k _ _ hS.kp (SqT.of (hS.get 0 rfl))
  )) only [↓Hsh.on])
abbrev raisers : List V := [.str "neg", .str "abs", .str "add", .str "sub", .str "mul", .str "div", .str "mod", .str "rem", .str "check", .str "call", .str "raise", .str "again", .str "get"]
def sp_can_raise (K : PySem.W.Frag) : Sp := mk1 fun a H Q _ => ∃ (p : Addr) (nm : Str) (r : List V), a = .ref p ∧ SqT K H p (.str nm :: r) ∧ Q (.bl (inV (.str nm) raisers)) H
theorem ok_can_raise {P : Program} {w : World} {K : PySem.W.Frag} {mg : Str → Option Value} {base : Heap} (Y : Env w K mg)  : CallOk P w K mg base CX0 1 "can_raise" ["instruction"] (sp_can_raise K) := Hsh.un (by simp (disch := k_dflt (
  refine Hsh.up ?_
  obtain ⟨fd, F⟩ := Y.fd_can_raise
  refine ⟨_, fd, Y.mg_can_raise, F.kp, F.bindsN (fun _ _ _ _ _ _ us hl => match us, hl with | [_], _ => rfl), F.ok sc_can_raise mk1_len (fun cdv A outer s H vs Q E hr h => ?_)⟩
  have hu := hu_room hr
  obtain ⟨_, rfl, p, nm, r, rfl, hp, k⟩ := h
  have hS : SH [] H H [] := SH.start0
  refine ⟨_, PSs.nox (pss_one (ps_ret (pe_cmpR xIn (pe_ix xIx (pv 0) pe_int (fun _ _ => rfl)) (pe_gr rfl Y.mg_RAISING) rfl))), ?_⟩
  rw [st_can_raise]
  try simp only [cxK, cxK2, cxW, cxW2]
  clear hu hr F
  repeat' walk_at "st"
  exact k
  )) only [↓Hsh.on])
def sp_followers (K : PySem.W.Frag) : Sp := mk2 fun a b H Q _ => ∃ (p : Addr) (ix : Int) (nm : Str) (qs : List Addr) (os : List Opd) (ws bs : List Int), a = .ref p ∧ b = .int ix ∧ InsR K H ix nm p qs os ws bs ∧ ∀ t H', Keep [] H H' → SqT K H' t (bs.map V.int) → Q (.ref t) H'
theorem ok_followers {P : Program} {w : World} {K : PySem.W.Frag} {mg : Str → Option Value} {base : Heap} (Y : Env w K mg)  : CallOk P w K mg base CX0 1 "followers" ["instruction", "index"] (sp_followers K) := Hsh.un (by simp (disch := k_dflt (
  refine Hsh.up ?_
  obtain ⟨fd, F⟩ := Y.fd_followers
  refine ⟨_, fd, Y.mg_followers, F.kp, F.bindsN (fun _ _ _ _ _ _ us hl => match us, hl with | [_, _], _ => rfl), FunD_okC F sc_followers mk2_len (fun cdv A outer s H vs Q E hcd hr h => ?_)⟩
  have hu := hu_room hr
  obtain ⟨_, _, rfl, p, ix, nm, qs, os, ws, bs, rfl, rfl, hI, k⟩ := h
  have hS : SH [] H H [] := SH.start0
  refine ⟨_, PSs.nox (pss_cons (ps_set (i := 2) sc_followers.nd rfl (Or.inl rfl) (pe_ix xIx (pv 0) pe_int (fun _ _ => rfl)))
  (pss_cons (ps_if (pt_cmpR (xEq hu) (pv 2) pe_str (nomark _)) (pss_one (ps_ret (pe_tup (pa_cons (pe_ix xIx (pv 0) pe_int (fun _ _ => rfl)) pa_nil)))) pss_nil)
  (pss_cons (ps_if (pt_cmpR (xEq hu) (pv 2) pe_str (nomark _)) (pss_one (ps_ret (pe_callTy x_tuple rfl Y.z_tuple (by decide +kernel) (pa_cons (pe_callB (cr_sortedSet rfl) rfl Y.z_sorted (by decide +kernel) (pa_cons (pe_set2 (pe_ix xIx (pv 0) pe_int (fun _ _ => rfl)) (pe_op xAdd (pv 1) pe_int) (L2.kdsCode_of hcd)) pa_nil)) pa_nil)))) pss_nil)
  (pss_cons (ps_if (pt_cmpR xIn (pv 2) (pe_gr rfl Y.mg_ENDING) rfl) (pss_one (ps_ret (pe_tup pa_nil))) pss_nil)
  (pss_one (ps_ret (pe_tup (pa_cons (pe_op xAdd (pv 1) pe_int) pa_nil)))))))), ?_⟩
  rw [st_followers]
  try simp only [cxK, cxK2, cxW, cxW2]
  clear hu hr F
  cases hI with
  | sign hn h hx =>
    rcases hn with rfl | rfl
    all_goals repeat' walk_at "st"
    all_goals exact k _ _ hS.kp (SqT.of (hS.get 0 rfl))
  | rel hn h hx hy =>
    rcases hn with rfl | rfl
    all_goals repeat' walk_at "st"
    all_goals exact k _ _ hS.kp (SqT.of (hS.get 0 rfl))
  | arith hn h hx hy =>
    rcases hn with rfl | rfl | rfl | rfl | rfl | rfl
    all_goals repeat' walk_at "st"
    all_goals exact k _ _ hS.kp (SqT.of (hS.get 0 rfl))
  | _ =>
    repeat' walk_at "st"
    exact k _ _ hS.kp (SqT.of (hS.get 0 rfl))
  )) only [↓Hsh.on])
end
/-! ### the law's rows -/
def sp_z_operand (K : PySem.W.Frag) : Sp := mk1 fun a H Q _ => ∃ (p q : Addr) (ns : List Int) (i g n : Int), a = .ref p ∧ H p = some (stO q i g n) ∧ H q = some (.lst (ns.map V.int)) ∧ q ≠ p ∧ 0 ≤ i ∧ 0 ≤ g ∧
  ∀ (x : Addr) (o : Opd) (i' g' n' : Int) H', H x = none → H' x = some o.o → 0 ≤ i' → 0 ≤ g' → H' p = some (stO q i' g' n') → Keep [p] H H' → Q (.ref x) H'
theorem ok_z_operand {P : Program} {w : World} {K : PySem.W.Frag} {mg : Str → Option Value} {base : Heap} (Y : Env w K mg) (G_z_pick : CallOk P w K mg base CX0 1 "_law_pick" ["_law_state", "_law_limit"] (sp_z_pick K)) : CallOk P w K mg base CX0 2 "_law_operand" ["_law_state"] (sp_z_operand K) := Hsh.un (by simp (disch := k_dflt (
  refine Hsh.up ?_
  obtain ⟨fd, F⟩ := Y.fd_z_operand
  refine ⟨_, fd, Y.mg_z_operand, F.kp, F.bindsN (fun _ _ _ _ _ _ us hl => match us, hl with | [_], _ => rfl), F.ok sc_z_operand mk1_len (fun cdv A outer s H vs Q E hr h => ?_)⟩
  have hu := hu_room hr
  obtain ⟨_, rfl, p, q, ns, i, g, n, rfl, hp, hq, ne, hi, hg, k⟩ := h
  have hS : SH [p, q] H H [(p, stO q i g n), (q, .lst (ns.map V.int))] := start2 hp hq ne
  refine ⟨_, PSs.nox (pss_cons (ps_set (i := 1) sc_z_operand.nd rfl (Or.inl rfl) (pe_callG G_z_pick hr rfl pass0 (pa_cons (pv 0) (pa_cons pe_int pa_nil))))
  (pss_cons (ps_if (pt_cmpR (xEq hu) (pv 1) pe_int (nomark _)) (pss_one (ps_ret (pe_tup (pa_cons pe_str (pa_cons (pe_op op_sub (pe_callG G_z_pick hr rfl pass0 (pa_cons (pv 0) (pa_cons pe_int pa_nil))) pe_int) pa_nil))))) pss_nil)
  (pss_cons (ps_if (pt_cmpR (xEq hu) (pv 1) pe_int (nomark _)) (pss_one (ps_ret (pe_tup (pa_cons pe_str (pa_cons (pe_callG G_z_pick hr rfl pass0 (pa_cons (pv 0) (pa_cons pe_int pa_nil))) pa_nil))))) pss_nil)
  (pss_one (ps_ret (pe_tup (pa_cons pe_str (pa_cons (pe_callG G_z_pick hr rfl pass0 (pa_cons (pv 0) (pa_cons pe_int pa_nil))) pa_nil)))))))), ?_⟩
  rw [st_z_operand]
  try simp only [cxK, cxK2, cxW, cxW2]
  clear hu hr F
  repeat' walk_at "st"
  · exact k _ ⟨false, _⟩ _ _ _ _ (new2 hS (i := 0) (j := 1) (k := 2) rfl rfl rfl (by decide) (by decide)) (hS.get 0 rfl) hx1 hg1 (hS.get 1 rfl) (keep1 hS hq (hS.get 2 rfl))
  · exact k _ ⟨false, _⟩ _ _ _ _ (new2 hS (i := 0) (j := 1) (k := 2) rfl rfl rfl (by decide) (by decide)) (hS.get 0 rfl) hx1 hg1 (hS.get 1 rfl) (keep1 hS hq (hS.get 2 rfl))
  · exact k _ ⟨true, _⟩ _ _ _ _ (new2 hS (i := 0) (j := 1) (k := 2) rfl rfl rfl (by decide) (by decide)) (hS.get 0 rfl) hx1 hg1 (hS.get 1 rfl) (keep1 hS hq (hS.get 2 rfl))
  )) only [↓Hsh.on])
theorem c_z_operand {K : PySem.W.Frag} {A : List Addr} {H0 H : Hp} {L : List Cell} {p q : Addr} {ns : List Int} {x g n : Int} {Q : VK} {E : XK} {i j : Nat} (hS : SH A H0 H L) (e : L[i]? = some (p, stO q x g n)) (e2 : L[j]? = some (q, .lst (ns.map V.int))) (ne : j ≠ i) (h0 : 0 ≤ x) (h1 : 0 ≤ g)
    (k : ∀ (y : Addr) (o : Opd) (x' g' n' : Int) H', 0 ≤ x' → 0 ≤ g' → SH A H0 H' ((y, o.o) :: L.set i (p, stO q x' g' n')) → Q (.ref y) H') : sp_z_operand K ([.ref p] ++ []) H Q E :=
  ⟨_, rfl, p, q, ns, x, g, n, rfl, hS.get i e, hS.get j e2, hS.ne e e2 ne, h0, h1, fun y o x' g' n' H' a b c d e' f => k y o x' g' n' H' c d (hS.call1n i e rfl f e' a b)⟩
local macro_rules | `(tactic| walk_at "st") => `(tactic| first
  | ((with_reducible show sp_z_operand _ _ _ _ _); apply c_z_operand hS; (· walk_at "ix"); (· walk_at "ix"); (· decide); (· walk_at "ar"); (· walk_at "ar"); intro xo oo x1 g1 n1 H1 hx1 hg1 hS1; clear hS; rename SH _ _ _ _ => hS; simp only [List.set_cons_zero, List.set_cons_succ] at hS))
def sp_z_target (K : PySem.W.Frag) : Sp := mk2 fun a b H Q _ => ∃ (p q : Addr) (ns : List Int) (i g n ix : Int), a = .ref p ∧ b = .int ix ∧ H p = some (stO q i g n) ∧ H q = some (.lst (ns.map V.int)) ∧ q ≠ p ∧ 0 ≤ i ∧ 0 ≤ g ∧
  ∀ (r i' g' n' : Int) H', 0 ≤ i' → 0 ≤ g' → H' p = some (stO q i' g' n') → Keep [p] H H' → Q (.int r) H'
theorem ok_z_target {P : Program} {w : World} {K : PySem.W.Frag} {mg : Str → Option Value} {base : Heap} (Y : Env w K mg) (G_z_pick : CallOk P w K mg base CX0 1 "_law_pick" ["_law_state", "_law_limit"] (sp_z_pick K)) : CallOk P w K mg base CX0 2 "_law_target" ["_law_state", "_law_index"] (sp_z_target K) := Hsh.un (by simp (disch := k_dflt (
  refine Hsh.up ?_
  obtain ⟨fd, F⟩ := Y.fd_z_target
  refine ⟨_, fd, Y.mg_z_target, F.kp, F.bindsN (fun _ _ _ _ _ _ us hl => match us, hl with | [_, _], _ => rfl), F.ok sc_z_target mk2_len (fun cdv A outer s H vs Q E hr h => ?_)⟩
  have hu := hu_room hr
  obtain ⟨_, _, rfl, p, q, ns, i, g, n, ix, rfl, rfl, hp, hq, ne, hi, hg, k⟩ := h
  have hS : SH [p, q] H H [(p, stO q i g n), (q, .lst (ns.map V.int))] := start2 hp hq ne
  refine ⟨_, PSs.nox (pss_cons (ps_set (i := 2) sc_z_target.nd rfl (Or.inl rfl) (pe_callG G_z_pick hr rfl pass0 (pa_cons (pv 0) (pa_cons pe_int pa_nil))))
  (pss_cons (ps_if (pt_cmpR (xEq hu) (pv 2) pe_int (nomark _)) (pss_one (ps_ret (pe_op xAdd (pv 1) pe_int))) pss_nil)
  (pss_cons (ps_if (pt_cmpR (xEq hu) (pv 2) pe_int (nomark _)) (pss_one (ps_ret (pv 1))) pss_nil)
  (pss_one (ps_ret (pe_callG G_z_pick hr rfl pass0 (pa_cons (pv 0) (pa_cons pe_int pa_nil)))))))), ?_⟩
  rw [st_z_target]
  try simp only [cxK, cxK2, cxW, cxW2]
  clear hu hr F
  repeat' walk_at "st"
  all_goals exact k _ _ _ _ _ hx1 hg1 (hS.get 0 rfl) (keep1 hS hq (hS.get 1 rfl))
  )) only [↓Hsh.on])
theorem c_z_target {K : PySem.W.Frag} {A : List Addr} {H0 H : Hp} {L : List Cell} {p q : Addr} {ns : List Int} {x g n ix : Int} {Q : VK} {E : XK} {i j : Nat} (hS : SH A H0 H L) (e : L[i]? = some (p, stO q x g n)) (e2 : L[j]? = some (q, .lst (ns.map V.int))) (ne : j ≠ i) (h0 : 0 ≤ x) (h1 : 0 ≤ g)
    (k : ∀ (r x' g' n' : Int) H', 0 ≤ x' → 0 ≤ g' → SH A H0 H' (L.set i (p, stO q x' g' n')) → Q (.int r) H') : sp_z_target K ([.ref p, .int ix] ++ []) H Q E :=
  ⟨_, _, rfl, p, q, ns, x, g, n, ix, rfl, rfl, hS.get i e, hS.get j e2, hS.ne e e2 ne, h0, h1, fun r x' g' n' H' c d e' f => k r x' g' n' H' c d (hS.call1 i e rfl f e')⟩
local macro_rules | `(tactic| walk_at "st") => `(tactic| first
  | ((with_reducible show sp_z_target _ _ _ _ _); apply c_z_target hS; (· walk_at "ix"); (· walk_at "ix"); (· decide); (· walk_at "ar"); (· walk_at "ar"); intro rt x1 g1 n1 H1 hx1 hg1 hS1; clear hS; rename SH _ _ _ _ => hS; simp only [List.set_cons_zero, List.set_cons_succ] at hS))
/-- the four tuples of a row -/
def RowR (K : PySem.W.Frag) (H : Hp) (ix : Int) (nm : Str) (l : Addr) : Prop := ∃ (pi pg pw pb : Addr) (qs : List Addr) (os : List Opd) (ws bs : List Int), H l = some (.lst [.ref pi, .ref pg, .ref pw, .ref pb]) ∧ InsR K H ix nm pi qs os ws bs ∧ OpsAt K H qs os ∧ os.length ≤ 6 ∧ ws.length ≤ 6 ∧ bs.length ≤ 6 ∧
  SqT K H pg (qs.map V.ref) ∧ SqT K H pw (ws.map V.int) ∧ SqT K H pb (bs.map V.int)
theorem InsR.sizes {K : PySem.W.Frag} {H : Hp} {ix : Int} {nm : Str} {p : Addr} {qs : List Addr} {os : List Opd} {ws bs : List Int} (h : InsR K H ix nm p qs os ws bs) : OpsAt K H qs os ∧ os.length ≤ 6 ∧ ws.length ≤ 6 ∧ bs.length ≤ 6 := Hsh.un (by simp (disch := k_dflt (
  refine Hsh.up ?_
  cases h with
  | tick h => exact ⟨.nil, Nat.le_of_ble_eq_true rfl, Nat.le_of_ble_eq_true rfl, Nat.le_of_ble_eq_true rfl⟩
  | jump h => exact ⟨.nil, Nat.le_of_ble_eq_true rfl, Nat.le_of_ble_eq_true rfl, Nat.le_of_ble_eq_true rfl⟩
  | branch h hx => exact ⟨.cons hx .nil, Nat.le_of_ble_eq_true rfl, Nat.le_of_ble_eq_true rfl, Nat.le_trans (srt2_le _ _) (by decide)⟩
  | ret h hv ho hl => exact ⟨ho, hl, Nat.le_of_ble_eq_true rfl, Nat.le_of_ble_eq_true rfl⟩
  | raise h => exact ⟨.nil, Nat.le_of_ble_eq_true rfl, Nat.le_of_ble_eq_true rfl, Nat.le_of_ble_eq_true rfl⟩
  | again h hx hy => exact ⟨.cons hx (.cons hy .nil), Nat.le_of_ble_eq_true rfl, Nat.le_of_ble_eq_true rfl, Nat.le_of_ble_eq_true rfl⟩
  | put h hx => exact ⟨.cons hx .nil, Nat.le_of_ble_eq_true rfl, Nat.le_of_ble_eq_true rfl, Nat.le_of_ble_eq_true rfl⟩
  | move h hx => exact ⟨.cons hx .nil, Nat.le_of_ble_eq_true rfl, Nat.le_of_ble_eq_true rfl, Nat.le_of_ble_eq_true rfl⟩
  | sign hn h hx => exact ⟨.cons hx .nil, Nat.le_of_ble_eq_true rfl, Nat.le_of_ble_eq_true rfl, Nat.le_of_ble_eq_true rfl⟩
  | rel hn h hx hy => exact ⟨.cons hx (.cons hy .nil), Nat.le_of_ble_eq_true rfl, Nat.le_of_ble_eq_true rfl, Nat.le_of_ble_eq_true rfl⟩
  | check h hx => exact ⟨.cons hx .nil, Nat.le_of_ble_eq_true rfl, Nat.le_of_ble_eq_true rfl, Nat.le_of_ble_eq_true rfl⟩
  | load h hx => exact ⟨.cons hx .nil, Nat.le_of_ble_eq_true rfl, Nat.le_of_ble_eq_true rfl, Nat.le_of_ble_eq_true rfl⟩
  | store h hx hy => exact ⟨.cons hx (.cons hy .nil), Nat.le_of_ble_eq_true rfl, Nat.le_of_ble_eq_true rfl, Nat.le_of_ble_eq_true rfl⟩
  | get h => exact ⟨.nil, Nat.le_of_ble_eq_true rfl, Nat.le_of_ble_eq_true rfl, Nat.le_of_ble_eq_true rfl⟩
  | call h hv hw ho hl hm => exact ⟨ho, hl, hm, Nat.le_of_ble_eq_true rfl⟩
  | arith hn h hx hy => exact ⟨.cons hx (.cons hy .nil), Nat.le_of_ble_eq_true rfl, Nat.le_of_ble_eq_true rfl, Nat.le_of_ble_eq_true rfl⟩
  )) only [↓Hsh.on])
theorem RowR.of {K : PySem.W.Frag} {H : Hp} {ix : Int} {nm : Str} {l pi pg pw pb : Addr} {qs : List Addr} {os : List Opd} {ws bs : List Int} (hl : H l = some (.lst [.ref pi, .ref pg, .ref pw, .ref pb])) (h : InsR K H ix nm pi qs os ws bs) (hg : SqT K H pg (qs.map V.ref)) (hw : SqT K H pw (ws.map V.int)) (hb : SqT K H pb (bs.map V.int)) : RowR K H ix nm l :=
  ⟨pi, pg, pw, pb, qs, os, ws, bs, hl, h, h.sizes.1, h.sizes.2.1, h.sizes.2.2.1, h.sizes.2.2.2, hg, hw, hb⟩
def OpC (L : List Cell) (qs : List Addr) (os : List Opd) : Prop := qs.length = os.length ∧ ∀ (k : Nat) (q : Addr) (x : Opd), qs[k]? = some q → os[k]? = some x → (q, x.o) ∈ L
theorem OpC.nil {L : List Cell} : OpC L [] [] := ⟨rfl, fun k q x h => nomatch h⟩
theorem OpC.snoc {L : List Cell} {qs : List Addr} {os : List Opd} {q : Addr} {x : Opd} (h : OpC L qs os) : OpC ((q, x.o) :: L) (qs ++ [q]) (os ++ [x]) := Hsh.un (by simp (disch := k_dflt (
  refine Hsh.up ?_
  refine ⟨by rw [List.length_append, List.length_append, h.1]; rfl, fun k a b h1 h2 => ?_⟩
  by_cases hk : k < qs.length
  · rw [List.getElem?_append_left hk] at h1
    rw [List.getElem?_append_left (by rw [← h.1]; exact hk)] at h2
    exact List.mem_cons_of_mem _ (h.2 k a b h1 h2)
  · have hk2 : k = qs.length := by
      have := (List.getElem?_eq_some_iff.mp h1).1
      rw [List.length_append, List.length_singleton] at this
      omega
    subst hk2
    rw [List.getElem?_append_right (Nat.le_refl _), Nat.sub_self] at h1
    rw [List.getElem?_append_right (by rw [h.1]; exact Nat.le_refl _), h.1, Nat.sub_self] at h2
    cases h1
    cases h2
    exact List.mem_cons_self
  )) only [↓Hsh.on])
theorem OpC.at {K : PySem.W.Frag} {H : Hp} {L : List Cell} {qs : List Addr} {os : List Opd} (h : OpC L qs os) (hL : ∀ c ∈ L, H c.1 = some c.2) : OpsAt K H qs os := ⟨h.1, fun k q x a b => SqT.of (hL _ (h.2 k q x a b))⟩
def sp_z_plain_row (K : PySem.W.Frag) : Sp := mk3 fun a b c H Q _ => ∃ (p q : Addr) (ns : List Int) (i g n ix : Int) (nm : Str), a = .ref p ∧ b = .str nm ∧ c = .int ix ∧ H p = some (stO q i g n) ∧ H q = some (.lst (ns.map V.int)) ∧ q ≠ p ∧ 0 ≤ i ∧ 0 ≤ g ∧ (nm = "tick" ∨ nm = "jump" ∨ nm = "branch" ∨ nm = "return" ∨ nm = "raise" ∨ nm = "again" ∨ nm = "put") ∧
  ∀ (l : Addr) (i' g' n' : Int) H', RowR K H' ix nm l → 0 ≤ i' → 0 ≤ g' → H' p = some (stO q i' g' n') → Keep [p] H H' → Q (.ref l) H'
theorem ok_z_plain_row {P : Program} {w : World} {K : PySem.W.Frag} {mg : Str → Option Value} {base : Heap} (Y : Env w K mg) (G_z_operand : CallOk P w K mg base CX0 2 "_law_operand" ["_law_state"] (sp_z_operand K)) (G_z_pick : CallOk P w K mg base CX0 1 "_law_pick" ["_law_state", "_law_limit"] (sp_z_pick K)) (G_z_target : CallOk P w K mg base CX0 2 "_law_target" ["_law_state", "_law_index"] (sp_z_target K)) : CallOk P w K mg base CX0 3 "_law_plain_row" ["_law_state", "_law_name", "_law_index"] (sp_z_plain_row K) := Hsh.un (by simp (disch := k_dflt (
  refine Hsh.up ?_
  obtain ⟨fd, F⟩ := Y.fd_z_plain_row
  refine ⟨_, fd, Y.mg_z_plain_row, F.kp, F.bindsN (fun _ _ _ _ _ _ us hl => match us, hl with | [_, _, _], _ => rfl), F.ok sc_z_plain_row mk3_len (fun cdv A outer s H vs Q E hr h => ?_)⟩
  have hu := hu_room hr
  obtain ⟨_, _, _, rfl, p, q, ns, i, g, n, ix, nm, rfl, rfl, rfl, hp, hq, ne, hi, hg, hnm, k⟩ := h
  have hS : SH [p, q] H H [(p, stO q i g n), (q, .lst (ns.map V.int))] := start2 hp hq ne
  refine ⟨_, PSs.nox (pss_cons (ps_set (i := 3) sc_z_plain_row.nd rfl (Or.inl rfl) (pe_callG G_z_operand hr rfl pass0 (pa_cons (pv 0) pa_nil)))
  (pss_cons (ps_if (pt_cmpR (xEq hu) (pv 1) pe_str (nomark _)) (pss_one (ps_ret (pe_lst (pa_cons (pe_tup (pa_cons pe_str pa_nil)) (pa_cons (pe_tup pa_nil) (pa_cons (pe_tup pa_nil) (pa_cons (pe_tup (pa_cons (pe_op xAdd (pv 2) pe_int) pa_nil)) pa_nil))))))) pss_nil)
  (pss_cons (ps_if (pt_cmpR (xEq hu) (pv 1) pe_str (nomark _)) (pss_cons (ps_set (i := 4) sc_z_plain_row.nd rfl (Or.inl rfl) (pe_callG G_z_target hr rfl pass0 (pa_cons (pv 0) (pa_cons (pv 2) pa_nil))))
  (pss_one (ps_ret (pe_lst (pa_cons (pe_tup (pa_cons pe_str (pa_cons (pv 4) pa_nil))) (pa_cons (pe_tup pa_nil) (pa_cons (pe_tup pa_nil) (pa_cons (pe_tup (pa_cons (pv 4) pa_nil)) pa_nil)))))))) pss_nil)
  (pss_cons (ps_if (pt_cmpR (xEq hu) (pv 1) pe_str (nomark _)) (pss_cons (ps_set (i := 4) sc_z_plain_row.nd rfl (Or.inl rfl) (pe_callG G_z_target hr rfl pass0 (pa_cons (pv 0) (pa_cons (pv 2) pa_nil))))
  (pss_one (ps_ret (pe_lst (pa_cons (pe_tup (pa_cons pe_str (pa_cons (pv 3) (pa_cons (pv 4) pa_nil)))) (pa_cons (pe_tup (pa_cons (pv 3) pa_nil)) (pa_cons (pe_tup pa_nil) (pa_cons (pe_callTy x_tuple rfl Y.z_tuple (by decide +kernel) (pa_cons (pe_callB (cr_sortedSet rfl) rfl Y.z_sorted (by decide +kernel) (pa_cons (pe_callTy (x_setI rfl) rfl Y.z_set (by decide +kernel) (pa_cons (pe_lst (pa_cons (pv 4) (pa_cons (pe_op xAdd (pv 2) pe_int) pa_nil))) pa_nil)) pa_nil)) pa_nil)) pa_nil)))))))) pss_nil)
  (pss_cons (ps_if (pt_cmpR (xEq hu) (pv 1) pe_str (nomark _)) (pss_cons (ps_set (i := 6) sc_z_plain_row.nd rfl (Or.inl rfl) (pe_callTy x_tuple rfl Y.z_tuple (by decide +kernel) (pa_cons (pe_lc (own := [("_law_k", 5)]) (g := gName 5) rfl sc_z_plain_row.nd (pi_range1 rfl Y.z_range (pa_cons (pe_callG G_z_pick (hr.mono (by decide)) rfl pass0 (pa_cons (pv 0) (pa_cons pe_int pa_nil))) pa_nil)) (blkOk_by (N := N_z_plain_row) (sc := defScope s_z_plain_row) (by decide +kernel)) (fun _ _ _ _ _ => pg_name (i := 5) sc_z_plain_row.nd rfl (Or.inl rfl)) (fun _ _ _ _ _ => pts_nil) (fun _ _ _ _ _ => (pe_callG G_z_operand hr rfl pass0 (pa_cons (pv 0) pa_nil)))) pa_nil)))
  (pss_one (ps_ret (pe_lst (pa_cons (pe_tup (pa_cons pe_str (pa_cons (pv 6) pa_nil))) (pa_cons (pv 6) (pa_cons (pe_tup pa_nil) (pa_cons (pe_tup pa_nil) pa_nil)))))))) pss_nil)
  (pss_cons (ps_if (pt_cmpR (xEq hu) (pv 1) pe_str (nomark _)) (pss_one (ps_ret (pe_lst (pa_cons (pe_tup (pa_cons pe_str (pa_cons (pe_callG G_z_pick (hr.mono (by decide)) rfl pass0 (pa_cons (pv 0) (pa_cons pe_int pa_nil))) (pa_cons (pe_callG G_z_pick (hr.mono (by decide)) rfl pass0 (pa_cons (pv 0) (pa_cons pe_int pa_nil))) pa_nil)))) (pa_cons (pe_tup pa_nil) (pa_cons (pe_tup pa_nil) (pa_cons (pe_tup pa_nil) pa_nil))))))) pss_nil)
  (pss_cons (ps_if (pt_cmpR (xEq hu) (pv 1) pe_str (nomark _)) (pss_cons (ps_set (i := 7) sc_z_plain_row.nd rfl (Or.inl rfl) (pe_callG G_z_operand hr rfl pass0 (pa_cons (pv 0) pa_nil)))
  (pss_one (ps_ret (pe_lst (pa_cons (pe_tup (pa_cons pe_str (pa_cons (pv 3) (pa_cons (pv 7) pa_nil)))) (pa_cons (pe_tup (pa_cons (pv 3) (pa_cons (pv 7) pa_nil))) (pa_cons (pe_tup pa_nil) (pa_cons (pe_tup pa_nil) pa_nil)))))))) pss_nil)
  (pss_one (ps_ret (pe_lst (pa_cons (pe_tup (pa_cons pe_str (pa_cons (pv 3) pa_nil))) (pa_cons (pe_tup (pa_cons (pv 3) pa_nil)) (pa_cons (pe_tup pa_nil) (pa_cons (pe_tup (pa_cons (pe_op xAdd (pv 2) pe_int) pa_nil)) pa_nil)))))))))))))), ?_⟩
  rw [st_z_plain_row]
  try simp only [cxK, cxK2, cxW, cxW2]
  clear hu hr F
  rcases hnm with rfl | rfl | rfl | rfl | rfl | rfl | rfl
  · repeat' walk_at "st"
    exact k _ x1 g1 n1 _ (RowR.of (hS.get 0 rfl) (.tick (SqT.of (by walk_at "hp"))) (SqT.of (by walk_at "hp")) (SqT.of (by walk_at "hp")) (SqT.of (by walk_at "hp"))) hx1 hg1 (by walk_at "hp") (keep1 hS hq (by walk_at "hp"))
  · repeat' walk_at "st"
    exact k _ x1 g1 n1 _ (RowR.of (hS.get 0 rfl) (.jump (SqT.of (by walk_at "hp"))) (SqT.of (by walk_at "hp")) (SqT.of (by walk_at "hp")) (SqT.of (by walk_at "hp"))) hx1 hg1 (by walk_at "hp") (keep1 hS hq (by walk_at "hp"))
  · repeat' walk_at "st"
    exact k _ x1 g1 n1 _ (RowR.of (hS.get 0 rfl) (.branch (SqT.of (by walk_at "hp")) (SqT.of (by walk_at "hp"))) (SqT.of (by walk_at "hp")) (SqT.of (by walk_at "hp")) (SqT.of (by walk_at "hp"))) hx1 hg1 (by walk_at "hp") (keep1 hS hq (by walk_at "hp"))
  · repeat' walk_at "st"
    refine u_lcR1 hS (fun D k H' => ∃ (qs : List Addr) (os : List Opd) (Lx : List Cell) (x g n : Int), qs.length = k ∧ OpC Lx qs os ∧ 0 ≤ x ∧ 0 ≤ g ∧ SH [p, q] H H' ((D, .lst (qs.map V.ref)) :: (xo, oo.o) :: (p, stO q x g n) :: (q, .lst (ns.map V.int)) :: Lx)) (by omega) (by omega) (fun D H1 hS => ⟨[], [], [], _, _, _, rfl, .nil, by assumption, by assumption, hS⟩) ?_ ?_
    · rintro D j H1 hj ⟨qs, os, Lx, x, g, n, hql, hoc, hx, hg, hS⟩
      have hql2 : (qs.map V.ref).length = j := by rw [List.length_map]; exact hql
      repeat' walk_at "st"
      refine ⟨qs ++ [xo], os ++ [oo], _, x1, g1, n1, by rw [List.length_append, hql]; rfl, hoc.snoc, hx1, hg1, ?_⟩
      have z := hS.perm (List.perm_middle (l₁ := [_, _, _, _])).symm
      rw [List.map_append]
      exact z
    · rintro D H1 ⟨qs, os, Lx, x1, g1, n1, hql, hoc, hx1, hg1, hS⟩
      repeat' walk_at "st"
      have hL : ∀ c ∈ Lx, H1 c.1 = some c.2 := fun c hc => hS.hs c (List.mem_append_right [_, _, _, _, _, _, _, _, _] hc)
      exact k _ x1 g1 n1 _ (RowR.of (hS.get 0 rfl) (.ret (SqT.of (by walk_at "hp")) (SqT.of (by walk_at "hp")) (hoc.at hL) (by have := hoc.1; omega)) (SqT.of (by walk_at "hp")) (SqT.of (by walk_at "hp")) (SqT.of (by walk_at "hp"))) hx1 hg1 (by walk_at "hp") (keep1 hS hq (by walk_at "hp"))
  · repeat' walk_at "st"
    exact k _ x1 g1 n1 _ (RowR.of (hS.get 0 rfl) (.raise (SqT.of (by walk_at "hp"))) (SqT.of (by walk_at "hp")) (SqT.of (by walk_at "hp")) (SqT.of (by walk_at "hp"))) hx1 hg1 (by walk_at "hp") (keep1 hS hq (by walk_at "hp"))
  · repeat' walk_at "st"
    exact k _ x1 g1 n1 _ (RowR.of (hS.get 0 rfl) (.again (SqT.of (by walk_at "hp")) (SqT.of (by walk_at "hp")) (SqT.of (by walk_at "hp"))) (SqT.of (by walk_at "hp")) (SqT.of (by walk_at "hp")) (SqT.of (by walk_at "hp"))) hx1 hg1 (by walk_at "hp") (keep1 hS hq (by walk_at "hp"))
  · repeat' walk_at "st"
    exact k _ x1 g1 n1 _ (RowR.of (hS.get 0 rfl) (.put (SqT.of (by walk_at "hp")) (SqT.of (by walk_at "hp"))) (SqT.of (by walk_at "hp")) (SqT.of (by walk_at "hp")) (SqT.of (by walk_at "hp"))) hx1 hg1 (by walk_at "hp") (keep1 hS hq (by walk_at "hp"))
  )) only [↓Hsh.on])
theorem c_z_plain_row {K : PySem.W.Frag} {A : List Addr} {H0 H : Hp} {L : List Cell} {p q : Addr} {ns : List Int} {x g n ix : Int} {nm : Str} {Q : VK} {E : XK} {i j : Nat} (hS : SH A H0 H L) (e : L[i]? = some (p, stO q x g n)) (e2 : L[j]? = some (q, .lst (ns.map V.int))) (ne : j ≠ i) (h0 : 0 ≤ x) (h1 : 0 ≤ g) (hn : nm = "tick" ∨ nm = "jump" ∨ nm = "branch" ∨ nm = "return" ∨ nm = "raise" ∨ nm = "again" ∨ nm = "put")
    (k : ∀ (l : Addr) (x' g' n' : Int) H', RowR K H' ix nm l → 0 ≤ x' → 0 ≤ g' → SH A H0 H' (L.set i (p, stO q x' g' n')) → Q (.ref l) H') : sp_z_plain_row K ([.ref p, .str nm, .int ix] ++ []) H Q E :=
  ⟨_, _, _, rfl, p, q, ns, x, g, n, ix, nm, rfl, rfl, rfl, hS.get i e, hS.get j e2, hS.ne e e2 ne, h0, h1, hn, fun l x' g' n' H' a c d e' f => k l x' g' n' H' a c d (hS.call1 i e rfl f e')⟩
def namesL : List Str := ["tick", "move", "neg", "abs", "add", "sub", "mul", "div", "mod", "rem", "less", "equal", "check", "load", "store", "jump", "branch", "call", "return", "raise", "again", "put", "get"]
section
 local macro_rules | `(tactic| walk_at "st") => `(tactic| first
  | ((with_reducible show sp_z_plain_row _ _ _ _ _); apply c_z_plain_row hS; (· walk_at "ix"); (· walk_at "ix"); (· decide); (· walk_at "ar"); (· walk_at "ar"); (· decide); intro lr x1 g1 n1 H1 hrow hx1 hg1 hS1; clear hS; rename SH _ _ _ _ => hS; simp only [List.set_cons_zero, List.set_cons_succ] at hS))
def sp_z_row (K : PySem.W.Frag) : Sp := mk3 fun a b c H Q _ => ∃ (p q : Addr) (ns : List Int) (i g n ix : Int) (nm : Str), a = .ref p ∧ b = .str nm ∧ c = .int ix ∧ H p = some (stO q i g n) ∧ H q = some (.lst (ns.map V.int)) ∧ q ≠ p ∧ 0 ≤ i ∧ 0 ≤ g ∧ nm ∈ namesL ∧
  ∀ (l : Addr) (i' g' n' : Int) H', RowR K H' ix nm l → 0 ≤ i' → 0 ≤ g' → H' p = some (stO q i' g' n') → Keep [p] H H' → Q (.ref l) H'
theorem ok_z_row {P : Program} {w : World} {K : PySem.W.Frag} {mg : Str → Option Value} {base : Heap} (Y : Env w K mg) (G_z_operand : CallOk P w K mg base CX0 2 "_law_operand" ["_law_state"] (sp_z_operand K)) (G_z_pick : CallOk P w K mg base CX0 1 "_law_pick" ["_law_state", "_law_limit"] (sp_z_pick K)) (G_z_plain_row : CallOk P w K mg base CX0 3 "_law_plain_row" ["_law_state", "_law_name", "_law_index"] (sp_z_plain_row K)) : CallOk P w K mg base CX0 4 "_law_row" ["_law_state", "_law_name", "_law_index"] (sp_z_row K) := Hsh.un (by simp (disch := k_dflt (
  refine Hsh.up ?_
  obtain ⟨fd, F⟩ := Y.fd_z_row
  refine ⟨_, fd, Y.mg_z_row, F.kp, F.bindsN (fun _ _ _ _ _ _ us hl => match us, hl with | [_, _, _], _ => rfl), F.ok sc_z_row mk3_len (fun cdv A outer s H vs Q E hr h => ?_)⟩
  have hu := hu_room hr
  obtain ⟨_, _, _, rfl, pst, q, ns, i, g, n, ix, nm, rfl, rfl, rfl, hp, hq, ne, hi, hg, hnm, k⟩ := h
  have hS : SH [pst, q] H H [(pst, stO q i g n), (q, .lst (ns.map V.int))] := start2 hp hq ne
  refine ⟨_, PSs.nox (pss_cons (ps_if (pt_cmpR xIn (pv 1) (pe_tup (pa_cons pe_str (pa_cons pe_str (pa_cons pe_str (pa_cons pe_str (pa_cons pe_str (pa_cons pe_str (pa_cons pe_str pa_nil)))))))) rfl) (pss_one (ps_ret (pe_callG G_z_plain_row hr rfl pass0 (pa_cons (pv 0) (pa_cons (pv 1) (pa_cons (pv 2) pa_nil)))))) pss_nil)
  (pss_cons (ps_set (i := 3) sc_z_row.nd rfl (Or.inl rfl) (pe_callG G_z_pick (hr.mono (by decide)) rfl pass0 (pa_cons (pv 0) (pa_cons pe_int pa_nil))))
  (pss_cons (ps_set (i := 4) sc_z_row.nd rfl (Or.inl rfl) (pe_callG G_z_operand (hr.mono (by decide)) rfl pass0 (pa_cons (pv 0) pa_nil)))
  (pss_cons (ps_set (i := 5) sc_z_row.nd rfl (Or.inl rfl) (pe_callG G_z_operand (hr.mono (by decide)) rfl pass0 (pa_cons (pv 0) pa_nil)))
  (pss_cons (ps_set (i := 6) sc_z_row.nd rfl (Or.inl rfl) (pe_callG G_z_pick (hr.mono (by decide)) rfl pass0 (pa_cons (pv 0) (pa_cons pe_int pa_nil))))
  (pss_cons (ps_set (i := 7) sc_z_row.nd rfl (Or.inl rfl) (pe_tup (pa_cons (pe_op xAdd (pv 2) pe_int) pa_nil)))
  (pss_cons (ps_if (pt_cmpR (xEq hu) (pv 1) pe_str (nomark _)) (pss_one (ps_ret (pe_lst (pa_cons (pe_tup (pa_cons pe_str (pa_cons (pv 3) (pa_cons (pv 4) pa_nil)))) (pa_cons (pe_tup (pa_cons (pv 4) pa_nil)) (pa_cons (pe_tup (pa_cons (pv 3) pa_nil)) (pa_cons (pv 7) pa_nil))))))) pss_nil)
  (pss_cons (ps_if (PW.pt (pw_or (pt_cmpR (xEq hu) (pv 1) pe_str (nomark _)) (pw_or1 (pt_cmpR (xEq hu) (pv 1) pe_str (nomark _))))) (pss_one (ps_ret (pe_lst (pa_cons (pe_tup (pa_cons (pv 1) (pa_cons (pv 3) (pa_cons (pv 4) (pa_cons (pv 6) pa_nil))))) (pa_cons (pe_tup (pa_cons (pv 4) pa_nil)) (pa_cons (pe_tup (pa_cons (pv 3) pa_nil)) (pa_cons (pv 7) pa_nil))))))) pss_nil)
  (pss_cons (ps_if (PW.pt (pw_or (pt_cmpR (xEq hu) (pv 1) pe_str (nomark _)) (pw_or1 (pt_cmpR (xEq hu) (pv 1) pe_str (nomark _))))) (pss_one (ps_ret (pe_lst (pa_cons (pe_tup (pa_cons (pv 1) (pa_cons (pv 3) (pa_cons (pv 4) (pa_cons (pv 5) pa_nil))))) (pa_cons (pe_tup (pa_cons (pv 4) (pa_cons (pv 5) pa_nil))) (pa_cons (pe_tup (pa_cons (pv 3) pa_nil)) (pa_cons (pv 7) pa_nil))))))) pss_nil)
  (pss_cons (ps_if (pt_cmpR (xEq hu) (pv 1) pe_str (nomark _)) (pss_one (ps_ret (pe_lst (pa_cons (pe_tup (pa_cons pe_str (pa_cons (pv 4) (pa_cons (pe_op op_sub (pe_callG G_z_pick (hr.mono (by decide)) rfl pass0 (pa_cons (pv 0) (pa_cons pe_int pa_nil))) pe_int) (pa_cons (pe_callG G_z_pick (hr.mono (by decide)) rfl pass0 (pa_cons (pv 0) (pa_cons pe_int pa_nil))) (pa_cons (pv 6) pa_nil)))))) (pa_cons (pe_tup (pa_cons (pv 4) pa_nil)) (pa_cons (pe_tup pa_nil) (pa_cons (pv 7) pa_nil))))))) pss_nil)
  (pss_cons (ps_if (pt_cmpR (xEq hu) (pv 1) pe_str (nomark _)) (pss_one (ps_ret (pe_lst (pa_cons (pe_tup (pa_cons pe_str (pa_cons (pv 3) (pa_cons (pe_callG G_z_pick (hr.mono (by decide)) rfl pass0 (pa_cons (pv 0) (pa_cons pe_int pa_nil))) (pa_cons (pe_callG G_z_pick (hr.mono (by decide)) rfl pass0 (pa_cons (pv 0) (pa_cons pe_int pa_nil))) (pa_cons (pe_op xAdd pe_int (pe_callG G_z_pick (hr.mono (by decide)) rfl pass0 (pa_cons (pv 0) (pa_cons pe_int pa_nil)))) (pa_cons (pv 4) pa_nil))))))) (pa_cons (pe_tup (pa_cons (pv 4) pa_nil)) (pa_cons (pe_tup (pa_cons (pv 3) pa_nil)) (pa_cons (pv 7) pa_nil))))))) pss_nil)
  (pss_cons (ps_if (pt_cmpR (xEq hu) (pv 1) pe_str (nomark _)) (pss_one (ps_ret (pe_lst (pa_cons (pe_tup (pa_cons pe_str (pa_cons (pe_callG G_z_pick (hr.mono (by decide)) rfl pass0 (pa_cons (pv 0) (pa_cons pe_int pa_nil))) (pa_cons (pe_callG G_z_pick (hr.mono (by decide)) rfl pass0 (pa_cons (pv 0) (pa_cons pe_int pa_nil))) (pa_cons (pe_op xAdd pe_int (pe_callG G_z_pick (hr.mono (by decide)) rfl pass0 (pa_cons (pv 0) (pa_cons pe_int pa_nil)))) (pa_cons (pv 4) (pa_cons (pv 5) pa_nil))))))) (pa_cons (pe_tup (pa_cons (pv 4) (pa_cons (pv 5) pa_nil))) (pa_cons (pe_tup pa_nil) (pa_cons (pv 7) pa_nil))))))) pss_nil)
  (pss_cons (ps_if (pt_cmpR (xEq hu) (pv 1) pe_str (nomark _)) (pss_one (ps_ret (pe_lst (pa_cons (pe_tup (pa_cons pe_str (pa_cons (pv 3) (pa_cons (pv 6) pa_nil)))) (pa_cons (pe_tup pa_nil) (pa_cons (pe_tup (pa_cons (pv 3) pa_nil)) (pa_cons (pv 7) pa_nil))))))) pss_nil)
  (pss_cons (ps_if (pt_cmpR (xEq hu) (pv 1) pe_str (nomark _)) (pss_cons (ps_set (i := 9) sc_z_row.nd rfl (Or.inl rfl) (pe_callTy x_tuple rfl Y.z_tuple (by decide +kernel) (pa_cons (pe_lc (own := [("_law_k", 8)]) (g := gName 8) rfl sc_z_row.nd (pi_range1 rfl Y.z_range (pa_cons (pe_callG G_z_pick (hr.mono (by decide)) rfl pass0 (pa_cons (pv 0) (pa_cons pe_int pa_nil))) pa_nil)) (blkOk_by (N := N_z_row) (sc := defScope s_z_row) (by decide +kernel)) (fun _ _ _ _ _ => pg_name (i := 8) sc_z_row.nd rfl (Or.inl rfl)) (fun _ _ _ _ _ => pts_nil) (fun _ _ _ _ _ => (pe_callG G_z_operand (hr.mono (by decide)) rfl pass0 (pa_cons (pv 0) pa_nil)))) pa_nil)))
  (pss_cons (ps_set (i := 10) sc_z_row.nd rfl (Or.inr rfl) (pe_callG G_z_pick (hr.mono (by decide)) rfl pass0 (pa_cons (pv 0) (pa_cons pe_int pa_nil))))
  (pss_cons (ps_set (i := 11) sc_z_row.nd rfl (Or.inl rfl) (pe_callTy x_tuple rfl Y.z_tuple (by decide +kernel) (pa_cons (pe_lc (own := [("_law_k", 8)]) (g := gName 8) rfl sc_z_row.nd (pi_range1 rfl Y.z_range (pa_cons (pe_callG G_z_pick (hr.mono (by decide)) rfl pass0 (pa_cons (pv 0) (pa_cons pe_int pa_nil))) pa_nil)) (blkOk_by (N := N_z_row) (sc := defScope s_z_row) (by decide +kernel)) (fun _ _ _ _ _ => pg_name (i := 8) sc_z_row.nd rfl (Or.inl rfl)) (fun _ _ _ _ _ => pts_nil) (fun _ _ _ _ _ => (pe_op xMod (pe_callTy x_int rfl Y.z_int (by decide +kernel) (pa_cons (pe_op (OpR.k (K := K) (r := rAddX) xAdd rfl) (pv 10) (pe_op (OpR.k (K := K) (r := rMulX) xMul rfl) pe_int (pv 8))) pa_nil)) pe_int))) pa_nil)))
  (pss_one (ps_ret (pe_lst (pa_cons (pe_tup (pa_cons pe_str (pa_cons (pe_op xAdd pe_int (pe_callG G_z_pick (hr.mono (by decide)) rfl pass0 (pa_cons (pv 0) (pa_cons pe_int pa_nil)))) (pa_cons (pe_callG G_z_pick (hr.mono (by decide)) rfl pass0 (pa_cons (pv 0) (pa_cons pe_int pa_nil))) (pa_cons (pv 9) (pa_cons (pv 11) (pa_cons (pv 6) pa_nil))))))) (pa_cons (pv 9) (pa_cons (pv 11) (pa_cons (pv 7) pa_nil)))))))))) pss_nil)
  (pss_one (ps_ret (pe_lst (pa_cons (pe_tup (pa_cons (pv 1) (pa_cons (pv 3) (pa_cons (pv 4) (pa_cons (pv 5) (pa_cons (pv 6) pa_nil)))))) (pa_cons (pe_tup (pa_cons (pv 4) (pa_cons (pv 5) pa_nil))) (pa_cons (pe_tup (pa_cons (pv 3) pa_nil)) (pa_cons (pv 7) pa_nil))))))))))))))))))))), ?_⟩
  rw [st_z_row]
  try simp only [cxK, cxK2, cxW, cxW2]
  clear hu hr F
  simp only [namesL, List.mem_cons, List.not_mem_nil, or_false] at hnm
  rcases hnm with rfl | rfl | rfl | rfl | rfl | rfl | rfl | rfl | rfl | rfl | rfl | rfl | rfl | rfl | rfl | rfl | rfl | rfl | rfl | rfl | rfl | rfl | rfl
  · repeat' walk_at "st"
    exact k _ x1 g1 n1 _ hrow hx1 hg1 (by walk_at "hp") (keep1 hS hq (by walk_at "hp"))
  · repeat' walk_at "st"
    exact k _ x1 g1 n1 _ (RowR.of (hS.get 0 rfl) (.move (SqT.of (by walk_at "hp")) (SqT.of (by walk_at "hp"))) (SqT.of (by walk_at "hp")) (SqT.of (by walk_at "hp")) (SqT.of (by walk_at "hp"))) hx1 hg1 (by walk_at "hp") (keep1 hS hq (by walk_at "hp"))
  · repeat' walk_at "st"
    exact k _ x1 g1 n1 _ (RowR.of (hS.get 0 rfl) (.sign (.inl rfl) (SqT.of (by walk_at "hp")) (SqT.of (by walk_at "hp"))) (SqT.of (by walk_at "hp")) (SqT.of (by walk_at "hp")) (SqT.of (by walk_at "hp"))) hx1 hg1 (by walk_at "hp") (keep1 hS hq (by walk_at "hp"))
  · repeat' walk_at "st"
    exact k _ x1 g1 n1 _ (RowR.of (hS.get 0 rfl) (.sign (.inr rfl) (SqT.of (by walk_at "hp")) (SqT.of (by walk_at "hp"))) (SqT.of (by walk_at "hp")) (SqT.of (by walk_at "hp")) (SqT.of (by walk_at "hp"))) hx1 hg1 (by walk_at "hp") (keep1 hS hq (by walk_at "hp"))
  · repeat' walk_at "st"
    exact k _ x1 g1 n1 _ (RowR.of (hS.get 0 rfl) (.arith (.inl rfl) (SqT.of (by walk_at "hp")) (SqT.of (by walk_at "hp")) (SqT.of (by walk_at "hp"))) (SqT.of (by walk_at "hp")) (SqT.of (by walk_at "hp")) (SqT.of (by walk_at "hp"))) hx1 hg1 (by walk_at "hp") (keep1 hS hq (by walk_at "hp"))
  · repeat' walk_at "st"
    exact k _ x1 g1 n1 _ (RowR.of (hS.get 0 rfl) (.arith (.inr (.inl rfl)) (SqT.of (by walk_at "hp")) (SqT.of (by walk_at "hp")) (SqT.of (by walk_at "hp"))) (SqT.of (by walk_at "hp")) (SqT.of (by walk_at "hp")) (SqT.of (by walk_at "hp"))) hx1 hg1 (by walk_at "hp") (keep1 hS hq (by walk_at "hp"))
  · repeat' walk_at "st"
    exact k _ x1 g1 n1 _ (RowR.of (hS.get 0 rfl) (.arith (.inr (.inr (.inl rfl))) (SqT.of (by walk_at "hp")) (SqT.of (by walk_at "hp")) (SqT.of (by walk_at "hp"))) (SqT.of (by walk_at "hp")) (SqT.of (by walk_at "hp")) (SqT.of (by walk_at "hp"))) hx1 hg1 (by walk_at "hp") (keep1 hS hq (by walk_at "hp"))
  · repeat' walk_at "st"
    exact k _ x1 g1 n1 _ (RowR.of (hS.get 0 rfl) (.arith (.inr (.inr (.inr (.inl rfl)))) (SqT.of (by walk_at "hp")) (SqT.of (by walk_at "hp")) (SqT.of (by walk_at "hp"))) (SqT.of (by walk_at "hp")) (SqT.of (by walk_at "hp")) (SqT.of (by walk_at "hp"))) hx1 hg1 (by walk_at "hp") (keep1 hS hq (by walk_at "hp"))
  · repeat' walk_at "st"
    exact k _ x1 g1 n1 _ (RowR.of (hS.get 0 rfl) (.arith (.inr (.inr (.inr (.inr (.inl rfl))))) (SqT.of (by walk_at "hp")) (SqT.of (by walk_at "hp")) (SqT.of (by walk_at "hp"))) (SqT.of (by walk_at "hp")) (SqT.of (by walk_at "hp")) (SqT.of (by walk_at "hp"))) hx1 hg1 (by walk_at "hp") (keep1 hS hq (by walk_at "hp"))
  · repeat' walk_at "st"
    exact k _ x1 g1 n1 _ (RowR.of (hS.get 0 rfl) (.arith (.inr (.inr (.inr (.inr (.inr rfl))))) (SqT.of (by walk_at "hp")) (SqT.of (by walk_at "hp")) (SqT.of (by walk_at "hp"))) (SqT.of (by walk_at "hp")) (SqT.of (by walk_at "hp")) (SqT.of (by walk_at "hp"))) hx1 hg1 (by walk_at "hp") (keep1 hS hq (by walk_at "hp"))
  · repeat' walk_at "st"
    exact k _ x1 g1 n1 _ (RowR.of (hS.get 0 rfl) (.rel (.inl rfl) (SqT.of (by walk_at "hp")) (SqT.of (by walk_at "hp")) (SqT.of (by walk_at "hp"))) (SqT.of (by walk_at "hp")) (SqT.of (by walk_at "hp")) (SqT.of (by walk_at "hp"))) hx1 hg1 (by walk_at "hp") (keep1 hS hq (by walk_at "hp"))
  · repeat' walk_at "st"
    exact k _ x1 g1 n1 _ (RowR.of (hS.get 0 rfl) (.rel (.inr rfl) (SqT.of (by walk_at "hp")) (SqT.of (by walk_at "hp")) (SqT.of (by walk_at "hp"))) (SqT.of (by walk_at "hp")) (SqT.of (by walk_at "hp")) (SqT.of (by walk_at "hp"))) hx1 hg1 (by walk_at "hp") (keep1 hS hq (by walk_at "hp"))
  · repeat' walk_at "st"
    exact k _ x1 g1 n1 _ (RowR.of (hS.get 0 rfl) (.check (SqT.of (by walk_at "hp")) (SqT.of (by walk_at "hp"))) (SqT.of (by walk_at "hp")) (SqT.of (by walk_at "hp")) (SqT.of (by walk_at "hp"))) hx1 hg1 (by walk_at "hp") (keep1 hS hq (by walk_at "hp"))
  · repeat' walk_at "st"
    exact k _ x1 g1 n1 _ (RowR.of (hS.get 0 rfl) (.load (SqT.of (by walk_at "hp")) (SqT.of (by walk_at "hp"))) (SqT.of (by walk_at "hp")) (SqT.of (by walk_at "hp")) (SqT.of (by walk_at "hp"))) hx1 hg1 (by walk_at "hp") (keep1 hS hq (by walk_at "hp"))
  · repeat' walk_at "st"
    exact k _ x1 g1 n1 _ (RowR.of (hS.get 0 rfl) (.store (SqT.of (by walk_at "hp")) (SqT.of (by walk_at "hp")) (SqT.of (by walk_at "hp"))) (SqT.of (by walk_at "hp")) (SqT.of (by walk_at "hp")) (SqT.of (by walk_at "hp"))) hx1 hg1 (by walk_at "hp") (keep1 hS hq (by walk_at "hp"))
  · repeat' walk_at "st"
    exact k _ x1 g1 n1 _ hrow hx1 hg1 (by walk_at "hp") (keep1 hS hq (by walk_at "hp"))
  · repeat' walk_at "st"
    exact k _ x1 g1 n1 _ hrow hx1 hg1 (by walk_at "hp") (keep1 hS hq (by walk_at "hp"))
  · repeat' walk_at "st"
    obtain ⟨pb, rfl⟩ : ∃ x, x = p := ⟨p, rfl⟩
    have hS := hS.pick (L' := [(pb, .tup [.int (ix + 1)]), (pst, stO q x1 g1 n1), (q, .lst (ns.map V.int))]) [0, 4, 5] (by decide) rfl
    refine u_lcR1 hS (fun D k H' => ∃ (qs : List Addr) (os : List Opd) (Lx : List Cell) (x g n : Int), qs.length = k ∧ OpC Lx qs os ∧ 0 ≤ x ∧ 0 ≤ g ∧ SH [pst, q] H H' ((D, .lst (qs.map V.ref)) :: (pb, .tup [.int (ix + 1)]) :: (pst, stO q x g n) :: (q, .lst (ns.map V.int)) :: Lx)) (by omega) (by omega) (fun D H1 hS => ⟨[], [], [], _, _, _, rfl, .nil, by assumption, by assumption, hS⟩) ?_ ?_
    · rintro D j H1 hj ⟨qs, os, Lx, x, g, n, hql, hoc, hx, hg, hS⟩
      have hql2 : (qs.map V.ref).length = j := by rw [List.length_map]; exact hql
      repeat' walk_at "st"
      refine ⟨qs ++ [xo], os ++ [oo], _, x1, g1, n1, by rw [List.length_append, hql]; rfl, hoc.snoc, hx1, hg1, ?_⟩
      have z := hS.perm (List.perm_middle (l₁ := [_, _, _, _])).symm
      rw [List.map_append]
      exact z
    · rintro D H1 ⟨qs, os, Lx, x1, g1, n1, hql, hoc, hx1, hg1, hS⟩
      have hos : os.length ≤ 6 := by have := hoc.1; omega
      repeat' walk_at "st"
      obtain ⟨pv, rfl⟩ : ∃ x, x = p := ⟨p, rfl⟩
      refine u_lcR1 hS (fun D2 k H' => ∃ ws : List Int, ws.length = k ∧ SH [pst, q] H H' ((D2, .lst (ws.map V.int)) :: (pv, .tup (qs.map V.ref)) :: (D, .lst (qs.map V.ref)) :: (pb, .tup [.int (ix + 1)]) :: (pst, stO q x1 g1 n1) :: (q, .lst (ns.map V.int)) :: Lx)) (by omega) (by omega) (fun D H1 hS => ⟨[], rfl, hS⟩) ?_ ?_
      · rintro D2 j H2 hj ⟨ws, hwl, hS⟩
        have hwl2 : (ws.map V.int).length = j := by rw [List.length_map]; exact hwl
        repeat' walk_at "st"
        exact ⟨ws ++ [_], by rw [List.length_append, hwl]; rfl, by rw [List.map_append]; exact hS⟩
      · rintro D2 H2 ⟨ws, hwl, hS⟩
        have hws : ws.length ≤ 6 := by omega
        repeat' walk_at "st"
        have hL : ∀ c ∈ Lx, _ = some c.2 := fun c hc => hS.hs c (List.mem_append_right [_, _, _, _, _, _, _, _, _] hc)
        exact k _ x1 g1 n1 _ (RowR.of (hS.get 0 rfl) (.call (SqT.of (by walk_at "hp")) (SqT.of (by walk_at "hp")) (SqT.of (by walk_at "hp")) (hoc.at hL) hos hws) (SqT.of (by walk_at "hp")) (SqT.of (by walk_at "hp")) (SqT.of (by walk_at "hp"))) hx1 hg1 (by walk_at "hp") (keep1 hS hq (by walk_at "hp"))
  · repeat' walk_at "st"
    exact k _ x1 g1 n1 _ hrow hx1 hg1 (by walk_at "hp") (keep1 hS hq (by walk_at "hp"))
  · repeat' walk_at "st"
    exact k _ x1 g1 n1 _ hrow hx1 hg1 (by walk_at "hp") (keep1 hS hq (by walk_at "hp"))
  · repeat' walk_at "st"
    exact k _ x1 g1 n1 _ hrow hx1 hg1 (by walk_at "hp") (keep1 hS hq (by walk_at "hp"))
  · repeat' walk_at "st"
    exact k _ x1 g1 n1 _ hrow hx1 hg1 (by walk_at "hp") (keep1 hS hq (by walk_at "hp"))
  · repeat' walk_at "st"
    exact k _ x1 g1 n1 _ (RowR.of (hS.get 0 rfl) (.get (SqT.of (by walk_at "hp"))) (SqT.of (by walk_at "hp")) (SqT.of (by walk_at "hp")) (SqT.of (by walk_at "hp"))) hx1 hg1 (by walk_at "hp") (keep1 hS hq (by walk_at "hp"))
  )) only [↓Hsh.on])
end
theorem c_z_row {K : PySem.W.Frag} {A : List Addr} {H0 H : Hp} {L : List Cell} {p q : Addr} {ns : List Int} {x g n ix : Int} {nm : Str} {Q : VK} {E : XK} {i j : Nat} (hS : SH A H0 H L) (e : L[i]? = some (p, stO q x g n)) (e2 : L[j]? = some (q, .lst (ns.map V.int))) (ne : j ≠ i) (h0 : 0 ≤ x) (h1 : 0 ≤ g) (hn : nm ∈ namesL)
    (k : ∀ (l : Addr) (x' g' n' : Int) H', RowR K H' ix nm l → 0 ≤ x' → 0 ≤ g' → SH A H0 H' (L.set i (p, stO q x' g' n')) → Q (.ref l) H') : sp_z_row K ([.ref p, .str nm, .int ix] ++ []) H Q E :=
  ⟨_, _, _, rfl, p, q, ns, x, g, n, ix, nm, rfl, rfl, rfl, hS.get i e, hS.get j e2, hS.ne e e2 ne, h0, h1, hn, fun l x' g' n' H' a c d e' f => k l x' g' n' H' a c d (hS.call1 i e rfl f e')⟩
/-! ### regions -/
def RegsAt (K : PySem.W.Frag) (H : Hp) (gs : List Addr) (ds : List (List Int)) : Prop := gs.length = ds.length ∧ ∀ (k : Nat) (g : Addr) (d : List Int), gs[k]? = some g → ds[k]? = some d → SqT K H g (d.map V.int) ∧ d.length = 5
theorem RegsAt.keep {K : PySem.W.Frag} {A : List Addr} {H H' : Hp} {gs : List Addr} {ds : List (List Int)} (h : RegsAt K H gs ds) (k : Keep A H H') : RegsAt K H' gs ds := ⟨h.1, fun i g d a b => ⟨SqT_keep (h.2 i g d a b).1 k, (h.2 i g d a b).2⟩⟩
def RegC (L : List Cell) (gs : List Addr) (ds : List (List Int)) : Prop := gs.length = ds.length ∧ ∀ (k : Nat) (g : Addr) (d : List Int), gs[k]? = some g → ds[k]? = some d → (g, HO.tup (d.map V.int)) ∈ L ∧ d.length = 5
theorem RegC.nil {L : List Cell} : RegC L [] [] := ⟨rfl, fun k q x h => nomatch h⟩
theorem RegC.snoc {L : List Cell} {gs : List Addr} {ds : List (List Int)} {g : Addr} {d : List Int} (h : RegC L gs ds) (hd : d.length = 5) : RegC ((g, HO.tup (d.map V.int)) :: L) (gs ++ [g]) (ds ++ [d]) := Hsh.un (by simp (disch := k_dflt (
  refine Hsh.up ?_
  refine ⟨by rw [List.length_append, List.length_append, h.1]; rfl, fun k a b h1 h2 => ?_⟩
  by_cases hk : k < gs.length
  · rw [List.getElem?_append_left hk] at h1
    rw [List.getElem?_append_left (by rw [← h.1]; exact hk)] at h2
    exact ⟨List.mem_cons_of_mem _ (h.2 k a b h1 h2).1, (h.2 k a b h1 h2).2⟩
  · have hk2 : k = gs.length := by
      have := (List.getElem?_eq_some_iff.mp h1).1
      rw [List.length_append, List.length_singleton] at this
      omega
    subst hk2
    rw [List.getElem?_append_right (Nat.le_refl _), Nat.sub_self] at h1
    rw [List.getElem?_append_right (by rw [h.1]; exact Nat.le_refl _), h.1, Nat.sub_self] at h2
    cases h1
    cases h2
    exact ⟨List.mem_cons_self, hd⟩
  )) only [↓Hsh.on])
theorem RegC.at {K : PySem.W.Frag} {H : Hp} {L : List Cell} {gs : List Addr} {ds : List (List Int)} (h : RegC L gs ds) (hL : ∀ c ∈ L, H c.1 = some c.2) : RegsAt K H gs ds := ⟨h.1, fun k g d a b => ⟨SqT.of (hL _ (h.2 k g d a b).1), (h.2 k g d a b).2⟩⟩
def sp_z_regions (K : PySem.W.Frag) : Sp := mk1 fun a H Q _ => ∃ (p q : Addr) (ns : List Int) (i g n : Int), a = .ref p ∧ H p = some (stO q i g n) ∧ H q = some (.lst (ns.map V.int)) ∧ q ≠ p ∧ 0 ≤ i ∧ 0 ≤ g ∧
  ∀ (t : Addr) (gs : List Addr) (ds : List (List Int)) (i' g' n' : Int) H', SqT K H' t (gs.map V.ref) → RegsAt K H' gs ds → gs.length ≤ 5 → 0 ≤ i' → 0 ≤ g' → H' p = some (stO q i' g' n') → Keep [p] H H' → Q (.ref t) H'
theorem ok_z_regions {P : Program} {w : World} {K : PySem.W.Frag} {mg : Str → Option Value} {base : Heap} (Y : Env w K mg) (G_z_pick : CallOk P w K mg base CX0 1 "_law_pick" ["_law_state", "_law_limit"] (sp_z_pick K)) : CallOk P w K mg base CX0 2 "_law_regions" ["_law_state"] (sp_z_regions K) := Hsh.un (by simp (disch := k_dflt (
  refine Hsh.up ?_
  obtain ⟨fd, F⟩ := Y.fd_z_regions
  refine ⟨_, fd, Y.mg_z_regions, F.kp, F.bindsN (fun _ _ _ _ _ _ us hl => match us, hl with | [_], _ => rfl), F.ok sc_z_regions mk1_len (fun cdv A outer s H vs Q E hr h => ?_)⟩
  have hu := hu_room hr
  obtain ⟨_, rfl, pst, q, ns, i, g, n, rfl, hp, hq, ne, hi, hg, k⟩ := h
  have hS : SH [pst, q] H H [(pst, stO q i g n), (q, .lst (ns.map V.int))] := start2 hp hq ne
  refine ⟨_, PSs.nox (pss_cons (ps_set (i := 1) sc_z_regions.nd rfl (Or.inl rfl) (pe_lst pa_nil))
  (pss_cons (ps_for PassesOwn.never rfl (pi_range1 rfl Y.z_range (pa_cons (pe_callG G_z_pick hr rfl pass0 (pa_cons (pv 0) (pa_cons pe_int pa_nil))) pa_nil)) (pg_name (i := 2) sc_z_regions.nd rfl (Or.inl rfl))
  (pss_cons (ps_set (i := 3) sc_z_regions.nd rfl (Or.inl rfl) (pe_callG G_z_pick hr rfl pass0 (pa_cons (pv 0) (pa_cons pe_int pa_nil))))
  (pss_cons (ps_set (i := 4) sc_z_regions.nd rfl (Or.inl rfl) (pe_op xAdd (pe_op xAdd (pv 3) pe_int) (pe_callG G_z_pick hr rfl pass0 (pa_cons (pv 0) (pa_cons pe_int pa_nil)))))
  (pss_one (ps_expr (pe_bm PySem.F.plainAttrs_list PySem.F.slot_list_append PySem.F.type_list_append mt_append (pv 1) (pa_cons (pe_tup (pa_cons (pv 3) (pa_cons (pv 4) (pa_cons (pe_op xAdd (pv 4) (pe_callG G_z_pick hr rfl pass0 (pa_cons (pv 0) (pa_cons pe_int pa_nil)))) (pa_cons (pv 2) (pa_cons (pe_op xAdd (pv 2) pe_int) pa_nil)))))) pa_nil)))))))
  (pss_one (ps_ret (pe_callTy x_tuple rfl Y.z_tuple (by decide +kernel) (pa_cons (pv 1) pa_nil)))))), ?_⟩
  rw [st_z_regions]
  try simp only [cxK, cxK2, cxW, cxW2]
  clear hu hr F
  repeat' walk_at "st"
  obtain ⟨pR, rfl⟩ : ∃ x, x = p := ⟨p, rfl⟩
  refine u_forR1 (fun i σ H' => ∃ (gs : List Addr) (ds : List (List Int)) (Lx : List Cell) (x g n : Int) (v2 v3 v4 : Option V), σ = [some (.ref pst), some (.ref pR), v2, v3, v4] ∧ gs.length = i ∧ RegC Lx gs ds ∧ 0 ≤ x ∧ 0 ≤ g ∧ SH [pst, q] H H' ((pR, .lst (gs.map V.ref)) :: (pst, stO q x g n) :: (q, .lst (ns.map V.int)) :: Lx)) (by omega) (by omega) ⟨[], [], [], _, _, _, _, _, _, rfl, rfl, .nil, by assumption, by assumption, hS⟩ ?_ ?_
  · rintro j σ H1 hj ⟨gs, ds, Lx, x, g, n, v2, v3, v4, rfl, hgl, hrc, hx, hg, hS⟩
    have hgl2 : (gs.map V.ref).length = j := by rw [List.length_map]; exact hgl
    repeat' walk_at "st"
    have z := hS.perm (List.perm_middle (l₁ := [_, _, _])).symm
    obtain ⟨d, hd5, hS⟩ : ∃ d : List Int, d.length = 5 ∧ SH [pst, q] H _ ((pR, .lst (gs.map V.ref ++ [V.ref p])) :: (pst, stO q x1 g1 n1) :: (q, .lst (ns.map V.int)) :: (p, .tup (d.map V.int)) :: Lx) := ⟨[_, _, _, _, _], rfl, z⟩
    exact ⟨gs ++ [p], ds ++ [d], _, x1, g1, n1, _, _, _, rfl, by rw [List.length_append, hgl]; rfl, hrc.snoc hd5, hx1, hg1, by rw [List.map_append]; exact hS⟩
  · rintro σ H1 ⟨gs, ds, Lx, x, g, n, v2, v3, v4, rfl, hgl, hrc, hx, hg, hS⟩
    repeat' walk_at "st"
    have hL : ∀ c ∈ Lx, _ = some c.2 := fun c hc => hS.hs c (List.mem_append_right [_, _, _, _] hc)
    exact k _ gs ds x g n _ (SqT.of (hS.get 0 rfl)) (hrc.at hL) (by omega) hx hg (hS.get 2 rfl) (keep1 hS hq (hS.get 3 rfl))
  )) only [↓Hsh.on])
def hit (i : Int) (d : List Int) : Bool := decide (d.getD 0 0 ≤ i) && decide (i < d.getD 1 0)
def pickR : List Addr → List (List Int) → Int → V
  | g :: gs, d :: ds, i => if hit i d = true then .ref g else pickR gs ds i
  | _, _, _ => .non
theorem pickR_none {i : Int} : ∀ {gs : List Addr} {ds : List (List Int)}, (∀ (j : Nat) (d : List Int), ds[j]? = some d → hit i d = false) → pickR gs ds i = .non
  | [], _, _ => rfl
  | _ :: _, [], _ => rfl
  | g :: gs, d :: ds, h => by
    unfold pickR
    rw [if_neg (by rw [h 0 d rfl]; exact Bool.false_ne_true)]
    exact pickR_none fun j d' e => h (j + 1) d' e
theorem pickR_hit {i : Int} : ∀ {gs : List Addr} {ds : List (List Int)} {k : Nat} {g : Addr} {d : List Int}, gs[k]? = some g → ds[k]? = some d → hit i d = true → (∀ (j : Nat) (d' : List Int), j < k → ds[j]? = some d' → hit i d' = false) → pickR gs ds i = .ref g
  | [], _, _, _, _, h, _, _, _ => nomatch h
  | _ :: _, [], _, _, _, _, h, _, _ => nomatch h
  | a :: gs, b :: ds, 0, g, d, h1, h2, h3, _ => by
    cases h1
    cases h2
    unfold pickR
    rw [if_pos h3]
  | a :: gs, b :: ds, k + 1, g, d, h1, h2, h3, h4 => by
    unfold pickR
    rw [if_neg (by rw [h4 0 b (Nat.succ_pos _) rfl]; exact Bool.false_ne_true)]
    exact pickR_hit (k := k) h1 h2 h3 fun j d' hj e => h4 (j + 1) d' (Nat.succ_lt_succ hj) e
theorem pickR_snoc {i : Int} : ∀ {gs : List Addr} {ds : List (List Int)} {k : Nat} {g : Addr} {d : List Int}, gs[k]? = some g → ds[k]? = some d → pickR (gs.take (k + 1)) (ds.take (k + 1)) i = if pickR (gs.take k) (ds.take k) i = .non then (if hit i d = true then .ref g else .non) else pickR (gs.take k) (ds.take k) i
  | [], _, _, _, _, h, _ => nomatch h
  | _ :: _, [], _, _, _, _, h => nomatch h
  | a :: gs, b :: ds, 0, g, d, h1, h2 => by
    cases h1
    cases h2
    rfl
  | a :: gs, b :: ds, k + 1, g, d, h1, h2 => by
    show (if hit i b = true then V.ref a else pickR (gs.take (k + 1)) (ds.take (k + 1)) i) = if (if hit i b = true then V.ref a else pickR (gs.take k) (ds.take k) i) = .non then _ else (if hit i b = true then V.ref a else pickR (gs.take k) (ds.take k) i)
    by_cases hb : hit i b = true
    · rw [if_pos hb, if_pos hb, if_neg (fun z => nomatch z)]
    · rw [if_neg hb, if_neg hb]
      exact pickR_snoc (k := k) h1 h2
theorem same_pick {K : PySem.W.Frag} {H : Hp} {n : Nat} {i : Int} : ∀ {gs : List Addr} {ds : List (List Int)}, RegsAt K H gs ds → SameT K H (n + 2) (pickR gs ds i) (pickR gs ds i)
  | [], _, _ => .non _
  | _ :: _, [], _ => .non _
  | g :: gs, d :: ds, h => by
    unfold pickR
    by_cases hb : hit i d = true
    · rw [if_pos hb]
      have z := h.2 0 g d rfl rfl
      exact AllS.tup z.1 z.1 (.ints d) (by rw [List.length_map, z.2]; decide)
    · rw [if_neg hb]
      exact same_pick ⟨by have := h.1; simpa using this, fun k a b h1 h2 => h.2 (k + 1) a b h1 h2⟩
theorem len5 {l : List Int} (h : l.length = 5) : ∃ a b c d e, l = [a, b, c, d, e] := match l, h with | [a, b, c, d, e], _ => ⟨a, b, c, d, e, rfl⟩
abbrev uO (K : PySem.W.Frag) (dx c t : Addr) : HO := .ins (He.ga K "Unit") dx [("parent", .int (-1)), ("arguments", .int 0), ("results", .int 0), ("registers", .int 7), ("cells", .int 0), ("code", .ref c), ("regions", .ref t)]
def mk8 (P : V → V → V → V → V → V → V → V → Hp → VK → XK → Prop) : Sp := fun vs H Q E => ∃ a b c d e f g i, vs = [a, b, c, d, e, f, g, i] ∧ P a b c d e f g i H Q E
theorem mk8_len {P} (vs H Q E) (h : mk8 P vs H Q E) : vs.length = 8 := by obtain ⟨_, _, _, _, _, _, _, _, rfl, _⟩ := h; rfl
def sp_Unit_init__ (K : PySem.W.Frag) : Sp := mk8 fun a b c d e f g i H Q _ => ∃ (u dx o t : Addr), a = .ref u ∧ b = .int (-1) ∧ c = .int 0 ∧ d = .int 0 ∧ e = .int 7 ∧ f = .int 0 ∧ g = .ref o ∧ i = .ref t ∧ H u = some (.ins (He.ga K "Unit") dx []) ∧ ∀ H', SH [u] H H' [(u, uO K dx o t)] → Q .non H'
theorem ok_Unit_init__ {P : Program} {w : World} {K : PySem.W.Frag} {mg : Str → Option Value} {base : Heap} (Y : Env w K mg)  : MakeOk P w K mg base CX0 1 "Unit" ["self", "parent", "arguments", "results", "registers", "cells", "code", "regions"] (sp_Unit_init__ K) := Hsh.un (by simp (disch := k_dflt (
  refine Hsh.up ?_
  obtain ⟨fd, F⟩ := Y.fd_Unit_init__
  refine ⟨fd, Y.mg_Unit, Y.mk_Unit, F.bindsN (fun _ _ _ _ _ _ us hl => match us, hl with | [_, _, _, _, _, _, _, _], _ => rfl), F.ok sc_Unit_init__ mk8_len (fun cdv A outer s H vs Q E hr h => ?_)⟩
  have hu := hu_room hr
  obtain ⟨_, _, _, _, _, _, _, _, rfl, u, dx, o, t, rfl, rfl, rfl, rfl, rfl, rfl, rfl, rfl, hu0, k⟩ := h
  have hS : SH [u] H H [(u, .ins (He.ga K "Unit") dx [])] := SH.start1 hu0
  refine ⟨_, PSs.nox (pss_cons (ps_fld (pv 0) (pv 1) rfl)
  (pss_cons (ps_fld (pv 0) (pv 2) rfl)
  (pss_cons (ps_fld (pv 0) (pv 3) rfl)
  (pss_cons (ps_fld (pv 0) (pv 4) rfl)
  (pss_cons (ps_fld (pv 0) (pv 5) rfl)
  (pss_cons (ps_fld (pv 0) (pv 6) rfl)
  (pss_one (ps_fld (pv 0) (pv 7) rfl)))))))), ?_⟩
  rw [st_Unit_init__]
  try simp only [cxK, cxK2, cxW, cxW2]
  clear hu hr F
  repeat' walk_at "st"
  exact k _ hS
  )) only [↓Hsh.on])
def sp_region_of (K : PySem.W.Frag) : Sp := mk2 fun a b H Q _ => ∃ (u dx c t : Addr) (gs : List Addr) (ds : List (List Int)) (i : Int), a = .ref u ∧ b = .int i ∧ H u = some (uO K dx c t) ∧ SqT K H t (gs.map V.ref) ∧ RegsAt K H gs ds ∧ gs.length ≤ 5 ∧ ∀ H', Keep [] H H' → Q (pickR gs ds i) H'
theorem ok_region_of {P : Program} {w : World} {K : PySem.W.Frag} {mg : Str → Option Value} {base : Heap} (Y : Env w K mg)  : CallOk P w K mg base CX0 1 "region_of" ["unit", "index"] (sp_region_of K) := Hsh.un (by simp (disch := k_dflt (
  refine Hsh.up ?_
  obtain ⟨fd, F⟩ := Y.fd_region_of
  refine ⟨_, fd, Y.mg_region_of, F.kp, F.bindsN (fun _ _ _ _ _ _ us hl => match us, hl with | [_, _], _ => rfl), F.ok sc_region_of mk2_len (fun cdv A outer s H vs Q E hr h => ?_)⟩
  have hu := hu_room hr
  obtain ⟨_, _, rfl, u, dx, c, t, gs, ds, i, rfl, rfl, hu0, ht, hrg, hl, k⟩ := h
  have hS : SH [] H H [] := SH.start0
  refine ⟨_, PSs.nox (pss_cons (ps_for PassesOwn.never rfl (pi_tup (pe_fld (pv 0) rfl)) (pg_name (i := 2) sc_region_of.nd rfl (Or.inl rfl))
  (pss_one (ps_if (pt_chain op_le op_lt (pe_ix xIx (pv 2) pe_int (fun _ _ => rfl)) (pv 1) (pe_ix xIx (pv 2) pe_int (fun _ _ => rfl))) (pss_one (ps_ret (pv 2))) pss_nil)))
  (pss_one (ps_ret pe_non))), ?_⟩
  rw [st_region_of]
  try simp only [cxK, cxK2, cxW, cxW2]
  clear hu hr F
  repeat' walk_at "st"
  refine u_forT (xs := gs.map V.ref) (fun j σ H' => ∃ v, σ = [some (.ref u), some (.int i), v] ∧ SH [] H H' [] ∧ ∀ (m : Nat) (d : List Int), m < j → ds[m]? = some d → hit i d = false) ht ⟨_, rfl, hS, fun m d hm => absurd hm (Nat.not_lt_zero _)⟩ ?_ ?_ ?_
  · rintro j σ H1 _ ⟨v, rfl, hS, _⟩
    exact SqT_keep ht hS.kp
  · rintro j x σ H1 hx ⟨v, rfl, hS, hno⟩
    rw [List.getElem?_map] at hx
    obtain ⟨g, hg, rfl⟩ := Option.map_eq_some_iff.mp hx
    obtain ⟨d, hd⟩ : ∃ d, ds[j]? = some d := ⟨_, List.getElem?_eq_getElem (by rw [← hrg.1]; exact (List.getElem?_eq_some_iff.mp hg).1)⟩
    obtain ⟨hgd, hd5⟩ := hrg.2 j g d hg hd
    obtain ⟨a, b, c2, e, f, rfl⟩ := len5 hd5
    have hgd2 : SqT K H1 g [.int a, .int b, .int c2, .int e, .int f] := SqT_keep hgd hS.kp
    repeat' walk_at "st"
    · have hh : hit i [a, b, c2, e, f] = true := show (decide (a ≤ i) && decide (i < b)) = true by rw [decide_eq_true (by assumption), decide_eq_true (by assumption)]; rfl
      have z := k _ hS.kp
      rw [pickR_hit hg hd hh hno] at z
      exact z
    all_goals
      have hh : hit i [a, b, c2, e, f] = false := show (decide (a ≤ i) && decide (i < b)) = false by simp; omega
      refine ⟨_, rfl, hS, fun m d hm hd2 => ?_⟩
      by_cases q : m < j
      · exact hno m d q hd2
      · obtain rfl : m = j := by omega
        rw [hd] at hd2
        cases hd2
        exact hh
  · rintro σ H1 ⟨v, rfl, hS, hno⟩
    repeat' walk_at "st"
    have z := k _ hS.kp
    rw [pickR_none (fun j d e => hno j d (by rw [List.length_map, hrg.1]; exact (List.getElem?_eq_some_iff.mp e).1) e)] at z
    exact z
  )) only [↓Hsh.on])
/-! ### the law -/
theorem c_Unit_init {K : PySem.W.Frag} {A : List Addr} {H0 H : Hp} {L : List Cell} {u dx o t : Addr} {Q : VK} {E : XK} (hS : SH A H0 H ((u, .ins (He.ga K "Unit") dx []) :: L)) (k : ∀ H', SH A H0 H' ((u, uO K dx o t) :: L) → Q .non H') : sp_Unit_init__ K ([.ref u, .int (-1), .int 0, .int 0, .int 7, .int 0, .ref o, .ref t] ++ []) H Q E :=
  ⟨_, _, _, _, _, _, _, _, rfl, u, dx, o, t, rfl, rfl, rfl, rfl, rfl, rfl, rfl, rfl, hS.get 0 rfl, fun H' C => k H' (SH.call (B := [(u, .ins (He.ga K "Unit") dx [])]) (F := L) hS C)⟩
theorem c_z_regions {K : PySem.W.Frag} {A : List Addr} {H0 H : Hp} {L : List Cell} {p q : Addr} {ns : List Int} {x g n : Int} {Q : VK} {E : XK} {i j : Nat} (hS : SH A H0 H L) (e : L[i]? = some (p, stO q x g n)) (e2 : L[j]? = some (q, .lst (ns.map V.int))) (ne : j ≠ i) (h0 : 0 ≤ x) (h1 : 0 ≤ g)
    (k : ∀ (t : Addr) (gs : List Addr) (ds : List (List Int)) (x' g' n' : Int) H', SqT K H' t (gs.map V.ref) → RegsAt K H' gs ds → gs.length ≤ 5 → 0 ≤ x' → 0 ≤ g' → Keep [p] H H' → SH A H0 H' (L.set i (p, stO q x' g' n')) → Q (.ref t) H') : sp_z_regions K ([.ref p] ++ []) H Q E :=
  ⟨_, rfl, p, q, ns, x, g, n, rfl, hS.get i e, hS.get j e2, hS.ne e e2 ne, h0, h1, fun t gs ds x' g' n' H' a b c d f e' kp => k t gs ds x' g' n' H' a b c d f kp (hS.call1 i e rfl kp e')⟩
section
variable {K : PySem.W.Frag} {A : List Addr} {H0 H : Hp} {L : List Cell} {p : Addr} {ix : Int} {nm : Str} {qs : List Addr} {os : List Opd} {ws bs : List Int} {Q : VK} {E : XK}
theorem c_reads (hS : SH A H0 H L) (h : InsR K H ix nm p qs os ws bs) (k : ∀ t H', SH A H0 H' L → SqT K H' t ((rdL os).map V.int) → Q (.ref t) H') : sp_reads K ([.ref p] ++ []) H Q E :=
  ⟨_, rfl, p, ix, nm, qs, os, ws, bs, rfl, h, h.sizes.1, h.sizes.2.1, fun t H' kp hq => k t H' (hS.call0 kp) hq⟩
theorem c_writes (hS : SH A H0 H L) (h : InsR K H ix nm p qs os ws bs) (k : ∀ t H', SH A H0 H' L → SqT K H' t (ws.map V.int) → Q (.ref t) H') : sp_writes K ([.ref p] ++ []) H Q E :=
  ⟨_, rfl, p, ix, nm, qs, os, ws, bs, rfl, h, fun t H' kp hq => k t H' (hS.call0 kp) hq⟩
theorem c_followers (hS : SH A H0 H L) (h : InsR K H ix nm p qs os ws bs) (k : ∀ t H', SH A H0 H' L → SqT K H' t (bs.map V.int) → Q (.ref t) H') : sp_followers K ([.ref p, .int ix] ++ []) H Q E :=
  ⟨_, _, rfl, p, ix, nm, qs, os, ws, bs, rfl, rfl, h, fun t H' kp hq => k t H' (hS.call0 kp) hq⟩
theorem c_can_raise (h : InsR K H ix nm p qs os ws bs) (k : Q (.bl (inV (.str nm) raisers)) H) : sp_can_raise K ([.ref p] ++ []) H Q E := by
  obtain ⟨r, hr⟩ := h.head
  exact ⟨_, rfl, p, nm, r, rfl, hr, k⟩
theorem c_region_of {u dx c t : Addr} {gs : List Addr} {ds : List (List Int)} {i : Int} (hS : SH A H0 H L) (hu : H u = some (uO K dx c t)) (ht : SqT K H t (gs.map V.ref)) (hr : RegsAt K H gs ds) (hl : gs.length ≤ 5) (k : ∀ H', SH A H0 H' L → Q (pickR gs ds i) H') : sp_region_of K ([.ref u, .int i] ++ []) H Q E :=
  ⟨_, _, rfl, u, dx, c, t, gs, ds, i, rfl, rfl, hu, ht, hr, hl, fun H' kp => k H' (hS.call0 kp)⟩
end
theorem names_mem : ∀ i, i < 23 → namesL.getD i "" ∈ namesL := by decide +kernel
theorem at_names {r : Int} (h0 : 0 ≤ r) (h1 : r < 23) : atI (namesL.map V.str) r = some (.str (namesL.getD r.toNat "")) := atI_strs h0 h1
section
 local macro_rules | `(tactic| walk_at "at") => `(tactic| first | exact at_names hrn0 hrn1 | fail)
 local macro_rules | `(tactic| walk_at "st") => `(tactic| first
  | ((with_reducible show sp_z_pick _ ([V.ref _, V.int ((List.length _ : Nat) : Int)] ++ []) _ _ _); apply c_z_pick hS; (· walk_at "ix"); (· walk_at "ix"); (· decide); (· walk_at "ar"); (· walk_at "ar"); (· exact (show (0 : Int) < 23 by decide)); (· exact (show (23 : Int) < 2 ^ 64 by decide)); intro rn x1 g1 n1 H1 hrn0 hrn1 hx1 hg1 hS1; clear hS; rename SH _ _ _ _ => hS; simp only [List.set_cons_zero, List.set_cons_succ] at hS)
  | ((with_reducible show sp_Unit_init__ _ _ _ _ _); apply c_Unit_init hS; intro H1 hS1; walk_at "nw"; refine ⟨rfl, ?_⟩)
  | ((with_reducible show sp_operands _ _ _ _ _); refine c_operands hS (hI.keep hS.kp) (fun tq H1 hS1 _ htq => ?_); walk_at "nw")
  | ((with_reducible show sp_reads _ _ _ _ _); refine c_reads hS (hI.keep hS.kp) (fun tq H1 hS1 htq => ?_); walk_at "nw")
  | ((with_reducible show sp_writes _ _ _ _ _); refine c_writes hS (hI.keep hS.kp) (fun tq H1 hS1 htq => ?_); walk_at "nw")
  | ((with_reducible show sp_followers _ _ _ _ _); refine c_followers hS (hI.keep hS.kp) (fun tq H1 hS1 htq => ?_); walk_at "nw")
  | ((with_reducible show sp_can_raise _ _ _ _ _); refine c_can_raise (hI.keep hS.kp) ?_)
  | ((with_reducible show sp_region_of _ _ _ _ _); refine c_region_of hS (by walk_at "hp") (SqT_keep htg hS.kp) (hrg.keep hS.kp) hgl (fun H1 hS1 => ?_); walk_at "nw")
  | ((with_reducible show sp_z_sameN _ _ _ _ _ _); apply c_z_sameN hS; (· first
      | exact .bl _ _
      | exact same_pick (hrg.keep hS.kp)
      | exact AllS.tup htq (SqT_keep hpg hS.kp) (same_ops (ho.keep hS.kp)) (by rw [List.length_map, ho.1]; omega)
      | exact AllS.tup htq (SqT_keep hpw hS.kp) (.ints _) (by rw [List.length_map]; omega)
      | exact AllS.tup htq (SqT_keep hpb hS.kp) (.ints _) (by rw [List.length_map]; omega)
      | exact AllS.tup htq (SqT.of (by walk_at "hp")) (.ints _) (by rw [List.length_map]; omega)); intro H1 hS1 _; walk_at "nw"))
def sp_law (K : PySem.W.Frag) : Sp := mk1 fun a H Q _ => ∃ (sc : Addr) (ns : List Int), a = .ref sc ∧ Scr K H sc (ns.map V.int) ∧ ∀ H', Q (.bl true) H'
theorem ok_law {P : Program} {w : World} {K : PySem.W.Frag} {mg : Str → Option Value} {base : Heap} (Y : Env w K mg) (G_Unit_init__ : MakeOk P w K mg base CX0 1 "Unit" ["self", "parent", "arguments", "results", "registers", "cells", "code", "regions"] (sp_Unit_init__ K)) (G_z_pick : CallOk P w K mg base CX0 1 "_law_pick" ["_law_state", "_law_limit"] (sp_z_pick K)) (G_z_regions : CallOk P w K mg base CX0 2 "_law_regions" ["_law_state"] (sp_z_regions K)) (G_z_row : CallOk P w K mg base CX0 4 "_law_row" ["_law_state", "_law_name", "_law_index"] (sp_z_row K)) (G_z_same : CallOk P w K mg base CX0 7 "_law_same" ["_law_actual", "_law_due"] (sp_z_same K)) (G_can_raise : CallOk P w K mg base CX0 1 "can_raise" ["instruction"] (sp_can_raise K)) (G_followers : CallOk P w K mg base CX0 1 "followers" ["instruction", "index"] (sp_followers K)) (G_operands : CallOk P w K mg base CX0 1 "operands" ["instruction"] (sp_operands K)) (G_reads : CallOk P w K mg base CX0 2 "reads" ["instruction"] (sp_reads K)) (G_region_of : CallOk P w K mg base CX0 1 "region_of" ["unit", "index"] (sp_region_of K)) (G_writes : CallOk P w K mg base CX0 1 "writes" ["instruction"] (sp_writes K)) {fd : FuncData} (F : FunD K "law" "law" (defArgs s_law) (defBody s_law) (defScope s_law) [] [] (He.fAd K ("law", none)) fd) : FnOk P w K mg base CX0 8 (He.fAd K ("law", none)) fd ["_law_script"] (sp_law K) := Hsh.un (by simp (disch := k_dflt (
  refine Hsh.up ?_
  refine F.ok sc_law mk1_len (fun cdv A outer s H vs Q E hr h => ?_)
  have hu := hu_room hr
  obtain ⟨_, rfl, sc, ns, rfl, hs, k⟩ := h
  have hS : SH [] H H [] := SH.start0
  refine ⟨_, PSs.nox (pss_cons (ps_set (i := 1) sc_law.nd rfl (Or.inl rfl) (pe_lst (pa_cons (pe_callTy x_list rfl Y.z_list (by decide +kernel) (pa_cons (pv 0) pa_nil)) (pa_cons pe_int (pa_cons pe_int (pa_cons pe_int pa_nil))))))
  (pss_cons (ps_set (i := 2) sc_law.nd rfl (Or.inl rfl) (pe_lst (pa_cons pe_str (pa_cons pe_str (pa_cons pe_str (pa_cons pe_str (pa_cons pe_str (pa_cons pe_str (pa_cons pe_str (pa_cons pe_str (pa_cons pe_str (pa_cons pe_str (pa_cons pe_str (pa_cons pe_str (pa_cons pe_str (pa_cons pe_str pa_nil))))))))))))))))
  (pss_cons (ps_set (i := 2) sc_law.nd rfl (Or.inl rfl) (pe_op xAdd (pv 2) (pe_lst (pa_cons pe_str (pa_cons pe_str (pa_cons pe_str (pa_cons pe_str (pa_cons pe_str (pa_cons pe_str (pa_cons pe_str (pa_cons pe_str (pa_cons pe_str pa_nil))))))))))))
  (pss_cons (ps_set (i := 3) sc_law.nd rfl (Or.inl rfl) (pe_ix xIx (pv 2) (pe_callG G_z_pick (hr.mono (by decide)) rfl pass0 (pa_cons (pv 1) (pa_cons (pe_callB x_len rfl Y.z_len (by decide +kernel) (pa_cons (pv 2) pa_nil)) pa_nil))) (fun _ _ => rfl)))
  (pss_cons (ps_set (i := 4) sc_law.nd rfl (Or.inl rfl) (pe_callG G_z_pick (hr.mono (by decide)) rfl pass0 (pa_cons (pv 1) (pa_cons pe_int pa_nil))))
  (pss_cons (ps_asg (pe_callG G_z_row (hr.mono (by decide)) rfl pass0 (pa_cons (pv 1) (pa_cons (pv 3) (pa_cons (pv 4) pa_nil)))) (pg_lst rfl (pgs_cons (pg_name (i := 5) sc_law.nd rfl (Or.inl rfl)) (pgs_cons (pg_name (i := 6) sc_law.nd rfl (Or.inl rfl)) (pgs_cons (pg_name (i := 7) sc_law.nd rfl (Or.inl rfl)) (pgs_cons (pg_name (i := 8) sc_law.nd rfl (Or.inl rfl)) pgs_nil))))))
  (pss_cons (ps_set (i := 9) sc_law.nd rfl (Or.inl rfl) (pe_cmpR xIn (pv 3) (pe_tup (pa_cons pe_str (pa_cons pe_str (pa_cons pe_str (pa_cons pe_str (pa_cons pe_str (pa_cons pe_str (pa_cons pe_str (pa_cons pe_str (pa_cons pe_str (pa_cons pe_str (pa_cons pe_str (pa_cons pe_str (pa_cons pe_str pa_nil)))))))))))))) rfl))
  (pss_cons (ps_set (i := 11) sc_law.nd rfl (Or.inl rfl) (pe_callTy x_tuple rfl Y.z_tuple (by decide +kernel) (pa_cons (pe_lc (own := [("_law_operand_here", 10)]) (g := gName 10) rfl sc_law.nd (pi_tup (pv 6)) (blkOk_by (N := N_law) (sc := defScope s_law) (by decide +kernel)) (fun _ _ _ _ _ => pg_name (i := 10) sc_law.nd rfl (Or.inl rfl)) (fun _ _ _ _ _ => (pts_one (pt_cmpR (OpR.k (K := K) (r := rEqX) (xEq hu) rfl) (pe_ix (IxR.k (K := K) (r := rIxX) xIx rfl) (pv 10) pe_int (fun _ _ => rfl)) pe_str (nomark _)))) (fun _ _ _ _ _ => (pe_ix (IxR.k (K := K) (r := rIxX) xIx rfl) (pv 10) pe_int (fun _ _ => rfl)))) pa_nil)))
  (pss_cons (ps_set (i := 12) sc_law.nd rfl (Or.inl rfl) (pe_callG G_z_regions (hr.mono (by decide)) rfl pass0 (pa_cons (pv 1) pa_nil)))
  (pss_cons (ps_set (i := 13) sc_law.nd rfl (Or.inl rfl) (pe_makeG G_Unit_init__ (hr.mono (by decide)) rfl pass0 (pa_cons (pe_un un_neg pe_int) (pa_cons pe_int (pa_cons pe_int (pa_cons pe_int (pa_cons pe_int (pa_cons (pe_op xAdd (pe_op xMul (pe_tup (pa_cons (pe_tup (pa_cons pe_str pa_nil)) pa_nil)) pe_int) (pe_tup (pa_cons (pe_tup (pa_cons pe_str (pa_cons (pe_tup pa_nil) pa_nil))) pa_nil))) (pa_cons (pv 12) pa_nil)))))))))
  (pss_cons (ps_set (i := 14) sc_law.nd rfl (Or.inl rfl) (pe_callG G_z_pick (hr.mono (by decide)) rfl pass0 (pa_cons (pv 1) (pa_cons pe_int pa_nil))))
  (pss_cons (ps_set (i := 15) sc_law.nd rfl (Or.inl rfl) pe_non)
  (pss_cons (ps_for PassesOwn.never rfl (pi_tup (pv 12)) (pg_name (i := 16) sc_law.nd rfl (Or.inl rfl))
  (pss_one (ps_if (PW.pt (pw_and (pt_cmpR xIs (pv 15) pe_non (nomark _)) (pw_and1 (pt_chain op_le op_lt (pe_ix xIx (pv 16) pe_int (fun _ _ => rfl)) (pv 14) (pe_ix xIx (pv 16) pe_int (fun _ _ => rfl)))))) (pss_one (ps_set (i := 15) sc_law.nd rfl (Or.inl rfl) (pv 16))) pss_nil)))
  (pss_cons (ps_for PassesOwn.never rfl (pi_range1 rfl Y.z_range (pa_cons pe_int pa_nil)) (pg_name (i := 17) sc_law.nd rfl (Or.inl rfl))
  (pss_cons (ps_if (PW.pt (pw_or (pt_not (pt_val (pe_callG G_z_same hr rfl pass0 (pa_cons (pe_callG G_operands (hr.mono (by decide)) rfl pass0 (pa_cons (pv 5) pa_nil)) (pa_cons (pv 6) pa_nil))))) (pw_or1 (pt_not (pt_val (pe_callG G_z_same hr rfl pass0 (pa_cons (pe_callG G_reads (hr.mono (by decide)) rfl pass0 (pa_cons (pv 5) pa_nil)) (pa_cons (pv 11) pa_nil)))))))) (pss_one (ps_ret pe_bl)) pss_nil)
  (pss_cons (ps_if (PW.pt (pw_or (pt_not (pt_val (pe_callG G_z_same hr rfl pass0 (pa_cons (pe_callG G_writes (hr.mono (by decide)) rfl pass0 (pa_cons (pv 5) pa_nil)) (pa_cons (pv 7) pa_nil))))) (pw_or1 (pt_not (pt_val (pe_callG G_z_same hr rfl pass0 (pa_cons (pe_callG G_can_raise (hr.mono (by decide)) rfl pass0 (pa_cons (pv 5) pa_nil)) (pa_cons (pv 9) pa_nil)))))))) (pss_one (ps_ret pe_bl)) pss_nil)
  (pss_one (ps_if (PW.pt (pw_or (pt_not (pt_val (pe_callG G_z_same hr rfl pass0 (pa_cons (pe_callG G_followers (hr.mono (by decide)) rfl pass0 (pa_cons (pv 5) (pa_cons (pv 4) pa_nil))) (pa_cons (pv 8) pa_nil))))) (pw_or1 (pt_not (pt_val (pe_callG G_z_same hr rfl pass0 (pa_cons (pe_callG G_region_of (hr.mono (by decide)) rfl pass0 (pa_cons (pv 13) (pa_cons (pv 14) pa_nil))) (pa_cons (pv 15) pa_nil)))))))) (pss_one (ps_ret pe_bl)) pss_nil)))))
  (pss_one (ps_ret pe_bl)))))))))))))))), ?_⟩
  rw [st_law]
  try simp only [cxK, cxK2, cxW, cxW2]
  clear hu hr F
  repeat' walk_at "st"
  rename_i q _ _ pst _ _ _ _ _ _ _ _ _ _ _ _ _ _ _
  obtain ⟨pn, rfl⟩ : ∃ x, x = p := ⟨p, rfl⟩
  have hmem := names_mem rn.toNat (by have z : rn < 23 := hrn1; omega)
  generalize namesL.getD rn.toNat "" = nm at hmem ⊢
  refine c_z_row (i := 3) (j := 4) hS rfl rfl (by decide) hx1 hg1 hmem (fun l x2 g2 n2 H2 hrow hx2 hg2 hS2 => ?_)
  obtain ⟨pi, pg, pw, pb, qs, os, ws, bs, hl, hI, ho, ho6, hw6, hb6, hpg, hpw, hpb⟩ := hrow
  clear hS
  have hS := (hS2.pick (L' := [(pst, stO q x2 g2 n2), (q, .lst (ns.map V.int))]) [3, 4] (by decide) rfl).blk.sh
  clear hS2
  obtain ⟨ix, hix⟩ : ∃ x, x = r := ⟨r, rfl⟩
  rw [← hix] at hI ⊢
  repeat' walk_at "st"
  have hS := hS.drop1
  refine u_lcTG (xs := qs.map V.ref) hS (fun D k H' => SH _ H2 H' [(D, .lst ((rdL (os.take k)).map V.int)), (pst, stO q x2 g2 n2), (q, .lst (ns.map V.int))]) (SqT_keep hpg hS.kp) (fun D H2 hS => hS) (fun D k H2 _ hS => SqT_keep hpg hS.kp) ?_ ?_
  · rintro D i x H3 hx hS
    rw [List.getElem?_map] at hx
    obtain ⟨q1, hq, rfl⟩ := Option.map_eq_some_iff.mp hx
    have hi : i < qs.length := (List.getElem?_eq_some_iff.mp hq).1
    obtain ⟨o, hoo⟩ : ∃ o, os[i]? = some o := ⟨_, List.getElem?_eq_getElem (by rw [← ho.1]; exact hi)⟩
    have hop : OpAt K H3 q1 o := SqT_keep (ho.2 i q1 o hq hoo) hS.kp
    have hlen := rdL_len os i
    have hlen2 : ((rdL (os.take i)).map V.int).length ≤ 6 := by rw [List.length_map]; omega
    have hst := rdL_step hoo
    obtain ⟨rg, on⟩ := o
    cases rg
    · repeat' walk_at "st"
      rw [hst, if_neg Bool.false_ne_true, List.append_nil]
      exact hS
    · repeat' walk_at "st"
      rw [hst, if_pos rfl, List.map_append]
      exact hS
  · rintro D H3 hS
    have e : (rdL (os.take (qs.map V.ref).length)) = rdL os := by rw [List.length_map, ho.1, List.take_length]
    rw [e] at hS
    have hrl : (rdL os).length ≤ 6 := by have := rdL_len os os.length; rw [List.take_length] at this; omega
    repeat' walk_at "st"
    obtain ⟨pr, rfl⟩ : ∃ x, x = p := ⟨p, rfl⟩
    refine c_z_regions (i := 2) (j := 3) hS rfl rfl (by decide) hx2 hg2 (fun tg gs ds x3 g3 n3 H4 htg hrg hgl hx3 hg3 _ hS3 => ?_)
    have hI := hI.keep hS3.kp
    have ho := ho.keep hS3.kp
    have hpg := SqT_keep hpg hS3.kp
    have hpw := SqT_keep hpw hS3.kp
    have hpb := SqT_keep hpb hS3.kp
    clear hS
    have hS := (hS3.pick (L' := [(pr, .tup ((rdL os).map V.int)), (pst, stO q x3 g3 n3), (q, .lst (ns.map V.int))]) [0, 2, 3] (by decide) rfl).blk.sh
    clear hS3
    repeat' walk_at "st"
    have hS := hS.pick (L' := [(x, uO K dx p tg), (pr, .tup ((rdL os).map V.int))]) [0, 8] (by decide) rfl
    refine u_forT (xs := gs.map V.ref) (fun j σ H' => ∃ v16, σ = [some (.ref sc), some (.ref pst), some (.ref pn), some (.str nm), some (.int ix), some (.ref pi), some (.ref pg), some (.ref pw), some (.ref pb), some (.bl (inV (.str nm) raisers)), none, some (.ref pr), some (.ref tg), some (.ref x), some (.int r), some (pickR (gs.take j) (ds.take j) r), v16, none] ∧ SH _ H4 H' [(x, uO K dx p tg), (pr, .tup ((rdL os).map V.int))]) (SqT_keep htg hS.kp) ⟨_, rfl, hS⟩ ?_ ?_ ?_
    · rintro j σ H5 _ ⟨v16, rfl, hS⟩
      exact SqT_keep htg hS.kp
    · rintro j y σ H5 hy ⟨v16, rfl, hS⟩
      rw [List.getElem?_map] at hy
      obtain ⟨g, hg, rfl⟩ := Option.map_eq_some_iff.mp hy
      obtain ⟨d, hd⟩ : ∃ d, ds[j]? = some d := ⟨_, List.getElem?_eq_getElem (by rw [← hrg.1]; exact (List.getElem?_eq_some_iff.mp hg).1)⟩
      obtain ⟨hgd, hd5⟩ := hrg.2 j g d hg hd
      obtain ⟨a, b, c2, e2, f, rfl⟩ := len5 hd5
      have hgd2 : SqT K H5 g [.int a, .int b, .int c2, .int e2, .int f] := SqT_keep hgd hS.kp
      have hsn := pickR_snoc (i := r) hg hd
      by_cases hn : pickR (gs.take j) (ds.take j) r = .non
      · rw [if_pos hn] at hsn
        repeat' walk_at "st"
        · have hh : hit r [a, b, c2, e2, f] = true := show (decide (a ≤ r) && decide (r < b)) = true by rw [decide_eq_true (by assumption), decide_eq_true (by assumption)]; rfl
          rw [if_pos hh] at hsn
          exact ⟨_, by rw [hsn], hS⟩
        · have hh : ¬ hit r [a, b, c2, e2, f] = true := fun z => absurd (show (decide (a ≤ r) && decide (r < b)) = true from z) (by simp; omega)
          rw [if_neg hh] at hsn
          exact ⟨_, by rw [hsn, hn], hS⟩
        · have hh : ¬ hit r [a, b, c2, e2, f] = true := fun z => absurd (show (decide (a ≤ r) && decide (r < b)) = true from z) (by simp; omega)
          rw [if_neg hh] at hsn
          exact ⟨_, by rw [hsn, hn], hS⟩
        all_goals exact absurd hn (by assumption)
      · rw [if_neg hn] at hsn
        repeat' walk_at "st"
        all_goals first
          | exact absurd (by assumption) hn
          | exact ⟨_, by rw [hsn], hS⟩
    · rintro σ H5 ⟨v16, rfl, hS⟩
      rw [List.length_map, List.take_length, hrg.1, List.take_length]
      repeat' walk_at "st"
      refine u_forR1 (fun _ σ H' => ∃ v17, σ = [some (.ref sc), some (.ref pst), some (.ref pn), some (.str nm), some (.int ix), some (.ref pi), some (.ref pg), some (.ref pw), some (.ref pb), some (.bl (inV (.str nm) raisers)), none, some (.ref pr), some (.ref tg), some (.ref x), some (.int r), some (pickR gs ds r), v16, v17] ∧ SH _ H4 H' [(x, uO K dx p tg), (pr, .tup ((rdL os).map V.int))]) (by decide) (by decide) ⟨_, rfl, hS⟩ ?_ ?_
      · rintro i σ H6 hi ⟨v17, rfl, hS⟩
        repeat' walk_at "st"
        exact ⟨_, rfl, hS⟩
      · rintro σ H6 ⟨v17, rfl, hS⟩
        repeat' walk_at "st"
        exact k _
  )) only [↓Hsh.on])
end
theorem law_ask {K : PySem.W.Frag} {H : Hp} (a : Addr) (ns : List Int) (hl : ns.length ≤ 63) (hO : Only H) (hS : SqL K H a (ns.map V.int)) : sp_law K [.ref a] H (fun v _ => v = .bl true) fun _ _ _ => False :=
  by first | exact ⟨_, rfl, a, ns, rfl, Scr.of hS hO, fun _ => rfl⟩ | exact ⟨_, rfl, a, ns, rfl, hl, Scr.of hS hO, fun _ => rfl⟩
theorem facts {w : World} {K : PySem.W.Frag} {h : Heap} {mg : Str → Option Value} {f : Addr} (X : K.In h) (G : h.Ns mainGlobals mg) (hfa : mg ("law" : Str) = some (.ref f)) (c : SaysP fa fn ts ex prl w h K) :
    ∃ fd : FuncData, (∀ (s : Shared) (v : Value), BindsTo s fd ⟨[v], []⟩ [("_law_script", v)]) ∧ ∀ base : Heap, K.In base → base.Ns mainGlobals mg → FnOk (PySem.Challenge.rw_windowada_k85_tables_of_instructions).prog w K mg base CX0 8 f fd ["_law_script"] (sp_law K) := Hsh.un (by simp (disch := k_dflt (
  refine Hsh.up ?_
  have Y : Env w K mg := env_mk X G c
  obtain ⟨fd, F⟩ := Y.fd_law
  have e := hfa.symm.trans Y.mg_law
  cases e
  have b := FunD.bindsA (ps := ["_law_script"]) F fun _ _ _ _ _ _ us hl => match us, hl with | [_], _ => rfl
  refine ⟨fd, fun s v => b s [v] rfl, fun base _ _ => ?_⟩
  have G_Unit_init__ := ok_Unit_init__ (P := (PySem.Challenge.rw_windowada_k85_tables_of_instructions).prog) (w := w) (base := base) Y
  have G_z_pick := ok_z_pick (P := (PySem.Challenge.rw_windowada_k85_tables_of_instructions).prog) (w := w) (base := base) Y
  have G_z_regions := ok_z_regions (P := (PySem.Challenge.rw_windowada_k85_tables_of_instructions).prog) (w := w) (base := base) Y G_z_pick
  have G_z_operand := ok_z_operand (P := (PySem.Challenge.rw_windowada_k85_tables_of_instructions).prog) (w := w) (base := base) Y G_z_pick
  have G_z_target := ok_z_target (P := (PySem.Challenge.rw_windowada_k85_tables_of_instructions).prog) (w := w) (base := base) Y G_z_pick
  have G_z_plain_row := ok_z_plain_row (P := (PySem.Challenge.rw_windowada_k85_tables_of_instructions).prog) (w := w) (base := base) Y G_z_operand G_z_pick G_z_target
  have G_z_row := ok_z_row (P := (PySem.Challenge.rw_windowada_k85_tables_of_instructions).prog) (w := w) (base := base) Y G_z_operand G_z_pick G_z_plain_row
  have G_z_same := ok_z_same (P := (PySem.Challenge.rw_windowada_k85_tables_of_instructions).prog) (w := w) (base := base) Y
  have G_can_raise := ok_can_raise (P := (PySem.Challenge.rw_windowada_k85_tables_of_instructions).prog) (w := w) (base := base) Y
  have G_followers := ok_followers (P := (PySem.Challenge.rw_windowada_k85_tables_of_instructions).prog) (w := w) (base := base) Y
  have G_operands := ok_operands (P := (PySem.Challenge.rw_windowada_k85_tables_of_instructions).prog) (w := w) (base := base) Y
  have G_reads := ok_reads (P := (PySem.Challenge.rw_windowada_k85_tables_of_instructions).prog) (w := w) (base := base) Y G_operands
  have G_region_of := ok_region_of (P := (PySem.Challenge.rw_windowada_k85_tables_of_instructions).prog) (w := w) (base := base) Y
  have G_writes := ok_writes (P := (PySem.Challenge.rw_windowada_k85_tables_of_instructions).prog) (w := w) (base := base) Y
  exact ok_law (P := (PySem.Challenge.rw_windowada_k85_tables_of_instructions).prog) (w := w) (base := base) Y G_Unit_init__ G_z_pick G_z_regions G_z_row G_z_same G_can_raise G_followers G_operands G_reads G_region_of G_writes F
  )) only [↓Hsh.on])
end Law
open PySem PySem.W PySem.Calls PyProof.Rows
set_option maxRecDepth 100000 in
set_option maxHeartbeats 0 in
theorem PySem.Challenge.cw_windowada_k85_tables_of_instructions_holds : PySem.Challenge.rw_windowada_k85_tables_of_instructions.Holds := by
  w_on; o_law
  refine HandSHeadRun.head_any (r := OpenLaw.row PySem.Challenge.rw_windowada_k85_tables_of_instructions) (q := view (OpenLaw.row PySem.Challenge.rw_windowada_k85_tables_of_instructions).prog [21]) (H := Law.hk) (ob := Law.ob) (M := 4000) (loose := Law.loose) (d := HandSHeadRun.topDef (OpenLaw.row PySem.Challenge.rw_windowada_k85_tables_of_instructions).prog 21) (kwd := []) Law.ob_eq
    (by kernel_rfl) (fun s => by kernel_rfl) Law.run (by kernel_rfl) (by kernel_rfl) (by kernel_rfl) (by rfl) (by first | assumption | decide +kernel) (by decide +kernel) ⟨rfl, rfl, rfl, rfl, rfl, by decide +kernel⟩ ?hw ?hc
  case hw => w_witness2
  case hc =>
    refine L2.walk_ofE (l := PySem.Challenge.rw_windowada_k85_tables_of_instructions) (n := 63) (k := 8) (x := "_law_script") (CX := L2.CX0) rfl (by decide) (by kernel_rfl) ⟨rfl, by decide, by decide⟩ ?F (fun _ _ _ _ z => z)
    intro w mg fa h Y G hmg0
    obtain ⟨K, KX, c⟩ := Y
    have hmg : mg ("law" : PySem.Str) = some (.ref fa) := by
      have e : (HandSHeadRun.topDef (OpenLaw.row PySem.Challenge.rw_windowada_k85_tables_of_instructions).prog 21).name = ("law" : PySem.Str) := by kernel_rfl
      rw [← e]
      exact hmg0
    obtain ⟨fd, hb, hF⟩ := Law.facts (w := w) KX G hmg c
    exact ⟨K, fd, Law.sp_law K, KX, hb, fun H a ns hl hO hS => Law.law_ask a ns hl hO hS, hF⟩

