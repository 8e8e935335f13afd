import PyProof.Rows.All
import Wide.All
import OpenK.AllK
import Wide.FinOn
import KE.KStateDown
import HandS.ForMost
import HandS.ForExc
import HandS.Wide
import HandS.TupAny
import HandS.TupMul
import HandS.TupLe
import HandS.Sort
import HandS.Style
import HandS.IsInst
import HandS.Defaults
import HandS.Property
import HandS.Head0
import HandS.Head1
import HandS.Head2
import HandS.EndBits
import HandS.HeadEnd
import HandS.HeadHook1
import HandS.HeadHook2
import HandS.HeadHook3
import HandS.HeadHook4
import HandS.HeadWalk
import KE.KTryMore
import HandS.Exc
import HandS.TryMany
import HandS.ExcOwn
import HandS.ExcIs
import HandS.Small
import HandS.WordsExc
import HandS.Strs
import HandS.More
import HandS.SetFor
import HandS.SetIn
import HandS.TryOnly
import HandS.ExcCtx
import HandS.HotCalls
import HandS.Conv
import KE.GoesEnum
import PySem.Challenge.RW_windowada_k69_trap_handlers
set_option Elab.async false
set_option linter.all false
set_option maxRecDepth 100000
set_option maxHeartbeats 4000000
/-! Steps over the hand layer: a ledger (what this code owns on the heap), one lemma for each reading, a word that takes one step. -/
namespace Hsh
def Hush (P : Prop) : Prop := P
theorem on {P : Prop} (h : P) : Hush P := h
theorem un {P : Prop} (h : Hush P) : P := h
theorem up {P : Prop} (h : P) : P := h
end Hsh

namespace Q
open PySem PySem.Spec PyProof.Rows L2

/-! ### the ledger -/
abbrev Cell := Addr × HO
def Imm : HO → Bool
  | .tup _ => true
  | .frz _ _ => true
  | _ => false
/-- all that stood is kept but what stood at A (what never changes is kept there, too); nothing is freed -/
structure Keep (A : List Addr) (H H' : Hp) : Prop where
  k : ∀ b o, H b = some o → (b ∉ A ∨ Imm o = true) → H' b = some o
  d : ∀ b, H' b = none → H b = none
theorem Keep.refl (A : List Addr) (H : Hp) : Keep A H H := ⟨fun _ _ e _ => e, fun _ e => e⟩
theorem Keep.trans {A : List Addr} {H H1 H2 : Hp} (a : Keep A H H1) (b : Keep A H1 H2) : Keep A H H2 :=
  ⟨fun c o e q => b.k c o (a.k c o e q) q, fun c e => a.d c (b.d c e)⟩
theorem Keep.mono {A B : List Addr} {H H' : Hp} (a : Keep A H H') (s : ∀ b ∈ A, b ∈ B) : Keep B H H' :=
  ⟨fun c o e q => a.k c o e (q.imp (fun n z => n (s c z)) id), a.d⟩
theorem Keep.nil {B : List Addr} {H H' : Hp} (a : Keep [] H H') : Keep B H H' := a.mono fun _ z => nomatch z
/-- A the cells that stood at the entry H0; L what is known and owned now -/
structure SH (A : List Addr) (H0 H : Hp) (L : List Cell) : Prop where
  hs : ∀ c ∈ L, H c.1 = some c.2
  nd : (L.map (·.1)).Nodup
  kp : Keep A H0 H
  ow : ∀ c ∈ L, c.1 ∈ A ∨ H0 c.1 = none
section
variable {A B : List Addr} {H0 H H' : Hp} {L L' : List Cell} {a p : Addr} {o o' : HO}
theorem SH.start (hs : ∀ c ∈ L, H c.1 = some c.2) (nd : (L.map (·.1)).Nodup) : SH (L.map (·.1)) H H L :=
  ⟨hs, nd, Keep.refl _ _, fun c hc => .inl (List.mem_map_of_mem hc)⟩
theorem SH.start0 : SH [] H H [] := ⟨(fun _ h => nomatch h), List.nodup_nil, Keep.refl _ _, (fun _ h => nomatch h)⟩
theorem SH.start1 (h : H a = some o) : SH [a] H H [(a, o)] := SH.start (L := [(a, o)]) (by intro c hc; rcases List.mem_singleton.mp hc with rfl; exact h) (by simp)
theorem SH.get (S : SH A H0 H L) (i : Nat) (e : L[i]? = some (a, o)) : H a = some o := S.hs _ (List.mem_of_getElem? e)
theorem SH.imm (S : SH A H0 H L) (h : H0 a = some o) (e : Imm o = true) : H a = some o := S.kp.k a o h (.inr e)
theorem SH.new (S : SH A H0 H L) (o : HO) (hp : H p = none) : SH A H0 (upd H p o) ((p, o) :: L) := Hsh.un (by simp (disch := k_dflt (
  refine Hsh.up ?_
  have hne : ∀ c ∈ L, c.1 ≠ p := fun c hc z => by
    have := S.hs c hc
    rw [z, hp] at this
    cases this
  refine ⟨fun c hc => ?_, ?_, ⟨fun b u e q => ?_, fun b e => ?_⟩, fun c hc => ?_⟩
  · rcases List.mem_cons.mp hc with rfl | hc
    · exact upd_same
    · rw [upd_ne (hne c hc)]
      exact S.hs c hc
  · rw [List.map_cons, List.nodup_cons]
    refine ⟨fun z => ?_, S.nd⟩
    obtain ⟨c, hc, e⟩ := List.mem_map.mp z
    exact hne c hc e
  · have h1 := S.kp.k b u e q
    rw [upd_ne (ne_of_none h1 hp)]
    exact h1
  · by_cases hb : b = p
    · rw [hb, upd_same] at e
      cases e
    · rw [upd_ne hb] at e
      exact S.kp.d b e
  · rcases List.mem_cons.mp hc with rfl | hc
    · exact .inr (S.kp.d _ hp)
    · exact S.ow c hc
  )) only [↓Hsh.on])
theorem mem_set_cell {L : List Cell} {i : Nat} {c d : Cell} (h : c ∈ L.set i d) : c = d ∨ ∃ j, j ≠ i ∧ L[j]? = some c := Hsh.un (by simp (disch := k_dflt (
  refine Hsh.up ?_
  obtain ⟨j, hj, e⟩ := List.mem_iff_getElem.mp h
  by_cases q : j = i
  · left
    subst q
    rw [List.getElem_set_self] at e
    exact e.symm
  · right
    refine ⟨j, q, ?_⟩
    rw [List.length_set] at hj
    rw [List.getElem_set_ne (Ne.symm q)] at e
    rw [List.getElem?_eq_getElem hj, e]
  )) only [↓Hsh.on])
theorem map_set_key {L : List Cell} {i : Nat} {a : Addr} {o o' : HO} (e : L[i]? = some (a, o)) : (L.set i (a, o')).map (·.1) = L.map (·.1) := Hsh.un (by simp (disch := k_dflt (
  refine Hsh.up ?_
  apply List.ext_getElem?
  intro j
  rw [List.getElem?_map, List.getElem?_map, List.getElem?_set]
  by_cases q : i = j
  · subst q
    obtain ⟨hi, e2⟩ := List.getElem?_eq_some_iff.mp e
    rw [if_pos rfl, if_pos hi, e]
    rfl
  · rw [if_neg q]
  )) only [↓Hsh.on])
theorem nodup_key {L : List Cell} (nd : (L.map (·.1)).Nodup) {i j : Nat} {c d : Cell} (h1 : L[i]? = some c) (h2 : L[j]? = some d) (ne : j ≠ i) : d.1 ≠ c.1 := fun z => by
  have e1 : (L.map (·.1))[i]? = some c.1 := by rw [List.getElem?_map, h1]; rfl
  have e2 : (L.map (·.1))[j]? = some c.1 := by rw [List.getElem?_map, h2]; exact congrArg some z
  obtain ⟨l1, q1⟩ := List.getElem?_eq_some_iff.mp e1
  obtain ⟨l2, q2⟩ := List.getElem?_eq_some_iff.mp e2
  exact ne ((List.getElem_inj nd).mp (q2.trans q1.symm))
theorem SH.set (S : SH A H0 H L) (i : Nat) (e : L[i]? = some (a, o)) (im : Imm o = false) (o' : HO) : SH A H0 (upd H a o') (L.set i (a, o')) := Hsh.un (by simp (disch := k_dflt (
  refine Hsh.up ?_
  have ha := S.get i e
  refine ⟨fun c hc => ?_, ?_, ⟨fun b u q z => ?_, fun b q => ?_⟩, fun c hc => ?_⟩
  · rcases mem_set_cell hc with rfl | ⟨j, nj, ej⟩
    · exact upd_same
    · rw [upd_ne (nodup_key S.nd e ej nj)]
      exact S.hs c (List.mem_of_getElem? ej)
  · rw [map_set_key e]
    exact S.nd
  · have h1 := S.kp.k b u q z
    have nb : b ≠ a := fun y => by
      subst y
      rw [ha] at h1
      cases h1
      rcases z with z | z
      · rcases S.ow _ (List.mem_of_getElem? e) with w | w
        · exact z w
        · rw [q] at w
          cases w
      · rw [im] at z
        cases z
    rw [upd_ne nb]
    exact h1
  · by_cases hb : b = a
    · rw [hb, upd_same] at q
      cases q
    · rw [upd_ne hb] at q
      exact S.kp.d b q
  · rcases mem_set_cell hc with rfl | ⟨j, nj, ej⟩
    · exact S.ow (a, o) (List.mem_of_getElem? e)
    · exact S.ow c (List.mem_of_getElem? ej)
  )) only [↓Hsh.on])
/-- behind a call that changed at most what stands at the keys of U (their new cells), each of them a cell of L -/
theorem SH.call0 (S : SH A H0 H L) (k : Keep [] H H') : SH A H0 H' L :=
  ⟨fun c hc => k.k _ _ (S.hs c hc) (.inl (by simp)), S.nd, S.kp.trans k.nil, S.ow⟩
theorem SH.call1 (S : SH A H0 H L) (i : Nat) (e : L[i]? = some (a, o)) (im : Imm o = false) (k : Keep [a] H H') (h : H' a = some o') : SH A H0 H' (L.set i (a, o')) := Hsh.un (by simp (disch := k_dflt (
  refine Hsh.up ?_
  have ha := S.get i e
  refine ⟨fun c hc => ?_, by rw [map_set_key e]; exact S.nd, ⟨fun b u q z => ?_, fun b q => S.kp.d b (k.d b q)⟩, fun c hc => ?_⟩
  · rcases mem_set_cell hc with rfl | ⟨j, nj, ej⟩
    · exact h
    · exact k.k _ _ (S.hs c (List.mem_of_getElem? ej)) (.inl fun z => nodup_key S.nd e ej nj (List.mem_singleton.mp z))
  · have h1 := S.kp.k b u q z
    refine k.k b u h1 ?_
    rcases z with z | z
    · refine .inl fun y => ?_
      have y' := List.mem_singleton.mp y
      subst y'
      rcases S.ow _ (List.mem_of_getElem? e) with w | w
      · exact z w
      · rw [q] at w
        cases w
    · exact .inr z
  · rcases mem_set_cell hc with rfl | ⟨j, nj, ej⟩
    · exact S.ow (a, o) (List.mem_of_getElem? e)
    · exact S.ow c (List.mem_of_getElem? ej)
  )) only [↓Hsh.on])
/-- a new object of a callee -/
theorem SH.add (S : SH A H0 H L) (S' : SH A H0 H' L') (ks : ∀ c ∈ L', H c.1 ≠ none) (n : H p = none) (h : H' p = some o) : SH A H0 H' ((p, o) :: L') := Hsh.un (by simp (disch := k_dflt (
  refine Hsh.up ?_
  refine ⟨fun c hc => ?_, ?_, S'.kp, fun c hc => ?_⟩
  · rcases List.mem_cons.mp hc with rfl | hc
    · exact h
    · exact S'.hs c hc
  · rw [List.map_cons, List.nodup_cons]
    refine ⟨fun z => ?_, S'.nd⟩
    obtain ⟨c, hc, e⟩ := List.mem_map.mp z
    exact ks c hc (e ▸ n)
  · rcases List.mem_cons.mp hc with rfl | hc
    · exact .inr (S.kp.d _ n)
    · exact S'.ow c hc
  )) only [↓Hsh.on])
theorem SH.call0n (S : SH A H0 H L) (k : Keep [] H H') (n : H p = none) (h : H' p = some o) : SH A H0 H' ((p, o) :: L) :=
  S.add (S.call0 k) (fun c hc => by rw [S.hs c hc]; exact nofun) n h
theorem SH.call1n {q : Addr} {u : HO} (S : SH A H0 H L) (i : Nat) (e : L[i]? = some (a, o)) (im : Imm o = false) (k : Keep [a] H H') (h : H' a = some o') (n : H q = none) (h2 : H' q = some u) : SH A H0 H' ((q, u) :: L.set i (a, o')) := Hsh.un (by simp (disch := k_dflt (
  refine Hsh.up ?_
  refine S.add (S.call1 i e im k h) (fun c hc => ?_) n h2
  rcases mem_set_cell hc with rfl | ⟨j, nj, ej⟩
  · rw [S.get i e]
    exact nofun
  · rw [S.hs c (List.mem_of_getElem? ej)]
    exact nofun
  )) only [↓Hsh.on])
theorem SH.sub (S : SH A H0 H L) (s : L'.Sublist L) : SH A H0 H L' :=
  ⟨fun c hc => S.hs c (s.subset hc), (s.map _).nodup S.nd, S.kp, fun c hc => S.ow c (s.subset hc)⟩
theorem SH.pick (S : SH A H0 H L) (is : List Nat) (nd : is.Nodup) (e : is.map (fun i => L[i]?) = L'.map some) : SH A H0 H L' := Hsh.un (by simp (disch := k_dflt (
  refine Hsh.up ?_
  have at_ : ∀ (j : Nat) (c : Cell), L'[j]? = some c → ∃ i, is[j]? = some i ∧ L[i]? = some c := fun j c h => by
    have q : (is.map (fun i => L[i]?))[j]? = some (some c) := by rw [e, List.getElem?_map, h]; rfl
    rw [List.getElem?_map] at q
    cases h2 : is[j]? with
    | none => rw [h2] at q; cases q
    | some i => rw [h2] at q; exact ⟨i, rfl, Option.some.inj q⟩
  have mem : ∀ c ∈ L', c ∈ L := fun c hc => by
    obtain ⟨j, hj, e2⟩ := List.mem_iff_getElem.mp hc
    obtain ⟨i, _, h⟩ := at_ j c (by rw [List.getElem?_eq_getElem hj, e2])
    exact List.mem_of_getElem? h
  refine ⟨fun c hc => S.hs c (mem c hc), ?_, S.kp, fun c hc => S.ow c (mem c hc)⟩
  refine List.pairwise_iff_getElem.mpr fun a b ha hb hab z => ?_
  rw [List.length_map] at ha hb
  rw [List.getElem_map, List.getElem_map] at z
  obtain ⟨i, i1, i2⟩ := at_ a _ (List.getElem?_eq_getElem ha)
  obtain ⟨j, j1, j2⟩ := at_ b _ (List.getElem?_eq_getElem hb)
  have hij : i ≠ j := fun q => by
    subst q
    obtain ⟨l1, q1⟩ := List.getElem?_eq_some_iff.mp i1
    obtain ⟨l2, q2⟩ := List.getElem?_eq_some_iff.mp j1
    have := (List.getElem_inj nd).mp (q1.trans q2.symm)
    omega
  exact nodup_key S.nd i2 j2 (Ne.symm hij) z.symm
  )) only [↓Hsh.on])
theorem SH.drop1 {c : Cell} (S : SH A H0 H (c :: L)) : SH A H0 H L := S.sub (List.sublist_cons_self _ _)
theorem SH.perm (S : SH A H0 H L) (p : L.Perm L') : SH A H0 H L' :=
  ⟨fun c hc => S.hs c (p.mem_iff.mpr hc), (p.map _).nodup_iff.mp S.nd, S.kp, fun c hc => S.ow c (p.mem_iff.mpr hc)⟩
theorem SH.ro (S : SH [] H0 H L) (h : H0 a = some o) : H a = some o := S.kp.k a o h (.inl fun z => nomatch z)
/-- what this code did, seen from outside -/
theorem SH.done (S : SH A H0 H L) : Keep A H0 H := S.kp
theorem SH.ne (S : SH A H0 H L) {i j : Nat} {c d : Cell} (h1 : L[i]? = some c) (h2 : L[j]? = some d) (ne : j ≠ i) : d.1 ≠ c.1 := nodup_key S.nd h1 h2 ne
end

/-- behind a call that turned the cells B into B2 -/
theorem SH.call {A : List Addr} {H0 H H' : Hp} {B B2 F : List Cell} (S : SH A H0 H (B ++ F)) (C : SH (B.map (·.1)) H H' B2) : SH A H0 H' (B2 ++ F) := Hsh.un (by simp (disch := k_dflt (
  refine Hsh.up ?_
  have apart : ∀ c ∈ F, c.1 ∉ B.map (·.1) := fun c hc z => by
    have nd := S.nd
    rw [List.map_append] at nd
    exact (List.nodup_append.mp nd).2.2 c.1 z c.1 (List.mem_map_of_mem hc) rfl
  refine ⟨fun c hc => ?_, ?_, ⟨fun b o e q => ?_, fun b e => S.kp.d b (C.kp.d b e)⟩, fun c hc => ?_⟩
  · rcases List.mem_append.mp hc with h | h
    · exact C.hs c h
    · exact C.kp.k _ _ (S.hs c (List.mem_append_right _ h)) (.inl (apart c h))
  · rw [List.map_append]
    have nd := S.nd
    rw [List.map_append] at nd
    refine List.nodup_append.mpr ⟨C.nd, (List.nodup_append.mp nd).2.1, fun a ha b hb e => ?_⟩
    subst e
    obtain ⟨c, hc, rfl⟩ := List.mem_map.mp ha
    obtain ⟨d, hd, e⟩ := List.mem_map.mp hb
    rcases C.ow c hc with w | w
    · exact apart d hd (by rw [e]; exact w)
    · rw [← e, S.hs d (List.mem_append_right _ hd)] at w
      cases w
  · have h1 := S.kp.k b o e q
    refine C.kp.k b o h1 ?_
    rcases q with q | q
    · refine .inl fun z => ?_
      obtain ⟨c, hc, e2⟩ := List.mem_map.mp z
      rcases S.ow c (List.mem_append_left _ hc) with w | w
      · exact q (e2 ▸ w)
      · rw [e2, e] at w
        cases w
    · exact .inr q
  · rcases List.mem_append.mp hc with h | h
    · rcases C.ow c h with w | w
      · obtain ⟨d, hd, e⟩ := List.mem_map.mp w
        rw [← e]
        exact S.ow d (List.mem_append_left _ hd)
      · exact .inr (S.kp.d _ w)
    · exact S.ow c (List.mem_append_right _ h)
  )) only [↓Hsh.on])
theorem SH.pickT {A : List Addr} {H0 H : Hp} {L L' : List Cell} (n : Nat) (S : SH A H0 H L) (is : List Nat) (nd : is.Nodup) (hb : ∀ i ∈ is, i < n) (e : is.map (fun i => L[i]?) = L'.map some) : SH A H0 H (L' ++ L.drop n) := Hsh.un (by simp (disch := k_dflt (
  refine Hsh.up ?_
  have S1 := S.pick is nd e
  have S2 := S.sub (List.drop_sublist n L)
  refine ⟨fun c hc => (List.mem_append.mp hc).elim (S1.hs c) (S2.hs c), ?_, S.kp, fun c hc => (List.mem_append.mp hc).elim (S1.ow c) (S2.ow c)⟩
  rw [List.map_append]
  refine List.nodup_append.mpr ⟨S1.nd, S2.nd, fun a ha b hb' q => ?_⟩
  subst q
  obtain ⟨c, hc, rfl⟩ := List.mem_map.mp ha
  obtain ⟨d, hd, ed⟩ := List.mem_map.mp hb'
  obtain ⟨j, hj, ej⟩ := List.mem_iff_getElem.mp hc
  obtain ⟨m, hm, em⟩ := List.mem_iff_getElem.mp hd
  have q : (is.map (fun i => L[i]?))[j]? = some (some c) := by rw [e, List.getElem?_map, List.getElem?_eq_getElem hj, ej]; rfl
  rw [List.getElem?_map] at q
  cases h2 : is[j]? with
  | none => rw [h2] at q; cases q
  | some i =>
    rw [h2] at q
    have hi := hb i (List.mem_of_getElem? h2)
    have e1 : L[i]? = some c := Option.some.inj q
    have e2 : L[n + m]? = some d := by rw [← List.getElem?_drop, List.getElem?_eq_getElem hm, em]
    exact nodup_key S.nd e1 e2 (by omega) ed
  )) only [↓Hsh.on])
theorem perm_mid {α : Type} (A B S : List α) : ((A ++ B) ++ S).Perm (A ++ (S ++ B)) := by
  rw [List.append_assoc]
  exact List.Perm.append_left _ List.perm_append_comm
/-- cells that are there, apart -/
structure Blk (H : Hp) (B : List Cell) : Prop where
  hs : ∀ c ∈ B, H c.1 = some c.2
  nd : (B.map (·.1)).Nodup
theorem SH.callM {A : List Addr} {H0 H H' : Hp} {F B B2 G : List Cell} (S : SH A H0 H (F ++ (B ++ G))) (C : SH (B.map (·.1)) H H' B2) : SH A H0 H' (F ++ (B2 ++ G)) := Hsh.un (by simp (disch := k_dflt (
  refine Hsh.up ?_
  have p : ∀ X : List Cell, (F ++ (X ++ G)).Perm (X ++ (F ++ G)) := fun X => by
    rw [← List.append_assoc, ← List.append_assoc]
    exact List.Perm.append_right _ List.perm_append_comm
  exact ((S.perm (p B)).call C).perm (p B2).symm
  )) only [↓Hsh.on])
theorem SH.callR {A : List Addr} {H0 H H' : Hp} {F B B2 : List Cell} (S : SH A H0 H (F ++ B)) (C : SH (B.map (·.1)) H H' B2) : SH A H0 H' (F ++ B2) :=
  ((S.perm List.perm_append_comm).call C).perm List.perm_append_comm
theorem SH.blkM {A : List Addr} {H0 H : Hp} (F B G : List Cell) (S : SH A H0 H (F ++ (B ++ G))) : Blk H B := ⟨fun c hc => S.hs c (List.mem_append_right _ (List.mem_append_left _ hc)), by
  have nd := S.nd
  rw [List.map_append, List.map_append] at nd
  exact (List.nodup_append.mp (List.nodup_append.mp nd).2.1).1⟩
theorem SH.blkR {A : List Addr} {H0 H : Hp} (F B : List Cell) (S : SH A H0 H (F ++ B)) : Blk H B := ⟨fun c hc => S.hs c (List.mem_append_right _ hc), by
  have nd := S.nd
  rw [List.map_append] at nd
  exact (List.nodup_append.mp nd).2.1⟩
theorem Blk.sh {H : Hp} {B : List Cell} (b : Blk H B) : SH (B.map (·.1)) H H B := SH.start b.hs b.nd
theorem SH.blk {A : List Addr} {H0 H : Hp} {L : List Cell} (S : SH A H0 H L) : Blk H L := ⟨S.hs, S.nd⟩
theorem Blk.sub {H : Hp} {B B' : List Cell} (b : Blk H B) (s : B'.Sublist B) : Blk H B' := ⟨fun c hc => b.hs c (s.subset hc), (s.map _).nodup b.nd⟩
theorem SH.fr0 {H0 H : Hp} {L : List Cell} {p : Addr} {o : HO} (S : SH [] H0 H L) (i : Nat) (e : L[i]? = some (p, o)) : H0 p = none := (S.ow (p, o) (List.mem_of_getElem? e)).elim (fun z => nomatch z) id
theorem SH.fr1 {H0 H : Hp} {L : List Cell} {p a : Addr} {o u : HO} (S : SH [a] H0 H L) (i j : Nat) (e : L[i]? = some (p, o)) (e2 : L[j]? = some (a, u)) (ne : i ≠ j) : H0 p = none :=
  (S.ow (p, o) (List.mem_of_getElem? e)).elim (fun z => absurd (List.mem_singleton.mp z) (nodup_key S.nd e2 e ne)) id
theorem SH.frn {A : List Addr} {H0 H : Hp} {L : List Cell} {p : Addr} {o : HO} (S : SH A H0 H L) (i : Nat) (e : L[i]? = some (p, o)) (n : p ∉ A) : H0 p = none := (S.ow (p, o) (List.mem_of_getElem? e)).elim (fun z => absurd z n) id
/-- the script (or another list that nobody changes) -/
def Scr (K : PySem.W.Frag) (H : Hp) (a : Addr) (xs : List V) : Prop :=
  (∃ o, H a = some (.frz o (.lst xs))) ∨
    ∃ (o : Obj) (its : Array Value) (n : Nat), K.lookup a = some o ∧ o.cls = .type "list" ∧ o.dict = none ∧ o.data = .seq its n ∧ its.size ≤ sizeLine ∧ Vals xs its.toList
theorem Scr.sq {K : PySem.W.Frag} {H : Hp} {a : Addr} {xs : List V} (h : Scr K H a xs) : SqL K H a xs := Hsh.un (by simp (disch := k_dflt (
  refine Hsh.up ?_
  rcases h with ⟨o, h⟩ | h
  · exact .inl (.inr ⟨o, h⟩)
  · exact .inr h
  )) only [↓Hsh.on])
theorem Scr.keep {K : PySem.W.Frag} {A : List Addr} {H H' : Hp} {a : Addr} {xs : List V} (h : Scr K H a xs) (k : Keep A H H') : Scr K H' a xs := Hsh.un (by simp (disch := k_dflt (
  refine Hsh.up ?_
  rcases h with ⟨o, h⟩ | h
  · exact .inl ⟨o, k.k _ _ h (.inr rfl)⟩
  · exact .inr h
  )) only [↓Hsh.on])
theorem Scr.of {K : PySem.W.Frag} {H : Hp} {a : Addr} {xs : List V} (h : SqL K H a xs) (O : Only H) : Scr K H a xs := Hsh.un (by simp (disch := k_dflt (
  refine Hsh.up ?_
  rcases h with (h | ⟨o, h⟩) | h
  · rcases O a with q | ⟨o, ys, q⟩
    · rw [q] at h
      cases h
    · rw [q] at h
      cases h
  · exact .inl ⟨o, h⟩
  · exact .inr h
  )) only [↓Hsh.on])

/-! ### operators for several kinds of values -/
section
variable {X : Cx}
def CDivX (_ j : Int) : Prop := j ≠ 0 ∧ j.natAbs.log2 < 9000
theorem op_fdivX : OpR X (binaryOp .FloorDiv) (rI CDivX fun i j => .int (i.fdiv j)) := opI fun _ _ _ _ _ _ _ hc q => floordiv_int hc.1 q (.inl (PyProof.noPylong_of_log2 hc.2))
def rAddX (K : PySem.W.Frag) : R2 := fun x y H Q => rI0 (fun i j => .int (i + j)) x y H Q ∨ (∃ i j, x = .str i ∧ y = .str j ∧ i.length + j.length ≤ sizeLine ∧ Q (.str (i ++ j)) H) ∨ rCat x y H Q ∨ rCatA K x y H Q
theorem xAdd : OpR X (binaryOp .Add) (rAddX X.K) := op_add.or (op_add_str.or (op_cat.or op_catA))
def rMulX (K : PySem.W.Frag) : R2 := fun x y H Q => rI CMul (fun i j => .int (i * j)) x y H Q ∨ rI CMulW (fun i j => .int (i * j)) x y H Q ∨ rRep x y H Q ∨ rRepT K x y H Q
theorem xMul : OpR X (binaryOp .Mult) (rMulX X.K) := op_mul.or (op_mulW.or (op_rep.or op_repT))
def rDivX : R2 := fun x y H Q => rI CDivW (fun i j => .int (i / j)) x y H Q ∨ rI CDivX (fun i j => .int (i.fdiv j)) x y H Q
theorem xDiv : OpR X (binaryOp .FloorDiv) rDivX := op_fdivW.or op_fdivX
def rModX : R2 := fun x y H Q => rI (fun _ j => 0 < j) (fun i j => .int (i % j)) x y H Q ∨ rI (fun _ j => j ≠ 0) (fun i j => .int (i.fmod j)) x y H Q
theorem xMod : OpR X (binaryOp .Mod) rModX := op_mod.or op_modN
def rEqX (K : PySem.W.Frag) : R2 := fun x y H Q => rEq x y H Q ∨ rEqD K x y H Q
def rNeX (K : PySem.W.Frag) : R2 := fun x y H Q => rNe x y H Q ∨ rNeD K x y H Q
theorem xEq (hu : X.A.units + 64 < cLine) : OpR X (compareOp .Eq) (rEqX X.K) := op_eq.or (op_eqD hu)
theorem xNe (hu : X.A.units + 64 < cLine) : OpR X (compareOp .NotEq) (rNeX X.K) := op_ne.or (op_neD hu)
def rInX (K : PySem.W.Frag) (neg : Bool) : R2 := rIn K neg
theorem xIn : OpR X (compareOp .In) (rInX X.K false) := op_in_seq
theorem xNotIn : OpR X (compareOp .NotIn) (rInX X.K true) := op_notIn_seq
def rIsX : R2 := fun x y H Q => (y = .non ∧ Q (.bl (decide (x = .non))) H) ∨ (∃ a b, x = .bl a ∧ y = .bl b ∧ Q (.bl (decide (a = b))) H)
def rIsNotX : R2 := fun x y H Q => (y = .non ∧ Q (.bl (!decide (x = .non))) H) ∨ (∃ a b, x = .bl a ∧ y = .bl b ∧ Q (.bl (!decide (a = b))) H)
theorem xIs : OpR X (compareOp .Is) rIsX := op_isN.or op_is_bl
theorem xIsNot : OpR X (compareOp .IsNot) rIsNotX := op_notN.or op_isnot_bl
def rIxX (K : PySem.W.Frag) : R2 := rIx K
theorem xIx : IxR X (rIxX X.K) := ix_seq
def rSlX (K : PySem.W.Frag) : V → Option Int → Option Int → Hp → VK → Prop := fun x lo hi H Q => rSlL K x lo hi H Q ∨ rSlT K x lo hi H Q
theorem xSl : SlR X (rSlX X.K) := sl_list.or sl_tup
theorem CallR.or {f : Value} {r r' : List V → Hp → VK → Prop} (h : CallR X f r) (h' : CallR X f r') : CallR X f (fun xs H Q => r xs H Q ∨ r' xs H Q) := Hsh.un (by simp (disch := k_dflt (
  refine Hsh.up ?_
  intro pins s σ H xs us Q I r1 q
  rcases q with q | q
  · exact h pins s σ H xs us Q I r1 q
  · exact h' pins s σ H xs us Q I r1 q
  )) only [↓Hsh.on])
def rInt : List V → Hp → VK → Prop := fun xs H Q => (∃ i, xs = [.int i] ∧ Q (.int i) H) ∨ ∃ k, xs = [.bl k] ∧ Q (.int (if k then 1 else 0)) H
theorem x_int : CallR X (.type "int") rInt := call_int1
def rLenX (K : PySem.W.Frag) : List V → Hp → VK → Prop := fun xs H Q => ∃ x n, xs = [x] ∧ LenV K x H n ∧ Q (.int n) H
theorem x_len : CallR X (.builtin "len") (rLenX X.K) := call_len
def rAbs : List V → Hp → VK → Prop := fun xs H Q => ∃ i, xs = [.int i] ∧ Q (.int (if i < 0 then -i else i)) H
theorem x_abs : CallR X (.builtin "abs") rAbs := call_abs
def rIsiX (K : PySem.W.Frag) : List V → Hp → VK → Prop := fun xs H Q => rIsi K xs H Q ∨ rIsiT K xs H Q
theorem x_isinstance : CallR X (.builtin "isinstance") (rIsiX X.K) := CallR.or call_isi call_isiT
def rListX (K : PySem.W.Frag) : List V → Hp → VK → Prop := fun xs H Q => ∃ p ys, xs = [.ref p] ∧ (SqL K H p ys ∨ SqT K H p ys) ∧ ∀ l, H l = none → Q (.ref l) (upd H l (.lst ys))
theorem x_list : CallR X (.type "list") (rListX X.K) := call_list_of
def rTupX (K : PySem.W.Frag) : List V → Hp → VK → Prop := fun xs H Q => ∃ p ys, xs = [.ref p] ∧ ((SqL K H p ys ∧ ∀ l, H l = none → Q (.ref l) (upd H l (.tup ys))) ∨ (SqT K H p ys ∧ Q (.ref p) H))
theorem x_tuple : CallR X (.type "tuple") (rTupX X.K) := call_tuple_of
def rMax2 : List V → Hp → VK → Prop := fun xs H Q => ∃ i j, xs = [.int i, .int j] ∧ Q (.int (if j > i then j else i)) H
theorem x_max2 (hc : X.calm = true) : CallR X (.builtin "max") rMax2 := call_max2 hc
def rMin2 : List V → Hp → VK → Prop := fun xs H Q => ∃ i j, xs = [.int i, .int j] ∧ Q (.int (if j < i then j else i)) H
theorem x_min2 (hc : X.calm = true) : CallR X (.builtin "min") rMin2 := call_min2 hc
theorem x_sum (hc : X.calm = true) : CallR X (.builtin "sum") (rSum X.K) := cr_sum hc
theorem x_max1 (hc : X.calm = true) : CallR X (.builtin "max") (rMax X.K) := cr_max hc
theorem x_min1 (hc : X.calm = true) : CallR X (.builtin "min") (rMin X.K) := cr_min hc
theorem x_all (hc : X.calm = true) : CallR X (.builtin "all") (rAll X.K) := cr_all hc
theorem x_any (hc : X.calm = true) : CallR X (.builtin "any") (rAny X.K) := cr_any hc
/-- a module's constant -/
theorem pe_ci {x : Str} {i : Int} {pos : Pos} (hg : Gl X x) (h : ∃ t, X.mg x = some (.int i t)) (hd : (x == ("__debug__" : Str)) = false := by decide) : PE X (.Name x pos) (tC (.int i)) := by
  obtain ⟨t, h⟩ := h
  exact pe_glob hg h ⟨t, rfl⟩ hd
theorem pe_gr {x : Str} {a : Addr} {pos : Pos} (hg : Gl X x) (h : X.mg x = some (.ref a)) (hd : (x == ("__debug__" : Str)) = false := by decide) : PE X (.Name x pos) (tC (.ref a)) := pe_glob hg h rfl hd
theorem pe_cs {x z : Str} {pos : Pos} (hg : Gl X x) (h : ∃ t, X.mg x = some (.str z t)) (hd : (x == ("__debug__" : Str)) = false := by decide) : PE X (.Name x pos) (tC (.str z)) := by
  obtain ⟨t, h⟩ := h
  exact pe_glob hg h ⟨t, rfl⟩ hd
end

/-! ### == of lists of ints -/
theorem shaped_ints (ns : List Int) : SeqAt.shaped (.list (ns.map PyData.int)) = true := Hsh.un (by simp (disch := k_dflt (
  refine Hsh.up ?_
  have h1 : ∀ l : List Int, PyData.canLayAll0 (l.map PyData.int) = true := fun l => by
    induction l with
    | nil => rfl
    | cons n r ih => rw [List.map_cons, PyData.canLayAll0, ih]; rfl
  have h2 : ∀ l : List Int, PyData.depthAll (l.map PyData.int) = 0 := fun l => by
    induction l with
    | nil => rfl
    | cons n r ih => rw [List.map_cons, PyData.depthAll, ih]; rfl
  unfold SeqAt.shaped
  rw [PyData.canLay0, h1, PyData.depth, h2]
  rfl
  )) only [↓Hsh.on])
theorem eqv_ints : ∀ ns ms : List Int, PyData.eqvAll (ns.map PyData.int) (ms.map PyData.int) = decide (ns = ms)
  | [], [] => by simp [PyData.eqvAll]
  | [], _ :: _ => by simp [PyData.eqvAll]
  | _ :: _, [] => by simp [PyData.eqvAll]
  | n :: ns, m :: ms => by
    rw [List.map_cons, List.map_cons, PyData.eqvAll, eqv_ints ns ms]
    by_cases h : n = m <;> by_cases h2 : ns = ms <;> simp [h, h2, PyData.eqv]
theorem dp_ints {K : PySem.W.Frag} {H : Hp} : ∀ ns : List Int, DpAll K H (ns.map V.int) (ns.map PyData.int)
  | [] => .nil
  | n :: ns => .cons (.int n) (dp_ints ns)
theorem s_eqLI {K : PySem.W.Frag} {H : Hp} {p q : Addr} {ns ms : List Int} {Q : VK} (h1 : SqL K H p (ns.map V.int)) (h2 : SqL K H q (ms.map V.int)) (h : Q (.bl (decide (ns = ms))) H) : rEqX K (.ref p) (.ref q) H Q :=
  .inr ⟨_, _, .lst h1 (dp_ints ns), .lst h2 (dp_ints ms), shaped_ints ns, shaped_ints ms, by rw [PyData.eqv, eqv_ints]; exact h⟩
/-! ### defs of the program -/
/-- the name x stands for a def that keeps the promise sp -/
structure CallOk (P : Program) (w : World) (K : PySem.W.Frag) (mg : Str → Option Value) (base : Heap) (CX : CXT) (k : Nat) (x : Str) (ps : List Str) (sp : Sp) : Prop where
  ex : ∃ f fd, mg x = some (.ref f) ∧ PySem.W.keepIn K (.ref f) = true ∧ Binds K fd ps [] ∧ FnOk P w K mg base CX k f fd ps sp
section
variable {X : Cx} {CX : CXT} {k : Nat} {ps : List Str} {sp : Sp} {E : XK} {x : Str} {p pos : Pos} {e : Expr} {es : List Expr} {t : TA}
theorem pe_callG (F : CallOk X.prog X.w X.K X.mg X.base CX k x ps sp) (hr : Room k X.A) (hg : Gl X x) (hx : Passes CX X E)
    (ha : PA X (e :: es) t) (hdb : (x == ("__debug__" : Str)) = false := by decide) (he : starEach (e :: es) X.env = (false, eval e X.env) :: starEach es X.env := by rfl) (hpl : (backTo pos (starEach es X.env)).any (·.1) = false := by rfl) :
    PE X (.Call (.Name x p) (e :: es) [] pos) (tCall sp [] E t) := by
  obtain ⟨f, fd, h1, h2, h3, h4⟩ := F.ex
  exact pe_call h4 hr hg h1 h2 h3 .nil hx ha hdb he hpl
theorem pe_callG0 (F : CallOk X.prog X.w X.K X.mg X.base CX k x ps sp) (hr : Room k X.A) (hg : Gl X x) (hx : Passes CX X E) (hdb : (x == ("__debug__" : Str)) = false := by decide) :
    PE X (.Call (.Name x p) [] [] pos) (tCall sp [] E tNil) := by
  obtain ⟨f, fd, h1, h2, h3, h4⟩ := F.ex
  exact pe_call0 h4 hr hg h1 h2 h3 .nil hx hdb
end
/-- the method m of the class that stands under the name C -/
structure MethOk (P : Program) (w : World) (K : PySem.W.Frag) (mg : Str → Option Value) (base : Heap) (CX : CXT) (k : Nat) (C m : Str) (ps : List Str) (sp : Sp) : Prop where
  ex : ∃ fd, Cls K (He.ga K C) ∧ Meth K (He.ga K C) m (He.ma K (He.ga K C) m) ∧ Binds K fd ps [] ∧ FnOk P w K mg base CX k (He.ma K (He.ga K C) m) fd ps sp
structure MakeOk (P : Program) (w : World) (K : PySem.W.Frag) (mg : Str → Option Value) (base : Heap) (CX : CXT) (k : Nat) (C : Str) (ps : List Str) (sp : Sp) : Prop where
  ex : ∃ fd, mg C = some (.ref (He.ga K C)) ∧ Mk K (He.ga K C) (He.ma K (He.ga K C) "__init__") ∧ Binds K fd ps [] ∧ FnOk P w K mg base CX k (He.ma K (He.ga K C) "__init__") fd ps sp
/-- the property f of the class C -/
structure PropOk (P : Program) (w : World) (K : PySem.W.Frag) (mg : Str → Option Value) (base : Heap) (CX : CXT) (k : Nat) (C f : Str) (ps : List Str) (sp : Sp) : Prop where
  ex : ∃ fd p g, Cls K (He.ga K C) ∧ PropOf K (He.ga K C) f p g ∧ Binds K fd ps [] ∧ FnOk P w K mg base CX k g fd ps sp
/-- a method's reading behind its object -/
def methO (C : Addr) (m : Str) (sp : Sp) (E : XK) (t : TA) (σ : L2.St) (x : V) (H : Hp) (Q : VK) : Prop := ∃ a dx fs, x = .ref a ∧ H a = some (.ins C dx fs) ∧ fs.lookup m = none ∧ t σ H fun vs H2 => sp (x :: (vs ++ [])) H2 Q E
def propO (C : Addr) (sp : Sp) (E : XK) (x : V) (H : Hp) (Q : VK) : Prop := ∃ a dx fs, x = .ref a ∧ H a = some (.ins C dx fs) ∧ sp [.ref a] H Q E
def makeO (C : Addr) (sp : Sp) (E : XK) (vs : List V) (H : Hp) (Q : VK) : Prop := ∀ x dx, H x = none → H dx = none → dx ≠ x → sp (.ref x :: (vs ++ [])) (upd (upd H dx (.own x)) x (.ins C dx [])) (fun v H2 => v = .non ∧ Q (.ref x) H2) E
section
variable {X : Cx} {CX : CXT} {k : Nat} {ps : List Str} {sp : Sp} {E : XK} {C m : Str} {p pos apos : Pos} {o e : Expr} {es : List Expr} {t : TA} {ta : TE}
theorem pe_methG {pl : Sem Bool} (he : PE X o ta) (F : MethOk X.prog X.w X.K X.mg X.base CX k C m ps sp) (hr : Room k X.A) (hx : Passes CX X E) (ha : PA X (e :: es) t)
    (hst : starEach (e :: es) X.env = (false, eval e X.env) :: starEach es X.env := by rfl) (hpl : (backTo pos (starEach es X.env)).any (·.1) = false := by rfl)
    (ht : eval (.Call (.Attribute o m apos) (e :: es) [] pos) X.env = (do
      let ov ← eval o X.env
      standAt apos.atName
      let (f, first) ← holding [ov] (getMethod ov m pl)
      callWith pos f first (backTo pos (starEach (e :: es) X.env)) (backToKw pos (keywordEach [] X.env))) := by rfl) :
    PE X (.Call (.Attribute o m apos) (e :: es) [] pos) (fun σ H Q => ta σ H fun x H1 => methO (He.ga X.K C) m sp E t σ x H1 Q) := by
  obtain ⟨fd, c, hm, hb, G⟩ := F.ex
  exact pe_meth (pl := pl) he c hm G hr hb .nil hx ha hst hpl ht
theorem pe_methG0 {pl : Sem Bool} (he : PE X o ta) (F : MethOk X.prog X.w X.K X.mg X.base CX k C m ps sp) (hr : Room k X.A) (hx : Passes CX X E)
    (ht : eval (.Call (.Attribute o m apos) [] [] pos) X.env = (do
      let ov ← eval o X.env
      standAt apos.atName
      let (f, first) ← holding [ov] (getMethod ov m pl)
      callWith pos f first (backTo pos (starEach [] X.env)) (backToKw pos (keywordEach [] X.env))) := by rfl) :
    PE X (.Call (.Attribute o m apos) [] [] pos) (fun σ H Q => ta σ H fun x H1 => methO (He.ga X.K C) m sp E tNil σ x H1 Q) := by
  obtain ⟨fd, c, hm, hb, G⟩ := F.ex
  exact pe_meth0 (pl := pl) he c hm G hr hb .nil hx ht
theorem pe_propG (he : PE X o ta) (F : PropOk X.prog X.w X.K X.mg X.base CX k C m ps sp) (hr : Room (k + 1) X.A) (hx : Passes CX X.nox E)
    (hab : attributeBase o m X.env (eval o X.env) = eval o X.env) : PE X (.Attribute o m pos) (fun σ H Q => ta σ H fun x H1 => propO (He.ga X.K C) sp E x H1 Q) := by
  obtain ⟨fd, p, g, c, hp, hb, G⟩ := F.ex
  exact pe_prop he c hp G hr hb .nil hx hab
theorem pe_makeG (F : MakeOk X.prog X.w X.K X.mg X.base CX k C ps sp) (hr : Room (k + 1) X.A) (hg : Gl X C) (hx : Passes CX X E) (ha : PA X (e :: es) t) (hdb : (C == ("__debug__" : Str)) = false := by decide)
    (he : starEach (e :: es) X.env = (false, eval e X.env) :: starEach es X.env := by rfl) (hpl : (backTo pos (starEach es X.env)).any (·.1) = false := by rfl) :
    PE X (.Call (.Name C p) (e :: es) [] pos) (fun σ H Q => t σ H fun vs H1 => makeO (He.ga X.K C) sp E vs H1 Q) := by
  obtain ⟨fd, hm, M, hb, G⟩ := F.ex
  exact pe_make M G hr hg hm hb .nil hx ha hdb he hpl
theorem pe_makeG0 (F : MakeOk X.prog X.w X.K X.mg X.base CX k C ps sp) (hr : Room (k + 1) X.A) (hg : Gl X C) (hx : Passes CX X E) (hdb : (C == ("__debug__" : Str)) = false := by decide) :
    PE X (.Call (.Name C p) [] [] pos) (fun σ H Q => makeO (He.ga X.K C) sp E [] H Q) := by
  obtain ⟨fd, hm, M, hb, G⟩ := F.ex
  exact pe_make0 M G hr hg hm hb .nil hx hdb
end
/-- promises by the number of arguments -/
def mk0 (P : Hp → VK → XK → Prop) : Sp := fun vs H Q E => vs = [] ∧ P H Q E
def mk1 (P : V → Hp → VK → XK → Prop) : Sp := fun vs H Q E => ∃ a, vs = [a] ∧ P a H Q E
def mk2 (P : V → V → Hp → VK → XK → Prop) : Sp := fun vs H Q E => ∃ a b, vs = [a, b] ∧ P a b H Q E
def mk3 (P : V → V → V → Hp → VK → XK → Prop) : Sp := fun vs H Q E => ∃ a b c, vs = [a, b, c] ∧ P a b c H Q E
def mk4 (P : V → V → V → V → Hp → VK → XK → Prop) : Sp := fun vs H Q E => ∃ a b c d, vs = [a, b, c, d] ∧ P a b c d H Q E
def mk5 (P : V → V → V → V → V → Hp → VK → XK → Prop) : Sp := fun vs H Q E => ∃ a b c d e, vs = [a, b, c, d, e] ∧ P a b c d e H Q E
theorem mk0_len {P} (vs H Q E) (h : mk0 P vs H Q E) : vs.length = 0 := by obtain ⟨rfl, _⟩ := h; rfl
theorem mk1_len {P} (vs H Q E) (h : mk1 P vs H Q E) : vs.length = 1 := by obtain ⟨_, rfl, _⟩ := h; rfl
theorem mk2_len {P} (vs H Q E) (h : mk2 P vs H Q E) : vs.length = 2 := by obtain ⟨_, _, rfl, _⟩ := h; rfl
theorem mk3_len {P} (vs H Q E) (h : mk3 P vs H Q E) : vs.length = 3 := by obtain ⟨_, _, _, rfl, _⟩ := h; rfl
theorem mk4_len {P} (vs H Q E) (h : mk4 P vs H Q E) : vs.length = 4 := by obtain ⟨_, _, _, _, rfl, _⟩ := h; rfl
theorem mk5_len {P} (vs H Q E) (h : mk5 P vs H Q E) : vs.length = 5 := by obtain ⟨_, _, _, _, _, rfl, _⟩ := h; rfl
theorem s_mk0 {P : Hp → VK → XK → Prop} {H Q E} (h : P H Q E) : mk0 P ([] ++ []) H Q E := ⟨rfl, h⟩
theorem s_mk1 {P : V → Hp → VK → XK → Prop} {a H Q E} (h : P a H Q E) : mk1 P ([a] ++ []) H Q E := ⟨a, rfl, h⟩
theorem s_mk2 {P : V → V → Hp → VK → XK → Prop} {a b H Q E} (h : P a b H Q E) : mk2 P ([a, b] ++ []) H Q E := ⟨a, b, rfl, h⟩
theorem s_mk3 {P : V → V → V → Hp → VK → XK → Prop} {a b c H Q E} (h : P a b c H Q E) : mk3 P ([a, b, c] ++ []) H Q E := ⟨a, b, c, rfl, h⟩
theorem s_mk4 {P : V → V → V → V → Hp → VK → XK → Prop} {a b c d H Q E} (h : P a b c d H Q E) : mk4 P ([a, b, c, d] ++ []) H Q E := ⟨a, b, c, d, rfl, h⟩
theorem s_mk5 {P : V → V → V → V → V → Hp → VK → XK → Prop} {a b c d e H Q E} (h : P a b c d e H Q E) : mk5 P ([a, b, c, d, e] ++ []) H Q E := ⟨a, b, c, d, e, rfl, h⟩
theorem cxK {CX : CXT} {P : Program} {w : World} {K : PySem.W.Frag} {mg : Str → Option Value} {base : Heap} {N : List Str} {qual : Str} {scope : Scope} {f : Addr} {cd : Value} {A : Around} {outer : List PySem.Env} {s : Shared} {H : Hp} {E : XK} :
    (cxOf CX P w K mg base N qual scope f cd A outer s H E).nox.K = K := rfl
theorem cxK2 {CX : CXT} {P : Program} {w : World} {K : PySem.W.Frag} {mg : Str → Option Value} {base : Heap} {N : List Str} {qual : Str} {scope : Scope} {f : Addr} {cd : Value} {A : Around} {outer : List PySem.Env} {s : Shared} {H : Hp} {E : XK} :
    (cxOf CX P w K mg base N qual scope f cd A outer s H E).K = K := rfl
theorem hu_room {k : Nat} {A : Around} (hr : Room k A) : A.units + 64 < cLine := hr.units
theorem exget {ex : List (PySem.W.Frag → Bool)} {K : PySem.W.Frag} (h : (ex.all fun f => f K) = true) (i : Nat) {f : PySem.W.Frag → Bool} (e : ex[i]? = some f) : f K = true :=
  List.all_eq_true.mp h f (List.mem_of_getElem? e)

/-! ### one lemma a reading -/
/-- a new object -/
def newO (o : HO) (n : Nat) (H : Hp) (Q : VK) : Prop := n ≤ sizeLine ∧ ∀ p, H p = none → Q (.ref p) (upd H p o)
/-- a field of the value x -/
def fldO (K : PySem.W.Frag) (f : Str) (x : V) (H : Hp) (Q : VK) : Prop := ∃ a C dx fs v, x = .ref a ∧ H a = some (.ins C dx fs) ∧ Cls K C ∧ NoAttr K C f ∧ fs.lookup f = some v ∧ Q v H
def sfldO (K : PySem.W.Frag) (f : Str) (y x : V) (H : Hp) (P : Hp → Prop) : Prop := ∃ a C dx fs, x = .ref a ∧ H a = some (.ins C dx fs) ∧ Cls K C ∧ NoAttr K C f ∧ fs.length < 1000 ∧ P (upd H a (.ins C dx (putF f y fs)))
section
variable {σ σ' : L2.St} {H : Hp} {Q : VK} {K : PySem.W.Frag} {R : Bool → Hp → Prop} {D : Ends} {ta tb : TE} {t u : TS} {tc td : TT} {v : V}
theorem s_var {i : Nat} (e : σ[i]? = some (some v)) (h : Q v H) : tVar i σ H Q := ⟨v, e, h⟩
theorem s_C (h : Q v H) : tC v σ H Q := h
theorem s_op {r : R2} (h : ta σ H fun x H1 => tb σ H1 fun y H2 => r x y H2 Q) : tOp r ta tb σ H Q := h
theorem s_un {r : V → Hp → VK → Prop} (h : ta σ H fun x H1 => r x H1 Q) : tUn r ta σ H Q := h
theorem s_rU {g : Int → V} {i : Int} (h : Q (g i) H) : rU g (.int i) H Q := ⟨i, rfl, h⟩
theorem s_rI0 {g : Int → Int → V} {i j : Int} (h : Q (g i j) H) : rI0 g (.int i) (.int j) H Q := ⟨i, j, rfl, rfl, h⟩
theorem s_rI {C : Int → Int → Prop} {g : Int → Int → V} {i j : Int} (c : C i j) (h : Q (g i j) H) : rI C g (.int i) (.int j) H Q := ⟨i, j, rfl, rfl, c, h⟩
theorem s_addI {i j : Int} (h : Q (.int (i + j)) H) : rAddX K (.int i) (.int j) H Q := .inl ⟨i, j, rfl, rfl, h⟩
theorem s_addS {i j : Str} (c : i.length + j.length ≤ sizeLine) (h : Q (.str (i ++ j)) H) : rAddX K (.str i) (.str j) H Q := .inr (.inl ⟨i, j, rfl, rfl, c, h⟩)
theorem s_mulR {i j : Int} (c : -(2 ^ 64) < j ∧ j < 2 ^ 64) (h : Q (.int (i * j)) H) : rMulX K (.int i) (.int j) H Q := .inl ⟨i, j, rfl, rfl, .inr c, h⟩
theorem s_mulL {i j : Int} (c : -(2 ^ 64) < i ∧ i < 2 ^ 64) (h : Q (.int (i * j)) H) : rMulX K (.int i) (.int j) H Q := .inl ⟨i, j, rfl, rfl, .inl c, h⟩
theorem s_div {i j : Int} (c0 : 0 < j) (c : j < 2 ^ 64) (h : Q (.int (i / j)) H) : rDivX (.int i) (.int j) H Q := .inl ⟨i, j, rfl, rfl, wide_div (b := 64) c0 (by omega) (by decide) (by decide), h⟩
theorem s_divX {i j : Int} (c0 : j ≠ 0) (c : -(2 ^ 64) < j ∧ j < 2 ^ 64) (h : Q (.int (i.fdiv j)) H) : rDivX (.int i) (.int j) H Q :=
  .inr ⟨i, j, rfl, rfl, ⟨c0, Nat.lt_of_lt_of_le (PySem.Flt.log2_lt_of (k := 64) (by decide) (by omega)) (by decide)⟩, h⟩
theorem s_mod {i j : Int} (c : 0 < j) (h : Q (.int (i % j)) H) : rModX (.int i) (.int j) H Q := .inl ⟨i, j, rfl, rfl, c, h⟩
theorem s_modN {i j : Int} (c : j ≠ 0) (h : Q (.int (i.fmod j)) H) : rModX (.int i) (.int j) H Q := .inr ⟨i, j, rfl, rfl, c, h⟩
theorem s_pow {i j : Int} (c : CPow i j) {n : Int} (e : i ^ j.toNat = n) (h : Q (.int n) H) : rI CPow (fun i j => .int (i ^ j.toNat)) (.int i) (.int j) H Q := ⟨i, j, rfl, rfl, c, by show Q (.int (i ^ j.toNat)) H; rw [e]; exact h⟩
theorem s_eqI {i j : Int} (h : Q (.bl (decide (i = j))) H) : rEqX K (.int i) (.int j) H Q := .inl ⟨rfl, by
  have e : decide (V.int i = V.int j) = decide (i = j) := by simp
  rw [e]; exact h⟩
theorem s_neI {i j : Int} (h : Q (.bl (!decide (i = j))) H) : rNeX K (.int i) (.int j) H Q := .inl ⟨rfl, by
  have e : decide (V.int i = V.int j) = decide (i = j) := by simp
  rw [e]; exact h⟩
theorem s_eqS {i j : Str} (h : Q (.bl (decide (i = j))) H) : rEqX K (.str i) (.str j) H Q := .inl ⟨rfl, by
  have e : decide (V.str i = V.str j) = decide (i = j) := by simp
  rw [e]; exact h⟩
theorem s_neS {i j : Str} (h : Q (.bl (!decide (i = j))) H) : rNeX K (.str i) (.str j) H Q := .inl ⟨rfl, by
  have e : decide (V.str i = V.str j) = decide (i = j) := by simp
  rw [e]; exact h⟩
theorem s_eqB {i j : Bool} (h : Q (.bl (decide (i = j))) H) : rEqX K (.bl i) (.bl j) H Q := .inl ⟨rfl, by
  have e : decide (V.bl i = V.bl j) = decide (i = j) := by simp
  rw [e]; exact h⟩
theorem s_neB {i j : Bool} (h : Q (.bl (!decide (i = j))) H) : rNeX K (.bl i) (.bl j) H Q := .inl ⟨rfl, by
  have e : decide (V.bl i = V.bl j) = decide (i = j) := by simp
  rw [e]; exact h⟩
theorem s_isN (h : Q (.bl (decide (v = .non))) H) : rIsX v .non H Q := .inl ⟨rfl, h⟩
theorem s_isNotN (h : Q (.bl (!decide (v = .non))) H) : rIsNotX v .non H Q := .inl ⟨rfl, h⟩
theorem s_isB {a b : Bool} (h : Q (.bl (decide (a = b))) H) : rIsX (.bl a) (.bl b) H Q := .inr ⟨a, b, rfl, rfl, h⟩
theorem s_isNotB {a b : Bool} (h : Q (.bl (!decide (a = b))) H) : rIsNotX (.bl a) (.bl b) H Q := .inr ⟨a, b, rfl, rfl, h⟩
theorem s_inT {p : Addr} {xs : List V} {b : Bool} {neg : Bool} (h1 : SqT K H p xs) (f1 : flatV v = true) (f2 : xs.all flatV = true) (e : (if neg then !inV v xs else inV v xs) = b) (h : Q (.bl b) H) : rInX K neg v (.ref p) H Q :=
  ⟨p, xs, rfl, .inr h1, f1, f2, by rw [e]; exact h⟩
theorem s_inL {p : Addr} {xs : List V} {b : Bool} {neg : Bool} (h1 : SqL K H p xs) (f1 : flatV v = true) (f2 : xs.all flatV = true) (e : (if neg then !inV v xs else inV v xs) = b) (h : Q (.bl b) H) : rInX K neg v (.ref p) H Q :=
  ⟨p, xs, rfl, .inl h1, f1, f2, by rw [e]; exact h⟩
theorem s_inT0 {p : Addr} {xs : List V} (h1 : SqT K H p xs) (f1 : flatV v = true) (f2 : xs.all flatV = true) (h : Q (.bl (inV v xs)) H) : rInX K false v (.ref p) H Q := ⟨p, xs, rfl, .inr h1, f1, f2, h⟩
theorem s_inL0 {p : Addr} {xs : List V} (h1 : SqL K H p xs) (f1 : flatV v = true) (f2 : xs.all flatV = true) (h : Q (.bl (inV v xs)) H) : rInX K false v (.ref p) H Q := ⟨p, xs, rfl, .inl h1, f1, f2, h⟩
theorem s_niT0 {p : Addr} {xs : List V} (h1 : SqT K H p xs) (f1 : flatV v = true) (f2 : xs.all flatV = true) (h : Q (.bl (!inV v xs)) H) : rInX K true v (.ref p) H Q := ⟨p, xs, rfl, .inr h1, f1, f2, h⟩
theorem s_niL0 {p : Addr} {xs : List V} (h1 : SqL K H p xs) (f1 : flatV v = true) (f2 : xs.all flatV = true) (h : Q (.bl (!inV v xs)) H) : rInX K true v (.ref p) H Q := ⟨p, xs, rfl, .inl h1, f1, f2, h⟩
theorem s_ixL {p : Addr} {xs : List V} {i : Int} (h1 : SqL K H p xs) (e : atI xs i = some v) (h : Q v H) : rIxX K (.ref p) (.int i) H Q := .inl ⟨p, xs, i, v, rfl, rfl, h1, e, h⟩
theorem s_ixT {p : Addr} {xs : List V} {i : Int} (h1 : SqT K H p xs) (e : atI xs i = some v) (h : Q v H) : rIxX K (.ref p) (.int i) H Q := .inr (.inl ⟨p, xs, i, v, rfl, rfl, h1, e, h⟩)
theorem s_ixS {z : Str} {i : Int} {c : Nat} (h1 : z.length ≤ sizeLine) (e : atI z.cps.toList i = some c) (h : Q (.str ⟨#[c]⟩) H) : rIxX K (.str z) (.int i) H Q := .inr (.inr ⟨z, i, c, rfl, rfl, h1, e, h⟩)
theorem atI_in {xs : List V} {i : Int} (h0 : 0 ≤ i) (h1 : i < xs.length) : atI xs i = some (xs.getD i.toNat .non) := Hsh.un (by simp (disch := k_dflt (
  refine Hsh.up ?_
  unfold atI ixN
  rw [if_pos h0, if_pos h1]
  show xs[i.toNat]? = _
  rw [List.getD_eq_getElem?_getD, List.getElem?_eq_getElem (by omega)]
  rfl
  )) only [↓Hsh.on])
theorem atI_ints {ns : List Int} {i : Int} (h0 : 0 ≤ i) (h1 : i < (ns.map V.int).length) : atI (ns.map V.int) i = some (.int (ns.getD i.toNat 0)) := Hsh.un (by simp (disch := k_dflt (
  refine Hsh.up ?_
  rw [List.length_map] at h1
  unfold atI ixN
  rw [if_pos h0, if_pos (by rw [List.length_map]; exact h1)]
  show (ns.map V.int)[i.toNat]? = _
  rw [List.getElem?_map, List.getD_eq_getElem?_getD, List.getElem?_eq_getElem (by omega)]
  rfl
  )) only [↓Hsh.on])
theorem atI_strs {zs : List Str} {i : Int} (h0 : 0 ≤ i) (h1 : i < (zs.map V.str).length) : atI (zs.map V.str) i = some (.str (zs.getD i.toNat "")) := Hsh.un (by simp (disch := k_dflt (
  refine Hsh.up ?_
  rw [List.length_map] at h1
  unfold atI ixN
  rw [if_pos h0, if_pos (by rw [List.length_map]; exact h1)]
  show (zs.map V.str)[i.toNat]? = _
  rw [List.getElem?_map, List.getD_eq_getElem?_getD, List.getElem?_eq_getElem (by omega)]
  rfl
  )) only [↓Hsh.on])
theorem atI_refs {rs : List Addr} {i : Int} (h0 : 0 ≤ i) (h1 : i < (rs.map V.ref).length) : atI (rs.map V.ref) i = some (.ref (rs.getD i.toNat 0)) := Hsh.un (by simp (disch := k_dflt (
  refine Hsh.up ?_
  rw [List.length_map] at h1
  unfold atI ixN
  rw [if_pos h0, if_pos (by rw [List.length_map]; exact h1)]
  show (rs.map V.ref)[i.toNat]? = _
  rw [List.getElem?_map, List.getD_eq_getElem?_getD, List.getElem?_eq_getElem (by omega)]
  rfl
  )) only [↓Hsh.on])
theorem getD_strs (l : List Str) (i : Nat) (h : i < l.length) : (l.map V.str).getD i .non = .str (l.getD i "") := by
  rw [List.getD_eq_getElem?_getD, List.getD_eq_getElem?_getD, List.getElem?_map, List.getElem?_eq_getElem h]
  rfl
theorem getD_ints (l : List Int) (i : Nat) (h : i < l.length) : (l.map V.int).getD i .non = .int (l.getD i 0) := by
  rw [List.getD_eq_getElem?_getD, List.getD_eq_getElem?_getD, List.getElem?_map, List.getElem?_eq_getElem h]
  rfl
theorem set_ints (l : List Int) (i : Nat) (a : Int) : (l.map V.int).set i (.int a) = (l.set i a).map V.int := by rw [List.map_set]
def toI : V → Int
  | .int i => i
  | _ => 0
def isI : V → Bool
  | .int _ => true
  | _ => false
theorem atI_ilit {xs : List V} {i : Int} (h0 : 0 ≤ i) (h1 : i < xs.length) (a : xs.all isI = true) : atI xs i = some (.int (toI (xs.getD i.toNat .non))) := Hsh.un (by simp (disch := k_dflt (
  refine Hsh.up ?_
  rw [atI_in h0 h1]
  have hm : xs.getD i.toNat .non ∈ xs := by
    rw [List.getD_eq_getElem?_getD, List.getElem?_eq_getElem (by omega)]
    exact List.getElem_mem _
  have := List.all_eq_true.mp a _ hm
  cases e : xs.getD i.toNat .non with
  | int j => rfl
  | _ => rw [e] at this; cases this
  )) only [↓Hsh.on])
theorem s_test (h : ta σ H fun x H' => ∃ k, x = .bl k ∧ R k H') : tTest ta σ H R := h
theorem s_tB (h : ta σ H fun x H' => ∃ k, x = .bl k ∧ R k H') : tB ta σ H R := h
theorem s_bl {b : Bool} {P : Bool → Prop} (h : P b) : ∃ k, V.bl b = .bl k ∧ P k := ⟨b, rfl, h⟩
theorem s_and (h : tc σ H fun c H1 => if c = true then td σ H1 R else R false H1) : tAnd tc td σ H R := h
theorem s_or (h : tc σ H fun c H1 => if c = true then R true H1 else td σ H1 R) : tOr tc td σ H R := h
theorem s_not (h : tc σ H fun c H1 => R (!c) H1) : tNot tc σ H R := h
theorem s_andV (h : ta σ H fun x H1 => ∃ c, x = .bl c ∧ if c = true then tb σ H1 Q else Q (.bl false) H1) : tAndV ta tb σ H Q := h
theorem s_orV (h : ta σ H fun x H1 => ∃ c, x = .bl c ∧ if c = true then Q (.bl true) H1 else tb σ H1 Q) : tOrV ta tb σ H Q := h
theorem s_notV (h : ta σ H fun x H1 => ∃ c, x = .bl c ∧ Q (.bl (!c)) H1) : tNotV ta σ H Q := h
theorem s_if (h : tc σ H fun c H1 => if c = true then ta σ H1 Q else tb σ H1 Q) : tIf tc ta tb σ H Q := h
theorem s_chain {r r' : R2} {te : TE} (h : ta σ H fun x H1 => tb σ H1 fun y H2 => r x y H2 fun z H3 => ∃ k, z = .bl k ∧ (if k = true then te σ H3 fun w' H4 => r' y w' H4 Q else Q (.bl false) H3)) : tChain r r' ta tb te σ H Q := h
theorem s_nil {S : List V → Hp → Prop} (h : S [] H) : tNil σ H S := h
theorem s_cons {S : List V → Hp → Prop} {tr : TA} (h : ta σ H fun x H1 => tr σ H1 fun xs H2 => S (x :: xs) H2) : tCons ta tr σ H S := h
theorem s_tup {tr : TA} (h : tr σ H fun xs H1 => newO (.tup xs) xs.length H1 Q) : tTup tr σ H Q := h
theorem s_lst {tr : TA} (h : tr σ H fun xs H1 => newO (.lst xs) xs.length H1 Q) : tLst tr σ H Q := h
theorem s_rep {l : Addr} {k : Int} {xs ys : List V} (h1 : H l = some (.lst xs)) (c : -(2 ^ 63) ≤ k ∧ k < 2 ^ 63) (c2 : xs.length * k.toNat ≤ sizeLine) (e : (List.replicate k.toNat xs).flatten = ys) (h : newO (.lst ys) 0 H Q) : rMulX K (.ref l) (.int k) H Q :=
  .inr (.inr (.inl ⟨l, k, xs, rfl, rfl, h1, c.1, c.2, c2, by rw [e]; exact h.2⟩))
theorem s_rep1 {l : Addr} {k : Int} {x : V} {n : Nat} (h1 : H l = some (.lst [x])) (c : 0 ≤ k ∧ k ≤ 16777216) (e : k.toNat = n) (h : newO (.lst (List.replicate n x)) 0 H Q) : rMulX K (.ref l) (.int k) H Q := Hsh.un (by simp (disch := k_dflt (
  refine Hsh.up ?_
  refine .inr (.inr (.inl ⟨l, k, [x], rfl, rfl, h1, by omega, by omega, ?_, ?_⟩))
  · rw [sizeLine_eq, List.length_singleton]
    omega
  · have q : (List.replicate k.toNat [x]).flatten = List.replicate n x := by
      rw [e]
      simp
    rw [q]
    exact h.2
  )) only [↓Hsh.on])
theorem s_cat {l b : Addr} {xs zs ys : List V} (h1 : H l = some (.lst xs)) (h2 : H b = some (.lst zs)) (c : xs.length + zs.length ≤ sizeLine) (e : xs ++ zs = ys) (h : newO (.lst ys) 0 H Q) : rAddX K (.ref l) (.ref b) H Q :=
  .inr (.inr (.inl ⟨l, b, xs, zs, rfl, rfl, h1, h2, c, by rw [e]; exact h.2⟩))
theorem s_listO {p : Addr} {ys : List V} (h1 : SqL K H p ys) (h : newO (.lst ys) 0 H Q) : rListX K [.ref p] H Q := ⟨p, ys, rfl, .inl h1, h.2⟩
theorem s_listT {p : Addr} {ys : List V} (h1 : SqT K H p ys) (h : newO (.lst ys) 0 H Q) : rListX K [.ref p] H Q := ⟨p, ys, rfl, .inr h1, h.2⟩
theorem s_tupL {p : Addr} {ys : List V} (h1 : SqL K H p ys) (h : newO (.tup ys) 0 H Q) : rTupX K [.ref p] H Q := ⟨p, ys, rfl, .inl ⟨h1, h.2⟩⟩
theorem s_tupT {p : Addr} {ys : List V} (h1 : SqT K H p ys) (h : Q (.ref p) H) : rTupX K [.ref p] H Q := ⟨p, ys, rfl, .inr ⟨h1, h⟩⟩
theorem s_slL {p : Addr} {xs ys : List V} {lo hi : Option Int} (h1 : SqL K H p xs) (e : cutV xs lo hi = ys) (h : newO (.lst ys) 0 H Q) : rSlX K (.ref p) lo hi H Q := .inl ⟨p, xs, rfl, h1, by rw [e]; exact h.2⟩
theorem s_CB {r : List V → Hp → VK → Prop} {tr : TA} (h : tr σ H fun vs H1 => r vs H1 Q) : tCB r tr σ H Q := h
theorem s_call {sp : Sp} {E : XK} {tr : TA} (h : tr σ H fun vs H1 => sp (vs ++ []) H1 Q E) : tCall sp [] E tr σ H Q := h
theorem s_int {i : Int} (h : Q (.int i) H) : rInt [.int i] H Q := .inl ⟨i, rfl, h⟩
theorem s_intB {b : Bool} (h : if b = true then Q (.int 1) H else Q (.int 0) H) : rInt [.bl b] H Q := .inr ⟨b, rfl, by cases b <;> exact h⟩
theorem s_abs {i : Int} (h : Q (.int (if i < 0 then -i else i)) H) : rAbs [.int i] H Q := ⟨i, rfl, h⟩
theorem s_max2 {i j : Int} (h : Q (.int (if j > i then j else i)) H) : rMax2 [.int i, .int j] H Q := ⟨i, j, rfl, h⟩
theorem s_min2 {i j : Int} (h : Q (.int (if j < i then j else i)) H) : rMin2 [.int i, .int j] H Q := ⟨i, j, rfl, h⟩
theorem s_lenL {p : Addr} {xs : List V} (h1 : SqL K H p xs) (h : Q (.int (xs.length : Nat)) H) : rLenX K [.ref p] H Q := ⟨_, _, rfl, .inl ⟨xs, h1, rfl⟩, h⟩
theorem s_lenT {p : Addr} {xs : List V} (h1 : SqT K H p xs) (h : Q (.int (xs.length : Nat)) H) : rLenX K [.ref p] H Q := ⟨_, _, rfl, .inr ⟨xs, h1, rfl⟩, h⟩
theorem s_sum {p : Addr} {ns : List Int} (h1 : SqL K H p (ns.map V.int)) (h : Q (.int ns.sum) H) : rSum K [.ref p] H Q := ⟨p, ns, rfl, h1, h⟩
theorem s_all {p : Addr} {bs : List Bool} (h1 : SqL K H p (bs.map V.bl)) (h : Q (.bl (bs.all id)) H) : rAll K [.ref p] H Q := ⟨p, bs, rfl, h1, h⟩
theorem s_any {p : Addr} {bs : List Bool} (h1 : SqL K H p (bs.map V.bl)) (h : Q (.bl (bs.any id)) H) : rAny K [.ref p] H Q := ⟨p, bs, rfl, h1, h⟩
theorem s_maxL2 {p : Addr} {i j : Int} (h1 : SqL K H p [.int i, .int j]) (h : Q (.int (if i ≤ j then j else i)) H) : rMax K [.ref p] H Q := ⟨p, [i, j], rfl, h1, Nat.succ_pos _, fun m hm hb => by
  have e : m = if i ≤ j then j else i := by
    have h1 := hb i (by simp)
    have h2 := hb j (by simp)
    rcases List.mem_cons.mp hm with rfl | hm
    · split <;> omega
    · rw [List.mem_singleton.mp hm] at h1 h2 ⊢
      split <;> omega
  rw [e]; exact h⟩
theorem s_minL2 {p : Addr} {i j : Int} (h1 : SqL K H p [.int i, .int j]) (h : Q (.int (if i ≤ j then i else j)) H) : rMin K [.ref p] H Q := ⟨p, [i, j], rfl, h1, Nat.succ_pos _, fun m hm hb => by
  have e : m = if i ≤ j then i else j := by
    have h1 := hb i (by simp)
    have h2 := hb j (by simp)
    rcases List.mem_cons.mp hm with rfl | hm
    · split <;> omega
    · rw [List.mem_singleton.mp hm] at h1 h2 ⊢
      split <;> omega
  rw [e]; exact h⟩
theorem s_isi {c : V} {ty un : Value} {b : Bool} (k : ClsV c un) (h1 : TyX K H v ty) (e : PySem.W.kitOne K ty un = some b) (h : Q (.bl b) H) : rIsiX K [v, c] H Q := .inl ⟨v, c, ty, un, b, rfl, k, h1, e, h⟩
theorem s_isT {a b : String} (h1 : TyX K H v (.type a)) (e : kitB a b = some true) (h : Q (.bl true) H) : rIsiX K [v, .ty b] H Q := .inl ⟨v, _, _, _, _, rfl, .ty b, h1, kit_ty e, h⟩
theorem s_isF {a b : String} (h1 : TyX K H v (.type a)) (e : kitB a b = some false) (h : Q (.bl false) H) : rIsiX K [v, .ty b] H Q := .inl ⟨v, _, _, _, _, rfl, .ty b, h1, kit_ty e, h⟩
theorem s_sl {te : TE} {tl th : TO} {r : V → Option Int → Option Int → Hp → VK → Prop} (h : te σ H fun x H1 => tl σ H1 fun l H2 => th σ H2 fun u H3 => r x l u H3 Q) : tSl r te tl th σ H Q := h
theorem s_part {te : TE} {P : Option Int → Hp → Prop} (h : te σ H fun x H1 => ∃ i, x = .int i ∧ P (some i) H1) : tPart te σ H P := h
theorem s_partI {i : Int} {P : Int → Prop} (h : P i) : ∃ j, V.int i = .int j ∧ P j := ⟨i, rfl, h⟩
theorem s_noPart {P : Option Int → Hp → Prop} (h : P none H) : tNoPart σ H P := h
-- statements
variable {n b c : L2.St → Hp → Prop} {r : VK}
theorem s_seq (h : t ⟨u ⟨n, r, b, c⟩, r, b, c⟩ σ H) : tSeq t u ⟨n, r, b, c⟩ σ H := h
theorem s_next (h : n σ H) : tNext ⟨n, r, b, c⟩ σ H := h
theorem s_break (h : b σ H) : tBreak ⟨n, r, b, c⟩ σ H := h
theorem s_cont (h : c σ H) : tCont ⟨n, r, b, c⟩ σ H := h
theorem s_drop (h : ta σ H fun _ H1 => n σ H1) : tDrop ta ⟨n, r, b, c⟩ σ H := h
theorem s_ret (h : ta σ H r) : tRet ta ⟨n, r, b, c⟩ σ H := h
theorem s_retN (h : r .non H) : tRetN ⟨n, r, b, c⟩ σ H := h
theorem s_ifS (h : tc σ H fun q H1 => if q = true then t ⟨n, r, b, c⟩ σ H1 else u ⟨n, r, b, c⟩ σ H1) : tIfS tc t u ⟨n, r, b, c⟩ σ H := h
theorem s_asg {g : TG} (h : ta σ H fun x H1 => g x σ H1 n) : tAsg ta g ⟨n, r, b, c⟩ σ H := h
theorem s_gname {i : Nat} {S : L2.St → Hp → Prop} (e : σ.set i (some v) = σ') (h : S σ' H) : gName i v σ H S := by
  show S (σ.set i (some v)) H
  rw [e]; exact h
theorem s_gsub {S : L2.St → Hp → Prop} {ts : TSet} (h : ta σ H fun o H1 => tb σ H1 fun i H2 => ts o i v H2 fun H3 => S σ H3) : gSub ta tb ts v σ H S := h
theorem s_fld {f : Str} (h : ta σ H fun x H1 => fldO K f x H1 Q) : tFld K ta f σ H Q := h
theorem s_sfld {f : Str} (h : tb σ H fun y H1 => ta σ H1 fun x H2 => sfldO K f y x H2 fun H3 => n σ H3) : sFld K ta tb f ⟨n, r, b, c⟩ σ H := h
end
/-- an attribute as a target -/
def gAttr (K : PySem.W.Frag) (to : TE) (f : Str) : TG := fun v σ H S => to σ H fun x H1 => sfldO K f v x H1 fun H2 => S σ H2
theorem pg_attr {X : Cx} {o : Expr} {f : Str} {pos : Pos} {to : TE} (ho : PE X o to) : PG X (.Attribute o f pos) (gAttr X.K to f) := Hsh.un (by simp (disch := k_dflt (
  refine Hsh.up ?_
  refine ⟨fun pins s σ H v u S I r h => ?_⟩
  rw [assign_Attribute]
  refine wpAny_bind (wpAny_holding (thn (ho.run pins s σ H _ I h) fun ov s1 ⟨x, H1, I1, r1, q1⟩ => ?_))
  obtain ⟨a, C, dx, fs, rfl, e, c, l, hl, q⟩ := q1
  obtain rfl : ov = .ref a := r1
  exact wpAny_bind (wpAny_standAt (wpAny_bind (wpAny_holding (setattr_ok I1 e c l hl r fun s2 I2 => wpAny_release ⟨σ, _, I2, q⟩))))
  )) only [↓Hsh.on])
/-- a built-in type's method, behind its object -/
def bm0O (K : PySem.W.Frag) (T : String) (r : V → List V → Hp → VK → Prop) (x : V) (H : Hp) (Q : VK) : Prop := tyV K T x H ∧ r x [] H Q
def bmO (K : PySem.W.Frag) (T : String) (r : V → List V → Hp → VK → Prop) (t : TA) (σ : L2.St) (x : V) (H : Hp) (Q : VK) : Prop := tyV K T x H ∧ t σ H fun xs H2 => r x xs H2 Q
section
variable {σ : L2.St} {H : Hp} {K : PySem.W.Frag} {to : TE} {Q : VK} {S : L2.St → Hp → Prop} {t : TA} {ts : TGs} {tg : TG} {v : V}
theorem s_gattr {f : Str} (h : to σ H fun x H1 => sfldO K f v x H1 fun H2 => S σ H2) : gAttr K to f v σ H S := h
theorem s_gtup {n : Nat} {a : Addr} {xs : List V} (h : SqT K H a xs) (l : xs.length = n) (q : ts xs σ H S) : gTup K n ts (.ref a) σ H S := ⟨a, xs, rfl, h, l, q⟩
theorem s_gcons {r : List V} (h : tg v σ H fun σ' H' => ts r σ' H' S) : gCons tg ts (v :: r) σ H S := ⟨v, r, rfl, h⟩
theorem s_gnil (h : S σ H) : gNil [] σ H S := ⟨rfl, h⟩
theorem s_bm0 {T : String} {r : V → List V → Hp → VK → Prop} (h : to σ H fun x H1 => bm0O K T r x H1 Q) : tBM0 K T r to σ H Q := h
theorem s_bm {T : String} {r : V → List V → Hp → VK → Prop} (h : to σ H fun x H1 => bmO K T r t σ x H1 Q) : tBM K T r to t σ H Q := h
theorem s_bmL {r : V → List V → Hp → VK → Prop} {l : Addr} {xs : List V} (h : SqL K H l xs) (q : t σ H fun xs H2 => r (.ref l) xs H2 Q) : bmO K "list" r t σ (.ref l) H Q := ⟨.inl ⟨rfl, _, h⟩, q⟩
theorem s_bmT {T : String} {r : V → List V → Hp → VK → Prop} {a : Addr} (h : ∃ o, K.lookup a = some o ∧ o.cls = .type "tuple" ∧ o.dict = none) (e : T = "tuple") (q : t σ H fun xs H2 => r (.ref a) xs H2 Q) : bmO K T r t σ (.ref a) H Q := ⟨.inr (.inl ⟨e, h⟩), q⟩
theorem s_bmS {r : V → List V → Hp → VK → Prop} {z : Str} (q : t σ H fun xs H2 => r (.str z) xs H2 Q) : bmO K "str" r t σ (.str z) H Q := ⟨rfl, q⟩
theorem s_methO {C a dx : Addr} {m : Str} {sp : Sp} {E : XK} {fs : List (Str × V)} (h : H a = some (.ins C dx fs)) (l : fs.lookup m = none) (q : t σ H fun vs H2 => sp (.ref a :: (vs ++ [])) H2 Q E) : methO C m sp E t σ (.ref a) H Q := ⟨a, dx, fs, rfl, h, l, q⟩
theorem s_propO {C a dx : Addr} {sp : Sp} {E : XK} {fs : List (Str × V)} (h : H a = some (.ins C dx fs)) (q : sp ([.ref a] ++ []) H Q E) : propO C sp E (.ref a) H Q := ⟨a, dx, fs, rfl, h, q⟩
theorem pf_set {f : Str} {fs fs' : List (Str × V)} (i : Nat) (h : putF f v fs = fs.set i (f, v)) (e : fs.set i (f, v) = fs') : putF f v fs = fs' := h.trans e
theorem pf_new {f : Str} {fs fs' : List (Str × V)} (h : putF f v fs = fs ++ [(f, v)]) (e : fs ++ [(f, v)] = fs') : putF f v fs = fs' := h.trans e
end
/-! ### what is done to the ledger -/
section
variable {A : List Addr} {H0 H : Hp} {L L' : List Cell} {Q : VK} {P : Hp → Prop} {v : V}
theorem h_new {o : HO} {n : Nat} (S : SH A H0 H L) (c : n ≤ sizeLine) (h : ∀ p H', SH A H0 H' ((p, o) :: L) → H p = none → Q (.ref p) H') : newO o n H Q := ⟨c, fun p hp => h p _ (S.new o hp) hp⟩
theorem h_fld {K : PySem.W.Frag} {a C dx : Addr} {fs : List (Str × V)} {f : Str} (S : SH A H0 H L) (h1 : H a = some (.ins C dx fs)) (cl : Cls K C) (na : NoAttr K C f) (e : fs.lookup f = some v) (h : Q v H) : fldO K f (.ref a) H Q := ⟨a, C, dx, fs, v, rfl, h1, cl, na, e, h⟩
theorem h_sfld {i : Nat} {K : PySem.W.Frag} {a C dx : Addr} {fs fs' : List (Str × V)} {f : Str} (S : SH A H0 H L) (h1 : L[i]? = some (a, .ins C dx fs)) (cl : Cls K C) (na : NoAttr K C f) (l : fs.length < 1000) (e : putF f v fs = fs') (eL : L.set i (a, .ins C dx fs') = L')
    (h : ∀ H', SH A H0 H' L' → P H') : sfldO K f v (.ref a) H P := ⟨a, C, dx, fs, rfl, S.get i h1, cl, na, l, by rw [e]; exact h _ (eL ▸ S.set i h1 rfl _)⟩
theorem h_upd {i : Nat} {a : Addr} {o o' : HO} (S : SH A H0 H L) (e : L[i]? = some (a, o)) (im : Imm o = false) (eL : L.set i (a, o') = L') (h : ∀ H', SH A H0 H' L' → P H') : P (upd H a o') := h _ (eL ▸ S.set i e im o')
theorem h_setL {i : Nat} {a : Addr} {xs ys : List V} {k : Int} {j : Nat} (S : SH A H0 H L) (e : L[i]? = some (a, .lst xs)) (ej : ixN xs.length k = some j) (ey : xs.set j v = ys) (eL : L.set i (a, .lst ys) = L')
    (h : ∀ H', SH A H0 H' L' → P H') : rSetL (.ref a) (.int k) v H P := ⟨a, xs, k, j, rfl, rfl, S.get i e, ej, by rw [ey]; exact h _ (eL ▸ S.set i e rfl _)⟩
theorem h_append {i : Nat} {a : Addr} {xs ys : List V} (S : SH A H0 H L) (e : L[i]? = some (a, .lst xs)) (c : xs.length < sizeLine) (ey : xs ++ [v] = ys) (eL : L.set i (a, .lst ys) = L')
    (h : ∀ H', SH A H0 H' L' → Q .non H') : rAppend (.ref a) [v] H Q := ⟨a, xs, v, rfl, rfl, S.get i e, c, by rw [ey]; exact h _ (eL ▸ S.set i e rfl _)⟩
theorem h_pop {i : Nat} {K : PySem.W.Frag} {a : Addr} {xs ys : List V} (S : SH A H0 H L) (e : L[i]? = some (a, .lst xs)) (ev : xs[xs.length - 1]? = some v) (ey : xs.dropLast = ys) (eL : L.set i (a, .lst ys) = L')
    (h : ∀ H', SH A H0 H' L' → Q v H') : bm0O K "list" rPop (.ref a) H Q := ⟨.inl ⟨rfl, _, SqL.of (S.get i e)⟩, a, xs, v, rfl, rfl, S.get i e, ev, by rw [ey]; exact h _ (eL ▸ S.set i e rfl _)⟩
theorem h_make {C : Addr} {sp : Sp} {E : XK} {vs : List V} (S : SH A H0 H L) (h : ∀ x dx H1, SH A H0 H1 ((x, .ins C dx []) :: L) → sp (.ref x :: (vs ++ [])) H1 (fun v H2 => v = .non ∧ Q (.ref x) H2) E) : makeO C sp E vs H Q := fun x dx hx hd ne => by
  have S1 := S.new (.own x) hd
  have S2 := S1.new (p := x) (.ins C dx []) (by rw [upd_ne (Ne.symm ne)]; exact hx)
  exact h x dx _ (S2.sub (List.Sublist.cons_cons _ (List.sublist_cons_self _ _)))
theorem atI_lit {xs : List V} {i : Int} {w : V} (k : Nat) (e : i = (k : Int)) (h : xs[k]? = some w) : atI xs i = some w := by
  subst e
  exact atI_nat h
theorem last_snoc (l : List V) (v : V) : (l ++ [v])[(l ++ [v]).length - 1]? = some v := by simp
theorem ixN_in {n : Nat} {i : Int} (h0 : 0 ≤ i) (h1 : i < n) : ixN n i = some i.toNat := by
  unfold ixN
  rw [if_pos h0, if_pos h1]
theorem ixN_lit {n : Nat} {i : Int} (k : Nat) (e : i = (k : Int)) (h : k < n) : ixN n i = some k := Hsh.un (by simp (disch := k_dflt (
  refine Hsh.up ?_
  subst e
  rw [ixN_in (by omega) (by omega)]
  rfl
  )) only [↓Hsh.on])
end
/-! ### loops -/
def loopI (J : It) (g : TG) (tb : TS) (D : Ends) (σ : L2.St) (H : Hp) : Prop := ∃ W : Nat → Nat → L2.St → Hp → Prop, (∃ m, W 0 m σ H) ∧ ∀ i m σ H, W i m σ H →
  (J.stop i H ∧ D.nx σ H) ∨ (J.go i H ∧ ∃ N : L2.St → Hp → Prop, (∀ σ' H', N σ' H' → ∃ m', m' < m ∧ W (i + 1) m' σ' H') ∧ ∀ x H', J.yld i H x H' → g x σ H' fun σ2 H2 => tb { D with nx := N, ct := N, bk := D.nx } σ2 H2)
def forR1 (vs : List V) (g : TG) (tb : TS) (D : Ends) (σ : L2.St) (H : Hp) : Prop := ∃ j : Int, vs = [.int j] ∧ -(2 ^ 62) ≤ j ∧ j < 2 ^ 62 ∧ loopI (Itr 0 j.toNat) g tb D σ H
def forR2 (vs : List V) (g : TG) (tb : TS) (D : Ends) (σ : L2.St) (H : Hp) : Prop := ∃ i j : Int, vs = [.int i, .int j] ∧ (-(2 ^ 62) ≤ i ∧ i < 2 ^ 62 ∧ -(2 ^ 62) ≤ j ∧ j < 2 ^ 62) ∧ loopI (Itr i (j - i).toNat) g tb D σ H
def forL (K : PySem.W.Frag) (v : V) (g : TG) (tb : TS) (D : Ends) (σ : L2.St) (H : Hp) : Prop := ∃ a, v = .ref a ∧ (∃ xs, SqL K H a xs) ∧ loopI (Itl K a) g tb D σ H
def forT (K : PySem.W.Frag) (v : V) (g : TG) (tb : TS) (D : Ends) (σ : L2.St) (H : Hp) : Prop := ∃ a, v = .ref a ∧ (∃ xs, SqT K H a xs) ∧ loopI (Itt K a) g tb D σ H
section
variable {σ : L2.St} {H : Hp} {K : PySem.W.Frag} {g : TG} {tb : TS} {ta : TA} {te : TE} {D : Ends} {n b c : L2.St → Hp → Prop} {r : VK}
theorem s_forR1 (h : ta σ H fun vs H1 => forR1 vs g tb D σ H1) : tFor (iRng1 ta) g tb D σ H := h
theorem s_forR2 (h : ta σ H fun vs H1 => forR2 vs g tb D σ H1) : tFor (iRng2 ta) g tb D σ H := h
theorem s_forL (h : te σ H fun v H1 => forL K v g tb D σ H1) : tFor (iList K te) g tb D σ H := h
theorem s_forT (h : te σ H fun v H1 => forT K v g tb D σ H1) : tFor (iTup K te) g tb D σ H := h
/-- for i in range(j), an invariant over the turn -/
theorem u_forR1 {j : Int} (Pv : Nat → L2.St → Hp → Prop) (lo : -(2 ^ 62) ≤ j) (hi : j < 2 ^ 62) (h0 : Pv 0 σ H)
    (hs : ∀ (i : Nat) σ H, (i : Int) < j → Pv i σ H → g (.int i) σ H fun σ2 H2 => tb ⟨Pv (i + 1), r, n, Pv (i + 1)⟩ σ2 H2) (hd : ∀ σ H, Pv j.toNat σ H → n σ H) : forR1 [.int j] g tb ⟨n, r, b, c⟩ σ H := Hsh.un (by simp (disch := k_dflt (
  refine Hsh.up ?_
  refine ⟨j, rfl, lo, hi, ?_⟩
  refine for_range Pv h0 (fun i σ H hi p => ?_) hd
  rw [show (0 : Int) + (i : Int) = (i : Int) by omega]
  exact hs i σ H (by omega) p
  )) only [↓Hsh.on])
theorem u_forR2 {l j : Int} (Pv : Nat → L2.St → Hp → Prop) (hb : -(2 ^ 62) ≤ l ∧ l < 2 ^ 62 ∧ -(2 ^ 62) ≤ j ∧ j < 2 ^ 62) (h0 : Pv 0 σ H)
    (hs : ∀ (i : Nat) σ H, l + (i : Int) < j → Pv i σ H → g (.int (l + i)) σ H fun σ2 H2 => tb ⟨Pv (i + 1), r, n, Pv (i + 1)⟩ σ2 H2) (hd : ∀ σ H, Pv (j - l).toNat σ H → n σ H) : forR2 [.int l, .int j] g tb ⟨n, r, b, c⟩ σ H := Hsh.un (by simp (disch := k_dflt (
  refine Hsh.up ?_
  refine ⟨l, j, rfl, hb, ?_⟩
  refine for_range Pv h0 (fun i σ H hi p => ?_) hd
  exact hs i σ H (by omega) p
  )) only [↓Hsh.on])
/-- for x in a list that stays as it is -/
theorem u_forL {a : Addr} {xs : List V} (Pv : Nat → L2.St → Hp → Prop) (h : SqL K H a xs) (h0 : Pv 0 σ H) (hl : ∀ i σ H, i ≤ xs.length → Pv i σ H → SqL K H a xs)
    (hs : ∀ (i : Nat) (x : V) σ H, xs[i]? = some x → Pv i σ H → g x σ H fun σ2 H2 => tb ⟨Pv (i + 1), r, n, Pv (i + 1)⟩ σ2 H2) (hd : ∀ σ H, Pv xs.length σ H → n σ H) : forL K (.ref a) g tb ⟨n, r, b, c⟩ σ H :=
  ⟨a, rfl, ⟨xs, h⟩, for_list Pv h0 hl (fun i x σ H e p => hs i x σ H e p) hd⟩
end
/-! ### comprehensions -/
/-! within a comprehension's block: the fragment said by its name -/
theorem OpR.k {X : Cx} {K : PySem.W.Frag} {f : Value → Value → Sem Value} {r : PySem.W.Frag → R2} (h : OpR X f (r X.K)) (e : X.K = K) : OpR X f (r K) := e ▸ h
theorem IxR.k {X : Cx} {K : PySem.W.Frag} {r : PySem.W.Frag → R2} (h : IxR X (r X.K)) (e : X.K = K) : IxR X (r K) := e ▸ h
theorem SlR.k {X : Cx} {K : PySem.W.Frag} {r : PySem.W.Frag → V → Option Int → Option Int → Hp → VK → Prop} (h : SlR X (r X.K)) (e : X.K = K) : SlR X (r K) := e ▸ h
theorem CallR.k {X : Cx} {K : PySem.W.Frag} {f : Value} {r : PySem.W.Frag → List V → Hp → VK → Prop} (h : CallR X f (r X.K)) (e : X.K = K) : CallR X f (r K) := e ▸ h
theorem PE.k {X : Cx} {K : PySem.W.Frag} {e : Expr} {t : PySem.W.Frag → TE} (h : PE X e (t X.K)) (q : X.K = K) : PE X e (t K) := q ▸ h
def lcR1 (i : Nat) (vs : List V) (te : TE) (σ : L2.St) (H : Hp) (Q : VK) : Prop := ∃ j : Int, vs = [.int j] ∧ -(2 ^ 62) ≤ j ∧ j < 2 ^ 62 ∧ tLc (fun _ H k => k (Itr 0 j.toNat) H) (gName i) tYes te [i] σ H Q
def lcL (K : PySem.W.Frag) (i : Nat) (v : V) (te : TE) (σ : L2.St) (H : Hp) (Q : VK) : Prop := ∃ a, v = .ref a ∧ (∃ xs, SqL K H a xs) ∧ tLc (fun _ H k => k (Itl K a) H) (gName i) tYes te [i] σ H Q
/-- an item is put behind the made ones -/
def lcEnd (D : Addr) (P : Hp → Prop) : VK := fun y H => ∃ acc, H D = some (.lst acc) ∧ acc.length < sizeLine ∧ P (upd H D (.lst (acc ++ [y])))
theorem wipe_one (σ : L2.St) (i : Nat) (x : Option V) : wipe ((wipe σ [i]).set i x) [i] = wipe σ [i] := by
  show ((σ.set i none).set i x).set i none = σ.set i none
  rw [List.set_set, List.set_set]
section
variable {A : List Addr} {H0 H : Hp} {L L' : List Cell} {Q : VK} {P : Hp → Prop} {v : V} {σ : L2.St} {K : PySem.W.Frag} {te : TE} {ta : TA} {tb : TE}
theorem s_lcR1 {n : Str} {i : Nat} (h : ta σ H fun vs H1 => lcR1 i vs te σ H1 Q) : tLc (iRng1 ta) (gName i) tYes te ([(n, i)].map (·.2)) σ H Q := h
theorem s_lcL {n : Str} {i : Nat} (h : tb σ H fun v H1 => lcL K i v te σ H1 Q) : tLc (iList K tb) (gName i) tYes te ([(n, i)].map (·.2)) σ H Q := h
theorem h_lcEnd {i : Nat} {a : Addr} {xs ys : List V} (S : SH A H0 H L) (e : L[i]? = some (a, .lst xs)) (c : xs.length < sizeLine) (ey : xs ++ [v] = ys) (eL : L.set i (a, .lst ys) = L')
    (h : ∀ H', SH A H0 H' L' → P H') : lcEnd a P v H := ⟨xs, S.get i e, c, by rw [ey]; exact h _ (eL ▸ S.set i e rfl _)⟩
/-- a comprehension over a list, any target, any test -/
def lcLG (K : PySem.W.Frag) (vs : List Nat) (g : TG) (tt : TT) (v : V) (te : TE) (σ : L2.St) (H : Hp) (Q : VK) : Prop := ∃ a, v = .ref a ∧ (∃ xs, SqL K H a xs) ∧ tLc (fun _ H k => k (Itl K a) H) g tt te vs σ H Q
theorem s_lcLG {g : TG} {tt : TT} {vs : List Nat} (h : tb σ H fun v H1 => lcLG K vs g tt v te σ H1 Q) : tLc (iList K tb) g tt te vs σ H Q := h
theorem u_lcLG {g : TG} {tt : TT} {vs : List Nat} {a : Addr} {xs : List V} (hS : SH A H0 H L) (Pv : Addr → Nat → Hp → Prop) (h : SqL K H a xs) (h0 : ∀ D H', SH A H0 H' ((D, .lst []) :: L) → Pv D 0 H') (hl : ∀ D k H, k ≤ xs.length → Pv D k H → SqL K H a xs)
    (hs : ∀ D (k : Nat) x H, xs[k]? = some x → Pv D k H → g x (wipe σ vs) H fun σ2 H2 => wipe σ2 vs = wipe σ vs ∧ tt σ2 H2 fun b H3 => if b = true then te σ2 H3 (lcEnd D (Pv D (k + 1))) else Pv D (k + 1) H3) (hd : ∀ D H, Pv D xs.length H → Q (.ref D) H) : lcLG K vs g tt (.ref a) te σ H Q :=
  ⟨a, rfl, ⟨xs, h⟩, fun D hD => lc_list (Pv D) (h0 D _ (hS.new _ hD)) (hl D) (fun k x H hk p => hs D k x H hk p) (fun H p => hd D H p)⟩
theorem s_wipe {σ2 : L2.St} {vs : List Nat} {P : Prop} (e : wipe σ2 vs = wipe σ vs) (h : P) : wipe σ2 vs = wipe σ vs ∧ P := ⟨e, h⟩
theorem s_tYes {P : Bool → Hp → Prop} (h : P true H) : tYes σ H P := h
theorem u_lcR1 {i : Nat} {j : Int} (hS : SH A H0 H L) (Pv : Addr → Nat → Hp → Prop) (lo : -(2 ^ 62) ≤ j) (hi : j < 2 ^ 62) (h0 : ∀ D H', SH A H0 H' ((D, .lst []) :: L) → Pv D 0 H')
    (hs : ∀ D (k : Nat) H, (k : Int) < j → Pv D k H → te (σ.set i (some (.int k))) H (lcEnd D (Pv D (k + 1)))) (hd : ∀ D H, Pv D j.toNat H → Q (.ref D) H) : lcR1 i [.int j] te σ H Q := Hsh.un (by simp (disch := k_dflt (
  refine Hsh.up ?_
  refine ⟨j, rfl, lo, hi, fun D hD => ?_⟩
  refine lc_range (Pv D) (h0 D _ (hS.new _ hD)) (fun k H hk p => ?_) (fun H p => hd D H p)
  rw [show (0 : Int) + (k : Int) = (k : Int) by omega]
  have h := hs D k H (by omega) p
  refine ⟨wipe_one _ _ _, ?_⟩
  show if true = true then te ((σ.set i none).set i _) H (lcEnd D (Pv D (k + 1))) else Pv D (k + 1) H
  rw [if_pos rfl, List.set_set]
  exact h
  )) only [↓Hsh.on])
theorem u_lcL {i : Nat} {a : Addr} {xs : List V} (hS : SH A H0 H L) (Pv : Addr → Nat → Hp → Prop) (h : SqL K H a xs) (h0 : ∀ D H', SH A H0 H' ((D, .lst []) :: L) → Pv D 0 H') (hl : ∀ D k H, k ≤ xs.length → Pv D k H → SqL K H a xs)
    (hs : ∀ D (k : Nat) x H, xs[k]? = some x → Pv D k H → te (σ.set i (some x)) H (lcEnd D (Pv D (k + 1)))) (hd : ∀ D H, Pv D xs.length H → Q (.ref D) H) : lcL K i (.ref a) te σ H Q := Hsh.un (by simp (disch := k_dflt (
  refine Hsh.up ?_
  refine ⟨a, rfl, ⟨xs, h⟩, fun D hD => ?_⟩
  refine lc_list (Pv D) (h0 D _ (hS.new _ hD)) (hl D) (fun k x H hk p => ?_) (fun H p => hd D H p)
  have h := hs D k x H hk p
  refine ⟨wipe_one _ _ _, ?_⟩
  show if true = true then te ((σ.set i none).set i _) H (lcEnd D (Pv D (k + 1))) else Pv D (k + 1) H
  rw [if_pos rfl, List.set_set]
  exact h
  )) only [↓Hsh.on])
end
/-! ### a word between a statement and the rest -/
def cutG (t u : TS) : TS := fun E σ H => ∃ M : L2.St → Hp → Prop, (∀ σ2 H2, M σ2 H2 → u E σ2 H2) ∧ t ⟨M, E.rt, E.bk, E.ct⟩ σ H
theorem pss_cutG {X : Cx} {st : Stmt} {sts : List Stmt} {t u : TS} (a : PS X st t) (b : PSs X sts u) : PSs X (st :: sts) (cutG t u) :=
  ⟨fun pins s σ H E J ⟨M, hu, ht⟩ => wpAny_execs_cons (thn (a.run pins s σ H ⟨M, E.rt, E.bk, E.ct⟩ J ht) fun f s1 q => by
    cases f with
    | next => exact let ⟨σ2, H2, J2, z⟩ := q; b.run pins s1 σ2 H2 E J2 (hu σ2 H2 z)
    | ret _ => exact q
    | brk => exact q
    | cont => exact q)⟩
theorem s_cutG {t u : TS} {n b c : L2.St → Hp → Prop} {r : VK} {σ : L2.St} {H : Hp} (M : L2.St → Hp → Prop) (h : t ⟨M, r, b, c⟩ σ H) (h2 : ∀ σ2 H2, M σ2 H2 → u ⟨n, r, b, c⟩ σ2 H2) : cutG t u ⟨n, r, b, c⟩ σ H := ⟨M, h2, h⟩
/-! ### tests decided -/
section
variable {A B : Prop}
theorem i_dec {p : Prop} [Decidable p] (h1 : p → A) (h2 : ¬ p → B) : if decide p = true then A else B := Hsh.un (by simp (disch := k_dflt (
  refine Hsh.up ?_
  by_cases h : p
  · rw [if_pos (decide_eq_true h)]; exact h1 h
  · rw [if_neg (by rw [decide_eq_false h]; exact Bool.false_ne_true)]; exact h2 h
  )) only [↓Hsh.on])
theorem i_not {x : Bool} (h : if x = true then B else A) : if (!x) = true then A else B := Hsh.un (by simp (disch := k_dflt (
  refine Hsh.up ?_
  cases x
  · exact h
  · exact h
  )) only [↓Hsh.on])
theorem i_gen {x : Bool} (h1 : x = true → A) (h2 : x = false → B) : if x = true then A else B := Hsh.un (by simp (disch := k_dflt (
  refine Hsh.up ?_
  cases x
  · exact h2 rfl
  · exact h1 rfl
  )) only [↓Hsh.on])
theorem i_pos {x : Bool} (e : x = true) (h : A) : if x = true then A else B := by rw [if_pos e]; exact h
theorem i_neg {x : Bool} (e : x = false) (h : B) : if x = true then A else B := by rw [if_neg (by rw [e]; exact Bool.false_ne_true)]; exact h
end
end Q

set_option Elab.async false
set_option linter.all false
set_option maxRecDepth 100000
set_option maxHeartbeats 4000000
/-! Errors: one rule for every try (several clauses, with or without a name, one class or two, an else), what classes of errors tell. -/
namespace Q
open PySem PySem.Spec PyProof.Rows L2
/-- the test of an except clause: f tells the answer from the error's class -/
def Tst (X : Cx) (t : Expr) (f : Value → Option Bool) : Prop :=
  ∀ (a : Addr) (pn : List (Addr × Obj)) (σ : L2.St) (H : Hp) (s : Shared) (cls : Value) (b : Bool) (Q : Bool → Shared → Prop) (E : Value → Shared → Prop),
    Inv (X.suite a pn) [] σ H s → PySem.W.Looks (model X.prog X.w) s.heap (typeOf (.ref a)) cls → f cls = some b →
    (∀ h', (∀ q o, s.heap.get? q = some o → h'.get? q = some o) → Q b { s with heap := h' }) →
    wpAny (model X.prog X.w) (X.A.mark (some (.ref a))) (eval t X.env) (fun c s1 => wpAny (model X.prog X.w) (X.A.mark (some (.ref a))) (excMatches (.ref a) c) Q E s1) E s
theorem ld_names {X : Cx} {x : Str} {c : Value} {np : Pos} {a : Addr} {pn : List (Addr × Obj)} {σ : L2.St} {H : Hp} {s : Shared} {Q : Value → Shared → Prop} {E : Value → Shared → Prop} (hc : Names X x c) (I : Inv (X.suite a pn) [] σ H s) (q : Q c s) :
    wpAny (model X.prog X.w) (X.A.mark (some (.ref a))) (eval (.Name x np) X.env) Q E s := Hsh.un (by simp (disch := k_dflt (
  refine Hsh.up ?_
  obtain ⟨hg, hd, hm | ⟨hm, hv, hn⟩⟩ := hc
  · exact ld_glob (X := X.suite a pn) I hg hm q hd
  · exact ld_blt (X := X.suite a pn) I hg hm hv q hn hd
  )) only [↓Hsh.on])
theorem tst1 {X : Cx} {x : Str} {c : Value} {np : Pos} (hc : Names X x c) : Tst X (.Name x np) (fun cls => PySem.W.exmOne X.K cls c) := by
  intro a pn σ H s cls b Q E I LT e k
  exact ld_names hc I ((PySem.W.exm_one (M := model X.prog X.w) I.kIn LT e).here (k _ fun _ _ z => z))
theorem tst2 {X : Cx} {x y : Str} {c d : Value} {np mp tp : Pos} {kk : Nat} (hc : Names X x c) (hd : Names X y d) : Tst X (.Tuple [.Name x np, .Name y mp] kk tp) (fun cls => PySem.W.exmAny X.K cls [c, d]) := Hsh.un (by simp (disch := k_dflt (
  refine Hsh.up ?_
  intro a pn σ H s cls b Q E I LT e k
  refine wpAny_Tuple ?_
  refine wpAny_items_cons (ld_names hc I ?_)
  refine wpAny_items_cons (ld_names hd I ?_)
  refine wpAny_items_nil ⟨by size_fits, ?_⟩
  have kp : ∀ q o, s.heap.get? q = some o → (s.heap.push { cls := .type "tuple", data := .seq [c, d].toArray }).get? q = some o := fun _ _ z => Heap.get?_push_of_some _ z
  exact (PySem.W.exm_tup2 (PySem.W.Frag.In.keeps I.kIn kp) (LT.keeps kp) (Heap.get?_push_size s.heap rfl) e).here (k _ kp)
  )) only [↓Hsh.on])
abbrev Cl := (Value → Option Bool) × Option Nat × (Addr → Value → Option Addr → TS)
/-- the clauses of a try -/
inductive HdsG (X : Cx) : List ExceptHandler → List Cl → Prop
  | nil : HdsG X [] []
  | one {t : Expr} {f : Value → Option Bool} {ts : Addr → Value → Option Addr → TS} {b₀ : Stmt} {suite : List Stmt} {p : Pos} {hds : List ExceptHandler} {l : List Cl} (ht : Tst X t f)
      (hsu : ∀ (a : Addr) (oe : Obj) (cls : Value) (d : Option Addr) (pn : List (Addr × Obj)), Zc cls d oe → (∃ vs, oe.data = .fields vs) → PSs (X.suite a ((a, oe) :: pn)) (b₀ :: suite) (ts a cls d)) (r : HdsG X hds l) :
      HdsG X (.ExceptHandler (some t) none (b₀ :: suite) p :: hds) ((f, none, ts) :: l)
  | als {t : Expr} {n : Str} {i : Nat} {f : Value → Option Bool} {ts : Addr → Value → Option Addr → TS} {b₀ : Stmt} {suite : List Stmt} {p : Pos} {hds : List ExceptHandler} {l : List Cl} (hi : X.N[i]? = some n) (hln : X.env.kindOf n = some .local) (ht : Tst X t f)
      (hsu : ∀ (a : Addr) (oe : Obj) (cls : Value) (d : Option Addr) (pn : List (Addr × Obj)), Zc cls d oe → (∃ vs, oe.data = .fields vs) → PSs (X.suite a ((a, oe) :: pn)) (b₀ :: suite) (ts a cls d)) (r : HdsG X hds l) :
      HdsG X (.ExceptHandler (some t) (some n) (b₀ :: suite) p :: hds) ((f, some i, ts) :: l)
/-- the ends of a suite: the name of the clause goes -/
def endsG (D : Ends) : Option Nat → Ends
  | none => D
  | some i => { nx := fun σ H => D.nx (σ.set i none) H, rt := D.rt, bk := fun σ H => D.bk (σ.set i none) H, ct := fun σ H => D.ct (σ.set i none) H }
def setG (σ : L2.St) (a : Addr) : Option Nat → L2.St
  | none => σ
  | some i => σ.set i (some (.ref a))
/-- what the clauses wish of an error of the body -/
def wG (Wout : WX) (D : Ends) : List Cl → WX
  | [] => Wout
  | (f, oi, ts) :: r => fun cls d σ H => ∃ b, f cls = some b ∧ (b = true → ∀ a, H a = none → ts a cls d (endsG D oi) (setG σ a oi) H) ∧ (b = false → wG Wout D r cls d σ H)
def tTryG (tb : WX → TS) (Wout : WX) (l : List Cl) (u : TS) : TS := fun D σ H => tb (wG Wout D l) { D with nx := u D } σ H
def tRaiseG (W : WX) (D : Addr) : TS := fun _ σ H => W (.ref D) none σ H
theorem flying_keeps {B : Heap} {l : List Env} {a : Addr} {Z : Obj → Prop} {h h' : Heap} (f : HandSPX.FlyingZ B l a Z h) (k : ∀ q o, h.get? q = some o → h'.get? q = some o) : HandSPX.FlyingZ B l a Z h' := by
  obtain ⟨k1, k2, k3, oe, vs, T, oT, ts, he, hz, hd, h1, hn, ne, hT, hdT, h3⟩ := f
  exact ⟨fun b o e => k b o (k1 b o e), k2, k3.of_keeps fun b o e _ => ⟨o, k b o e, rfl⟩, oe, vs, T, oT, ts, k _ _ he, hz, hd, h1, hn, ne, k _ _ hT, hdT, h3⟩
section
variable {X : Cx} {body orelse : List Stmt} {h₀ : ExceptHandler} {hds : List ExceptHandler} {l : List Cl} {pos : Pos} {tb : WX → TS} {u : TS} {Wout : WX}
theorem ps_tryG (hs : X.stack = X.env :: X.outer) (hf : X.env.frame = some X.env.locals) (hN : X.N.Nodup) (tk : Takes X Wout)
    (hb : ∀ (W : WX) (pn : List (Addr × Obj)) (xe : Value → Shared → Prop), Takes (X.tr pn xe) W → PassesOwn (model X.prog X.w) X.A X.env xe → PSs (X.tr pn xe) body (tb W))
    (hh : HdsG X (h₀ :: hds) l) (ho : PSs X orelse u) : PS X (.Try body (h₀ :: hds) orelse [] pos) (tTryG tb Wout l u) := Hsh.un (by simp (disch := k_dflt (
  refine Hsh.up ?_
  refine ⟨fun pins s σ H D I h => ?_⟩
  have ok := I.ok
  have hfr : X.A.frames = some (X.env :: X.outer) := by rw [ok.frames, hs]
  refine wpAny_Try_except ?_
  have body_ok := (hb (wG Wout D l) (X.pn ++ pins) (fun e s₁ => wpAny (model X.prog X.w) X.A (noteFrame e X.env) (fun _ s₂ => wpAny (model X.prog X.w) X.A (setFlight e none) (fun _ s₃ =>
    wpAny (model X.prog X.w) X.A (handleBy e X.env (h₀ :: hds)) (SP X pins D) X.xe s₃) X.xe s₂) X.xe s₁) (fun v s' xx => ?_) PassesOwn.looking).run [] s σ H { D with nx := u D } (I.toTry _) h
  · refine wpAny_mono body_ok (fun f s1 hsp => ?_) (fun e s1 he => he)
    cases f with
    | next =>
      obtain ⟨σ', H', J', q⟩ := hsp
      exact ho.run pins s1 σ' H' D (J'.ofTry ok) q
    | brk =>
      obtain ⟨σ', H', J', q⟩ := hsp
      exact ⟨σ', H', J'.ofTry ok, q⟩
    | cont =>
      obtain ⟨σ', H', J', q⟩ := hsp
      exact ⟨σ', H', J'.ofTry ok, q⟩
    | ret z =>
      obtain ⟨v, σ', H', J', r, q⟩ := hsp
      exact ⟨v, σ', H', J'.ofTry ok, r, q⟩
  · obtain ⟨a, B, sI, pins', σ', H', cls, d, rfl, J', nb, up, sky, na, os, ag, w⟩ := xx
    have J : Inv X pins σ' H' sI := J'.ofTry ok
    show wpAny (model X.prog X.w) X.A (noteFrame (.ref a) X.env) _ _ _
    refine Sky.land Zc.steady hfr hf (by rw [← hs]; exact sky) fun h3 fl3 up3 => ?_
    -- what the landed error tells at any heap
    have facts : ∀ h, HandSPX.FlyingZ B (X.env :: X.outer) a (Zc cls d) h → s'.heap.UpToSlots h → Inv X pins σ' H' { s' with heap := h } ∧ ∃ oe vs, h.get? a = some oe ∧ Zc cls d oe ∧ oe.data = .fields vs ∧ Inv (X.suite a ((a, oe) :: (X.pn ++ pins))) [] σ' H' { s' with heap := h } := fun h fl uph => by
      have Jh : Inv X pins σ' H' { s' with heap := h } := J.landed nb fl.1 (up.trans uph) os ag
      obtain ⟨oe, vs, he, hz, hd⟩ := fl.there
      have nfr : a ∉ frs (X.env :: X.outer) := fun hm => by
        obtain ⟨_, o', e', hnf⟩ := fl.2.2.1.mem hm
        rw [he] at e'
        cases e'
        exact hnf _ hd
      have nL : a ≠ X.env.locals := fun z => nfr (List.mem_filterMap.mpr ⟨X.env, List.mem_cons_self, by rw [hf, z]⟩)
      have nF : a ∉ X.fs := fun hm => by
        obtain ⟨e, he, q⟩ := List.mem_filterMap.mp hm
        exact nfr (List.mem_filterMap.mpr ⟨e, List.mem_cons_of_mem _ he, q⟩)
      exact ⟨Jh, oe, vs, he, hz, hd, Jh.suite he hd na nL nF⟩
    have looks : ∀ {h : Heap} {oe : Obj}, h.get? a = some oe → Zc cls d oe → PySem.W.Looks (model X.prog X.w) h (typeOf (.ref a)) cls := fun {h oe} he hz A Q E s k q => wpAny_typeOf_ref (k _ _ he) (by rw [hz.1]; exact q)
    have go : ∀ {hds' : List ExceptHandler} {l' : List Cl}, HdsG X hds' l' → wG Wout D l' cls d σ' H' → ∀ h, HandSPX.FlyingZ B (X.env :: X.outer) a (Zc cls d) h → s'.heap.UpToSlots h →
        wpAny (model X.prog X.w) X.A (handleBy (.ref a) X.env hds') (SP X pins D) X.xe { s' with heap := h } := by
      intro hds' l' hk
      induction hk with
      | nil =>
        intro w h fl uph
        refine wpAny_handleBy_nil ?_
        obtain ⟨_, _, _, oe, vs, T, oT, ts', he, hz, hd, h1, _⟩ := id fl
        unfold PySem.passOn
        refine wpAny_bind (wpAny_field he hd h1 ?_)
        rw [if_neg (show ¬ ((Value.ref T == Value.none) = true) from by simp)]
        have fin : wpAny (model X.prog X.w) X.A (setFlight (.ref a) X.env.frame) (fun _ s4 => wpAny (model X.prog X.w) X.A (throw (.ref a) : Sem Flow) (SP X pins D) X.xe s4) X.xe { s' with heap := h } := by
          rw [hf]
          refine HandSPX.setFlight_upZ fl fun h4 hh4 up4 => wpAny_throw (tk _ _ ?_)
          exact ⟨a, B, sI, pins, σ', H', cls, d, rfl, J, nb, (up.trans uph).trans up4, .inr (.inr (by rw [hs]; exact hh4)), na, os, ag, w⟩
        first
          | exact wpAny_bind (wpAny_pure (wpAny_bind fin))
          | exact wpAny_bind fin
      | @one t f ts b₀ suite p hds2 l2 ht hsu r ih =>
        intro w h fl uph
        obtain ⟨b, hb1, hyes, hno⟩ := w
        obtain ⟨_, oe, vs, he, hz, hd, S⟩ := facts h fl uph
        refine wpAny_handleBy_cons (codeAny_handlers_test (ht a _ σ' H' _ cls b _ _ S (looks he hz) hb1 fun h5 k5 => ?_)) (by intro q; cases q)
        have fl5 := flying_keeps fl k5
        have up5 := uph.trans (Heap.UpToSlots.of_keeps k5)
        cases b with
        | true =>
          refine codeAny_handlers_suite ?_
          refine HandSPX.lands_againZ fl5 fun h4 fl4 up4 => ?_
          obtain ⟨_, oe4, vs4, he4, hz4, hd4, S4⟩ := facts h4 fl4 (up5.trans up4)
          refine wpAny_mono ((hsu a oe4 cls d (X.pn ++ pins) hz4 ⟨_, hd4⟩).run [] _ _ H' _ S4 (hyes rfl a na)) (fun f s6 hsp => ?_) (fun _ _ z => False.elim z)
          cases f with
          | next =>
            obtain ⟨σ6, H6, S6, q6⟩ := hsp
            exact ⟨_, _, S6.unsuite ok, q6⟩
          | brk =>
            obtain ⟨σ6, H6, S6, q6⟩ := hsp
            exact ⟨_, _, S6.unsuite ok, q6⟩
          | cont =>
            obtain ⟨σ6, H6, S6, q6⟩ := hsp
            exact ⟨_, _, S6.unsuite ok, q6⟩
          | ret z =>
            obtain ⟨v6, σ6, H6, S6, r6, q6⟩ := hsp
            exact ⟨_, _, _, S6.unsuite ok, r6, q6⟩
        | false => exact ih (hno rfl) h5 fl5 up5
      | @als t n i f ts b₀ suite p hds2 l2 hi hln ht hsu r ih =>
        intro w h fl uph
        obtain ⟨b, hb1, hyes, hno⟩ := w
        obtain ⟨_, oe, vs, he, hz, hd, S⟩ := facts h fl uph
        refine wpAny_handleBy_cons (codeAny_handlers_test (ht a _ σ' H' _ cls b _ _ S (looks he hz) hb1 fun h5 k5 => ?_)) (by intro q; cases q)
        have fl5 := flying_keeps fl k5
        have up5 := uph.trans (Heap.UpToSlots.of_keeps k5)
        cases b with
        | true =>
          refine codeAny_handlers_suite_as ?_
          refine HandSPX.lands_againZ fl5 fun h4 fl4 up4 => ?_
          obtain ⟨_, oe4, vs4, he4, hz4, hd4, S4⟩ := facts h4 fl4 (up5.trans up4)
          refine store_ok (X := X.suite a ((a, oe4) :: (X.pn ++ pins))) (v := .ref a) S4 hN hi (.inl hln) rfl (fun s5 S5 => ?_) (.inr hln)
          refine wpAny_mono ((hsu a oe4 cls d (X.pn ++ pins) hz4 ⟨_, hd4⟩).run [] s5 _ H' _ S5 (hyes rfl a na)) (fun f s6 hsp => ?_) (fun _ _ z => False.elim z)
          have gone : ∀ {σ6 : L2.St} {H6 : Hp} {Q : Shared → Prop}, Inv (X.suite a ((a, oe4) :: (X.pn ++ pins))) [] σ6 H6 s6 → (∀ s7, Inv X pins (σ6.set i none) H6 s7 → Q s7) →
              wpAny (model X.prog X.w) X.A (do bindName X.env n .none; unbindBehindTheSuite X.env n p) (fun _ s7 => Q s7) X.xe s6 := fun {σ6 H6 Q} S6 hq => gone_ok (S6.unsuite ok) hN hi hln hq
          cases f with
          | next =>
            obtain ⟨σ6, H6, S6, q6⟩ := hsp
            exact gone S6 fun s7 J7 => ⟨_, _, J7, q6⟩
          | brk =>
            obtain ⟨σ6, H6, S6, q6⟩ := hsp
            exact gone S6 fun s7 J7 => ⟨_, _, J7, q6⟩
          | cont =>
            obtain ⟨σ6, H6, S6, q6⟩ := hsp
            exact gone S6 fun s7 J7 => ⟨_, _, J7, q6⟩
          | ret z =>
            obtain ⟨v6, σ6, H6, S6, r6, q6⟩ := hsp
            exact gone S6 fun s7 J7 => ⟨_, _, _, J7, r6, q6⟩
        | false => exact ih (hno rfl) h5 fl5 up5
    exact go hh w h3 fl3 up3
  )) only [↓Hsh.on])
end
theorem eqV_str (a b : Str) : eqV (.str a) (.str b) = decide (a = b) := by
  show (a == b) = _
  by_cases h : a = b <;> simp [h]
theorem inV_strs (x : Str) (l : List Str) : inV (.str x) (l.map V.str) = decide (x ∈ l) := Hsh.un (by simp (disch := k_dflt (
  refine Hsh.up ?_
  unfold inV
  rw [List.any_map]
  induction l with
  | nil => simp
  | cons a l ih =>
    rw [List.any_cons, ih]
    show (eqV (.str a) (.str x) || _) = _
    rw [eqV_str]
    by_cases h : a = x <;> by_cases h2 : x ∈ l <;> simp [h, h2, eq_comm] <;> exact fun z => h z.symm
  )) only [↓Hsh.on])
theorem q_dec {p : Prop} [Decidable p] {Q : VK} {H : Hp} (h : p) (k : Q (.bl true) H) : Q (.bl (decide p)) H := by
  rw [decide_eq_true h]
  exact k
theorem s_eqD {K : PySem.W.Frag} {H : Hp} {Q : VK} {p q : Addr} {d e : PyData} {b : Bool} (h1 : Dp K H (.ref p) d) (h2 : Dp K H (.ref q) e) (s1 : SeqAt.shaped d = true) (s2 : SeqAt.shaped e = true) (hb : PyData.eqv d e = b) (h : Q (.bl b) H) : rEqX K (.ref p) (.ref q) H Q :=
  .inr ⟨d, e, h1, h2, s1, s2, by rw [hb]; exact h⟩
theorem s_neD {K : PySem.W.Frag} {H : Hp} {Q : VK} {p q : Addr} {d e : PyData} {b : Bool} (h1 : Dp K H (.ref p) d) (h2 : Dp K H (.ref q) e) (s1 : SeqAt.shaped d = true) (s2 : SeqAt.shaped e = true) (hb : PyData.eqv d e = b) (h : Q (.bl (!b)) H) : rNeX K (.ref p) (.ref q) H Q :=
  .inr ⟨d, e, h1, h2, s1, s2, by rw [hb]; exact h⟩
/-- a number out of a list of numbers -/
theorem toI_bnd (lo hi : Int) {xs : List V} {i : Int} (h : (xs.all fun v => decide (lo ≤ toI v) && decide (toI v ≤ hi)) = true) (h0 : 0 ≤ i) (h1 : i < xs.length) : lo ≤ toI (xs.getD i.toNat .non) ∧ toI (xs.getD i.toNat .non) ≤ hi := Hsh.un (by simp (disch := k_dflt (
  refine Hsh.up ?_
  have hm : xs.getD i.toNat .non ∈ xs := by
    rw [List.getD_eq_getElem?_getD, List.getElem?_eq_getElem (by omega)]
    exact List.getElem_mem _
  have := List.all_eq_true.mp h _ hm
  simpa using this
  )) only [↓Hsh.on])
theorem SH.call2 {A : List Addr} {H0 H H' : Hp} {L : List Cell} {a b : Addr} {o u o' u' : HO} (S : SH A H0 H L) (i j : Nat) (e : L[i]? = some (a, o)) (e2 : L[j]? = some (b, u)) (im : Imm o = false) (im2 : Imm u = false) (k : Keep [a, b] H H') (h : H' a = some o') (h2 : H' b = some u') :
    SH A H0 H' ((L.set i (a, o')).set j (b, u')) := Hsh.un (by simp (disch := k_dflt (
  refine Hsh.up ?_
  have ha := S.get i e
  have hb := S.get j e2
  have rest : ∀ c m, (L.set i (a, o'))[m]? = some c → m ≠ j → c = (a, o') ∨ ∃ m, L[m]? = some c ∧ m ≠ i ∧ m ≠ j := fun c m q nj => by
    by_cases q2 : i = m
    · subst q2
      left
      obtain ⟨hi, _⟩ := List.getElem?_eq_some_iff.mp e
      rw [List.getElem?_set, if_pos rfl, if_pos hi] at q
      exact (Option.some.inj q).symm
    · rw [List.getElem?_set_ne q2] at q
      exact .inr ⟨m, q, Ne.symm q2, nj⟩
  have key : ((L.set i (a, o')).set j (b, u')).map (·.1) = L.map (·.1) := by
    by_cases q : j = i
    · subst q
      rw [e] at e2
      cases e2
      rw [List.set_set, map_set_key e]
    · rw [map_set_key (o := u) (by rw [List.getElem?_set_ne (Ne.symm q)]; exact e2), map_set_key e]
  refine ⟨fun c hc => ?_, by rw [key]; exact S.nd, ⟨fun d v q z => ?_, fun d q => S.kp.d d (k.d d q)⟩, fun c hc => ?_⟩
  · rcases mem_set_cell hc with rfl | ⟨m, nm, em⟩
    · exact h2
    · rcases rest c m em nm with rfl | ⟨m, q, ni, nj⟩
      · exact h
      · refine k.k _ _ (S.hs c (List.mem_of_getElem? q)) (.inl fun z => ?_)
        rcases List.mem_cons.mp z with z | z
        · exact nodup_key S.nd e q ni z
        · exact nodup_key S.nd e2 q nj (List.mem_singleton.mp z)
  · have h1 := S.kp.k d v q z
    refine k.k d v h1 ?_
    rcases z with z | z
    · by_cases da : d = a
      · exfalso
        subst da
        rcases S.ow _ (List.mem_of_getElem? e) with w | w
        · exact z w
        · rw [q] at w
          cases w
      · by_cases db : d = b
        · exfalso
          subst db
          rcases S.ow _ (List.mem_of_getElem? e2) with w | w
          · exact z w
          · rw [q] at w
            cases w
        · exact .inl (by simp [da, db])
    · exact .inr z
  · rcases mem_set_cell hc with rfl | ⟨m, nm, em⟩
    · exact S.ow (b, u) (List.mem_of_getElem? e2)
    · rcases rest c m em nm with rfl | ⟨m, q, ni, nj⟩
      · exact S.ow (a, o) (List.mem_of_getElem? e)
      · exact S.ow c (List.mem_of_getElem? q)
  )) only [↓Hsh.on])
theorem h_pop0 {i : Nat} {A : List Addr} {H0 H : Hp} {L : List Cell} {Q : VK} {a : Addr} {ns : List Int} (S : SH A H0 H L) (e : L[i]? = some (a, .lst (ns.map V.int))) (h0 : 0 < (ns.map V.int).length)
    (h : ∀ n ms H', ns = n :: ms → SH A H0 H' (L.set i (a, .lst (ms.map V.int))) → Q (.int n) H') : rPopAt (.ref a) [.int 0] H Q := Hsh.un (by simp (disch := k_dflt (
  refine Hsh.up ?_
  cases ns with
  | nil => exact absurd h0 (by decide)
  | cons n ms =>
    refine ⟨a, _, 0, 0, .int n, rfl, rfl, S.get i e, by decide, by decide, ?_, rfl, h n ms _ rfl (S.set i e rfl _)⟩
    unfold seqIndex?
    simp
  )) only [↓Hsh.on])
/-! ### what classes of errors tell -/
/-- all that is asked of a class of errors without own __init__ -/
structure ExcF (K : PySem.W.Frag) (D : Addr) : Prop where
  ex : PySem.W.excIn K D He.veBase "ValueError.__new__" = true
  kp : PySem.W.keepIn K (.ref D) = true
  bs : PySem.W.subIn K (.ref D) (.type "BaseException") = some true
  ty : PySem.W.typeIn K (.ref D) = some (.type "type")
theorem excF_ok {K : PySem.W.Frag} {x : Str} (c : (He.Fa.exc x).ok K = true) : ExcF K (He.ga K x) := by
  obtain ⟨h1, h2, h3, h4⟩ := He.exc_ok c
  exact ⟨h1, h2, h3, h4⟩
def excCB (K : PySem.W.Frag) (x : Str) : Bool :=
  let D := He.ga K x
  decide (PySem.W.findIn K (.ref D) "__getattribute__" = some (some (.builtin "BaseException.__getattribute__"))) && (decide (PySem.W.findIn K (.ref D) "__getattr__" = some none) &&
    (decide (PySem.W.subIn K (.ref D) (.type "BaseException") = some true) && (PySem.W.hasDictIn K D && (decide (PySem.W.findIn K (.ref D) "__class__" = some (some (.builtin "object.__class__"))) &&
      (decide (PySem.W.specialIn K (.builtin "object.__class__") "__get__" = some (some (.builtin "getset_descriptor.__get__"))) && (decide (PySem.W.takesIn K (.builtin "object.__class__") = some true) &&
        decide (PySem.W.mroIn K D (.type "object") = some true)))))))
theorem excCB_ok {K : PySem.W.Frag} {x : Str} (h : excCB K x = true) : ExcC K (He.ga K x) := Hsh.un (by simp (disch := k_dflt (
  refine Hsh.up ?_
  unfold excCB at h
  simp only [Bool.and_eq_true, decide_eq_true_eq] at h
  obtain ⟨a, b, c, d, e, f, g, i⟩ := h
  exact ⟨a, b, c, d, e, f, g, i⟩
  )) only [↓Hsh.on])
def kitCB (K : PySem.W.Frag) (x y : Str) (b : Bool) : Bool := decide (PySem.W.kitOne K (.ref (He.ga K x)) (.ref (He.ga K y)) = some b)
theorem kitCB_ok {K : PySem.W.Frag} {x y : Str} {b : Bool} (h : kitCB K x y b = true) : PySem.W.kitOne K (.ref (He.ga K x)) (.ref (He.ga K y)) = some b := of_decide_eq_true h
def kitTB (K : PySem.W.Frag) (x : Str) (y : String) (b : Bool) : Bool := decide (PySem.W.kitOne K (.ref (He.ga K x)) (.type y) = some b)
def exmTB (K : PySem.W.Frag) (x : Str) (y : String) (b : Bool) : Bool := decide (PySem.W.exmOne K (.ref (He.ga K x)) (.type y) = some b)
theorem exmTB_ok {K : PySem.W.Frag} {x : Str} {y : String} {b : Bool} (h : exmTB K x y b = true) : PySem.W.exmOne K (.ref (He.ga K x)) (.type y) = some b := of_decide_eq_true h
theorem kitTB_ok {K : PySem.W.Frag} {x : Str} {y : String} {b : Bool} (h : kitTB K x y b = true) : PySem.W.kitOne K (.ref (He.ga K x)) (.type y) = some b := of_decide_eq_true h
theorem kdct_ok {K : PySem.W.Frag} {w : World} {a : Addr} {kvs : List (Str × He.Dv)} (h : ∃ es n, KDict K w a es n) (hv : He.valsB K a kvs = true) : ∀ q ∈ kvs, KDct K w a q.1 (q.2.v K) := fun q hq => by
  obtain ⟨es, n, D⟩ := h
  obtain ⟨u, e, r⟩ := He.valsB_ok hv hq
  exact ⟨es, n, u, D.at_, D.lit, e, r⟩
theorem s_ixD {K : PySem.W.Frag} {w : World} {p : Addr} {z : Str} {v : V} {H : Hp} {Q : VK} (h : KDct K w p z v) (q : Q v H) : rIxD K w (.ref p) (.str z) H Q := ⟨p, z, v, rfl, rfl, h, q⟩
section
variable {X : Cx}
/-- raise C('text') -/
theorem ps_raiseG {W : WX} {x m : Str} {j : Nat} {p p2 pos pos2 : Pos} (hc : X.calm = true) (tk : Takes X W) (F : ExcF X.K (He.ga X.K x)) (hm : X.mg x = some (.ref (He.ga X.K x))) (hg : Gl X x) (hdb : (x == ("__debug__" : Str)) = false := by decide) :
    PS X (.Raise (some (.Call (.Name x p) [.Constant (.str m) j p2] [] pos)) none pos2) (tRaiseG W (He.ga X.K x)) :=
  ps_raise hc tk (pmk_own PySem.F.excBase_ValueError F.ex hm F.kp (raises_own F.bs F.ty) hg hdb)
/-- isinstance in a suite, of the error that it holds -/
def rIsE1 (K : PySem.W.Frag) (cls : Value) (d : Option Addr) (a : Addr) : List V → Hp → VK → Prop := fun xs H Q => ∃ D, cls = .ref D ∧ d = none ∧ ExcC K D ∧ rIsE K D a xs H Q
def rIsinE (K : PySem.W.Frag) (cls : Value) (d : Option Addr) (a : Addr) : List V → Hp → VK → Prop := fun xs H Q => rIsiX K xs H Q ∨ rIsE1 K cls d a xs H Q
theorem x_isE {a : Addr} {oe : Obj} {cls : Value} {d : Option Addr} {pn : List (Addr × Obj)} (hz : Zc cls d oe) (hf : ∃ vs, oe.data = .fields vs) :
    CallR (X.suite a ((a, oe) :: pn)) (.builtin "isinstance") (rIsE1 X.K cls d a) := Hsh.un (by simp (disch := k_dflt (
  refine Hsh.up ?_
  intro pins s σ H xs us Q I r h
  obtain ⟨D, rfl, rfl, C, h⟩ := h
  exact call_isE C hz hf pins s σ H xs us Q I r h
  )) only [↓Hsh.on])
end
theorem cxW {CX : CXT} {P : Program} {w : World} {K : PySem.W.Frag} {mg : Str → Option Value} {base : Heap} {N : List Str} {qual : Str} {scope : Scope} {f : Addr} {cd : Value} {A : Around} {outer : List PySem.Env} {s : Shared} {H : Hp} {E : XK} :
    (cxOf CX P w K mg base N qual scope f cd A outer s H E).nox.w = w := rfl
theorem cxW2 {CX : CXT} {P : Program} {w : World} {K : PySem.W.Frag} {mg : Str → Option Value} {base : Heap} {N : List Str} {qual : Str} {scope : Scope} {f : Addr} {cd : Value} {A : Around} {outer : List PySem.Env} {s : Shared} {H : Hp} {E : XK} :
    (cxOf CX P w K mg base N qual scope f cd A outer s H E).w = w := rfl
theorem x_isinE {X : Cx} {a : Addr} {oe : Obj} {cls : Value} {d : Option Addr} {pn : List (Addr × Obj)} (hz : Zc cls d oe) (hf : ∃ vs, oe.data = .fields vs) :
    CallR (X.suite a ((a, oe) :: pn)) (.builtin "isinstance") (rIsinE X.K cls d a) := CallR.or x_isinstance (x_isE hz hf)
section
variable {K : PySem.W.Frag} {a D C : Addr} {H : Hp} {σ : L2.St} {Q : VK} {b : Bool} {n bk ct : L2.St → Hp → Prop} {r : VK}
theorem s_isE (c : ExcC K D) (e : PySem.W.kitOne K (.ref D) (.ref C) = some b) (h : Q (.bl b) H) : rIsinE K (.ref D) none a [.ref a, .ref C] H Q := .inr ⟨D, rfl, rfl, c, _, _, b, rfl, fun u h => h, e, h⟩
theorem s_isEt {y : String} (c : ExcC K D) (e : PySem.W.kitOne K (.ref D) (.type y) = some b) (h : Q (.bl b) H) : rIsinE K (.ref D) none a [.ref a, .ty y] H Q := .inr ⟨D, rfl, rfl, c, _, _, b, rfl, fun u h => h, e, h⟩
theorem s_isEx {cls : Value} {d : Option Addr} {xs : List V} (h : rIsiX K xs H Q) : rIsinE K cls d a xs H Q := .inl h
theorem s_try {tb : WX → TS} {Wout : WX} {l : List Cl} {u : TS} (h : tb (wG Wout ⟨n, r, bk, ct⟩ l) ⟨u ⟨n, r, bk, ct⟩, r, bk, ct⟩ σ H) : tTryG tb Wout l u ⟨n, r, bk, ct⟩ σ H := h
theorem s_raise {W : WX} {e : Ends} (h : W (.ref D) none σ H) : tRaiseG W D e σ H := h
theorem s_WE {W : WX} {cls : Value} {d : Option Addr} (h : W cls d σ H) : WE W σ cls d H := h
theorem s_wGn {Wout : WX} {e : Ends} {f : Value → Option Bool} {oi : Option Nat} {ts : Addr → Value → Option Addr → TS} {l : List Cl} {cls : Value} {d : Option Addr} (q : f cls = some false) (h : wG Wout e l cls d σ H) : wG Wout e ((f, oi, ts) :: l) cls d σ H := ⟨false, q, (fun z => nomatch z), fun _ => h⟩
theorem s_wGy {Wout : WX} {f : Value → Option Bool} {ts : Addr → Value → Option Addr → TS} {l : List Cl} {cls : Value} {d : Option Addr} (q : f cls = some true) (h : ∀ a, H a = none → ts a cls d ⟨n, r, bk, ct⟩ σ H) :
    wG Wout ⟨n, r, bk, ct⟩ ((f, none, ts) :: l) cls d σ H := ⟨true, q, fun _ => h, (fun z => nomatch z)⟩
theorem s_wGa {Wout : WX} {i : Nat} {f : Value → Option Bool} {ts : Addr → Value → Option Addr → TS} {l : List Cl} {cls : Value} {d : Option Addr} (q : f cls = some true)
    (h : ∀ a, H a = none → ts a cls d ⟨fun σ H => n (σ.set i none) H, r, fun σ H => bk (σ.set i none) H, fun σ H => ct (σ.set i none) H⟩ (σ.set i (some (.ref a))) H) :
    wG Wout ⟨n, r, bk, ct⟩ ((f, some i, ts) :: l) cls d σ H := ⟨true, q, fun _ => h, (fun z => nomatch z)⟩
theorem s_wG0 {Wout : WX} {e : Ends} {cls : Value} {d : Option Addr} (h : Wout cls d σ H) : wG Wout e [] cls d σ H := h
end
/-- a call in a try's body -/
theorem pe_callSG {X : Cx} {CX : CXT} {k : Nat} {ps : List Str} {sp : Sp} {E : L2.St → XK} {x : Str} {p pos : Pos} {e : Expr} {es : List Expr} {t : TA} (F : CallOk X.prog X.w X.K X.mg X.base CX k x ps sp) (hr : Room k X.A) (hg : Gl X x) (hx : ∀ σ, PassesAt CX X σ (E σ))
    (ha : PA X (e :: es) t) (hdb : (x == ("__debug__" : Str)) = false := by decide) (he : starEach (e :: es) X.env = (false, eval e X.env) :: starEach es X.env := by rfl) (hpl : (backTo pos (starEach es X.env)).any (·.1) = false := by rfl) :
    PE X (.Call (.Name x p) (e :: es) [] pos) (tCallS sp E t) := by
  obtain ⟨f, fd, h1, h2, h3, h4⟩ := F.ex
  exact pe_callS h4 hr hg h1 h2 h3 hx ha hdb he hpl
theorem s_callS {σ : L2.St} {H : Hp} {Q : VK} {sp : Sp} {E : L2.St → XK} {tr : TA} (h : tr σ H fun vs H1 => sp (vs ++ []) H1 Q (E σ)) : tCallS sp E tr σ H Q := Hsh.un (by simp (disch := k_dflt (
  refine Hsh.up ?_
  unfold tCallS
  simp only [List.append_nil] at h
  exact h
  )) only [↓Hsh.on])
/-- a module's tuple, by its class -/
def tupDB (K : PySem.W.Frag) (x : Str) : Bool := match K.lookup (He.ga K x) with
  | some o => decide (o.cls = .type "tuple") && o.dict.isNone
  | none => false
theorem tupDB_ok {K : PySem.W.Frag} {x : Str} (h : tupDB K x = true) : ∃ o, K.lookup (He.ga K x) = some o ∧ o.cls = .type "tuple" ∧ o.dict = none := Hsh.un (by simp (disch := k_dflt (
  refine Hsh.up ?_
  unfold tupDB at h
  cases q : K.lookup (He.ga K x) with
  | none => rw [q] at h; cases h
  | some o =>
    rw [q] at h
    simp only [Bool.and_eq_true, decide_eq_true_eq, Option.isNone_iff_eq_none] at h
    exact ⟨o, rfl, h.1, h.2⟩
  )) only [↓Hsh.on])
/-- a text's place in a tuple of texts -/
def rTIx (K : PySem.W.Frag) (x : V) (xs : List V) (H : Hp) (Q : VK) : Prop := ∃ p, ∃ ys : List Str, ∃ z j, x = .ref p ∧ xs = [.str z] ∧ SqT K H p (ys.map V.str) ∧ ys[j]? = some z ∧ (∀ m, m < j → ys[m]? ≠ some z) ∧ Q (.int (j : Nat)) H
theorem xt_index {X : Cx} : MtR X "tuple.index" (rTIx X.K) := mt_tup_index
theorem s_tix {K : PySem.W.Frag} {H : Hp} {Q : VK} {p : Addr} {ys : List Str} {z : Str} {j : Nat} (h : SqT K H p (ys.map V.str)) (e : ys[j]? = some z) (n : ∀ m, m < j → ys[m]? ≠ some z) (q : Q (.int (j : Nat)) H) : rTIx K (.ref p) [.str z] H Q := ⟨p, ys, z, j, rfl, rfl, h, e, n, q⟩
theorem tyT {K : PySem.W.Frag} {H : Hp} {a : Addr} {xs : List V} (h : SqT K H a xs) : TyX K H (.ref a) (.type "tuple") := Hsh.un (by simp (disch := k_dflt (
  refine Hsh.up ?_
  rcases h with (h | ⟨o, h⟩) | ⟨o, its, n, h1, h2, _⟩
  · exact .base (.tup h)
  · exact .fTuple h
  · exact .kTuple h1 h2
  )) only [↓Hsh.on])
theorem tyL {K : PySem.W.Frag} {H : Hp} {a : Addr} {xs : List V} (h : SqL K H a xs) : TyX K H (.ref a) (.type "list") := Hsh.un (by simp (disch := k_dflt (
  refine Hsh.up ?_
  rcases h with (h | ⟨o, h⟩) | ⟨o, its, n, h1, h2, _⟩
  · exact .base (.lst h)
  · exact .base (.frz h)
  · exact .kList h1 h2
  )) only [↓Hsh.on])
theorem SqT_keep {K : PySem.W.Frag} {A : List Addr} {H H' : Hp} {a : Addr} {xs : List V} (h : SqT K H a xs) (k : Keep A H H') : SqT K H' a xs := Hsh.un (by simp (disch := k_dflt (
  refine Hsh.up ?_
  rcases h with (h | ⟨o, h⟩) | h
  · exact .inl (.inl (k.k _ _ h (.inr rfl)))
  · exact .inl (.inr ⟨o, k.k _ _ h (.inr rfl)⟩)
  · exact .inr h
  )) only [↓Hsh.on])
def rSplit : V → List V → Hp → VK → Prop := fun x xs H Q => ∃ a b, x = .str a ∧ xs = [.str b] ∧ (b.length == 0) = false ∧ a.length + 2 ≤ sizeLine ∧ rNewStrs (Txt.split a b) H Q
theorem xt_split {X : Cx} : MtR X "str.split" rSplit := mt_split
theorem s_split {H : Hp} {Q : VK} {a b : Str} {ys : List Str} (h0 : (b.length == 0) = false) (h1 : a.length + 2 ≤ sizeLine) (e : Txt.split a b = ys) (h : newO (.lst (ys.map V.str)) 0 H Q) : rSplit (.str a) [.str b] H Q := ⟨a, b, rfl, rfl, h0, h1, by rw [e]; exact h.2⟩
def rJoin (K : PySem.W.Frag) : V → List V → Hp → VK → Prop := fun x xs H Q => ∃ a p, ∃ ys : List Str, x = .str a ∧ xs = [.ref p] ∧ (SqL K H p (ys.map V.str) ∨ SqT K H p (ys.map V.str)) ∧ (ys.map (·.length)).sum + ys.length * a.length ≤ 16777216 ∧ Q (.str (Txt.join a ys)) H
theorem xt_join {X : Cx} : MtR X "str.join" (rJoin X.K) := mt_join
theorem s_join {K : PySem.W.Frag} {H : Hp} {Q : VK} {a : Str} {p : Addr} {ys : List Str} (h : SqL K H p (ys.map V.str)) (c : (ys.map (·.length)).sum + ys.length * a.length ≤ 16777216) (q : Q (.str (Txt.join a ys)) H) : rJoin K (.str a) [.ref p] H Q := ⟨a, p, ys, rfl, rfl, .inl h, c, q⟩
theorem xl_index {X : Cx} : MtR X "list.index" (rIndex X.K) := mt_index
theorem s_lix {K : PySem.W.Frag} {H : Hp} {Q : VK} {p : Addr} {ys : List Str} {z : Str} {j : Nat} (h : SqL K H p (ys.map V.str)) (e : ys[j]? = some z) (n : ∀ m, m < j → ys[m]? ≠ some z) (q : Q (.int (j : Nat)) H) : rIndex K (.ref p) [.str z] H Q :=
  ⟨p, ys.map V.str, .str z, j, .str z, rfl, rfl, h, rfl, List.all_eq_true.mpr fun v hv => by obtain ⟨x, _, rfl⟩ := List.mem_map.mp hv; rfl, by rw [List.getElem?_map, e]; rfl, by rw [eqV_str]; exact decide_eq_true rfl, fun m z' hm hz => by
    rw [List.getElem?_map] at hz
    obtain ⟨x, hx, rfl⟩ := Option.map_eq_some_iff.mp hz
    rw [eqV_str]
    exact decide_eq_false fun y => n m hm (y ▸ hx), q⟩
theorem s_catA {K : PySem.W.Frag} {H : Hp} {Q : VK} {l b : Addr} {xs zs ys : List V} (h1 : SqT K H l xs) (h2 : SqT K H b zs) (n1 : xs ≠ []) (n2 : zs ≠ []) (c : xs.length + zs.length ≤ sizeLine) (e : xs ++ zs = ys) (h : newO (.tup ys) 0 H Q) : rAddX K (.ref l) (.ref b) H Q :=
  .inr (.inr (.inr ⟨l, b, xs, zs, rfl, rfl, h1, h2, c, fun z => absurd z n1, fun _ z => absurd z n2, fun _ _ p hp => by rw [e]; exact h.2 p hp⟩))
theorem s_catA0 {K : PySem.W.Frag} {H : Hp} {Q : VK} {l b : Addr} {xs : List V} (h1 : SqT K H l xs) (h2 : SqT K H b []) (n1 : xs ≠ []) (c : xs.length ≤ sizeLine) (h : Q (.ref l) H) : rAddX K (.ref l) (.ref b) H Q :=
  .inr (.inr (.inr ⟨l, b, xs, [], rfl, rfl, h1, h2, c, fun z => absurd z n1, fun _ _ => h, fun _ z => absurd rfl z⟩))
end Q
set_option Elab.async false
set_option linter.all false
set_option maxRecDepth 100000
set_option maxHeartbeats 4000000
/-! Properties: the getter's def is told by a hook of its own. -/
namespace Q
open PySem PySem.Spec PyProof.Rows L2
/-- the getter of the property f of the class C -/
def getA (K : PySem.W.Frag) (C f : Str) : Addr := match PySem.W.recIn K (He.ma K (He.ga K C) f) "property" with
  | some (.ref g :: _) => g
  | _ => 0
def getW (K : PySem.W.Frag) (g : Addr) : He.FnW := match K.lookup g with
  | some ⟨_, _, .func fd, _⟩ => some (fd.name, fd.qualname, fd.params, fd.body, fd.scope, fd.globals, fd.closure, fd.builtins)
  | _ => none
def getB (K : PySem.W.Frag) (d : He.DefD) (g : Addr) : Bool := PySem.W.keepIn K (.ref g) && (match K.lookup g with
  | some ⟨_, _, .func fd, _⟩ => PySem.W.codeIn K fd.code d.qual && (He.dflB K fd.defaults (d.dvs K) && He.kwdB K fd.kwdefaults (d.kws K))
  | _ => false)
theorem get_funD {K : PySem.W.Frag} {d : He.DefD} {g : Addr} (e : getW K g = d.val) (c : getB K d g = true) : ∃ fd, FunD K d.name d.qual d.params d.body d.scope (d.dvs K) (d.kws K) g fd := Hsh.un (by simp (disch := k_dflt (
  refine Hsh.up ?_
  obtain ⟨kp, c2⟩ := He.ba c
  unfold getW at e
  cases q : K.lookup g with
  | none => rw [q] at c2; cases c2
  | some o =>
    obtain ⟨oc, od, dt, osl⟩ := o
    rw [q] at c2 e
    cases dt with
    | func fd =>
      obtain ⟨m1, m2, m3, m4, m5, m6, m7, m8, m9, m10, m11, m12, m13, m14, m15⟩ := fd
      have e2 : (some (m1, m2, m3, m4, m5, m6, m7, m15) : He.FnW) = some (d.name, d.qual, d.params, .stmts d.body, d.scope, mainGlobals, [], builtinsNs) := e
      simp only [Option.some.injEq, Prod.mk.injEq] at e2
      obtain ⟨h1, h2, h3, h4, h5, h6, h7, h8⟩ := e2
      subst h1 h2 h3 h4 h5 h6 h7 h8
      obtain ⟨k1, k2⟩ := He.ba (show (PySem.W.codeIn K m13 d.qual && (He.dflB K m8 (d.dvs K) && He.kwdB K m9 (d.kws K))) = true from c2)
      obtain ⟨k3, k4⟩ := He.ba k2
      exact ⟨_, ⟨oc, od, m8, m9, m10, m11, m12, m13, m14, osl, rfl, q, k1, He.dflB_ok k3, He.kwdB_ok k4⟩, kp⟩
    | _ => cases c2
  )) only [↓Hsh.on])
/-- a property: its class, and its getter's def (the def's at_ tells class and name) -/
def prA (K : PySem.W.Frag) (d : He.DefD) : Addr := getA K d.at_.1 (d.at_.2.getD "")
def propB (K : PySem.W.Frag) (C f : Str) : Bool :=
  let p := He.ma K (He.ga K C) f
  decide (PySem.W.findIn K (.ref (He.ga K C)) f = some (some (.ref p))) && (decide (PySem.W.specialIn K (.ref p) "__get__" = some (some (.builtin "property.__get__"))) && (decide (PySem.W.takesIn K (.ref p) = some true) &&
    (match PySem.W.recIn K p "property" with
    | some (.ref _ :: _) => true
    | _ => false)))
theorem propB_ok {K : PySem.W.Frag} {C f : Str} (h : propB K C f = true) : PropOf K (He.ga K C) f (He.ma K (He.ga K C) f) (getA K C f) := Hsh.un (by simp (disch := k_dflt (
  refine Hsh.up ?_
  unfold propB at h
  obtain ⟨h1, h⟩ := He.ba h
  obtain ⟨h2, h⟩ := He.ba h
  obtain ⟨h3, h⟩ := He.ba h
  refine ⟨of_decide_eq_true h1, of_decide_eq_true h2, of_decide_eq_true h3, ?_⟩
  unfold getA
  split at h
  · rename_i g r e
    rw [e]
    exact ⟨r, rfl⟩
  · cases h
  )) only [↓Hsh.on])
structure SaysP (fa : List He.Fa) (fn : List He.DefD) (ts : List He.Tab) (ex : PySem.W.Frag → Bool) (pr : List He.DefD) (w : World) (h : Heap) (K : PySem.W.Frag) : Prop where
  x : He.SaysX fa fn ts [] ex w h K
  p : ∀ d ∈ pr, getW K (prA K d) = d.val ∧ getB K d (prA K d) = true
abbrev AlP : Type := He.AlX × List He.FnW × Bool
def obsP (n : Nat) (fa : List He.Fa) (fn : List He.DefD) (ts : List He.Tab) (ex : PySem.W.Frag → Bool) (pr : List He.DefD) (g : Addr → Option Obj) : AlP :=
  (He.obsX n fa fn ts [] ex g, (pr.map fun d => getW (He.frT g (He.asD g n)) (prA (He.frT g (He.asD g n)) d)), pr.all fun d => getB (He.frT g (He.asD g n)) d (prA (He.frT g (He.asD g n)) d))
def valP (fn : List He.DefD) (ts : List He.Tab) (pr : List He.DefD) (w : World) : AlP := (He.valX fn ts w, pr.map He.DefD.val, true)
theorem map_eq_mem {α β : Type} {f g : α → β} : ∀ {l : List α}, l.map f = l.map g → ∀ x ∈ l, f x = g x
  | [], _, _, h => nomatch h
  | a :: l, e, x, h => by
    rw [List.map_cons, List.map_cons] at e
    obtain ⟨e1, e2⟩ := List.cons.inj e
    rcases List.mem_cons.mp h with rfl | h
    · exact e1
    · exact map_eq_mem e2 x h
theorem saysP_of {n : Nat} {fa : List He.Fa} {fn : List He.DefD} {ts : List He.Tab} {ex : PySem.W.Frag → Bool} {pr : List He.DefD} {w : World} {h : Heap} (e : obsP n fa fn ts ex pr h.get? = valP fn ts pr w) : SaysP fa fn ts ex pr w h (He.frT h.get? (He.asD h.get? n)) := Hsh.un (by simp (disch := k_dflt (
  refine Hsh.up ?_
  have e1 : He.obsX n fa fn ts [] ex h.get? = He.valX fn ts w := congrArg (fun z : AlP => z.1) e
  have e2 := congrArg (fun z : AlP => z.2.1) e
  have e3 : (pr.all fun d => getB (He.frT h.get? (He.asD h.get? n)) d (prA (He.frT h.get? (He.asD h.get? n)) d)) = true := congrArg (fun z : AlP => z.2.2) e
  exact ⟨He.saysX_of e1, fun d hd => ⟨map_eq_mem e2 d hd, List.all_eq_true.mp e3 d hd⟩⟩
  )) only [↓Hsh.on])
def hookP (n : Nat) (fa : List He.Fa) (fn : List He.DefD) (ts : List He.Tab) (ex : PySem.W.Frag → Bool) (pr : List He.DefD) : PySem.W.Hook where
  α := AlP
  obs := fun s => obsP n fa fn ts ex pr s.heap.get?
  val := fun w => valP fn ts pr w
  says := fun w h => ∃ K : PySem.W.Frag, K.In h ∧ SaysP fa fn ts ex pr w h K
  of := fun _ _ e => ⟨_, He.frT_in, saysP_of e⟩
  keeps := fun _ _ _ ⟨K, hK, c⟩ k => ⟨K, PySem.W.Frag.In.keeps hK k, ⟨⟨c.x.t, c.x.more, c.x.hd, c.x.out, fun p hp => k _ _ (c.x.empty p hp)⟩, c.p⟩⟩
theorem obsP_eq {n : Nat} {fa : List He.Fa} {fn : List He.DefD} {ts : List He.Tab} {ex : PySem.W.Frag → Bool} {pr : List He.DefD} {g : Addr → Option Obj} {s : Shared} (h : ∀ a, g a = s.heap.get? a) : obsP n fa fn ts ex pr g = (hookP n fa fn ts ex pr).obs s := by
  have e : g = s.heap.get? := funext h
  rw [e] <;> rfl
theorem SaysP.get {fa : List He.Fa} {fn : List He.DefD} {ts : List He.Tab} {ex : PySem.W.Frag → Bool} {pr : List He.DefD} {w : World} {h : Heap} {K : PySem.W.Frag} (c : SaysP fa fn ts ex pr w h K) (i : Nat) {d : He.DefD} (e : pr[i]? = some d) : ∃ fd, FunD K d.name d.qual d.params d.body d.scope (d.dvs K) (d.kws K) (prA K d) fd :=
  let z := c.p d (List.mem_of_getElem? e)
  get_funD z.1 z.2
/-! ### more words on lists -/
def rInsert : V → List V → Hp → VK → Prop := fun x vs H Q => ∃ (l : Addr) (xs : List V) (i : Int) (y : V), x = .ref l ∧ vs = [.int i, y] ∧ H l = some (.lst xs) ∧ xs.length < sizeLine ∧ 0 ≤ i ∧ i < 2 ^ 63 ∧ Q .non (upd H l (.lst (xs.take i.toNat ++ [y] ++ xs.drop i.toNat)))
theorem xt_insert {X : Cx} : MtR X "list.insert" rInsert := mt_insert
theorem h_insert0 {A : List Addr} {H0 H : Hp} {L L' : List Cell} {Q : VK} {v : V} {i : Nat} {a : Addr} {xs : List V} (S : SH A H0 H L) (e : L[i]? = some (a, .lst xs)) (c : xs.length < sizeLine) (eL : L.set i (a, .lst (v :: xs)) = L')
    (h : ∀ H', SH A H0 H' L' → Q .non H') : rInsert (.ref a) [.int 0, v] H Q := ⟨a, xs, 0, v, rfl, rfl, S.get i e, c, by decide, by decide, h _ (eL ▸ S.set i e rfl _)⟩
/-! ### methods that may raise, in a try's body -/
def plO (X : Cx) (o : Expr) : Sem Bool := do return (← importBound o X.env).getD true
section
variable {X : Cx} {CX : CXT} {k : Nat} {ps : List Str} {sp : Sp} {E : L2.St → XK} {C m : Str} {p pos apos : Pos} {o e : Expr} {es : List Expr} {t : TA} {ta : TE}
theorem pe_methSG {K : PySem.W.Frag} (he : PE X o ta) (F : MethOk X.prog X.w X.K X.mg X.base CX k C m ps sp) (hr : Room k X.A) (hx : ∀ σ, PassesAt CX X σ (E σ)) (hK : X.K = K) (ha : PA X (e :: es) t)
    (ht : eval (.Call (.Attribute o m apos) (e :: es) [] pos) X.env = (do
      let ov ← eval o X.env
      standAt apos.atName
      let (f, first) ← holding [ov] (getMethod ov m (plO X o))
      callWith pos f first (backTo pos (starEach (e :: es) X.env)) (backToKw pos (keywordEach [] X.env))))
    (hst : starEach (e :: es) X.env = (false, eval e X.env) :: starEach es X.env := by rfl) (hpl : (backTo pos (starEach es X.env)).any (·.1) = false := by rfl) :
    PE X (.Call (.Attribute o m apos) (e :: es) [] pos) (fun σ H Q => ta σ H fun x H1 => methO (He.ga K C) m sp (E σ) t σ x H1 Q) := by
  subst hK
  obtain ⟨fd, c, hm, hb, G⟩ := F.ex
  refine ⟨fun pins s σ H Q I h => ?_⟩
  refine PySem.W.methodCall_KW (pl := plO X o) (thn (he.run pins s σ H _ I h) fun u s1 ⟨x, H1, I1, rx, a, dx, fs, ex, ea, l, q⟩ => ?_) ht
  subst ex
  obtain rfl : u = Value.ref a := rx
  refine getmeth_ok I1 ea c hm l ?_
  refine PySem.W.callWith_K (first := [.ref a]) (h₀ := X.base) I.ok.mod.kin hm.kp (thn (ha.run pos pins s1 σ H1 _ I1 q) fun us s2 ⟨vs, H2, I2, r, q2⟩ => ⟨I2.kIn, ?_⟩) hst hpl
  exact run_fnS (us := .ref a :: us) (vs := .ref a :: vs) G hr hb (hx σ) I2 (.cons rfl r) (by have q3 : sp (V.ref a :: (vs ++ [])) H2 Q (E σ) := q2; rw [List.append_nil] at q3; exact q3)
theorem pe_methSG0 {K : PySem.W.Frag} (he : PE X o ta) (F : MethOk X.prog X.w X.K X.mg X.base CX k C m ps sp) (hr : Room k X.A) (hx : ∀ σ, PassesAt CX X σ (E σ)) (hK : X.K = K)
    (ht : eval (.Call (.Attribute o m apos) [] [] pos) X.env = (do
      let ov ← eval o X.env
      standAt apos.atName
      let (f, first) ← holding [ov] (getMethod ov m (plO X o))
      callWith pos f first (backTo pos (starEach [] X.env)) (backToKw pos (keywordEach [] X.env)))) :
    PE X (.Call (.Attribute o m apos) [] [] pos) (fun σ H Q => ta σ H fun x H1 => methO (He.ga K C) m sp (E σ) tNil σ x H1 Q) := Hsh.un (by simp (disch := k_dflt (
  refine Hsh.up ?_
  subst hK
  obtain ⟨fd, c, hm, hb, G⟩ := F.ex
  refine ⟨fun pins s σ H Q I h => ?_⟩
  refine PySem.W.methodCall_KW (pl := plO X o) (thn (he.run pins s σ H _ I h) fun u s1 ⟨x, H1, I1, rx, a, dx, fs, ex, ea, l, q⟩ => ?_) ht
  subst ex
  obtain rfl : u = Value.ref a := rx
  refine getmeth_ok I1 ea c hm l ?_
  exact PySem.W.callWith_K0 (first := [.ref a]) I1.kIn hm.kp (run_fnS (us := [.ref a]) (vs := [.ref a]) G hr hb (hx σ) I1 (.cons rfl .nil) q)
  )) only [↓Hsh.on])
end
theorem Keep.drop {A B : List Addr} {H H' : Hp} (k : Keep A H H') (h : ∀ a ∈ A, a ∉ B → ∃ o, H a = some o ∧ H' a = some o) : Keep B H H' := Hsh.un (by simp (disch := k_dflt (
  refine Hsh.up ?_
  refine ⟨fun b o hb z => ?_, k.d⟩
  by_cases q : b ∈ A
  · by_cases q2 : b ∈ B
    · exact k.k b o hb (.inr (z.resolve_left (fun y => y q2)))
    · obtain ⟨u, h1, h2⟩ := h b q q2
      rw [hb] at h1
      cases h1
      exact h2
  · exact k.k b o hb (.inl q)
  )) only [↓Hsh.on])
theorem SH.call3 {A : List Addr} {H0 H H' : Hp} {L : List Cell} {a b c : Addr} {o u x o' u' x' : HO} (S : SH A H0 H L) (i j k : Nat) (e : L[i]? = some (a, o)) (e2 : L[j]? = some (b, u)) (e3 : L[k]? = some (c, x)) (n1 : k ≠ i) (n2 : k ≠ j) (im : Imm o = false) (im2 : Imm u = false) (im3 : Imm x = false)
    (kp : Keep [a, b, c] H H') (h1 : H' a = some o') (h2 : H' b = some u') (h3 : H' c = some x') : SH A H0 H' (((L.set k (c, x')).set i (a, o')).set j (b, u')) := Hsh.un (by simp (disch := k_dflt (
  refine Hsh.up ?_
  have S1 := S.set k e3 im3 x'
  refine S1.call2 i j (by rw [List.getElem?_set_ne n1]; exact e) (by rw [List.getElem?_set_ne n2]; exact e2) im im2 ⟨fun y v hy z => ?_, fun y hy => ?_⟩ h1 h2
  · by_cases q : y = c
    · subst q
      rw [upd_same] at hy
      cases hy
      exact h3
    · rw [upd_ne q] at hy
      refine kp.k y v hy (z.imp (fun z w => ?_) id)
      rcases List.mem_cons.mp w with w | w
      · exact z (w ▸ List.mem_cons_self)
      · rcases List.mem_cons.mp w with w | w
        · exact z (w ▸ List.mem_cons_of_mem _ List.mem_cons_self)
        · exact q (List.mem_singleton.mp w)
  · by_cases q : y = c
    · subst q
      rw [h3] at hy
      cases hy
    · rw [upd_ne q]
      exact kp.d y hy
  )) only [↓Hsh.on])
/-- the statements of a block within a def's body -/
def blkS : Stmt → Nat → List Stmt
  | .Try b _ o _ _, k => if k = 0 then b else o
  | .If _ b o _, k => if k = 0 then b else o
  | .For _ _ b _ _, _ => b
  | .While _ b _ _, _ => b
  | _, _ => []
def subS (l : List Stmt) : List (Nat × Nat) → List Stmt
  | [] => l
  | q :: r => subS (match l[q.1]? with
    | some s => blkS s q.2
    | none => []) r
theorem keys_set {L : List Cell} {i : Nat} {a : Addr} {o o' : HO} (e : L[i]? = some (a, o)) : ∀ c ∈ L.set i (a, o'), c.1 ∈ L.map (·.1) := fun c hc => by
  rw [← map_set_key (o' := o') e]
  exact List.mem_map_of_mem hc
theorem key_live {A : List Addr} {H0 H : Hp} {L : List Cell} (S : SH A H0 H L) {a : Addr} (h : a ∈ L.map (·.1)) : H a ≠ none := Hsh.un (by simp (disch := k_dflt (
  refine Hsh.up ?_
  obtain ⟨c, hc, e⟩ := List.mem_map.mp h
  rw [← e, S.hs c hc]
  exact fun z => nomatch z
  )) only [↓Hsh.on])
/-- a call that changes two cells and leaves one new -/
theorem SH.call2n {A : List Addr} {H0 H H' : Hp} {L : List Cell} {a b p : Addr} {o u o' u' x : HO} (S : SH A H0 H L) (i j : Nat) (e : L[i]? = some (a, o)) (e2 : L[j]? = some (b, u)) (im : Imm o = false) (im2 : Imm u = false) (k : Keep [a, b] H H') (h : H' a = some o') (h2 : H' b = some u') (n : H p = none) (h3 : H' p = some x) :
    SH A H0 H' ((p, x) :: (L.set i (a, o')).set j (b, u')) := Hsh.un (by simp (disch := k_dflt (
  refine Hsh.up ?_
  refine SH.add S (S.call2 i j e e2 im im2 k h h2) (fun c hc => key_live S ?_) n h3
  have hm : c.1 ∈ ((L.set i (a, o')).set j (b, u')).map (·.1) := List.mem_map_of_mem hc
  by_cases q : i = j
  · subst q
    rw [e] at e2
    cases e2
    rw [List.set_set] at hm
    rwa [map_set_key e] at hm
  · rw [map_set_key (o := u) (by rw [List.getElem?_set_ne q]; exact e2), map_set_key e] at hm
    exact hm
  )) only [↓Hsh.on])
theorem SH.call3n {A : List Addr} {H0 H H' : Hp} {L : List Cell} {a b c p q : Addr} {o u x o' u' x' y z : HO} (S : SH A H0 H L) (i j k : Nat) (e : L[i]? = some (a, o)) (e2 : L[j]? = some (b, u)) (e3 : L[k]? = some (c, x)) (n0 : i ≠ j) (n1 : k ≠ i) (n2 : k ≠ j) (im : Imm o = false) (im2 : Imm u = false) (im3 : Imm x = false)
    (kp : Keep [a, b, c] H H') (h1 : H' a = some o') (h2 : H' b = some u') (h3 : H' c = some x') (np : H p = none) (hp : H' p = some y) (nq : H q = none) (hq : H' q = some z) (pq : p ≠ q) : SH A H0 H' ((p, y) :: (q, z) :: ((L.set k (c, x')).set i (a, o')).set j (b, u')) := Hsh.un (by simp (disch := k_dflt (
  refine Hsh.up ?_
  have S3 := S.call3 i j k e e2 e3 n1 n2 im im2 im3 kp h1 h2 h3
  have hk : ∀ d ∈ ((L.set k (c, x')).set i (a, o')).set j (b, u'), H d.1 ≠ none := fun d hd => key_live S (by
    have hm : d.1 ∈ (((L.set k (c, x')).set i (a, o')).set j (b, u')).map (·.1) := List.mem_map_of_mem hd
    rw [map_set_key (o := u) (by rw [List.getElem?_set_ne n0, List.getElem?_set_ne n2]; exact e2), map_set_key (o := o) (by rw [List.getElem?_set_ne n1]; exact e), map_set_key e3] at hm
    exact hm)
  have S4 := SH.add S S3 hk nq hq
  have S5 := SH.add S S3 hk np hp
  refine ⟨fun d hd => ?_, ?_, S4.kp, fun d hd => ?_⟩
  · rcases List.mem_cons.mp hd with rfl | hd
    · exact hp
    · exact S4.hs d hd
  · rw [List.map_cons, List.nodup_cons]
    refine ⟨fun w => ?_, S4.nd⟩
    rw [List.map_cons] at w
    rcases List.mem_cons.mp w with w | w
    · exact pq w
    · have := S5.nd
      rw [List.map_cons, List.nodup_cons] at this
      exact this.1 w
  · rcases List.mem_cons.mp hd with rfl | hd
    · exact S5.ow _ List.mem_cons_self
    · exact S4.ow d hd
  )) only [↓Hsh.on])
/-- a cell that the block at the start did not hold is new -/
theorem SH.fresh {H H' : Hp} {B L : List Cell} (S : SH (B.map (·.1)) H H' L) {p : Addr} {o : HO} (e : (p, o) ∈ L) (n : ∀ a ∈ B.map (·.1), a ≠ p) : H p = none := (S.ow (p, o) e).resolve_left fun z => n p z rfl
end Q
set_option Elab.async false
set_option linter.all false
set_option maxRecDepth 100000
set_option maxHeartbeats 4000000
/-! Sets of ints: {a, b}, set of a list, sorted of a set. -/
namespace Q
open PySem PySem.Spec PyProof.Rows L2
/-- the object of a set without elements -/
abbrev noneIn (w : World) : Obj := ⟨.type "set", none, .set #[] 0 (.fresh 0 0 (!w.params.followText "set-order")), #[]⟩
section
variable {P : Program} {w : World} {A : Around} {E : Value → Shared → Prop} {s : Shared}
theorem new_set {Q : Value → Shared → Prop} (h : Q (.ref s.heap.objs.size) { s with heap := s.heap.push (noneIn w) }) : wpAny (model P w) A (newSet (.type "set")) Q E s := by
  unfold newSet setsByText
  refine wpAny_bind (wpAny_bind (wpAny_askSetting (wpAny_pure ?_)))
  dsimp only
  simp only [newObj]
  exact wpAny_bind (wpAny_alloc (wpAny_pure h))
/-- one element put in -/
theorem put_int {a : Addr} {S : Int → Bool} {n : Nat} {k : Int} {t : Tok} {Q : Bool → Shared → Prop} (R : SetR w s.heap a S n) (room : n + 1 < scanBound)
    (q : ∀ h' b, Heap.SameBut a s.heap h' → SetR w h' a (fun j => S j || decide (j = k)) (if S k = true then n else n + 1) → Q b { s with heap := h', toks := s.toks + 1 }) : wpAny (model P w) A (setAdd a (.int k t)) Q E s := by
  unfold setAdd
  refine wpAny_holding (wpAny_bind ((intKind P w).pyHash (intKind_is P w k t) ?_))
  exact setR_add_hashed (s := { s with toks := s.toks + 1 }) R room fun h' sb R' => q h' _ sb R'
/-- the display of plain elements: the set is made first -/
theorem disp_set {road : DisplayRoad} {b : Bool} {elts : List (Bool × Sem Value)} {ts : List (Sem Value)} {Q : Value → Shared → Prop} (hc : (road == .constants) = false) (hu : (road == .unsure) = false) (hs : elts.findIdx? (·.1) = none) (hl : elts.length ≤ 30) (hm : elts.map (·.2) = ts)
    (h : wpAny (model P w) A (evalAll ts) (fun vs s' => PySem.W.KdsFill (model P w) A E false s.heap.objs.size Q vs s') E { s with heap := s.heap.push (noneIn w) }) : wpAny (model P w) A (setDisplay road b elts) Q E s := by
  have hn : (if elts.length > 30 then 0 else (elts.findIdx? (·.1)).getD elts.length) = elts.length := by rw [if_neg (by omega), hs] <;> rfl
  unfold setDisplay
  try dsimp only
  rw [if_neg (by rw [hc]; exact Bool.false_ne_true)]
  refine wpAny_bind (new_set ?_)
  dsimp only
  rw [hn, List.take_length, List.drop_length, hm]
  refine wpAny_bind (wpAny_holding (wpAny_bind (wpAny_mono h (fun vs s1 h1 => ?_) fun _ _ x => x)))
  refine wpAny_bind (wpAny_holding (wpAny_bind (wpAny_mono (PySem.W.kds_for (fun x F s2 hx => ?_) vs s1 h1) (fun _ s2 h2 => ?_) fun _ _ x => x)))
  · refine wpAny_bind (wpAny_mono hx (fun _ s3 h3 => ?_) fun _ _ x => x)
    first | exact wpAny_pure ⟨rfl, h3⟩ | exact wpAny_bind (wpAny_pure (wpAny_pure ⟨rfl, h3⟩))
  · have h3 : Q (.ref s.heap.objs.size) s2 := by simpa [PySem.W.KdsFill] using h2
    rw [if_neg (by rw [hu]; exact Bool.false_ne_true)]
    refine wpAny_pure ?_
    rw [List.forIn_nil]
    exact wpAny_pure (wpAny_pure h3)
end
/-- {a, b} of two ints -/
def tSet2 (w : World) (ta tb : TE) : TE := fun σ H Q => ∀ p, H p = none → ta σ (upd H p (SetO w p (fun _ => false) 0)) fun x H1 => tb σ H1 fun y H2 => ∃ i j : Int, x = .int i ∧ y = .int j ∧ H2 p = some (SetO w p (fun _ => false) 0) ∧
  ∀ S n, (∀ k, S k = true ↔ k = i ∨ k = j) → n ≤ 2 → Q (.ref p) (upd H2 p (SetO w p S n))
theorem pe_set2 {X : Cx} {e1 e2 : Expr} {ta tb : TE} {pos : Pos} (h1 : PE X e1 ta) (h2 : PE X e2 tb) (hcd : PySem.W.kdsCode X.K X.env.code = true) (hp : [e1, e2].all PySem.W.kdsPlain = true := by rfl) : PE X (.Set [e1, e2] 0 pos) (tSet2 X.w ta tb) := by
  refine ⟨fun pins s σ H Q I h => ?_⟩
  rw [arm_eval_Set]
  refine wpAny_bind (wpAny_standAt (wpAny_bind (PySem.W.kds_main I.kIn hcd fun b => ?_)))
  rw [PySem.W.kds_star [e1, e2] hp, List.map_map]
  refine disp_set (ts := (evalEach [e1, e2] X.env).map fun t => do let v ← t; standAt pos; pure v) rfl rfl ?_ ?_ ?_ ?_
  · exact List.findIdx?_eq_none_iff.mpr fun x hx => by
      obtain ⟨t, _, rfl⟩ := List.mem_map.mp hx
      rfl
  · rw [List.length_map, PySem.W.kds_len]
    exact Nat.le_of_ble_eq_true rfl
  · rw [List.map_map]
    rfl
  have new : SetR X.w (s.heap.push (noneIn X.w)) s.heap.objs.size (fun _ => false) 0 := setR_fresh X.w
  have hfr : H s.heap.objs.size = none := I.hok.fresh (Nat.le_refl _)
  have I1 : Inv X pins σ (upd H s.heap.objs.size (SetO X.w s.heap.objs.size (fun _ => false) 0)) { s with heap := s.heap.push (noneIn X.w), toks := s.toks } := I.laid (t' := s.toks) (fun b u e => Heap.get?_push_of_some _ e) (Nat.le_refl _) (setO_new new)
  refine PySem.W.kds_all pos [e1, e2] _ _ ?_
  refine thn (h1.run pins _ σ _ _ I1 (h _ hfr)) fun v1 s1 ⟨x, H1, I2, r1, q1⟩ => ?_
  refine thn (h2.run pins s1 σ H1 _ I2 q1) fun v2 s2 ⟨y, H2, I3, r2, i, j, ex, ey, hset, q2⟩ => ?_
  subst ex
  subst ey
  obtain ⟨t1, rfl⟩ := r1
  obtain ⟨t2, rfl⟩ := r2
  refine PySem.W.kds_fill_cons (put_int (setO_get I3 hset) (by decide) fun h' _ sb R' => ?_)
  have there : ∀ {h : Heap} {S : Int → Bool} {n : Nat}, SetR X.w h s.heap.objs.size S n → ∃ u, h.get? s.heap.objs.size = some u := fun {h S n} ⟨o, _, _, _, ho, _⟩ => ⟨o, ho⟩
  have I4 : Inv X pins σ _ { s2 with heap := h', toks := s2.toks + 1 } := I3.write (e := s.heap.objs.size) (t' := s2.toks + 1) (by rw [hset]; trivial) (.inl rfl) (fun b u hb hu => (sb.2 b hb).trans hu) (there R') (setO_new R')
  refine PySem.W.kds_fill_cons (put_int (s := { s2 with heap := h', toks := s2.toks + 1 }) (setO_get I4 upd_same) (by decide) fun h2' _ sb2 R2 => ?_)
  have I5 := I4.write (e := s.heap.objs.size) (t' := s2.toks + 1 + 1) (by rw [upd_same]; trivial) (.inl rfl) (fun b u hb hu => (sb2.2 b hb).trans hu) (there R2) (setO_new R2)
  refine PySem.W.kds_fill_nil rfl ⟨.ref s.heap.objs.size, _, I5, rfl, ?_⟩
  rw [upd_upd]
  refine q2 _ _ (fun k => ?_) ?_
  · simp
  · split <;> simp
section
variable {P : Program} {w : World} {A : Around} {E : Value → Shared → Prop} {s : Shared}
/-- set(l) of a list of ints, at the value level -/
theorem set_of_list {l : Addr} {its : Array Value} (ns : List Int) {Q : Value → Shared → Prop} (hh : A.handled = none) (hl : s.heap.IsList l its) (hit : IntsAre its.toList ns) (hb : ns.length + 1 < scanBound)
    (h : ∀ (h' : Heap) (tk c : Nat), SetR w h' s.heap.objs.size (fun j => decide (j ∈ ns)) c → c ≤ ns.length → (∀ b o, s.heap.get? b = some o → h'.get? b = some o) → Q (.ref s.heap.objs.size) { s with heap := h', toks := tk }) :
    wpAny (model P w) A (call (.type "set") [.ref l]) Q E s := by
  have hn : its.size = ns.length := Array.length_toList.symm.trans (IntsAre.length hit)
  obtain ⟨cc, tl, hmro⟩ := F.called_set.mro
  have made := F.called_set.made
  have sub := F.called_set.sub
  refine wpAny_call (codeAny_of_tree (wpAny_pure (show _ ∧ _ from ⟨Code.quiet_builtin _ (by decide +kernel), codeAny_builtin F.entry_type_call ?_⟩)))
  rw [Around.under_plain (weight_type_call_type "set" [.ref l] []) rfl]
  have a1 := F.called_set.notType
  have a2 := F.called_set.canCreate
  have a3 := F.typeCall_set_1 (.ref l)
  repeat (any_goals (first | assumption | wp_step))
  have fresh := Heap.get?_push_size s.heap (o := noneIn w) rfl
  refine codeAny_mono (code_set_led1 (.ref l) (E := E) (Q₁ := fun obj s₁ => obj = .ref s.heap.objs.size ∧ s₁ = { s with heap := s.heap.push (noneIn w) }) ⟨rfl, rfl⟩) fun r s₁ hr => ?_
  cases r with
  | error e => exact hr
  | ok fl =>
    cases fl with
    | ret obj =>
      obtain ⟨rfl, rfl⟩ := hr
      have hT : Shared.TypeIs { s with heap := s.heap.push (noneIn w) } (.ref s.heap.objs.size) "set" := ⟨_, fresh, rfl⟩
      have b1 := F.called_set.init.lookup
      have b2 := F.called_set.init.bind (.ref s.heap.objs.size)
      repeat (any_goals (first | assumption | wp_step))
      refine codeAny_mono (codeAny_call_builtin (R := wants (fun r s₂ => r = .none ∧ ∃ h' tk c, s₂ = { s with heap := h', toks := tk } ∧ SetR w h' s.heap.objs.size (fun j => decide (j ∈ ns)) c ∧ c ≤ ns.length ∧ ∀ b o, s.heap.get? b = some o → h'.get? b = some o) E) F.called_set.init.plain F.entry_set_init (check_set_init_1 hT ?_)) fun r₂ s₂ hr₂ => ?_
      · have lL : (s.heap.push (noneIn w)).IsList l its := hl.push _
        obtain ⟨⟨ocls, odict, odata, oslots⟩, hol, hcl, nl, hdl⟩ := hl
        simp only at hcl hdl
        subst hcl
        subst hdl
        have c0 : (s.heap.push (noneIn w)).get? l = some ⟨.type "list", odict, .seq its nl, oslots⟩ := Heap.get?_push_of_some _ hol
        have c1 := F.sub_list_set
        have c2 := F.sub_list_frozenset
        have c3 : (Value.type "list" == Value.type "dict") = false := by decide
        unfold Builtin.«set.__init__» noKeywords Builtin.Frozenset.updateFrom
        generalize hPI : pyIter = PI
        wp_walk
        subst hPI
        refine wpAny_pyIter_list lL (wpAny_bind (wpAny_runValue ?_))
        have below : l < s.heap.objs.size := Heap.lt_size hol
        have hz : (s.heap.push (noneIn w)).objs.size = s.heap.objs.size + 1 := Heap.size_push ..
        have cold : A.in1.in1.in1.handled = none := by simp [hh]
        refine set_update_ints ((Walks.list cold _ l (Nat.ne_of_lt (by rw [hz]; exact Nat.lt_succ_of_lt below)) its).toS) s.heap.objs.size (fun z => by
          rw [hz] at z
          rcases List.mem_cons.mp z with z | z
          · exact absurd z (Nat.ne_of_lt (Nat.lt_succ_self _))
          · exact absurd (List.mem_singleton.mp z) (Nat.ne_of_gt below)) ns hn hb (fun i v hv => ?_) its.size 0 _ (by omega) (Nat.zero_le _) ⟨⟨_, Heap.get?_push_size _ rfl, rfl, rfl⟩, lL.push _⟩ ⟨0, Nat.le_refl 0, setR_new_at (Heap.get?_push_of_some _ fresh)⟩ ?_
        · have hi : i < ns.length := by rw [← hn]; exact (Array.getElem?_eq_some_iff.mp hv).1
          obtain ⟨t, e⟩ := PyProof.Rows.IntsAre.int_at hit i v (by rw [Array.getElem?_toList]; exact hv)
          exact ⟨ns[i], t, List.getElem?_eq_getElem hi, by rw [e, List.getD_eq_getElem?_getD, List.getElem?_eq_getElem hi] <;> rfl⟩
        · intro s' c hm hc hS
          obtain ⟨h', g2, d', tk', os'⟩ := s'
          obtain rfl : g2 = s.gens := hm.gens
          obtain rfl : d' = s.drawn := hm.drawn
          obtain rfl : os' = s.os := hm.os
          refine wpAny_pure (show wpAny _ _ (ret Value.none) _ _ _ from wpAny_pure ⟨rfl, h', tk', c, rfl, hS, hn ▸ hc, fun b o e => ?_⟩)
          have hb0 : b < s.heap.objs.size := Heap.lt_size e
          exact hm.heap b o (fun z => by
            rw [hz] at z
            rcases List.mem_cons.mp z with z | z
            · exact absurd z (Nat.ne_of_lt hb0)
            · exact absurd (List.mem_singleton.mp z) (Nat.ne_of_lt (Nat.lt_succ_of_lt hb0))) (Heap.get?_push_of_some _ (Heap.get?_push_of_some _ e))
      · cases r₂ with
        | error e => exact hr₂
        | ok fl₂ =>
          cases fl₂ with
          | ret r =>
            obtain ⟨rfl, h', tk, c, rfl, hS, hc, hk⟩ := hr₂
            repeat (any_goals (first | assumption | wp_step))
            exact h _ _ _ hS hc hk
          | _ => exact hr₂.elim
    | _ => exact hr.elim
end
def rSetI (K : PySem.W.Frag) (w : World) : List V → Hp → VK → Prop := fun vs H Q => ∃ (l : Addr) (ns : List Int), vs = [.ref l] ∧ SqL K H l (ns.map V.int) ∧ ns.length ≤ 60 ∧ ∀ (p : Addr) (S : Int → Bool) (n : Nat), H p = none → (∀ k, S k = true ↔ k ∈ ns) → n ≤ 60 → Q (.ref p) (upd H p (SetO w p S n))
theorem x_setI {X : Cx} (hc : X.calm = true) : CallR X (.type "set") (rSetI X.K X.w) := Hsh.un (by simp (disch := k_dflt (
  refine Hsh.up ?_
  intro pins s σ H vs us Q I r h
  obtain ⟨l, ns, rfl, hq, hl, q⟩ := h
  rw [Vals.ref1 r]
  obtain ⟨its, ri, pl, hz⟩ := I.list hq
  refine set_of_list ns (I.ok.hd hc) pl.isList (by simpa using ri.ints) (by unfold scanBound; omega) fun h' tk c hS hcl hk => ?_
  exact ⟨.ref _, upd H s.heap.objs.size (SetO X.w s.heap.objs.size (fun j => decide (j ∈ ns)) c), I.laid (t' := tk) hk (Nat.le_refl _) (setO_new hS), rfl, q _ _ c (I.hok.fresh (Nat.le_refl _)) (fun k => by simp) (by omega)⟩
  )) only [↓Hsh.on])
/-! ### readings of sets -/
section
variable {A : List Addr} {H0 H : Hp} {L L' : List Cell} {Q : VK} {v : V} {σ : L2.St} {K : PySem.W.Frag} {w : World} {te ta tb : TE}
def set2E (w : World) (p : Addr) (x y : V) (H : Hp) (Q : VK) : Prop := ∃ i j : Int, x = .int i ∧ y = .int j ∧ H p = some (SetO w p (fun _ => false) 0) ∧ ∀ S n, (∀ k, S k = true ↔ k = i ∨ k = j) → n ≤ 2 → Q (.ref p) (upd H p (SetO w p S n))
theorem h_set2 (S : SH A H0 H L) (h : ∀ p H', SH A H0 H' ((p, SetO w p (fun _ => false) 0) :: L) → ta σ H' fun x H1 => tb σ H1 fun y H2 => set2E w p x y H2 Q) : tSet2 w ta tb σ H Q := fun p hp => h p _ (S.new _ hp)
theorem h_set2E {p : Addr} {i : Nat} {a b : Int} (hS : SH A H0 H L) (e : L[i]? = some (p, SetO w p (fun _ => false) 0)) (h : ∀ S n H', (∀ k, S k = true ↔ k = a ∨ k = b) → n ≤ 2 → SH A H0 H' (L.set i (p, SetO w p S n)) → Q (.ref p) H') : set2E w p (.int a) (.int b) H Q :=
  ⟨a, b, rfl, rfl, hS.get i e, fun S n hk hn => h S n _ hk hn (hS.set i e rfl _)⟩
theorem h_setI2 {l : Addr} {a b : Int} (hS : SH A H0 H L) (h1 : SqL K H l [.int a, .int b]) (h : ∀ p S n H', (∀ k, S k = true ↔ k = a ∨ k = b) → n ≤ 60 → SH A H0 H' ((p, SetO w p S n) :: L) → Q (.ref p) H') : rSetI K w [.ref l] H Q :=
  ⟨l, [a, b], rfl, h1, Nat.le_of_ble_eq_true rfl, fun p S n hp hk hn => h p S n _ (fun k => by rw [hk]; simp) hn (hS.new _ hp)⟩
/-- two ints in their order, once each -/
def srt2 (a b : Int) : List Int := if a = b then [a] else if a < b then [a, b] else [b, a]
theorem asc_eq : ∀ {xs ys : List Int}, xs.Pairwise (· < ·) → ys.Pairwise (· < ·) → (∀ k, k ∈ xs ↔ k ∈ ys) → xs = ys
  | [], [], _, _, _ => rfl
  | [], y :: ys, _, _, h => nomatch (h y).mpr List.mem_cons_self
  | x :: xs, [], _, _, h => nomatch (h x).mp List.mem_cons_self
  | x :: xs, y :: ys, hx, hy, h => by
    rw [List.pairwise_cons] at hx hy
    have e : x = y := by
      rcases List.mem_cons.mp ((h x).mp List.mem_cons_self) with q | q
      · exact q
      · rcases List.mem_cons.mp ((h y).mpr List.mem_cons_self) with q2 | q2
        · exact q2.symm
        · have := hx.1 y q2
          have := hy.1 x q
          omega
    subst e
    rw [asc_eq hx.2 hy.2 fun k => ⟨fun hk => ?_, fun hk => ?_⟩]
    · rcases List.mem_cons.mp ((h k).mp (List.mem_cons_of_mem _ hk)) with q | q
      · have := hx.1 k hk
        omega
      · exact q
    · rcases List.mem_cons.mp ((h k).mpr (List.mem_cons_of_mem _ hk)) with q | q
      · have := hy.1 k hk
        omega
      · exact q
theorem srt2_asc (a b : Int) : (srt2 a b).Pairwise (· < ·) := Hsh.un (by simp (disch := k_dflt (
  refine Hsh.up ?_
  unfold srt2
  split
  · simp
  · split
    · simp; omega
    · simp; omega
  )) only [↓Hsh.on])
theorem srt2_mem (a b k : Int) : k ∈ srt2 a b ↔ k = a ∨ k = b := Hsh.un (by simp (disch := k_dflt (
  refine Hsh.up ?_
  unfold srt2
  split
  · simp; omega
  · split <;> simp <;> omega
  )) only [↓Hsh.on])
theorem srt2_le (a b : Int) : (srt2 a b).length ≤ 2 := Hsh.un (by simp (disch := k_dflt (
  refine Hsh.up ?_
  unfold srt2
  split
  · exact Nat.le_of_ble_eq_true rfl
  · split <;> exact Nat.le_of_ble_eq_true rfl
  )) only [↓Hsh.on])
theorem s_sortedSet {p : Addr} {S : Int → Bool} {n : Nat} {a b : Int} (h1 : H p = some (SetO w p S n)) (hk : ∀ k, S k = true ↔ k = a ∨ k = b) (hn : n < 64) (h : newO (.lst ((srt2 a b).map V.int)) 0 H Q) : rSortedSet w [.ref p] H Q := Hsh.un (by simp (disch := k_dflt (
  refine Hsh.up ?_
  refine ⟨p, S, n, rfl, h1, hn, fun ns q asc mem _ hq => ?_⟩
  rw [asc_eq asc (srt2_asc a b) fun k => by rw [mem, hk, srt2_mem]]
  exact h.2 q hq
  )) only [↓Hsh.on])
/-! ### tuples walked -/
def lcTG (K : PySem.W.Frag) (vs : List Nat) (g : TG) (tt : TT) (v : V) (te : TE) (σ : L2.St) (H : Hp) (Q : VK) : Prop := ∃ a, v = .ref a ∧ (∃ xs, SqT K H a xs) ∧ tLc (fun _ H k => k (Itt K a) H) g tt te vs σ H Q
theorem s_lcTG {g : TG} {tt : TT} {vs : List Nat} (h : tb σ H fun v H1 => lcTG K vs g tt v te σ H1 Q) : tLc (iTup K tb) g tt te vs σ H Q := h
theorem u_lcTG {g : TG} {tt : TT} {vs : List Nat} {a : Addr} {xs : List V} (hS : SH A H0 H L) (Pv : Addr → Nat → Hp → Prop) (h : SqT K H a xs) (h0 : ∀ D H', SH A H0 H' ((D, .lst []) :: L) → Pv D 0 H') (hl : ∀ D k H, k ≤ xs.length → Pv D k H → SqT K H a xs)
    (hs : ∀ D (k : Nat) x H, xs[k]? = some x → Pv D k H → g x (wipe σ vs) H fun σ2 H2 => wipe σ2 vs = wipe σ vs ∧ tt σ2 H2 fun b H3 => if b = true then te σ2 H3 (lcEnd D (Pv D (k + 1))) else Pv D (k + 1) H3) (hd : ∀ D H, Pv D xs.length H → Q (.ref D) H) : lcTG K vs g tt (.ref a) te σ H Q :=
  ⟨a, rfl, ⟨xs, h⟩, fun D hD => lc_tup (Pv D) (h0 D _ (hS.new _ hD)) (hl D) (fun k x H hk p => hs D k x H hk p) (fun H p => hd D H p)⟩
variable {g : TG} {ts : TS} {n b c : L2.St → Hp → Prop} {r : VK}
theorem u_forT {a : Addr} {xs : List V} (Pv : Nat → L2.St → Hp → Prop) (h : SqT K H a xs) (h0 : Pv 0 σ H) (hl : ∀ i σ H, i ≤ xs.length → Pv i σ H → SqT K H a xs)
    (hs : ∀ (i : Nat) (x : V) σ H, xs[i]? = some x → Pv i σ H → g x σ H fun σ2 H2 => ts ⟨Pv (i + 1), r, n, Pv (i + 1)⟩ σ2 H2) (hd : ∀ σ H, Pv xs.length σ H → n σ H) : forT K (.ref a) g ts ⟨n, r, b, c⟩ σ H :=
  ⟨a, rfl, ⟨xs, h⟩, for_tup Pv h0 hl (fun i x σ H e p => hs i x σ H e p) hd⟩
theorem s_unl {m : Nat} {a : Addr} {xs : List V} {gs : TGs} {S : L2.St → Hp → Prop} (h : SqL K H a xs) (l : xs.length = m) (q : gs xs σ H S) : gLst K m gs (.ref a) σ H S := ⟨a, xs, rfl, h, l, q⟩
theorem s_repT1 {l : Addr} {k : Int} {x : V} {n : Nat} (h1 : SqT K H l [x]) (c : 2 ≤ k ∧ k ≤ 1000) (e : k.toNat = n) (h : newO (.tup (List.replicate n x)) 0 H Q) : rMulX K (.ref l) (.int k) H Q := Hsh.un (by simp (disch := k_dflt (
  refine Hsh.up ?_
  refine .inr (.inr (.inr ⟨l, k, [x], rfl, rfl, h1, List.cons_ne_nil _ _, c.1, c.2, Nat.le_of_ble_eq_true rfl, fun p hp => ?_⟩))
  have q : (List.replicate k.toNat [x]).flatten = List.replicate n x := by rw [e]; simp
  rw [q]
  exact h.2 p hp
  )) only [↓Hsh.on])
/-! ### is this text a key of a module's table? -/
def KIn (K : PySem.W.Frag) (w : World) (d : Addr) (z : Str) (b : Bool) : Prop := (∃ es n, KDict K w d es n) ∧ ∃ r, PySem.W.nsIn K d z = some r ∧ r.isSome = b
def rInKD (K : PySem.W.Frag) (w : World) : R2 := fun x y H Q => ∃ z d b, x = .str z ∧ y = .ref d ∧ KIn K w d z b ∧ Q (.bl b) H
theorem x_inKD {X : Cx} : OpR X (compareOp .In) (rInKD X.K X.w) := Hsh.un (by simp (disch := k_dflt (
  refine Hsh.up ?_
  intro pins s σ H x y v u Q I rx ry h
  obtain ⟨z, d, b, rfl, rfl, ⟨⟨es, n, D⟩, r, e, rfl⟩, q⟩ := h
  exact op_in_kd D pins s σ H _ _ _ _ Q I rx ry ⟨z, r, rfl, rfl, e, q⟩
  )) only [↓Hsh.on])
theorem s_inKD {d : Addr} {z : Str} {b : Bool} (h : KIn K w d z b) (q : Q (.bl b) H) : rInKD K w (.str z) (.ref d) H Q := ⟨z, d, b, rfl, rfl, h, q⟩
def dinB (K : PySem.W.Frag) (a : Addr) (qs : List (Str × Bool)) : Bool := qs.all fun q => match PySem.W.nsIn K a q.1 with
  | some r => r.isSome == q.2
  | none => false
theorem din_ok {a : Addr} {qs : List (Str × Bool)} (h : ∃ es n, KDict K w a es n) (c : dinB K a qs = true) : ∀ q ∈ qs, KIn K w a q.1 q.2 := fun q hq => by
  have z := List.all_eq_true.mp c q hq
  cases e : PySem.W.nsIn K a q.1 with
  | none => rw [e] at z; cases z
  | some r => rw [e] at z; exact ⟨h, r, e, eq_of_beq z⟩
end
/-- a def's rule that tells of its code -/
theorem FunD_okC {P : Program} {w : World} {K : PySem.W.Frag} {mg : Str → Option Value} {base : Heap} {x qual : Str} {params : Arguments} {body : List Stmt} {scope : Scope} {dvs : List V} {kws : List (Str × V)} {f : Addr} {fd : FuncData} {CX : CXT} {N ps : List Str} {k : Nat} {sp : Sp}
    (F : FunD K x qual params body scope dvs kws f fd) (S : FnScope N ps scope) (len : ∀ vs H Q E, sp vs H Q E → vs.length = ps.length)
    (hb : ∀ (cdv : Value) (A : Around) (outer : List Env) (s : Shared) (H : Hp) (vs : List V) (Q : VK) (E : XK), PySem.W.codeIn K cdv qual = true → Room k (A.deeper (envOfC qual scope s.heap.objs.size f cdv)) → sp vs H Q E →
      ∃ t, PSs (cxOf CX P w K mg base N qual scope f cdv A outer s H E) body t ∧ t ⟨fun _ H' => Q .non H', Q, fun _ _ => False, fun _ _ => False⟩ (start N vs) H) : FnOk P w K mg base CX (k + 1) f fd ps sp := by
  obtain ⟨oc, od, dV, kV, doc, pm, an, cdv, ct, osl, rfl, lk, hcd, _, _⟩ := F.ex
  exact fn_of lk hcd S len fun A outer s H vs Q E hr hsp => hb cdv A outer s H vs Q E hcd hr hsp
end Q
set_option Elab.async false
set_option linter.all false
set_option maxRecDepth 100000
set_option maxHeartbeats 4000000
/-! Errors whose context is None, defs called within an except suite. -/
namespace Q
open PySem PySem.Spec PyProof.Rows L2
inductive HdsN (X : Cx) : List ExceptHandler → List Cl → Prop
  | nil : HdsN X [] []
  | one {t : Expr} {f : Value → Option Bool} {ts : Addr → Value → Option Addr → TS} {b₀ : Stmt} {suite : List Stmt} {p : Pos} {hds : List ExceptHandler} {l : List Cl} (ht : Tst X t f)
      (hsu : ∀ (a : Addr) (oe : Obj) (cls : Value) (d : Option Addr) (pn : List (Addr × Obj)), L2N.Zn cls d oe → (∃ vs, oe.data = .fields vs) → L2H.HotC (X.suite a ((a, oe) :: pn)) → PSs (X.suite a ((a, oe) :: pn)) (b₀ :: suite) (ts a cls d)) (r : HdsN X hds l) :
      HdsN X (.ExceptHandler (some t) none (b₀ :: suite) p :: hds) ((f, none, ts) :: l)
  | als {t : Expr} {n : Str} {i : Nat} {f : Value → Option Bool} {ts : Addr → Value → Option Addr → TS} {b₀ : Stmt} {suite : List Stmt} {p : Pos} {hds : List ExceptHandler} {l : List Cl} (hi : X.N[i]? = some n) (hln : X.env.kindOf n = some .local) (ht : Tst X t f)
      (hsu : ∀ (a : Addr) (oe : Obj) (cls : Value) (d : Option Addr) (pn : List (Addr × Obj)), L2N.Zn cls d oe → (∃ vs, oe.data = .fields vs) → L2H.HotC (X.suite a ((a, oe) :: pn)) → PSs (X.suite a ((a, oe) :: pn)) (b₀ :: suite) (ts a cls d)) (r : HdsN X hds l) :
      HdsN X (.ExceptHandler (some t) (some n) (b₀ :: suite) p :: hds) ((f, some i, ts) :: l)
section
variable {X : Cx} {body orelse : List Stmt} {h₀ : ExceptHandler} {hds : List ExceptHandler} {l : List Cl} {pos : Pos} {tb : WX → TS} {u : TS} {Wout : WX}
theorem ps_tryN (hs : X.stack = X.env :: X.outer) (hf : X.env.frame = some X.env.locals) (hN : X.N.Nodup) (tk : L2N.Takes X Wout)
    (hb : ∀ (W : WX) (pn : List (Addr × Obj)) (xe : Value → Shared → Prop), L2N.Takes (X.tr pn xe) W → PassesOwn (model X.prog X.w) X.A X.env xe → PSs (X.tr pn xe) body (tb W))
    (hh : HdsN X (h₀ :: hds) l) (ho : PSs X orelse u) : PS X (.Try body (h₀ :: hds) orelse [] pos) (tTryG tb Wout l u) := Hsh.un (by simp (disch := k_dflt (
  refine Hsh.up ?_
  refine ⟨fun pins s σ H D I h => ?_⟩
  have ok := I.ok
  have hfr : X.A.frames = some (X.env :: X.outer) := by rw [ok.frames, hs]
  refine wpAny_Try_except ?_
  have body_ok := (hb (wG Wout D l) (X.pn ++ pins) (fun e s₁ => wpAny (model X.prog X.w) X.A (noteFrame e X.env) (fun _ s₂ => wpAny (model X.prog X.w) X.A (setFlight e none) (fun _ s₃ =>
    wpAny (model X.prog X.w) X.A (handleBy e X.env (h₀ :: hds)) (SP X pins D) X.xe s₃) X.xe s₂) X.xe s₁) (fun v s' xx => ?_) PassesOwn.looking).run [] s σ H { D with nx := u D } (I.toTry _) h
  · refine wpAny_mono body_ok (fun f s1 hsp => ?_) (fun e s1 he => he)
    cases f with
    | next =>
      obtain ⟨σ', H', J', q⟩ := hsp
      exact ho.run pins s1 σ' H' D (J'.ofTry ok) q
    | brk =>
      obtain ⟨σ', H', J', q⟩ := hsp
      exact ⟨σ', H', J'.ofTry ok, q⟩
    | cont =>
      obtain ⟨σ', H', J', q⟩ := hsp
      exact ⟨σ', H', J'.ofTry ok, q⟩
    | ret z =>
      obtain ⟨v, σ', H', J', r, q⟩ := hsp
      exact ⟨v, σ', H', J'.ofTry ok, r, q⟩
  · obtain ⟨a, B, sI, pins', σ', H', cls, d, rfl, J', nb, up, sky, na, os, ag, w⟩ := xx
    have J : Inv X pins σ' H' sI := J'.ofTry ok
    show wpAny (model X.prog X.w) X.A (noteFrame (.ref a) X.env) _ _ _
    refine L2N.Sky.land L2N.Zn.steady hfr hf (by rw [← hs]; exact sky) fun h3 fl3 up3 => ?_
    -- what the landed error tells at any heap
    have facts : ∀ h, HandSPX.FlyingZ B (X.env :: X.outer) a (L2N.Zn cls d) h → s'.heap.UpToSlots h → Inv X pins σ' H' { s' with heap := h } ∧ ∃ oe vs, h.get? a = some oe ∧ L2N.Zn cls d oe ∧ oe.data = .fields vs ∧ Inv (X.suite a ((a, oe) :: (X.pn ++ pins))) [] σ' H' { s' with heap := h } := fun h fl uph => by
      have Jh : Inv X pins σ' H' { s' with heap := h } := J.landed nb fl.1 (up.trans uph) os ag
      obtain ⟨oe, vs, he, hz, hd⟩ := fl.there
      have nfr : a ∉ frs (X.env :: X.outer) := fun hm => by
        obtain ⟨_, o', e', hnf⟩ := fl.2.2.1.mem hm
        rw [he] at e'
        cases e'
        exact hnf _ hd
      have nL : a ≠ X.env.locals := fun z => nfr (List.mem_filterMap.mpr ⟨X.env, List.mem_cons_self, by rw [hf, z]⟩)
      have nF : a ∉ X.fs := fun hm => by
        obtain ⟨e, he, q⟩ := List.mem_filterMap.mp hm
        exact nfr (List.mem_filterMap.mpr ⟨e, List.mem_cons_of_mem _ he, q⟩)
      exact ⟨Jh, oe, vs, he, hz, hd, Jh.suite he hd na nL nF⟩
    have looks : ∀ {h : Heap} {oe : Obj}, h.get? a = some oe → L2N.Zn cls d oe → PySem.W.Looks (model X.prog X.w) h (typeOf (.ref a)) cls := fun {h oe} he hz A Q E s k q => wpAny_typeOf_ref (k _ _ he) (by rw [hz.1]; exact q)
    have go : ∀ {hds' : List ExceptHandler} {l' : List Cl}, HdsN X hds' l' → wG Wout D l' cls d σ' H' → ∀ h, HandSPX.FlyingZ B (X.env :: X.outer) a (L2N.Zn cls d) h → s'.heap.UpToSlots h →
        wpAny (model X.prog X.w) X.A (handleBy (.ref a) X.env hds') (SP X pins D) X.xe { s' with heap := h } := by
      intro hds' l' hk
      induction hk with
      | nil =>
        intro w h fl uph
        refine wpAny_handleBy_nil ?_
        obtain ⟨_, _, _, oe, vs, T, oT, ts', he, hz, hd, h1, _⟩ := id fl
        unfold PySem.passOn
        refine wpAny_bind (wpAny_field he hd h1 ?_)
        rw [if_neg (show ¬ ((Value.ref T == Value.none) = true) from by simp)]
        have fin : wpAny (model X.prog X.w) X.A (setFlight (.ref a) X.env.frame) (fun _ s4 => wpAny (model X.prog X.w) X.A (throw (.ref a) : Sem Flow) (SP X pins D) X.xe s4) X.xe { s' with heap := h } := by
          rw [hf]
          refine HandSPX.setFlight_upZ fl fun h4 hh4 up4 => wpAny_throw (tk _ _ ?_)
          exact ⟨a, B, sI, pins, σ', H', cls, d, rfl, J, nb, (up.trans uph).trans up4, .inr (.inr (by rw [hs]; exact hh4)), na, os, ag, w⟩
        first
          | exact wpAny_bind (wpAny_pure (wpAny_bind fin))
          | exact wpAny_bind fin
      | @one t f ts b₀ suite p hds2 l2 ht hsu r ih =>
        intro w h fl uph
        obtain ⟨b, hb1, hyes, hno⟩ := w
        obtain ⟨_, oe, vs, he, hz, hd, S⟩ := facts h fl uph
        refine wpAny_handleBy_cons (codeAny_handlers_test (ht a _ σ' H' _ cls b _ _ S (looks he hz) hb1 fun h5 k5 => ?_)) (by intro q; cases q)
        have fl5 := flying_keeps fl k5
        have up5 := uph.trans (Heap.UpToSlots.of_keeps k5)
        cases b with
        | true =>
          refine codeAny_handlers_suite ?_
          refine HandSPX.lands_againZ fl5 fun h4 fl4 up4 => ?_
          obtain ⟨_, oe4, vs4, he4, hz4, hd4, S4⟩ := facts h4 fl4 (up5.trans up4)
          refine wpAny_mono ((hsu a oe4 cls d (X.pn ++ pins) hz4 ⟨_, hd4⟩ ⟨(a, oe4), ⟨rfl, vs4, hd4, hz4.2.2 vs4 hd4⟩, List.mem_cons_self⟩).run [] _ _ H' _ S4 (hyes rfl a na)) (fun f s6 hsp => ?_) (fun _ _ z => False.elim z)
          cases f with
          | next =>
            obtain ⟨σ6, H6, S6, q6⟩ := hsp
            exact ⟨_, _, S6.unsuite ok, q6⟩
          | brk =>
            obtain ⟨σ6, H6, S6, q6⟩ := hsp
            exact ⟨_, _, S6.unsuite ok, q6⟩
          | cont =>
            obtain ⟨σ6, H6, S6, q6⟩ := hsp
            exact ⟨_, _, S6.unsuite ok, q6⟩
          | ret z =>
            obtain ⟨v6, σ6, H6, S6, r6, q6⟩ := hsp
            exact ⟨_, _, _, S6.unsuite ok, r6, q6⟩
        | false => exact ih (hno rfl) h5 fl5 up5
      | @als t n i f ts b₀ suite p hds2 l2 hi hln ht hsu r ih =>
        intro w h fl uph
        obtain ⟨b, hb1, hyes, hno⟩ := w
        obtain ⟨_, oe, vs, he, hz, hd, S⟩ := facts h fl uph
        refine wpAny_handleBy_cons (codeAny_handlers_test (ht a _ σ' H' _ cls b _ _ S (looks he hz) hb1 fun h5 k5 => ?_)) (by intro q; cases q)
        have fl5 := flying_keeps fl k5
        have up5 := uph.trans (Heap.UpToSlots.of_keeps k5)
        cases b with
        | true =>
          refine codeAny_handlers_suite_as ?_
          refine HandSPX.lands_againZ fl5 fun h4 fl4 up4 => ?_
          obtain ⟨_, oe4, vs4, he4, hz4, hd4, S4⟩ := facts h4 fl4 (up5.trans up4)
          refine store_ok (X := X.suite a ((a, oe4) :: (X.pn ++ pins))) (v := .ref a) S4 hN hi (.inl hln) rfl (fun s5 S5 => ?_) (.inr hln)
          refine wpAny_mono ((hsu a oe4 cls d (X.pn ++ pins) hz4 ⟨_, hd4⟩ ⟨(a, oe4), ⟨rfl, vs4, hd4, hz4.2.2 vs4 hd4⟩, List.mem_cons_self⟩).run [] s5 _ H' _ S5 (hyes rfl a na)) (fun f s6 hsp => ?_) (fun _ _ z => False.elim z)
          have gone : ∀ {σ6 : L2.St} {H6 : Hp} {Q : Shared → Prop}, Inv (X.suite a ((a, oe4) :: (X.pn ++ pins))) [] σ6 H6 s6 → (∀ s7, Inv X pins (σ6.set i none) H6 s7 → Q s7) →
              wpAny (model X.prog X.w) X.A (do bindName X.env n .none; unbindBehindTheSuite X.env n p) (fun _ s7 => Q s7) X.xe s6 := fun {σ6 H6 Q} S6 hq => gone_ok (S6.unsuite ok) hN hi hln hq
          cases f with
          | next =>
            obtain ⟨σ6, H6, S6, q6⟩ := hsp
            exact gone S6 fun s7 J7 => ⟨_, _, J7, q6⟩
          | brk =>
            obtain ⟨σ6, H6, S6, q6⟩ := hsp
            exact gone S6 fun s7 J7 => ⟨_, _, J7, q6⟩
          | cont =>
            obtain ⟨σ6, H6, S6, q6⟩ := hsp
            exact gone S6 fun s7 J7 => ⟨_, _, J7, q6⟩
          | ret z =>
            obtain ⟨v6, σ6, H6, S6, r6, q6⟩ := hsp
            exact gone S6 fun s7 J7 => ⟨_, _, _, J7, r6, q6⟩
        | false => exact ih (hno rfl) h5 fl5 up5
    exact go hh w h3 fl3 up3
  )) only [↓Hsh.on])
end
theorem takesN {X : Cx} : L2N.Takes X (fun _ _ _ _ => False) := fun _ _ x => by
  obtain ⟨_, _, _, _, _, _, _, _, _, _, _, _, _, _, _, _, z⟩ := x
  exact z.elim
theorem passN {X : Cx} : Passes (L2N.CX X.prog X.w) X E0 := fun _ _ _ _ _ _ _ h => by
  obtain ⟨_, _, _, _, _, _, _, _, _, _, _, _, z⟩ := h
  exact z.elim
theorem ps_raiseN {X : Cx} {W : WX} {x m : Str} {j : Nat} {p p2 pos pos2 : Pos} (hc : X.calm = true) (tk : L2N.Takes X W) (F : ExcF X.K (He.ga X.K x)) (hm : X.mg x = some (.ref (He.ga X.K x))) (hg : Gl X x) (hdb : (x == ("__debug__" : Str)) = false := by decide) :
    PS X (.Raise (some (.Call (.Name x p) [.Constant (.str m) j p2] [] pos)) none pos2) (tRaiseG W (He.ga X.K x)) :=
  L2N.ps_raise hc tk (L2N.pmk_own PySem.F.excBase_ValueError F.ex hm F.kp (raises_own F.bs F.ty) hg hdb)
/-- a def that may be called within an except suite -/
structure HotOk (P : Program) (w : World) (K : PySem.W.Frag) (mg : Str → Option Value) (base : Heap) (CX : CXT) (k : Nat) (x : Str) (ps : List Str) (sp : Sp) : Prop where
  ex : ∃ f fd, mg x = some (.ref f) ∧ PySem.W.keepIn K (.ref f) = true ∧ Binds K fd ps [] ∧ L2H.FnH P w K mg base CX k f fd ps sp
theorem roomS {k : Nat} {X : Cx} {a : Addr} {pn : List (Addr × Obj)} (r : Room k X.A) : L2H.RoomH k (X.suite a pn).A := ⟨r.dp, r.un⟩
theorem pe_callHG {X : Cx} {k : Nat} {ps : List Str} {sp : Sp} {x : Str} {p pos : Pos} {e : Expr} {es : List Expr} {t : TA} (F : HotOk X.prog X.w X.K X.mg X.base CX0 k x ps sp) (hr : L2H.RoomH k X.A) (hc : L2H.HotC X) (hg : Gl X x)
    (ha : PA X (e :: es) t) (hdb : (x == ("__debug__" : Str)) = false := by decide) (he : starEach (e :: es) X.env = (false, eval e X.env) :: starEach es X.env := by rfl) (hpl : (backTo pos (starEach es X.env)).any (·.1) = false := by rfl) :
    PE X (.Call (.Name x p) (e :: es) [] pos) (tCallS sp (fun _ => E0) t) := by
  obtain ⟨f, fd, h1, h2, h3, h4⟩ := F.ex
  exact L2H.pe_callH h4 hr hc hg h1 h2 h3 (fun _ _ _ _ _ _ _ h => h.elim) ha hdb he hpl
theorem FunD_okH {P : Program} {w : World} {K : PySem.W.Frag} {mg : Str → Option Value} {base : Heap} {x qual : Str} {params : Arguments} {body : List Stmt} {scope : Scope} {dvs : List V} {kws : List (Str × V)} {f : Addr} {fd : FuncData} {CX : CXT} {N ps : List Str} {k : Nat} {sp : Sp}
    (F : FunD K x qual params body scope dvs kws f fd) (S : FnScope N ps scope) (len : ∀ vs H Q E, sp vs H Q E → vs.length = ps.length)
    (hb : ∀ (cdv : Value) (A : Around) (outer : List Env) (s : Shared) (H : Hp) (vs : List V) (Q : VK) (E : XK) (p : Addr × Obj), L2H.HotC (L2H.cxH CX P w K mg base N qual scope f cdv A outer s H E p) → L2H.RoomH k (A.deeper (envOfC qual scope s.heap.objs.size f cdv)) → sp vs H Q E →
      ∃ t, PSs (L2H.cxH CX P w K mg base N qual scope f cdv A outer s H E p) body t ∧ t ⟨fun _ H' => Q .non H', Q, fun _ _ => False, fun _ _ => False⟩ (start N vs) H) : L2H.FnH P w K mg base CX (k + 1) f fd ps sp := Hsh.un (by simp (disch := k_dflt (
  refine Hsh.up ?_
  obtain ⟨oc, od, dV, kV, doc, pm, an, cdv, ct, osl, rfl, lk, hcd, _, _⟩ := F.ex
  refine L2H.fn_ofH lk hcd S len fun A outer s H vs Q E p hot hr hsp => hb cdv A outer s H vs Q E p ⟨p, ?_, List.mem_singleton.mpr rfl⟩ hr hsp
  exact hot
  )) only [↓Hsh.on])
/-! ### xs[a:b] = ys -/
def slE (x v : V) (a c : Option Int) (H : Hp) (P : Hp → Prop) : Prop := ∃ (l b : Addr) (xs ys : List V) (i j : Int), x = .ref l ∧ v = .ref b ∧ a = some i ∧ c = some j ∧ H l = some (.lst xs) ∧ H b = some (.lst ys) ∧ l ≠ b ∧ 0 ≤ i ∧ i ≤ j ∧ j ≤ xs.length ∧ xs.length + ys.length ≤ sizeLine ∧ P (upd H l (.lst (xs.take i.toNat ++ ys ++ xs.drop j.toNat)))
def gSl (to : TE) (tl th : TO) : TG := fun v σ H S => to σ H fun x H1 => tl σ H1 fun a H2 => th σ H2 fun c H3 => slE x v a c H3 fun H4 => S σ H4
theorem pg_slice {X : Cx} {o : Expr} {lo hi : Option Expr} {to : TE} {tl th : TO} {p2 pos : Pos} (ho : PE X o to) (hl : PO X lo tl) (hh : PO X hi th)
    (ha : ∀ v, assign (.Subscript o (.Slice lo hi none p2) pos) X.env v = (do
      let ov ← holding [v] (eval o X.env)
      let iv ← holding [v, ov] (eval (.Slice lo hi none p2) X.env)
      standAt pos
      holding [v, ov, iv] (setItem ov iv v)
      release [iv, v, ov] []) := by intro _; rfl) : PG X (.Subscript o (.Slice lo hi none p2) pos) (gSl to tl th) := by
  refine ⟨fun pins s σ H v u Q I r h => ?_⟩
  rw [ha]
  refine wpAny_bind (wpAny_holding (thn (ho.run pins s σ H _ I h) fun ov s1 ⟨x, H1, I1, r1, q1⟩ => ?_))
  refine wpAny_bind (wpAny_holding (wpAny_Slice (thn (hl.run pins s1 σ H1 _ I1 q1) fun vl s2 ⟨a, H2, I2, pl, q2⟩ => thn (hh.run pins s2 σ H2 _ I2 q2) fun vu s3 ⟨c, H3, I3, pu, q3⟩ => ?_)))
  rw [evalPart_none]
  refine wpAny_pure ?_
  obtain ⟨l, b, xs, ys, i, j, rfl, rfl, rfl, rfl, hx, hy, ne, h0, h1, h2, hz, q⟩ := q3
  cases r1
  cases r
  have I4 : Inv X pins σ H3 { s3 with heap := s3.heap.push { cls := .type "slice", data := .fields #[vl, vu, .none] } } := I3.kept (t' := s3.toks) fun b ob q => Heap.get?_push_of_some _ q
  refine wpAny_bind (wpAny_standAt (wpAny_bind (wpAny_holding (set_slice I4 hx hy ne (Heap.IsSliceOf.new ..) ?_ ?_ h0 h1 h2 hz fun s5 I5 => wpAny_release ⟨σ, _, I5, q⟩))))
  · cases pl
    exact ⟨_, rfl⟩
  · cases pu
    exact ⟨_, rfl⟩
theorem s_gSl {to : TE} {tl th : TO} {v : V} {σ : L2.St} {H : Hp} {S : L2.St → Hp → Prop} (h : to σ H fun x H1 => tl σ H1 fun a H2 => th σ H2 fun c H3 => slE x v a c H3 fun H4 => S σ H4) : gSl to tl th v σ H S := h
theorem h_slE {A : List Addr} {H0 H : Hp} {L L' : List Cell} {P : Hp → Prop} {i : Nat} {l b : Addr} {xs ys zs : List V} {a c : Int} (S : SH A H0 H L) (e : L[i]? = some (l, .lst xs)) (hb : H b = some (.lst ys)) (ne : l ≠ b) (h0 : 0 ≤ a) (h1 : a ≤ c) (h2 : c ≤ xs.length) (hz : xs.length + ys.length ≤ sizeLine)
    (ez : xs.take a.toNat ++ ys ++ xs.drop c.toNat = zs) (eL : L.set i (l, .lst zs) = L') (k : ∀ H', SH A H0 H' L' → P H') : slE (.ref l) (.ref b) (some a) (some c) H P :=
  ⟨l, b, xs, ys, a, c, rfl, rfl, rfl, rfl, S.get i e, hb, ne, h0, h1, h2, hz, by rw [ez]; exact k _ (eL ▸ S.set i e rfl _)⟩
/-! ### dicts with texts as keys, in the ledger -/
def dgetE (x y : V) (H : Hp) (Q : VK) : Prop := ∃ a v, x = .ref a ∧ DGet H a y (some v) ∧ Q v H
def dputE (x y v : V) (H : Hp) (P : Hp → Prop) : Prop := ∃ a H', x = .ref a ∧ DPut H a y v H' ∧ P H'
def dispE (p : Addr) (ps : List (V × V)) (H : Hp) (Q : VK) : Prop := H p = some (.dK []) ∧ ∃ kvs : List (L2.Key × V), ps = kvs.map (fun kv => (kV kv.1, kv.2)) ∧ kvs.length ≤ 15 ∧ Q (.ref p) (upd H p (.dK (mergeK [] kvs)))
def toKey : V → L2.Key
  | .str z => .inr z
  | .int i => .inl i
  | _ => .inl 0
section
variable {A : List Addr} {H0 H : Hp} {L L' : List Cell} {Q : VK} {P : Hp → Prop} {σ : L2.St} {v : V} {td ty tv : TE} {n b c : L2.St → Hp → Prop} {r : VK}
theorem s_dget (h : td σ H fun x H1 => ty σ H1 fun y H2 => dgetE x y H2 Q) : tDGet td ty σ H Q := h
theorem h_dget {a : Addr} {kvs : List (L2.Key × V)} {z : Str} (h : H a = some (.dK kvs)) (e : valV kvs (.inr z) = some v) (q : Q v H) : dgetE (.ref a) (.str z) H Q := ⟨a, v, rfl, e ▸ DGet.k (k := .inr z) h, q⟩
theorem s_dput (h : tv σ H fun v H1 => td σ H1 fun x H2 => ty σ H2 fun y H3 => dputE x y v H3 fun H4 => n σ H4) : sDPut td ty tv ⟨n, r, b, c⟩ σ H := h
theorem h_dput {i : Nat} {a : Addr} {kvs kvs' : List (L2.Key × V)} {z : Str} (S : SH A H0 H L) (e : L[i]? = some (a, .dK kvs)) (hl : kvs.length < sizeLine) (ek : putK kvs (.inr z) v = kvs') (eL : L.set i (a, .dK kvs') = L') (k : ∀ H', SH A H0 H' L' → P H') : dputE (.ref a) (.str z) v H P :=
  ⟨a, _, rfl, DPut.k (k := .inr z) (S.get i e) hl, by rw [ek]; exact k _ (eL ▸ S.set i e rfl _)⟩
theorem h_disp {trs : List (TE × TE)} (S : SH A H0 H L) (h : ∀ p H1, SH A H0 H1 ((p, .dK []) :: L) → tPairs trs σ H1 fun ps H2 => dispE p ps H2 Q) : tDisp trs σ H Q := fun p hp => h p _ (S.new _ hp)
theorem s_pairs0 {R : List (V × V) → Hp → Prop} (h : R [] H) : tPairs [] σ H R := h
theorem s_pairsC {trs : List (TE × TE)} {R : List (V × V) → Hp → Prop} (h : td σ H fun x H1 => tv σ H1 fun y H2 => tPairs trs σ H2 fun ps H3 => R ((x, y) :: ps) H3) : tPairs ((td, tv) :: trs) σ H R := h
theorem h_dispE {i : Nat} {p : Addr} {ps : List (V × V)} {kvs : List (L2.Key × V)} (S : SH A H0 H L) (e : L[i]? = some (p, .dK [])) (hl : ps.length ≤ 15) (ep : ps = (ps.map fun q => (toKey q.1, q.2)).map fun kv => (kV kv.1, kv.2)) (ek : mergeK [] (ps.map fun q => (toKey q.1, q.2)) = kvs) (eL : L.set i (p, .dK kvs) = L') (k : ∀ H', SH A H0 H' L' → Q (.ref p) H') : dispE p ps H Q :=
  ⟨S.get i e, _, ep, by rw [List.length_map]; exact hl, by rw [ek]; exact k _ (eL ▸ S.set i e rfl _)⟩
end
theorem hu1 {u : Nat} (h : u + 64 < cLine) : u + 1 < cLine := by omega
theorem hu_hot {k : Nat} {A : Around} (hr : L2H.RoomH k A) : A.units + 64 < cLine := by have := hr.un; omega
theorem cxKH {CX : CXT} {P : Program} {w : World} {K : PySem.W.Frag} {mg : Str → Option Value} {base : Heap} {N : List Str} {qual : Str} {scope : Scope} {f : Addr} {cd : Value} {A : Around} {outer : List Env} {s : Shared} {H : Hp} {E : XK} {p : Addr × Obj} :
    (L2H.cxH CX P w K mg base N qual scope f cd A outer s H E p).nox.K = K := rfl
theorem cxKH2 {CX : CXT} {P : Program} {w : World} {K : PySem.W.Frag} {mg : Str → Option Value} {base : Heap} {N : List Str} {qual : Str} {scope : Scope} {f : Addr} {cd : Value} {A : Around} {outer : List Env} {s : Shared} {H : Hp} {E : XK} {p : Addr × Obj} :
    (L2H.cxH CX P w K mg base N qual scope f cd A outer s H E p).K = K := rfl
end Q
set_option Elab.async false
set_option linter.all false
set_option maxRecDepth 100000
set_option maxHeartbeats 4000000
/-! Dicts of ints as rows; comprehensions over a range with tests; a list turned round. -/
namespace Q
open PySem PySem.Spec PyProof.Rows L2
section
variable {A : List Addr} {H0 H : Hp} {L L' : List Cell} {Q : VK} {P : Hp → Prop} {v : V} {σ : L2.St} {K : PySem.W.Frag} {te tb : TE} {ta : TA}
def lcRG (vs : List Nat) (g : TG) (tt : TT) (us : List V) (te : TE) (σ : L2.St) (H : Hp) (Q : VK) : Prop := ∃ j : Int, us = [.int j] ∧ -(2 ^ 62) ≤ j ∧ j < 2 ^ 62 ∧ tLc (fun _ H k => k (Itr 0 j.toNat) H) g tt te vs σ H Q
theorem s_lcRG {g : TG} {tt : TT} {vs : List Nat} (h : ta σ H fun us H1 => lcRG vs g tt us te σ H1 Q) : tLc (iRng1 ta) g tt te vs σ H Q := h
theorem u_lcRG {g : TG} {tt : TT} {vs : List Nat} {j : Int} (hS : SH A H0 H L) (Pv : Addr → Nat → Hp → Prop) (lo : -(2 ^ 62) ≤ j) (hi : j < 2 ^ 62) (h0 : ∀ D H', SH A H0 H' ((D, .lst []) :: L) → Pv D 0 H')
    (hs : ∀ D (k : Nat) H, (k : Int) < j → Pv D k H → g (.int k) (wipe σ vs) H fun σ2 H2 => wipe σ2 vs = wipe σ vs ∧ tt σ2 H2 fun b H3 => if b = true then te σ2 H3 (lcEnd D (Pv D (k + 1))) else Pv D (k + 1) H3) (hd : ∀ D H, Pv D j.toNat H → Q (.ref D) H) : lcRG vs g tt [.int j] te σ H Q := Hsh.un (by simp (disch := k_dflt (
  refine Hsh.up ?_
  refine ⟨j, rfl, lo, hi, fun D hD => ?_⟩
  refine lc_range (Pv D) (h0 D _ (hS.new _ hD)) (fun k H hk p => ?_) (fun H p => hd D H p)
  rw [show (0 : Int) + (k : Int) = (k : Int) by omega]
  exact hs D k H (by omega) p
  )) only [↓Hsh.on])
/-! ### rows: dicts of ints with True -/
def rowK (r : List Int) : List (L2.Key × V) := r.map fun n => (.inl n, .bl true)
abbrev rowO (r : List Int) : HO := .dK (rowK r)
def addK (r : List Int) (n : Int) : List Int := if n ∈ r then r else r ++ [n]
theorem rowK_len (r : List Int) : (rowK r).length = r.length := List.length_map _
theorem put_row (r : List Int) (n : Int) : putK (rowK r) (.inl n) (.bl true) = rowK (addK r n) := Hsh.un (by simp (disch := k_dflt (
  refine Hsh.up ?_
  unfold putK rowK addK
  by_cases h : n ∈ r
  · rw [if_pos h, if_pos, List.map_map]
    · apply List.map_congr_left
      intro m _
      show (if (Sum.inl m : L2.Key) = Sum.inl n then ((Sum.inl m : L2.Key), V.bl true) else (Sum.inl m, V.bl true)) = _
      split <;> rfl
    · rw [List.any_eq_true]
      exact ⟨_, List.mem_map_of_mem h, decide_eq_true rfl⟩
  · rw [if_neg h, if_neg, List.map_append]
    · rfl
    · intro z
      obtain ⟨kv, hm, e⟩ := List.any_eq_true.mp z
      obtain ⟨m, hm2, rfl⟩ := List.mem_map.mp hm
      exact h (Sum.inl.inj (of_decide_eq_true e) ▸ hm2)
  )) only [↓Hsh.on])
theorem s_lenD {a : Addr} {kvs : List (L2.Key × V)} (h : H a = some (.dK kvs)) (q : Q (.int (kvs.length : Nat)) H) : (fun (xs : List V) (H : Hp) (Q : VK) => ∃ a kvs, xs = [V.ref a] ∧ H a = some (.dK kvs) ∧ Q (.int kvs.length) H) [.ref a] H Q := ⟨a, kvs, rfl, h, q⟩
def rLenD : List V → Hp → VK → Prop := fun xs H Q => ∃ a r, xs = [V.ref a] ∧ H a = some (rowO r) ∧ Q (.int (r.length : Nat)) H
theorem x_lenD {X : Cx} : CallR X (.builtin "len") rLenD := Hsh.un (by simp (disch := k_dflt (
  refine Hsh.up ?_
  intro pins s σ H xs us Q I r q
  obtain ⟨a, w, rfl, h, q⟩ := q
  exact call_lenD pins s σ H _ us Q I r ⟨a, _, rfl, h, by rw [rowK_len]; exact q⟩
  )) only [↓Hsh.on])
def rListRow : List V → Hp → VK → Prop := fun xs H Q => ∃ a r, xs = [V.ref a] ∧ H a = some (rowO r) ∧ newO (.lst (r.map V.int)) 0 H Q
theorem x_listD {X : Cx} (hc : X.calm = true) : CallR X (.type "list") rListRow := Hsh.un (by simp (disch := k_dflt (
  refine Hsh.up ?_
  intro pins s σ H xs us Q I r q
  obtain ⟨a, w, rfl, h, q⟩ := q
  refine call_listD hc pins s σ H _ us Q I r ⟨a, _, rfl, .inl h, fun p hp => ?_⟩
  rw [show (rowK w).map (fun kv => kV kv.1) = w.map V.int by unfold rowK; rw [List.map_map]; rfl]
  exact q.2 p hp
  )) only [↓Hsh.on])
def rSortRow : List V → Hp → VK → Prop := fun xs H Q => ∃ a r, xs = [V.ref a] ∧ H a = some (rowO r) ∧ r.length < 64 ∧ ∀ (ys : List Int), ys.Perm r → ys.Pairwise (· ≤ ·) → newO (.lst (ys.map V.int)) 0 H Q
theorem x_sortedD {X : Cx} (hc : X.calm = true) : CallR X (.builtin "sorted") rSortRow := Hsh.un (by simp (disch := k_dflt (
  refine Hsh.up ?_
  intro pins s σ H xs us Q I r q
  obtain ⟨a, w, rfl, h, h64, q⟩ := q
  exact call_sortedDI hc pins s σ H _ us Q I r ⟨a, _, w, rfl, .inl h, by unfold rowK; rw [List.map_map]; rfl, h64, fun ys p h1 h2 hp => (q ys h1 h2).2 p hp⟩
  )) only [↓Hsh.on])
theorem s_lenRow {a : Addr} {r : List Int} (h : H a = some (rowO r)) (q : Q (.int (r.length : Nat)) H) : rLenD [.ref a] H Q := ⟨a, r, rfl, h, q⟩
theorem s_listRow {a : Addr} {r : List Int} (h : H a = some (rowO r)) (q : newO (.lst (r.map V.int)) 0 H Q) : rListRow [.ref a] H Q := ⟨a, r, rfl, h, q⟩
theorem s_sortRow {a : Addr} {r : List Int} (h : H a = some (rowO r)) (hl : r.length < 64) (q : ∀ (ys : List Int), ys.Perm r → ys.Pairwise (· ≤ ·) → newO (.lst (ys.map V.int)) 0 H Q) : rSortRow [.ref a] H Q := ⟨a, r, rfl, h, hl, q⟩
theorem h_dputI {i : Nat} {a : Addr} {r : List Int} {n : Int} (S : SH A H0 H L) (e : L[i]? = some (a, rowO r)) (hl : r.length < sizeLine) (k : ∀ H', SH A H0 H' (L.set i (a, rowO (addK r n))) → P H') : dputE (.ref a) (.int n) (.bl true) H P :=
  ⟨a, _, rfl, DPut.k (k := .inl n) (S.get i e) (by rw [rowK_len]; exact hl), by rw [put_row]; exact k _ (S.set i e rfl _)⟩
theorem h_new0 {D : Addr → Hp → Prop} (S : SH A H0 H L) (h : ∀ p H', SH A H0 H' ((p, .dK []) :: L) → Q (.ref p) H') : tDNewK σ H Q := fun p hp => h p _ (S.new _ hp)
/-! ### a list turned round -/
def revE (K : PySem.W.Frag) (x : V) (H : Hp) (Q : VK) : Prop := ∃ a xs, x = .ref a ∧ SqL K H a xs ∧ newO (.lst xs.reverse) 0 H Q
theorem s_revL (h : te σ H fun x H1 => revE K x H1 Q) : tRevL K te σ H Q := Hsh.un (by simp (disch := k_dflt (
  refine Hsh.up ?_
  unfold tRevL
  have e : (fun x H1 => revE K x H1 Q) = fun x H1 => ∃ a xs, x = .ref a ∧ SqL K H1 a xs ∧ (0 ≤ sizeLine ∧ ∀ p, H1 p = none → Q (.ref p) (upd H1 p (.lst xs.reverse))) := rfl
  rw [e] at h
  have e2 : (fun (x : V) (H1 : Hp) => ∃ a xs, x = .ref a ∧ SqL K H1 a xs ∧ (0 ≤ sizeLine ∧ ∀ p, H1 p = none → Q (.ref p) (upd H1 p (.lst xs.reverse)))) = fun x H1 => ∃ a xs, x = .ref a ∧ SqL K H1 a xs ∧ ∀ p, H1 p = none → Q (.ref p) (upd H1 p (.lst xs.reverse)) := by
    funext x H1
    exact propext ⟨fun ⟨a, xs, h1, h2, h3⟩ => ⟨a, xs, h1, h2, h3.2⟩, fun ⟨a, xs, h1, h2, h3⟩ => ⟨a, xs, h1, h2, Nat.zero_le _, h3⟩⟩
  rw [e2] at h
  exact h
  )) only [↓Hsh.on])
theorem s_revE {a : Addr} {xs : List V} (h : SqL K H a xs) (q : newO (.lst xs.reverse) 0 H Q) : revE K (.ref a) H Q := ⟨a, xs, rfl, h, q⟩
end
/-! ### list(range(n)) -/
def rgX (x : V) (H : Hp) (Q : VK) : Prop := ∃ n : Int, x = .int n ∧ RgOk 0 n ∧ ∀ q, H q = none → Q (.ref q) (upd H q (.lst (rgV 0 n)))
theorem s_listRg {σ : L2.St} {ta : TE} {H : Hp} {Q : VK} (h : ta σ H fun x H1 => rgX x H1 Q) : tLstRg (tRg1 ta) σ H Q := h
theorem rgV_nat (n : Nat) : rgV 0 (n : Nat) = (List.range n).map fun (i : Nat) => V.int i := by
  unfold rgV
  simp
theorem s_rgX {n : Nat} {H : Hp} {Q : VK} (hn : n ≤ 1000) (q : newO (.lst ((List.range n).map fun (i : Nat) => V.int i)) 0 H Q) : rgX (.int (n : Nat)) H Q :=
  ⟨_, rfl, RgOk.of_le (Int.le_refl 0) (by omega) (by omega) (by omega), by rw [rgV_nat]; exact q.2⟩
theorem set_bls (l : List Bool) (i : Nat) (a : Bool) : (l.map V.bl).set i (.bl a) = (l.set i a).map V.bl := by rw [List.map_set]
theorem atI_bls {bs : List Bool} {i : Int} (h0 : 0 ≤ i) (h1 : i < (bs.map V.bl).length) : atI (bs.map V.bl) i = some (.bl (bs.getD i.toNat false)) := Hsh.un (by simp (disch := k_dflt (
  refine Hsh.up ?_
  rw [List.length_map] at h1
  unfold atI ixN
  rw [if_pos h0, if_pos (by rw [List.length_map]; exact h1)]
  show (bs.map V.bl)[i.toNat]? = _
  rw [List.getElem?_map, List.getD_eq_getElem?_getD, List.getElem?_eq_getElem (by omega)]
  rfl
  )) only [↓Hsh.on])
def mk6 (P : V → V → V → V → V → V → Hp → VK → XK → Prop) : Sp := fun vs H Q E => ∃ a b c d e f, vs = [a, b, c, d, e, f] ∧ P a b c d e f H Q E
theorem mk6_len {P} (vs H Q E) (h : mk6 P vs H Q E) : vs.length = 6 := by obtain ⟨_, _, _, _, _, _, rfl, _⟩ := h; rfl
def mk7 (P : V → V → V → V → V → V → V → Hp → VK → XK → Prop) : Sp := fun vs H Q E => ∃ a b c d e f g, vs = [a, b, c, d, e, f, g] ∧ P a b c d e f g H Q E
theorem mk7_len {P} (vs H Q E) (h : mk7 P vs H Q E) : vs.length = 7 := by obtain ⟨_, _, _, _, _, _, _, rfl, _⟩ := h; rfl
def mk8 (P : V → V → V → V → V → V → V → V → Hp → VK → XK → Prop) : Sp := fun vs H Q E => ∃ a b c d e f g h, vs = [a, b, c, d, e, f, g, h] ∧ P a b c d e f g h H Q E
theorem mk8_len {P} (vs H Q E) (h : mk8 P vs H Q E) : vs.length = 8 := by obtain ⟨_, _, _, _, _, _, _, _, rfl, _⟩ := h; rfl
theorem SH.callE {A : List Addr} {H0 H H' : Hp} {B B2 : List Cell} (S : SH A H0 H B) (C : SH (B.map (·.1)) H H' B2) : SH A H0 H' B2 := by
  have := SH.call (F := []) (by rw [List.append_nil]; exact S) C
  rwa [List.append_nil] at this
theorem SH.old {A : List Addr} {H0 H : Hp} {L : List Cell} {a : Addr} {o : HO} (S : SH A H0 H L) (h : H0 a = some o) (n : a ∉ A) : a ∉ L.map (·.1) := fun z => by
  obtain ⟨c, hc, rfl⟩ := List.mem_map.mp z
  rcases S.ow c hc with w | w
  · exact n w
  · rw [h] at w; cases w
/-- a list grown by one, what else was made forgotten -/
theorem un_sh {A : List Addr} {H0 H H' : Hp} {L0 L' R : List Cell} {cd l : Addr} {cs : List Addr} (hS1 : SH A H0 H L0) (hS : SH (L0.map (·.1)) H H' L') (h : ((cd, HO.lst (cs.map V.ref ++ [V.ref l])) :: R).Sublist L') : SH A H0 H' ((cd, .lst ((cs ++ [l]).map V.ref)) :: R) := by
  rw [List.map_append]
  exact hS1.callE (hS.sub h)
/-! ### for i, x in enumerate(t) of a tuple -/
set_option maxHeartbeats 1000000 in
theorem meets_enumerate_new1 {v : Value} {o : Obj} {H : Heap → Prop} (B : Begins v o H) :
    Meets (Builtin.«enumerate.__new__» ⟨[.type "enumerate", v], []⟩) (fun _ R s => H s.heap ∧
      R (.ok (.ret (.ref (s.heap.push o).objs.size))) { s with heap := (s.heap.push o).push { cls := .type "enumerate", data := .fields #[.none, .bool false, .ref s.heap.objs.size, rawInt 0, .none, .none] } }) :=
  .of_wp fun prog w A R s h => by
    obtain ⟨hp, g, d, tk, os⟩ := s; obtain ⟨h1, h⟩ := h
    have hsub := sub_enumerate
    have q1 : ∀ {A' : Around} {E : Value → Shared → Prop} {Q : Value → Shared → Prop}, Q (.ref hp.objs.size) ⟨hp.push o, g, d, tk, os⟩ → wpAny (model prog w) A' (pyIter v) Q E ⟨hp, g, d, tk, os⟩ :=
      fun q => B.iter prog w _ _ ⟨hp, g, d, tk, os⟩ _ h1 q
    wp_walk using q1
    refine wpAny_stack_any fun st => wpAny_pure ?_
    split
    · rename_i c _ _ _ _ _
      cases (c == Value.type "enumerate")
      · wp_walk using q1
        exact ⟨_, rfl, h⟩
      · wp_walk using q1
        exact ⟨_, rfl, h⟩
    · wp_walk using q1
      exact ⟨_, rfl, h⟩
theorem enum_begins1 {prog : Program} {w : World} {A : Around} {E : Value → Shared → Prop} {s : Shared} {v : Value} {o : Obj} {H : Heap → Prop} {Q : Value → Shared → Prop} (B : Begins v o H) (h1 : H s.heap)
    (h : ∀ h', IsEnum h' (s.heap.objs.size + 1) s.heap.objs.size 0 .none → h'.get? s.heap.objs.size = some o → h'.objs.size = s.heap.objs.size + 2 →
      (∀ b o, s.heap.get? b = some o → h'.get? b = some o) → Q (.ref (s.heap.objs.size + 1)) { s with heap := h' }) :
    wpAny (model prog w) A (call (.type "enumerate") [v]) Q E s := by
  refine callType_new F.called_enumerate (by decide) (F.typeCall_enumerate_1 _) (F.newCall_enumerate_1 _) (fun obj => F.args_object_init_2 obj _) F.entry_enumerate_new
    (meets_enumerate_new1 B) ⟨h1, ?_⟩
  have hz : (s.heap.push o).objs.size = s.heap.objs.size + 1 := Heap.size_push ..
  show _ ∧ _
  rw [hz]
  have he : IsEnum ((s.heap.push o).push { cls := .type "enumerate", data := .fields #[.none, .bool false, .ref s.heap.objs.size, rawInt 0, .none, .none] }) (s.heap.objs.size + 1) s.heap.objs.size 0 .none := by
    have := Heap.get?_push_size (s.heap.push o) (o := { cls := .type "enumerate", data := .fields #[.none, .bool false, .ref s.heap.objs.size, rawInt 0, .none, .none] }) rfl
    rw [hz] at this; exact this
  refine ⟨⟨_, he, rfl⟩, h _ he (Heap.get?_push_of_some _ (Heap.get?_push_size _ B.free)) (by rw [Heap.size_push, hz]) fun b o x => Heap.get?_push_of_some _ (Heap.get?_push_of_some _ x)⟩
theorem pyNext_enumT_end {prog : Program} {w : World} {A : Around} {E : Value → Shared → Prop} {s : Shared} {e it l : Addr} {i : Nat} {items : Array Value} {old : Value} {Q : Option Value → Shared → Prop} (hh : A.handled = none)
    (he : IsEnum s.heap e it i old) (hit : s.heap.IsTupleIter it l i) (hl : s.heap.IsTuple l items) (hx : items[i]? = none)
    (hQ : ∀ h', Heap.ExtBut it s.heap h' → Q none { s with heap := h' }) : wpAny (model prog w) A (pyNext (.ref e)) Q E s := by
  have hT : s.TypeIs (.ref e) "enumerate" := ⟨_, he, rfl⟩
  unfold pyNext
  refine wpAny_bind (wpAny_attempt (wpAny_callSpecial?_slot (name := Str.ofString "__next__") hT F.slot_enumerate_next
    (wpAny_call_entry F.slot_enumerate_next hT F.entry_enumerate_next ?_ (F.args_enumerate_next_1 _))))
  show wpAny _ _ (field (.ref e) 2 >>= _) _ _ _
  refine wpAny_bind (wpAny_field he rfl (x := .ref it) rfl ?_)
  refine wpAny_bind (wpAny_nextOf_tuple_end hh hit hl hx fun h' x he' hx' => ?_)
  obtain ⟨o, ho, hc⟩ := hx'
  refine wpAny_bind (wpAny_isInstance (T := "StopIteration") (b := true) ⟨o, ho, hc⟩ isSubtype_stop ?_)
  exact wpAny_pure (hQ _ he')
def IteT (K : PySem.W.Frag) (a : Addr) : It :=
  ⟨fun i H => ∃ (xs : List V) (x : V), SqT K H a xs ∧ xs[i]? = some x, fun i H v H' => ∃ T x, v = .ref T ∧ H T = none ∧ H' = upd H T (.tup [.int (i : Nat), x]) ∧ ∀ xs, SqT K H a xs → xs[i]? = some x, fun i H => ∃ xs : List V, SqT K H a xs ∧ xs.length ≤ i⟩
theorem turn_enumT {P : Program} {w : World} {K : PySem.W.Frag} {elts : List Expr} {kk : Nat} {tpos : Pos} (a e it : Addr) :
    Turn P w K (.Tuple elts kk tpos) (IteT K a) [e, it] e (fun i h => (∃ old, IsEnum h e it ((i : Nat) : Int) old) ∧ h.IsTupleIter it a i ∧ e ≠ it ∧ a ≠ it ∧ a ≠ e) where
  mem := by simp
  obj := fun i h st b hb => by
    obtain ⟨⟨old, he⟩, ⟨o, ho, hc, hd⟩, _⟩ := st
    have e' : b = e ∨ b = it := by simpa using hb
    rcases e' with z | z
    · rw [z]; exact ⟨_, he, fun v q => nomatch q⟩
    · rw [z]; exact ⟨o, ho, fun v q => by rw [hd] at q; cases q⟩
  keep := fun i h h' st k => let ⟨⟨old, he⟩, hi, hne⟩ := st; ⟨⟨old, k e (by simp) _ he⟩, hi.at fun o q => k it (by simp) o q, hne⟩
  item := by
    intro X hP hw hK hc i pins s σ H E I hf st hg
    subst hP hw hK
    obtain ⟨⟨old, he⟩, hit, hne, hai, hae⟩ := st
    obtain ⟨xs, x, hq, hx⟩ := hg
    obtain ⟨its, rv, p, hz⟩ := I.tuple hq
    obtain ⟨u, hu, ru⟩ := rv.get hx
    have hel : e < s.heap.objs.size := Heap.lt_size he
    have hil : it < s.heap.objs.size := by obtain ⟨_, q, _⟩ := hit; exact Heap.lt_size q
    have hlt : i < its.toArray.size := by
      rw [List.size_toArray]
      exact (List.getElem?_eq_some_iff.mp hu).1
    refine wpAny_pyNext_enum_itemD (Draws.tuple (prog := X.prog) (w := X.w) (A := X.A.in1) (I.ok.hd hc) it a hai its.toArray) he ⟨hit, (show s.heap.IsTuple a its.toArray from p)⟩ hlt hne (by simp [hne, Ne.symm hae]) fun x2 h' tk hx2 ho hit' hT hsz hk => ?_
    have ex : x2 = u := by
      have hx2 : its.toArray[i]? = some x2 := hx2
      rw [List.getElem?_toArray, hu] at hx2
      exact (Option.some.inj hx2).symm
    subst ex
    refine ⟨_, rfl, wpAny_letOwnedTupleGo_enum (s := { s with heap := h', toks := tk + 1 }) ho fun h'' he' sb => ?_⟩
    have hT2 : h''.get? s.heap.objs.size = some { cls := .type "tuple", data := .seq #[.int i tk, x2] } := (sb.2 _ (Nat.ne_of_gt hel)).trans hT
    have new : ObjOk X.prog X.w (upd H s.heap.objs.size (.tup [.int (i : Nat), x])) h'' s.heap.objs.size (.tup [.int (i : Nat), x]) :=
      ⟨by show 2 ≤ sizeLine; decide, [.int i tk, x2], .cons ⟨_, rfl⟩ (.cons ru .nil), ⟨_, hT2, rfl, _, rfl⟩⟩
    have I1 : Inv X pins σ (upd H s.heap.objs.size (.tup [.int (i : Nat), x])) { s with heap := h'', toks := tk + 1 } :=
      I.turnedNew (t' := tk + 1) (ch := [e, it]) (fun b ob hb q => (sb.2 b (fun z => hb (by simp [z]))).trans (hk b ob (fun z => hb (by simp [z])) (fun z => hb (by simp [z])) q)) hf (Nat.le_refl _) new
    refine ⟨.ref s.heap.objs.size, _, I1, rfl, ⟨_, x, rfl, I.hok.fresh (Nat.le_refl _), rfl, fun ys hy => by rw [I.tuple_inj hy hq]; exact hx⟩, ⟨⟨x2, ?_⟩, hit'.1.at fun o q => (sb.2 it (Ne.symm hne)).trans q, hne, hai, hae⟩, fun b hb => ?_⟩
    · have e1 : ((i + 1 : Nat) : Int) = (i : Int) + 1 := by omega
      rw [e1]; exact he'
    · have hb' : b < s.heap.objs.size := by
        have e' : b = e ∨ b = it := by simpa using hb
        rcases e' with z | z
        · rw [z]; exact hel
        · rw [z]; exact hil
      rw [upd_ne (Nat.ne_of_lt hb')]
      exact (hf b hb).1
  done := by
    intro X hP hw hK hc i pins s σ H E I hf st hg
    subst hP hw hK
    obtain ⟨⟨old, he⟩, hit, hne, hai, hae⟩ := st
    obtain ⟨xs, hq, hx⟩ := hg
    obtain ⟨its, rv, p, hz⟩ := I.tuple hq
    obtain ⟨f0, f1, f2, f3, f4, f5⟩ := hf it (by simp)
    have hl := rv.length
    exact pyNext_enumT_end (I.ok.hd hc) he hit (show s.heap.IsTuple a its.toArray from p) (by simp; omega) fun h' eb => ⟨rfl, I.turned (t' := s.toks) (fun b o hb q => eb b o hb q) f0 f1 f3 f4 f5⟩
  self := fun A i s Q E st h => let ⟨⟨_, he⟩, _⟩ := st; wpAny_pyIter_enum he h
def iEnumT (K : PySem.W.Frag) (ta : TA) : TI := fun σ H R => ta σ H fun vs H1 => ∃ a xs, vs = [.ref a] ∧ SqT K H1 a xs ∧ R (IteT K a) H1
theorem pi_enumT {X : Cx} {e : Expr} {ta : TA} {p pos tpos : Pos} {elts : List Expr} {kk : Nat} (hg : Gl X "enumerate") (hm : X.mg "enumerate" = none) (ha : PA X [e] ta) (hs : starEach [e] X.env = [(false, eval e X.env)] := by rfl) :
    PI X (.Tuple elts kk tpos) (.Call (.Name "enumerate" p) [e] [] pos) (iEnumT X.K ta) := by
  refine ⟨fun pins s σ H R I h => ?_⟩
  refine Call_ (ld_blt I hg hm boot_enumerate (PyProof.Rows.callWith_type1 (thn (ha.run pos pins s σ H _ I h) fun us s1 ⟨vs, H1, I1, r1, q1⟩ => ?_) hs rfl))
  obtain ⟨a, xs, ex, hq, q⟩ := q1
  subst ex
  cases r1 with
  | cons r rr =>
    cases rr
    cases r
    obtain ⟨its, rv, p', hz⟩ := I1.tuple hq
    have hp' : s1.heap.IsTuple a its.toArray := p'
    have hal : a < s1.heap.objs.size := by obtain ⟨_, q, _⟩ := hp'; exact Heap.lt_size q
    refine enum_begins1 (begins_tuple a its.toArray) hp' fun h' he hit hsz hk => wpAny_pyIter_enum he ?_
    have I2 : Inv X pins σ H1 { s1 with heap := h' } := I1.kept (t' := s1.toks) hk
    refine ⟨s1.heap.objs.size + 1, [s1.heap.objs.size + 1, s1.heap.objs.size], _, _, H1, rfl, I2, turn_enumT a (s1.heap.objs.size + 1) s1.heap.objs.size, ⟨⟨.none, he⟩, ⟨_, hit, rfl, rfl⟩, Nat.succ_ne_self _, Nat.ne_of_lt hal, Nat.ne_of_lt (Nat.lt_succ_of_lt hal)⟩, fun b hb => ?_, q⟩
    have e' : b = s1.heap.objs.size + 1 ∨ b = s1.heap.objs.size := by simpa using hb
    have hle : s1.heap.objs.size ≤ b := by
      rcases e' with z | z
      · rw [z]; exact Nat.le_add_right _ _
      · rw [z]; exact Nat.le_refl _
    exact I1.fpOk hle (I1.hok.fresh hle)
def forE (K : PySem.W.Frag) (vs : List V) (g : TG) (tb : TS) (D : Ends) (σ : L2.St) (H : Hp) : Prop := ∃ a, vs = [.ref a] ∧ (∃ xs, SqT K H a xs) ∧ loopI (IteT K a) g tb D σ H
theorem s_forE {K : PySem.W.Frag} {σ : L2.St} {H : Hp} {g : TG} {tb : TS} {ta : TA} {D : Ends} (h : ta σ H fun vs H1 => forE K vs g tb D σ H1) : tFor (iEnumT K ta) g tb D σ H := Hsh.un (by simp (disch := k_dflt (
  refine Hsh.up ?_
  unfold tFor iEnumT
  refine (congrArg (ta σ H) ?_).mp h
  funext vs H1
  apply propext
  constructor
  · rintro ⟨a, e, ⟨xs, h1⟩, h2⟩
    exact ⟨a, xs, e, h1, h2⟩
  · rintro ⟨a, xs, e, h1, h2⟩
    exact ⟨a, e, ⟨xs, h1⟩, h2⟩
  )) only [↓Hsh.on])
theorem u_forE {K : PySem.W.Frag} {σ : L2.St} {H : Hp} {g : TG} {tb : TS} {n b c : L2.St → Hp → Prop} {r : VK} {a : Addr} {xs : List V} (Pv : Nat → L2.St → Hp → Prop) (h : SqT K H a xs) (h0 : Pv 0 σ H) (hl : ∀ i σ H, i ≤ xs.length → Pv i σ H → SqT K H a xs)
    (hs : ∀ (i : Nat) (x : V) σ H T, xs[i]? = some x → H T = none → Pv i σ H → g (.ref T) σ (upd H T (.tup [.int (i : Nat), x])) fun σ2 H2 => tb ⟨Pv (i + 1), r, n, Pv (i + 1)⟩ σ2 H2) (hd : ∀ σ H, Pv xs.length σ H → n σ H) : forE K [.ref a] g tb ⟨n, r, b, c⟩ σ H := Hsh.un (by simp (disch := k_dflt (
  refine Hsh.up ?_
  refine ⟨a, rfl, ⟨xs, h⟩, fun i m σ H => m = xs.length - i ∧ i ≤ xs.length ∧ Pv i σ H, ⟨xs.length, by simp, Nat.zero_le _, h0⟩, ?_⟩
  rintro i m σ H ⟨rfl, hi, p⟩
  have q := hl i σ H hi p
  by_cases hlt : i < xs.length
  · refine .inr ⟨⟨xs, xs[i], q, by simp [hlt]⟩, Pv (i + 1), fun σ' H' p' => ⟨xs.length - (i + 1), by omega, rfl, hlt, p'⟩, fun x H' y => ?_⟩
    obtain ⟨T, x, rfl, hT, rfl, y⟩ := y
    exact hs i x σ H T (y xs q) hT p
  · obtain rfl : i = xs.length := by omega
    exact .inl ⟨⟨xs, q, Nat.le_refl _⟩, hd σ H p⟩
  )) only [↓Hsh.on])
end Q
set_option Elab.async false
set_option linter.all false
set_option maxRecDepth 100000
set_option maxHeartbeats 4000000
/-! Constants of a module whose members are tuples or lists of their own. -/
namespace Q
open PySem PySem.Spec PyProof.Rows L2
/-- the i-th member of the row at a -/
def subA (K : PySem.W.Frag) (a : Addr) (i : Nat) : Addr := match K.lookup a with
  | some ⟨_, _, .seq its _, _⟩ => (match its.toList[i]? with
    | some (.ref b) => b
    | _ => 0)
  | _ => 0
/-- the place of what lies at a path within the constant x -/
def pathA (x : Str) (p : List Nat) (K : PySem.W.Frag) : Addr := p.foldl (subA K) (He.ga K x)
def rowAB (c : String) (K : PySem.W.Frag) (p : PySem.W.Frag → Addr) (vs : List He.Dv) : Bool := match K.lookup (p K) with
  | some ⟨.type d, none, .seq its _, _⟩ => decide (d = c) && (decide (its.size ≤ sizeLine) && He.relAll (vs.map (He.Dv.v K)) its.toList)
  | _ => false
theorem rowAB_ok {c : String} {K : PySem.W.Frag} {p : PySem.W.Frag → Addr} {vs : List He.Dv} (h : rowAB c K p vs = true) :
    ∃ (o : Obj) (its : Array Value) (n : Nat), K.lookup (p K) = some o ∧ o.cls = .type c ∧ o.dict = none ∧ o.data = .seq its n ∧ its.size ≤ sizeLine ∧ Vals (vs.map (He.Dv.v K)) its.toList := Hsh.un (by simp (disch := k_dflt (
  refine Hsh.up ?_
  unfold rowAB at h
  cases q : K.lookup (p K) with
  | none => rw [q] at h; cases h
  | some o =>
    obtain ⟨oc, od, dt, osl⟩ := o
    rw [q] at h
    cases oc with
    | type d =>
      cases od with
      | none =>
        cases dt with
        | seq its n =>
          have h' : (decide (d = c) && (decide (its.size ≤ sizeLine) && He.relAll (vs.map (He.Dv.v K)) its.toList)) = true := h
          rw [Bool.and_eq_true, Bool.and_eq_true] at h'
          exact ⟨_, its, n, rfl, congrArg Value.type (of_decide_eq_true h'.1), rfl, rfl, of_decide_eq_true h'.2.1, He.relAll_ok h'.2.2⟩
        | _ => cases h
      | some a => cases dt <;> cases h
    | _ => cases od <;> cases dt <;> cases h
  )) only [↓Hsh.on])
theorem tupAB_ok {K : PySem.W.Frag} {p : PySem.W.Frag → Addr} {vs : List He.Dv} (h : rowAB "tuple" K p vs = true) (H : Hp) : SqT K H (p K) (vs.map (He.Dv.v K)) := by
  obtain ⟨o, its, n, h1, h2, _, h4, h5, h6⟩ := rowAB_ok h
  exact .inr ⟨o, its, n, h1, h2, h4, h5, h6⟩
theorem lstAB_ok {K : PySem.W.Frag} {p : PySem.W.Frag → Addr} {vs : List He.Dv} (h : rowAB "list" K p vs = true) (H : Hp) : SqL K H (p K) (vs.map (He.Dv.v K)) := .inr (rowAB_ok h)
/-- a list of the module, to the right of a + -/
def KLst (K : PySem.W.Frag) (a : Addr) (xs : List V) : Prop := ∃ (its : Array Value) (n : Nat), K.lookup a = some { cls := .type "list", data := .seq its n } ∧ its.size ≤ sizeLine ∧ Vals xs its.toList
def klstB (K : PySem.W.Frag) (p : PySem.W.Frag → Addr) (vs : List He.Dv) : Bool := match K.lookup (p K) with
  | some ⟨.type d, none, .seq its _, sl⟩ => decide (d = "list") && (sl.isEmpty && (decide (its.size ≤ sizeLine) && He.relAll (vs.map (He.Dv.v K)) its.toList))
  | _ => false
theorem klstB_ok {K : PySem.W.Frag} {p : PySem.W.Frag → Addr} {vs : List He.Dv} (h : klstB K p vs = true) : KLst K (p K) (vs.map (He.Dv.v K)) := Hsh.un (by simp (disch := k_dflt (
  refine Hsh.up ?_
  unfold klstB at h
  unfold KLst
  cases q : K.lookup (p K) with
  | none => rw [q] at h; cases h
  | some o =>
    obtain ⟨oc, od, dt, osl⟩ := o
    rw [q] at h
    cases oc with
    | type d =>
      cases od with
      | none =>
        cases dt with
        | seq its n =>
          have h' : (decide (d = "list") && (osl.isEmpty && (decide (its.size ≤ sizeLine) && He.relAll (vs.map (He.Dv.v K)) its.toList))) = true := h
          rw [Bool.and_eq_true, Bool.and_eq_true, Bool.and_eq_true] at h'
          obtain ⟨h1, h2, h3, h4⟩ := h'
          have h1 : d = "list" := of_decide_eq_true h1
          have h2 : osl = #[] := by simpa using h2
          subst h1 h2
          exact ⟨its, n, rfl, of_decide_eq_true h3, He.relAll_ok h4⟩
        | _ => cases h
      | some a => cases dt <;> cases h
    | _ => cases od <;> cases dt <;> cases h
  )) only [↓Hsh.on])
def rCatK (K : PySem.W.Frag) : R2 := fun x y H Q => ∃ l b xs zs, x = .ref l ∧ y = .ref b ∧ H l = some (.lst xs) ∧ KLst K b zs ∧ xs.length + zs.length ≤ sizeLine ∧ ∀ p, H p = none → Q (.ref p) (upd H p (.lst (xs ++ zs)))
theorem op_catK {X : Cx} : OpR X (binaryOp .Add) (rCatK X.K) := Hsh.un (by simp (disch := k_dflt (
  refine Hsh.up ?_
  intro pins s σ H x y v u Q I rx ry h
  obtain ⟨l, b, xs, zs, rfl, rfl, hH, hB, hz, q⟩ := h
  cases rx
  cases ry
  obtain ⟨z, its, n, r, hl, e⟩ := I.lstM hH
  obtain ⟨its2, n2, hk, _, r2⟩ := hB
  have hl2 := r2.length
  have e2 := I.kIn _ _ hk
  refine PySem.P.add_list e e2 ?_ (by rw [List.size_toArray]; have := Array.length_toList (xs := its2); omega)
  have ea : its.toArray ++ its2 = (its ++ its2.toList).toArray := by simp
  rw [ea]
  exact ⟨.ref _, _, I.lnew (t' := s.toks) (r.append r2) (by rw [List.length_append]; omega), rfl, q _ I.fresh⟩
  )) only [↓Hsh.on])
theorem s_catK {K : PySem.W.Frag} {H : Hp} {Q : VK} {l b : Addr} {xs zs ys : List V} (h1 : H l = some (.lst xs)) (h2 : KLst K b zs) (c : xs.length + zs.length ≤ sizeLine) (e : xs ++ zs = ys) (h : newO (.lst ys) 0 H Q) : rCatK K (.ref l) (.ref b) H Q :=
  ⟨l, b, xs, zs, rfl, rfl, h1, h2, c, fun p hp => by rw [e]; exact h.2 p hp⟩
end Q

namespace Law
open PySem L2 Q
/-! words: one step; arithmetic; a heap fact; a sequence -/
set_option hygiene false
local macro_rules | `(tactic| walk_at "ar") => `(tactic| first | (with_reducible assumption) | omega | decide | (constructor <;> omega) | (simp only [List.length_cons, List.length_nil, List.length_append, List.length_map, List.length_replicate, List.length_set] at *; omega))
local macro_rules | `(tactic| walk_at "sz") => `(tactic| first | exact Nat.le_of_ble_eq_true rfl | (rw [sizeLine_eq]; first | omega | (simp only [List.length_cons, List.length_nil, List.length_append, List.length_map, List.length_replicate, List.length_set]; omega)))
local macro_rules | `(tactic| walk_at "szs") => `(tactic| first | (rw [sizeLine_eq]; first | decide +kernel | omega) | walk_at "sz")
local macro_rules | `(tactic| walk_at "ix") => `(tactic| first | exact (rfl : (_ : List Cell)[0]? = _) | exact (rfl : (_ : List Cell)[1]? = _) | exact (rfl : (_ : List Cell)[2]? = _) | exact (rfl : (_ : List Cell)[3]? = _) | exact (rfl : (_ : List Cell)[4]? = _) | exact (rfl : (_ : List Cell)[5]? = _) | exact (rfl : (_ : List Cell)[6]? = _) | exact (rfl : (_ : List Cell)[7]? = _) | exact (rfl : (_ : List Cell)[8]? = _) | exact (rfl : (_ : List Cell)[9]? = _) | exact (rfl : (_ : List Cell)[10]? = _) | exact (rfl : (_ : List Cell)[11]? = _) | exact (rfl : (_ : List Cell)[12]? = _) | exact (rfl : (_ : List Cell)[13]? = _) | exact (rfl : (_ : List Cell)[14]? = _) | exact (rfl : (_ : List Cell)[15]? = _) | exact (rfl : (_ : List Cell)[16]? = _) | exact (rfl : (_ : List Cell)[17]? = _) | exact (rfl : (_ : List Cell)[18]? = _) | exact (rfl : (_ : List Cell)[19]? = _))
local macro_rules | `(tactic| walk_at "hp") => `(tactic| first | assumption | exact hS.get 0 rfl | exact hS.get 1 rfl | exact hS.get 2 rfl | exact hS.get 3 rfl | exact hS.get 4 rfl | exact hS.get 5 rfl | exact hS.get 6 rfl | exact hS.get 7 rfl | exact hS.get 8 rfl | exact hS.get 9 rfl | exact hS.get 10 rfl | exact hS.get 11 rfl | exact hS.get 12 rfl | exact hS.get 13 rfl | exact hS.get 14 rfl | exact hS.get 15 rfl | exact hS.ro (by assumption) | exact hS.imm (by assumption) rfl)
local macro_rules | `(tactic| walk_at "sq") => `(tactic| first | exact SqL.of (by walk_at "hp") | exact SqT.of (by walk_at "hp") | exact Scr.sq (Scr.keep (by assumption) hS.kp) | assumption | exact SqT_keep (by assumption) hS.kp)
local macro_rules | `(tactic| walk_at "lit") => `(tactic| first | exact atI_lit 0 (by omega) rfl | exact atI_lit 1 (by omega) rfl | exact atI_lit 2 (by omega) rfl | exact atI_lit 3 (by omega) rfl | exact atI_lit 4 (by omega) rfl | exact atI_lit 5 (by omega) rfl | exact atI_lit 6 (by omega) rfl | exact atI_lit 7 (by omega) rfl)
local macro_rules | `(tactic| walk_at "at") => `(tactic| first | exact rfl | exact atI_ints (by walk_at "ar") (by walk_at "ar") | exact atI_strs (by walk_at "ar") (by walk_at "ar") | exact atI_refs (by walk_at "ar") (by walk_at "ar") | walk_at "lit" | exact atI_ilit (by walk_at "ar") (by walk_at "ar") rfl | exact atI_in (by walk_at "ar") (by walk_at "ar"))
local macro_rules | `(tactic| walk_at "ij") => `(tactic| first | exact rfl | exact ixN_in (by walk_at "ar") (by walk_at "ar"))
local macro_rules | `(tactic| walk_at "ls") => `(tactic| first | ((try simp only [List.set_cons_zero, List.set_cons_succ, set_ints]); exact rfl))
local macro_rules | `(tactic| walk_at "sl") => `(tactic| repeat (first | exact List.Sublist.refl _ | refine List.Sublist.cons_cons _ ?_ | refine List.Sublist.cons _ ?_))
local macro_rules | `(tactic| walk_at "cl") => `(tactic| assumption)
local macro_rules | `(tactic| walk_at "na") => `(tactic| assumption)
local macro_rules | `(tactic| walk_at "pf") => `(tactic| first
  | (apply pf_new; (· exact rfl); (· (simp only [List.cons_append, List.nil_append]; exact rfl)))
  | (apply pf_set 0; (· exact rfl); (· walk_at "ls")) | (apply pf_set 1; (· exact rfl); (· walk_at "ls")) | (apply pf_set 2; (· exact rfl); (· walk_at "ls")) | (apply pf_set 3; (· exact rfl); (· walk_at "ls"))
  | (apply pf_set 4; (· exact rfl); (· walk_at "ls")) | (apply pf_set 5; (· exact rfl); (· walk_at "ls")) | (apply pf_set 6; (· exact rfl); (· walk_at "ls")) | (apply pf_set 7; (· exact rfl); (· walk_at "ls")))
local macro_rules | `(tactic| walk_at "nw") => `(tactic| (clear hS; rename SH _ _ _ _ => hS))
local macro_rules | `(tactic| walk_at "pv") => `(tactic| first | exact rfl | exact last_snoc _ _ | assumption)
local macro_rules | `(tactic| walk_at "dl") => `(tactic| first | (simp only [List.dropLast_concat]; exact rfl) | exact rfl)
local macro_rules | `(tactic| walk_at "tri") => `(tactic| first | rfl | decide | (exfalso; omega))
local macro_rules | `(tactic| walk_at "ty") => `(tactic| first | exact .base .non | exact .base (.bl _) | exact .base (.int _) | exact .base (.str _) | exact .base (.lst (by walk_at "hp")) | exact .base (.tup (by walk_at "hp")) | exact .base (.dK (by walk_at "hp")) | exact tyT (by walk_at "sq") | exact tyL (by walk_at "sq"))
local macro_rules | `(tactic| walk_at "dp") => `(tactic| first | exact .non | exact .bl _ | exact .int _ | exact .str _ | (apply Dp.lst; (· walk_at "sq"); (· walk_at "dps")) | (apply Dp.tup; (· walk_at "sq"); (· walk_at "dps")))
local macro_rules | `(tactic| walk_at "dps") => `(tactic| first | exact DpAll.nil | (apply DpAll.cons; (· walk_at "dp"); (· walk_at "dps")))
local macro_rules | `(tactic| walk_at "st") => `(tactic| first
  | (with_reducible refine s_seq ?_)
  | (with_reducible refine s_try ?_)
  | (with_reducible refine s_callS ?_)
  | ((with_reducible refine s_raise ?_); (try dsimp only))
  | ((with_reducible apply s_wGn); (· walk_at "em"))
  | ((with_reducible apply s_wGy); (· walk_at "em"); intro ea hea)
  | ((with_reducible apply s_wGa); (· walk_at "em"); (intro ea hea; (try simp only [List.set_cons_succ, List.set_cons_zero])))
  | ((with_reducible apply s_isE); (· walk_at "ec"); (· walk_at "ki"))
  | ((with_reducible apply s_isEt); (· walk_at "ec"); (· walk_at "ki"))
  | ((with_reducible apply s_ixD); (· walk_at "dk"))
  | ((with_reducible show tVar _ _ _ _); refine s_var rfl ?_)
  | (with_reducible refine s_C ?_)
  | (with_reducible refine s_op ?_)
  | (with_reducible refine s_asg ?_)
  | ((with_reducible apply s_gname); (· walk_at "ls"))
  | (with_reducible refine s_gsub ?_)
  | (with_reducible refine s_ifS ?_)
  | (with_reducible refine s_next ?_)
  | (with_reducible refine s_ret ?_)
  | (with_reducible refine s_retN ?_)
  | (with_reducible refine s_drop ?_)
  | (with_reducible refine s_test ?_)
  | (with_reducible refine s_tB ?_)
  | (with_reducible refine s_bl ?_)
  | ((with_reducible apply s_ixL); (· walk_at "sq"); (· walk_at "at"))
  | ((with_reducible apply s_ixT); (· walk_at "sq"); (· walk_at "at"))
  | (with_reducible refine s_addI ?_)
  | (with_reducible refine s_rI0 ?_)
  | ((with_reducible apply s_addS); (· walk_at "szs"))
  | ((with_reducible apply s_inT0); (· walk_at "sq"); (· rfl); (· rfl))
  | ((with_reducible apply s_inL0); (· walk_at "sq"); (· rfl); (· rfl))
  | ((with_reducible apply s_niT0); (· walk_at "sq"); (· rfl); (· rfl))
  | ((with_reducible apply s_niL0); (· walk_at "sq"); (· rfl); (· rfl))
  | ((with_reducible refine s_mulR ?_ ?_); (· walk_at "ar"))
  | ((with_reducible refine s_mulL ?_ ?_); (· walk_at "ar"))
  | ((with_reducible refine s_mod ?_ ?_); (· walk_at "ar"))
  | ((with_reducible refine s_div ?_ ?_ ?_); (· walk_at "ar"); (· walk_at "ar"))
  | ((with_reducible refine s_divX ?_ ?_ ?_); (· walk_at "ar"); (· walk_at "ar"))
  | ((with_reducible refine s_modN ?_ ?_); (· walk_at "ar"))
  | (with_reducible refine s_int ?_)
  | (with_reducible refine s_intB ?_)
  | (with_reducible refine s_CB ?_)
  | (with_reducible refine s_cons ?_)
  | (with_reducible refine s_nil ?_)
  | (with_reducible refine s_call ?_)
  | (with_reducible refine s_un ?_)
  | (with_reducible refine s_rU ?_)
  | ((with_reducible apply s_lenL); (· walk_at "sq"))
  | ((with_reducible apply s_lenT); (· walk_at "sq"))
  | (with_reducible refine s_eqI ?_)
  | (with_reducible refine s_neI ?_)
  | (with_reducible refine s_eqS ?_)
  | (with_reducible refine s_neS ?_)
  | (with_reducible refine s_eqB ?_)
  | (with_reducible refine s_neB ?_)
  | ((with_reducible apply s_eqD); (· walk_at "dp"); (· walk_at "dp"); (· exact rfl); (· exact rfl); (· first | exact (rfl : _ = true) | exact (rfl : _ = false) | exact rfl))
  | ((with_reducible apply s_neD); (· walk_at "dp"); (· walk_at "dp"); (· exact rfl); (· exact rfl); (· first | exact (rfl : _ = true) | exact (rfl : _ = false) | exact rfl))
  | (with_reducible refine s_isN ?_)
  | (with_reducible refine s_isNotN ?_)
  | (with_reducible refine s_isB ?_)
  | (with_reducible refine s_isNotB ?_)
  | ((with_reducible apply s_isT); (· walk_at "ty"); (· decide +kernel))
  | ((with_reducible apply s_isF); (· walk_at "ty"); (· decide +kernel))
  | (with_reducible refine s_forR1 ?_)
  | (with_reducible refine s_forR2 ?_)
  | (with_reducible refine s_forL ?_)
  | (with_reducible refine s_forT ?_)
  | (with_reducible refine s_and ?_)
  | (with_reducible refine s_or ?_)
  | (with_reducible refine s_not ?_)
  | (with_reducible refine s_andV ?_)
  | (with_reducible refine s_orV ?_)
  | (with_reducible refine s_notV ?_)
  | (with_reducible refine s_if ?_)
  | (with_reducible refine s_chain ?_)
  | (with_reducible refine s_tup ?_)
  | (with_reducible refine s_lst ?_)
  | ((with_reducible apply s_pow); (· exact ⟨by decide, by decide, by decide⟩); (· (simp only [Int.reduceToNat, Int.reducePow]; exact rfl)))
  | (with_reducible refine s_fld ?_)
  | ((with_reducible apply h_fld hS); (· walk_at "hp"); (· walk_at "cl"); (· walk_at "na"); (· exact rfl))
  | (with_reducible refine s_sfld ?_)
  | (with_reducible refine s_gattr ?_)
  | ((with_reducible apply s_gtup); (· walk_at "sq"); (· exact rfl))
  | (with_reducible refine s_gcons ?_)
  | (with_reducible refine s_gnil ?_)
  | (with_reducible refine s_bm0 ?_)
  | (with_reducible refine s_bm ?_)
  | ((with_reducible apply s_bmL); (· walk_at "sq"))
  | ((with_reducible apply s_bmT); (· walk_at "tt"); (· exact rfl))
  | (with_reducible refine s_bmS ?_)
  | ((with_reducible apply s_sum); (· walk_at "sq"))
  | ((with_reducible apply s_all); (· walk_at "sq"))
  | ((with_reducible apply s_any); (· walk_at "sq"))
  | ((with_reducible apply s_maxL2); (· walk_at "sq"))
  | ((with_reducible apply s_minL2); (· walk_at "sq"))
  | ((with_reducible apply s_methO); (· walk_at "hp"); (· exact rfl))
  | ((with_reducible apply s_propO); (· walk_at "hp"))
  | (with_reducible refine h_make hS (fun x dx H1 hS1 => ?_); walk_at "nw")
  | (with_reducible refine s_abs ?_)
  | (with_reducible refine s_max2 ?_)
  | (with_reducible refine s_min2 ?_)
  | ((with_reducible refine h_new hS ?_ (fun p H1 hS1 hp => ?_)); (· walk_at "sz"); clear hS; rename SH _ _ _ _ => hS)
  | ((with_reducible apply s_rep1); (· walk_at "hp"); (· walk_at "ar"); (· first | (simp only [Int.reduceToNat]; exact rfl) | exact rfl))
  | ((with_reducible apply s_rep); (· walk_at "hp"); (· walk_at "ar"); (· walk_at "sz"); (· exact rfl))
  | ((with_reducible apply s_cat); (· walk_at "hp"); (· walk_at "hp"); (· walk_at "sz"); (· exact rfl))
  | ((with_reducible apply s_catA0); (· walk_at "sq"); (· walk_at "sq"); (· exact List.cons_ne_nil _ _); (· walk_at "sz"))
  | ((with_reducible apply s_catA); (· walk_at "sq"); (· walk_at "sq"); (· exact List.cons_ne_nil _ _); (· exact List.cons_ne_nil _ _); (· walk_at "sz"); (· exact rfl))
  | ((with_reducible apply s_listO); (· walk_at "sq"))
  | ((with_reducible apply s_listT); (· walk_at "sq"))
  | ((with_reducible apply s_tupL); (· walk_at "sq"))
  | ((with_reducible apply s_tupT); (· walk_at "sq"))
  | ((with_reducible apply h_setL hS); (· walk_at "ix"); (· walk_at "ij"); (· walk_at "ls"); (· walk_at "ls"); intro H1 hS1; clear hS; rename SH _ _ _ _ => hS)
  | ((with_reducible apply h_sfld hS); (· walk_at "ix"); (· walk_at "cl"); (· walk_at "na"); (· exact Nat.le_of_ble_eq_true rfl); (· walk_at "pf"); (· walk_at "ls"); intro H1 hS1; walk_at "nw")
  | ((with_reducible apply h_append hS); (· walk_at "ix"); (· walk_at "sz"); (· first | exact rfl); (· walk_at "ls"); intro H1 hS1; walk_at "nw")
  | ((with_reducible apply h_pop0 hS); (· walk_at "ix"); (· walk_at "ar"); intro pn pms H1 hpn hS1; walk_at "nw"; simp only [List.set_cons_zero, List.set_cons_succ] at hS)
  | ((with_reducible apply h_pop hS); (· walk_at "ix"); (· walk_at "pv"); (· walk_at "dl"); (· walk_at "ls"); intro H1 hS1; walk_at "nw")
  | (with_reducible refine s_sl ?_)
  | (with_reducible refine s_part ?_)
  | (with_reducible refine s_partI ?_)
  | (with_reducible refine s_noPart ?_)
  | ((with_reducible apply s_slL); (· walk_at "sq"); (· exact rfl))
  | (with_reducible refine s_lcR1 ?_)
  | (with_reducible refine s_lcL ?_)
  | (with_reducible refine s_lcLG ?_)
  | ((with_reducible refine s_wipe ?_ ?_); (· exact rfl))
  | (with_reducible refine s_tYes ?_)
  | ((with_reducible apply h_lcEnd hS); (· walk_at "ix"); (· walk_at "sz"); (· first | exact rfl); (· walk_at "ls"); intro H1 hS1; walk_at "nw")
  | (with_reducible refine i_not ?_)
  | ((with_reducible refine i_pos ?_ ?_); (· first | rfl | decide | exact decide_eq_true (by omega)))
  | ((with_reducible refine i_neg ?_ ?_); (· first | rfl | decide | exact decide_eq_false (by omega)))
  | (with_reducible refine i_dec (fun hc => ?_) (fun hc => ?_))
  | (with_reducible refine i_gen (fun hc => ?_) (fun hc => ?_)))
def top (i : Nat) : Stmt := PySem.Challenge.pw_windowada_k69_trap_handlers.main.body.getD i (.Pass ⟨0, 0, 0, 0⟩)
abbrev s_bounded : Stmt := top 14
abbrev s_register_bits : Stmt := top 15
abbrev s_operand_bits : Stmt := top 16
abbrev s_encode : Stmt := top 17
abbrev s_spill_handler : Stmt := top 28
abbrev s_fill_handler : Stmt := top 29
abbrev s_trap_code : Stmt := top 30
abbrev s_area : Stmt := top 33
abbrev s_row_of : Stmt := top 36
abbrev s_clear_new : Stmt := top 37
abbrev s_Ring_init__ : Stmt := inClass (top 38) 0
abbrev s_Ring_read : Stmt := inClass (top 38) 1
abbrev s_Ring_write : Stmt := inClass (top 38) 2
abbrev s_Ring_spill : Stmt := inClass (top 38) 5
abbrev s_Ring_fill : Stmt := inClass (top 38) 6
abbrev s_Ring_shift_down : Stmt := inClass (top 38) 7
abbrev s_Ring_shift_up : Stmt := inClass (top 38) 8
abbrev s_Banks_init__ : Stmt := inClass (top 42) 0
abbrev s_Banks_read : Stmt := inClass (top 42) 1
abbrev s_Banks_write : Stmt := inClass (top 42) 2
abbrev s_Banks_set_bar : Stmt := inClass (top 42) 3
abbrev s_Banks_blocked_down : Stmt := inClass (top 42) 4
abbrev s_Banks_blocked_up : Stmt := inClass (top 42) 5
abbrev s_Banks_move_down : Stmt := inClass (top 42) 6
abbrev s_Banks_shift_down : Stmt := inClass (top 42) 7
abbrev s_Banks_shift_up : Stmt := inClass (top 42) 8
abbrev s_Banks_trap_down : Stmt := inClass (top 42) 9
abbrev s_Banks_trap_up : Stmt := inClass (top 42) 10
abbrev s_Banks_leave_trap : Stmt := inClass (top 42) 11
abbrev s_z_pick : Stmt := top 44
abbrev s_z_is_integer : Stmt := top 45
abbrev s_z_word : Stmt := top 46
abbrev s_z_spill : Stmt := top 47
abbrev s_z_fill : Stmt := top 48
abbrev s_z_words : Stmt := top 49
abbrev s_z_value : Stmt := top 50
abbrev s_z_handle : Stmt := top 51
abbrev s_z_down : Stmt := top 52
abbrev s_z_up : Stmt := top 53
abbrev s_z_both : Stmt := top 54
abbrev s_z_same : Stmt := top 55
abbrev s_z_deed : Stmt := top 56
abbrev s_law : Stmt := top 57
abbrev N_bounded : List Str := ["number", "least", "most"]
theorem st_bounded (a0 a1 a2 : V) : L2.start N_bounded [a0, a1, a2] = [some a0, some a1, some a2] := rfl
theorem sc_bounded : FnScope N_bounded ["number", "least", "most"] (defScope s_bounded) := ⟨rfl, rfl, rfl, by decide +kernel, rfl, by decide +kernel, by decide +kernel⟩
abbrev N_register_bits : List Str := ["number", "size"]
theorem st_register_bits (a0 a1 : V) : L2.start N_register_bits [a0, a1] = [some a0, some a1] := rfl
theorem sc_register_bits : FnScope N_register_bits ["number", "size"] (defScope s_register_bits) := ⟨rfl, rfl, rfl, by decide +kernel, rfl, by decide +kernel, by decide +kernel⟩
abbrev N_operand_bits : List Str := ["operand", "kind", "number"]
theorem st_operand_bits (a0 : V) : L2.start N_operand_bits [a0] = [some a0, none, none] := rfl
theorem sc_operand_bits : FnScope N_operand_bits ["operand"] (defScope s_operand_bits) := ⟨rfl, rfl, rfl, by decide +kernel, rfl, by decide +kernel, by decide +kernel⟩
abbrev N_encode : List Str := ["instruction", "name", "form", "word"]
theorem st_encode (a0 : V) : L2.start N_encode [a0] = [some a0, none, none, none] := rfl
theorem sc_encode : FnScope N_encode ["instruction"] (defScope s_encode) := ⟨rfl, rfl, rfl, by decide +kernel, rfl, by decide +kernel, by decide +kernel⟩
abbrev N_spill_handler : List Str := ["windows", "program", "k"]
theorem st_spill_handler (a0 : V) : L2.start N_spill_handler [a0] = [some a0, none, none] := rfl
theorem sc_spill_handler : FnScope N_spill_handler ["windows"] (defScope s_spill_handler) := ⟨rfl, rfl, rfl, by decide +kernel, rfl, by decide +kernel, by decide +kernel⟩
abbrev N_fill_handler : List Str := ["windows", "program", "k"]
theorem st_fill_handler (a0 : V) : L2.start N_fill_handler [a0] = [some a0, none, none] := rfl
theorem sc_fill_handler : FnScope N_fill_handler ["windows"] (defScope s_fill_handler) := ⟨rfl, rfl, rfl, by decide +kernel, rfl, by decide +kernel, by decide +kernel⟩
abbrev N_trap_code : List Str := ["windows", "instruction", "spill", "fill"]
theorem st_trap_code (a0 : V) : L2.start N_trap_code [a0] = [some a0, none, none, none] := rfl
theorem sc_trap_code : FnScope N_trap_code ["windows"] (defScope s_trap_code) := ⟨rfl, rfl, rfl, by decide +kernel, rfl, by decide +kernel, by decide +kernel⟩
abbrev N_area : List Str := ["memory", "start"]
theorem st_area (a0 a1 : V) : L2.start N_area [a0, a1] = [some a0, some a1] := rfl
theorem sc_area : FnScope N_area ["memory", "start"] (defScope s_area) := ⟨rfl, rfl, rfl, by decide +kernel, rfl, by decide +kernel, by decide +kernel⟩
abbrev N_row_of : List Str := ["rows", "shared", "current", "number"]
theorem st_row_of (a0 a1 a2 a3 : V) : L2.start N_row_of [a0, a1, a2, a3] = [some a0, some a1, some a2, some a3] := rfl
theorem sc_row_of : FnScope N_row_of ["rows", "shared", "current", "number"] (defScope s_row_of) := ⟨rfl, rfl, rfl, by decide +kernel, rfl, by decide +kernel, by decide +kernel⟩
abbrev N_clear_new : List Str := ["rows", "current", "index"]
theorem st_clear_new (a0 a1 : V) : L2.start N_clear_new [a0, a1] = [some a0, some a1, none] := rfl
theorem sc_clear_new : FnScope N_clear_new ["rows", "current"] (defScope s_clear_new) := ⟨rfl, rfl, rfl, by decide +kernel, rfl, by decide +kernel, by decide +kernel⟩
abbrev N_Ring_init__ : List Str := ["self", "memory", "windows", "_"]
theorem st_Ring_init__ (a0 a1 a2 : V) : L2.start N_Ring_init__ [a0, a1, a2] = [some a0, some a1, some a2, none] := rfl
theorem sc_Ring_init__ : FnScope N_Ring_init__ ["self", "memory", "windows"] (defScope s_Ring_init__) := ⟨rfl, rfl, rfl, by decide +kernel, rfl, by decide +kernel, by decide +kernel⟩
abbrev N_Ring_read : List Str := ["self", "number", "row", "index"]
theorem st_Ring_read (a0 a1 : V) : L2.start N_Ring_read [a0, a1] = [some a0, some a1, none, none] := rfl
theorem sc_Ring_read : FnScope N_Ring_read ["self", "number"] (defScope s_Ring_read) := ⟨rfl, rfl, rfl, by decide +kernel, rfl, by decide +kernel, by decide +kernel⟩
abbrev N_Ring_write : List Str := ["self", "number", "word", "row", "index"]
theorem st_Ring_write (a0 a1 a2 : V) : L2.start N_Ring_write [a0, a1, a2] = [some a0, some a1, some a2, none, none] := rfl
theorem sc_Ring_write : FnScope N_Ring_write ["self", "number", "word"] (defScope s_Ring_write) := ⟨rfl, rfl, rfl, by decide +kernel, rfl, by decide +kernel, by decide +kernel⟩
abbrev N_Ring_spill : List Str := ["self", "oldest", "start", "stop"]
theorem st_Ring_spill (a0 : V) : L2.start N_Ring_spill [a0] = [some a0, none, none, none] := rfl
theorem sc_Ring_spill : FnScope N_Ring_spill ["self"] (defScope s_Ring_spill) := ⟨rfl, rfl, rfl, by decide +kernel, rfl, by decide +kernel, by decide +kernel⟩
abbrev N_Ring_fill : List Str := ["self", "above", "start", "stop"]
theorem st_Ring_fill (a0 : V) : L2.start N_Ring_fill [a0] = [some a0, none, none, none] := rfl
theorem sc_Ring_fill : FnScope N_Ring_fill ["self"] (defScope s_Ring_fill) := ⟨rfl, rfl, rfl, by decide +kernel, rfl, by decide +kernel, by decide +kernel⟩
abbrev N_Ring_shift_down : List Str := ["self"]
theorem st_Ring_shift_down (a0 : V) : L2.start N_Ring_shift_down [a0] = [some a0] := rfl
theorem sc_Ring_shift_down : FnScope N_Ring_shift_down ["self"] (defScope s_Ring_shift_down) := ⟨rfl, rfl, rfl, by decide +kernel, rfl, by decide +kernel, by decide +kernel⟩
abbrev N_Ring_shift_up : List Str := ["self"]
theorem st_Ring_shift_up (a0 : V) : L2.start N_Ring_shift_up [a0] = [some a0] := rfl
theorem sc_Ring_shift_up : FnScope N_Ring_shift_up ["self"] (defScope s_Ring_shift_up) := ⟨rfl, rfl, rfl, by decide +kernel, rfl, by decide +kernel, by decide +kernel⟩
abbrev N_Banks_init__ : List Str := ["self", "windows", "_"]
theorem st_Banks_init__ (a0 a1 : V) : L2.start N_Banks_init__ [a0, a1] = [some a0, some a1, none] := rfl
theorem sc_Banks_init__ : FnScope N_Banks_init__ ["self", "windows"] (defScope s_Banks_init__) := ⟨rfl, rfl, rfl, by decide +kernel, rfl, by decide +kernel, by decide +kernel⟩
abbrev N_Banks_read : List Str := ["self", "number", "row", "index"]
theorem st_Banks_read (a0 a1 : V) : L2.start N_Banks_read [a0, a1] = [some a0, some a1, none, none] := rfl
theorem sc_Banks_read : FnScope N_Banks_read ["self", "number"] (defScope s_Banks_read) := ⟨rfl, rfl, rfl, by decide +kernel, rfl, by decide +kernel, by decide +kernel⟩
abbrev N_Banks_write : List Str := ["self", "number", "word", "row", "index"]
theorem st_Banks_write (a0 a1 a2 : V) : L2.start N_Banks_write [a0, a1, a2] = [some a0, some a1, some a2, none, none] := rfl
theorem sc_Banks_write : FnScope N_Banks_write ["self", "number", "word"] (defScope s_Banks_write) := ⟨rfl, rfl, rfl, by decide +kernel, rfl, by decide +kernel, by decide +kernel⟩
abbrev N_Banks_set_bar : List Str := ["self", "number"]
theorem st_Banks_set_bar (a0 a1 : V) : L2.start N_Banks_set_bar [a0, a1] = [some a0, some a1] := rfl
theorem sc_Banks_set_bar : FnScope N_Banks_set_bar ["self", "number"] (defScope s_Banks_set_bar) := ⟨rfl, rfl, rfl, by decide +kernel, rfl, by decide +kernel, by decide +kernel⟩
abbrev N_Banks_blocked_down : List Str := ["self"]
theorem st_Banks_blocked_down (a0 : V) : L2.start N_Banks_blocked_down [a0] = [some a0] := rfl
theorem sc_Banks_blocked_down : FnScope N_Banks_blocked_down ["self"] (defScope s_Banks_blocked_down) := ⟨rfl, rfl, rfl, by decide +kernel, rfl, by decide +kernel, by decide +kernel⟩
abbrev N_Banks_blocked_up : List Str := ["self"]
theorem st_Banks_blocked_up (a0 : V) : L2.start N_Banks_blocked_up [a0] = [some a0] := rfl
theorem sc_Banks_blocked_up : FnScope N_Banks_blocked_up ["self"] (defScope s_Banks_blocked_up) := ⟨rfl, rfl, rfl, by decide +kernel, rfl, by decide +kernel, by decide +kernel⟩
abbrev N_Banks_move_down : List Str := ["self"]
theorem st_Banks_move_down (a0 : V) : L2.start N_Banks_move_down [a0] = [some a0] := rfl
theorem sc_Banks_move_down : FnScope N_Banks_move_down ["self"] (defScope s_Banks_move_down) := ⟨rfl, rfl, rfl, by decide +kernel, rfl, by decide +kernel, by decide +kernel⟩
abbrev N_Banks_shift_down : List Str := ["self"]
theorem st_Banks_shift_down (a0 : V) : L2.start N_Banks_shift_down [a0] = [some a0] := rfl
theorem sc_Banks_shift_down : FnScope N_Banks_shift_down ["self"] (defScope s_Banks_shift_down) := ⟨rfl, rfl, rfl, by decide +kernel, rfl, by decide +kernel, by decide +kernel⟩
abbrev N_Banks_shift_up : List Str := ["self"]
theorem st_Banks_shift_up (a0 : V) : L2.start N_Banks_shift_up [a0] = [some a0] := rfl
theorem sc_Banks_shift_up : FnScope N_Banks_shift_up ["self"] (defScope s_Banks_shift_up) := ⟨rfl, rfl, rfl, by decide +kernel, rfl, by decide +kernel, by decide +kernel⟩
abbrev N_Banks_trap_down : List Str := ["self", "address"]
theorem st_Banks_trap_down (a0 a1 : V) : L2.start N_Banks_trap_down [a0, a1] = [some a0, some a1] := rfl
theorem sc_Banks_trap_down : FnScope N_Banks_trap_down ["self", "address"] (defScope s_Banks_trap_down) := ⟨rfl, rfl, rfl, by decide +kernel, rfl, by decide +kernel, by decide +kernel⟩
abbrev N_Banks_trap_up : List Str := ["self", "address"]
theorem st_Banks_trap_up (a0 a1 : V) : L2.start N_Banks_trap_up [a0, a1] = [some a0, some a1] := rfl
theorem sc_Banks_trap_up : FnScope N_Banks_trap_up ["self", "address"] (defScope s_Banks_trap_up) := ⟨rfl, rfl, rfl, by decide +kernel, rfl, by decide +kernel, by decide +kernel⟩
abbrev N_Banks_leave_trap : List Str := ["self", "address"]
theorem st_Banks_leave_trap (a0 : V) : L2.start N_Banks_leave_trap [a0] = [some a0, none] := rfl
theorem sc_Banks_leave_trap : FnScope N_Banks_leave_trap ["self"] (defScope s_Banks_leave_trap) := ⟨rfl, rfl, rfl, by decide +kernel, rfl, by decide +kernel, by decide +kernel⟩
abbrev N_z_pick : List Str := ["_law_state", "_law_limit", "_law_digit", "_law_cell", "_law_mixed"]
theorem st_z_pick (a0 a1 : V) : L2.start N_z_pick [a0, a1] = [some a0, some a1, none, none, none] := rfl
theorem sc_z_pick : FnScope N_z_pick ["_law_state", "_law_limit"] (defScope s_z_pick) := ⟨rfl, rfl, rfl, by decide +kernel, rfl, by decide +kernel, by decide +kernel⟩
abbrev N_z_is_integer : List Str := ["_law_actual"]
theorem st_z_is_integer (a0 : V) : L2.start N_z_is_integer [a0] = [some a0] := rfl
theorem sc_z_is_integer : FnScope N_z_is_integer ["_law_actual"] (defScope s_z_is_integer) := ⟨rfl, rfl, rfl, by decide +kernel, rfl, by decide +kernel, by decide +kernel⟩
abbrev N_z_word : List Str := ["_law_state", "_law_choice"]
theorem st_z_word (a0 : V) : L2.start N_z_word [a0] = [some a0, none] := rfl
theorem sc_z_word : FnScope N_z_word ["_law_state"] (defScope s_z_word) := ⟨rfl, rfl, rfl, by decide +kernel, rfl, by decide +kernel, by decide +kernel⟩
abbrev N_z_spill : List Str := ["_law_windows", "_law_rows", "_law_k"]
theorem st_z_spill (a0 : V) : L2.start N_z_spill [a0] = [some a0, none, none] := rfl
theorem sc_z_spill : FnScope N_z_spill ["_law_windows"] (defScope s_z_spill) := ⟨rfl, rfl, rfl, by decide +kernel, rfl, by decide +kernel, by decide +kernel⟩
abbrev N_z_fill : List Str := ["_law_windows", "_law_rows", "_law_k"]
theorem st_z_fill (a0 : V) : L2.start N_z_fill [a0] = [some a0, none, none] := rfl
theorem sc_z_fill : FnScope N_z_fill ["_law_windows"] (defScope s_z_fill) := ⟨rfl, rfl, rfl, by decide +kernel, rfl, by decide +kernel, by decide +kernel⟩
abbrev N_z_words : List Str := ["_law_told", "_law_rows", "_law_k"]
theorem st_z_words (a0 a1 : V) : L2.start N_z_words [a0, a1] = [some a0, some a1, none] := rfl
theorem sc_z_words : FnScope N_z_words ["_law_told", "_law_rows"] (defScope s_z_words) := ⟨rfl, rfl, rfl, by decide +kernel, rfl, by decide +kernel, by decide +kernel⟩
abbrev N_z_value : List Str := ["_law_banks", "_law_operand"]
theorem st_z_value (a0 a1 : V) : L2.start N_z_value [a0, a1] = [some a0, some a1] := rfl
theorem sc_z_value : FnScope N_z_value ["_law_banks", "_law_operand"] (defScope s_z_value) := ⟨rfl, rfl, rfl, by decide +kernel, rfl, by decide +kernel, by decide +kernel⟩
abbrev N_z_handle : List Str := ["_law_banks", "_law_memory", "_law_rows", "_law_address", "_law_row", "_law_word_here", "_law_at"]
theorem st_z_handle (a0 a1 a2 a3 : V) : L2.start N_z_handle [a0, a1, a2, a3] = [some a0, some a1, some a2, some a3, none, none, none] := rfl
theorem sc_z_handle : FnScope N_z_handle ["_law_banks", "_law_memory", "_law_rows", "_law_address"] (defScope s_z_handle) := ⟨rfl, rfl, rfl, by decide +kernel, rfl, by decide +kernel, by decide +kernel⟩
abbrev N_z_down : List Str := ["_law_state", "_law_banks", "_law_ring", "_law_memory", "_law_windows", "_law_address"]
theorem st_z_down (a0 a1 a2 a3 a4 : V) : L2.start N_z_down [a0, a1, a2, a3, a4] = [some a0, some a1, some a2, some a3, some a4, none] := rfl
theorem sc_z_down : FnScope N_z_down ["_law_state", "_law_banks", "_law_ring", "_law_memory", "_law_windows"] (defScope s_z_down) := ⟨rfl, rfl, rfl, by decide +kernel, rfl, by decide +kernel, by decide +kernel⟩
abbrev N_z_up : List Str := ["_law_state", "_law_banks", "_law_ring", "_law_memory", "_law_windows", "_law_address"]
theorem st_z_up (a0 a1 a2 a3 a4 : V) : L2.start N_z_up [a0, a1, a2, a3, a4] = [some a0, some a1, some a2, some a3, some a4, none] := rfl
theorem sc_z_up : FnScope N_z_up ["_law_state", "_law_banks", "_law_ring", "_law_memory", "_law_windows"] (defScope s_z_up) := ⟨rfl, rfl, rfl, by decide +kernel, rfl, by decide +kernel, by decide +kernel⟩
abbrev N_z_both : List Str := ["_law_banks", "_law_ring", "_law_word_here", "_law_number"]
theorem st_z_both (a0 a1 a2 a3 : V) : L2.start N_z_both [a0, a1, a2, a3] = [some a0, some a1, some a2, some a3] := rfl
theorem sc_z_both : FnScope N_z_both ["_law_banks", "_law_ring", "_law_word_here", "_law_number"] (defScope s_z_both) := ⟨rfl, rfl, rfl, by decide +kernel, rfl, by decide +kernel, by decide +kernel⟩
abbrev N_z_same : List Str := ["_law_banks", "_law_ring", "_law_memories", "_law_number", "_law_word_here", "_law_other", "_law_told"]
theorem st_z_same (a0 a1 a2 : V) : L2.start N_z_same [a0, a1, a2] = [some a0, some a1, some a2, none, none, none, none] := rfl
theorem sc_z_same : FnScope N_z_same ["_law_banks", "_law_ring", "_law_memories"] (defScope s_z_same) := ⟨rfl, rfl, rfl, by decide +kernel, rfl, by decide +kernel, by decide +kernel⟩
abbrev N_z_deed : List Str := ["_law_state", "_law_banks", "_law_ring", "_law_memories", "_law_windows", "_law_shape", "_law_choice", "_law_number"]
theorem st_z_deed (a0 a1 a2 a3 a4 a5 : V) : L2.start N_z_deed [a0, a1, a2, a3, a4, a5] = [some a0, some a1, some a2, some a3, some a4, some a5, none, none] := rfl
theorem sc_z_deed : FnScope N_z_deed ["_law_state", "_law_banks", "_law_ring", "_law_memories", "_law_windows", "_law_shape"] (defScope s_z_deed) := ⟨rfl, rfl, rfl, by decide +kernel, rfl, by decide +kernel, by decide +kernel⟩
abbrev N_law : List Str := ["_law_script", "_law_state", "_law_windows", "_law_code", "_law_step", "_law_size", "_law_junk", "_law_k", "_law_memories", "_law_banks", "_law_ring", "_law_shape", "_law_turn"]
theorem st_law (a0 : V) : L2.start N_law [a0] = [some a0, none, none, none, none, none, none, none, none, none, none, none, none] := rfl
theorem sc_law : FnScope N_law ["_law_script"] (defScope s_law) := ⟨rfl, rfl, rfl, by decide +kernel, rfl, by decide +kernel, by decide +kernel⟩
structure Env (w : World) (K : PySem.W.Frag) (mg : Str → Option Value) : Prop where
  mg_bounded : mg "bounded" = some (.ref (He.ga K "bounded"))
  mg_register_bits : mg "register_bits" = some (.ref (He.ga K "register_bits"))
  mg_operand_bits : mg "operand_bits" = some (.ref (He.ga K "operand_bits"))
  mg_encode : mg "encode" = some (.ref (He.ga K "encode"))
  mg_spill_handler : mg "spill_handler" = some (.ref (He.ga K "spill_handler"))
  mg_fill_handler : mg "fill_handler" = some (.ref (He.ga K "fill_handler"))
  mg_trap_code : mg "trap_code" = some (.ref (He.ga K "trap_code"))
  mg_area : mg "area" = some (.ref (He.ga K "area"))
  mg_row_of : mg "row_of" = some (.ref (He.ga K "row_of"))
  mg_clear_new : mg "clear_new" = some (.ref (He.ga K "clear_new"))
  mg_z_pick : mg "_law_pick" = some (.ref (He.ga K "_law_pick"))
  mg_z_is_integer : mg "_law_is_integer" = some (.ref (He.ga K "_law_is_integer"))
  mg_z_word : mg "_law_word" = some (.ref (He.ga K "_law_word"))
  mg_z_spill : mg "_law_spill" = some (.ref (He.ga K "_law_spill"))
  mg_z_fill : mg "_law_fill" = some (.ref (He.ga K "_law_fill"))
  mg_z_words : mg "_law_words" = some (.ref (He.ga K "_law_words"))
  mg_z_value : mg "_law_value" = some (.ref (He.ga K "_law_value"))
  mg_z_handle : mg "_law_handle" = some (.ref (He.ga K "_law_handle"))
  mg_z_down : mg "_law_down" = some (.ref (He.ga K "_law_down"))
  mg_z_up : mg "_law_up" = some (.ref (He.ga K "_law_up"))
  mg_z_both : mg "_law_both" = some (.ref (He.ga K "_law_both"))
  mg_z_same : mg "_law_same" = some (.ref (He.ga K "_law_same"))
  mg_z_deed : mg "_law_deed" = some (.ref (He.ga K "_law_deed"))
  mg_law : mg "law" = some (.ref (He.ga K "law"))
  mg_AdaError : mg "AdaError" = some (.ref (He.ga K "AdaError"))
  mg_ImageError : mg "ImageError" = some (.ref (He.ga K "ImageError"))
  ef_ImageError : ExcF K (He.ga K "ImageError")
  mg_Fault : mg "Fault" = some (.ref (He.ga K "Fault"))
  ef_Fault : ExcF K (He.ga K "Fault")
  mg_Ring : mg "Ring" = some (.ref (He.ga K "Ring"))
  cl_Ring : Cls K (He.ga K "Ring")
  mk_Ring : Mk K (He.ga K "Ring") (He.ma K (He.ga K "Ring") "__init__")
  me_Ring_read : Meth K (He.ga K "Ring") "read" (He.ma K (He.ga K "Ring") "read")
  me_Ring_write : Meth K (He.ga K "Ring") "write" (He.ma K (He.ga K "Ring") "write")
  me_Ring_spill : Meth K (He.ga K "Ring") "_spill" (He.ma K (He.ga K "Ring") "_spill")
  me_Ring_fill : Meth K (He.ga K "Ring") "_fill" (He.ma K (He.ga K "Ring") "_fill")
  me_Ring_shift_down : Meth K (He.ga K "Ring") "shift_down" (He.ma K (He.ga K "Ring") "shift_down")
  me_Ring_shift_up : Meth K (He.ga K "Ring") "shift_up" (He.ma K (He.ga K "Ring") "shift_up")
  na_Ring_memory : NoAttr K (He.ga K "Ring") "memory"
  na_Ring_windows : NoAttr K (He.ga K "Ring") "windows"
  na_Ring_rows : NoAttr K (He.ga K "Ring") "_rows"
  na_Ring_shared : NoAttr K (He.ga K "Ring") "_shared"
  na_Ring_current : NoAttr K (He.ga K "Ring") "_current"
  na_Ring_resident : NoAttr K (He.ga K "Ring") "resident"
  na_Ring_depth : NoAttr K (He.ga K "Ring") "depth"
  na_Ring_spills : NoAttr K (He.ga K "Ring") "spills"
  na_Ring_fills : NoAttr K (He.ga K "Ring") "fills"
  mg_Banks : mg "Banks" = some (.ref (He.ga K "Banks"))
  cl_Banks : Cls K (He.ga K "Banks")
  mk_Banks : Mk K (He.ga K "Banks") (He.ma K (He.ga K "Banks") "__init__")
  me_Banks_read : Meth K (He.ga K "Banks") "read" (He.ma K (He.ga K "Banks") "read")
  me_Banks_write : Meth K (He.ga K "Banks") "write" (He.ma K (He.ga K "Banks") "write")
  me_Banks_set_bar : Meth K (He.ga K "Banks") "set_bar" (He.ma K (He.ga K "Banks") "set_bar")
  me_Banks_blocked_down : Meth K (He.ga K "Banks") "blocked_down" (He.ma K (He.ga K "Banks") "blocked_down")
  me_Banks_blocked_up : Meth K (He.ga K "Banks") "blocked_up" (He.ma K (He.ga K "Banks") "blocked_up")
  me_Banks_move_down : Meth K (He.ga K "Banks") "_move_down" (He.ma K (He.ga K "Banks") "_move_down")
  me_Banks_shift_down : Meth K (He.ga K "Banks") "shift_down" (He.ma K (He.ga K "Banks") "shift_down")
  me_Banks_shift_up : Meth K (He.ga K "Banks") "shift_up" (He.ma K (He.ga K "Banks") "shift_up")
  me_Banks_trap_down : Meth K (He.ga K "Banks") "trap_down" (He.ma K (He.ga K "Banks") "trap_down")
  me_Banks_trap_up : Meth K (He.ga K "Banks") "trap_up" (He.ma K (He.ga K "Banks") "trap_up")
  me_Banks_leave_trap : Meth K (He.ga K "Banks") "leave_trap" (He.ma K (He.ga K "Banks") "leave_trap")
  na_Banks_windows : NoAttr K (He.ga K "Banks") "windows"
  na_Banks_rows : NoAttr K (He.ga K "Banks") "_rows"
  na_Banks_shared : NoAttr K (He.ga K "Banks") "_shared"
  na_Banks_current : NoAttr K (He.ga K "Banks") "current"
  na_Banks_barred : NoAttr K (He.ga K "Banks") "barred"
  na_Banks_depth : NoAttr K (He.ga K "Banks") "depth"
  na_Banks_spills : NoAttr K (He.ga K "Banks") "spills"
  na_Banks_fills : NoAttr K (He.ga K "Banks") "fills"
  mg_NAMES : mg "NAMES" = some (.ref (He.ga K "NAMES"))
  tp_NAMES : ∀ H : Hp, SqT K H (He.ga K "NAMES") [V.str "halt", V.str "add", V.str "sub", V.str "mul", V.str "div", V.str "mod", V.str "rem", V.str "less", V.str "equal", V.str "high", V.str "low", V.str "load", V.str "store", V.str "jump", V.str "branch", V.str "call", V.str "save", V.str "restore", V.str "back", V.str "raise", V.str "again", V.str "tick", V.str "put", V.str "get", V.str "below", V.str "above", V.str "bar", V.str "setbar", V.str "retry"]
  tt_NAMES : ∃ o, K.lookup (He.ga K "NAMES") = some o ∧ o.cls = .type "tuple" ∧ o.dict = none
  mg_FORMS : mg "FORMS" = some (.ref (He.ga K "FORMS"))
  dk_FORMS : ∀ q ∈ ([("halt", .str ""), ("restore", .str ""), ("back", .str ""), ("tick", .str ""), ("retry", .str ""), ("add", .str "das"), ("sub", .str "das"), ("mul", .str "das"), ("div", .str "das"), ("mod", .str "das"), ("rem", .str "das"), ("less", .str "das"), ("equal", .str "das"), ("load", .str "das"), ("store", .str "das"), ("save", .str "das"), ("low", .str "dam"), ("high", .str "dn"), ("branch", .str "dn"), ("jump", .str "j"), ("call", .str "c"), ("raise", .str "c"), ("again", .str "as"), ("below", .str "as"), ("above", .str "as"), ("put", .str "s"), ("setbar", .str "s"), ("get", .str "d"), ("bar", .str "d")] : List (Str × He.Dv)), KDct K w (He.ga K "FORMS") q.1 (q.2.v K)
  c_LEAST_OPERAND : ∃ t, mg "LEAST_OPERAND" = some (.int (-16384) t)
  c_MOST_OPERAND : ∃ t, mg "MOST_OPERAND" = some (.int (16383) t)
  c_PAGE : ∃ t, mg "PAGE" = some (.int (2048) t)
  c_LEAST_N : ∃ t, mg "LEAST_N" = some (.int (-1048576) t)
  c_MOST_N : ∃ t, mg "MOST_N" = some (.int (1048575) t)
  c_LEAST_JUMP : ∃ t, mg "LEAST_JUMP" = some (.int (-33554432) t)
  c_MOST_JUMP : ∃ t, mg "MOST_JUMP" = some (.int (33554431) t)
  c_MOST_ADDRESS : ∃ t, mg "MOST_ADDRESS" = some (.int (67108863) t)
  c_STACK : ∃ t, mg "STACK" = some (.int (14) t)
  c_BARRED : ∃ t, mg "BARRED" = some (.int (19) t)
  c_NEXT_BARRED : ∃ t, mg "NEXT_BARRED" = some (.int (20) t)
  c_FIRST_SAVED : ∃ t, mg "FIRST_SAVED" = some (.int (16) t)
  c_SAVED : ∃ t, mg "SAVED" = some (.int (16) t)
  mg_ZERO : mg "ZERO" = some (.ref (He.ga K "ZERO"))
  tp_ZERO : ∀ H : Hp, SqT K H (He.ga K "ZERO") [V.str "int", V.int 0]
  mg_NEW_WINDOW : mg "NEW_WINDOW" = some (.ref (He.ga K "NEW_WINDOW"))
  tp_NEW_WINDOW : ∀ H : Hp, SqT K H (He.ga K "NEW_WINDOW") [V.str "save", V.int 0, V.int 0, V.ref (He.ga K "ZERO")]
  mg_NO_BAR_handlers : mg "NO_BAR_handlers" = some (.ref (He.ga K "NO_BAR_handlers"))
  tp_NO_BAR_handlers_1 : ∀ H : Hp, SqT K H (pathA "NO_BAR_handlers" [1] K) [V.str "int", V.int (-1)]
  tp_NO_BAR_handlers : ∀ H : Hp, SqT K H (He.ga K "NO_BAR_handlers") [V.str "setbar", V.ref (pathA "NO_BAR_handlers" [1] K)]
  mg_LEAVING : mg "LEAVING" = some (.ref (He.ga K "LEAVING"))
  tp_LEAVING_0_1 : ∀ H : Hp, SqT K H (pathA "LEAVING" [0, 1] K) [V.str "reg", V.int 20]
  tp_LEAVING_0 : ∀ H : Hp, SqT K H (pathA "LEAVING" [0] K) [V.str "setbar", V.ref (pathA "LEAVING" [0, 1] K)]
  tp_LEAVING_1 : ∀ H : Hp, SqT K H (pathA "LEAVING" [1] K) [V.str "retry"]
  tl_LEAVING : ∀ H : Hp, SqL K H (He.ga K "LEAVING") [V.ref (pathA "LEAVING" [0] K), V.ref (pathA "LEAVING" [1] K)]
  kl_LEAVING : KLst K (He.ga K "LEAVING") [V.ref (pathA "LEAVING" [0] K), V.ref (pathA "LEAVING" [1] K)]
  c_STACK_IN_ROW : ∃ t, mg "STACK_IN_ROW" = some (.int (14) t)
  c_TRAP_ADDRESS : ∃ t, mg "TRAP_ADDRESS" = some (.int (17) t)
  c_NO_BAR_banks : ∃ t, mg "NO_BAR_banks" = some (.int (-1) t)
  ec_Fault : ExcC K (He.ga K "Fault")
  ec_ImageError : ExcC K (He.ga K "ImageError")
  z_ValueError : mg "ValueError" = none
  z_bool : mg "bool" = none
  z_int : mg "int" = none
  z_isinstance : mg "isinstance" = none
  z_len : mg "len" = none
  z_range : mg "range" = none
  z_tuple : mg "tuple" = none
  fd_bounded : ∃ fd, FunD K "bounded" "bounded" (defArgs s_bounded) (defBody s_bounded) (defScope s_bounded) [] [] (He.fAd K ("bounded", none)) fd
  fd_register_bits : ∃ fd, FunD K "register_bits" "register_bits" (defArgs s_register_bits) (defBody s_register_bits) (defScope s_register_bits) [] [] (He.fAd K ("register_bits", none)) fd
  fd_operand_bits : ∃ fd, FunD K "operand_bits" "operand_bits" (defArgs s_operand_bits) (defBody s_operand_bits) (defScope s_operand_bits) [] [] (He.fAd K ("operand_bits", none)) fd
  fd_encode : ∃ fd, FunD K "encode" "encode" (defArgs s_encode) (defBody s_encode) (defScope s_encode) [] [] (He.fAd K ("encode", none)) fd
  fd_spill_handler : ∃ fd, FunD K "spill_handler" "spill_handler" (defArgs s_spill_handler) (defBody s_spill_handler) (defScope s_spill_handler) [] [] (He.fAd K ("spill_handler", none)) fd
  fd_fill_handler : ∃ fd, FunD K "fill_handler" "fill_handler" (defArgs s_fill_handler) (defBody s_fill_handler) (defScope s_fill_handler) [] [] (He.fAd K ("fill_handler", none)) fd
  fd_trap_code : ∃ fd, FunD K "trap_code" "trap_code" (defArgs s_trap_code) (defBody s_trap_code) (defScope s_trap_code) [] [] (He.fAd K ("trap_code", none)) fd
  fd_area : ∃ fd, FunD K "area" "area" (defArgs s_area) (defBody s_area) (defScope s_area) [] [] (He.fAd K ("area", none)) fd
  fd_row_of : ∃ fd, FunD K "row_of" "row_of" (defArgs s_row_of) (defBody s_row_of) (defScope s_row_of) [] [] (He.fAd K ("row_of", none)) fd
  fd_clear_new : ∃ fd, FunD K "clear_new" "clear_new" (defArgs s_clear_new) (defBody s_clear_new) (defScope s_clear_new) [] [] (He.fAd K ("clear_new", none)) fd
  fd_Ring_init__ : ∃ fd, FunD K "__init__" "Ring.__init__" (defArgs s_Ring_init__) (defBody s_Ring_init__) (defScope s_Ring_init__) [] [] (He.fAd K ("Ring", some "__init__")) fd
  fd_Ring_read : ∃ fd, FunD K "read" "Ring.read" (defArgs s_Ring_read) (defBody s_Ring_read) (defScope s_Ring_read) [] [] (He.fAd K ("Ring", some "read")) fd
  fd_Ring_write : ∃ fd, FunD K "write" "Ring.write" (defArgs s_Ring_write) (defBody s_Ring_write) (defScope s_Ring_write) [] [] (He.fAd K ("Ring", some "write")) fd
  fd_Ring_spill : ∃ fd, FunD K "_spill" "Ring._spill" (defArgs s_Ring_spill) (defBody s_Ring_spill) (defScope s_Ring_spill) [] [] (He.fAd K ("Ring", some "_spill")) fd
  fd_Ring_fill : ∃ fd, FunD K "_fill" "Ring._fill" (defArgs s_Ring_fill) (defBody s_Ring_fill) (defScope s_Ring_fill) [] [] (He.fAd K ("Ring", some "_fill")) fd
  fd_Ring_shift_down : ∃ fd, FunD K "shift_down" "Ring.shift_down" (defArgs s_Ring_shift_down) (defBody s_Ring_shift_down) (defScope s_Ring_shift_down) [] [] (He.fAd K ("Ring", some "shift_down")) fd
  fd_Ring_shift_up : ∃ fd, FunD K "shift_up" "Ring.shift_up" (defArgs s_Ring_shift_up) (defBody s_Ring_shift_up) (defScope s_Ring_shift_up) [] [] (He.fAd K ("Ring", some "shift_up")) fd
  fd_Banks_init__ : ∃ fd, FunD K "__init__" "Banks.__init__" (defArgs s_Banks_init__) (defBody s_Banks_init__) (defScope s_Banks_init__) [] [] (He.fAd K ("Banks", some "__init__")) fd
  fd_Banks_read : ∃ fd, FunD K "read" "Banks.read" (defArgs s_Banks_read) (defBody s_Banks_read) (defScope s_Banks_read) [] [] (He.fAd K ("Banks", some "read")) fd
  fd_Banks_write : ∃ fd, FunD K "write" "Banks.write" (defArgs s_Banks_write) (defBody s_Banks_write) (defScope s_Banks_write) [] [] (He.fAd K ("Banks", some "write")) fd
  fd_Banks_set_bar : ∃ fd, FunD K "set_bar" "Banks.set_bar" (defArgs s_Banks_set_bar) (defBody s_Banks_set_bar) (defScope s_Banks_set_bar) [] [] (He.fAd K ("Banks", some "set_bar")) fd
  fd_Banks_blocked_down : ∃ fd, FunD K "blocked_down" "Banks.blocked_down" (defArgs s_Banks_blocked_down) (defBody s_Banks_blocked_down) (defScope s_Banks_blocked_down) [] [] (He.fAd K ("Banks", some "blocked_down")) fd
  fd_Banks_blocked_up : ∃ fd, FunD K "blocked_up" "Banks.blocked_up" (defArgs s_Banks_blocked_up) (defBody s_Banks_blocked_up) (defScope s_Banks_blocked_up) [] [] (He.fAd K ("Banks", some "blocked_up")) fd
  fd_Banks_move_down : ∃ fd, FunD K "_move_down" "Banks._move_down" (defArgs s_Banks_move_down) (defBody s_Banks_move_down) (defScope s_Banks_move_down) [] [] (He.fAd K ("Banks", some "_move_down")) fd
  fd_Banks_shift_down : ∃ fd, FunD K "shift_down" "Banks.shift_down" (defArgs s_Banks_shift_down) (defBody s_Banks_shift_down) (defScope s_Banks_shift_down) [] [] (He.fAd K ("Banks", some "shift_down")) fd
  fd_Banks_shift_up : ∃ fd, FunD K "shift_up" "Banks.shift_up" (defArgs s_Banks_shift_up) (defBody s_Banks_shift_up) (defScope s_Banks_shift_up) [] [] (He.fAd K ("Banks", some "shift_up")) fd
  fd_Banks_trap_down : ∃ fd, FunD K "trap_down" "Banks.trap_down" (defArgs s_Banks_trap_down) (defBody s_Banks_trap_down) (defScope s_Banks_trap_down) [] [] (He.fAd K ("Banks", some "trap_down")) fd
  fd_Banks_trap_up : ∃ fd, FunD K "trap_up" "Banks.trap_up" (defArgs s_Banks_trap_up) (defBody s_Banks_trap_up) (defScope s_Banks_trap_up) [] [] (He.fAd K ("Banks", some "trap_up")) fd
  fd_Banks_leave_trap : ∃ fd, FunD K "leave_trap" "Banks.leave_trap" (defArgs s_Banks_leave_trap) (defBody s_Banks_leave_trap) (defScope s_Banks_leave_trap) [] [] (He.fAd K ("Banks", some "leave_trap")) fd
  fd_z_pick : ∃ fd, FunD K "_law_pick" "_law_pick" (defArgs s_z_pick) (defBody s_z_pick) (defScope s_z_pick) [] [] (He.fAd K ("_law_pick", none)) fd
  fd_z_is_integer : ∃ fd, FunD K "_law_is_integer" "_law_is_integer" (defArgs s_z_is_integer) (defBody s_z_is_integer) (defScope s_z_is_integer) [] [] (He.fAd K ("_law_is_integer", none)) fd
  fd_z_word : ∃ fd, FunD K "_law_word" "_law_word" (defArgs s_z_word) (defBody s_z_word) (defScope s_z_word) [] [] (He.fAd K ("_law_word", none)) fd
  fd_z_spill : ∃ fd, FunD K "_law_spill" "_law_spill" (defArgs s_z_spill) (defBody s_z_spill) (defScope s_z_spill) [] [] (He.fAd K ("_law_spill", none)) fd
  fd_z_fill : ∃ fd, FunD K "_law_fill" "_law_fill" (defArgs s_z_fill) (defBody s_z_fill) (defScope s_z_fill) [] [] (He.fAd K ("_law_fill", none)) fd
  fd_z_words : ∃ fd, FunD K "_law_words" "_law_words" (defArgs s_z_words) (defBody s_z_words) (defScope s_z_words) [] [] (He.fAd K ("_law_words", none)) fd
  fd_z_value : ∃ fd, FunD K "_law_value" "_law_value" (defArgs s_z_value) (defBody s_z_value) (defScope s_z_value) [] [] (He.fAd K ("_law_value", none)) fd
  fd_z_handle : ∃ fd, FunD K "_law_handle" "_law_handle" (defArgs s_z_handle) (defBody s_z_handle) (defScope s_z_handle) [] [] (He.fAd K ("_law_handle", none)) fd
  fd_z_down : ∃ fd, FunD K "_law_down" "_law_down" (defArgs s_z_down) (defBody s_z_down) (defScope s_z_down) [] [] (He.fAd K ("_law_down", none)) fd
  fd_z_up : ∃ fd, FunD K "_law_up" "_law_up" (defArgs s_z_up) (defBody s_z_up) (defScope s_z_up) [] [] (He.fAd K ("_law_up", none)) fd
  fd_z_both : ∃ fd, FunD K "_law_both" "_law_both" (defArgs s_z_both) (defBody s_z_both) (defScope s_z_both) [] [] (He.fAd K ("_law_both", none)) fd
  fd_z_same : ∃ fd, FunD K "_law_same" "_law_same" (defArgs s_z_same) (defBody s_z_same) (defScope s_z_same) [] [] (He.fAd K ("_law_same", none)) fd
  fd_z_deed : ∃ fd, FunD K "_law_deed" "_law_deed" (defArgs s_z_deed) (defBody s_z_deed) (defScope s_z_deed) [] [] (He.fAd K ("_law_deed", none)) fd
  fd_law : ∃ fd, FunD K "law" "law" (defArgs s_law) (defBody s_law) (defScope s_law) [] [] (He.fAd K ("law", none)) fd
def fa : List He.Fa := [.glo "bounded", .glo "register_bits", .glo "operand_bits", .glo "encode", .glo "spill_handler", .glo "fill_handler", .glo "trap_code", .glo "area", .glo "row_of", .glo "clear_new", .glo "_law_pick", .glo "_law_is_integer", .glo "_law_word", .glo "_law_spill", .glo "_law_fill", .glo "_law_words", .glo "_law_value", .glo "_law_handle", .glo "_law_down", .glo "_law_up", .glo "_law_both", .glo "_law_same", .glo "_law_deed", .glo "law", .glo "AdaError", .glo "ImageError", .exc "ImageError", .glo "Fault", .exc "Fault", .glo "Ring", .cls "Ring", .mkr "Ring", .meth "Ring" "read", .meth "Ring" "write", .meth "Ring" "_spill", .meth "Ring" "_fill", .meth "Ring" "shift_down", .meth "Ring" "shift_up", .noat "Ring" "memory", .noat "Ring" "windows", .noat "Ring" "_rows", .noat "Ring" "_shared", .noat "Ring" "_current", .noat "Ring" "resident", .noat "Ring" "depth", .noat "Ring" "spills", .noat "Ring" "fills", .glo "Banks", .cls "Banks", .mkr "Banks", .meth "Banks" "read", .meth "Banks" "write", .meth "Banks" "set_bar", .meth "Banks" "blocked_down", .meth "Banks" "blocked_up", .meth "Banks" "_move_down", .meth "Banks" "shift_down", .meth "Banks" "shift_up", .meth "Banks" "trap_down", .meth "Banks" "trap_up", .meth "Banks" "leave_trap", .noat "Banks" "windows", .noat "Banks" "_rows", .noat "Banks" "_shared", .noat "Banks" "current", .noat "Banks" "barred", .noat "Banks" "depth", .noat "Banks" "spills", .noat "Banks" "fills", .glo "NAMES", .glo "FORMS", .int "LEAST_OPERAND" (-16384), .int "MOST_OPERAND" (16383), .int "PAGE" (2048), .int "LEAST_N" (-1048576), .int "MOST_N" (1048575), .int "LEAST_JUMP" (-33554432), .int "MOST_JUMP" (33554431), .int "MOST_ADDRESS" (67108863), .int "STACK" (14), .int "BARRED" (19), .int "NEXT_BARRED" (20), .int "FIRST_SAVED" (16), .int "SAVED" (16), .glo "ZERO", .glo "NEW_WINDOW", .glo "NO_BAR_handlers", .glo "LEAVING", .int "STACK_IN_ROW" (14), .int "TRAP_ADDRESS" (17), .int "NO_BAR_banks" (-1), .free "ValueError", .free "bool", .free "int", .free "isinstance", .free "len", .free "range", .free "tuple"]
def fn : List He.DefD := [⟨("bounded", none), "bounded", "bounded", defArgs s_bounded, defBody s_bounded, defScope s_bounded, [], []⟩, ⟨("register_bits", none), "register_bits", "register_bits", defArgs s_register_bits, defBody s_register_bits, defScope s_register_bits, [], []⟩, ⟨("operand_bits", none), "operand_bits", "operand_bits", defArgs s_operand_bits, defBody s_operand_bits, defScope s_operand_bits, [], []⟩, ⟨("encode", none), "encode", "encode", defArgs s_encode, defBody s_encode, defScope s_encode, [], []⟩, ⟨("spill_handler", none), "spill_handler", "spill_handler", defArgs s_spill_handler, defBody s_spill_handler, defScope s_spill_handler, [], []⟩, ⟨("fill_handler", none), "fill_handler", "fill_handler", defArgs s_fill_handler, defBody s_fill_handler, defScope s_fill_handler, [], []⟩, ⟨("trap_code", none), "trap_code", "trap_code", defArgs s_trap_code, defBody s_trap_code, defScope s_trap_code, [], []⟩, ⟨("area", none), "area", "area", defArgs s_area, defBody s_area, defScope s_area, [], []⟩, ⟨("row_of", none), "row_of", "row_of", defArgs s_row_of, defBody s_row_of, defScope s_row_of, [], []⟩, ⟨("clear_new", none), "clear_new", "clear_new", defArgs s_clear_new, defBody s_clear_new, defScope s_clear_new, [], []⟩, ⟨("Ring", some "__init__"), "__init__", "Ring.__init__", defArgs s_Ring_init__, defBody s_Ring_init__, defScope s_Ring_init__, [], []⟩, ⟨("Ring", some "read"), "read", "Ring.read", defArgs s_Ring_read, defBody s_Ring_read, defScope s_Ring_read, [], []⟩, ⟨("Ring", some "write"), "write", "Ring.write", defArgs s_Ring_write, defBody s_Ring_write, defScope s_Ring_write, [], []⟩, ⟨("Ring", some "_spill"), "_spill", "Ring._spill", defArgs s_Ring_spill, defBody s_Ring_spill, defScope s_Ring_spill, [], []⟩, ⟨("Ring", some "_fill"), "_fill", "Ring._fill", defArgs s_Ring_fill, defBody s_Ring_fill, defScope s_Ring_fill, [], []⟩, ⟨("Ring", some "shift_down"), "shift_down", "Ring.shift_down", defArgs s_Ring_shift_down, defBody s_Ring_shift_down, defScope s_Ring_shift_down, [], []⟩, ⟨("Ring", some "shift_up"), "shift_up", "Ring.shift_up", defArgs s_Ring_shift_up, defBody s_Ring_shift_up, defScope s_Ring_shift_up, [], []⟩, ⟨("Banks", some "__init__"), "__init__", "Banks.__init__", defArgs s_Banks_init__, defBody s_Banks_init__, defScope s_Banks_init__, [], []⟩, ⟨("Banks", some "read"), "read", "Banks.read", defArgs s_Banks_read, defBody s_Banks_read, defScope s_Banks_read, [], []⟩, ⟨("Banks", some "write"), "write", "Banks.write", defArgs s_Banks_write, defBody s_Banks_write, defScope s_Banks_write, [], []⟩, ⟨("Banks", some "set_bar"), "set_bar", "Banks.set_bar", defArgs s_Banks_set_bar, defBody s_Banks_set_bar, defScope s_Banks_set_bar, [], []⟩, ⟨("Banks", some "blocked_down"), "blocked_down", "Banks.blocked_down", defArgs s_Banks_blocked_down, defBody s_Banks_blocked_down, defScope s_Banks_blocked_down, [], []⟩, ⟨("Banks", some "blocked_up"), "blocked_up", "Banks.blocked_up", defArgs s_Banks_blocked_up, defBody s_Banks_blocked_up, defScope s_Banks_blocked_up, [], []⟩, ⟨("Banks", some "_move_down"), "_move_down", "Banks._move_down", defArgs s_Banks_move_down, defBody s_Banks_move_down, defScope s_Banks_move_down, [], []⟩, ⟨("Banks", some "shift_down"), "shift_down", "Banks.shift_down", defArgs s_Banks_shift_down, defBody s_Banks_shift_down, defScope s_Banks_shift_down, [], []⟩, ⟨("Banks", some "shift_up"), "shift_up", "Banks.shift_up", defArgs s_Banks_shift_up, defBody s_Banks_shift_up, defScope s_Banks_shift_up, [], []⟩, ⟨("Banks", some "trap_down"), "trap_down", "Banks.trap_down", defArgs s_Banks_trap_down, defBody s_Banks_trap_down, defScope s_Banks_trap_down, [], []⟩, ⟨("Banks", some "trap_up"), "trap_up", "Banks.trap_up", defArgs s_Banks_trap_up, defBody s_Banks_trap_up, defScope s_Banks_trap_up, [], []⟩, ⟨("Banks", some "leave_trap"), "leave_trap", "Banks.leave_trap", defArgs s_Banks_leave_trap, defBody s_Banks_leave_trap, defScope s_Banks_leave_trap, [], []⟩, ⟨("_law_pick", none), "_law_pick", "_law_pick", defArgs s_z_pick, defBody s_z_pick, defScope s_z_pick, [], []⟩, ⟨("_law_is_integer", none), "_law_is_integer", "_law_is_integer", defArgs s_z_is_integer, defBody s_z_is_integer, defScope s_z_is_integer, [], []⟩, ⟨("_law_word", none), "_law_word", "_law_word", defArgs s_z_word, defBody s_z_word, defScope s_z_word, [], []⟩, ⟨("_law_spill", none), "_law_spill", "_law_spill", defArgs s_z_spill, defBody s_z_spill, defScope s_z_spill, [], []⟩, ⟨("_law_fill", none), "_law_fill", "_law_fill", defArgs s_z_fill, defBody s_z_fill, defScope s_z_fill, [], []⟩, ⟨("_law_words", none), "_law_words", "_law_words", defArgs s_z_words, defBody s_z_words, defScope s_z_words, [], []⟩, ⟨("_law_value", none), "_law_value", "_law_value", defArgs s_z_value, defBody s_z_value, defScope s_z_value, [], []⟩, ⟨("_law_handle", none), "_law_handle", "_law_handle", defArgs s_z_handle, defBody s_z_handle, defScope s_z_handle, [], []⟩, ⟨("_law_down", none), "_law_down", "_law_down", defArgs s_z_down, defBody s_z_down, defScope s_z_down, [], []⟩, ⟨("_law_up", none), "_law_up", "_law_up", defArgs s_z_up, defBody s_z_up, defScope s_z_up, [], []⟩, ⟨("_law_both", none), "_law_both", "_law_both", defArgs s_z_both, defBody s_z_both, defScope s_z_both, [], []⟩, ⟨("_law_same", none), "_law_same", "_law_same", defArgs s_z_same, defBody s_z_same, defScope s_z_same, [], []⟩, ⟨("_law_deed", none), "_law_deed", "_law_deed", defArgs s_z_deed, defBody s_z_deed, defScope s_z_deed, [], []⟩, ⟨("law", none), "law", "law", defArgs s_law, defBody s_law, defScope s_law, [], []⟩]
def exl : List (PySem.W.Frag → Bool) := [(fun K => He.tupB K "NAMES" [.str "halt", .str "add", .str "sub", .str "mul", .str "div", .str "mod", .str "rem", .str "less", .str "equal", .str "high", .str "low", .str "load", .str "store", .str "jump", .str "branch", .str "call", .str "save", .str "restore", .str "back", .str "raise", .str "again", .str "tick", .str "put", .str "get", .str "below", .str "above", .str "bar", .str "setbar", .str "retry"]), (fun K => tupDB K "NAMES"), (fun K => He.valsB K (He.ga K "FORMS") [("halt", .str ""), ("restore", .str ""), ("back", .str ""), ("tick", .str ""), ("retry", .str ""), ("add", .str "das"), ("sub", .str "das"), ("mul", .str "das"), ("div", .str "das"), ("mod", .str "das"), ("rem", .str "das"), ("less", .str "das"), ("equal", .str "das"), ("load", .str "das"), ("store", .str "das"), ("save", .str "das"), ("low", .str "dam"), ("high", .str "dn"), ("branch", .str "dn"), ("jump", .str "j"), ("call", .str "c"), ("raise", .str "c"), ("again", .str "as"), ("below", .str "as"), ("above", .str "as"), ("put", .str "s"), ("setbar", .str "s"), ("get", .str "d"), ("bar", .str "d")]), (fun K => He.tupB K "ZERO" [.str "int", .int 0]), (fun K => rowAB "tuple" K (pathA "NEW_WINDOW" []) [.str "save", .int 0, .int 0, .glo "ZERO"]), (fun K => rowAB "tuple" K (pathA "NO_BAR_handlers" [1]) [.str "int", .int (-1)]), (fun K => rowAB "tuple" K (pathA "NO_BAR_handlers" []) [.str "setbar", .adr (pathA "NO_BAR_handlers" [1])]), (fun K => rowAB "tuple" K (pathA "LEAVING" [0, 1]) [.str "reg", .int 20]), (fun K => rowAB "tuple" K (pathA "LEAVING" [0]) [.str "setbar", .adr (pathA "LEAVING" [0, 1])]), (fun K => rowAB "tuple" K (pathA "LEAVING" [1]) [.str "retry"]), (fun K => rowAB "list" K (pathA "LEAVING" []) [.adr (pathA "LEAVING" [0]), .adr (pathA "LEAVING" [1])]), (fun K => klstB K (pathA "LEAVING" []) [.adr (pathA "LEAVING" [0]), .adr (pathA "LEAVING" [1])]), (fun K => excCB K "Fault"), (fun K => excCB K "ImageError")]
def ex (K : PySem.W.Frag) : Bool := exl.all fun f => f K
def ts : List He.Tab := [((fun K => He.ga K "FORMS"), ["halt", "restore", "back", "tick", "retry", "add", "sub", "mul", "div", "mod", "rem", "less", "equal", "load", "store", "save", "low", "high", "branch", "jump", "call", "raise", "again", "below", "above", "put", "setbar", "get", "bar"])]
def prl : List He.DefD := []
theorem env_mk {w : World} {K : PySem.W.Frag} {h : Heap} {mg : Str → Option Value} (X : K.In h) (G : h.Ns mainGlobals mg) (c : SaysP fa fn ts ex prl w h K) : Env w K mg := ⟨
  He.glo_ok X G (c.x.t.d.fact 0 rfl),
  He.glo_ok X G (c.x.t.d.fact 1 rfl),
  He.glo_ok X G (c.x.t.d.fact 2 rfl),
  He.glo_ok X G (c.x.t.d.fact 3 rfl),
  He.glo_ok X G (c.x.t.d.fact 4 rfl),
  He.glo_ok X G (c.x.t.d.fact 5 rfl),
  He.glo_ok X G (c.x.t.d.fact 6 rfl),
  He.glo_ok X G (c.x.t.d.fact 7 rfl),
  He.glo_ok X G (c.x.t.d.fact 8 rfl),
  He.glo_ok X G (c.x.t.d.fact 9 rfl),
  He.glo_ok X G (c.x.t.d.fact 10 rfl),
  He.glo_ok X G (c.x.t.d.fact 11 rfl),
  He.glo_ok X G (c.x.t.d.fact 12 rfl),
  He.glo_ok X G (c.x.t.d.fact 13 rfl),
  He.glo_ok X G (c.x.t.d.fact 14 rfl),
  He.glo_ok X G (c.x.t.d.fact 15 rfl),
  He.glo_ok X G (c.x.t.d.fact 16 rfl),
  He.glo_ok X G (c.x.t.d.fact 17 rfl),
  He.glo_ok X G (c.x.t.d.fact 18 rfl),
  He.glo_ok X G (c.x.t.d.fact 19 rfl),
  He.glo_ok X G (c.x.t.d.fact 20 rfl),
  He.glo_ok X G (c.x.t.d.fact 21 rfl),
  He.glo_ok X G (c.x.t.d.fact 22 rfl),
  He.glo_ok X G (c.x.t.d.fact 23 rfl),
  He.glo_ok X G (c.x.t.d.fact 24 rfl),
  He.glo_ok X G (c.x.t.d.fact 25 rfl),
  excF_ok (c.x.t.d.fact 26 rfl),
  He.glo_ok X G (c.x.t.d.fact 27 rfl),
  excF_ok (c.x.t.d.fact 28 rfl),
  He.glo_ok X G (c.x.t.d.fact 29 rfl),
  He.cls_ok (c.x.t.d.fact 30 rfl),
  He.mkr_ok (c.x.t.d.fact 31 rfl),
  He.meth_ok (c.x.t.d.fact 32 rfl),
  He.meth_ok (c.x.t.d.fact 33 rfl),
  He.meth_ok (c.x.t.d.fact 34 rfl),
  He.meth_ok (c.x.t.d.fact 35 rfl),
  He.meth_ok (c.x.t.d.fact 36 rfl),
  He.meth_ok (c.x.t.d.fact 37 rfl),
  He.noat_ok (c.x.t.d.fact 38 rfl),
  He.noat_ok (c.x.t.d.fact 39 rfl),
  He.noat_ok (c.x.t.d.fact 40 rfl),
  He.noat_ok (c.x.t.d.fact 41 rfl),
  He.noat_ok (c.x.t.d.fact 42 rfl),
  He.noat_ok (c.x.t.d.fact 43 rfl),
  He.noat_ok (c.x.t.d.fact 44 rfl),
  He.noat_ok (c.x.t.d.fact 45 rfl),
  He.noat_ok (c.x.t.d.fact 46 rfl),
  He.glo_ok X G (c.x.t.d.fact 47 rfl),
  He.cls_ok (c.x.t.d.fact 48 rfl),
  He.mkr_ok (c.x.t.d.fact 49 rfl),
  He.meth_ok (c.x.t.d.fact 50 rfl),
  He.meth_ok (c.x.t.d.fact 51 rfl),
  He.meth_ok (c.x.t.d.fact 52 rfl),
  He.meth_ok (c.x.t.d.fact 53 rfl),
  He.meth_ok (c.x.t.d.fact 54 rfl),
  He.meth_ok (c.x.t.d.fact 55 rfl),
  He.meth_ok (c.x.t.d.fact 56 rfl),
  He.meth_ok (c.x.t.d.fact 57 rfl),
  He.meth_ok (c.x.t.d.fact 58 rfl),
  He.meth_ok (c.x.t.d.fact 59 rfl),
  He.meth_ok (c.x.t.d.fact 60 rfl),
  He.noat_ok (c.x.t.d.fact 61 rfl),
  He.noat_ok (c.x.t.d.fact 62 rfl),
  He.noat_ok (c.x.t.d.fact 63 rfl),
  He.noat_ok (c.x.t.d.fact 64 rfl),
  He.noat_ok (c.x.t.d.fact 65 rfl),
  He.noat_ok (c.x.t.d.fact 66 rfl),
  He.noat_ok (c.x.t.d.fact 67 rfl),
  He.noat_ok (c.x.t.d.fact 68 rfl),
  He.glo_ok X G (c.x.t.d.fact 69 rfl),
  fun H => He.tupB_ok (exget c.x.more 0 rfl) H,
  tupDB_ok (exget c.x.more 1 rfl),
  He.glo_ok X G (c.x.t.d.fact 70 rfl),
  kdct_ok (c.x.t.tab 0 rfl) (exget c.x.more 2 rfl),
  He.int_ok X G (c.x.t.d.fact 71 rfl),
  He.int_ok X G (c.x.t.d.fact 72 rfl),
  He.int_ok X G (c.x.t.d.fact 73 rfl),
  He.int_ok X G (c.x.t.d.fact 74 rfl),
  He.int_ok X G (c.x.t.d.fact 75 rfl),
  He.int_ok X G (c.x.t.d.fact 76 rfl),
  He.int_ok X G (c.x.t.d.fact 77 rfl),
  He.int_ok X G (c.x.t.d.fact 78 rfl),
  He.int_ok X G (c.x.t.d.fact 79 rfl),
  He.int_ok X G (c.x.t.d.fact 80 rfl),
  He.int_ok X G (c.x.t.d.fact 81 rfl),
  He.int_ok X G (c.x.t.d.fact 82 rfl),
  He.int_ok X G (c.x.t.d.fact 83 rfl),
  He.glo_ok X G (c.x.t.d.fact 84 rfl),
  fun H => He.tupB_ok (exget c.x.more 3 rfl) H,
  He.glo_ok X G (c.x.t.d.fact 85 rfl),
  fun H => tupAB_ok (exget c.x.more 4 rfl) H,
  He.glo_ok X G (c.x.t.d.fact 86 rfl),
  fun H => tupAB_ok (exget c.x.more 5 rfl) H,
  fun H => tupAB_ok (exget c.x.more 6 rfl) H,
  He.glo_ok X G (c.x.t.d.fact 87 rfl),
  fun H => tupAB_ok (exget c.x.more 7 rfl) H,
  fun H => tupAB_ok (exget c.x.more 8 rfl) H,
  fun H => tupAB_ok (exget c.x.more 9 rfl) H,
  fun H => lstAB_ok (exget c.x.more 10 rfl) H,
  klstB_ok (exget c.x.more 11 rfl),
  He.int_ok X G (c.x.t.d.fact 88 rfl),
  He.int_ok X G (c.x.t.d.fact 89 rfl),
  He.int_ok X G (c.x.t.d.fact 90 rfl),
  excCB_ok (exget c.x.more 12 rfl),
  excCB_ok (exget c.x.more 13 rfl),
  He.free_ok X G (c.x.t.d.fact 91 rfl),
  He.free_ok X G (c.x.t.d.fact 92 rfl),
  He.free_ok X G (c.x.t.d.fact 93 rfl),
  He.free_ok X G (c.x.t.d.fact 94 rfl),
  He.free_ok X G (c.x.t.d.fact 95 rfl),
  He.free_ok X G (c.x.t.d.fact 96 rfl),
  He.free_ok X G (c.x.t.d.fact 97 rfl),
  c.x.t.d.def_ 0 rfl,
  c.x.t.d.def_ 1 rfl,
  c.x.t.d.def_ 2 rfl,
  c.x.t.d.def_ 3 rfl,
  c.x.t.d.def_ 4 rfl,
  c.x.t.d.def_ 5 rfl,
  c.x.t.d.def_ 6 rfl,
  c.x.t.d.def_ 7 rfl,
  c.x.t.d.def_ 8 rfl,
  c.x.t.d.def_ 9 rfl,
  c.x.t.d.def_ 10 rfl,
  c.x.t.d.def_ 11 rfl,
  c.x.t.d.def_ 12 rfl,
  c.x.t.d.def_ 13 rfl,
  c.x.t.d.def_ 14 rfl,
  c.x.t.d.def_ 15 rfl,
  c.x.t.d.def_ 16 rfl,
  c.x.t.d.def_ 17 rfl,
  c.x.t.d.def_ 18 rfl,
  c.x.t.d.def_ 19 rfl,
  c.x.t.d.def_ 20 rfl,
  c.x.t.d.def_ 21 rfl,
  c.x.t.d.def_ 22 rfl,
  c.x.t.d.def_ 23 rfl,
  c.x.t.d.def_ 24 rfl,
  c.x.t.d.def_ 25 rfl,
  c.x.t.d.def_ 26 rfl,
  c.x.t.d.def_ 27 rfl,
  c.x.t.d.def_ 28 rfl,
  c.x.t.d.def_ 29 rfl,
  c.x.t.d.def_ 30 rfl,
  c.x.t.d.def_ 31 rfl,
  c.x.t.d.def_ 32 rfl,
  c.x.t.d.def_ 33 rfl,
  c.x.t.d.def_ 34 rfl,
  c.x.t.d.def_ 35 rfl,
  c.x.t.d.def_ 36 rfl,
  c.x.t.d.def_ 37 rfl,
  c.x.t.d.def_ 38 rfl,
  c.x.t.d.def_ 39 rfl,
  c.x.t.d.def_ 40 rfl,
  c.x.t.d.def_ 41 rfl,
  c.x.t.d.def_ 42 rfl⟩
local macro_rules | `(tactic| walk_at "tt") => `(tactic| first | (with_reducible exact Y.tt_NAMES))
local macro_rules | `(tactic| walk_at "ef") => `(tactic| first | (with_reducible exact Y.ef_ImageError) | (with_reducible exact Y.ef_Fault))
local macro_rules | `(tactic| walk_at "ec") => `(tactic| first | (with_reducible exact Y.ec_Fault) | (with_reducible exact Y.ec_ImageError))
local macro_rules | `(tactic| walk_at "na") => `(tactic| first | (with_reducible exact Y.na_Ring_memory) | (with_reducible exact Y.na_Ring_windows) | (with_reducible exact Y.na_Ring_rows) | (with_reducible exact Y.na_Ring_shared) | (with_reducible exact Y.na_Ring_current) | (with_reducible exact Y.na_Ring_resident) | (with_reducible exact Y.na_Ring_depth) | (with_reducible exact Y.na_Ring_spills) | (with_reducible exact Y.na_Ring_fills) | (with_reducible exact Y.na_Banks_windows) | (with_reducible exact Y.na_Banks_rows) | (with_reducible exact Y.na_Banks_shared) | (with_reducible exact Y.na_Banks_current) | (with_reducible exact Y.na_Banks_barred) | (with_reducible exact Y.na_Banks_depth) | (with_reducible exact Y.na_Banks_spills) | (with_reducible exact Y.na_Banks_fills))
local macro_rules | `(tactic| walk_at "cl") => `(tactic| first | (with_reducible exact Y.cl_Ring) | (with_reducible exact Y.cl_Banks))
/-! ### the head: facts by names, the run -/
abbrev R : PySem.W.OpenRow := PySem.W.OpenLaw.row PySem.Challenge.rw_windowada_k69_trap_handlers
abbrev hk : PySem.W.Hook := hookP 5 fa fn ts ex prl
def ob (s : PySem.W.SharedT) : AlP := obsP 5 fa fn ts ex prl (HandSHeadRun.getT s)
theorem ob_eq (s : PySem.W.SharedT) : ob s = hk.obs s.abs := obsP_eq (HandSHeadRun.getT_eq s)
def loose : List Str := (["__name__", "AdaError", "ImageError", "NAMES", "FORMS", "LEAST_OPERAND", "MOST_OPERAND", "PAGE", "LEAST_N", "MOST_N", "LEAST_JUMP", "MOST_JUMP", "MOST_ADDRESS", "bounded", "register_bits", "operand_bits", "encode", "STACK", "BARRED", "NEXT_BARRED", "FIRST_SAVED", "SAVED", "ZERO", "NEW_WINDOW", "NO_BAR_handlers"] : List Str) ++ (["LEAVING", "spill_handler", "fill_handler", "trap_code", "Fault", "area", "STACK_IN_ROW", "row_of", "clear_new", "Ring", "TRAP_ADDRESS", "NO_BAR_banks", "Banks", "_law_pick", "_law_is_integer", "_law_word", "_law_spill", "_law_fill", "_law_words", "_law_value", "_law_handle", "_law_down", "_law_up", "_law_both", "_law_same"] : List Str) ++ (["_law_deed"] : List Str)
theorem runF (w : World) : HandSHeadRun.RunEq R (PySem.W.view R.prog [57]) hk ob 4000 loose (w.withFollow "special-get-raises" false) := by
  intro os
  kernel_rfl
theorem runT (w : World) : HandSHeadRun.RunEq R (PySem.W.view R.prog [57]) hk ob 4000 loose (w.withFollow "special-get-raises" true) := by
  intro os
  kernel_rfl
theorem run (w : World) : HandSHeadRun.RunEq R (PySem.W.view R.prog [57]) hk ob 4000 loose w := by
  exact PySem.W.byRow2 "special-get-raises" (P := fun w => HandSHeadRun.RunEq R (PySem.W.view R.prog [57]) hk ob 4000 loose w) runF runT w
/-! ### windows in rows -/
structure BW where
  sh : List Int
  rows : List (List Int)
  cur : Int
  bar : Int
  dep : Int
  spi : Int
  fil : Int
structure BW.ok (W : BW) : Prop where
  s8 : W.sh.length = 8
  r16 : ∀ r ∈ W.rows, r.length = 16
  c0 : 0 ≤ W.cur
  c1 : W.cur < W.rows.length
  n3 : 3 ≤ W.rows.length
  n33 : W.rows.length ≤ 33
  b1 : -1 ≤ W.bar
structure BA where
  b : Addr
  dx : Addr
  S : Addr
  R : Addr
  rs : List Addr
def rowC (rs : List Addr) (rows : List (List Int)) : List Cell := List.zipWith (fun a r => (a, .lst (r.map V.int))) rs rows
theorem rowC_len {rs : List Addr} {rows : List (List Int)} (h : rs.length = rows.length) : (rowC rs rows).length = rows.length := by
  unfold rowC
  rw [List.length_zipWith, h, Nat.min_self]
theorem rowC_get {rs : List Addr} {rows : List (List Int)} (h : rs.length = rows.length) {k : Nat} (hk : k < rows.length) : (rowC rs rows)[k]? = some (rs.getD k 0, .lst ((rows.getD k []).map V.int)) := Hsh.un (by simp (disch := k_dflt (
  refine Hsh.up ?_
  unfold rowC
  rw [List.getElem?_zipWith, List.getD_eq_getElem?_getD, List.getD_eq_getElem?_getD, List.getElem?_eq_getElem (by omega), List.getElem?_eq_getElem hk]
  rfl
  )) only [↓Hsh.on])
theorem rowC_set {rs : List Addr} {rows : List (List Int)} (h : rs.length = rows.length) {k : Nat} (hk : k < rows.length) (l : List Int) : (rowC rs rows).set k (rs.getD k 0, .lst (l.map V.int)) = rowC rs (rows.set k l) := Hsh.un (by simp (disch := k_dflt (
  refine Hsh.up ?_
  apply List.ext_getElem?
  intro j
  rw [List.getElem?_set]
  by_cases q : k = j
  · subst q
    rw [if_pos rfl, if_pos (by rw [rowC_len h]; exact hk), rowC_get (by rw [List.length_set]; exact h) (by rw [List.length_set]; exact hk)]
    rw [List.getD_eq_getElem?_getD (l := rows.set k l), List.getElem?_set_self hk]
    rfl
  · rw [if_neg q]
    unfold rowC
    rw [List.getElem?_zipWith, List.getElem?_zipWith, List.getElem?_set_ne q]
  )) only [↓Hsh.on])
/-- the row below the current one -/
def BW.prv (W : BW) : Nat := if W.cur = 0 then W.rows.length - 1 else W.cur.toNat - 1
/-- where register n stands: 1 for the shared ones, 3 + k for row k -/
def BW.pos (W : BW) (n : Int) : Nat := if n < 8 then 1 else if n < 16 then 3 + W.prv else 3 + W.cur.toNat
def BW.lst (W : BW) (n : Int) : List Int := if n < 8 then W.sh else if n < 16 then W.rows.getD W.prv [] else W.rows.getD W.cur.toNat []
def ixOf (n : Int) : Int := if n < 16 then n else n - 16
def adr (S : Addr) (rs : List Addr) (W : BW) (n : Int) : Addr := if n < 8 then S else if n < 16 then rs.getD W.prv 0 else rs.getD W.cur.toNat 0
def BW.put (W : BW) (n : Int) (l : List Int) : BW := if n < 8 then { W with sh := l } else if n < 16 then { W with rows := W.rows.set W.prv l } else { W with rows := W.rows.set W.cur.toNat l }
def BW.get (W : BW) (n : Int) : Int := (W.lst n).getD (ixOf n).toNat 0
def BW.set (W : BW) (n : Int) (v : Int) : BW := W.put n ((W.lst n).set (ixOf n).toNat v)
section
variable {W : BW} {n : Int}
theorem BW.prv_lt (ok : W.ok) : W.prv < W.rows.length := Hsh.un (by simp (disch := k_dflt (
  refine Hsh.up ?_
  have := ok.c0; have := ok.c1; have := ok.n3
  unfold BW.prv
  split <;> omega
  )) only [↓Hsh.on])
theorem cur_lt (ok : W.ok) : W.cur.toNat < W.rows.length := by
  have := ok.c0; have := ok.c1
  omega
theorem lst_len (ok : W.ok) : (ixOf n).toNat < (W.lst n).length ∨ ¬ (0 ≤ n ∧ n < 32) := Hsh.un (by simp (disch := k_dflt (
  refine Hsh.up ?_
  by_cases h : 0 ≤ n ∧ n < 32
  · left
    have mem : ∀ k, k < W.rows.length → (W.rows.getD k []).length = 16 := fun k hk => by
      rw [List.getD_eq_getElem?_getD, List.getElem?_eq_getElem hk]
      exact ok.r16 _ (List.getElem_mem _)
    have h1 := mem _ (BW.prv_lt ok)
    have h2 := mem _ (cur_lt ok)
    have h3 := ok.s8
    unfold ixOf BW.lst
    split <;> split <;> (try split) <;> omega
  · exact .inr h
  )) only [↓Hsh.on])
end
def sp_row_of (K : PySem.W.Frag) : Sp := mk4 fun a b c d H Q _ => ∃ (R S : Addr) (rs : List Addr) (cur n : Int), a = .ref R ∧ b = .ref S ∧ c = .int cur ∧ d = .int n ∧ H R = some (.lst (rs.map V.ref)) ∧ 0 ≤ cur ∧ cur < rs.length ∧
  ∀ p H', Keep [] H H' → H p = none → H' p = some (.tup [.ref (if n < 8 then S else if n < 16 then rs.getD ((cur - 1) % rs.length).toNat 0 else rs.getD cur.toNat 0), .int (ixOf n)]) → Q (.ref p) H'
theorem ok_row_of {P : Program} {w : World} {K : PySem.W.Frag} {mg : Str → Option Value} {base : Heap} (Y : Env w K mg)  : CallOk P w K mg base CX0 1 "row_of" ["rows", "shared", "current", "number"] (sp_row_of K) := Hsh.un (by simp (disch := k_dflt (
  refine Hsh.up ?_
  obtain ⟨fd, F⟩ := Y.fd_row_of
  refine ⟨_, fd, Y.mg_row_of, F.kp, F.bindsN (fun _ _ _ _ _ _ us hl => match us, hl with | [_, _, _, _], _ => rfl), F.ok sc_row_of mk4_len (fun cdv A outer s H vs Q E hr h => ?_)⟩
  have hu := hu_room hr
  obtain ⟨_, _, _, _, rfl, R, S, rs, cur, n, rfl, rfl, rfl, rfl, hR, h0, h1, k⟩ := h
  have hS : SH [] H H [] := SH.start0
  have hm0 := Int.emod_nonneg (cur - 1) (show ((rs.map V.ref).length : Int) ≠ 0 by rw [List.length_map]; omega)
  have hm1 := Int.emod_lt_of_pos (cur - 1) (show (0 : Int) < ((rs.map V.ref).length : Nat) by rw [List.length_map]; omega)
  refine ⟨_, PSs.nox (pss_cons (ps_if (pt_cmpR op_lt (pv 3) pe_int (nomark _)) (pss_one (ps_ret (pe_tup (pa_cons (pv 1) (pa_cons (pv 3) pa_nil))))) pss_nil)
  (pss_cons (ps_if (pt_cmpR op_lt (pv 3) pe_int (nomark _)) (pss_one (ps_ret (pe_tup (pa_cons (pe_ix xIx (pv 0) (pe_op xMod (pe_op op_sub (pv 2) pe_int) (pe_callB x_len rfl Y.z_len (by decide +kernel) (pa_cons (pv 0) pa_nil))) (fun _ _ => rfl)) (pa_cons (pv 3) pa_nil))))) pss_nil)
  (pss_one (ps_ret (pe_tup (pa_cons (pe_ix xIx (pv 0) (pv 2) (fun _ _ => rfl)) (pa_cons (pe_op op_sub (pv 3) pe_int) pa_nil))))))), ?_⟩
  rw [st_row_of]
  try simp only [cxK, cxK2, cxW, cxW2]
  clear hu hr F
  repeat' walk_at "st"
  · exact k _ _ hS.kp (hS.fr0 0 rfl) ((hS.get 0 rfl).trans (by rw [if_pos (by assumption)]; unfold ixOf; rw [if_pos (by omega)]))
  · exact k _ _ hS.kp (hS.fr0 0 rfl) ((hS.get 0 rfl).trans (by rw [if_neg (by assumption), if_pos (by assumption)]; unfold ixOf; rw [if_pos (by assumption), List.length_map]))
  · exact k _ _ hS.kp (hS.fr0 0 rfl) ((hS.get 0 rfl).trans (by rw [if_neg (by assumption), if_neg (by assumption)]; unfold ixOf; rw [if_neg (by assumption)]))
  )) only [↓Hsh.on])
theorem prv_mod {W : BW} (ok : W.ok) : ((W.cur - 1) % (W.rows.length : Nat)).toNat = W.prv := Hsh.un (by simp (disch := k_dflt (
  refine Hsh.up ?_
  have h0 := ok.c0; have h1 := ok.c1; have h3 := ok.n3
  unfold BW.prv
  by_cases q : W.cur = 0
  · rw [if_pos q, q]
    have : ((0 : Int) - 1) % (W.rows.length : Nat) = (W.rows.length : Nat) - 1 := by
      rw [Int.emod_eq_add_self_emod, Int.emod_eq_of_lt (by omega) (by omega)]
      omega
    rw [this]
    omega
  · rw [if_neg q, Int.emod_eq_of_lt (by omega) (by omega)]
    omega
  )) only [↓Hsh.on])
theorem c_row_of {K : PySem.W.Frag} {A : List Addr} {H0 H : Hp} {L : List Cell} {R S : Addr} {rs : List Addr} {W : BW} {n : Int} {Q : VK} {E : XK} (hS : SH A H0 H L) (hR : H R = some (.lst (rs.map V.ref))) (ok : W.ok) (hl : rs.length = W.rows.length)
    (k : ∀ p H', SH A H0 H' ((p, .tup [.ref (adr S rs W n), .int (ixOf n)]) :: L) → Keep [] H H' → Q (.ref p) H') : sp_row_of K ([.ref R, .ref S, .int W.cur, .int n] ++ []) H Q E := Hsh.un (by simp (disch := k_dflt (
  refine Hsh.up ?_
  refine ⟨_, _, _, _, rfl, R, S, rs, W.cur, n, rfl, rfl, rfl, rfl, hR, ok.c0, by rw [hl]; exact ok.c1, fun p H' kp nw e => k p H' (hS.call0n kp nw ?_) kp⟩
  rw [e, hl, prv_mod ok]
  rfl
  )) only [↓Hsh.on])
def BW.setR (W : BW) (n v : Int) : BW := if 0 < n then W.set n v else W
/-! ### the clearing -/
def clrR (rows : List (List Int)) (S : Nat → Nat → Bool) : List (List Int) := rows.mapIdx fun k r => r.mapIdx fun j x => if S k j = true then 0 else x
theorem clrR_len (rows : List (List Int)) (S : Nat → Nat → Bool) : (clrR rows S).length = rows.length := List.length_mapIdx ..
theorem clrR_get (rows : List (List Int)) (S : Nat → Nat → Bool) (k : Nat) : (clrR rows S).getD k [] = (rows.getD k []).mapIdx fun j x => if S k j = true then 0 else x := Hsh.un (by simp (disch := k_dflt (
  refine Hsh.up ?_
  unfold clrR
  rw [List.getD_eq_getElem?_getD, List.getD_eq_getElem?_getD, List.getElem?_mapIdx]
  cases rows[k]? with
  | none => rfl
  | some r => rfl
  )) only [↓Hsh.on])
theorem clrR_set (rows : List (List Int)) (S : Nat → Nat → Bool) (k j : Nat) : (clrR rows S).set k (((clrR rows S).getD k []).set j 0) = clrR rows fun a b => S a b || (a == k && b == j) := Hsh.un (by simp (disch := k_dflt (
  refine Hsh.up ?_
  apply List.ext_getElem?
  intro a
  rw [List.getElem?_set, clrR_get]
  unfold clrR
  rw [List.getElem?_mapIdx, List.getElem?_mapIdx, List.length_mapIdx]
  by_cases q : k = a
  · subst q
    rw [if_pos rfl]
    by_cases h : k < rows.length
    · rw [if_pos h, List.getElem?_eq_getElem h, List.getD_eq_getElem?_getD, List.getElem?_eq_getElem h]
      simp only [Option.map_some, Option.getD_some, Option.some.injEq]
      apply List.ext_getElem?
      intro b
      rw [List.getElem?_set, List.getElem?_mapIdx, List.getElem?_mapIdx, List.length_mapIdx]
      by_cases q : j = b
      · subst q
        rw [if_pos rfl]
        by_cases h2 : j < rows[k].length
        · rw [if_pos h2, List.getElem?_eq_getElem h2]
          simp
        · rw [if_neg h2, List.getElem?_eq_none (by omega)]
          rfl
      · rw [if_neg q]
        cases (rows[k])[b]? with
        | none => rfl
        | some x => simp [Ne.symm q]
    · rw [if_neg h, List.getElem?_eq_none (by omega)]
      rfl
  · rw [if_neg q]
    cases rows[a]? with
    | none => rfl
    | some r => simp [Ne.symm q]
  )) only [↓Hsh.on])
theorem clrR_eq {rows : List (List Int)} {S T : Nat → Nat → Bool} (h16 : ∀ r ∈ rows, r.length = 16) (h : ∀ a b, a < rows.length → b < 16 → S a b = T a b) : clrR rows S = clrR rows T := Hsh.un (by simp (disch := k_dflt (
  refine Hsh.up ?_
  apply List.ext_getElem?
  intro a
  unfold clrR
  rw [List.getElem?_mapIdx, List.getElem?_mapIdx]
  by_cases q : a < rows.length
  · rw [List.getElem?_eq_getElem q]
    simp only [Option.map_some, Option.some.injEq]
    apply List.ext_getElem?
    intro b
    rw [List.getElem?_mapIdx, List.getElem?_mapIdx]
    have e := h16 _ (List.getElem_mem q)
    by_cases q2 : b < 16
    · rw [h a b q q2]
    · rw [List.getElem?_eq_none (by omega)]
      rfl
  · rw [List.getElem?_eq_none (by omega)]
    rfl
  )) only [↓Hsh.on])
theorem clrR_none {rows : List (List Int)} {S : Nat → Nat → Bool} (h : ∀ a b, S a b = false) : clrR rows S = rows := Hsh.un (by simp (disch := k_dflt (
  refine Hsh.up ?_
  apply List.ext_getElem?
  intro a
  unfold clrR
  rw [List.getElem?_mapIdx]
  cases rows[a]? with
  | none => rfl
  | some r =>
    simp only [Option.map_some, Option.some.injEq]
    apply List.ext_getElem?
    intro b
    rw [List.getElem?_mapIdx]
    cases r[b]? with
    | none => rfl
    | some x => simp [h]
  )) only [↓Hsh.on])
theorem clrR_16 {rows : List (List Int)} {S : Nat → Nat → Bool} (h16 : ∀ r ∈ rows, r.length = 16) : ∀ r ∈ clrR rows S, r.length = 16 := Hsh.un (by simp (disch := k_dflt (
  refine Hsh.up ?_
  intro r hr
  unfold clrR at hr
  obtain ⟨k, hk, e⟩ := List.mem_mapIdx.mp hr
  rw [← e, List.length_mapIdx]
  exact h16 _ (List.getElem_mem hk)
  )) only [↓Hsh.on])
theorem atI_refsP {rs : List Addr} {W : BW} (ok : W.ok) (hl : rs.length = W.rows.length) : atI (rs.map V.ref) (W.cur - 1) = some (.ref (rs.getD W.prv 0)) := Hsh.un (by simp (disch := k_dflt (
  refine Hsh.up ?_
  have h0 := ok.c0; have h1 := ok.c1; have h3 := ok.n3
  have hp := BW.prv_lt ok
  have e : ixN (rs.map V.ref).length (W.cur - 1) = some W.prv := by
    rw [List.length_map, hl]
    unfold ixN BW.prv
    by_cases q : W.cur = 0
    · rw [if_neg (by omega), if_pos (by omega), if_pos q]
      congr 1
      omega
    · rw [if_pos (by omega), if_pos (by omega), if_neg q]
      congr 1
      omega
  unfold atI
  rw [e]
  show (rs.map V.ref)[W.prv]? = _
  rw [List.getElem?_map, List.getD_eq_getElem?_getD, List.getElem?_eq_getElem (by omega)]
  rfl
  )) only [↓Hsh.on])
theorem cur_ne_prv {W : BW} (ok : W.ok) : W.cur.toNat ≠ W.prv := Hsh.un (by simp (disch := k_dflt (
  refine Hsh.up ?_
  have h0 := ok.c0; have h1 := ok.c1; have h3 := ok.n3
  unfold BW.prv
  split <;> omega
  )) only [↓Hsh.on])
/-- what is clear behind i turns of the program -/
def SP (W : BW) (i : Nat) (a b : Nat) : Bool := (a == W.cur.toNat && decide (b < i)) || (a == W.prv && decide (8 ≤ b ∧ b < 8 + i))
abbrev rCells (R : Addr) (rs : List Addr) (rows : List (List Int)) : List Cell := (R, .lst (rs.map V.ref)) :: rowC rs rows
def sp_clear_new (K : PySem.W.Frag) : Sp := mk2 fun a b H Q _ => ∃ (R : Addr) (rs : List Addr) (W : BW), a = .ref R ∧ b = .int W.cur ∧ Blk H (rCells R rs W.rows) ∧ W.ok ∧ rs.length = W.rows.length ∧
  ∀ H', SH ((rCells R rs W.rows).map (·.1)) H H' (rCells R rs (clrR W.rows (SP W 8))) → Q .non H'
theorem h_clr {A : List Addr} {H0 H : Hp} {R : Addr} {rs : List Addr} {rows : List (List Int)} {S : Nat → Nat → Bool} {k : Nat} {i : Int} {P : Hp → Prop} (hS : SH A H0 H (rCells R rs (clrR rows S))) (hl : rs.length = rows.length) (h16 : ∀ r ∈ rows, r.length = 16) (hk : k < rows.length) (h0 : 0 ≤ i) (h1 : i < 16)
    (h : ∀ H', SH A H0 H' (rCells R rs (clrR rows fun a b => S a b || (a == k && b == i.toNat))) → P H') : rSetL (.ref (rs.getD k 0)) (.int i) (.int 0) H P := Hsh.un (by simp (disch := k_dflt (
  refine Hsh.up ?_
  have hk2 : k < (clrR rows S).length := by rw [clrR_len]; exact hk
  have hl2 : rs.length = (clrR rows S).length := by rw [clrR_len]; exact hl
  have h16' : ((clrR rows S).getD k []).length = 16 := by
    rw [List.getD_eq_getElem?_getD, List.getElem?_eq_getElem hk2]
    exact clrR_16 h16 _ (List.getElem_mem _)
  refine h_setL hS (i := k + 1) (rowC_get hl2 hk2) (ixN_in h0 (by rw [List.length_map, h16']; exact h1)) (set_ints _ _ _) ?_ h
  show _ :: (rowC rs (clrR rows S)).set k _ = _
  rw [rowC_set hl2 hk2, clrR_set]
  )) only [↓Hsh.on])
theorem ok_clear_new {P : Program} {w : World} {K : PySem.W.Frag} {mg : Str → Option Value} {base : Heap} (Y : Env w K mg)  : CallOk P w K mg base CX0 1 "clear_new" ["rows", "current"] (sp_clear_new K) := Hsh.un (by simp (disch := k_dflt (
  refine Hsh.up ?_
  obtain ⟨fd, F⟩ := Y.fd_clear_new
  refine ⟨_, fd, Y.mg_clear_new, F.kp, F.bindsN (fun _ _ _ _ _ _ us hl => match us, hl with | [_, _], _ => rfl), F.ok sc_clear_new mk2_len (fun cdv A outer s H vs Q E hr h => ?_)⟩
  have hu := hu_room hr
  obtain ⟨_, _, rfl, R, rs, W, rfl, rfl, hB, ok, hl, k⟩ := h
  have hS := hB.sh
  have hP := atI_refsP ok hl
  have hc0 := ok.c0
  have hc1 := ok.c1
  refine ⟨_, PSs.nox (pss_one (ps_for PassesOwn.never rfl (pi_range1 rfl Y.z_range (pa_cons pe_int pa_nil)) (pg_name (i := 2) sc_clear_new.nd rfl (Or.inl rfl))
  (pss_cons (ps_asg pe_int (pg_sub (pe_ix xIx (pv 0) (pv 1) (fun _ _ => rfl)) (pv 2) set_list))
  (pss_one (ps_asg pe_int (pg_sub (pe_ix xIx (pv 0) (pe_op op_sub (pv 1) pe_int) (fun _ _ => rfl)) (pe_op xAdd (pv 2) pe_int) set_list)))))), ?_⟩
  rw [st_clear_new]
  try simp only [cxK, cxK2, cxW, cxW2]
  clear hu hr F
  repeat' walk_at "st"
  refine u_forR1 (fun i σ H' => ∃ v, σ = [some (.ref R), some (.int W.cur), v] ∧ SH ((rCells R rs W.rows).map (·.1)) H H' (rCells R rs (clrR W.rows (SP W i)))) (by decide) (by decide) ⟨_, rfl, ?_⟩ ?_ ?_
  · have e : clrR W.rows (SP W 0) = W.rows := clrR_none fun a b => by unfold SP; simp
    rw [e]; exact hS
  · rintro i σ H2 hi ⟨v, rfl, hS⟩
    repeat' walk_at "st"
    refine h_clr hS hl ok.r16 (cur_lt ok) (by omega) (by omega) fun H3 hS3 => ?_
    clear hS; rename SH _ _ _ _ => hS
    repeat' walk_at "st"
    refine s_ixL (SqL.of (hS.get 0 rfl)) hP ?_
    repeat' walk_at "st"
    refine h_clr hS hl ok.r16 (BW.prv_lt ok) (by omega) (by omega) fun H4 hS4 => ⟨_, rfl, ?_⟩
    have e : ∀ a b, (SP W i a b || a == W.cur.toNat && b == (i : Int).toNat || a == W.prv && b == ((i : Int) + 8).toNat) = SP W (i + 1) a b := fun a b => by
      rw [Bool.eq_iff_iff]
      unfold SP
      simp only [Bool.or_eq_true, Bool.and_eq_true, beq_iff_eq, decide_eq_true_eq]
      omega
    rw [clrR_eq ok.r16 (fun a b _ _ => e a b)] at hS4
    exact hS4
  · rintro σ H2 ⟨v, rfl, hS⟩
    repeat' walk_at "st"
    exact k _ hS
  )) only [↓Hsh.on])
def BW.down (W : BW) : BW := { W with cur := (W.cur - 1) % (W.rows.length : Nat), dep := W.dep + 1 }
def BW.up (W : BW) : BW := { W with cur := (W.cur + 1) % (W.rows.length : Nat), dep := W.dep - 1 }
theorem down_ok {W : BW} (ok : W.ok) : W.down.ok := Hsh.un (by simp (disch := k_dflt (
  refine Hsh.up ?_
  have h3 := ok.n3
  have e0 := Int.emod_nonneg (W.cur - 1) (show ((W.rows.length : Nat) : Int) ≠ 0 by omega)
  have e1 := Int.emod_lt_of_pos (W.cur - 1) (show (0 : Int) < (W.rows.length : Nat) by omega)
  exact ⟨ok.s8, ok.r16, e0, e1, ok.n3, ok.n33, ok.b1⟩
  )) only [↓Hsh.on])
theorem up_ok {W : BW} (ok : W.ok) : W.up.ok := Hsh.un (by simp (disch := k_dflt (
  refine Hsh.up ?_
  have h3 := ok.n3
  have e0 := Int.emod_nonneg (W.cur + 1) (show ((W.rows.length : Nat) : Int) ≠ 0 by omega)
  have e1 := Int.emod_lt_of_pos (W.cur + 1) (show (0 : Int) < (W.rows.length : Nat) by omega)
  exact ⟨ok.s8, ok.r16, e0, e1, ok.n3, ok.n33, ok.b1⟩
  )) only [↓Hsh.on])
def BW.clr (W : BW) : BW := { W with rows := clrR W.rows (SP W 8) }
theorem clr_ok {W : BW} (ok : W.ok) : W.clr.ok := ⟨ok.s8, clrR_16 ok.r16, ok.c0, by show W.cur < ((clrR W.rows _).length : Nat); rw [clrR_len]; exact ok.c1, by show 3 ≤ (clrR W.rows _).length; rw [clrR_len]; exact ok.n3, by show (clrR W.rows _).length ≤ 33; rw [clrR_len]; exact ok.n33, ok.b1⟩
def BW.downC (W : BW) : BW := if W.bar = -1 then W.down else W.down.clr
theorem set_len (W : BW) (n v : Int) : (W.setR n v).rows.length = W.rows.length := Hsh.un (by simp (disch := k_dflt (
  refine Hsh.up ?_
  unfold BW.setR
  split
  · unfold BW.set BW.put
    split
    · rfl
    · split
      · exact List.length_set ..
      · exact List.length_set ..
  · rfl
  )) only [↓Hsh.on])
def BW.spiP (X : BW) : BW := ⟨X.sh, X.rows, X.cur, X.bar, X.dep, X.spi + 1, X.fil⟩
def BW.filP (X : BW) : BW := ⟨X.sh, X.rows, X.cur, X.bar, X.dep, X.spi, X.fil + 1⟩
theorem rowC_snoc {rs : List Addr} {rows : List (List Int)} {p : Addr} {r : List Int} (h : rs.length = rows.length) : rowC (rs ++ [p]) (rows ++ [r]) = rowC rs rows ++ [(p, .lst (r.map V.int))] := Hsh.un (by simp (disch := k_dflt (
  refine Hsh.up ?_
  unfold rowC
  rw [List.zipWith_append h]
  rfl
  )) only [↓Hsh.on])
theorem row_snoc {A : List Addr} {H0 H : Hp} {D p : Addr} {t : Cell} {rs : List Addr} {rows : List (List Int)} {r : List Int} {F : List Cell} (hS : SH A H0 H ((p, .lst (r.map V.int)) :: t :: (D, .lst (rs.map V.ref ++ [V.ref p])) :: (rowC rs rows ++ F))) (h : rs.length = rows.length) :
    SH A H0 H ((D, .lst ((rs ++ [p]).map V.ref)) :: (rowC (rs ++ [p]) (rows ++ [r]) ++ F)) := Hsh.un (by simp (disch := k_dflt (
  refine Hsh.up ?_
  rw [rowC_snoc h, List.map_append]
  refine (hS.sub (L' := (p, .lst (r.map V.int)) :: (D, .lst (rs.map V.ref ++ [V.ref p])) :: (rowC rs rows ++ F)) (List.Sublist.cons_cons _ (List.sublist_cons_self _ _))).perm ?_
  refine (List.Perm.swap _ _ _).trans (List.Perm.cons _ ?_)
  rw [List.append_assoc]
  exact (List.perm_middle (l₁ := rowC rs rows)).symm
  )) only [↓Hsh.on])
theorem downC_pos {W : BW} (h : ¬ W.bar = -1) : W.downC = W.down.clr := by unfold BW.downC; rw [if_neg h]
theorem downC_neg {W : BW} (h : W.bar = -1) : W.downC = W.down := by unfold BW.downC; rw [if_pos h]
theorem set_ok {W : BW} (ok : W.ok) (n v : Int) : (W.set n v).ok := Hsh.un (by simp (disch := k_dflt (
  refine Hsh.up ?_
  have r16 : ∀ (k : Nat) (l : List Int), l.length = (W.rows.getD k []).length → ∀ r ∈ W.rows.set k l, r.length = 16 := fun k l hl r hr => by
    rcases List.mem_or_eq_of_mem_set hr with h | rfl
    · exact ok.r16 _ h
    · by_cases hk : k < W.rows.length
      · rw [hl, List.getD_eq_getElem?_getD, List.getElem?_eq_getElem hk]
        exact ok.r16 _ (List.getElem_mem _)
      · rw [List.set_eq_of_length_le (by omega)] at hr
        exact ok.r16 _ hr
  unfold BW.set BW.put BW.lst
  split
  · exact ⟨by simp only [List.length_set]; exact ok.s8, ok.r16, ok.c0, ok.c1, ok.n3, ok.n33, ok.b1⟩
  · split
    · exact ⟨ok.s8, r16 _ _ (List.length_set ..), ok.c0, by simp only [List.length_set]; exact ok.c1, by simp only [List.length_set]; exact ok.n3, by simp only [List.length_set]; exact ok.n33, ok.b1⟩
    · exact ⟨ok.s8, r16 _ _ (List.length_set ..), ok.c0, by simp only [List.length_set]; exact ok.c1, by simp only [List.length_set]; exact ok.n3, by simp only [List.length_set]; exact ok.n33, ok.b1⟩
  )) only [↓Hsh.on])
theorem setR_ok {W : BW} (ok : W.ok) (n v : Int) : (W.setR n v).ok := Hsh.un (by simp (disch := k_dflt (
  refine Hsh.up ?_
  unfold BW.setR
  split
  · exact set_ok ok n v
  · exact ok
  )) only [↓Hsh.on])
theorem spiP_ok {W : BW} (ok : W.ok) : W.spiP.ok := ⟨ok.s8, ok.r16, ok.c0, ok.c1, ok.n3, ok.n33, ok.b1⟩
theorem filP_ok {W : BW} (ok : W.ok) : W.filP.ok := ⟨ok.s8, ok.r16, ok.c0, ok.c1, ok.n3, ok.n33, ok.b1⟩
theorem bar_ok {W : BW} (ok : W.ok) {n : Int} (h : -1 ≤ n) : ({ W with bar := n } : BW).ok := ⟨ok.s8, ok.r16, ok.c0, ok.c1, ok.n3, ok.n33, h⟩
theorem downC_ok {W : BW} (ok : W.ok) : W.downC.ok := Hsh.un (by simp (disch := k_dflt (
  refine Hsh.up ?_
  unfold BW.downC
  split
  · exact down_ok ok
  · exact clr_ok (down_ok ok)
  )) only [↓Hsh.on])
theorem downC_len (W : BW) : W.downC.rows.length = W.rows.length := Hsh.un (by simp (disch := k_dflt (
  refine Hsh.up ?_
  unfold BW.downC
  split
  · rfl
  · exact clrR_len ..
  )) only [↓Hsh.on])

/-! ### the banks -/
abbrev bCells (K : PySem.W.Frag) (B : BA) (W : BW) : List Cell :=
  (B.b, .ins (He.ga K "Banks") B.dx [("windows", .int (W.rows.length : Nat)), ("_rows", .ref B.R), ("_shared", .ref B.S), ("current", .int W.cur), ("barred", .int W.bar), ("depth", .int W.dep), ("spills", .int W.spi), ("fills", .int W.fil)]) ::
  (B.S, .lst (W.sh.map V.int)) :: (B.R, .lst (B.rs.map V.ref)) :: rowC B.rs W.rows
section
variable {K : PySem.W.Frag} {B : BA} {W : BW} {n : Int}
theorem b_get (ok : W.ok) (hl : B.rs.length = W.rows.length) (n : Int) : (bCells K B W)[W.pos n]? = some (adr B.S B.rs W n, .lst ((W.lst n).map V.int)) := Hsh.un (by simp (disch := k_dflt (
  refine Hsh.up ?_
  have h1 := rowC_get hl (BW.prv_lt ok)
  have h2 := rowC_get hl (cur_lt ok)
  unfold BW.pos adr BW.lst
  split
  · rfl
  · split
    · rw [Nat.add_comm]; exact h1
    · rw [Nat.add_comm]; exact h2
  )) only [↓Hsh.on])
theorem b_set (ok : W.ok) (hl : B.rs.length = W.rows.length) (n : Int) (l : List Int) : (bCells K B W).set (W.pos n) (adr B.S B.rs W n, .lst (l.map V.int)) = bCells K B (W.put n l) := Hsh.un (by simp (disch := k_dflt (
  refine Hsh.up ?_
  have h1 := rowC_set hl (BW.prv_lt ok) l
  have h2 := rowC_set hl (cur_lt ok) l
  unfold BW.pos adr BW.put
  split
  · rfl
  · split
    · rw [Nat.add_comm]
      show _ :: _ :: _ :: (rowC B.rs W.rows).set _ _ = _
      rw [h1]
      simp only [bCells, List.length_set]
    · rw [Nat.add_comm]
      show _ :: _ :: _ :: (rowC B.rs W.rows).set _ _ = _
      rw [h2]
      simp only [bCells, List.length_set]
  )) only [↓Hsh.on])
end
def sp_Banks_read (K : PySem.W.Frag) : Sp := mk2 fun a b H Q _ => ∃ (B : BA) (W : BW) (n : Int), a = .ref B.b ∧ b = .int n ∧ (∀ c ∈ bCells K B W, H c.1 = some c.2) ∧ W.ok ∧ B.rs.length = W.rows.length ∧ 0 ≤ n ∧ n < 32 ∧ ∀ H', Keep [] H H' → Q (.int (W.get n)) H'
theorem ok_Banks_read {P : Program} {w : World} {K : PySem.W.Frag} {mg : Str → Option Value} {base : Heap} (Y : Env w K mg) (G_row_of : CallOk P w K mg base CX0 1 "row_of" ["rows", "shared", "current", "number"] (sp_row_of K)) : MethOk P w K mg base CX0 2 "Banks" "read" ["self", "number"] (sp_Banks_read K) := Hsh.un (by simp (disch := k_dflt (
  refine Hsh.up ?_
  obtain ⟨fd, F⟩ := Y.fd_Banks_read
  refine ⟨fd, Y.cl_Banks, Y.me_Banks_read, F.bindsN (fun _ _ _ _ _ _ us hl => match us, hl with | [_, _], _ => rfl), F.ok sc_Banks_read mk2_len (fun cdv A outer s H vs Q E hr h => ?_)⟩
  have hu := hu_room hr
  obtain ⟨_, _, rfl, B, W, n, rfl, rfl, hB, ok, hl, h0, h1, k⟩ := h
  have hS : SH [] H H [] := SH.start0
  have hb := hB _ (.head _)
  have hR := hB _ (.tail _ (.tail _ (.head _)))
  have hg := hB _ (List.mem_of_getElem? (b_get (K := K) ok hl n))
  have hi0 : 0 ≤ ixOf n := by unfold ixOf; split <;> omega
  have hi1 : ixOf n < ((W.lst n).map V.int).length := by
    rcases lst_len (n := n) ok with h | h
    · rw [List.length_map]; omega
    · exact absurd ⟨h0, h1⟩ h
  refine ⟨_, PSs.nox (pss_cons (ps_asg (pe_callG G_row_of hr rfl pass0 (pa_cons (pe_fld (pv 0) rfl) (pa_cons (pe_fld (pv 0) rfl) (pa_cons (pe_fld (pv 0) rfl) (pa_cons (pv 1) pa_nil))))) (pg_tup rfl (pgs_cons (pg_name (i := 2) sc_Banks_read.nd rfl (Or.inl rfl)) (pgs_cons (pg_name (i := 3) sc_Banks_read.nd rfl (Or.inl rfl)) pgs_nil))))
  (pss_one (ps_ret (pe_ix xIx (pv 2) (pv 3) (fun _ _ => rfl))))), ?_⟩
  rw [st_Banks_read]
  try simp only [cxK, cxK2, cxW, cxW2]
  clear hu hr F
  repeat' walk_at "st"
  refine c_row_of hS hR ok hl (fun p H1 hS1 _ => ?_)
  clear hS; rename SH _ _ _ _ => hS
  repeat' walk_at "st"
  exact k _ hS.kp
  )) only [↓Hsh.on])
theorem c_Banks_read {K : PySem.W.Frag} {A : List Addr} {H0 H : Hp} {L : List Cell} {B : BA} {W : BW} {n : Int} {Q : VK} {E : XK} (hS : SH A H0 H L) (hB : ∀ c ∈ bCells K B W, H c.1 = some c.2) (ok : W.ok) (hl : B.rs.length = W.rows.length) (h0 : 0 ≤ n) (h1 : n < 32)
    (k : ∀ H', SH A H0 H' L → Keep [] H H' → Q (.int (W.get n)) H') : sp_Banks_read K (.ref B.b :: ([.int n] ++ [])) H Q E := ⟨_, _, rfl, B, W, n, rfl, rfl, hB, ok, hl, h0, h1, fun H' kp => k H' (hS.call0 kp) kp⟩
def sp_Banks_write (K : PySem.W.Frag) : Sp := mk3 fun a b c H Q _ => ∃ (B : BA) (W : BW) (n v : Int), a = .ref B.b ∧ b = .int n ∧ c = .int v ∧ Blk H (bCells K B W) ∧ W.ok ∧ B.rs.length = W.rows.length ∧ 0 ≤ n ∧ n < 32 ∧
  ∀ H', SH ((bCells K B W).map (·.1)) H H' (bCells K B (W.setR n v)) → Q .non H'
theorem ok_Banks_write {P : Program} {w : World} {K : PySem.W.Frag} {mg : Str → Option Value} {base : Heap} (Y : Env w K mg) (G_row_of : CallOk P w K mg base CX0 1 "row_of" ["rows", "shared", "current", "number"] (sp_row_of K)) : MethOk P w K mg base CX0 2 "Banks" "write" ["self", "number", "word"] (sp_Banks_write K) := Hsh.un (by simp (disch := k_dflt (
  refine Hsh.up ?_
  obtain ⟨fd, F⟩ := Y.fd_Banks_write
  refine ⟨fd, Y.cl_Banks, Y.me_Banks_write, F.bindsN (fun _ _ _ _ _ _ us hl => match us, hl with | [_, _, _], _ => rfl), F.ok sc_Banks_write mk3_len (fun cdv A outer s H vs Q E hr h => ?_)⟩
  have hu := hu_room hr
  obtain ⟨_, _, _, rfl, B, W, n, v, rfl, rfl, rfl, hB, ok, hl, h0, h1, k⟩ := h
  have hS := hB.sh
  have hi0 : 0 ≤ ixOf n := by unfold ixOf; split <;> omega
  have hi1 : ixOf n < ((W.lst n).map V.int).length := by
    rcases lst_len (n := n) ok with h | h
    · rw [List.length_map]; omega
    · exact absurd ⟨h0, h1⟩ h
  refine ⟨_, PSs.nox (pss_one (ps_if (pt_cmpR op_gt (pv 1) pe_int (nomark _)) (pss_cons (ps_asg (pe_callG G_row_of hr rfl pass0 (pa_cons (pe_fld (pv 0) rfl) (pa_cons (pe_fld (pv 0) rfl) (pa_cons (pe_fld (pv 0) rfl) (pa_cons (pv 1) pa_nil))))) (pg_tup rfl (pgs_cons (pg_name (i := 3) sc_Banks_write.nd rfl (Or.inl rfl)) (pgs_cons (pg_name (i := 4) sc_Banks_write.nd rfl (Or.inl rfl)) pgs_nil))))
  (pss_one (ps_asg (pv 2) (pg_sub (pv 3) (pv 4) set_list)))) pss_nil)), ?_⟩
  rw [st_Banks_write]
  try simp only [cxK, cxK2, cxW, cxW2]
  clear hu hr F
  unfold BW.setR at k
  repeat' walk_at "st"
  · refine c_row_of hS (hS.get 2 rfl) ok hl (fun p H1 hS1 _ => ?_)
    clear hS; rename SH _ _ _ _ => hS
    repeat' walk_at "st"
    refine h_setL hS (i := W.pos n + 1) (b_get ok hl n) (ixN_in hi0 hi1) (set_ints _ _ _) (L' := (p, .tup [.ref (adr B.S B.rs W n), .int (ixOf n)]) :: bCells K B (W.set n v)) ?_ (fun H2 hS2 => ?_)
    · show _ :: (bCells K B W).set _ _ = _
      rw [b_set ok hl]
      rfl
    · clear hS; rename SH _ _ _ _ => hS
      repeat' walk_at "st"
      rw [if_pos (by assumption)] at k
      exact k _ hS.drop1
  · rw [if_neg (by assumption)] at k
    exact k _ hS
  )) only [↓Hsh.on])
def sp_Banks_set_bar (K : PySem.W.Frag) : Sp := mk2 fun a b H Q _ => ∃ (B : BA) (W : BW) (n : Int), a = .ref B.b ∧ b = .int n ∧ Blk H (bCells K B W) ∧ ∀ H', SH ((bCells K B W).map (·.1)) H H' (bCells K B { W with bar := n }) → Q .non H'
theorem ok_Banks_set_bar {P : Program} {w : World} {K : PySem.W.Frag} {mg : Str → Option Value} {base : Heap} (Y : Env w K mg)  : MethOk P w K mg base CX0 1 "Banks" "set_bar" ["self", "number"] (sp_Banks_set_bar K) := Hsh.un (by simp (disch := k_dflt (
  refine Hsh.up ?_
  obtain ⟨fd, F⟩ := Y.fd_Banks_set_bar
  refine ⟨fd, Y.cl_Banks, Y.me_Banks_set_bar, F.bindsN (fun _ _ _ _ _ _ us hl => match us, hl with | [_, _], _ => rfl), F.ok sc_Banks_set_bar mk2_len (fun cdv A outer s H vs Q E hr h => ?_)⟩
  have hu := hu_room hr
  obtain ⟨_, _, rfl, B, W, n, rfl, rfl, hB, k⟩ := h
  have hS := hB.sh
  refine ⟨_, PSs.nox (pss_one (ps_fld (pv 0) (pv 1) rfl)), ?_⟩
  rw [st_Banks_set_bar]
  try simp only [cxK, cxK2, cxW, cxW2]
  clear hu hr F
  repeat' walk_at "st"
  exact k _ hS
  )) only [↓Hsh.on])
def sp_Banks_move_down (K : PySem.W.Frag) : Sp := mk1 fun a H Q _ => ∃ (B : BA) (W : BW), a = .ref B.b ∧ Blk H (bCells K B W) ∧ 0 < W.rows.length ∧ ∀ H', SH ((bCells K B W).map (·.1)) H H' (bCells K B W.down) → Q .non H'
theorem ok_Banks_move_down {P : Program} {w : World} {K : PySem.W.Frag} {mg : Str → Option Value} {base : Heap} (Y : Env w K mg)  : MethOk P w K mg base CX0 1 "Banks" "_move_down" ["self"] (sp_Banks_move_down K) := Hsh.un (by simp (disch := k_dflt (
  refine Hsh.up ?_
  obtain ⟨fd, F⟩ := Y.fd_Banks_move_down
  refine ⟨fd, Y.cl_Banks, Y.me_Banks_move_down, F.bindsN (fun _ _ _ _ _ _ us hl => match us, hl with | [_], _ => rfl), F.ok sc_Banks_move_down mk1_len (fun cdv A outer s H vs Q E hr h => ?_)⟩
  have hu := hu_room hr
  obtain ⟨_, rfl, B, W, rfl, hB, h0, k⟩ := h
  have hS := hB.sh
  refine ⟨_, PSs.nox (pss_cons (ps_fld (pv 0) (pe_op xMod (pe_op op_sub (pe_fld (pv 0) rfl) pe_int) (pe_fld (pv 0) rfl)) rfl)
  (pss_one (ps_fld (pv 0) (pe_op xAdd (pe_fld (pv 0) rfl) pe_int) rfl))), ?_⟩
  rw [st_Banks_move_down]
  try simp only [cxK, cxK2, cxW, cxW2]
  clear hu hr F
  repeat' walk_at "st"
  exact k _ hS
  )) only [↓Hsh.on])
def sp_Banks_shift_up (K : PySem.W.Frag) : Sp := mk1 fun a H Q _ => ∃ (B : BA) (W : BW), a = .ref B.b ∧ Blk H (bCells K B W) ∧ 0 < W.rows.length ∧ ∀ H', SH ((bCells K B W).map (·.1)) H H' (bCells K B W.up) → Q .non H'
theorem ok_Banks_shift_up {P : Program} {w : World} {K : PySem.W.Frag} {mg : Str → Option Value} {base : Heap} (Y : Env w K mg)  : MethOk P w K mg base CX0 1 "Banks" "shift_up" ["self"] (sp_Banks_shift_up K) := Hsh.un (by simp (disch := k_dflt (
  refine Hsh.up ?_
  obtain ⟨fd, F⟩ := Y.fd_Banks_shift_up
  refine ⟨fd, Y.cl_Banks, Y.me_Banks_shift_up, F.bindsN (fun _ _ _ _ _ _ us hl => match us, hl with | [_], _ => rfl), F.ok sc_Banks_shift_up mk1_len (fun cdv A outer s H vs Q E hr h => ?_)⟩
  have hu := hu_room hr
  obtain ⟨_, rfl, B, W, rfl, hB, h0, k⟩ := h
  have hS := hB.sh
  refine ⟨_, PSs.nox (pss_cons (ps_fld (pv 0) (pe_op xMod (pe_op xAdd (pe_fld (pv 0) rfl) pe_int) (pe_fld (pv 0) rfl)) rfl)
  (pss_one (ps_fld (pv 0) (pe_op op_sub (pe_fld (pv 0) rfl) pe_int) rfl))), ?_⟩
  rw [st_Banks_shift_up]
  try simp only [cxK, cxK2, cxW, cxW2]
  clear hu hr F
  repeat' walk_at "st"
  exact k _ hS
  )) only [↓Hsh.on])
def sp_Banks_blocked_down (K : PySem.W.Frag) : Sp := mk1 fun a H Q _ => ∃ (B : BA) (W : BW), a = .ref B.b ∧ (∀ c ∈ bCells K B W, H c.1 = some c.2) ∧ 0 < W.rows.length ∧ Q (.bl (decide ((W.cur - 1) % (W.rows.length : Nat) = W.bar))) H
theorem ok_Banks_blocked_down {P : Program} {w : World} {K : PySem.W.Frag} {mg : Str → Option Value} {base : Heap} (Y : Env w K mg)  : MethOk P w K mg base CX0 1 "Banks" "blocked_down" ["self"] (sp_Banks_blocked_down K) := Hsh.un (by simp (disch := k_dflt (
  refine Hsh.up ?_
  obtain ⟨fd, F⟩ := Y.fd_Banks_blocked_down
  refine ⟨fd, Y.cl_Banks, Y.me_Banks_blocked_down, F.bindsN (fun _ _ _ _ _ _ us hl => match us, hl with | [_], _ => rfl), F.ok sc_Banks_blocked_down mk1_len (fun cdv A outer s H vs Q E hr h => ?_)⟩
  have hu := hu_room hr
  obtain ⟨_, rfl, B, W, rfl, hB, h0, k⟩ := h
  have hS : SH [] H H [] := SH.start0
  have hb := hB _ (.head _)
  refine ⟨_, PSs.nox (pss_one (ps_ret (pe_cmpR (xEq hu) (pe_op xMod (pe_op op_sub (pe_fld (pv 0) rfl) pe_int) (pe_fld (pv 0) rfl)) (pe_fld (pv 0) rfl) (nomark _)))), ?_⟩
  rw [st_Banks_blocked_down]
  try simp only [cxK, cxK2, cxW, cxW2]
  clear hu hr F
  repeat' walk_at "st"
  exact k
  )) only [↓Hsh.on])
def sp_Banks_blocked_up (K : PySem.W.Frag) : Sp := mk1 fun a H Q _ => ∃ (B : BA) (W : BW), a = .ref B.b ∧ (∀ c ∈ bCells K B W, H c.1 = some c.2) ∧ 0 < W.rows.length ∧ Q (.bl (decide ((W.cur + 1) % (W.rows.length : Nat) = W.bar))) H
theorem ok_Banks_blocked_up {P : Program} {w : World} {K : PySem.W.Frag} {mg : Str → Option Value} {base : Heap} (Y : Env w K mg)  : MethOk P w K mg base CX0 1 "Banks" "blocked_up" ["self"] (sp_Banks_blocked_up K) := Hsh.un (by simp (disch := k_dflt (
  refine Hsh.up ?_
  obtain ⟨fd, F⟩ := Y.fd_Banks_blocked_up
  refine ⟨fd, Y.cl_Banks, Y.me_Banks_blocked_up, F.bindsN (fun _ _ _ _ _ _ us hl => match us, hl with | [_], _ => rfl), F.ok sc_Banks_blocked_up mk1_len (fun cdv A outer s H vs Q E hr h => ?_)⟩
  have hu := hu_room hr
  obtain ⟨_, rfl, B, W, rfl, hB, h0, k⟩ := h
  have hS : SH [] H H [] := SH.start0
  have hb := hB _ (.head _)
  refine ⟨_, PSs.nox (pss_one (ps_ret (pe_cmpR (xEq hu) (pe_op xMod (pe_op xAdd (pe_fld (pv 0) rfl) pe_int) (pe_fld (pv 0) rfl)) (pe_fld (pv 0) rfl) (nomark _)))), ?_⟩
  rw [st_Banks_blocked_up]
  try simp only [cxK, cxK2, cxW, cxW2]
  clear hu hr F
  repeat' walk_at "st"
  exact k
  )) only [↓Hsh.on])
def sp_Banks_shift_down (K : PySem.W.Frag) : Sp := mk1 fun a H Q _ => ∃ (B : BA) (W : BW), a = .ref B.b ∧ Blk H (bCells K B W) ∧ W.ok ∧ B.rs.length = W.rows.length ∧ ∀ H', SH ((bCells K B W).map (·.1)) H H' (bCells K B W.downC) → Q .non H'
theorem ok_Banks_shift_down {P : Program} {w : World} {K : PySem.W.Frag} {mg : Str → Option Value} {base : Heap} (Y : Env w K mg) (G_Banks_move_down : MethOk P w K mg base CX0 1 "Banks" "_move_down" ["self"] (sp_Banks_move_down K)) (G_clear_new : CallOk P w K mg base CX0 1 "clear_new" ["rows", "current"] (sp_clear_new K)) : MethOk P w K mg base CX0 2 "Banks" "shift_down" ["self"] (sp_Banks_shift_down K) := Hsh.un (by simp (disch := k_dflt (
  refine Hsh.up ?_
  obtain ⟨fd, F⟩ := Y.fd_Banks_shift_down
  refine ⟨fd, Y.cl_Banks, Y.me_Banks_shift_down, F.bindsN (fun _ _ _ _ _ _ us hl => match us, hl with | [_], _ => rfl), F.ok sc_Banks_shift_down mk1_len (fun cdv A outer s H vs Q E hr h => ?_)⟩
  have hu := hu_room hr
  obtain ⟨_, rfl, B, W, rfl, hB, ok, hl, k⟩ := h
  have hS := hB.sh
  have h3 := ok.n3
  refine ⟨_, PSs.nox (pss_cons (ps_expr (pe_methG0 (pv 0) G_Banks_move_down hr pass0))
  (pss_one (ps_if (pt_cmpR (xNe hu) (pe_fld (pv 0) rfl) (pe_ci rfl Y.c_NO_BAR_banks) (nomark _)) (pss_one (ps_expr (pe_callG G_clear_new hr rfl pass0 (pa_cons (pe_fld (pv 0) rfl) (pa_cons (pe_fld (pv 0) rfl) pa_nil))))) pss_nil))), ?_⟩
  rw [st_Banks_shift_down]
  try simp only [cxK, cxK2, cxW, cxW2]
  clear hu hr F
  unfold BW.downC at k
  repeat' walk_at "st"
  refine ⟨_, rfl, B, W, rfl, hS.blk, by omega, fun H1 C => ?_⟩
  have hS := SH.callE hS C
  repeat' walk_at "st"
  · rw [if_pos (show W.bar = -1 from hc)] at k
    exact k _ hS
  · have hS : SH ((bCells K B W).map (·.1)) H H1 ([(B.b, .ins (He.ga K "Banks") B.dx [("windows", .int (W.down.rows.length : Nat)), ("_rows", .ref B.R), ("_shared", .ref B.S), ("current", .int W.down.cur), ("barred", .int W.down.bar), ("depth", .int W.down.dep), ("spills", .int W.down.spi), ("fills", .int W.down.fil)]), (B.S, .lst (W.down.sh.map V.int))] ++ rCells B.R B.rs W.down.rows) := hS
    refine ⟨_, _, rfl, B.R, B.rs, W.down, rfl, rfl, SH.blkR _ _ hS, down_ok ok, hl, fun H2 C => ?_⟩
    have hS := hS.callR C
    repeat' walk_at "st"
    rw [if_neg (show ¬ W.bar = -1 from hc)] at k
    refine k _ ?_
    have e : bCells K B W.down.clr = [(B.b, .ins (He.ga K "Banks") B.dx [("windows", .int (W.down.rows.length : Nat)), ("_rows", .ref B.R), ("_shared", .ref B.S), ("current", .int W.down.cur), ("barred", .int W.down.bar), ("depth", .int W.down.dep), ("spills", .int W.down.spi), ("fills", .int W.down.fil)]), (B.S, .lst (W.down.sh.map V.int))] ++ rCells B.R B.rs (clrR W.down.rows (SP W.down 8)) := by
      show _ :: _ = _ :: _
      simp only [BW.clr, clrR_len]
      rfl
    rw [e]
    exact hS
  )) only [↓Hsh.on])
def sp_Banks_trap_down (K : PySem.W.Frag) : Sp := mk2 fun a b H Q _ => ∃ (B : BA) (W : BW) (v : Int), a = .ref B.b ∧ b = .int v ∧ Blk H (bCells K B W) ∧ W.ok ∧ B.rs.length = W.rows.length ∧ ∀ H', SH ((bCells K B W).map (·.1)) H H' (bCells K B (W.down.setR 17 v).spiP) → Q .non H'
theorem ok_Banks_trap_down {P : Program} {w : World} {K : PySem.W.Frag} {mg : Str → Option Value} {base : Heap} (Y : Env w K mg) (G_Banks_move_down : MethOk P w K mg base CX0 1 "Banks" "_move_down" ["self"] (sp_Banks_move_down K)) (G_Banks_write : MethOk P w K mg base CX0 2 "Banks" "write" ["self", "number", "word"] (sp_Banks_write K)) : MethOk P w K mg base CX0 3 "Banks" "trap_down" ["self", "address"] (sp_Banks_trap_down K) := Hsh.un (by simp (disch := k_dflt (
  refine Hsh.up ?_
  obtain ⟨fd, F⟩ := Y.fd_Banks_trap_down
  refine ⟨fd, Y.cl_Banks, Y.me_Banks_trap_down, F.bindsN (fun _ _ _ _ _ _ us hl => match us, hl with | [_, _], _ => rfl), F.ok sc_Banks_trap_down mk2_len (fun cdv A outer s H vs Q E hr h => ?_)⟩
  have hu := hu_room hr
  obtain ⟨_, _, rfl, B, W, v, rfl, rfl, hB, ok, hl, k⟩ := h
  have hS := hB.sh
  have h3 := ok.n3
  refine ⟨_, PSs.nox (pss_cons (ps_expr (pe_methG0 (pv 0) G_Banks_move_down (hr.mono (by decide)) pass0))
  (pss_cons (ps_expr (pe_methG (pv 0) G_Banks_write hr pass0 (pa_cons (pe_ci rfl Y.c_TRAP_ADDRESS) (pa_cons (pv 1) pa_nil))))
  (pss_one (ps_fld (pv 0) (pe_op xAdd (pe_fld (pv 0) rfl) pe_int) rfl)))), ?_⟩
  rw [st_Banks_trap_down]
  try simp only [cxK, cxK2, cxW, cxW2]
  clear hu hr F
  repeat' walk_at "st"
  refine ⟨_, rfl, B, W, rfl, hS.blk, by omega, fun H1 C => ?_⟩
  have hS := SH.callE hS C
  repeat' walk_at "st"
  refine ⟨_, _, _, rfl, B, W.down, 17, v, rfl, rfl, rfl, hS.blk, down_ok ok, hl, by omega, by omega, fun H2 C2 => ?_⟩
  have hS := SH.callE hS C2
  repeat' walk_at "st"
  exact k _ hS
  )) only [↓Hsh.on])
def sp_Banks_trap_up (K : PySem.W.Frag) : Sp := mk2 fun a b H Q _ => ∃ (B : BA) (W : BW) (v : Int), a = .ref B.b ∧ b = .int v ∧ Blk H (bCells K B W) ∧ W.ok ∧ B.rs.length = W.rows.length ∧ ∀ H', SH ((bCells K B W).map (·.1)) H H' (bCells K B (W.down.setR 17 v).filP) → Q .non H'
theorem ok_Banks_trap_up {P : Program} {w : World} {K : PySem.W.Frag} {mg : Str → Option Value} {base : Heap} (Y : Env w K mg) (G_Banks_move_down : MethOk P w K mg base CX0 1 "Banks" "_move_down" ["self"] (sp_Banks_move_down K)) (G_Banks_write : MethOk P w K mg base CX0 2 "Banks" "write" ["self", "number", "word"] (sp_Banks_write K)) : MethOk P w K mg base CX0 3 "Banks" "trap_up" ["self", "address"] (sp_Banks_trap_up K) := Hsh.un (by simp (disch := k_dflt (
  refine Hsh.up ?_
  obtain ⟨fd, F⟩ := Y.fd_Banks_trap_up
  refine ⟨fd, Y.cl_Banks, Y.me_Banks_trap_up, F.bindsN (fun _ _ _ _ _ _ us hl => match us, hl with | [_, _], _ => rfl), F.ok sc_Banks_trap_up mk2_len (fun cdv A outer s H vs Q E hr h => ?_)⟩
  have hu := hu_room hr
  obtain ⟨_, _, rfl, B, W, v, rfl, rfl, hB, ok, hl, k⟩ := h
  have hS := hB.sh
  have h3 := ok.n3
  refine ⟨_, PSs.nox (pss_cons (ps_expr (pe_methG0 (pv 0) G_Banks_move_down (hr.mono (by decide)) pass0))
  (pss_cons (ps_expr (pe_methG (pv 0) G_Banks_write hr pass0 (pa_cons (pe_ci rfl Y.c_TRAP_ADDRESS) (pa_cons (pv 1) pa_nil))))
  (pss_one (ps_fld (pv 0) (pe_op xAdd (pe_fld (pv 0) rfl) pe_int) rfl)))), ?_⟩
  rw [st_Banks_trap_up]
  try simp only [cxK, cxK2, cxW, cxW2]
  clear hu hr F
  repeat' walk_at "st"
  refine ⟨_, rfl, B, W, rfl, hS.blk, by omega, fun H1 C => ?_⟩
  have hS := SH.callE hS C
  repeat' walk_at "st"
  refine ⟨_, _, _, rfl, B, W.down, 17, v, rfl, rfl, rfl, hS.blk, down_ok ok, hl, by omega, by omega, fun H2 C2 => ?_⟩
  have hS := SH.callE hS C2
  repeat' walk_at "st"
  exact k _ hS
  )) only [↓Hsh.on])
def sp_Banks_leave_trap (K : PySem.W.Frag) : Sp := mk1 fun a H Q _ => ∃ (B : BA) (W : BW), a = .ref B.b ∧ Blk H (bCells K B W) ∧ W.ok ∧ B.rs.length = W.rows.length ∧ ∀ H', SH ((bCells K B W).map (·.1)) H H' (bCells K B W.up) → Q (.int (W.get 17)) H'
theorem ok_Banks_leave_trap {P : Program} {w : World} {K : PySem.W.Frag} {mg : Str → Option Value} {base : Heap} (Y : Env w K mg) (G_Banks_read : MethOk P w K mg base CX0 2 "Banks" "read" ["self", "number"] (sp_Banks_read K)) (G_Banks_shift_up : MethOk P w K mg base CX0 1 "Banks" "shift_up" ["self"] (sp_Banks_shift_up K)) : MethOk P w K mg base CX0 3 "Banks" "leave_trap" ["self"] (sp_Banks_leave_trap K) := Hsh.un (by simp (disch := k_dflt (
  refine Hsh.up ?_
  obtain ⟨fd, F⟩ := Y.fd_Banks_leave_trap
  refine ⟨fd, Y.cl_Banks, Y.me_Banks_leave_trap, F.bindsN (fun _ _ _ _ _ _ us hl => match us, hl with | [_], _ => rfl), F.ok sc_Banks_leave_trap mk1_len (fun cdv A outer s H vs Q E hr h => ?_)⟩
  have hu := hu_room hr
  obtain ⟨_, rfl, B, W, rfl, hB, ok, hl, k⟩ := h
  have hS := hB.sh
  have h3 := ok.n3
  refine ⟨_, PSs.nox (pss_cons (ps_set (i := 1) sc_Banks_leave_trap.nd rfl (Or.inl rfl) (pe_methG (pv 0) G_Banks_read hr pass0 (pa_cons (pe_ci rfl Y.c_TRAP_ADDRESS) pa_nil)))
  (pss_cons (ps_expr (pe_methG0 (pv 0) G_Banks_shift_up (hr.mono (by decide)) pass0))
  (pss_one (ps_ret (pv 1))))), ?_⟩
  rw [st_Banks_leave_trap]
  try simp only [cxK, cxK2, cxW, cxW2]
  clear hu hr F
  repeat' walk_at "st"
  refine c_Banks_read hS hS.hs ok hl (by omega) (by omega) (fun H1 hS1 _ => ?_)
  clear hS; rename SH _ _ _ _ => hS
  repeat' walk_at "st"
  refine ⟨_, rfl, B, W, rfl, hS.blk, by omega, fun H2 C => ?_⟩
  have hS := SH.callE hS C
  repeat' walk_at "st"
  exact k _ hS
  )) only [↓Hsh.on])
def W0 (n : Nat) : BW := ⟨List.replicate 8 0, List.replicate n (List.replicate 16 0), 0, 1, 0, 0, 0⟩
def sp_Banks_init__ (K : PySem.W.Frag) : Sp := mk2 fun a b H Q _ => ∃ (o dx : Addr) (n : Nat), a = .ref o ∧ b = .int (n : Nat) ∧ n ≤ 33 ∧ H o = some (.ins (He.ga K "Banks") dx []) ∧
  ∀ S R rs H', rs.length = n → SH [o] H H' (bCells K ⟨o, dx, S, R, rs⟩ (W0 n)) → Q .non H'
theorem ok_Banks_init__ {P : Program} {w : World} {K : PySem.W.Frag} {mg : Str → Option Value} {base : Heap} (Y : Env w K mg)  : MakeOk P w K mg base CX0 1 "Banks" ["self", "windows"] (sp_Banks_init__ K) := Hsh.un (by simp (disch := k_dflt (
  refine Hsh.up ?_
  obtain ⟨fd, F⟩ := Y.fd_Banks_init__
  refine ⟨fd, Y.mg_Banks, Y.mk_Banks, F.bindsN (fun _ _ _ _ _ _ us hl => match us, hl with | [_, _], _ => rfl), F.ok sc_Banks_init__ mk2_len (fun cdv A outer s H vs Q E hr h => ?_)⟩
  have hu := hu_room hr
  obtain ⟨_, _, rfl, o, dx, n, rfl, rfl, hn, ho, k⟩ := h
  have hS : SH [o] H H [(o, .ins (He.ga K "Banks") dx [])] := SH.start1 ho
  refine ⟨_, PSs.nox (pss_cons (ps_fld (pv 0) (pv 1) rfl)
  (pss_cons (ps_fld (pv 0) (pe_lc (own := [("_", 2)]) (g := gName 2) rfl sc_Banks_init__.nd (pi_range1 rfl Y.z_range (pa_cons (pv 1) pa_nil)) (blkOk_by (N := N_Banks_init__) (sc := defScope s_Banks_init__) (by decide +kernel)) (fun _ _ _ _ _ => pg_name (i := 2) sc_Banks_init__.nd rfl (Or.inl rfl)) (fun _ _ _ _ _ => pts_nil) (fun _ _ _ _ _ => (pe_op (OpR.k (K := K) (r := rMulX) xMul rfl) (pe_lst (pa_cons pe_int pa_nil)) pe_int))) rfl)
  (pss_cons (ps_fld (pv 0) (pe_op xMul (pe_lst (pa_cons pe_int pa_nil)) pe_int) rfl)
  (pss_cons (ps_fld (pv 0) pe_int rfl)
  (pss_cons (ps_fld (pv 0) pe_int rfl)
  (pss_cons (ps_fld (pv 0) pe_int rfl)
  (pss_cons (ps_fld (pv 0) pe_int rfl)
  (pss_one (ps_fld (pv 0) pe_int rfl))))))))), ?_⟩
  rw [st_Banks_init__]
  try simp only [cxK, cxK2, cxW, cxW2]
  clear hu hr F
  repeat' walk_at "st"
  refine u_lcR1 hS (i := 2) (j := ((n : Nat) : Int)) (fun D k H' => ∃ rs, rs.length = k ∧ SH [o] H H' ((D, .lst (rs.map V.ref)) :: (rowC rs (List.replicate k (List.replicate 16 0)) ++ ([(o, HO.ins (He.ga K "Banks") dx [("windows", V.int (n : Nat))])] : List Cell)))) (by omega) (by omega) (fun D H1 hS => ⟨[], rfl, hS⟩) ?_ ?_
  · rintro D i H1 hi ⟨rs, hr, hS⟩
    repeat' walk_at "st"
    exact ⟨rs ++ [p], by rw [List.length_append, hr]; rfl, by rw [List.replicate_succ']; exact row_snoc hS (by rw [hr, List.length_replicate])⟩
  · rintro D H1 ⟨rs, hr, hS⟩
    have hr : rs.length = n := by rw [hr]; omega
    have hn2 : (Int.toNat (n : Nat)) = n := by omega
    rw [hn2] at hS
    have hS := hS.perm (L' := (o, .ins (He.ga K "Banks") dx [("windows", .int (n : Nat))]) :: (D, .lst (rs.map V.ref)) :: rowC rs (List.replicate n (List.replicate 16 0))) (by
      refine ((List.perm_middle (l₁ := (D, HO.lst (rs.map V.ref)) :: rowC rs _)).trans ?_)
      rw [List.append_nil])
    repeat' walk_at "st"
    have hS := (hS.sub (List.Sublist.cons_cons _ (List.sublist_cons_self _ _))).perm (List.Perm.swap _ _ _)
    have hS : SH [o] H H1 (bCells K ⟨o, dx, p, D, rs⟩ (W0 n)) := by
      simp only [bCells, W0, List.length_replicate, List.map_replicate]
      exact hS
    exact k _ _ _ _ hr hS
  )) only [↓Hsh.on])


/-! ### the ring -/
/-- the ring: its registers, how many rows hold a window -/
structure RS where
  W : BW
  res : Int
abbrev gCells (K : PySem.W.Frag) (B : BA) (mm : Addr) (X : RS) : List Cell :=
  (B.b, .ins (He.ga K "Ring") B.dx [("memory", .ref mm), ("windows", .int (X.W.rows.length : Nat)), ("_rows", .ref B.R), ("_shared", .ref B.S), ("_current", .int X.W.cur), ("resident", .int X.res), ("depth", .int X.W.dep), ("spills", .int X.W.spi), ("fills", .int X.W.fil)]) ::
  (B.S, .lst (X.W.sh.map V.int)) :: (B.R, .lst (B.rs.map V.ref)) :: rowC B.rs X.W.rows
section
variable {K : PySem.W.Frag} {B : BA} {mm : Addr} {W : BW} {r n : Int}
theorem g_get (ok : W.ok) (hl : B.rs.length = W.rows.length) (n : Int) : (gCells K B mm ⟨W, r⟩)[W.pos n]? = some (adr B.S B.rs W n, .lst ((W.lst n).map V.int)) := Hsh.un (by simp (disch := k_dflt (
  refine Hsh.up ?_
  have h1 := rowC_get hl (BW.prv_lt ok)
  have h2 := rowC_get hl (cur_lt ok)
  unfold BW.pos adr BW.lst
  split
  · rfl
  · split
    · rw [Nat.add_comm]; exact h1
    · rw [Nat.add_comm]; exact h2
  )) only [↓Hsh.on])
theorem g_set (ok : W.ok) (hl : B.rs.length = W.rows.length) (n : Int) (l : List Int) : (gCells K B mm ⟨W, r⟩).set (W.pos n) (adr B.S B.rs W n, .lst (l.map V.int)) = gCells K B mm ⟨W.put n l, r⟩ := Hsh.un (by simp (disch := k_dflt (
  refine Hsh.up ?_
  have h1 := rowC_set hl (BW.prv_lt ok) l
  have h2 := rowC_set hl (cur_lt ok) l
  unfold BW.pos adr BW.put
  split
  · rfl
  · split
    · rw [Nat.add_comm]
      show _ :: _ :: _ :: (rowC B.rs W.rows).set _ _ = _
      rw [h1]
      simp only [gCells, List.length_set]
    · rw [Nat.add_comm]
      show _ :: _ :: _ :: (rowC B.rs W.rows).set _ _ = _
      rw [h2]
      simp only [gCells, List.length_set]
  )) only [↓Hsh.on])
end
def sp_Ring_read (K : PySem.W.Frag) : Sp := mk2 fun a b H Q _ => ∃ (B : BA) (mm : Addr) (W : BW) (r n : Int), a = .ref B.b ∧ b = .int n ∧ (∀ c ∈ gCells K B mm ⟨W, r⟩, H c.1 = some c.2) ∧ W.ok ∧ B.rs.length = W.rows.length ∧ 0 ≤ n ∧ n < 32 ∧ ∀ H', Keep [] H H' → Q (.int (W.get n)) H'
theorem ok_Ring_read {P : Program} {w : World} {K : PySem.W.Frag} {mg : Str → Option Value} {base : Heap} (Y : Env w K mg) (G_row_of : CallOk P w K mg base CX0 1 "row_of" ["rows", "shared", "current", "number"] (sp_row_of K)) : MethOk P w K mg base CX0 2 "Ring" "read" ["self", "number"] (sp_Ring_read K) := Hsh.un (by simp (disch := k_dflt (
  refine Hsh.up ?_
  obtain ⟨fd, F⟩ := Y.fd_Ring_read
  refine ⟨fd, Y.cl_Ring, Y.me_Ring_read, F.bindsN (fun _ _ _ _ _ _ us hl => match us, hl with | [_, _], _ => rfl), F.ok sc_Ring_read mk2_len (fun cdv A outer s H vs Q E hr h => ?_)⟩
  have hu := hu_room hr
  obtain ⟨_, _, rfl, B, mm, W, r, n, rfl, rfl, hB, ok, hl, h0, h1, k⟩ := h
  have hS : SH [] H H [] := SH.start0
  have hb := hB _ (.head _)
  have hR := hB _ (.tail _ (.tail _ (.head _)))
  have hg := hB _ (List.mem_of_getElem? (g_get (K := K) ok hl n))
  have hi0 : 0 ≤ ixOf n := by unfold ixOf; split <;> omega
  have hi1 : ixOf n < ((W.lst n).map V.int).length := by
    rcases lst_len (n := n) ok with h | h
    · rw [List.length_map]; omega
    · exact absurd ⟨h0, h1⟩ h
  refine ⟨_, PSs.nox (pss_cons (ps_asg (pe_callG G_row_of hr rfl pass0 (pa_cons (pe_fld (pv 0) rfl) (pa_cons (pe_fld (pv 0) rfl) (pa_cons (pe_fld (pv 0) rfl) (pa_cons (pv 1) pa_nil))))) (pg_tup rfl (pgs_cons (pg_name (i := 2) sc_Ring_read.nd rfl (Or.inl rfl)) (pgs_cons (pg_name (i := 3) sc_Ring_read.nd rfl (Or.inl rfl)) pgs_nil))))
  (pss_one (ps_ret (pe_ix xIx (pv 2) (pv 3) (fun _ _ => rfl))))), ?_⟩
  rw [st_Ring_read]
  try simp only [cxK, cxK2, cxW, cxW2]
  clear hu hr F
  repeat' walk_at "st"
  refine c_row_of hS hR ok hl (fun p H1 hS1 _ => ?_)
  clear hS; rename SH _ _ _ _ => hS
  repeat' walk_at "st"
  exact k _ hS.kp
  )) only [↓Hsh.on])
theorem c_Ring_read {K : PySem.W.Frag} {A : List Addr} {H0 H : Hp} {L : List Cell} {B : BA} {mm : Addr} {W : BW} {r n : Int} {Q : VK} {E : XK} (hS : SH A H0 H L) (hB : ∀ c ∈ gCells K B mm ⟨W, r⟩, H c.1 = some c.2) (ok : W.ok) (hl : B.rs.length = W.rows.length) (h0 : 0 ≤ n) (h1 : n < 32)
    (k : ∀ H', SH A H0 H' L → Keep [] H H' → Q (.int (W.get n)) H') : sp_Ring_read K (.ref B.b :: ([.int n] ++ [])) H Q E := ⟨_, _, rfl, B, mm, W, r, n, rfl, rfl, hB, ok, hl, h0, h1, fun H' kp => k H' (hS.call0 kp) kp⟩
def sp_Ring_write (K : PySem.W.Frag) : Sp := mk3 fun a b c H Q _ => ∃ (B : BA) (mm : Addr) (W : BW) (r n v : Int), a = .ref B.b ∧ b = .int n ∧ c = .int v ∧ Blk H (gCells K B mm ⟨W, r⟩) ∧ W.ok ∧ B.rs.length = W.rows.length ∧ 0 ≤ n ∧ n < 32 ∧
  ∀ H', SH ((gCells K B mm ⟨W, r⟩).map (·.1)) H H' (gCells K B mm ⟨W.setR n v, r⟩) → Q .non H'
theorem ok_Ring_write {P : Program} {w : World} {K : PySem.W.Frag} {mg : Str → Option Value} {base : Heap} (Y : Env w K mg) (G_row_of : CallOk P w K mg base CX0 1 "row_of" ["rows", "shared", "current", "number"] (sp_row_of K)) : MethOk P w K mg base CX0 2 "Ring" "write" ["self", "number", "word"] (sp_Ring_write K) := Hsh.un (by simp (disch := k_dflt (
  refine Hsh.up ?_
  obtain ⟨fd, F⟩ := Y.fd_Ring_write
  refine ⟨fd, Y.cl_Ring, Y.me_Ring_write, F.bindsN (fun _ _ _ _ _ _ us hl => match us, hl with | [_, _, _], _ => rfl), F.ok sc_Ring_write mk3_len (fun cdv A outer s H vs Q E hr h => ?_)⟩
  have hu := hu_room hr
  obtain ⟨_, _, _, rfl, B, mm, W, r, n, v, rfl, rfl, rfl, hB, ok, hl, h0, h1, k⟩ := h
  have hS := hB.sh
  have hi0 : 0 ≤ ixOf n := by unfold ixOf; split <;> omega
  have hi1 : ixOf n < ((W.lst n).map V.int).length := by
    rcases lst_len (n := n) ok with h | h
    · rw [List.length_map]; omega
    · exact absurd ⟨h0, h1⟩ h
  refine ⟨_, PSs.nox (pss_one (ps_if (pt_cmpR op_gt (pv 1) pe_int (nomark _)) (pss_cons (ps_asg (pe_callG G_row_of hr rfl pass0 (pa_cons (pe_fld (pv 0) rfl) (pa_cons (pe_fld (pv 0) rfl) (pa_cons (pe_fld (pv 0) rfl) (pa_cons (pv 1) pa_nil))))) (pg_tup rfl (pgs_cons (pg_name (i := 3) sc_Ring_write.nd rfl (Or.inl rfl)) (pgs_cons (pg_name (i := 4) sc_Ring_write.nd rfl (Or.inl rfl)) pgs_nil))))
  (pss_one (ps_asg (pv 2) (pg_sub (pv 3) (pv 4) set_list)))) pss_nil)), ?_⟩
  rw [st_Ring_write]
  try simp only [cxK, cxK2, cxW, cxW2]
  clear hu hr F
  unfold BW.setR at k
  repeat' walk_at "st"
  · refine c_row_of hS (hS.get 2 rfl) ok hl (fun p H1 hS1 _ => ?_)
    clear hS; rename SH _ _ _ _ => hS
    repeat' walk_at "st"
    refine h_setL hS (i := W.pos n + 1) (g_get ok hl n) (ixN_in hi0 hi1) (set_ints _ _ _) (L' := (p, .tup [.ref (adr B.S B.rs W n), .int (ixOf n)]) :: gCells K B mm ⟨W.set n v, r⟩) ?_ (fun H2 hS2 => ?_)
    · show _ :: (gCells K B mm ⟨W, r⟩).set _ _ = _
      rw [g_set ok hl]
      rfl
    · clear hS; rename SH _ _ _ _ => hS
      repeat' walk_at "st"
      rw [if_pos (by assumption)] at k
      exact k _ hS.drop1
  · rw [if_neg (by assumption)] at k
    exact k _ hS
  )) only [↓Hsh.on])
/-! ### the ring's moves -/
def lies (mem : List Int) (s : Int) : Prop := 0 ≤ s ∧ s + 16 ≤ mem.length
abbrev mO (mem : List Int) : HO := .lst (mem.map V.int)
def sp_area (K : PySem.W.Frag) : Sp := mk2 fun a b H Q E => ∃ (mm : Addr) (mem : List Int) (s : Int), a = .ref mm ∧ b = .int s ∧ H mm = some (mO mem) ∧ (lies mem s → Q (.int (s + 16)) H) ∧ (¬ lies mem s → E (.ref (He.ga K "Fault")) none H)
theorem ok_area {P : Program} {w : World} {K : PySem.W.Frag} {mg : Str → Option Value} {base : Heap} (Y : Env w K mg)  : CallOk P w K mg base (L2N.CX P w) 1 "area" ["memory", "start"] (sp_area K) := Hsh.un (by simp (disch := k_dflt (
  refine Hsh.up ?_
  obtain ⟨fd, F⟩ := Y.fd_area
  refine ⟨_, fd, Y.mg_area, F.kp, F.bindsN (fun _ _ _ _ _ _ us hl => match us, hl with | [_, _], _ => rfl), F.ok sc_area mk2_len (fun cdv A outer s H vs Q E hr h => ?_)⟩
  have hu := hu_room hr
  obtain ⟨_, _, rfl, mm, mem, s, rfl, rfl, hm, k1, k2⟩ := h
  have hS : SH [] H H [] := SH.start0
  unfold lies at k1 k2
  have e : ((mem.map V.int).length : Int) = mem.length := by rw [List.length_map]
  refine ⟨_, (pss_cons (ps_if (PW.pt (pw_or (pt_cmpR op_lt (pv 1) pe_int (nomark _)) (pw_or1 (pt_cmpR op_gt (pe_op xAdd (pv 1) pe_int) (pe_callB x_len rfl Y.z_len (by decide +kernel) (pa_cons (pv 0) pa_nil)) (nomark _))))) (pss_one (ps_raiseN rfl (L2N.takes_of rfl rfl rfl rfl) Y.ef_Fault Y.mg_Fault rfl)) pss_nil)
  (pss_one (ps_ret (pe_op xAdd (pv 1) pe_int)))), ?_⟩
  rw [st_area]
  try simp only [cxK, cxK2, cxW, cxW2]
  clear hu hr F
  repeat' walk_at "st"
  all_goals first
    | exact k1 (by omega)
    | exact k2 (by omega)
  )) only [↓Hsh.on])
theorem c_area {K : PySem.W.Frag} {H : Hp} {mm : Addr} {mem : List Int} {s : Int} {Q : VK} {E : XK} (hm : H mm = some (mO mem)) (k1 : lies mem s → Q (.int (s + 16)) H) (k2 : ¬ lies mem s → E (.ref (He.ga K "Fault")) none H) : sp_area K ([.ref mm, .int s] ++ []) H Q E :=
  ⟨_, _, rfl, mm, mem, s, rfl, rfl, hm, k1, k2⟩
def BW.to (W : BW) (c : Int) : BW := { W with cur := c % (W.rows.length : Nat) }
theorem to_ok {W : BW} (ok : W.ok) (c : Int) : (W.to c).ok := Hsh.un (by simp (disch := k_dflt (
  refine Hsh.up ?_
  have h3 := ok.n3
  have e0 := Int.emod_nonneg c (show ((W.rows.length : Nat) : Int) ≠ 0 by omega)
  have e1 := Int.emod_lt_of_pos c (show (0 : Int) < (W.rows.length : Nat) by omega)
  exact ⟨ok.s8, ok.r16, e0, e1, ok.n3, ok.n33, ok.b1⟩
  )) only [↓Hsh.on])
def RS.o (X : RS) : BW := X.W.to (X.W.cur + X.res - 1)
def RS.row (X : RS) : List Int := X.W.rows.getD X.o.cur.toNat []
def RS.start (X : RS) : Int := (X.W.rows.getD X.o.prv []).getD 14 0
def RS.sp (X : RS) : RS := ⟨X.W.spiP, X.res - 1⟩
def mput (mem : List Int) (s : Int) (r : List Int) : List Int := mem.take s.toNat ++ r ++ mem.drop (s + 16).toNat
theorem rowI {rs : List Addr} {rows : List (List Int)} (hl : rs.length = rows.length) {k : Nat} (hk : k < rows.length) : (rs.getD k 0, HO.lst ((rows.getD k []).map V.int)) ∈ rowC rs rows := List.mem_of_getElem? (rowC_get hl hk)
def sp_Ring_spill (K : PySem.W.Frag) : Sp := mk1 fun a H Q E => ∃ (B : BA) (mm : Addr) (X : RS) (mem : List Int), a = .ref B.b ∧ Blk H ((mm, mO mem) :: gCells K B mm X) ∧ X.W.ok ∧ B.rs.length = X.W.rows.length ∧ mem.length ≤ 1000 ∧
  (lies mem X.start → ∀ H', SH (((mm, mO mem) :: gCells K B mm X).map (·.1)) H H' ((mm, mO (mput mem X.start X.row)) :: gCells K B mm X.sp) → Q .non H') ∧ (¬ lies mem X.start → E (.ref (He.ga K "Fault")) none H)
section
 local macro_rules | `(tactic| walk_at "at") => `(tactic| exact hP)
 local macro_rules | `(tactic| walk_at "st") => `(tactic| first | (with_reducible refine s_gSl ?_))
theorem ok_Ring_spill {P : Program} {w : World} {K : PySem.W.Frag} {mg : Str → Option Value} {base : Heap} (Y : Env w K mg) (G_area : CallOk P w K mg base (L2N.CX P w) 1 "area" ["memory", "start"] (sp_area K)) : MethOk P w K mg base (L2N.CX P w) 2 "Ring" "_spill" ["self"] (sp_Ring_spill K) := Hsh.un (by simp (disch := k_dflt (
  refine Hsh.up ?_
  obtain ⟨fd, F⟩ := Y.fd_Ring_spill
  refine ⟨fd, Y.cl_Ring, Y.me_Ring_spill, F.bindsN (fun _ _ _ _ _ _ us hl => match us, hl with | [_], _ => rfl), F.ok sc_Ring_spill mk1_len (fun cdv A outer s H vs Q E hr h => ?_)⟩
  have hu := hu_room hr
  obtain ⟨_, rfl, B, mm, X, mem, rfl, hB, ok, hl, h1000, k1, k2⟩ := h
  have hS := hB.sh
  have ok2 : X.o.ok := to_ok ok _
  have h3 := ok.n3
  have h33 := ok.n33
  have hl2 : B.rs.length = X.o.rows.length := hl
  have hP := atI_refsP ok2 hl2
  have hm0 : 0 ≤ (X.W.cur + X.res - 1) % ((X.W.rows.length : Nat) : Int) := ok2.c0
  have hm1 : (X.W.cur + X.res - 1) % ((X.W.rows.length : Nat) : Int) < (X.W.rows.length : Nat) := ok2.c1
  have hr1 : H (B.rs.getD X.o.prv 0) = some (.lst ((X.W.rows.getD X.o.prv []).map V.int)) := hS.hs _ (.tail _ (.tail _ (.tail _ (.tail _ (rowI hl (show X.o.prv < X.W.rows.length from BW.prv_lt ok2))))))
  have hr2 : H (B.rs.getD X.o.cur.toNat 0) = some (.lst (X.row.map V.int)) := hS.hs _ (.tail _ (.tail _ (.tail _ (.tail _ (rowI hl (show X.o.cur.toNat < X.W.rows.length from cur_lt (W := X.o) ok2))))))
  have l1 : (X.W.rows.getD X.o.prv []).length = 16 := by
    have := BW.prv_lt ok2
    rw [List.getD_eq_getElem?_getD, List.getElem?_eq_getElem (show X.o.prv < X.W.rows.length from this)]
    exact ok.r16 _ (List.getElem_mem _)
  have l2 : X.row.length = 16 := by
    have := cur_lt (W := X.o) ok2
    unfold RS.row
    rw [List.getD_eq_getElem?_getD, List.getElem?_eq_getElem (show X.o.cur.toNat < X.W.rows.length from this)]
    exact ok.r16 _ (List.getElem_mem _)
  refine ⟨_, (pss_cons (ps_set (i := 1) sc_Ring_spill.nd rfl (Or.inl rfl) (pe_op xMod (pe_op op_sub (pe_op xAdd (pe_fld (pv 0) rfl) (pe_fld (pv 0) rfl)) pe_int) (pe_fld (pv 0) rfl)))
  (pss_cons (ps_set (i := 2) sc_Ring_spill.nd rfl (Or.inl rfl) (pe_ix xIx (pe_ix xIx (pe_fld (pv 0) rfl) (pe_op op_sub (pv 1) pe_int) (fun _ _ => rfl)) (pe_ci rfl Y.c_STACK_IN_ROW) (fun _ _ => rfl)))
  (pss_cons (ps_set (i := 3) sc_Ring_spill.nd rfl (Or.inl rfl) (pe_callG G_area hr rfl (L2N.passes_call (L2N.takes_of rfl rfl rfl rfl) (fun _ _ _ _ h => h)) (pa_cons (pe_fld (pv 0) rfl) (pa_cons (pv 2) pa_nil))))
  (pss_cons (ps_asg (pe_ix xIx (pe_fld (pv 0) rfl) (pv 1) (fun _ _ => rfl)) (pg_slice (pe_fld (pv 0) rfl) (po_some (pv 2)) (po_some (pv 3))))
  (pss_cons (ps_fld (pv 0) (pe_op op_sub (pe_fld (pv 0) rfl) pe_int) rfl)
  (pss_one (ps_fld (pv 0) (pe_op xAdd (pe_fld (pv 0) rfl) pe_int) rfl))))))), ?_⟩
  rw [st_Ring_spill]
  try simp only [cxK, cxK2, cxW, cxW2]
  clear hu hr F
  repeat' walk_at "st"
  refine c_area (hS.get 0 rfl) (fun hL => ?_) (fun hL => k2 hL)
  have hL0 := hL.1
  have hL1 := hL.2
  change 0 ≤ X.start at hL0
  change X.start + 16 ≤ mem.length at hL1
  repeat' walk_at "st"
  refine h_slE hS (i := 0) rfl hr2 (hS.ne (i := X.o.cur.toNat + 4) (j := 0) (rowC_get hl (show X.o.cur.toNat < X.W.rows.length from cur_lt (W := X.o) ok2)) rfl (by omega)) hL0 (by show X.start ≤ X.start + 16; omega) (by rw [List.length_map]; exact hL1) (by rw [List.length_map, List.length_map, l2, sizeLine_eq]; omega) (zs := (mput mem X.start X.row).map V.int) ?_ rfl (fun H1 hS1 => ?_)
  · show (mem.map V.int).take X.start.toNat ++ X.row.map V.int ++ (mem.map V.int).drop (X.start + 16).toNat = _
    unfold mput
    rw [List.map_append, List.map_append, List.map_take, List.map_drop]
  · walk_at "nw"
    repeat' walk_at "st"
    exact k1 hL _ hS
  )) only [↓Hsh.on])
end
theorem c_Ring_spill {K : PySem.W.Frag} {A : List Addr} {H0 H : Hp} {F : List Cell} {B : BA} {mm : Addr} {X : RS} {mem : List Int} {Q : VK} {E : XK} (hS : SH A H0 H (F ++ ((mm, mO mem) :: gCells K B mm X))) (ok : X.W.ok) (hl : B.rs.length = X.W.rows.length) (hm : mem.length ≤ 1000)
    (k1 : lies mem X.start → ∀ H', SH A H0 H' (F ++ ((mm, mO (mput mem X.start X.row)) :: gCells K B mm X.sp)) → Q .non H') (k2 : ¬ lies mem X.start → E (.ref (He.ga K "Fault")) none H) : sp_Ring_spill K (.ref B.b :: ([] ++ [])) H Q E :=
  ⟨_, rfl, B, mm, X, mem, rfl, SH.blkR F _ hS, ok, hl, hm, fun hL H' C => k1 hL H' (hS.callR C), k2⟩
def RS.startU (X : RS) : Int := (X.W.rows.getD X.W.cur.toNat []).getD 14 0
def mcut (mem : List Int) (s : Int) : List Int := (mem.drop s.toNat).take 16
def BW.fl (W : BW) (words : List Int) : BW := ⟨W.sh, W.rows.set (W.to (W.cur + 1)).cur.toNat words, W.cur, W.bar, W.dep, W.spi, W.fil + 1⟩
def RS.fl (X : RS) (mem : List Int) : RS := ⟨X.W.fl (mcut mem X.startU), X.res + 1⟩
theorem cut_16 {mem : List Int} {s : Int} (h : lies mem s) : cutV (mem.map V.int) (some s) (some (s + 16)) = (mcut mem s).map V.int := Hsh.un (by simp (disch := k_dflt (
  refine Hsh.up ?_
  obtain ⟨h0, h1⟩ := h
  obtain ⟨k, rfl⟩ : ∃ k : Nat, s = (k : Int) := ⟨s.toNat, by omega⟩
  unfold cutV mcut
  rw [show ((k : Int) + 16) = ((k + 16 : Nat) : Int) by omega, HT.sIx_nat, HT.sIx_nat, List.length_map, Nat.min_eq_left (by omega), Nat.min_eq_left (by omega), Int.toNat_natCast, ← List.map_drop, ← List.map_take]
  congr 2
  omega
  )) only [↓Hsh.on])
theorem mcut_len {mem : List Int} {s : Int} (h : lies mem s) : (mcut mem s).length = 16 := Hsh.un (by simp (disch := k_dflt (
  refine Hsh.up ?_
  obtain ⟨h0, h1⟩ := h
  unfold mcut
  rw [List.length_take, List.length_drop]
  omega
  )) only [↓Hsh.on])
theorem row_swap {A : List Addr} {H0 H : Hp} {F : List Cell} {p : Addr} {w : List Int} {rs : List Addr} {rows : List (List Int)} {k : Nat} (hS : SH A H0 H ((p, .lst (w.map V.int)) :: (F ++ rowC rs rows))) (hl : rs.length = rows.length) (hk : k < rows.length) :
    SH A H0 H (F ++ rowC (rs.set k p) (rows.set k w)) := Hsh.un (by simp (disch := k_dflt (
  refine Hsh.up ?_
  have e : rowC (rs.set k p) (rows.set k w) = (rowC rs rows).set k (p, .lst (w.map V.int)) := by
    unfold rowC
    apply List.ext_getElem?
    intro j
    rw [List.getElem?_zipWith, List.getElem?_set, List.getElem?_set, List.getElem?_set, List.getElem?_zipWith, List.length_zipWith, hl, Nat.min_self]
    by_cases q : k = j
    · rw [if_pos q, if_pos q, if_pos q, if_pos hk, if_pos hk, if_pos hk]
    · rw [if_neg q, if_neg q, if_neg q]
  rw [e, List.set_eq_take_append_cons_drop, if_pos (by rw [rowC_len hl]; exact hk)]
  have h1 := hS.sub (L' := (p, .lst (w.map V.int)) :: (F ++ (rowC rs rows).eraseIdx k)) (List.Sublist.cons_cons _ ((List.Sublist.refl _).append (List.eraseIdx_sublist _ _)))
  rw [List.eraseIdx_eq_take_drop_succ] at h1
  refine h1.perm ?_
  rw [← List.append_assoc, ← List.append_assoc]
  exact List.perm_middle.symm
  )) only [↓Hsh.on])
def sp_Ring_fill (K : PySem.W.Frag) : Sp := mk1 fun a H Q E => ∃ (B : BA) (mm : Addr) (X : RS) (mem : List Int), a = .ref B.b ∧ Blk H ((mm, mO mem) :: gCells K B mm X) ∧ X.W.ok ∧ B.rs.length = X.W.rows.length ∧ mem.length ≤ 1000 ∧
  (lies mem X.startU → ∀ rs' H', rs'.length = X.W.rows.length → SH (((mm, mO mem) :: gCells K B mm X).map (·.1)) H H' ((mm, mO mem) :: gCells K ⟨B.b, B.dx, B.S, B.R, rs'⟩ mm (X.fl mem)) → Q .non H') ∧ (¬ lies mem X.startU → E (.ref (He.ga K "Fault")) none H)
section
 local macro_rules | `(tactic| walk_at "hp") => `(tactic| exact hr1)
 local macro_rules | `(tactic| walk_at "pf") => `(tactic| (apply pf_set 8; (· exact rfl); (· walk_at "ls")))
theorem ok_Ring_fill {P : Program} {w : World} {K : PySem.W.Frag} {mg : Str → Option Value} {base : Heap} (Y : Env w K mg) (G_area : CallOk P w K mg base (L2N.CX P w) 1 "area" ["memory", "start"] (sp_area K)) : MethOk P w K mg base (L2N.CX P w) 2 "Ring" "_fill" ["self"] (sp_Ring_fill K) := Hsh.un (by simp (disch := k_dflt (
  refine Hsh.up ?_
  obtain ⟨fd, F⟩ := Y.fd_Ring_fill
  refine ⟨fd, Y.cl_Ring, Y.me_Ring_fill, F.bindsN (fun _ _ _ _ _ _ us hl => match us, hl with | [_], _ => rfl), F.ok sc_Ring_fill mk1_len (fun cdv A outer s H vs Q E hr h => ?_)⟩
  have hu := hu_room hr
  obtain ⟨_, rfl, B, mm, X, mem, rfl, hB, ok, hl, h1000, k1, k2⟩ := h
  have hS := hB.sh
  have ok2 : (X.W.to (X.W.cur + 1)).ok := to_ok ok _
  have h3 := ok.n3
  have h33 := ok.n33
  have hc0 := ok.c0
  have hc1 := ok.c1
  have hm0 : 0 ≤ (X.W.cur + 1) % ((X.W.rows.length : Nat) : Int) := ok2.c0
  have hm1 : (X.W.cur + 1) % ((X.W.rows.length : Nat) : Int) < (X.W.rows.length : Nat) := ok2.c1
  have hr1 : H (B.rs.getD X.W.cur.toNat 0) = some (.lst ((X.W.rows.getD X.W.cur.toNat []).map V.int)) := hS.hs _ (.tail _ (.tail _ (.tail _ (.tail _ (rowI hl (cur_lt ok))))))
  have l1 : (X.W.rows.getD X.W.cur.toNat []).length = 16 := by
    rw [List.getD_eq_getElem?_getD, List.getElem?_eq_getElem (cur_lt ok)]
    exact ok.r16 _ (List.getElem_mem _)
  refine ⟨_, (pss_cons (ps_set (i := 1) sc_Ring_fill.nd rfl (Or.inl rfl) (pe_op xMod (pe_op xAdd (pe_fld (pv 0) rfl) pe_int) (pe_fld (pv 0) rfl)))
  (pss_cons (ps_set (i := 2) sc_Ring_fill.nd rfl (Or.inl rfl) (pe_ix xIx (pe_ix xIx (pe_fld (pv 0) rfl) (pe_fld (pv 0) rfl) (fun _ _ => rfl)) (pe_ci rfl Y.c_STACK_IN_ROW) (fun _ _ => rfl)))
  (pss_cons (ps_set (i := 3) sc_Ring_fill.nd rfl (Or.inl rfl) (pe_callG G_area hr rfl (L2N.passes_call (L2N.takes_of rfl rfl rfl rfl) (fun _ _ _ _ h => h)) (pa_cons (pe_fld (pv 0) rfl) (pa_cons (pv 2) pa_nil))))
  (pss_cons (ps_asg (pe_slice xSl (pe_fld (pv 0) rfl) (po_some (pv 2)) (po_some (pv 3))) (pg_sub (pe_fld (pv 0) rfl) (pv 1) set_list))
  (pss_cons (ps_fld (pv 0) (pe_op xAdd (pe_fld (pv 0) rfl) pe_int) rfl)
  (pss_one (ps_fld (pv 0) (pe_op xAdd (pe_fld (pv 0) rfl) pe_int) rfl))))))), ?_⟩
  rw [st_Ring_fill]
  try simp only [cxK, cxK2, cxW, cxW2]
  clear hu hr F
  repeat' walk_at "st"
  refine c_area (hS.get 0 rfl) (fun hL => ?_) (fun hL => k2 hL)
  have l3 := mcut_len hL
  repeat' walk_at "st"
  rw [show cutV (mem.map V.int) (some ((X.W.rows.getD X.W.cur.toNat []).getD (Int.toNat 14) 0)) (some ((X.W.rows.getD X.W.cur.toNat []).getD (Int.toNat 14) 0 + 16)) = (mcut mem X.startU).map V.int from cut_16 hL] at hS
  have hS := row_swap (F := [_, _, _, _]) hS hl (show (X.W.to (X.W.cur + 1)).cur.toNat < X.W.rows.length from cur_lt (W := X.W.to (X.W.cur + 1)) ok2)
  refine k1 hL (B.rs.set (X.W.to (X.W.cur + 1)).cur.toNat p) _ (by rw [List.length_set]; exact hl) ?_
  simp only [gCells, RS.fl, BW.fl, List.length_set]
  rw [List.map_set]
  exact hS
  )) only [↓Hsh.on])
end
theorem c_Ring_fill {K : PySem.W.Frag} {A : List Addr} {H0 H : Hp} {F : List Cell} {B : BA} {mm : Addr} {X : RS} {mem : List Int} {Q : VK} {E : XK} (hS : SH A H0 H (F ++ ((mm, mO mem) :: gCells K B mm X))) (ok : X.W.ok) (hl : B.rs.length = X.W.rows.length) (hm : mem.length ≤ 1000)
    (k1 : lies mem X.startU → ∀ rs' H', rs'.length = X.W.rows.length → SH A H0 H' (F ++ ((mm, mO mem) :: gCells K ⟨B.b, B.dx, B.S, B.R, rs'⟩ mm (X.fl mem))) → Q .non H') (k2 : ¬ lies mem X.startU → E (.ref (He.ga K "Fault")) none H) : sp_Ring_fill K (.ref B.b :: ([] ++ [])) H Q E :=
  ⟨_, rfl, B, mm, X, mem, rfl, SH.blkR F _ hS, ok, hl, hm, fun hL rs' H' l C => k1 hL rs' H' l (hS.callR C), k2⟩
def RS.dn (X : RS) : RS := ⟨X.W.down.clr, X.res + 1⟩
def RS.up (X : RS) : RS := ⟨X.W.up, X.res - 1⟩
theorem fl_ok {W : BW} (ok : W.ok) {w : List Int} (h : w.length = 16) : (W.fl w).ok := ⟨ok.s8, fun r hr => by
    rcases List.mem_or_eq_of_mem_set hr with h2 | rfl
    · exact ok.r16 _ h2
    · exact h, ok.c0, by show W.cur < ((W.rows.set _ _).length : Nat); rw [List.length_set]; exact ok.c1, by show 3 ≤ (W.rows.set _ _).length; rw [List.length_set]; exact ok.n3, by show (W.rows.set _ _).length ≤ 33; rw [List.length_set]; exact ok.n33, ok.b1⟩
theorem fl_len (W : BW) (w : List Int) : (W.fl w).rows.length = W.rows.length := List.length_set ..
abbrev LR (K : PySem.W.Frag) (B : BA) (mm : Addr) (mem : List Int) (X : RS) : List Cell := (mm, mO mem) :: gCells K B mm X
def sp_Ring_shift_down (K : PySem.W.Frag) : Sp := mk1 fun a H Q E => ∃ (B : BA) (mm : Addr) (X : RS) (mem : List Int), a = .ref B.b ∧ Blk H (LR K B mm mem X) ∧ X.W.ok ∧ B.rs.length = X.W.rows.length ∧ mem.length ≤ 1000 ∧
  (X.res ≠ (X.W.rows.length : Nat) - 1 → ∀ H', SH ((LR K B mm mem X).map (·.1)) H H' (LR K B mm mem X.dn) → Q .non H') ∧
  (X.res = (X.W.rows.length : Nat) - 1 → lies mem X.start → ∀ H', SH ((LR K B mm mem X).map (·.1)) H H' (LR K B mm (mput mem X.start X.row) X.sp.dn) → Q .non H') ∧
  (X.res = (X.W.rows.length : Nat) - 1 → ¬ lies mem X.start → E (.ref (He.ga K "Fault")) none H)
theorem ok_Ring_shift_down {P : Program} {w : World} {K : PySem.W.Frag} {mg : Str → Option Value} {base : Heap} (Y : Env w K mg) (G_Ring_spill : MethOk P w K mg base (L2N.CX P w) 2 "Ring" "_spill" ["self"] (sp_Ring_spill K)) (G_clear_new : CallOk P w K mg base CX0 1 "clear_new" ["rows", "current"] (sp_clear_new K)) : MethOk P w K mg base (L2N.CX P w) 3 "Ring" "shift_down" ["self"] (sp_Ring_shift_down K) := Hsh.un (by simp (disch := k_dflt (
  refine Hsh.up ?_
  obtain ⟨fd, F⟩ := Y.fd_Ring_shift_down
  refine ⟨fd, Y.cl_Ring, Y.me_Ring_shift_down, F.bindsN (fun _ _ _ _ _ _ us hl => match us, hl with | [_], _ => rfl), F.ok sc_Ring_shift_down mk1_len (fun cdv A outer s H vs Q E hr h => ?_)⟩
  have hu := hu_room hr
  obtain ⟨_, rfl, B, mm, X, mem, rfl, hB, ok, hl, h1000, k0, k1, k2⟩ := h
  have hS : SH ((LR K B mm mem X).map (·.1)) H H (LR K B mm mem X) := hB.sh
  have h3 := ok.n3
  refine ⟨_, (pss_cons (ps_if (pt_cmpR (xEq hu) (pe_fld (pv 0) rfl) (pe_op op_sub (pe_fld (pv 0) rfl) pe_int) (nomark _)) (pss_one (ps_expr (pe_methG0 (pv 0) G_Ring_spill hr (L2N.passes_call (L2N.takes_of rfl rfl rfl rfl) (fun _ _ _ _ h => h))))) pss_nil)
  (pss_cons (ps_fld (pv 0) (pe_op xMod (pe_op op_sub (pe_fld (pv 0) rfl) pe_int) (pe_fld (pv 0) rfl)) rfl)
  (pss_cons (ps_fld (pv 0) (pe_op xAdd (pe_fld (pv 0) rfl) pe_int) rfl)
  (pss_cons (ps_expr (pe_callG G_clear_new (hr.mono (by decide)) rfl pass0 (pa_cons (pe_fld (pv 0) rfl) (pa_cons (pe_fld (pv 0) rfl) pa_nil))))
  (pss_one (ps_fld (pv 0) (pe_op xAdd (pe_fld (pv 0) rfl) pe_int) rfl)))))), ?_⟩
  rw [st_Ring_shift_down]
  try simp only [cxK, cxK2, cxW, cxW2]
  clear hu hr F
  repeat' walk_at "st"
  · refine c_Ring_spill (F := []) hS ok hl h1000 (fun hL H1 hS => ?_) (fun hL => k2 hc hL)
    have hS : SH ((LR K B mm mem X).map (·.1)) H H1 (LR K B mm (mput mem X.start X.row) X.sp) := hS
    have ok1 := spiP_ok ok
    have hok1 : (X.sp.W.to (X.sp.W.cur - 1)).ok := to_ok ok1 _
    have hln1 : B.rs.length = (X.sp.W.to (X.sp.W.cur - 1)).rows.length := hl
    have h3' : 3 ≤ X.sp.W.rows.length := h3
    repeat' walk_at "st"
    refine ⟨_, _, rfl, B.R, B.rs, X.sp.W.to (X.sp.W.cur - 1), rfl, rfl, SH.blkR [_, _, _] _ hS, hok1, hln1, fun H2 C => ?_⟩
    have hS := SH.callR (F := [_, _, _]) hS C
    repeat' walk_at "st"
    refine k1 hc hL _ ?_
    simp only [LR, gCells, RS.dn, BW.clr, clrR_len]
    exact hS
  · have hok1 : (X.W.to (X.W.cur - 1)).ok := to_ok ok _
    have hln1 : B.rs.length = (X.W.to (X.W.cur - 1)).rows.length := hl
    repeat' walk_at "st"
    refine ⟨_, _, rfl, B.R, B.rs, X.W.to (X.W.cur - 1), rfl, rfl, SH.blkR [_, _, _] _ hS, hok1, hln1, fun H2 C => ?_⟩
    have hS := SH.callR (F := [_, _, _]) hS C
    repeat' walk_at "st"
    refine k0 hc _ ?_
    simp only [LR, gCells, RS.dn, BW.clr, clrR_len]
    exact hS
  )) only [↓Hsh.on])
def sp_Ring_shift_up (K : PySem.W.Frag) : Sp := mk1 fun a H Q E => ∃ (B : BA) (mm : Addr) (X : RS) (mem : List Int), a = .ref B.b ∧ Blk H (LR K B mm mem X) ∧ X.W.ok ∧ B.rs.length = X.W.rows.length ∧ mem.length ≤ 1000 ∧
  (X.res ≠ 1 → ∀ H', SH ((LR K B mm mem X).map (·.1)) H H' (LR K B mm mem X.up) → Q .non H') ∧
  (X.res = 1 → lies mem X.startU → ∀ rs' H', rs'.length = X.W.rows.length → SH ((LR K B mm mem X).map (·.1)) H H' (LR K ⟨B.b, B.dx, B.S, B.R, rs'⟩ mm mem (X.fl mem).up) → Q .non H') ∧
  (X.res = 1 → ¬ lies mem X.startU → E (.ref (He.ga K "Fault")) none H)
theorem ok_Ring_shift_up {P : Program} {w : World} {K : PySem.W.Frag} {mg : Str → Option Value} {base : Heap} (Y : Env w K mg) (G_Ring_fill : MethOk P w K mg base (L2N.CX P w) 2 "Ring" "_fill" ["self"] (sp_Ring_fill K)) : MethOk P w K mg base (L2N.CX P w) 3 "Ring" "shift_up" ["self"] (sp_Ring_shift_up K) := Hsh.un (by simp (disch := k_dflt (
  refine Hsh.up ?_
  obtain ⟨fd, F⟩ := Y.fd_Ring_shift_up
  refine ⟨fd, Y.cl_Ring, Y.me_Ring_shift_up, F.bindsN (fun _ _ _ _ _ _ us hl => match us, hl with | [_], _ => rfl), F.ok sc_Ring_shift_up mk1_len (fun cdv A outer s H vs Q E hr h => ?_)⟩
  have hu := hu_room hr
  obtain ⟨_, rfl, B, mm, X, mem, rfl, hB, ok, hl, h1000, k0, k1, k2⟩ := h
  have hS : SH ((LR K B mm mem X).map (·.1)) H H (LR K B mm mem X) := hB.sh
  have h3 := ok.n3
  refine ⟨_, (pss_cons (ps_if (pt_cmpR (xEq hu) (pe_fld (pv 0) rfl) pe_int (nomark _)) (pss_one (ps_expr (pe_methG0 (pv 0) G_Ring_fill hr (L2N.passes_call (L2N.takes_of rfl rfl rfl rfl) (fun _ _ _ _ h => h))))) pss_nil)
  (pss_cons (ps_fld (pv 0) (pe_op xMod (pe_op xAdd (pe_fld (pv 0) rfl) pe_int) (pe_fld (pv 0) rfl)) rfl)
  (pss_cons (ps_fld (pv 0) (pe_op op_sub (pe_fld (pv 0) rfl) pe_int) rfl)
  (pss_one (ps_fld (pv 0) (pe_op op_sub (pe_fld (pv 0) rfl) pe_int) rfl))))), ?_⟩
  rw [st_Ring_shift_up]
  try simp only [cxK, cxK2, cxW, cxW2]
  clear hu hr F
  repeat' walk_at "st"
  · refine c_Ring_fill (F := []) hS ok hl h1000 (fun hL rs' H1 hr hS => ?_) (fun hL => k2 hc hL)
    have hS : SH ((LR K B mm mem X).map (·.1)) H H1 (LR K ⟨B.b, B.dx, B.S, B.R, rs'⟩ mm mem (X.fl mem)) := hS
    have h3' : 3 ≤ (X.fl mem).W.rows.length := by show 3 ≤ (X.W.fl _).rows.length; rw [fl_len]; exact h3
    repeat' walk_at "st"
    exact k1 hc hL _ _ hr hS
  · exact k0 hc _ hS
  )) only [↓Hsh.on])
def W0g (n : Nat) : BW := ⟨List.replicate 8 0, List.replicate n (List.replicate 16 0), 0, -1, 0, 0, 0⟩
def sp_Ring_init__ (K : PySem.W.Frag) : Sp := mk3 fun a b c H Q _ => ∃ (o dx mm : Addr) (n : Nat), a = .ref o ∧ b = .ref mm ∧ c = .int (n : Nat) ∧ n ≤ 33 ∧ H o = some (.ins (He.ga K "Ring") dx []) ∧
  ∀ S R rs H', rs.length = n → SH [o] H H' (gCells K ⟨o, dx, S, R, rs⟩ mm ⟨W0g n, 1⟩) → Q .non H'
theorem ok_Ring_init__ {P : Program} {w : World} {K : PySem.W.Frag} {mg : Str → Option Value} {base : Heap} (Y : Env w K mg)  : MakeOk P w K mg base CX0 1 "Ring" ["self", "memory", "windows"] (sp_Ring_init__ K) := Hsh.un (by simp (disch := k_dflt (
  refine Hsh.up ?_
  obtain ⟨fd, F⟩ := Y.fd_Ring_init__
  refine ⟨fd, Y.mg_Ring, Y.mk_Ring, F.bindsN (fun _ _ _ _ _ _ us hl => match us, hl with | [_, _, _], _ => rfl), F.ok sc_Ring_init__ mk3_len (fun cdv A outer s H vs Q E hr h => ?_)⟩
  have hu := hu_room hr
  obtain ⟨_, _, _, rfl, o, dx, mm, n, rfl, rfl, rfl, hn, ho, k⟩ := h
  have hS : SH [o] H H [(o, .ins (He.ga K "Ring") dx [])] := SH.start1 ho
  refine ⟨_, PSs.nox (pss_cons (ps_fld (pv 0) (pv 1) rfl)
  (pss_cons (ps_fld (pv 0) (pv 2) rfl)
  (pss_cons (ps_fld (pv 0) (pe_lc (own := [("_", 3)]) (g := gName 3) rfl sc_Ring_init__.nd (pi_range1 rfl Y.z_range (pa_cons (pv 2) pa_nil)) (blkOk_by (N := N_Ring_init__) (sc := defScope s_Ring_init__) (by decide +kernel)) (fun _ _ _ _ _ => pg_name (i := 3) sc_Ring_init__.nd rfl (Or.inl rfl)) (fun _ _ _ _ _ => pts_nil) (fun _ _ _ _ _ => (pe_op (OpR.k (K := K) (r := rMulX) xMul rfl) (pe_lst (pa_cons pe_int pa_nil)) pe_int))) rfl)
  (pss_cons (ps_fld (pv 0) (pe_op xMul (pe_lst (pa_cons pe_int pa_nil)) pe_int) rfl)
  (pss_cons (ps_fld (pv 0) pe_int rfl)
  (pss_cons (ps_fld (pv 0) pe_int rfl)
  (pss_cons (ps_fld (pv 0) pe_int rfl)
  (pss_cons (ps_fld (pv 0) pe_int rfl)
  (pss_one (ps_fld (pv 0) pe_int rfl)))))))))), ?_⟩
  rw [st_Ring_init__]
  try simp only [cxK, cxK2, cxW, cxW2]
  clear hu hr F
  repeat' walk_at "st"
  refine u_lcR1 hS (i := 3) (j := ((n : Nat) : Int)) (fun D k H' => ∃ rs, rs.length = k ∧ SH [o] H H' ((D, .lst (rs.map V.ref)) :: (rowC rs (List.replicate k (List.replicate 16 0)) ++ ([(o, HO.ins (He.ga K "Ring") dx [("memory", V.ref mm), ("windows", V.int (n : Nat))])] : List Cell)))) (by omega) (by omega) (fun D H1 hS => ⟨[], rfl, hS⟩) ?_ ?_
  · rintro D i H1 hi ⟨rs, hr, hS⟩
    repeat' walk_at "st"
    exact ⟨rs ++ [p], by rw [List.length_append, hr]; rfl, by rw [List.replicate_succ']; exact row_snoc hS (by rw [hr, List.length_replicate])⟩
  · rintro D H1 ⟨rs, hr, hS⟩
    have hr : rs.length = n := by rw [hr]; omega
    have hn2 : (Int.toNat (n : Nat)) = n := by omega
    rw [hn2] at hS
    have hS := hS.perm (L' := (o, .ins (He.ga K "Ring") dx [("memory", .ref mm), ("windows", .int (n : Nat))]) :: (D, .lst (rs.map V.ref)) :: rowC rs (List.replicate n (List.replicate 16 0))) (by
      refine ((List.perm_middle (l₁ := (D, HO.lst (rs.map V.ref)) :: rowC rs _)).trans ?_)
      rw [List.append_nil])
    repeat' walk_at "st"
    have hS := (hS.sub (List.Sublist.cons_cons _ (List.sublist_cons_self _ _))).perm (List.Perm.swap _ _ _)
    have hS : SH [o] H H1 (gCells K ⟨o, dx, p, D, rs⟩ mm ⟨W0g n, 1⟩) := by
      simp only [gCells, W0g, List.length_replicate, List.map_replicate]
      exact hS
    exact k _ _ _ _ hr hS
  )) only [↓Hsh.on])

/-! ### the words of instructions -/
def bnd (n lo hi : Int) : Bool := decide (lo ≤ n) && decide (n ≤ hi)
def finE (K : PySem.W.Frag) (o : Option Int) (H : Hp) (Q : VK) (E : XK) : Prop := match o with
  | some i => Q (.int i) H
  | none => E (.ref (He.ga K "ImageError")) none H
theorem s_finE0 {K : PySem.W.Frag} {H : Hp} {Q : VK} {E : XK} (h : E (.ref (He.ga K "ImageError")) none H) : finE K none H Q E := h
theorem s_finE1 {K : PySem.W.Frag} {H : Hp} {Q : VK} {E : XK} {i : Int} (h : Q (.int i) H) : finE K (some i) H Q E := h
def bdd (n lo hi : Int) : Option Int := if bnd n lo hi = true then some n else none
def sp_bounded (K : PySem.W.Frag) : Sp := mk3 fun a b c H Q E => ∃ n lo hi : Int, a = .int n ∧ b = .int lo ∧ c = .int hi ∧ finE K (bdd n lo hi) H Q E
theorem ok_bounded {P : Program} {w : World} {K : PySem.W.Frag} {mg : Str → Option Value} {base : Heap} (Y : Env w K mg)  : CallOk P w K mg base (L2N.CX P w) 1 "bounded" ["number", "least", "most"] (sp_bounded K) := Hsh.un (by simp (disch := k_dflt (
  refine Hsh.up ?_
  obtain ⟨fd, F⟩ := Y.fd_bounded
  refine ⟨_, fd, Y.mg_bounded, F.kp, F.bindsN (fun _ _ _ _ _ _ us hl => match us, hl with | [_, _, _], _ => rfl), F.ok sc_bounded mk3_len (fun cdv A outer s H vs Q E hr h => ?_)⟩
  have hu := hu_room hr
  obtain ⟨_, _, _, rfl, n, lo, hi, rfl, rfl, rfl, k⟩ := h
  have hS : SH [] H H [] := SH.start0
  refine ⟨_, (pss_cons (ps_if (pt_not (pt_chain op_le op_le (pv 1) (pv 0) (pv 2))) (pss_one (ps_raiseN rfl (L2N.takes_of rfl rfl rfl rfl) Y.ef_ImageError Y.mg_ImageError rfl)) pss_nil)
  (pss_one (ps_ret (pv 0)))), ?_⟩
  rw [st_bounded]
  try simp only [cxK, cxK2, cxW, cxW2]
  clear hu hr F
  unfold bdd bnd at k
  repeat' walk_at "st"
  all_goals simp_all [finE]
  )) only [↓Hsh.on])
theorem bdd_some {n lo hi : Int} (h1 : lo ≤ n) (h2 : n ≤ hi) : bdd n lo hi = some n := by
  unfold bdd bnd
  rw [if_pos (by simp [h1, h2])]
theorem bdd_none {n lo hi : Int} (h : ¬ (lo ≤ n ∧ n ≤ hi)) : bdd n lo hi = none := by
  unfold bdd bnd
  rw [if_neg (by simp; omega)]
/-- a bounded number: in its bounds, or refused -/
theorem c_bounded {K : PySem.W.Frag} {H : Hp} {n lo hi : Int} {Q : VK} {E : XK} (k1 : lo ≤ n → n ≤ hi → Q (.int n) H) (k2 : ¬ (lo ≤ n ∧ n ≤ hi) → E (.ref (He.ga K "ImageError")) none H) : sp_bounded K ([.int n, .int lo, .int hi] ++ []) H Q E := Hsh.un (by simp (disch := k_dflt (
  refine Hsh.up ?_
  refine ⟨_, _, _, rfl, n, lo, hi, rfl, rfl, rfl, ?_⟩
  by_cases h : lo ≤ n ∧ n ≤ hi
  · rw [bdd_some h.1 h.2]; exact k1 h.1 h.2
  · rw [bdd_none h]; exact k2 h
  )) only [↓Hsh.on])
local macro_rules | `(tactic| walk_at "st") => `(tactic| first | (with_reducible refine c_bounded (fun hb1 hb2 => ?_) (fun hb => ?_)))
def sp_register_bits (K : PySem.W.Frag) : Sp := mk2 fun a b H Q E => ∃ n m : Int, a = .int n ∧ b = .int m ∧ -(2 ^ 64) < m ∧ m < 2 ^ 64 ∧ (0 ≤ n → n ≤ 31 → Q (.int (n * m)) H) ∧ (¬ (0 ≤ n ∧ n ≤ 31) → E (.ref (He.ga K "ImageError")) none H)
theorem ok_register_bits {P : Program} {w : World} {K : PySem.W.Frag} {mg : Str → Option Value} {base : Heap} (Y : Env w K mg) (G_bounded : CallOk P w K mg base (L2N.CX P w) 1 "bounded" ["number", "least", "most"] (sp_bounded K)) : CallOk P w K mg base (L2N.CX P w) 2 "register_bits" ["number", "size"] (sp_register_bits K) := Hsh.un (by simp (disch := k_dflt (
  refine Hsh.up ?_
  obtain ⟨fd, F⟩ := Y.fd_register_bits
  refine ⟨_, fd, Y.mg_register_bits, F.kp, F.bindsN (fun _ _ _ _ _ _ us hl => match us, hl with | [_, _], _ => rfl), F.ok sc_register_bits mk2_len (fun cdv A outer s H vs Q E hr h => ?_)⟩
  have hu := hu_room hr
  obtain ⟨_, _, rfl, n, m, rfl, rfl, h1, h2, k1, k2⟩ := h
  have hS : SH [] H H [] := SH.start0
  refine ⟨_, (pss_one (ps_ret (pe_op xMul (pe_callG G_bounded hr rfl (L2N.passes_call (L2N.takes_of rfl rfl rfl rfl) (fun _ _ _ _ h => h)) (pa_cons (pv 0) (pa_cons pe_int (pa_cons pe_int pa_nil)))) (pv 1)))), ?_⟩
  rw [st_register_bits]
  try simp only [cxK, cxK2, cxW, cxW2]
  clear hu hr F
  repeat' walk_at "st"
  · exact k1 hb1 hb2
  · exact k2 hb
  )) only [↓Hsh.on])
theorem c_register_bits {K : PySem.W.Frag} {H : Hp} {n m : Int} {Q : VK} {E : XK} (h : -(2 ^ 64) < m ∧ m < 2 ^ 64) (k1 : 0 ≤ n → n ≤ 31 → Q (.int (n * m)) H) (k2 : ¬ (0 ≤ n ∧ n ≤ 31) → E (.ref (He.ga K "ImageError")) none H) : sp_register_bits K ([.int n, .int m] ++ []) H Q E := ⟨_, _, rfl, n, m, rfl, rfl, h.1, h.2, k1, k2⟩
local macro_rules | `(tactic| walk_at "st") => `(tactic| first | ((with_reducible refine c_register_bits ?_ (fun hb1 hb2 => ?_) (fun hb => ?_)); (· walk_at "ar")))
def kindS (b : Bool) : Str := if b = true then "reg" else "int"
def opdB (b : Bool) (n : Int) : Option Int := if b = true then (if 0 ≤ n ∧ n ≤ 31 then some n else none) else if -16384 ≤ n ∧ n ≤ 16383 then some (32768 + n % 32768) else none
def sp_operand_bits (K : PySem.W.Frag) : Sp := mk1 fun a H Q E => ∃ (p : Addr) (b : Bool) (n : Int), a = .ref p ∧ SqT K H p [.str (kindS b), .int n] ∧ finE K (opdB b n) H Q E
theorem ok_operand_bits {P : Program} {w : World} {K : PySem.W.Frag} {mg : Str → Option Value} {base : Heap} (Y : Env w K mg) (G_bounded : CallOk P w K mg base (L2N.CX P w) 1 "bounded" ["number", "least", "most"] (sp_bounded K)) : CallOk P w K mg base (L2N.CX P w) 2 "operand_bits" ["operand"] (sp_operand_bits K) := Hsh.un (by simp (disch := k_dflt (
  refine Hsh.up ?_
  obtain ⟨fd, F⟩ := Y.fd_operand_bits
  refine ⟨_, fd, Y.mg_operand_bits, F.kp, F.bindsN (fun _ _ _ _ _ _ us hl => match us, hl with | [_], _ => rfl), F.ok sc_operand_bits mk1_len (fun cdv A outer s H vs Q E hr h => ?_)⟩
  have hu := hu_room hr
  obtain ⟨_, rfl, p, b, n, rfl, hp, k⟩ := h
  have hS : SH [] H H [] := SH.start0
  refine ⟨_, (pss_cons (ps_asg (pv 0) (pg_tup rfl (pgs_cons (pg_name (i := 1) sc_operand_bits.nd rfl (Or.inl rfl)) (pgs_cons (pg_name (i := 2) sc_operand_bits.nd rfl (Or.inl rfl)) pgs_nil))))
  (pss_cons (ps_if (pt_cmpR (xEq hu) (pv 1) pe_str (nomark _)) (pss_one (ps_ret (pe_callG G_bounded hr rfl (L2N.passes_call (L2N.takes_of rfl rfl rfl rfl) (fun _ _ _ _ h => h)) (pa_cons (pv 2) (pa_cons pe_int (pa_cons pe_int pa_nil)))))) pss_nil)
  (pss_one (ps_ret (pe_op xAdd (pe_op op_pow pe_int pe_int) (pe_op xMod (pe_callG G_bounded hr rfl (L2N.passes_call (L2N.takes_of rfl rfl rfl rfl) (fun _ _ _ _ h => h)) (pa_cons (pv 2) (pa_cons (pe_ci rfl Y.c_LEAST_OPERAND) (pa_cons (pe_ci rfl Y.c_MOST_OPERAND) pa_nil)))) (pe_op op_pow pe_int pe_int))))))), ?_⟩
  rw [st_operand_bits]
  try simp only [cxK, cxK2, cxW, cxW2]
  clear hu hr F
  unfold opdB at k
  cases b
  · simp only [kindS, if_neg Bool.false_ne_true] at k hp
    repeat' walk_at "st"
    · rw [if_pos (And.intro hb1 hb2)] at k; exact k
    · rw [if_neg hb] at k; exact k
  · simp only [kindS, if_pos rfl] at k hp
    repeat' walk_at "st"
    · rw [if_pos (And.intro hb1 hb2)] at k; exact k
    · rw [if_neg hb] at k; exact k
  )) only [↓Hsh.on])
theorem c_operand_bits {K : PySem.W.Frag} {H : Hp} {p : Addr} {b : Bool} {n : Int} {Q : VK} {E : XK} (hp : SqT K H p [.str (kindS b), .int n]) (k1 : ∀ v, opdB b n = some v → Q (.int v) H) (k2 : opdB b n = none → E (.ref (He.ga K "ImageError")) none H) : sp_operand_bits K ([.ref p] ++ []) H Q E := Hsh.un (by simp (disch := k_dflt (
  refine Hsh.up ?_
  refine ⟨_, rfl, p, b, n, rfl, hp, ?_⟩
  cases e : opdB b n with
  | none => exact k2 e
  | some v => exact k1 v e
  )) only [↓Hsh.on])
/-- the names, in their order, and the forms -/
def namesL : List Str := ["halt", "add", "sub", "mul", "div", "mod", "rem", "less", "equal", "high", "low", "load", "store", "jump", "branch", "call", "save", "restore", "back", "raise", "again", "tick", "put", "get", "below", "above", "bar", "setbar", "retry"]
def formsL : List (Str × Str) := [("halt", ""), ("restore", ""), ("back", ""), ("tick", ""), ("retry", ""), ("add", "das"), ("sub", "das"), ("mul", "das"), ("div", "das"), ("mod", "das"), ("rem", "das"), ("less", "das"), ("equal", "das"), ("load", "das"), ("store", "das"), ("save", "das"), ("low", "dam"), ("high", "dn"), ("branch", "dn"), ("jump", "j"), ("call", "c"), ("raise", "c"), ("again", "as"), ("below", "as"), ("above", "as"), ("put", "s"), ("setbar", "s"), ("get", "d"), ("bar", "d")]
/-- an instruction's numbers, and whether its operand is a register (where it has one it is the last number) -/
structure Ins where
  name : Str
  form : Str
  ns : List Int
  reg : Bool
def lenOf (form : Str) : Nat := if form = "" then 0 else if form = "j" ∨ form = "c" ∨ form = "s" ∨ form = "d" then 1 else if form = "as" ∨ form = "dn" then 2 else 3
def hasOp (form : Str) : Bool := decide (form = "s") || decide (form = "as") || decide (form = "das")
structure Ins.ok (I : Ins) : Prop where
  hf : (I.name, I.form) ∈ formsL
  ln : I.ns.length = lenOf I.form
/-- the tuple of an instruction -/
def Ins.at (K : PySem.W.Frag) (H : Hp) (I : Ins) (p : Addr) : Prop :=
  if hasOp I.form = true then ∃ q, SqT K H p (.str I.name :: (I.ns.dropLast.map V.int ++ [.ref q])) ∧ SqT K H q [.str (kindS I.reg), .int (I.ns.getLastD 0)]
  else SqT K H p (.str I.name :: I.ns.map V.int)
def num (name : Str) : Int := ((namesL.idxOf name : Nat) : Int)
def Ins.enc (I : Ins) : Option Int :=
  let w := num I.name * 67108864
  let a := I.ns.getD 0 0
  let b := I.ns.getD 1 0
  let c := I.ns.getD 2 0
  if I.form = "" then some w
  else if I.form = "j" then (bdd a (-33554432) 33554431).map fun a => w + a % 67108864
  else if I.form = "c" then (bdd a 0 67108863).map fun a => w + a
  else if I.form = "s" then (opdB I.reg a).map fun x => w + x
  else if I.form = "as" then (bdd a 0 31).bind fun a => (opdB I.reg b).map fun x => w + a * 65536 + x
  else (bdd a 0 31).bind fun a =>
    if I.form = "dn" then (bdd b (-1048576) 1048575).map fun b => w + a * 2097152 + b % 2097152
    else if I.form = "d" then some (w + a * 2097152)
    else (bdd b 0 31).bind fun b =>
      if I.form = "dam" then (bdd c 0 2047).map fun c => w + a * 2097152 + b * 65536 + 32768 + c
      else (opdB I.reg c).map fun x => w + a * 2097152 + b * 65536 + x
theorem name_at {n f : Str} (h : (n, f) ∈ formsL) : namesL[namesL.idxOf n]? = some n ∧ ∀ m, m < namesL.idxOf n → namesL[m]? ≠ some n := Hsh.un (by simp (disch := k_dflt (
  refine Hsh.up ?_
  have h0 : ∀ q ∈ formsL, namesL[namesL.idxOf q.1]? = some q.1 := by decide +kernel
  refine ⟨h0 _ h, fun m hm e => ?_⟩
  have := List.not_of_lt_findIdx (p := (· == n)) (xs := namesL) hm
  obtain ⟨hl, e2⟩ := List.getElem?_eq_some_iff.mp e
  rw [e2] at this
  simp at this
  )) only [↓Hsh.on])
theorem form_dk {w : World} {K : PySem.W.Frag} {mg : Str → Option Value} (Y : Env w K mg) {n f : Str} (h : (n, f) ∈ formsL) : KDct K w (He.ga K "FORMS") n (.str f) := by
  exact Y.dk_FORMS (n, .str f) (List.mem_map_of_mem (f := fun q : Str × Str => (q.1, He.Dv.str q.2)) h)
local macro_rules | `(tactic| walk_at "dk") => `(tactic| exact form_dk Y (by assumption))
theorem six_c : ∀ f ∈ formsL.map (fun q : Str × Str => q.2), f = ("" : Str) ∨ f = "j" ∨ f = "c" ∨ f = "s" ∨ f = "as" ∨ f = "dn" ∨ f = "d" ∨ f = "dam" ∨ f = "das" := by decide +kernel
theorem len1 {l : List Int} (h : l.length = 1) : ∃ a, l = [a] := match l, h with | [a], _ => ⟨a, rfl⟩
theorem len2 {l : List Int} (h : l.length = 2) : ∃ a b, l = [a, b] := match l, h with | [a, b], _ => ⟨a, b, rfl⟩
theorem len3 {l : List Int} (h : l.length = 3) : ∃ a b c, l = [a, b, c] := match l, h with | [a, b, c], _ => ⟨a, b, c, rfl⟩
section
variable {n : Str} {a b c : Int} {r : Bool}
theorem enc_0 : (Ins.mk n "" [] r).enc = some (num n * 67108864) := rfl
theorem enc_j : (Ins.mk n "j" [a] r).enc = (bdd a (-33554432) 33554431).map fun a => num n * 67108864 + a % 67108864 := rfl
theorem enc_c : (Ins.mk n "c" [a] r).enc = (bdd a 0 67108863).map fun a => num n * 67108864 + a := rfl
theorem enc_s : (Ins.mk n "s" [a] r).enc = (opdB r a).map fun x => num n * 67108864 + x := rfl
theorem enc_as : (Ins.mk n "as" [a, b] r).enc = (bdd a 0 31).bind fun a => (opdB r b).map fun x => num n * 67108864 + a * 65536 + x := rfl
theorem enc_dn : (Ins.mk n "dn" [a, b] r).enc = (bdd a 0 31).bind fun a => (bdd b (-1048576) 1048575).map fun b => num n * 67108864 + a * 2097152 + b % 2097152 := rfl
theorem enc_d : (Ins.mk n "d" [a] r).enc = (bdd a 0 31).bind fun a => some (num n * 67108864 + a * 2097152) := rfl
theorem enc_dam : (Ins.mk n "dam" [a, b, c] r).enc = (bdd a 0 31).bind fun a => (bdd b 0 31).bind fun b => (bdd c 0 2047).map fun c => num n * 67108864 + a * 2097152 + b * 65536 + 32768 + c := rfl
theorem enc_das : (Ins.mk n "das" [a, b, c] r).enc = (bdd a 0 31).bind fun a => (bdd b 0 31).bind fun b => (opdB r c).map fun x => num n * 67108864 + a * 2097152 + b * 65536 + x := rfl
end
section
 local macro_rules | `(tactic| walk_at "st") => `(tactic| first
  | ((with_reducible apply s_tix (ys := namesL)); (· exact Y.tp_NAMES _); (· exact hnm.1); (· exact hnm.2))
  | ((with_reducible show sp_operand_bits _ _ _ _ _); apply c_operand_bits (b := reg) (SqT_keep hq hS.kp); intro v hv; rotate_left; intro hv))
def sp_encode (K : PySem.W.Frag) : Sp := mk1 fun a H Q E => ∃ (p : Addr) (I : Ins), a = .ref p ∧ I.ok ∧ I.at K H p ∧ finE K I.enc H Q E
theorem ok_encode {P : Program} {w : World} {K : PySem.W.Frag} {mg : Str → Option Value} {base : Heap} (Y : Env w K mg) (G_bounded : CallOk P w K mg base (L2N.CX P w) 1 "bounded" ["number", "least", "most"] (sp_bounded K)) (G_operand_bits : CallOk P w K mg base (L2N.CX P w) 2 "operand_bits" ["operand"] (sp_operand_bits K)) (G_register_bits : CallOk P w K mg base (L2N.CX P w) 2 "register_bits" ["number", "size"] (sp_register_bits K)) : CallOk P w K mg base (L2N.CX P w) 3 "encode" ["instruction"] (sp_encode K) := Hsh.un (by simp (disch := k_dflt (
  refine Hsh.up ?_
  obtain ⟨fd, F⟩ := Y.fd_encode
  refine ⟨_, fd, Y.mg_encode, F.kp, F.bindsN (fun _ _ _ _ _ _ us hl => match us, hl with | [_], _ => rfl), F.ok sc_encode mk1_len (fun cdv A outer s H vs Q E hr h => ?_)⟩
  have hu := hu_room hr
  obtain ⟨_, rfl, p, ⟨name, form, ns, reg⟩, rfl, ok, hp, k⟩ := h
  have hS : SH [] H H [] := SH.start0
  have hf : (name, form) ∈ formsL := ok.hf
  have hln : ns.length = lenOf form := ok.ln
  have hnm := name_at hf
  refine ⟨_, (pss_cons (ps_set (i := 1) sc_encode.nd rfl (Or.inl rfl) (pe_ix xIx (pv 0) pe_int (fun _ _ => rfl)))
  (pss_cons (ps_set (i := 2) sc_encode.nd rfl (Or.inl rfl) (pe_ix ix_kdict (pe_gr rfl Y.mg_FORMS) (pv 1) (fun _ _ => rfl)))
  (pss_cons (ps_set (i := 3) sc_encode.nd rfl (Or.inl rfl) (pe_op xMul (pe_bm PySem.F.plainAttrs_tuple PySem.F.slot_tuple_index PySem.F.type_tuple_index xt_index (pe_gr rfl Y.mg_NAMES) (pa_cons (pv 1) pa_nil)) (pe_op op_pow pe_int pe_int)))
  (pss_cons (ps_if (pt_cmpR (xEq hu) (pv 2) pe_str (nomark _)) (pss_one (ps_ret (pe_op xAdd (pv 3) (pe_op xMod (pe_callG G_bounded (hr.mono (by decide)) rfl (L2N.passes_call (L2N.takes_of rfl rfl rfl rfl) (fun _ _ _ _ h => h)) (pa_cons (pe_ix xIx (pv 0) pe_int (fun _ _ => rfl)) (pa_cons (pe_ci rfl Y.c_LEAST_JUMP) (pa_cons (pe_ci rfl Y.c_MOST_JUMP) pa_nil)))) (pe_op op_pow pe_int pe_int))))) pss_nil)
  (pss_cons (ps_if (pt_cmpR (xEq hu) (pv 2) pe_str (nomark _)) (pss_one (ps_ret (pe_op xAdd (pv 3) (pe_callG G_bounded (hr.mono (by decide)) rfl (L2N.passes_call (L2N.takes_of rfl rfl rfl rfl) (fun _ _ _ _ h => h)) (pa_cons (pe_ix xIx (pv 0) pe_int (fun _ _ => rfl)) (pa_cons pe_int (pa_cons (pe_ci rfl Y.c_MOST_ADDRESS) pa_nil))))))) pss_nil)
  (pss_cons (ps_if (pt_cmpR (xEq hu) (pv 2) pe_str (nomark _)) (pss_one (ps_ret (pe_op xAdd (pv 3) (pe_callG G_operand_bits hr rfl (L2N.passes_call (L2N.takes_of rfl rfl rfl rfl) (fun _ _ _ _ h => h)) (pa_cons (pe_ix xIx (pv 0) pe_int (fun _ _ => rfl)) pa_nil))))) pss_nil)
  (pss_cons (ps_if (pt_cmpR (xEq hu) (pv 2) pe_str (nomark _)) (pss_one (ps_ret (pe_op xAdd (pe_op xAdd (pv 3) (pe_callG G_register_bits hr rfl (L2N.passes_call (L2N.takes_of rfl rfl rfl rfl) (fun _ _ _ _ h => h)) (pa_cons (pe_ix xIx (pv 0) pe_int (fun _ _ => rfl)) (pa_cons (pe_op op_pow pe_int pe_int) pa_nil)))) (pe_callG G_operand_bits hr rfl (L2N.passes_call (L2N.takes_of rfl rfl rfl rfl) (fun _ _ _ _ h => h)) (pa_cons (pe_ix xIx (pv 0) pe_int (fun _ _ => rfl)) pa_nil))))) pss_nil)
  (pss_cons (ps_if (pt_cmpR (xEq hu) (pv 2) pe_str (nomark _)) (pss_one (ps_ret (pv 3))) pss_nil)
  (pss_cons (ps_set (i := 3) sc_encode.nd rfl (Or.inl rfl) (pe_op xAdd (pv 3) (pe_callG G_register_bits hr rfl (L2N.passes_call (L2N.takes_of rfl rfl rfl rfl) (fun _ _ _ _ h => h)) (pa_cons (pe_ix xIx (pv 0) pe_int (fun _ _ => rfl)) (pa_cons (pe_op op_pow pe_int pe_int) pa_nil)))))
  (pss_cons (ps_if (pt_cmpR (xEq hu) (pv 2) pe_str (nomark _)) (pss_one (ps_ret (pe_op xAdd (pv 3) (pe_op xMod (pe_callG G_bounded (hr.mono (by decide)) rfl (L2N.passes_call (L2N.takes_of rfl rfl rfl rfl) (fun _ _ _ _ h => h)) (pa_cons (pe_ix xIx (pv 0) pe_int (fun _ _ => rfl)) (pa_cons (pe_ci rfl Y.c_LEAST_N) (pa_cons (pe_ci rfl Y.c_MOST_N) pa_nil)))) (pe_op op_pow pe_int pe_int))))) pss_nil)
  (pss_cons (ps_if (pt_cmpR (xEq hu) (pv 2) pe_str (nomark _)) (pss_one (ps_ret (pv 3))) pss_nil)
  (pss_cons (ps_set (i := 3) sc_encode.nd rfl (Or.inl rfl) (pe_op xAdd (pv 3) (pe_callG G_register_bits hr rfl (L2N.passes_call (L2N.takes_of rfl rfl rfl rfl) (fun _ _ _ _ h => h)) (pa_cons (pe_ix xIx (pv 0) pe_int (fun _ _ => rfl)) (pa_cons (pe_op op_pow pe_int pe_int) pa_nil)))))
  (pss_cons (ps_if (pt_cmpR (xEq hu) (pv 2) pe_str (nomark _)) (pss_one (ps_ret (pe_op xAdd (pe_op xAdd (pv 3) (pe_op op_pow pe_int pe_int)) (pe_callG G_bounded (hr.mono (by decide)) rfl (L2N.passes_call (L2N.takes_of rfl rfl rfl rfl) (fun _ _ _ _ h => h)) (pa_cons (pe_ix xIx (pv 0) pe_int (fun _ _ => rfl)) (pa_cons pe_int (pa_cons (pe_op op_sub (pe_ci rfl Y.c_PAGE) pe_int) pa_nil))))))) pss_nil)
  (pss_one (ps_ret (pe_op xAdd (pv 3) (pe_callG G_operand_bits hr rfl (L2N.passes_call (L2N.takes_of rfl rfl rfl rfl) (fun _ _ _ _ h => h)) (pa_cons (pe_ix xIx (pv 0) pe_int (fun _ _ => rfl)) pa_nil)))))))))))))))))), ?_⟩
  rw [st_encode]
  try simp only [cxK, cxK2, cxW, cxW2]
  clear hu hr F
  rcases six_c form (List.mem_map_of_mem hf) with rfl | rfl | rfl | rfl | rfl | rfl | rfl | rfl | rfl
  · have e : ns = [] := List.length_eq_zero_iff.mp hln
    subst e
    have hp : SqT K H p [.str name] := hp
    rw [enc_0] at k
    repeat' walk_at "st"
    exact k
  · obtain ⟨a, rfl⟩ := len1 hln
    have hp : SqT K H p [.str name, .int a] := hp
    rw [enc_j] at k
    repeat' walk_at "st"
    · rw [bdd_some hb1 hb2] at k; exact k
    · rw [bdd_none hb] at k; exact k
  · obtain ⟨a, rfl⟩ := len1 hln
    have hp : SqT K H p [.str name, .int a] := hp
    rw [enc_c] at k
    repeat' walk_at "st"
    · rw [bdd_some hb1 hb2] at k; exact k
    · rw [bdd_none hb] at k; exact k
  · obtain ⟨a, rfl⟩ := len1 hln
    obtain ⟨q, hp, hq⟩ : ∃ q, SqT K H p [.str name, .ref q] ∧ SqT K H q [.str (kindS reg), .int a] := hp
    rw [enc_s] at k
    repeat' walk_at "st"
    all_goals rw [hv] at k; exact k
  · obtain ⟨a, b, rfl⟩ := len2 hln
    obtain ⟨q, hp, hq⟩ : ∃ q, SqT K H p [.str name, .int a, .ref q] ∧ SqT K H q [.str (kindS reg), .int b] := hp
    rw [enc_as] at k
    repeat' walk_at "st"
    · rw [bdd_some hb1 hb2, Option.bind_some, hv] at k; exact k
    · rw [bdd_some hb1 hb2, Option.bind_some, hv] at k; exact k
    · rw [bdd_none hb] at k; exact k
  · obtain ⟨a, b, rfl⟩ := len2 hln
    have hp : SqT K H p [.str name, .int a, .int b] := hp
    rw [enc_dn] at k
    repeat' walk_at "st"
    · rw [bdd_some (n := a) (lo := 0) (hi := 31) (by assumption) (by assumption), Option.bind_some, bdd_some hb1 hb2] at k; exact k
    · rw [bdd_some hb1 hb2, Option.bind_some, bdd_none hb] at k; exact k
    · rw [bdd_none hb] at k; exact k
  · obtain ⟨a, rfl⟩ := len1 hln
    have hp : SqT K H p [.str name, .int a] := hp
    rw [enc_d] at k
    repeat' walk_at "st"
    · rw [bdd_some hb1 hb2] at k; exact k
    · rw [bdd_none hb] at k; exact k
  · obtain ⟨a, b, c, rfl⟩ := len3 hln
    have hp : SqT K H p [.str name, .int a, .int b, .int c] := hp
    rw [enc_dam] at k
    repeat' walk_at "st"
    · rw [bdd_some (n := a) (lo := 0) (hi := 31) (by assumption) (by assumption), Option.bind_some, bdd_some (n := b) (lo := 0) (hi := 31) (by assumption) (by assumption), Option.bind_some, bdd_some (n := c) (lo := 0) (hi := 2047) (by omega) (by omega)] at k; exact k
    · rw [bdd_some (n := a) (lo := 0) (hi := 31) (by assumption) (by assumption), Option.bind_some, bdd_some (n := b) (lo := 0) (hi := 31) (by assumption) (by assumption), Option.bind_some, bdd_none (n := c) (lo := 0) (hi := 2047) (by omega)] at k; exact k
    · rw [bdd_some (n := a) (lo := 0) (hi := 31) (by assumption) (by assumption), Option.bind_some, bdd_none hb] at k; exact k
    · rw [bdd_none hb] at k; exact k
  · obtain ⟨a, b, c, rfl⟩ := len3 hln
    obtain ⟨q, hp, hq⟩ : ∃ q, SqT K H p [.str name, .int a, .int b, .ref q] ∧ SqT K H q [.str (kindS reg), .int c] := hp
    rw [enc_das] at k
    repeat' walk_at "st"
    · rw [bdd_some (n := a) (lo := 0) (hi := 31) (by assumption) (by assumption), Option.bind_some, bdd_some (n := b) (lo := 0) (hi := 31) (by assumption) (by assumption), Option.bind_some, hv] at k; exact k
    · rw [bdd_some (n := a) (lo := 0) (hi := 31) (by assumption) (by assumption), Option.bind_some, bdd_some (n := b) (lo := 0) (hi := 31) (by assumption) (by assumption), Option.bind_some, hv] at k; exact k
    · rw [bdd_some (n := a) (lo := 0) (hi := 31) (by assumption) (by assumption), Option.bind_some, bdd_none hb] at k; exact k
    · rw [bdd_none hb] at k; exact k
  )) only [↓Hsh.on])
end
theorem c_encode {K : PySem.W.Frag} {H : Hp} {p : Addr} {I : Ins} {Q : VK} {E : XK} (ok : I.ok) (h : I.at K H p) (k : finE K I.enc H Q E) : sp_encode K ([.ref p] ++ []) H Q E := ⟨_, rfl, p, I, rfl, ok, h, k⟩

/-! ### the programs of the handlers -/
inductive HR where
  | bar (d : Int) | setI (v : Int) | setG (r : Int) | add (d a v : Int) | sub (d a v : Int) | mod (d a v : Int) | save | rest | store (d a v : Int) | load (d a v : Int) | retry
def HR.ins : HR → Ins
  | .bar d => ⟨"bar", "d", [d], false⟩
  | .setI v => ⟨"setbar", "s", [v], false⟩
  | .setG r => ⟨"setbar", "s", [r], true⟩
  | .add d a v => ⟨"add", "das", [d, a, v], false⟩
  | .sub d a v => ⟨"sub", "das", [d, a, v], false⟩
  | .mod d a v => ⟨"mod", "das", [d, a, v], false⟩
  | .save => ⟨"save", "das", [0, 0, 0], false⟩
  | .rest => ⟨"restore", "", [], false⟩
  | .store d a v => ⟨"store", "das", [d, a, v], false⟩
  | .load d a v => ⟨"load", "das", [d, a, v], false⟩
  | .retry => ⟨"retry", "", [], false⟩
def spill0 (n : Int) : List HR := [.bar 19, .sub 20 19 1, .mod 20 20 n, .setI (-1), .save]
def storesL (i : Nat) : List HR := (List.range i).map fun k => .store (16 + (k : Nat)) 14 (k : Nat)
def spillL (n : Int) : List HR := spill0 n ++ storesL 16 ++ [.rest] ++ [.setG 20, .retry]
def fill0 (n : Int) : List HR := [.bar 19, .add 20 19 1, .mod 20 20 n, .setI (-1), .rest, .rest]
def loadsL (i : Nat) : List HR := (List.range i).map fun k => .load (16 + (k : Nat)) 14 (k : Nat)
def fillL (n : Int) : List HR := fill0 n ++ loadsL 16 ++ [.save, .save] ++ [.setG 20, .retry]
theorem storesL_succ (i : Nat) : storesL (i + 1) = storesL i ++ [.store (16 + (i : Nat)) 14 (i : Nat)] := Hsh.un (by simp (disch := k_dflt (
  refine Hsh.up ?_
  unfold storesL
  rw [List.range_succ, List.map_append]
  rfl
  )) only [↓Hsh.on])
theorem loadsL_succ (i : Nat) : loadsL (i + 1) = loadsL i ++ [.load (16 + (i : Nat)) 14 (i : Nat)] := Hsh.un (by simp (disch := k_dflt (
  refine Hsh.up ?_
  unfold loadsL
  rw [List.range_succ, List.map_append]
  rfl
  )) only [↓Hsh.on])
/-- the rows of a program lie at ps -/
structure Pg (K : PySem.W.Frag) (H : Hp) (ps : List Addr) (hs : List HR) : Prop where
  len : ps.length = hs.length
  at_ : ∀ (i : Nat) (x : HR) (q : Addr), hs[i]? = some x → ps[i]? = some q → x.ins.at K H q
theorem insAt_keep {K : PySem.W.Frag} {A : List Addr} {H H' : Hp} {I : Ins} {p : Addr} (h : I.at K H p) (k : Keep A H H') : I.at K H' p := Hsh.un (by simp (disch := k_dflt (
  refine Hsh.up ?_
  unfold Ins.at at h ⊢
  split at h
  · rename_i c
    rw [if_pos c]
    obtain ⟨q, h1, h2⟩ := h
    exact ⟨q, SqT_keep h1 k, SqT_keep h2 k⟩
  · rename_i c
    rw [if_neg c]
    exact SqT_keep h k
  )) only [↓Hsh.on])
theorem Pg.nil {K : PySem.W.Frag} {H : Hp} : Pg K H [] [] := ⟨rfl, fun i x q h => by simp at h⟩
theorem Pg.keep {K : PySem.W.Frag} {A : List Addr} {H H' : Hp} {ps : List Addr} {hs : List HR} (h : Pg K H ps hs) (k : Keep A H H') : Pg K H' ps hs := ⟨h.len, fun i x q a b => insAt_keep (h.at_ i x q a b) k⟩
theorem Pg.snoc {K : PySem.W.Frag} {H : Hp} {ps : List Addr} {hs : List HR} {x : HR} {q : Addr} (h : Pg K H ps hs) (ha : x.ins.at K H q) : Pg K H (ps ++ [q]) (hs ++ [x]) := Hsh.un (by simp (disch := k_dflt (
  refine Hsh.up ?_
  refine ⟨by rw [List.length_append, List.length_append, h.len]; rfl, fun i y r e1 e2 => ?_⟩
  have hl := h.len
  by_cases c : i < hs.length
  · rw [List.getElem?_append_left c] at e1
    rw [List.getElem?_append_left (by omega)] at e2
    exact h.at_ i y r e1 e2
  · rw [List.getElem?_append_right (by omega)] at e1
    rw [List.getElem?_append_right (by omega), hl] at e2
    cases hk : i - hs.length with
    | zero =>
      rw [hk] at e1 e2
      simp only [List.getElem?_cons_zero, Option.some.injEq] at e1 e2
      subst e1 e2
      exact ha
    | succ m =>
      rw [hk] at e1
      simp at e1
  )) only [↓Hsh.on])
theorem Pg.cast {K : PySem.W.Frag} {H : Hp} {ps ps' : List Addr} {hs hs' : List HR} (h : Pg K H ps hs) (e1 : ps = ps') (e2 : hs = hs') : Pg K H ps' hs' := e1 ▸ e2 ▸ h
theorem at3 {K : PySem.W.Frag} {H : Hp} {p q : Addr} {nm : Str} {d a v : Int} (h1 : SqT K H p [.str nm, .int d, .int a, .ref q]) (h2 : SqT K H q [.str "int", .int v]) : (Ins.mk nm "das" [d, a, v] false).at K H p := ⟨q, h1, h2⟩
theorem atD {K : PySem.W.Frag} {H : Hp} {p : Addr} {nm : Str} {d : Int} (h1 : SqT K H p [.str nm, .int d]) : (Ins.mk nm "d" [d] false).at K H p := h1
theorem at0 {K : PySem.W.Frag} {H : Hp} {p : Addr} {nm : Str} (h1 : SqT K H p [.str nm]) : (Ins.mk nm "" [] false).at K H p := h1
theorem atI {K : PySem.W.Frag} {H : Hp} {p q : Addr} {v : Int} (h1 : SqT K H p [.str "setbar", .ref q]) (h2 : SqT K H q [.str "int", .int v]) : (HR.setI v).ins.at K H p := ⟨q, h1, h2⟩
theorem atG {K : PySem.W.Frag} {H : Hp} {p q : Addr} {v : Int} (h1 : SqT K H p [.str "setbar", .ref q]) (h2 : SqT K H q [.str "reg", .int v]) : (HR.setG v).ins.at K H p := ⟨q, h1, h2⟩
local macro_rules | `(tactic| walk_at "st") => `(tactic| first
  | ((with_reducible apply s_catK); (· walk_at "hp"); (· exact Y.kl_LEAVING); (· walk_at "sz"); (· exact rfl))
  | fail)
def pgE (K : PySem.W.Frag) (hs : List HR) (H : Hp) (Q : VK) : Prop := ∀ p ps H', Keep [] H H' → H p = none → H' p = some (.lst (ps.map V.ref)) → Pg K H' ps hs → Q (.ref p) H'
/-- what stands behind i turns of a program's loop -/
def LpI (K : PySem.W.Frag) (H0 : Hp) (n : Int) (p : Addr) (pre : List HR) (row : Nat → List HR) (i : Nat) (σ : L2.St) (H : Hp) : Prop :=
  ∃ v ps, σ = [some (.int n), some (.ref p), v] ∧ SH [] H0 H [(p, .lst (ps.map V.ref))] ∧ Pg K H ps (pre ++ row i)
theorem LpI.mk {K : PySem.W.Frag} {H0 H : Hp} {n : Int} {p : Addr} {pre : List HR} {row : Nat → List HR} {L : List Cell} {xs : List V} {v : Option V} (ps : List Addr) (hS : SH [] H0 H L) (sub : [(p, HO.lst xs)].Sublist L) (e : xs = ps.map V.ref) (h : Pg K H ps pre) (r0 : row 0 = []) :
    LpI K H0 n p pre row 0 [some (.int n), some (.ref p), v] H := ⟨v, ps, rfl, by rw [← e]; exact hS.sub sub, by rw [r0, List.append_nil]; exact h⟩
theorem LpI.next {K : PySem.W.Frag} {H0 H H1 : Hp} {n : Int} {p q : Addr} {pre : List HR} {row : Nat → List HR} {i : Nat} {L2 : List Cell} {ps : List Addr} {x : HR} {v : Option V} (hS0 : SH [] H0 H [(p, .lst (ps.map V.ref))]) (hS : SH [p] H H1 L2) (sub : [(p, .lst (ps.map V.ref ++ [V.ref q]))].Sublist L2)
    (hP : Pg K H ps (pre ++ row i)) (ha : x.ins.at K H1 q) (er : row (i + 1) = row i ++ [x]) : LpI K H0 n p pre row (i + 1) [some (.int n), some (.ref p), v] H1 := Hsh.un (by simp (disch := k_dflt (
  refine Hsh.up ?_
  refine ⟨v, ps ++ [q], rfl, ?_, ?_⟩
  · rw [List.map_append]
    exact SH.callE hS0 (hS.sub sub)
  · rw [er, ← List.append_assoc]
    exact (hP.keep hS.kp).snoc ha
  )) only [↓Hsh.on])
def sp_spill_handler (K : PySem.W.Frag) : Sp := mk1 fun a H Q _ => ∃ n : Int, a = .int n ∧ pgE K (spillL n) H Q
theorem ok_spill_handler {P : Program} {w : World} {K : PySem.W.Frag} {mg : Str → Option Value} {base : Heap} (Y : Env w K mg)  : CallOk P w K mg base CX0 1 "spill_handler" ["windows"] (sp_spill_handler K) := Hsh.un (by simp (disch := k_dflt (
  refine Hsh.up ?_
  obtain ⟨fd, F⟩ := Y.fd_spill_handler
  refine ⟨_, fd, Y.mg_spill_handler, F.kp, F.bindsN (fun _ _ _ _ _ _ us hl => match us, hl with | [_], _ => rfl), F.ok sc_spill_handler mk1_len (fun cdv A outer s H vs Q E hr h => ?_)⟩
  have hu := hu_room hr
  obtain ⟨_, rfl, n, rfl, k⟩ := h
  have hS : SH [] H H [] := SH.start0
  refine ⟨_, PSs.nox (pss_cons (ps_set (i := 1) sc_spill_handler.nd rfl (Or.inl rfl) (pe_lst (pa_cons (pe_tup (pa_cons pe_str (pa_cons (pe_ci rfl Y.c_BARRED) pa_nil))) (pa_cons (pe_tup (pa_cons pe_str (pa_cons (pe_ci rfl Y.c_NEXT_BARRED) (pa_cons (pe_ci rfl Y.c_BARRED) (pa_cons (pe_tup (pa_cons pe_str (pa_cons pe_int pa_nil))) pa_nil))))) pa_nil))))
  (pss_cons (ps_set (i := 1) sc_spill_handler.nd rfl (Or.inl rfl) (pe_op xAdd (pv 1) (pe_lst (pa_cons (pe_tup (pa_cons pe_str (pa_cons (pe_ci rfl Y.c_NEXT_BARRED) (pa_cons (pe_ci rfl Y.c_NEXT_BARRED) (pa_cons (pe_tup (pa_cons pe_str (pa_cons (pv 0) pa_nil))) pa_nil))))) (pa_cons (pe_gr rfl Y.mg_NO_BAR_handlers) (pa_cons (pe_gr rfl Y.mg_NEW_WINDOW) pa_nil))))))
  (pss_cons (ps_for PassesOwn.never rfl (pi_range1 rfl Y.z_range (pa_cons (pe_ci rfl Y.c_SAVED) pa_nil)) (pg_name (i := 2) sc_spill_handler.nd rfl (Or.inl rfl))
  (pss_one (ps_expr (pe_bm PySem.F.plainAttrs_list PySem.F.slot_list_append PySem.F.type_list_append mt_append (pv 1) (pa_cons (pe_tup (pa_cons pe_str (pa_cons (pe_op xAdd (pe_ci rfl Y.c_FIRST_SAVED) (pv 2)) (pa_cons (pe_ci rfl Y.c_STACK) (pa_cons (pe_tup (pa_cons pe_str (pa_cons (pv 2) pa_nil))) pa_nil))))) pa_nil)))))
  (pss_cons (ps_expr (pe_bm PySem.F.plainAttrs_list PySem.F.slot_list_append PySem.F.type_list_append mt_append (pv 1) (pa_cons (pe_tup (pa_cons pe_str pa_nil)) pa_nil)))
  (pss_one (ps_ret (pe_op op_catK (pv 1) (pe_gr rfl Y.mg_LEAVING)))))))), ?_⟩
  rw [st_spill_handler]
  try simp only [cxK, cxK2, cxW, cxW2]
  clear hu hr F
  repeat' walk_at "st"
  simp only [List.cons_append, List.nil_append] at hS
  refine u_forR1 (LpI K H n p (spill0 n) storesL) (by decide) (by decide) (LpI.mk [_, _, _, _, _] hS (List.Sublist.cons_cons _ (List.nil_sublist _)) rfl ?_ rfl) ?_ ?_
  · exact (((((Pg.nil.snoc (x := .bar 19) (atD (SqT.of (hS.get 7 rfl)))).snoc (x := .sub 20 19 1) (at3 (SqT.of (hS.get 5 rfl)) (SqT.of (hS.get 6 rfl)))).snoc (x := .mod 20 20 n) (at3 (SqT.of (hS.get 2 rfl)) (SqT.of (hS.get 3 rfl)))).snoc (x := .setI (-1)) (atI (Y.tp_NO_BAR_handlers _) (Y.tp_NO_BAR_handlers_1 _))).snoc (x := .save) (at3 (Y.tp_NEW_WINDOW _) (Y.tp_ZERO _)))
  · clear hS
    rintro i σ H1 hi ⟨v, ps, rfl, hS0, hP⟩
    have hS : SH [p] H1 H1 [(p, .lst (ps.map V.ref))] := hS0.blk.sh
    have hl : ps.length = 5 + i := by rw [hP.len]; simp [spill0, storesL]; omega
    repeat' walk_at "st"
    exact LpI.next hS0 hS (List.Sublist.cons _ (List.Sublist.cons _ (List.Sublist.refl _))) hP (at3 (SqT.of (hS.get 0 rfl)) (SqT.of (hS.get 1 rfl))) (storesL_succ i)
  · clear hS
    rintro σ H1 ⟨v, ps, rfl, hS0, hP⟩
    have hS : SH [p] H1 H1 [(p, .lst (ps.map V.ref))] := hS0.blk.sh
    have hl : ps.length = 21 := hP.len
    repeat' walk_at "st"
    have hP := hP.keep hS.kp
    have hS := hS0.callE hS
    try simp only [List.append_assoc, List.cons_append, List.nil_append] at hS
    exact k _ (ps ++ [_] ++ [_, _]) _ hS.kp (hS.fr0 0 rfl) ((hS.get 0 rfl).trans (by simp only [List.map_append, List.append_assoc]; rfl)) (((((hP.snoc (x := .rest) (at0 (SqT.of (hS.get 1 rfl)))).snoc (x := .setG 20) (atG (Y.tp_LEAVING_0 _) (Y.tp_LEAVING_0_1 _))).snoc (x := .retry) (at0 (Y.tp_LEAVING_1 _)))).cast (by simp) rfl)
  )) only [↓Hsh.on])
def sp_fill_handler (K : PySem.W.Frag) : Sp := mk1 fun a H Q _ => ∃ n : Int, a = .int n ∧ pgE K (fillL n) H Q
theorem ok_fill_handler {P : Program} {w : World} {K : PySem.W.Frag} {mg : Str → Option Value} {base : Heap} (Y : Env w K mg)  : CallOk P w K mg base CX0 1 "fill_handler" ["windows"] (sp_fill_handler K) := Hsh.un (by simp (disch := k_dflt (
  refine Hsh.up ?_
  obtain ⟨fd, F⟩ := Y.fd_fill_handler
  refine ⟨_, fd, Y.mg_fill_handler, F.kp, F.bindsN (fun _ _ _ _ _ _ us hl => match us, hl with | [_], _ => rfl), F.ok sc_fill_handler mk1_len (fun cdv A outer s H vs Q E hr h => ?_)⟩
  have hu := hu_room hr
  obtain ⟨_, rfl, n, rfl, k⟩ := h
  have hS : SH [] H H [] := SH.start0
  refine ⟨_, PSs.nox (pss_cons (ps_set (i := 1) sc_fill_handler.nd rfl (Or.inl rfl) (pe_lst (pa_cons (pe_tup (pa_cons pe_str (pa_cons (pe_ci rfl Y.c_BARRED) pa_nil))) (pa_cons (pe_tup (pa_cons pe_str (pa_cons (pe_ci rfl Y.c_NEXT_BARRED) (pa_cons (pe_ci rfl Y.c_BARRED) (pa_cons (pe_tup (pa_cons pe_str (pa_cons pe_int pa_nil))) pa_nil))))) pa_nil))))
  (pss_cons (ps_set (i := 1) sc_fill_handler.nd rfl (Or.inl rfl) (pe_op xAdd (pv 1) (pe_lst (pa_cons (pe_tup (pa_cons pe_str (pa_cons (pe_ci rfl Y.c_NEXT_BARRED) (pa_cons (pe_ci rfl Y.c_NEXT_BARRED) (pa_cons (pe_tup (pa_cons pe_str (pa_cons (pv 0) pa_nil))) pa_nil))))) (pa_cons (pe_gr rfl Y.mg_NO_BAR_handlers) (pa_cons (pe_tup (pa_cons pe_str pa_nil)) (pa_cons (pe_tup (pa_cons pe_str pa_nil)) pa_nil)))))))
  (pss_cons (ps_for PassesOwn.never rfl (pi_range1 rfl Y.z_range (pa_cons (pe_ci rfl Y.c_SAVED) pa_nil)) (pg_name (i := 2) sc_fill_handler.nd rfl (Or.inl rfl))
  (pss_one (ps_expr (pe_bm PySem.F.plainAttrs_list PySem.F.slot_list_append PySem.F.type_list_append mt_append (pv 1) (pa_cons (pe_tup (pa_cons pe_str (pa_cons (pe_op xAdd (pe_ci rfl Y.c_FIRST_SAVED) (pv 2)) (pa_cons (pe_ci rfl Y.c_STACK) (pa_cons (pe_tup (pa_cons pe_str (pa_cons (pv 2) pa_nil))) pa_nil))))) pa_nil)))))
  (pss_cons (ps_set (i := 1) sc_fill_handler.nd rfl (Or.inl rfl) (pe_op xAdd (pv 1) (pe_lst (pa_cons (pe_gr rfl Y.mg_NEW_WINDOW) (pa_cons (pe_gr rfl Y.mg_NEW_WINDOW) pa_nil)))))
  (pss_one (ps_ret (pe_op op_catK (pv 1) (pe_gr rfl Y.mg_LEAVING)))))))), ?_⟩
  rw [st_fill_handler]
  try simp only [cxK, cxK2, cxW, cxW2]
  clear hu hr F
  repeat' walk_at "st"
  simp only [List.cons_append, List.nil_append] at hS
  refine u_forR1 (LpI K H n p (fill0 n) loadsL) (by decide) (by decide) (LpI.mk [_, _, _, _, _, _] hS (List.Sublist.cons_cons _ (List.nil_sublist _)) rfl ?_ rfl) ?_ ?_
  · exact ((((((Pg.nil.snoc (x := .bar 19) (atD (SqT.of (hS.get 9 rfl)))).snoc (x := .add 20 19 1) (at3 (SqT.of (hS.get 7 rfl)) (SqT.of (hS.get 8 rfl)))).snoc (x := .mod 20 20 n) (at3 (SqT.of (hS.get 4 rfl)) (SqT.of (hS.get 5 rfl)))).snoc (x := .setI (-1)) (atI (Y.tp_NO_BAR_handlers _) (Y.tp_NO_BAR_handlers_1 _))).snoc (x := .rest) (at0 (SqT.of (hS.get 3 rfl)))).snoc (x := .rest) (at0 (SqT.of (hS.get 2 rfl))))
  · clear hS
    rintro i σ H1 hi ⟨v, ps, rfl, hS0, hP⟩
    have hS : SH [p] H1 H1 [(p, .lst (ps.map V.ref))] := hS0.blk.sh
    have hl : ps.length = 6 + i := by rw [hP.len]; simp [fill0, loadsL]; omega
    repeat' walk_at "st"
    exact LpI.next hS0 hS (List.Sublist.cons _ (List.Sublist.cons _ (List.Sublist.refl _))) hP (at3 (SqT.of (hS.get 0 rfl)) (SqT.of (hS.get 1 rfl))) (loadsL_succ i)
  · clear hS
    rintro σ H1 ⟨v, ps, rfl, hS0, hP⟩
    have hS : SH [p] H1 H1 [(p, .lst (ps.map V.ref))] := hS0.blk.sh
    have hl : ps.length = 22 := hP.len
    repeat' walk_at "st"
    have hP := hP.keep hS.kp
    have hS := hS0.callE hS
    try simp only [List.append_assoc, List.cons_append, List.nil_append] at hS
    exact k _ (ps ++ [_, _] ++ [_, _]) _ hS.kp (hS.fr0 0 rfl) ((hS.get 0 rfl).trans (by simp only [List.map_append, List.append_assoc]; rfl)) ((((((hP.snoc (x := .save) (at3 (Y.tp_NEW_WINDOW _) (Y.tp_ZERO _))).snoc (x := .save) (at3 (Y.tp_NEW_WINDOW _) (Y.tp_ZERO _))).snoc (x := .setG 20) (atG (Y.tp_LEAVING_0 _) (Y.tp_LEAVING_0_1 _))).snoc (x := .retry) (at0 (Y.tp_LEAVING_1 _)))).cast (by simp) rfl)
  )) only [↓Hsh.on])
def sp_z_spill (K : PySem.W.Frag) : Sp := mk1 fun a H Q _ => ∃ n : Int, a = .int n ∧ pgE K (spillL n) H Q
theorem ok_z_spill {P : Program} {w : World} {K : PySem.W.Frag} {mg : Str → Option Value} {base : Heap} (Y : Env w K mg)  : CallOk P w K mg base CX0 1 "_law_spill" ["_law_windows"] (sp_z_spill K) := Hsh.un (by simp (disch := k_dflt (
  refine Hsh.up ?_
  obtain ⟨fd, F⟩ := Y.fd_z_spill
  refine ⟨_, fd, Y.mg_z_spill, F.kp, F.bindsN (fun _ _ _ _ _ _ us hl => match us, hl with | [_], _ => rfl), F.ok sc_z_spill mk1_len (fun cdv A outer s H vs Q E hr h => ?_)⟩
  have hu := hu_room hr
  obtain ⟨_, rfl, n, rfl, k⟩ := h
  have hS : SH [] H H [] := SH.start0
  refine ⟨_, PSs.nox (pss_cons (ps_set (i := 1) sc_z_spill.nd rfl (Or.inl rfl) (pe_lst (pa_cons (pe_tup (pa_cons pe_str (pa_cons pe_int pa_nil))) (pa_cons (pe_tup (pa_cons pe_str (pa_cons pe_int (pa_cons pe_int (pa_cons (pe_tup (pa_cons pe_str (pa_cons pe_int pa_nil))) pa_nil))))) (pa_cons (pe_tup (pa_cons pe_str (pa_cons pe_int (pa_cons pe_int (pa_cons (pe_tup (pa_cons pe_str (pa_cons (pv 0) pa_nil))) pa_nil))))) (pa_cons (pe_tup (pa_cons pe_str (pa_cons (pe_tup (pa_cons pe_str (pa_cons (pe_un un_neg pe_int) pa_nil))) pa_nil))) pa_nil))))))
  (pss_cons (ps_expr (pe_bm PySem.F.plainAttrs_list PySem.F.slot_list_append PySem.F.type_list_append mt_append (pv 1) (pa_cons (pe_tup (pa_cons pe_str (pa_cons pe_int (pa_cons pe_int (pa_cons (pe_tup (pa_cons pe_str (pa_cons pe_int pa_nil))) pa_nil))))) pa_nil)))
  (pss_cons (ps_for PassesOwn.never rfl (pi_range1 rfl Y.z_range (pa_cons pe_int pa_nil)) (pg_name (i := 2) sc_z_spill.nd rfl (Or.inl rfl))
  (pss_one (ps_expr (pe_bm PySem.F.plainAttrs_list PySem.F.slot_list_append PySem.F.type_list_append mt_append (pv 1) (pa_cons (pe_tup (pa_cons pe_str (pa_cons (pe_op xAdd pe_int (pv 2)) (pa_cons pe_int (pa_cons (pe_tup (pa_cons pe_str (pa_cons (pv 2) pa_nil))) pa_nil))))) pa_nil)))))
  (pss_one (ps_ret (pe_op xAdd (pv 1) (pe_lst (pa_cons (pe_tup (pa_cons pe_str pa_nil)) (pa_cons (pe_tup (pa_cons pe_str (pa_cons (pe_tup (pa_cons pe_str (pa_cons pe_int pa_nil))) pa_nil))) (pa_cons (pe_tup (pa_cons pe_str pa_nil)) pa_nil)))))))))), ?_⟩
  rw [st_z_spill]
  try simp only [cxK, cxK2, cxW, cxW2]
  clear hu hr F
  repeat' walk_at "st"
  simp only [List.cons_append, List.nil_append] at hS
  refine u_forR1 (LpI K H n _ (spill0 n) storesL) (by decide) (by decide) (LpI.mk [_, _, _, _, _] hS (List.Sublist.cons _ (List.Sublist.cons _ (List.Sublist.cons_cons _ (List.nil_sublist _)))) rfl ?_ rfl) ?_ ?_
  · exact (((((Pg.nil.snoc (x := .bar 19) (atD (SqT.of (hS.get 9 rfl)))).snoc (x := .sub 20 19 1) (at3 (SqT.of (hS.get 7 rfl)) (SqT.of (hS.get 8 rfl)))).snoc (x := .mod 20 20 n) (at3 (SqT.of (hS.get 5 rfl)) (SqT.of (hS.get 6 rfl)))).snoc (x := .setI (-1)) (atI (SqT.of (hS.get 3 rfl)) (SqT.of (hS.get 4 rfl)))).snoc (x := .save) (at3 (SqT.of (hS.get 0 rfl)) (SqT.of (hS.get 1 rfl))))
  · clear hS
    rintro i σ H1 hi ⟨v, ps, rfl, hS0, hP⟩
    have hS : SH [_] H1 H1 [(_, .lst (ps.map V.ref))] := hS0.blk.sh
    have hl : ps.length = 5 + i := by rw [hP.len]; simp [spill0, storesL]; omega
    repeat' walk_at "st"
    exact LpI.next hS0 hS (List.Sublist.cons _ (List.Sublist.cons _ (List.Sublist.refl _))) hP (at3 (SqT.of (hS.get 0 rfl)) (SqT.of (hS.get 1 rfl))) (storesL_succ i)
  · clear hS
    rintro σ H1 ⟨v, ps, rfl, hS0, hP⟩
    have hS := hS0.blk.sh
    have hl : ps.length = 21 := hP.len
    repeat' walk_at "st"
    have hP := hP.keep hS.kp
    have hS := hS0.callE hS
    try simp only [List.append_assoc, List.cons_append, List.nil_append] at hS
    exact k _ (ps ++ [_, _, _]) _ hS.kp (hS.fr0 0 rfl) ((hS.get 0 rfl).trans (by simp only [List.map_append, List.append_assoc]; rfl)) ((((hP.snoc (x := .rest) (at0 (SqT.of (hS.get 5 rfl)))).snoc (x := .setG 20) (atG (SqT.of (hS.get 3 rfl)) (SqT.of (hS.get 4 rfl)))).snoc (x := .retry) (at0 (SqT.of (hS.get 2 rfl)))).cast (by simp) rfl)
  )) only [↓Hsh.on])
def sp_z_fill (K : PySem.W.Frag) : Sp := mk1 fun a H Q _ => ∃ n : Int, a = .int n ∧ pgE K (fillL n) H Q
theorem ok_z_fill {P : Program} {w : World} {K : PySem.W.Frag} {mg : Str → Option Value} {base : Heap} (Y : Env w K mg)  : CallOk P w K mg base CX0 1 "_law_fill" ["_law_windows"] (sp_z_fill K) := Hsh.un (by simp (disch := k_dflt (
  refine Hsh.up ?_
  obtain ⟨fd, F⟩ := Y.fd_z_fill
  refine ⟨_, fd, Y.mg_z_fill, F.kp, F.bindsN (fun _ _ _ _ _ _ us hl => match us, hl with | [_], _ => rfl), F.ok sc_z_fill mk1_len (fun cdv A outer s H vs Q E hr h => ?_)⟩
  have hu := hu_room hr
  obtain ⟨_, rfl, n, rfl, k⟩ := h
  have hS : SH [] H H [] := SH.start0
  refine ⟨_, PSs.nox (pss_cons (ps_set (i := 1) sc_z_fill.nd rfl (Or.inl rfl) (pe_lst (pa_cons (pe_tup (pa_cons pe_str (pa_cons pe_int pa_nil))) (pa_cons (pe_tup (pa_cons pe_str (pa_cons pe_int (pa_cons pe_int (pa_cons (pe_tup (pa_cons pe_str (pa_cons pe_int pa_nil))) pa_nil))))) (pa_cons (pe_tup (pa_cons pe_str (pa_cons pe_int (pa_cons pe_int (pa_cons (pe_tup (pa_cons pe_str (pa_cons (pv 0) pa_nil))) pa_nil))))) (pa_cons (pe_tup (pa_cons pe_str (pa_cons (pe_tup (pa_cons pe_str (pa_cons (pe_un un_neg pe_int) pa_nil))) pa_nil))) pa_nil))))))
  (pss_cons (ps_set (i := 1) sc_z_fill.nd rfl (Or.inl rfl) (pe_op xAdd (pv 1) (pe_lst (pa_cons (pe_tup (pa_cons pe_str pa_nil)) (pa_cons (pe_tup (pa_cons pe_str pa_nil)) pa_nil)))))
  (pss_cons (ps_for PassesOwn.never rfl (pi_range1 rfl Y.z_range (pa_cons pe_int pa_nil)) (pg_name (i := 2) sc_z_fill.nd rfl (Or.inl rfl))
  (pss_one (ps_expr (pe_bm PySem.F.plainAttrs_list PySem.F.slot_list_append PySem.F.type_list_append mt_append (pv 1) (pa_cons (pe_tup (pa_cons pe_str (pa_cons (pe_op xAdd pe_int (pv 2)) (pa_cons pe_int (pa_cons (pe_tup (pa_cons pe_str (pa_cons (pv 2) pa_nil))) pa_nil))))) pa_nil)))))
  (pss_cons (ps_set (i := 1) sc_z_fill.nd rfl (Or.inl rfl) (pe_op xAdd (pv 1) (pe_lst (pa_cons (pe_tup (pa_cons pe_str (pa_cons pe_int (pa_cons pe_int (pa_cons (pe_tup (pa_cons pe_str (pa_cons pe_int pa_nil))) pa_nil))))) (pa_cons (pe_tup (pa_cons pe_str (pa_cons pe_int (pa_cons pe_int (pa_cons (pe_tup (pa_cons pe_str (pa_cons pe_int pa_nil))) pa_nil))))) pa_nil)))))
  (pss_one (ps_ret (pe_op xAdd (pv 1) (pe_lst (pa_cons (pe_tup (pa_cons pe_str (pa_cons (pe_tup (pa_cons pe_str (pa_cons pe_int pa_nil))) pa_nil))) (pa_cons (pe_tup (pa_cons pe_str pa_nil)) pa_nil)))))))))), ?_⟩
  rw [st_z_fill]
  try simp only [cxK, cxK2, cxW, cxW2]
  clear hu hr F
  repeat' walk_at "st"
  simp only [List.cons_append, List.nil_append] at hS
  refine u_forR1 (LpI K H n _ (fill0 n) loadsL) (by decide) (by decide) (LpI.mk [_, _, _, _, _, _] hS (List.Sublist.cons_cons _ (List.nil_sublist _)) rfl ?_ rfl) ?_ ?_
  · exact ((((((Pg.nil.snoc (x := .bar 19) (atD (SqT.of (hS.get 11 rfl)))).snoc (x := .add 20 19 1) (at3 (SqT.of (hS.get 9 rfl)) (SqT.of (hS.get 10 rfl)))).snoc (x := .mod 20 20 n) (at3 (SqT.of (hS.get 7 rfl)) (SqT.of (hS.get 8 rfl)))).snoc (x := .setI (-1)) (atI (SqT.of (hS.get 5 rfl)) (SqT.of (hS.get 6 rfl)))).snoc (x := .rest) (at0 (SqT.of (hS.get 3 rfl)))).snoc (x := .rest) (at0 (SqT.of (hS.get 2 rfl))))
  · clear hS
    rintro i σ H1 hi ⟨v, ps, rfl, hS0, hP⟩
    have hS : SH [_] H1 H1 [(_, .lst (ps.map V.ref))] := hS0.blk.sh
    have hl : ps.length = 6 + i := by rw [hP.len]; simp [fill0, loadsL]; omega
    repeat' walk_at "st"
    exact LpI.next hS0 hS (List.Sublist.cons _ (List.Sublist.cons _ (List.Sublist.refl _))) hP (at3 (SqT.of (hS.get 0 rfl)) (SqT.of (hS.get 1 rfl))) (loadsL_succ i)
  · clear hS
    rintro σ H1 ⟨v, ps, rfl, hS0, hP⟩
    have hS := hS0.blk.sh
    have hl : ps.length = 22 := hP.len
    repeat' walk_at "st"
    have hP := hP.keep hS.kp
    have hS := hS0.callE hS
    try simp only [List.append_assoc, List.cons_append, List.nil_append] at hS
    exact k _ (ps ++ [_, _] ++ [_, _]) _ hS.kp (hS.fr0 0 rfl) ((hS.get 0 rfl).trans (by simp only [List.map_append, List.append_assoc]; rfl)) (((((hP.snoc (x := .save) (at3 (SqT.of (hS.get 9 rfl)) (SqT.of (hS.get 10 rfl)))).snoc (x := .save) (at3 (SqT.of (hS.get 7 rfl)) (SqT.of (hS.get 8 rfl)))).snoc (x := .setG 20) (atG (SqT.of (hS.get 3 rfl)) (SqT.of (hS.get 4 rfl)))).snoc (x := .retry) (at0 (SqT.of (hS.get 2 rfl)))).cast (by simp) rfl)
  )) only [↓Hsh.on])

theorem hr_ok (x : HR) : x.ins.ok := Hsh.un (by simp (disch := k_dflt (
  refine Hsh.up ?_
  cases x
  · exact ⟨(by decide +kernel : (("bar" : Str), ("d" : Str)) ∈ formsL), rfl⟩
  · exact ⟨(by decide +kernel : (("setbar" : Str), ("s" : Str)) ∈ formsL), rfl⟩
  · exact ⟨(by decide +kernel : (("setbar" : Str), ("s" : Str)) ∈ formsL), rfl⟩
  · exact ⟨(by decide +kernel : (("add" : Str), ("das" : Str)) ∈ formsL), rfl⟩
  · exact ⟨(by decide +kernel : (("sub" : Str), ("das" : Str)) ∈ formsL), rfl⟩
  · exact ⟨(by decide +kernel : (("mod" : Str), ("das" : Str)) ∈ formsL), rfl⟩
  · exact ⟨(by decide +kernel : (("save" : Str), ("das" : Str)) ∈ formsL), rfl⟩
  · exact ⟨(by decide +kernel : (("restore" : Str), ("" : Str)) ∈ formsL), rfl⟩
  · exact ⟨(by decide +kernel : (("store" : Str), ("das" : Str)) ∈ formsL), rfl⟩
  · exact ⟨(by decide +kernel : (("load" : Str), ("das" : Str)) ∈ formsL), rfl⟩
  · exact ⟨(by decide +kernel : (("retry" : Str), ("" : Str)) ∈ formsL), rfl⟩
  )) only [↓Hsh.on])
theorem enc_all : ∀ n : Nat, n < 33 → ((spillL (n : Nat) ++ fillL (n : Nat)).all fun x => x.ins.enc.isSome) = true := by decide +kernel
def encL (hs : List HR) : List Int := hs.map fun x => x.ins.enc.getD 0
def EncAll (hs : List HR) : Prop := ∀ x ∈ hs, x.ins.enc = some (x.ins.enc.getD 0)
theorem enc_some {hs hs2 : List HR} (h : ((hs ++ hs2).all fun x => x.ins.enc.isSome) = true) : EncAll hs ∧ EncAll hs2 := Hsh.un (by simp (disch := k_dflt (
  refine Hsh.up ?_
  have e : ∀ x ∈ hs ++ hs2, x.ins.enc = some (x.ins.enc.getD 0) := fun x hx => by
    have := List.all_eq_true.mp h x hx
    cases q : x.ins.enc with
    | none => rw [q] at this; cases this
    | some w => rfl
  exact ⟨fun x hx => e x (List.mem_append_left _ hx), fun x hx => e x (List.mem_append_right _ hx)⟩
  )) only [↓Hsh.on])
section
variable {K : PySem.W.Frag} {A : List Addr} {H0 H : Hp} {L : List Cell} {n : Int} {Q : VK} {E : XK}
theorem c_spill_handler (hS : SH A H0 H L) (k : ∀ p ps H', SH A H0 H' ((p, .lst (ps.map V.ref)) :: L) → Pg K H' ps (spillL n) → Q (.ref p) H') : sp_spill_handler K ([.int n] ++ []) H Q E := ⟨_, rfl, n, rfl, fun p ps H' kp nw e pg => k p ps H' (hS.call0n kp nw e) pg⟩
theorem c_fill_handler (hS : SH A H0 H L) (k : ∀ p ps H', SH A H0 H' ((p, .lst (ps.map V.ref)) :: L) → Pg K H' ps (fillL n) → Q (.ref p) H') : sp_fill_handler K ([.int n] ++ []) H Q E := ⟨_, rfl, n, rfl, fun p ps H' kp nw e pg => k p ps H' (hS.call0n kp nw e) pg⟩
theorem c_z_spill (hS : SH A H0 H L) (k : ∀ p ps H', SH A H0 H' ((p, .lst (ps.map V.ref)) :: L) → Pg K H' ps (spillL n) → Q (.ref p) H') : sp_z_spill K ([.int n] ++ []) H Q E := ⟨_, rfl, n, rfl, fun p ps H' kp nw e pg => k p ps H' (hS.call0n kp nw e) pg⟩
theorem c_z_fill (hS : SH A H0 H L) (k : ∀ p ps H', SH A H0 H' ((p, .lst (ps.map V.ref)) :: L) → Pg K H' ps (fillL n) → Q (.ref p) H') : sp_z_fill K ([.int n] ++ []) H Q E := ⟨_, rfl, n, rfl, fun p ps H' kp nw e pg => k p ps H' (hS.call0n kp nw e) pg⟩
end
local macro_rules | `(tactic| walk_at "st") => `(tactic| first
  | ((with_reducible show sp_spill_handler _ _ _ _ _); refine c_spill_handler hS (fun p ps H1 hS1 pg => ?_); clear hS; rename SH _ _ _ _ => hS)
  | ((with_reducible show sp_fill_handler _ _ _ _ _); refine c_fill_handler hS (fun p ps H1 hS1 pg => ?_); clear hS; rename SH _ _ _ _ => hS)
  | ((with_reducible show sp_z_spill _ _ _ _ _); refine c_z_spill hS (fun p ps H1 hS1 pg => ?_); clear hS; rename SH _ _ _ _ => hS)
  | ((with_reducible show sp_z_fill _ _ _ _ _); refine c_z_fill hS (fun p ps H1 hS1 pg => ?_); clear hS; rename SH _ _ _ _ => hS)
  | fail)
theorem c_enc {K : PySem.W.Frag} {H : Hp} {ps : List Addr} {hs : List HR} {i : Nat} {x : HR} {q : Addr} {Q : VK} {E : XK} (pg : Pg K H ps hs) (ea : EncAll hs) (e1 : hs[i]? = some x) (e2 : ps[i]? = some q) (k : Q (.int (x.ins.enc.getD 0)) H) : sp_encode K ([.ref q] ++ []) H Q E := Hsh.un (by simp (disch := k_dflt (
  refine Hsh.up ?_
  refine c_encode (hr_ok x) (pg.at_ i x q e1 e2) ?_
  rw [ea x (List.mem_of_getElem? e1)]
  exact k
  )) only [↓Hsh.on])
theorem encL_take {hs : List HR} {i : Nat} {x : HR} (e : hs[i]? = some x) : encL (hs.take (i + 1)) = encL (hs.take i) ++ [x.ins.enc.getD 0] := Hsh.un (by simp (disch := k_dflt (
  refine Hsh.up ?_
  unfold encL
  rw [List.take_succ, e, List.map_append]
  rfl
  )) only [↓Hsh.on])
theorem pg_get {K : PySem.W.Frag} {H : Hp} {ps : List Addr} {hs : List HR} (pg : Pg K H ps hs) {i : Nat} {y : V} (e : (ps.map V.ref)[i]? = some y) : ∃ x q, y = .ref q ∧ hs[i]? = some x ∧ ps[i]? = some q := Hsh.un (by simp (disch := k_dflt (
  refine Hsh.up ?_
  rw [List.getElem?_map] at e
  obtain ⟨q, hq, rfl⟩ := Option.map_eq_some_iff.mp e
  have hl := (List.getElem?_eq_some_iff.mp hq).1
  rw [pg.len] at hl
  exact ⟨hs[i], q, rfl, List.getElem?_eq_getElem hl, hq⟩
  )) only [↓Hsh.on])
def sp_trap_code (K : PySem.W.Frag) : Sp := mk1 fun a H Q _ => ∃ n : Nat, a = .int (n : Nat) ∧ n < 33 ∧ ∀ p s f H', SH [] H H' [(p, .tup [.ref s, .ref f]), (f, .tup ((encL (fillL (n : Nat))).map V.int)), (s, .tup ((encL (spillL (n : Nat))).map V.int))] → Q (.ref p) H'
theorem ok_trap_code {P : Program} {w : World} {K : PySem.W.Frag} {mg : Str → Option Value} {base : Heap} (Y : Env w K mg) (G_encode : CallOk P w K mg base (L2N.CX P w) 3 "encode" ["instruction"] (sp_encode K)) (G_fill_handler : CallOk P w K mg base CX0 1 "fill_handler" ["windows"] (sp_fill_handler K)) (G_spill_handler : CallOk P w K mg base CX0 1 "spill_handler" ["windows"] (sp_spill_handler K)) : CallOk P w K mg base (L2N.CX P w) 4 "trap_code" ["windows"] (sp_trap_code K) := Hsh.un (by simp (disch := k_dflt (
  refine Hsh.up ?_
  obtain ⟨fd, F⟩ := Y.fd_trap_code
  refine ⟨_, fd, Y.mg_trap_code, F.kp, F.bindsN (fun _ _ _ _ _ _ us hl => match us, hl with | [_], _ => rfl), F.ok sc_trap_code mk1_len (fun cdv A outer s H vs Q E hr h => ?_)⟩
  have hu := hu_room hr
  obtain ⟨_, rfl, n, rfl, hn, k⟩ := h
  have hS : SH [] H H [] := SH.start0
  obtain ⟨ea, eb⟩ := enc_some (enc_all n hn)
  refine ⟨_, (pss_cons (ps_set (i := 2) sc_trap_code.nd rfl (Or.inl rfl) (pe_callTy x_tuple rfl Y.z_tuple (by decide +kernel) (pa_cons (pe_lc (own := [("instruction", 1)]) (g := gName 1) rfl sc_trap_code.nd (pi_list (pe_callG G_spill_handler (hr.mono (by decide)) rfl pass0 (pa_cons (pv 0) pa_nil))) (blkOk_by (N := N_trap_code) (sc := defScope s_trap_code) (by decide +kernel)) (fun _ _ _ _ _ => pg_name (i := 1) sc_trap_code.nd rfl (Or.inl rfl)) (fun _ _ _ _ _ => pts_nil) (fun _ _ _ _ _ => (pe_callG G_encode hr rfl passN (pa_cons (pv 1) pa_nil)))) pa_nil)))
  (pss_cons (ps_set (i := 3) sc_trap_code.nd rfl (Or.inl rfl) (pe_callTy x_tuple rfl Y.z_tuple (by decide +kernel) (pa_cons (pe_lc (own := [("instruction", 1)]) (g := gName 1) rfl sc_trap_code.nd (pi_list (pe_callG G_fill_handler (hr.mono (by decide)) rfl pass0 (pa_cons (pv 0) pa_nil))) (blkOk_by (N := N_trap_code) (sc := defScope s_trap_code) (by decide +kernel)) (fun _ _ _ _ _ => pg_name (i := 1) sc_trap_code.nd rfl (Or.inl rfl)) (fun _ _ _ _ _ => pts_nil) (fun _ _ _ _ _ => (pe_callG G_encode hr rfl passN (pa_cons (pv 1) pa_nil)))) pa_nil)))
  (pss_one (ps_ret (pe_tup (pa_cons (pv 2) (pa_cons (pv 3) pa_nil))))))), ?_⟩
  rw [st_trap_code]
  try simp only [cxK, cxK2, cxW, cxW2]
  clear hu hr F
  repeat' walk_at "st"
  refine u_lcL (show SH [p] H1 H1 ((p, .lst (ps.map V.ref)) :: []) from hS.blk.sh) (xs := ps.map V.ref) (fun D i H' => SH [p] H1 H' ((D, .lst ((encL ((spillL (n : Nat)).take i)).map V.int)) :: (p, .lst (ps.map V.ref)) :: []) ∧ Pg K H' ps (spillL (n : Nat))) (SqL.of (hS.get 0 rfl)) (fun D H' hS1 => ⟨hS1, pg.keep hS1.kp⟩) (fun D k H' _ h => SqL.of (h.1.get 1 rfl)) ?_ ?_
  · clear hS
    rintro D i y H' hy ⟨hS, pg⟩
    obtain ⟨x, q, rfl, e1, e2⟩ := pg_get pg hy
    repeat' walk_at "st"
    refine c_enc pg ea e1 e2 ?_
    have hl : ((encL ((spillL (n : Nat)).take i)).map V.int).length < sizeLine := by
      rw [List.length_map, encL, List.length_map, List.length_take, sizeLine_eq]
      have : (spillL (n : Nat)).length = 24 := rfl
      omega
    refine h_lcEnd (hS.blk.sh) (i := 0) rfl hl rfl rfl (fun H4 hS4 => ⟨?_, pg.keep hS4.kp⟩)
    rw [encL_take e1, List.map_append]
    exact hS.callE hS4
  · rintro D H' ⟨hS2, pg⟩
    have hS := hS.callE hS2
    rw [List.take_of_length_le (by rw [List.length_map, pg.len]; exact Nat.le_refl _)] at hS
    clear hS2
    repeat' walk_at "st"
    have hS := hS.sub (L' := [(_, .lst (ps.map V.ref)), (_, .tup ((encL (spillL (n : Nat))).map V.int))]) (List.Sublist.cons_cons _ (List.Sublist.cons_cons _ (List.nil_sublist _)))
    obtain ⟨t, rfl⟩ : ∃ x, x = p := ⟨p, rfl⟩
    refine u_lcL (show SH [t, p] H1 H1 ((t, .lst (ps.map V.ref)) :: [(p, .tup ((encL (spillL (n : Nat))).map V.int))]) from hS.blk.sh) (xs := ps.map V.ref) (fun D i H' => SH [t, p] H1 H' ((D, .lst ((encL ((fillL (n : Nat)).take i)).map V.int)) :: (t, .lst (ps.map V.ref)) :: [(p, .tup ((encL (spillL (n : Nat))).map V.int))]) ∧ Pg K H' ps (fillL (n : Nat))) (SqL.of (hS.get 0 rfl)) (fun D H' hS1 => ⟨hS1, pg.keep hS1.kp⟩) (fun D k H' _ h => SqL.of (h.1.get 1 rfl)) ?_ ?_
    · clear hS
      rintro D i y H' hy ⟨hS, pg⟩
      obtain ⟨x, q, rfl, e1, e2⟩ := pg_get pg hy
      repeat' walk_at "st"
      refine c_enc pg eb e1 e2 ?_
      have hl : ((encL ((fillL (n : Nat)).take i)).map V.int).length < sizeLine := by
        rw [List.length_map, encL, List.length_map, List.length_take, sizeLine_eq]
        have : (fillL (n : Nat)).length = 26 := rfl
        omega
      refine h_lcEnd (hS.blk.sh) (i := 0) rfl hl rfl rfl (fun H4 hS4 => ⟨?_, pg.keep hS4.kp⟩)
      rw [encL_take e1, List.map_append]
      exact hS.callE hS4
    · rintro D H' ⟨hS2, pg⟩
      have hS := hS.callE hS2
      rw [List.take_of_length_le (by rw [List.length_map, pg.len]; exact Nat.le_refl _)] at hS
      clear hS2
      repeat' walk_at "st"
      exact k _ _ _ _ (hS.sub (List.Sublist.cons_cons _ (List.Sublist.cons_cons _ (List.Sublist.cons _ (List.Sublist.cons _ (List.Sublist.refl _))))))
  )) only [↓Hsh.on])
theorem c_trap_code {K : PySem.W.Frag} {A : List Addr} {H0 H : Hp} {L : List Cell} {n : Nat} {Q : VK} {E : XK} (hS : SH A H0 H L) (hn : n < 33) (k : ∀ p s f H', SH A H0 H' ((p, .tup [.ref s, .ref f]) :: (f, .tup ((encL (fillL (n : Nat))).map V.int)) :: (s, .tup ((encL (spillL (n : Nat))).map V.int)) :: L) → Q (.ref p) H') : sp_trap_code K ([.int (n : Nat)] ++ []) H Q E :=
  ⟨_, rfl, n, rfl, hn, fun p s f H' C => k p s f H' (SH.call (B := []) hS C)⟩
def sp_z_is_integer (K : PySem.W.Frag) : Sp := mk1 fun a H Q _ => ∃ n : Int, a = .int n ∧ Q (.bl true) H
theorem ok_z_is_integer {P : Program} {w : World} {K : PySem.W.Frag} {mg : Str → Option Value} {base : Heap} (Y : Env w K mg)  : CallOk P w K mg base CX0 1 "_law_is_integer" ["_law_actual"] (sp_z_is_integer K) := Hsh.un (by simp (disch := k_dflt (
  refine Hsh.up ?_
  obtain ⟨fd, F⟩ := Y.fd_z_is_integer
  refine ⟨_, fd, Y.mg_z_is_integer, F.kp, F.bindsN (fun _ _ _ _ _ _ us hl => match us, hl with | [_], _ => rfl), F.ok sc_z_is_integer mk1_len (fun cdv A outer s H vs Q E hr h => ?_)⟩
  have hu := hu_room hr
  obtain ⟨_, rfl, n, rfl, k⟩ := h
  have hS : SH [] H H [] := SH.start0
  refine ⟨_, PSs.nox (pss_one (ps_ret (pe_and (pe_callB x_isinstance rfl Y.z_isinstance (by decide +kernel) (pa_cons (pv 0) (pa_cons (pe_bltn rfl Y.z_int (by decide +kernel) (show RelV (.ty "int") (.type "int") from rfl)) pa_nil))) (pe_one (pe_not (pe_callB x_isinstance rfl Y.z_isinstance (by decide +kernel) (pa_cons (pv 0) (pa_cons (pe_bltn rfl Y.z_bool (by decide +kernel) (show RelV (.ty "bool") (.type "bool") from rfl)) pa_nil)))))))), ?_⟩
  rw [st_z_is_integer]
  try simp only [cxK, cxK2, cxW, cxW2]
  clear hu hr F
  repeat' walk_at "st"
  exact k
  )) only [↓Hsh.on])
theorem c_z_is_integer {K : PySem.W.Frag} {H : Hp} {n : Int} {Q : VK} {E : XK} (k : Q (.bl true) H) : sp_z_is_integer K ([.int n] ++ []) H Q E := ⟨_, rfl, n, rfl, k⟩
local macro_rules | `(tactic| walk_at "st") => `(tactic| first | (with_reducible refine c_z_is_integer ?_))
def sp_z_words (K : PySem.W.Frag) : Sp := mk2 fun a b H Q _ => ∃ (t r : Addr) (ps : List Addr) (hs : List HR), a = .ref t ∧ b = .ref r ∧ H t = some (.tup ((encL hs).map V.int)) ∧ H r = some (.lst (ps.map V.ref)) ∧ Pg K H ps hs ∧ EncAll hs ∧ hs.length ≤ 100 ∧ Q (.bl true) H
theorem ok_z_words {P : Program} {w : World} {K : PySem.W.Frag} {mg : Str → Option Value} {base : Heap} (Y : Env w K mg) (G_z_is_integer : CallOk P w K mg base CX0 1 "_law_is_integer" ["_law_actual"] (sp_z_is_integer K)) (G_encode : CallOk P w K mg base (L2N.CX P w) 3 "encode" ["instruction"] (sp_encode K)) : CallOk P w K mg base (L2N.CX P w) 4 "_law_words" ["_law_told", "_law_rows"] (sp_z_words K) := Hsh.un (by simp (disch := k_dflt (
  refine Hsh.up ?_
  obtain ⟨fd, F⟩ := Y.fd_z_words
  refine ⟨_, fd, Y.mg_z_words, F.kp, F.bindsN (fun _ _ _ _ _ _ us hl => match us, hl with | [_, _], _ => rfl), F.ok sc_z_words mk2_len (fun cdv A outer s H vs Q E hr h => ?_)⟩
  have hu := hu_room hr
  obtain ⟨_, _, rfl, t, r, ps, hs, rfl, rfl, ht, hr2, pg, ea, h100, k⟩ := h
  have hS : SH [] H H [] := SH.start0
  have hl := pg.len
  have hl2 : (encL hs).length = hs.length := List.length_map ..
  refine ⟨_, (pss_cons (ps_if (PW.pt (pw_or (pt_not (pt_val (pe_callB x_isinstance rfl Y.z_isinstance (by decide +kernel) (pa_cons (pv 0) (pa_cons (pe_bltn rfl Y.z_tuple (by decide +kernel) (show RelV (.ty "tuple") (.type "tuple") from rfl)) pa_nil))))) (pw_or1 (pt_cmpR (xNe hu) (pe_callB x_len rfl Y.z_len (by decide +kernel) (pa_cons (pv 0) pa_nil)) (pe_callB x_len rfl Y.z_len (by decide +kernel) (pa_cons (pv 1) pa_nil)) (nomark _))))) (pss_one (ps_ret pe_bl)) pss_nil)
  (pss_cons (ps_for (passes_of rfl) rfl (pi_range1 rfl Y.z_range (pa_cons (pe_callB x_len rfl Y.z_len (by decide +kernel) (pa_cons (pv 1) pa_nil)) pa_nil)) (pg_name (i := 2) sc_z_words.nd rfl (Or.inl rfl))
  (pss_one (ps_if (PW.pt (pw_or (pt_not (pt_val (pe_callG G_z_is_integer (hr.mono (by decide)) rfl pass0 (pa_cons (pe_ix xIx (pv 0) (pv 2) (fun _ _ => rfl)) pa_nil)))) (pw_or1 (pt_cmpR (xNe hu) (pe_ix xIx (pv 0) (pv 2) (fun _ _ => rfl)) (pe_callG G_encode hr rfl (L2N.passes_call (L2N.takes_of rfl rfl rfl rfl) (fun _ _ _ _ h => h)) (pa_cons (pe_ix xIx (pv 1) (pv 2) (fun _ _ => rfl)) pa_nil)) (nomark _))))) (pss_one (ps_ret pe_bl)) pss_nil)))
  (pss_one (ps_ret pe_bl)))), ?_⟩
  rw [st_z_words]
  try simp only [cxK, cxK2, cxW, cxW2]
  clear hu hr F
  repeat' walk_at "st"
  · refine u_forR1 (fun i σ H' => ∃ v, σ = [some (.ref t), some (.ref r), v] ∧ H' = H) (by rw [List.length_map]; omega) (by rw [List.length_map]; omega) ⟨_, rfl, rfl⟩ ?_ ?_
    · rintro i σ H' hi ⟨v, rfl, rfl⟩
      rw [List.length_map, hl] at hi
      have hi : i < hs.length := by omega
      have e1 : hs[i]? = some hs[i] := List.getElem?_eq_getElem hi
      have e2 : ps[i]? = some (ps.getD ((i : Nat) : Int).toNat 0) := by
        rw [Int.toNat_natCast, List.getD_eq_getElem?_getD, List.getElem?_eq_getElem (by omega)]
        rfl
      have e3 : (encL hs).getD ((i : Nat) : Int).toNat 0 = (hs[i].ins.enc.getD 0) := by
        rw [Int.toNat_natCast, encL, List.getD_eq_getElem?_getD, List.getElem?_map, e1]
        rfl
      repeat' walk_at "st"
      refine c_enc pg ea e1 e2 ?_
      repeat' walk_at "st"
      exact ⟨_, rfl, rfl⟩
    · rintro σ H' ⟨v, rfl, rfl⟩
      repeat' walk_at "st"
      exact k
  · exact absurd (by rw [List.length_map, List.length_map, hl, hl2]) hc
  )) only [↓Hsh.on])

/-! ### the law's draws: a list [script, place, rest, count] -/
abbrev stO (s : Addr) (i g n : Int) : HO := .lst [.ref s, .int i, .int g, .int n]
def sp_z_pick (K : PySem.W.Frag) : Sp := mk2 fun a b H Q _ => ∃ (p s : Addr) (ns : List Int) (i g n lim : Int), a = .ref p ∧ b = .int lim ∧ H p = some (stO s i g n) ∧ Scr K H s (ns.map V.int) ∧ 0 ≤ i ∧ 0 ≤ g ∧ 0 < lim ∧ lim < 2 ^ 64 ∧
  ∀ (r i' g' n' : Int) H', 0 ≤ r → r < lim → 0 ≤ i' → 0 ≤ g' → H' p = some (stO s i' g' n') → Keep [p] H H' → Q (.int r) H'
theorem ok_z_pick {P : Program} {w : World} {K : PySem.W.Frag} {mg : Str → Option Value} {base : Heap} (Y : Env w K mg)  : CallOk P w K mg base CX0 1 "_law_pick" ["_law_state", "_law_limit"] (sp_z_pick K) := Hsh.un (by simp (disch := k_dflt (
  refine Hsh.up ?_
  obtain ⟨fd, F⟩ := Y.fd_z_pick
  refine ⟨_, fd, Y.mg_z_pick, F.kp, F.bindsN (fun _ _ _ _ _ _ us hl => match us, hl with | [_, _], _ => rfl), F.ok sc_z_pick mk2_len (fun cdv A outer s H vs Q E hr h => ?_)⟩
  have hu := hu_room hr
  obtain ⟨_, _, rfl, p, sc, ns, i, g, n, lim, rfl, rfl, hp, hs, hi, hg, hl, hl2, k⟩ := h
  have hS : SH [p] H H [(p, .lst [.ref sc, .int i, .int g, .int n])] := SH.start1 hp
  refine ⟨_, PSs.nox (pss_cons (ps_asg (pe_op xAdd (pe_ix xIx (pv 0) pe_int (fun _ _ => rfl)) pe_int) (pg_sub (pv 0) pe_int set_list))
  (pss_cons (ps_if (pt_cmpR op_gt (pe_ix xIx (pv 0) pe_int (fun _ _ => rfl)) pe_int (nomark _)) (pss_cons (ps_set (i := 2) sc_z_pick.nd rfl (Or.inl rfl) (pe_op xMod (pe_callTy x_int rfl Y.z_int (by decide +kernel) (pa_cons (pe_ix xIx (pv 0) pe_int (fun _ _ => rfl)) pa_nil)) (pv 1)))
  (pss_cons (ps_asg (pe_op xDiv (pe_ix xIx (pv 0) pe_int (fun _ _ => rfl)) (pv 1)) (pg_sub (pv 0) pe_int set_list))
  (pss_one (ps_ret (pv 2))))) pss_nil)
  (pss_cons (ps_set (i := 3) sc_z_pick.nd rfl (Or.inl rfl) pe_int)
  (pss_cons (ps_if (pt_cmpR op_lt (pe_ix xIx (pv 0) pe_int (fun _ _ => rfl)) (pe_callB x_len rfl Y.z_len (by decide +kernel) (pa_cons (pe_ix xIx (pv 0) pe_int (fun _ _ => rfl)) pa_nil)) (nomark _)) (pss_one (ps_set (i := 3) sc_z_pick.nd rfl (Or.inl rfl) (pe_ix xIx (pe_ix xIx (pv 0) pe_int (fun _ _ => rfl)) (pe_ix xIx (pv 0) pe_int (fun _ _ => rfl)) (fun _ _ => rfl)))) pss_nil)
  (pss_cons (ps_asg (pe_op xAdd (pe_ix xIx (pv 0) pe_int (fun _ _ => rfl)) pe_int) (pg_sub (pv 0) pe_int set_list))
  (pss_cons (ps_if (pt_cmpR op_ge (pv 3) (pe_op op_pow pe_int pe_int) (nomark _)) (pss_cons (ps_asg (pe_op xDiv (pv 3) (pv 1)) (pg_sub (pv 0) pe_int set_list))
  (pss_one (ps_ret (pe_op xMod (pe_callTy x_int rfl Y.z_int (by decide +kernel) (pa_cons (pv 3) pa_nil)) (pv 1))))) pss_nil)
  (pss_cons (ps_set (i := 4) sc_z_pick.nd rfl (Or.inl rfl) (pe_op xMod (pe_callTy x_int rfl Y.z_int (by decide +kernel) (pa_cons (pe_op xAdd (pe_op xMul (pe_op xMod (pe_callTy x_int rfl Y.z_int (by decide +kernel) (pa_cons (pe_op xAdd (pe_op xAdd (pe_op xMul (pv 3) pe_int) (pe_op xMul (pe_ix xIx (pv 0) pe_int (fun _ _ => rfl)) pe_int)) pe_int) pa_nil)) pe_int) pe_int) (pe_ix xIx (pv 0) pe_int (fun _ _ => rfl))) pa_nil)) pe_int))
  (pss_one (ps_ret (pe_op xMod (pe_callTy x_int rfl Y.z_int (by decide +kernel) (pa_cons (pe_op xDiv (pv 4) pe_int) pa_nil)) (pv 1))))))))))), ?_⟩
  rw [st_z_pick]
  try simp only [cxK, cxK2, cxW, cxW2]
  clear hu hr F
  repeat' walk_at "st"
  all_goals first
    | exact k _ _ _ _ _ (Int.emod_nonneg _ (by omega)) (Int.emod_lt_of_pos _ hl) (by omega) (by omega) (hS.get 0 rfl) hS.kp
    | exact k _ _ _ _ _ (Int.emod_nonneg _ (by omega)) (Int.emod_lt_of_pos _ hl) (by omega) (Int.ediv_nonneg (by omega) (by omega)) (hS.get 0 rfl) hS.kp
  )) only [↓Hsh.on])
theorem c_z_pick {K : PySem.W.Frag} {A : List Addr} {H0 H : Hp} {L : List Cell} {p s : Addr} {ns : List Int} {x g n lim : Int} {Q : VK} {E : XK} {i : Nat} (hS : SH A H0 H L) (e : L[i]? = some (p, stO s x g n)) (sc : Scr K H0 s (ns.map V.int)) (h0 : 0 ≤ x) (h1 : 0 ≤ g) (h2 : 0 < lim) (h3 : lim < 2 ^ 64)
    (k : ∀ (r x' g' n' : Int) H', 0 ≤ r → r < lim → 0 ≤ x' → 0 ≤ g' → SH A H0 H' (L.set i (p, stO s x' g' n')) → Q (.int r) H') : sp_z_pick K ([.ref p, .int lim] ++ []) H Q E :=
  ⟨_, _, rfl, p, s, ns, x, g, n, lim, rfl, rfl, hS.get i e, sc.keep hS.kp, h0, h1, h2, h3, fun r x' g' n' H' a b c d e' f => k r x' g' n' H' a b c d (hS.call1 i e rfl f e')⟩
local macro_rules | `(tactic| walk_at "st") => `(tactic| first
  | ((with_reducible show sp_z_pick _ _ _ _ _); apply c_z_pick hS; (· walk_at "ix"); (· assumption); (· walk_at "ar"); (· walk_at "ar"); (· walk_at "ar"); (· walk_at "ar"); intro r x1 g1 n1 H1 hr0 hr1 hx1 hg1 hS1; clear hS; rename SH _ _ _ _ => hS; simp only [List.set_cons_zero, List.set_cons_succ] at hS))

def sp_z_word (K : PySem.W.Frag) : Sp := mk1 fun a H Q _ => ∃ (p s : Addr) (ns : List Int) (i g n : Int), a = .ref p ∧ H p = some (stO s i g n) ∧ Scr K H s (ns.map V.int) ∧ 0 ≤ i ∧ 0 ≤ g ∧
  ∀ (r i' g' n' : Int) H', 0 ≤ i' → 0 ≤ g' → H' p = some (stO s i' g' n') → Keep [p] H H' → Q (.int r) H'
theorem ok_z_word {P : Program} {w : World} {K : PySem.W.Frag} {mg : Str → Option Value} {base : Heap} (Y : Env w K mg) (G_z_pick : CallOk P w K mg base CX0 1 "_law_pick" ["_law_state", "_law_limit"] (sp_z_pick K)) : CallOk P w K mg base CX0 2 "_law_word" ["_law_state"] (sp_z_word K) := Hsh.un (by simp (disch := k_dflt (
  refine Hsh.up ?_
  obtain ⟨fd, F⟩ := Y.fd_z_word
  refine ⟨_, fd, Y.mg_z_word, F.kp, F.bindsN (fun _ _ _ _ _ _ us hl => match us, hl with | [_], _ => rfl), F.ok sc_z_word mk1_len (fun cdv A outer s H vs Q E hr h => ?_)⟩
  have hu := hu_room hr
  obtain ⟨_, rfl, p, sc, ns, i, g, n, rfl, hp, hs, hi, hg, k⟩ := h
  have hS : SH [p] H H [(p, stO sc i g n)] := SH.start1 hp
  refine ⟨_, PSs.nox (pss_cons (ps_set (i := 1) sc_z_word.nd rfl (Or.inl rfl) (pe_callG G_z_pick hr rfl pass0 (pa_cons (pv 0) (pa_cons pe_int pa_nil))))
  (pss_cons (ps_if (pt_cmpR (xEq hu) (pv 1) pe_int (nomark _)) (pss_one (ps_ret (pe_ix xIx (pe_lst (pa_cons pe_int (pa_cons (pe_un un_neg pe_int) (pa_cons pe_int (pa_cons (pe_un un_neg pe_int) pa_nil))))) (pe_callG G_z_pick hr rfl pass0 (pa_cons (pv 0) (pa_cons pe_int pa_nil))) (fun _ _ => rfl)))) pss_nil)
  (pss_cons (ps_if (pt_cmpR (xEq hu) (pv 1) pe_int (nomark _)) (pss_one (ps_ret (pe_op op_sub (pe_callG G_z_pick hr rfl pass0 (pa_cons (pv 0) (pa_cons pe_int pa_nil))) pe_int))) pss_nil)
  (pss_cons (ps_if (pt_cmpR (xEq hu) (pv 1) pe_int (nomark _)) (pss_one (ps_ret (pe_op op_sub (pe_callG G_z_pick hr rfl pass0 (pa_cons (pv 0) (pa_cons pe_int pa_nil))) pe_int))) pss_nil)
  (pss_one (ps_ret (pe_op op_sub (pe_callG G_z_pick hr rfl pass0 (pa_cons (pv 0) (pa_cons pe_int pa_nil))) pe_int))))))), ?_⟩
  rw [st_z_word]
  try simp only [cxK, cxK2, cxW, cxW2]
  clear hu hr F
  repeat' walk_at "st"
  all_goals first
    | exact k _ _ _ _ _ (by assumption) (by assumption) (hS.get 0 rfl) hS.kp
    | exact k _ _ _ _ _ (by assumption) (by assumption) (hS.get 1 rfl) hS.kp
  )) only [↓Hsh.on])
theorem c_z_word {K : PySem.W.Frag} {A : List Addr} {H0 H : Hp} {L : List Cell} {p s : Addr} {ns : List Int} {x g n : Int} {Q : VK} {E : XK} {i : Nat} (hS : SH A H0 H L) (e : L[i]? = some (p, stO s x g n)) (sc : Scr K H0 s (ns.map V.int)) (h0 : 0 ≤ x) (h1 : 0 ≤ g)
    (k : ∀ (r x' g' n' : Int) H', 0 ≤ x' → 0 ≤ g' → SH A H0 H' (L.set i (p, stO s x' g' n')) → Q (.int r) H') : sp_z_word K ([.ref p] ++ []) H Q E :=
  ⟨_, rfl, p, s, ns, x, g, n, rfl, hS.get i e, sc.keep hS.kp, h0, h1, fun r x' g' n' H' c d e' f => k r x' g' n' H' c d (hS.call1 i e rfl f e')⟩
local macro_rules | `(tactic| walk_at "st") => `(tactic| first
  | ((with_reducible show sp_z_word _ _ _ _ _); apply c_z_word hS; (· walk_at "ix"); (· assumption); (· walk_at "ar"); (· walk_at "ar"); intro wv x1 g1 n1 H1 hx1 hg1 hS1; clear hS; rename SH _ _ _ _ => hS; simp only [List.set_cons_zero, List.set_cons_succ] at hS))
/-! ### a handler's rows, one by one -/
abbrev BM := BW × List Int
/-- what a row does with the banks and the memory -/
def HR.step : HR → BM → BM → Prop
  | .bar d, s, t => 0 ≤ d ∧ d < 32 ∧ t = (s.1.setR d s.1.bar, s.2)
  | .setI v, s, t => -1 ≤ v ∧ t = ({ s.1 with bar := v }, s.2)
  | .setG r, s, t => 0 ≤ r ∧ r < 32 ∧ -1 ≤ s.1.get r ∧ t = ({ s.1 with bar := s.1.get r }, s.2)
  | .add d a v, s, t => 0 ≤ d ∧ d < 32 ∧ 0 ≤ a ∧ a < 32 ∧ t = (s.1.setR d (s.1.get a + v), s.2)
  | .sub d a v, s, t => 0 ≤ d ∧ d < 32 ∧ 0 ≤ a ∧ a < 32 ∧ t = (s.1.setR d (s.1.get a - v), s.2)
  | .mod d a v, s, t => 0 < v ∧ 0 ≤ d ∧ d < 32 ∧ 0 ≤ a ∧ a < 32 ∧ t = (s.1.setR d ((s.1.get a + v) % v), s.2)
  | .save, s, t => t = (s.1.downC, s.2)
  | .rest, s, t => t = (s.1.up, s.2)
  | .store d a v, s, t => 0 ≤ d ∧ d < 32 ∧ 0 ≤ a ∧ a < 32 ∧ 0 ≤ s.1.get a + v ∧ s.1.get a + v < s.2.length ∧ t = (s.1, s.2.set (s.1.get a + v).toNat (s.1.get d))
  | .load d a v, s, t => 0 ≤ d ∧ d < 32 ∧ 0 ≤ a ∧ a < 32 ∧ 0 ≤ s.1.get a + v ∧ s.1.get a + v < s.2.length ∧ t = (s.1.setR d (s.2.getD (s.1.get a + v).toNat 0), s.2)
  | .retry, _, _ => False
/-- a program without its last row, from s to t -/
inductive Runs : List HR → BM → BM → Prop
  | nil (s) : Runs [] s s
  | cons {x hs s t u} : x.step s t → Runs hs t u → Runs (x :: hs) s u
def sp_z_value (K : PySem.W.Frag) : Sp := mk2 fun a b H Q _ => ∃ (B : BA) (W : BW) (p : Addr) (g : Bool) (n : Int), a = .ref B.b ∧ b = .ref p ∧ SqT K H p [.str (kindS g), .int n] ∧ (∀ c ∈ bCells K B W, H c.1 = some c.2) ∧ W.ok ∧ B.rs.length = W.rows.length ∧ (g = true → 0 ≤ n ∧ n < 32) ∧
  ∀ H', Keep [] H H' → Q (.int (if g = true then W.get n else n)) H'
theorem ok_z_value {P : Program} {w : World} {K : PySem.W.Frag} {mg : Str → Option Value} {base : Heap} (Y : Env w K mg) (G_Banks_read : MethOk P w K mg base CX0 2 "Banks" "read" ["self", "number"] (sp_Banks_read K)) : CallOk P w K mg base CX0 3 "_law_value" ["_law_banks", "_law_operand"] (sp_z_value K) := Hsh.un (by simp (disch := k_dflt (
  refine Hsh.up ?_
  obtain ⟨fd, F⟩ := Y.fd_z_value
  refine ⟨_, fd, Y.mg_z_value, F.kp, F.bindsN (fun _ _ _ _ _ _ us hl => match us, hl with | [_, _], _ => rfl), F.ok sc_z_value mk2_len (fun cdv A outer s H vs Q E hr h => ?_)⟩
  have hu := hu_room hr
  obtain ⟨_, _, rfl, B, W, p, g, n, rfl, rfl, hp, hB, ok, hl, hg, k⟩ := h
  have hS : SH [] H H [] := SH.start0
  have hb := hB _ (.head _)
  refine ⟨_, PSs.nox (pss_cons (ps_if (pt_cmpR (xEq hu) (pe_ix xIx (pv 1) pe_int (fun _ _ => rfl)) pe_str (nomark _)) (pss_one (ps_ret (pe_ix xIx (pv 1) pe_int (fun _ _ => rfl)))) pss_nil)
  (pss_one (ps_ret (pe_methG (pv 0) G_Banks_read hr pass0 (pa_cons (pe_ix xIx (pv 1) pe_int (fun _ _ => rfl)) pa_nil))))), ?_⟩
  rw [st_z_value]
  try simp only [cxK, cxK2, cxW, cxW2]
  clear hu hr F
  cases g
  · have hp : SqT K H p [.str "int", .int n] := hp
    repeat' walk_at "st"
    exact k _ hS.kp
  · have hp : SqT K H p [.str "reg", .int n] := hp
    obtain ⟨h0, h1⟩ := hg rfl
    repeat' walk_at "st"
    refine c_Banks_read hS hB ok hl h0 h1 (fun H1 hS1 _ => ?_)
    exact k _ hS1.kp
  )) only [↓Hsh.on])
theorem c_z_value {K : PySem.W.Frag} {A : List Addr} {H0 H : Hp} {L : List Cell} {B : BA} {W : BW} {p : Addr} {g : Bool} {n : Int} {Q : VK} {E : XK} (hS : SH A H0 H L) (hp : SqT K H p [.str (kindS g), .int n]) (hB : ∀ c ∈ bCells K B W, H c.1 = some c.2) (ok : W.ok) (hl : B.rs.length = W.rows.length) (hg : g = true → 0 ≤ n ∧ n < 32)
    (k : ∀ H', SH A H0 H' L → Q (.int (if g = true then W.get n else n)) H') : sp_z_value K ([.ref B.b, .ref p] ++ []) H Q E := ⟨_, _, rfl, B, W, p, g, n, rfl, rfl, hp, hB, ok, hl, hg, fun H' kp => k H' (hS.call0 kp)⟩
theorem SH.callBk {A : List Addr} {H0 H H' : Hp} {c : Cell} {X Y Y' : List Cell} (hS : SH A H0 H (c :: (X ++ Y))) (C : SH (Y.map (·.1)) H H' Y') : SH A H0 H' (c :: (X ++ Y')) := SH.callR (F := c :: X) hS C
section
variable {K : PySem.W.Frag} {A : List Addr} {H0 H : Hp} {c : Cell} {X : List Cell} {B : BA} {W : BW} {Q : VK} {E : XK}
theorem c_B_down (hS : SH A H0 H (c :: (X ++ bCells K B W))) (ok : W.ok) (hl : B.rs.length = W.rows.length) (k : ∀ H', SH A H0 H' (c :: (X ++ bCells K B W.downC)) → Q .non H') : sp_Banks_shift_down K (.ref B.b :: ([] ++ [])) H Q E :=
  ⟨_, rfl, B, W, rfl, SH.blkR (c :: X) _ hS, ok, hl, fun H' C => k H' (SH.callBk hS C)⟩
theorem c_B_up (hS : SH A H0 H (c :: (X ++ bCells K B W))) (ok : W.ok) (k : ∀ H', SH A H0 H' (c :: (X ++ bCells K B W.up)) → Q .non H') : sp_Banks_shift_up K (.ref B.b :: ([] ++ [])) H Q E :=
  ⟨_, rfl, B, W, rfl, SH.blkR (c :: X) _ hS, by have := ok.n3; omega, fun H' C => k H' (SH.callBk hS C)⟩
theorem c_B_tdown {v : Int} (hS : SH A H0 H (c :: (X ++ bCells K B W))) (ok : W.ok) (hl : B.rs.length = W.rows.length) (k : ∀ H', SH A H0 H' (c :: (X ++ bCells K B (W.down.setR 17 v).spiP)) → Q .non H') : sp_Banks_trap_down K (.ref B.b :: ([.int v] ++ [])) H Q E :=
  ⟨_, _, rfl, B, W, v, rfl, rfl, SH.blkR (c :: X) _ hS, ok, hl, fun H' C => k H' (SH.callBk hS C)⟩
theorem c_B_tup {v : Int} (hS : SH A H0 H (c :: (X ++ bCells K B W))) (ok : W.ok) (hl : B.rs.length = W.rows.length) (k : ∀ H', SH A H0 H' (c :: (X ++ bCells K B (W.down.setR 17 v).filP)) → Q .non H') : sp_Banks_trap_up K (.ref B.b :: ([.int v] ++ [])) H Q E :=
  ⟨_, _, rfl, B, W, v, rfl, rfl, SH.blkR (c :: X) _ hS, ok, hl, fun H' C => k H' (SH.callBk hS C)⟩
theorem c_B_leave (hS : SH A H0 H (c :: (X ++ bCells K B W))) (ok : W.ok) (hl : B.rs.length = W.rows.length) (k : ∀ H', SH A H0 H' (c :: (X ++ bCells K B W.up)) → Q (.int (W.get 17)) H') : sp_Banks_leave_trap K (.ref B.b :: ([] ++ [])) H Q E :=
  ⟨_, rfl, B, W, rfl, SH.blkR (c :: X) _ hS, ok, hl, fun H' C => k H' (SH.callBk hS C)⟩
theorem c_B_write {n v : Int} (hS : SH A H0 H (c :: (X ++ bCells K B W))) (ok : W.ok) (hl : B.rs.length = W.rows.length) (h0 : 0 ≤ n) (h1 : n < 32) (k : ∀ H', SH A H0 H' (c :: (X ++ bCells K B (W.setR n v))) → Q .non H') : sp_Banks_write K (.ref B.b :: ([.int n, .int v] ++ [])) H Q E :=
  ⟨_, _, _, rfl, B, W, n, v, rfl, rfl, rfl, SH.blkR (c :: X) _ hS, ok, hl, h0, h1, fun H' C => k H' (SH.callBk hS C)⟩
theorem c_B_bar {n : Int} (hS : SH A H0 H (c :: (X ++ bCells K B W))) (k : ∀ H', SH A H0 H' (c :: (X ++ bCells K B { W with bar := n })) → Q .non H') : sp_Banks_set_bar K (.ref B.b :: ([.int n] ++ [])) H Q E :=
  ⟨_, _, rfl, B, W, n, rfl, rfl, SH.blkR (c :: X) _ hS, fun H' C => k H' (SH.callBk hS C)⟩
end
theorem memM {c d : Cell} {X Y : List Cell} (h : d ∈ X) : d ∈ c :: (X ++ Y) := List.mem_cons_of_mem _ (List.mem_append_left _ h)
theorem memB {c d : Cell} {X Y : List Cell} (h : d ∈ Y) : d ∈ c :: (X ++ Y) := List.mem_cons_of_mem _ (List.mem_append_right _ h)
theorem step_ok {x : HR} {s t : BM} (h : x.step s t) (ok : s.1.ok) : t.1.ok ∧ t.1.rows.length = s.1.rows.length ∧ t.2.length = s.2.length := Hsh.un (by simp (disch := k_dflt (
  refine Hsh.up ?_
  cases x with
  | bar d => obtain ⟨_, _, rfl⟩ := h; exact ⟨setR_ok ok _ _, set_len _ _ _, rfl⟩
  | setI v => obtain ⟨h1, rfl⟩ := h; exact ⟨bar_ok ok h1, rfl, rfl⟩
  | setG r => obtain ⟨_, _, h1, rfl⟩ := h; exact ⟨bar_ok ok h1, rfl, rfl⟩
  | add d a v => obtain ⟨_, _, _, _, rfl⟩ := h; exact ⟨setR_ok ok _ _, set_len _ _ _, rfl⟩
  | sub d a v => obtain ⟨_, _, _, _, rfl⟩ := h; exact ⟨setR_ok ok _ _, set_len _ _ _, rfl⟩
  | mod d a v => obtain ⟨_, _, _, _, _, rfl⟩ := h; exact ⟨setR_ok ok _ _, set_len _ _ _, rfl⟩
  | save => obtain rfl := h; exact ⟨downC_ok ok, downC_len _, rfl⟩
  | rest => obtain rfl := h; exact ⟨up_ok ok, rfl, rfl⟩
  | store d a v => obtain ⟨_, _, _, _, _, _, rfl⟩ := h; exact ⟨ok, rfl, List.length_set ..⟩
  | load d a v => obtain ⟨_, _, _, _, _, _, rfl⟩ := h; exact ⟨setR_ok ok _ _, set_len _ _ _, rfl⟩
  | retry => exact h.elim
  )) only [↓Hsh.on])
theorem Runs.split {x : HR} {hs : List HR} {s u : BM} (h : Runs (x :: hs) s u) : ∃ t, x.step s t ∧ Runs hs t u := by
  cases h with
  | cons h1 h2 => exact ⟨_, h1, h2⟩
theorem Runs.done {s u : BM} (h : Runs [] s u) : s = u := by
  cases h
  rfl
theorem Runs.append {a b : List HR} {s t u : BM} (h : Runs a s t) (h2 : Runs b t u) : Runs (a ++ b) s u := Hsh.un (by simp (disch := k_dflt (
  refine Hsh.up ?_
  induction h with
  | nil => exact h2
  | cons h1 _ ih => exact .cons h1 (ih h2)
  )) only [↓Hsh.on])
/-- the ledger of a handler -/
abbrev HL (K : PySem.W.Frag) (B : BA) (r mm : Addr) (ps : List Addr) (s : BM) : List Cell := (r, .lst (ps.map V.ref)) :: ([(mm, mO s.2)] ++ bCells K B s.1)
def sp_z_handle (K : PySem.W.Frag) : Sp := mk4 fun a b c d H Q _ => ∃ (B : BA) (r mm : Addr) (s T : BM) (ps : List Addr) (hs : List HR) (ad : Int), a = .ref B.b ∧ b = .ref mm ∧ c = .ref r ∧ d = .int ad ∧ Blk H (HL K B r mm ps s) ∧ Pg K H ps (hs ++ [.retry]) ∧ s.1.ok ∧ B.rs.length = s.1.rows.length ∧
  Runs hs s T ∧ T.1.get 17 = ad ∧ ∀ H', SH ((HL K B r mm ps s).map (·.1)) H H' (HL K B r mm ps (T.1.up, T.2)) → Q (.bl true) H'
def HI (K : PySem.W.Frag) (B : BA) (r mm : Addr) (ps : List Addr) (s0 T : BM) (hs : List HR) (ad : Int) (H : Hp) (i : Nat) (σ : L2.St) (H' : Hp) : Prop :=
  ∃ v4 v5 v6 s, σ = [some (.ref B.b), some (.ref mm), some (.ref r), some (.int ad), v4, v5, v6] ∧ SH ((HL K B r mm ps s0).map (·.1)) H H' (HL K B r mm ps s) ∧ Pg K H' ps (hs ++ [.retry]) ∧ Runs (hs.drop i) s T ∧ s.1.ok ∧ B.rs.length = s.1.rows.length ∧ i ≤ hs.length
theorem HI.go {K : PySem.W.Frag} {B : BA} {r mm : Addr} {ps : List Addr} {s0 T s t : BM} {hs : List HR} {ad : Int} {H H1 H2 : Hp} {i : Nat} {x : HR} {v4 v5 v6 : Option V} (hS0 : SH ((HL K B r mm ps s0).map (·.1)) H H1 (HL K B r mm ps s)) (hS : SH ((HL K B r mm ps s).map (·.1)) H1 H2 (HL K B r mm ps t)) (pg : Pg K H1 ps (hs ++ [.retry])) (st : x.step s t) (ok : s.1.ok) (hl : B.rs.length = s.1.rows.length) (R : Runs (hs.drop (i + 1)) t T) (hi : i < hs.length) :
    HI K B r mm ps s0 T hs ad H (i + 1) [some (.ref B.b), some (.ref mm), some (.ref r), some (.int ad), v4, v5, v6] H2 := by
  obtain ⟨o, l, m⟩ := step_ok st ok
  exact ⟨v4, v5, v6, t, rfl, hS0.callE hS, pg.keep hS.kp, R, o, hl.trans l.symm, hi⟩
section
 local macro_rules | `(tactic| walk_at "hp") => `(tactic| first | exact hS.hs (B.b, _) (memB (.head _)))
 local macro_rules | `(tactic| walk_at "st") => `(tactic| first
  | ((with_reducible show sp_Banks_read _ _ _ _ _); apply c_Banks_read hS (fun c hc => hS.hs c (memB hc)) ok hl; (· walk_at "ar"); (· walk_at "ar"); intro H1 hS1 _; walk_at "nw")
  | ((with_reducible show sp_Banks_shift_down _ _ _ _ _); apply c_B_down hS ok hl; intro H1 hS1; walk_at "nw")
  | ((with_reducible show sp_Banks_shift_up _ _ _ _ _); apply c_B_up hS ok; intro H1 hS1; walk_at "nw")
  | ((with_reducible show sp_Banks_leave_trap _ _ _ _ _); apply c_B_leave hS ok hl; intro H1 hS1; walk_at "nw")
  | ((with_reducible show sp_Banks_write _ _ _ _ _); apply c_B_write hS ok hl; (· walk_at "ar"); (· walk_at "ar"); intro H1 hS1; walk_at "nw")
  | ((with_reducible show sp_Banks_set_bar _ _ _ _ _); apply c_B_bar hS; intro H1 hS1; walk_at "nw"))
theorem ok_z_handle {P : Program} {w : World} {K : PySem.W.Frag} {mg : Str → Option Value} {base : Heap} (Y : Env w K mg) (G_Banks_leave_trap : MethOk P w K mg base CX0 3 "Banks" "leave_trap" ["self"] (sp_Banks_leave_trap K)) (G_Banks_read : MethOk P w K mg base CX0 2 "Banks" "read" ["self", "number"] (sp_Banks_read K)) (G_Banks_set_bar : MethOk P w K mg base CX0 1 "Banks" "set_bar" ["self", "number"] (sp_Banks_set_bar K)) (G_Banks_shift_down : MethOk P w K mg base CX0 2 "Banks" "shift_down" ["self"] (sp_Banks_shift_down K)) (G_Banks_shift_up : MethOk P w K mg base CX0 1 "Banks" "shift_up" ["self"] (sp_Banks_shift_up K)) (G_Banks_write : MethOk P w K mg base CX0 2 "Banks" "write" ["self", "number", "word"] (sp_Banks_write K)) (G_z_value : CallOk P w K mg base CX0 3 "_law_value" ["_law_banks", "_law_operand"] (sp_z_value K)) : CallOk P w K mg base CX0 4 "_law_handle" ["_law_banks", "_law_memory", "_law_rows", "_law_address"] (sp_z_handle K) := Hsh.un (by simp (disch := k_dflt (
  refine Hsh.up ?_
  obtain ⟨fd, F⟩ := Y.fd_z_handle
  refine ⟨_, fd, Y.mg_z_handle, F.kp, F.bindsN (fun _ _ _ _ _ _ us hl => match us, hl with | [_, _, _, _], _ => rfl), F.ok sc_z_handle mk4_len (fun cdv A outer s H vs Q E hr h => ?_)⟩
  have hu := hu_room hr
  obtain ⟨_, _, _, _, rfl, B, r, mm, s, T, ps, hs, ad, rfl, rfl, rfl, rfl, hB, pg, ok, hl, R, had, k⟩ := h
  have hS : SH ((HL K B r mm ps s).map (·.1)) H H (HL K B r mm ps s) := hB.sh
  refine ⟨_, PSs.nox (pss_cons (ps_for PassesOwn.never rfl (pi_list (pv 2)) (pg_name (i := 4) sc_z_handle.nd rfl (Or.inl rfl))
  (pss_one (ps_if (pt_cmpR (xEq hu) (pe_ix xIx (pv 4) pe_int (fun _ _ => rfl)) pe_str (nomark _)) (pss_one (ps_expr (pe_methG (pv 0) G_Banks_write (hr.mono (by decide)) pass0 (pa_cons (pe_ix xIx (pv 4) pe_int (fun _ _ => rfl)) (pa_cons (pe_fld (pv 0) rfl) pa_nil))))) (pss_one (ps_if (pt_cmpR (xEq hu) (pe_ix xIx (pv 4) pe_int (fun _ _ => rfl)) pe_str (nomark _)) (pss_one (ps_expr (pe_methG (pv 0) G_Banks_set_bar (hr.mono (by decide)) pass0 (pa_cons (pe_callG G_z_value hr rfl pass0 (pa_cons (pv 0) (pa_cons (pe_ix xIx (pv 4) pe_int (fun _ _ => rfl)) pa_nil))) pa_nil)))) (pss_one (ps_if (pt_cmpR (xEq hu) (pe_ix xIx (pv 4) pe_int (fun _ _ => rfl)) pe_str (nomark _)) (pss_one (ps_expr (pe_methG (pv 0) G_Banks_write (hr.mono (by decide)) pass0 (pa_cons (pe_ix xIx (pv 4) pe_int (fun _ _ => rfl)) (pa_cons (pe_op xAdd (pe_methG (pv 0) G_Banks_read (hr.mono (by decide)) pass0 (pa_cons (pe_ix xIx (pv 4) pe_int (fun _ _ => rfl)) pa_nil)) (pe_ix xIx (pe_ix xIx (pv 4) pe_int (fun _ _ => rfl)) pe_int (fun _ _ => rfl))) pa_nil))))) (pss_one (ps_if (pt_cmpR (xEq hu) (pe_ix xIx (pv 4) pe_int (fun _ _ => rfl)) pe_str (nomark _)) (pss_one (ps_expr (pe_methG (pv 0) G_Banks_write (hr.mono (by decide)) pass0 (pa_cons (pe_ix xIx (pv 4) pe_int (fun _ _ => rfl)) (pa_cons (pe_op op_sub (pe_methG (pv 0) G_Banks_read (hr.mono (by decide)) pass0 (pa_cons (pe_ix xIx (pv 4) pe_int (fun _ _ => rfl)) pa_nil)) (pe_ix xIx (pe_ix xIx (pv 4) pe_int (fun _ _ => rfl)) pe_int (fun _ _ => rfl))) pa_nil))))) (pss_one (ps_if (pt_cmpR (xEq hu) (pe_ix xIx (pv 4) pe_int (fun _ _ => rfl)) pe_str (nomark _)) (pss_cons (ps_set (i := 5) sc_z_handle.nd rfl (Or.inl rfl) (pe_methG (pv 0) G_Banks_read (hr.mono (by decide)) pass0 (pa_cons (pe_ix xIx (pv 4) pe_int (fun _ _ => rfl)) pa_nil)))
  (pss_one (ps_expr (pe_methG (pv 0) G_Banks_write (hr.mono (by decide)) pass0 (pa_cons (pe_ix xIx (pv 4) pe_int (fun _ _ => rfl)) (pa_cons (pe_op xMod (pe_callTy x_int rfl Y.z_int (by decide +kernel) (pa_cons (pe_op xAdd (pv 5) (pe_ix xIx (pe_ix xIx (pv 4) pe_int (fun _ _ => rfl)) pe_int (fun _ _ => rfl))) pa_nil)) (pe_ix xIx (pe_ix xIx (pv 4) pe_int (fun _ _ => rfl)) pe_int (fun _ _ => rfl))) pa_nil)))))) (pss_one (ps_if (pt_cmpR (xEq hu) (pe_ix xIx (pv 4) pe_int (fun _ _ => rfl)) pe_str (nomark _)) (pss_one (ps_expr (pe_methG0 (pv 0) G_Banks_shift_down (hr.mono (by decide)) pass0))) (pss_one (ps_if (pt_cmpR (xEq hu) (pe_ix xIx (pv 4) pe_int (fun _ _ => rfl)) pe_str (nomark _)) (pss_one (ps_expr (pe_methG0 (pv 0) G_Banks_shift_up (hr.mono (by decide)) pass0))) (pss_one (ps_if (pt_cmpR (xEq hu) (pe_ix xIx (pv 4) pe_int (fun _ _ => rfl)) pe_str (nomark _)) (pss_one (ps_ret (pe_cmpR (xEq hu) (pe_methG0 (pv 0) G_Banks_leave_trap hr pass0) (pv 3) (nomark _)))) (pss_cons (ps_set (i := 6) sc_z_handle.nd rfl (Or.inl rfl) (pe_op xAdd (pe_methG (pv 0) G_Banks_read (hr.mono (by decide)) pass0 (pa_cons (pe_ix xIx (pv 4) pe_int (fun _ _ => rfl)) pa_nil)) (pe_ix xIx (pe_ix xIx (pv 4) pe_int (fun _ _ => rfl)) pe_int (fun _ _ => rfl))))
  (pss_cons (ps_if (PW.pt (pw_or (pt_cmpR op_lt (pv 6) pe_int (nomark _)) (pw_or1 (pt_cmpR op_ge (pv 6) (pe_callB x_len rfl Y.z_len (by decide +kernel) (pa_cons (pv 1) pa_nil)) (nomark _))))) (pss_one (ps_ret pe_bl)) pss_nil)
  (pss_one (ps_if (pt_cmpR (xEq hu) (pe_ix xIx (pv 4) pe_int (fun _ _ => rfl)) pe_str (nomark _)) (pss_one (ps_asg (pe_methG (pv 0) G_Banks_read (hr.mono (by decide)) pass0 (pa_cons (pe_ix xIx (pv 4) pe_int (fun _ _ => rfl)) pa_nil)) (pg_sub (pv 1) (pv 6) set_list))) (pss_one (ps_expr (pe_methG (pv 0) G_Banks_write (hr.mono (by decide)) pass0 (pa_cons (pe_ix xIx (pv 4) pe_int (fun _ _ => rfl)) (pa_cons (pe_ix xIx (pv 1) (pv 6) (fun _ _ => rfl)) pa_nil))))))))))))))))))))))))))
  (pss_one (ps_ret pe_bl))), ?_⟩
  rw [st_z_handle]
  try simp only [cxK, cxK2, cxW, cxW2]
  clear hu hr F
  repeat' walk_at "st"
  refine u_forL (xs := ps.map V.ref) (HI K B r mm ps s T hs ad H) (SqL.of (hS.get 0 rfl)) ⟨_, _, _, s, rfl, hS, pg, R, ok, hl, Nat.zero_le _⟩ ?_ ?_ ?_
  · rintro i σ H1 _ ⟨v4, v5, v6, s1, rfl, hS, _⟩
    exact SqL.of (hS.get 0 rfl)
  · clear hS R ok hl
    rintro i y σ H1 hy ⟨v4, v5, v6, s1, rfl, hS0, pg, R, ok, hl, hi⟩
    obtain ⟨x, q, rfl, e1, e2⟩ := pg_get pg hy
    have hat := pg.at_ i x q e1 e2
    have hS : SH ((HL K B r mm ps s1).map (·.1)) H1 H1 (HL K B r mm ps s1) := hS0.blk.sh
    by_cases c : i < hs.length
    · rw [List.getElem?_append_left c, List.getElem?_eq_getElem c] at e1
      rw [List.drop_eq_getElem_cons c] at R
      obtain ⟨t, st, R⟩ := R.split
      rw [Option.some.inj e1] at st
      clear e1 e2 hy
      cases x with
      | bar d =>
        obtain ⟨h0, h1, rfl⟩ := id st
        have hat : SqT K H1 q [.str "bar", .int d] := hat
        repeat' walk_at "st"
        exact HI.go hS0 hS pg st ok hl R c
      | setI v =>
        obtain ⟨h0, rfl⟩ := id st
        obtain ⟨q2, hat, hat2⟩ : ∃ q2, SqT K H1 q [.str "setbar", .ref q2] ∧ SqT K H1 q2 [.str (kindS false), .int v] := hat
        repeat' walk_at "st"
        refine c_z_value hS hat2 (fun c hc => hS.hs c (memB hc)) ok hl (fun z => nomatch z) (fun H2 hS2 => ?_)
        clear hS; rename SH _ _ _ _ => hS
        repeat' walk_at "st"
        exact HI.go hS0 hS pg st ok hl R c
      | setG v =>
        obtain ⟨h0, h1, h2, rfl⟩ := id st
        obtain ⟨q2, hat, hat2⟩ : ∃ q2, SqT K H1 q [.str "setbar", .ref q2] ∧ SqT K H1 q2 [.str (kindS true), .int v] := hat
        repeat' walk_at "st"
        refine c_z_value hS hat2 (fun c hc => hS.hs c (memB hc)) ok hl (fun z => ⟨h0, h1⟩) (fun H2 hS2 => ?_)
        clear hS; rename SH _ _ _ _ => hS
        repeat' walk_at "st"
        exact HI.go hS0 hS pg st ok hl R c
      | add d a v =>
        obtain ⟨h0, h1, h2, h3, rfl⟩ := id st
        obtain ⟨q2, hat, hat2⟩ : ∃ q2, SqT K H1 q [.str "add", .int d, .int a, .ref q2] ∧ SqT K H1 q2 [.str "int", .int v] := hat
        repeat' walk_at "st"
        exact HI.go hS0 hS pg st ok hl R c
      | sub d a v =>
        obtain ⟨h0, h1, h2, h3, rfl⟩ := id st
        obtain ⟨q2, hat, hat2⟩ : ∃ q2, SqT K H1 q [.str "sub", .int d, .int a, .ref q2] ∧ SqT K H1 q2 [.str "int", .int v] := hat
        repeat' walk_at "st"
        exact HI.go hS0 hS pg st ok hl R c
      | mod d a v =>
        obtain ⟨hv, h0, h1, h2, h3, rfl⟩ := id st
        obtain ⟨q2, hat, hat2⟩ : ∃ q2, SqT K H1 q [.str "mod", .int d, .int a, .ref q2] ∧ SqT K H1 q2 [.str "int", .int v] := hat
        repeat' walk_at "st"
        exact HI.go hS0 hS pg st ok hl R c
      | save =>
        obtain rfl := id st
        obtain ⟨q2, hat, hat2⟩ : ∃ q2, SqT K H1 q [.str "save", .int 0, .int 0, .ref q2] ∧ SqT K H1 q2 [.str "int", .int 0] := hat
        repeat' walk_at "st"
        exact HI.go hS0 hS pg st ok hl R c
      | rest =>
        obtain rfl := id st
        have hat : SqT K H1 q [.str "restore"] := hat
        repeat' walk_at "st"
        exact HI.go hS0 hS pg st ok hl R c
      | store d a v =>
        obtain ⟨h0, h1, h2, h3, h4, h5, rfl⟩ := id st
        obtain ⟨q2, hat, hat2⟩ : ∃ q2, SqT K H1 q [.str "store", .int d, .int a, .ref q2] ∧ SqT K H1 q2 [.str "int", .int v] := hat
        have hm : ((s1.2.map V.int).length : Int) = s1.2.length := by rw [List.length_map]
        repeat' walk_at "st"
        exact HI.go hS0 (show SH _ _ _ (HL K B r mm ps (s1.1, s1.2.set (s1.1.get a + v).toNat (s1.1.get d))) from hS) pg st ok hl R c
      | load d a v =>
        obtain ⟨h0, h1, h2, h3, h4, h5, rfl⟩ := id st
        obtain ⟨q2, hat, hat2⟩ : ∃ q2, SqT K H1 q [.str "load", .int d, .int a, .ref q2] ∧ SqT K H1 q2 [.str "int", .int v] := hat
        have hm : ((s1.2.map V.int).length : Int) = s1.2.length := by rw [List.length_map]
        repeat' walk_at "st"
        exact HI.go hS0 hS pg st ok hl R c
      | retry => exact st.elim
    · have ei : i = hs.length := by omega
      subst ei
      rw [List.getElem?_append_right (Nat.le_refl _), Nat.sub_self] at e1
      obtain rfl := Option.some.inj e1
      rw [List.drop_length] at R
      obtain rfl := R.done
      have hat : SqT K H1 q [.str "retry"] := hat
      repeat' walk_at "st"
      exact q_dec had (k _ (hS0.callE hS))
  · rintro σ H1 ⟨v4, v5, v6, s1, rfl, hS, pg, R, ok, hl, hi⟩
    exfalso
    rw [List.length_map, pg.len, List.length_append] at hi
    exact absurd hi (by simp)
  )) only [↓Hsh.on])
end

/-! ### what the handlers do -/
def mputk (mem : List Int) (s : Int) (r : List Int) (k : Nat) : List Int := mem.take s.toNat ++ r.take k ++ mem.drop (s.toNat + k)
theorem mputk_0 (mem : List Int) (s : Int) (r : List Int) : mputk mem s r 0 = mem := by
  unfold mputk
  rw [List.take_zero, List.append_nil, Nat.add_zero, List.take_append_drop]
theorem mputk_16 {mem : List Int} {s : Int} {r : List Int} (h : 0 ≤ s) (hr : r.length = 16) : mputk mem s r 16 = mput mem s r := by
  unfold mputk mput
  rw [List.take_of_length_le (l := r) (by omega), show (s + 16).toNat = s.toNat + 16 by omega]
theorem mputk_len {mem : List Int} {s : Int} {r : List Int} {k : Nat} (h : lies mem s) (hr : r.length = 16) (hk : k ≤ 16) : (mputk mem s r k).length = mem.length := Hsh.un (by simp (disch := k_dflt (
  refine Hsh.up ?_
  obtain ⟨h0, h1⟩ := h
  unfold mputk
  rw [List.length_append, List.length_append, List.length_take, List.length_take, List.length_drop]
  omega
  )) only [↓Hsh.on])
theorem mput_len {mem : List Int} {s : Int} {r : List Int} (h : lies mem s) (hr : r.length = 16) : (mput mem s r).length = mem.length := by
  rw [← mputk_16 h.1 hr]
  exact mputk_len h hr (by omega)
theorem mputk_set {mem : List Int} {s : Int} {r : List Int} {k : Nat} (h : lies mem s) (hr : r.length = 16) (hk : k < 16) : (mputk mem s r k).set (s + k).toNat (r.getD k 0) = mputk mem s r (k + 1) := Hsh.un (by simp (disch := k_dflt (
  refine Hsh.up ?_
  obtain ⟨h0, h1⟩ := h
  unfold mputk
  have e1 : (mem.take s.toNat).length = s.toNat := by rw [List.length_take]; omega
  have e2 : (r.take k).length = k := by rw [List.length_take]; omega
  rw [List.append_assoc, List.set_append_right _ _ (by omega), e1, show (s + (k : Int)).toNat - s.toNat = k by omega, List.set_append_right _ _ (by omega), e2, Nat.sub_self, List.append_assoc]
  congr 1
  rw [List.take_succ, List.append_assoc, List.getElem?_eq_getElem (by omega), List.getD_eq_getElem?_getD, List.getElem?_eq_getElem (by omega)]
  congr 1
  rw [List.drop_eq_getElem_cons (by omega)]
  rfl
  )) only [↓Hsh.on])
theorem dec_mod {x n : Int} (h0 : 0 ≤ x) (h1 : x < n) : (x - 1) % n = if x = 0 then n - 1 else x - 1 := Hsh.un (by simp (disch := k_dflt (
  refine Hsh.up ?_
  by_cases q : x = 0
  · rw [if_pos q, q, Int.emod_eq_add_self_emod, Int.emod_eq_of_lt (by omega) (by omega)]
    omega
  · rw [if_neg q, Int.emod_eq_of_lt (by omega) (by omega)]
  )) only [↓Hsh.on])
theorem inc_mod {x n : Int} (h0 : 0 ≤ x) (h1 : x < n) : (x + 1) % n = if x = n - 1 then 0 else x + 1 := Hsh.un (by simp (disch := k_dflt (
  refine Hsh.up ?_
  by_cases q : x = n - 1
  · rw [if_pos q, q, show n - 1 + 1 = n by omega, Int.emod_self]
  · rw [if_neg q, Int.emod_eq_of_lt (by omega) (by omega)]
  )) only [↓Hsh.on])
theorem setR_cur {W : BW} {d x : Int} (h0 : 16 ≤ d) : W.setR d x = ⟨W.sh, W.rows.set W.cur.toNat ((W.rows.getD W.cur.toNat []).set (d - 16).toNat x), W.cur, W.bar, W.dep, W.spi, W.fil⟩ := by
  unfold BW.setR BW.set BW.put BW.lst ixOf
  simp only [if_neg (show ¬ d < 8 by omega), if_neg (show ¬ d < 16 by omega), if_pos (show 0 < d by omega)]
theorem getD_set_self {α : Type} {R : List α} {i : Nat} {q z : α} (hi : i < R.length) : (R.set i q).getD i z = q := by
  rw [List.getD_eq_getElem?_getD, List.getElem?_set_self hi]
  rfl
theorem getD_set_ne {α : Type} {R : List α} {i j : Nat} {q z : α} (h : i ≠ j) : (R.set i q).getD j z = R.getD j z := by
  rw [List.getD_eq_getElem?_getD, List.getElem?_set_ne h, ← List.getD_eq_getElem?_getD]
theorem setR_at {sh q : List Int} {R : List (List Int)} {bar dep spi fil d x : Int} {i : Nat} (hi : i < R.length) (h0 : 16 ≤ d) :
    (BW.mk sh (R.set i q) (i : Nat) bar dep spi fil).setR d x = ⟨sh, R.set i (q.set (d - 16).toNat x), (i : Nat), bar, dep, spi, fil⟩ := Hsh.un (by simp (disch := k_dflt (
  refine Hsh.up ?_
  rw [setR_cur h0]
  dsimp only
  rw [Int.toNat_natCast, getD_set_self hi, List.set_set]
  )) only [↓Hsh.on])
theorem get_cur {W : BW} {d : Int} (h0 : 16 ≤ d) : W.get d = (W.rows.getD W.cur.toNat []).getD (d - 16).toNat 0 := by
  unfold BW.get BW.lst ixOf
  simp only [if_neg (show ¬ d < 8 by omega), if_neg (show ¬ d < 16 by omega)]
theorem get_at {sh q : List Int} {R : List (List Int)} {bar dep spi fil d : Int} {i : Nat} (hi : i < R.length) (h0 : 16 ≤ d) : (BW.mk sh (R.set i q) (i : Nat) bar dep spi fil).get d = q.getD (d - 16).toNat 0 := Hsh.un (by simp (disch := k_dflt (
  refine Hsh.up ?_
  rw [get_cur h0]
  dsimp only
  rw [Int.toNat_natCast, getD_set_self hi]
  )) only [↓Hsh.on])
theorem get_14 (W : BW) : W.get 14 = (W.rows.getD W.prv []).getD 14 0 := rfl
theorem stores_runs {W : BW} {mem row : List Int} {s : Int} (hs : W.get 14 = s) (hrow : ∀ k : Nat, k < 16 → W.get (16 + (k : Nat)) = row.getD k 0) (L : lies mem s) (h16 : row.length = 16) : ∀ i, i ≤ 16 → Runs (storesL i) (W, mem) (W, mputk mem s row i)
  | 0, _ => by rw [mputk_0]; exact .nil _
  | i + 1, h => by
    rw [storesL_succ]
    refine (stores_runs hs hrow L h16 i (by omega)).append (.cons (t := (W, mputk mem s row (i + 1))) ⟨by omega, by omega, by decide, by decide, ?_, ?_, ?_⟩ (.nil _))
    · show 0 ≤ W.get 14 + _
      have := L.1
      omega
    · show W.get 14 + _ < _
      have h1 := mputk_len L h16 (k := i) (by omega)
      have h2 := L.2
      rw [h1]
      omega
    · show _ = (W, (mputk mem s row i).set (W.get 14 + _).toNat (W.get _))
      rw [hs, hrow i (by omega), mputk_set L h16 (by omega)]
theorem mcut_get {mem : List Int} {s : Int} (L : lies mem s) {k : Nat} (hk : k < 16) : mem.getD (s + k).toNat 0 = (mcut mem s).getD k 0 := Hsh.un (by simp (disch := k_dflt (
  refine Hsh.up ?_
  obtain ⟨h0, h1⟩ := L
  unfold mcut
  rw [List.getD_eq_getElem?_getD, List.getD_eq_getElem?_getD, List.getElem?_take, if_pos hk, List.getElem?_drop, show s.toNat + k = (s + k).toNat by omega]
  )) only [↓Hsh.on])
theorem loads_runs {sh q mem : List Int} {R : List (List Int)} {bar dep spi fil s : Int} {i : Nat} (hi : i < R.length) (hs : ∀ r, (BW.mk sh (R.set i r) (i : Nat) bar dep spi fil).get 14 = s) (L : lies mem s) (h16 : q.length = 16) :
    ∀ k, k ≤ 16 → Runs (loadsL k) (⟨sh, R.set i q, (i : Nat), bar, dep, spi, fil⟩, mem) (⟨sh, R.set i (mputk q 0 (mcut mem s) k), (i : Nat), bar, dep, spi, fil⟩, mem)
  | 0, _ => by rw [mputk_0]; exact .nil _
  | k + 1, h => by
    rw [loadsL_succ]
    have L2 := L.2
    have L1 := L.1
    have lq : lies q 0 := ⟨Int.le_refl _, by omega⟩
    refine (loads_runs hi hs L h16 k (by omega)).append (.cons (t := (⟨sh, R.set i (mputk q 0 (mcut mem s) (k + 1)), (i : Nat), bar, dep, spi, fil⟩, mem)) ⟨by omega, by omega, by decide, by decide, ?_, ?_, ?_⟩ (.nil _))
    · show 0 ≤ BW.get _ 14 + _
      rw [hs]
      omega
    · show BW.get _ 14 + _ < (mem.length : Int)
      rw [hs]
      omega
    · show _ = (BW.setR _ _ (mem.getD (BW.get _ 14 + _).toNat 0), mem)
      rw [hs, setR_at hi (by omega), mcut_get L (by omega), show (16 + (k : Int) - 16).toNat = (0 + (k : Int)).toNat by omega, mputk_set lq (mcut_len L) (by omega)]

def dcr (n i : Nat) : Nat := if i = 0 then n - 1 else i - 1
def icr (n i : Nat) : Nat := if i = n - 1 then 0 else i + 1
theorem dcr_mod {n i : Nat} (h : i < n) : ((i : Int) - 1) % (n : Nat) = (dcr n i : Nat) := Hsh.un (by simp (disch := k_dflt (
  refine Hsh.up ?_
  rw [dec_mod (by omega) (by omega)]
  unfold dcr
  split <;> split <;> omega
  )) only [↓Hsh.on])
theorem icr_mod {n i : Nat} (h : i < n) : ((i : Int) + 1) % (n : Nat) = (icr n i : Nat) := Hsh.un (by simp (disch := k_dflt (
  refine Hsh.up ?_
  rw [inc_mod (by omega) (by omega)]
  unfold icr
  split <;> split <;> omega
  )) only [↓Hsh.on])
theorem dcr_lt {n i : Nat} (h : i < n) : dcr n i < n := by unfold dcr; split <;> omega
theorem icr_lt {n i : Nat} (h : i < n) : icr n i < n := by unfold icr; split <;> omega
theorem icr_dcr {n i : Nat} (h : i < n) : icr n (dcr n i) = i := by unfold icr dcr; split <;> split <;> omega
theorem dcr_icr {n i : Nat} (h : i < n) : dcr n (icr n i) = i := by unfold icr dcr; split <;> split <;> omega
theorem modn {n i : Nat} {x : Int} (h : i < n) (e : x % (n : Nat) = (i : Nat)) : (x + (n : Nat)) % (n : Nat) = (i : Nat) := by
  rw [show x + ((n : Nat) : Int) = x + (n : Nat) * 1 by omega, Int.add_mul_emod_self_left]
  exact e
theorem prv_dcr {W : BW} {c : Nat} (h : W.cur = (c : Nat)) : W.prv = dcr W.rows.length c := Hsh.un (by simp (disch := k_dflt (
  refine Hsh.up ?_
  unfold BW.prv dcr
  rw [h]
  split <;> split <;> omega
  )) only [↓Hsh.on])
theorem r16 {W : BW} (ok : W.ok) {k : Nat} (h : k < W.rows.length) : (W.rows.getD k []).length = 16 := by
  rw [List.getD_eq_getElem?_getD, List.getElem?_eq_getElem h]
  exact ok.r16 _ (List.getElem_mem _)
def hq (r : List Int) (v x y : Int) : List Int := ((r.set 1 v).set 3 x).set 4 y
theorem hq_len (r : List Int) (v x y : Int) : (hq r v x y).length = r.length := by simp [hq]
theorem hq_1 {r : List Int} {v x y : Int} (h : r.length = 16) : (hq r v x y).getD 1 0 = v := by
  unfold hq
  rw [getD_set_ne (by decide), getD_set_ne (by decide), getD_set_self (by omega)]
theorem hq_3 {r : List Int} {v x y : Int} (h : r.length = 16) : (hq r v x y).getD 3 0 = x := by
  unfold hq
  rw [getD_set_ne (by decide), getD_set_self (by rw [List.length_set]; omega)]
theorem hq_4 {r : List Int} {v x y : Int} (h : r.length = 16) : (hq r v x y).getD 4 0 = y := by
  unfold hq
  rw [getD_set_self (by rw [List.length_set, List.length_set]; omega)]
theorem hq_8 {r : List Int} {v x y : Int} {j : Nat} (h : 8 ≤ j) : (hq r v x y).getD j 0 = r.getD j 0 := by
  unfold hq
  rw [getD_set_ne (by omega), getD_set_ne (by omega), getD_set_ne (by omega)]
theorem hq_set (r : List Int) (v x y z : Int) : (hq r v x y).set 4 z = hq r v x z := by
  unfold hq
  rw [List.set_set]
/-- the first three rows of both programs: q's places 3 and 4 -/
theorem trap_start {W : BW} {v : Int} {b : Nat} (ok : W.ok) (eb : b = W.prv) : W.down.setR 17 v = ⟨W.sh, W.rows.set b ((W.rows.getD b []).set 1 v), (b : Nat), W.bar, W.dep + 1, W.spi, W.fil⟩ := Hsh.un (by simp (disch := k_dflt (
  refine Hsh.up ?_
  have hc : W.down.cur = (b : Nat) := by
    rw [eb]
    have h := prv_mod ok
    have h0 := ok.n3
    have h1 := Int.emod_nonneg (W.cur - 1) (show ((W.rows.length : Nat) : Int) ≠ 0 by omega)
    show (W.cur - 1) % _ = _
    omega
  rw [setR_cur (by decide), hc, Int.toNat_natCast]
  rfl
  )) only [↓Hsh.on])
theorem spill_runs {W : BW} {mem : List Int} {v : Int} {b o : Nat} (ok : W.ok) (eb : b = W.prv) (eo : o = dcr W.rows.length b) (hb : W.bar = (b : Nat)) (L : lies mem ((W.rows.getD (dcr W.rows.length o) []).getD 14 0)) :
    ∃ T, Runs (spill0 (W.rows.length : Nat) ++ storesL 16 ++ [.rest] ++ [.setG 20]) ((W.down.setR 17 v).spiP, mem) T ∧ T.1.get 17 = v ∧ T.1.up = ⟨W.sh, W.rows.set b (hq (W.rows.getD b []) v (b : Nat) (o : Nat)), W.cur, (o : Nat), W.dep, W.spi + 1, W.fil⟩ ∧
      T.2 = mput mem ((W.rows.getD (dcr W.rows.length o) []).getD 14 0) (W.rows.getD o []) := Hsh.un (by simp (disch := k_dflt (
  refine Hsh.up ?_
  have h3 := ok.n3
  have hbn : b < W.rows.length := by rw [eb]; exact BW.prv_lt ok
  have hon : o < W.rows.length := by rw [eo]; exact dcr_lt hbn
  have hpn : dcr W.rows.length o < W.rows.length := dcr_lt hon
  have hob : b ≠ o := by rw [eo]; unfold dcr; split <;> omega
  have hpb : b ≠ dcr W.rows.length o := by rw [eo]; unfold dcr; split <;> split <;> omega
  have lr := r16 ok hbn
  have lo := r16 ok hon
  obtain ⟨c, hc⟩ : ∃ c : Nat, W.cur = (c : Nat) := ⟨W.cur.toNat, by have := ok.c0; omega⟩
  have hcn : c < W.rows.length := by have := ok.c1; omega
  have ebc : b = dcr W.rows.length c := by rw [eb]; exact prv_dcr hc
  rw [trap_start ok eb]
  generalize er : W.rows.getD b [] = r at lr ⊢
  have st : Runs (storesL 16) (⟨W.sh, W.rows.set b (hq r v (b : Nat) (o : Nat)), (o : Nat), -1, W.dep + 1 + 1, W.spi + 1, W.fil⟩, mem) (⟨W.sh, W.rows.set b (hq r v (b : Nat) (o : Nat)), (o : Nat), -1, W.dep + 1 + 1, W.spi + 1, W.fil⟩, mput mem ((W.rows.getD (dcr W.rows.length o) []).getD 14 0) (W.rows.getD o [])) := by
    rw [← mputk_16 L.1 lo]
    refine stores_runs ?_ (fun k hk => ?_) L lo 16 (Nat.le_refl _)
    · rw [get_14, prv_dcr (c := o) rfl]
      dsimp only
      rw [List.length_set, getD_set_ne hpb]
    · rw [get_cur (by omega)]
      dsimp only
      rw [Int.toNat_natCast, getD_set_ne hob, show (16 + (k : Int) - 16).toNat = k by omega]
  have a1 : Runs [.bar 19] ((⟨W.sh, W.rows.set b (r.set 1 v), (b : Nat), W.bar, W.dep + 1, W.spi + 1, W.fil⟩ : BW), mem) ((⟨W.sh, W.rows.set b ((r.set 1 v).set 3 (b : Nat)), (b : Nat), (b : Nat), W.dep + 1, W.spi + 1, W.fil⟩ : BW), mem) := by
    refine .cons (x := .bar 19) ⟨by decide, by decide, ?_⟩ (.nil _)
    rw [setR_at hbn (by decide), hb]
    rfl
  have a2 : Runs [.sub 20 19 1] ((⟨W.sh, W.rows.set b ((r.set 1 v).set 3 (b : Nat)), (b : Nat), (b : Nat), W.dep + 1, W.spi + 1, W.fil⟩ : BW), mem) ((⟨W.sh, W.rows.set b (hq r v (b : Nat) ((b : Nat) - 1)), (b : Nat), (b : Nat), W.dep + 1, W.spi + 1, W.fil⟩ : BW), mem) := by
    refine .cons (x := .sub 20 19 1) ⟨by decide, by decide, by decide, by decide, ?_⟩ (.nil _)
    rw [setR_at hbn (by decide), get_at hbn (by decide)]
    rw [show ((19 : Int) - 16).toNat = 3 from rfl, getD_set_self (by rw [List.length_set]; omega)]
    rfl
  have a3 : Runs [.mod 20 20 (W.rows.length : Nat)] ((⟨W.sh, W.rows.set b (hq r v (b : Nat) ((b : Nat) - 1)), (b : Nat), (b : Nat), W.dep + 1, W.spi + 1, W.fil⟩ : BW), mem) ((⟨W.sh, W.rows.set b (hq r v (b : Nat) (o : Nat)), (b : Nat), (b : Nat), W.dep + 1, W.spi + 1, W.fil⟩ : BW), mem) := by
    refine .cons (x := .mod 20 20 (W.rows.length : Nat)) ⟨by omega, by decide, by decide, by decide, by decide, ?_⟩ (.nil _)
    rw [setR_at hbn (by decide), get_at hbn (by decide)]
    rw [show ((20 : Int) - 16).toNat = 4 from rfl, hq_4 lr, hq_set, modn hon (by rw [eo]; exact dcr_mod hbn)]
  have a4 : Runs [.setI (-1)] ((⟨W.sh, W.rows.set b (hq r v (b : Nat) (o : Nat)), (b : Nat), (b : Nat), W.dep + 1, W.spi + 1, W.fil⟩ : BW), mem) ((⟨W.sh, W.rows.set b (hq r v (b : Nat) (o : Nat)), (b : Nat), -1, W.dep + 1, W.spi + 1, W.fil⟩ : BW), mem) := .cons (x := .setI (-1)) ⟨by decide, rfl⟩ (.nil _)
  have a5 : Runs [.save] ((⟨W.sh, W.rows.set b (hq r v (b : Nat) (o : Nat)), (b : Nat), -1, W.dep + 1, W.spi + 1, W.fil⟩ : BW), mem) ((⟨W.sh, W.rows.set b (hq r v (b : Nat) (o : Nat)), (o : Nat), -1, W.dep + 1 + 1, W.spi + 1, W.fil⟩ : BW), mem) := by
    refine .cons (x := .save) ?_ (.nil _)
    show _ = (BW.downC _, mem)
    rw [downC_neg rfl]
    unfold BW.down
    dsimp only
    rw [List.length_set, dcr_mod hbn, ← eo]
  have a6 : Runs [.rest] ((⟨W.sh, W.rows.set b (hq r v (b : Nat) (o : Nat)), (o : Nat), -1, W.dep + 1 + 1, W.spi + 1, W.fil⟩ : BW), mput mem ((W.rows.getD (dcr W.rows.length o) []).getD 14 0) (W.rows.getD o [])) ((⟨W.sh, W.rows.set b (hq r v (b : Nat) (o : Nat)), (b : Nat), -1, W.dep + 1 + 1 - 1, W.spi + 1, W.fil⟩ : BW), mput mem ((W.rows.getD (dcr W.rows.length o) []).getD 14 0) (W.rows.getD o [])) := by
    refine .cons (x := .rest) ?_ (.nil _)
    show _ = (BW.up _, _)
    unfold BW.up
    dsimp only
    rw [List.length_set, icr_mod hon, eo, icr_dcr hbn]
  have a7 : Runs [.setG 20] ((⟨W.sh, W.rows.set b (hq r v (b : Nat) (o : Nat)), (b : Nat), -1, W.dep + 1 + 1 - 1, W.spi + 1, W.fil⟩ : BW), mput mem ((W.rows.getD (dcr W.rows.length o) []).getD 14 0) (W.rows.getD o [])) ((⟨W.sh, W.rows.set b (hq r v (b : Nat) (o : Nat)), (b : Nat), (o : Nat), W.dep + 1 + 1 - 1, W.spi + 1, W.fil⟩ : BW), mput mem ((W.rows.getD (dcr W.rows.length o) []).getD 14 0) (W.rows.getD o [])) := by
    have e : (⟨W.sh, W.rows.set b (hq r v (b : Nat) (o : Nat)), (b : Nat), -1, W.dep + 1 + 1 - 1, W.spi + 1, W.fil⟩ : BW).get 20 = (o : Nat) := by
      rw [get_at hbn (by decide)]
      rw [show ((20 : Int) - 16).toNat = 4 from rfl, hq_4 lr]
    refine .cons (x := .setG 20) ⟨by decide, by decide, ?_, ?_⟩ (.nil _)
    · rw [e]
      omega
    · rw [e]
  refine ⟨(⟨W.sh, W.rows.set b (hq r v (b : Nat) (o : Nat)), (b : Nat), (o : Nat), W.dep + 1 + 1 - 1, W.spi + 1, W.fil⟩, mput mem ((W.rows.getD (dcr W.rows.length o) []).getD 14 0) (W.rows.getD o [])), (((a1.append (a2.append (a3.append (a4.append a5)))).append st).append a6).append a7, ?_, ?_, rfl⟩
  · rw [get_at hbn (by decide)]
    rw [show ((17 : Int) - 16).toNat = 1 from rfl, hq_1 lr]
  · unfold BW.up
    dsimp only
    rw [List.length_set, icr_mod hbn, ebc, icr_dcr hcn, hc]
    congr 1
    omega
  )) only [↓Hsh.on])
theorem set_getD {α : Type} {R : List α} {i : Nat} {z : α} (h : i < R.length) : R.set i (R.getD i z) = R := by
  rw [List.getD_eq_getElem?_getD, List.getElem?_eq_getElem h]
  exact List.set_getElem_self h
theorem mput_all {q w : List Int} (h : q.length = 16) : mput q 0 w = w := by
  unfold mput
  rw [show (0 : Int).toNat = 0 from rfl, List.take_zero, List.nil_append, show ((0 : Int) + 16).toNat = 16 from rfl, List.drop_of_length_le (by omega), List.append_nil]
theorem fill_runs {W : BW} {mem : List Int} {v : Int} {c b u : Nat} (ok : W.ok) (hc : W.cur = (c : Nat)) (eb : b = W.prv) (eu : u = icr W.rows.length c) (hb : W.bar = (u : Nat)) (L : lies mem ((W.rows.getD c []).getD 14 0)) :
    ∃ T, Runs (fill0 (W.rows.length : Nat) ++ loadsL 16 ++ [.save, .save] ++ [.setG 20]) ((W.down.setR 17 v).filP, mem) T ∧ T.1.get 17 = v ∧
      T.1.up = ⟨W.sh, (W.rows.set b (hq (W.rows.getD b []) v (u : Nat) (icr W.rows.length u : Nat))).set u (mcut mem ((W.rows.getD c []).getD 14 0)), W.cur, (icr W.rows.length u : Nat), W.dep, W.spi, W.fil + 1⟩ ∧ T.2 = mem := Hsh.un (by simp (disch := k_dflt (
  refine Hsh.up ?_
  have h3 := ok.n3
  have hcn : c < W.rows.length := by have := ok.c1; omega
  have hbn : b < W.rows.length := by rw [eb]; exact BW.prv_lt ok
  have ebc : b = dcr W.rows.length c := by rw [eb]; exact prv_dcr hc
  have hun : u < W.rows.length := by rw [eu]; exact icr_lt hcn
  have hub : b ≠ u := by rw [eu, ebc]; unfold dcr icr; split <;> split <;> omega
  have hbc : b ≠ c := by rw [ebc]; unfold dcr; split <;> omega
  have huc : u ≠ c := by rw [eu]; unfold icr; split <;> omega
  have lr := r16 ok hbn
  have lu := r16 ok hun
  rw [trap_start ok eb]
  generalize er : W.rows.getD b [] = r at lr ⊢
  have a1 : Runs [.bar 19] ((⟨W.sh, W.rows.set b (r.set 1 v), (b : Nat), W.bar, W.dep + 1, W.spi, W.fil + 1⟩ : BW), mem) ((⟨W.sh, W.rows.set b ((r.set 1 v).set 3 (u : Nat)), (b : Nat), (u : Nat), W.dep + 1, W.spi, W.fil + 1⟩ : BW), mem) := by
    refine .cons (x := .bar 19) ⟨by decide, by decide, ?_⟩ (.nil _)
    rw [setR_at hbn (by decide), hb]
    rfl
  have a2 : Runs [.add 20 19 1] ((⟨W.sh, W.rows.set b ((r.set 1 v).set 3 (u : Nat)), (b : Nat), (u : Nat), W.dep + 1, W.spi, W.fil + 1⟩ : BW), mem) ((⟨W.sh, W.rows.set b (hq r v (u : Nat) ((u : Nat) + 1)), (b : Nat), (u : Nat), W.dep + 1, W.spi, W.fil + 1⟩ : BW), mem) := by
    refine .cons (x := .add 20 19 1) ⟨by decide, by decide, by decide, by decide, ?_⟩ (.nil _)
    rw [setR_at hbn (by decide), get_at hbn (by decide)]
    rw [show ((19 : Int) - 16).toNat = 3 from rfl, getD_set_self (by rw [List.length_set]; omega)]
    rfl
  have a3 : Runs [.mod 20 20 (W.rows.length : Nat)] ((⟨W.sh, W.rows.set b (hq r v (u : Nat) ((u : Nat) + 1)), (b : Nat), (u : Nat), W.dep + 1, W.spi, W.fil + 1⟩ : BW), mem) ((⟨W.sh, W.rows.set b (hq r v (u : Nat) (icr W.rows.length u : Nat)), (b : Nat), (u : Nat), W.dep + 1, W.spi, W.fil + 1⟩ : BW), mem) := by
    refine .cons (x := .mod 20 20 (W.rows.length : Nat)) ⟨by omega, by decide, by decide, by decide, by decide, ?_⟩ (.nil _)
    rw [setR_at hbn (by decide), get_at hbn (by decide)]
    rw [show ((20 : Int) - 16).toNat = 4 from rfl, hq_4 lr, hq_set, modn (icr_lt hun) (icr_mod hun)]
  have a4 : Runs [.setI (-1)] ((⟨W.sh, W.rows.set b (hq r v (u : Nat) (icr W.rows.length u : Nat)), (b : Nat), (u : Nat), W.dep + 1, W.spi, W.fil + 1⟩ : BW), mem) ((⟨W.sh, W.rows.set b (hq r v (u : Nat) (icr W.rows.length u : Nat)), (b : Nat), -1, W.dep + 1, W.spi, W.fil + 1⟩ : BW), mem) := .cons (x := .setI (-1)) ⟨by decide, rfl⟩ (.nil _)
  have a5 : Runs [.rest] ((⟨W.sh, W.rows.set b (hq r v (u : Nat) (icr W.rows.length u : Nat)), (b : Nat), -1, W.dep + 1, W.spi, W.fil + 1⟩ : BW), mem) ((⟨W.sh, W.rows.set b (hq r v (u : Nat) (icr W.rows.length u : Nat)), (c : Nat), -1, W.dep + 1 - 1, W.spi, W.fil + 1⟩ : BW), mem) := by
    refine .cons (x := .rest) ?_ (.nil _)
    show _ = (BW.up _, _)
    unfold BW.up
    dsimp only
    rw [List.length_set, icr_mod hbn, ebc, icr_dcr hcn]
  have a6 : Runs [.rest] ((⟨W.sh, W.rows.set b (hq r v (u : Nat) (icr W.rows.length u : Nat)), (c : Nat), -1, W.dep + 1 - 1, W.spi, W.fil + 1⟩ : BW), mem) ((⟨W.sh, (W.rows.set b (hq r v (u : Nat) (icr W.rows.length u : Nat))).set u (W.rows.getD u []), (u : Nat), -1, W.dep + 1 - 1 - 1, W.spi, W.fil + 1⟩ : BW), mem) := by
    refine .cons (x := .rest) ?_ (.nil _)
    show _ = (BW.up _, _)
    unfold BW.up
    dsimp only
    rw [List.length_set, icr_mod hcn, ← eu]
    have e : (W.rows.set b (hq r v (u : Nat) (icr W.rows.length u : Nat))).set u (W.rows.getD u []) = W.rows.set b (hq r v (u : Nat) (icr W.rows.length u : Nat)) := by
      rw [← getD_set_ne (R := W.rows) (q := (hq r v (u : Nat) (icr W.rows.length u : Nat))) hub]
      exact set_getD (by rw [List.length_set]; exact hun)
    rw [e]
  have a7 : Runs (loadsL 16) ((⟨W.sh, (W.rows.set b (hq r v (u : Nat) (icr W.rows.length u : Nat))).set u (W.rows.getD u []), (u : Nat), -1, W.dep + 1 - 1 - 1, W.spi, W.fil + 1⟩ : BW), mem) ((⟨W.sh, (W.rows.set b (hq r v (u : Nat) (icr W.rows.length u : Nat))).set u (mcut mem ((W.rows.getD c []).getD 14 0)), (u : Nat), -1, W.dep + 1 - 1 - 1, W.spi, W.fil + 1⟩ : BW), mem) := by
    have h := loads_runs (sh := W.sh) (q := W.rows.getD u []) (mem := mem) (R := W.rows.set b (hq r v (u : Nat) (icr W.rows.length u : Nat))) (bar := -1) (dep := W.dep + 1 - 1 - 1) (spi := W.spi) (fil := W.fil + 1) (s := ((W.rows.getD c []).getD 14 0)) (i := u) (by rw [List.length_set]; exact hun) (fun r => ?_) L lu 16 (Nat.le_refl _)
    · rw [mputk_16 (Int.le_refl _) (mcut_len L), mput_all lu] at h
      exact h
    · rw [get_14, prv_dcr (c := u) rfl]
      dsimp only
      rw [List.length_set, List.length_set, eu, dcr_icr hcn, ← eu, getD_set_ne huc, getD_set_ne hbc]
  have a8 : Runs [.save] ((⟨W.sh, (W.rows.set b (hq r v (u : Nat) (icr W.rows.length u : Nat))).set u (mcut mem ((W.rows.getD c []).getD 14 0)), (u : Nat), -1, W.dep + 1 - 1 - 1, W.spi, W.fil + 1⟩ : BW), mem) ((⟨W.sh, (W.rows.set b (hq r v (u : Nat) (icr W.rows.length u : Nat))).set u (mcut mem ((W.rows.getD c []).getD 14 0)), (c : Nat), -1, W.dep + 1 - 1 - 1 + 1, W.spi, W.fil + 1⟩ : BW), mem) := by
    refine .cons (x := .save) ?_ (.nil _)
    show _ = (BW.downC _, mem)
    rw [downC_neg rfl]
    unfold BW.down
    dsimp only
    rw [List.length_set, List.length_set, dcr_mod hun, eu, dcr_icr hcn]
  have a9 : Runs [.save] ((⟨W.sh, (W.rows.set b (hq r v (u : Nat) (icr W.rows.length u : Nat))).set u (mcut mem ((W.rows.getD c []).getD 14 0)), (c : Nat), -1, W.dep + 1 - 1 - 1 + 1, W.spi, W.fil + 1⟩ : BW), mem) ((⟨W.sh, (W.rows.set b (hq r v (u : Nat) (icr W.rows.length u : Nat))).set u (mcut mem ((W.rows.getD c []).getD 14 0)), (b : Nat), -1, W.dep + 1 - 1 - 1 + 1 + 1, W.spi, W.fil + 1⟩ : BW), mem) := by
    refine .cons (x := .save) ?_ (.nil _)
    show _ = (BW.downC _, mem)
    rw [downC_neg rfl]
    unfold BW.down
    dsimp only
    rw [List.length_set, List.length_set, dcr_mod hcn, ← ebc]
  have g : ∀ {bar d : Int}, 16 ≤ d → (⟨W.sh, (W.rows.set b (hq r v (u : Nat) (icr W.rows.length u : Nat))).set u (mcut mem ((W.rows.getD c []).getD 14 0)), (b : Nat), bar, W.dep + 1 - 1 - 1 + 1 + 1, W.spi, W.fil + 1⟩ : BW).get d = (hq r v (u : Nat) (icr W.rows.length u : Nat)).getD (d - 16).toNat 0 := fun {bar d} h => by
    rw [get_cur h]
    dsimp only
    rw [Int.toNat_natCast, getD_set_ne (Ne.symm hub), getD_set_self hbn]
  have b1 : Runs [.setG 20] ((⟨W.sh, (W.rows.set b (hq r v (u : Nat) (icr W.rows.length u : Nat))).set u (mcut mem ((W.rows.getD c []).getD 14 0)), (b : Nat), -1, W.dep + 1 - 1 - 1 + 1 + 1, W.spi, W.fil + 1⟩ : BW), mem) ((⟨W.sh, (W.rows.set b (hq r v (u : Nat) (icr W.rows.length u : Nat))).set u (mcut mem ((W.rows.getD c []).getD 14 0)), (b : Nat), (icr W.rows.length u : Nat), W.dep + 1 - 1 - 1 + 1 + 1, W.spi, W.fil + 1⟩ : BW), mem) := by
    have e := g (bar := -1) (d := 20) (by decide)
    rw [show ((20 : Int) - 16).toNat = 4 from rfl, hq_4 lr] at e
    refine .cons (x := .setG 20) ⟨by decide, by decide, ?_, ?_⟩ (.nil _)
    · rw [e]
      omega
    · rw [e]
  refine ⟨((⟨W.sh, (W.rows.set b (hq r v (u : Nat) (icr W.rows.length u : Nat))).set u (mcut mem ((W.rows.getD c []).getD 14 0)), (b : Nat), (icr W.rows.length u : Nat), W.dep + 1 - 1 - 1 + 1 + 1, W.spi, W.fil + 1⟩ : BW), mem), ((((a1.append (a2.append (a3.append (a4.append (a5.append a6))))).append a7).append (a8.append a9)).append b1), ?_, ?_, rfl⟩
  · rw [g (by decide)]
    rw [show ((17 : Int) - 16).toNat = 1 from rfl, hq_1 lr]
  · unfold BW.up
    dsimp only
    rw [List.length_set, List.length_set, icr_mod hbn, ebc, icr_dcr hcn, hc]
    congr 1
    omega
  )) only [↓Hsh.on])

/-! ### the banks and the ring side by side -/
abbrev off (n c k : Int) : Int := if c ≤ k then k - c else k - c + n
/-- the stack pointer of the window at depth d -/
def spf (sz st d : Int) : Int := sz - 16 - st * d
theorem spf_gap {sz st d e : Int} (h16 : 16 ≤ st) (h : d < e) : spf sz st e + 16 ≤ spf sz st d := Hsh.un (by simp (disch := k_dflt (
  refine Hsh.up ?_
  unfold spf
  have h1 : st * (d + 1) ≤ st * e := Int.mul_le_mul_of_nonneg_left (by omega) (by omega)
  rw [Int.mul_add, Int.mul_one] at h1
  omega
  )) only [↓Hsh.on])
structure Rl (sz st : Int) (W : BW) (X : RS) (mem : List Int) : Prop where
  okW : W.ok
  okX : X.W.ok
  len : W.rows.length = X.W.rows.length
  sh : W.sh = X.W.sh
  cur : W.cur = X.W.cur
  dep : W.dep = X.W.dep
  spi : W.spi = X.W.spi
  fil : W.fil = X.W.fil
  r1 : 1 ≤ X.res
  r2 : X.res ≤ (W.rows.length : Nat) - 1
  bar : W.bar = if W.cur + X.res < (W.rows.length : Nat) then W.cur + X.res else W.cur + X.res - (W.rows.length : Nat)
  rows : ∀ k : Nat, k < W.rows.length → off (W.rows.length : Nat) W.cur (k : Nat) < X.res → W.rows.getD k [] = X.W.rows.getD k []
  prv : ∀ j : Nat, 8 ≤ j → (W.rows.getD W.prv []).getD j 0 = (X.W.rows.getD W.prv []).getD j 0
  d0 : X.res ≤ W.dep + 1
  sp : ∀ k : Nat, k < W.rows.length → off (W.rows.length : Nat) W.cur (k : Nat) < X.res → off (W.rows.length : Nat) W.cur (k : Nat) + 1 ≤ W.dep → (W.rows.getD k []).getD 14 0 = spf sz st (W.dep - off (W.rows.length : Nat) W.cur (k : Nat) - 1)
  sp0 : (W.rows.getD W.prv []).getD 14 0 = spf sz st W.dep
  mem : ∀ d : Int, 1 ≤ d → d ≤ W.dep - X.res → mem.getD (spf sz st d + 14).toNat 0 = spf sz st (d - 1)
  sf : W.spi - W.fil = W.dep + 1 - X.res
section
variable {sz st : Int} {W : BW} {X : RS} {mem : List Int}
theorem prv_eq {W W2 : BW} (h : W.cur = W2.cur) (l : W.rows.length = W2.rows.length) : W.prv = W2.prv := by
  unfold BW.prv
  rw [h, l]
theorem off_cur {W : BW} (ok : W.ok) : off (W.rows.length : Nat) W.cur (W.cur.toNat : Nat) = 0 := Hsh.un (by simp (disch := k_dflt (
  refine Hsh.up ?_
  have := ok.c0
  unfold off
  rw [if_pos (by omega)]
  omega
  )) only [↓Hsh.on])
theorem Rl.get (R : Rl sz st W X mem) {m : Int} (h0 : 0 ≤ m) : W.get m = X.W.get m := Hsh.un (by simp (disch := k_dflt (
  refine Hsh.up ?_
  have e := prv_eq R.cur R.len
  unfold BW.get BW.lst ixOf
  by_cases c1 : m < 8
  · simp only [if_pos c1, R.sh]
  · by_cases c2 : m < 16
    · simp only [if_neg c1, if_pos c2, ← e]
      exact R.prv _ (by omega)
    · simp only [if_neg c1, if_neg c2, ← R.cur]
      rw [R.rows _ (cur_lt R.okW) (by rw [off_cur R.okW]; have := R.r1; omega)]
  )) only [↓Hsh.on])
theorem setR_out {W : BW} {m v : Int} (h0 : 8 ≤ m) (h1 : m < 16) : W.setR m v = ⟨W.sh, W.rows.set W.prv ((W.rows.getD W.prv []).set m.toNat v), W.cur, W.bar, W.dep, W.spi, W.fil⟩ := by
  unfold BW.setR BW.set BW.put BW.lst ixOf
  simp only [if_neg (show ¬ m < 8 by omega), if_pos h1, if_pos (show 0 < m by omega)]
theorem setR_sh {W : BW} {m v : Int} (h1 : m < 8) : W.setR m v = ⟨if 0 < m then W.sh.set m.toNat v else W.sh, W.rows, W.cur, W.bar, W.dep, W.spi, W.fil⟩ := Hsh.un (by simp (disch := k_dflt (
  refine Hsh.up ?_
  unfold BW.setR BW.set BW.put BW.lst ixOf
  simp only [if_pos h1, if_pos (show m < 16 by omega)]
  split <;> rfl
  )) only [↓Hsh.on])
theorem getD_set {α : Type} {R : List α} {i j : Nat} {q z : α} (hi : i < R.length) : (R.set i q).getD j z = if i = j then q else R.getD j z := Hsh.un (by simp (disch := k_dflt (
  refine Hsh.up ?_
  by_cases h : i = j
  · subst h
    rw [if_pos rfl, getD_set_self hi]
  · rw [if_neg h, getD_set_ne h]
  )) only [↓Hsh.on])
theorem getD_set14 {l : List Int} {i : Nat} {v : Int} (h : i ≠ 14) : (l.set i v).getD 14 0 = l.getD 14 0 := getD_set_ne h
theorem Rl.setR (R : Rl sz st W X mem) {m v : Int} (h0 : 0 ≤ m) (h1 : m < 32) (h14 : m ≠ 14) (h30 : m ≠ 30) : Rl sz st (W.setR m v) ⟨X.W.setR m v, X.res⟩ mem := Hsh.un (by simp (disch := k_dflt (
  refine Hsh.up ?_
  have e := prv_eq R.cur R.len
  have o1 := setR_ok R.okW m v
  have o2 := setR_ok R.okX m v
  have hp := BW.prv_lt R.okW
  have hc := cur_lt R.okW
  have ne := cur_ne_prv R.okW
  by_cases c1 : m < 8
  · rw [setR_sh c1] at o1 ⊢
    rw [setR_sh c1] at o2 ⊢
    exact ⟨o1, o2, R.len, by rw [R.sh], R.cur, R.dep, R.spi, R.fil, R.r1, R.r2, R.bar, R.rows, R.prv, R.d0, R.sp, R.sp0, R.mem, R.sf⟩
  · by_cases c2 : m < 16
    · rw [setR_out (by omega) c2] at o1 ⊢
      rw [setR_out (by omega) c2, ← e] at o2 ⊢
      have hp2 : W.prv < X.W.rows.length := by rw [← R.len]; exact hp
      have pe : (BW.mk W.sh (W.rows.set W.prv ((W.rows.getD W.prv []).set m.toNat v)) W.cur W.bar W.dep W.spi W.fil).prv = W.prv := prv_eq rfl (List.length_set ..)
      have l1 : (W.rows.set W.prv ((W.rows.getD W.prv []).set m.toNat v)).length = W.rows.length := List.length_set ..
      have ke : ∀ k : Nat, k < W.rows.length → off (W.rows.length : Nat) W.cur (k : Nat) < X.res → W.prv ≠ k := fun k hk h z => by
        have := R.r2
        have hp1 := prv_mod R.okW
        have c0 := R.okW.c0
        have c3 := R.okW.c1
        subst z
        unfold off BW.prv at h
        split at h <;> split at h <;> omega
      refine ⟨o1, o2, by simp only [List.length_set]; exact R.len, R.sh, R.cur, R.dep, R.spi, R.fil, R.r1, by rw [l1]; exact R.r2, by rw [l1]; exact R.bar, ?_, ?_, R.d0, ?_, ?_, R.mem, R.sf⟩
      · intro k hk h
        dsimp only at hk h ⊢
        rw [l1] at hk h
        rw [getD_set_ne (ke k hk h), getD_set_ne (ke k hk h)]
        exact R.rows k hk h
      · intro j hj
        dsimp only at hj ⊢
        rw [pe, getD_set_self hp, getD_set_self hp2]
        have q1 := R.prv j hj
        have l2 := r16 R.okW hp
        have l3 := r16 R.okX hp2
        by_cases z : m.toNat = j
        · subst z
          rw [getD_set_self (by omega), getD_set_self (by omega)]
        · rw [getD_set_ne z, getD_set_ne z]
          exact q1
      · intro k hk h h2
        dsimp only at hk h h2 ⊢
        rw [l1] at hk h h2 ⊢
        rw [getD_set_ne (ke k hk h)]
        exact R.sp k hk h h2
      · dsimp only
        rw [pe, getD_set_self hp, getD_set14 (by omega)]
        exact R.sp0
    · rw [setR_cur (by omega)] at o1 ⊢
      rw [setR_cur (by omega), ← R.cur] at o2 ⊢
      have hc2 : W.cur.toNat < X.W.rows.length := by rw [← R.len]; exact hc
      have pe : (BW.mk W.sh (W.rows.set W.cur.toNat ((W.rows.getD W.cur.toNat []).set (m - 16).toNat v)) W.cur W.bar W.dep W.spi W.fil).prv = W.prv := prv_eq rfl (List.length_set ..)
      have l1 : (W.rows.set W.cur.toNat ((W.rows.getD W.cur.toNat []).set (m - 16).toNat v)).length = W.rows.length := List.length_set ..
      have rc := R.rows _ hc (by rw [off_cur R.okW]; have := R.r1; omega)
      refine ⟨o1, o2, by simp only [List.length_set]; exact R.len, R.sh, rfl, R.dep, R.spi, R.fil, R.r1, by rw [l1]; exact R.r2, by rw [l1]; exact R.bar, ?_, ?_, R.d0, ?_, ?_, R.mem, R.sf⟩
      · intro k hk h
        dsimp only at hk h ⊢
        rw [l1] at hk h
        rw [getD_set hc, getD_set hc2, rc, R.rows k hk h]
      · intro j hj
        dsimp only at hj ⊢
        rw [pe, getD_set_ne ne, getD_set_ne ne]
        exact R.prv j hj
      · intro k hk h h2
        dsimp only at hk h h2 ⊢
        rw [l1] at hk h h2 ⊢
        have q := R.sp k hk h h2
        by_cases z : W.cur.toNat = k
        · subst z
          rw [getD_set_self hc, getD_set14 (by omega)]
          exact q
        · rw [getD_set_ne z]
          exact q
      · dsimp only
        rw [pe, getD_set_ne ne]
        exact R.sp0
  )) only [↓Hsh.on])
end

section
variable {sz st : Int} {W : BW} {X : RS} {mem : List Int}
theorem clr_get (rows : List (List Int)) (S : Nat → Nat → Bool) (k j : Nat) : ((clrR rows S).getD k []).getD j 0 = if S k j = true then 0 else (rows.getD k []).getD j 0 := Hsh.un (by simp (disch := k_dflt (
  refine Hsh.up ?_
  rw [clrR_get, List.getD_eq_getElem?_getD, List.getElem?_mapIdx, List.getD_eq_getElem?_getD (l := rows.getD k [])]
  cases (rows.getD k [])[j]? with
  | none => simp
  | some x => rfl
  )) only [↓Hsh.on])
theorem ext16 {l m : List Int} (hl : l.length = 16) (hm : m.length = 16) (h : ∀ j, j < 16 → l.getD j 0 = m.getD j 0) : l = m := Hsh.un (by simp (disch := k_dflt (
  refine Hsh.up ?_
  apply List.ext_getElem (by omega)
  intro j h1 h2
  have := h j (by omega)
  rw [List.getD_eq_getElem?_getD, List.getD_eq_getElem?_getD, List.getElem?_eq_getElem h1, List.getElem?_eq_getElem h2] at this
  exact this
  )) only [↓Hsh.on])
theorem getD_16 {l : List Int} (hl : l.length = 16) {j : Nat} (h : 16 ≤ j) : l.getD j 0 = 0 := by
  rw [List.getD_eq_getElem?_getD, List.getElem?_eq_none (by omega)]
  rfl
theorem off_dcr {n c k : Nat} (hc : c < n) (hk : k < n) : off (n : Nat) ((dcr n c : Nat) : Int) (k : Nat) = if k = dcr n c then 0 else off (n : Nat) (c : Nat) (k : Nat) + 1 := by
  unfold off dcr
  split <;> split <;> split <;> (try split) <;> (try split) <;> omega
theorem off_icr {n c k : Nat} (hc : c < n) (hk : k < n) : off (n : Nat) ((icr n c : Nat) : Int) (k : Nat) = if k = c then (n : Int) - 1 else off (n : Nat) (c : Nat) (k : Nat) - 1 := by
  unfold off icr
  split <;> split <;> split <;> (try split) <;> (try split) <;> omega
theorem off_nn {n c k : Nat} (hc : c < n) (hk : k < n) : 0 ≤ off (n : Nat) (c : Nat) (k : Nat) ∧ off (n : Nat) (c : Nat) (k : Nat) < n := by
  unfold off
  split <;> omega
theorem off_zero {n c k : Nat} (hc : c < n) (hk : k < n) (h : k ≠ c) : 0 < off (n : Nat) (c : Nat) (k : Nat) := by
  unfold off
  split <;> omega
theorem Rl.up (R : Rl sz st W X mem) (h1 : X.res ≠ 1) : Rl sz st W.up X.up mem := Hsh.un (by simp (disch := k_dflt (
  refine Hsh.up ?_
  obtain ⟨c, hc⟩ : ∃ c : Nat, W.cur = (c : Nat) := ⟨W.cur.toNat, by have := R.okW.c0; omega⟩
  have hcn : c < W.rows.length := by have := R.okW.c1; omega
  have hr1 := R.r1
  have hr2 := R.r2
  have hd0 := R.d0
  have e1 : W.up.cur = (icr W.rows.length c : Nat) := by
    show (W.cur + 1) % _ = _
    rw [hc, icr_mod hcn]
  have pe : W.up.prv = c := by rw [prv_dcr e1]; exact dcr_icr hcn
  have oc : off (W.rows.length : Nat) W.cur (c : Nat) = 0 := by rw [hc]; unfold off; rw [if_pos (by omega)]; omega
  refine ⟨up_ok R.okW, up_ok R.okX, R.len, R.sh, ?_, ?_, R.spi, R.fil, ?_, ?_, ?_, ?_, ?_, ?_, ?_, ?_, ?_, ?_⟩
  · show (W.cur + 1) % (W.rows.length : Nat) = (X.W.cur + 1) % (X.W.rows.length : Nat)
    rw [R.cur, R.len]
  · show W.dep - 1 = X.W.dep - 1
    rw [R.dep]
  · show 1 ≤ X.res - 1
    omega
  · show X.res - 1 ≤ (W.rows.length : Nat) - 1
    omega
  · have hb := R.bar
    rw [hc] at hb
    show W.bar = if W.up.cur + (X.res - 1) < (W.rows.length : Nat) then W.up.cur + (X.res - 1) else W.up.cur + (X.res - 1) - (W.rows.length : Nat)
    rw [hb, e1]
    unfold icr
    split <;> split <;> split <;> omega
  · intro k hk h
    have hk : k < W.rows.length := hk
    have h : off (W.rows.length : Nat) W.up.cur (k : Nat) < X.res - 1 := h
    rw [e1, off_icr hcn hk] at h
    refine R.rows k hk ?_
    rw [hc]
    split at h <;> omega
  · intro j hj
    rw [pe]
    show (W.rows.getD c []).getD j 0 = (X.W.rows.getD c []).getD j 0
    rw [R.rows c hcn (by rw [oc]; omega)]
  · show X.res - 1 ≤ W.dep - 1 + 1
    omega
  · intro k hk h h2
    have hk : k < W.rows.length := hk
    have h : off (W.rows.length : Nat) W.up.cur (k : Nat) < X.res - 1 := h
    have h2 : off (W.rows.length : Nat) W.up.cur (k : Nat) + 1 ≤ W.dep - 1 := h2
    show (W.rows.getD k []).getD 14 0 = spf sz st (W.dep - 1 - off (W.rows.length : Nat) W.up.cur (k : Nat) - 1)
    rw [e1, off_icr hcn hk] at h h2 ⊢
    by_cases z : k = c
    · rw [if_pos z] at h
      omega
    · rw [if_neg z] at h h2 ⊢
      rw [R.sp k hk (by rw [hc]; omega) (by rw [hc]; omega), hc]
      congr 1
      omega
  · rw [pe]
    show (W.rows.getD c []).getD 14 0 = spf sz st (W.dep - 1)
    rw [R.sp c hcn (by rw [oc]; omega) (by rw [oc]; omega), oc]
    congr 1
    omega
  · intro d h1 h2
    have h2 : d ≤ W.dep - 1 - (X.res - 1) := h2
    exact R.mem d h1 (by omega)
  · have := R.sf
    show W.spi - W.fil = W.dep - 1 + 1 - (X.res - 1)
    omega
  )) only [↓Hsh.on])
theorem Rl.dn (R : Rl sz st W X mem) (h1 : X.res ≠ (W.rows.length : Nat) - 1) : Rl sz st (W.down.clr.setR 14 (spf sz st (W.dep + 1))) ⟨X.dn.W.setR 14 (spf sz st (W.dep + 1)), X.dn.res⟩ mem := Hsh.un (by simp (disch := k_dflt (
  refine Hsh.up ?_
  obtain ⟨c, hc⟩ : ∃ c : Nat, W.cur = (c : Nat) := ⟨W.cur.toNat, by have := R.okW.c0; omega⟩
  have hcn : c < W.rows.length := by have := R.okW.c1; omega
  have hr1 := R.r1
  have hr2 := R.r2
  have hd0 := R.d0
  have h3 := R.okW.n3
  have e1 : W.down.cur = (dcr W.rows.length c : Nat) := by
    show (W.cur - 1) % _ = _
    rw [hc, dcr_mod hcn]
  have e2 : X.W.down.cur = W.down.cur := by
    show (X.W.cur - 1) % (X.W.rows.length : Nat) = (W.cur - 1) % (W.rows.length : Nat)
    rw [R.cur, R.len]
  have hp : W.prv = dcr W.rows.length c := prv_dcr hc
  have hdn : dcr W.rows.length c < W.rows.length := dcr_lt hcn
  have pe : W.down.prv = dcr W.rows.length (dcr W.rows.length c) := prv_dcr e1
  have pe2 : X.W.down.prv = W.down.prv := prv_eq e2 R.len.symm
  have hpn : W.down.prv < W.rows.length := by rw [pe]; exact dcr_lt hdn
  have eS : SP X.W.down 8 = SP W.down 8 := by
    funext a b
    unfold SP
    rw [e2, pe2]
  have ok1 := clr_ok (down_ok R.okW)
  have ok2 := clr_ok (down_ok R.okX)
  have o1 := setR_ok ok1 14 (spf sz st (W.dep + 1))
  have o2 := setR_ok ok2 14 (spf sz st (W.dep + 1))
  have q1 : W.down.clr.prv = W.down.prv := prv_eq rfl (clrR_len _ _)
  have q2 : X.W.down.clr.prv = W.down.prv := by rw [← pe2]; exact prv_eq rfl (clrR_len _ _)
  rw [setR_out (by decide) (by decide), q1] at o1 ⊢
  show Rl sz st _ ⟨X.W.down.clr.setR 14 _, X.res + 1⟩ mem
  rw [setR_out (by decide) (by decide), q2] at o2 ⊢
  have l1 : ∀ q, (W.down.clr.rows.set W.down.prv q).length = W.rows.length := fun q => by rw [List.length_set]; exact clrR_len _ _
  have l2 : ∀ q, (X.W.down.clr.rows.set W.down.prv q).length = W.rows.length := fun q => by rw [List.length_set, R.len]; exact clrR_len _ _
  have cl1 : W.down.clr.rows.length = W.rows.length := clrR_len _ _
  have cl2 : X.W.down.clr.rows.length = W.rows.length := (clrR_len _ _).trans R.len.symm
  have hpn1 : W.down.prv < W.down.clr.rows.length := by rw [cl1]; exact hpn
  have hpn2 : W.down.prv < X.W.down.clr.rows.length := by rw [cl2]; exact hpn
  have pe3 : ∀ r b d s f, (BW.mk W.down.clr.sh (W.down.clr.rows.set W.down.prv r) W.down.clr.cur b d s f).prv = W.down.prv := fun r b d s f => prv_eq rfl (l1 r)
  have ke : ∀ k : Nat, k < W.rows.length → off (W.rows.length : Nat) W.down.cur (k : Nat) < X.res + 1 → W.down.prv ≠ k := fun k hk h z => by
    rw [e1] at h
    rw [pe] at z
    subst z
    unfold off dcr at h
    split at h <;> split at h <;> (try split at h) <;> omega
  have g1 : ∀ k j, (W.down.clr.rows.getD k []).getD j 0 = if SP W.down 8 k j = true then 0 else (W.rows.getD k []).getD j 0 := fun k j => clr_get _ _ _ _
  have g2 : ∀ k j, (X.W.down.clr.rows.getD k []).getD j 0 = if SP W.down 8 k j = true then 0 else (X.W.rows.getD k []).getD j 0 := fun k j => by rw [← eS]; exact clr_get _ _ _ _
  refine ⟨o1, o2, (l1 _).trans (l2 _).symm, R.sh, e2.symm, ?_, R.spi, R.fil, ?_, ?_, ?_, ?_, ?_, ?_, ?_, ?_, ?_, ?_⟩
  · show W.dep + 1 = X.W.dep + 1
    rw [R.dep]
  · show 1 ≤ X.res + 1
    omega
  · dsimp only
    rw [l1]
    omega
  · have hb := R.bar
    rw [hc] at hb
    dsimp only
    rw [l1]
    show W.bar = if W.down.cur + (X.res + 1) < (W.rows.length : Nat) then W.down.cur + (X.res + 1) else W.down.cur + (X.res + 1) - (W.rows.length : Nat)
    rw [hb, e1]
    unfold dcr
    split <;> split <;> split <;> omega
  · intro k hk h
    dsimp only at hk h ⊢
    rw [l1] at hk h
    have h : off (W.rows.length : Nat) W.down.cur (k : Nat) < X.res + 1 := h
    rw [getD_set_ne (ke k hk h), getD_set_ne (ke k hk h)]
    refine ext16 (r16 ok1 (by rw [cl1]; exact hk)) (r16 ok2 (by rw [cl2]; exact hk)) (fun j hj => ?_)
    rw [g1, g2]
    split
    · rfl
    · rename_i hS
      rw [e1, off_dcr hcn hk] at h
      by_cases z : k = dcr W.rows.length c
      · have := R.prv j (by
          unfold SP at hS
          rw [e1] at hS
          simp [z] at hS
          omega)
        rw [hp, ← z] at this
        exact this
      · rw [if_neg z] at h
        rw [R.rows k hk (by rw [hc]; omega)]
  · intro j hj
    rw [pe3]
    dsimp only
    rw [getD_set_self hpn1, getD_set_self hpn2]
    have a1 := r16 ok1 hpn1
    have a2 := r16 ok2 hpn2
    by_cases z : Int.toNat 14 = j
    · rw [← z, getD_set_self (by rw [a1]; decide), getD_set_self (by rw [a2]; decide)]
    · rw [getD_set_ne z, getD_set_ne z]
      by_cases z2 : j < 16
      · have : SP W.down 8 W.down.prv j = true := by
          unfold SP
          simp
          omega
        rw [g1, g2, if_pos this, if_pos this]
      · rw [getD_16 a1 (by omega), getD_16 a2 (by omega)]
  · show X.res + 1 ≤ W.dep + 1 + 1
    omega
  · intro k hk h h2
    dsimp only at hk h h2 ⊢
    rw [l1] at hk h h2 ⊢
    have h : off (W.rows.length : Nat) W.down.cur (k : Nat) < X.res + 1 := h
    have h2 : off (W.rows.length : Nat) W.down.cur (k : Nat) + 1 ≤ W.dep + 1 := h2
    have nk := ke k hk h
    rw [getD_set_ne nk, g1, if_neg (by unfold SP; simp; omega)]
    show _ = spf sz st (W.dep + 1 - off (W.rows.length : Nat) W.down.cur (k : Nat) - 1)
    rw [e1, off_dcr hcn hk] at h h2 ⊢
    by_cases z : k = dcr W.rows.length c
    · rw [if_pos z, z, ← hp, R.sp0]
      congr 1
      omega
    · rw [if_neg z] at h h2 ⊢
      rw [R.sp k hk (by rw [hc]; omega) (by rw [hc]; omega), hc]
      congr 1
      omega
  · rw [pe3]
    dsimp only
    rw [getD_set_self hpn1]
    exact getD_set_self (by rw [r16 ok1 hpn1]; decide)
  · intro d h1 h2
    have h2 : d ≤ W.dep + 1 - (X.res + 1) := h2
    exact R.mem d h1 (by omega)
  · have := R.sf
    show W.spi - W.fil = W.dep + 1 + 1 - (X.res + 1)
    omega
  )) only [↓Hsh.on])
end

theorem mput_in {mem r : List Int} {s : Int} (L : lies mem s) (hr : r.length = 16) {k : Nat} (hk : k < 16) : (mput mem s r).getD (s + k).toNat 0 = r.getD k 0 := Hsh.un (by simp (disch := k_dflt (
  refine Hsh.up ?_
  obtain ⟨h0, h1⟩ := L
  unfold mput
  rw [List.getD_eq_getElem?_getD, List.append_assoc, List.getElem?_append_right (by rw [List.length_take]; omega), List.length_take, List.getElem?_append_left (by omega), List.getD_eq_getElem?_getD]
  congr 2
  omega
  )) only [↓Hsh.on])
theorem mput_out {mem r : List Int} {s i : Int} (L : lies mem s) (hr : r.length = 16) (h : s + 16 ≤ i) : (mput mem s r).getD i.toNat 0 = mem.getD i.toNat 0 := Hsh.un (by simp (disch := k_dflt (
  refine Hsh.up ?_
  obtain ⟨h0, h1⟩ := L
  unfold mput
  have e : (mem.take s.toNat ++ r).length = s.toNat + 16 := by rw [List.length_append, List.length_take]; omega
  rw [List.getD_eq_getElem?_getD, List.getElem?_append_right (by omega), e, List.getElem?_drop, List.getD_eq_getElem?_getD]
  congr 2
  omega
  )) only [↓Hsh.on])
section
variable {sz st : Int} {W : BW} {X : RS} {mem : List Int}
theorem o_mod {n c : Nat} (h3 : 3 ≤ n) (hc : c < n) : ((c : Int) + ((n : Nat) - 1) - 1) % (n : Nat) = (dcr n (dcr n c) : Nat) := Hsh.un (by simp (disch := k_dflt (
  refine Hsh.up ?_
  unfold dcr
  by_cases q : c = 0
  · subst q
    rw [if_pos rfl, if_neg (by omega), Int.emod_eq_of_lt (by omega) (by omega)]
    omega
  · rw [if_neg q]
    by_cases q2 : c = 1
    · subst q2
      rw [if_pos rfl, Int.emod_eq_of_lt (by omega) (by omega)]
      omega
    · rw [if_neg (by omega), show (c : Int) + ((n : Nat) - 1) - 1 = ((c - 1 - 1 : Nat) : Int) + (n : Nat) * 1 by omega, Int.add_mul_emod_self_left, Int.emod_eq_of_lt (by omega) (by omega)]
  )) only [↓Hsh.on])
theorem Rl.spill {v : Int} (R : Rl sz st W X mem) (h : X.res = (W.rows.length : Nat) - 1) (h16 : 16 ≤ st) (hL : ∀ d, 0 ≤ d → d ≤ W.dep → lies mem (spf sz st d)) :
    X.start = (W.rows.getD (dcr W.rows.length (dcr W.rows.length W.prv)) []).getD 14 0 ∧ X.row = W.rows.getD (dcr W.rows.length W.prv) [] ∧ lies mem X.start ∧
    Rl sz st ⟨W.sh, W.rows.set W.prv (hq (W.rows.getD W.prv []) v (W.prv : Nat) (dcr W.rows.length W.prv : Nat)), W.cur, (dcr W.rows.length W.prv : Nat), W.dep, W.spi + 1, W.fil⟩ X.sp (mput mem X.start X.row) := Hsh.un (by simp (disch := k_dflt (
  refine Hsh.up ?_
  obtain ⟨c, hc⟩ : ∃ c : Nat, W.cur = (c : Nat) := ⟨W.cur.toNat, by have := R.okW.c0; omega⟩
  have hcn : c < W.rows.length := by have := R.okW.c1; omega
  have hd0 := R.d0
  have h3 := R.okW.n3
  have hp : W.prv = dcr W.rows.length c := prv_dcr hc
  have hbn : dcr W.rows.length c < W.rows.length := dcr_lt hcn
  have hon : dcr W.rows.length (dcr W.rows.length c) < W.rows.length := dcr_lt hbn
  have hpn : dcr W.rows.length (dcr W.rows.length (dcr W.rows.length c)) < W.rows.length := dcr_lt hon
  rw [hp]
  have f1 : off (W.rows.length : Nat) W.cur (dcr W.rows.length (dcr W.rows.length c) : Nat) = (W.rows.length : Nat) - 2 := by
    rw [hc]; unfold off dcr; split <;> split <;> (try split) <;> omega
  have f2 : off (W.rows.length : Nat) W.cur (dcr W.rows.length (dcr W.rows.length (dcr W.rows.length c)) : Nat) = (W.rows.length : Nat) - 3 := by
    rw [hc]; unfold off dcr; split <;> split <;> (try split) <;> (try split) <;> omega
  have oc : X.o.cur = (dcr W.rows.length (dcr W.rows.length c) : Nat) := by
    show (X.W.cur + X.res - 1) % (X.W.rows.length : Nat) = _
    rw [← R.cur, ← R.len, h, hc, o_mod h3 hcn]
  have ol : X.o.rows.length = W.rows.length := R.len.symm
  have op : X.o.prv = dcr W.rows.length (dcr W.rows.length (dcr W.rows.length c)) := by rw [prv_dcr oc, ol]
  have es : X.start = (W.rows.getD (dcr W.rows.length (dcr W.rows.length (dcr W.rows.length c))) []).getD 14 0 := by
    unfold RS.start
    rw [op, ← R.rows _ hpn (by rw [f2]; omega)]
  have er : X.row = W.rows.getD (dcr W.rows.length (dcr W.rows.length c)) [] := by
    unfold RS.row
    rw [oc, Int.toNat_natCast, ← R.rows _ hon (by rw [f1]; omega)]
  have ev : X.start = spf sz st (W.dep - X.res + 1) := by
    rw [es, R.sp _ hpn (by rw [f2]; omega) (by rw [f2]; omega), f2]
    congr 1
    omega
  have L : lies mem X.start := by
    rw [ev]
    exact hL _ (by omega) (by omega)
  have l16 : X.row.length = 16 := by rw [er]; exact r16 R.okW hon
  have l1 : ∀ q, (W.rows.set (dcr W.rows.length c) q).length = W.rows.length := fun q => List.length_set ..
  have pe : ∀ q b d s f, (BW.mk W.sh (W.rows.set (dcr W.rows.length c) q) W.cur b d s f).prv = dcr W.rows.length c := fun q b d s f => by
    refine Eq.trans (prv_eq (W2 := W) ?_ (l1 _)) hp
    rfl
  have ke : ∀ k : Nat, k < W.rows.length → off (W.rows.length : Nat) W.cur (k : Nat) < X.res → dcr W.rows.length c ≠ k := fun k hk h2 z => by
    rw [hc] at h2
    subst z
    unfold off dcr at h2
    split at h2 <;> (try split at h2) <;> omega
  have hR : X.sp.res = X.res - 1 := rfl
  refine ⟨es, er, L, ⟨R.okW.s8, ?_, R.okW.c0, ?_, ?_, ?_, ?_⟩, spiP_ok R.okX, ?_, R.sh, R.cur, R.dep, ?_, R.fil, ?_, ?_, ?_, ?_, ?_, ?_, ?_, ?_, ?_, ?_⟩
  · intro r hr
    rcases List.mem_or_eq_of_mem_set hr with h2 | rfl
    · exact R.okW.r16 _ h2
    · rw [hq_len]; exact r16 R.okW hbn
  · dsimp only; rw [l1]; exact R.okW.c1
  · dsimp only; rw [l1]; exact R.okW.n3
  · dsimp only; rw [l1]; exact R.okW.n33
  · dsimp only; omega
  · dsimp only; rw [l1]; exact R.len
  · show W.spi + 1 = X.W.spi + 1
    rw [R.spi]
  · rw [hR]; omega
  · dsimp only; rw [l1, hR]; omega
  · dsimp only
    rw [l1, hR, hc, h]
    unfold dcr
    split <;> split <;> (try split) <;> omega
  · intro k hk h2
    dsimp only at hk h2 ⊢
    rw [l1] at hk h2
    rw [hR] at h2
    rw [getD_set_ne (ke k hk (by omega))]
    exact R.rows k hk (by omega)
  · intro j hj
    rw [pe]
    dsimp only
    rw [getD_set_self hbn, hq_8 hj]
    have := R.prv j hj
    rw [hp] at this
    exact this
  · rw [hR]
    show X.res - 1 ≤ W.dep + 1
    omega
  · intro k hk h2 h4
    dsimp only at hk h2 h4 ⊢
    rw [l1] at hk h2 h4 ⊢
    rw [hR] at h2
    rw [getD_set_ne (ke k hk (by omega))]
    exact R.sp k hk (by omega) h4
  · rw [pe]
    dsimp only
    rw [getD_set_self hbn, hq_8 (by decide), ← hp]
    exact R.sp0
  · intro d h5 h6
    rw [hR] at h6
    have h6 : d ≤ W.dep - (X.res - 1) := h6
    by_cases z : d = W.dep - X.res + 1
    · rw [show spf sz st d + 14 = X.start + (14 : Nat) by rw [ev, z]; omega, mput_in L l16 (by decide), er, R.sp _ hon (by rw [f1]; omega) (by rw [f1]; omega), f1]
      congr 1
      omega
    · rw [mput_out L l16 (by rw [ev]; have := spf_gap (sz := sz) h16 (show d < W.dep - X.res + 1 by omega); omega)]
      exact R.mem d h5 (by omega)
  · have := R.sf
    rw [hR]
    show W.spi + 1 - W.fil = W.dep + 1 - (X.res - 1)
    omega
  )) only [↓Hsh.on])
theorem Rl.fill {v : Int} (R : Rl sz st W X mem) (h : X.res = 1) (h1 : 1 ≤ W.dep) (hL : ∀ d, 0 ≤ d → d ≤ W.dep → lies mem (spf sz st d)) {c : Nat} (hc : W.cur = (c : Nat)) :
    X.startU = (W.rows.getD c []).getD 14 0 ∧ lies mem X.startU ∧
    Rl sz st ⟨W.sh, (W.rows.set W.prv (hq (W.rows.getD W.prv []) v (icr W.rows.length c : Nat) (icr W.rows.length (icr W.rows.length c) : Nat))).set (icr W.rows.length c) (mcut mem X.startU), W.cur, (icr W.rows.length (icr W.rows.length c) : Nat), W.dep, W.spi, W.fil + 1⟩ (X.fl mem) mem := Hsh.un (by simp (disch := k_dflt (
  refine Hsh.up ?_
  have hcn : c < W.rows.length := by have := R.okW.c1; omega
  have h3 := R.okW.n3
  have hp : W.prv = dcr W.rows.length c := prv_dcr hc
  have hbn : dcr W.rows.length c < W.rows.length := dcr_lt hcn
  have hun : icr W.rows.length c < W.rows.length := icr_lt hcn
  rw [hp]
  have f0 : off (W.rows.length : Nat) W.cur (c : Nat) = 0 := by rw [hc]; unfold off; rw [if_pos (by omega)]; omega
  have f1 : off (W.rows.length : Nat) W.cur (icr W.rows.length c : Nat) = 1 := by
    rw [hc]; unfold off icr; split <;> (try split) <;> omega
  have hbu : icr W.rows.length c ≠ dcr W.rows.length c := by unfold icr dcr; split <;> split <;> omega
  have es : X.startU = (W.rows.getD c []).getD 14 0 := by
    unfold RS.startU
    rw [← R.cur, hc, Int.toNat_natCast, ← R.rows c hcn (by rw [f0]; omega)]
  have ev : X.startU = spf sz st (W.dep - 1) := by
    rw [es, R.sp c hcn (by rw [f0]; omega) (by rw [f0]; omega), f0]
    congr 1
    omega
  have L : lies mem X.startU := by
    rw [ev]
    exact hL _ (by omega) (by omega)
  have lc := mcut_len L
  have ec : (X.W.to (X.W.cur + 1)).cur.toNat = icr W.rows.length c := by
    show ((X.W.cur + 1) % (X.W.rows.length : Nat)).toNat = _
    rw [← R.cur, ← R.len, hc, icr_mod hcn, Int.toNat_natCast]
  have xr : (X.fl mem).W.rows = X.W.rows.set (icr W.rows.length c) (mcut mem X.startU) := by
    show X.W.rows.set (X.W.to (X.W.cur + 1)).cur.toNat _ = _
    rw [ec]
  have l1 : ∀ q r, ((W.rows.set (dcr W.rows.length c) q).set (icr W.rows.length c) r).length = W.rows.length := fun q r => by rw [List.length_set, List.length_set]
  have pe : ∀ q r b d s f, (BW.mk W.sh ((W.rows.set (dcr W.rows.length c) q).set (icr W.rows.length c) r) W.cur b d s f).prv = dcr W.rows.length c := fun q r b d s f => by
    refine Eq.trans (prv_eq (W2 := W) ?_ (l1 _ _)) hp
    rfl
  have hu2 : icr W.rows.length c < X.W.rows.length := by rw [← R.len]; exact hun
  have hR : (X.fl mem).res = X.res + 1 := rfl
  have two : ∀ k : Nat, k < W.rows.length → off (W.rows.length : Nat) W.cur (k : Nat) < 2 → k = c ∨ k = icr W.rows.length c := fun k hk h2 => by
    rw [hc] at h2
    unfold off at h2
    unfold icr
    split at h2 <;> split <;> omega
  have hcb : dcr W.rows.length c ≠ c := by unfold dcr; split <;> omega
  have hcu : icr W.rows.length c ≠ c := by unfold icr; split <;> omega
  refine ⟨es, L, ⟨R.okW.s8, ?_, R.okW.c0, ?_, ?_, ?_, ?_⟩, fl_ok R.okX lc, ?_, R.sh, R.cur, R.dep, R.spi, ?_, ?_, ?_, ?_, ?_, ?_, ?_, ?_, ?_, ?_, ?_⟩
  · intro r hr
    rcases List.mem_or_eq_of_mem_set hr with h2 | rfl
    · rcases List.mem_or_eq_of_mem_set h2 with h2 | rfl
      · exact R.okW.r16 _ h2
      · rw [hq_len]; exact r16 R.okW hbn
    · exact lc
  · dsimp only; rw [l1]; exact R.okW.c1
  · dsimp only; rw [l1]; exact R.okW.n3
  · dsimp only; rw [l1]; exact R.okW.n33
  · dsimp only; omega
  · rw [xr]
    dsimp only
    rw [l1, List.length_set]
    exact R.len
  · show W.fil + 1 = X.W.fil + 1
    rw [R.fil]
  · rw [hR]; omega
  · dsimp only; rw [l1, hR]; omega
  · dsimp only
    rw [l1, hR, hc, h]
    unfold icr
    split <;> split <;> (try split) <;> omega
  · intro k hk h2
    rw [xr]
    dsimp only at hk h2 ⊢
    rw [l1] at hk h2
    rw [hR, h] at h2
    rcases two k hk (by omega) with rfl | rfl
    · rw [getD_set_ne hcu, getD_set_ne hcb, getD_set_ne hcu]
      exact R.rows k hk (by rw [f0]; omega)
    · rw [getD_set_self (by rw [List.length_set]; exact hun), getD_set_self hu2]
  · intro j hj
    rw [pe, xr]
    dsimp only
    rw [getD_set_ne hbu, getD_set_self hbn, hq_8 hj, getD_set_ne hbu]
    have := R.prv j hj
    rw [hp] at this
    exact this
  · rw [hR]
    show X.res + 1 ≤ W.dep + 1
    omega
  · intro k hk h2 h4
    dsimp only at hk h2 h4 ⊢
    rw [l1] at hk h2 h4 ⊢
    rw [hR, h] at h2
    rcases two k hk (by omega) with rfl | rfl
    · rw [getD_set_ne hcu, getD_set_ne hcb]
      exact R.sp k hk (by rw [f0]; omega) h4
    · rw [f1] at h4 ⊢
      rw [getD_set_self (by rw [List.length_set]; exact hun), ← mcut_get L (by decide), ev, show spf sz st (W.dep - 1) + ((14 : Nat) : Int) = spf sz st (W.dep - 1) + 14 by omega, R.mem (W.dep - 1) (by omega) (by omega)]
  · rw [pe]
    dsimp only
    rw [getD_set_ne hbu, getD_set_self hbn, hq_8 (by decide), ← hp]
    exact R.sp0
  · intro d h5 h6
    rw [hR] at h6
    have h6 : d ≤ W.dep - (X.res + 1) := h6
    exact R.mem d h5 (by omega)
  · have := R.sf
    rw [hR]
    show W.spi - (W.fil + 1) = W.dep + 1 - (X.res + 1)
    omega
  )) only [↓Hsh.on])
end

theorem eqInts : ∀ ns : List Int, PyData.eqvAll (ns.map PyData.int) (ns.map PyData.int) = true
  | [] => rfl
  | i :: l => by
    rw [List.map_cons, PyData.eqvAll, eqInts l]
    simp [PyData.eqv]
theorem dpInts {K : PySem.W.Frag} {H : Hp} : ∀ ns : List Int, DpAll K H (ns.map V.int) (ns.map PyData.int)
  | [] => .nil
  | i :: l => .cons (.int i) (dpInts l)
theorem layInts : ∀ ns : List Int, PyData.canLayAll0 (ns.map PyData.int) = true ∧ PyData.depthAll (ns.map PyData.int) = 0
  | [] => ⟨rfl, rfl⟩
  | i :: l => by
    have ih := layInts l
    exact ⟨by rw [List.map_cons, PyData.canLayAll0, ih.1]; rfl, by rw [List.map_cons, PyData.depthAll, ih.2]; rfl⟩
theorem shInts (ns : List Int) : SeqAt.shaped (.list (ns.map PyData.int)) = true := Hsh.un (by simp (disch := k_dflt (
  refine Hsh.up ?_
  have h := layInts ns
  unfold SeqAt.shaped
  rw [PyData.canLay0, PyData.depth, h.1, h.2]
  rfl
  )) only [↓Hsh.on])
theorem s_eqM {K : PySem.W.Frag} {H : Hp} {p q : Addr} {Q : VK} (ns : List Int) (h1 : H p = some (mO ns)) (h2 : H q = some (mO ns)) (h : Q (.bl true) H) : rEqX K (.ref p) (.ref q) H Q :=
  s_eqD (.lst (SqL.of h1) (dpInts ns)) (.lst (SqL.of h2) (dpInts ns)) (shInts ns) (shInts ns) (by rw [PyData.eqv]; exact eqInts ns) h
/-- the banks and the ring with their memories -/
abbrev BG (K : PySem.W.Frag) (B G : BA) (m1 m2 : Addr) (W : BW) (X : RS) (mem : List Int) : List Cell := ((m1, mO mem) :: bCells K B W) ++ LR K G m2 mem X
theorem SH.callF {A : List Addr} {H0 H H' : Hp} {F X Y X' : List Cell} (hS : SH A H0 H (F ++ (X ++ Y))) (C : SH (X.map (·.1)) H H' X') : SH A H0 H' (F ++ (X' ++ Y)) := Hsh.un (by simp (disch := k_dflt (
  refine Hsh.up ?_
  have h := SH.call (B := X) (F := Y ++ F) (hS.perm (by rw [← List.append_assoc X Y F]; exact List.perm_append_comm)) C
  refine h.perm ?_
  rw [← List.append_assoc X' Y F]
  exact List.perm_append_comm
  )) only [↓Hsh.on])
theorem SH.callB {A : List Addr} {H0 H H' : Hp} {F : List Cell} {c : Cell} {X Y X' : List Cell} (hS : SH A H0 H (F ++ ((c :: X) ++ Y))) (C : SH (X.map (·.1)) H H' X') : SH A H0 H' (F ++ ((c :: X') ++ Y)) := Hsh.un (by simp (disch := k_dflt (
  refine Hsh.up ?_
  have h := SH.callF (F := F ++ [c]) (X := X) (Y := Y) (by rw [List.append_assoc]; exact hS) C
  rw [List.append_assoc] at h
  exact h
  )) only [↓Hsh.on])
theorem SH.callG {A : List Addr} {H0 H H' : Hp} {F X Y Y' : List Cell} (hS : SH A H0 H (F ++ (X ++ Y))) (C : SH (Y.map (·.1)) H H' Y') : SH A H0 H' (F ++ (X ++ Y')) := by
  rw [← List.append_assoc] at hS ⊢
  exact hS.callR C
theorem SH.blkF {A : List Addr} {H0 H : Hp} {F X Y : List Cell} (hS : SH A H0 H (F ++ (X ++ Y))) : Blk H X := SH.blkR (Y ++ F) X (hS.perm (by
  refine List.perm_append_comm.trans ?_
  rw [List.append_assoc]
  exact List.perm_append_comm))
theorem SH.blkG {A : List Addr} {H0 H : Hp} {F X Y : List Cell} (hS : SH A H0 H (F ++ (X ++ Y))) : Blk H Y := SH.blkR (F ++ X) Y (by rw [List.append_assoc]; exact hS)
theorem SH.blkB {A : List Addr} {H0 H : Hp} {F X Y : List Cell} {c : Cell} (hS : SH A H0 H (F ++ ((c :: X) ++ Y))) : Blk H X := SH.blkF (F := F ++ [c]) (X := X) (Y := Y) (by rw [List.append_assoc]; exact hS)
def sp_z_both (K : PySem.W.Frag) : Sp := mk4 fun a b c d H Q _ => ∃ (B G : BA) (m1 m2 : Addr) (W : BW) (X : RS) (mem : List Int) (v n : Int), a = .ref B.b ∧ b = .ref G.b ∧ c = .int v ∧ d = .int n ∧ Blk H (BG K B G m1 m2 W X mem) ∧ W.ok ∧ X.W.ok ∧ B.rs.length = W.rows.length ∧ G.rs.length = X.W.rows.length ∧ 0 ≤ n ∧ n < 32 ∧
  ∀ H', SH ((BG K B G m1 m2 W X mem).map (·.1)) H H' (BG K B G m1 m2 (W.setR n v) ⟨X.W.setR n v, X.res⟩ mem) → Q .non H'
theorem ok_z_both {P : Program} {w : World} {K : PySem.W.Frag} {mg : Str → Option Value} {base : Heap} (Y : Env w K mg) (G_Banks_write : MethOk P w K mg base CX0 2 "Banks" "write" ["self", "number", "word"] (sp_Banks_write K)) (G_Ring_write : MethOk P w K mg base CX0 2 "Ring" "write" ["self", "number", "word"] (sp_Ring_write K)) : CallOk P w K mg base CX0 3 "_law_both" ["_law_banks", "_law_ring", "_law_word_here", "_law_number"] (sp_z_both K) := Hsh.un (by simp (disch := k_dflt (
  refine Hsh.up ?_
  obtain ⟨fd, F⟩ := Y.fd_z_both
  refine ⟨_, fd, Y.mg_z_both, F.kp, F.bindsN (fun _ _ _ _ _ _ us hl => match us, hl with | [_, _, _, _], _ => rfl), F.ok sc_z_both mk4_len (fun cdv A outer s H vs Q E hr h => ?_)⟩
  have hu := hu_room hr
  obtain ⟨_, _, _, _, rfl, B, G, m1, m2, W, X, mem, v, n, rfl, rfl, rfl, rfl, hB, ok, ok2, hl, hl2, h0, h1, k⟩ := h
  have hS : SH ((BG K B G m1 m2 W X mem).map (·.1)) H H (BG K B G m1 m2 W X mem) := hB.sh
  refine ⟨_, PSs.nox (pss_cons (ps_expr (pe_methG (pv 0) G_Banks_write hr pass0 (pa_cons (pv 3) (pa_cons (pv 2) pa_nil))))
  (pss_one (ps_expr (pe_methG (pv 1) G_Ring_write hr pass0 (pa_cons (pv 3) (pa_cons (pv 2) pa_nil)))))), ?_⟩
  rw [st_z_both]
  try simp only [cxK, cxK2, cxW, cxW2]
  clear hu hr F
  repeat' walk_at "st"
  refine ⟨_, _, _, rfl, B, W, n, v, rfl, rfl, rfl, SH.blkB (F := []) hS, ok, hl, h0, h1, fun H1 C => ?_⟩
  have hS : SH ((BG K B G m1 m2 W X mem).map (·.1)) H H1 (BG K B G m1 m2 (W.setR n v) X mem) := SH.callB (F := []) hS C
  have hg := hS.hs (G.b, _) (List.mem_append_right _ (.tail _ (.head _)))
  repeat' walk_at "st"
  refine ⟨_, _, _, rfl, G, m2, X.W, X.res, n, v, rfl, rfl, rfl, SH.blkR (((m1, mO mem) :: bCells K B (W.setR n v)) ++ [(m2, mO mem)]) _ (by rw [List.append_assoc]; exact hS), ok2, hl2, h0, h1, fun H2 C2 => ?_⟩
  have hS := SH.callR (F := ((m1, mO mem) :: bCells K B (W.setR n v)) ++ [(m2, mO mem)]) (by rw [List.append_assoc]; exact hS) C2
  rw [List.append_assoc] at hS
  repeat' walk_at "st"
  exact k _ hS
  )) only [↓Hsh.on])
def sp_z_same (K : PySem.W.Frag) : Sp := mk3 fun a b c H Q _ => ∃ (B G : BA) (m1 m2 mp : Addr) (W : BW) (X : RS) (mem : List Int) (sz st : Int), a = .ref B.b ∧ b = .ref G.b ∧ c = .ref mp ∧ (∀ c ∈ BG K B G m1 m2 W X mem, H c.1 = some c.2) ∧ H mp = some (.lst [.ref m1, .ref m2]) ∧ Rl sz st W X mem ∧ B.rs.length = W.rows.length ∧ G.rs.length = X.W.rows.length ∧
  ∀ H', Keep [] H H' → Q (.bl true) H'
section
 local macro_rules | `(tactic| walk_at "st") => `(tactic| first
  | ((with_reducible apply s_eqM); (· walk_at "hp"); (· walk_at "hp"))
  | fail)
theorem ok_z_same {P : Program} {w : World} {K : PySem.W.Frag} {mg : Str → Option Value} {base : Heap} (Y : Env w K mg) (G_Banks_read : MethOk P w K mg base CX0 2 "Banks" "read" ["self", "number"] (sp_Banks_read K)) (G_Ring_read : MethOk P w K mg base CX0 2 "Ring" "read" ["self", "number"] (sp_Ring_read K)) (G_z_is_integer : CallOk P w K mg base CX0 1 "_law_is_integer" ["_law_actual"] (sp_z_is_integer K)) : CallOk P w K mg base CX0 3 "_law_same" ["_law_banks", "_law_ring", "_law_memories"] (sp_z_same K) := Hsh.un (by simp (disch := k_dflt (
  refine Hsh.up ?_
  obtain ⟨fd, F⟩ := Y.fd_z_same
  refine ⟨_, fd, Y.mg_z_same, F.kp, F.bindsN (fun _ _ _ _ _ _ us hl => match us, hl with | [_, _, _], _ => rfl), F.ok sc_z_same mk3_len (fun cdv A outer s H vs Q E hr h => ?_)⟩
  have hu := hu_room hr
  obtain ⟨_, _, _, rfl, B, G, m1, m2, mp, W, X, mem, sz, st, rfl, rfl, rfl, hB, hmp, R, hl, hl2, k⟩ := h
  have hS : SH [] H H [] := SH.start0
  have hb := hB (B.b, _) (.tail _ (.head _))
  have hg := hB (G.b, _) (List.mem_append_right _ (.tail _ (.head _)))
  have hm1 := hB (m1, _) (.head _)
  have hm2 := hB (m2, _) (List.mem_append_right _ (.head _))
  refine ⟨_, PSs.nox (pss_cons (ps_for PassesOwn.never rfl (pi_range1 rfl Y.z_range (pa_cons pe_int pa_nil)) (pg_name (i := 3) sc_z_same.nd rfl (Or.inl rfl))
  (pss_cons (ps_set (i := 4) sc_z_same.nd rfl (Or.inl rfl) (pe_methG (pv 0) G_Banks_read hr pass0 (pa_cons (pv 3) pa_nil)))
  (pss_cons (ps_set (i := 5) sc_z_same.nd rfl (Or.inl rfl) (pe_methG (pv 1) G_Ring_read hr pass0 (pa_cons (pv 3) pa_nil)))
  (pss_one (ps_if (PW.pt (pw_or (pt_not (pt_val (pe_callG G_z_is_integer (hr.mono (by decide)) rfl pass0 (pa_cons (pv 4) pa_nil)))) (pw_or (pt_not (pt_val (pe_callG G_z_is_integer (hr.mono (by decide)) rfl pass0 (pa_cons (pv 5) pa_nil)))) (pw_or1 (pt_cmpR (xNe hu) (pv 4) (pv 5) (nomark _)))))) (pss_one (ps_ret pe_bl)) pss_nil)))))
  (pss_cons (ps_set (i := 6) sc_z_same.nd rfl (Or.inl rfl) (pe_lst (pa_cons (pe_fld (pv 0) rfl) (pa_cons (pe_fld (pv 0) rfl) (pa_cons (pe_fld (pv 0) rfl) pa_nil)))))
  (pss_cons (ps_set (i := 5) sc_z_same.nd rfl (Or.inl rfl) (pe_lst (pa_cons (pe_fld (pv 1) rfl) (pa_cons (pe_fld (pv 1) rfl) (pa_cons (pe_fld (pv 1) rfl) pa_nil)))))
  (pss_one (ps_ret (pe_and (pe_cmpR (xEq hu) (pv 6) (pv 5) (nomark _)) (pe_one (pe_cmpR (xEq hu) (pe_ix xIx (pv 2) pe_int (fun _ _ => rfl)) (pe_ix xIx (pv 2) pe_int (fun _ _ => rfl)) (nomark _))))))))), ?_⟩
  rw [st_z_same]
  try simp only [cxK, cxK2, cxW, cxW2]
  clear hu hr F
  repeat' walk_at "st"
  refine u_forR1 (fun i σ H' => ∃ v4 v5 v6 v3, σ = [some (.ref B.b), some (.ref G.b), some (.ref mp), v3, v4, v5, v6] ∧ SH [] H H' []) (by decide) (by decide) ⟨_, _, _, _, rfl, hS⟩ ?_ ?_
  · clear hS
    rintro i σ H1 hi ⟨v4, v5, v6, v3, rfl, hS⟩
    have kb : ∀ c ∈ BG K B G m1 m2 W X mem, H1 c.1 = some c.2 := fun c hc => hS.kp.k _ _ (hB c hc) (.inl (by simp))
    have hb := kb (B.b, _) (.tail _ (.head _))
    have hg := kb (G.b, _) (List.mem_append_right _ (.tail _ (.head _)))
    repeat' walk_at "st"
    refine c_Banks_read hS (fun c hc => hS.kp.k _ _ (hB c (List.mem_append_left _ (List.mem_cons_of_mem _ hc))) (.inl (by simp))) R.okW hl (by omega) (by omega) (fun H2 hS2 _ => ?_)
    clear hS; rename SH _ _ _ _ => hS
    have hg := hS.kp.k _ _ (hB (G.b, _) (List.mem_append_right _ (.tail _ (.head _)))) (.inl (by simp))
    repeat' walk_at "st"
    refine c_Ring_read hS (fun c hc => hS.kp.k _ _ (hB c (List.mem_append_right _ (List.mem_cons_of_mem _ hc))) (.inl (by simp))) R.okX hl2 (by omega) (by omega) (fun H3 hS3 _ => ?_)
    clear hS; rename SH _ _ _ _ => hS
    rw [← R.get (by omega)]
    repeat' walk_at "st"
    exact ⟨_, _, _, _, rfl, hS⟩
  · clear hS
    rintro σ H1 ⟨v4, v5, v6, v3, rfl, hS⟩
    have kb : ∀ c ∈ BG K B G m1 m2 W X mem, H1 c.1 = some c.2 := fun c hc => hS.kp.k _ _ (hB c hc) (.inl (by simp))
    have hb := kb (B.b, _) (.tail _ (.head _))
    have hg := kb (G.b, _) (List.mem_append_right _ (.tail _ (.head _)))
    have hm1 := kb (m1, _) (.head _)
    have hm2 := kb (m2, _) (List.mem_append_right _ (.head _))
    repeat' walk_at "st"
    · exact k _ hS.kp
    · exfalso
      rw [← R.dep, ← R.spi, ← R.fil] at hc
      simp [PyData.eqv, PyData.eqvAll] at hc
  )) only [↓Hsh.on])
end

abbrev LD (K : PySem.W.Frag) (pst sc : Addr) (x g n : Int) (B G : BA) (m1 m2 : Addr) (W : BW) (X : RS) (mem : List Int) : List Cell := [(pst, stO sc x g n)] ++ BG K B G m1 m2 W X mem
theorem blocked_dn {sz st : Int} {W : BW} {X : RS} {mem : List Int} (R : Rl sz st W X mem) : (W.cur - 1) % (W.rows.length : Nat) = W.bar ↔ X.res = (W.rows.length : Nat) - 1 := Hsh.un (by simp (disch := k_dflt (
  refine Hsh.up ?_
  obtain ⟨c, hc⟩ : ∃ c : Nat, W.cur = (c : Nat) := ⟨W.cur.toNat, by have := R.okW.c0; omega⟩
  have hcn : c < W.rows.length := by have := R.okW.c1; omega
  have h1 := R.r1
  have h2 := R.r2
  have hb := R.bar
  rw [hc, dcr_mod hcn]
  rw [hc] at hb
  rw [hb]
  unfold dcr
  split <;> split <;> omega
  )) only [↓Hsh.on])
theorem blocked_up {sz st : Int} {W : BW} {X : RS} {mem : List Int} (R : Rl sz st W X mem) : (W.cur + 1) % (W.rows.length : Nat) = W.bar ↔ X.res = 1 := Hsh.un (by simp (disch := k_dflt (
  refine Hsh.up ?_
  obtain ⟨c, hc⟩ : ∃ c : Nat, W.cur = (c : Nat) := ⟨W.cur.toNat, by have := R.okW.c0; omega⟩
  have hcn : c < W.rows.length := by have := R.okW.c1; omega
  have h1 := R.r1
  have h2 := R.r2
  have hb := R.bar
  rw [hc, icr_mod hcn]
  rw [hc] at hb
  rw [hb]
  unfold icr
  split <;> split <;> omega
  )) only [↓Hsh.on])
theorem bar_nn {sz st : Int} {W : BW} {X : RS} {mem : List Int} (R : Rl sz st W X mem) : ¬ W.bar = -1 := Hsh.un (by simp (disch := k_dflt (
  refine Hsh.up ?_
  have h0 := R.okW.c0
  have h1 := R.r1
  have hb := R.bar
  rw [hb]
  split <;> omega
  )) only [↓Hsh.on])
/-- the banks and the ring: the ring may have to move a row first -/
def Rdy (sz st : Int) (W : BW) (X : RS) (mem : List Int) (W1 : BW) (X1 : RS) (mem1 : List Int) : Prop :=
  Rl sz st W1 X1 mem1 ∧ X1.res ≠ (W1.rows.length : Nat) - 1 ∧ W1.rows.length = W.rows.length ∧ W1.dep = W.dep ∧ mem1.length = mem.length ∧
  ((X.res ≠ (X.W.rows.length : Nat) - 1 ∧ X1 = X ∧ mem1 = mem) ∨ (X.res = (X.W.rows.length : Nat) - 1 ∧ lies mem X.start ∧ X1 = X.sp ∧ mem1 = mput mem X.start X.row))
abbrev LE (K : PySem.W.Frag) (pst sc : Addr) (x g n : Int) (B G : BA) (m1 m2 : Addr) (W : BW) (X : RS) (mem1 mem : List Int) : List Cell := [(pst, stO sc x g n)] ++ (((m1, mO mem1) :: bCells K B W) ++ LR K G m2 mem X)
/-- a down of both -/
def sp_z_down (K : PySem.W.Frag) : Sp := mk5 fun a b c d e H Q _ => ∃ (pst sc : Addr) (ns : List Int) (x g n : Int) (B G : BA) (m1 m2 : Addr) (W : BW) (X : RS) (mem : List Int) (sz st : Int), a = .ref pst ∧ b = .ref B.b ∧ c = .ref G.b ∧ d = .ref m1 ∧ e = .int (W.rows.length : Nat) ∧
  Blk H (LD K pst sc x g n B G m1 m2 W X mem) ∧ Scr K H sc (ns.map V.int) ∧ 0 ≤ x ∧ 0 ≤ g ∧ Rl sz st W X mem ∧ B.rs.length = W.rows.length ∧ G.rs.length = X.W.rows.length ∧ 16 ≤ st ∧ (∀ d, 0 ≤ d → d ≤ W.dep → lies mem (spf sz st d)) ∧ mem.length ≤ 1000 ∧
  ∀ x g n W1 X1 mem1 H', 0 ≤ x → 0 ≤ g → Rl sz st W1 X1 mem1 → X1.res ≠ (W1.rows.length : Nat) - 1 → W1.rows.length = W.rows.length → W1.dep = W.dep → mem1.length = mem.length →
    SH ((LD K pst sc x g n B G m1 m2 W X mem).map (·.1)) H H' (LD K pst sc x g n B G m1 m2 W1.down.clr X1.dn mem1) → Q (.bl true) H'
theorem ok_z_down {P : Program} {w : World} {K : PySem.W.Frag} {mg : Str → Option Value} {base : Heap} (Y : Env w K mg) (G_Banks_blocked_down : MethOk P w K mg base CX0 1 "Banks" "blocked_down" ["self"] (sp_Banks_blocked_down K)) (G_Banks_shift_down : MethOk P w K mg base CX0 2 "Banks" "shift_down" ["self"] (sp_Banks_shift_down K)) (G_Banks_trap_down : MethOk P w K mg base CX0 3 "Banks" "trap_down" ["self", "address"] (sp_Banks_trap_down K)) (G_Ring_shift_down : MethOk P w K mg base (L2N.CX P w) 3 "Ring" "shift_down" ["self"] (sp_Ring_shift_down K)) (G_z_handle : CallOk P w K mg base CX0 4 "_law_handle" ["_law_banks", "_law_memory", "_law_rows", "_law_address"] (sp_z_handle K)) (G_z_pick : CallOk P w K mg base CX0 1 "_law_pick" ["_law_state", "_law_limit"] (sp_z_pick K)) (G_z_spill : CallOk P w K mg base CX0 1 "_law_spill" ["_law_windows"] (sp_z_spill K)) : CallOk P w K mg base (L2N.CX P w) 5 "_law_down" ["_law_state", "_law_banks", "_law_ring", "_law_memory", "_law_windows"] (sp_z_down K) := Hsh.un (by simp (disch := k_dflt (
  refine Hsh.up ?_
  obtain ⟨fd, F⟩ := Y.fd_z_down
  refine ⟨_, fd, Y.mg_z_down, F.kp, F.bindsN (fun _ _ _ _ _ _ us hl => match us, hl with | [_, _, _, _, _], _ => rfl), F.ok sc_z_down mk5_len (fun cdv A outer s H vs Q E hr h => ?_)⟩
  have hu := hu_room hr
  obtain ⟨_, _, _, _, _, rfl, pst, sc, ns, x0, g0, n0, B, G, m1, m2, W, X, mem, sz, st, rfl, rfl, rfl, rfl, rfl, hB, hs, hx, hg, R, hl, hl2, h16, hL, h1000, k⟩ := h
  have hS : SH ((LD K pst sc x0 g0 n0 B G m1 m2 W X mem).map (·.1)) H H (LD K pst sc x0 g0 n0 B G m1 m2 W X mem) := hB.sh
  have hb := hB.hs (B.b, _) (.tail _ (.tail _ (.head _)))
  have h3 := R.okW.n3
  refine ⟨_, (pss_cutG (ps_if (pt_val (pe_methG0 (pv 1) G_Banks_blocked_down (hr.mono (by decide)) pass0)) (pss_cons (ps_set (i := 5) sc_z_down.nd rfl (Or.inl rfl) (pe_callG G_z_pick (hr.mono (by decide)) rfl pass0 (pa_cons (pv 0) (pa_cons pe_int pa_nil))))
  (pss_cons (ps_expr (pe_methG (pv 1) G_Banks_trap_down (hr.mono (by decide)) pass0 (pa_cons (pv 5) pa_nil)))
  (pss_one (ps_if (PW.pt (pw_or (pt_not (pt_val (pe_callG G_z_handle hr rfl pass0 (pa_cons (pv 1) (pa_cons (pv 3) (pa_cons (pe_callG G_z_spill (hr.mono (by decide)) rfl pass0 (pa_cons (pv 4) pa_nil)) (pa_cons (pv 5) pa_nil))))))) (pw_or1 (pt_val (pe_methG0 (pv 1) G_Banks_blocked_down (hr.mono (by decide)) pass0))))) (pss_one (ps_ret pe_bl)) pss_nil)))) pss_nil)
  (pss_cons (ps_expr (pe_methG0 (pv 1) G_Banks_shift_down (hr.mono (by decide)) pass0))
  (pss_cons (ps_expr (pe_methG0 (pv 2) G_Ring_shift_down (hr.mono (by decide)) (L2N.passes_call (L2N.takes_of rfl rfl rfl rfl) (fun _ _ _ _ h => h))))
  (pss_one (ps_ret pe_bl))))), ?_⟩
  rw [st_z_down]
  try simp only [cxK, cxK2, cxW, cxW2]
  clear hu hr F
  repeat' walk_at "st"
  refine s_cutG (fun σ H' => ∃ v5 x g n W1 X1 mem1, σ = [some (.ref pst), some (.ref B.b), some (.ref G.b), some (.ref m1), some (.int (W.rows.length : Nat)), v5] ∧ 0 ≤ x ∧ 0 ≤ g ∧ Rdy sz st W X mem W1 X1 mem1 ∧ SH ((LD K pst sc x0 g0 n0 B G m1 m2 W X mem).map (·.1)) H H' (LE K pst sc x g n B G m1 m2 W1 X mem1 mem)) ?_ ?_
  · repeat' walk_at "st"
    refine ⟨_, rfl, B, W, rfl, fun c hc => hS.hs c (.tail _ (.tail _ (List.mem_append_left _ hc))), by omega, ?_⟩
    repeat' walk_at "st"
    · refine c_z_pick hS (i := 0) rfl hs hx hg (by decide) (by decide) (fun r x1 g1 n1 H1 hr0 hr1 hx1 hg1 hS1 => ?_)
      clear hS
      have hS : SH ((LD K pst sc x0 g0 n0 B G m1 m2 W X mem).map (·.1)) H H1 (LD K pst sc x1 g1 n1 B G m1 m2 W X mem) := hS1
      have hb := hS.hs (B.b, _) (.tail _ (.tail _ (.head _)))
      repeat' walk_at "st"
      refine ⟨_, _, rfl, B, W, r, rfl, rfl, SH.blkB (F := [_]) hS, R.okW, hl, fun H2 C => ?_⟩
      have hS := SH.callB (F := [_]) hS C
      have hres := (blocked_dn R).mp hc
      repeat' walk_at "st"
      obtain ⟨es, er, L, R1⟩ := R.spill (v := r) hres h16 hL
      have hbar : W.bar = (W.prv : Nat) := by
        obtain ⟨c, hcc⟩ : ∃ c : Nat, W.cur = (c : Nat) := ⟨W.cur.toNat, by have := R.okW.c0; omega⟩
        rw [← hc, hcc, dcr_mod (by have := R.okW.c1; omega), prv_dcr hcc]
      obtain ⟨T, run, had, hup, hmem⟩ := spill_runs (v := r) R.okW rfl rfl hbar (es ▸ L)
      rw [← es, ← er] at hmem
      rw [← hup, ← hmem] at R1
      have hS : SH ((LD K pst sc x0 g0 n0 B G m1 m2 W X mem).map (·.1)) H H1 (HL K B p m1 ps ((W.down.setR 17 r).spiP, mem) ++ ([(pst, stO sc x1 g1 n1)] ++ LR K G m2 mem X)) := hS.perm (List.Perm.cons _ (by exact (List.perm_middle (l₁ := (m1, mO mem) :: bCells K B (W.down.setR 17 r).spiP)).symm))
      refine ⟨_, _, _, _, rfl, B, p, m1, ((W.down.setR 17 r).spiP, mem), T, ps, _, r, rfl, rfl, rfl, rfl, SH.blkR ([(pst, stO sc x1 g1 n1)] ++ LR K G m2 mem X) _ (hS.perm List.perm_append_comm), pg.cast rfl rfl, spiP_ok (setR_ok (down_ok R.okW) _ _), ?_, run, had, fun H3 C3 => ?_⟩
      · exact hl.trans (show W.rows.length = _ from (set_len W.down 17 r).symm)
      · have hS := SH.call hS C3
        have hS := (hS.sub (List.sublist_cons_self _ _)).perm (by exact List.perm_middle (l₁ := (m1, mO T.2) :: bCells K B T.1.up))
        have hS : SH ((LD K pst sc x0 g0 n0 B G m1 m2 W X mem).map (·.1)) H H3 (LE K pst sc x1 g1 n1 B G m1 m2 T.1.up X T.2 mem) := hS
        have hb := hS.hs (B.b, _) (.tail _ (.tail _ (.head _)))
        have l1 : T.1.up.rows.length = W.rows.length := R1.len.trans R.len.symm
        have hsr : X.sp.res = X.res - 1 := rfl
        have nr : X.sp.res ≠ (T.1.up.rows.length : Nat) - 1 := by rw [l1, hsr]; omega
        repeat' walk_at "st"
        refine ⟨_, rfl, B, T.1.up, rfl, fun c hc => hS.hs c (.tail _ (.tail _ (List.mem_append_left _ hc))), by omega, ?_⟩
        rw [decide_eq_false (fun z => nr ((blocked_dn R1).mp z))]
        repeat' walk_at "st"
        refine ⟨_, x1, g1, n1, T.1.up, X.sp, T.2, rfl, hx1, hg1, ⟨R1, nr, l1, R1.dep.trans R.dep.symm, ?_, .inr ⟨by rw [← R.len]; exact hres, L, rfl, hmem⟩⟩, hS⟩
        rw [hmem]
        exact mput_len L (by rw [er]; exact r16 R.okW (dcr_lt (BW.prv_lt R.okW)))
    · refine ⟨_, x0, g0, n0, W, X, mem, rfl, hx, hg, ⟨R, fun z => hc ((blocked_dn R).mpr z), rfl, rfl, rfl, .inl ⟨fun z => hc ((blocked_dn R).mpr (by rw [R.len]; exact z)), rfl, rfl⟩⟩, hS⟩
  · clear hS hx hg
    rintro σ H1 ⟨v5, x, g, n, W1, X1, mem1, rfl, hx, hg, ⟨R1, hr1, len1, dep1, ml1, alt⟩, hS⟩
    have hb := hS.hs (B.b, _) (.tail _ (.tail _ (.head _)))
    repeat' walk_at "st"
    refine ⟨_, rfl, B, W1, rfl, SH.blkB (F := [_]) hS, R1.okW, hl.trans len1.symm, fun H2 C => ?_⟩
    have hS := SH.callB (F := [_]) hS C
    rw [downC_pos (bar_nn R1)] at hS
    have hg2 := hS.hs (G.b, _) (List.mem_append_right [_] (List.mem_append_right _ (.tail _ (.head _))))
    repeat' walk_at "st"
    have kb := SH.blkG hS
    refine ⟨_, rfl, G, m2, X, mem, rfl, kb, R.okX, hl2, h1000, fun q H3 C3 => ?_, fun q hq H3 C3 => ?_, fun q hq => ?_⟩
    · rcases alt with ⟨_, rfl, rfl⟩ | ⟨h, _⟩
      · have hS := SH.callG hS C3
        repeat' walk_at "st"
        exact k _ _ _ W1 _ _ _ hx hg R1 hr1 len1 dep1 ml1 hS
      · exact absurd h q
    · rcases alt with ⟨h, _⟩ | ⟨_, _, rfl, rfl⟩
      · exact absurd q h
      · have hS := SH.callG hS C3
        repeat' walk_at "st"
        exact k _ _ _ W1 _ _ _ hx hg R1 hr1 len1 dep1 ml1 hS
    · rcases alt with ⟨h, _⟩ | ⟨_, h, _⟩
      · exact absurd q h
      · exact absurd h hq
  )) only [↓Hsh.on])
/-- an up of both -/
def RdyU (sz st : Int) (W : BW) (X : RS) (mem : List Int) (W1 : BW) (X1 : RS) : Prop :=
  Rl sz st W1 X1 mem ∧ X1.res ≠ 1 ∧ W1.rows.length = W.rows.length ∧ W1.dep = W.dep ∧ ((X.res ≠ 1 ∧ X1 = X) ∨ (X.res = 1 ∧ lies mem X.startU ∧ X1 = X.fl mem))
def sp_z_up (K : PySem.W.Frag) : Sp := mk5 fun a b c d e H Q _ => ∃ (pst sc : Addr) (ns : List Int) (x g n : Int) (B G : BA) (m1 m2 : Addr) (W : BW) (X : RS) (mem : List Int) (sz st : Int), a = .ref pst ∧ b = .ref B.b ∧ c = .ref G.b ∧ d = .ref m1 ∧ e = .int (W.rows.length : Nat) ∧
  Blk H (LD K pst sc x g n B G m1 m2 W X mem) ∧ Scr K H sc (ns.map V.int) ∧ 0 ≤ x ∧ 0 ≤ g ∧ Rl sz st W X mem ∧ B.rs.length = W.rows.length ∧ G.rs.length = X.W.rows.length ∧ 16 ≤ st ∧ (∀ d, 0 ≤ d → d ≤ W.dep → lies mem (spf sz st d)) ∧ mem.length ≤ 1000 ∧ 1 ≤ W.dep ∧
  ∀ x g n W1 X1 rs H', 0 ≤ x → 0 ≤ g → Rl sz st W1 X1 mem → X1.res ≠ 1 → W1.rows.length = W.rows.length → W1.dep = W.dep → rs.length = W.rows.length →
    SH ((LD K pst sc x g n B G m1 m2 W X mem).map (·.1)) H H' (LD K pst sc x g n B ⟨G.b, G.dx, G.S, G.R, rs⟩ m1 m2 W1.up X1.up mem) → Q (.bl true) H'
theorem ok_z_up {P : Program} {w : World} {K : PySem.W.Frag} {mg : Str → Option Value} {base : Heap} (Y : Env w K mg) (G_Banks_blocked_up : MethOk P w K mg base CX0 1 "Banks" "blocked_up" ["self"] (sp_Banks_blocked_up K)) (G_Banks_shift_up : MethOk P w K mg base CX0 1 "Banks" "shift_up" ["self"] (sp_Banks_shift_up K)) (G_Banks_trap_up : MethOk P w K mg base CX0 3 "Banks" "trap_up" ["self", "address"] (sp_Banks_trap_up K)) (G_Ring_shift_up : MethOk P w K mg base (L2N.CX P w) 3 "Ring" "shift_up" ["self"] (sp_Ring_shift_up K)) (G_z_fill : CallOk P w K mg base CX0 1 "_law_fill" ["_law_windows"] (sp_z_fill K)) (G_z_handle : CallOk P w K mg base CX0 4 "_law_handle" ["_law_banks", "_law_memory", "_law_rows", "_law_address"] (sp_z_handle K)) (G_z_pick : CallOk P w K mg base CX0 1 "_law_pick" ["_law_state", "_law_limit"] (sp_z_pick K)) : CallOk P w K mg base (L2N.CX P w) 5 "_law_up" ["_law_state", "_law_banks", "_law_ring", "_law_memory", "_law_windows"] (sp_z_up K) := Hsh.un (by simp (disch := k_dflt (
  refine Hsh.up ?_
  obtain ⟨fd, F⟩ := Y.fd_z_up
  refine ⟨_, fd, Y.mg_z_up, F.kp, F.bindsN (fun _ _ _ _ _ _ us hl => match us, hl with | [_, _, _, _, _], _ => rfl), F.ok sc_z_up mk5_len (fun cdv A outer s H vs Q E hr h => ?_)⟩
  have hu := hu_room hr
  obtain ⟨_, _, _, _, _, rfl, pst, sc, ns, x0, g0, n0, B, G, m1, m2, W, X, mem, sz, st, rfl, rfl, rfl, rfl, rfl, hB, hs, hx, hg, R, hl, hl2, h16, hL, h1000, hd1, k⟩ := h
  have hS : SH ((LD K pst sc x0 g0 n0 B G m1 m2 W X mem).map (·.1)) H H (LD K pst sc x0 g0 n0 B G m1 m2 W X mem) := hB.sh
  have hb := hB.hs (B.b, _) (.tail _ (.tail _ (.head _)))
  have h3 := R.okW.n3
  refine ⟨_, (pss_cutG (ps_if (pt_val (pe_methG0 (pv 1) G_Banks_blocked_up (hr.mono (by decide)) pass0)) (pss_cons (ps_set (i := 5) sc_z_up.nd rfl (Or.inl rfl) (pe_callG G_z_pick (hr.mono (by decide)) rfl pass0 (pa_cons (pv 0) (pa_cons pe_int pa_nil))))
  (pss_cons (ps_expr (pe_methG (pv 1) G_Banks_trap_up (hr.mono (by decide)) pass0 (pa_cons (pv 5) pa_nil)))
  (pss_one (ps_if (PW.pt (pw_or (pt_not (pt_val (pe_callG G_z_handle hr rfl pass0 (pa_cons (pv 1) (pa_cons (pv 3) (pa_cons (pe_callG G_z_fill (hr.mono (by decide)) rfl pass0 (pa_cons (pv 4) pa_nil)) (pa_cons (pv 5) pa_nil))))))) (pw_or1 (pt_val (pe_methG0 (pv 1) G_Banks_blocked_up (hr.mono (by decide)) pass0))))) (pss_one (ps_ret pe_bl)) pss_nil)))) pss_nil)
  (pss_cons (ps_expr (pe_methG0 (pv 1) G_Banks_shift_up (hr.mono (by decide)) pass0))
  (pss_cons (ps_expr (pe_methG0 (pv 2) G_Ring_shift_up (hr.mono (by decide)) (L2N.passes_call (L2N.takes_of rfl rfl rfl rfl) (fun _ _ _ _ h => h))))
  (pss_one (ps_ret pe_bl))))), ?_⟩
  rw [st_z_up]
  try simp only [cxK, cxK2, cxW, cxW2]
  clear hu hr F
  refine s_cutG (fun σ H' => ∃ v5 x g n W1 X1, σ = [some (.ref pst), some (.ref B.b), some (.ref G.b), some (.ref m1), some (.int (W.rows.length : Nat)), v5] ∧ 0 ≤ x ∧ 0 ≤ g ∧ RdyU sz st W X mem W1 X1 ∧ SH ((LD K pst sc x0 g0 n0 B G m1 m2 W X mem).map (·.1)) H H' (LE K pst sc x g n B G m1 m2 W1 X mem mem)) ?_ ?_
  · repeat' walk_at "st"
    refine ⟨_, rfl, B, W, rfl, fun c hc => hS.hs c (.tail _ (.tail _ (List.mem_append_left _ hc))), by omega, ?_⟩
    repeat' walk_at "st"
    · refine c_z_pick hS (i := 0) rfl hs hx hg (by decide) (by decide) (fun r x1 g1 n1 H1 hr0 hr1 hx1 hg1 hS1 => ?_)
      clear hS
      have hS : SH ((LD K pst sc x0 g0 n0 B G m1 m2 W X mem).map (·.1)) H H1 (LD K pst sc x1 g1 n1 B G m1 m2 W X mem) := hS1
      have hb := hS.hs (B.b, _) (.tail _ (.tail _ (.head _)))
      repeat' walk_at "st"
      refine ⟨_, _, rfl, B, W, r, rfl, rfl, SH.blkB (F := [_]) hS, R.okW, hl, fun H2 C => ?_⟩
      have hS := SH.callB (F := [_]) hS C
      have hres := (blocked_up R).mp hc
      repeat' walk_at "st"
      obtain ⟨c, hcc⟩ : ∃ c : Nat, W.cur = (c : Nat) := ⟨W.cur.toNat, by have := R.okW.c0; omega⟩
      have hcn : c < W.rows.length := by have := R.okW.c1; omega
      obtain ⟨es, L, R1⟩ := R.fill (v := r) hres hd1 hL hcc
      have hbar : W.bar = (icr W.rows.length c : Nat) := by rw [← hc, hcc, icr_mod hcn]
      obtain ⟨T, run, had, hup, hmem⟩ := fill_runs (v := r) R.okW hcc rfl rfl hbar (es ▸ L)
      rw [← es] at hup
      rw [← hup] at R1
      have hS : SH ((LD K pst sc x0 g0 n0 B G m1 m2 W X mem).map (·.1)) H H1 (HL K B p m1 ps ((W.down.setR 17 r).filP, mem) ++ ([(pst, stO sc x1 g1 n1)] ++ LR K G m2 mem X)) := hS.perm (List.Perm.cons _ (by exact (List.perm_middle (l₁ := (m1, mO mem) :: bCells K B (W.down.setR 17 r).filP)).symm))
      refine ⟨_, _, _, _, rfl, B, p, m1, ((W.down.setR 17 r).filP, mem), T, ps, _, r, rfl, rfl, rfl, rfl, SH.blkR ([(pst, stO sc x1 g1 n1)] ++ LR K G m2 mem X) _ (hS.perm List.perm_append_comm), pg.cast rfl rfl, filP_ok (setR_ok (down_ok R.okW) _ _), ?_, run, had, fun H3 C3 => ?_⟩
      · exact hl.trans (show W.rows.length = _ from (set_len W.down 17 r).symm)
      · have hS := SH.call hS C3
        have hS := (hS.sub (List.sublist_cons_self _ _)).perm (by exact List.perm_middle (l₁ := (m1, mO T.2) :: bCells K B T.1.up))
        rw [hmem] at hS
        have hS : SH ((LD K pst sc x0 g0 n0 B G m1 m2 W X mem).map (·.1)) H H3 (LE K pst sc x1 g1 n1 B G m1 m2 T.1.up X mem mem) := hS
        have hb := hS.hs (B.b, _) (.tail _ (.tail _ (.head _)))
        have xl : (X.fl mem).W.rows.length = X.W.rows.length := fl_len _ _
        have l1 : T.1.up.rows.length = W.rows.length := R1.len.trans (xl.trans R.len.symm)
        have hsr : (X.fl mem).res = X.res + 1 := rfl
        have nr : (X.fl mem).res ≠ 1 := by rw [hsr]; omega
        repeat' walk_at "st"
        refine ⟨_, rfl, B, T.1.up, rfl, fun c hc => hS.hs c (.tail _ (.tail _ (List.mem_append_left _ hc))), by omega, ?_⟩
        rw [decide_eq_false (fun z => nr ((blocked_up R1).mp z))]
        repeat' walk_at "st"
        exact ⟨_, x1, g1, n1, T.1.up, X.fl mem, rfl, hx1, hg1, ⟨R1, nr, l1, R1.dep.trans R.dep.symm, .inr ⟨hres, L, rfl⟩⟩, hS⟩
    · exact ⟨_, x0, g0, n0, W, X, rfl, hx, hg, ⟨R, fun z => hc ((blocked_up R).mpr z), rfl, rfl, .inl ⟨fun z => hc ((blocked_up R).mpr z), rfl⟩⟩, hS⟩
  · clear hS hx hg
    rintro σ H1 ⟨v5, x, g, n, W1, X1, rfl, hx, hg, ⟨R1, hr1, len1, dep1, alt⟩, hS⟩
    have hb := hS.hs (B.b, _) (.tail _ (.tail _ (.head _)))
    repeat' walk_at "st"
    refine ⟨_, rfl, B, W1, rfl, SH.blkB (F := [_]) hS, by omega, fun H2 C => ?_⟩
    have hS := SH.callB (F := [_]) hS C
    have hg2 := hS.hs (G.b, _) (List.mem_append_right [_] (List.mem_append_right _ (.tail _ (.head _))))
    repeat' walk_at "st"
    have kb := SH.blkG hS
    refine ⟨_, rfl, G, m2, X, mem, rfl, kb, R.okX, hl2, h1000, fun q H3 C3 => ?_, fun q hq rs H3 hrs C3 => ?_, fun q hq => ?_⟩
    · rcases alt with ⟨_, rfl⟩ | ⟨h, _⟩
      · have hS := SH.callG hS C3
        repeat' walk_at "st"
        exact k _ _ _ W1 _ G.rs _ hx hg R1 hr1 len1 dep1 (hl2.trans R.len.symm) hS
      · exact absurd h q
    · rcases alt with ⟨h, _⟩ | ⟨_, _, rfl⟩
      · exact absurd q h
      · have hS := SH.callG hS C3
        repeat' walk_at "st"
        exact k _ _ _ W1 _ rs _ hx hg R1 hr1 len1 dep1 (hrs.trans R.len.symm) hS
    · rcases alt with ⟨h, _⟩ | ⟨_, h, _⟩
      · exact absurd q h
      · exact absurd h hq
  )) only [↓Hsh.on])

section
variable {K : PySem.W.Frag} {A : List Addr} {H0 H : Hp} {F : List Cell} {pst sc : Addr} {ns : List Int} {x g n : Int} {B G : BA} {m1 m2 : Addr} {W : BW} {X : RS} {mem : List Int} {sz st : Int} {Q : VK} {E : XK}
theorem c_z_down (hS : SH A H0 H (F ++ LD K pst sc x g n B G m1 m2 W X mem)) (hs : Scr K H0 sc (ns.map V.int)) (hx : 0 ≤ x) (hg : 0 ≤ g) (R : Rl sz st W X mem) (hl : B.rs.length = W.rows.length) (hl2 : G.rs.length = X.W.rows.length) (h16 : 16 ≤ st) (hL : ∀ d, 0 ≤ d → d ≤ W.dep → lies mem (spf sz st d)) (h1000 : mem.length ≤ 1000)
    (k : ∀ x g n W1 X1 mem1 H', 0 ≤ x → 0 ≤ g → Rl sz st W1 X1 mem1 → X1.res ≠ (W1.rows.length : Nat) - 1 → W1.rows.length = W.rows.length → W1.dep = W.dep → mem1.length = mem.length → SH A H0 H' (F ++ LD K pst sc x g n B G m1 m2 W1.down.clr X1.dn mem1) → Q (.bl true) H') :
    sp_z_down K ([.ref pst, .ref B.b, .ref G.b, .ref m1, .int (W.rows.length : Nat)] ++ []) H Q E :=
  ⟨_, _, _, _, _, rfl, pst, sc, ns, x, g, n, B, G, m1, m2, W, X, mem, sz, st, rfl, rfl, rfl, rfl, rfl, SH.blkR F _ hS, hs.keep hS.kp, hx, hg, R, hl, hl2, h16, hL, h1000, fun x g n W1 X1 mem1 H' a b c d e f l C => k x g n W1 X1 mem1 H' a b c d e f l (hS.callR C)⟩
theorem c_z_up (hS : SH A H0 H (F ++ LD K pst sc x g n B G m1 m2 W X mem)) (hs : Scr K H0 sc (ns.map V.int)) (hx : 0 ≤ x) (hg : 0 ≤ g) (R : Rl sz st W X mem) (hl : B.rs.length = W.rows.length) (hl2 : G.rs.length = X.W.rows.length) (h16 : 16 ≤ st) (hL : ∀ d, 0 ≤ d → d ≤ W.dep → lies mem (spf sz st d)) (h1000 : mem.length ≤ 1000) (hd : 1 ≤ W.dep)
    (k : ∀ x g n W1 X1 rs H', 0 ≤ x → 0 ≤ g → Rl sz st W1 X1 mem → X1.res ≠ 1 → W1.rows.length = W.rows.length → W1.dep = W.dep → rs.length = W.rows.length → SH A H0 H' (F ++ LD K pst sc x g n B ⟨G.b, G.dx, G.S, G.R, rs⟩ m1 m2 W1.up X1.up mem) → Q (.bl true) H') :
    sp_z_up K ([.ref pst, .ref B.b, .ref G.b, .ref m1, .int (W.rows.length : Nat)] ++ []) H Q E :=
  ⟨_, _, _, _, _, rfl, pst, sc, ns, x, g, n, B, G, m1, m2, W, X, mem, sz, st, rfl, rfl, rfl, rfl, rfl, SH.blkR F _ hS, hs.keep hS.kp, hx, hg, R, hl, hl2, h16, hL, h1000, hd, fun x g n W1 X1 rs H' a b c d e f l C => k x g n W1 X1 rs H' a b c d e f l (hS.callR C)⟩
theorem c_z_both {v m : Int} (hS : SH A H0 H (F ++ BG K B G m1 m2 W X mem)) (ok : W.ok) (ok2 : X.W.ok) (hl : B.rs.length = W.rows.length) (hl2 : G.rs.length = X.W.rows.length) (h0 : 0 ≤ m) (h1 : m < 32)
    (k : ∀ H', SH A H0 H' (F ++ BG K B G m1 m2 (W.setR m v) ⟨X.W.setR m v, X.res⟩ mem) → Q .non H') : sp_z_both K ([.ref B.b, .ref G.b, .int v, .int m] ++ []) H Q E :=
  ⟨_, _, _, _, rfl, B, G, m1, m2, W, X, mem, v, m, rfl, rfl, rfl, rfl, SH.blkR F _ hS, ok, ok2, hl, hl2, h0, h1, fun H' C => k H' (hS.callR C)⟩
theorem c_z_same {mp : Addr} {L : List Cell} (hS : SH A H0 H L) (hB : ∀ c ∈ BG K B G m1 m2 W X mem, H c.1 = some c.2) (hm : H mp = some (.lst [.ref m1, .ref m2])) (R : Rl sz st W X mem) (hl : B.rs.length = W.rows.length) (hl2 : G.rs.length = X.W.rows.length)
    (k : ∀ H', SH A H0 H' L → Q (.bl true) H') : sp_z_same K ([.ref B.b, .ref G.b, .ref mp] ++ []) H Q E :=
  ⟨_, _, _, rfl, B, G, m1, m2, mp, W, X, mem, sz, st, rfl, rfl, rfl, hB, hm, R, hl, hl2, fun H' kp => k H' (hS.call0 kp)⟩
end
theorem setR_dep (W : BW) (m v : Int) : (W.setR m v).dep = W.dep := Hsh.un (by simp (disch := k_dflt (
  refine Hsh.up ?_
  unfold BW.setR
  split
  · unfold BW.set BW.put
    split
    · rfl
    · split <;> rfl
  · rfl
  )) only [↓Hsh.on])
/-- the ledger of the law -/
abbrev DS (K : PySem.W.Frag) (shp mp pst sc : Addr) (sz st x g n : Int) (B G : BA) (m1 m2 : Addr) (W : BW) (X : RS) (mem : List Int) : List Cell :=
  [(shp, .lst [.int (sz - 16), .int st, .int W.dep]), (mp, .lst [.ref m1, .ref m2])] ++ LD K pst sc x g n B G m1 m2 W X mem
def sp_z_deed (K : PySem.W.Frag) : Sp := mk6 fun a b c d e f H Q _ => ∃ (shp mp pst sc : Addr) (ns : List Int) (x g n : Int) (B G : BA) (m1 m2 : Addr) (W : BW) (X : RS) (mem : List Int) (sz st : Int), a = .ref pst ∧ b = .ref B.b ∧ c = .ref G.b ∧ d = .ref mp ∧ e = .int (W.rows.length : Nat) ∧ f = .ref shp ∧
  Blk H (DS K shp mp pst sc sz st x g n B G m1 m2 W X mem) ∧ Scr K H sc (ns.map V.int) ∧ 0 ≤ x ∧ 0 ≤ g ∧ Rl sz st W X mem ∧ B.rs.length = W.rows.length ∧ G.rs.length = X.W.rows.length ∧ 16 ≤ st ∧ (∀ d, 0 ≤ d → d ≤ W.dep → lies mem (spf sz st d)) ∧ mem.length ≤ 1000 ∧ 0 ≤ W.dep ∧ W.dep ≤ 60 ∧
  ∀ x g n W1 X1 mem1 rs H', 0 ≤ x → 0 ≤ g → Rl sz st W1 X1 mem1 → W1.rows.length = W.rows.length → 0 ≤ W1.dep → W1.dep ≤ W.dep + 1 → mem1.length = mem.length → rs.length = W.rows.length →
    SH ((DS K shp mp pst sc sz st x g n B G m1 m2 W X mem).map (·.1)) H H' (DS K shp mp pst sc sz st x g n B ⟨G.b, G.dx, G.S, G.R, rs⟩ m1 m2 W1 X1 mem1) → Q (.bl true) H'
theorem ok_z_deed {P : Program} {w : World} {K : PySem.W.Frag} {mg : Str → Option Value} {base : Heap} (Y : Env w K mg) (G_z_both : CallOk P w K mg base CX0 3 "_law_both" ["_law_banks", "_law_ring", "_law_word_here", "_law_number"] (sp_z_both K)) (G_z_down : CallOk P w K mg base (L2N.CX P w) 5 "_law_down" ["_law_state", "_law_banks", "_law_ring", "_law_memory", "_law_windows"] (sp_z_down K)) (G_z_pick : CallOk P w K mg base CX0 1 "_law_pick" ["_law_state", "_law_limit"] (sp_z_pick K)) (G_z_same : CallOk P w K mg base CX0 3 "_law_same" ["_law_banks", "_law_ring", "_law_memories"] (sp_z_same K)) (G_z_up : CallOk P w K mg base (L2N.CX P w) 5 "_law_up" ["_law_state", "_law_banks", "_law_ring", "_law_memory", "_law_windows"] (sp_z_up K)) (G_z_word : CallOk P w K mg base CX0 2 "_law_word" ["_law_state"] (sp_z_word K)) : CallOk P w K mg base (L2N.CX P w) 6 "_law_deed" ["_law_state", "_law_banks", "_law_ring", "_law_memories", "_law_windows", "_law_shape"] (sp_z_deed K) := Hsh.un (by simp (disch := k_dflt (
  refine Hsh.up ?_
  obtain ⟨fd, F⟩ := Y.fd_z_deed
  refine ⟨_, fd, Y.mg_z_deed, F.kp, F.bindsN (fun _ _ _ _ _ _ us hl => match us, hl with | [_, _, _, _, _, _], _ => rfl), F.ok sc_z_deed mk6_len (fun cdv A outer s H vs Q E hr h => ?_)⟩
  have hu := hu_room hr
  obtain ⟨_, _, _, _, _, _, rfl, shp, mp, pst, sc, ns, x0, g0, n0, B, G, m1, m2, W, X, mem, sz, st, rfl, rfl, rfl, rfl, rfl, rfl, hB, hs, hx, hg, R, hl, hl2, h16, hL, h1000, hd0, hd60, k⟩ := h
  have hS : SH ((DS K shp mp pst sc sz st x0 g0 n0 B G m1 m2 W X mem).map (·.1)) H H (DS K shp mp pst sc sz st x0 g0 n0 B G m1 m2 W X mem) := hB.sh
  have hlG : G.rs.length = W.rows.length := hl2.trans R.len.symm
  refine ⟨_, (pss_cons (ps_set (i := 6) sc_z_deed.nd rfl (Or.inl rfl) (pe_callG G_z_pick (hr.mono (by decide)) rfl pass0 (pa_cons (pv 0) (pa_cons pe_int pa_nil))))
  (pss_cons (ps_if (pt_cmpR op_lt (pv 6) pe_int (nomark _)) (pss_cons (ps_if (pt_not (pt_val (pe_callG G_z_down hr rfl (L2N.passes_call (L2N.takes_of rfl rfl rfl rfl) (fun _ _ _ _ h => h)) (pa_cons (pv 0) (pa_cons (pv 1) (pa_cons (pv 2) (pa_cons (pe_ix xIx (pv 3) pe_int (fun _ _ => rfl)) (pa_cons (pv 4) pa_nil)))))))) (pss_one (ps_ret pe_bl)) pss_nil)
  (pss_cons (ps_asg (pe_op xAdd (pe_ix xIx (pv 5) pe_int (fun _ _ => rfl)) pe_int) (pg_sub (pv 5) pe_int set_list))
  (pss_one (ps_expr (pe_callG G_z_both (hr.mono (by decide)) rfl pass0 (pa_cons (pv 1) (pa_cons (pv 2) (pa_cons (pe_op op_sub (pe_ix xIx (pv 5) pe_int (fun _ _ => rfl)) (pe_op xMul (pe_ix xIx (pv 5) pe_int (fun _ _ => rfl)) (pe_ix xIx (pv 5) pe_int (fun _ _ => rfl)))) (pa_cons pe_int pa_nil))))))))) (pss_one (ps_if (pt_cmpR op_lt (pv 6) pe_int (nomark _)) (pss_one (ps_if (pt_cmpR op_gt (pe_ix xIx (pv 5) pe_int (fun _ _ => rfl)) pe_int (nomark _)) (pss_cons (ps_asg (pe_op op_sub (pe_ix xIx (pv 5) pe_int (fun _ _ => rfl)) pe_int) (pg_sub (pv 5) pe_int set_list))
  (pss_one (ps_ret (pe_callG G_z_up hr rfl (L2N.passes_call (L2N.takes_of rfl rfl rfl rfl) (fun _ _ _ _ h => h)) (pa_cons (pv 0) (pa_cons (pv 1) (pa_cons (pv 2) (pa_cons (pe_ix xIx (pv 3) pe_int (fun _ _ => rfl)) (pa_cons (pv 4) pa_nil))))))))) pss_nil)) (pss_one (ps_if (pt_cmpR op_lt (pv 6) pe_int (nomark _)) (pss_cons (ps_set (i := 7) sc_z_deed.nd rfl (Or.inl rfl) (pe_callG G_z_pick (hr.mono (by decide)) rfl pass0 (pa_cons (pv 0) (pa_cons pe_int pa_nil))))
  (pss_one (ps_if (PW.pt (pw_and (pt_cmpR (xNe hu) (pv 7) pe_int (nomark _)) (pw_and1 (pt_cmpR (xNe hu) (pv 7) pe_int (nomark _))))) (pss_one (ps_expr (pe_callG G_z_both (hr.mono (by decide)) rfl pass0 (pa_cons (pv 1) (pa_cons (pv 2) (pa_cons (pe_callG G_z_word (hr.mono (by decide)) rfl pass0 (pa_cons (pv 0) pa_nil)) (pa_cons (pv 7) pa_nil))))))) pss_nil))) (pss_one (ps_ret (pe_callG G_z_same (hr.mono (by decide)) rfl pass0 (pa_cons (pv 1) (pa_cons (pv 2) (pa_cons (pv 3) pa_nil)))))))))))
  (pss_one (ps_ret pe_bl)))), ?_⟩
  rw [st_z_deed]
  try simp only [cxK, cxK2, cxW, cxW2]
  clear hu hr F
  repeat' walk_at "st"
  refine c_z_pick hS (i := 2) rfl hs hx hg (by decide) (by decide) (fun r x g n H1 hr0 hr1 hx hg hS1 => ?_)
  clear hS
  have hS : SH ((DS K shp mp pst sc sz st x0 g0 n0 B G m1 m2 W X mem).map (·.1)) H H1 (DS K shp mp pst sc sz st x g n B G m1 m2 W X mem) := hS1
  clear hS1
  repeat' walk_at "st"
  · refine c_z_down (F := [_, _]) hS hs hx hg R hl hl2 h16 hL h1000 (fun x g n W1 X1 mem1 H2 hx hg R1 nr l1 d1 ml hS1 => ?_)
    clear hS
    have hS : SH ((DS K shp mp pst sc sz st x0 g0 n0 B G m1 m2 W X mem).map (·.1)) H H2 ([(shp, .lst [.int (sz - 16), .int st, .int W.dep]), (mp, .lst [.ref m1, .ref m2])] ++ LD K pst sc x g n B G m1 m2 W1.down.clr X1.dn mem1) := hS1
    clear hS1
    have c1 : W1.down.clr.rows.length = W1.rows.length := clrR_len _ _
    have c2 : X1.dn.W.rows.length = W1.rows.length := (clrR_len _ _).trans R1.len.symm
    repeat' walk_at "st"
    refine c_z_both (m := 14) (F := [_, _, _]) hS (clr_ok (down_ok R1.okW)) (clr_ok (down_ok R1.okX)) (hl.trans (l1.symm.trans c1.symm)) (hlG.trans (l1.symm.trans c2.symm)) (by decide) (by decide) (fun H3 hS1 => ?_)
    clear hS
    rename SH _ _ _ _ => hS
    have R2 := R1.dn nr
    rw [d1] at R2
    have e : (W1.down.clr.setR 14 (spf sz st (W.dep + 1))).dep = W.dep + 1 := by
      rw [setR_out (by decide) (by decide)]
      show W1.dep + 1 = _
      rw [d1]
    repeat' walk_at "st"
    refine k x g n _ _ _ G.rs _ hx hg R2 ((set_len _ _ _).trans (c1.trans l1)) (by rw [e]; omega) (by rw [e]; omega) ml hlG ?_
    unfold DS
    rw [e]
    exact hS
  · have hS : SH ((DS K shp mp pst sc sz st x0 g0 n0 B G m1 m2 W X mem).map (·.1)) H H1 ([(shp, .lst [.int (sz - 16), .int st, .int (W.dep - 1)]), (mp, .lst [.ref m1, .ref m2])] ++ LD K pst sc x g n B G m1 m2 W X mem) := hS
    refine c_z_up (F := [_, _]) hS hs hx hg R hl hl2 h16 hL h1000 (by omega) (fun x g n W1 X1 rs H2 hx hg R1 nr l1 d1 lr hS1 => ?_)
    have e : W1.up.dep = W.dep - 1 := by
      show W1.dep - 1 = _
      rw [d1]
    refine k x g n W1.up X1.up mem rs _ hx hg (R1.up nr) l1 (by rw [e]; omega) (by rw [e]; omega) rfl lr ?_
    unfold DS
    rw [e]
    exact hS1
  · exact k x g n W X mem G.rs _ hx hg R rfl hd0 (by omega) rfl hlG hS
  · refine c_z_pick hS (i := 2) rfl hs hx hg (by decide) (by decide) (fun m x g n H1 hm0 hm1 hx hg hS1 => ?_)
    clear hS
    have hS : SH ((DS K shp mp pst sc sz st x0 g0 n0 B G m1 m2 W X mem).map (·.1)) H H1 (DS K shp mp pst sc sz st x g n B G m1 m2 W X mem) := hS1
    clear hS1
    repeat' walk_at "st"
    · exact k x g n W X mem G.rs _ hx hg R rfl hd0 (by omega) rfl hlG hS
    · exact k x g n W X mem G.rs _ hx hg R rfl hd0 (by omega) rfl hlG hS
    · refine c_z_word hS (i := 2) rfl hs hx hg (fun wv x g n H2 hx hg hS1 => ?_)
      clear hS
      have hS : SH ((DS K shp mp pst sc sz st x0 g0 n0 B G m1 m2 W X mem).map (·.1)) H H2 (DS K shp mp pst sc sz st x g n B G m1 m2 W X mem) := hS1
      clear hS1
      repeat' walk_at "st"
      refine c_z_both (m := m) (F := [_, _, _]) hS R.okW R.okX hl hl2 hm0 hm1 (fun H3 hS1 => ?_)
      clear hS
      rename SH _ _ _ _ => hS
      have e : (W.setR m wv).dep = W.dep := setR_dep _ _ _
      repeat' walk_at "st"
      refine k x g n _ _ mem G.rs _ hx hg (R.setR hm0 hm1 (by assumption) (by assumption)) (set_len _ _ _) (by rw [e]; exact hd0) (by rw [e]; omega) rfl hlG ?_
      unfold DS
      rw [e]
      exact hS
  · exact c_z_same hS (fun c hc => hS.hs c (.tail _ (.tail _ (.tail _ hc)))) (hS.get 1 rfl) R hl hl2 (fun H2 hS2 => k x g n W X mem G.rs _ hx hg R rfl hd0 (by omega) rfl hlG hS2)
  )) only [↓Hsh.on])

theorem c_z_words {K : PySem.W.Frag} {H : Hp} {t r : Addr} {ps : List Addr} {hs : List HR} {Q : VK} {E : XK} (ht : H t = some (.tup ((encL hs).map V.int))) (hr : H r = some (.lst (ps.map V.ref))) (pg : Pg K H ps hs) (ea : EncAll hs) (hl : hs.length ≤ 100) (k : Q (.bl true) H) : sp_z_words K ([.ref t, .ref r] ++ []) H Q E :=
  ⟨_, _, rfl, t, r, ps, hs, rfl, rfl, ht, hr, pg, ea, hl, k⟩
def jnk (r : Int) (k : Nat) : List Int := (List.range k).map fun i => r - 3 * (i : Nat)
theorem jnk_succ (r : Int) (k : Nat) : (jnk r (k + 1)).map V.int = (jnk r k).map V.int ++ [V.int (r - 3 * (k : Nat))] := Hsh.un (by simp (disch := k_dflt (
  refine Hsh.up ?_
  unfold jnk
  rw [List.range_succ, List.map_append, List.map_append]
  rfl
  )) only [↓Hsh.on])
theorem jnk_len (r : Int) (k : Nat) : (jnk r k).length = k := by
  unfold jnk
  rw [List.length_map, List.length_range]
theorem perm_ds {α : Type} (s mp m2 m1 p : α) (g b : List α) : (s :: (g ++ (b ++ [mp, m2, m1, p]))).Perm ([s, mp] ++ ([p] ++ ((m1 :: b) ++ (m2 :: g)))) := Hsh.un (by simp (disch := k_dflt (
  refine Hsh.up ?_
  classical
  rw [List.perm_iff_count]
  intro a
  simp only [List.count_append, List.count_cons, List.count_nil, List.cons_append, List.nil_append]
  omega
  )) only [↓Hsh.on])
theorem W0_ok {n : Nat} (h : 3 ≤ n) (h2 : n ≤ 33) : (W0 n).ok :=
  ⟨List.length_replicate, fun r hr => by rw [List.eq_of_mem_replicate hr]; exact List.length_replicate, Int.le_refl 0, by show (0 : Int) < ((List.replicate n (List.replicate 16 (0 : Int))).length : Nat); rw [List.length_replicate]; omega, by show 3 ≤ (List.replicate n (List.replicate 16 (0 : Int))).length; rw [List.length_replicate]; omega, by show (List.replicate n (List.replicate 16 (0 : Int))).length ≤ 33; rw [List.length_replicate]; omega, by show (-1 : Int) ≤ 1; decide⟩
theorem W0g_ok {n : Nat} (h : 3 ≤ n) (h2 : n ≤ 33) : (W0g n).ok :=
  ⟨List.length_replicate, fun r hr => by rw [List.eq_of_mem_replicate hr]; exact List.length_replicate, Int.le_refl 0, by show (0 : Int) < ((List.replicate n (List.replicate 16 (0 : Int))).length : Nat); rw [List.length_replicate]; omega, by show 3 ≤ (List.replicate n (List.replicate 16 (0 : Int))).length; rw [List.length_replicate]; omega, by show (List.replicate n (List.replicate 16 (0 : Int))).length ≤ 33; rw [List.length_replicate]; omega, by show (-1 : Int) ≤ -1; decide⟩
theorem rl0 {w : Nat} {sz st : Int} {mem : List Int} (h : 3 ≤ w) (h2 : w ≤ 33) : Rl sz st ((W0 w).setR 14 (sz - 16)) ⟨(W0g w).setR 14 (sz - 16), 1⟩ mem := Hsh.un (by simp (disch := k_dflt (
  refine Hsh.up ?_
  have ok := W0_ok h h2
  have okg := W0g_ok h h2
  have lw : (W0 w).rows.length = w := List.length_replicate
  have lg : (W0g w).rows.length = w := List.length_replicate
  have o1 := setR_ok ok 14 (sz - 16)
  have o2 := setR_ok okg 14 (sz - 16)
  have pe : (W0g w).prv = (W0 w).prv := prv_eq rfl (lg.trans lw.symm)
  have hp := BW.prv_lt ok
  have hpv : (W0 w).prv = w - 1 := by
    show (if (0 : Int) = 0 then (W0 w).rows.length - 1 else _) = w - 1
    rw [if_pos rfl, lw]
  rw [setR_out (by decide) (by decide)] at o1 ⊢
  rw [setR_out (by decide) (by decide), pe] at o2 ⊢
  have er : (W0g w).rows = (W0 w).rows := rfl
  rw [er] at o2 ⊢
  have pe2 : (BW.mk (W0 w).sh ((W0 w).rows.set (W0 w).prv (((W0 w).rows.getD (W0 w).prv []).set (14 : Int).toNat (sz - 16))) (W0 w).cur (W0 w).bar (W0 w).dep (W0 w).spi (W0 w).fil).prv = (W0 w).prv := prv_eq rfl (List.length_set ..)
  have l14 : ((W0 w).rows.getD (W0 w).prv []).length = 16 := r16 ok hp
  refine ⟨o1, o2, rfl, rfl, rfl, rfl, rfl, rfl, Int.le_refl 1, ?_, ?_, fun k _ _ => rfl, fun j _ => by rw [pe2], by show (1 : Int) ≤ 0 + 1; decide, ?_, ?_, ?_, ?_⟩
  · dsimp only
    rw [List.length_set, lw]
    omega
  · dsimp only
    rw [List.length_set, lw, if_pos (by show (0 : Int) + 1 < w; omega)]
    rfl
  · intro k hk h1 h2
    exfalso
    have h3 : off ((W0 w).rows.set (W0 w).prv (((W0 w).rows.getD (W0 w).prv []).set (14 : Int).toNat (sz - 16))).length 0 k + 1 ≤ 0 := h2
    unfold off at h3
    rw [if_pos (by omega)] at h3
    omega
  · rw [pe2]
    dsimp only
    rw [getD_set_self hp]
    refine (getD_set_self (R := (W0 w).rows.getD (W0 w).prv []) (i := 14) (by rw [l14]; decide)).trans ?_
    unfold spf
    show sz - 16 = sz - 16 - st * 0
    omega
  · intro d h1 h2
    exfalso
    have h3 : d ≤ 0 - 1 := h2
    omega
  · show (0 : Int) - 0 = 0 + 1 - 1
    decide
  )) only [↓Hsh.on])
section
variable {K : PySem.W.Frag} {A : List Addr} {H0 H : Hp} {F : List Cell} {shp mp pst sc : Addr} {ns : List Int} {x g n : Int} {B G : BA} {m1 m2 : Addr} {W : BW} {X : RS} {mem : List Int} {sz st : Int} {Q : VK} {E : XK}
theorem c_z_deed (hS : SH A H0 H (F ++ DS K shp mp pst sc sz st x g n B G m1 m2 W X mem)) (hs : Scr K H0 sc (ns.map V.int)) (hx : 0 ≤ x) (hg : 0 ≤ g) (R : Rl sz st W X mem) (hl : B.rs.length = W.rows.length) (hl2 : G.rs.length = X.W.rows.length) (h16 : 16 ≤ st) (hL : ∀ d, 0 ≤ d → d ≤ W.dep → lies mem (spf sz st d)) (h1000 : mem.length ≤ 1000) (h0 : 0 ≤ W.dep) (h60 : W.dep ≤ 60)
    (k : ∀ x g n W1 X1 mem1 rs H', 0 ≤ x → 0 ≤ g → Rl sz st W1 X1 mem1 → W1.rows.length = W.rows.length → 0 ≤ W1.dep → W1.dep ≤ W.dep + 1 → mem1.length = mem.length → rs.length = W.rows.length →
      SH A H0 H' (F ++ DS K shp mp pst sc sz st x g n B ⟨G.b, G.dx, G.S, G.R, rs⟩ m1 m2 W1 X1 mem1) → Q (.bl true) H') :
    sp_z_deed K ([.ref pst, .ref B.b, .ref G.b, .ref mp, .int (W.rows.length : Nat), .ref shp] ++ []) H Q E :=
  ⟨_, _, _, _, _, _, rfl, shp, mp, pst, sc, ns, x, g, n, B, G, m1, m2, W, X, mem, sz, st, rfl, rfl, rfl, rfl, rfl, rfl, SH.blkR F _ hS, hs.keep hS.kp, hx, hg, R, hl, hl2, h16, hL, h1000, h0, h60, fun x g n W1 X1 mem1 rs H' a b c d e f l m C => k x g n W1 X1 mem1 rs H' a b c d e f l m (hS.callR C)⟩
end
def sp_law (K : PySem.W.Frag) : Sp := mk1 fun a H Q _ => ∃ (sc : Addr) (ns : List Int), a = .ref sc ∧ Scr K H sc (ns.map V.int) ∧ ∀ H', Q (.bl true) H'
local macro_rules | `(tactic| walk_at "st") => `(tactic| first
  | ((with_reducible show sp_trap_code _ _ _ _ _); refine c_trap_code hS (by omega) (fun p s f H1 hS1 => ?_); clear hS; rename SH _ _ _ _ => hS)
  | ((with_reducible show sp_z_pick _ _ _ _ _); apply c_z_pick hS; (· walk_at "ix"); (· assumption); (· walk_at "ar"); (· walk_at "ar"); (· walk_at "ar"); (· walk_at "ar"); intro r x1 g1 n1 H1 hr0 hr1 hx1 hg1 hS1; clear hS; rename SH _ _ _ _ => hS; (try simp only [List.set_cons_zero, List.set_cons_succ] at hS))
  | fail)
theorem ok_law {P : Program} {w : World} {K : PySem.W.Frag} {mg : Str → Option Value} {base : Heap} (Y : Env w K mg) (G_Banks_init__ : MakeOk P w K mg base CX0 1 "Banks" ["self", "windows"] (sp_Banks_init__ K)) (G_Ring_init__ : MakeOk P w K mg base CX0 1 "Ring" ["self", "memory", "windows"] (sp_Ring_init__ K)) (G_z_both : CallOk P w K mg base CX0 3 "_law_both" ["_law_banks", "_law_ring", "_law_word_here", "_law_number"] (sp_z_both K)) (G_z_deed : CallOk P w K mg base (L2N.CX P w) 6 "_law_deed" ["_law_state", "_law_banks", "_law_ring", "_law_memories", "_law_windows", "_law_shape"] (sp_z_deed K)) (G_z_fill : CallOk P w K mg base CX0 1 "_law_fill" ["_law_windows"] (sp_z_fill K)) (G_z_pick : CallOk P w K mg base CX0 1 "_law_pick" ["_law_state", "_law_limit"] (sp_z_pick K)) (G_z_same : CallOk P w K mg base CX0 3 "_law_same" ["_law_banks", "_law_ring", "_law_memories"] (sp_z_same K)) (G_z_spill : CallOk P w K mg base CX0 1 "_law_spill" ["_law_windows"] (sp_z_spill K)) (G_z_up : CallOk P w K mg base (L2N.CX P w) 5 "_law_up" ["_law_state", "_law_banks", "_law_ring", "_law_memory", "_law_windows"] (sp_z_up K)) (G_z_words : CallOk P w K mg base (L2N.CX P w) 4 "_law_words" ["_law_told", "_law_rows"] (sp_z_words K)) (G_trap_code : CallOk P w K mg base (L2N.CX P w) 4 "trap_code" ["windows"] (sp_trap_code K)) {fd : FuncData} (F : FunD K "law" "law" (defArgs s_law) (defBody s_law) (defScope s_law) [] [] (He.fAd K ("law", none)) fd) : FnOk P w K mg base CX0 7 (He.fAd K ("law", none)) fd ["_law_script"] (sp_law K) := Hsh.un (by simp (disch := k_dflt (
  refine Hsh.up ?_
  refine F.ok sc_law mk1_len (fun cdv A outer s H vs Q E hr h => ?_)
  have hu := hu_room hr
  obtain ⟨_, rfl, sc, ns, rfl, hs, k⟩ := h
  have hS : SH [] H H [] := SH.start0
  refine ⟨_, PSs.nox (pss_cons (ps_set (i := 1) sc_law.nd rfl (Or.inl rfl) (pe_lst (pa_cons (pv 0) (pa_cons pe_int (pa_cons pe_int (pa_cons pe_int pa_nil))))))
  (pss_cons (ps_set (i := 2) sc_law.nd rfl (Or.inl rfl) (pe_op xAdd pe_int (pe_callG G_z_pick (hr.mono (by decide)) rfl pass0 (pa_cons (pv 1) (pa_cons pe_int pa_nil)))))
  (pss_cutG (ps_if (pt_cmpR (xEq hu) (pe_callG G_z_pick (hr.mono (by decide)) rfl pass0 (pa_cons (pv 1) (pa_cons pe_int pa_nil))) pe_int (nomark _)) (pss_one (ps_set (i := 2) sc_law.nd rfl (Or.inl rfl) (pe_op xAdd pe_int (pe_callG G_z_pick (hr.mono (by decide)) rfl pass0 (pa_cons (pv 1) (pa_cons pe_int pa_nil)))))) pss_nil)
  (pss_cons (ps_set (i := 3) sc_law.nd rfl (Or.inl rfl) (pe_callG G_trap_code (hr.mono (by decide)) rfl passN (pa_cons (pv 2) pa_nil)))
  (pss_cons (ps_if (PW.pt (pw_or (pt_not (pt_val (pe_callB x_isinstance rfl Y.z_isinstance (by decide +kernel) (pa_cons (pv 3) (pa_cons (pe_bltn rfl Y.z_tuple (by decide +kernel) (show RelV (.ty "tuple") (.type "tuple") from rfl)) pa_nil))))) (pw_or1 (pt_cmpR (xNe hu) (pe_callB x_len rfl Y.z_len (by decide +kernel) (pa_cons (pv 3) pa_nil)) pe_int (nomark _))))) (pss_one (ps_ret pe_bl)) pss_nil)
  (pss_cutG (ps_if (PW.pt (pw_or (pt_not (pt_val (pe_callG G_z_words (hr.mono (by decide)) rfl passN (pa_cons (pe_ix xIx (pv 3) pe_int (fun _ _ => rfl)) (pa_cons (pe_callG G_z_spill (hr.mono (by decide)) rfl pass0 (pa_cons (pv 2) pa_nil)) pa_nil))))) (pw_or1 (pt_not (pt_val (pe_callG G_z_words (hr.mono (by decide)) rfl passN (pa_cons (pe_ix xIx (pv 3) pe_int (fun _ _ => rfl)) (pa_cons (pe_callG G_z_fill (hr.mono (by decide)) rfl pass0 (pa_cons (pv 2) pa_nil)) pa_nil)))))))) (pss_one (ps_ret pe_bl)) pss_nil)
  (pss_cons (ps_set (i := 4) sc_law.nd rfl (Or.inl rfl) (pe_op xAdd pe_int (pe_callG G_z_pick (hr.mono (by decide)) rfl pass0 (pa_cons (pv 1) (pa_cons pe_int pa_nil)))))
  (pss_cons (ps_set (i := 5) sc_law.nd rfl (Or.inl rfl) (pe_op xAdd (pe_op xMul (pv 4) pe_int) (pe_callG G_z_pick (hr.mono (by decide)) rfl pass0 (pa_cons (pv 1) (pa_cons pe_int pa_nil)))))
  (pss_cutG (ps_set (i := 6) sc_law.nd rfl (Or.inr rfl) (pe_callG G_z_pick (hr.mono (by decide)) rfl pass0 (pa_cons (pv 1) (pa_cons pe_int pa_nil))))
  (pss_cutG (ps_set (i := 8) sc_law.nd rfl (Or.inl rfl) (pe_lst (pa_cons (pe_lc (own := [("_law_k", 7)]) (g := gName 7) rfl sc_law.nd (pi_range1 rfl Y.z_range (pa_cons (pv 5) pa_nil)) (blkOk_by (N := N_law) (sc := defScope s_law) (by decide +kernel)) (fun _ _ _ _ _ => pg_name (i := 7) sc_law.nd rfl (Or.inl rfl)) (fun _ _ _ _ _ => pts_nil) (fun _ _ _ _ _ => (pe_op op_sub (pv 6) (pe_op (OpR.k (K := K) (r := rMulX) xMul rfl) pe_int (pv 7))))) (pa_cons (pe_lc (own := [("_law_k", 7)]) (g := gName 7) rfl sc_law.nd (pi_range1 rfl Y.z_range (pa_cons (pv 5) pa_nil)) (blkOk_by (N := N_law) (sc := defScope s_law) (by decide +kernel)) (fun _ _ _ _ _ => pg_name (i := 7) sc_law.nd rfl (Or.inl rfl)) (fun _ _ _ _ _ => pts_nil) (fun _ _ _ _ _ => (pe_op op_sub (pv 6) (pe_op (OpR.k (K := K) (r := rMulX) xMul rfl) pe_int (pv 7))))) pa_nil))))
  (pss_cons (ps_set (i := 9) sc_law.nd rfl (Or.inl rfl) (pe_makeG G_Banks_init__ (hr.mono (by decide)) rfl pass0 (pa_cons (pv 2) pa_nil)))
  (pss_cons (ps_set (i := 10) sc_law.nd rfl (Or.inl rfl) (pe_makeG G_Ring_init__ (hr.mono (by decide)) rfl pass0 (pa_cons (pe_ix xIx (pv 8) pe_int (fun _ _ => rfl)) (pa_cons (pv 2) pa_nil))))
  (pss_cons (ps_set (i := 11) sc_law.nd rfl (Or.inl rfl) (pe_lst (pa_cons (pe_op op_sub (pv 5) pe_int) (pa_cons (pv 4) (pa_cons pe_int pa_nil)))))
  (pss_cons (ps_expr (pe_callG G_z_both (hr.mono (by decide)) rfl pass0 (pa_cons (pv 9) (pa_cons (pv 10) (pa_cons (pe_op op_sub (pv 5) pe_int) (pa_cons pe_int pa_nil))))))
  (pss_cons (ps_for PassesOwn.never rfl (pi_range1 rfl Y.z_range (pa_cons (pe_op xAdd pe_int (pe_callG G_z_pick (hr.mono (by decide)) rfl pass0 (pa_cons (pv 1) (pa_cons pe_int pa_nil)))) pa_nil)) (pg_name (i := 12) sc_law.nd rfl (Or.inl rfl))
  (pss_one (ps_if (pt_not (pt_val (pe_callG G_z_deed hr rfl passN (pa_cons (pv 1) (pa_cons (pv 9) (pa_cons (pv 10) (pa_cons (pv 8) (pa_cons (pv 2) (pa_cons (pv 11) pa_nil))))))))) (pss_one (ps_ret pe_bl)) pss_nil)))
  (pss_cons (ps_for PassesOwn.never rfl (pi_range1 rfl Y.z_range (pa_cons pe_int pa_nil)) (pg_name (i := 12) sc_law.nd rfl (Or.inl rfl))
  (pss_cons (ps_if (pt_not (pt_val (pe_callG G_z_same (hr.mono (by decide)) rfl pass0 (pa_cons (pv 9) (pa_cons (pv 10) (pa_cons (pv 8) pa_nil)))))) (pss_one (ps_ret pe_bl)) pss_nil)
  (pss_one (ps_if (pt_cmpR op_gt (pe_ix xIx (pv 11) pe_int (fun _ _ => rfl)) pe_int (nomark _)) (pss_cons (ps_asg (pe_op op_sub (pe_ix xIx (pv 11) pe_int (fun _ _ => rfl)) pe_int) (pg_sub (pv 11) pe_int set_list))
  (pss_one (ps_if (pt_not (pt_val (pe_callG G_z_up (hr.mono (by decide)) rfl passN (pa_cons (pv 1) (pa_cons (pv 9) (pa_cons (pv 10) (pa_cons (pe_ix xIx (pv 8) pe_int (fun _ _ => rfl)) (pa_cons (pv 2) pa_nil)))))))) (pss_one (ps_ret pe_bl)) pss_nil))) pss_nil))))
  (pss_one (ps_ret (pe_and (pe_cmpR (xEq hu) (pe_fld (pv 9) rfl) pe_int (nomark _)) (pe_one (pe_cmpR (xEq hu) (pe_fld (pv 9) rfl) (pe_fld (pv 9) rfl) (nomark _)))))))))))))))))))))), ?_⟩
  rw [st_law]
  try simp only [cxK, cxK2, cxW, cxW2]
  clear hu hr F
  repeat' walk_at "st"
  refine s_cutG (fun σ H' => ∃ (pst : Addr) (w x g n : Int), σ = [some (.ref sc), some (.ref pst), some (.int w), none, none, none, none, none, none, none, none, none, none] ∧ SH [] H H' [(pst, stO sc x g n)] ∧ 0 ≤ x ∧ 0 ≤ g ∧ 3 ≤ w ∧ w ≤ 32) ?_ ?_
  · repeat' walk_at "st"
    · exact ⟨p, _, x1, g1, n1, rfl, hS, by assumption, by assumption, by omega, by omega⟩
    · exact ⟨p, _, x1, g1, n1, rfl, hS, by assumption, by assumption, by omega, by omega⟩
  clear hS
  rintro σ H1 ⟨pst, w, x, g, n, rfl, hS, hx, hg, hw3, hw32⟩
  obtain ⟨w, rfl⟩ : ∃ k : Nat, w = (k : Nat) := ⟨w.toNat, by omega⟩
  obtain ⟨ea, eb⟩ := enc_some (enc_all w (by omega))
  repeat' walk_at "st"
  refine s_cutG (fun σ H' => ∃ v3, σ = [some (.ref sc), some (.ref pst), some (.int (w : Nat)), v3, none, none, none, none, none, none, none, none, none] ∧ SH [] H H' [(pst, stO sc x g n)]) ?_ ?_
  · repeat' walk_at "st"
    refine c_z_words (hS.get 3 rfl) (hS.get 0 rfl) pg ea (Nat.le_of_ble_eq_true rfl) ?_
    repeat' walk_at "st"
    refine c_z_words (hS.get 3 rfl) (hS.get 0 rfl) pg eb (Nat.le_of_ble_eq_true rfl) ?_
    repeat' walk_at "st"
    exact ⟨_, rfl, hS.sub (by repeat (first | exact List.Sublist.refl _ | apply List.Sublist.cons))⟩
  clear hS
  rintro σ H1 ⟨v3, rfl, hS⟩
  repeat' walk_at "st"
  refine s_cutG (fun σ H' => ∃ (st sz jk x g n : Int), σ = [some (.ref sc), some (.ref pst), some (.int (w : Nat)), v3, some (.int st), some (.int sz), some (.int jk), none, none, none, none, none, none] ∧ SH [] H H' [(pst, stO sc x g n)] ∧ 0 ≤ x ∧ 0 ≤ g ∧ 16 ≤ st ∧ st * 42 ≤ sz ∧ sz ≤ 850) ?_ ?_
  · repeat' walk_at "st"
    exact ⟨_, _, _, _, _, _, rfl, hS, by assumption, by assumption, by omega, by omega, by omega⟩
  clear hS hx hg
  rintro σ H1 ⟨st, sz, jk, x, g, n, rfl, hS, hx, hg, h16, hsz, h850⟩
  obtain ⟨sz, rfl⟩ : ∃ k : Nat, sz = (k : Nat) := ⟨sz.toNat, by omega⟩
  refine s_cutG (fun σ H' => ∃ (m1 m2 mp : Addr) (v7 : Option V), σ = [some (.ref sc), some (.ref pst), some (.int (w : Nat)), v3, some (.int st), some (.int (sz : Nat)), some (.int jk), v7, some (.ref mp), none, none, none, none] ∧ SH [] H H' [(mp, .lst [.ref m1, .ref m2]), (m2, mO (jnk jk sz)), (m1, mO (jnk jk sz)), (pst, stO sc x g n)]) ?_ ?_
  · repeat' walk_at "st"
    refine u_lcR1 hS (i := 7) (fun D k H' => SH [] H H' ((D, .lst ((jnk jk k).map V.int)) :: [(pst, stO sc x g n)])) (by omega) (by omega) (fun D H1 hS => hS) ?_ ?_
    · rintro D i H1 hi hS
      repeat' walk_at "st"
      refine h_lcEnd hS (i := 0) rfl (by rw [List.length_map, jnk_len, sizeLine_eq]; omega) rfl rfl (fun H4 hS4 => ?_)
      rw [jnk_succ]
      exact hS4
    · rintro D H1 hS
      simp only [Int.toNat_natCast] at hS
      repeat' walk_at "st"
      refine u_lcR1 hS (i := 7) (fun D2 k H' => SH [] H H' ((D2, .lst ((jnk jk k).map V.int)) :: [(D, .lst ((jnk jk sz).map V.int)), (pst, stO sc x g n)])) (by omega) (by omega) (fun D H1 hS => hS) ?_ ?_
      · rintro D2 i H1 hi hS
        repeat' walk_at "st"
        refine h_lcEnd hS (i := 0) rfl (by rw [List.length_map, jnk_len, sizeLine_eq]; omega) rfl rfl (fun H4 hS4 => ?_)
        rw [jnk_succ]
        exact hS4
      · rintro D2 H1 hS
        simp only [Int.toNat_natCast] at hS
        repeat' walk_at "st"
        exact ⟨_, _, _, _, rfl, hS⟩
  clear hS
  rintro σ H1 ⟨m1, m2, mp, v7, rfl, hS⟩
  obtain ⟨xi, exi⟩ : ∃ q, q = x := ⟨x, rfl⟩
  rw [← exi] at hS hx
  clear exi
  repeat' walk_at "st"
  refine ⟨_, _, rfl, _, _, w, rfl, rfl, by omega, hS.get 0 rfl, fun S R rs H2 hr C => ⟨rfl, ?_⟩⟩
  have hS := SH.call (B := [_]) hS C
  obtain ⟨B, eB⟩ : ∃ B : BA, B = ⟨x, dx, S, R, rs⟩ := ⟨_, rfl⟩
  have ex : x = B.b := by rw [eB]
  rw [← eB] at hS
  rw [ex]
  have hlB : B.rs.length = (W0 w).rows.length := by rw [eB]; exact hr.trans List.length_replicate.symm
  clear eB ex hr C
  have hmp := hS.hs (mp, _) (List.mem_append_right _ (.head _))
  repeat' walk_at "st"
  refine ⟨_, _, _, rfl, _, _, m2, w, rfl, rfl, rfl, by omega, hS.get 0 rfl, fun S2 R2 rs2 H3 hr2 C2 => ⟨rfl, ?_⟩⟩
  have hS := SH.call (B := [_]) hS C2
  obtain ⟨G, eG⟩ : ∃ G : BA, G = ⟨x, dx, S2, R2, rs2⟩ := ⟨_, rfl⟩
  have ex : x = G.b := by rw [eG]
  rw [← eG] at hS
  rw [ex]
  have hlG : G.rs.length = (W0g w).rows.length := by rw [eG]; exact hr2.trans List.length_replicate.symm
  clear eG ex hr2 C2 hmp
  repeat' walk_at "st"
  have hS := hS.perm (perm_ds (p, _) (mp, _) (m2, _) (m1, _) (pst, _) (gCells K G m2 ⟨W0g w, 1⟩) (bCells K B (W0 w)))
  obtain ⟨shp, es⟩ : ∃ q, q = p := ⟨p, rfl⟩
  rw [← es] at hS ⊢
  refine c_z_both (m := 14) (F := [_, _, _]) (B := B) (G := G) (W := W0 w) (X := ⟨W0g w, 1⟩) (mem := jnk jk sz) hS (W0_ok (by omega) (by omega)) (W0g_ok (by omega) (by omega)) hlB hlG (by decide) (by decide) (fun H4 hS4 => ?_)
  repeat clear hS
  have hR := rl0 (w := w) (sz := (sz : Nat)) (st := st) (mem := jnk jk sz) (by omega) (by omega)
  have hlB : B.rs.length = ((W0 w).setR 14 ((sz : Nat) - 16)).rows.length := hlB.trans (set_len _ _ _).symm
  have hlG : G.rs.length = ((W0g w).setR 14 ((sz : Nat) - 16)).rows.length := hlG.trans (set_len _ _ _).symm
  have hd : ((W0 w).setR 14 ((sz : Nat) - 16)).dep = 0 := setR_dep _ _ _
  have hw : ((W0 w).setR 14 ((sz : Nat) - 16)).rows.length = w := (set_len _ _ _).trans List.length_replicate
  rename SH _ _ _ _ => hS
  generalize (W0 w).setR 14 ((sz : Nat) - 16) = W at hS hR hlB hd hw
  generalize (W0g w).setR 14 ((sz : Nat) - 16) = Wg at hS hR hlG
  have hml := jnk_len jk sz
  generalize jnk jk sz = mem at hS hR hml
  replace hS : SH [] H H4 (DS K shp mp pst sc sz st xi g n B G m1 m2 W ⟨Wg, 1⟩ mem) := by
    unfold DS
    rw [hd]
    exact hS
  have hl2 : G.rs.length = w := by rw [hlG]; exact (hR.len.symm.trans hw)
  have hl1 : B.rs.length = w := hlB.trans hw
  obtain ⟨rs, ers⟩ : ∃ rs, rs = G.rs := ⟨_, rfl⟩
  have eG : G = ⟨G.b, G.dx, G.S, G.R, rs⟩ := by rw [ers]
  rw [eG] at hS
  rw [← ers] at hl2
  have hX : Rl sz st W ⟨Wg, 1⟩ mem := hR
  generalize (⟨Wg, 1⟩ : RS) = X at hS hX
  have d0 : 0 ≤ W.dep := by omega
  have hdt : W.dep ≤ 0 := by omega
  clear eG ers hlG hlB hd hR
  repeat' walk_at "st"
  replace hS : SH [] H H1 (DS K shp mp pst sc sz st x1 g1 n1 B ⟨G.b, G.dx, G.S, G.R, rs⟩ m1 m2 W X mem) := hS
  have hsz0 : ∀ d : Int, 0 ≤ d → d ≤ 41 → ∀ mem : List Int, mem.length = sz → lies mem (spf sz st d) := fun d h0 h1 mem hm => by
    have h2 : st * d ≤ st * 41 := Int.mul_le_mul_of_nonneg_left h1 (by omega)
    have h3 : 0 ≤ st * d := Int.mul_nonneg (by omega) h0
    unfold lies spf
    omega
  refine u_forR1 (j := 8 + r) (fun (t : Nat) σ H' => ∃ (xi gi ni : Int) (W : BW) (X : RS) (mem : List Int) (rs : List Addr) (v12 : Option V), σ = [some (.ref sc), some (.ref pst), some (.int (w : Nat)), v3, some (.int st), some (.int (sz : Nat)), some (.int jk), v7, some (.ref mp), some (.ref B.b), some (.ref G.b), some (.ref shp), v12] ∧ SH [] H H' (DS K shp mp pst sc sz st xi gi ni B ⟨G.b, G.dx, G.S, G.R, rs⟩ m1 m2 W X mem) ∧ 0 ≤ xi ∧ 0 ≤ gi ∧ Rl sz st W X mem ∧ W.rows.length = w ∧ rs.length = w ∧ 0 ≤ W.dep ∧ W.dep ≤ (t : Nat) ∧ mem.length = sz) (by omega) (by omega) ⟨_, _, _, W, X, mem, rs, _, rfl, hS, by assumption, by assumption, hX, hw, hl2, d0, hdt, hml⟩ ?_ ?_
  · clear hS hX hw hl2 d0 hdt hml
    rintro t σ H2 ht ⟨xi, gi, ni, W, X, mem, rs, v12, rfl, hS, hxi, hgi, R, hw, hrs, d0, hdt, hml⟩
    have hb := hS.hs (B.b, _) (.tail _ (.tail _ (.tail _ (.tail _ (.head _)))))
    repeat' walk_at "st"
    rw [← hw]
    refine c_z_deed (F := []) (G := ⟨G.b, G.dx, G.S, G.R, rs⟩) hS hs hxi hgi R (by rw [hw]; exact hl1) (by rw [← R.len, hw]; exact hrs) h16 (fun d h0 h1 => hsz0 d h0 (by omega) _ hml) (by omega) d0 (by omega) (fun xi gi ni W1 X1 mem1 rs1 H3 hxi hgi R1 hw1 d01 hd1 hm1 hr1 hS1 => ?_)
    repeat' walk_at "st"
    exact ⟨_, _, _, W1, X1, mem1, rs1, _, rfl, hS1, hxi, hgi, R1, hw1, hr1, d01, by omega, hm1.trans hml⟩
  · clear hS hX hw hl2 d0 hdt hml
    rintro σ H2 ⟨xi, gi, ni, W, X, mem, rs, v12, rfl, hS, hxi, hgi, R, hw, hrs, d0, hdt, hml⟩
    repeat' walk_at "st"
    refine u_forR1 (fun (t : Nat) σ H' => ∃ (xi gi ni : Int) (W : BW) (X : RS) (mem : List Int) (rs : List Addr) (v12 : Option V), σ = [some (.ref sc), some (.ref pst), some (.int (w : Nat)), v3, some (.int st), some (.int (sz : Nat)), some (.int jk), v7, some (.ref mp), some (.ref B.b), some (.ref G.b), some (.ref shp), v12] ∧ SH [] H H' (DS K shp mp pst sc sz st xi gi ni B ⟨G.b, G.dx, G.S, G.R, rs⟩ m1 m2 W X mem) ∧ 0 ≤ xi ∧ 0 ≤ gi ∧ Rl sz st W X mem ∧ W.rows.length = w ∧ rs.length = w ∧ 0 ≤ W.dep ∧ (W.dep + (t : Nat) ≤ 41 ∨ W.dep = 0) ∧ mem.length = sz) (by decide) (by decide) ⟨_, _, _, W, X, mem, rs, _, rfl, hS, hxi, hgi, R, hw, hrs, d0, by omega, hml⟩ ?_ ?_
    · clear hS hxi hgi R hw hrs d0 hdt hml
      rintro t σ H3 ht ⟨xi, gi, ni, W, X, mem, rs, v12, rfl, hS, hxi, hgi, R, hw, hrs, d0, hdt, hml⟩
      repeat' walk_at "st"
      refine c_z_same (G := ⟨G.b, G.dx, G.S, G.R, rs⟩) hS (fun c hc => hS.hs c (.tail _ (.tail _ (.tail _ hc)))) (hS.get 1 rfl) R (by rw [hw]; exact hl1) (by rw [← R.len, hw]; exact hrs) (fun H4 hS4 => ?_)
      clear hS
      rename SH _ _ _ _ => hS
      repeat' walk_at "st"
      · replace hS : SH [] H H1 ([(shp, .lst [.int (sz - 16), .int st, .int (W.dep - 1)]), (mp, .lst [.ref m1, .ref m2])] ++ LD K pst sc xi gi ni B ⟨G.b, G.dx, G.S, G.R, rs⟩ m1 m2 W X mem) := hS
        rw [← hw]
        refine c_z_up (F := [_, _]) (G := ⟨G.b, G.dx, G.S, G.R, rs⟩) hS hs hxi hgi R (by rw [hw]; exact hl1) (by rw [← R.len, hw]; exact hrs) h16 (fun d h0 h1 => hsz0 d h0 (by omega) _ hml) (by omega) (by omega) (fun xi gi ni W1 X1 rs1 H6 hxi hgi R1 nr hw1 hd1 hr1 hS1 => ?_)
        have e : W1.up.dep = W.dep - 1 := by
          show W1.dep - 1 = _
          rw [hd1]
        repeat' walk_at "st"
        refine ⟨xi, gi, ni, W1.up, X1.up, mem, rs1, _, rfl, ?_, hxi, hgi, R1.up nr, hw1, hr1, by rw [e]; omega, by rw [e]; omega, hml⟩
        unfold DS
        rw [e]
        exact hS1
      · exact ⟨_, _, _, W, X, mem, rs, _, rfl, hS, hxi, hgi, R, hw, hrs, d0, by omega, hml⟩
    · clear hS hxi hgi R hw hrs d0 hdt hml
      rintro σ H3 ⟨xi, gi, ni, W, X, mem, rs, v12, rfl, hS, hxi, hgi, R, hw, hrs, d0, hdt, hml⟩
      have hb := hS.hs (B.b, _) (.tail _ (.tail _ (.tail _ (.tail _ (.head _)))))
      repeat' walk_at "st"
      have h1 := R.r1
      have h2 := R.d0
      have h3 := R.sf
      rw [decide_eq_true (show W.spi = W.fil by omega)]
      exact k _
  )) only [↓Hsh.on])
theorem law_ask {K : PySem.W.Frag} {H : Hp} (a : Addr) (ns : List Int) (hl : ns.length ≤ 63) (hO : Only H) (hS : SqL K H a (ns.map V.int)) : sp_law K [.ref a] H (fun v _ => v = .bl true) fun _ _ _ => False :=
  by first | exact ⟨_, rfl, a, ns, rfl, Scr.of hS hO, fun _ => rfl⟩ | exact ⟨_, rfl, a, ns, rfl, hl, Scr.of hS hO, fun _ => rfl⟩
theorem facts {w : World} {K : PySem.W.Frag} {h : Heap} {mg : Str → Option Value} {f : Addr} (X : K.In h) (G : h.Ns mainGlobals mg) (hfa : mg ("law" : Str) = some (.ref f)) (c : SaysP fa fn ts ex prl w h K) :
    ∃ fd : FuncData, (∀ (s : Shared) (v : Value), BindsTo s fd ⟨[v], []⟩ [("_law_script", v)]) ∧ ∀ base : Heap, K.In base → base.Ns mainGlobals mg → FnOk (PySem.Challenge.rw_windowada_k69_trap_handlers).prog w K mg base CX0 7 f fd ["_law_script"] (sp_law K) := Hsh.un (by simp (disch := k_dflt (
  refine Hsh.up ?_
  have Y : Env w K mg := env_mk X G c
  obtain ⟨fd, F⟩ := Y.fd_law
  have e := hfa.symm.trans Y.mg_law
  cases e
  have b := FunD.bindsA (ps := ["_law_script"]) F fun _ _ _ _ _ _ us hl => match us, hl with | [_], _ => rfl
  refine ⟨fd, fun s v => b s [v] rfl, fun base _ _ => ?_⟩
  have G_Banks_init__ := ok_Banks_init__ (P := (PySem.Challenge.rw_windowada_k69_trap_handlers).prog) (w := w) (base := base) Y
  have G_Ring_init__ := ok_Ring_init__ (P := (PySem.Challenge.rw_windowada_k69_trap_handlers).prog) (w := w) (base := base) Y
  have G_row_of := ok_row_of (P := (PySem.Challenge.rw_windowada_k69_trap_handlers).prog) (w := w) (base := base) Y
  have G_Banks_write := ok_Banks_write (P := (PySem.Challenge.rw_windowada_k69_trap_handlers).prog) (w := w) (base := base) Y G_row_of
  have G_Ring_write := ok_Ring_write (P := (PySem.Challenge.rw_windowada_k69_trap_handlers).prog) (w := w) (base := base) Y G_row_of
  have G_z_both := ok_z_both (P := (PySem.Challenge.rw_windowada_k69_trap_handlers).prog) (w := w) (base := base) Y G_Banks_write G_Ring_write
  have G_Banks_blocked_down := ok_Banks_blocked_down (P := (PySem.Challenge.rw_windowada_k69_trap_handlers).prog) (w := w) (base := base) Y
  have G_Banks_move_down := ok_Banks_move_down (P := (PySem.Challenge.rw_windowada_k69_trap_handlers).prog) (w := w) (base := base) Y
  have G_clear_new := ok_clear_new (P := (PySem.Challenge.rw_windowada_k69_trap_handlers).prog) (w := w) (base := base) Y
  have G_Banks_shift_down := ok_Banks_shift_down (P := (PySem.Challenge.rw_windowada_k69_trap_handlers).prog) (w := w) (base := base) Y G_Banks_move_down G_clear_new
  have G_Banks_trap_down := ok_Banks_trap_down (P := (PySem.Challenge.rw_windowada_k69_trap_handlers).prog) (w := w) (base := base) Y G_Banks_move_down G_Banks_write
  have G_area := ok_area (P := (PySem.Challenge.rw_windowada_k69_trap_handlers).prog) (w := w) (base := base) Y
  have G_Ring_spill := ok_Ring_spill (P := (PySem.Challenge.rw_windowada_k69_trap_handlers).prog) (w := w) (base := base) Y G_area
  have G_Ring_shift_down := ok_Ring_shift_down (P := (PySem.Challenge.rw_windowada_k69_trap_handlers).prog) (w := w) (base := base) Y G_Ring_spill G_clear_new
  have G_Banks_read := ok_Banks_read (P := (PySem.Challenge.rw_windowada_k69_trap_handlers).prog) (w := w) (base := base) Y G_row_of
  have G_Banks_shift_up := ok_Banks_shift_up (P := (PySem.Challenge.rw_windowada_k69_trap_handlers).prog) (w := w) (base := base) Y
  have G_Banks_leave_trap := ok_Banks_leave_trap (P := (PySem.Challenge.rw_windowada_k69_trap_handlers).prog) (w := w) (base := base) Y G_Banks_read G_Banks_shift_up
  have G_Banks_set_bar := ok_Banks_set_bar (P := (PySem.Challenge.rw_windowada_k69_trap_handlers).prog) (w := w) (base := base) Y
  have G_z_value := ok_z_value (P := (PySem.Challenge.rw_windowada_k69_trap_handlers).prog) (w := w) (base := base) Y G_Banks_read
  have G_z_handle := ok_z_handle (P := (PySem.Challenge.rw_windowada_k69_trap_handlers).prog) (w := w) (base := base) Y G_Banks_leave_trap G_Banks_read G_Banks_set_bar G_Banks_shift_down G_Banks_shift_up G_Banks_write G_z_value
  have G_z_pick := ok_z_pick (P := (PySem.Challenge.rw_windowada_k69_trap_handlers).prog) (w := w) (base := base) Y
  have G_z_spill := ok_z_spill (P := (PySem.Challenge.rw_windowada_k69_trap_handlers).prog) (w := w) (base := base) Y
  have G_z_down := ok_z_down (P := (PySem.Challenge.rw_windowada_k69_trap_handlers).prog) (w := w) (base := base) Y G_Banks_blocked_down G_Banks_shift_down G_Banks_trap_down G_Ring_shift_down G_z_handle G_z_pick G_z_spill
  have G_Ring_read := ok_Ring_read (P := (PySem.Challenge.rw_windowada_k69_trap_handlers).prog) (w := w) (base := base) Y G_row_of
  have G_z_is_integer := ok_z_is_integer (P := (PySem.Challenge.rw_windowada_k69_trap_handlers).prog) (w := w) (base := base) Y
  have G_z_same := ok_z_same (P := (PySem.Challenge.rw_windowada_k69_trap_handlers).prog) (w := w) (base := base) Y G_Banks_read G_Ring_read G_z_is_integer
  have G_Banks_blocked_up := ok_Banks_blocked_up (P := (PySem.Challenge.rw_windowada_k69_trap_handlers).prog) (w := w) (base := base) Y
  have G_Banks_trap_up := ok_Banks_trap_up (P := (PySem.Challenge.rw_windowada_k69_trap_handlers).prog) (w := w) (base := base) Y G_Banks_move_down G_Banks_write
  have G_Ring_fill := ok_Ring_fill (P := (PySem.Challenge.rw_windowada_k69_trap_handlers).prog) (w := w) (base := base) Y G_area
  have G_Ring_shift_up := ok_Ring_shift_up (P := (PySem.Challenge.rw_windowada_k69_trap_handlers).prog) (w := w) (base := base) Y G_Ring_fill
  have G_z_fill := ok_z_fill (P := (PySem.Challenge.rw_windowada_k69_trap_handlers).prog) (w := w) (base := base) Y
  have G_z_up := ok_z_up (P := (PySem.Challenge.rw_windowada_k69_trap_handlers).prog) (w := w) (base := base) Y G_Banks_blocked_up G_Banks_shift_up G_Banks_trap_up G_Ring_shift_up G_z_fill G_z_handle G_z_pick
  have G_z_word := ok_z_word (P := (PySem.Challenge.rw_windowada_k69_trap_handlers).prog) (w := w) (base := base) Y G_z_pick
  have G_z_deed := ok_z_deed (P := (PySem.Challenge.rw_windowada_k69_trap_handlers).prog) (w := w) (base := base) Y G_z_both G_z_down G_z_pick G_z_same G_z_up G_z_word
  have G_bounded := ok_bounded (P := (PySem.Challenge.rw_windowada_k69_trap_handlers).prog) (w := w) (base := base) Y
  have G_operand_bits := ok_operand_bits (P := (PySem.Challenge.rw_windowada_k69_trap_handlers).prog) (w := w) (base := base) Y G_bounded
  have G_register_bits := ok_register_bits (P := (PySem.Challenge.rw_windowada_k69_trap_handlers).prog) (w := w) (base := base) Y G_bounded
  have G_encode := ok_encode (P := (PySem.Challenge.rw_windowada_k69_trap_handlers).prog) (w := w) (base := base) Y G_bounded G_operand_bits G_register_bits
  have G_z_words := ok_z_words (P := (PySem.Challenge.rw_windowada_k69_trap_handlers).prog) (w := w) (base := base) Y G_z_is_integer G_encode
  have G_fill_handler := ok_fill_handler (P := (PySem.Challenge.rw_windowada_k69_trap_handlers).prog) (w := w) (base := base) Y
  have G_spill_handler := ok_spill_handler (P := (PySem.Challenge.rw_windowada_k69_trap_handlers).prog) (w := w) (base := base) Y
  have G_trap_code := ok_trap_code (P := (PySem.Challenge.rw_windowada_k69_trap_handlers).prog) (w := w) (base := base) Y G_encode G_fill_handler G_spill_handler
  exact ok_law (P := (PySem.Challenge.rw_windowada_k69_trap_handlers).prog) (w := w) (base := base) Y G_Banks_init__ G_Ring_init__ G_z_both G_z_deed G_z_fill G_z_pick G_z_same G_z_spill G_z_up G_z_words G_trap_code F
  )) only [↓Hsh.on])
end Law
open PySem PySem.W PySem.Calls PyProof.Rows
set_option maxRecDepth 100000 in
set_option maxHeartbeats 0 in
theorem PySem.Challenge.cw_windowada_k69_trap_handlers_holds : PySem.Challenge.rw_windowada_k69_trap_handlers.Holds := by
  w_on; o_law
  refine HandSHeadRun.head_any (r := OpenLaw.row PySem.Challenge.rw_windowada_k69_trap_handlers) (q := view (OpenLaw.row PySem.Challenge.rw_windowada_k69_trap_handlers).prog [57]) (H := Law.hk) (ob := Law.ob) (M := 4000) (loose := Law.loose) (d := HandSHeadRun.topDef (OpenLaw.row PySem.Challenge.rw_windowada_k69_trap_handlers).prog 57) (kwd := []) Law.ob_eq
    (by kernel_rfl) (fun s => by kernel_rfl) Law.run (by kernel_rfl) (by kernel_rfl) (by kernel_rfl) (by rfl) (by first | assumption | decide +kernel) (by decide +kernel) ⟨rfl, rfl, rfl, rfl, rfl, by decide +kernel⟩ ?hw ?hc
  case hw => w_witness2
  case hc =>
    refine L2.walk_ofE (l := PySem.Challenge.rw_windowada_k69_trap_handlers) (n := 63) (k := 7) (x := "_law_script") (CX := L2.CX0) rfl (by decide) (by kernel_rfl) ⟨rfl, by decide, by decide⟩ ?F (fun _ _ _ _ z => z)
    intro w mg fa h Y G hmg0
    obtain ⟨K, KX, c⟩ := Y
    have hmg : mg ("law" : PySem.Str) = some (.ref fa) := by
      have e : (HandSHeadRun.topDef (OpenLaw.row PySem.Challenge.rw_windowada_k69_trap_handlers).prog 57).name = ("law" : PySem.Str) := by kernel_rfl
      rw [← e]
      exact hmg0
    obtain ⟨fd, hb, hF⟩ := Law.facts (w := w) KX G hmg c
    exact ⟨K, fd, Law.sp_law K, KX, hb, fun H a ns hl hO hS => Law.law_ask a ns hl hO hS, hF⟩


