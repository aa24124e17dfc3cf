import PyProof.Rows.All
import Wide.All
import OpenK.AllK
import Wide.FinOn
import HandS.ForMost
import HandS.WideBits
import HandS.Style
import HandS.Defaults
import HandS.IsInst
import HandS.Codes
import HandS.Evl
import HandS.Flow
import HandS.OwnEq
import KE.IntBitsLaws
import PyProof.Rows.RuleB_pow
import PyProof.InstNe
import KE.GoesMore
import KE.GoesEnum
import HandS.Iter
import HandS.DictComp
import HandS.Lambda
import HandS.HeadWalk
import HandS.Small
import KE.KDflt
import HandS.ExcInit
import HandS.ExcOwn
import HandS.TryOnly
import HandS.WordsExc
import HandS.ClsMeth
import HandS.TryMany
import HandS.ExcField
import HandS.ExcIs
import KE.KExcInit
import HandS.CallLocal
import HandS.More
import HandS.TupAny
import HandS.Text
import KE.KRevSl
import PyProof.StrOps2
import KE.KEqNest
import PyProof.NeKinds
import HandS.NoneIn
import HandS.MakeKwOnly
import KE.IntTextLaws
import PyProof.FitsBits
import PySem.Challenge.RW_thirtybits_k65_texts_read
set_option Elab.async false
set_option linter.all false
set_option maxRecDepth 100000
set_option maxHeartbeats 4000000
namespace Eng
open PySem L2
/-- H0 the heap at the entry, H now; M: what of H0 may change; L: what is known, each place once -/
structure Wd (H0 H : Hp) (M : List Addr) (L : List (Addr × HO)) : Prop where
  get : ∀ {a : Addr} {o : HO}, (a, o) ∈ L → H a = some o
  nd : (L.map (·.1)).Nodup
  keep : ∀ b o, H0 b = some o → b ∉ M → H b = some o
  sub : ∀ a ∈ M, a ∈ L.map (·.1)
/-- L' is L with the thing at a turned from o to u -/
inductive Rp (a : Addr) (o u : HO) : List (Addr × HO) → List (Addr × HO) → Prop where
  | here {L} : Rp a o u ((a, o) :: L) ((a, u) :: L)
  | there {q L L'} : Rp a o u L L' → Rp a o u (q :: L) (q :: L')
theorem Rp.app {a : Addr} {o u : HO} {L L' : List (Addr × HO)} (r : Rp a o u L L') : ∀ {N : List (Addr × HO)}, Rp a o u (N ++ L) (N ++ L')
  | [] => r
  | _ :: _ => .there r.app
theorem Rp.mem {a : Addr} {o u : HO} : ∀ {L L' : List (Addr × HO)}, Rp a o u L L' → (a, o) ∈ L
  | _, _, .here => List.mem_cons_self
  | _, _, .there r => List.mem_cons_of_mem _ r.mem
theorem Rp.keys {a : Addr} {o u : HO} : ∀ {L L' : List (Addr × HO)}, Rp a o u L L' → L'.map (·.1) = L.map (·.1)
  | _, _, .here => rfl
  | _, _, .there (q := q) (L := L) (L' := L') r => by
    show q.1 :: L'.map (·.1) = q.1 :: L.map (·.1)
    rw [r.keys]
theorem Rp.get {a : Addr} {o u : HO} : ∀ {L L' : List (Addr × HO)}, Rp a o u L L' → (L.map (·.1)).Nodup → ∀ {b : Addr} {v : HO}, (b, v) ∈ L' → (b = a ∧ v = u) ∨ (b ≠ a ∧ (b, v) ∈ L)
  | _, _, .here (L := L), hn, b, v, hm => by
    rcases List.mem_cons.mp hm with e | hm
    · cases e
      exact .inl ⟨rfl, rfl⟩
    · refine .inr ⟨fun e => ?_, List.mem_cons_of_mem _ hm⟩
      have h1 : a ∉ L.map (·.1) := (List.nodup_cons.mp (show (a :: L.map (·.1)).Nodup from hn)).1
      exact h1 (e ▸ List.mem_map.mpr ⟨(b, v), hm, rfl⟩)
  | _, _, .there (q := q) (L := L) (L' := L') r, hn, b, v, hm => by
    have hq := List.nodup_cons.mp (show (q.1 :: L.map (·.1)).Nodup from hn)
    rcases List.mem_cons.mp hm with e | hm
    · refine .inr ⟨fun e2 => ?_, by rw [← e]; exact List.mem_cons_self⟩
      have h2 : q.1 = a := by rw [← e]; exact e2
      exact hq.1 (h2 ▸ List.mem_map.mpr ⟨(a, o), r.mem, rfl⟩)
    · rcases r.get hq.2 hm with z | ⟨z1, z2⟩
      · exact .inl z
      · exact .inr ⟨z1, List.mem_cons_of_mem _ z2⟩
section
variable {H0 H H' : Hp} {M : List Addr} {L L' : List (Addr × HO)} {a p : Addr} {o u : HO}
theorem Wd.start (h : ∀ {a : Addr} {o : HO}, (a, o) ∈ L → H a = some o) (nd : (L.map (·.1)).Nodup) (sub : ∀ a ∈ M, a ∈ L.map (·.1)) : Wd H H M L := ⟨h, nd, fun _ _ e _ => e, sub⟩
theorem Wd.nil (H : Hp) : Wd H H [] [] := ⟨(fun h => nomatch h), List.nodup_nil, fun _ _ e _ => e, (fun _ h => nomatch h)⟩
/-- a further thing that stands in the entry's heap -/
theorem Wd.old (W : Wd H0 H M L) (h : H a = some o) (ha : a ∉ L.map (·.1)) : Wd H0 H M ((a, o) :: L) where
  get := fun hm => by
    rcases List.mem_cons.mp hm with e | hm
    · cases e; exact h
    · exact W.get hm
  nd := List.nodup_cons.mpr ⟨ha, W.nd⟩
  keep := W.keep
  sub := fun a h => List.mem_cons_of_mem _ (W.sub a h)
theorem Wd.one (h : H a = some o) : Wd H H [] [(a, o)] := (Wd.nil H).old h (fun z => nomatch z)
theorem Wd.may (W : Wd H0 H M L) (h : a ∈ L.map (·.1)) : Wd H0 H (a :: M) L where
  get := W.get
  nd := W.nd
  keep := fun b o e hb => W.keep b o e fun z => hb (List.mem_cons_of_mem _ z)
  sub := fun b hb => by
    rcases List.mem_cons.mp hb with e | hb
    · rw [e]; exact h
    · exact W.sub b hb
theorem Wd.there (W : Wd H0 H M L) (h : p ∈ L.map (·.1)) : ∃ o, H p = some o := by
  obtain ⟨⟨b, v⟩, hm, rfl⟩ := List.mem_map.mp h
  exact ⟨v, W.get hm⟩
theorem Wd.out (W : Wd H0 H M L) (h : H p = none) : p ∉ L.map (·.1) := fun z => by
  obtain ⟨o, e⟩ := W.there z
  rw [h] at e
  cases e
theorem Wd.fresh (W : Wd H0 H M L) (h : H p = none) : H0 p = none := by
  cases e : H0 p with
  | none => rfl
  | some o =>
    by_cases hm : p ∈ M
    · exact absurd (W.sub p hm) (W.out h)
    · rw [W.keep p o e hm] at h
      cases h
theorem Wd.new (W : Wd H0 H M L) (h : H p = none) : Wd H0 (upd H p o) M ((p, o) :: L) where
  get := fun {a v} hm => by
    rcases List.mem_cons.mp hm with e | hm
    · cases e; exact upd_same
    · rw [upd_ne (ne_of_none (W.get hm) h)]
      exact W.get hm
  nd := List.nodup_cons.mpr ⟨W.out h, W.nd⟩
  keep := fun b v e hb => by
    rw [upd_ne (ne_of_none (W.keep b v e hb) h)]
    exact W.keep b v e hb
  sub := fun a h => List.mem_cons_of_mem _ (W.sub a h)
theorem Wd.put (W : Wd H0 H M L) (r : Rp a o u L L') (h : H0 a = none ∨ a ∈ M) : Wd H0 (upd H a u) M L' where
  get := fun {b v} hm => by
    rcases r.get W.nd hm with ⟨e1, e2⟩ | ⟨e1, e2⟩
    · rw [e1, e2]; exact upd_same
    · rw [upd_ne e1]; exact W.get e2
  nd := by rw [r.keys]; exact W.nd
  keep := fun b v e hb => by
    have ne : b ≠ a := fun z => by
      subst z
      rcases h with h | h
      · rw [h] at e; cases e
      · exact hb h
    rw [upd_ne ne]
    exact W.keep b v e hb
  sub := fun b hb => by rw [r.keys]; exact W.sub b hb
theorem Wd.same (W : Wd H0 H M L) (s : Same H H') : Wd H0 H' M L := ⟨fun hm => s _ _ (W.get hm), W.nd, fun b o e hb => s _ _ (W.keep b o e hb), W.sub⟩
/-- a shorter list -/
theorem Wd.drop (W : Wd H0 H [] L) (hs : L'.Sublist L) : Wd H0 H [] L' := ⟨fun hm => W.get (hs.subset hm), (hs.map _).nodup W.nd, W.keep, (fun _ h => nomatch h)⟩
theorem Wd.drop1 {q : Addr × HO} (W : Wd H0 H M (q :: L)) (h : q.1 ∉ M) : Wd H0 H M L := ⟨fun hm => W.get (List.mem_cons_of_mem _ hm), (List.nodup_cons.mp (show (q.1 :: L.map (·.1)).Nodup from W.nd)).2, W.keep, fun a ha => by
  rcases List.mem_cons.mp (show a ∈ q.1 :: L.map (·.1) from W.sub a ha) with e | z
  · exact absurd (e ▸ ha) h
  · exact z⟩
theorem Wd.perm (W : Wd H0 H M L) (h : L.Perm L') : Wd H0 H M L' := ⟨fun hm => W.get (h.mem_iff.mpr hm), (h.map _).nodup_iff.mp W.nd, W.keep, fun a ha => (h.map _).mem_iff.mp (W.sub a ha)⟩
/-- the first to the end -/
theorem Wd.move {q : Addr × HO} {A B : List (Addr × HO)} (W : Wd H0 H M (q :: (A ++ B))) : Wd H0 H M (A ++ (B ++ [q])) := W.perm (by
  rw [← List.append_assoc]
  exact (List.perm_append_singleton q (A ++ B)).symm)
theorem Wd.toSame (W : Wd H0 H [] L) : Same H0 H := fun b o e => W.keep b o e (fun h => nomatch h)
end
structure Chg (H H' : Hp) (cs ns : List (Addr × HO)) : Prop where
  chg : ∀ {a : Addr} {o : HO}, (a, o) ∈ cs → H' a = some o
  new : ∀ {a : Addr} {o : HO}, (a, o) ∈ ns → H a = none ∧ H' a = some o
  nd : (ns.map (·.1)).Nodup
  keep : ∀ b o, H b = some o → b ∉ cs.map (·.1) → H' b = some o
section
variable {H0 H H' : Hp} {M : List Addr} {L L' L'' cs ns : List (Addr × HO)} {a b : Addr} {o u o2 u2 : HO}
theorem Wd.chg0 (W : Wd H0 H M L) (c : Chg H H' [] ns) : Wd H0 H' M (ns ++ L) where
  get := fun hm => by
    rcases List.mem_append.mp hm with h | h
    · exact (c.new h).2
    · exact c.keep _ _ (W.get h) (fun z => nomatch z)
  nd := by
    rw [List.map_append]
    refine List.nodup_append.mpr ⟨c.nd, W.nd, fun x hx y hy e => ?_⟩
    subst e
    obtain ⟨⟨p, v⟩, hm, rfl⟩ := List.mem_map.mp hx
    exact W.out (c.new hm).1 hy
  keep := fun b v e hb => c.keep _ _ (W.keep b v e hb) (fun z => nomatch z)
  sub := fun a h => by rw [List.map_append]; exact List.mem_append_right _ (W.sub a h)
theorem Wd.chg1 (W : Wd H0 H M L) (r : Rp a o u L L') (c : Chg H H' [(a, u)] ns) (h : H0 a = none ∨ a ∈ M) : Wd H0 H' M (ns ++ L') where
  get := fun {b v} hm => by
    rcases List.mem_append.mp hm with z | z
    · exact (c.new z).2
    · rcases r.get W.nd z with ⟨e1, e2⟩ | ⟨e1, e2⟩
      · rw [e1, e2]; exact c.chg List.mem_cons_self
      · exact c.keep _ _ (W.get e2) (fun z => by rcases List.mem_cons.mp z with q | q; exact e1 q; exact nomatch q)
  nd := by
    rw [List.map_append, r.keys]
    refine List.nodup_append.mpr ⟨c.nd, W.nd, fun x hx y hy e => ?_⟩
    subst e
    obtain ⟨⟨p, v⟩, hm, rfl⟩ := List.mem_map.mp hx
    exact W.out (c.new hm).1 hy
  keep := fun b v e hb => by
    have ne : b ≠ a := fun z => by
      subst z
      rcases h with h | h
      · rw [h] at e; cases e
      · exact hb h
    exact c.keep _ _ (W.keep b v e hb) (fun z => by rcases List.mem_cons.mp z with q | q; exact ne q; exact nomatch q)
  sub := fun a h => by rw [List.map_append, r.keys]; exact List.mem_append_right _ (W.sub a h)
theorem Chg.of_same (s : Same H H') : Chg H H' [] [] := ⟨(fun h => nomatch h), (fun h => nomatch h), List.nodup_nil, fun b o e _ => s b o e⟩
/-- what a def has done, told to its caller -/
theorem Wd.done (W : Wd H H' M L) (hc : ∀ q ∈ cs, q ∈ L) (hM : ∀ a ∈ M, a ∈ cs.map (·.1)) (hn : ∀ q ∈ ns, q ∈ L ∧ H q.1 = none) (nd : (ns.map (·.1)).Nodup) : Chg H H' cs ns :=
  ⟨fun h => W.get (hc _ h), fun h => ⟨(hn _ h).2, W.get (hn _ h).1⟩, nd, fun b o e hb => W.keep b o e fun z => hb (hM b z)⟩
end
end Eng
section
open PySem PySem.W PyProof.Rows
def PySem.W.Fast.tw15585692582103803323 : Unit := ()
def PySem.W.Fast.tw3446031283917125952 : Unit := ()
def PySem.W.Fast.tw15411938277368162726 : Unit := ()
def PySem.W.Fast.tw13892103573214964276 : Unit := ()
def PySem.W.Fast.tw6520648077774974883 : Unit := ()
def PySem.W.Fast.tw6044217769592469957 : Unit := ()
def PySem.W.Fast.tw7162167729604006441 : Unit := ()
def PySem.W.Fast.tw2356702102842556883 : Unit := ()
def PySem.W.Fast.tw1775112151668144243 : Unit := ()
def PySem.W.Fast.tw8273560516523283636 : Unit := ()
def PySem.W.Fast.tw13801980732893156512 : Unit := ()
def PySem.W.Fast.tw16106661017022968396 : Unit := ()
def PySem.W.Fast.tw1629268712987913705 : Unit := ()
def PySem.W.Fast.tw3953977510797413456 : Unit := ()
def PySem.W.Fast.tw6400258073925018552 : Unit := ()
set_option maxRecDepth 100000 in
set_option maxHeartbeats 0 in
open_top H0 for PySem.Challenge.rw_thirtybits_k65_texts_read
end
namespace Eng
open PySem L2
def kB (Q : Bool → Hp → Prop) : VK := fun x H => ∃ k, x = .bl k ∧ Q k H
def kIf (A B : Hp → Prop) : Bool → Hp → Prop := fun b H => if b = true then A H else B H
def kFld (K : PySem.W.Frag) (f : Str) (Q : VK) : VK := fun x H => ∃ a C dx fs v, x = .ref a ∧ H a = some (.ins C dx fs) ∧ Cls K C ∧ NoAttr K C f ∧ fs.lookup f = some v ∧ Q v H
def kMeth (C : Addr) (m : Str) (sp : Sp) (dvs : List V) (E : XK) (t : TA) (σ : L2.St) (Q : VK) : VK := fun x H1 => ∃ a dx fs, x = .ref a ∧ H1 a = some (.ins C dx fs) ∧ fs.lookup m = none ∧ t σ H1 fun vs H2 => sp (x :: (vs ++ dvs)) H2 Q E
def kBM (K : PySem.W.Frag) (T : String) (r : V → List V → Hp → VK → Prop) (t : TA) (σ : L2.St) (Q : VK) : VK := fun x H1 => tyV K T x H1 ∧ t σ H1 fun xs H2 => r x xs H2 Q
def kIL (K : PySem.W.Frag) (R : It → Hp → Prop) : VK := fun x H1 => ∃ a, x = .ref a ∧ (∃ xs, SqL K H1 a xs) ∧ R (Itl K a) H1
def kIT (K : PySem.W.Frag) (R : It → Hp → Prop) : VK := fun x H1 => ∃ a, x = .ref a ∧ (∃ xs, SqT K H1 a xs) ∧ R (Itt K a) H1
def kR1 (R : It → Hp → Prop) : List V → Hp → Prop := fun vs H1 => ∃ j : Int, vs = [.int j] ∧ -(2 ^ 62) ≤ j ∧ j < 2 ^ 62 ∧ R (Itr 0 j.toNat) H1
def kR2 (R : It → Hp → Prop) : List V → Hp → Prop := fun vs H1 => ∃ i j : Int, vs = [.int i, .int j] ∧ (-(2 ^ 62) ≤ i ∧ i < 2 ^ 62 ∧ -(2 ^ 62) ≤ j ∧ j < 2 ^ 62) ∧ R (Itr i (j - i).toNat) H1
def kFor (g : TG) (tb : TS) (D : Ends) (σ : L2.St) : It → Hp → Prop := fun J H1 => ∃ W : Nat → Nat → L2.St → Hp → Prop, (∃ m, W 0 m σ H1) ∧ ∀ i m σ H, W i m σ H →
  (J.stop i H ∧ D.nx σ H) ∨ (J.go i H ∧ ∃ N : L2.St → Hp → Prop, (∀ σ' H', N σ' H' → ∃ m', m' < m ∧ W (i + 1) m' σ' H') ∧ ∀ x H', J.yld i H x H' → g x σ H' fun σ2 H2 => tb { D with nx := N, ct := N, bk := D.nx } σ2 H2)
def kWh (W : Nat → L2.St → Hp → Prop) (m : Nat) (tb : TS) (nx : L2.St → Hp → Prop) (rt : VK) (σ : L2.St) : Bool → Hp → Prop := fun b H1 =>
  if b = true then ∃ N : L2.St → Hp → Prop, (∀ σ' H', N σ' H' → ∃ m', m' < m ∧ W m' σ' H') ∧ tb ⟨N, rt, nx, N⟩ σ H1 else nx σ H1
def kLc (g : TG) (tt : TT) (te : TE) (vs : List Nat) (σ : L2.St) (Q : VK) : It → Hp → Prop := fun J H1 => ∀ D, H1 D = none → ∃ W : Nat → Nat → Hp → Prop, (∃ m, W 0 m (upd H1 D (.lst []))) ∧ ∀ i m H, W i m H →
  (J.stop i H ∧ Q (.ref D) H) ∨ (J.go i H ∧ ∃ Nx : Hp → Prop, (∀ H', Nx H' → ∃ m', m' < m ∧ W (i + 1) m' H') ∧ ∀ x H', J.yld i H x H' → g x (wipe σ vs) H' fun σ2 H2 => wipe σ2 vs = wipe σ vs ∧ tt σ2 H2 fun b H3 =>
    if b = true then te σ2 H3 fun y H4 => ∃ acc, H4 D = some (.lst acc) ∧ acc.length < sizeLine ∧ Nx (upd H4 D (.lst (acc ++ [y]))) else Nx H3)
/-- what stands behind a turn of a comprehension -/
def kAcc (D : Addr) (Nx : Hp → Prop) : VK := fun y H4 => ∃ acc, H4 D = some (.lst acc) ∧ acc.length < sizeLine ∧ Nx (upd H4 D (.lst (acc ++ [y])))
def kPar (i j : Nat) (σ : L2.St) (nx : L2.St → Hp → Prop) : List V → Hp → Prop := fun vs H1 => ∃ v w, vs = [v, w] ∧ nx ((σ.set i (some v)).set j (some w)) H1
def kPar3 (i j l : Nat) (σ : L2.St) (nx : L2.St → Hp → Prop) : List V → Hp → Prop := fun vs H1 => ∃ u v w, vs = [u, v, w] ∧ nx (((σ.set i (some u)).set j (some v)).set l (some w)) H1
def kTup (Q : VK) : List V → Hp → Prop := fun xs H1 => xs.length ≤ sizeLine ∧ ∀ p, H1 p = none → Q (.ref p) (upd H1 p (.tup xs))
def kLst (Q : VK) : List V → Hp → Prop := fun xs H1 => xs.length ≤ sizeLine ∧ ∀ p, H1 p = none → Q (.ref p) (upd H1 p (.lst xs))
def kMake (C : Addr) (sp : Sp) (dvs : List V) (E : XK) (Q : VK) : List V → Hp → Prop := fun vs H1 => ∀ x dx, H1 x = none → H1 dx = none → dx ≠ x →
  sp (.ref x :: (vs ++ dvs)) (upd (upd H1 dx (.own x)) x (.ins C dx [])) (fun v H2 => v = .non ∧ Q (.ref x) H2) E
def kPart (Q : Option Int → Hp → Prop) : VK := fun x H1 => ∃ i, x = .int i ∧ Q (some i) H1
def kSFld (K : PySem.W.Frag) (f : Str) (y : V) (nx : L2.St → Hp → Prop) (σ : L2.St) : VK := fun x H2 => ∃ a C dx fs, x = .ref a ∧ H2 a = some (.ins C dx fs) ∧ Cls K C ∧ NoAttr K C f ∧ fs.length < 1000 ∧ nx σ (upd H2 a (.ins C dx (putF f y fs)))
def kDG (Q : VK) : V → V → Hp → Prop := fun x y H2 => ∃ a v, x = .ref a ∧ DGet H2 a y (some v) ∧ Q v H2
def kDP (nx : L2.St → Hp → Prop) (σ : L2.St) (v : V) : V → V → Hp → Prop := fun x y H3 => ∃ a H4, x = .ref a ∧ DPut H3 a y v H4 ∧ nx σ H4
def kBits (Q : VK) : VK := fun x H1 => ∃ i, x = .int i ∧ Q (.int (Builtin.Int.intBits i : Nat)) H1
def kCh (r' : R2) (y : V) (tc : TE) (σ : L2.St) (Q : VK) : VK := fun z H3 => ∃ k, z = .bl k ∧ (if k = true then tc σ H3 fun w' H4 => r' y w' H4 Q else Q (.bl false) H3)
def kRev (K : PySem.W.Frag) (Q : VK) : VK := fun x H1 => ∃ a xs, x = .ref a ∧ SqL K H1 a xs ∧ ∀ p, H1 p = none → Q (.ref p) (upd H1 p (.lst xs.reverse))
/-- the slot i holds v from here on -/
inductive Sets (v : Option V) : L2.St → Nat → L2.St → Prop where
  | here {a l} : Sets v (a :: l) 0 (v :: l)
  | there {a l i l'} : Sets v l i l' → Sets v (a :: l) (i + 1) (a :: l')
theorem Sets.eq {v : Option V} : ∀ {σ : L2.St} {i : Nat} {σ' : L2.St}, Sets v σ i σ' → σ.set i v = σ'
  | _, _, _, .here => rfl
  | _, _, _, .there r => congrArg (List.cons _) r.eq
section
variable {K : PySem.W.Frag} {σ σ' σ1 σ2 : L2.St} {H H' H0 : Hp} {Q : VK} {QB : Bool → Hp → Prop} {QA : List V → Hp → Prop} {nx bk ct : L2.St → Hp → Prop} {rt : VK} {D : Ends} {M : List Addr} {L L' : List (Addr × HO)}
  {ta tb tc te : TE} {tA tB' tT tU : TT} {ts tu : TS} {tr tl : TA} {v w x y : V} {i j : Nat} {n m : Int} {b c : Bool} {A B : Hp → Prop} {a l p C dx : Addr} {fs : List (Str × V)} {f : Str} {xs ys : List V} {r : R2} {o u : HO}
theorem rd_seq (q : ts ⟨tu ⟨nx, rt, bk, ct⟩, rt, bk, ct⟩ σ H) : tSeq ts tu ⟨nx, rt, bk, ct⟩ σ H := q
theorem rd_next (q : nx σ H) : tNext ⟨nx, rt, bk, ct⟩ σ H := q
theorem rd_asg {g : TG} (q : te σ H fun x H1 => g x σ H1 nx) : tAsg te g ⟨nx, rt, bk, ct⟩ σ H := q
theorem rd_name {k : L2.St → Hp → Prop} (hs : Sets (some v) σ i σ') (q : k σ' H) : gName i v σ H k := by unfold gName; rw [hs.eq]; exact q
theorem rd_ret (q : te σ H rt) : tRet te ⟨nx, rt, bk, ct⟩ σ H := q
theorem rd_retN (q : rt .non H) : tRetN ⟨nx, rt, bk, ct⟩ σ H := q
theorem rd_drop (q : te σ H fun _ H1 => nx σ H1) : tDrop te ⟨nx, rt, bk, ct⟩ σ H := q
theorem rd_ifS (q : tT σ H (kIf (fun H1 => ts D σ H1) (fun H1 => tu D σ H1))) : tIfS tT ts tu D σ H := q
theorem rd_T (h : b = true) (q : A H) : kIf A B b H := by unfold kIf; rw [if_pos h]; exact q
theorem rd_F (h : b = false) (q : B H) : kIf A B b H := by unfold kIf; rw [h, if_neg Bool.false_ne_true]; exact q
theorem rd_2 (h : b = true → A H) (k : b = false → B H) : kIf A B b H := by
  cases b with
  | true => exact rd_T rfl (h rfl)
  | false => exact rd_F rfl (k rfl)
theorem rd_Td {P : Prop} [Decidable P] (h : P) (q : A H) : kIf A B (decide P) H := rd_T (decide_eq_true h) q
theorem rd_Fd {P : Prop} [Decidable P] (h : ¬ P) (q : B H) : kIf A B (decide P) H := rd_F (decide_eq_false h) q
theorem rd_2d {P : Prop} [Decidable P] (h : P → A H) (k : ¬ P → B H) : kIf A B (decide P) H := rd_2 (fun e => h (of_decide_eq_true e)) (fun e => k (of_decide_eq_false e))
theorem rd_Tn {P : Prop} [Decidable P] (h : ¬ P) (q : A H) : kIf A B (!decide P) H := rd_T (by rw [decide_eq_false h]; rfl) q
theorem rd_Fn {P : Prop} [Decidable P] (h : P) (q : B H) : kIf A B (!decide P) H := rd_F (by rw [decide_eq_true h]; rfl) q
theorem rd_par (q : tr σ H (kPar i j σ nx)) : tPar i j tr ⟨nx, rt, bk, ct⟩ σ H := q
theorem rd_kPar (h1 : Sets (some v) σ i σ1) (h2 : Sets (some w) σ1 j σ') (q : nx σ' H) : kPar i j σ nx [v, w] H := ⟨v, w, rfl, by rw [h1.eq, h2.eq]; exact q⟩
theorem rd_par3 {k : Nat} (q : tr σ H (kPar3 i j k σ nx)) : tPar3 i j k tr ⟨nx, rt, bk, ct⟩ σ H := q
theorem rd_kPar3 {k : Nat} (h1 : Sets (some v) σ i σ1) (h2 : Sets (some w) σ1 j σ2) (h3 : Sets (some x) σ2 k σ') (q : nx σ' H) : kPar3 i j k σ nx [v, w, x] H := ⟨v, w, x, rfl, by rw [h1.eq, h2.eq, h3.eq]; exact q⟩
theorem rd_sFld (q : te σ H fun y H1 => ta σ H1 (kSFld K f y nx σ)) : sFld K ta te f ⟨nx, rt, bk, ct⟩ σ H := q
theorem rd_sDPut {td ty tv : TE} (q : tv σ H fun v H1 => td σ H1 fun x H2 => ty σ H2 fun y H3 => kDP nx σ v x y H3) : sDPut td ty tv ⟨nx, rt, bk, ct⟩ σ H := q
theorem rd_for {wi : TI} {g : TG} (q : wi σ H (kFor g ts D σ)) : tFor wi g ts D σ H := q
theorem rd_while (W : Nat → L2.St → Hp → Prop) (m0 : Nat) (h0 : W m0 σ H) (q : ∀ m σ H, W m σ H → tT σ H (kWh W m ts nx rt σ)) : tWhile tT ts ⟨nx, rt, bk, ct⟩ σ H := ⟨W, ⟨m0, h0⟩, q⟩
theorem rd_whT {W : Nat → L2.St → Hp → Prop} {m : Nat} (h : b = true) (q : ts ⟨fun σ' H' => ∃ m', m' < m ∧ W m' σ' H', rt, nx, fun σ' H' => ∃ m', m' < m ∧ W m' σ' H'⟩ σ H) : kWh W m ts nx rt σ b H := by
  unfold kWh; rw [if_pos h]; exact ⟨_, fun _ _ z => z, q⟩
theorem rd_whF {W : Nat → L2.St → Hp → Prop} {m : Nat} (h : b = false) (q : nx σ H) : kWh W m ts nx rt σ b H := by
  unfold kWh; rw [h, if_neg Bool.false_ne_true]; exact q
theorem rd_wh2 {W : Nat → L2.St → Hp → Prop} {m : Nat} {P : Prop} [Decidable P] (q : P → ts ⟨fun σ' H' => ∃ m', m' < m ∧ W m' σ' H', rt, nx, fun σ' H' => ∃ m', m' < m ∧ W m' σ' H'⟩ σ H) (q' : ¬ P → nx σ H) : kWh W m ts nx rt σ (decide P) H := by
  by_cases h : P
  · exact rd_whT (decide_eq_true h) (q h)
  · exact rd_whF (decide_eq_false h) (q' h)
theorem rd_var (h : σ[i]? = some (some v)) (q : Q v H) : tVar i σ H Q := ⟨v, h, q⟩
theorem rd_c (q : Q v H) : tC v σ H Q := q
theorem rd_op (q : ta σ H fun x H1 => tb σ H1 fun y H2 => r x y H2 Q) : tOp r ta tb σ H Q := q
theorem rd_un {ru : V → Hp → VK → Prop} (q : ta σ H fun x H1 => ru x H1 Q) : tUn ru ta σ H Q := q
theorem dec_int : decide (V.int n = V.int m) = decide (n = m) := by simp
theorem dec_str {s t : Str} : decide (V.str s = V.str t) = decide (s = t) := by simp
theorem dec_bl : decide (V.bl b = V.bl c) = decide (b = c) := by simp
theorem rd_eqI (q : Q (.bl (decide (n = m))) H) : rEq (.int n) (.int m) H Q := ⟨rfl, by rw [dec_int]; exact q⟩
theorem rd_neI (q : Q (.bl (!decide (n = m))) H) : rNe (.int n) (.int m) H Q := ⟨rfl, by rw [dec_int]; exact q⟩
theorem rd_eqS {s t : Str} (q : Q (.bl (decide (s = t))) H) : rEq (.str s) (.str t) H Q := ⟨rfl, by rw [dec_str]; exact q⟩
theorem rd_neS {s t : Str} (q : Q (.bl (!decide (s = t))) H) : rNe (.str s) (.str t) H Q := ⟨rfl, by rw [dec_str]; exact q⟩
theorem rd_eqB (q : Q (.bl (decide (b = c))) H) : rEq (.bl b) (.bl c) H Q := ⟨rfl, by rw [dec_bl]; exact q⟩
theorem rd_neB (q : Q (.bl (!decide (b = c))) H) : rNe (.bl b) (.bl c) H Q := ⟨rfl, by rw [dec_bl]; exact q⟩
theorem rd_test (q : te σ H (kB QB)) : tTest te σ H QB := q
theorem rd_tB (q : te σ H (kB QB)) : L2.tB te σ H QB := q
theorem rd_kB (q : QB b H) : kB QB (.bl b) H := ⟨b, rfl, q⟩
theorem rd_and (q : tT σ H (kIf (fun H1 => tU σ H1 QB) (fun H1 => QB false H1))) : tAnd tT tU σ H QB := q
theorem rd_or (q : tT σ H (kIf (fun H1 => QB true H1) (fun H1 => tU σ H1 QB))) : tOr tT tU σ H QB := q
theorem rd_not (q : tT σ H fun c H1 => QB (!c) H1) : tNot tT σ H QB := q
theorem rd_andV (q : ta σ H (kB (kIf (fun H1 => tb σ H1 Q) (fun H1 => Q (.bl false) H1)))) : tAndV ta tb σ H Q := q
theorem rd_orV (q : ta σ H (kB (kIf (fun H1 => Q (.bl true) H1) (fun H1 => tb σ H1 Q)))) : tOrV ta tb σ H Q := q
theorem rd_notV (q : ta σ H (kB fun c H1 => Q (.bl (!c)) H1)) : tNotV ta σ H Q := q
theorem rd_ifE (q : tT σ H (kIf (fun H1 => ta σ H1 Q) (fun H1 => tb σ H1 Q))) : tIf tT ta tb σ H Q := q
theorem rd_chain {r' : R2} (q : ta σ H fun x H1 => tb σ H1 fun y H2 => r x y H2 (kCh r' y tc σ Q)) : tChain r r' ta tb tc σ H Q := q
theorem rd_kChT {r' : R2} (h : b = true) (q : tc σ H fun w' H4 => r' y w' H4 Q) : kCh r' y tc σ Q (.bl b) H := ⟨b, rfl, by rw [if_pos h]; exact q⟩
theorem rd_kChF {r' : R2} (h : b = false) (q : Q (.bl false) H) : kCh r' y tc σ Q (.bl b) H := ⟨b, rfl, by rw [h, if_neg Bool.false_ne_true]; exact q⟩
theorem rd_Az (q : ta σ H (kBits Q)) : tBits ta σ H Q := q
theorem rd_kBits (q : Q (.int (Builtin.Int.intBits n : Nat)) H) : kBits Q (.int n) H := ⟨n, rfl, q⟩
theorem rd_nil (q : QA [] H) : tNil σ H QA := q
theorem rd_cons (q : ta σ H fun x H1 => tr σ H1 fun xs H2 => QA (x :: xs) H2) : tCons ta tr σ H QA := q
theorem rd_call {sp : Sp} {E : XK} (q : tr σ H fun vs H1 => sp vs H1 Q E) : tCall sp [] E tr σ H Q := by
  unfold tCall
  simp only [List.append_nil]
  exact q
theorem rd_cb {rc : List V → Hp → VK → Prop} (q : tr σ H fun vs H1 => rc vs H1 Q) : tCB rc tr σ H Q := q
theorem rd_meth {sp : Sp} {E : XK} {dvs : List V} (q : ta σ H (kMeth C f sp dvs E tr σ Q)) : tMeth C f sp dvs E ta tr σ H Q := q
theorem rd_kMeth {sp : Sp} {E : XK} (h : H a = some (.ins C dx fs)) (hl : fs.lookup f = none) (q : tr σ H fun vs H2 => sp (.ref a :: vs) H2 Q E) : kMeth C f sp [] E tr σ Q (.ref a) H := by
  refine ⟨a, dx, fs, rfl, h, hl, ?_⟩
  simp only [List.append_nil]
  exact q
theorem rd_make {sp : Sp} {E : XK} {dvs : List V} (q : tr σ H (kMake C sp dvs E Q)) : tMake C sp dvs E tr σ H Q := q
theorem rd_bm {T : String} {rm : V → List V → Hp → VK → Prop} (q : ta σ H (kBM K T rm tr σ Q)) : tBM K T rm ta tr σ H Q := q
theorem rd_bm0 {T : String} {rm : V → List V → Hp → VK → Prop} (q : ta σ H fun x H1 => tyV K T x H1 ∧ rm x [] H1 Q) : tBM0 K T rm ta σ H Q := q
theorem rd_kBMl {rm : V → List V → Hp → VK → Prop} (h : H l = some (.lst xs)) (q : tr σ H fun ys H2 => rm (.ref l) ys H2 Q) : kBM K "list" rm tr σ Q (.ref l) H := ⟨.inl ⟨rfl, _, SqL.of h⟩, q⟩
theorem rd_append (W : Wd H0 H M L) (r : Rp l (.lst xs) (.lst (xs ++ [y])) L L') (hm : H0 l = none ∨ l ∈ M) (hl : xs.length < sizeLine) (q : ∀ H', Wd H0 H' M L' → Q .non H') : rAppend (.ref l) [y] H Q :=
  ⟨l, xs, y, rfl, rfl, W.get r.mem, hl, q _ (W.put r hm)⟩
theorem rd_fld (q : ta σ H (kFld K f Q)) : tFld K ta f σ H Q := q
theorem rd_kFld (c : Cls K C) (n : NoAttr K C f) (h : H a = some (.ins C dx fs)) (hl : fs.lookup f = some v) (q : Q v H) : kFld K f Q (.ref a) H := ⟨a, C, dx, fs, v, rfl, h, c, n, hl, q⟩
theorem rd_kSFld (W : Wd H0 H M L) (c : Cls K C) (n : NoAttr K C f) (r : Rp a (.ins C dx fs) (.ins C dx (putF f y fs)) L L') (hm : H0 a = none ∨ a ∈ M) (hl : fs.length < 1000) (q : ∀ H', Wd H0 H' M L' → nx σ H') : kSFld K f y nx σ (.ref a) H :=
  ⟨a, C, dx, fs, rfl, W.get r.mem, c, n, hl, q _ (W.put r hm)⟩
theorem rd_tup (q : tr σ H (kTup Q)) : tTup tr σ H Q := q
theorem rd_lst (q : tr σ H (kLst Q)) : tLst tr σ H Q := q
theorem rd_kTup (W : Wd H0 H M L) (hl : xs.length ≤ sizeLine) (q : ∀ p H', H0 p = none → Wd H0 H' M ((p, .tup xs) :: L) → Q (.ref p) H') : kTup Q xs H := ⟨hl, fun p hp => q p _ (W.fresh hp) (W.new hp)⟩
theorem rd_kLst (W : Wd H0 H M L) (hl : xs.length ≤ sizeLine) (q : ∀ p H', H0 p = none → Wd H0 H' M ((p, .lst xs) :: L) → Q (.ref p) H') : kLst Q xs H := ⟨hl, fun p hp => q p _ (W.fresh hp) (W.new hp)⟩
theorem rd_ixL (h : SqL K H p xs) (hv : atI xs n = some v) (q : Q v H) : rIxL K (.ref p) (.int n) H Q := ⟨p, xs, n, v, rfl, rfl, h, hv, q⟩
theorem rd_ixT (h : SqT K H p xs) (hv : atI xs n = some v) (q : Q v H) : rIxT K (.ref p) (.int n) H Q := ⟨p, xs, n, v, rfl, rfl, h, hv, q⟩
theorem rd_sub {tS : TSet} {k : L2.St → Hp → Prop} (q : ta σ H fun o H1 => tb σ H1 fun i H2 => tS o i v H2 fun H3 => k σ H3) : gSub ta tb tS v σ H k := q
theorem rd_sl {rs : V → Option Int → Option Int → Hp → VK → Prop} {to1 to2 : TO} (q : te σ H fun x H1 => to1 σ H1 fun l H2 => to2 σ H2 fun u H3 => rs x l u H3 Q) : tSl rs te to1 to2 σ H Q := q
theorem rd_noPart {QO : Option Int → Hp → Prop} (q : QO none H) : tNoPart σ H QO := q
theorem rd_part {QO : Option Int → Hp → Prop} (q : te σ H (kPart QO)) : tPart te σ H QO := q
theorem rd_kPart {QO : Option Int → Hp → Prop} (q : QO (some n) H) : kPart QO (.int n) H := ⟨n, rfl, q⟩
theorem rd_slL {lo hi : Option Int} (W : Wd H0 H M L) (h : SqL K H a xs) (hc : cutV xs lo hi = ys) (q : ∀ p H', H0 p = none → Wd H0 H' M ((p, .lst ys) :: L) → Q (.ref p) H') : rSlL K (.ref a) lo hi H Q :=
  ⟨a, xs, rfl, h, fun p hp => by subst hc; exact q p _ (W.fresh hp) (W.new hp)⟩
theorem rd_cat (W : Wd H0 H M L) (h1 : H a = some (.lst xs)) (h2 : H l = some (.lst ys)) (hl : xs.length + ys.length ≤ sizeLine) (q : ∀ p H', H0 p = none → Wd H0 H' M ((p, .lst (xs ++ ys)) :: L) → Q (.ref p) H') : rCat (.ref a) (.ref l) H Q :=
  ⟨a, l, xs, ys, rfl, rfl, h1, h2, hl, fun p hp => q p _ (W.fresh hp) (W.new hp)⟩
theorem rd_revL (q : te σ H (kRev K Q)) : tRevL K te σ H Q := q
theorem rd_gTup {k : Nat} {gs : TGs} {kk : L2.St → Hp → Prop} (h : SqT K H a xs) (hl : xs.length = k) (q : gs xs σ H kk) : gTup K k gs (.ref a) σ H kk := ⟨a, xs, rfl, h, hl, q⟩
theorem rd_gCons {g : TG} {gs : TGs} {kk : L2.St → Hp → Prop} (q : g v σ H fun σ' H' => gs xs σ' H' kk) : gCons g gs (v :: xs) σ H kk := ⟨v, xs, rfl, q⟩
theorem rd_gNil {kk : L2.St → Hp → Prop} (q : kk σ H) : gNil [] σ H kk := ⟨rfl, q⟩
theorem rd_dget {td ty : TE} (q : td σ H fun x H1 => ty σ H1 fun y H2 => kDG Q x y H2) : tDGet td ty σ H Q := q
theorem rd_kDGs {kvs : List (Key × V)} {s : Str} (h : H a = some (.dK kvs)) (hv : valV kvs (Sum.inr s : Key) = some v) (q : Q v H) : kDG Q (.ref a) (.str s) H := ⟨a, v, rfl, hv ▸ DGet.k (k := Sum.inr s) h, q⟩
theorem rd_kDPs {kvs : List (Key × V)} {s : Str} (W : Wd H0 H M L) (r : Rp a (.dK kvs) (.dK (putK kvs (Sum.inr s : Key) v)) L L') (hm : H0 a = none ∨ a ∈ M) (hl : kvs.length < sizeLine) (q : ∀ H', Wd H0 H' M L' → nx σ H') : kDP nx σ v (.ref a) (.str s) H :=
  ⟨a, _, rfl, DPut.k (k := Sum.inr s) (W.get r.mem) hl, q _ (W.put r hm)⟩
theorem rd_iList {R : It → Hp → Prop} (q : te σ H (kIL K R)) : iList K te σ H R := q
theorem rd_kIL {R : It → Hp → Prop} (h : SqL K H a xs) (q : R (Itl K a) H) : kIL K R (.ref a) H := ⟨a, rfl, ⟨_, h⟩, q⟩
theorem rd_iTup {R : It → Hp → Prop} (q : te σ H (kIT K R)) : iTup K te σ H R := q
theorem rd_kIT {R : It → Hp → Prop} (h : SqT K H a xs) (q : R (Itt K a) H) : kIT K R (.ref a) H := ⟨a, rfl, ⟨_, h⟩, q⟩
theorem rd_iR1 {R : It → Hp → Prop} (q : tr σ H (kR1 R)) : iRng1 tr σ H R := q
theorem rd_kR1 {R : It → Hp → Prop} (h1 : -(2 ^ 62) ≤ n) (h2 : n < 2 ^ 62) (q : R (Itr 0 n.toNat) H) : kR1 R [.int n] H := ⟨n, rfl, h1, h2, q⟩
theorem rd_iR2 {R : It → Hp → Prop} (q : tr σ H (kR2 R)) : iRng2 tr σ H R := q
theorem rd_forT {g : TG} (Pv : Nat → L2.St → Hp → Prop) (h0 : Pv 0 σ H) (hl : ∀ i σ H, i ≤ xs.length → Pv i σ H → SqT K H a xs)
    (hs : ∀ i x σ H, xs[i]? = some x → Pv i σ H → g x σ H fun σ2 H2 => ts ⟨Pv (i + 1), rt, nx, Pv (i + 1)⟩ σ2 H2) (hd : ∀ σ H, Pv xs.length σ H → nx σ H) : kFor g ts ⟨nx, rt, bk, ct⟩ σ (Itt K a) H :=
  for_tup (D := ⟨nx, rt, bk, ct⟩) Pv h0 hl hs hd
theorem rd_forR {g : TG} {lo : Int} {k : Nat} (Pv : Nat → L2.St → Hp → Prop) (h0 : Pv 0 σ H)
    (hs : ∀ i σ H, i < k → Pv i σ H → g (.int (lo + i)) σ H fun σ2 H2 => ts ⟨Pv (i + 1), rt, nx, Pv (i + 1)⟩ σ2 H2) (hd : ∀ σ H, Pv k σ H → nx σ H) : kFor g ts ⟨nx, rt, bk, ct⟩ σ (Itr lo k) H :=
  for_range (D := ⟨nx, rt, bk, ct⟩) Pv h0 hs hd
theorem rd_lc {wi : TI} {g : TG} {vs : List Nat} (q : wi σ H (kLc g tT te vs σ Q)) : tLc wi g tT te vs σ H Q := q
theorem rd_yes (q : QB true H) : tYes σ H QB := q
/-- over a list: Pv (items taken, heap); D the list that grows -/
theorem rd_lcL {g : TG} {vs : List Nat} (hq : ∀ D, H D = none → ∃ Pv : Nat → Hp → Prop, Pv 0 (upd H D (.lst [])) ∧ (∀ i H, i ≤ xs.length → Pv i H → SqL K H a xs) ∧
    (∀ i x H, xs[i]? = some x → Pv i H → g x (wipe σ vs) H fun σ2 H2 => wipe σ2 vs = wipe σ vs ∧ tT σ2 H2 (kIf (fun H3 => te σ2 H3 (kAcc D (Pv (i + 1)))) (fun H3 => Pv (i + 1) H3))) ∧ ∀ H, Pv xs.length H → Q (.ref D) H) : kLc g tT te vs σ Q (Itl K a) H := fun D hD => by
  obtain ⟨Pv, h0, hl, hs, hd⟩ := hq D hD
  exact lc_list Pv h0 hl hs hd
theorem rd_lcT {g : TG} {vs : List Nat} (hq : ∀ D, H D = none → ∃ Pv : Nat → Hp → Prop, Pv 0 (upd H D (.lst [])) ∧ (∀ i H, i ≤ xs.length → Pv i H → SqT K H a xs) ∧
    (∀ i x H, xs[i]? = some x → Pv i H → g x (wipe σ vs) H fun σ2 H2 => wipe σ2 vs = wipe σ vs ∧ tT σ2 H2 (kIf (fun H3 => te σ2 H3 (kAcc D (Pv (i + 1)))) (fun H3 => Pv (i + 1) H3))) ∧ ∀ H, Pv xs.length H → Q (.ref D) H) : kLc g tT te vs σ Q (Itt K a) H := fun D hD => by
  obtain ⟨Pv, h0, hl, hs, hd⟩ := hq D hD
  exact lc_tup Pv h0 hl hs hd
theorem rd_kAcc {Nx : Hp → Prop} (W : Wd H0 H M L) (r : Rp l (.lst xs) (.lst (xs ++ [y])) L L') (hm : H0 l = none ∨ l ∈ M) (hl : xs.length < sizeLine) (q : ∀ H', Wd H0 H' M L' → Nx H') : kAcc l Nx y H :=
  ⟨xs, W.get r.mem, hl, q _ (W.put r hm)⟩
def rAbs : List V → Hp → VK → Prop := fun xs H Q => ∃ i, xs = [.int i] ∧ Q (.int (if i < 0 then -i else i)) H
def rInt : List V → Hp → VK → Prop := fun xs H Q => (∃ i, xs = [.int i] ∧ Q (.int i) H) ∨ ∃ k, xs = [.bl k] ∧ Q (.int (if k then 1 else 0)) H
def rLen (K : PySem.W.Frag) : List V → Hp → VK → Prop := fun xs H Q => ∃ p ys, xs = [.ref p] ∧ (SqL K H p ys ∨ SqT K H p ys) ∧ Q (.int ys.length) H
def rList (K : PySem.W.Frag) : List V → Hp → VK → Prop := fun xs H Q => ∃ p ys, xs = [.ref p] ∧ (SqL K H p ys ∨ SqT K H p ys) ∧ ∀ l, H l = none → Q (.ref l) (upd H l (.lst ys))
def rTupL (K : PySem.W.Frag) : List V → Hp → VK → Prop := fun xs H Q => ∃ p ys, xs = [.ref p] ∧ SqL K H p ys ∧ ∀ l, H l = none → Q (.ref l) (upd H l (.tup ys))
def rDict (K : PySem.W.Frag) : List V → Hp → VK → Prop := fun xs H Q => ∃ (a : Addr) (ps : List Addr) (kvs : List (Key × V)), xs = [.ref a] ∧ SqL K H a (ps.map V.ref) ∧ Paired (fun p kv => SqT K H p [kV kv.1, kv.2]) ps kvs ∧ ∀ p, H p = none → Q (.ref p) (upd H p (.dK (mergeK [] kvs)))
theorem rd_abs (q : Q (.int (if n < 0 then -n else n)) H) : rAbs [.int n] H Q := ⟨n, rfl, q⟩
theorem rd_int (q : Q (.int n) H) : rInt [.int n] H Q := .inl ⟨n, rfl, q⟩
theorem rd_intB (q : Q (.int (if b then 1 else 0)) H) : rInt [.bl b] H Q := .inr ⟨b, rfl, q⟩
theorem rd_lenL (h : SqL K H p xs) (q : Q (.int xs.length) H) : rLen K [.ref p] H Q := ⟨p, xs, rfl, .inl h, q⟩
theorem rd_lenT (h : SqT K H p xs) (q : Q (.int xs.length) H) : rLen K [.ref p] H Q := ⟨p, xs, rfl, .inr h, q⟩
theorem rd_list (W : Wd H0 H M L) (h : SqL K H a xs ∨ SqT K H a xs) (q : ∀ p H', H0 p = none → Wd H0 H' M ((p, .lst xs) :: L) → Q (.ref p) H') : rList K [.ref a] H Q := ⟨a, xs, rfl, h, fun p hp => q p _ (W.fresh hp) (W.new hp)⟩
theorem rd_tupL (W : Wd H0 H M L) (h : SqL K H a xs) (q : ∀ p H', H0 p = none → Wd H0 H' M ((p, .tup xs) :: L) → Q (.ref p) H') : rTupL K [.ref a] H Q := ⟨a, xs, rfl, h, fun p hp => q p _ (W.fresh hp) (W.new hp)⟩
end
section
variable {X : Cx}
theorem c_abs : CallR X (.builtin "abs") rAbs := call_abs
theorem c_int : CallR X (.type "int") rInt := call_int1
theorem c_len : CallR X (.builtin "len") (rLen X.K) := call_len_seq
theorem c_list : CallR X (.type "list") (rList X.K) := call_list_of
theorem c_tupL : CallR X (.type "tuple") (rTupL X.K) := fun pins s σ H xs us Q I r h => by
  obtain ⟨p, ys, e, h1, q⟩ := h
  exact call_tuple_of pins s σ H xs us Q I r ⟨p, ys, e, .inl ⟨h1, q⟩⟩
theorem c_dict (h : X.calm = true) : CallR X (.type "dict") (rDict X.K) := call_dictP h
end
end Eng
namespace Eng
open PySem L2
def oDiv (i j : Int) : Prop := 0 < j ∧ Builtin.divisionGoesByPylong i j = false
def oPow (i j : Int) : Prop := 0 ≤ j ∧ (Builtin.Int.intBits i : Int) * j ≤ 2 ^ 27
def rAdd : R2 := rI0 fun i j => .int (i + j)
def rSub : R2 := rI0 fun i j => .int (i - j)
def rMul : R2 := rI IntMulOk fun i j => .int (i * j)
def rDiv : R2 := rI oDiv fun i j => .int (i / j)
def rMod : R2 := rI (fun _ j => 0 < j) fun i j => .int (i % j)
def rPow : R2 := rI oPow fun i j => .int (i ^ j.toNat)
def rShl : R2 := rI CShl fun i j => .int (i * 2 ^ j.toNat)
def rShr : R2 := rI (fun _ j => 0 ≤ j) fun i j => .int (i / 2 ^ j.toNat)
def rAnd : R2 := rI0 fun i j => .int (Builtin.bitAnd i j)
def rOr : R2 := rI0 fun i j => .int (Builtin.bitOr i j)
def rXor : R2 := rI0 fun i j => .int (Builtin.bitXor i j)
def rLt : R2 := rI0 fun i j => .bl (decide (i < j))
def rLe : R2 := rI0 fun i j => .bl (decide (i ≤ j))
def rGt : R2 := rI0 fun i j => .bl (decide (j < i))
def rGe : R2 := rI0 fun i j => .bl (decide (j ≤ i))
def rNeg : V → Hp → VK → Prop := rU fun i => .int (-i)
section
variable {X : Cx}
theorem o_add : OpR X (binaryOp .Add) rAdd := op_add
theorem o_sub : OpR X (binaryOp .Sub) rSub := op_sub
theorem o_mul : OpR X (binaryOp .Mult) rMul := opI fun _ _ _ _ _ _ _ hc q => PyProof.Rows.mul_int q hc
theorem o_div : OpR X (binaryOp .FloorDiv) rDiv := opI fun i j _ _ _ _ _ hc q => by
  have h1 : (0 : Int) < j := hc.1
  exact PyProof.Rows.floordiv_int (by omega) (by rw [Int.fdiv_eq_ediv_of_nonneg i (by omega)]; exact q) (.inl hc.2)
theorem o_mod : OpR X (binaryOp .Mod) rMod := op_mod
theorem o_pow : OpR X (binaryOp .Pow) rPow := opI fun _ _ _ _ _ _ _ hc q => PyProof.Rows.pow_int hc.1 hc.2 q
theorem o_shl : OpR X (binaryOp .LShift) rShl := op_shlW
theorem o_shr : OpR X (binaryOp .RShift) rShr := op_shr
theorem o_or : OpR X (binaryOp .BitOr) rOr := op_or
theorem o_lt : OpR X (compareOp .Lt) rLt := op_lt
theorem o_le : OpR X (compareOp .LtE) rLe := op_le
theorem o_gt : OpR X (compareOp .Gt) rGt := op_gt
theorem o_ge : OpR X (compareOp .GtE) rGe := op_ge
theorem o_neg : UnR X (unaryOp .USub) rNeg := un_neg
end
section
variable {H : Hp} {Q : VK} {n m : Int}
theorem rd_add (q : Q (.int (n + m)) H) : rAdd (.int n) (.int m) H Q := ⟨n, m, rfl, rfl, q⟩
theorem rd_subI (q : Q (.int (n - m)) H) : rSub (.int n) (.int m) H Q := ⟨n, m, rfl, rfl, q⟩
theorem rd_mul (h : IntMulOk n m) (q : Q (.int (n * m)) H) : rMul (.int n) (.int m) H Q := ⟨n, m, rfl, rfl, h, q⟩
theorem rd_div (h : oDiv n m) (q : Q (.int (n / m)) H) : rDiv (.int n) (.int m) H Q := ⟨n, m, rfl, rfl, h, q⟩
theorem rd_mod (h : 0 < m) (q : Q (.int (n % m)) H) : rMod (.int n) (.int m) H Q := ⟨n, m, rfl, rfl, h, q⟩
theorem rd_shl (h : CShl n m) (q : Q (.int (n * 2 ^ m.toNat)) H) : rShl (.int n) (.int m) H Q := ⟨n, m, rfl, rfl, h, q⟩
theorem rd_shr (h : 0 ≤ m) (q : Q (.int (n / 2 ^ m.toNat)) H) : rShr (.int n) (.int m) H Q := ⟨n, m, rfl, rfl, h, q⟩
theorem rd_andI (q : Q (.int (Builtin.bitAnd n m)) H) : rAnd (.int n) (.int m) H Q := ⟨n, m, rfl, rfl, q⟩
theorem rd_orI (q : Q (.int (Builtin.bitOr n m)) H) : rOr (.int n) (.int m) H Q := ⟨n, m, rfl, rfl, q⟩
theorem rd_xorI (q : Q (.int (Builtin.bitXor n m)) H) : rXor (.int n) (.int m) H Q := ⟨n, m, rfl, rfl, q⟩
theorem rd_lt (q : Q (.bl (decide (n < m))) H) : rLt (.int n) (.int m) H Q := ⟨n, m, rfl, rfl, q⟩
theorem rd_le (q : Q (.bl (decide (n ≤ m))) H) : rLe (.int n) (.int m) H Q := ⟨n, m, rfl, rfl, q⟩
theorem rd_gt (q : Q (.bl (decide (m < n))) H) : rGt (.int n) (.int m) H Q := ⟨n, m, rfl, rfl, q⟩
theorem rd_ge (q : Q (.bl (decide (m ≤ n))) H) : rGe (.int n) (.int m) H Q := ⟨n, m, rfl, rfl, q⟩
theorem rd_neg (q : Q (.int (-n)) H) : rNeg (.int n) H Q := ⟨n, rfl, q⟩
end
theorem mul_okL {n m : Int} (h1 : -(2 ^ 64) < n) (h2 : n < 2 ^ 64) : IntMulOk n m := .of_left (intBits_le_64 h1 h2)
theorem mul_okR {n m : Int} (h1 : -(2 ^ 64) < m) (h2 : m < 2 ^ 64) : IntMulOk n m := .of_right (intBits_le_64 h1 h2)
theorem div_ok {n m : Int} {k : Nat} (h : 0 < m) (hm : m.natAbs < 2 ^ k) (hk : k ≤ 9000) (hp : 0 < k) : oDiv n m := ⟨h, PyProof.noPylong_of_log2 (Nat.lt_of_lt_of_le (PySem.Flt.log2_lt_of hp hm) hk)⟩
theorem div_ok64 {n m : Int} (h : 0 < m) (hm : m < 2 ^ 64) : oDiv n m := div_ok (k := 64) h (by omega) (by decide) (by decide)
end Eng
namespace Eng
open PySem PySem.Spec PyProof.Rows L2
section
variable {X : Cx} {CX : CXT} {k : Nat} {f : Addr} {fd : FuncData} {ps ks : List Str} {sp : Sp} {E : XK} {x : Str} {p pos : Pos} {kws : List Keyword} {tk : TA} {g : List Value → List Value} {gV : List V → List V} {n : Nat}
/-- f(k = v, ..): how the keywords' values come to the parameters -/
structure KB0 (K : PySem.W.Frag) (fd : FuncData) (ps ks : List Str) (g : List Value → List Value) (gV : List V → List V) : Prop where
  to : ∀ (s : Shared) (ws : List Value), K.In s.heap → ws.length = ks.length → BindsTo s fd ⟨[], ks.zip ws⟩ (ps.zip (g ws))
  rel : ∀ {zs : List V} {ws : List Value}, Vals zs ws → Vals (gV zs) (g ws)
def tKw (n : Nat) (sp : Sp) (gV : List V → List V) (E : XK) (tk : TA) : TE := fun σ H Q => tk σ H fun zs H1 => zs.length = n ∧ sp (gV zs) H1 Q E
theorem pe_kw (F : FnOk X.prog X.w X.K X.mg X.base CX k f fd ps sp) (hr : Room k X.A) (hg : Gl X x) (hm : X.mg x = some (.ref f)) (hk : PySem.W.keepIn X.K (.ref f) = true) (hb : KB0 X.K fd ps ks g gV) (hx : Passes CX X E)
    (hkw : PK X kws tk) (hall : (backToKw pos (keywordEach kws X.env)).all (·.1.isSome) = true := by rfl) (hks : (backToKw pos (keywordEach kws X.env)).filterMap (·.1) = ks := by rfl)
    (hdb : (x == ("__debug__" : Str)) = false := by decide)
    (hpl : ((backTo pos (starEach [] X.env)).any (·.1) || (backToKw pos (keywordEach kws X.env)).any (·.1.isNone)) = false := by rfl) (hn : n = ks.length := by rfl) :
    PE X (.Call (.Name x p) [] kws pos) (tKw n sp gV E tk) := by
  refine ⟨fun pins s σ H Q I h => ?_⟩
  refine wpAny_Call_Name_kw (ld_glob I hg hm ?_ hdb)
  refine PySem.W.callWith_KW0 (h₀ := X.base) I.ok.mod.kin hk hall (thn (hkw.run pos pins s σ H _ I h) fun ws s2 ⟨zs, H2, I2, rz, l2, q2⟩ => ⟨I2.kIn, ?_⟩) hpl
  rw [hks]
  have r2 := hb.rel rz
  show wpAny _ _ (call (.ref f) [] (ks.zip ws)) _ _ _
  refine wpAny_call (codeAny_mono (F.run X.A X.stack s2 H2 ⟨[], ks.zip ws⟩ (g ws) (gV zs) Q E hr I2.env0 (hb.to s2 ws I2.kIn (rz.length.symm.trans (l2.trans hn))) r2 q2) fun r s' hq => ?_)
  cases r with
  | error e => exact hx pins σ H2 s2 e s' I2 hq
  | ok fl =>
    cases fl with
    | ret u => exact I2.after hq
    | next => exact False.elim hq
    | brk => exact False.elim hq
    | cont => exact False.elim hq
end
theorem adj_rev (n : Nat) : Builtin.Slice.sliceAdjust none none (-1) (n : Int) = ((n : Int) - 1, -1) := by
  unfold Builtin.Slice.sliceAdjust
  simp
theorem places_rev (n : Nat) : Builtin.Slice.slicePlaces ((n : Int) - 1) (-1) (-1) = n := by
  unfold Builtin.Slice.slicePlaces
  have h1 : ¬ ((-1 : Int) > 0) := by omega
  simp only [h1, if_false]
  have e : (-(-1) : Int) = 1 := by decide
  rw [e, Int.ediv_one]
  split <;> omega
theorem fm_congr {α β : Type} {f g : α → Option β} : ∀ {l : List α}, (∀ m ∈ l, f m = g m) → l.filterMap f = l.filterMap g
  | [], _ => rfl
  | a :: l, h => by
    rw [List.filterMap_cons, List.filterMap_cons, h a List.mem_cons_self, fm_congr fun m hm => h m (List.mem_cons_of_mem _ hm)]
theorem fm_all {α : Type} : ∀ (ys : List α), List.filterMap (fun m => ys[m]?) (List.range ys.length) = ys
  | [] => rfl
  | y :: ys => by
    rw [List.length_cons, List.range_succ_eq_map, List.filterMap_cons]
    have e : (y :: ys)[0]? = some y := rfl
    rw [e, List.filterMap_map]
    have e2 : ((fun m => (y :: ys)[m]?) ∘ Nat.succ) = fun m => ys[m]? := by funext m; simp
    show y :: List.filterMap ((fun m => (y :: ys)[m]?) ∘ Nat.succ) (List.range ys.length) = y :: ys
    rw [e2, fm_all ys]
theorem getElem?_rev (xs : List Value) (m : Nat) (h : m < xs.length) : xs[xs.length - 1 - m]? = xs.reverse[m]? := by
  rw [List.getElem?_reverse h]
theorem pick_rev (xs : Array Value) : ((List.range xs.size).filterMap fun (m : Nat) => xs[(((xs.size : Int) - 1) + (m : Int) * (-1)).toNat]?).toArray = xs.toList.reverse.toArray := by
  congr 1
  have e : ∀ m ∈ List.range xs.size, (fun (m : Nat) => xs[(((xs.size : Int) - 1) + (m : Int) * (-1)).toNat]?) m = (fun m => xs.toList.reverse[m]?) m := fun m hm => by
    have hm' : m < xs.size := List.mem_range.mp hm
    have e1 : (((xs.size : Int) - 1) + (m : Int) * (-1)).toNat = xs.toList.length - 1 - m := by rw [Array.length_toList]; omega
    show xs[(((xs.size : Int) - 1) + (m : Int) * (-1)).toNat]? = xs.toList.reverse[m]?
    rw [e1, ← getElem?_rev xs.toList m (by rw [Array.length_toList]; exact hm')]
    simp
  rw [fm_congr e]
  have hl : xs.size = xs.toList.reverse.length := by rw [List.length_reverse, Array.length_toList]
  rw [hl]
  exact fm_all _
section
variable {prog : Program} {w : World} {A : Around} {E : Value → Shared → Prop} {s : Shared}
theorem sliceApplied_rev {sl : Addr} {vs : Value} {n : Nat} {Q : Int × Int × Nat → Shared → Prop} (hs : s.heap.IsSliceOf sl .none .none vs) (ps : IsPart vs (some (-1)))
    (h : Q ((n : Int) - 1, -1, n) s) : wpAny (model prog w) A (Builtin.Slice.sliceApplied (.ref sl) (pure (n : Int))) Q E s := by
  obtain ⟨os, hos, hcs, hds⟩ := id hs
  unfold Builtin.Slice.sliceApplied Builtin.Slice.sliceFields
  refine wpAny_bind (wpAny_bind (wpAny_field hos hds (x := .none) rfl (wpAny_bind (wpAny_field hos hds (x := .none) rfl (wpAny_bind (wpAny_field hos hds (x := vs) rfl (wpAny_pure ?_)))))))
  refine wpAny_bind (HT.slicePart_ ps ?_)
  show wpAny _ _ (if ((-1 : Int) == 0) = true then _ else _) _ _ s
  rw [if_neg (by decide)]
  refine wpAny_bind (HT.slicePart_ .none (wpAny_bind (HT.slicePart_ .none (wpAny_bind (wpAny_pure ?_)))))
  show wpAny _ _ (match Builtin.Slice.sliceAdjust none none (-1) (n : Int) with | (lo, hi) => pure (lo, (-1 : Int), Builtin.Slice.slicePlaces lo hi (-1))) _ _ s
  rw [adj_rev n]
  show wpAny _ _ (pure ((n : Int) - 1, (-1 : Int), Builtin.Slice.slicePlaces ((n : Int) - 1) (-1) (-1))) _ _ s
  rw [places_rev]
  exact wpAny_pure h
theorem getItem_tuple_rev {t sl : Addr} {items : Array Value} {vs : Value} {Q : Value → Shared → Prop} (ht : IsTup s.heap t items) (hs : s.heap.IsSliceOf sl .none .none vs) (ps : IsPart vs (some (-1)))
    (h : Q (.ref s.heap.objs.size) { s with heap := s.heap.push { cls := .type "tuple", data := .seq items.toList.reverse.toArray } }) (hsz : items.size ≤ sizeLine) : wpAny (model prog w) A (getItem (.ref t) (.ref sl)) Q E s := by
  have htake : sizeOk (.seq items.toList.reverse.toArray) := by
    show items.toList.reverse.toArray.size ≤ sizeLine
    rw [List.size_toArray, List.length_reverse, Array.length_toList]
    exact hsz
  obtain ⟨os, hos, hcs, hds⟩ := id hs
  have hTs : s.TypeIs (.ref sl) "slice" := ⟨os, hos, hcs⟩
  unfold getItem
  try with_reducible refine wpAny_holding ?_
  first | refine wpAny_bind (wpAny_pure ?_) | skip
  refine wpAny_bind (wpAny_sequenceKey ht.typeIs (by decide) ?_)
  refine wpAny_bind (wpAny_callSpecial?_slot (name := Str.ofString "__getitem__") ht.typeIs PyProof.Rows.slot_tuple_getitem
    (wpAny_call_entry PyProof.Rows.slot_tuple_getitem ht.typeIs entry_tuple_getitem ?_ (args_tuple_getitem _ _)))
  show wpAny _ _ (Builtin.Tuple.tupleItemsOf (.ref t) >>= _) _ _ s
  refine wpAny_bind (tupleItemsOf_ ht ?_)
  refine wpAny_bind (wpAny_typeOf hTs ?_)
  rw [if_pos (by decide)]
  refine wpAny_bind (sliceApplied_rev hs ps ?_)
  have hno : ¬ ((((items.size : Int) - 1) == 0 && (-1 : Int) == 1 && items.size == items.size) = true) := by simp
  show wpAny _ _ (if (((items.size : Int) - 1) == 0 && (-1 : Int) == 1 && items.size == items.size) = true then _ else _) _ _ s
  rw [if_neg hno, pick_rev]
  first
    | exact wpAny_bind (m := Builtin.Tuple.tupleExact _) (wpAny_newObj_type (wpAny_pure ⟨_, rfl, wpAny_pure h⟩) htake)
    | exact wpAny_bind (m := Builtin.Tuple.tupleExact _) (wpAny_newObj_type (wpAny_bind (wpAny_pure (wpAny_pure ⟨_, rfl, wpAny_pure h⟩))) htake)
    | exact wpAny_bind (wpAny_bind (m := Builtin.Tuple.tupleExact _) (wpAny_newObj_type (wpAny_pure (wpAny_pure ⟨_, rfl, wpAny_pure h⟩)) htake))
    | exact wpAny_bind (wpAny_bind (m := Builtin.Tuple.tupleExact _) (wpAny_newObj_type (wpAny_pure ⟨_, rfl, wpAny_pure h⟩) htake))
end
section
variable {X : Cx}
def kRevT (K : PySem.W.Frag) (Q : VK) : VK := fun x H1 => ∃ a xs, x = .ref a ∧ SqT K H1 a xs ∧ ∀ p, H1 p = none → Q (.ref p) (upd H1 p (.tup xs.reverse))
def tRevT (K : PySem.W.Frag) (te : TE) : TE := fun σ H Q => te σ H (kRevT K Q)
theorem pe_revT {e : Expr} {te : TE} {k : Nat} {p1 p2 p3 pos : Pos} (he : PE X e te) : PE X (.Subscript e (.Slice none none (some (.UnaryOp .USub (.Constant (.int 1) k p1) p2)) p3) pos) (tRevT X.K te) := by
  refine ⟨fun pins s σ H Q I h => ?_⟩
  refine Subscript_ (thn (he.run pins s σ H _ I h) fun v s1 ⟨x, H1, I1, r1, q1⟩ => ?_)
  obtain ⟨a, xs, ex, hx, q⟩ := q1
  subst ex
  cases r1
  have hst : PO X (some (.UnaryOp .USub (.Constant (.int 1) k p1) p2)) (tPart (tUn (rU fun i => .int (-i)) (tC (.int 1)))) := po_some (pe_un un_neg pe_int)
  refine wpAny_Slice ?_
  rw [evalPart_none]
  refine wpAny_pure ?_
  refine wpAny_pure ?_
  refine thn (hst.run pins s1 σ H1 (fun o H4 => o = some (-1) ∧ H4 = H1) I1 ⟨1, rfl, -1, rfl, rfl, rfl⟩) fun vs s4 ⟨o, H4, I4, ps, eo, e4⟩ => ?_
  subst eo e4
  have I5 : Inv X pins σ H4 { s4 with heap := s4.heap.push { cls := .type "slice", data := .fields #[.none, .none, vs] } } := I4.kept (t' := s4.toks) fun b ob q => Heap.get?_push_of_some _ q
  obtain ⟨its, r, ht, hz⟩ := I5.tuple hx
  have hlen := r.length
  show wpAny (model X.prog X.w) X.A (subscriptTail e (.Slice none none (some (.UnaryOp .USub (.Constant (.int 1) k p1) p2)) p3) (.ref a) (.ref s4.heap.objs.size)) (EP X pins σ Q) X.xe { s4 with heap := s4.heap.push { cls := .type "slice", data := .fields #[.none, .none, vs] } }
  refine tail_any (ops := [.ref a, .ref s4.heap.objs.size]) ht.typeIs (PyProof.Rows.slot_tuple_getitem.lookup) ?_ (by with_unfolding_all rfl)
  refine getItem_tuple_rev ht (Heap.IsSliceOf.new _ .none .none vs) ps ?_ (by rw [List.size_toArray]; omega)
  refine ⟨.ref _, _, I5.laid (t' := s4.toks) (o := .tup xs.reverse) (fun b ob q => Heap.get?_push_of_some _ q) (Nat.le_refl _) ?_, rfl, q _ (I5.hok.fresh (Nat.le_refl _))⟩
  exact ⟨by rw [List.length_reverse]; exact hz, _, r.reverse, IsTup.new _ _⟩
end
section
variable {K : PySem.W.Frag} {σ : L2.St} {H H0 : Hp} {Q : VK} {te : TE} {a : Addr} {xs : List V} {M : List Addr} {L : List (Addr × HO)} {tl : TA} {n : Nat} {sp : Sp} {gV : List V → List V} {E : XK}
theorem rd_revT (q : te σ H (kRevT K Q)) : tRevT K te σ H Q := q
theorem rd_kRevT (W : Wd H0 H M L) (h : SqT K H a xs) (q : ∀ p H', H0 p = none → Wd H0 H' M ((p, .tup xs.reverse) :: L) → Q (.ref p) H') : kRevT K Q (.ref a) H :=
  ⟨a, xs, rfl, h, fun p hp => q p _ (W.fresh hp) (W.new hp)⟩
theorem rd_kw (q : tl σ H fun zs H1 => zs.length = n ∧ sp (gV zs) H1 Q E) : tKw n sp gV E tl σ H Q := q
end
end Eng
namespace Eng
open PySem PySem.Spec PyProof.Rows L2
/-- x == y by the promise sp of the class's own __eq__ -/
def rOwnEq (K : PySem.W.Frag) (C : Addr) (sp : Sp) (E : XK) : R2 := fun x y H Q => ∃ a dx fs tb, x = .ref a ∧ H a = some (.ins C dx fs) ∧ TyX K H y tb ∧ PySem.W.notFirst K C tb = true ∧ sp [x, y] H (fun v H' => ∃ b, v = .bl b ∧ Q (.bl b) H') E
/-- x != y of two of the class -/
def rOwnNe (K : PySem.W.Frag) (C : Addr) (sp : Sp) (E : XK) : R2 := fun x y H Q => ∃ a dx fs a' dx' fs', x = .ref a ∧ y = .ref a' ∧ H a = some (.ins C dx fs) ∧ H a' = some (.ins C dx' fs') ∧ sp [x, y] H (fun v H' => ∃ b, v = .bl b ∧ Q (.bl (!b)) H') E
section
variable {X : Cx} {CX : CXT} {n : Nat} {C f : Addr} {fd : FuncData} {ps : List Str} {sp : Sp} {E : XK} {pins : List (Addr × Obj)} {σ : L2.St} {H : Hp} {s : Shared}
theorem run_own {A : Around} {x y : V} {u v : Value} {Q : VK} (F : FnOk X.prog X.w X.K X.mg X.base CX n f fd ps sp) (sb : Sub X n A) (hb : Binds X.K fd ps []) (hx : Passes CX X E) (I : Inv X pins σ H s) (rx : RelV x u) (ry : RelV y v)
    (h : sp [x, y] H Q E) : wpAny (model X.prog X.w) A (call (.ref f) [u, v]) (fun z s' => EP X pins σ Q z s') X.xe s := by
  have e0 : Env0 X.prog X.w X.K X.mg X.base A X.stack s H := by
    have e := I.env0
    exact ⟨by rw [sb.fr]; exact e.frames, e.mod, e.bs, e.bsz, e.funs, e.frf, e.hok, e.bare⟩
  have hl := F.len _ _ _ _ h
  have r2 : Vals [x, y] [u, v] := .cons rx (.cons ry .nil)
  refine wpAny_call (codeAny_mono (F.run A X.stack s H ⟨[u, v], []⟩ [u, v] [x, y] _ E sb.room e0 (by
    have := hb s [u, v] I.kIn (by simpa using hl)
    simpa using this) r2 h) fun r s' hq => ?_)
  cases r with
  | error e => exact hx pins σ H s e s' I hq
  | ok fl =>
    cases fl with
    | ret w => exact I.after hq
    | next => exact False.elim hq
    | brk => exact False.elim hq
    | cont => exact False.elim hq
theorem o_ownEq (F : FnOk X.prog X.w X.K X.mg X.base CX n f fd ps sp) (hr : Room n X.A) (hs : PySem.W.findIn X.K (.ref C) "__eq__" = some (some (.ref f))) (hf : PySem.W.isFn X.K (.ref f) = true) (hb : Binds X.K fd ps []) (hx : Passes CX X E) :
    OpR X (compareOp .Eq) (rOwnEq X.K C sp E) := by
  intro pins s σ H x y u v Q I rx ry h
  obtain ⟨a, dx, fs, tb, rfl, ha, ty, hn, h⟩ := h
  cases rx
  obtain ⟨P, Z, p, _⟩ := kit_of I ry ty
  obtain ⟨mA, J, _⟩ := ins_get I.hok ha
  obtain ⟨od, J, _⟩ := J.look
  obtain ⟨m, hF⟩ := I.fr
  show wpAny (model X.prog X.w) X.A (richCompare .Eq (.ref a) v) (EP X pins σ Q) X.xe s
  refine PySem.W.cmp_K (op := .Eq) (tb := tb) hr.units0 hF I.ok.mod.kin J (Z.ty _ _ I.kIn p) hn hs hf ?_
  refine wpAny_mono (run_own F ⟨hr, rfl⟩ hb hx I (x := .ref a) rfl ry h) (fun z s' hz => ?_) fun _ _ e => e
  obtain ⟨zv, H', I', rz, b, rfl, q⟩ := hz
  cases rz
  exact ⟨.bl b, H', I', rfl, q⟩
end
section
variable {K : PySem.W.Frag} {C a a' dx dx' : Addr} {fs fs' : List (Str × V)} {sp : Sp} {E : XK} {H : Hp} {Q : VK} {y : V} {tb : Value}
theorem rd_ownEq (h : H a = some (.ins C dx fs)) (ty : TyX K H y tb) (hn : PySem.W.notFirst K C tb = true) (q : sp [.ref a, y] H (fun v H' => ∃ b, v = .bl b ∧ Q (.bl b) H') E) : rOwnEq K C sp E (.ref a) y H Q := ⟨a, dx, fs, tb, rfl, h, ty, hn, q⟩
theorem rd_ownNe (h : H a = some (.ins C dx fs)) (h' : H a' = some (.ins C dx' fs')) (q : sp [.ref a, .ref a'] H (fun v H' => ∃ b, v = .bl b ∧ Q (.bl (!b)) H') E) : rOwnNe K C sp E (.ref a) (.ref a') H Q := ⟨a, dx, fs, a', dx', fs', rfl, rfl, h, h', q⟩
end
def rAnyI (K : PySem.W.Frag) : List V → Hp → VK → Prop := fun vs H Q => ∃ (a : Addr) (ns : List Int), vs = [V.ref a] ∧ SqL K H a (ns.map V.int) ∧ Q (.bl (ns.any fun n => n != 0)) H
def rMax2 : List V → Hp → VK → Prop := fun xs H Q => ∃ i j, xs = [.int i, .int j] ∧ Q (.int (if j > i then j else i)) H
def rMin2 : List V → Hp → VK → Prop := fun xs H Q => ∃ i j, xs = [.int i, .int j] ∧ Q (.int (if j < i then j else i)) H
section
variable {X : Cx}
theorem c_max (hc : X.calm = true) : CallR X (.builtin "max") rMax2 := call_max2 hc
end
section
variable {K : PySem.W.Frag} {H H0 : Hp} {Q : VK} {a : Addr} {ns : List Int} {bs : List Bool} {n m : Int} {M : List Addr} {L : List (Addr × HO)} {xs : List V}
theorem rd_anyI (h : SqL K H a (ns.map V.int)) (q : Q (.bl (ns.any fun n => n != 0)) H) : rAnyI K [.ref a] H Q := ⟨a, ns, rfl, h, q⟩
theorem rd_max (q : Q (.int (if m > n then m else n)) H) : rMax2 [.int n, .int m] H Q := ⟨n, m, rfl, q⟩
theorem rd_min (q : Q (.int (if m < n then m else n)) H) : rMin2 [.int n, .int m] H Q := ⟨n, m, rfl, q⟩
end
end Eng
namespace Eng
open PySem PySem.Spec PyProof.Rows L2
set_option maxHeartbeats 1000000 in
theorem meets_enum1 {v : Value} {o : Obj} {H : Heap → Prop} (B : Begins v o H) :
    Meets (Builtin.«enumerate.__new__» ⟨[.type "enumerate", v], []⟩) (fun _ R s => H s.heap ∧
      R (.ok (.ret (.ref (s.heap.push o).objs.size))) { s with heap := (s.heap.push o).push { cls := .type "enumerate", data := .fields #[.none, .bool false, .ref s.heap.objs.size, rawInt 0, .none, .none] } }) :=
  .of_wp fun prog w A R s h => by
    obtain ⟨hp, g, d, tk, os⟩ := s; obtain ⟨h1, h⟩ := h
    have hsub := sub_enumerate
    have q1 : ∀ {A' : Around} {E : Value → Shared → Prop} {Q : Value → Shared → Prop}, Q (.ref hp.objs.size) ⟨hp.push o, g, d, tk, os⟩ → wpAny (model prog w) A' (pyIter v) Q E ⟨hp, g, d, tk, os⟩ :=
      fun q => B.iter prog w _ _ ⟨hp, g, d, tk, os⟩ _ h1 q
    wp_walk using q1
    refine wpAny_stack_any fun st => wpAny_pure ?_
    split
    · rename_i c _ _ _ _ _
      cases (c == Value.type "enumerate")
      · wp_walk using q1
        exact ⟨_, rfl, h⟩
      · wp_walk using q1
        exact ⟨_, rfl, h⟩
    · wp_walk using q1
      exact ⟨_, rfl, h⟩
theorem enum_begins1 {prog : Program} {w : World} {A : Around} {E : Value → Shared → Prop} {s : Shared} {v : Value} {o : Obj} {H : Heap → Prop} {Q : Value → Shared → Prop} (B : Begins v o H) (h1 : H s.heap)
    (h : ∀ h', IsEnum h' (s.heap.objs.size + 1) s.heap.objs.size 0 .none → h'.get? s.heap.objs.size = some o → h'.objs.size = s.heap.objs.size + 2 →
      (∀ b o, s.heap.get? b = some o → h'.get? b = some o) → Q (.ref (s.heap.objs.size + 1)) { s with heap := h' }) :
    wpAny (model prog w) A (call (.type "enumerate") [v]) Q E s := by
  refine callType_new F.called_enumerate (by decide) (F.typeCall_enumerate_1 _) (F.newCall_enumerate_1 _) (fun obj => F.args_object_init_2 obj _) F.entry_enumerate_new
    (meets_enum1 B) ⟨h1, ?_⟩
  have hz : (s.heap.push o).objs.size = s.heap.objs.size + 1 := Heap.size_push ..
  show _ ∧ _
  rw [hz]
  have he : IsEnum ((s.heap.push o).push { cls := .type "enumerate", data := .fields #[.none, .bool false, .ref s.heap.objs.size, rawInt 0, .none, .none] }) (s.heap.objs.size + 1) s.heap.objs.size 0 .none := by
    have := Heap.get?_push_size (s.heap.push o) (o := { cls := .type "enumerate", data := .fields #[.none, .bool false, .ref s.heap.objs.size, rawInt 0, .none, .none] }) rfl
    rw [hz] at this; exact this
  refine ⟨⟨_, he, rfl⟩, h _ he (Heap.get?_push_of_some _ (Heap.get?_push_size _ B.free)) (by rw [Heap.size_push, hz]) fun b o x => Heap.get?_push_of_some _ (Heap.get?_push_of_some _ x)⟩
/-- the tuple at a, each item in a new pair -/
def IteT (K : PySem.W.Frag) (a : Addr) : It :=
  ⟨fun i H => ∃ (xs : List V) (x : V), SqT K H a xs ∧ xs[i]? = some x, fun i H v H' => ∃ T x, v = .ref T ∧ H T = none ∧ H' = upd H T (.tup [.int (i : Nat), x]) ∧ ∀ xs, SqT K H a xs → xs[i]? = some x, fun i H => ∃ xs : List V, SqT K H a xs ∧ xs.length ≤ i⟩
/-- at the end a tuple's iterator draws no more -/
theorem draws_end {prog : Program} {w : World} {A : Around} (hh : A.handled = none) (it t : Addr) (items : Array Value) (i : Nat) (hx : items[i]? = none) :
    Draws prog w A it [it, t] i (fun _ _ => True) (fun j h => j = i ∧ h.IsTupleIter it t i ∧ h.IsTuple t items) where
  live := fun _ _ st => let ⟨o, ho, _⟩ := st.2.1; ⟨o, ho⟩
  frame := fun _ _ _ st hk => ⟨st.1, st.2.1.at fun o e => hk it (by simp) o e, st.2.2.at fun o e => hk t (by simp) o e⟩
  item := fun j s Q E hj st _ => absurd st.1 (Nat.ne_of_lt hj)
  done := fun s Q E st hE => wpAny_nextOf_tuple_end hh st.2.1 st.2.2 hx hE
theorem turn_enumT {P : Program} {w : World} {K : PySem.W.Frag} {elts : List Expr} {kk : Nat} {tpos : Pos} (a e it : Addr) :
    Turn P w K (.Tuple elts kk tpos) (IteT K a) [e, it] e (fun i h => (∃ old, IsEnum h e it ((i : Nat) : Int) old) ∧ h.IsTupleIter it a i ∧ e ≠ it) where
  mem := by simp
  obj := fun i h st b hb => by
    obtain ⟨⟨old, he⟩, ⟨o, ho, hc, hd⟩, _⟩ := st
    have e' : b = e ∨ b = it := by simpa using hb
    rcases e' with z | z
    · rw [z]; exact ⟨_, he, fun v q => nomatch q⟩
    · rw [z]; exact ⟨o, ho, fun v q => by rw [hd] at q; cases q⟩
  keep := fun i h h' st k => let ⟨⟨old, he⟩, hi, hne⟩ := st; ⟨⟨old, k e (by simp) _ he⟩, hi.at fun o q => k it (by simp) o q, hne⟩
  item := by
    intro X hP hw hK hc i pins s σ H E I hf st hg
    subst hP hw hK
    obtain ⟨⟨old, he⟩, hit, hne⟩ := st
    obtain ⟨xs, x, hq, hx⟩ := hg
    obtain ⟨its, rv, p, hz⟩ := I.tuple hq
    have p' : s.heap.IsTuple a its.toArray := p
    obtain ⟨u, hu, ru⟩ := rv.get hx
    have hel : e < s.heap.objs.size := Heap.lt_size he
    have hil : it < s.heap.objs.size := by obtain ⟨_, q, _⟩ := hit; exact Heap.lt_size q
    obtain ⟨oa, ha1, ha2, na, ha3⟩ := id p'
    have nae : a ≠ e := fun z => by
      have he' : s.heap.get? e = some _ := he
      rw [← z, ha1] at he'
      have := congrArg Obj.cls (Option.some.inj he')
      rw [ha2] at this
      injection this with q
      exact absurd q (by decide)
    have nai : a ≠ it := fun z => by
      obtain ⟨oi, hi1, hi2, hi3⟩ := hit
      rw [← z, ha1] at hi1
      have := congrArg Obj.cls (Option.some.inj hi1)
      rw [ha2, hi2] at this
      injection this with q
      exact absurd q (by decide)
    have hs : i < its.toArray.size := by
      have := (List.getElem?_eq_some_iff.mp hu).1
      simpa using this
    refine wpAny_pyNext_enum_itemD (Draws.tuple (A := X.A.in1) (show X.A.in1.handled = none from I.ok.hd hc) it a nai its.toArray) he ⟨hit, p'⟩ hs hne (by simp; exact ⟨hne, fun z => nae z.symm⟩) fun x' h' tk hP ho hst' hT hsz hk => ?_
    have hxu : x' = u := by
      have h1 : its.toArray[i]? = some x' := hP
      have h2 : its.toArray[i]? = some u := by simpa using hu
      rw [h1] at h2; exact Option.some.inj h2
    subst hxu
    refine ⟨_, rfl, wpAny_letOwnedTupleGo_enum (s := { s with heap := h', toks := tk + 1 }) ho fun h'' he' sb => ?_⟩
    have hT2 : h''.get? s.heap.objs.size = some { cls := .type "tuple", data := .seq #[.int i tk, x'] } := (sb.2 _ (Nat.ne_of_gt hel)).trans hT
    have new : ObjOk X.prog X.w (upd H s.heap.objs.size (.tup [.int (i : Nat), x])) h'' s.heap.objs.size (.tup [.int (i : Nat), x]) :=
      ⟨by show 2 ≤ sizeLine; decide, [.int i tk, x'], .cons ⟨_, rfl⟩ (.cons ru .nil), ⟨_, hT2, rfl, _, rfl⟩⟩
    have I1 : Inv X pins σ (upd H s.heap.objs.size (.tup [.int (i : Nat), x])) { s with heap := h'', toks := tk + 1 } :=
      I.turnedNew (ch := [e, it]) (fun b ob hb q => (sb.2 b (fun z => hb (by simp [z]))).trans (hk b ob (fun z => hb (by simp [z])) (fun z => hb (by simp [z])) q)) hf (Nat.le_refl _) new
    refine ⟨.ref s.heap.objs.size, _, I1, rfl, ⟨_, x, rfl, I.hok.fresh (Nat.le_refl _), rfl, fun ys hy => by rw [I.tuple_inj hy hq]; exact hx⟩, ⟨⟨x', ?_⟩, hst'.1.at fun o q => (sb.2 it (Ne.symm hne)).trans q, hne⟩, fun b hb => ?_⟩
    · have e1 : ((i + 1 : Nat) : Int) = (i : Int) + 1 := by omega
      rw [e1]; exact he'
    · have hb' : b < s.heap.objs.size := by
        have e' : b = e ∨ b = it := by simpa using hb
        rcases e' with z | z
        · rw [z]; exact hel
        · rw [z]; exact hil
      rw [upd_ne (Nat.ne_of_lt hb')]
      exact (hf b hb).1
  done := by
    intro X hP hw hK hc i pins s σ H E I hf st hg
    subst hP hw hK
    obtain ⟨⟨old, he⟩, hit, hne⟩ := st
    obtain ⟨xs, hq, hx⟩ := hg
    obtain ⟨its, rv, p, hz⟩ := I.tuple hq
    have p' : s.heap.IsTuple a its.toArray := p
    obtain ⟨f0, f1, f2, f3, f4, f5⟩ := hf it (by simp)
    have hl := rv.length
    have hn : its.toArray[i]? = none := by simp; omega
    exact wpAny_pyNext_enum_endD (draws_end (A := X.A.in1) (show X.A.in1.handled = none from I.ok.hd hc) it a its.toArray i hn) he ⟨rfl, hit, p'⟩ fun h' eb => ⟨rfl, I.turned (t' := s.toks) (fun b o hb q => eb b o hb q) f0 f1 f3 f4 f5⟩
  self := fun A i s Q E st h => let ⟨⟨_, he⟩, _⟩ := st; wpAny_pyIter_enum he h
def iEnumA (K : PySem.W.Frag) (ta : TA) : TI := fun σ H R => ta σ H fun vs H1 => ∃ a xs, vs = [.ref a] ∧ ((SqL K H1 a xs ∧ R (Ite K a) H1) ∨ (SqT K H1 a xs ∧ R (IteT K a) H1))
theorem pi_enumA {X : Cx} {e : Expr} {ta : TA} {p pos tpos : Pos} {elts : List Expr} {kk : Nat} (hg : Gl X "enumerate") (hm : X.mg "enumerate" = none) (ha : PA X [e] ta) (hs : starEach [e] X.env = [(false, eval e X.env)] := by rfl) :
    PI X (.Tuple elts kk tpos) (.Call (.Name "enumerate" p) [e] [] pos) (iEnumA X.K ta) := by
  refine ⟨fun pins s σ H R I h => ?_⟩
  refine Call_ (ld_blt I hg hm boot_enumerate (PyProof.Rows.callWith_type1 (thn (ha.run pos pins s σ H _ I h) fun us s1 ⟨vs, H1, I1, r1, q1⟩ => ?_) hs rfl))
  obtain ⟨a, xs, ex, hq⟩ := q1
  subst ex
  cases r1 with
  | cons r rr =>
    cases rr
    cases r
    have fpo : ∀ b ∈ [s1.heap.objs.size + 1, s1.heap.objs.size], FpOk X pins H1 b := fun b hb => by
      have e' : b = s1.heap.objs.size + 1 ∨ b = s1.heap.objs.size := by simpa using hb
      have hle : s1.heap.objs.size ≤ b := by
        rcases e' with z | z
        · rw [z]; exact Nat.le_add_right _ _
        · rw [z]; exact Nat.le_refl _
      exact I1.fpOk hle (I1.hok.fresh hle)
    rcases hq with ⟨hq, q⟩ | ⟨hq, q⟩
    · obtain ⟨its, rv, p', hz⟩ := I1.list hq
      refine call_enumerate_list p'.isList fun h' he hit hsz hk => wpAny_pyIter_enum he ?_
      have I2 : Inv X pins σ H1 { s1 with heap := h' } := I1.kept (t' := s1.toks) hk
      exact ⟨s1.heap.objs.size + 1, [s1.heap.objs.size + 1, s1.heap.objs.size], _, _, H1, rfl, I2, turn_enum a (s1.heap.objs.size + 1) s1.heap.objs.size, ⟨⟨.none, he⟩, hit, Nat.succ_ne_self _⟩, fpo, q⟩
    · obtain ⟨its, rv, p', hz⟩ := I1.tuple hq
      refine enum_begins1 (begins_tuple a its.toArray) p' fun h' he hit hsz hk => wpAny_pyIter_enum he ?_
      have I2 : Inv X pins σ H1 { s1 with heap := h' } := I1.kept (t' := s1.toks) hk
      exact ⟨s1.heap.objs.size + 1, [s1.heap.objs.size + 1, s1.heap.objs.size], _, _, H1, rfl, I2, turn_enumT a (s1.heap.objs.size + 1) s1.heap.objs.size, ⟨⟨.none, he⟩, ⟨_, hit, rfl, rfl⟩, Nat.succ_ne_self _⟩, fpo, q⟩
end Eng
namespace Eng
/-- without zeros at the end -/
def strip : List Nat → List Nat
  | [] => []
  | d :: ds => match strip ds with
    | [] => if d = 0 then [] else [d]
    | e :: es => d :: e :: es
theorem strip_nil : strip [] = [] := rfl
theorem strip_cons (d : Nat) (ds : List Nat) : strip (d :: ds) = if strip ds = [] then (if d = 0 then [] else [d]) else d :: strip ds := by
  show (match strip ds with | [] => if d = 0 then [] else [d] | e :: es => d :: e :: es) = _
  cases h : strip ds with
  | nil => simp
  | cons e es => simp
theorem strip_zeros : ∀ {ds : List Nat}, (∀ d ∈ ds, d = 0) → strip ds = []
  | [], _ => rfl
  | d :: ds, h => by
    rw [strip_cons, strip_zeros (fun x hx => h x (List.mem_cons_of_mem _ hx)), if_pos rfl, if_pos (h d List.mem_cons_self)]
theorem strip_app_zeros : ∀ (ds : List Nat) {zs : List Nat}, (∀ d ∈ zs, d = 0) → strip (ds ++ zs) = strip ds
  | [], zs, h => by rw [List.nil_append, strip_zeros h]; rfl
  | d :: ds, zs, h => by rw [List.cons_append, strip_cons, strip_cons, strip_app_zeros ds h]
theorem strip_app_ne : ∀ (ds : List Nat) {d : Nat}, d ≠ 0 → strip (ds ++ [d]) = ds ++ [d]
  | [], d, h => by rw [List.nil_append, strip_cons, strip_nil, if_pos rfl, if_neg h]
  | e :: ds, d, h => by rw [List.cons_append, strip_cons, strip_app_ne ds h, if_neg (by simp)]
theorem strip_length : ∀ ds : List Nat, (strip ds).length ≤ ds.length
  | [] => Nat.le_refl _
  | d :: ds => by
    have ih := strip_length ds
    rw [strip_cons]
    split
    · split <;> simp
    · simp; exact ih
theorem strip_mem : ∀ {ds : List Nat} {d : Nat}, d ∈ strip ds → d ∈ ds
  | [], _, h => h
  | e :: ds, d, h => by
    rw [strip_cons] at h
    split at h
    · split at h
      · cases h
      · rw [List.mem_singleton.mp h]; exact List.mem_cons_self
    · rcases List.mem_cons.mp h with z | z
      · rw [z]; exact List.mem_cons_self
      · exact List.mem_cons_of_mem _ (strip_mem z)
/-- in normal form -/
def Norm (ds : List Nat) : Prop := strip ds = ds
theorem strip_norm : ∀ ds : List Nat, Norm (strip ds)
  | [] => rfl
  | d :: ds => by
    unfold Norm
    have ih : strip (strip ds) = strip ds := strip_norm ds
    rw [strip_cons]
    by_cases h : strip ds = []
    · rw [if_pos h]
      by_cases h0 : d = 0
      · rw [if_pos h0]; rfl
      · rw [if_neg h0, strip_cons, strip_nil, if_pos rfl, if_neg h0]
    · rw [if_neg h, strip_cons, ih, if_neg h]
theorem Norm.tail {d : Nat} {ds : List Nat} (h : Norm (d :: ds)) : Norm ds := by
  unfold Norm at *
  rw [strip_cons] at h
  by_cases h1 : strip ds = []
  · rw [if_pos h1] at h
    by_cases h0 : d = 0
    · rw [if_pos h0] at h; cases h
    · rw [if_neg h0] at h
      have : ds = [] := by simpa using h.symm
      rw [this]; rfl
  · rw [if_neg h1] at h
    exact (List.cons.inj h).2
theorem Norm.last {ds : List Nat} (h : Norm ds) (hn : ds ≠ []) : ∃ es d, ds = es ++ [d] ∧ d ≠ 0 := by
  have e : ds = ds.dropLast ++ [ds.getLast hn] := (List.dropLast_concat_getLast hn).symm
  refine ⟨ds.dropLast, ds.getLast hn, e, fun z => ?_⟩
  unfold Norm at h
  have h2 : strip (ds.dropLast ++ [ds.getLast hn]) = ds := by rw [← e]; exact h
  rw [z, strip_app_zeros _ (by simp)] at h2
  have l := strip_length ds.dropLast
  rw [h2, List.length_dropLast] at l
  have : 0 < ds.length := List.length_pos_iff.mpr hn
  omega
/-- the value of a row of digits of b bits -/
def val (b : Nat) : List Nat → Nat
  | [] => 0
  | d :: ds => d + 2 ^ b * val b ds
theorem val_nil (b : Nat) : val b [] = 0 := rfl
theorem val_cons (b d : Nat) (ds : List Nat) : val b (d :: ds) = d + 2 ^ b * val b ds := rfl
theorem val_app (b : Nat) : ∀ (ds es : List Nat), val b (ds ++ es) = val b ds + 2 ^ (b * ds.length) * val b es
  | [], es => by simp [val]
  | d :: ds, es => by
    rw [List.cons_append, val_cons, val_cons, val_app b ds es, List.length_cons, Nat.mul_add, Nat.mul_add, Nat.mul_one, Nat.pow_add, Nat.add_assoc, Nat.mul_comm (2 ^ (b * ds.length)) (2 ^ b), Nat.mul_assoc]
theorem val_zeros (b : Nat) : ∀ {ds : List Nat}, (∀ d ∈ ds, d = 0) → val b ds = 0
  | [], _ => rfl
  | d :: ds, h => by rw [val_cons, val_zeros b (fun x hx => h x (List.mem_cons_of_mem _ hx)), h d List.mem_cons_self]; rfl
theorem val_strip (b : Nat) : ∀ ds : List Nat, val b (strip ds) = val b ds
  | [] => rfl
  | d :: ds => by
    have ih := val_strip b ds
    rw [strip_cons, val_cons]
    by_cases h : strip ds = []
    · rw [if_pos h]
      rw [h] at ih
      rw [← ih]
      by_cases h0 : d = 0
      · rw [if_pos h0, h0]; rfl
      · rw [if_neg h0]; rfl
    · rw [if_neg h, val_cons, ih]
/-- all below 2 ^ b -/
def Digs (b : Nat) (ds : List Nat) : Prop := ∀ d ∈ ds, d < 2 ^ b
theorem val_lt {b : Nat} : ∀ {ds : List Nat}, Digs b ds → val b ds < 2 ^ (b * ds.length)
  | [], _ => by simp [val]
  | d :: ds, h => by
    have ih := val_lt (b := b) (ds := ds) fun x hx => h x (List.mem_cons_of_mem _ hx)
    have hd := h d List.mem_cons_self
    rw [val_cons, List.length_cons, Nat.mul_add, Nat.mul_one, Nat.pow_add]
    have h1 : 2 ^ b * (val b ds + 1) ≤ 2 ^ b * 2 ^ (b * ds.length) := Nat.mul_le_mul_left _ ih
    rw [Nat.mul_add, Nat.mul_one] at h1
    rw [Nat.mul_comm (2 ^ (b * ds.length))]
    omega
/-- the digits of n -/
def digs (b n : Nat) : List Nat := if h : n = 0 ∨ b = 0 then [] else n % 2 ^ b :: digs b (n / 2 ^ b)
termination_by n
decreasing_by
  have hn : 0 < n := Nat.pos_of_ne_zero fun z => h (.inl z)
  have hb : 1 < 2 ^ b := Nat.one_lt_two_pow fun z => h (.inr z)
  exact Nat.div_lt_self hn hb
theorem digs_zero (b : Nat) : digs b 0 = [] := by rw [digs, dif_pos (.inl rfl)]
theorem digs_pos {b n : Nat} (hb : b ≠ 0) (hn : n ≠ 0) : digs b n = n % 2 ^ b :: digs b (n / 2 ^ b) := by
  rw [digs, dif_neg (fun z => z.elim hn hb)]
theorem digs_ind {b : Nat} (hb : b ≠ 0) {P : Nat → Prop} (h0 : P 0) (hs : ∀ n, n ≠ 0 → P (n / 2 ^ b) → P n) (n : Nat) : P n := by
  induction n using Nat.strongRecOn with
  | _ n ih =>
    by_cases hn : n = 0
    · rw [hn]; exact h0
    · exact hs n hn (ih _ (Nat.div_lt_self (Nat.pos_of_ne_zero hn) (Nat.one_lt_two_pow hb)))
theorem val_digs {b : Nat} (hb : b ≠ 0) (n : Nat) : val b (digs b n) = n := by
  refine digs_ind hb (P := fun n => val b (digs b n) = n) ?_ (fun n hn ih => ?_) n
  · rw [digs_zero]; rfl
  · rw [digs_pos hb hn, val_cons, ih]
    exact Nat.mod_add_div n (2 ^ b)
theorem digs_lt {b : Nat} (hb : b ≠ 0) (n : Nat) : Digs b (digs b n) := by
  refine digs_ind hb (P := fun n => Digs b (digs b n)) ?_ (fun n hn ih => ?_) n
  · rw [digs_zero]; intro d h; cases h
  · rw [digs_pos hb hn]
    intro d h
    rcases List.mem_cons.mp h with z | z
    · rw [z]; exact Nat.mod_lt _ (Nat.two_pow_pos b)
    · exact ih d z
theorem digs_norm {b : Nat} (hb : b ≠ 0) (n : Nat) : Norm (digs b n) := by
  refine digs_ind hb (P := fun n => Norm (digs b n)) ?_ (fun n hn ih => ?_) n
  · rw [digs_zero]; rfl
  · rw [digs_pos hb hn]
    unfold Norm at *
    rw [strip_cons, ih]
    by_cases h : digs b (n / 2 ^ b) = []
    · rw [if_pos h, h]
      have hv := val_digs hb (n / 2 ^ b)
      rw [h] at hv
      have hm := Nat.mod_add_div n (2 ^ b)
      rw [← hv, val_nil, Nat.mul_zero, Nat.add_zero] at hm
      rw [if_neg (by rw [hm]; exact hn)]
    · rw [if_neg h]
theorem digs_eq_nil {b n : Nat} (hb : b ≠ 0) : digs b n = [] ↔ n = 0 := by
  constructor
  · intro h
    have hv := val_digs hb n
    rw [h] at hv
    exact hv.symm
  · intro h; rw [h, digs_zero]
/-- rows in normal form are the digits of their value -/
theorem digs_val {b : Nat} (hb : b ≠ 0) : ∀ {ds : List Nat}, Digs b ds → Norm ds → digs b (val b ds) = ds
  | [], _, _ => by rw [val_nil, digs_zero]
  | d :: ds, hd, hn => by
    have h1 : d < 2 ^ b := hd d List.mem_cons_self
    have h2 : Digs b ds := fun x hx => hd x (List.mem_cons_of_mem _ hx)
    have ih := digs_val hb h2 hn.tail
    have hz : val b (d :: ds) ≠ 0 := fun z => by
      have e := (val_strip b (d :: ds)).symm
      obtain ⟨es, x, e1, e2⟩ := hn.last (by simp)
      rw [e1, val_app] at z
      have := Nat.two_pow_pos (b * es.length)
      have : 2 ^ (b * es.length) * val b [x] = 0 := by omega
      rcases Nat.mul_eq_zero.mp this with q | q
      · omega
      · rw [val_cons, val_nil, Nat.mul_zero, Nat.add_zero] at q
        exact e2 q
    rw [digs_pos hb hz]
    have e1 : val b (d :: ds) % 2 ^ b = d := by rw [val_cons, Nat.add_mul_mod_self_left, Nat.mod_eq_of_lt h1]
    have e2 : val b (d :: ds) / 2 ^ b = val b ds := by
      rw [val_cons, Nat.add_mul_div_left _ _ (Nat.two_pow_pos b), Nat.div_eq_of_lt h1, Nat.zero_add]
    rw [e1, e2, ih]
/-- the sign of an integer -/
def sgn (n : Int) : Int := if n < 0 then -1 else if n = 0 then 0 else 1
theorem sgn_mul (n : Int) : sgn n * (n.natAbs : Int) = n := by
  unfold sgn
  split
  · omega
  · split <;> omega
theorem digs_length_le {b : Nat} (hb : b ≠ 0) (n : Nat) {k : Nat} (h : n < 2 ^ (b * k)) : (digs b n).length ≤ k := by
  have key : ∀ (k n : Nat), n < 2 ^ (b * k) → (digs b n).length ≤ k := by
    intro k
    induction k with
    | zero =>
      intro n h
      rw [Nat.mul_zero, Nat.pow_zero] at h
      have : n = 0 := by omega
      rw [this, digs_zero]; exact Nat.le_refl _
    | succ k ih =>
      intro n h
      by_cases hn : n = 0
      · rw [hn, digs_zero]; exact Nat.zero_le _
      · rw [digs_pos hb hn, List.length_cons]
        refine Nat.succ_le_succ (ih _ ?_)
        rw [Nat.mul_add, Nat.mul_one, Nat.pow_add] at h
        exact Nat.div_lt_of_lt_mul (by rw [Nat.mul_comm]; exact h)
  exact key k n h
end Eng
namespace Eng
theorem digs_lower {b n l : Nat} (hb : b ≠ 0) (h : l < (digs b n).length) : 2 ^ (b * l) ≤ n := by
  rcases Nat.lt_or_ge n (2 ^ (b * l)) with z | z
  · have := digs_length_le hb n z
    omega
  · exact z
/-- from p on the rows are alike, and at p - 1 they differ -/
structure LD (ds es : List Nat) (p : Nat) : Prop where
  le : p ≤ ds.length
  alike : ∀ i, p ≤ i → ds[i]? = es[i]?
  differ : p = 0 ∨ ds[p - 1]? ≠ es[p - 1]?
theorem LD.zero {ds es : List Nat} (h : LD ds es 0) : ds = es := List.ext_getElem? fun i => h.alike i (Nat.zero_le _)
theorem LD.drop {ds es : List Nat} {p : Nat} (h : LD ds es p) : ds.drop p = es.drop p := List.ext_getElem? fun i => by
  rw [List.getElem?_drop, List.getElem?_drop]
  exact h.alike _ (by omega)
theorem LD.ex : ∀ (ds es : List Nat), ds.length = es.length → ∃ p, LD ds es p
  | [], [], _ => ⟨0, Nat.le_refl _, fun _ _ => rfl, .inl rfl⟩
  | d :: ds, e :: es, h => by
    obtain ⟨p, hp⟩ := LD.ex ds es (by simpa using h)
    by_cases h0 : p = 0
    · subst h0
      by_cases hd : d = e
      · subst hd
        exact ⟨0, Nat.zero_le _, fun i _ => by rw [hp.zero], .inl rfl⟩
      · refine ⟨1, by simp, fun i hi => ?_, .inr (by simpa using hd)⟩
        obtain ⟨i', rfl⟩ : ∃ i', i = i' + 1 := ⟨i - 1, by omega⟩
        simp only [List.getElem?_cons_succ]
        exact hp.alike i' (Nat.zero_le _)
    · refine ⟨p + 1, by simp only [List.length_cons]; have := hp.le; omega, fun i hi => ?_, .inr ?_⟩
      · obtain ⟨i', rfl⟩ : ∃ i', i = i' + 1 := ⟨i - 1, by omega⟩
        simp only [List.getElem?_cons_succ]
        exact hp.alike i' (by omega)
      · obtain ⟨p', rfl⟩ : ∃ p', p = p' + 1 := ⟨p - 1, by omega⟩
        rcases hp.differ with z | z
        · omega
        · simpa using z
  | [], _ :: _, h => by simp at h
  | _ :: _, [], h => by simp at h
end Eng
namespace Eng
open PySem L2
local macro_rules | `(tactic| walk_at "len") => `(tactic| first | decide | (simp only [List.length_cons, List.length_nil, List.length_append]; decide))
local macro_rules | `(tactic| walk_at "mem") => `(tactic| repeat (first | exact List.mem_cons_self | refine List.mem_cons_of_mem _ ?_ | refine List.mem_append_right _ ?_))
local macro_rules | `(tactic| walk_at "own") => `(tactic| first | assumption | (refine Wd.get (by assumption) ?_; walk_at "mem"))
local macro_rules | `(tactic| walk_at "rp") => `(tactic| repeat (first | exact Rp.here | apply Rp.there | apply Rp.app))
local macro_rules | `(tactic| walk_at "may") => `(tactic| first | exact Or.inl (by assumption) | exact Or.inr (by walk_at "mem"))
local macro_rules | `(tactic| walk_at "sq") => `(tactic| first | assumption | exact SqL.of (by walk_at "own") | exact SqT.of (by walk_at "own"))
local macro_rules | `(tactic| walk_at "ari") => `(tactic| first | assumption | omega | decide)
local macro_rules | `(tactic| walk_at "set") => `(tactic| repeat (first | exact Sets.here | apply Sets.there))
local macro_rules | `(tactic| walk_at "rd1") => `(tactic| first
  | with_reducible refine' rd_seq ?_
  | with_reducible refine' rd_asg ?_
  | ((with_reducible refine' rd_var ?h ?_); case h => exact rfl)
  | with_reducible refine' rd_c ?_
  | with_reducible refine' rd_op ?_
  | ((with_reducible refine' rd_name ?h ?_); case h => walk_at "set")
  | with_reducible refine' rd_cons ?_
  | with_reducible refine' rd_nil ?_
  | with_reducible refine' rd_add ?_
  | with_reducible refine' rd_subI ?_
  | ((with_reducible refine' rd_mod ?h ?_); case h => walk_at "ari")
  | with_reducible refine' rd_lt ?_
  | with_reducible refine' rd_le ?_
  | with_reducible refine' rd_gt ?_
  | with_reducible refine' rd_ge ?_
  | with_reducible refine' rd_eqI ?_
  | with_reducible refine' rd_neI ?_
  | with_reducible refine' rd_test ?_
  | with_reducible refine' rd_tB ?_
  | with_reducible refine' rd_kB ?_
  | with_reducible refine' rd_ret ?_
  | with_reducible refine' rd_retN ?_
  | with_reducible refine' rd_next ?_
  | with_reducible refine' rd_drop ?_
  | with_reducible refine' rd_ifS ?_
  | with_reducible refine' rd_ifE ?_
  | with_reducible refine' rd_call ?_
  | with_reducible refine' rd_cb ?_
  | with_reducible refine' rd_not ?_
  | with_reducible refine' rd_and ?_
  | with_reducible refine' rd_or ?_
  | with_reducible refine' rd_andV ?_
  | with_reducible refine' rd_orV ?_
  | with_reducible refine' rd_notV ?_
  | with_reducible refine' rd_un ?_
  | with_reducible refine' rd_neg ?_
  | with_reducible refine' rd_fld ?_
  | with_reducible refine' rd_tup ?_
  | with_reducible refine' rd_lst ?_
  | with_reducible refine' rd_bm ?_
  | ((with_reducible refine' rd_kBMl ?h ?_); case h => walk_at "own")
  | with_reducible refine' rd_meth ?_
  | with_reducible refine' rd_make ?_
  | with_reducible refine' rd_chain ?_
  | with_reducible refine' rd_int ?_
  | with_reducible refine' rd_intB ?_
  | with_reducible refine' rd_abs ?_
  | ((with_reducible refine' rd_lenL ?h ?_); case h => walk_at "sq")
  | ((with_reducible refine' rd_lenT ?h ?_); case h => walk_at "sq")
  | with_reducible refine' rd_sub ?_
  | with_reducible refine' rd_sl ?_
  | with_reducible refine' rd_noPart ?_
  | with_reducible refine' rd_part ?_
  | with_reducible refine' rd_kPart ?_
  | with_reducible refine' rd_for ?_
  | with_reducible refine' rd_iList ?_
  | with_reducible refine' rd_iTup ?_
  | with_reducible refine' rd_iR1 ?_
  | with_reducible refine' rd_iR2 ?_
  | ((with_reducible refine' rd_kIL ?h ?_); case h => walk_at "sq")
  | ((with_reducible refine' rd_kIT ?h ?_); case h => walk_at "sq")
  | with_reducible refine' rd_revL ?_
  | with_reducible refine' rd_revT ?_
  | with_reducible refine' rd_par ?_
  | ((with_reducible refine' rd_kPar ?h ?k ?_); (case h => walk_at "set"); case k => walk_at "set")
  | with_reducible refine' rd_par3 ?_
  | ((with_reducible refine' rd_kPar3 ?h ?k ?l ?_); (case h => walk_at "set"); (case k => walk_at "set"); case l => walk_at "set")
  | with_reducible refine' rd_lc ?_
  | with_reducible refine' rd_yes ?_
  | with_reducible refine' rd_sFld ?_
  | with_reducible refine' rd_dget ?_
  | with_reducible refine' rd_sDPut ?_
  | with_reducible refine' rd_gCons ?_
  | with_reducible refine' rd_gNil ?_
  | with_reducible refine' rd_kw ?_
  | with_reducible refine' rd_Az ?_
  | with_reducible refine' rd_kBits ?_
  | ((with_reducible refine' rd_anyI ?h ?_); case h => walk_at "sq")
  | with_reducible refine' rd_max ?_
  | with_reducible refine' rd_min ?_
  | with_reducible refine' rd_bm0 ?_
  | with_reducible refine' rd_andI ?_
  | with_reducible refine' rd_orI ?_
  | with_reducible refine' rd_xorI ?_)
local macro_rules | `(tactic| walk_at "rd") => `(tactic| repeat (walk_at "rd1"))
/-- the program's places -/
structure Pc where
  CMachine : Addr
  CBig : Addr
  CDesk : Addr
  aWORDS : Addr
  aBITS_OF_BASES : Addr
  ts : List (Addr × Str)
  xs : List Addr
  fs : List Addr
  ks : List Addr
/-- a def's first slots -/
abbrev st0 (n : Nat) (vs : List V) : L2.St := vs.map some ++ List.replicate (n - vs.length) none
abbrev en0 (Q : VK) : Ends := ⟨fun _ H' => Q .non H', Q, fun _ _ => False, fun _ _ => False⟩
/-- the keywords' values by the parameters' order -/
def perm (ix : List Nat) (zs : List V) : List V := ix.map fun i => zs.getD i .non
def permV (ix : List Nat) (ws : List Value) : List Value := ix.map fun i => ws.getD i .none
theorem vals_getD {zs : List V} {ws : List Value} (r : Vals zs ws) (i : Nat) : RelV (zs.getD i .non) (ws.getD i .none) := by
  rw [List.getD_eq_getElem?_getD, List.getD_eq_getElem?_getD]
  cases e : zs[i]? with
  | none => rw [r.none_of e]; rfl
  | some v =>
    obtain ⟨u, e2, r2⟩ := r.get e
    rw [e2]
    exact r2
theorem perm_rel (ix : List Nat) {zs : List V} {ws : List Value} (r : Vals zs ws) : Vals (perm ix zs) (permV ix ws) := by
  unfold perm permV
  induction ix with
  | nil => exact .nil
  | cons i ix ih => exact .cons (vals_getD r i) ih
theorem kit_self (K : PySem.W.Frag) (C : Addr) : PySem.W.kitOne K (.ref C) (.ref C) = some true := by
  unfold PySem.W.kitOne
  simp
/-- what is built in is none of the class -/
structure NoSub (K : PySem.W.Frag) (C : Addr) : Prop where
  ic : PySem.W.isClsIn K C = true
  ty : PySem.W.typeIn K (.ref C) = some (.type "type")
  sb : ∀ b ∈ (["int", "list", "str", "NoneType", "bool", "tuple", "dict"] : List String), PySem.W.subIn K (.type b) (.ref C) = some false
theorem NoSub.kit {K : PySem.W.Frag} {C : Addr} (h : NoSub K C) {b : String} (hb : b ∈ (["int", "list", "str", "NoneType", "bool", "tuple", "dict"] : List String)) : PySem.W.kitOne K (.type b) (.ref C) = some false := by
  unfold PySem.W.kitOne
  have e : (Value.type b == Value.ref C) = false := rfl
  rw [e, if_neg Bool.false_ne_true]
  unfold PySem.W.kitCls
  have e2 : ((PySem.W.clsIn K C).isSome && PySem.W.typeIn K (.ref C) == some (.type "type")) = true := by
    have h2 : (PySem.W.clsIn K C).isSome = true := h.ic
    rw [h2, h.ty]
    rfl
  show (if ((PySem.W.clsIn K C).isSome && PySem.W.typeIn K (.ref C) == some (.type "type")) = true then PySem.W.subIn K (.type b) (.ref C) else none) = some false
  rw [if_pos e2]
  exact h.sb b hb
theorem NoSub.nf {K : PySem.W.Frag} {C : Addr} (h : NoSub K C) {b : String} (hb : b ∈ (["int", "list", "str", "NoneType", "bool", "tuple", "dict"] : List String)) : PySem.W.notFirst K C (.type b) = true := by
  unfold PySem.W.notFirst
  rw [h.sb b hb]
  simp
theorem nf_self (K : PySem.W.Frag) (C : Addr) : PySem.W.notFirst K C (.ref C) = true := by
  unfold PySem.W.notFirst
  simp
def IsI (K : PySem.W.Frag) (H : Hp) (x : V) (b : Bool) : Prop := (∃ i, x = .int i ∧ b = true) ∨ (b = false ∧ ((∃ k, x = .bl k) ∨ ∃ t, TyX K H x t ∧ PySem.W.kitOne K t (.type "int") = some false))
def sp_G (K : PySem.W.Frag) (c : Pc) : Sp := fun vs H Q _ => ∃ x b, vs = [x] ∧ IsI K H x b ∧ Q (.bl b) H
def t_G (K : PySem.W.Frag) (c : Pc) : TS :=
  (tRet (tAndV (tCB (rIsi K) (tCons (tVar 0) (tCons (tC (.ty "int")) tNil))) (tNotV (tCB (rIsi K) (tCons (tVar 0) (tCons (tC (.ty "bool")) tNil))))))
section
variable {K : PySem.W.Frag} {c : Pc} {vs : List V} {H H0 : Hp} {Q : VK} {E : XK} {M : List Addr} {L : List (Addr × HO)} {x : V} {i lo hi : Int}
theorem isi_ty {a b : String} {r : Bool} (ty : TyX K H x (.type a)) (h : kitB a b = some r) (q : Q (.bl r) H) : rIsi K [x, .ty b] H Q := ⟨x, .ty b, _, _, r, rfl, .ty b, ty, kit_ty h, q⟩
theorem b_G (h : sp_G K c vs H Q E) : t_G K c (en0 Q) (st0 1 vs) H := by
  obtain ⟨x, b, rfl, hx, q⟩ := h
  unfold t_G
  walk_at "rd"
  rcases hx with ⟨i, rfl, rfl⟩ | ⟨rfl, ⟨k, rfl⟩ | ⟨t, ty, e⟩⟩
  · refine isi_ty (.base (.int i)) (by decide +kernel : kitB "int" "int" = some true) ?_
    walk_at "rd"
    refine rd_T rfl ?_
    walk_at "rd"
    refine isi_ty (.base (.int i)) (by decide +kernel : kitB "int" "bool" = some false) ?_
    walk_at "rd"
    exact q
  · refine isi_ty (.base (.bl k)) (by decide +kernel : kitB "bool" "int" = some true) ?_
    walk_at "rd"
    refine rd_T rfl ?_
    walk_at "rd"
    refine isi_ty (.base (.bl k)) (by decide +kernel : kitB "bool" "bool" = some true) ?_
    walk_at "rd"
    exact q
  · refine (show rIsi K [x, .ty "int"] H _ from ⟨x, _, t, _, false, rfl, .ty _, ty, e, ?_⟩)
    walk_at "rd"
    refine rd_F rfl ?_
    exact q
def Btw (K : PySem.W.Frag) (H : Hp) (x : V) (lo hi : Int) (r : Bool) : Prop := (∃ i, x = .int i ∧ r = (decide (lo ≤ i) && decide (i ≤ hi))) ∨ (IsI K H x false ∧ r = false)
def sp_H (K : PySem.W.Frag) (c : Pc) : Sp := fun vs H Q _ => ∃ x lo hi r, vs = [x, .int lo, .int hi] ∧ Btw K H x lo hi r ∧ Q (.bl r) H
def t_H (K : PySem.W.Frag) (c : Pc) : TS :=
  (tRet (tAndV (tCall (sp_G K c) [] E0 (tCons (tVar 0) tNil)) (tChain rLe rLe (tVar 1) (tVar 0) (tVar 2))))
theorem b_H (h : sp_H K c vs H Q E) : t_H K c (en0 Q) (st0 3 vs) H := by
  obtain ⟨x, lo, hi, r, rfl, hx, q⟩ := h
  unfold t_H
  walk_at "rd"
  rcases hx with ⟨i, rfl, rfl⟩ | ⟨hx, rfl⟩
  · refine ⟨_, true, rfl, .inl ⟨i, rfl, rfl⟩, ?_⟩
    walk_at "rd"
    refine rd_T rfl ?_
    walk_at "rd"
    by_cases h1 : lo ≤ i
    · rw [decide_eq_true h1] at q ⊢
      refine rd_kChT rfl ?_
      walk_at "rd"
      exact q
    · rw [decide_eq_false h1] at q ⊢
      refine rd_kChF rfl ?_
      exact q
  · refine ⟨_, false, rfl, hx, ?_⟩
    walk_at "rd"
    refine rd_F rfl ?_
    exact q
theorem u_between (h1 : lo ≤ i) (h2 : i ≤ hi) (q : Q (.bl true) H) : sp_H K c [.int i, .int lo, .int hi] H Q E :=
  ⟨_, lo, hi, true, rfl, .inl ⟨i, rfl, by rw [decide_eq_true h1, decide_eq_true h2]; rfl⟩, q⟩
theorem u_integer (q : Q (.bl true) H) : sp_G K c [.int i] H Q E := ⟨_, true, rfl, .inl ⟨i, rfl, rfl⟩, q⟩
def sp_Ae (K : PySem.W.Frag) (c : Pc) : Sp := fun vs H Q _ => ∃ a i, vs = [.str a, .int i] ∧ Q .non H
def t_Ae (K : PySem.W.Frag) (c : Pc) : TS :=
  (tIfS (tNot (L2.tB (tCall (sp_G K c) [] E0 (tCons (tVar 1) tNil)))) tNever tNext)
theorem b_Ae (h : sp_Ae K c vs H Q E) : t_Ae K c (en0 Q) (st0 2 vs) H := by
  obtain ⟨a, i, rfl, q⟩ := h
  unfold t_Ae
  walk_at "rd"
  refine u_integer ?_
  walk_at "rd"
  refine rd_F rfl ?_
  walk_at "rd"
  exact q
end
def words : List Str := ["short", "sum", "product", "quotient", "corrected", "restored", "shifted", "combined", "complemented", "looked"]
/-- a machine's attributes: bits, cutoff, the places of its counts and of its walk -/
def mF (b : Nat) (cut : Int) (d e : Addr) : List (Str × V) := putF "entered" (.ref e) (putF "counts" (.ref d) (putF "base" (.int (2 ^ b)) (putF "limit_of_rows" (.int cut) (putF "width" (.int (b : Int)) []))))
section
variable {b : Nat} {cut : Int} {d e : Addr}
theorem mF_entered : (mF b cut d e).lookup ("entered" : Str) = some (.ref e) := by
  unfold mF
  rw [lookup_putF, if_pos rfl]
theorem mF_counts : (mF b cut d e).lookup ("counts" : Str) = some (.ref d) := by
  unfold mF
  rw [lookup_putF, if_neg (by decide +kernel), lookup_putF, if_pos rfl]
theorem mF_base : (mF b cut d e).lookup ("base" : Str) = some (.int (2 ^ b)) := by
  unfold mF
  rw [lookup_putF, if_neg (by decide +kernel), lookup_putF, if_neg (by decide +kernel), lookup_putF, if_pos rfl]
theorem mF_width : (mF b cut d e).lookup ("width" : Str) = some (.int (b : Int)) := by
  unfold mF
  rw [lookup_putF, if_neg (by decide +kernel), lookup_putF, if_neg (by decide +kernel), lookup_putF, if_neg (by decide +kernel), lookup_putF, if_neg (by decide +kernel), lookup_putF, if_pos rfl]
theorem mF_none {m : Str} (h1 : ¬ m = "entered") (h2 : ¬ m = "counts") (h3 : ¬ m = "base") (h4 : ¬ m = "limit_of_rows") (h5 : ¬ m = "width") : (mF b cut d e).lookup m = none := by
  unfold mF
  rw [lookup_putF, if_neg h1, lookup_putF, if_neg h2, lookup_putF, if_neg h3, lookup_putF, if_neg h4, lookup_putF, if_neg h5]
  rfl
end
/-- the counts -/
def cK (ns : List Int) : List (Key × V) := List.zipWith (fun (w : Str) n => ((Sum.inr w : Key), V.int n)) words ns
def zeros : List Int := [0, 0, 0, 0, 0, 0, 0, 0, 0, 0]
/-- what the top tells of machines -/
structure PM (K : PySem.W.Frag) (c : Pc) : Prop where
  isc : C8.InsC K c.CMachine
  nE : NoAttr K c.CMachine "entered"
  nC : NoAttr K c.CMachine "counts"
  nB : NoAttr K c.CMachine "base"
  nL : NoAttr K c.CMachine "limit_of_rows"
  nW : NoAttr K c.CMachine "width"
  words : ∀ H : Hp, SqT K H c.aWORDS (words.map V.str)
section
variable {K : PySem.W.Frag} {c : Pc} {vs : List V} {H H0 : Hp} {Q : VK} {E : XK} {M : List Addr} {L : List (Addr × HO)} {b : Nat} {cut : Int} {a m d e dx : Addr}
theorem rd_Mwidth (P : PM K c) (h : H a = some (.ins c.CMachine dx (mF b cut d e))) (q : Q (.int (b : Int)) H) : kFld K "width" Q (.ref a) H := rd_kFld P.isc.cl P.nW h mF_width q
theorem rd_Mbase (P : PM K c) (h : H a = some (.ins c.CMachine dx (mF b cut d e))) (q : Q (.int (2 ^ b)) H) : kFld K "base" Q (.ref a) H := rd_kFld P.isc.cl P.nB h mF_base q
theorem rd_Mcounts (P : PM K c) (h : H a = some (.ins c.CMachine dx (mF b cut d e))) (q : Q (.ref d) H) : kFld K "counts" Q (.ref a) H := rd_kFld P.isc.cl P.nC h mF_counts q
theorem rd_Mentered (P : PM K c) (h : H a = some (.ins c.CMachine dx (mF b cut d e))) (q : Q (.ref e) H) : kFld K "entered" Q (.ref a) H := rd_kFld P.isc.cl P.nE h mF_entered q
theorem isi_own {C x : Addr} {fs : List (Str × V)} (I : C8.InsC K C) (h : H x = some (.ins C dx fs)) (q : Q (.bl true) H) : rIsi K [.ref x, .ref C] H Q :=
  ⟨.ref x, .ref C, _, _, true, rfl, .own C, .base (.ins h I.cl I.ha I.hn I.htk I.hm), I.me, q⟩
def sp_L (K : PySem.W.Frag) (c : Pc) : Sp := fun vs H Q _ => ∃ a dx fs, vs = [.ref a] ∧ H a = some (.ins c.CMachine dx fs) ∧ Q .non H
def t_L (K : PySem.W.Frag) (c : Pc) : TS :=
  (tIfS (tNot (L2.tB (tCB (rIsi K) (tCons (tVar 0) (tCons (tC (.ref c.CMachine)) tNil))))) tNever tNext)
theorem b_L (P : PM K c) (h : sp_L K c vs H Q E) : t_L K c (en0 Q) (st0 1 vs) H := by
  obtain ⟨a, dx, fs, rfl, ha, q⟩ := h
  unfold t_L
  walk_at "rd"
  refine isi_own P.isc ha ?_
  walk_at "rd"
  refine rd_F rfl ?_
  walk_at "rd"
  exact q
def tl2 (ps : List Addr) (ts : List (List V)) : List (Addr × HO) := List.zipWith (fun p t => (p, HO.tup t)) ps ts
theorem tl2_snoc {ps : List Addr} {ts : List (List V)} {p : Addr} {t : List V} (h : ps.length = ts.length) : tl2 (ps ++ [p]) (ts ++ [t]) = tl2 ps ts ++ [(p, .tup t)] := by
  unfold tl2
  rw [List.zipWith_append h]
  rfl
def rowsOf (ns : List Int) : List (List V) := List.zipWith (fun (w : Str) n => [V.str w, V.int n]) words ns
theorem take_snoc {α : Type} {l : List α} {i : Nat} {x : α} (h : l[i]? = some x) : l.take (i + 1) = l.take i ++ [x] := by
  rw [List.take_succ, h]
  rfl
theorem rows_get {ns : List Int} {i : Nat} {w : Str} {n : Int} (h1 : words[i]? = some w) (h2 : ns[i]? = some n) : (rowsOf ns)[i]? = some [.str w, .int n] := by
  unfold rowsOf
  rw [List.getElem?_zipWith, h1, h2]
theorem str_of_words {i : Nat} {x : V} (h : (words.map V.str)[i]? = some x) : ∃ w, words[i]? = some w ∧ x = .str w ∧ i < 10 := by
  rw [List.getElem?_map] at h
  cases e : words[i]? with
  | none => rw [e] at h; cases h
  | some w =>
    rw [e] at h
    refine ⟨w, rfl, (Option.some.inj h).symm, ?_⟩
    have := (List.getElem?_eq_some_iff.mp e).1
    exact this
theorem cK_val {ns : List Int} {i : Nat} {w : Str} {n : Int} (h1 : words[i]? = some w) (h2 : ns[i]? = some n) : valV (cK ns) (Sum.inr w : Key) = some (.int n) := by
  have hi : i < 10 := (List.getElem?_eq_some_iff.mp h1).1
  have hn : i < ns.length := (List.getElem?_eq_some_iff.mp h2).1
  have key : ∀ (ws : List Str) (ms : List Int) (j : Nat), ws.Nodup → ws[j]? = some w → ms[j]? = some n → valV (List.zipWith (fun (w : Str) n => ((Sum.inr w : Key), V.int n)) ws ms) (Sum.inr w : Key) = some (.int n) := by
    intro ws
    induction ws with
    | nil => intro ms j _ h _; simp at h
    | cons u ws ih =>
      intro ms j nd h h'
      cases ms with
      | nil => simp at h'
      | cons z ms =>
        cases j with
        | zero =>
          have e1 : u = w := by simpa using h
          have e2 : z = n := by simpa using h'
          subst e1 e2
          exact valV_pos rfl
        | succ j =>
          have hw : w ∈ ws := List.mem_of_getElem? (by simpa using h)
          have ne : ¬ (Sum.inr u : Key) = Sum.inr w := fun z => by
            have z' := Sum.inr.inj z
            subst z'
            exact (List.nodup_cons.mp nd).1 hw
          rw [List.zipWith_cons_cons, valV_neg (p := ((Sum.inr u : Key), V.int z)) ne]
          exact ih ms j (List.nodup_cons.mp nd).2 (by simpa using h) (by simpa using h')
  exact key words ns i (by decide +kernel) h1 h2
def sp_J (K : PySem.W.Frag) (c : Pc) : Sp := fun vs H Q _ => ∃ a dx b cut d e ns, vs = [.ref a] ∧ H a = some (.ins c.CMachine dx (mF b cut d e)) ∧ H d = some (.dK (cK ns)) ∧ ns.length = 10 ∧
  ∀ p ps H', ps.length = 10 → Chg H H' [] ((p, .lst (ps.map V.ref)) :: tl2 ps (rowsOf ns)) → Q (.ref p) H'
def t_J (K : PySem.W.Frag) (c : Pc) : TS :=
  (tRet (tLc (iTup K (tC (.ref c.aWORDS))) (gName 1) tYes (tTup (tCons (tVar 1) (tCons (tDGet (tFld K (tVar 0) "counts") (tVar 1)) tNil))) [1]))
theorem b_J (P : PM K c) (h : sp_J K c vs H Q E) : t_J K c (en0 Q) (st0 2 vs) H := by
  obtain ⟨a, dx, b, cut, d, e, ns, rfl, ha, hd, hn, k⟩ := h
  have nad : a ≠ d := ne_of ha hd (by intro z; cases z)
  have W : Wd H H [] [(a, .ins c.CMachine dx (mF b cut d e)), (d, .dK (cK ns))] := (Wd.one hd).old ha (by simpa using nad)
  have hr : (rowsOf ns).length = 10 := by unfold rowsOf; rw [List.length_zipWith, hn]; rfl
  unfold t_J
  walk_at "rd"
  refine rd_kIT (P.words H) ?_
  refine rd_lcT (xs := words.map V.str) fun D hD => ⟨fun i H' => ∃ ps : List Addr, ps.length = i ∧ (∀ p ∈ ps, H p = none) ∧ Wd H H' [] ([(D, .lst (ps.map V.ref)), (a, .ins c.CMachine dx (mF b cut d e)), (d, .dK (cK ns))] ++ tl2 ps ((rowsOf ns).take i)), ?_, ?_, ?_, ?_⟩
  · exact ⟨[], rfl, (fun _ z => nomatch z), W.new hD⟩
  · intro i H' _ _
    exact P.words H'
  · rintro i x H1 hx ⟨ps, hps, hfr, W1⟩
    obtain ⟨w, hw, rfl, hi⟩ := str_of_words hx
    have hD0 : H D = none := hD
    obtain ⟨n, hni⟩ : ∃ n, ns[i]? = some n := ⟨ns[i]'(by omega), List.getElem?_eq_getElem _⟩
    have hrow := rows_get hw hni
    walk_at "rd"
    refine ⟨rfl, ?_⟩
    walk_at "rd"
    refine rd_T rfl ?_
    walk_at "rd"
    refine rd_Mcounts P (W1.get (by walk_at "mem")) ?_
    walk_at "rd"
    refine rd_kDGs (W1.get (by walk_at "mem")) (cK_val hw hni) ?_
    walk_at "rd"
    refine rd_kTup W1 (by show 2 ≤ sizeLine; decide) fun p H2 hp W2 => ?_
    refine rd_kAcc W2 (by walk_at "rp") (.inl hD0) (by rw [List.length_map, hps]; exact small1000 (by omega)) fun H3 W3 => ?_
    refine ⟨ps ++ [p], by rw [List.length_append, hps]; rfl, fun q hq => ?_, ?_⟩
    · rcases List.mem_append.mp hq with z | z
      · exact hfr q z
      · rw [List.mem_singleton.mp z]; exact hp
    · rw [take_snoc hrow, tl2_snoc (by rw [hps, List.length_take, hr]; omega), List.map_append]
      exact W3.move (A := [_, _, _])
  · rintro H1 ⟨ps, hps, hfr, W1⟩
    have hl : ps.length = 10 := hps
    have e10 : (rowsOf ns).take (words.map V.str).length = rowsOf ns := List.take_of_length_le (by rw [hr]; decide)
    rw [e10] at W1
    refine k D ps H1 hl ?_
    have nd := W1.nd
    refine W1.done (fun q z => nomatch z) (fun q z => nomatch z) (fun q hq => ?_) ?_
    · rcases List.mem_cons.mp hq with z | z
      · rw [z]; exact ⟨List.mem_cons_self, hD⟩
      · refine ⟨List.mem_append_right _ z, ?_⟩
        unfold tl2 at z
        obtain ⟨i, hi⟩ := List.mem_iff_getElem?.mp z
        rw [List.getElem?_zipWith] at hi
        cases e1 : ps[i]? with
        | none => rw [e1] at hi; cases hi
        | some p =>
          cases e2 : (rowsOf ns)[i]? with
          | none => rw [e1, e2] at hi; cases hi
          | some t =>
            rw [e1, e2] at hi
            have := Option.some.inj hi
            rw [← this]
            exact hfr p (List.mem_of_getElem? e1)
    · refine nd.sublist (List.Sublist.map _ ?_)
      exact (List.Sublist.cons _ (List.Sublist.cons _ (List.Sublist.refl _))).cons₂ _
theorem tl2_mem {ps : List Addr} {ts : List (List V)} {i : Nat} {p : Addr} {t : List V} (h1 : ps[i]? = some p) (h2 : ts[i]? = some t) : (p, HO.tup t) ∈ tl2 ps ts := by
  unfold tl2
  refine List.mem_iff_getElem?.mpr ⟨i, ?_⟩
  rw [List.getElem?_zipWith, h1, h2]
theorem paired_of {α β : Type} {R : α → β → Prop} : ∀ {l : List α} {k : List β}, l.length = k.length → (∀ (i : Nat) x y, l[i]? = some x → k[i]? = some y → R x y) → Paired R l k
  | [], [], _, _ => .nil
  | [], _ :: _, h, _ => by simp at h
  | _ :: _, [], h, _ => by simp at h
  | x :: l, y :: k, h, f => .cons (f 0 x y rfl rfl) (paired_of (by simpa using h) fun i a b h1 h2 => f (i + 1) a b (by simpa using h1) (by simpa using h2))
theorem rd_dict {ps : List Addr} {kvs kvs' : List (Key × V)} (W : Wd H0 H M L) (h : H a = some (.lst (ps.map V.ref))) (hp : Paired (fun p kv => SqT K H p [kV kv.1, kv.2]) ps kvs) (he : mergeK [] kvs = kvs')
    (q : ∀ p H', H0 p = none → Wd H0 H' M ((p, .dK kvs') :: L) → Q (.ref p) H') : rDict K [.ref a] H Q :=
  ⟨a, ps, kvs, rfl, SqL.of h, hp, fun p hp => by subst he; exact q p _ (W.fresh hp) (W.new hp)⟩
theorem cK_get {ns : List Int} {i : Nat} {w : Str} {n : Int} (h1 : words[i]? = some w) (h2 : ns[i]? = some n) : (cK ns)[i]? = some (Sum.inr w, .int n) := by
  unfold cK
  rw [List.getElem?_zipWith, h1, h2]
theorem rows_cK {ns : List Int} (hn : ns.length = 10) {i : Nat} {t : List V} {kv : Key × V} (h1 : (rowsOf ns)[i]? = some t) (h2 : (cK ns)[i]? = some kv) : t = [kV kv.1, kv.2] := by
  have hi : i < 10 := by
    have := (List.getElem?_eq_some_iff.mp h1).1
    unfold rowsOf at this
    rw [List.length_zipWith, hn] at this
    exact Nat.lt_of_lt_of_le this (by decide)
  have hw : words[i]? = some (words[i]'hi) := List.getElem?_eq_getElem _
  have hz : ns[i]? = some (ns[i]'(by omega)) := List.getElem?_eq_getElem _
  rw [rows_get hw hz] at h1
  rw [cK_get hw hz] at h2
  cases h1
  cases h2
  rfl
theorem len_putF (f : Str) (v : V) : ∀ fs : List (Str × V), (putF f v fs).length ≤ fs.length + 1
  | [] => Nat.le_refl _
  | (g, x) :: r => by
    show (if g = f then (g, v) :: r else (g, x) :: putF f v r).length ≤ _
    by_cases h : g = f
    · rw [if_pos h]; exact Nat.le_succ _
    · rw [if_neg h]; exact Nat.succ_le_succ (len_putF f v r)
def sp_A (K : PySem.W.Frag) (c : Pc) : Sp := fun vs H Q _ => ∃ (x dx : Addr) (b : Nat) (cut : Int), vs = [.ref x, .int (b : Int), .int cut] ∧ 8 ≤ b ∧ b ≤ 30 ∧ 2 ≤ cut ∧ cut ≤ 1000 ∧ H x = some (.ins c.CMachine dx []) ∧
  ∀ d e H', Chg H H' [(x, .ins c.CMachine dx (mF b cut d e))] [(d, .dK (cK zeros)), (e, .lst [])] → Q .non H'
def t_A (K : PySem.W.Frag) (c : Pc) : TS :=
  (tSeq (tIfS (tNot (L2.tB (tCall (sp_H K c) [] E0 (tCons (tVar 1) (tCons (tC (.int 8)) (tCons (tC (.int 30)) tNil)))))) tNever tNext)
  (tSeq (tIfS (tNot (L2.tB (tCall (sp_H K c) [] E0 (tCons (tVar 2) (tCons (tC (.int 2)) (tCons (tC (.int 1000)) tNil)))))) tNever tNext)
  (tSeq (sFld K (tVar 0) (tVar 1) "width")
  (tSeq (sFld K (tVar 0) (tVar 2) "limit_of_rows")
  (tSeq (sFld K (tVar 0) (tOp rShl (tC (.int 1)) (tVar 1)) "base")
  (tSeq (sFld K (tVar 0) (tCB (rDict K) (tCons (tLc (iTup K (tC (.ref c.aWORDS))) (gName 3) tYes (tTup (tCons (tVar 3) (tCons (tC (.int 0)) tNil))) [3]) tNil)) "counts")
  (sFld K (tVar 0) (tLst tNil) "entered")))))))
theorem zero_get {i : Nat} (h : i < 10) : zeros[i]? = some 0 := by
  have : ∀ i : Fin 10, zeros[i.val]? = some 0 := by decide
  exact this ⟨i, h⟩
theorem shl_one {b : Nat} (h : b ≤ 1000) : CShl 1 (b : Int) := shl_ok (n := 1) (by decide) (by omega)
theorem b_A (P : PM K c) (h : sp_A K c vs H Q E) : t_A K c (en0 Q) (st0 4 vs) H := by
  obtain ⟨x, dx, b, cut, rfl, hb1, hb2, hc1, hc2, hx, k⟩ := h
  have W : Wd H H [x] [(x, .ins c.CMachine dx [])] := (Wd.one hx).may List.mem_cons_self
  unfold t_A
  walk_at "rd"
  refine u_between (by omega) (by omega) ?_
  walk_at "rd"
  refine rd_F rfl ?_
  walk_at "rd"
  refine u_between hc1 hc2 ?_
  walk_at "rd"
  refine rd_F rfl ?_
  walk_at "rd"
  refine rd_kSFld W P.isc.cl P.nW (by walk_at "rp") (by walk_at "may") (by decide) fun H1 W1 => ?_
  walk_at "rd"
  refine rd_kSFld W1 P.isc.cl P.nL (by walk_at "rp") (by walk_at "may") (Nat.lt_of_le_of_lt (len_putF _ _ _) (by decide)) fun H2 W2 => ?_
  walk_at "rd"
  refine rd_shl (shl_one (by omega)) ?_
  rw [Int.toNat_natCast, Int.one_mul]
  walk_at "rd"
  refine rd_kSFld W2 P.isc.cl P.nB (by walk_at "rp") (by walk_at "may") (Nat.lt_of_le_of_lt (len_putF _ _ _) (Nat.lt_of_le_of_lt (Nat.succ_le_succ (len_putF _ _ _)) (by decide))) fun H3 W3 => ?_
  walk_at "rd"
  refine rd_kIT (P.words H3) ?_
  refine rd_lcT (xs := words.map V.str) fun D hD => ⟨fun i H' => ∃ ps : List Addr, ps.length = i ∧ Wd H H' [x] ([(D, .lst (ps.map V.ref)), (x, .ins c.CMachine dx (putF "base" (.int (2 ^ b)) (putF "limit_of_rows" (.int cut) (putF "width" (.int (b : Int)) []))))] ++ tl2 ps ((rowsOf zeros).take i)), ?_, ?_, ?_, ?_⟩
  · exact ⟨[], rfl, W3.new hD⟩
  · intro i H' _ _
    exact P.words H'
  · rintro i y H4 hy ⟨ps, hps, W4⟩
    obtain ⟨w, hw, rfl, hi⟩ := str_of_words hy
    have hrow := rows_get hw (zero_get hi)
    have hD0 : H D = none := W3.fresh hD
    walk_at "rd"
    refine ⟨rfl, ?_⟩
    walk_at "rd"
    refine rd_T rfl ?_
    walk_at "rd"
    refine rd_kTup W4 (by show 2 ≤ sizeLine; decide) fun p H5 hp W5 => ?_
    refine rd_kAcc W5 (by walk_at "rp") (.inl hD0) (by rw [List.length_map, hps]; exact small1000 (by omega)) fun H6 W6 => ?_
    refine ⟨ps ++ [p], by rw [List.length_append, hps]; rfl, ?_⟩
    rw [take_snoc hrow, tl2_snoc (by rw [hps, List.length_take]; show i = min i 10; omega), List.map_append]
    exact W6.move (A := [_, _])
  · rintro H4 ⟨ps, hps, W4⟩
    have hl : ps.length = 10 := hps
    have e10 : (rowsOf zeros).take (words.map V.str).length = rowsOf zeros := List.take_of_length_le (by decide)
    rw [e10] at W4
    have hD0 : H D = none := W3.fresh hD
    walk_at "rd"
    refine rd_dict (kvs := cK zeros) (kvs' := cK zeros) W4 (W4.get List.mem_cons_self) (paired_of (by rw [hl]; decide) fun i p kv h1 h2 => ?_) (by decide +kernel) fun d H5 hd W5 => ?_
    · have hi : i < 10 := by have := (List.getElem?_eq_some_iff.mp h1).1; omega
      have hr : (rowsOf zeros)[i]? = some ((rowsOf zeros)[i]'hi) := List.getElem?_eq_getElem _
      have e := rows_cK (by decide) hr h2
      have := W4.get (List.mem_append_right _ (tl2_mem h1 hr))
      rw [e] at this
      exact SqT.of this
    · walk_at "rd"
      refine rd_kSFld W5 P.isc.cl P.nC (by walk_at "rp") (by walk_at "may") (Nat.lt_of_le_of_lt (len_putF _ _ _) (Nat.lt_of_le_of_lt (Nat.succ_le_succ (Nat.le_trans (len_putF _ _ _) (Nat.succ_le_succ (len_putF _ _ _)))) (by decide))) fun H6 W6 => ?_
      walk_at "rd"
      refine rd_kLst W6 (by decide) fun e H7 he W7 => ?_
      walk_at "rd"
      refine rd_kSFld W7 P.isc.cl P.nE (by walk_at "rp") (by walk_at "may") (Nat.lt_of_le_of_lt (len_putF _ _ _) (Nat.lt_of_le_of_lt (Nat.succ_le_succ (Nat.le_trans (len_putF _ _ _) (Nat.succ_le_succ (Nat.le_trans (len_putF _ _ _) (Nat.succ_le_succ (len_putF _ _ _)))))) (by decide))) fun H8 W8 => ?_
      have nd := W8.nd
      refine k d e H8 (W8.done (fun q hq => ?_) (fun q hq => hq) (fun q hq => ?_) ?_)
      · rw [List.mem_singleton.mp hq]
        walk_at "mem"
      · rcases List.mem_cons.mp hq with z | z
        · rw [z]; exact ⟨by walk_at "mem", hd⟩
        · rw [List.mem_singleton.mp z]; exact ⟨by walk_at "mem", he⟩
      · have ne : e ≠ d := fun z => by
          subst z
          have h1 := (List.nodup_cons.mp nd).1
          exact h1 List.mem_cons_self
        exact List.nodup_cons.mpr ⟨by simpa using Ne.symm ne, by simp⟩
end
/-- a row of digits as values -/
def iN (ds : List Nat) : List V := ds.map fun (d : Nat) => V.int (d : Int)
theorem iN_length (ds : List Nat) : (iN ds).length = ds.length := List.length_map _
theorem iN_get {ds : List Nat} {i d : Nat} (h : ds[i]? = some d) : (iN ds)[i]? = some (.int (d : Int)) := by unfold iN; rw [List.getElem?_map, h]; rfl
theorem iN_of {ds : List Nat} {i : Nat} {x : V} (h : (iN ds)[i]? = some x) : ∃ d, ds[i]? = some d ∧ x = .int (d : Int) := by
  unfold iN at h
  rw [List.getElem?_map] at h
  cases e : ds[i]? with
  | none => rw [e] at h; cases h
  | some d => rw [e] at h; exact ⟨d, rfl, (Option.some.inj h).symm⟩
theorem iN_take (ds : List Nat) (n : Nat) : (iN ds).take n = iN (ds.take n) := by unfold iN; rw [List.map_take]
theorem iN_rev (ds : List Nat) : (iN ds).reverse = iN ds.reverse := by unfold iN; rw [List.map_reverse]
theorem iN_app (ds es : List Nat) : iN ds ++ iN es = iN (ds ++ es) := by unfold iN; rw [List.map_append]
/-- a Big's attributes -/
def bF (b : Nat) (s : Int) (r : Addr) : List (Str × V) := putF "row" (.ref r) (putF "side" (.int s) (putF "width" (.int (b : Int)) []))
section
variable {b : Nat} {s : Int} {r : Addr}
theorem bF_row : (bF b s r).lookup ("row" : Str) = some (.ref r) := by
  unfold bF
  rw [lookup_putF, if_pos rfl]
theorem bF_side : (bF b s r).lookup ("side" : Str) = some (.int s) := by
  unfold bF
  rw [lookup_putF, if_neg (by decide +kernel), lookup_putF, if_pos rfl]
theorem bF_width : (bF b s r).lookup ("width" : Str) = some (.int (b : Int)) := by
  unfold bF
  rw [lookup_putF, if_neg (by decide +kernel), lookup_putF, if_neg (by decide +kernel), lookup_putF, if_pos rfl]
theorem bF_none {m : Str} (h1 : ¬ m = "row") (h2 : ¬ m = "side") (h3 : ¬ m = "width") : (bF b s r).lookup m = none := by
  unfold bF
  rw [lookup_putF, if_neg h1, lookup_putF, if_neg h2, lookup_putF, if_neg h3]
  rfl
end
/-- what the top tells of Bigs -/
structure PB (K : PySem.W.Frag) (c : Pc) : Prop where
  isc : C8.InsC K c.CBig
  nR : NoAttr K c.CBig "row"
  nS : NoAttr K c.CBig "side"
  nW : NoAttr K c.CBig "width"
section
variable {K : PySem.W.Frag} {c : Pc} {vs : List V} {H H0 : Hp} {Q : VK} {E : XK} {M : List Addr} {L : List (Addr × HO)} {b : Nat} {s cut : Int} {a m d e dx r x l : Addr} {ds : List Nat}
theorem rd_Bwidth (P : PB K c) (h : H a = some (.ins c.CBig dx (bF b s r))) (q : Q (.int (b : Int)) H) : kFld K "width" Q (.ref a) H := rd_kFld P.isc.cl P.nW h bF_width q
theorem rd_Bside (P : PB K c) (h : H a = some (.ins c.CBig dx (bF b s r))) (q : Q (.int s) H) : kFld K "side" Q (.ref a) H := rd_kFld P.isc.cl P.nS h bF_side q
theorem rd_Brow (P : PB K c) (h : H a = some (.ins c.CBig dx (bF b s r))) (q : Q (.ref r) H) : kFld K "row" Q (.ref a) H := rd_kFld P.isc.cl P.nR h bF_row q
def sp_X (K : PySem.W.Frag) (c : Pc) : Sp := fun vs H Q _ => ∃ (x dx : Addr) (b : Nat) (s : Int) (r : Addr), vs = [.ref x, .int (b : Int), .int s, .ref r] ∧ H x = some (.ins c.CBig dx []) ∧
  ∀ H', Chg H H' [(x, .ins c.CBig dx (bF b s r))] [] → Q .non H'
def t_X (K : PySem.W.Frag) (c : Pc) : TS :=
  (tSeq (sFld K (tVar 0) (tVar 1) "width")
  (tSeq (sFld K (tVar 0) (tVar 2) "side")
  (sFld K (tVar 0) (tVar 3) "row")))
theorem b_X (P : PB K c) (h : sp_X K c vs H Q E) : t_X K c (en0 Q) (st0 4 vs) H := by
  obtain ⟨x, dx, b, s, r, rfl, hx, k⟩ := h
  have W : Wd H H [x] [(x, .ins c.CBig dx [])] := (Wd.one hx).may List.mem_cons_self
  unfold t_X
  walk_at "rd"
  refine rd_kSFld W P.isc.cl P.nW (by walk_at "rp") (by walk_at "may") (by decide) fun H1 W1 => ?_
  walk_at "rd"
  refine rd_kSFld W1 P.isc.cl P.nS (by walk_at "rp") (by walk_at "may") (Nat.lt_of_le_of_lt (len_putF _ _ _) (by decide)) fun H2 W2 => ?_
  walk_at "rd"
  refine rd_kSFld W2 P.isc.cl P.nR (by walk_at "rp") (by walk_at "may") (Nat.lt_of_le_of_lt (len_putF _ _ _) (Nat.lt_of_le_of_lt (Nat.succ_le_succ (len_putF _ _ _)) (by decide))) fun H3 W3 => ?_
  exact k H3 (W3.done (fun q hq => hq) (fun q hq => hq) (fun q hq => nomatch hq) List.nodup_nil)
/-- Big(b, s, r) -/
theorem rd_mkBig (W : Wd H0 H M L) (q : ∀ x dx H', H0 x = none → Wd H0 H' M ((x, .ins c.CBig dx (bF b s r)) :: L) → Q (.ref x) H') : kMake c.CBig (sp_X K c) [] E Q [.int (b : Int), .int s, .ref r] H := by
  intro x dx hx hdx ne
  have W1 := W.new (o := .own x) hdx
  have hx1 : upd H dx (.own x) x = none := by rw [upd_ne (Ne.symm ne)]; exact hx
  have W2 := W1.new (o := .ins c.CBig dx []) hx1
  refine ⟨x, dx, b, s, r, rfl, upd_same, fun H' ch => ⟨rfl, ?_⟩⟩
  have W3 := W2.chg1 Rp.here ch (.inl (W.fresh hx))
  have hno : dx ∉ M := fun z => W.out hdx (W.sub dx z)
  refine q x dx H' (W.fresh hx) ?_
  have W4 : Wd H0 H' M ((dx, .own x) :: (x, .ins c.CBig dx (bF b s r)) :: L) := W3.perm (List.Perm.swap _ _ _)
  exact W4.drop1 hno
def sp_E (K : PySem.W.Frag) (c : Pc) : Sp := fun vs H Q _ => ∃ (m dx : Addr) (b : Nat) (cut : Int) (d e : Addr) (s : Int) (l : Addr) (ds : List Nat), vs = [.ref m, .int s, .ref l] ∧ H m = some (.ins c.CMachine dx (mF b cut d e)) ∧ H l = some (.lst (iN ds)) ∧ ds.length < 2 ^ 23 ∧
  ∀ x dx r H', Chg H H' [] [(x, .ins c.CBig dx (bF b (if strip ds = [] then 0 else s) r)), (r, .tup (iN (strip ds)))] → Q (.ref x) H'
def t_E (K : PySem.W.Frag) (c : Pc) : TS :=
  (tSeq (tAsg (tCB (rLen K) (tCons (tVar 2) tNil)) (gName 3))
  (tSeq (tWhile (tAnd (tTest (tOp rGt (tVar 3) (tC (.int 0)))) (tTest (tOp rEq (tOp (rIxL K) (tVar 2) (tOp rSub (tVar 3) (tC (.int 1)))) (tC (.int 0))))) (tAsg (tOp rSub (tVar 3) (tC (.int 1))) (gName 3)))
  (tRet (tMake c.CBig (sp_X K c) [] E0 (tCons (tFld K (tVar 0) "width") (tCons (tIf (tTest (tOp rGt (tVar 3) (tC (.int 0)))) (tVar 1) (tC (.int 0))) (tCons (tCB (rTupL K) (tCons (tSl (rSlL K) (tVar 2) tNoPart (tPart (tVar 3))) tNil)) tNil)))))))
theorem strip_take {ds : List Nat} {n : Nat} (hz : ∀ d ∈ ds.drop n, d = 0) (hn : n = 0 ∨ ∃ d, ds[n - 1]? = some d ∧ d ≠ 0) : strip ds = ds.take n := by
  have e : ds = ds.take n ++ ds.drop n := (List.take_append_drop n ds).symm
  rw [e, strip_app_zeros _ hz, ← e]
  rcases hn with h | ⟨d, h1, h2⟩
  · rw [h]; rfl
  · have hl : n - 1 < ds.length := (List.getElem?_eq_some_iff.mp h1).1
    cases n with
    | zero => rfl
    | succ n =>
      have h1' : ds[n]? = some d := by simpa using h1
      rw [take_snoc h1', strip_app_ne _ h2]
theorem b_E (P : PM K c) (PB : PB K c) (h : sp_E K c vs H Q E) : t_E K c (en0 Q) (st0 4 vs) H := by
  obtain ⟨m, dx, b, cut, d, e, s, l, ds, rfl, hm, hl, hlen, k⟩ := h
  have nml : m ≠ l := ne_of hm hl (by intro z; cases z)
  have W : Wd H H [] [(m, .ins c.CMachine dx (mF b cut d e)), (l, .lst (iN ds))] := (Wd.one hl).old hm (by simpa using nml)
  unfold t_E
  walk_at "rd"
  refine rd_while (fun n σ' H' => σ' = [some (.ref m), some (.int s), some (.ref l), some (.int (n : Int))] ∧ H' = H ∧ n ≤ ds.length ∧ ∀ d ∈ ds.drop n, d = 0) ds.length ⟨by rw [iN_length]; rfl, rfl, Nat.le_refl _, by rw [List.drop_length]; intro d z; cases z⟩ ?_
  rintro n σ' H' ⟨rfl, rfl, hn, hz⟩
  have fin : (n = 0 ∨ ∃ d, ds[n - 1]? = some d ∧ d ≠ 0) → tRet (tMake c.CBig (sp_X K c) [] E0 (tCons (tFld K (tVar 0) "width") (tCons (tIf (tTest (tOp rGt (tVar 3) (tC (.int 0)))) (tVar 1) (tC (.int 0))) (tCons (tCB (rTupL K) (tCons (tSl (rSlL K) (tVar 2) tNoPart (tPart (tVar 3))) tNil)) tNil)))) (en0 Q) [some (.ref m), some (.int s), some (.ref l), some (.int (n : Int))] H' := by
    intro hend
    have es := strip_take hz hend
    have hsid : (if strip ds = [] then (0 : Int) else s) = if 0 < n then s else 0 := by
      rw [es]
      rcases Nat.eq_zero_or_pos n with z | z
      · rw [z]; rfl
      · rw [if_neg (fun q => ?_), if_pos z]
        have := congrArg List.length q
        rw [List.length_take] at this
        simp only [List.length_nil] at this
        omega
    walk_at "rd"
    refine rd_Mwidth P (by walk_at "own") ?_
    walk_at "rd"
    have cont : ∀ (s' : Int), s' = (if strip ds = [] then (0 : Int) else s) → tCons (tCB (rTupL K) (tCons (tSl (rSlL K) (tVar 2) tNoPart (tPart (tVar 3))) tNil)) tNil [some (.ref m), some (.int s), some (.ref l), some (.int (n : Int))] H' (fun xs H2 => kMake c.CBig (sp_X K c) [] E0 Q (.int (b : Int) :: .int s' :: xs) H2) := by
      intro s' hs'
      subst hs'
      walk_at "rd"
      refine rd_slL (ys := iN (strip ds)) W (by walk_at "sq") ?_ fun p H1 hp W1 => ?_
      · rw [es, ← iN_take]
        unfold cutV
        rw [HT.sIx_none, HT.sIx_nat, List.drop_zero, Nat.sub_zero, iN_length, Nat.min_eq_left hn]
      walk_at "rd"
      refine rd_tupL W1 (by walk_at "sq") fun r H2 hr W2 => ?_
      walk_at "rd"
      refine rd_mkBig W2 fun x dx' H3 hx W3 => ?_
      refine k x dx' r H3 (W3.done (fun q z => nomatch z) (fun q z => nomatch z) (fun q hq => ?_) ?_)
      · rcases List.mem_cons.mp hq with z | z
        · rw [z]; exact ⟨by walk_at "mem", hx⟩
        · rw [List.mem_singleton.mp z]; exact ⟨by walk_at "mem", hr⟩
      · have nd := W3.nd
        exact nd.sublist (List.Sublist.map _ (List.Sublist.cons₂ _ (List.Sublist.cons₂ _ (List.nil_sublist _))))
    refine rd_2d (fun h1 => ?_) fun h1 => ?_
    · refine rd_var rfl ?_
      exact cont s (by rw [hsid, if_pos (by omega)])
    · refine rd_c ?_
      exact cont 0 (by rw [hsid, if_neg (by omega)])
  walk_at "rd"
  refine rd_2d (fun h1 => ?_) fun h1 => ?_
  · obtain ⟨d1, hd1⟩ : ∃ d1, ds[n - 1]? = some d1 := ⟨ds[n - 1]'(by omega), List.getElem?_eq_getElem _⟩
    walk_at "rd"
    refine rd_ixL (by walk_at "sq") (at_of (j := n - 1) (by omega) (iN_get hd1)) ?_
    walk_at "rd"
    refine rd_wh2 (fun h2 => ?_) fun h2 => ?_
    · walk_at "rd"
      refine ⟨n - 1, by omega, ?_, rfl, by omega, ?_⟩
      · rw [show ((n : Int) - 1) = ((n - 1 : Nat) : Int) by omega]
      · intro x hx
        have e1 : ds.drop (n - 1) = d1 :: ds.drop n := by
          have hlt : n - 1 < ds.length := by omega
          have e2 := List.drop_eq_getElem_cons hlt
          rw [e2]
          have e3 : ds[n - 1]'hlt = d1 := by
            have := (List.getElem?_eq_some_iff.mp hd1).2
            exact this
          rw [e3]
          congr 2
          omega
        rw [e1] at hx
        rcases List.mem_cons.mp hx with z | z
        · rw [z]; omega
        · exact hz x z
    · exact fin (.inr ⟨d1, hd1, by omega⟩)
  · refine rd_whF rfl ?_
    exact fin (.inl (by omega))
theorem pwN (b : Nat) : (2 : Int) ^ b = ((2 ^ b : Nat) : Int) := by simp
theorem pwPos (b : Nat) : (0 : Int) < 2 ^ b := by rw [pwN]; exact Int.ofNat_lt.mpr (Nat.two_pow_pos b)
theorem modN (n b : Nat) : (n : Int) % 2 ^ b = ((n % 2 ^ b : Nat) : Int) := by rw [pwN]; rfl
theorem divN (n b : Nat) : (n : Int) / 2 ^ b = ((n / 2 ^ b : Nat) : Int) := by rw [pwN]; rfl
theorem absN (n : Int) : (if n < 0 then -n else n) = (n.natAbs : Int) := by split <;> omega
theorem two_nd {α : Type} {p q : Addr} {o u : α} {L : List (Addr × α)} (h : (((p, o) :: (q, u) :: L).map (·.1)).Nodup) : ([(p, o), (q, u)].map (·.1)).Nodup := h.sublist (List.Sublist.map _ (List.Sublist.cons₂ _ (List.Sublist.cons₂ _ (List.nil_sublist _))))
def sp_Z (K : PySem.W.Frag) (c : Pc) : Sp := fun vs H Q _ => ∃ (m dx : Addr) (b : Nat) (cut : Int) (d e : Addr) (n : Nat), vs = [.ref m, .int (n : Int)] ∧ H m = some (.ins c.CMachine dx (mF b cut d e)) ∧ b ≠ 0 ∧ (digs b n).length < 2 ^ 23 ∧
  ∀ l H', Chg H H' [] [(l, .lst (iN (digs b n)))] → Q (.ref l) H'
def t_Z (K : PySem.W.Frag) (c : Pc) : TS :=
  (tSeq (tAsg (tLst tNil) (gName 2))
  (tSeq (tWhile (tTest (tOp rGt (tVar 1) (tC (.int 0)))) (tSeq (tDrop (tBM K "list" rAppend (tVar 2) (tCons (tOp rMod (tVar 1) (tFld K (tVar 0) "base")) tNil)))
  (tAsg (tOp rShr (tVar 1) (tFld K (tVar 0) "width")) (gName 1))))
  (tRet (tVar 2))))
theorem b_Z (P : PM K c) (h : sp_Z K c vs H Q E) : t_Z K c (en0 Q) (st0 3 vs) H := by
  obtain ⟨m, dx, b, cut, d, e, n, rfl, hm, hb, hlen, kq⟩ := h
  have W : Wd H H [] [(m, .ins c.CMachine dx (mF b cut d e))] := Wd.one hm
  unfold t_Z
  walk_at "rd"
  refine rd_kLst W (by decide) fun l H1 hl W1 => ?_
  walk_at "rd"
  refine rd_while (fun k σ' H' => ∃ ds, σ' = [some (.ref m), some (.int (k : Int)), some (.ref l)] ∧ Wd H H' [] [(l, .lst (iN ds)), (m, .ins c.CMachine dx (mF b cut d e))] ∧ ds ++ digs b k = digs b n) n ⟨[], rfl, W1, rfl⟩ ?_
  rintro k σ' H' ⟨ds, rfl, W2, hds⟩
  walk_at "rd"
  refine rd_wh2 (fun h1 => ?_) fun h1 => ?_
  · have hk : k ≠ 0 := by omega
    have e1 := digs_pos hb hk
    walk_at "rd"
    refine rd_Mbase P (by walk_at "own") ?_
    refine rd_mod (pwPos b) ?_
    rw [modN]
    walk_at "rd"
    have hdl : ds.length < 2 ^ 23 := by
      have := congrArg List.length hds
      rw [List.length_append] at this
      omega
    refine rd_append W2 (by walk_at "rp") (by walk_at "may") (by rw [iN_length]; exact Nat.lt_of_lt_of_le hdl (by decide)) fun H3 W3 => ?_
    walk_at "rd"
    refine rd_Mwidth P (by walk_at "own") ?_
    refine rd_shr (Int.natCast_nonneg _) ?_
    rw [Int.toNat_natCast, divN]
    walk_at "rd"
    refine ⟨k / 2 ^ b, Nat.div_lt_self (Nat.pos_of_ne_zero hk) (Nat.one_lt_two_pow hb), ds ++ [k % 2 ^ b], rfl, ?_, ?_⟩
    · rw [← iN_app]
      exact W3
    · rw [← hds, e1, List.append_assoc]
      rfl
  · have hk : k = 0 := by omega
    rw [hk, digs_zero, List.append_nil] at hds
    subst hds
    walk_at "rd"
    exact kq l H' (W2.done (fun q z => nomatch z) (fun q z => nomatch z) (fun q hq => by rw [List.mem_singleton.mp hq]; exact ⟨List.mem_cons_self, hl⟩) (by simp))
/-- what a new Big is -/
def NewBig (c : Pc) (Q : VK) (H : Hp) (b : Nat) (s : Int) (ds : List Nat) : Prop := ∀ x dx r H', Chg H H' [] [(x, .ins c.CBig dx (bF b s r)), (r, .tup (iN ds))] → Q (.ref x) H'
def sp_V (K : PySem.W.Frag) (c : Pc) : Sp := fun vs H Q _ => ∃ (m dx : Addr) (b : Nat) (cut : Int) (d e : Addr) (n : Int), vs = [.ref m, .int n] ∧ H m = some (.ins c.CMachine dx (mF b cut d e)) ∧ b ≠ 0 ∧ (digs b n.natAbs).length < 2 ^ 23 ∧
  NewBig c Q H b (sgn n) (digs b n.natAbs)
def t_V (K : PySem.W.Frag) (c : Pc) : TS :=
  (tRet (tCall (sp_E K c) [] E0 (tCons (tVar 0) (tCons (tIf (tTest (tOp rLt (tVar 1) (tC (.int 0)))) (tUn rNeg (tC (.int 1))) (tC (.int 1))) (tCons (tCall (sp_Z K c) [] E0 (tCons (tVar 0) (tCons (tCB rAbs (tCons (tVar 1) tNil)) tNil))) tNil)))))
theorem b_V (P : PM K c) (h : sp_V K c vs H Q E) : t_V K c (en0 Q) (st0 2 vs) H := by
  obtain ⟨m, dx, b, cut, d, e, n, rfl, hm, hb, hlen, k⟩ := h
  have W : Wd H H [] [(m, .ins c.CMachine dx (mF b cut d e))] := Wd.one hm
  unfold t_V
  walk_at "rd"
  have cont : ∀ s : Int, (if digs b n.natAbs = [] then 0 else s) = sgn n → tCons (tCall (sp_Z K c) [] E0 (tCons (tVar 0) (tCons (tCB rAbs (tCons (tVar 1) tNil)) tNil))) tNil (st0 2 [.ref m, .int n]) H (fun xs H2 => sp_E K c (.ref m :: .int s :: xs) H2 Q E0) := by
    intro s hs
    walk_at "rd"
    rw [absN]
    refine ⟨m, dx, b, cut, d, e, n.natAbs, rfl, hm, hb, hlen, fun l H1 ch => ?_⟩
    have W1 := W.chg0 ch
    walk_at "rd"
    refine ⟨m, dx, b, cut, d, e, s, l, digs b n.natAbs, rfl, W1.get (by walk_at "mem"), W1.get (by walk_at "mem"), hlen, fun x dx r H2 ch2 => ?_⟩
    rw [digs_norm hb, hs] at ch2
    have W2 := W1.chg0 ch2
    refine k x dx r H2 (W2.done (fun q z => nomatch z) (fun q z => nomatch z) (fun q hq => ?_) (two_nd W2.nd))
    have h0 : ∀ {p o}, (p, o) ∈ [(x, HO.ins c.CBig dx (bF b (sgn n) r)), (r, HO.tup (iN (digs b n.natAbs)))] → H p = none := fun hp => W1.fresh (ch2.new hp).1
    exact ⟨List.mem_append_left _ hq, h0 (p := q.1) (o := q.2) hq⟩
  refine rd_2d (fun h1 => ?_) fun h1 => ?_
  · refine rd_un (rd_c (rd_neg ?_))
    refine cont (-1) ?_
    rw [if_neg (fun z => by have := (digs_eq_nil hb).mp z; omega)]
    unfold sgn
    rw [if_pos h1]
  · refine rd_c ?_
    refine cont 1 ?_
    unfold sgn
    rw [if_neg h1]
    by_cases h2 : n = 0
    · rw [if_pos ((digs_eq_nil hb).mpr (by omega)), if_pos h2]
    · rw [if_neg (fun z => by have := (digs_eq_nil hb).mp z; omega), if_neg h2]
def sp_big (K : PySem.W.Frag) (c : Pc) : Sp := sp_V K c
def t_big (K : PySem.W.Frag) (c : Pc) : TS :=
  (tSeq (tDrop (tCall (sp_L K c) [] E0 (tCons (tVar 0) tNil)))
  (tSeq (tDrop (tCall (sp_Ae K c) [] E0 (tCons (tC (.str "n")) (tCons (tVar 1) tNil))))
  (tRet (tCall (sp_V K c) [] E0 (tCons (tVar 0) (tCons (tVar 1) tNil))))))
theorem b_big (h : sp_big K c vs H Q E) : t_big K c (en0 Q) (st0 2 vs) H := by
  obtain ⟨m, dx, b, cut, d, e, n, rfl, hm, hb, hlen, k⟩ := h
  unfold t_big
  walk_at "rd"
  refine ⟨m, dx, _, rfl, hm, ?_⟩
  walk_at "rd"
  refine ⟨_, n, rfl, ?_⟩
  walk_at "rd"
  exact ⟨m, dx, b, cut, d, e, n, rfl, hm, hb, hlen, k⟩
def sp_Y (K : PySem.W.Frag) (c : Pc) : Sp := fun vs H Q _ => ∃ a dx fs, vs = [.ref a] ∧ H a = some (.ins c.CBig dx fs) ∧ Q .non H
def t_Y (K : PySem.W.Frag) (c : Pc) : TS :=
  (tIfS (tNot (L2.tB (tCB (rIsi K) (tCons (tVar 0) (tCons (tC (.ref c.CBig)) tNil))))) tNever tNext)
theorem b_Y (P : PB K c) (h : sp_Y K c vs H Q E) : t_Y K c (en0 Q) (st0 1 vs) H := by
  obtain ⟨a, dx, fs, rfl, ha, q⟩ := h
  unfold t_Y
  walk_at "rd"
  refine isi_own P.isc ha ?_
  walk_at "rd"
  refine rd_F rfl ?_
  walk_at "rd"
  exact q
/-- the Big of n at x, its row at r -/
structure BigAt (c : Pc) (H : Hp) (x : Addr) (b : Nat) (n : Int) : Prop where
  at_ : ∃ dx r, H x = some (.ins c.CBig dx (bF b (sgn n) r)) ∧ H r = some (.tup (iN (digs b n.natAbs)))
theorem BigAt.same {H' : Hp} {n : Int} (h : BigAt c H x b n) (hs : Same H H') : BigAt c H' x b n := by
  obtain ⟨dx, r, h1, h2⟩ := h.at_
  exact ⟨dx, r, hs _ _ h1, hs _ _ h2⟩
def bigL (b : Nat) (n : Int) : Prop := b ≠ 0 ∧ b ≤ 30 ∧ (digs b n.natAbs).length < 2 ^ 22
theorem sgn_small (n : Int) : -1 ≤ sgn n ∧ sgn n ≤ 1 := by
  unfold sgn
  split
  · omega
  · split <;> omega
end
/-- the state of a source of draws -/
def SrcO (o : HO) : Prop := ∃ z0 z1 z2 : Int, o = .lst [.int z0, .int z1, .int z2]
section
variable {K : PySem.W.Frag} {c : Pc} {vs : List V} {H H0 : Hp} {Q : VK} {E : XK} {M : List Addr} {L : List (Addr × HO)} {L' : HO → List (Addr × HO)} {n : Int} {a p : Addr} {o : HO}
def sp_law_source_of (K : PySem.W.Frag) (c : Pc) : Sp := fun vs H Q _ => ∃ n, vs = [.int n] ∧ ∀ p o H', SrcO o → Chg H H' [] [(p, o)] → Q (.ref p) H'
theorem one_nd {α : Type} {p : Addr} {o : α} : ([(p, o)].map (·.1)).Nodup := List.nodup_cons.mpr ⟨by simp, List.nodup_nil⟩
theorem Wd.new1 {H' : Hp} {o : HO} (W : Wd H H' [] ((p, o) :: L)) (hp : H p = none) : Chg H H' [] [(p, o)] :=
  W.done (fun q z => nomatch z) (fun q z => nomatch z) (fun q hq => by rw [List.mem_singleton.mp hq]; exact ⟨List.mem_cons_self, hp⟩) one_nd
theorem pow18 : oPow 10 18 := ⟨by decide, by decide⟩
def NxtB (n : Int) : Prop := n.natAbs < 2 ^ 8000
theorem nxt_of {n : Int} {k : Nat} (h : n.natAbs < 2 ^ k) (hk : k ≤ 8000) : NxtB n := Nat.lt_of_lt_of_le h (Nat.pow_le_pow_right (by decide) hk)
theorem nxt64 {n : Int} (h0 : 0 < n) (h : n < 2 ^ 64) : NxtB n := nxt_of (k := 64) (by omega) (by decide)
theorem nxOk {n : Int} (h0 : 0 < n) (h : n < 2 ^ 64) : 0 < n ∧ NxtB n := ⟨h0, nxt64 h0 h⟩
def sp_law_next (K : PySem.W.Frag) (c : Pc) : Sp := fun vs H Q _ => ∃ a o n, vs = [.ref a, .int n] ∧ H a = some o ∧ SrcO o ∧ 0 < n ∧ NxtB n ∧ ∀ r o' H', 0 ≤ r → r < n → SrcO o' → Chg H H' [(a, o')] [] → Q (.int r) H'
theorem Wd.chg_one {H' : Hp} {o : HO} {a : Addr} (W : Wd H H' [a] ((a, o) :: L)) : Chg H H' [(a, o)] [] :=
  W.done (fun q hq => by rw [List.mem_singleton.mp hq]; exact List.mem_cons_self) (fun q hq => hq) (fun q z => nomatch z) List.nodup_nil
/-- a draw, for those who call -/
theorem u_next (W : Wd H0 H M L) (hr : ∀ u, Rp a o u L (L' u)) (ho : SrcO o) (hm : H0 a = none ∨ a ∈ M) (h0 : 0 < n) (hn : n < 2 ^ 64) (q : ∀ r o' H', 0 ≤ r → r < n → SrcO o' → Wd H0 H' M (L' o') → Q (.int r) H') : sp_law_next K c [.ref a, .int n] H Q E :=
  ⟨a, o, n, rfl, W.get (hr o).mem, ho, h0, nxt64 h0 hn, fun r o' H' h1 h2 h3 ch => q r o' H' h1 h2 h3 (W.chg1 (hr o') ch hm)⟩
def sp_law_one (K : PySem.W.Frag) (c : Pc) : Sp := fun vs H Q _ => ∃ a o l xs, vs = [.ref a, .ref l] ∧ H a = some o ∧ SrcO o ∧ H l = some (.lst xs) ∧ xs ≠ [] ∧ xs.length ≤ 1000 ∧ a ≠ l ∧ ∀ v o' H', v ∈ xs → SrcO o' → Chg H H' [(a, o')] [] → Q v H'
theorem u_one {l : Addr} {xs : List V} (W : Wd H0 H M L) (hr : ∀ u, Rp a o u L (L' u)) (ho : SrcO o) (hm : H0 a = none ∨ a ∈ M) (hl : (l, .lst xs) ∈ L) (nal : a ≠ l) (hne : xs ≠ []) (hlen : xs.length ≤ 1000) (q : ∀ v o' H', v ∈ xs → SrcO o' → Wd H0 H' M (L' o') → Q v H') : sp_law_one K c [.ref a, .ref l] H Q E :=
  ⟨a, o, l, xs, rfl, W.get (hr o).mem, ho, W.get hl, hne, hlen, nal, fun v o' H' h1 h2 ch => q v o' H' h1 h2 (W.chg1 (hr o') ch hm)⟩
end
def dI (ns : List Int) : List PyData := ns.map PyData.int
theorem dI_lay : ∀ ns : List Int, PyData.canLayAll0 (dI ns) = true
  | [] => by simp [dI, PyData.canLayAll0]
  | n :: ns => by
    show PyData.canLayAll0 (PyData.int n :: dI ns) = true
    rw [PyData.canLayAll0, dI_lay ns]
    simp [PyData.canLay0]
theorem dI_depth : ∀ ns : List Int, PyData.depthAll (dI ns) = 0
  | [] => by simp [dI, PyData.depthAll]
  | n :: ns => by
    show PyData.depthAll (PyData.int n :: dI ns) = 0
    rw [PyData.depthAll, dI_depth ns]
    simp [PyData.depth]
theorem dI_eqv : ∀ ns ms : List Int, PyData.eqvAll (dI ns) (dI ms) = decide (ns = ms)
  | [], [] => by simp [dI, PyData.eqvAll]
  | [], _ :: _ => by simp [dI, PyData.eqvAll]
  | _ :: _, [] => by simp [dI, PyData.eqvAll]
  | n :: ns, m :: ms => by
    show PyData.eqvAll (PyData.int n :: dI ns) (PyData.int m :: dI ms) = _
    rw [PyData.eqvAll, dI_eqv ns ms, PyData.eqv]
    by_cases h1 : n = m
    · by_cases h2 : ns = ms
      · simp [h1, h2]
      · simp [h1, h2]
    · simp [h1]
theorem shaped_list (ns : List Int) : SeqAt.shaped (.list (dI ns)) = true := by
  unfold SeqAt.shaped
  rw [PyData.canLay0, dI_lay, PyData.depth, dI_depth]
  rfl
theorem dpI {K : PySem.W.Frag} {H : Hp} : ∀ ns : List Int, DpAll K H (ns.map V.int) (dI ns)
  | [] => .nil
  | n :: ns => .cons (.int n) (dpI ns)
section
variable {K : PySem.W.Frag} {c : Pc} {vs : List V} {H H0 : Hp} {Q : VK} {E : XK} {M : List Addr} {L : List (Addr × HO)} {L' : HO → List (Addr × HO)} {n : Int} {a p l : Addr} {o : HO} {ns ms : List Int} {ds : List Nat}
theorem rd_neLI (h1 : SqL K H l (ns.map V.int)) (h2 : SqL K H p (ms.map V.int)) (q : Q (.bl (!decide (ns = ms))) H) : rNeD K (.ref l) (.ref p) H Q :=
  ⟨_, _, .lst h1 (dpI ns), .lst h2 (dpI ms), shaped_list ns, shaped_list ms, by rw [PyData.eqv, dI_eqv]; exact q⟩
theorem rd_eqLI (h1 : SqL K H l (ns.map V.int)) (h2 : SqL K H p (ms.map V.int)) (q : Q (.bl (decide (ns = ms))) H) : rEqD K (.ref l) (.ref p) H Q :=
  ⟨_, _, .lst h1 (dpI ns), .lst h2 (dpI ms), shaped_list ns, shaped_list ms, by rw [PyData.eqv, dI_eqv]; exact q⟩
theorem iN_int (ds : List Nat) : iN ds = (ds.map fun (d : Nat) => (d : Int)).map V.int := by unfold iN; rw [List.map_map]; rfl
theorem rd_neN (h1 : SqL K H l (iN ds)) (h2 : SqL K H p []) (q : Q (.bl (!decide (ds = []))) H) : rNeD K (.ref l) (.ref p) H Q := by
  rw [iN_int] at h1
  refine rd_neLI (ms := []) h1 h2 ?_
  have e : (ds.map fun (d : Nat) => (d : Int)) = [] ↔ ds = [] := by simp
  have e2 : decide ((ds.map fun (d : Nat) => (d : Int)) = []) = decide (ds = []) := by
    by_cases h : ds = []
    · rw [decide_eq_true h, decide_eq_true (e.mpr h)]
    · rw [decide_eq_false h, decide_eq_false (fun z => h (e.mp z))]
  rw [e2]
  exact q
theorem rd_mkMachine {b : Nat} {cut : Int} (W : Wd H0 H M L) (h1 : 8 ≤ b) (h2 : b ≤ 30) (h3 : 2 ≤ cut) (h4 : cut ≤ 1000)
    (q : ∀ x dx d e H', H0 x = none → H0 d = none → H0 e = none → Wd H0 H' M ((d, .dK (cK zeros)) :: (e, .lst []) :: (x, .ins c.CMachine dx (mF b cut d e)) :: L) → Q (.ref x) H') : kMake c.CMachine (sp_A K c) [] E Q [.int (b : Int), .int cut] H := by
  intro x dx hx hdx ne
  have W1 := W.new (o := .own x) hdx
  have hx1 : upd H dx (.own x) x = none := by rw [upd_ne (Ne.symm ne)]; exact hx
  have W2 := W1.new (o := .ins c.CMachine dx []) hx1
  refine ⟨x, dx, b, cut, rfl, h1, h2, h3, h4, upd_same, fun d e H' ch => ⟨rfl, ?_⟩⟩
  have W3 := W2.chg1 Rp.here ch (.inl (W.fresh hx))
  have hno : dx ∉ M := fun z => W.out hdx (W.sub dx z)
  have hd0 : H0 d = none := W2.fresh (ch.new (o := .dK (cK zeros)) (by walk_at "mem")).1
  have he0 : H0 e = none := W2.fresh (ch.new (o := .lst []) (by walk_at "mem")).1
  refine q x dx d e H' (W.fresh hx) hd0 he0 ?_
  have W4 : Wd H0 H' M ((dx, .own x) :: (d, .dK (cK zeros)) :: (e, .lst []) :: (x, .ins c.CMachine dx (mF b cut d e)) :: L) := W3.perm (List.perm_middle (l₁ := [_, _, _]) (l₂ := L))
  exact W4.drop1 hno
def sp_law_machine (K : PySem.W.Frag) (c : Pc) : Sp := fun vs H Q _ => ∃ a o, vs = [.ref a] ∧ H a = some o ∧ SrcO o ∧
  ∀ (x dx : Addr) (b : Nat) (cut : Int) (d e : Addr) o' H', 8 ≤ b → b ≤ 30 → 2 ≤ cut → cut ≤ 1000 → SrcO o' → Chg H H' [(a, o')] [(d, .dK (cK zeros)), (e, .lst []), (x, .ins c.CMachine dx (mF b cut d e))] → Q (.ref x) H'
end
/-- a thing that calls may change: a list or a dict -/
def Chb (o : HO) : Prop := (∃ xs, o = .lst xs) ∨ ∃ kvs, o = .dK kvs
section
variable {K : PySem.W.Frag} {c : Pc} {vs : List V} {H H0 H' : Hp} {Q : VK} {E : XK} {M : List Addr} {L : List (Addr × HO)} {b : Nat} {s cut n : Int} {a m d e dx r x l p : Addr} {ds : List Nat} {cs ns : List (Addr × HO)}
theorem BigAt.chg (h : BigAt c H x b n) (ch : Chg H H' cs ns) (hc : ∀ q ∈ cs, ∃ o, H q.1 = some o ∧ Chb o) : BigAt c H' x b n := by
  obtain ⟨dx, r, h1, h2⟩ := h.at_
  refine ⟨dx, r, ch.keep _ _ h1 fun z => ?_, ch.keep _ _ h2 fun z => ?_⟩
  · obtain ⟨q, hq, e⟩ := List.mem_map.mp z
    obtain ⟨o, ho, hb⟩ := hc q hq
    rw [e, h1] at ho
    rcases hb with ⟨xs, rfl⟩ | ⟨kvs, rfl⟩ <;> cases ho
  · obtain ⟨q, hq, e⟩ := List.mem_map.mp z
    obtain ⟨o, ho, hb⟩ := hc q hq
    rw [e, h2] at ho
    rcases hb with ⟨xs, rfl⟩ | ⟨kvs, rfl⟩ <;> cases ho
theorem NewBig.at (h : ∀ x H', Chg H H' [] [] → H x = none → BigAt c H' x b n → Q (.ref x) H') : NewBig c Q H b (sgn n) (digs b n.natAbs) := fun x dx r H' ch =>
  h x H' (.of_same fun q o z => ch.keep q o z fun y => nomatch y) (ch.new List.mem_cons_self).1 ⟨dx, r, (ch.new List.mem_cons_self).2, (ch.new (List.mem_cons_of_mem _ List.mem_cons_self)).2⟩
def sp_A9 (K : PySem.W.Frag) (c : Pc) : Sp := fun vs H Q _ => ∃ (a dx : Addr) (b : Nat) (cut : Int) (d e : Addr), vs = [.ref a] ∧ H a = some (.ins c.CMachine dx (mF b cut d e)) ∧ ∀ p H', Chg H H' [] [(p, .tup [.int (b : Int), .int cut])] → Q (.ref p) H'
def sp_N (K : PySem.W.Frag) (c : Pc) : Sp := fun vs H Q _ => ∃ (a dx : Addr) (b : Nat) (cut : Int) (d e : Addr) (xs : List V), vs = [.ref a] ∧ H a = some (.ins c.CMachine dx (mF b cut d e)) ∧ H e = some (.lst xs) ∧ ∀ p H', Chg H H' [] [(p, .lst xs)] → Q (.ref p) H'
def t_N (K : PySem.W.Frag) (c : Pc) : TS :=
  (tRet (tCB (rList K) (tCons (tFld K (tVar 0) "entered") tNil)))
theorem b_N (P : PM K c) (h : sp_N K c vs H Q E) : t_N K c (en0 Q) (st0 1 vs) H := by
  obtain ⟨a, dx, b, cut, d, e, xs, rfl, ha, he, k⟩ := h
  unfold t_N
  walk_at "rd"
  refine rd_Mentered P ha ?_
  walk_at "rd"
  refine rd_list (Wd.nil H) (.inl (SqL.of he)) fun p H1 hp W => ?_
  exact k p H1 (W.new1 hp)
def sp_O (K : PySem.W.Frag) (c : Pc) : Sp := fun vs H Q _ => ∃ x b n, vs = [.ref x] ∧ BigAt c H x b n ∧ Q (.int (sgn n)) H
def t_O (K : PySem.W.Frag) (c : Pc) : TS := (tRet (tFld K (tVar 0) "side"))
theorem b_O (P : PB K c) (h : sp_O K c vs H Q E) : t_O K c (en0 Q) (st0 1 vs) H := by
  obtain ⟨x, b, n, rfl, ⟨dx, r, hx, hr⟩, q⟩ := h
  unfold t_O
  walk_at "rd"
  exact rd_Bside P hx q
def sp_P (K : PySem.W.Frag) (c : Pc) : Sp := fun vs H Q _ => ∃ x b n, vs = [.ref x] ∧ BigAt c H x b n ∧ Q (.int (b : Int)) H
def t_P (K : PySem.W.Frag) (c : Pc) : TS := (tRet (tFld K (tVar 0) "width"))
theorem b_P (P : PB K c) (h : sp_P K c vs H Q E) : t_P K c (en0 Q) (st0 1 vs) H := by
  obtain ⟨x, b, n, rfl, ⟨dx, r, hx, hr⟩, q⟩ := h
  unfold t_P
  walk_at "rd"
  exact rd_Bwidth P hx q
def sp_Q (K : PySem.W.Frag) (c : Pc) : Sp := fun vs H Q _ => ∃ x b n, vs = [.ref x] ∧ BigAt c H x b n ∧ ∀ p H', Chg H H' [] [(p, .lst (iN (digs b n.natAbs)))] → Q (.ref p) H'
def t_Q (K : PySem.W.Frag) (c : Pc) : TS := (tRet (tCB (rList K) (tCons (tFld K (tVar 0) "row") tNil)))
theorem b_Q (P : PB K c) (h : sp_Q K c vs H Q E) : t_Q K c (en0 Q) (st0 1 vs) H := by
  obtain ⟨x, b, n, rfl, ⟨dx, r, hx, hr⟩, k⟩ := h
  unfold t_Q
  walk_at "rd"
  refine rd_Brow P hx ?_
  walk_at "rd"
  refine rd_list (Wd.nil H) (.inr (SqT.of hr)) fun p H1 hp W => ?_
  exact k p H1 (W.new1 hp)
theorem shaped_tri (b s : Int) (ns : List Int) : SeqAt.shaped (.tuple [.int b, .int s, .tuple (dI ns)]) = true := by
  unfold SeqAt.shaped
  simp only [PyData.canLay0, PyData.canLayAll0, dI_lay, PyData.depth, PyData.depthAll, dI_depth]
  decide
theorem eqv_tri (b s b' s' : Int) (ns ms : List Int) : PyData.eqv (.tuple [.int b, .int s, .tuple (dI ns)]) (.tuple [.int b', .int s', .tuple (dI ms)]) = decide (b = b' ∧ s = s' ∧ ns = ms) := by
  simp only [PyData.eqv, PyData.eqvAll, dI_eqv]
  by_cases h1 : b = b' <;> by_cases h2 : s = s' <;> by_cases h3 : ns = ms <;> simp [h1, h2, h3]
def sp_S (K : PySem.W.Frag) (c : Pc) : Sp := fun vs H Q _ => ∃ x b n y, vs = [.ref x, y] ∧ BigAt c H x b n ∧ b ≠ 0 ∧
  ((∃ x' b' n', y = .ref x' ∧ BigAt c H x' b' n' ∧ b' ≠ 0 ∧ ∀ H', Same H H' → Q (.bl (decide (b = b' ∧ n = n'))) H') ∨ (∃ t, TyX K H y t ∧ PySem.W.kitOne K t (.ref c.CBig) = some false ∧ Q (.bl false) H))
def t_S (K : PySem.W.Frag) (c : Pc) : TS :=
  (tRet (tAndV (tCB (rIsi K) (tCons (tVar 1) (tCons (tC (.ref c.CBig)) tNil))) (tOp (rEqD K) (tTup (tCons (tFld K (tVar 0) "width") (tCons (tFld K (tVar 0) "side") (tCons (tFld K (tVar 0) "row") tNil)))) (tTup (tCons (tFld K (tVar 1) "width") (tCons (tFld K (tVar 1) "side") (tCons (tFld K (tVar 1) "row") tNil)))))))
theorem castL_inj : ∀ {xs ys : List Nat}, (xs.map fun (d : Nat) => (d : Int)) = (ys.map fun (d : Nat) => (d : Int)) → xs = ys
  | [], [], _ => rfl
  | [], _ :: _, h => by simp at h
  | _ :: _, [], h => by simp at h
  | x :: xs, y :: ys, h => by
    rw [List.map_cons, List.map_cons] at h
    obtain ⟨h1, h2⟩ := List.cons.inj h
    rw [castL_inj h2, Int.ofNat.inj h1]
theorem big_eq_iff {b b' : Nat} {n n' : Int} (hb : b ≠ 0) (hb' : b' ≠ 0) : ((b : Int) = (b' : Int) ∧ sgn n = sgn n' ∧ ((digs b n.natAbs).map fun (d : Nat) => (d : Int)) = ((digs b' n'.natAbs).map fun (d : Nat) => (d : Int))) ↔ (b = b' ∧ n = n') := by
  constructor
  · rintro ⟨h1, h2, h3⟩
    have e : b = b' := by omega
    subst e
    refine ⟨rfl, ?_⟩
    have h4 : digs b n.natAbs = digs b n'.natAbs := by
      exact castL_inj h3
    have h5 := congrArg (val b) h4
    rw [val_digs hb, val_digs hb] at h5
    rw [← sgn_mul n, ← sgn_mul n', h2, h5]
  · rintro ⟨rfl, rfl⟩
    exact ⟨rfl, rfl, rfl⟩
theorem b_S (P : PB K c) (h : sp_S K c vs H Q E) : t_S K c (en0 Q) (st0 2 vs) H := by
  obtain ⟨x, b, n, y, rfl, ⟨dx, r, hx, hr⟩, hb, h⟩ := h
  unfold t_S
  walk_at "rd"
  rcases h with ⟨x', b', n', rfl, ⟨dx', r', hx', hr'⟩, hb', k⟩ | ⟨t, ty, ht, q⟩
  · refine isi_own P.isc hx' ?_
    walk_at "rd"
    refine rd_T rfl ?_
    walk_at "rd"
    refine rd_Bwidth P hx ?_
    walk_at "rd"
    refine rd_Bside P hx ?_
    walk_at "rd"
    refine rd_Brow P hx ?_
    walk_at "rd"
    refine rd_kTup (Wd.nil H) (by walk_at "len") fun p H1 hp W1 => ?_
    have s1 := W1.toSame
    walk_at "rd"
    refine rd_Bwidth P (s1 _ _ hx') ?_
    walk_at "rd"
    refine rd_Bside P (s1 _ _ hx') ?_
    walk_at "rd"
    refine rd_Brow P (s1 _ _ hx') ?_
    walk_at "rd"
    refine rd_kTup W1 (by walk_at "len") fun p2 H2 hp2 W2 => ?_
    have s2 := W2.toSame
    have r1 : SqT K H2 r (((digs b n.natAbs).map fun (d : Nat) => (d : Int)).map V.int) := by rw [← iN_int]; exact SqT.of (s2 _ _ hr)
    have r2 : SqT K H2 r' (((digs b' n'.natAbs).map fun (d : Nat) => (d : Int)).map V.int) := by rw [← iN_int]; exact SqT.of (s2 _ _ hr')
    refine ⟨_, _, .tup (SqT.of (W2.get (by walk_at "mem"))) (.cons (.int _) (.cons (.int _) (.cons (.tup r1 (dpI _)) .nil))), .tup (SqT.of (W2.get (by walk_at "mem"))) (.cons (.int _) (.cons (.int _) (.cons (.tup r2 (dpI _)) .nil))), shaped_tri _ _ _, shaped_tri _ _ _, ?_⟩
    rw [eqv_tri]
    have e : decide ((b : Int) = (b' : Int) ∧ sgn n = sgn n' ∧ ((digs b n.natAbs).map fun (d : Nat) => (d : Int)) = ((digs b' n'.natAbs).map fun (d : Nat) => (d : Int))) = decide (b = b' ∧ n = n') := decide_eq_decide.mpr (big_eq_iff hb hb')
    rw [e]
    exact k H2 s2
  · refine (show rIsi K [y, .ref c.CBig] H _ from ⟨y, _, t, _, false, rfl, .own _, ty, ht, ?_⟩)
    walk_at "rd"
    refine rd_F rfl ?_
    exact q
def sp_R (K : PySem.W.Frag) (c : Pc) : Sp := fun vs H Q _ => ∃ x b n, vs = [.ref x] ∧ BigAt c H x b n ∧ bigL b n ∧ ∀ H', Same H H' → Q (.int n) H'
def t_R (K : PySem.W.Frag) (c : Pc) : TS :=
  (tSeq (tAsg (tC (.int 0)) (gName 1))
  (tSeq (tFor (iTup K (tRevT K (tFld K (tVar 0) "row"))) (gName 2) (tAsg (tOp rOr (tOp rShl (tVar 1) (tFld K (tVar 0) "width")) (tVar 2)) (gName 1)))
  (tRet (tOp rMul (tFld K (tVar 0) "side") (tVar 1)))))
theorem fold_val (b : Nat) (ds : List Nat) : ds.reverse.foldl (fun r d => r * 2 ^ b + d) 0 = val b ds := by
  rw [List.foldl_reverse]
  induction ds with
  | nil => rfl
  | cons d ds ih => rw [List.foldr_cons, ih, val_cons, Nat.add_comm, Nat.mul_comm]
theorem fold_lt {b : Nat} : ∀ {ds : List Nat} (k : Nat), Digs b ds → k < 2 ^ 0 → ds.foldl (fun r d => r * 2 ^ b + d) k < 2 ^ (b * ds.length) := by
  have key : ∀ (ds : List Nat) (k j : Nat), Digs b ds → k < 2 ^ j → ds.foldl (fun r d => r * 2 ^ b + d) k < 2 ^ (b * ds.length + j) := by
    intro ds
    induction ds with
    | nil => intro k j _ hk; simpa using hk
    | cons d ds ih =>
      intro k j hd hk
      have h1 := ih (k * 2 ^ b + d) (b + j) (fun y hy => hd y (List.mem_cons_of_mem _ hy)) (by
        have hdl := hd d List.mem_cons_self
        have : (k + 1) * 2 ^ b ≤ 2 ^ j * 2 ^ b := Nat.mul_le_mul_right _ hk
        rw [Nat.add_mul, Nat.one_mul] at this
        rw [Nat.pow_add, Nat.mul_comm (2 ^ b)]
        omega)
      rw [List.foldl_cons, List.length_cons, Nat.mul_add, Nat.mul_one]
      rw [show b * ds.length + b + j = b * ds.length + (b + j) by omega]
      exact h1
  intro ds k hd hk
  have := key ds k 0 hd hk
  simpa using this
theorem b_R (P : PB K c) (h : sp_R K c vs H Q E) : t_R K c (en0 Q) (st0 3 vs) H := by
  obtain ⟨x, b, n, rfl, ⟨dx, r, hx, hr⟩, ⟨hb, hb30, hl⟩, q⟩ := h
  have nxr : x ≠ r := ne_of hx hr (by intro z; cases z)
  have W : Wd H H [] [(x, .ins c.CBig dx (bF b (sgn n) r)), (r, .tup (iN (digs b n.natAbs)))] := (Wd.one hr).old hx (by simpa using nxr)
  have hdg : Digs b (digs b n.natAbs).reverse := fun d hd => digs_lt hb _ d (List.mem_reverse.mp hd)
  unfold t_R
  walk_at "rd"
  refine rd_Brow P hx ?_
  refine rd_kRevT W (by walk_at "sq") fun t H1 ht W1 => ?_
  rw [iN_rev] at W1
  walk_at "rd"
  refine rd_forT (xs := iN (digs b n.natAbs).reverse) (fun i σ' H' => ∃ v, σ' = [some (.ref x), some (.int (((digs b n.natAbs).reverse.take i).foldl (fun r d => r * 2 ^ b + d) 0 : Nat)), v] ∧ H' = H1) ⟨none, rfl, rfl⟩ ?_ ?_ ?_
  · rintro i σ' H' _ ⟨v, _, rfl⟩
    walk_at "sq"
  · rintro i y σ' H' hy ⟨v, rfl, rfl⟩
    obtain ⟨d, hd, rfl⟩ := iN_of hy
    have hil : i < (digs b n.natAbs).length := by
      have := (List.getElem?_eq_some_iff.mp hd).1
      rwa [List.length_reverse] at this
    have hR := fold_lt (b := b) (ds := (digs b n.natAbs).reverse.take i) 0 (fun y hy => hdg y (List.mem_of_mem_take hy)) (by decide)
    rw [List.length_take, List.length_reverse, Nat.min_eq_left (by omega)] at hR
    have hdl : d < 2 ^ b := hdg d (List.mem_of_getElem? hd)
    generalize hRR : ((digs b n.natAbs).reverse.take i).foldl (fun r d => r * 2 ^ b + d) 0 = R at hR
    have hbi : b * i ≤ 30 * i := Nat.mul_le_mul_right _ hb30
    walk_at "rd"
    refine rd_Bwidth P (by walk_at "own") ?_
    refine rd_shl (shl_ok (n := b * i) (by simpa using hR) (by omega)) ?_
    walk_at "rd"
    rw [Int.toNat_natCast, or_low (Int.natCast_nonneg _) (Int.natCast_nonneg _) (by rw [pwN]; exact Int.ofNat_lt.mpr hdl)]
    refine ⟨some (.int (d : Int)), ?_, rfl⟩
    rw [take_snoc hd, List.foldl_append, hRR, pwN]
    rfl
  · rintro σ' H' ⟨v, rfl, rfl⟩
    rw [iN_length, List.take_length, fold_val, val_digs hb]
    have hs := sgn_small n
    walk_at "rd"
    refine rd_Bside P (by walk_at "own") ?_
    walk_at "rd"
    refine rd_mul (mul_okL (by omega) (by omega)) ?_
    rw [sgn_mul]
    exact q _ W1.toSame
def sp_T (K : PySem.W.Frag) (c : Pc) : Sp := sp_R K c
def t_T (K : PySem.W.Frag) (c : Pc) : TS :=
  (tSeq (tDrop (tCall (sp_Y K c) [] E0 (tCons (tVar 0) tNil)))
  (tRet (tCall (sp_R K c) [] E0 (tCons (tVar 0) tNil))))
theorem b_T (h : sp_T K c vs H Q E) : t_T K c (en0 Q) (st0 1 vs) H := by
  obtain ⟨x, b, n, rfl, B, hL, q⟩ := h
  obtain ⟨dx, r, hx, hr⟩ := B.at_
  unfold t_T
  walk_at "rd"
  refine ⟨x, dx, _, rfl, hx, ?_⟩
  walk_at "rd"
  exact ⟨x, b, n, rfl, B, hL, q⟩
def sp_negative (K : PySem.W.Frag) (c : Pc) : Sp := fun vs H Q _ => ∃ x b n, vs = [.ref x] ∧ BigAt c H x b n ∧ ∀ x' H', H x' = none → Chg H H' [] [] → BigAt c H' x' b (-n) → Q (.ref x') H'
theorem sgn_neg (n : Int) : sgn (-n) = 0 - sgn n := by
  unfold sgn
  split <;> split <;> (try split) <;> (try split) <;> omega
def sp_absolute (K : PySem.W.Frag) (c : Pc) : Sp := fun vs H Q _ => ∃ x b n, vs = [.ref x] ∧ BigAt c H x b n ∧ ∀ x' H', H x' = none → Chg H H' [] [] → BigAt c H' x' b (n.natAbs : Int) → Q (.ref x') H'
end
section
variable {K : PySem.W.Frag} {c : Pc} {vs : List V} {H H0 : Hp} {Q : VK} {E : XK} {M : List Addr} {L : List (Addr × HO)} {L' : HO → List (Addr × HO)} {n : Int} {a p l : Addr} {o : HO} {base most : Nat} {ds : List Nat}
def sp_Ah (K : PySem.W.Frag) (c : Pc) : Sp := fun vs H Q _ => ∃ (a : Addr) (o : HO) (base most : Nat), vs = [.ref a, .int (base : Int), .int (most : Int)] ∧ H a = some o ∧ SrcO o ∧ 2 ≤ base ∧ base ≤ 2 ^ 30 ∧ most ≤ 10000 ∧
  ∀ (l : Addr) (ds : List Nat) o' H', ds.length ≤ most + 1 → (∀ d ∈ ds, d < base) → SrcO o' → Chg H H' [(a, o')] [(l, .lst (iN ds))] → Q (.ref l) H'
def t_Ah (K : PySem.W.Frag) (c : Pc) : TS :=
  (tSeq (tAsg (tLst tNil) (gName 3))
  (tSeq (tFor (iRng1 (tCons (tCall (sp_law_next K c) [] E0 (tCons (tVar 0) (tCons (tOp rAdd (tVar 2) (tC (.int 1))) tNil))) tNil)) (gName 4) (tSeq (tAsg (tCall (sp_law_next K c) [] E0 (tCons (tVar 0) (tCons (tVar 1) tNil))) (gName 5))
  (tDrop (tBM K "list" rAppend (tVar 3) (tCons (tCall (sp_law_one K c) [] E0 (tCons (tVar 0) (tCons (tLst (tCons (tVar 5) (tCons (tVar 5) (tCons (tC (.int 0)) (tCons (tOp rSub (tVar 1) (tC (.int 1))) (tCons (tC (.int 1)) (tCons (tOp rDiv (tVar 1) (tC (.int 2))) tNil))))))) tNil))) tNil)))))
  (tRet (tIf (tTest (tOp (rNeD K) (tVar 3) (tLst tNil))) (tOp rCat (tVar 3) (tLst (tCons (tOp rAdd (tC (.int 1)) (tCall (sp_law_next K c) [] E0 (tCons (tVar 0) (tCons (tOp rSub (tVar 1) (tC (.int 1))) tNil)))) tNil))) (tVar 3)))))
/-- what a def has done: one thing changed, one new -/
theorem Wd.done11 {H' : Hp} {a p : Addr} {o u : HO} (W : Wd H H' [a] L) (h1 : (a, o) ∈ L) (h2 : (p, u) ∈ L) (hp : H p = none) : Chg H H' [(a, o)] [(p, u)] :=
  W.done (fun q hq => by rw [List.mem_singleton.mp hq]; exact h1) (fun q hq => hq) (fun q hq => by rw [List.mem_singleton.mp hq]; exact ⟨h2, hp⟩) one_nd
theorem b_Ah (h : sp_Ah K c vs H Q E) : t_Ah K c (en0 Q) (st0 6 vs) H := by
  obtain ⟨a, o, base, most, rfl, ha, ho, hb1, hb2, hm, k⟩ := h
  have W : Wd H H [a] [(a, o)] := (Wd.one ha).may List.mem_cons_self
  unfold t_Ah
  walk_at "rd"
  refine rd_kLst W (by decide) fun l H1 hl W1 => ?_
  walk_at "rd"
  refine u_next W1 (fun u => by walk_at "rp") ho (by walk_at "may") (by omega) (by omega) fun r o1 H2 h1 h2 ho1 W2 => ?_
  walk_at "rd"
  refine rd_kR1 (by omega) (by omega) ?_
  refine rd_forR (fun i σ' H' => ∃ v4 v5 o' ds, σ' = [some (.ref a), some (.int (base : Int)), some (.int (most : Int)), some (.ref l), v4, v5] ∧ SrcO o' ∧ ds.length = i ∧ (∀ d ∈ ds, d < base) ∧ Wd H H' [a] [(l, .lst (iN ds)), (a, o')]) ⟨none, none, o1, [], rfl, ho1, rfl, (fun d z => nomatch z), W2⟩ ?_ ?_
  · rintro i σ' H3 hi ⟨v4, v5, o2, ds, rfl, ho2, hds, hlt, W3⟩
    walk_at "rd"
    refine u_next W3 (fun u => by walk_at "rp") ho2 (by walk_at "may") (by omega) (by omega) fun r2 o3 H4 h3 h4 ho3 W4 => ?_
    walk_at "rd"
    refine rd_div (div_ok64 (by decide) (by decide)) ?_
    walk_at "rd"
    refine rd_kLst W4 (by walk_at "len") fun t H5 ht W5 => ?_
    walk_at "rd"
    have W6 := W5
    have nat : a ≠ t := fun z => by
      have e := W.get (a := a) (o := o) List.mem_cons_self
      rw [z, ht] at e
      cases e
    refine u_one W5 (fun u => by walk_at "rp") ho3 (by walk_at "may") (by walk_at "mem") nat (by simp) (by simp) fun v o4 H6 hv ho4 W7 => ?_
    obtain ⟨d, rfl, hd⟩ : ∃ d : Nat, v = .int (d : Int) ∧ d < base := by
      simp only [List.mem_cons, List.not_mem_nil, or_false] at hv
      rcases hv with rfl | rfl | rfl | rfl | rfl | rfl
      · exact ⟨r2.toNat, by congr 1; omega, by omega⟩
      · exact ⟨r2.toNat, by congr 1; omega, by omega⟩
      · exact ⟨0, rfl, by omega⟩
      · exact ⟨base - 1, by congr 1; omega, by omega⟩
      · exact ⟨1, rfl, by omega⟩
      · exact ⟨base / 2, by congr 1, by omega⟩
    walk_at "rd"
    refine rd_append W7 (by walk_at "rp") (by walk_at "may") (by rw [iN_length]; exact Evl.sz_lt (by omega)) fun H7 W8 => ?_
    refine ⟨_, _, o4, ds ++ [d], rfl, ho4, by rw [List.length_append, hds]; rfl, fun x hx => ?_, ?_⟩
    · rcases List.mem_append.mp hx with z | z
      · exact hlt x z
      · rw [List.mem_singleton.mp z]; exact hd
    · rw [← iN_app]
      exact W8.drop1 (fun z => nat (List.mem_singleton.mp z).symm)
  · rintro σ' H3 ⟨v4, v5, o2, ds, rfl, ho2, hds, hlt, W3⟩
    walk_at "rd"
    refine rd_kLst W3 (by decide) fun t H4 ht W4 => ?_
    refine rd_neN (ds := ds) (by walk_at "sq") (by walk_at "sq") ?_
    walk_at "rd"
    by_cases he : ds = []
    · refine rd_Fn he ?_
      walk_at "rd"
      refine k l ds o2 H4 (by omega) hlt ho2 (W4.done11 (by walk_at "mem") (by walk_at "mem") hl)
    · refine rd_Tn he ?_
      walk_at "rd"
      refine u_next W4 (fun u => by walk_at "rp") ho2 (by walk_at "may") (by omega) (by omega) fun r3 o3 H5 h3 h4 ho3 W5 => ?_
      walk_at "rd"
      refine rd_kLst W5 (by walk_at "len") fun s H6 hs W6 => ?_
      refine rd_cat W6 (by walk_at "own") (by walk_at "own") (by rw [iN_length]; exact Evl.sz_of (by simp; omega)) fun p H7 hp W7 => ?_
      have e : iN ds ++ [V.int (1 + r3)] = iN (ds ++ [(1 + r3).toNat]) := by
        rw [← iN_app]
        congr 1
        show [V.int (1 + r3)] = [V.int (((1 + r3).toNat : Nat) : Int)]
        congr 2
        omega
      rw [e] at W7
      refine k p (ds ++ [(1 + r3).toNat]) o3 H7 (by rw [List.length_append]; simp; omega) (fun d hd => ?_) ho3 (W7.done11 (by walk_at "mem") (by walk_at "mem") hp)
      rcases List.mem_append.mp hd with z | z
      · exact hlt d z
      · rw [List.mem_singleton.mp z]; omega
def valB (base : Nat) : List Nat → Nat
  | [] => 0
  | d :: ds => d + base * valB base ds
theorem valB_fold (ds : List Nat) : ds.reverse.foldl (fun r d => base * r + d) 0 = valB base ds := by
  rw [List.foldl_reverse]
  induction ds with
  | nil => rfl
  | cons d ds ih => rw [List.foldr_cons, ih]; show _ = d + base * valB base ds; omega
end
/-- B: the Bigs that stand: place, width, number -/
structure Wb (c : Pc) (H0 H : Hp) (M : List Addr) (L : List (Addr × HO)) (B : List (Addr × Nat × Int)) : Prop where
  wd : Wd H0 H M L
  big : ∀ {x : Addr} {b : Nat} {n : Int}, (x, b, n) ∈ B → BigAt c H x b n ∧ bigL b n
/-- a list of integers -/
def AllI (xs : List V) : Prop := ∃ ns : List Int, xs = ns.map V.int
theorem AllI.nil : AllI [] := ⟨[], rfl⟩
theorem AllI.cons {n : Int} {xs : List V} (h : AllI xs) : AllI (.int n :: xs) := by obtain ⟨ns, rfl⟩ := h; exact ⟨n :: ns, rfl⟩
theorem AllI.n (ds : List Nat) : AllI (iN ds) := ⟨_, iN_int ds⟩
theorem AllI.m (ns : List Int) : AllI (ns.map V.int) := ⟨ns, rfl⟩
theorem AllI.app {xs ys : List V} (h : AllI xs) (k : AllI ys) : AllI (xs ++ ys) := by
  obtain ⟨ns, rfl⟩ := h
  obtain ⟨ms, rfl⟩ := k
  exact ⟨ns ++ ms, by rw [List.map_append]⟩
theorem AllI.rep {n : Nat} {xs : List V} (h : AllI xs) : AllI (List.replicate n xs).flatten := by
  induction n with
  | zero => exact AllI.nil
  | succ n ih => rw [List.replicate_succ, List.flatten_cons]; exact h.app ih
theorem SrcO.chb {o : HO} (h : SrcO o) : Chb o := by obtain ⟨a, b, d, rfl⟩ := h; exact .inl ⟨_, rfl⟩
theorem Chb.lst {xs : List V} : Chb (.lst xs) := .inl ⟨_, rfl⟩
theorem Chb.dK {kvs : List (Key × V)} : Chb (.dK kvs) := .inr ⟨_, rfl⟩
section
variable {K : PySem.W.Frag} {c : Pc} {vs xs ys : List V} {H H0 H' : Hp} {Q : VK} {E : XK} {M : List Addr} {L L' ns cs : List (Addr × HO)} {L1 : HO → List (Addr × HO)} {B : List (Addr × Nat × Int)} {b b' : Nat} {cut n m : Int} {a d e dx r x x' l p : Addr} {o u : HO} {σ : L2.St} {y : V} {tr : TA}
theorem Wb.self (W : Wb c H0 H M L B) : Wd H H [] L := ⟨W.wd.get, W.wd.nd, fun _ _ e _ => e, fun _ h => nomatch h⟩
theorem Wb.get (W : Wb c H0 H M L B) (h : (a, o) ∈ L) : H a = some o := W.wd.get h
theorem Wb.chg0 (W : Wb c H0 H M L B) (ch : Chg H H' [] ns) : Wb c H0 H' M (ns ++ L) B := ⟨W.wd.chg0 ch, fun h => ⟨(W.big h).1.chg ch (fun _ z => nomatch z), (W.big h).2⟩⟩
theorem Wb.chg1 (W : Wb c H0 H M L B) (r : Rp a o u L L') (hb : Chb o) (ch : Chg H H' [(a, u)] ns) (hm : H0 a = none ∨ a ∈ M) : Wb c H0 H' M (ns ++ L') B := ⟨W.wd.chg1 r ch hm, fun h => ⟨(W.big h).1.chg ch (fun q z => by
  rw [List.mem_singleton.mp z]; exact ⟨o, W.wd.get r.mem, hb⟩), (W.big h).2⟩⟩
theorem Wb.same (W : Wb c H0 H M L B) (s : Same H H') : Wb c H0 H' M L B := ⟨W.wd.same s, fun h => ⟨(W.big h).1.same s, (W.big h).2⟩⟩
theorem Wb.add (W : Wb c H0 H M L B) (h : BigAt c H x b n) (l : bigL b n) : Wb c H0 H M L ((x, b, n) :: B) := ⟨W.wd, fun z => by
  rcases List.mem_cons.mp z with z | z
  · cases z; exact ⟨h, l⟩
  · exact W.big z⟩
theorem Wb.new (W : Wb c H0 H M L B) (h : H p = none) : Wb c H0 (upd H p o) M ((p, o) :: L) B :=
  W.chg0 (ns := [(p, o)]) (((Wd.nil H).new h).new1 h)
theorem Wb.put (W : Wb c H0 H M L B) (r : Rp a o u L L') (hb : Chb o) (hm : H0 a = none ∨ a ∈ M) : Wb c H0 (upd H a u) M L' B :=
  W.chg1 (ns := []) r hb (⟨fun z => by cases List.mem_singleton.mp z; exact upd_same, (fun z => nomatch z), List.nodup_nil, fun b o e hb => by rw [upd_ne (fun z => hb (by rw [z]; exact List.mem_cons_self))]; exact e⟩) hm
theorem Wb.toSame (W : Wb c H H' [] L B) : Same H H' := W.wd.toSame
theorem Wb.start (W : Wd H0 H M L) : Wb c H0 H M L [] := ⟨W, fun z => nomatch z⟩
theorem lw_lst (W : Wb c H0 H M L B) (hl : xs.length ≤ sizeLine) (q : ∀ p H', H0 p = none → Wb c H0 H' M ((p, .lst xs) :: L) B → Q (.ref p) H') : kLst Q xs H := ⟨hl, fun p hp => q p _ (W.wd.fresh hp) (W.new hp)⟩
theorem lw_tup (W : Wb c H0 H M L B) (hl : xs.length ≤ sizeLine) (q : ∀ p H', H0 p = none → Wb c H0 H' M ((p, .tup xs) :: L) B → Q (.ref p) H') : kTup Q xs H := ⟨hl, fun p hp => q p _ (W.wd.fresh hp) (W.new hp)⟩
theorem lw_cat (W : Wb c H0 H M L B) (h1 : (a, .lst xs) ∈ L) (h2 : (l, .lst ys) ∈ L) (hl : xs.length + ys.length ≤ sizeLine) (q : ∀ p H', H0 p = none → Wb c H0 H' M ((p, .lst (xs ++ ys)) :: L) B → Q (.ref p) H') : rCat (.ref a) (.ref l) H Q :=
  ⟨a, l, xs, ys, rfl, rfl, W.get h1, W.get h2, hl, fun p hp => q p _ (W.wd.fresh hp) (W.new hp)⟩
theorem lw_rep (W : Wb c H0 H M L B) (h : (a, .lst xs) ∈ L) (h1 : -(2 ^ 63) ≤ n) (h2 : n < 2 ^ 63) (h3 : xs.length * n.toNat ≤ sizeLine) (q : ∀ p H', H0 p = none → Wb c H0 H' M ((p, .lst (List.replicate n.toNat xs).flatten) :: L) B → Q (.ref p) H') : rRep (.ref a) (.int n) H Q :=
  ⟨a, n, xs, rfl, rfl, W.get h, h1, h2, h3, fun p hp => q p _ (W.wd.fresh hp) (W.new hp)⟩
theorem lw_catN {ds es : List Nat} (W : Wb c H0 H M L B) (h1 : (a, .lst (iN ds)) ∈ L) (h2 : (l, .lst (iN es)) ∈ L) (hl : (iN ds).length + (iN es).length ≤ sizeLine) (q : ∀ p H', H0 p = none → Wb c H0 H' M ((p, .lst (iN (ds ++ es))) :: L) B → Q (.ref p) H') : rCat (.ref a) (.ref l) H Q :=
  lw_cat W h1 h2 hl (by rw [iN_app]; exact q)
theorem rep_zero (k : Nat) : (List.replicate k [V.int 0]).flatten = iN (List.replicate k 0) := by
  induction k with
  | zero => rfl
  | succ k ih => rw [List.replicate_succ, List.flatten_cons, ih]; rfl
theorem lw_repZ (W : Wb c H0 H M L B) (h : (a, .lst [.int 0]) ∈ L) (h1 : 0 ≤ n) (h2 : n < 10000) (q : ∀ p H', H0 p = none → Wb c H0 H' M ((p, .lst (iN (List.replicate n.toNat 0))) :: L) B → Q (.ref p) H') : rRep (.ref a) (.int n) H Q :=
  lw_rep W h (by omega) (by omega) (Evl.sz_of (by rw [List.length_singleton]; omega)) (by rw [rep_zero]; exact q)
theorem lw_append (W : Wb c H0 H M L B) (r : Rp l (.lst xs) (.lst (xs ++ [y])) L L') (hm : H0 l = none ∨ l ∈ M) (hl : xs.length < sizeLine) (q : ∀ H', Wb c H0 H' M L' B → Q .non H') : rAppend (.ref l) [y] H Q :=
  ⟨l, xs, y, rfl, rfl, W.get r.mem, hl, q _ (W.put r .lst hm)⟩
theorem lw_slL {lo hi : Option Int} (W : Wb c H0 H M L B) (h : (a, .lst xs) ∈ L) (q : ∀ p H', H0 p = none → Wb c H0 H' M ((p, .lst (cutV xs lo hi)) :: L) B → Q (.ref p) H') : rSlL K (.ref a) lo hi H Q :=
  ⟨a, xs, rfl, SqL.of (W.get h), fun p hp => q p _ (W.wd.fresh hp) (W.new hp)⟩
theorem lw_list (W : Wb c H0 H M L B) (h : (a, .lst xs) ∈ L) (q : ∀ p H', H0 p = none → Wb c H0 H' M ((p, .lst xs) :: L) B → Q (.ref p) H') : rList K [.ref a] H Q := ⟨a, xs, rfl, .inl (SqL.of (W.get h)), fun p hp => q p _ (W.wd.fresh hp) (W.new hp)⟩
theorem lw_ixT (W : Wb c H0 H M L B) (h : (a, .tup xs) ∈ L) (hv : atI xs n = some y) (q : Q y H) : rIxT K (.ref a) (.int n) H Q := rd_ixT (SqT.of (W.get h)) hv q
theorem lw_kBMl {rm : V → List V → Hp → VK → Prop} (W : Wb c H0 H M L B) (h : (l, .lst xs) ∈ L) (q : tr σ H fun ys H2 => rm (.ref l) ys H2 Q) : kBM K "list" rm tr σ Q (.ref l) H := rd_kBMl (W.get h) q
/-- two lists of integers, alike or not -/
theorem mapI_inj : ∀ {ns ms : List Int}, ns.map V.int = ms.map V.int → ns = ms
  | [], [], _ => rfl
  | [], _ :: _, h => by simp at h
  | _ :: _, [], h => by simp at h
  | x :: xs, y :: ys, h => by
    rw [List.map_cons, List.map_cons] at h
    obtain ⟨h1, h2⟩ := List.cons.inj h
    rw [mapI_inj h2, V.int.inj h1]
theorem lw_neL (W : Wb c H0 H M L B) (h1 : (a, .lst xs) ∈ L) (h2 : (l, .lst ys) ∈ L) (a1 : AllI xs) (a2 : AllI ys) (q : ∀ k : Bool, (xs = ys → k = false) → (xs ≠ ys → k = true) → Q (.bl k) H) : rNeD K (.ref a) (.ref l) H Q := by
  obtain ⟨ns, rfl⟩ := a1
  obtain ⟨ms, rfl⟩ := a2
  refine rd_neLI (SqL.of (W.get h1)) (SqL.of (W.get h2)) (q _ (fun z => ?_) (fun z => ?_))
  · rw [mapI_inj z, decide_eq_true rfl]; rfl
  · rw [decide_eq_false (fun e => z (by rw [e]))]; rfl
theorem lw_eqL (W : Wb c H0 H M L B) (h1 : (a, .lst xs) ∈ L) (h2 : (l, .lst ys) ∈ L) (a1 : AllI xs) (a2 : AllI ys) (q : ∀ k : Bool, (xs = ys → k = true) → (xs ≠ ys → k = false) → Q (.bl k) H) : rEqD K (.ref a) (.ref l) H Q := by
  obtain ⟨ns, rfl⟩ := a1
  obtain ⟨ms, rfl⟩ := a2
  refine rd_eqLI (SqL.of (W.get h1)) (SqL.of (W.get h2)) (q _ (fun z => ?_) (fun z => ?_))
  · rw [mapI_inj z, decide_eq_true rfl]
  · rw [decide_eq_false (fun e => z (by rw [e]))]
/-- where they are alike -/
theorem lw_neLF (W : Wb c H0 H M L B) (h1 : (a, .lst xs) ∈ L) (h2 : (l, .lst ys) ∈ L) (e : xs = ys) (a1 : AllI xs) (q : Q (.bl false) H) : rNeD K (.ref a) (.ref l) H Q :=
  lw_neL W h1 h2 a1 (e ▸ a1) fun k z _ => by rw [z e]; exact q
theorem lw_eqLT (W : Wb c H0 H M L B) (h1 : (a, .lst xs) ∈ L) (h2 : (l, .lst ys) ∈ L) (e : xs = ys) (a1 : AllI xs) (q : Q (.bl true) H) : rEqD K (.ref a) (.ref l) H Q :=
  lw_eqL W h1 h2 a1 (e ▸ a1) fun k z _ => by rw [z e]; exact q
theorem lw_source_of (W : Wb c H0 H M L B) (q : ∀ p o H', H0 p = none → SrcO o → Wb c H0 H' M ((p, o) :: L) B → Q (.ref p) H') : sp_law_source_of K c [.int n] H Q E :=
  ⟨n, rfl, fun p o H' ho ch => q p o H' (W.wd.fresh (ch.new List.mem_cons_self).1) ho (W.chg0 ch)⟩
theorem lw_next (W : Wb c H0 H M L B) (hr : ∀ u, Rp a o u L (L1 u)) (ho : SrcO o) (hm : H0 a = none ∨ a ∈ M) (h0 : 0 < n) (hn : n < 2 ^ 64) (q : ∀ r o' H', 0 ≤ r → r < n → SrcO o' → Wb c H0 H' M (L1 o') B → Q (.int r) H') : sp_law_next K c [.ref a, .int n] H Q E :=
  ⟨a, o, n, rfl, W.get (hr o).mem, ho, h0, nxt64 h0 hn, fun r o' H' h1 h2 h3 ch => q r o' H' h1 h2 h3 (W.chg1 (hr o') ho.chb ch hm)⟩
theorem lw_machine (W : Wb c H0 H M L B) (hr : ∀ u, Rp a o u L (L1 u)) (ho : SrcO o) (hm : H0 a = none ∨ a ∈ M)
    (q : ∀ (x dx : Addr) (b : Nat) (cut : Int) (d e : Addr) o' H', 8 ≤ b → b ≤ 30 → 2 ≤ cut → cut ≤ 1000 → H0 x = none → H0 d = none → H0 e = none → SrcO o' → Wb c H0 H' M ((d, .dK (cK zeros)) :: (e, .lst []) :: (x, .ins c.CMachine dx (mF b cut d e)) :: L1 o') B → Q (.ref x) H') : sp_law_machine K c [.ref a] H Q E :=
  ⟨a, o, rfl, W.get (hr o).mem, ho, fun x dx b cut d e o' H' h1 h2 h3 h4 h5 ch => q x dx b cut d e o' H' h1 h2 h3 h4 (W.wd.fresh (ch.new (o := .ins c.CMachine dx (mF b cut d e)) (by walk_at "mem")).1) (W.wd.fresh (ch.new (o := .dK (cK zeros)) (by walk_at "mem")).1) (W.wd.fresh (ch.new (o := .lst []) (by walk_at "mem")).1) h5 (W.chg1 (hr o') ho.chb ch hm)⟩
theorem lw_mkMachine (W : Wb c H0 H M L B) (h1 : 8 ≤ b) (h2 : b ≤ 30) (h3 : 2 ≤ cut) (h4 : cut ≤ 1000)
    (q : ∀ x dx d e H', H0 x = none → H0 d = none → H0 e = none → Wb c H0 H' M ((d, .dK (cK zeros)) :: (e, .lst []) :: (x, .ins c.CMachine dx (mF b cut d e)) :: L) B → Q (.ref x) H') : kMake c.CMachine (sp_A K c) [] E Q [.int (b : Int), .int cut] H := 
  rd_mkMachine W.self h1 h2 h3 h4 fun x dx d e H' hx hd he S => q x dx d e H' (W.wd.fresh hx) (W.wd.fresh hd) (W.wd.fresh he) ⟨⟨S.get, S.nd, fun b o e hb => S.keep _ _ (W.wd.keep b o e hb) (fun z => nomatch z), fun a h => List.mem_cons_of_mem _ (List.mem_cons_of_mem _ (List.mem_cons_of_mem _ (W.wd.sub a h)))⟩, fun z => ⟨(W.big z).1.same S.toSame, (W.big z).2⟩⟩
theorem lw_shl1 (h : b ≤ 1000) (q : Q (.int ((2 ^ b : Nat) : Int)) H) : rShl (.int 1) (.int (b : Int)) H Q := rd_shl (shl_one h) (by rw [Int.one_mul, Int.toNat_natCast, pwN]; exact q)
theorem lw_kwS {sp : Sp} {i j : Nat} {ix : List Nat} {zs vs : List V} (h : i = j) (e : perm ix zs = vs) (q : sp vs H Q E) : i = j ∧ sp (perm ix zs) H Q E := ⟨h, by rw [e]; exact q⟩
theorem rd_nT {A A' : Hp → Prop} (q : A' H) : kIf A A' (!true) H := rd_F rfl q
theorem rd_nF {A A' : Hp → Prop} (q : A H) : kIf A A' (!false) H := rd_T rfl q
theorem rd_isB {k k' : Bool} (q : Q (.bl (decide (k = k'))) H) : rIsB (.bl k) (.bl k') H Q := ⟨k, k', rfl, rfl, q⟩
theorem bigL_of {b : Nat} {n : Int} (h1 : 8 ≤ b) (h2 : b ≤ 30) (hn : n.natAbs < 2 ^ 4000) : bigL b n := by
  refine ⟨by omega, h2, Nat.lt_of_le_of_lt (digs_length_le (by omega) _ (k := 500) (Nat.lt_of_lt_of_le hn (Nat.pow_le_pow_right (by decide) ?_))) (by decide)⟩
  omega
theorem iN_digs0 : iN (digs b (Int.natAbs 0)) = [] := by rw [Int.natAbs_zero, digs_zero]; rfl
/-- N is L with more ahead of it -/
def Sfx {α : Type} (L N : List α) : Prop := ∃ P, N = P ++ L
theorem Sfx.refl {α : Type} {L : List α} : Sfx L L := ⟨[], rfl⟩
theorem Sfx.cons {α : Type} {L N : List α} {q : α} (h : Sfx L N) : Sfx L (q :: N) := by obtain ⟨P, rfl⟩ := h; exact ⟨q :: P, rfl⟩
theorem Sfx.app {α : Type} {L N P : List α} (h : Sfx L N) : Sfx L (P ++ N) := by obtain ⟨P', rfl⟩ := h; exact ⟨P ++ P', by rw [List.append_assoc]⟩
theorem lw_kIT {R : It → Hp → Prop} (W : Wb c H0 H M L B) (h : (a, .tup xs) ∈ L) (q : R (Itt K a) H) : kIT K R (.ref a) H := rd_kIT (SqT.of (W.get h)) q
theorem lw_kIL {R : It → Hp → Prop} (W : Wb c H0 H M L B) (h : (a, .lst xs) ∈ L) (q : R (Itl K a) H) : kIL K R (.ref a) H := rd_kIL (SqL.of (W.get h)) q
theorem kMake_dvs {C : Addr} {sp : Sp} {dvs : List V} (q : kMake C sp [] E Q (vs ++ dvs) H) : kMake C sp dvs E Q vs H := fun x dx h1 h2 h3 => by
  have := q x dx h1 h2 h3
  rwa [List.append_nil] at this
theorem lw_mkM1 (W : Wb c H0 H M L B) (h1 : 8 ≤ b) (h2 : b ≤ 30) (h3 : 2 ≤ cut) (h4 : cut ≤ 1000)
    (q : ∀ x dx d e H', H0 x = none → H0 d = none → H0 e = none → Wb c H0 H' M ((d, .dK (cK zeros)) :: (e, .lst []) :: (x, .ins c.CMachine dx (mF b cut d e)) :: L) B → Q (.ref x) H') : kMake c.CMachine (sp_A K c) [.int cut] E Q [.int (b : Int)] H :=
  kMake_dvs (lw_mkMachine W h1 h2 h3 h4 q)
theorem lw_mkM0 (W : Wb c H0 H M L B) 
    (q : ∀ x dx d e H', H0 x = none → H0 d = none → H0 e = none → Wb c H0 H' M ((d, .dK (cK zeros)) :: (e, .lst []) :: (x, .ins c.CMachine dx (mF 30 70 d e)) :: L) B → Q (.ref x) H') : kMake c.CMachine (sp_A K c) [.int 30, .int 70] E Q [] H :=
  kMake_dvs (lw_mkMachine (b := 30) W (by decide) (by decide) (by decide) (by decide) q)
theorem mF_meth' {m : Str} (h : (m == "entered" || m == "counts" || m == "base" || m == "limit_of_rows" || m == "width") = false) : (mF b cut d e).lookup m = none := by
  simp only [Bool.or_eq_false_iff, beq_eq_false_iff_ne] at h
  exact mF_none h.1.1.1.1 h.1.1.1.2 h.1.1.2 h.1.2 h.2
theorem bF_meth' {s : Int} {m : Str} (h : (m == "row" || m == "side" || m == "width") = false) : (bF b s r).lookup m = none := by
  simp only [Bool.or_eq_false_iff, beq_eq_false_iff_ne] at h
  exact bF_none h.1.1 h.1.2 h.2
theorem lw_methM {sp : Sp} {f : Str} (W : Wb c H0 H M L B) (h : (a, .ins c.CMachine dx (mF b cut d e)) ∈ L) (hl : (f == "entered" || f == "counts" || f == "base" || f == "limit_of_rows" || f == "width") = false) (q : tr σ H fun vs H2 => sp (.ref a :: vs) H2 Q E) : kMeth c.CMachine f sp [] E tr σ Q (.ref a) H :=
  rd_kMeth (W.get h) (mF_meth' hl) q
theorem lw_methB {sp : Sp} {f : Str} (W : Wb c H0 H M L B) (h : (x, b, n) ∈ B) (hl : (f == "row" || f == "side" || f == "width") = false) (q : tr σ H fun vs H2 => sp (.ref x :: vs) H2 Q E) : kMeth c.CBig f sp [] E tr σ Q (.ref x) H := by
  obtain ⟨dx, r, h1, _⟩ := (W.big h).1.at_
  exact rd_kMeth h1 (bF_meth' hl) q
theorem lw_A8 (W : Wb c H0 H M L B) (h : (a, .ins c.CMachine dx (mF b cut d e)) ∈ L) (q : ∀ p H', H0 p = none → Wb c H0 H' M ((p, .tup [.int (b : Int), .int cut]) :: L) B → Q (.ref p) H') : sp_A9 K c [.ref a] H Q E :=
  ⟨a, dx, b, cut, d, e, rfl, W.get h, fun p H' ch => q p H' (W.wd.fresh (ch.new List.mem_cons_self).1) (W.chg0 ch)⟩
theorem lw_Ba (W : Wb c H0 H M L B) (h : (a, .ins c.CMachine dx (mF b cut d e)) ∈ L) (h2 : (e, .lst xs) ∈ L) (q : ∀ p H', H0 p = none → Wb c H0 H' M ((p, .lst xs) :: L) B → Q (.ref p) H') : sp_N K c [.ref a] H Q E :=
  ⟨a, dx, b, cut, d, e, xs, rfl, W.get h, W.get h2, fun p H' ch => q p H' (W.wd.fresh (ch.new List.mem_cons_self).1) (W.chg0 ch)⟩
theorem lw_big (W : Wb c H0 H M L B) (h : (a, .ins c.CMachine dx (mF b cut d e)) ∈ L) (hl : bigL b n) (q : ∀ x H', H0 x = none → Wb c H0 H' M L ((x, b, n) :: B) → Q (.ref x) H') : sp_big K c [.ref a, .int n] H Q E :=
  ⟨a, dx, b, cut, d, e, n, rfl, W.get h, hl.1, Nat.lt_trans hl.2.2 (by decide), NewBig.at fun x H' ch hx hB => q x H' (W.wd.fresh hx) ((W.chg0 ch).add hB hl)⟩
theorem lw_Bb (W : Wb c H0 H M L B) (h : (x, b, n) ∈ B) (q : Q (.int (sgn n)) H) : sp_O K c [.ref x] H Q E := ⟨x, b, n, rfl, (W.big h).1, q⟩
theorem lw_Az (W : Wb c H0 H M L B) (h : (x, b, n) ∈ B) (q : Q (.int (b : Int)) H) : sp_P K c [.ref x] H Q E := ⟨x, b, n, rfl, (W.big h).1, q⟩
theorem lw_Bc (W : Wb c H0 H M L B) (h : (x, b, n) ∈ B) (q : ∀ p H', H0 p = none → Wb c H0 H' M ((p, .lst (iN (digs b n.natAbs))) :: L) B → Q (.ref p) H') : sp_Q K c [.ref x] H Q E :=
  ⟨x, b, n, rfl, (W.big h).1, fun p H' ch => q p H' (W.wd.fresh (ch.new List.mem_cons_self).1) (W.chg0 ch)⟩
theorem lw_T (W : Wb c H0 H M L B) (h : (x, b, n) ∈ B) (q : ∀ H', Wb c H0 H' M L B → Q (.int n) H') : sp_T K c [.ref x] H Q E := ⟨x, b, n, rfl, (W.big h).1, (W.big h).2, fun H' s => q H' (W.same s)⟩
theorem bigL_neg (h : bigL b n) : bigL b (-n) := ⟨h.1, h.2.1, by rw [Int.natAbs_neg]; exact h.2.2⟩
theorem bigL_abs (h : bigL b n) : bigL b (n.natAbs : Int) := ⟨h.1, h.2.1, by rw [Int.natAbs_natCast]; exact h.2.2⟩
theorem lw_negative (W : Wb c H0 H M L B) (h : (x, b, n) ∈ B) (q : ∀ x' H', H0 x' = none → Wb c H0 H' M L ((x', b, -n) :: B) → Q (.ref x') H') : sp_negative K c [.ref x] H Q E :=
  ⟨x, b, n, rfl, (W.big h).1, fun x' H' hx ch hB => q x' H' (W.wd.fresh hx) ((W.chg0 ch).add hB (bigL_neg (W.big h).2))⟩
theorem lw_absolute (W : Wb c H0 H M L B) (h : (x, b, n) ∈ B) (q : ∀ x' H', H0 x' = none → Wb c H0 H' M L ((x', b, (n.natAbs : Int)) :: B) → Q (.ref x') H') : sp_absolute K c [.ref x] H Q E :=
  ⟨x, b, n, rfl, (W.big h).1, fun x' H' hx ch hB => q x' H' (W.wd.fresh hx) ((W.chg0 ch).add hB (bigL_abs (W.big h).2))⟩
theorem lw_ownEq (P : PB K c) (W : Wb c H0 H M L B) (h : (x, b, n) ∈ B) (h' : (x', b', m) ∈ B) (q : ∀ H', Wb c H0 H' M L B → Q (.bl (decide (b = b' ∧ n = m))) H') : rOwnEq K c.CBig (sp_S K c) E (.ref x) (.ref x') H Q := by
  obtain ⟨dx, r, h1, _⟩ := (W.big h).1.at_
  obtain ⟨dx', r', h1', _⟩ := (W.big h').1.at_
  exact rd_ownEq h1 (.base (.ins h1' P.isc.cl P.isc.ha P.isc.hn P.isc.htk P.isc.hm)) (nf_self _ _) ⟨x, b, n, .ref x', rfl, (W.big h).1, (W.big h).2.1, .inl ⟨x', b', m, rfl, (W.big h').1, (W.big h').2.1, fun H' s => ⟨_, rfl, q H' (W.same s)⟩⟩⟩
theorem lw_ownNe (W : Wb c H0 H M L B) (h : (x, b, n) ∈ B) (h' : (x', b', m) ∈ B) (q : ∀ H', Wb c H0 H' M L B → Q (.bl (!decide (b = b' ∧ n = m))) H') : rOwnNe K c.CBig (sp_S K c) E (.ref x) (.ref x') H Q := by
  obtain ⟨dx, r, h1, _⟩ := (W.big h).1.at_
  obtain ⟨dx', r', h1', _⟩ := (W.big h').1.at_
  exact rd_ownNe h1 h1' ⟨x, b, n, .ref x', rfl, (W.big h).1, (W.big h).2.1, .inl ⟨x', b', m, rfl, (W.big h').1, (W.big h').2.1, fun H' s => ⟨_, rfl, q H' (W.same s)⟩⟩⟩
theorem lw_ownEqI (N : NoSub K c.CBig) (W : Wb c H0 H M L B) (h : (x, b, n) ∈ B) (q : Q (.bl false) H) : rOwnEq K c.CBig (sp_S K c) E (.ref x) (.int m) H Q := by
  obtain ⟨dx, r, h1, _⟩ := (W.big h).1.at_
  exact rd_ownEq h1 (.base (.int m)) (N.nf (by decide)) ⟨x, b, n, .int m, rfl, (W.big h).1, (W.big h).2.1, .inr ⟨_, .base (.int m), N.kit (by decide), ⟨_, rfl, q⟩⟩⟩
theorem lw_ownEqL (N : NoSub K c.CBig) (W : Wb c H0 H M L B) (h : (x, b, n) ∈ B) (h' : (l, .lst xs) ∈ L) (q : Q (.bl false) H) : rOwnEq K c.CBig (sp_S K c) E (.ref x) (.ref l) H Q := by
  obtain ⟨dx, r, h1, _⟩ := (W.big h).1.at_
  exact rd_ownEq h1 (.base (.lst (W.get h'))) (N.nf (by decide)) ⟨x, b, n, .ref l, rfl, (W.big h).1, (W.big h).2.1, .inr ⟨_, .base (.lst (W.get h')), N.kit (by decide), ⟨_, rfl, q⟩⟩⟩
/-- a law's promise -/
def sp_law0 (K : PySem.W.Frag) : Sp := fun vs H Q _ => ∃ (a : Addr) (ns : List Int), vs = [.ref a] ∧ SqL K H a (ns.map V.int) ∧ ns.length ≤ 63 ∧ ∀ H', Q (.bl true) H'
theorem Chg.same {H' : Hp} {ns : List (Addr × HO)} (h : Chg H H' [] ns) : Same H H' := fun b o e => h.keep b o e (fun z => nomatch z)
/-- what is left of a tally of zeros: nothing -/
theorem zero_rows {i : Nat} {t : List V} (h : (rowsOf zeros)[i]? = some t) : ∃ w, t = [.str w, .int 0] := by
  have hi : i < 10 := (List.getElem?_eq_some_iff.mp h).1
  have hw : words[i]? = some (words[i]'hi) := List.getElem?_eq_getElem _
  rw [rows_get hw (zero_get hi)] at h
  exact ⟨_, (Option.some.inj h).symm⟩
theorem zero_tups {H1 : Hp} {p : Addr} {ps : List Addr} (hl : ps.length = 10) (ch : Chg H H1 [] ((p, .lst (ps.map V.ref)) :: tl2 ps (rowsOf zeros))) : ∀ q ∈ ps, ∃ w, H1 q = some (.tup [.str w, .int 0]) := fun q hq => by
  obtain ⟨i, hi⟩ := List.mem_iff_getElem?.mp hq
  have hlt : i < 10 := by rw [← hl]; exact (List.getElem?_eq_some_iff.mp hi).1
  have hr : (rowsOf zeros)[i]? = some ((rowsOf zeros)[i]'hlt) := List.getElem?_eq_getElem _
  obtain ⟨w, hw⟩ := zero_rows hr
  have := (ch.new (List.mem_cons_of_mem _ (tl2_mem hi hr))).2
  rw [hw] at this
  exact ⟨w, this⟩
theorem Rp.same : ∀ {L L' : List (Addr × HO)}, Rp a o o L L' → L' = L
  | _, _, .here => rfl
  | _, _, .there r => congrArg (List.cons _) r.same
/-- the tally of a machine that has counted nothing, what of it is not 0 -/
theorem lw_tally0 (W : Wb c H0 H M L B) (h : (a, .ins c.CMachine dx (mF b cut d e)) ∈ L) (h2 : (d, .dK (cK zeros)) ∈ L)
    (q : ∀ p (ps : List Addr) H', ps.length = 10 → H0 p = none → (∀ q ∈ ps, ∃ w, H' q = some (.tup [.str w, .int 0])) → Wb c H0 H' M ((p, .lst (ps.map V.ref)) :: (tl2 ps (rowsOf zeros) ++ L)) B → Q (.ref p) H') : sp_J K c [.ref a] H Q E :=
  ⟨a, dx, b, cut, d, e, zeros, rfl, W.get h, W.get h2, rfl, fun p ps H' hl ch => q p ps H' hl (W.wd.fresh (ch.new List.mem_cons_self).1) (zero_tups hl ch) (W.chg0 ch)⟩
theorem lw_lc0 {te : TE} {i j : Nat} {ps : List Addr} (W : Wb c H0 H M L B) (h : (p, .lst (ps.map V.ref)) ∈ L) (hz : ∀ q ∈ ps, ∃ w, H q = some (.tup [.str w, .int 0])) (hw : ∀ v w, wipe (((wipe σ [i, j]).set i (some v)).set j (some w)) [i, j] = wipe σ [i, j])
    (hv : ∀ v w, (((wipe σ [i, j]).set i (some v)).set j (some w))[j]? = some (some w))
    (q : ∀ D H', H0 D = none → Wb c H0 H' M ((D, .lst []) :: L) B → Q (.ref D) H') : kLc (gTup K 2 (gCons (gName i) (gCons (gName j) gNil))) (tTest (tOp rNe (tVar j) (tC (.int 0)))) te [i, j] σ Q (Itl K p) H := by
  refine rd_lcL (xs := ps.map V.ref) fun D hD => ⟨fun i H' => H' = upd H D (.lst []), rfl, ?_, ?_, ?_⟩
  · rintro i H' _ rfl
    have W1 := W.new (o := .lst []) hD
    exact SqL.of (W1.get (List.mem_cons_of_mem _ h))
  · rintro i' x H' hx rfl
    obtain ⟨z, hz1, rfl⟩ := List.mem_map.mp (List.mem_of_getElem? hx)
    obtain ⟨w, hw1⟩ := hz z hz1
    have hne : z ≠ D := fun e => by rw [e, hD] at hw1; cases hw1
    refine rd_gTup (xs := [.str w, .int 0]) (SqT.of (by rw [upd_ne hne]; exact hw1)) rfl ?_
    refine rd_gCons ?_
    unfold gName
    refine rd_gCons ?_
    refine rd_gNil ?_
    refine ⟨hw _ _, ?_⟩
    refine rd_test (rd_op (rd_var (hv _ _) (rd_c ?_)))
    refine rd_neI (rd_kB ?_)
    exact rd_Fn rfl rfl
  · rintro H' rfl
    exact q D _ (W.wd.fresh hD) (W.new hD)
end
local macro_rules | `(tactic| walk_at "sfx") => `(tactic| repeat (first | exact Sfx.refl | with_reducible refine Sfx.cons ?_ | with_reducible refine Sfx.app ?_))
local macro_rules | `(tactic| walk_at "len2") => `(tactic| first | walk_at "len" | exact Nat.le_trans (m := 2 ^ 23) (by simp only [iN_length, List.length_append, List.length_replicate, List.length_cons, List.length_nil, List.length_map]; omega) (by decide) | exact Nat.lt_of_lt_of_le (m := 2 ^ 23) (by simp only [iN_length, List.length_append, List.length_replicate, List.length_cons, List.length_nil, List.length_map]; omega) (by decide))
local macro_rules | `(tactic| walk_at "al") => `(tactic| repeat (first | with_reducible exact AllI.nil | with_reducible exact AllI.n _ | with_reducible exact AllI.m _ | with_reducible refine AllI.app ?_ ?_ | with_reducible refine AllI.cons ?_ | with_reducible refine AllI.rep ?_))
local macro_rules | `(tactic| walk_at "tst") => `(tactic| first | with_reducible exact rfl | assumption | with_reducible exact ⟨rfl, rfl⟩ | omega)
local macro_rules | `(tactic| walk_at "bl") => `(tactic| first | assumption | exact bigL_of (by omega) (by omega) (by first | assumption | decide +kernel))
set_option hygiene false in
local macro_rules | `(tactic| walk_at "lw1") => `(tactic| first
  | walk_at "rd1"
  | ((with_reducible refine' lw_lst (by assumption) ?hh1 ?_); (case hh1 => walk_at "len2"); intro p H' hp W)
  | ((with_reducible refine' lw_tup (by assumption) ?hh1 ?_); (case hh1 => walk_at "len2"); intro p H' hp W)
  | ((with_reducible refine' lw_catN (by assumption) ?hh1 ?hh2 ?hh3 ?_); (case hh1 => walk_at "mem"); (case hh2 => walk_at "mem"); (case hh3 => walk_at "len2"); intro p H' hp W)
  | ((with_reducible refine' lw_repZ (by assumption) ?hh1 ?hh2 ?hh3 ?_); (case hh1 => walk_at "mem"); (case hh2 => omega); (case hh3 => omega); intro p H' hp W)
  | ((with_reducible refine' lw_cat (by assumption) ?hh1 ?hh2 ?hh3 ?_); (case hh1 => walk_at "mem"); (case hh2 => walk_at "mem"); (case hh3 => walk_at "len2"); intro p H' hp W)
  | ((with_reducible refine' lw_append (by assumption) ?hh1 ?hh2 ?hh3 ?_); (case hh1 => walk_at "rp"); (case hh2 => walk_at "may"); (case hh3 => walk_at "len2"); intro H' W)
  | ((with_reducible refine' lw_slL (by assumption) ?hh1 ?_); (case hh1 => walk_at "mem"); intro p H' hp W)
  | ((with_reducible refine' lw_list (by assumption) ?hh1 ?_); (case hh1 => walk_at "mem"); intro p H' hp W)
  | ((with_reducible refine' lw_ixT (by assumption) ?hh1 ?hh2 ?_); (case hh1 => walk_at "mem"); (case hh2 => exact rfl))
  | ((with_reducible refine' rd_mul ?hh1 ?_); (case hh1 => first | exact mul_okR (by omega) (by omega) | exact mul_okL (by omega) (by omega)))
  | ((with_reducible refine' lw_kBMl (by assumption) ?hh1 ?_); (case hh1 => walk_at "mem"))
  | ((with_reducible refine' lw_neLF (by assumption) ?hh1 ?hh2 ?hh6 ?hh3 ?_); (case hh1 => walk_at "mem"); (case hh2 => walk_at "mem"); (case hh6 => first | with_reducible exact rfl | assumption | exact iN_digs0); (case hh3 => walk_at "al"))
  | ((with_reducible refine' lw_eqLT (by assumption) ?hh1 ?hh2 ?hh6 ?hh3 ?_); (case hh1 => walk_at "mem"); (case hh2 => walk_at "mem"); (case hh6 => first | with_reducible exact rfl | assumption | exact iN_digs0); (case hh3 => walk_at "al"))
  | ((with_reducible refine' lw_source_of (by assumption) ?_); intro p o H' hp ho W)
  | ((with_reducible refine' lw_next (by assumption) ?hh1 ?hh2 ?hh3 ?hh4 ?hh5 ?_); (case hh1 => (intro u; walk_at "rp")); (case hh2 => assumption); (case hh3 => walk_at "may"); (case hh4 => walk_at "ari"); (case hh5 => walk_at "ari"); intro r o H' hr0 hr1 ho W)
  | ((with_reducible refine' lw_machine (by assumption) ?hh1 ?hh2 ?hh3 ?_); (case hh1 => (intro u; walk_at "rp")); (case hh2 => assumption); (case hh3 => walk_at "may"); intro x dx b cut d e o H' hb1 hb2 hc1 hc2 hx hd he ho W)
  | ((with_reducible refine' lw_methM (by assumption) ?hh1 ?hh2 ?_); (case hh1 => walk_at "mem"); (case hh2 => decide))
  | ((with_reducible refine' lw_methB (by assumption) ?hh1 ?hh2 ?_); (case hh1 => walk_at "mem"); (case hh2 => decide))
  | ((with_reducible refine' lw_A8 (by assumption) ?hh1 ?_); (case hh1 => walk_at "mem"); intro p H' hp W)
  | ((with_reducible refine' lw_Ba (by assumption) ?hh1 ?hh2 ?_); (case hh1 => walk_at "mem"); (case hh2 => walk_at "mem"); intro p H' hp W)
  | ((with_reducible refine' lw_big (by assumption) ?hh1 ?hh2 ?_); (case hh1 => walk_at "mem"); (case hh2 => walk_at "bl"); intro x H' hx W)
  | ((with_reducible refine' lw_normalP (by assumption) ?hh1 ?hh2 ?hh3 ?hh4 ?_); (case hh1 => walk_at "mem"); (case hh2 => walk_at "mem"); (case hh3 => walk_at "bl"); (case hh4 => omega); intro x H' hx W)
  | ((with_reducible refine' lw_normalD (by assumption) ?hh1 ?hh2 ?hh3 ?_); (case hh1 => walk_at "mem"); (case hh2 => walk_at "mem"); (case hh3 => walk_at "bl"); intro x H' hx W)
  | ((with_reducible refine' lw_normalN (by assumption) ?hh1 ?hh2 ?hh3 ?_); (case hh1 => walk_at "mem"); (case hh2 => walk_at "mem"); (case hh3 => walk_at "bl"); intro x H' hx W)
  | ((with_reducible refine' lw_normalZ (by assumption) ?hh1 ?hh2 ?hh3 ?hh4 ?hh5 ?hh6 ?_); (case hh1 => walk_at "mem"); (case hh2 => walk_at "mem"); (case hh3 => omega); (case hh4 => omega); (case hh5 => omega); (case hh6 => omega); intro x H' hx W)
  | ((with_reducible refine' lw_normalE (by assumption) ?hh1 ?hh2 ?hh3 ?hh4 ?hh6 ?_); (case hh1 => walk_at "mem"); (case hh2 => walk_at "mem"); (case hh3 => omega); (case hh4 => omega); (case hh6 => omega); intro x H' hx W)
  | ((with_reducible refine' lw_split (by assumption) ?hh1 ?hh2 ?hh3 ?_); (case hh1 => omega); (case hh2 => omega); (case hh3 => omega); intro p H' hp W)
  | ((with_reducible refine' lw_Bb (by assumption) ?hh1 ?_); (case hh1 => walk_at "mem"))
  | ((with_reducible refine' lw_Az (by assumption) ?hh1 ?_); (case hh1 => walk_at "mem"))
  | ((with_reducible refine' lw_Bc (by assumption) ?hh1 ?_); (case hh1 => walk_at "mem"); intro p H' hp W)
  | ((with_reducible refine' lw_T (by assumption) ?hh1 ?_); (case hh1 => walk_at "mem"); intro H' W)
  | ((with_reducible refine' lw_negative (by assumption) ?hh1 ?_); (case hh1 => walk_at "mem"); intro x H' hx W)
  | ((with_reducible refine' lw_absolute (by assumption) ?hh1 ?_); (case hh1 => walk_at "mem"); intro x H' hx W)
  | ((with_reducible refine' lw_ownNe (by assumption) ?hh1 ?hh2 ?_); (case hh1 => walk_at "mem"); (case hh2 => walk_at "mem"); intro H' W)
  | ((with_reducible refine' lw_ownEq (by assumption) (by assumption) ?hh1 ?hh2 ?_); (case hh1 => walk_at "mem"); (case hh2 => walk_at "mem"); intro H' W)
  | ((with_reducible refine' lw_ownEqI (by assumption) (by assumption) ?hh1 ?_); (case hh1 => walk_at "mem"))
  | ((with_reducible refine' lw_ownEqL (by assumption) (by assumption) ?hh1 ?hh2 ?_); (case hh1 => walk_at "mem"); (case hh2 => walk_at "mem"))
  | ((with_reducible refine' lw_kIT (by assumption) ?hh1 ?_); (case hh1 => walk_at "mem"))
  | ((with_reducible refine' lw_kIL (by assumption) ?hh1 ?_); (case hh1 => walk_at "mem"))
  | ((with_reducible refine' lw_mkMachine (by assumption) ?hh1 ?hh2 ?hh3 ?hh4 ?_); (case hh1 => omega); (case hh2 => omega); (case hh3 => omega); (case hh4 => omega); intro x dx d e H' hx hd he W)
  | ((with_reducible refine' lw_mkM1 (by assumption) ?hh1 ?hh2 ?hh3 ?hh4 ?_); (case hh1 => omega); (case hh2 => omega); (case hh3 => omega); (case hh4 => omega); intro x dx d e H' hx hd he W)
  | ((with_reducible refine' lw_mkM0 (by assumption) ?_); intro x dx d e H' hx hd he W)
  | ((with_reducible refine' lw_tally0 (by assumption) ?hh1 ?hh2 ?_); (case hh1 => walk_at "mem"); (case hh2 => walk_at "mem"); intro p ps H' hpl hp hz W)
  | ((with_reducible refine' lw_lc0 (by assumption) ?hh1 ?hh2 ?hh3 ?hh4 ?_); (case hh1 => walk_at "mem"); (case hh2 => assumption); (case hh3 => (intro _ _; exact rfl)); (case hh4 => (intro _ _; exact rfl)); intro p H' hp W)
  | ((with_reducible refine' lw_shl1 ?hh1 ?_); (case hh1 => omega))
  | (with_reducible refine' rd_isB ?_)
  | ((with_reducible refine' lw_kwS ?hh1 ?hh2 ?_); (case hh1 => exact rfl); (case hh2 => (simp only [perm, List.map_cons, List.map_nil, List.getD_cons_zero, List.getD_cons_succ]; try rfl)))
  | (with_reducible refine' rd_nT ?_)
  | (with_reducible refine' rd_nF ?_)
  | (with_reducible refine' rd_T rfl ?_)
  | (with_reducible refine' rd_F rfl ?_)
  | ((with_reducible refine' rd_Fn ?hh1 ?_); (case hh1 => walk_at "tst"))
  | ((with_reducible refine' rd_Td ?hh1 ?_); (case hh1 => walk_at "tst"))
  | ((with_reducible refine' rd_Fd ?hh1 ?_); (case hh1 => walk_at "tst"))
  | ((with_reducible refine' rd_Tn ?hh1 ?_); (case hh1 => walk_at "tst")))
local macro_rules | `(tactic| walk_at "lw") => `(tactic| repeat (walk_at "lw1"))
section
variable {K : PySem.W.Frag} {c : Pc} {vs xs ys : List V} {H H0 H' : Hp} {Q : VK} {E : XK} {M : List Addr} {L L' ns cs : List (Addr × HO)} {L1 : HO → List (Addr × HO)} {B : List (Addr × Nat × Int)} {b b' : Nat} {cut n m : Int} {a d e dx r x x' l p : Addr} {o u : HO} {σ : L2.St} {y : V} {tr : TA}
def sgnOk (s : Int) (v : Nat) : Prop := s = 1 ∨ s = -1 ∨ (s = 0 ∧ v = 0)
def sp_normal (K : PySem.W.Frag) (c : Pc) : Sp := fun vs H Q _ => ∃ (m dx : Addr) (b : Nat) (cut : Int) (d e l : Addr) (s : Int) (ds : List Nat), vs = [.ref m, .int s, .ref l] ∧ H m = some (.ins c.CMachine dx (mF b cut d e)) ∧ H l = some (.lst (iN ds)) ∧ b ≠ 0 ∧ Digs b ds ∧ ds.length < 2 ^ 22 ∧ sgnOk s (val b ds) ∧
  ∀ x H', H x = none → Chg H H' [] [] → BigAt c H' x b (s * (val b ds : Nat)) → Q (.ref x) H'
theorem lw_normal {ds : List Nat} {s : Int} (W : Wb c H0 H M L B) (h : (a, .ins c.CMachine dx (mF b cut d e)) ∈ L) (hl : (l, .lst (iN ds)) ∈ L) (hb : b ≠ 0) (hb' : b ≤ 30) (hd : Digs b ds) (hlen : ds.length < 2 ^ 22) (hs : sgnOk s (val b ds))
    (q : ∀ x H', H0 x = none → Wb c H0 H' M L ((x, b, s * (val b ds : Nat)) :: B) → Q (.ref x) H') : sp_normal K c [.ref a, .int s, .ref l] H Q E :=
  ⟨a, dx, b, cut, d, e, l, s, ds, rfl, W.get h, W.get hl, hb, hd, hlen, hs, fun x H' hx ch hB => q x H' (W.wd.fresh hx) ((W.chg0 ch).add hB ⟨hb, hb', by
    have e3 : (s * (val b ds : Nat)).natAbs = val b ds := by
      rcases hs with rfl | rfl | ⟨rfl, z⟩
      · omega
      · omega
      · omega
    rw [e3, ← val_strip b ds, digs_val hb (fun d z => hd d (strip_mem z)) (strip_norm ds)]
    exact Nat.lt_of_le_of_lt (strip_length ds) hlen⟩)⟩
theorem Digs.pad {ds : List Nat} {k : Nat} (h : Digs b ds) : Digs b (ds ++ List.replicate k 0) := fun d hd => by
  rcases List.mem_append.mp hd with z | z
  · exact h d z
  · rw [(List.mem_replicate.mp z).2]; exact Nat.two_pow_pos b
theorem val_pad (ds : List Nat) (k : Nat) : val b (ds ++ List.replicate k 0) = val b ds := by
  rw [← val_strip, strip_app_zeros _ (fun d z => (List.mem_replicate.mp z).2), val_strip]
theorem sgn_ok (n : Int) : sgnOk (sgn n) n.natAbs := by
  unfold sgnOk sgn
  split
  · exact .inr (.inl rfl)
  · split
    · rename_i h; subst h; exact .inr (.inr ⟨rfl, rfl⟩)
    · exact .inl rfl
theorem lw_normalP {k : Nat} (W : Wb c H0 H M L B) (h : (a, .ins c.CMachine dx (mF b cut d e)) ∈ L) (hl : (l, .lst (iN (digs b n.natAbs ++ List.replicate k 0))) ∈ L) (hL : bigL b n) (hk : (digs b n.natAbs).length + k < 2 ^ 22)
    (q : ∀ x H', H0 x = none → Wb c H0 H' M L ((x, b, n) :: B) → Q (.ref x) H') : sp_normal K c [.ref a, .int (sgn n), .ref l] H Q E :=
  lw_normal W h hl hL.1 hL.2.1 (digs_lt hL.1 _).pad (by rw [List.length_append, List.length_replicate]; exact hk) (by rw [val_pad, val_digs hL.1]; exact sgn_ok n) (by rw [val_pad, val_digs hL.1, sgn_mul]; exact q)
theorem lw_normalD (W : Wb c H0 H M L B) (h : (a, .ins c.CMachine dx (mF b cut d e)) ∈ L) (hl : (l, .lst (iN (digs b n.natAbs))) ∈ L) (hL : bigL b n)
    (q : ∀ x H', H0 x = none → Wb c H0 H' M L ((x, b, n) :: B) → Q (.ref x) H') : sp_normal K c [.ref a, .int (sgn n), .ref l] H Q E :=
  lw_normal W h hl hL.1 hL.2.1 (digs_lt hL.1 _) hL.2.2 (by rw [val_digs hL.1]; exact sgn_ok n) (by rw [val_digs hL.1, sgn_mul]; exact q)
theorem lw_normalN (W : Wb c H0 H M L B) (h : (a, .ins c.CMachine dx (mF b cut d e)) ∈ L) (hl : (l, .lst (iN (digs b n.natAbs))) ∈ L) (hL : bigL b n)
    (q : ∀ x H', H0 x = none → Wb c H0 H' M L ((x, b, -n) :: B) → Q (.ref x) H') : sp_normal K c [.ref a, .int (0 - sgn n), .ref l] H Q E := by
  rw [← sgn_neg]
  refine lw_normalD (n := -n) W h ?_ (bigL_neg hL) q
  rw [Int.natAbs_neg]; exact hl
theorem lw_normalZ {s : Int} {k : Nat} (W : Wb c H0 H M L B) (h : (a, .ins c.CMachine dx (mF b cut d e)) ∈ L) (hl : (l, .lst (iN (List.replicate k 0))) ∈ L) (hb : b ≠ 0) (hb' : b ≤ 30) (hk : k < 2 ^ 22) (hs : -1 ≤ s ∧ s ≤ 1)
    (q : ∀ x H', H0 x = none → Wb c H0 H' M L ((x, b, 0) :: B) → Q (.ref x) H') : sp_normal K c [.ref a, .int s, .ref l] H Q E := by
  have hv : val b (List.replicate k 0) = 0 := val_zeros b fun d z => (List.mem_replicate.mp z).2
  refine lw_normal W h hl hb hb' (fun d z => by rw [(List.mem_replicate.mp z).2]; exact Nat.two_pow_pos b) (by rw [List.length_replicate]; exact hk) (by rw [hv]; unfold sgnOk; omega) ?_
  rw [hv]
  have e : s * ((0 : Nat) : Int) = 0 := by simp
  rw [e]
  exact q
theorem lw_normalE {s : Int} (W : Wb c H0 H M L B) (h : (a, .ins c.CMachine dx (mF b cut d e)) ∈ L) (hl : (l, .lst []) ∈ L) (hb : b ≠ 0) (hb' : b ≤ 30) (hs : -1 ≤ s ∧ s ≤ 1)
    (q : ∀ x H', H0 x = none → Wb c H0 H' M L ((x, b, 0) :: B) → Q (.ref x) H') : sp_normal K c [.ref a, .int s, .ref l] H Q E :=
  lw_normalZ (k := 0) W h hl hb hb' (by decide) hs q
def sp_law_split (K : PySem.W.Frag) (c : Pc) : Sp := fun vs H Q _ => ∃ (n : Int) (b : Nat), vs = [.int n, .int ((2 ^ b : Nat) : Int)] ∧ b ≠ 0 ∧ b ≤ 60 ∧ (digs b n.natAbs).length < 2 ^ 23 ∧ ∀ l H', Chg H H' [] [(l, .lst (iN (digs b n.natAbs)))] → Q (.ref l) H'
theorem lw_split (W : Wb c H0 H M L B) (hb : b ≠ 0) (hb' : b ≤ 60) (hl : (digs b n.natAbs).length < 2 ^ 23) (q : ∀ p H', H0 p = none → Wb c H0 H' M ((p, .lst (iN (digs b n.natAbs))) :: L) B → Q (.ref p) H') : sp_law_split K c [.int n, .int ((2 ^ b : Nat) : Int)] H Q E :=
  ⟨n, b, rfl, hb, hb', hl, fun p H' ch => q p H' (W.wd.fresh (ch.new List.mem_cons_self).1) (W.chg0 ch)⟩
end
section
variable {K : PySem.W.Frag} {c : Pc} {vs xs ys : List V} {H H0 H' : Hp} {Q : VK} {E : XK} {M : List Addr} {L L' cs : List (Addr × HO)} {L1 : HO → List (Addr × HO)} {B : List (Addr × Nat × Int)} {b b' : Nat} {cut n m : Int} {a d e dx r x x' l p : Addr} {o u : HO} {σ : L2.St} {y : V} {tr : TA} {ns : List Int}
theorem cK_put {i : Nat} {w : Str} {n v : Int} (h1 : words[i]? = some w) (h2 : ns[i]? = some n) : putK (cK ns) (Sum.inr w : Key) (.int v) = cK (ns.set i v) := by
  have idm : ∀ (ws : List Str) (ms : List Int), w ∉ ws → (List.zipWith (fun (w : Str) n => ((Sum.inr w : Key), V.int n)) ws ms).map (fun kv => if kv.1 = (Sum.inr w : Key) then (kv.1, V.int v) else kv) = List.zipWith (fun (w : Str) n => ((Sum.inr w : Key), V.int n)) ws ms := by
    intro ws
    induction ws with
    | nil => intro ms _; rfl
    | cons u ws ih =>
      intro ms hw
      cases ms with
      | nil => rfl
      | cons z ms =>
        have ne : ¬ (Sum.inr u : Key) = Sum.inr w := fun z => hw (by rw [Sum.inr.inj z]; exact List.mem_cons_self)
        rw [List.zipWith_cons_cons, List.map_cons, ih ms (fun z => hw (List.mem_cons_of_mem _ z)), if_neg ne]
  have key : ∀ (ws : List Str) (ms : List Int) (j : Nat), ws.Nodup → ws[j]? = some w → (List.zipWith (fun (w : Str) n => ((Sum.inr w : Key), V.int n)) ws ms).map (fun kv => if kv.1 = (Sum.inr w : Key) then (kv.1, V.int v) else kv) = List.zipWith (fun (w : Str) n => ((Sum.inr w : Key), V.int n)) ws (ms.set j v) := by
    intro ws
    induction ws with
    | nil => intro ms j _ h; simp at h
    | cons u ws ih =>
      intro ms j nd h
      cases ms with
      | nil => rfl
      | cons z ms =>
        cases j with
        | zero =>
          have e1 : u = w := by simpa using h
          subst e1
          rw [List.zipWith_cons_cons, List.map_cons, if_pos rfl, idm ws ms (List.nodup_cons.mp nd).1]
          rfl
        | succ j =>
          have hw : w ∈ ws := List.mem_of_getElem? (by simpa using h)
          have ne : ¬ (Sum.inr u : Key) = Sum.inr w := fun z => by
            have z' := Sum.inr.inj z
            subst z'
            exact (List.nodup_cons.mp nd).1 hw
          rw [List.zipWith_cons_cons, List.map_cons, if_neg ne, ih ms j (List.nodup_cons.mp nd).2 (by simpa using h), List.set_cons_succ, List.zipWith_cons_cons]
  unfold putK
  rw [if_pos]
  · exact key words ns i (by decide +kernel) h1
  · rw [List.any_eq_true]
    exact ⟨_, List.mem_of_getElem? (cK_get h1 h2), decide_eq_true rfl⟩
def sp_D (K : PySem.W.Frag) (c : Pc) : Sp := fun vs H Q _ => ∃ (a dx : Addr) (b : Nat) (cut : Int) (d e : Addr) (ns : List Int) (w : Str) (i : Nat) (n v : Int), vs = [.ref a, .str w, .int v] ∧ H a = some (.ins c.CMachine dx (mF b cut d e)) ∧ H d = some (.dK (cK ns)) ∧ ns.length = 10 ∧ words[i]? = some w ∧ ns[i]? = some n ∧
  ∀ H', Chg H H' [(d, .dK (cK (ns.set i (n + v))))] [] → Q .non H'
def t_D (K : PySem.W.Frag) (c : Pc) : TS :=
  (sDPut (tFld K (tVar 0) "counts") (tVar 1) (tOp rAdd (tDGet (tFld K (tVar 0) "counts") (tVar 1)) (tVar 2)))
theorem cK_len : (cK ns).length ≤ 10 := by
  unfold cK
  rw [List.length_zipWith]
  exact Nat.min_le_left _ _
theorem b_D (P : PM K c) (h : sp_D K c vs H Q E) : t_D K c (en0 Q) (st0 3 vs) H := by
  obtain ⟨a, dx, b, cut, d, e, ns, w, i, n, v, rfl, ha, hd, hn, hw, hi, k⟩ := h
  have W : Wd H H [d] [(d, .dK (cK ns))] := (Wd.one hd).may List.mem_cons_self
  unfold t_D
  walk_at "rd"
  refine rd_Mcounts P ha ?_
  walk_at "rd"
  refine rd_kDGs hd (cK_val hw hi) ?_
  walk_at "rd"
  refine rd_Mcounts P ha ?_
  walk_at "rd"
  refine rd_kDPs W (by walk_at "rp") (by walk_at "may") (Nat.lt_of_le_of_lt cK_len (by decide)) fun H1 W1 => ?_
  rw [cK_put hw hi] at W1
  exact k H1 W1.chg_one
def sp_M (K : PySem.W.Frag) (c : Pc) : Sp := fun vs H Q _ => ∃ (a dx : Addr) (b : Nat) (cut : Int) (d e : Addr) (ns : List Int) (xs : List V), vs = [.ref a] ∧ H a = some (.ins c.CMachine dx (mF b cut d e)) ∧ H d = some (.dK (cK ns)) ∧ ns.length = 10 ∧ H e = some (.lst xs) ∧
  ∀ H', Chg H H' [(d, .dK (cK zeros)), (e, .lst [])] [] → Q .non H'
def t_M (K : PySem.W.Frag) (c : Pc) : TS :=
  (tSeq (tFor (iTup K (tC (.ref c.aWORDS))) (gName 1) (sDPut (tFld K (tVar 0) "counts") (tVar 1) (tC (.int 0))))
  (tDrop (tBM0 K "list" rClear (tFld K (tVar 0) "entered"))))
theorem zero_more {i : Nat} (h1 : i < 10) (h2 : ns.length = 10) : ((zeros.take i) ++ ns.drop i).set i 0 = zeros.take (i + 1) ++ ns.drop (i + 1) := by
  have hz : zeros[i]? = some 0 := zero_get h1
  have hl : (zeros.take i).length = i := by rw [List.length_take]; show min i 10 = i; omega
  rw [List.set_append_right _ _ (by omega), hl, Nat.sub_self, take_snoc hz, List.append_assoc, List.drop_eq_getElem_cons (by omega : i < ns.length)]
  rfl
theorem b_M (P : PM K c) (h : sp_M K c vs H Q E) : t_M K c (en0 Q) (st0 2 vs) H := by
  obtain ⟨a, dx, b, cut, d, e, ns, xs, rfl, ha, hd, hn, he, k⟩ := h
  have nad : a ≠ d := ne_of ha hd (by intro z; cases z)
  have nae : a ≠ e := ne_of ha he (by intro z; cases z)
  have nde : d ≠ e := ne_of hd he (by intro z; cases z)
  have W : Wd H H [d, e] [(a, .ins c.CMachine dx (mF b cut d e)), (d, .dK (cK ns)), (e, .lst xs)] := ((((Wd.one he).old hd (by simpa using nde)).old ha (by simpa using ⟨nad, nae⟩)).may (by simp)).may (by simp)
  unfold t_M
  walk_at "rd"
  refine rd_kIT (P.words H) ?_
  refine rd_forT (xs := words.map V.str) (fun i σ' H' => ∃ v, σ' = [some (.ref a), v] ∧ Wd H H' [d, e] [(a, .ins c.CMachine dx (mF b cut d e)), (d, .dK (cK (zeros.take i ++ ns.drop i))), (e, .lst xs)]) ⟨none, rfl, W⟩ ?_ ?_ ?_
  · rintro i σ' H' _ ⟨v, _, W1⟩
    exact P.words H'
  · rintro i y σ' H' hy ⟨v, rfl, W1⟩
    obtain ⟨w, hw, rfl, hi⟩ := str_of_words hy
    walk_at "rd"
    refine rd_Mcounts P (by walk_at "own") ?_
    walk_at "rd"
    refine rd_kDPs W1 (by walk_at "rp") (by walk_at "may") (Nat.lt_of_le_of_lt cK_len (by decide)) fun H1 W2 => ?_
    have hg : (zeros.take i ++ ns.drop i)[i]? = some (ns[i]'(by omega)) := by
      have hl : (zeros.take i).length = i := by rw [List.length_take]; show min i 10 = i; omega
      rw [List.getElem?_append_right (by omega), hl, Nat.sub_self, List.getElem?_drop]
      exact List.getElem?_eq_getElem _
    rw [cK_put hw hg, zero_more hi hn] at W2
    exact ⟨_, rfl, W2⟩
  · rintro σ' H' ⟨v, rfl, W1⟩
    have e1 : zeros.take (words.map V.str).length ++ ns.drop (words.map V.str).length = zeros := by
      rw [List.length_map]
      show zeros.take 10 ++ ns.drop 10 = zeros
      rw [List.drop_eq_nil_of_le (by omega)]
      rfl
    rw [e1] at W1
    walk_at "rd"
    refine rd_Mentered P (by walk_at "own") ?_
    refine ⟨.inl ⟨rfl, _, SqL.of (W1.get (by walk_at "mem"))⟩, e, xs, rfl, rfl, W1.get (by walk_at "mem"), ?_⟩
    have W2 := W1.put (a := e) (o := .lst xs) (u := .lst []) (L' := [(a, .ins c.CMachine dx (mF b cut d e)), (d, .dK (cK zeros)), (e, .lst [])]) (by walk_at "rp") (.inr (by simp))
    refine k _ (W2.done (fun q hq => ?_) (fun q hq => ?_) (fun q hq => nomatch hq) List.nodup_nil)
    · simp only [List.mem_cons, List.not_mem_nil, or_false] at hq
      rcases hq with rfl | rfl
      · walk_at "mem"
      · walk_at "mem"
    · simpa using hq
end
section
variable {K : PySem.W.Frag} {c : Pc} {vs xs ys : List V} {H H0 H' : Hp} {Q : VK} {E : XK} {M : List Addr} {L L' cs : List (Addr × HO)} {a d e dx r x x' l p : Addr} {σ : L2.St} {te : TE} {tT : TT} {kvs : List (Key × V)}
/-- a comprehension over the keys of a locked dict -/
theorem rd_lcK {g : TG} {ws : List Nat} {o : Obj} (hq : ∀ D, H D = none → ∃ Pv : Nat → Hp → Prop, Pv 0 (upd H D (.lst [])) ∧ (∀ i H, i ≤ kvs.length → Pv i H → H d = some (.frz o (.dK kvs))) ∧
    (∀ i k v H, kvs[i]? = some (k, v) → Pv i H → g (kV k) (wipe σ ws) H fun σ2 H2 => wipe σ2 ws = wipe σ ws ∧ tT σ2 H2 (kIf (fun H3 => te σ2 H3 (kAcc D (Pv (i + 1)))) (fun H3 => Pv (i + 1) H3))) ∧ ∀ H, Pv kvs.length H → Q (.ref D) H) : kLc g tT te ws σ Q (Itk d o kvs) H := fun D hD => by
  obtain ⟨Pv, h0, hl, hs, hd⟩ := hq D hD
  refine ⟨fun i m H => m = kvs.length - i ∧ i ≤ kvs.length ∧ Pv i H, ⟨kvs.length, by simp, Nat.zero_le _, h0⟩, ?_⟩
  rintro i m H ⟨rfl, hi, p⟩
  have q := hl i H hi p
  by_cases hlt : i < kvs.length
  · refine .inr ⟨⟨q, hlt⟩, Pv (i + 1), fun H' p' => ⟨kvs.length - (i + 1), by omega, rfl, hlt, p'⟩, fun x H' y => ?_⟩
    obtain ⟨e, k, v, hk, ex⟩ := y
    subst e ex
    exact hs i k v _ hk p
  · have e : i = kvs.length := by omega
    subst e
    exact .inl ⟨⟨q, Nat.le_refl _⟩, hd H p⟩
theorem mergeK_app {kvs : List (Key × V)} : ∀ {more : List (Key × V)}, ((kvs ++ more).map (·.1)).Nodup → mergeK kvs more = kvs ++ more := by
  intro more
  induction more generalizing kvs with
  | nil => intro _; simp [mergeK]
  | cons q more ih =>
    intro h
    have e : kvs ++ q :: more = (kvs ++ [q]) ++ more := by simp
    have hn : ¬ (kvs.any fun kv => decide (kv.1 = q.1)) = true := by
      intro z
      obtain ⟨kv, hm, hk⟩ := List.any_eq_true.mp z
      rw [List.map_append, List.map_cons] at h
      exact (List.nodup_append.mp h).2.2 kv.1 (List.mem_map.mpr ⟨kv, hm, rfl⟩) q.1 List.mem_cons_self (of_decide_eq_true hk)
    have hp : putK kvs q.1 q.2 = kvs ++ [q] := by
      unfold putK
      rw [if_neg hn]
    rw [e, ← ih (kvs := kvs ++ [q]) (by rw [← e]; exact h), ← hp]
    rfl
theorem mergeK_nil (h : (kvs.map (·.1)).Nodup) : mergeK [] kvs = kvs := mergeK_app (kvs := []) h
theorem valV_mem (h : (kvs.map (·.1)).Nodup) {k : Key} {v : V} (hm : (k, v) ∈ kvs) : valV kvs k = some v := by
  induction kvs with
  | nil => cases hm
  | cons q kvs ih =>
    rw [List.map_cons] at h
    rcases List.mem_cons.mp hm with z | z
    · rw [← z]; exact valV_pos rfl
    · have ne : ¬ q.1 = k := fun e => (List.nodup_cons.mp h).1 (e ▸ List.mem_map.mpr ⟨(k, v), z, rfl⟩)
      rw [valV_neg ne]
      exact ih (List.nodup_cons.mp h).2 z
theorem prd_snoc {α β : Type} {R : α → β → Prop} : ∀ {l : List α} {k : List β} {x : α} {y : β}, Paired R l k → R x y → Paired R (l ++ [x]) (k ++ [y])
  | _, _, _, _, .nil, h => .cons h .nil
  | _, _, _, _, .cons a t, h => .cons a (prd_snoc t h)
theorem prd_imp {α β : Type} {R S : α → β → Prop} (h : ∀ x y, R x y → S x y) : ∀ {l : List α} {k : List β}, Paired R l k → Paired S l k
  | _, _, .nil => .nil
  | _, _, .cons a t => .cons (h _ _ a) (prd_imp h t)
/-- D holds pairs, each a tuple of its own; all else stands as in Hb -/
def PInv (Hb : Hp) (D : Addr) (kvs : List (Key × V)) (H : Hp) : Prop := Same Hb H ∧ ∃ qs : List Addr, qs.length = kvs.length ∧ H D = some (.lst (qs.map V.ref)) ∧ Paired (fun q kv => H q = some (.tup [kV kv.1, kv.2])) qs kvs
theorem PInv.start {D : Addr} (h : H D = none) : PInv H D [] (upd H D (.lst [])) :=
  ⟨fun b o e => by rw [upd_ne (fun z => by rw [z, h] at e; cases e)]; exact e, [], rfl, upd_same, .nil⟩
theorem PInv.more {Hb : Hp} {D : Addr} {k : Key} {v : V} {nx : Hp → Prop} (hD : Hb D = none) (h : PInv Hb D kvs H) (hl : kvs.length < 1000) (q : ∀ H', PInv Hb D (kvs ++ [(k, v)]) H' → nx H') : kTup (kAcc D nx) [kV k, v] H := by
  obtain ⟨hs, qs, hq, hd, hp⟩ := h
  refine ⟨Evl.sz_of (by simp), fun T hT => ?_⟩
  have nDT : D ≠ T := fun z => by rw [z, hT] at hd; cases hd
  refine ⟨qs.map V.ref, by rw [upd_ne nDT]; exact hd, ?_, ?_⟩
  · rw [List.length_map, hq]; exact Nat.lt_of_lt_of_le hl (Evl.sz_of (by omega))
  · refine q _ ⟨fun b o e => ?_, qs ++ [T], by rw [List.length_append, List.length_append, hq]; rfl, ?_, ?_⟩
    · rw [upd_ne (fun z => by rw [z, hD] at e; cases e), upd_ne (fun z => by have := hs b o e; rw [z, hT] at this; cases this)]
      exact hs b o e
    · rw [upd_same, List.map_append]; rfl
    · refine prd_snoc (prd_imp (fun x y hx => ?_) hp) ?_
      · rw [upd_ne (fun z => by rw [z, hd] at hx; cases hx), upd_ne (fun z => by rw [z, hT] at hx; cases hx)]
        exact hx
      · rw [upd_ne (Ne.symm nDT)]; exact upd_same
theorem PInv.dict {Hb : Hp} {D : Addr} (h : PInv Hb D kvs H) (hn : (kvs.map (·.1)).Nodup) (q : ∀ p, H p = none → Q (.ref p) (upd H p (.dK kvs))) : rDict K [.ref D] H Q := by
  obtain ⟨hs, qs, hq, hd, hp⟩ := h
  refine ⟨D, qs, kvs, rfl, SqL.of hd, prd_imp (fun x y hx => SqT.of hx) hp, fun p hp => ?_⟩
  rw [mergeK_nil hn]
  exact q p hp
end
def posB (v : V) : Bool := match v with | .int n => decide (0 < n) | _ => false
def posK (kvs : List (Key × V)) : List (Key × V) := kvs.filter fun kv => posB kv.2
/-- what is due stands in kvs as it does in the counts ns, but for what is 0 -/
structure DueOk (kvs : List (Key × V)) (ns : List Int) : Prop where
  nd : (kvs.map (·.1)).Nodup
  few : kvs.length < 100
  each_ : ∀ kv ∈ kvs, ∃ (w : Str) (n : Int), kv = (Sum.inr w, .int n)
  len : (posK (cK ns)).length = (posK kvs).length
  all : ∀ q ∈ posK (cK ns), q ∈ posK kvs
section
variable {K : PySem.W.Frag} {c : Pc} {vs xs ys : List V} {H H0 H' : Hp} {Q : VK} {E : XK} {M : List Addr} {L L' cs : List (Addr × HO)} {a d e dx r x x' l p : Addr} {σ : L2.St} {kvs : List (Key × V)} {ns : List Int}
def sp_W (K : PySem.W.Frag) (c : Pc) : Sp := fun vs H Q _ => ∃ (m dx : Addr) (b : Nat) (cut : Int) (d e h : Addr) (ns : List Int) (xs : List V) (kvs : List (Key × V)), vs = [.ref m, .ref h] ∧ H m = some (.ins c.CMachine dx (mF b cut d e)) ∧ H d = some (.dK (cK ns)) ∧ ns.length = 10 ∧ H e = some (.lst xs) ∧ H h = some (.dK kvs) ∧ h ≠ d ∧ DueOk kvs ns ∧
  ∀ H', Chg H H' [(d, .dK (cK zeros)), (e, .lst [])] [] → Q (.bl true) H'
def t_W (K : PySem.W.Frag) (c : Pc) : TS :=
  (tSeq (tAsg (tCB (rDict K) (tCons (tLc (iList K (tMeth c.CMachine "tally" (sp_J K c) [] E0 (tVar 0) tNil)) (gTup K 2 (gCons (gName 3) (gCons (gName 4) gNil))) (tTest (tOp rGt (tVar 4) (tC (.int 0)))) (tTup (tCons (tVar 3) (tCons (tVar 4) tNil))) [3, 4]) tNil)) (gName 2))
  (tSeq (tDrop (tMeth c.CMachine "reset" (sp_M K c) [] E0 (tVar 0) tNil))
  (tRet (tOp rEqDA (tVar 2) (tCB (rDict K) (tCons (tLockE (tLc (iKeys (tVar 1)) (gName 3) (tTest (tOp rGt (tDGet (tVar 1) (tVar 3)) (tC (.int 0)))) (tTup (tCons (tVar 3) (tCons (tDGet (tVar 1) (tVar 3)) tNil))) [3])) tNil))))))
theorem posK_snoc_T {kv : Key × V} {i : Nat} (h : kvs[i]? = some kv) (hp : posB kv.2 = true) : posK (kvs.take (i + 1)) = posK (kvs.take i) ++ [kv] := by
  rw [take_snoc h]
  unfold posK
  rw [List.filter_append, List.filter_cons, if_pos hp]
  rfl
theorem posK_snoc_F {kv : Key × V} {i : Nat} (h : kvs[i]? = some kv) (hp : posB kv.2 = false) : posK (kvs.take (i + 1)) = posK (kvs.take i) := by
  rw [take_snoc h]
  unfold posK
  rw [List.filter_append, List.filter_cons, if_neg (by rw [hp]; exact Bool.false_ne_true)]
  simp
theorem cK_nd (h : ns.length = 10) : ((cK ns).map (·.1)).Nodup := by
  have e : (cK ns).map (·.1) = words.map (fun w => (Sum.inr w : Key)) := by
    unfold cK
    apply List.ext_getElem?
    intro i
    rw [List.getElem?_map, List.getElem?_zipWith, List.getElem?_map]
    cases hw : words[i]? with
    | none => rfl
    | some w =>
      have hi : i < 10 := (List.getElem?_eq_some_iff.mp hw).1
      rw [List.getElem?_eq_getElem (show i < ns.length by omega)]
      rfl
  rw [e]
  decide +kernel
theorem posK_nd (h : (kvs.map (·.1)).Nodup) : ((posK kvs).map (·.1)).Nodup := h.sublist (List.Sublist.map _ List.filter_sublist)
theorem b_W (P : PM K c) (h : sp_W K c vs H Q E) : t_W K c (en0 Q) (st0 5 vs) H := by
  obtain ⟨m, dx, b, cut, d, e, h, ns, xs, kvs, rfl, hm, hd, hn, he, hh, hne, hD, k⟩ := h
  unfold t_W
  walk_at "rd"
  refine rd_kMeth hm (mF_meth' (by decide)) ?_
  walk_at "rd"
  refine ⟨m, dx, b, cut, d, e, ns, rfl, hm, hd, hn, fun p ps H1 hl ch => ?_⟩
  have hp1 : H1 p = some (.lst (ps.map V.ref)) := (ch.new List.mem_cons_self).2
  refine rd_kIL (SqL.of hp1) ?_
  refine rd_lcL (xs := ps.map V.ref) fun D hDn => ⟨fun i H' => PInv H1 D (posK ((cK ns).take i)) H', PInv.start hDn, ?_, ?_, ?_⟩
  · intro i H' _ hI
    exact SqL.of (hI.1 _ _ hp1)
  · intro i y H' hy hI
    obtain ⟨q, hq, rfl⟩ : ∃ q, ps[i]? = some q ∧ y = .ref q := by
      rw [List.getElem?_map] at hy
      cases hq : ps[i]? with
      | none => rw [hq] at hy; cases hy
      | some q => rw [hq] at hy; exact ⟨q, rfl, (Option.some.inj hy).symm⟩
    have hi : i < 10 := by rw [← hl]; exact (List.getElem?_eq_some_iff.mp hq).1
    have hw : words[i]? = some (words[i]'hi) := List.getElem?_eq_getElem _
    have hg : ns[i]? = some (ns[i]'(by omega)) := List.getElem?_eq_getElem _
    generalize words[i]'hi = w at hw
    generalize ns[i]'(by omega) = n at hg
    have hr := rows_get hw hg
    have hc := cK_get hw hg
    have ht := hI.1 _ _ (ch.new (List.mem_cons_of_mem _ (tl2_mem hq hr))).2
    have hlt : (posK ((cK ns).take i)).length < 1000 := by
      have h1 : (posK ((cK ns).take i)).length ≤ ((cK ns).take i).length := List.length_filter_le _ _
      have h2 : ((cK ns).take i).length ≤ i := List.length_take_le _ _
      omega
    refine rd_gTup (xs := [.str w, .int n]) (SqT.of ht) rfl ?_
    walk_at "rd"
    refine ⟨rfl, ?_⟩
    walk_at "rd"
    refine rd_2d (fun h1 => ?_) fun h1 => ?_
    · walk_at "rd"
      refine PInv.more (k := Sum.inr w) hDn hI hlt fun H2 h2 => ?_
      show PInv H1 D (posK ((cK ns).take (i + 1))) H2
      rw [posK_snoc_T hc (show posB (.int n) = true from decide_eq_true h1)]
      exact h2
    · show PInv H1 D (posK ((cK ns).take (i + 1))) H'
      rw [posK_snoc_F hc (show posB (.int n) = false from decide_eq_false h1)]
      exact hI
  · intro H2 hI
    have e1 : (cK ns).take (ps.map V.ref).length = cK ns := List.take_of_length_le (by rw [List.length_map, hl]; exact cK_len)
    rw [e1] at hI
    walk_at "rd"
    refine hI.dict (posK_nd (cK_nd hn)) fun f hf => ?_
    have s12 : Same H1 H2 := hI.1
    have s01 : Same H H1 := fun q o z => ch.keep q o z (fun y => nomatch y)
    have s02 : Same H (upd H2 f (.dK (posK (cK ns)))) := fun q o z => by
      have := s12 _ _ (s01 _ _ z)
      rw [upd_ne (fun y => by rw [y, hf] at this; cases this)]
      exact this
    walk_at "rd"
    refine rd_kMeth (s02 _ _ hm) (mF_meth' (by decide)) ?_
    walk_at "rd"
    refine ⟨m, dx, b, cut, d, e, ns, xs, rfl, s02 _ _ hm, s02 _ _ hd, hn, s02 _ _ he, fun H3 ch3 => ?_⟩
    have nhe : h ≠ e := fun z => by rw [z, he] at hh; cases hh
    have kp3 : ∀ q o, upd H2 f (.dK (posK (cK ns))) q = some o → q ≠ d → q ≠ e → H3 q = some o := fun q o z n1 n2 => ch3.keep q o z (fun y => by
      simp only [List.map_cons, List.map_nil, List.mem_cons, List.not_mem_nil, or_false] at y
      rcases y with y | y
      · exact n1 y
      · exact n2 y)
    have hf0 : ∀ q o, H q = some o → q ≠ f := fun q o z y => by
      have := s12 _ _ (s01 _ _ z)
      rw [y, hf] at this; cases this
    have hh3 : H3 h = some (.dK kvs) := kp3 _ _ (s02 _ _ hh) hne nhe
    have hf3 : H3 f = some (.dK (posK (cK ns))) := kp3 _ _ upd_same (Ne.symm (hf0 _ _ hd)) (Ne.symm (hf0 _ _ he))
    walk_at "rd"
    refine ⟨h, .dK kvs, hh3, trivial, fun od => ?_⟩
    walk_at "rd"
    refine ⟨.ref h, rfl, h, od, rfl, .inl ⟨kvs, upd_same, ?_⟩⟩
    refine rd_lcK fun D2 hD2 => ⟨fun i H' => PInv (upd H3 h (.frz od (.dK kvs))) D2 (posK (kvs.take i)) H', PInv.start hD2, ?_, ?_, ?_⟩
    · intro i H' _ hJ
      exact hJ.1 _ _ upd_same
    · intro i kk v H' hk hJ
      obtain ⟨w, n, e⟩ := hD.each_ _ (List.mem_of_getElem? hk)
      cases e
      have hv : valV kvs (Sum.inr w : Key) = some (.int n) := valV_mem hD.nd (List.mem_of_getElem? hk)
      have hg : DGet H' h (.str w) (some (.int n)) := .inl ⟨kvs, Sum.inr w, .inr ⟨od, hJ.1 _ _ upd_same⟩, rfl, hv.symm⟩
      have hlt : (posK (kvs.take i)).length < 1000 := by
        have h1 : (posK (kvs.take i)).length ≤ (kvs.take i).length := List.length_filter_le _ _
        have h2 : (kvs.take i).length ≤ kvs.length := by rw [List.length_take]; omega
        have := hD.few
        omega
      unfold gName
      refine ⟨rfl, ?_⟩
      walk_at "rd"
      refine ⟨h, _, rfl, hg, ?_⟩
      walk_at "rd"
      refine rd_2d (fun h1 => ?_) fun h1 => ?_
      · walk_at "rd"
        refine ⟨h, _, rfl, hg, ?_⟩
        walk_at "rd"
        refine PInv.more (k := Sum.inr w) hD2 hJ hlt fun H2 h2 => ?_
        show PInv _ D2 (posK (kvs.take (i + 1))) H2
        rw [posK_snoc_T hk (show posB (.int n) = true from decide_eq_true h1)]
        exact h2
      · show PInv _ D2 (posK (kvs.take (i + 1))) H'
        rw [posK_snoc_F hk (show posB (.int n) = false from decide_eq_false h1)]
        exact hJ
    · intro H4 hJ
      rw [List.take_length] at hJ
      have hh4 : H4 h = some (.frz od (.dK kvs)) := hJ.1 _ _ upd_same
      refine ⟨hh4, ?_⟩
      have nfh : f ≠ h := fun z => by
        have e9 := hf0 _ _ hh
        exact e9 z.symm
      have hf4 : H4 f = some (.dK (posK (cK ns))) := hJ.1 _ _ (by rw [upd_ne nfh]; exact hf3)
      have hJ' : PInv (fun _ => none) D2 (posK kvs) (upd H4 h (.dK kvs)) := by
        obtain ⟨_, qs, q1, q2, q3⟩ := hJ
        refine ⟨(fun _ _ z => nomatch z), qs, q1, by rw [upd_ne (fun z => by rw [z, hh4] at q2; cases q2)]; exact q2, prd_imp (fun x y hx => ?_) q3⟩
        rw [upd_ne (fun z => by rw [z, hh4] at hx; cases hx)]; exact hx
      walk_at "rd"
      refine hJ'.dict (posK_nd hD.nd) fun p5 hp5 => ?_
      have np5 : ∀ q o, upd H4 h (.dK kvs) q = some o → q ≠ p5 := fun q o z y => by rw [y, hp5] at z; cases z
      have hf5 : upd H4 h (.dK kvs) f = some (.dK (posK (cK ns))) := by rw [upd_ne nfh]; exact hf4
      have hh5 : upd H4 h (.dK kvs) h = some (.dK kvs) := upd_same
      refine ⟨f, p5, _, _, rfl, rfl, by rw [upd_ne (np5 _ _ hf5)]; exact hf5, upd_same, hD.len, fun q hq => ⟨valV_mem (posK_nd hD.nd) (hD.all q hq), ?_⟩, ?_⟩
      · obtain ⟨w, n, e⟩ := hD.each_ q (List.mem_filter.mp (show q ∈ kvs.filter _ from hD.all q hq)).1
        subst e; rfl
      · have kp5 : ∀ q o, H3 q = some o → (q = h → o = .dK kvs) → upd (upd H4 h (.dK kvs)) p5 (.dK (posK kvs)) q = some o := fun q o z y => by
          by_cases e : q = h
          · subst e
            rw [upd_ne (np5 _ _ hh5), y rfl]; exact upd_same
          · have e4 : H4 q = some o := hJ.1 _ _ (by rw [upd_ne e]; exact z)
            have e5 : upd H4 h (.dK kvs) q = some o := by rw [upd_ne e]; exact e4
            rw [upd_ne (np5 _ _ e5)]; exact e5
        refine k _ ⟨fun {q o} z => ?_, (fun z => nomatch z), List.nodup_nil, fun q o z nq => ?_⟩
        · refine kp5 q o (ch3.chg z) fun y => ?_
          subst y
          simp only [List.mem_cons, List.not_mem_nil, or_false, Prod.mk.injEq] at z
          rcases z with ⟨z, _⟩ | ⟨z, _⟩
          · exact absurd z hne
          · exact absurd z nhe
        · have n1 : q ≠ d := fun y => nq (by rw [y]; exact List.mem_cons_self)
          have n2 : q ≠ e := fun y => nq (by rw [y]; exact List.mem_cons_of_mem _ List.mem_cons_self)
          refine kp5 q o (kp3 _ _ (s02 _ _ z) n1 n2) fun y => ?_
          subst y
          rw [hh] at z; exact (Option.some.inj z).symm
end
section
variable {K : PySem.W.Frag} {c : Pc} {vs : List V} {H H0 H' : Hp} {Q : VK} {E : XK}
def sp_U (K : PySem.W.Frag) (c : Pc) : Sp := fun vs H Q _ => ∃ (a dx : Addr) (b : Nat) (cut : Int) (d e : Addr) (xs : List V) (w : Str) (m n : Int), vs = [.ref a, .str w, .int m, .int n] ∧ H a = some (.ins c.CMachine dx (mF b cut d e)) ∧ H e = some (.lst xs) ∧ xs.length ≤ 1000 ∧
  (xs.length < 1000 → ∀ p H', Chg H H' [(e, .lst (xs ++ [.ref p]))] [(p, .tup [.str w, .int m, .int n])] → Q .non H') ∧ (¬ xs.length < 1000 → Q .non H)
def t_U (K : PySem.W.Frag) (c : Pc) : TS :=
  (tIfS (tTest (tOp rLt (tCB (rLen K) (tCons (tFld K (tVar 0) "entered") tNil)) (tC (.int 1000)))) (tDrop (tBM K "list" rAppend (tFld K (tVar 0) "entered") (tCons (tTup (tCons (tVar 1) (tCons (tVar 2) (tCons (tVar 3) tNil)))) tNil))) tNext)
theorem b_U (P : PM K c) (h : sp_U K c vs H Q E) : t_U K c (en0 Q) (st0 4 vs) H := by
  obtain ⟨a, dx, b, cut, d, e, xs, w, m, n, rfl, ha, he, hl, q1, q2⟩ := h
  unfold t_U
  walk_at "rd"
  refine rd_Mentered P ha ?_
  walk_at "rd"
  refine rd_2d (fun h1 => ?_) fun h1 => ?_
  · walk_at "rd"
    refine rd_Mentered P ha ?_
    refine rd_kBMl he ?_
    walk_at "rd"
    refine ⟨by show 3 ≤ sizeLine; decide, fun p hp => ?_⟩
    walk_at "rd"
    have ne : e ≠ p := fun z => by rw [z, hp] at he; cases he
    refine ⟨e, xs, _, rfl, rfl, by rw [upd_ne ne]; exact he, Nat.lt_of_le_of_lt hl (by decide), ?_⟩
    refine q1 (by omega) p _ ⟨fun z => ?_, fun z => ?_, by simp, fun b o z nb => ?_⟩
    · cases List.mem_singleton.mp z; exact upd_same
    · cases List.mem_singleton.mp z; exact ⟨hp, by rw [upd_ne (Ne.symm ne)]; exact upd_same⟩
    · have n1 : b ≠ e := fun y => nb (by rw [y]; exact List.mem_cons_self)
      rw [upd_ne n1, upd_ne (fun y => by rw [y, hp] at z; cases z)]; exact z
  · walk_at "rd"
    exact q2 (by omega)
end
end Eng
namespace Eng
open PySem PySem.Spec PyProof.Rows L2
/-- a def whose code object stands at c -/
def FunC (K : PySem.W.Frag) (x qual : Str) (st : Stmt) (f : Addr) (fd : FuncData) (c : Addr) : Prop :=
  ∃ (oc : Value) (od : Option Addr) (kV doc pm : Value) (an : Option Addr) (ct : Value) (osl : Array (Option Value)), fd = PySem.W.fnOf x qual (defArgs st) (defBody st) (defScope st) .none kV doc pm an (.ref c) ct ∧ K.lookup f = some ⟨oc, od, .func (PySem.W.fnOf x qual (defArgs st) (defBody st) (defScope st) .none kV doc pm an (.ref c) ct), osl⟩ ∧ PySem.W.codeIn K (.ref c) qual = true
theorem FunC.ok {P : Program} {w : World} {K : PySem.W.Frag} {mg : Str → Option Value} {base : Heap} {x qual : Str} {st : Stmt} {f : Addr} {fd : FuncData} {c : Addr} {N ps : List Str} {k : Nat} {sp : Sp} (F : FunC K x qual st f fd c) (S : FnScope N ps (defScope st)) (len : ∀ vs H Q E, sp vs H Q E → vs.length = ps.length)
    (hbody : ∀ (A : Around) (outer : List Env) (s : Shared) (H : Hp) (vs : List V) (Q : VK) (E : XK), Room k (A.deeper (envOfC qual (defScope st) s.heap.objs.size f (.ref c))) → sp vs H Q E →
      ∃ t, PSs (cxOf C8.CX0 P w K mg base N qual (defScope st) f (.ref c) A outer s H E).nox (defBody st) t ∧ t { nx := fun _ H' => Q .non H', rt := Q } (L2.start N vs) H) : FnOk P w K mg base C8.CX0 (k + 1) f fd ps sp := by
  obtain ⟨oc, od, kV, doc, pm, an, ct, osl, rfl, lk, hcd⟩ := F
  refine fn_of lk hcd S len fun A outer s H vs Q E hr hsp => ?_
  obtain ⟨t, h, q⟩ := hbody A outer s H vs Q E hr hsp
  exact ⟨t, h.nox, q⟩
end Eng
namespace Eng
open PySem PySem.Spec PyProof.Rows L2
/-- the names of such a lambda: its parameter ya (no name of the maker), captured ones and globals -/
structure LamD (N : List Str) (ya : Str) (sc scope : Scope) : Prop where
  kind : scope.kind = .function
  co : scope.isCoroutine = false
  gen : scope.isGenerator = false
  nocell : ∀ y ∈ scope.names, y.2 ≠ .cell
  own : ∀ y ∈ scope.names, y.2 = .local → y.1 = ya
  par : scope.names.lookup ya = some .local
  off : ya ∉ N
  free : ∀ y ∈ scope.names, y.2 = .free → sc.names.lookup y.1 = some .cell ∨ sc.names.lookup y.1 = some .free
theorem LamD.has {X : Cx} {ya : Str} {scope : Scope} (L : LamD X.N ya X.env.scope scope) (ok : X.Ok) : ∀ y ∈ scope.names, y.2 = .free → ∃ c, X.env.cells.lookup y.1 = some c := fun y hy e => by
  rcases L.free y hy e with k | k
  · exact ok.has _ (.inl k)
  · exact ok.has _ (.inr k)
section
variable {X : Cx} {pins : List (Addr × Obj)} {σ : L2.St} {H HZ : Hp} {s s1 : Shared}
/-- how the binder makes of no arguments the default's binding -/
def BindD (params : Arguments) (body : Expr) (scope : Scope) (ya : Str) : Prop :=
  ∀ (q : Str) (cl : List (Str × Addr)) (T : Addr) (doc pm cv ctv u : Value), ∃ k, bindArgs (PySem.W.kdv_fn "<lambda>" q params (.expr body) scope cl (.ref T) doc pm cv ctv) ⟨[], []⟩ = seqItems? (.ref T) >>= k ∧ k (some #[u]) = pure [(ya, u)]
end
end Eng
namespace Eng
open PySem PySem.Spec PyProof.Rows L2
/-- x is None -/
def rIsN : R2 := fun x y H Q => y = .non ∧ Q (.bl (decide (x = .non))) H
theorem o_isN {X : Cx} : OpR X (compareOp .Is) rIsN := op_isN
end Eng
namespace Eng
open PySem PySem.Spec PyProof.Rows L2
section
variable {X : Cx} {pins : List (Addr × PySem.Obj)} {σ : L2.St} {H : Hp} {s : Shared} {a C : Addr} {f : Str} {y : V} {u : Value}
/-- the heap behind self.f = y -/
def putF (H : Hp) (a C dx : Addr) (f : Str) (y : V) : Hp := upd (upd H dx (exd dx [(f, y)])) a (exo a C (some dx))
end
end Eng
namespace Eng
open PySem PySem.Spec PyProof.Rows L2
/-- which cells, and what they hold -/
structure Th where
  dom : Addr → Prop
  has : Addr → V → Prop
def CellsAt (θ : Th) (H : Hp) (h : Heap) : Prop := ∀ c, θ.dom c → H c = none ∧ ∃ u, h.IsCell c u ∧ ∀ v, θ.has c v → ∃ w, u = some w ∧ RelV v w
section
variable {θ : Th} {fs ex : List Addr} {H H' : Hp} {h h' : Heap} {X : Cx} {pins : List (Addr × Obj)} {σ : L2.St} {s : Shared}
theorem CellsAt.un (C : CellsAt θ H h) (U : Un fs ex H H' h h') (hx : ∀ c, θ.dom c → c ∉ ex) : CellsAt θ H' h' := fun c hc => by
  obtain ⟨n, u, ⟨o, ho, hd⟩, r⟩ := C c hc
  obtain ⟨sl, e⟩ := U.any ho n (hx c hc)
  exact ⟨U.free c o ho n (hx c hc), u, ⟨_, e, hd⟩, r⟩
/-- a context in which they are told -/
def Bears (θ : Th) (Z : Cx) : Prop := CellsAt θ Z.H_0 Z.s_0.heap ∧ ∀ c, θ.dom c → c ∉ Z.ex
theorem Bears.here (B : Bears θ X) (I : Inv X pins σ H s) : CellsAt θ H s.heap := B.1.un I.base B.2
end
/-- a lambda's text -/
structure Lmb where
  q : Str
  params : Arguments
  body : Expr
  scope : Scope
/-- a closure without defaults, with one -/
def CloO (f : Addr) (L : Lmb) (cl : List (Str × Addr)) (c' : Addr) : HO := .ext fun h => ∃ pm ctv, h.get? f = some (PySem.W.kla_obj "<lambda>" L.q L.params L.body L.scope cl pm c' ctv)
def CloD (f : Addr) (L : Lmb) (cl : List (Str × Addr)) (c' T : Addr) : HO := .ext fun h => ∃ doc pm ctv, h.get? f = some (PySem.W.kdv_obj "<lambda>" L.q L.params (.expr L.body) L.scope cl (.ref T) doc pm c' ctv)
def TupD (T : Addr) : HO := .ext fun h => ∃ u, h.get? T = some (PySem.W.kdv_tup [u])
/-- the closure at f -/
inductive IsClo (H : Hp) (f : Addr) (L : Lmb) (cl : List (Str × Addr)) : Prop
  | plain {c' : Addr} : L.params.defaults = [] → H f = some (CloO f L cl c') → H c' = some (LamX.CodeO c' L.q) → IsClo H f L cl
  | dflt {c' T : Addr} : L.params.defaults ≠ [] → H f = some (CloD f L cl c' T) → H T = some (TupD T) → H c' = some (LamX.CodeO c' L.q) → IsClo H f L cl
theorem IsClo.mono {H H' : Hp} {f : Addr} {L : Lmb} {cl : List (Str × Addr)} (h : IsClo H f L cl) (k : ∀ a o, H a = some o → H' a = some o) : IsClo H' f L cl := by
  cases h with
  | plain n a b => exact .plain n (k _ _ a) (k _ _ b)
  | dflt n a b d => exact .dflt n (k _ _ a) (k _ _ b) (k _ _ d)
/-- the names of a lambda: captured ones, globals, a parameter that is no name of the maker's -/
structure LamC (N : List Str) (sc scope : Scope) : Prop where
  kind : scope.kind = .function
  co : scope.isCoroutine = false
  gen : scope.isGenerator = false
  nocell : ∀ y ∈ scope.names, y.2 ≠ .cell
  off : ∀ y ∈ scope.names, y.2 = .local → y.1 ∉ N
  free : ∀ y ∈ scope.names, y.2 = .free → sc.names.lookup y.1 = some .cell ∨ sc.names.lookup y.1 = some .free
theorem LamC.ofS {N : List Str} {sc scope : Scope} (L : LamX.LamS sc scope) : LamC N sc scope := ⟨L.kind, L.co, L.gen, fun y hy => (L.own y hy).2, fun y hy e => absurd e (L.own y hy).1, L.free⟩
theorem LamC.ofD {N : List Str} {ya : Str} {sc scope : Scope} (L : LamD N ya sc scope) : LamC N sc scope := ⟨L.kind, L.co, L.gen, L.nocell, fun y hy e => by rw [L.own y hy e]; exact L.off, L.free⟩
theorem LamC.has {X : Cx} {N : List Str} {scope : Scope} (L : LamC N X.env.scope scope) (ok : X.Ok) : ∀ y ∈ scope.names, y.2 = .free → ∃ c, X.env.cells.lookup y.1 = some c := fun y hy e =>
  (L.free y hy e).elim (fun k => ok.has _ (.inl k)) fun k => ok.has _ (.inr k)
/-- a lambda's kind: no parameter, or one with a default -/
inductive LmbK (N : List Str) (sc : Scope) (L : Lmb) : Prop
  | plain : LamX.LamS sc L.scope → (∀ (q : Str) (cl : List (Str × Addr)) (pm cv ctv : Value), bindArgs (PySem.W.kla_fn "<lambda>" q L.params L.body L.scope cl pm cv ctv) ⟨[], []⟩ = pure []) → (∀ env, defaultsOf L.params env = ([], [])) → L.params.defaults = [] → LmbK N sc L
  | dflt {ya : Str} {i : Int} {j : Nat} {pi : Pos} : LamD N ya sc L.scope → BindD L.params L.body L.scope ya → L.params.defaults = [.Constant (.int i) j pi] → L.params.kw_defaults = [] → LmbK N sc L
theorem LmbK.c {N : List Str} {sc : Scope} {L : Lmb} (h : LmbK N sc L) : LamC N sc L.scope := by
  cases h with
  | plain a _ _ _ => exact .ofS a
  | dflt a _ _ _ => exact .ofD a
abbrev Asks := Addr → XK → Hp → VK → Prop
def ActsOk (P : Program) (w : World) (K : PySem.W.Frag) (mg : Str → Option Value) (base : Heap) (k : Nat) (θ : Th) (asks : Asks) : Prop :=
  ∀ (f : Addr) (E : XK) (H : Hp) (Q : VK) (A : Around) (outer : List Env) (s : Shared), Room k A → Env0 P w K mg base A outer s H → CellsAt θ H s.heap → asks f E H Q →
    PySem.W.FnAt f s.heap ∧ codeAny (model P w) A (.call (.ref f) ⟨[], []⟩) (CR (L2.CX P w) outer P w H s Q E) s
end Eng
namespace Eng
open PySem PySem.Spec PyProof.Rows L2
structure FnA (P : Program) (w : World) (K : PySem.W.Frag) (mg : Str → Option Value) (base : Heap) (k kA : Nat) (f : Addr) (fd : FuncData) (ps : List Str) (sp : Asks → Sp) : Prop where
  len : ∀ asks vs H Q E, sp asks vs H Q E → vs.length = ps.length
  run : ∀ (θ : Th) (asks : Asks), ActsOk P w K mg base kA θ asks → ∀ (A : Around) (outer : List Env) (s : Shared) (H : Hp) (args : Args) (us : List Value) (vs : List V) (Q : VK) (E : XK), Room k A → Env0 P w K mg base A outer s H → CellsAt θ H s.heap → BindsTo s fd args (ps.zip us) → Vals vs us → sp asks vs H Q E →
    codeAny (model P w) A (.call (.ref f) args) (CR CX0 outer P w H s Q E) s
theorem FnA.of {P : Program} {w : World} {K : PySem.W.Frag} {mg : Str → Option Value} {base : Heap} {x qual : Str} {st : Stmt} {f : Addr} {fd : FuncData} {N ps : List Str} {k kA : Nat} {sp : Asks → Sp} (F : Fun K x qual st f fd) (S : FnScope N ps (defScope st)) (len : ∀ asks vs H Q E, sp asks vs H Q E → vs.length = ps.length)
    (hbody : ∀ (cdv : Value) (θ : Th) (asks : Asks) (A : Around) (outer : List Env) (s : Shared) (H : Hp) (vs : List V) (Q : VK) (E : XK), ActsOk P w K mg base kA θ asks → Bears θ (cxOf CX0 P w K mg base N qual (defScope st) f cdv A outer s H E) → Room k (A.deeper (envOfC qual (defScope st) s.heap.objs.size f cdv)) → sp asks vs H Q E →
      ∃ t, PSs (cxOf CX0 P w K mg base N qual (defScope st) f cdv A outer s H E).nox (defBody st) t ∧ t { nx := fun _ H' => Q .non H', rt := Q } (L2.start N vs) H) : FnA P w K mg base (k + 1) kA f fd ps sp := by
  obtain ⟨oc, od, kV, doc, pm, an, cdv, ct, osl, rfl, lk, hcd⟩ := F.ex
  refine ⟨len, fun θ asks AO A outer s H args us vs Q E hr e0 hc hb r h => ?_⟩
  refine LamX.run_ofS lk hcd S hr e0 hb r (len asks _ _ _ _ h) fun hr' => ?_
  obtain ⟨t, ht, hq⟩ := hbody cdv θ asks A outer s H vs Q E AO ⟨hc, fun c _ z => nomatch (show c ∈ ([] : List Addr) from z)⟩ hr' h
  exact ⟨t, ht.nox, hq⟩
theorem FnA.mono {P : Program} {w : World} {K : PySem.W.Frag} {mg : Str → Option Value} {base : Heap} {j k kA : Nat} {f : Addr} {fd : FuncData} {ps : List Str} {sp : Asks → Sp} (F : FnA P w K mg base j kA f fd ps sp) (h : j ≤ k) : FnA P w K mg base k kA f fd ps sp :=
  ⟨F.len, fun θ asks AO A outer s H args us vs Q E hr => F.run θ asks AO A outer s H args us vs Q E (hr.mono h)⟩
end Eng
namespace Eng
open PySem PySem.Spec PyProof.Rows L2
end Eng
namespace Eng
open PySem PySem.Spec PyProof.Rows L2
end Eng
namespace Eng
open PySem PySem.Spec PyProof.Rows L2
def IntEs : List DictEntry → List (Int × Int) → Prop
  | [], [] => True
  | e :: es, p :: ps => (∃ t u, e = ⟨hashInt p.1, .int p.1 t, .int p.2 u⟩) ∧ IntEs es ps
  | _, _ => False
theorem IntEs.keys : ∀ {es : List DictEntry} {ps : List (Int × Int)}, IntEs es ps → ∀ e ∈ es, ∃ k t, e.key = .int k t ∧ e.hash = hashInt k
  | e :: es, p :: ps, h, d, hd => by
    rcases List.mem_cons.mp hd with rfl | z
    · obtain ⟨t, u, rfl⟩ := h.1
      exact ⟨_, _, rfl, rfl⟩
    · exact h.2.keys d z
  | [], _, _, _, hd => nomatch hd
theorem IntEs.find {prog : Program} {w : World} : ∀ {es : List DictEntry} {ps : List (Int × Int)} (i : Int), IntEs es ps → match ps.lookup i with | some m => ∃ u, (es.find? fun e => (intKind prog w).is i e.key).map (·.val) = some (.int m u) | none => (es.find? fun e => (intKind prog w).is i e.key).map (·.val) = none
  | [], [], i, _ => rfl
  | e :: es, p :: ps, i, h => by
    obtain ⟨⟨t, u, rfl⟩, h2⟩ := h
    have ih := IntEs.find (prog := prog) (w := w) i h2
    rw [List.lookup_cons, List.find?_cons]
    by_cases c : i = p.1
    · subst c
      rw [beq_self_eq_true, intKind_is]
      exact ⟨u, rfl⟩
    · have e1 : (i == p.1) = false := by simpa using c
      have e2 : (intKind prog w).is i (.int p.1 t) = false := by
        show Value.isInt i (.int p.1 t) = false
        simpa [Value.isInt] using fun z => c z.symm
      rw [e1, e2]
      exact ih
  | [], _ :: _, _, h => h.elim
  | _ :: _, [], _, h => h.elim
/-- the dict at a -/
structure CidAt (K : PySem.W.Frag) (a : Addr) (es : Array DictEntry) (n : Nat) (ps : List (Int × Int)) : Prop where
  at_ : K.lookup a = some ⟨.type "dict", none, .dict es n, #[]⟩
  low : (a == sysModules) = false
  ent : IntEs es.toList ps
section
variable {X : Cx} {a : Addr} {es : Array DictEntry} {n : Nat} {ps : List (Int × Int)}
theorem CidAt.map {K : PySem.W.Frag} {prog : Program} {w : World} {h : Heap} (D : CidAt K a es n ps) (I : K.In h) : h.MapOf (intKind prog w) a (fun k => findBy (intKind prog w).is es k) :=
  ⟨_, es, n, I _ _ D.at_, ⟨rfl, rfl, rfl⟩, rfl, fun e he => by
    obtain ⟨k, t, e1, e2⟩ := D.ent.keys e (Array.mem_toList_iff.mpr he)
    exact ⟨k, by rw [e1]; exact intKind_is prog w k t, e2⟩, fun _ => rfl⟩
theorem CidAt.find {K : PySem.W.Frag} {prog : Program} {w : World} (D : CidAt K a es n ps) (i : Int) : match ps.lookup i with | some m => ∃ u, findBy (intKind prog w).is es i = some (.int m u) | none => findBy (intKind prog w).is es i = none := by
  have := IntEs.find (prog := prog) (w := w) i D.ent
  obtain ⟨l⟩ := es
  unfold findBy
  rw [List.find?_toArray]
  exact this
def rInCd (a : Addr) (ps : List (Int × Int)) : R2 := fun x y H Q => ∃ i, x = .int i ∧ y = .ref a ∧ Q (.bl (ps.lookup i).isSome) H
def rIxCd (a : Addr) (ps : List (Int × Int)) : R2 := fun x y H Q => ∃ i m, x = .ref a ∧ y = .int i ∧ ps.lookup i = some m ∧ Q (.int m) H
theorem op_inCd (D : CidAt X.K a es n ps) : OpR X (compareOp .In) (rInCd a ps) := by
  intro pins s σ H x y v u Q I rx ry h
  obtain ⟨i, rfl, rfl, q⟩ := h
  obtain ⟨t, rfl⟩ := rx
  cases ry
  refine wpAny_in_of (intKind_is X.prog X.w i t) D.low (D.map I.kIn) ?_
  have hf := D.find (prog := X.prog) (w := X.w) i
  refine ⟨.bl (ps.lookup i).isSome, H, I.tok _, ?_, q⟩
  cases e : ps.lookup i with
  | none => rw [e] at hf; rw [hf]; rfl
  | some m =>
    rw [e] at hf
    obtain ⟨u, hf⟩ := hf
    rw [hf]; rfl
theorem ix_cd (D : CidAt X.K a es n ps) : IxR X (rIxCd a ps) := by
  intro value slice pins s σ H x y v u Q I rx ry h hs
  obtain ⟨i, m, rfl, rfl, e, q⟩ := h
  cases rx
  obtain ⟨t, rfl⟩ := ry
  have hf := D.find (prog := X.prog) (w := X.w) i
  rw [e] at hf
  obtain ⟨u2, hf⟩ := hf
  have hm := D.map (prog := X.prog) (w := X.w) I.kIn
  exact PyProof.Rows.tail_any hm.typeIs slot_dict_getitem.lookup (wpAny_getItem_of (intKind_is X.prog X.w i t) hm hf ⟨.int m, H, I.tok _, ⟨u2, rfl⟩, q⟩) hs
end
/-- a dict of ints of the text -/
def CidT (K : PySem.W.Frag) (mg : Str → Option Value) (x : Str) (ps : List (Int × Int)) : Prop := ∃ (a : Addr) (es : Array DictEntry) (n : Nat), mg x = some (.ref a) ∧ CidAt K a es n ps
def tInC (ps : List (Int × Int)) (t : TE) : TE := fun σ H Q => ∀ a : Addr, tOp (rInCd a ps) t (tC (.ref a)) σ H Q
def tIxD (ps : List (Int × Int)) (t : TE) : TE := fun σ H Q => ∀ a : Addr, tOp (rIxCd a ps) (tC (.ref a)) t σ H Q
theorem pt_inC {X : Cx} {x : Str} {ps : List (Int × Int)} {b : Expr} {tb : TE} {p pos : Pos} (hg : Gl X x) (T : CidT X.K X.mg x ps) (hb : PE X b tb) (hm : behindInMarks .In (.Name x p) = false) (hdb : (x == ("__debug__" : Str)) = false := by decide) : PT X (.Compare b [.In] [.Name x p] pos) (tTest (tInC ps tb)) := by
  obtain ⟨a, es, n, hx, D⟩ := T
  exact ⟨fun pins s σ H Q I h => (pt_cmpR (op_inCd D) hb (pe_glob (v := .ref a) hg hx rfl hdb) hm).run pins s σ H Q I (h a)⟩
theorem pe_ixD {X : Cx} {x : Str} {ps : List (Int × Int)} {b : Expr} {tb : TE} {p pos : Pos} (hg : Gl X x) (T : CidT X.K X.mg x ps) (hb : PE X b tb) (hs : PlainIx b) (hdb : (x == ("__debug__" : Str)) = false := by decide) : PE X (.Subscript (.Name x p) b pos) (tIxD ps tb) := by
  obtain ⟨a, es, n, hx, D⟩ := T
  exact ⟨fun pins s σ H Q I h => (pe_ix (ix_cd D) (pe_glob (v := .ref a) hg hx rfl hdb) hb hs).run pins s σ H Q I (h a)⟩
end Eng
namespace Eng
open PySem PySem.Spec PySem.Calls PyProof.Rows L2 PySem.W
end Eng
namespace Eng
open PySem PySem.Spec PyProof.Rows L2
end Eng
namespace Eng
open PySem PySem.Spec PySem.Calls PyProof.Rows L2 PySem.W
end Eng
namespace Eng
open PySem PySem.Spec PyProof.Rows L2
end Eng
namespace Eng
open PySem PySem.Spec PySem.Calls PyProof.Rows L2 PySem.W
def repS (z : Str) (n : Nat) : Str := ⟨(List.replicate n z.cps.toList).flatten.toArray⟩
section
variable {X : Cx}
def rAddS : R2 := fun x y H Q => ∃ i j, x = .str i ∧ y = .str j ∧ i.length + j.length ≤ sizeLine ∧ Q (.str (i ++ j)) H
theorem o_addS : OpR X (binaryOp .Add) rAddS := op_add_str
end
end Eng
namespace Eng
open PySem PySem.Spec PyProof.Rows L2
def StrEs (P : Params) : List DictEntry → List (Str × Int) → Prop
  | [], [] => True
  | e :: es, p :: ps => (∃ t u, e = ⟨PyData.keyHash P p.1, .str p.1 t, .int p.2 u⟩) ∧ StrEs P es ps
  | _, _ => False
theorem StrEs.lit {P : Params} : ∀ {es : List DictEntry} {ps : List (Str × Int)}, StrEs P es ps → PySem.W.KeysLit P es
  | [], [], _ => trivial
  | e :: es, p :: ps, h => by
    obtain ⟨⟨t, u, rfl⟩, h2⟩ := h
    exact ⟨⟨_, _, rfl, rfl⟩, StrEs.lit h2⟩
  | [], _ :: _, h => h.elim
  | _ :: _, [], h => h.elim
theorem StrEs.find {P : Params} : ∀ {es : List DictEntry} {ps : List (Str × Int)} (i : Str), StrEs P es ps → match ps.lookup i with | some m => ∃ u, (es.find? fun e => Value.isStrOf i e.key).map (·.val) = some (.int m u) | none => (es.find? fun e => Value.isStrOf i e.key).map (·.val) = none
  | [], [], i, _ => rfl
  | e :: es, p :: ps, i, h => by
    obtain ⟨⟨t, u, rfl⟩, h2⟩ := h
    have ih := StrEs.find i h2
    rw [List.lookup_cons, List.find?_cons]
    by_cases c : i = p.1
    · subst c
      have e2 : Value.isStrOf p.1 (.str p.1 t) = true := by simp [Value.isStrOf]
      rw [beq_self_eq_true, e2]
      exact ⟨u, rfl⟩
    · have e1 : (i == p.1) = false := by simpa using c
      have e2 : Value.isStrOf i (.str p.1 t) = false := by
        simpa [Value.isStrOf] using fun z => c z.symm
      rw [e1, e2]
      exact ih
  | [], _ :: _, _, h => h.elim
  | _ :: _, [], _, h => h.elim
structure CsdAt (K : PySem.W.Frag) (P : Params) (a : Addr) (es : Array DictEntry) (n : Nat) (ps : List (Str × Int)) : Prop where
  at_ : K.lookup a = some ⟨.type "dict", none, .dict es n, #[]⟩
  low : (a == sysModules) = false
  ent : StrEs P es.toList ps
section
variable {X : Cx} {a : Addr} {es : Array DictEntry} {n : Nat} {ps : List (Str × Int)}
theorem CsdAt.find {K : PySem.W.Frag} {P : Params} (D : CsdAt K P a es n ps) (i : Str) : match ps.lookup i with | some m => ∃ u, findBy Value.isStrOf es i = some (.int m u) | none => findBy Value.isStrOf es i = none := by
  have := StrEs.find i D.ent
  obtain ⟨l⟩ := es
  unfold findBy
  rw [List.find?_toArray]
  exact this
def rInCs (a : Addr) (ps : List (Str × Int)) : R2 := fun x y H Q => ∃ i, x = .str i ∧ y = .ref a ∧ Q (.bl (ps.lookup i).isSome) H
def rIxCs (a : Addr) (ps : List (Str × Int)) : R2 := fun x y H Q => ∃ i m, x = .ref a ∧ y = .str i ∧ ps.lookup i = some m ∧ Q (.int m) H
theorem op_inCs (D : CsdAt X.K X.w.params a es n ps) : OpR X (compareOp .In) (rInCs a ps) := by
  intro pins s σ H x y v u Q I rx ry h
  obtain ⟨i, rfl, rfl, q⟩ := h
  obtain ⟨t, rfl⟩ := rx
  cases ry
  refine wpAny_in_of (PySem.strKind_is X.prog X.w i t) D.low (PySem.W.mapOf_K (prog := X.prog) I.kIn D.at_ D.ent.lit) ?_
  have hf := D.find i
  refine ⟨.bl (ps.lookup i).isSome, H, I.tok _, ?_, q⟩
  cases e : ps.lookup i with
  | none => rw [e] at hf; rw [hf]; rfl
  | some m =>
    rw [e] at hf
    obtain ⟨u, hf⟩ := hf
    rw [hf]; rfl
theorem ix_cs (D : CsdAt X.K X.w.params a es n ps) : IxR X (rIxCs a ps) := by
  intro value slice pins s σ H x y v u Q I rx ry h hs
  obtain ⟨i, m, rfl, rfl, e, q⟩ := h
  cases rx
  obtain ⟨t, rfl⟩ := ry
  have hf := D.find i
  rw [e] at hf
  obtain ⟨u2, hf⟩ := hf
  have hm := PySem.W.mapOf_K (prog := X.prog) (w := X.w) I.kIn D.at_ D.ent.lit
  exact PyProof.Rows.tail_any hm.typeIs slot_dict_getitem.lookup (wpAny_getItem_of (PySem.strKind_is X.prog X.w i t) hm hf ⟨.int m, H, I.tok _, ⟨u2, rfl⟩, q⟩) hs
end
/-- a dict from texts to ints of the text -/
def CsdT (P : Params) (K : PySem.W.Frag) (mg : Str → Option Value) (x : Str) (ps : List (Str × Int)) : Prop := ∃ (a : Addr) (es : Array DictEntry) (n : Nat), mg x = some (.ref a) ∧ CsdAt K P a es n ps
def tInCs (ps : List (Str × Int)) (t : TE) : TE := fun σ H Q => ∀ a : Addr, tOp (rInCs a ps) t (tC (.ref a)) σ H Q
def tIxCs (ps : List (Str × Int)) (t : TE) : TE := fun σ H Q => ∀ a : Addr, tOp (rIxCs a ps) (tC (.ref a)) t σ H Q
section
variable {X : Cx} {x : Str} {ps : List (Str × Int)} {b : Expr} {tb : TE} {p pos : Pos}
theorem pt_inCs (hg : Gl X x) (T : CsdT X.w.params X.K X.mg x ps) (hb : PE X b tb) (hm : behindInMarks .In (.Name x p) = false) (hdb : (x == ("__debug__" : Str)) = false := by decide) : PT X (.Compare b [.In] [.Name x p] pos) (tTest (tInCs ps tb)) := by
  obtain ⟨a, es, n, hx, D⟩ := T
  exact ⟨fun pins s σ H Q I h => (pt_cmpR (op_inCs D) hb (pe_glob (v := .ref a) hg hx rfl hdb) hm).run pins s σ H Q I (h a)⟩
theorem pe_ixCs (hg : Gl X x) (T : CsdT X.w.params X.K X.mg x ps) (hb : PE X b tb) (hs : PlainIx b) (hdb : (x == ("__debug__" : Str)) = false := by decide) : PE X (.Subscript (.Name x p) b pos) (tIxCs ps tb) := by
  obtain ⟨a, es, n, hx, D⟩ := T
  exact ⟨fun pins s σ H Q I h => (pe_ix (ix_cs D) (pe_glob (v := .ref a) hg hx rfl hdb) hb hs).run pins s σ H Q I (h a)⟩
end
section
variable {X : Cx} {o e : Expr} {to te : TE} {apos pos : Pos}
def rInS : R2 := fun x y H Q => ∃ (c : Nat) (z : Str), x = .str ⟨#[c]⟩ ∧ y = .str z ∧ Q (.bl (decide (c ∈ z.cps.toList))) H
theorem o_inS : OpR X (compareOp .In) rInS := op_in_sign
def rLower : V → List V → Hp → VK → Prop := fun x xs H Q => ∃ a, x = .str a ∧ xs = [] ∧ a.length ≤ 5592405 ∧ Q (.str (Txt.lower a)) H
def rUpper : V → List V → Hp → VK → Prop := fun x xs H Q => ∃ a, x = .str a ∧ xs = [] ∧ a.length ≤ 5592405 ∧ Q (.str (Txt.upper a)) H
def rFind : V → List V → Hp → VK → Prop := fun x xs H Q => ∃ a b, x = .str a ∧ xs = [.str b] ∧ Q (.int (Txt.find a b)) H
theorem pe_lowerA (ho : PE X o to) (hbase : attributeBase o "lower" X.env (eval o X.env) = eval o X.env := by rfl) (hline : (apos.endLine == pos.line) = true := by rfl) : PE X (.Call (.Attribute o "lower" apos) [] [] pos) (tM0 rLower to) := pe_lower ho hbase hline
theorem pe_upperA (ho : PE X o to) (hbase : attributeBase o "upper" X.env (eval o X.env) = eval o X.env := by rfl) (hline : (apos.endLine == pos.line) = true := by rfl) : PE X (.Call (.Attribute o "upper" apos) [] [] pos) (tM0 rUpper to) := pe_upper ho hbase hline
theorem pe_findA (ho : PE X o to) (he : PE X e te) (hs : starEach [e] X.env = [(false, eval e X.env)] := by rfl) (hbase : attributeBase o "find" X.env (eval o X.env) = eval o X.env := by rfl) (hline : (apos.endLine == pos.line) = true := by rfl) :
    PE X (.Call (.Attribute o "find" apos) [e] [] pos) (tM1 rFind to te) := pe_m1 F.slot_str_find F.type_str_find mt_find ho he hs hbase hline
end
def rNotInCd (a : Addr) (ps : List (Int × Int)) : R2 := fun x y H Q => ∃ i, x = .int i ∧ y = .ref a ∧ Q (.bl (!(ps.lookup i).isSome)) H
theorem op_notInCd {X : Cx} {a : Addr} {es : Array DictEntry} {n : Nat} {ps : List (Int × Int)} (D : CidAt X.K a es n ps) : OpR X (compareOp .NotIn) (rNotInCd a ps) := by
  intro pins s σ H x y v u Q I rx ry h
  obtain ⟨i, rfl, rfl, q⟩ := h
  obtain ⟨t, rfl⟩ := rx
  cases ry
  refine wpAny_notIn_of (intKind_is X.prog X.w i t) D.low (D.map I.kIn) ?_
  have hf := D.find (prog := X.prog) (w := X.w) i
  refine ⟨.bl (!(ps.lookup i).isSome), H, I.tok _, ?_, q⟩
  cases e : ps.lookup i with
  | none => rw [e] at hf; rw [hf]; rfl
  | some m =>
    rw [e] at hf
    obtain ⟨u, hf⟩ := hf
    rw [hf]; rfl
def tNotInC (ps : List (Int × Int)) (t : TE) : TE := fun σ H Q => ∀ a : Addr, tOp (rNotInCd a ps) t (tC (.ref a)) σ H Q
theorem pt_notInC {X : Cx} {x : Str} {ps : List (Int × Int)} {b : Expr} {tb : TE} {p pos : Pos} (hg : Gl X x) (T : CidT X.K X.mg x ps) (hb : PE X b tb) (hm : behindInMarks .NotIn (.Name x p) = false) (hdb : (x == ("__debug__" : Str)) = false := by decide) : PT X (.Compare b [.NotIn] [.Name x p] pos) (tTest (tNotInC ps tb)) := by
  obtain ⟨a, es, n, hx, D⟩ := T
  exact ⟨fun pins s σ H Q I h => (pt_cmpR (op_notInCd D) hb (pe_glob (v := .ref a) hg hx rfl hdb) hm).run pins s σ H Q I (h a)⟩
end Eng
namespace Pu
open PySem L2 Eng
/-- what never changes (G); the machines (object, counts, walk); the sources of draws -/
structure Gh where
  G : Hp
  ms : List (Addr × Addr × Addr)
  ss : List Addr
  os : List Addr
  ts : List (Addr × Str)
structure Gh.le (g g' : Gh) : Prop where
  G : ∀ a o, g.G a = some o → g'.G a = some o
  ms : ∀ (i : Nat) q, g.ms[i]? = some q → g'.ms[i]? = some q
  ss : ∀ (i : Nat) q, g.ss[i]? = some q → g'.ss[i]? = some q
  os : ∀ (i : Nat) q, g.os[i]? = some q → g'.os[i]? = some q
  ts : g'.ts = g.ts
theorem Gh.le.refl (g : Gh) : g.le g := ⟨fun _ _ h => h, fun _ _ h => h, fun _ _ h => h, fun _ _ h => h, rfl⟩
theorem Gh.le.trans {a b d : Gh} (h : a.le b) (k : b.le d) : a.le d := ⟨fun x o z => k.G x o (h.G x o z), fun x o z => k.ms x o (h.ms x o z), fun x o z => k.ss x o (h.ss x o z), fun x o z => k.os x o (h.os x o z), k.ts.trans h.ts⟩
/-- data -/
inductive Dat where
  | non | bl (b : Bool) | int (n : Int) | str (s : Str) | tup (l : List Dat) | lst (l : List Dat) | cst (l : List Dat)
  | big (b : Nat) (n : Int) | mach (i : Nat) | src (i : Nat) | opq (v : V) | dic (l : List (Str × Int)) | ob (j : Nat) | fn (f : Addr) (g : Gh) | fnc (j : Nat)
  | dct (ks : List Key) (l : List Dat)
/-- a list or a dict that may be changed, wherever it is held -/
inductive Obj where
  | lst (l : List Dat) | dic (l : List (Str × Int))
  /-- a dict by its keys and values; an instance of the class cl by its fields -/
  | kd (ks : List Key) (l : List Dat) | ins (cl : Nat) (ks : List Str) (l : List Dat)
/-- a name's slot: nothing known, a value, a list that this name alone holds (made here, or the caller's) -/
inductive Slot where
  | no | val (d : Dat) | own (f : Bool) (l : List Dat)
  | ownT (l : List Dat) (r : List Dat)
abbrev Env := List Slot
structure Mach where
  b : Nat
  cut : Int
  ns : List Int
  walk : List (Str × Int × Int)
structure Wld where
  ms : List Mach
  ss : Nat
  os : List Obj
abbrev PQ := Dat → Env → Wld → Prop
abbrev PE := Env → Wld → PQ → Prop
abbrev PF := Env → Wld → (List Dat → Env → Wld → Prop) → Prop
abbrev PT := Env → Wld → (Bool → Env → Wld → Prop) → Prop
abbrev PA := Env → Wld → (List Dat → Env → Wld → Prop) → Prop
abbrev PO := Env → Wld → (Option Int → Env → Wld → Prop) → Prop
abbrev PG := Dat → Env → Wld → (Env → Wld → Prop) → Prop
abbrev PSp := List Dat → Wld → (Dat → Wld → Prop) → Prop
/-- with a list of the caller's that may be changed: the other arguments, the list -/
abbrev PSpO := List Dat → List Dat → Wld → (Dat → List Dat → Wld → Prop) → Prop
abbrev Q1 := Dat → (Dat → Prop) → Prop
abbrev Q2 := Dat → Dat → (Dat → Prop) → Prop
abbrev QL := List Dat → (Dat → Prop) → Prop
structure PEnds where
  nx : Env → Wld → Prop
  rt : PQ
  bk : Env → Wld → Prop
  ct : Env → Wld → Prop
abbrev PS := PEnds → Env → Wld → Prop
def pVar (i : Nat) : PE := fun e w k => match e[i]? with | some (.val d) => k d e w | _ => False
def pC (d : Dat) : PE := fun e w k => k d e w
def pOp (q : Q2) (a b : PE) : PE := fun e w k => a e w fun x e w => b e w fun y e w => q x y fun z => k z e w
def pUn (q : Q1) (a : PE) : PE := fun e w k => a e w fun x e w => q x fun z => k z e w
def isB : Dat → (Bool → Prop) → Prop
  | .bl b, k => k b
  | _, _ => False
def pTest (a : PE) : PT := fun e w k => a e w fun x e w => isB x fun b => k b e w
def pNot (a : PT) : PT := fun e w k => a e w fun b e w => k (!b) e w
def pAnd (a b : PT) : PT := fun e w k => a e w fun c e w => if c = true then b e w k else k false e w
def pOr (a b : PT) : PT := fun e w k => a e w fun c e w => if c = true then k true e w else b e w k
def pAndV (a b : PE) : PE := fun e w k => a e w fun x e w => isB x fun c => if c = true then b e w k else k (.bl false) e w
def pOrV (a b : PE) : PE := fun e w k => a e w fun x e w => isB x fun c => if c = true then k (.bl true) e w else b e w k
def pNotV (a : PE) : PE := fun e w k => a e w fun x e w => isB x fun c => k (.bl (!c)) e w
def pIf (c : PT) (a b : PE) : PE := fun e w k => c e w fun t e w => if t = true then a e w k else b e w k
def pChain (q q' : Q2) (a b c : PE) : PE := fun e w k => a e w fun x e w => b e w fun y e w => q x y fun z => isB z fun t => if t = true then c e w fun v e w => q' y v fun z => k z e w else k (.bl false) e w
def pNil : PA := fun e w k => k [] e w
def pCons (a : PE) (r : PA) : PA := fun e w k => a e w fun x e w => r e w fun xs e w => k (x :: xs) e w
def pCall (P : PSp) (a : PA) : PE := fun e w k => a e w fun ds e w => P ds w fun d w => k d e w
def pCallD (P : PSp) (dv : List Dat) (a : PA) : PE := fun e w k => a e w fun ds e w => P (ds ++ dv) w fun d w => k d e w
def pKw (n : Nat) (P : PSp) (ix : List Nat) (a : PA) : PE := fun e w k => a e w fun ds e w => ds.length = n ∧ P (ix.map fun i => ds.getD i .non) w fun d w => k d e w
def pTup (a : PA) : PE := fun e w k => a e w fun ds e w => ds.length ≤ sizeLine ∧ k (.tup ds) e w
def pCB (q : QL) (a : PA) : PE := fun e w k => a e w fun ds e w => q ds fun z => k z e w
def pLst (a : PA) : PF := fun e w k => a e w fun ds e w => ds.length ≤ sizeLine ∧ k ds e w
def pFz (a : PF) : PE := fun e w k => a e w fun ds e w => k (.lst ds) e w
/-- a list from one or two values -/
def pOpF (q : Dat → Dat → (List Dat → Prop) → Prop) (a b : PE) : PF := fun e w k => a e w fun x e w => b e w fun y e w => q x y fun z => k z e w
def pCBF (q : List Dat → (List Dat → Prop) → Prop) (a : PA) : PF := fun e w k => a e w fun ds e w => q ds fun z => k z e w
def ownAt (e : Env) (i : Nat) (k : Bool → List Dat → Prop) : Prop := match e[i]? with | some (.own f l) => k f l | _ => False
def pOpO (q : Q2) (i : Nat) (b : PE) : PE := fun e w k => ownAt e i fun _ _ => b e w fun y e w => ownAt e i fun f l => q (.lst l) y fun z => k z e w
def pCBO (q : QL) (i : Nat) : PE := fun e w k => ownAt e i fun f l => q [.lst l] fun z => k z e w
def pSeq (a b : PS) : PS := fun D e w => a { D with nx := b D } e w
def pNext : PS := fun D e w => D.nx e w
def pBreak : PS := fun D e w => D.bk e w
def pCont : PS := fun D e w => D.ct e w
def pNever : PS := fun _ _ _ => False
def pAsg (a : PE) (i : Nat) : PS := fun D e w => a e w fun d e w => D.nx (e.set i (.val d)) w
def pAsgO (a : PF) (i : Nat) : PS := fun D e w => a e w fun l e w => D.nx (e.set i (.own true l)) w
def setAll : Env → List Nat → List Dat → Option Env
  | e, [], [] => some e
  | e, i :: is, d :: ds => setAll (e.set i (.val d)) is ds
  | _, _, _ => none
def onSome {α : Type} (o : Option α) (k : α → Prop) : Prop := match o with | some x => k x | none => False
def tupOf : Dat → (List Dat → Prop) → Prop
  | .tup l, k => k l
  | _, _ => False
def lstOf : Dat → (List Dat → Prop) → Prop
  | .lst l, k => k l
  | .cst l, k => k l
  | _, _ => False
/-- a list or a tuple -/
def seqOf : Dat → (List Dat → Prop) → Prop
  | .lst l, k => k l
  | .cst l, k => k l
  | .tup l, k => k l
  | _, _ => False
def intOf : Dat → (Int → Prop) → Prop
  | .int n, k => k n
  | _, _ => False
def pgName (i : Nat) : PG := fun d e w k => k (e.set i (.val d)) w
def pgTup (is : List Nat) : PG := fun d e w k => tupOf d fun ds => onSome (setAll e is ds) fun e => k e w
def pAsgG (a : PE) (g : PG) : PS := fun D e w => a e w fun d e w => g d e w D.nx
def pPar (is : List Nat) (a : PA) : PS := fun D e w => a e w fun ds e w => onSome (setAll e is ds) fun e => D.nx e w
def pRet (a : PE) : PS := fun D e w => a e w D.rt
def pRetN : PS := fun D e w => D.rt .non e w
def pDrop (a : PE) : PS := fun D e w => a e w fun _ e w => D.nx e w
def pIfS (c : PT) (a b : PS) : PS := fun D e w => c e w fun t e w => if t = true then a D e w else b D e w
def pAppend (i : Nat) (a : PE) : PS := fun D e w => ownAt e i fun _ _ => a e w fun d e w => ownAt e i fun f l => l.length < sizeLine ∧ D.nx (e.set i (.own f (l ++ [d]))) w
def pSetI (i : Nat) (ix v : PE) : PS := fun D e w => v e w fun d e w => ownAt e i fun _ _ => ix e w fun x e w => intOf x fun n => ownAt e i fun f l => onSome (ixN l.length n) fun j => D.nx (e.set i (.own f (l.set j d))) w
def fz : Slot → Slot
  | .own true l => .val (.lst l)
  | s => s
/-- from here on the names is hold their lists no more alone -/
def frz (e : Env) : List Nat → Env
  | [] => e
  | i :: is => frz (match e[i]? with | some s => e.set i (fz s) | none => e) is
def pFrz (is : List Nat) (a : PS) : PS := fun D e w => a D (frz e is) w
def whl (c : PT) (b : PS) (D : PEnds) : Nat → Env → Wld → Prop
  | 0, _, _ => False
  | n + 1, e, w => c e w fun t e w => if t = true then b ⟨whl c b D n, D.rt, D.nx, whl c b D n⟩ e w else D.nx e w
def pWhile (c : PT) (b : PS) : PS := fun D e w => ∃ n, whl c b D n e w
def lp (g : PG) (b : PS) (D : PEnds) : List Dat → Env → Wld → Prop
  | [], e, w => D.nx e w
  | d :: ds, e, w => g d e w fun e w => b ⟨lp g b D ds, D.rt, D.nx, lp g b D ds⟩ e w
def pFor (s : PA) (g : PG) (b : PS) : PS := fun D e w => s e w fun ds e w => lp g b D ds e w
def wip (e : Env) : List Nat → Env
  | [] => e
  | i :: is => wip (e.set i .no) is
def lcp (g : PG) (t : PT) (a : PE) (vs : List Nat) (k : List Dat → Env → Wld → Prop) : List Dat → List Dat → Env → Wld → Prop
  | [], acc, e, w => k acc e w
  | d :: ds, acc, e, w => g d e w fun e w => t e w fun b e w => if b = true then a e w fun y e w => acc.length < sizeLine ∧ lcp g t a vs k ds (acc ++ [y]) (wip e vs) w else lcp g t a vs k ds acc (wip e vs) w
def pLc (s : PA) (g : PG) (t : PT) (a : PE) (vs : List Nat) : PF := fun e w k => s e w fun ds e w => lcp g t a vs k ds [] (wip e vs) w
def pYes : PT := fun e w k => k true e w
/-- what is walked -/
def pIL (a : PE) : PA := fun e w k => a e w fun d e w => lstOf d fun l => k l e w
def pIT (a : PE) : PA := fun e w k => a e w fun d e w => tupOf d fun l => k l e w
def rng (lo : Int) : Nat → List Dat
  | 0 => []
  | n + 1 => .int lo :: rng (lo + 1) n
def pIR1 (a : PE) : PA := fun e w k => a e w fun d e w => intOf d fun n => (-(2 ^ 62) ≤ n ∧ n < 2 ^ 62) ∧ k (rng 0 n.toNat) e w
def pIR2 (a b : PE) : PA := fun e w k => a e w fun d e w => b e w fun d' e w => intOf d fun n => intOf d' fun m => (-(2 ^ 62) ≤ n ∧ n < 2 ^ 62 ∧ -(2 ^ 62) ≤ m ∧ m < 2 ^ 62) ∧ k (rng n (m - n).toNat) e w
def enm (i : Nat) : List Dat → List Dat
  | [] => []
  | d :: ds => .tup [.int (i : Int), d] :: enm (i + 1) ds
def pIEnum (a : PE) : PA := fun e w k => a e w fun d e w => seqOf d fun l => k (enm 0 l) e w
end Pu
namespace Pu
open PySem L2 Eng
/-- the objects that may be changed, the tables of code -/
def Gh.ot (g : Gh) : List Addr := g.os ++ g.ts.map (·.1)
def Gh.mu (g : Gh) : List Addr := g.ms.map (·.2.1) ++ (g.ms.map (·.2.2) ++ (g.ss ++ g.ot))
/-- a dict of texts and integers -/
def dKs (l : List (Str × Int)) : List (Key × V) := l.map fun p => ((Sum.inr p.1 : Key), V.int p.2)
section
variable (K : PySem.W.Frag) (c : Pc)
mutual
inductive Rep (g : Gh) : V → Dat → Prop
  | non : Rep g .non .non
  | bl (b : Bool) : Rep g (.bl b) (.bl b)
  | int (n : Int) : Rep g (.int n) (.int n)
  | str (s : Str) : Rep g (.str s) (.str s)
  | tup {a : Addr} {vs : List V} {ds : List Dat} : g.G a = some (.tup vs) → Reps g vs ds → Rep g (.ref a) (.tup ds)
  | lst {a : Addr} {vs : List V} {ds : List Dat} : g.G a = some (.lst vs) → Reps g vs ds → Rep g (.ref a) (.lst ds)
  | cst {a : Addr} {vs : List V} {ds : List Dat} : SqL K g.G a vs → Reps g vs ds → Rep g (.ref a) (.cst ds)
  | big {a : Addr} {b : Nat} {n : Int} : BigAt c g.G a b n → Rep g (.ref a) (.big b n)
  | mach {i : Nat} {q : Addr × Addr × Addr} : g.ms[i]? = some q → Rep g (.ref q.1) (.mach i)
  | src {i : Nat} {a : Addr} : g.ss[i]? = some a → Rep g (.ref a) (.src i)
  | opq (v : V) : Rep g v (.opq v)
  | dic {a : Addr} {l : List (Str × Int)} : g.G a = some (.dK (dKs l)) → Rep g (.ref a) (.dic l)
  | ob {j : Nat} {a : Addr} : g.os[j]? = some a → Rep g (.ref a) (.ob j)
  | fn {f : Addr} {g0 : Gh} : g0.le g → Rep g (.ref f) (.fn f g0)
  | fnc (j : Nat) : Rep g (.ref (c.fs.getD j 0)) (.fnc j)
  | dct {a : Addr} {ks : List Key} {vs : List V} {ds : List Dat} : g.G a = some (.dK (ks.zip vs)) → ks.length = vs.length → Reps g vs ds → Rep g (.ref a) (.dct ks ds)
inductive Reps (g : Gh) : List V → List Dat → Prop
  | nil : Reps g [] []
  | cons {v : V} {vs : List V} {d : Dat} {ds : List Dat} : Rep g v d → Reps g vs ds → Reps g (v :: vs) (d :: ds)
end
end
section
variable {K : PySem.W.Frag} {c : Pc} {g g' : Gh}
theorem sqT_mono {G G' : Hp} (h : ∀ a o, G a = some o → G' a = some o) {a : Addr} {vs : List V} (s : SqT K G a vs) : SqT K G' a vs := by
  rcases s with (s | ⟨o, s⟩) | s
  · exact .inl (.inl (h _ _ s))
  · exact .inl (.inr ⟨o, h _ _ s⟩)
  · exact .inr s
theorem sqL_mono {G G' : Hp} (h : ∀ a o, G a = some o → G' a = some o) {a : Addr} {vs : List V} (s : SqL K G a vs) : SqL K G' a vs := by
  rcases s with (s | ⟨o, s⟩) | s
  · exact .inl (.inl (h _ _ s))
  · exact .inl (.inr ⟨o, h _ _ s⟩)
  · exact .inr s
theorem bigAt_mono {G G' : Hp} (h : ∀ a o, G a = some o → G' a = some o) {a : Addr} {b : Nat} {n : Int} (s : BigAt c G a b n) : BigAt c G' a b n := s.same h
mutual
theorem Rep.mono (le : g.le g') : ∀ {d : Dat} {v : V}, Rep K c g v d → Rep K c g' v d
  | .non, _, .non => .non
  | .bl _, _, .bl _ => .bl _
  | .int _, _, .int _ => .int _
  | .str _, _, .str _ => .str _
  | .tup _, _, .tup s r => .tup (le.G _ _ s) (Reps.mono le r)
  | .lst _, _, .lst s r => .lst (le.G _ _ s) (Reps.mono le r)
  | .cst _, _, .cst s r => .cst (sqL_mono le.G s) (Reps.mono le r)
  | .big _ _, _, .big h => .big (bigAt_mono le.G h)
  | .mach _, _, .mach h => .mach (le.ms _ _ h)
  | .src _, _, .src h => .src (le.ss _ _ h)
  | .opq _, _, .opq _ => .opq _
  | .dic _, _, .dic h => .dic (le.G _ _ h)
  | .ob _, _, .ob h => .ob (le.os _ _ h)
  | .fn _ _, _, .fn h => .fn (h.trans le)
  | .fnc _, _, .fnc _ => .fnc _
  | .dct _ _, _, .dct s hl r => .dct (le.G _ _ s) hl (Reps.mono le r)
theorem Reps.mono (le : g.le g') : ∀ {ds : List Dat} {vs : List V}, Reps K c g vs ds → Reps K c g' vs ds
  | [], _, .nil => .nil
  | _ :: _, _, .cons h t => .cons (Rep.mono le h) (Reps.mono le t)
end
theorem Reps.length : ∀ {vs : List V} {ds : List Dat}, Reps K c g vs ds → vs.length = ds.length
  | _, _, .nil => rfl
  | _, _, .cons _ t => congrArg (· + 1) t.length
theorem Reps.get : ∀ {vs : List V} {ds : List Dat} {i : Nat} {d : Dat}, Reps K c g vs ds → ds[i]? = some d → ∃ v, vs[i]? = some v ∧ Rep K c g v d
  | _, _, 0, _, .cons h _, e => ⟨_, rfl, by cases e; exact h⟩
  | _, _, i + 1, _, .cons _ t, e => t.get (i := i) e
theorem Reps.app : ∀ {vs : List V} {ds : List Dat} {vs' : List V} {ds' : List Dat}, Reps K c g vs ds → Reps K c g vs' ds' → Reps K c g (vs ++ vs') (ds ++ ds')
  | _, _, _, _, .nil, h => h
  | _, _, _, _, .cons a t, h => .cons a (t.app h)
theorem Reps.set {v : V} {d : Dat} (h : Rep K c g v d) : ∀ {vs : List V} {ds : List Dat} (i : Nat), Reps K c g vs ds → Reps K c g (vs.set i v) (ds.set i d)
  | _, _, _, .nil => .nil
  | _, _, 0, .cons _ t => .cons h t
  | _, _, i + 1, .cons a t => .cons a (t.set h i)
theorem Reps.drop : ∀ {vs : List V} {ds : List Dat} (i : Nat), Reps K c g vs ds → Reps K c g (vs.drop i) (ds.drop i)
  | _, _, 0, h => h
  | _, _, _ + 1, .nil => .nil
  | _, _, i + 1, .cons _ t => t.drop i
theorem Reps.take : ∀ {vs : List V} {ds : List Dat} (i : Nat), Reps K c g vs ds → Reps K c g (vs.take i) (ds.take i)
  | _, _, 0, _ => .nil
  | _, _, _ + 1, .nil => .nil
  | _, _, i + 1, .cons h t => .cons h (t.take i)
theorem Reps.rev : ∀ {vs : List V} {ds : List Dat}, Reps K c g vs ds → Reps K c g vs.reverse ds.reverse
  | _, _, .nil => .nil
  | _, _, .cons h t => by
    rw [List.reverse_cons, List.reverse_cons]
    exact t.rev.app (.cons h .nil)
theorem Reps.rep {vs : List V} {ds : List Dat} (h : Reps K c g vs ds) : ∀ (n : Nat), Reps K c g (List.replicate n vs).flatten (List.replicate n ds).flatten
  | 0 => .nil
  | n + 1 => by
    rw [List.replicate_succ, List.replicate_succ, List.flatten_cons, List.flatten_cons]
    exact h.app (h.rep n)
theorem Rep.intI {v : V} {n : Int} (h : Rep K c g v (.int n)) : v = .int n := by cases h; rfl
theorem Rep.blI {v : V} {b : Bool} (h : Rep K c g v (.bl b)) : v = .bl b := by cases h; rfl
theorem Rep.strI {v : V} {b : Str} (h : Rep K c g v (.str b)) : v = .str b := by cases h; rfl
theorem Rep.nonI {v : V} (h : Rep K c g v .non) : v = .non := by cases h; rfl
theorem Reps.ofInts : ∀ (ns : List Int), Reps K c g (ns.map V.int) (ns.map Dat.int)
  | [] => .nil
  | n :: ns => .cons (.int n) (Reps.ofInts ns)
end
/-- what a walk's entry is -/
def dW (x : Str × Int × Int) : Dat := .tup [.str x.1, .int x.2.1, .int x.2.2]
structure MRep (K : PySem.W.Frag) (c : Pc) (g : Gh) (H : Hp) (q : Addr × Addr × Addr) (m : Mach) : Prop where
  ins : ∃ dx, g.G q.1 = some (.ins c.CMachine dx (mF m.b m.cut q.2.1 q.2.2))
  cnt : H q.2.1 = some (.dK (cK m.ns))
  ten : m.ns.length = 10
  wlk : ∃ vs, H q.2.2 = some (.lst vs) ∧ Reps K c g vs (m.walk.map dW)
  few : m.walk.length ≤ 1000
/-- how an object stands -/
def ORep (K : PySem.W.Frag) (c : Pc) (g : Gh) (H : Hp) (a : Addr) : Obj → Prop
  | .lst l => ∃ vs, H a = some (.lst vs) ∧ Reps K c g vs l
  | .dic l => H a = some (.dK (dKs l))
  | .kd ks l => ∃ vs, H a = some (.dK (ks.zip vs)) ∧ (ks.length = vs.length ∧ ks.Nodup) ∧ Reps K c g vs l
  | .ins cl ks l => ∃ dx vs, H a = some (.ins (c.ks.getD cl 0) dx (ks.zip vs)) ∧ ks.length = vs.length ∧ Reps K c g vs l
theorem ORep.mono {K : PySem.W.Frag} {c : Pc} {g g' : Gh} {H H' : Hp} {a : Addr} {o : Obj} (h : ORep K c g H a o) (le : g.le g') (e : H' a = H a) : ORep K c g' H' a o := by
  cases o with
  | lst l => obtain ⟨vs, h1, h2⟩ := h; exact ⟨vs, e.trans h1, h2.mono le⟩
  | dic l => exact e.trans h
  | kd ks l => obtain ⟨vs, h1, h2, h3⟩ := h; exact ⟨vs, e.trans h1, h2, h3.mono le⟩
  | ins cl ks l => obtain ⟨dx, vs, h1, h2, h3⟩ := h; exact ⟨dx, vs, e.trans h1, h2, h3.mono le⟩
/-- no code object -/
def NoC (o : HO) : Prop := ∀ c q, o ≠ LamX.CodeO c q
theorem noC_lst {vs : List V} : NoC (.lst vs) := fun _ _ z => by unfold LamX.CodeO at z; cases z
theorem noC_dK {vs : List (Key × V)} : NoC (.dK vs) := fun _ _ z => by unfold LamX.CodeO at z; cases z
/-- code objects stay -/
def CKeep (H H' : Hp) : Prop := ∀ a c q, H a = some (LamX.CodeO c q) → H' a = some (LamX.CodeO c q)
theorem CKeep.refl (H : Hp) : CKeep H H := fun _ _ _ h => h
theorem CKeep.updN {H : Hp} {p : Addr} {o : HO} (h : H p = none) : CKeep H (upd H p o) := fun a c q e => by rw [upd_ne (ne_of_none e h)]; exact e
theorem CKeep.upd {H : Hp} {p : Addr} {o u : HO} (h : H p = some u) (hu : NoC u) : CKeep H (upd H p o) := fun a c q e => by
  rw [upd_ne (fun z => by rw [z, h] at e; exact hu c q (Option.some.inj e))]; exact e
/-- a table of code: its code objects never change -/
def TabG (g : Gh) (H : Hp) (p : Addr × Str) : Prop := ∃ ps : Array Value, H p.1 = some (.tbl ps) ∧ TriplesOk ps.toList ∧ ∀ (pos : Pos) (cv : Value), codeAmong pos ps.toList = some cv → ∃ c, cv = .ref c ∧ g.G c = some (LamX.CodeO c p.2)
theorem tabs_mono {T : List (Addr × Str)} {g g' : Gh} {H H' : Hp} (h : ∀ p ∈ T, TabG g H p) (le : ∀ a o, g.G a = some o → g'.G a = some o) (e : ∀ p ∈ T, H' p.1 = H p.1) : ∀ p ∈ T, TabG g' H' p := fun p hp => by
  obtain ⟨ps, h1, h2, h3⟩ := h p hp
  refine ⟨ps, (e p hp).trans h1, h2, fun pos cv hc => ?_⟩
  obtain ⟨c, e1, e2⟩ := h3 pos cv hc
  exact ⟨c, e1, le _ _ e2⟩
/-- the world in the heap -/
structure Wr (K : PySem.W.Frag) (c : Pc) (g : Gh) (H : Hp) (w : Wld) : Prop where
  sub : ∀ a o, g.G a = some o → H a = some o
  nd : g.mu.Nodup
  off : ∀ a ∈ g.mu, g.G a = none
  mlen : g.ms.length = w.ms.length
  mach : ∀ (i : Nat) q m, g.ms[i]? = some q → w.ms[i]? = some m → MRep K c g H q m
  srcs : ∀ a ∈ g.ss, ∃ o, H a = some o ∧ SrcO o
  nss : g.ss.length = w.ss
  olen : g.os.length = w.os.length
  objs : ∀ (i : Nat) a o, g.os[i]? = some a → w.os[i]? = some o → ORep K c g H a o
  tabs : ∀ p ∈ g.ts, TabG g H p
  hts : g.ts = c.ts
/-- what a call leaves -/
structure Aft (g : Gh) (H : Hp) (g' : Gh) (H' : Hp) : Prop where
  le : g.le g'
  keep : ∀ a o, H a = some o → a ∉ g.mu → H' a = some o
  frz : ∀ a o, H a = some o → g'.G a = g.G a
  new : ∀ a ∈ g'.mu, a ∈ g.mu ∨ H a = none
  dom : ∀ a o, H a = some o → ∃ o', H' a = some o'
theorem Aft.refl (g : Gh) (H : Hp) : Aft g H g H := ⟨Gh.le.refl g, fun _ _ h _ => h, fun _ _ _ => rfl, fun _ h => .inl h, fun _ o h => ⟨o, h⟩⟩
theorem Aft.trans {g g' g'' : Gh} {H H' H'' : Hp} (h : Aft g H g' H') (k : Aft g' H' g'' H'') : Aft g H g'' H'' where
  le := h.le.trans k.le
  keep := fun a o e n => k.keep a o (h.keep a o e n) fun z => by
    rcases h.new a z with z | z
    · exact n z
    · rw [z] at e; cases e
  frz := fun a o e => by
    obtain ⟨o', e'⟩ := h.dom a o e
    rw [k.frz a o' e', h.frz a o e]
  new := fun a z => by
    rcases k.new a z with z | z
    · exact h.new a z
    · refine .inr ?_
      cases e : H a with
      | none => rfl
      | some o => obtain ⟨o', e'⟩ := h.dom a o e; rw [e'] at z; cases z
  dom := fun a o e => by
    obtain ⟨o', e'⟩ := h.dom a o e
    exact k.dom a o' e'
/-- a promise over the heap keeps one over data -/
def SndP (K : PySem.W.Frag) (c : Pc) (sp : Sp) (P : PSp) : Prop := ∀ (g : Gh) (H : Hp) (w : Wld) (vs : List V) (ds : List Dat) (k : Dat → Wld → Prop) (Q : VK) (E : XK), Wr K c g H w → Reps K c g vs ds → P ds w k →
  (∀ v d g' H' w', Aft g H g' H' → Wr K c g' H' w' → Rep K c g' v d → k d w' → Q v H') → sp vs H Q E
/-- a promise over data, as one over the heap -/
def lif (K : PySem.W.Frag) (c : Pc) (P : PSp) : Sp := fun vs H Q _ => ∃ (g : Gh) (w : Wld) (ds : List Dat) (k : Dat → Wld → Prop), Wr K c g H w ∧ Reps K c g vs ds ∧ P ds w k ∧ ∀ v d g' H' w', Aft g H g' H' → Wr K c g' H' w' → Rep K c g' v d → k d w' → Q v H'
theorem SndP.lif {K : PySem.W.Frag} {c : Pc} {P : PSp} : SndP K c (lif K c P) P := fun g _ w _ ds k _ _ h1 h2 h3 h4 => ⟨g, w, ds, k, h1, h2, h3, h4⟩
/-- the entry: heap, what was known, the lists of the caller's that may be changed -/
structure En where
  H : Hp
  g : Gh
  M : List Addr
structure Cf where
  g : Gh
  H : Hp
  e : Env
  w : Wld
  os : List (Nat × Addr)
def Cf.mu (s : Cf) (F : List (Addr × HO)) : List Addr := s.g.mu ++ (s.os.map (·.2) ++ F.map (·.1))
/-- a name's list: new, or one of the caller's -/
def OwnF (X : En) (f : Bool) (a : Addr) : Prop := (f = true → X.H a = none) ∧ (f = false → a ∈ X.M)
def RSl (K : PySem.W.Frag) (c : Pc) (X : En) (s : Cf) (i : Nat) (o : Option (Option V)) : Slot → Prop
  | .no => True
  | .val d => ∃ v, o = some (some v) ∧ Rep K c s.g v d
  | .own f ds => ∃ a vs, o = some (some (.ref a)) ∧ (i, a) ∈ s.os ∧ s.H a = some (.lst vs) ∧ Reps K c s.g vs ds ∧ OwnF X f a
  | .ownT l r => ∃ p a us vs, o = some (some (.ref p)) ∧ (i, a) ∈ s.os ∧ s.g.G p = some (.tup (.ref a :: us)) ∧ Reps K c s.g us r ∧ s.H a = some (.lst vs) ∧ Reps K c s.g vs l ∧ X.H a = none
structure In (K : PySem.W.Frag) (c : Pc) (X : En) (F : List (Addr × HO)) (σ : L2.St) (s : Cf) : Prop where
  wr : Wr K c s.g s.H s.w
  nd : (s.mu F).Nodup
  off : ∀ a ∈ s.mu F, s.g.G a = none
  len : s.e.length = σ.length
  env : ∀ (i : Nat) z, s.e[i]? = some z → RSl K c X s i σ[i]? z
  held : ∀ q ∈ F, s.H q.1 = some q.2
  oal : ∀ q ∈ s.os, ∃ vs, s.H q.2 = some (.lst vs)
  le : X.g.le s.g
  keep : ∀ a o, X.H a = some o → a ∉ X.g.mu → a ∉ X.M → s.H a = some o
  frz : ∀ a o, X.H a = some o → s.g.G a = X.g.G a
  new : ∀ a ∈ s.mu F, a ∈ X.g.mu ∨ a ∈ X.M ∨ X.H a = none
  dom : ∀ a o, X.H a = some o → ∃ o', s.H a = some o'
section
variable {K : PySem.W.Frag} {c : Pc} {X : En} {F : List (Addr × HO)} {σ : L2.St} {s : Cf}
theorem In.fresh (I : In K c X F σ s) {p : Addr} (h : s.H p = none) : X.H p = none := by
  cases e : X.H p with
  | none => rfl
  | some o => obtain ⟨o', e'⟩ := I.dom p o e; rw [e'] at h; cases h
theorem In.offG (I : In K c X F σ s) {p : Addr} (h : s.H p = none) : s.g.G p = none := by
  cases e : s.g.G p with
  | none => rfl
  | some o => rw [I.wr.sub p o e] at h; cases h
/-- all that is meant to change stands -/
theorem Wr.muAt {g : Gh} {H : Hp} {w : Wld} (W : Wr K c g H w) {a : Addr} (h : a ∈ g.mu) : ∃ o, H a = some o := by
  rcases List.mem_append.mp h with h | h
  · obtain ⟨q, hq, rfl⟩ := List.mem_map.mp h
    obtain ⟨i, hi⟩ := List.mem_iff_getElem?.mp hq
    have hl : i < w.ms.length := by rw [← W.mlen]; exact (List.getElem?_eq_some_iff.mp hi).1
    exact ⟨_, (W.mach i q _ hi (List.getElem?_eq_getElem hl)).cnt⟩
  · rcases List.mem_append.mp h with h | h
    · obtain ⟨q, hq, rfl⟩ := List.mem_map.mp h
      obtain ⟨i, hi⟩ := List.mem_iff_getElem?.mp hq
      have hl : i < w.ms.length := by rw [← W.mlen]; exact (List.getElem?_eq_some_iff.mp hi).1
      obtain ⟨vs, h1, _⟩ := (W.mach i q _ hi (List.getElem?_eq_getElem hl)).wlk
      exact ⟨_, h1⟩
    · rcases List.mem_append.mp h with h | h
      · obtain ⟨o, h1, _⟩ := W.srcs a h
        exact ⟨o, h1⟩
      · rcases List.mem_append.mp h with h | h
        · obtain ⟨i, hi⟩ := List.mem_iff_getElem?.mp h
          have hl : i < w.os.length := by rw [← W.olen]; exact (List.getElem?_eq_some_iff.mp hi).1
          have ho := W.objs i a _ hi (List.getElem?_eq_getElem hl)
          cases e : w.os[i] with
          | lst l => rw [e] at ho; obtain ⟨vs, h1, _⟩ := ho; exact ⟨_, h1⟩
          | dic l => rw [e] at ho; exact ⟨_, ho⟩
          | kd ks l => rw [e] at ho; obtain ⟨vs, h1, _⟩ := ho; exact ⟨_, h1⟩
          | ins cl ks l => rw [e] at ho; obtain ⟨dx, vs, h1, _⟩ := ho; exact ⟨_, h1⟩
        · obtain ⟨p, hp, rfl⟩ := List.mem_map.mp h
          obtain ⟨ps, h1, _⟩ := W.tabs p hp
          exact ⟨_, h1⟩
end
end Pu
namespace Pu
open PySem L2 Eng
section
variable {K : PySem.W.Frag} {c : Pc} {X : En} {F : List (Addr × HO)} {σ : L2.St} {s : Cf} {p : Addr} {o : HO} {vs : List V}
theorem In.al (I : In K c X F σ s) {a : Addr} (h : a ∈ s.mu F) : ∃ o, s.H a = some o := by
  rcases List.mem_append.mp h with h | h
  · exact I.wr.muAt h
  · rcases List.mem_append.mp h with h | h
    · obtain ⟨q, hq, rfl⟩ := List.mem_map.mp h
      obtain ⟨vs, e⟩ := I.oal q hq
      exact ⟨_, e⟩
    · obtain ⟨q, hq, rfl⟩ := List.mem_map.mp h
      exact ⟨_, I.held q hq⟩
theorem In.notMu (I : In K c X F σ s) (h : s.H p = none) : p ∉ s.mu F := fun z => by
  obtain ⟨o, e⟩ := I.al z
  rw [h] at e; cases e
theorem MRep.mono {g g' : Gh} {H H' : Hp} {q : Addr × Addr × Addr} {m : Mach} (h : MRep K c g H q m) (le : g.le g') (h1 : H' q.2.1 = H q.2.1) (h2 : H' q.2.2 = H q.2.2) : MRep K c g' H' q m := by
  obtain ⟨dx, a⟩ := h.ins
  obtain ⟨vs, b1, b2⟩ := h.wlk
  exact ⟨⟨dx, le.G _ _ a⟩, by rw [h1]; exact h.cnt, h.ten, ⟨vs, by rw [h2]; exact b1, b2.mono le⟩, h.few⟩
theorem mem_mu1 {g : Gh} {i : Nat} {q : Addr × Addr × Addr} (h : g.ms[i]? = some q) : q.2.1 ∈ g.mu := List.mem_append_left _ (List.mem_map.mpr ⟨q, List.mem_of_getElem? h, rfl⟩)
theorem mem_mu2 {g : Gh} {i : Nat} {q : Addr × Addr × Addr} (h : g.ms[i]? = some q) : q.2.2 ∈ g.mu := List.mem_append_right _ (List.mem_append_left _ (List.mem_map.mpr ⟨q, List.mem_of_getElem? h, rfl⟩))
theorem mem_mu3 {g : Gh} {a : Addr} (h : a ∈ g.ss) : a ∈ g.mu := List.mem_append_right _ (List.mem_append_right _ (List.mem_append_left _ h))
theorem mem_mu4 {g : Gh} {a : Addr} (h : a ∈ g.os) : a ∈ g.mu := List.mem_append_right _ (List.mem_append_right _ (List.mem_append_right _ (List.mem_append_left _ h)))
theorem mem_mu5 {g : Gh} {p : Addr × Str} (h : p ∈ g.ts) : p.1 ∈ g.mu := List.mem_append_right _ (List.mem_append_right _ (List.mem_append_right _ (List.mem_append_right _ (List.mem_map.mpr ⟨p, h, rfl⟩))))
/-- the world stays while its own places do -/
theorem Wr.mono {g g' : Gh} {H H' : Hp} {w : Wld} (W : Wr K c g H w) (le : g.le g') (hm : g'.ms = g.ms) (hs : g'.ss = g.ss) (hos : g'.os = g.os) (ck : CKeep H H') (sub : ∀ a o, g'.G a = some o → H' a = some o) (off : ∀ a ∈ g.mu, g'.G a = none) (h : ∀ a ∈ g.mu, H' a = H a) : Wr K c g' H' w := by
  have e : g'.mu = g.mu := by unfold Gh.mu Gh.ot; rw [hm, hs, hos, le.ts]
  refine ⟨sub, by rw [e]; exact W.nd, by rw [e]; exact off, by rw [hm]; exact W.mlen, fun i q m h1 h2 => ?_, fun a ha => ?_, by rw [hs]; exact W.nss, by rw [hos]; exact W.olen, fun i a o h1 h2 => (W.objs i a o (by rw [hos] at h1; exact h1) h2).mono le (h a (mem_mu4 (List.mem_of_getElem? (by rw [hos] at h1; exact h1)))), by rw [le.ts]; exact tabs_mono W.tabs le.G fun p hp => h p.1 (mem_mu5 hp), le.ts.trans W.hts⟩
  · rw [hm] at h1
    exact (W.mach i q m h1 h2).mono le (h _ (mem_mu1 h1)) (h _ (mem_mu2 h1))
  · rw [hs] at ha
    obtain ⟨o, h1, h2⟩ := W.srcs a ha
    exact ⟨o, by rw [h a (mem_mu3 ha)]; exact h1, h2⟩
theorem RSl.mono {s s' : Cf} {i : Nat} {o : Option (Option V)} {z : Slot} (h : RSl K c X s i o z) (le : s.g.le s'.g) (ho : ∀ q ∈ s.os, q ∈ s'.os) (hH : ∀ q ∈ s.os, s'.H q.2 = s.H q.2) : RSl K c X s' i o z := by
  cases z with
  | no => trivial
  | val d => obtain ⟨v, h1, h2⟩ := h; exact ⟨v, h1, h2.mono le⟩
  | own f ds => obtain ⟨a, vs, h1, h2, h3, h4, h5⟩ := h; exact ⟨a, vs, h1, ho _ h2, by rw [hH _ h2]; exact h3, h4.mono le, h5⟩
  | ownT l r => obtain ⟨p, a, us, vs, h1, h2, h3, h4, h5, h6, h7⟩ := h; exact ⟨p, a, us, vs, h1, ho _ h2, le.G _ _ h3, h4.mono le, by rw [hH _ h2]; exact h5, h6.mono le, h7⟩
def gUpd (g : Gh) (p : Addr) (o : HO) : Gh := ⟨upd g.G p o, g.ms, g.ss, g.os, g.ts⟩
theorem gUpd_le {g : Gh} (h : g.G p = none) : g.le (gUpd g p o) := ⟨fun a u e => by
  show upd g.G p o a = some u
  rw [upd_ne (ne_of_none e h)]; exact e, fun _ _ h => h, fun _ _ h => h, fun _ _ h => h, rfl⟩
/-- a new thing that never changes -/
theorem In.newG (I : In K c X F σ s) (h : s.H p = none) : In K c X F σ ⟨gUpd s.g p o, upd s.H p o, s.e, s.w, s.os⟩ := by
  have hg := I.offG h
  have hn := I.notMu h
  have ne : ∀ a ∈ s.mu F, a ≠ p := fun a ha e => hn (e ▸ ha)
  have hle := gUpd_le (o := o) hg
  have hsub : ∀ a ∈ s.g.mu, a ∈ s.mu F := fun a ha => List.mem_append_left _ ha
  refine ⟨I.wr.mono hle rfl rfl rfl (CKeep.updN h) (fun a u e => ?_) (fun a ha => ?_) (fun a ha => upd_ne (ne a (hsub a ha))), I.nd, fun a ha => ?_, I.len, fun i z hz => ?_, fun q hq => ?_, fun q hq => ?_, I.le.trans hle, fun a u e n1 n2 => ?_, fun a u e => ?_, I.new, fun a u e => ?_⟩
  · show upd s.H p o a = some u
    have e : upd s.g.G p o a = some u := e
    by_cases ha : a = p
    · subst ha; rw [upd_same] at e ⊢; exact e
    · rw [upd_ne ha] at e ⊢; exact I.wr.sub a u e
  · show upd s.g.G p o a = none
    rw [upd_ne (ne a (hsub a ha))]; exact I.off a (hsub a ha)
  · show upd s.g.G p o a = none
    rw [upd_ne (ne a ha)]; exact I.off a ha
  · refine (I.env i z hz).mono hle (fun q hq => hq) fun q hq => upd_ne (ne _ ?_)
    exact List.mem_append_right _ (List.mem_append_left _ (List.mem_map.mpr ⟨q, hq, rfl⟩))
  · show upd s.H p o q.1 = some q.2
    rw [upd_ne (ne_of_none (I.held q hq) h)]; exact I.held q hq
  · obtain ⟨u, e⟩ := I.oal q hq
    exact ⟨u, by show upd s.H p o q.2 = _; rw [upd_ne (ne_of_none e h)]; exact e⟩
  · have e' := I.keep a u e n1 n2
    show upd s.H p o a = some u
    rw [upd_ne (ne_of_none e' h)]; exact e'
  · have hx : X.H p = none := I.fresh h
    show upd s.g.G p o a = _
    rw [upd_ne (ne_of_none e hx)]; exact I.frz a u e
  · obtain ⟨u', e'⟩ := I.dom a u e
    exact ⟨u', by show upd s.H p o a = _; rw [upd_ne (ne_of_none e' h)]; exact e'⟩
/-- a new thing that is held -/
theorem In.newF (I : In K c X F σ s) (h : s.H p = none) : In K c X ((p, o) :: F) σ ⟨s.g, upd s.H p o, s.e, s.w, s.os⟩ := by
  have hg := I.offG h
  have hn := I.notMu h
  have ne : ∀ a ∈ s.mu F, a ≠ p := fun a ha e => hn (e ▸ ha)
  have hsub : ∀ a ∈ s.g.mu, a ∈ s.mu F := fun a ha => List.mem_append_left _ ha
  have hmu : (⟨s.g, upd s.H p o, s.e, s.w, s.os⟩ : Cf).mu ((p, o) :: F) = s.g.mu ++ (s.os.map (·.2) ++ (p :: F.map (·.1))) := rfl
  have hp : (s.g.mu ++ (s.os.map (·.2) ++ (p :: F.map (·.1)))).Perm (p :: s.mu F) := by
    unfold Cf.mu
    rw [← List.append_assoc, ← List.append_assoc]
    exact List.perm_middle
  have hmem : ∀ a, a ∈ (⟨s.g, upd s.H p o, s.e, s.w, s.os⟩ : Cf).mu ((p, o) :: F) → a = p ∨ a ∈ s.mu F := fun a ha => by
    rw [hmu] at ha
    exact List.mem_cons.mp (hp.mem_iff.mp ha)
  refine ⟨I.wr.mono (Gh.le.refl _) rfl rfl rfl (CKeep.updN h) (fun a u e => ?_) (fun a ha => I.wr.off a ha) (fun a ha => upd_ne (ne a (hsub a ha))), ?_, fun a ha => ?_, I.len, fun i z hz => ?_, fun q hq => ?_, fun q hq => ?_, I.le, fun a u e n1 n2 => ?_, I.frz, fun a ha => ?_, fun a u e => ?_⟩
  · have e' := I.wr.sub a u e
    show upd s.H p o a = some u
    rw [upd_ne (ne_of_none e' h)]; exact e'
  · rw [hmu]
    exact hp.nodup_iff.mpr (List.nodup_cons.mpr ⟨hn, I.nd⟩)
  · rcases hmem a ha with rfl | ha
    · exact hg
    · exact I.off a ha
  · refine (I.env i z hz).mono (Gh.le.refl _) (fun q hq => hq) fun q hq => upd_ne (ne _ ?_)
    exact List.mem_append_right _ (List.mem_append_left _ (List.mem_map.mpr ⟨q, hq, rfl⟩))
  · show upd s.H p o q.1 = some q.2
    rcases List.mem_cons.mp hq with rfl | hq
    · exact upd_same
    · rw [upd_ne (ne_of_none (I.held q hq) h)]; exact I.held q hq
  · obtain ⟨u, e⟩ := I.oal q hq
    exact ⟨u, by show upd s.H p o q.2 = _; rw [upd_ne (ne_of_none e h)]; exact e⟩
  · have e' := I.keep a u e n1 n2
    show upd s.H p o a = some u
    rw [upd_ne (ne_of_none e' h)]; exact e'
  · rcases hmem a ha with rfl | ha
    · exact .inr (.inr (I.fresh h))
    · exact I.new a ha
  · obtain ⟨u', e'⟩ := I.dom a u e
    exact ⟨u', by show upd s.H p o a = _; rw [upd_ne (ne_of_none e' h)]; exact e'⟩
theorem mu_cons (s : Cf) (q : Addr × HO) (F : List (Addr × HO)) : (s.mu (q :: F)).Perm (q.1 :: s.mu F) := by
  unfold Cf.mu
  rw [← List.append_assoc, ← List.append_assoc]
  exact List.perm_middle
/-- what is held becomes one that never changes -/
theorem In.frzF (I : In K c X ((p, o) :: F) σ s) (hx : X.H p = none) : In K c X F σ ⟨gUpd s.g p o, s.H, s.e, s.w, s.os⟩ := by
  have hp := mu_cons s (p, o) F
  have hm : ∀ a, a ∈ s.mu F → a ∈ s.mu ((p, o) :: F) := fun a ha => hp.mem_iff.mpr (List.mem_cons_of_mem _ ha)
  have hpm : p ∈ s.mu ((p, o) :: F) := hp.mem_iff.mpr List.mem_cons_self
  have hnd := List.nodup_cons.mp (hp.nodup_iff.mp I.nd)
  have ne : ∀ a ∈ s.mu F, a ≠ p := fun a ha e => hnd.1 (e ▸ ha)
  have hg : s.g.G p = none := I.off p hpm
  have hle := gUpd_le (o := o) hg
  have hsub : ∀ a ∈ s.g.mu, a ∈ s.mu F := fun a ha => List.mem_append_left _ ha
  refine ⟨I.wr.mono hle rfl rfl rfl (CKeep.refl _) (fun a u e => ?_) (fun a ha => ?_) (fun _ _ => rfl), hnd.2, fun a ha => ?_, I.len, fun i z hz => ?_, fun q hq => I.held q (List.mem_cons_of_mem _ hq), I.oal, I.le.trans hle, I.keep, fun a u e => ?_, fun a ha => I.new a (hm a ha), I.dom⟩
  · have e : upd s.g.G p o a = some u := e
    by_cases ha : a = p
    · subst ha; rw [upd_same] at e; rw [← e]; exact I.held _ List.mem_cons_self
    · rw [upd_ne ha] at e; exact I.wr.sub a u e
  · show upd s.g.G p o a = none
    rw [upd_ne (ne a (hsub a ha))]; exact I.wr.off a ha
  · show upd s.g.G p o a = none
    rw [upd_ne (ne a ha)]; exact I.off a (hm a ha)
  · exact (I.env i z hz).mono hle (fun q hq => hq) fun _ _ => rfl
  · show upd s.g.G p o a = _
    rw [upd_ne (ne_of_none e hx)]; exact I.frz a u e
theorem set_get {α : Type} {l : List α} {i j : Nat} {x y : α} (h : (l.set i x)[j]? = some y) : (j = i ∧ y = x) ∨ (j ≠ i ∧ l[j]? = some y) := by
  by_cases e : j = i
  · subst e
    have : j < l.length := by
      have := (List.getElem?_eq_some_iff.mp h).1
      rwa [List.length_set] at this
    rw [List.getElem?_set_self this] at h
    exact .inl ⟨rfl, (Option.some.inj h).symm⟩
  · rw [List.getElem?_set_ne (Ne.symm e)] at h
    exact .inr ⟨e, h⟩
theorem set_len {l : L2.St} {e : Env} {i : Nat} {x : Slot} {y : Slot} (hl : e.length = l.length) (h : (e.set i x)[i]? = some y) (v : Option V) : (l.set i v)[i]? = some v := by
  have : i < l.length := by
    have := (List.getElem?_eq_some_iff.mp h).1
    rw [List.length_set] at this; omega
  rw [List.getElem?_set_self this]
/-- a name gets a value -/
theorem In.setV (I : In K c X F σ s) {i : Nat} {v : V} {d : Dat} (h : Rep K c s.g v d) : In K c X F (σ.set i (some v)) ⟨s.g, s.H, s.e.set i (.val d), s.w, s.os⟩ :=
  ⟨I.wr, I.nd, I.off, by simp only [List.length_set]; exact I.len, fun j z hz => by
    rcases set_get hz with ⟨rfl, rfl⟩ | ⟨ne, hz'⟩
    · exact ⟨v, set_len I.len hz _, h⟩
    · rw [List.getElem?_set_ne (Ne.symm ne)]
      exact I.env j z hz', I.held, I.oal, I.le, I.keep, I.frz, I.new, I.dom⟩
/-- a name is forgotten -/
theorem In.setN (I : In K c X F σ s) (i : Nat) : In K c X F σ ⟨s.g, s.H, s.e.set i .no, s.w, s.os⟩ :=
  ⟨I.wr, I.nd, I.off, by show (s.e.set i _).length = _; rw [List.length_set]; exact I.len, fun j z hz => by
    rcases set_get hz with ⟨rfl, rfl⟩ | ⟨ne, hz'⟩
    · trivial
    · exact I.env j z hz', I.held, I.oal, I.le, I.keep, I.frz, I.new, I.dom⟩
/-- a name gets a list of its own -/
theorem In.setO (I : In K c X ((p, .lst vs) :: F) σ s) {i : Nat} {ds : List Dat} (h : Reps K c s.g vs ds) (hx : X.H p = none) : In K c X F (σ.set i (some (.ref p))) ⟨s.g, s.H, s.e.set i (.own true ds), s.w, (i, p) :: s.os⟩ := by
  have hp := mu_cons s (p, .lst vs) F
  have hmu : (⟨s.g, s.H, s.e.set i (.own true ds), s.w, (i, p) :: s.os⟩ : Cf).mu F = s.g.mu ++ (p :: (s.os.map (·.2) ++ F.map (·.1))) := rfl
  have hp2 : (s.g.mu ++ (p :: (s.os.map (·.2) ++ F.map (·.1)))).Perm (s.mu ((p, .lst vs) :: F)) := (List.perm_middle).trans hp.symm
  refine ⟨I.wr, by rw [hmu]; exact hp2.nodup_iff.mpr I.nd, fun a ha => I.off a (hp2.mem_iff.mp ha), by simp only [List.length_set]; exact I.len, fun j z hz => ?_, fun q hq => I.held q (List.mem_cons_of_mem _ hq), fun q hq => ?_, I.le, I.keep, I.frz, fun a ha => I.new a (hp2.mem_iff.mp ha), I.dom⟩
  · rcases set_get hz with ⟨rfl, rfl⟩ | ⟨ne, hz'⟩
    · exact ⟨p, vs, set_len I.len hz _, List.mem_cons_self, I.held _ List.mem_cons_self, h, fun _ => hx, fun z => nomatch z⟩
    · rw [List.getElem?_set_ne (Ne.symm ne)]
      exact (I.env j z hz').mono (Gh.le.refl _) (fun q hq => List.mem_cons_of_mem _ hq) fun _ _ => rfl
  · rcases List.mem_cons.mp hq with rfl | hq
    · exact ⟨_, I.held _ List.mem_cons_self⟩
    · exact I.oal q hq
theorem os_inj {os : List (Nat × Addr)} (h : (os.map (·.2)).Nodup) {i j : Nat} {a : Addr} (h1 : (i, a) ∈ os) (h2 : (j, a) ∈ os) : i = j := by
  induction os with
  | nil => cases h1
  | cons q os ih =>
    have hn := List.nodup_cons.mp (show (q.2 :: os.map (·.2)).Nodup from h)
    rcases List.mem_cons.mp h1 with rfl | h1
    · rcases List.mem_cons.mp h2 with e | h2
      · exact (congrArg Prod.fst e).symm
      · exact absurd (List.mem_map.mpr ⟨_, h2, rfl⟩) hn.1
    · rcases List.mem_cons.mp h2 with e | h2'
      · refine absurd ?_ hn.1
        rw [← e]
        exact List.mem_map.mpr ⟨(i, a), h1, rfl⟩
      · exact ih hn.2 h1 h2'
theorem In.osNd (I : In K c X F σ s) : (s.os.map (·.2)).Nodup := (List.nodup_append.mp (List.nodup_append.mp I.nd).2.1).1
theorem In.osMu (I : In K c X F σ s) {q : Nat × Addr} (h : q ∈ s.os) : q.2 ∈ s.mu F := List.mem_append_right _ (List.mem_append_left _ (List.mem_map.mpr ⟨q, h, rfl⟩))
theorem In.osG (I : In K c X F σ s) {q : Nat × Addr} (h : q ∈ s.os) : q.2 ∉ s.g.mu := fun z =>
  (List.nodup_append.mp I.nd).2.2 _ z _ (List.mem_append_left _ (List.mem_map.mpr ⟨q, h, rfl⟩)) rfl
/-- a name's own list is changed -/
theorem In.ownPut (I : In K c X F σ s) {i : Nat} {f : Bool} {a : Addr} {vs : List V} {ds : List Dat} (hs : σ[i]? = some (some (.ref a))) (ha : (i, a) ∈ s.os) (h : Reps K c s.g vs ds) (hf : OwnF X f a) : In K c X F σ ⟨s.g, upd s.H a (.lst vs), s.e.set i (.own f ds), s.w, s.os⟩ := by
  have hm := I.osMu ha
  have hg : s.g.G a = none := I.off a hm
  have ng := I.osG ha
  have nF : ∀ q ∈ F, q.1 ≠ a := fun q hq e =>
    (List.nodup_append.mp (List.nodup_append.mp I.nd).2.1).2.2 a (List.mem_map.mpr ⟨_, ha, rfl⟩) q.1 (List.mem_map.mpr ⟨q, hq, rfl⟩) e.symm
  refine ⟨I.wr.mono (Gh.le.refl _) rfl rfl rfl (by obtain ⟨vs0, e0⟩ := I.oal _ ha; exact CKeep.upd e0 noC_lst) (fun b u e => ?_) (fun b hb => I.wr.off b hb) (fun b hb => upd_ne (fun e => ng (e ▸ hb))), I.nd, I.off, by show (s.e.set i _).length = _; rw [List.length_set]; exact I.len, fun j z hz => ?_, fun q hq => ?_, fun q hq => ?_, I.le, fun b u e n1 n2 => ?_, I.frz, I.new, fun b u e => ?_⟩
  · have e' := I.wr.sub b u e
    show upd s.H a _ b = some u
    rw [upd_ne (fun z => by subst z; rw [hg] at e; cases e)]; exact e'
  · rcases set_get hz with ⟨rfl, rfl⟩ | ⟨ne, hz'⟩
    · exact ⟨a, vs, hs, ha, upd_same, h, hf⟩
    · have h' := I.env j z hz'
      cases z with
      | no => trivial
      | val d => exact h'
      | own f' dl =>
        obtain ⟨b, ws, h1, h2, h3, h4, h5⟩ := h'
        refine ⟨b, ws, h1, h2, ?_, h4, h5⟩
        show upd s.H a _ b = _
        rw [upd_ne (fun (e : b = a) => ne (os_inj I.osNd (by rw [← e]; exact h2) ha))]; exact h3
      | ownT dl dr =>
        obtain ⟨p, b, us, ws, h1, h2, h3, h4, h5, h6, h7⟩ := h'
        refine ⟨p, b, us, ws, h1, h2, h3, h4, ?_, h6, h7⟩
        show upd s.H a _ b = _
        rw [upd_ne (fun (e : b = a) => ne (os_inj I.osNd (by rw [← e]; exact h2) ha))]; exact h5
  · show upd s.H a _ q.1 = _
    rw [upd_ne (nF q hq)]; exact I.held q hq
  · by_cases e : q.2 = a
    · exact ⟨_, by show upd s.H a _ q.2 = _; rw [e]; exact upd_same⟩
    · obtain ⟨u, hu⟩ := I.oal q hq
      exact ⟨u, by show upd s.H a _ q.2 = _; rw [upd_ne e]; exact hu⟩
  · have e' := I.keep b u e n1 n2
    show upd s.H a _ b = some u
    rw [upd_ne (fun z => by
      subst z
      rcases I.new b hm with z | z | z
      · exact n1 z
      · exact n2 z
      · rw [z] at e; cases e)]
    exact e'
  · by_cases z : b = a
    · exact ⟨_, by show upd s.H a _ b = _; rw [z]; exact upd_same⟩
    · obtain ⟨u', e'⟩ := I.dom b u e
      exact ⟨u', by show upd s.H a _ b = _; rw [upd_ne z]; exact e'⟩
/-- what is held is changed -/
theorem In.heldPut {o' : HO} (I : In K c X ((p, o) :: F) σ s) (hx : X.H p = none) (hno : NoC o) : In K c X ((p, o') :: F) σ ⟨s.g, upd s.H p o', s.e, s.w, s.os⟩ := by
  have hpm := mu_cons s (p, o) F
  have hm : p ∈ s.mu ((p, o) :: F) := hpm.mem_iff.mpr List.mem_cons_self
  have hnd := List.nodup_cons.mp (hpm.nodup_iff.mp I.nd)
  have hg : s.g.G p = none := I.off p hm
  have ne : ∀ a ∈ s.mu F, a ≠ p := fun a ha e => hnd.1 (e ▸ ha)
  refine ⟨I.wr.mono (Gh.le.refl _) rfl rfl rfl (CKeep.upd (I.held _ List.mem_cons_self) hno) (fun b u e => ?_) (fun b hb => I.wr.off b hb) (fun b hb => upd_ne (ne b (List.mem_append_left _ hb))), I.nd, I.off, I.len, fun j z hz => (I.env j z hz).mono (Gh.le.refl _) (fun _ h => h) (fun q hq => upd_ne (ne _ (List.mem_append_right _ (List.mem_append_left _ (List.mem_map.mpr ⟨q, hq, rfl⟩))))), fun q hq => ?_, fun q hq => ?_, I.le, fun b u e n1 n2 => ?_, I.frz, I.new, fun b u e => ?_⟩
  · have e' := I.wr.sub b u e
    show upd s.H p _ b = some u
    rw [upd_ne (fun z => by subst z; rw [hg] at e; cases e)]; exact e'
  · show upd s.H p _ q.1 = _
    rcases List.mem_cons.mp hq with rfl | hq
    · exact upd_same
    · rw [upd_ne (ne _ (List.mem_append_right _ (List.mem_append_right _ (List.mem_map.mpr ⟨q, hq, rfl⟩))))]; exact I.held q (List.mem_cons_of_mem _ hq)
  · obtain ⟨u, hu⟩ := I.oal q hq
    exact ⟨u, by show upd s.H p _ q.2 = _; rw [upd_ne (ne _ (List.mem_append_right _ (List.mem_append_left _ (List.mem_map.mpr ⟨q, hq, rfl⟩))))]; exact hu⟩
  · have e' := I.keep b u e n1 n2
    show upd s.H p _ b = some u
    rw [upd_ne (ne_of_none e hx)]; exact e'
  · obtain ⟨u', e'⟩ := I.dom b u e
    exact ⟨u', by show upd s.H p _ b = _; rw [upd_ne (ne_of_none e hx)]; exact e'⟩
/-- behind a call -/
theorem In.call (I : In K c X F σ s) {g' : Gh} {H' : Hp} {w' : Wld} (A : Aft s.g s.H g' H') (W : Wr K c g' H' w') : In K c X F σ ⟨g', H', s.e, w', s.os⟩ := by
  have hk : ∀ a ∈ s.os.map (·.2) ++ F.map (·.1), ∀ o, s.H a = some o → H' a = some o := fun a ha o e => A.keep a o e fun z => (List.nodup_append.mp I.nd).2.2 a z a ha rfl
  have ho : ∀ q ∈ s.os, H' q.2 = s.H q.2 := fun q hq => by
    obtain ⟨o, e⟩ := I.oal q hq
    rw [e]; exact hk _ (List.mem_append_left _ (List.mem_map.mpr ⟨q, hq, rfl⟩)) _ e
  have hal : ∀ a ∈ s.os.map (·.2) ++ F.map (·.1), ∃ o, s.H a = some o := fun a ha => I.al (List.mem_append_right _ ha)
  refine ⟨W, ?_, fun a ha => ?_, I.len, fun i z hz => (I.env i z hz).mono A.le (fun q hq => hq) ho, fun q hq => ?_, fun q hq => ?_, I.le.trans A.le, fun a u e n1 n2 => ?_, fun a u e => ?_, fun a ha => ?_, fun a u e => ?_⟩
  · refine List.nodup_append.mpr ⟨W.nd, (List.nodup_append.mp I.nd).2.1, fun x hx y hy e => ?_⟩
    subst e
    rcases A.new x hx with z | z
    · exact (List.nodup_append.mp I.nd).2.2 x z x hy rfl
    · obtain ⟨o, e⟩ := hal x hy
      rw [z] at e; cases e
  · rcases List.mem_append.mp ha with ha | ha
    · exact W.off a ha
    · obtain ⟨o, e⟩ := hal a ha
      show g'.G a = none
      rw [A.frz a o e]
      exact I.off a (List.mem_append_right _ ha)
  · exact hk _ (List.mem_append_right _ (List.mem_map.mpr ⟨q, hq, rfl⟩)) _ (I.held q hq)
  · obtain ⟨o, e⟩ := I.oal q hq
    exact ⟨o, (ho q hq).trans e⟩
  · refine A.keep a u (I.keep a u e n1 n2) fun z => ?_
    rcases I.new a (List.mem_append_left _ z) with z | z | z
    · exact n1 z
    · exact n2 z
    · rw [z] at e; cases e
  · obtain ⟨u', e'⟩ := I.dom a u e
    show g'.G a = _
    rw [A.frz a u' e', I.frz a u e]
  · rcases List.mem_append.mp ha with ha | ha
    · rcases A.new a ha with z | z
      · exact I.new a (List.mem_append_left _ z)
      · exact .inr (.inr (I.fresh z))
    · exact I.new a (List.mem_append_right _ ha)
  · obtain ⟨u', e'⟩ := I.dom a u e
    exact A.dom a u' e'
end
end Pu
namespace Pu
open PySem L2 Eng
section
variable (K : PySem.W.Frag) (c : Pc)
def SndE (t : TE) (p : PE) : Prop := ∀ (X : En) (F : List (Addr × HO)) (σ : L2.St) (s : Cf) (k : PQ) (Q : VK), In K c X F σ s → p s.e s.w k → (∀ v d s', s.g.le s'.g → In K c X F σ s' → Rep K c s'.g v d → k d s'.e s'.w → Q v s'.H) → t σ s.H Q
def SndF (t : TE) (p : PF) : Prop := ∀ (X : En) (F : List (Addr × HO)) (σ : L2.St) (s : Cf) (k : List Dat → Env → Wld → Prop) (Q : VK), In K c X F σ s → p s.e s.w k → (∀ a vs ds s', s.g.le s'.g → X.H a = none → In K c X ((a, .lst vs) :: F) σ s' → Reps K c s'.g vs ds → k ds s'.e s'.w → Q (.ref a) s'.H) → t σ s.H Q
def SndT (t : TT) (p : PT) : Prop := ∀ (X : En) (F : List (Addr × HO)) (σ : L2.St) (s : Cf) (k : Bool → Env → Wld → Prop) (Q : Bool → Hp → Prop), In K c X F σ s → p s.e s.w k → (∀ b s', s.g.le s'.g → In K c X F σ s' → k b s'.e s'.w → Q b s'.H) → t σ s.H Q
def SndA (t : TA) (p : PA) : Prop := ∀ (X : En) (F : List (Addr × HO)) (σ : L2.St) (s : Cf) (k : List Dat → Env → Wld → Prop) (Q : List V → Hp → Prop), In K c X F σ s → p s.e s.w k → (∀ vs ds s', s.g.le s'.g → In K c X F σ s' → Reps K c s'.g vs ds → k ds s'.e s'.w → Q vs s'.H) → t σ s.H Q
def SndO (t : TO) (p : PO) : Prop := ∀ (X : En) (F : List (Addr × HO)) (σ : L2.St) (s : Cf) (k : Option Int → Env → Wld → Prop) (Q : Option Int → Hp → Prop), In K c X F σ s → p s.e s.w k → (∀ b s', s.g.le s'.g → In K c X F σ s' → k b s'.e s'.w → Q b s'.H) → t σ s.H Q
def SndG (t : TG) (p : PG) : Prop := ∀ (X : En) (F : List (Addr × HO)) (σ : L2.St) (s : Cf) (v : V) (d : Dat) (k : Env → Wld → Prop) (Q : L2.St → Hp → Prop), In K c X F σ s → Rep K c s.g v d → p d s.e s.w k → (∀ σ' s', s.g.le s'.g → In K c X F σ' s' → k s'.e s'.w → Q σ' s'.H) → t v σ s.H Q
structure SEnds (X : En) (F : List (Addr × HO)) (g : Gh) (D : Ends) (Dp : PEnds) : Prop where
  nx : ∀ σ s, g.le s.g → In K c X F σ s → Dp.nx s.e s.w → D.nx σ s.H
  rt : ∀ σ s v d, g.le s.g → In K c X F σ s → Rep K c s.g v d → Dp.rt d s.e s.w → D.rt v s.H
  bk : ∀ σ s, g.le s.g → In K c X F σ s → Dp.bk s.e s.w → D.bk σ s.H
  ct : ∀ σ s, g.le s.g → In K c X F σ s → Dp.ct s.e s.w → D.ct σ s.H
def SndS (t : TS) (p : PS) : Prop := ∀ (X : En) (F : List (Addr × HO)) (σ : L2.St) (s : Cf) (D : Ends) (Dp : PEnds), In K c X F σ s → p Dp s.e s.w → SEnds K c X F s.g D Dp → t D σ s.H
/-- an operand: data, or a list that a name holds -/
def RepW (s : Cf) (v : V) (d : Dat) : Prop := Rep K c s.g v d ∨ ∃ a vs ds, v = .ref a ∧ d = .lst ds ∧ s.H a = some (.lst vs) ∧ Reps K c s.g vs ds
def SndR2 (r : R2) (q : Q2) : Prop := ∀ (X : En) (F : List (Addr × HO)) (σ : L2.St) (s : Cf) (x y : V) (dx dy : Dat) (k : Dat → Prop) (Q : VK), In K c X F σ s → RepW K c s x dx → RepW K c s y dy → q dx dy k → (∀ v d s', s.g.le s'.g → In K c X F σ s' → s'.e = s.e → s'.w = s.w → Rep K c s'.g v d → k d → Q v s'.H) → r x y s.H Q
def SndR2F (r : R2) (q : Dat → Dat → (List Dat → Prop) → Prop) : Prop := ∀ (X : En) (F : List (Addr × HO)) (σ : L2.St) (s : Cf) (x y : V) (dx dy : Dat) (k : List Dat → Prop) (Q : VK), In K c X F σ s → RepW K c s x dx → RepW K c s y dy → q dx dy k → (∀ a vs ds s', s.g.le s'.g → X.H a = none → In K c X ((a, .lst vs) :: F) σ s' → s'.e = s.e → s'.w = s.w → Reps K c s'.g vs ds → k ds → Q (.ref a) s'.H) → r x y s.H Q
def SndRL (r : List V → Hp → VK → Prop) (q : QL) : Prop := ∀ (X : En) (F : List (Addr × HO)) (σ : L2.St) (s : Cf) (vs : List V) (ds : List Dat) (k : Dat → Prop) (Q : VK), In K c X F σ s → Paired (RepW K c s) vs ds → q ds k → (∀ v d s', s.g.le s'.g → In K c X F σ s' → s'.e = s.e → s'.w = s.w → Rep K c s'.g v d → k d → Q v s'.H) → r vs s.H Q
end
section
variable {K : PySem.W.Frag} {c : Pc} {X : En} {F : List (Addr × HO)} {σ : L2.St} {s : Cf} {ta tb tc te : TE} {pa pb pc' pe : PE} {tT tU : TT} {pT pU : PT} {tr : TA} {pr : PA} {ts tu : TS} {ps pu : PS} {r r' : R2} {q q' : Q2} {P : PSp} {sp : Sp} {E : XK} {i : Nat}
theorem RepW.int {v : V} {n : Int} (h : RepW K c s v (.int n)) : v = .int n := by
  rcases h with h | ⟨_, _, _, _, e, _⟩
  · exact h.intI
  · cases e
theorem RepW.bl {v : V} {n : Bool} (h : RepW K c s v (.bl n)) : v = .bl n := by
  rcases h with h | ⟨_, _, _, _, e, _⟩
  · exact h.blI
  · cases e
theorem RepW.str {v : V} {n : Str} (h : RepW K c s v (.str n)) : v = .str n := by
  rcases h with h | ⟨_, _, _, _, e, _⟩
  · exact h.strI
  · cases e
theorem RepW.non {v : V} (h : RepW K c s v .non) : v = .non := by
  rcases h with h | ⟨_, _, _, _, e, _⟩
  · exact h.nonI
  · cases e
theorem RepW.lst {v : V} {ds : List Dat} (h : RepW K c s v (.lst ds)) (I : In K c X F σ s) : ∃ a vs, v = .ref a ∧ s.H a = some (.lst vs) ∧ Reps K c s.g vs ds := by
  rcases h with h | ⟨a, vs, ds', e, e2, h1, h2⟩
  · cases h with
    | lst h1 h2 => exact ⟨_, _, rfl, I.wr.sub _ _ h1, h2⟩
  · cases e2
    exact ⟨a, vs, e, h1, h2⟩
theorem RepW.cst {v : V} {ds : List Dat} (h : RepW K c s v (.cst ds)) (I : In K c X F σ s) : ∃ a vs, v = .ref a ∧ SqL K s.H a vs ∧ Reps K c s.g vs ds := by
  rcases h with h | ⟨a, vs, ds', e, e2, h1, h2⟩
  · cases h with
    | cst h1 h2 => exact ⟨_, _, rfl, sqL_mono I.wr.sub h1, h2⟩
  · cases e2
theorem RepW.tup {v : V} {ds : List Dat} (h : RepW K c s v (.tup ds)) (I : In K c X F σ s) : ∃ a vs, v = .ref a ∧ SqT K s.H a vs ∧ Reps K c s.g vs ds := by
  rcases h with h | ⟨a, vs, ds', e, e2, h1, h2⟩
  · cases h with
    | tup h1 h2 => exact ⟨_, _, rfl, SqT.of (I.wr.sub _ _ h1), h2⟩
  · cases e2
theorem RepW.big {v : V} {b : Nat} {n : Int} (h : RepW K c s v (.big b n)) (I : In K c X F σ s) : ∃ a, v = .ref a ∧ BigAt c s.H a b n := by
  rcases h with h | ⟨a, vs, ds', e, e2, h1, h2⟩
  · cases h with
    | big h1 => exact ⟨_, rfl, bigAt_mono I.wr.sub h1⟩
  · cases e2
theorem snd_var : SndE K c (tVar i) (pVar i) := by
  intro X F σ s k Q I h hQ
  unfold pVar at h
  cases e : s.e[i]? with
  | none => rw [e] at h; exact h.elim
  | some z =>
    rw [e] at h
    cases z with
    | no => exact h.elim
    | own f l => exact h.elim
    | ownT l r => exact h.elim
    | val d =>
      obtain ⟨v, h1, h2⟩ := I.env i _ e
      exact ⟨v, h1, hQ v d s (Gh.le.refl _) I h2 h⟩
theorem snd_c {v : V} {d : Dat} (h : ∀ g : Gh, Rep K c g v d) : SndE K c (tC v) (pC d) := fun X F σ s k Q I hp hQ => hQ v d s (Gh.le.refl _) I (h s.g) hp
theorem snd_int (n : Int) : SndE K c (tC (.int n)) (pC (.int n)) := snd_c fun _ => .int n
theorem snd_str (n : Str) : SndE K c (tC (.str n)) (pC (.str n)) := snd_c fun _ => .str n
theorem snd_bl (n : Bool) : SndE K c (tC (.bl n)) (pC (.bl n)) := snd_c fun _ => .bl n
theorem snd_non : SndE K c (tC .non) (pC .non) := snd_c fun _ => .non
theorem snd_opq (v : V) : SndE K c (tC v) (pC (.opq v)) := snd_c fun _ => .opq v
theorem snd_op (hr : SndR2 K c r q) (ha : SndE K c ta pa) (hb : SndE K c tb pb) : SndE K c (tOp r ta tb) (pOp q pa pb) := by
  intro X F σ s k Q I h hQ
  refine ha X F σ s _ _ I h fun x dx s1 l1 I1 r1 h1 => ?_
  refine hb X F σ s1 _ _ I1 h1 fun y dy s2 l2 I2 r2 h2 => ?_
  refine hr X F σ s2 x y dx dy _ _ I2 (.inl (r1.mono l2)) (.inl r2) h2 fun v d s3 l3 I3 e3 w3 r3 h3 => ?_
  refine hQ v d s3 ((l1.trans l2).trans l3) I3 r3 ?_
  rw [e3, w3]; exact h3
theorem snd_opF {q : Dat → Dat → (List Dat → Prop) → Prop} (hr : SndR2F K c r q) (ha : SndE K c ta pa) (hb : SndE K c tb pb) : SndF K c (tOp r ta tb) (pOpF q pa pb) := by
  intro X F σ s k Q I h hQ
  refine ha X F σ s _ _ I h fun x dx s1 l1 I1 r1 h1 => ?_
  refine hb X F σ s1 _ _ I1 h1 fun y dy s2 l2 I2 r2 h2 => ?_
  refine hr X F σ s2 x y dx dy _ _ I2 (.inl (r1.mono l2)) (.inl r2) h2 fun a vs ds s3 l3 hx I3 e3 w3 r3 h3 => ?_
  refine hQ a vs ds s3 ((l1.trans l2).trans l3) hx I3 r3 ?_
  rw [e3, w3]; exact h3
theorem ownAt_of {e : Env} {i : Nat} {k : Bool → List Dat → Prop} (h : ownAt e i k) : ∃ f l, e[i]? = some (.own f l) ∧ k f l := by
  unfold ownAt at h
  cases z : e[i]? with
  | none => rw [z] at h; exact h.elim
  | some y =>
    rw [z] at h
    cases y with
    | no => exact h.elim
    | val d => exact h.elim
    | ownT l r => exact h.elim
    | own f l => exact ⟨f, l, rfl, h⟩
theorem In.own (I : In K c X F σ s) {f : Bool} {l : List Dat} (h : s.e[i]? = some (.own f l)) : ∃ a vs, σ[i]? = some (some (.ref a)) ∧ (i, a) ∈ s.os ∧ s.H a = some (.lst vs) ∧ Reps K c s.g vs l ∧ OwnF X f a := I.env i _ h
/-- a name's own list as the left operand -/
theorem snd_opO (hr : SndR2 K c r q) (hb : SndE K c tb pb) : SndE K c (tOp r (tVar i) tb) (pOpO q i pb) := by
  intro X F σ s k Q I h hQ
  obtain ⟨f0, l0, e0, h⟩ := ownAt_of h
  obtain ⟨a, vs0, hs, _, _, _, _⟩ := I.own e0
  refine ⟨.ref a, hs, hb X F σ s _ _ I h fun y dy s2 l2 I2 r2 h2 => ?_⟩
  obtain ⟨f, l, e1, h2⟩ := ownAt_of h2
  obtain ⟨a', vs, hs', _, hH, hR, _⟩ := I2.own e1
  rw [hs] at hs'; cases hs'
  refine hr X F σ s2 (.ref a) y (.lst l) dy _ _ I2 (.inr ⟨a, vs, l, rfl, rfl, hH, hR⟩) (.inl r2) h2 fun v d s3 l3 I3 e3 w3 r3 h3 => ?_
  refine hQ v d s3 (l2.trans l3) I3 r3 ?_
  rw [e3, w3]; exact h3
theorem snd_un {ru : V → Hp → VK → Prop} {q : Q1} (hr : ∀ (s : Cf) x d, Rep K c s.g x d → ∀ (k : Dat → Prop) (Q : VK), q d k → (∀ v d', Rep K c s.g v d' → k d' → Q v s.H) → ru x s.H Q) (ha : SndE K c ta pa) : SndE K c (tUn ru ta) (pUn q pa) := by
  intro X F σ s k Q I h hQ
  refine ha X F σ s _ _ I h fun x dx s1 l1 I1 r1 h1 => ?_
  exact hr s1 x dx r1 _ _ h1 fun v d' r2 h2 => hQ v d' s1 l1 I1 r2 h2
theorem isB_of {d : Dat} {k : Bool → Prop} (h : isB d k) : ∃ b, d = .bl b ∧ k b := by
  cases d with
  | bl b => exact ⟨b, rfl, h⟩
  | _ => exact h.elim
theorem snd_test (ha : SndE K c ta pa) : SndT K c (tTest ta) (pTest pa) := by
  intro X F σ s k Q I h hQ
  refine ha X F σ s _ _ I h fun x dx s1 l1 I1 r1 h1 => ?_
  replace h1 := isB_of h1
  obtain ⟨b, rfl, h1⟩ := h1
  exact ⟨b, r1.blI, hQ b s1 l1 I1 h1⟩
theorem snd_tB (ha : SndE K c ta pa) : SndT K c (L2.tB ta) (pTest pa) := snd_test ha
theorem snd_not (ha : SndT K c tT pT) : SndT K c (tNot tT) (pNot pT) := fun X F σ s k Q I h hQ => ha X F σ s _ _ I h fun b s1 l1 I1 h1 => hQ _ s1 l1 I1 h1
theorem snd_and (ha : SndT K c tT pT) (hb : SndT K c tU pU) : SndT K c (tAnd tT tU) (pAnd pT pU) := by
  intro X F σ s k Q I h hQ
  refine ha X F σ s _ _ I h fun b s1 l1 I1 h1 => ?_
  by_cases hb' : b = true
  · rw [if_pos hb'] at h1 ⊢
    exact hb X F σ s1 _ _ I1 h1 fun b s2 l2 I2 h2 => hQ b s2 (l1.trans l2) I2 h2
  · rw [if_neg hb'] at h1 ⊢
    exact hQ _ s1 l1 I1 h1
theorem snd_or (ha : SndT K c tT pT) (hb : SndT K c tU pU) : SndT K c (tOr tT tU) (pOr pT pU) := by
  intro X F σ s k Q I h hQ
  refine ha X F σ s _ _ I h fun b s1 l1 I1 h1 => ?_
  by_cases hb' : b = true
  · rw [if_pos hb'] at h1 ⊢
    exact hQ _ s1 l1 I1 h1
  · rw [if_neg hb'] at h1 ⊢
    exact hb X F σ s1 _ _ I1 h1 fun b s2 l2 I2 h2 => hQ b s2 (l1.trans l2) I2 h2
theorem snd_andV (ha : SndE K c ta pa) (hb : SndE K c tb pb) : SndE K c (tAndV ta tb) (pAndV pa pb) := by
  intro X F σ s k Q I h hQ
  refine ha X F σ s _ _ I h fun x dx s1 l1 I1 r1 h1 => ?_
  replace h1 := isB_of h1
  obtain ⟨b, rfl, h1⟩ := h1
  refine ⟨b, r1.blI, ?_⟩
  by_cases hb' : b = true
  · rw [if_pos hb'] at h1 ⊢
    exact hb X F σ s1 _ _ I1 h1 fun v d s2 l2 I2 r2 h2 => hQ v d s2 (l1.trans l2) I2 r2 h2
  · rw [if_neg hb'] at h1 ⊢
    exact hQ _ _ s1 l1 I1 (.bl _) h1
theorem snd_orV (ha : SndE K c ta pa) (hb : SndE K c tb pb) : SndE K c (tOrV ta tb) (pOrV pa pb) := by
  intro X F σ s k Q I h hQ
  refine ha X F σ s _ _ I h fun x dx s1 l1 I1 r1 h1 => ?_
  replace h1 := isB_of h1
  obtain ⟨b, rfl, h1⟩ := h1
  refine ⟨b, r1.blI, ?_⟩
  by_cases hb' : b = true
  · rw [if_pos hb'] at h1 ⊢
    exact hQ _ _ s1 l1 I1 (.bl _) h1
  · rw [if_neg hb'] at h1 ⊢
    exact hb X F σ s1 _ _ I1 h1 fun v d s2 l2 I2 r2 h2 => hQ v d s2 (l1.trans l2) I2 r2 h2
theorem snd_if (hc : SndT K c tT pT) (ha : SndE K c ta pa) (hb : SndE K c tb pb) : SndE K c (tIf tT ta tb) (pIf pT pa pb) := by
  intro X F σ s k Q I h hQ
  refine hc X F σ s _ _ I h fun b s1 l1 I1 h1 => ?_
  by_cases hb' : b = true
  · rw [if_pos hb'] at h1 ⊢
    exact ha X F σ s1 _ _ I1 h1 fun v d s2 l2 I2 r2 h2 => hQ v d s2 (l1.trans l2) I2 r2 h2
  · rw [if_neg hb'] at h1 ⊢
    exact hb X F σ s1 _ _ I1 h1 fun v d s2 l2 I2 r2 h2 => hQ v d s2 (l1.trans l2) I2 r2 h2
theorem snd_chain (hr : SndR2 K c r q) (hr' : SndR2 K c r' q') (ha : SndE K c ta pa) (hb : SndE K c tb pb) (hc : SndE K c tc pc') : SndE K c (tChain r r' ta tb tc) (pChain q q' pa pb pc') := by
  intro X F σ s k Q I h hQ
  refine ha X F σ s _ _ I h fun x dx s1 l1 I1 r1 h1 => ?_
  refine hb X F σ s1 _ _ I1 h1 fun y dy s2 l2 I2 r2 h2 => ?_
  refine hr X F σ s2 x y dx dy _ _ I2 (.inl (r1.mono l2)) (.inl r2) h2 fun v d s3 l3 I3 e3 w3 r3 h3 => ?_
  replace h3 := isB_of h3
  obtain ⟨b, rfl, h3⟩ := h3
  refine ⟨b, r3.blI, ?_⟩
  by_cases hb' : b = true
  · rw [if_pos hb'] at h3 ⊢
    rw [← e3, ← w3] at h3
    refine hc X F σ s3 _ _ I3 h3 fun z dz s4 l4 I4 r4 h4 => ?_
    refine hr' X F σ s4 y z dy dz _ _ I4 (.inl ((r2.mono l3).mono l4)) (.inl r4) h4 fun v d s5 l5 I5 e5 w5 r5 h5 => ?_
    refine hQ v d s5 ((((l1.trans l2).trans l3).trans l4).trans l5) I5 r5 ?_
    rw [e5, w5]; exact h5
  · rw [if_neg hb'] at h3 ⊢
    refine hQ _ _ s3 ((l1.trans l2).trans l3) I3 (.bl _) ?_
    rw [e3, w3]; exact h3
theorem snd_nil : SndA K c tNil pNil := fun X F σ s k Q I h hQ => hQ [] [] s (Gh.le.refl _) I .nil h
theorem snd_cons (ha : SndE K c ta pa) (hr : SndA K c tr pr) : SndA K c (tCons ta tr) (pCons pa pr) := by
  intro X F σ s k Q I h hQ
  refine ha X F σ s _ _ I h fun x dx s1 l1 I1 r1 h1 => ?_
  refine hr X F σ s1 _ _ I1 h1 fun vs ds s2 l2 I2 r2 h2 => ?_
  exact hQ _ _ s2 (l1.trans l2) I2 (.cons (r1.mono l2) r2) h2
theorem snd_call (hp : SndP K c sp P) (hr : SndA K c tr pr) : SndE K c (tCall sp [] E tr) (pCall P pr) := by
  intro X F σ s k Q I h hQ
  refine hr X F σ s _ _ I h fun vs ds s1 l1 I1 r1 h1 => ?_
  rw [List.append_nil]
  refine hp s1.g s1.H s1.w vs ds _ _ E I1.wr r1 h1 fun v d g' H' w' A W r2 h2 => ?_
  exact hQ v d ⟨g', H', s1.e, w', s1.os⟩ (l1.trans A.le) (I1.call A W) r2 h2
theorem snd_callD {dv : List V} {dd : List Dat} (hp : SndP K c sp P) (hd : ∀ g : Gh, Reps K c g dv dd) (hr : SndA K c tr pr) : SndE K c (tCall sp dv E tr) (pCallD P dd pr) := by
  intro X F σ s k Q I h hQ
  refine hr X F σ s _ _ I h fun vs ds s1 l1 I1 r1 h1 => ?_
  refine hp s1.g s1.H s1.w _ _ _ _ E I1.wr (r1.app (hd _)) h1 fun v d g' H' w' A W r2 h2 => ?_
  exact hQ v d ⟨g', H', s1.e, w', s1.os⟩ (l1.trans A.le) (I1.call A W) r2 h2
theorem reps_getD {g : Gh} {vs : List V} {ds : List Dat} (h : Reps K c g vs ds) (i : Nat) : Rep K c g (vs.getD i .non) (ds.getD i .non) := by
  rw [List.getD_eq_getElem?_getD, List.getD_eq_getElem?_getD]
  cases e : ds[i]? with
  | none =>
    have : vs[i]? = none := List.getElem?_eq_none_iff.mpr (by rw [h.length]; exact List.getElem?_eq_none_iff.mp e)
    rw [this]; exact .non
  | some d =>
    obtain ⟨v, e2, r⟩ := h.get e
    rw [e2]; exact r
theorem reps_perm {g : Gh} {vs : List V} {ds : List Dat} (h : Reps K c g vs ds) : ∀ (ix : List Nat), Reps K c g (perm ix vs) (ix.map fun i => ds.getD i .non)
  | [] => .nil
  | i :: ix => .cons (reps_getD h i) (reps_perm h ix)
theorem snd_kw {n : Nat} {ix : List Nat} (hp : SndP K c sp P) (hr : SndA K c tr pr) : SndE K c (tKw n sp (perm ix) E tr) (pKw n P ix pr) := by
  intro X F σ s k Q I h hQ
  refine hr X F σ s _ _ I h fun vs ds s1 l1 I1 r1 h1 => ?_
  refine ⟨r1.length.trans h1.1, ?_⟩
  refine hp s1.g s1.H s1.w _ _ _ _ E I1.wr (reps_perm r1 ix) h1.2 fun v d g' H' w' A W r2 h2 => ?_
  exact hQ v d ⟨g', H', s1.e, w', s1.os⟩ (l1.trans A.le) (I1.call A W) r2 h2
def pMethM (P : PSp) (a : PE) (r : PA) : PE := fun e w k => a e w fun x e w => match x with | .mach i => r e w fun ds e w => P (.mach i :: ds) w fun d w => k d e w | _ => False
def pMethB (P : PSp) (a : PE) (r : PA) : PE := fun e w k => a e w fun x e w => match x with | .big b n => r e w fun ds e w => P (.big b n :: ds) w fun d w => k d e w | _ => False
theorem Wr.ins {g : Gh} {H : Hp} {w : Wld} (W : Wr K c g H w) {i : Nat} {v : V} (h : Rep K c g v (.mach i)) : ∃ q m dx, g.ms[i]? = some q ∧ w.ms[i]? = some m ∧ v = .ref q.1 ∧ H q.1 = some (.ins c.CMachine dx (mF m.b m.cut q.2.1 q.2.2)) ∧ MRep K c g H q m := by
  cases h with
  | mach h =>
    rename_i q
    have hl : i < w.ms.length := by rw [← W.mlen]; exact (List.getElem?_eq_some_iff.mp h).1
    have hm := W.mach i q _ h (List.getElem?_eq_getElem hl)
    obtain ⟨dx, e⟩ := hm.ins
    exact ⟨q, _, dx, h, List.getElem?_eq_getElem hl, rfl, W.sub _ _ e, hm⟩
theorem snd_methM {f : Str} (hf : (f == "entered" || f == "counts" || f == "base" || f == "limit_of_rows" || f == "width") = false) (hp : SndP K c sp P) (ha : SndE K c ta pa) (hr : SndA K c tr pr) : SndE K c (tMeth c.CMachine f sp [] E ta tr) (pMethM P pa pr) := by
  intro X F σ s k Q I h hQ
  refine ha X F σ s _ _ I h fun x dx s1 l1 I1 r1 h1 => ?_
  cases dx with
  | mach i =>
    obtain ⟨q, m, dx, _, _, e, hi, _⟩ := I1.wr.ins r1
    subst e
    refine ⟨q.1, dx, _, rfl, hi, mF_meth' hf, ?_⟩
    refine hr X F σ s1 _ _ I1 h1 fun vs ds s2 l2 I2 r2 h2 => ?_
    rw [List.append_nil]
    refine hp s2.g s2.H s2.w _ _ _ _ E I2.wr (.cons (r1.mono l2) r2) h2 fun v d g' H' w' A W r3 h3 => ?_
    exact hQ v d ⟨g', H', s2.e, w', s2.os⟩ ((l1.trans l2).trans A.le) (I2.call A W) r3 h3
  | _ => exact h1.elim
theorem snd_methB {f : Str} (hf : (f == "row" || f == "side" || f == "width") = false) (hp : SndP K c sp P) (ha : SndE K c ta pa) (hr : SndA K c tr pr) : SndE K c (tMeth c.CBig f sp [] E ta tr) (pMethB P pa pr) := by
  intro X F σ s k Q I h hQ
  refine ha X F σ s _ _ I h fun x dx s1 l1 I1 r1 h1 => ?_
  cases dx with
  | big b n =>
    obtain ⟨x', e, hb⟩ := RepW.big (.inl r1) I1
    subst e
    obtain ⟨dx, r, hi, _⟩ := hb.at_
    refine ⟨x', dx, _, rfl, hi, bF_meth' hf, ?_⟩
    refine hr X F σ s1 _ _ I1 h1 fun vs ds s2 l2 I2 r2 h2 => ?_
    rw [List.append_nil]
    refine hp s2.g s2.H s2.w _ _ _ _ E I2.wr (.cons (r1.mono l2) r2) h2 fun v d g' H' w' A W r3 h3 => ?_
    exact hQ v d ⟨g', H', s2.e, w', s2.os⟩ ((l1.trans l2).trans A.le) (I2.call A W) r3 h3
  | _ => exact h1.elim
theorem snd_tup (hr : SndA K c tr pr) : SndE K c (tTup tr) (pTup pr) := by
  intro X F σ s k Q I h hQ
  refine hr X F σ s _ _ I h fun vs ds s1 l1 I1 r1 h1 => ?_
  refine ⟨by rw [r1.length]; exact h1.1, fun p hp => ?_⟩
  have hg := I1.offG hp
  have le := gUpd_le (o := .tup vs) hg
  exact hQ _ _ ⟨gUpd s1.g p (.tup vs), upd s1.H p (.tup vs), s1.e, s1.w, s1.os⟩ (l1.trans le) (I1.newG hp) (.tup (show upd s1.g.G p _ p = _ from upd_same) (r1.mono le)) h1.2
theorem snd_lst (hr : SndA K c tr pr) : SndF K c (tLst tr) (pLst pr) := by
  intro X F σ s k Q I h hQ
  refine hr X F σ s _ _ I h fun vs ds s1 l1 I1 r1 h1 => ?_
  refine ⟨by rw [r1.length]; exact h1.1, fun p hp => ?_⟩
  exact hQ p vs ds ⟨s1.g, upd s1.H p (.lst vs), s1.e, s1.w, s1.os⟩ l1 (I1.fresh hp) (I1.newF hp) r1 h1.2
theorem snd_fz {pf : PF} (ha : SndF K c ta pf) : SndE K c ta (pFz pf) := by
  intro X F σ s k Q I h hQ
  refine ha X F σ s _ _ I h fun a vs ds s1 l1 hx I1 r1 h1 => ?_
  have hm : a ∈ s1.mu ((a, .lst vs) :: F) := (mu_cons s1 (a, .lst vs) F).mem_iff.mpr List.mem_cons_self
  have le := gUpd_le (o := .lst vs) (I1.off a hm)
  exact hQ _ _ ⟨gUpd s1.g a (.lst vs), s1.H, s1.e, s1.w, s1.os⟩ (l1.trans le) (I1.frzF hx) (.lst (show upd s1.g.G a _ a = _ from upd_same) (r1.mono le)) h1
theorem pairW {s : Cf} : ∀ {vs : List V} {ds : List Dat}, Reps K c s.g vs ds → Paired (RepW K c s) vs ds
  | _, _, .nil => .nil
  | _, _, .cons h t => .cons (.inl h) (pairW t)
theorem snd_cb {rl : List V → Hp → VK → Prop} {ql : QL} (h' : SndRL K c rl ql) (hr : SndA K c tr pr) : SndE K c (tCB rl tr) (pCB ql pr) := by
  intro X F σ s k Q I h hQ
  refine hr X F σ s _ _ I h fun vs ds s1 l1 I1 r1 h1 => ?_
  refine h' X F σ s1 vs ds _ _ I1 (pairW r1) h1 fun v d s2 l2 I2 e2 w2 r2 h2 => ?_
  refine hQ v d s2 (l1.trans l2) I2 r2 ?_
  rw [e2, w2]; exact h2
theorem snd_cbO {rl : List V → Hp → VK → Prop} {ql : QL} (h' : SndRL K c rl ql) : SndE K c (tCB rl (tCons (tVar i) tNil)) (pCBO ql i) := by
  intro X F σ s k Q I h hQ
  obtain ⟨f, l, e, h⟩ := ownAt_of h
  obtain ⟨a, vs, hs, _, hH, hR, _⟩ := I.own e
  refine ⟨.ref a, hs, ?_⟩
  refine h' X F σ s [.ref a] [.lst l] _ _ I (.cons (.inr ⟨a, vs, l, rfl, rfl, hH, hR⟩) .nil) h fun v d s2 l2 I2 e2 w2 r2 h2 => ?_
  refine hQ v d s2 l2 I2 r2 ?_
  rw [e2, w2]; exact h2
theorem SEnds.mono {D : Ends} {Dp : PEnds} {g g' : Gh} (h : SEnds K c X F g D Dp) (le : g.le g') : SEnds K c X F g' D Dp :=
  ⟨fun σ s l => h.nx σ s (le.trans l), fun σ s v d l => h.rt σ s v d (le.trans l), fun σ s l => h.bk σ s (le.trans l), fun σ s l => h.ct σ s (le.trans l)⟩
theorem snd_seq (ha : SndS K c ts ps) (hb : SndS K c tu pu) : SndS K c (tSeq ts tu) (pSeq ps pu) := by
  intro X F σ s D Dp I h hE
  exact ha X F σ s _ _ I h ⟨fun σ' s' l I' h' => hb X F σ' s' D Dp I' h' (hE.mono l), hE.rt, hE.bk, hE.ct⟩
theorem snd_next : SndS K c tNext pNext := fun X F σ s D Dp I h hE => hE.nx σ s (Gh.le.refl _) I h
theorem snd_never : SndS K c tNever pNever := fun X F σ s D Dp I h hE => h
theorem snd_asg (ha : SndE K c ta pa) : SndS K c (tAsg ta (gName i)) (pAsg pa i) := by
  intro X F σ s D Dp I h hE
  refine ha X F σ s _ _ I h fun x dx s1 l1 I1 r1 h1 => ?_
  exact hE.nx _ ⟨s1.g, s1.H, s1.e.set i (.val dx), s1.w, s1.os⟩ l1 (I1.setV r1) h1
theorem snd_asgO {pf : PF} (ha : SndF K c ta pf) : SndS K c (tAsg ta (gName i)) (pAsgO pf i) := by
  intro X F σ s D Dp I h hE
  refine ha X F σ s _ _ I h fun a vs ds s1 l1 hx I1 r1 h1 => ?_
  exact hE.nx _ ⟨s1.g, s1.H, s1.e.set i (.own true ds), s1.w, (i, a) :: s1.os⟩ l1 (I1.setO r1 hx) h1
theorem snd_asgG {tg : TG} {pg : PG} (ha : SndE K c ta pa) (hg : SndG K c tg pg) : SndS K c (tAsg ta tg) (pAsgG pa pg) := by
  intro X F σ s D Dp I h hE
  refine ha X F σ s _ _ I h fun x dx s1 l1 I1 r1 h1 => ?_
  exact hg X F σ s1 x dx _ _ I1 r1 h1 fun σ' s' l' I' h' => hE.nx σ' s' (l1.trans l') I' h'
theorem snd_gName : SndG K c (gName i) (pgName i) := fun X F σ s v d k Q I r h hQ => hQ _ ⟨s.g, s.H, s.e.set i (.val d), s.w, s.os⟩ (Gh.le.refl _) (I.setV r) h
theorem onSome_of {α : Type} {o : Option α} {k : α → Prop} (h : onSome o k) : ∃ x, o = some x ∧ k x := by
  cases o with
  | none => exact h.elim
  | some x => exact ⟨x, rfl, h⟩
theorem tupOf_of {d : Dat} {k : List Dat → Prop} (h : tupOf d k) : ∃ l, d = .tup l ∧ k l := by
  cases d with
  | tup l => exact ⟨l, rfl, h⟩
  | _ => exact h.elim
theorem intOf_of {d : Dat} {k : Int → Prop} (h : intOf d k) : ∃ l, d = .int l ∧ k l := by
  cases d with
  | int l => exact ⟨l, rfl, h⟩
  | _ => exact h.elim
/-- targets of a tuple, one behind the other -/
def gNames : List Nat → TGs
  | [] => gNil
  | i :: is => gCons (gName i) (gNames is)
theorem In.setAll : ∀ {is : List Nat} {vs : List V} {ds : List Dat} {σ : L2.St} {s : Cf} {e : Env} (I : In K c X F σ s) (r : Reps K c s.g vs ds) (h : setAll s.e is ds = some e) {Q : L2.St → Hp → Prop}, (∀ σ', In K c X F σ' ⟨s.g, s.H, e, s.w, s.os⟩ → Q σ' s.H) → gNames is vs σ s.H Q
  | [], _, _, σ, s, e, I, .nil, h, Q, hQ => by
    simp only [Pu.setAll, Option.some.injEq] at h
    subst h
    exact ⟨rfl, hQ σ I⟩
  | i :: is, _, _, σ, s, e, I, .cons r t, h, Q, hQ => by
    simp only [Pu.setAll] at h
    exact ⟨_, _, rfl, In.setAll (s := ⟨s.g, s.H, s.e.set i (.val _), s.w, s.os⟩) (I.setV r) t h hQ⟩
  | [], _, _, _, _, _, _, .cons _ _, h, _, _ => by simp [Pu.setAll] at h
  | _ :: _, _, _, _, _, _, _, .nil, h, _, _ => by simp [Pu.setAll] at h
theorem setAll_len : ∀ {is : List Nat} {ds : List Dat} {e e' : Env}, setAll e is ds = some e' → ds.length = is.length
  | [], [], _, _, _ => rfl
  | _ :: is, _ :: ds, _, _, h => by simp only [Pu.setAll] at h; simp only [List.length_cons, setAll_len h]
  | [], _ :: _, _, _, h => by simp [Pu.setAll] at h
  | _ :: _, [], _, _, h => by simp [Pu.setAll] at h
theorem snd_gTup {is : List Nat} {n : Nat} (hn : is.length = n) : SndG K c (gTup K n (gNames is)) (pgTup is) := by
  intro X F σ s v d k Q I r h hQ
  replace h := tupOf_of h
  obtain ⟨ds, rfl, h⟩ := h
  obtain ⟨e, he, h⟩ := onSome_of h
  obtain ⟨a, vs, e1, hs, hr⟩ := RepW.tup (.inl r) I
  subst e1
  refine ⟨a, vs, rfl, hs, by rw [hr.length, setAll_len he]; exact hn, ?_⟩
  exact In.setAll I hr he fun σ' I' => hQ σ' ⟨s.g, s.H, e, s.w, s.os⟩ (Gh.le.refl _) I' h
theorem snd_par {j : Nat} (hr : SndA K c tr pr) : SndS K c (tPar i j tr) (pPar [i, j] pr) := by
  intro X F σ s D Dp I h hE
  refine hr X F σ s _ _ I h fun vs ds s1 l1 I1 r1 h1 => ?_
  obtain ⟨e, he, h1⟩ := onSome_of h1
  have := In.setAll (Q := D.nx) I1 r1 he fun σ' I' => hE.nx σ' ⟨s1.g, s1.H, e, s1.w, s1.os⟩ l1 I' h1
  obtain ⟨v, _, rfl, v', _, rfl, rfl, q⟩ := this
  exact ⟨v, v', rfl, q⟩
theorem snd_par3 {j l : Nat} (hr : SndA K c tr pr) : SndS K c (tPar3 i j l tr) (pPar [i, j, l] pr) := by
  intro X F σ s D Dp I h hE
  refine hr X F σ s _ _ I h fun vs ds s1 l1 I1 r1 h1 => ?_
  obtain ⟨e, he, h1⟩ := onSome_of h1
  have := In.setAll (Q := D.nx) I1 r1 he fun σ' I' => hE.nx σ' ⟨s1.g, s1.H, e, s1.w, s1.os⟩ l1 I' h1
  obtain ⟨v, _, rfl, v', _, rfl, v'', _, rfl, rfl, q⟩ := this
  exact ⟨v, v', v'', rfl, q⟩
theorem snd_ret (ha : SndE K c ta pa) : SndS K c (tRet ta) (pRet pa) := by
  intro X F σ s D Dp I h hE
  exact ha X F σ s _ _ I h fun x dx s1 l1 I1 r1 h1 => hE.rt σ s1 x dx l1 I1 r1 h1
theorem snd_drop (ha : SndE K c ta pa) : SndS K c (tDrop ta) (pDrop pa) := by
  intro X F σ s D Dp I h hE
  exact ha X F σ s _ _ I h fun x dx s1 l1 I1 r1 h1 => hE.nx σ s1 l1 I1 h1
theorem snd_ifS (hc : SndT K c tT pT) (ha : SndS K c ts ps) (hb : SndS K c tu pu) : SndS K c (tIfS tT ts tu) (pIfS pT ps pu) := by
  intro X F σ s D Dp I h hE
  refine hc X F σ s _ _ I h fun b s1 l1 I1 h1 => ?_
  by_cases hb' : b = true
  · rw [if_pos hb'] at h1 ⊢
    exact ha X F σ s1 D Dp I1 h1 (hE.mono l1)
  · rw [if_neg hb'] at h1 ⊢
    exact hb X F σ s1 D Dp I1 h1 (hE.mono l1)
theorem snd_append (ha : SndE K c ta pa) : SndS K c (tDrop (tBM K "list" rAppend (tVar i) (tCons ta tNil))) (pAppend i pa) := by
  intro X F σ s D Dp I h hE
  obtain ⟨f0, l0, e0, h⟩ := ownAt_of h
  obtain ⟨a, vs0, hs, ho, hH0, _, _⟩ := I.own e0
  refine ⟨.ref a, hs, .inl ⟨rfl, _, SqL.of hH0⟩, ?_⟩
  refine ha X F σ s _ _ I h fun y dy s2 l2 I2 r2 h2 => ?_
  obtain ⟨f, l, e1, hz, h2⟩ := ownAt_of h2
  obtain ⟨a', vs, hs', ho', hH, hR, hf⟩ := I2.own e1
  rw [hs] at hs'; cases hs'
  exact ⟨a, vs, y, rfl, rfl, hH, by rw [hR.length]; exact hz, hE.nx σ ⟨s2.g, upd s2.H a _, s2.e.set i (.own f (l ++ [dy])), s2.w, s2.os⟩ l2 (I2.ownPut hs ho' (hR.app (.cons r2 .nil)) hf) h2⟩
theorem snd_setI (hi : SndE K c tb pb) (hv : SndE K c ta pa) : SndS K c (tAsg ta (gSub (tVar i) tb rSetL)) (pSetI i pb pa) := by
  intro X F σ s D Dp I h hE
  refine hv X F σ s _ _ I h fun y dy s1 l1 I1 r1 h1 => ?_
  obtain ⟨f0, l0, e0, h1⟩ := ownAt_of h1
  obtain ⟨a, vs0, hs, ho, hH0, _, _⟩ := I1.own e0
  refine ⟨.ref a, hs, ?_⟩
  refine hi X F σ s1 _ _ I1 h1 fun x dx s2 l2 I2 r2 h2 => ?_
  replace h2 := intOf_of h2
  obtain ⟨n, rfl, h2⟩ := h2
  obtain ⟨f, l, e1, h2⟩ := ownAt_of h2
  obtain ⟨j, hj, h2⟩ := onSome_of h2
  obtain ⟨a', vs, hs', ho', hH, hR, hf⟩ := I2.own e1
  rw [hs] at hs'; cases hs'
  exact ⟨a, vs, n, j, rfl, r2.intI, hH, by rw [hR.length]; exact hj, hE.nx σ ⟨s2.g, upd s2.H a _, s2.e.set i (.own f (l.set j dy)), s2.w, s2.os⟩ (l1.trans l2) (I2.ownPut hs ho' (hR.set (r1.mono l2) j) hf) h2⟩
/-- names whose lists are no more theirs alone -/
theorem In.frz1 (I : In K c X F σ s) : ∃ g', s.g.le g' ∧ ∃ os', (∀ q ∈ os', q ∈ s.os) ∧ In K c X F σ ⟨g', s.H, (match s.e[i]? with | some z => s.e.set i (fz z) | none => s.e), s.w, os'⟩ := by
  cases hz : s.e[i]? with
  | none => exact ⟨s.g, Gh.le.refl _, s.os, fun _ h => h, I⟩
  | some z =>
    have hset : ∀ y, s.e[i]? = some y → s.e.set i y = s.e := fun y hy => by
      obtain ⟨h1, h2⟩ := List.getElem?_eq_some_iff.mp hy
      rw [← h2]; exact List.set_getElem_self h1
    cases z with
    | no => exact ⟨s.g, Gh.le.refl _, s.os, fun _ h => h, by show In K c X F σ ⟨s.g, s.H, s.e.set i .no, s.w, s.os⟩; rw [hset _ hz]; exact I⟩
    | val d => exact ⟨s.g, Gh.le.refl _, s.os, fun _ h => h, by show In K c X F σ ⟨s.g, s.H, s.e.set i (.val d), s.w, s.os⟩; rw [hset _ hz]; exact I⟩
    | ownT l r => exact ⟨s.g, Gh.le.refl _, s.os, fun _ h => h, by show In K c X F σ ⟨s.g, s.H, s.e.set i (.ownT l r), s.w, s.os⟩; rw [hset _ hz]; exact I⟩
    | own f ds =>
     cases f with
     | false => exact ⟨s.g, Gh.le.refl _, s.os, fun _ h => h, by show In K c X F σ ⟨s.g, s.H, s.e.set i (.own false ds), s.w, s.os⟩; rw [hset _ hz]; exact I⟩
     | true =>
      obtain ⟨a, vs, hs, ho, hH, hR, hf⟩ := I.own hz
      have hx : X.H a = none := hf.1 rfl
      -- the name's place moves from the names' lists to what is held, then to what never changes
      have hsp : ∃ l1 l2, s.os = l1 ++ (i, a) :: l2 := List.append_of_mem ho
      obtain ⟨l1, l2, hos⟩ := hsp
      have hp : (s.mu F).Perm (((⟨s.g, s.H, s.e.set i .no, s.w, l1 ++ l2⟩ : Cf)).mu ((a, .lst vs) :: F)) := by
        unfold Cf.mu
        rw [hos]
        refine List.Perm.append_left _ ?_
        simp only [List.map_append, List.map_cons, List.append_assoc, List.cons_append]
        refine List.Perm.append_left _ ?_
        exact (List.perm_middle (l₁ := l2.map (·.2))).symm
      have hsub : ∀ q ∈ l1 ++ l2, q ∈ s.os := fun q hq => by
        rw [hos]
        rcases List.mem_append.mp hq with z | z
        · exact List.mem_append_left _ z
        · exact List.mem_append_right _ (List.mem_cons_of_mem _ z)
      have I1 : In K c X ((a, .lst vs) :: F) σ ⟨s.g, s.H, s.e.set i .no, s.w, l1 ++ l2⟩ := by
        refine ⟨I.wr, hp.nodup_iff.mp I.nd, fun b hb => I.off b (hp.mem_iff.mpr hb), by show (s.e.set i _).length = _; rw [List.length_set]; exact I.len, fun j z hz' => ?_, fun q hq => ?_, fun q hq => I.oal q (hsub q hq), I.le, I.keep, I.frz, fun b hb => I.new b (hp.mem_iff.mpr hb), I.dom⟩
        · rcases set_get hz' with ⟨rfl, rfl⟩ | ⟨ne, hz''⟩
          · trivial
          · have h' := I.env j z hz''
            cases z with
            | no => trivial
            | val d => exact h'
            | own f' dl =>
              obtain ⟨b, ws, h1, h2, h3, h4, h5⟩ := h'
              refine ⟨b, ws, h1, ?_, h3, h4, h5⟩
              show (j, b) ∈ l1 ++ l2
              rw [hos] at h2
              rcases List.mem_append.mp h2 with z | z
              · exact List.mem_append_left _ z
              · rcases List.mem_cons.mp z with z | z
                · exact absurd (congrArg Prod.fst z) ne
                · exact List.mem_append_right _ z
            | ownT dl dr =>
              obtain ⟨p, b, us, ws, h1, h2, h3, h4, h5, h6, h7⟩ := h'
              refine ⟨p, b, us, ws, h1, ?_, h3, h4, h5, h6, h7⟩
              show (j, b) ∈ l1 ++ l2
              rw [hos] at h2
              rcases List.mem_append.mp h2 with z | z
              · exact List.mem_append_left _ z
              · rcases List.mem_cons.mp z with z | z
                · exact absurd (congrArg Prod.fst z) ne
                · exact List.mem_append_right _ z
        · rcases List.mem_cons.mp hq with rfl | hq
          · exact hH
          · exact I.held q hq
      have le := gUpd_le (o := .lst vs) (I.off a (I.osMu ho))
      have I2 := I1.frzF hx
      have hval : Rep K c (gUpd s.g a (.lst vs)) (.ref a) (.lst ds) := .lst (show upd s.g.G a _ a = _ from upd_same) (hR.mono le)
      have I3 := I2.setV (i := i) hval
      have hσ : σ.set i (some (.ref a)) = σ := by
        obtain ⟨h1, h2⟩ := List.getElem?_eq_some_iff.mp hs
        rw [← h2]; exact List.set_getElem_self h1
      rw [hσ] at I3
      refine ⟨gUpd s.g a (.lst vs), le, l1 ++ l2, hsub, ?_⟩
      have e2 : (s.e.set i .no).set i (.val (.lst ds)) = s.e.set i (fz (.own true ds)) := by rw [List.set_set]; rfl
      have I3' : In K c X F σ ⟨gUpd s.g a (.lst vs), s.H, (s.e.set i .no).set i (.val (.lst ds)), s.w, l1 ++ l2⟩ := I3
      rw [e2] at I3'
      exact I3'
theorem In.frzs : ∀ {is : List Nat} {s : Cf} (I : In K c X F σ s), ∃ g', s.g.le g' ∧ ∃ os', (∀ q ∈ os', q ∈ s.os) ∧ In K c X F σ ⟨g', s.H, Pu.frz s.e is, s.w, os'⟩
  | [], s, I => ⟨s.g, Gh.le.refl _, s.os, fun _ h => h, I⟩
  | i :: is, s, I => by
    obtain ⟨g1, l1, os1, hs1, I1⟩ := I.frz1 (i := i)
    obtain ⟨g2, l2, os2, hs2, I2⟩ := In.frzs (is := is) I1
    exact ⟨g2, l1.trans l2, os2, fun q hq => hs1 q (hs2 q hq), I2⟩
theorem snd_frz {is : List Nat} (ha : SndS K c ts ps) : SndS K c ts (pFrz is ps) := by
  intro X F σ s D Dp I h hE
  obtain ⟨g', l', os', _, I'⟩ := I.frzs (is := is)
  exact ha X F σ ⟨g', s.H, Pu.frz s.e is, s.w, os'⟩ D Dp I' h (hE.mono l')
theorem snd_while (hc : SndT K c tT pT) (hb : SndS K c ts ps) : SndS K c (tWhile tT ts) (pWhile pT ps) := by
  intro X F σ s D Dp I h hE
  obtain ⟨n, h⟩ := h
  refine ⟨fun m σ' H' => ∃ s' : Cf, s'.H = H' ∧ s.g.le s'.g ∧ In K c X F σ' s' ∧ whl pT ps Dp m s'.e s'.w, ⟨n, s, rfl, Gh.le.refl _, I, h⟩, ?_⟩
  rintro m σ1 H1 ⟨s1, rfl, l1, I1, h1⟩
  cases m with
  | zero => exact h1.elim
  | succ m =>
    refine hc X F σ1 s1 _ _ I1 h1 fun b s2 l2 I2 h2 => ?_
    by_cases hb' : b = true
    · rw [if_pos hb'] at h2 ⊢
      refine ⟨fun σ' H' => ∃ s' : Cf, s'.H = H' ∧ s.g.le s'.g ∧ In K c X F σ' s' ∧ whl pT ps Dp m s'.e s'.w, fun σ' H' ⟨s', e, l, I', h'⟩ => ⟨m, Nat.lt_succ_self m, s', e, l, I', h'⟩, ?_⟩
      refine hb X F σ1 s2 _ _ I2 h2 ⟨fun σ' s' l I' h' => ⟨s', rfl, (l1.trans l2).trans l, I', h'⟩, fun σ' s' v d l => hE.rt σ' s' v d ((l1.trans l2).trans l), fun σ' s' l => hE.nx σ' s' ((l1.trans l2).trans l), fun σ' s' l I' h' => ⟨s', rfl, (l1.trans l2).trans l, I', h'⟩⟩
    · rw [if_neg hb'] at h2 ⊢
      exact hE.nx σ1 s2 (l1.trans l2) I2 h2
/-- an iterator gives these data -/
structure ItD (K : PySem.W.Frag) (c : Pc) (J : It) (g : Gh) (ds : List Dat) : Prop where
  go : ∀ (X : En) (F : List (Addr × HO)) (σ : L2.St) (s : Cf) (i : Nat) (d : Dat), g.le s.g → In K c X F σ s → ds[i]? = some d → J.go i s.H ∧ ∀ x H', J.yld i s.H x H' → ∃ s' : Cf, s'.H = H' ∧ s.g.le s'.g ∧ In K c X F σ s' ∧ s'.e = s.e ∧ s'.w = s.w ∧ Rep K c s'.g x d
  stop : ∀ (X : En) (F : List (Addr × HO)) (σ : L2.St) (s : Cf), g.le s.g → In K c X F σ s → J.stop ds.length s.H
def SndI (K : PySem.W.Frag) (c : Pc) (wi : TI) (p : PA) : Prop := ∀ (X : En) (F : List (Addr × HO)) (σ : L2.St) (s : Cf) (k : List Dat → Env → Wld → Prop) (R : It → Hp → Prop), In K c X F σ s → p s.e s.w k → (∀ J ds s', s.g.le s'.g → In K c X F σ s' → ItD K c J s'.g ds → k ds s'.e s'.w → R J s'.H) → wi σ s.H R
theorem lp_drop {pg : PG} {ps : PS} {Dp : PEnds} {ds : List Dat} {i : Nat} {d : Dat} (h : ds[i]? = some d) : ds.drop i = d :: ds.drop (i + 1) := by
  obtain ⟨h1, h2⟩ := List.getElem?_eq_some_iff.mp h
  rw [← h2]; exact List.drop_eq_getElem_cons h1
theorem snd_for {wi : TI} {pi : PA} {tg : TG} {pg : PG} (hi : SndI K c wi pi) (hg : SndG K c tg pg) (hb : SndS K c ts ps) : SndS K c (tFor wi tg ts) (pFor pi pg ps) := by
  intro X F σ s D Dp I h hE
  refine hi X F σ s _ _ I h fun J ds s1 l1 I1 hJ h1 => ?_
  refine ⟨fun i m σ' H' => m + i = ds.length ∧ ∃ s' : Cf, s'.H = H' ∧ s1.g.le s'.g ∧ In K c X F σ' s' ∧ lp pg ps Dp (ds.drop i) s'.e s'.w, ⟨ds.length, rfl, s1, rfl, Gh.le.refl _, I1, h1⟩, ?_⟩
  rintro i m σ2 H2 ⟨hm, s2, rfl, l2, I2, h2⟩
  by_cases hlt : i < ds.length
  · have hd : ds[i]? = some (ds[i]'hlt) := List.getElem?_eq_getElem _
    rw [lp_drop (pg := pg) (ps := ps) (Dp := Dp) hd] at h2
    obtain ⟨hgo, hy⟩ := hJ.go X F σ2 s2 i _ l2 I2 hd
    refine .inr ⟨hgo, fun σ' H' => m ≠ 0 ∧ ∃ s' : Cf, s'.H = H' ∧ s1.g.le s'.g ∧ In K c X F σ' s' ∧ lp pg ps Dp (ds.drop (i + 1)) s'.e s'.w, fun σ' H' ⟨hm0, z⟩ => ⟨m - 1, by omega, by omega, z⟩, fun x H' hyl => ?_⟩
    obtain ⟨s3, rfl, l3, I3, e3, w3, r3⟩ := hy x H' hyl
    have h3 : pg (ds[i]'hlt) s3.e s3.w fun e w => ps ⟨lp pg ps Dp (ds.drop (i + 1)), Dp.rt, Dp.nx, lp pg ps Dp (ds.drop (i + 1))⟩ e w := by rw [e3, w3]; exact h2
    refine hg X F σ2 s3 x _ _ _ I3 r3 h3 fun σ4 s4 l4 I4 h4 => ?_
    have L : s1.g.le s4.g := (l2.trans l3).trans l4
    exact hb X F σ4 s4 _ _ I4 h4 ⟨fun σ' s' l I' h' => ⟨by omega, s', rfl, L.trans l, I', h'⟩, fun σ' s' v d l => hE.rt σ' s' v d ((l1.trans L).trans l), fun σ' s' l => hE.nx σ' s' ((l1.trans L).trans l), fun σ' s' l I' h' => ⟨by omega, s', rfl, L.trans l, I', h'⟩⟩
  · have hi' : i = ds.length := by omega
    subst hi'
    rw [List.drop_length] at h2
    exact .inl ⟨hJ.stop X F σ2 s2 l2 I2, hE.nx σ2 s2 (l1.trans l2) I2 h2⟩
theorem ItD.list {g : Gh} {a : Addr} {vs : List V} {ds : List Dat} (h : SqL K g.G a vs) (r : Reps K c g vs ds) : ItD K c (Itl K a) g ds where
  go := fun X F σ s i d le I hd => by
    obtain ⟨v, hv, rv⟩ := r.get hd
    have hs : SqL K s.H a vs := sqL_mono I.wr.sub (sqL_mono le.G h)
    refine ⟨⟨vs, v, hs, hv⟩, fun x H' ⟨e, hx⟩ => ?_⟩
    have := hx vs hs
    rw [hv] at this; cases this
    exact ⟨s, e.symm, Gh.le.refl _, I, rfl, rfl, rv.mono le⟩
  stop := fun X F σ s le I => ⟨vs, sqL_mono I.wr.sub (sqL_mono le.G h), by rw [r.length]; exact Nat.le_refl _⟩
theorem ItD.tup {g : Gh} {a : Addr} {vs : List V} {ds : List Dat} (h : SqT K g.G a vs) (r : Reps K c g vs ds) : ItD K c (Itt K a) g ds where
  go := fun X F σ s i d le I hd => by
    obtain ⟨v, hv, rv⟩ := r.get hd
    have hs : SqT K s.H a vs := sqT_mono I.wr.sub (sqT_mono le.G h)
    refine ⟨⟨vs, v, hs, hv⟩, fun x H' ⟨e, hx⟩ => ?_⟩
    have := hx vs hs
    rw [hv] at this; cases this
    exact ⟨s, e.symm, Gh.le.refl _, I, rfl, rfl, rv.mono le⟩
  stop := fun X F σ s le I => ⟨vs, sqT_mono I.wr.sub (sqT_mono le.G h), by rw [r.length]; exact Nat.le_refl _⟩
theorem rng_len : ∀ (n : Nat) (lo : Int), (rng lo n).length = n
  | 0, _ => rfl
  | n + 1, lo => by simp only [rng, List.length_cons, rng_len n]
theorem rng_get : ∀ {n : Nat} {lo : Int} {i : Nat} {d : Dat}, (rng lo n)[i]? = some d → i < n ∧ d = .int (lo + i)
  | 0, _, _, _, h => by simp [rng] at h
  | n + 1, lo, 0, d, h => by
    simp only [rng, List.getElem?_cons_zero, Option.some.injEq] at h
    exact ⟨Nat.succ_pos _, by rw [← h]; simp⟩
  | n + 1, lo, i + 1, d, h => by
    simp only [rng, List.getElem?_cons_succ] at h
    obtain ⟨h1, h2⟩ := rng_get h
    exact ⟨Nat.succ_lt_succ h1, by rw [h2]; congr 1; omega⟩
theorem ItD.range {g : Gh} (lo : Int) (n : Nat) : ItD K c (Itr lo n) g (rng lo n) where
  go := fun X F σ s i d le I hd => by
    obtain ⟨h1, rfl⟩ := rng_get hd
    exact ⟨h1, fun x H' ⟨e, hx⟩ => ⟨s, e.symm, Gh.le.refl _, I, rfl, rfl, by rw [hx]; exact .int _⟩⟩
  stop := fun X F σ s le I => by rw [rng_len]; exact Nat.le_refl n
theorem snd_iList (ha : SndE K c ta pa) : SndI K c (iList K ta) (pIL pa) := by
  intro X F σ s k R I h hR
  refine ha X F σ s _ _ I h fun x dx s1 l1 I1 r1 h1 => ?_
  cases r1 with
  | lst h2 r2 => exact ⟨_, rfl, ⟨_, SqL.of (I1.wr.sub _ _ h2)⟩, hR _ _ s1 l1 I1 (ItD.list (SqL.of h2) r2) h1⟩
  | cst h2 r2 => exact ⟨_, rfl, ⟨_, sqL_mono I1.wr.sub h2⟩, hR _ _ s1 l1 I1 (ItD.list h2 r2) h1⟩
  | _ => exact h1.elim
theorem snd_iR1 (ha : SndE K c ta pa) : SndI K c (iRng1 (tCons ta tNil)) (pIR1 pa) := by
  intro X F σ s k R I h hR
  refine ha X F σ s _ _ I h fun x dx s1 l1 I1 r1 h1 => ?_
  replace h1 := intOf_of h1
  obtain ⟨n, rfl, hb, h1⟩ := h1
  exact ⟨n, by rw [r1.intI], hb.1, hb.2, hR _ _ s1 l1 I1 (ItD.range 0 n.toNat) h1⟩
theorem In.wip : ∀ {vs : List Nat} {s : Cf} (I : In K c X F σ s), In K c X F σ ⟨s.g, s.H, Pu.wip s.e vs, s.w, s.os⟩
  | [], s, I => I
  | i :: vs, s, I => In.wip (vs := vs) (I.setN i)
theorem wip_len (e : Env) : ∀ (vs : List Nat), (wip e vs).length = e.length
  | [] => rfl
  | i :: vs => by unfold Pu.wip; rw [wip_len _ vs, List.length_set]
theorem wip_at : ∀ {vs : List Nat} {e : Env} {j : Nat}, j ∈ vs → j < e.length → (wip e vs)[j]? = some .no
  | i :: vs, e, j, h, hl => by
    unfold Pu.wip
    by_cases hj : j ∈ vs
    · exact wip_at hj (by rw [List.length_set]; exact hl)
    · rcases List.mem_cons.mp h with rfl | h
      · have : ∀ (vs : List Nat) (e : Env), j ∉ vs → (wip e vs)[j]? = e[j]? := by
          intro vs
          induction vs with
          | nil => intro e _; rfl
          | cons a vs ih =>
            intro e hn
            unfold Pu.wip
            rw [ih _ (fun z => hn (List.mem_cons_of_mem _ z)), List.getElem?_set_ne (fun z => hn (by rw [z]; exact List.mem_cons_self))]
        rw [this vs _ hj, List.getElem?_set_self hl]
      · exact absurd h hj
theorem wip_not : ∀ {vs : List Nat} {e : Env} {j : Nat}, j ∉ vs → (wip e vs)[j]? = e[j]?
  | [], _, _, _ => rfl
  | a :: vs, e, j, hn => by
    unfold Pu.wip
    rw [wip_not (fun z => hn (List.mem_cons_of_mem _ z)), List.getElem?_set_ne (fun z => hn (by rw [z]; exact List.mem_cons_self))]
theorem wipe_not : ∀ {vs : List Nat} {σ : L2.St} {j : Nat}, j ∉ vs → (wipe σ vs)[j]? = σ[j]?
  | [], _, _, _ => rfl
  | a :: vs, σ, j, hn => by
    unfold wipe
    rw [List.getElem?_set_ne (fun z => hn (by rw [z]; exact List.mem_cons_self)), wipe_not (fun z => hn (List.mem_cons_of_mem _ z))]
/-- over names that are forgotten the slots may be wiped or not -/
theorem In.alike {vs : List Nat} {σ' : L2.St} (I : In K c X F σ s) (hl : σ'.length = σ.length) (h : ∀ j, j ∉ vs → σ'[j]? = σ[j]?) : In K c X F σ' ⟨s.g, s.H, Pu.wip s.e vs, s.w, s.os⟩ := by
  have I1 := I.wip (vs := vs)
  refine ⟨I1.wr, I1.nd, I1.off, by rw [hl]; exact I1.len, fun j z hz => ?_, I1.held, I1.oal, I1.le, I1.keep, I1.frz, I1.new, I1.dom⟩
  by_cases hj : j ∈ vs
  · have hz : (Pu.wip s.e vs)[j]? = some z := hz
    have hlt : j < s.e.length := by
      have := (List.getElem?_eq_some_iff.mp hz).1
      rwa [wip_len] at this
    rw [wip_at hj hlt] at hz
    cases hz; trivial
  · rw [h j hj]
    exact I1.env j z hz
theorem wipe_alike {σ σ' : L2.St} {vs : List Nat} (h : wipe σ' vs = wipe σ vs) : σ'.length = σ.length ∧ ∀ j, j ∉ vs → σ'[j]? = σ[j]? := by
  refine ⟨?_, fun j hj => ?_⟩
  · have := congrArg List.length h
    rwa [wipe_length, wipe_length] at this
  · have := congrArg (·[j]?) h
    simpa [wipe_not hj] using this
/-- a target writes its names alone -/
def Tgt (g : TG) (vs : List Nat) : Prop := ∀ (v : V) (σ σ0 : L2.St) (H : Hp) (Q : L2.St → Hp → Prop), wipe σ vs = wipe σ0 vs → (g v σ H fun σ' H' => wipe σ' vs = wipe σ0 vs → Q σ' H') → g v σ H fun σ' H' => wipe σ' vs = wipe σ0 vs ∧ Q σ' H'
theorem snd_lc {wi : TI} {pi : PA} {tg : TG} {pg : PG} {vs : List Nat} (hi : SndI K c wi pi) (hg : SndG K c tg pg) (hw : Tgt tg vs) (ht : SndT K c tT pT) (ha : SndE K c ta pa) : SndF K c (tLc wi tg tT ta vs) (pLc pi pg pT pa vs) := by
  intro X F σ s k Q I h hQ
  refine hi X F σ s _ _ I h fun J ds s1 l1 I1 hJ h1 D hD => ?_
  have hI0 : In K c X ((D, .lst []) :: F) σ ⟨s1.g, upd s1.H D (.lst []), Pu.wip s1.e vs, s1.w, s1.os⟩ := In.wip (I1.newF hD)
  have hxD := I1.fresh hD
  refine ⟨fun i m H' => m + i = ds.length ∧ ∃ (s' : Cf) (ys : List V) (acc : List Dat), s'.H = H' ∧ s1.g.le s'.g ∧ In K c X ((D, .lst ys) :: F) σ s' ∧ Reps K c s'.g ys acc ∧ (∀ j, j ∈ vs → j < s'.e.length → s'.e[j]? = some .no) ∧ lcp pg pT pa vs k (ds.drop i) acc s'.e s'.w, ⟨ds.length, rfl, ⟨s1.g, upd s1.H D (.lst []), Pu.wip s1.e vs, s1.w, s1.os⟩, [], [], rfl, Gh.le.refl _, hI0, .nil, fun j hj hl => wip_at hj (by rw [← wip_len]; exact hl), h1⟩, ?_⟩
  rintro i m H2 ⟨hm, s2, ys, acc, rfl, l2, I2, rA, hno, h2⟩
  by_cases hlt : i < ds.length
  · have hd : ds[i]? = some (ds[i]'hlt) := List.getElem?_eq_getElem _
    rw [lp_drop (pg := pg) (ps := pNext) (Dp := ⟨fun _ _ => True, fun _ _ _ => True, fun _ _ => True, fun _ _ => True⟩) hd] at h2
    obtain ⟨hgo, hy⟩ := hJ.go X _ σ s2 i _ l2 I2 hd
    refine .inr ⟨hgo, fun H' => m ≠ 0 ∧ ∃ (s' : Cf) (ys : List V) (acc : List Dat), s'.H = H' ∧ s1.g.le s'.g ∧ In K c X ((D, .lst ys) :: F) σ s' ∧ Reps K c s'.g ys acc ∧ (∀ j, j ∈ vs → j < s'.e.length → s'.e[j]? = some .no) ∧ lcp pg pT pa vs k (ds.drop (i + 1)) acc s'.e s'.w, fun H' ⟨hm0, z⟩ => ⟨m - 1, by omega, by omega, z⟩, fun x H' hyl => ?_⟩
    obtain ⟨s3, rfl, l3, I3, e3, w3, r3⟩ := hy x H' hyl
    have I3' : In K c X ((D, .lst ys) :: F) (wipe σ vs) s3 := by
      have I4 := I3.alike (vs := vs) (σ' := wipe σ vs) (wipe_length σ vs) (fun j hj => wipe_not hj)
      have e4 : Pu.wip s3.e vs = s3.e := by
        apply List.ext_getElem?
        intro j
        by_cases hj : j ∈ vs
        · by_cases hl : j < s3.e.length
          · rw [wip_at hj hl, e3, hno j hj (by rw [← e3]; exact hl)]
          · rw [List.getElem?_eq_none_iff.mpr (show (Pu.wip s3.e vs).length ≤ j by rw [wip_len]; omega), List.getElem?_eq_none_iff.mpr (show s3.e.length ≤ j by omega)]
        · exact wip_not hj
      rw [e4] at I4
      exact I4
    have h3 : pg (ds[i]'hlt) s3.e s3.w fun e w => pT e w fun b e w => if b = true then pa e w fun y e w => acc.length < sizeLine ∧ lcp pg pT pa vs k (ds.drop (i + 1)) (acc ++ [y]) (Pu.wip e vs) w else lcp pg pT pa vs k (ds.drop (i + 1)) acc (Pu.wip e vs) w := by rw [e3, w3]; exact h2
    have hw0 : wipe (wipe σ vs) vs = wipe σ vs := by
      apply List.ext_getElem?
      intro j
      by_cases hj : j ∈ vs
      · have : ∀ (vs : List Nat) (σ : L2.St), j ∈ vs → (wipe σ vs)[j]? = if j < σ.length then some none else none := by
          intro vs
          induction vs with
          | nil => intro σ h; cases h
          | cons a vs ih =>
            intro σ h
            unfold wipe
            by_cases ha : a = j
            · subst ha
              by_cases hl : a < σ.length
              · rw [if_pos hl, List.getElem?_set_self (by rw [wipe_length]; exact hl)]
              · rw [if_neg hl]; exact List.getElem?_eq_none_iff.mpr (by rw [List.length_set, wipe_length]; omega)
            · rcases List.mem_cons.mp h with h | h
              · exact absurd h.symm ha
              · rw [List.getElem?_set_ne ha]; exact ih σ h
        rw [this vs _ hj, this vs _ hj, wipe_length]
      · exact wipe_not hj
    refine hw x (wipe σ vs) σ s3.H _ hw0 ?_
    refine hg X _ (wipe σ vs) s3 x _ _ _ I3' r3 h3 fun σ4 s4 l4 I4 h4 hw4 => ?_
    obtain ⟨hl4, hv4⟩ := wipe_alike hw4
    have L4 := (l2.trans l3).trans l4
    have hnoW : ∀ e : Env, ∀ j, j ∈ vs → j < (Pu.wip e vs).length → (Pu.wip e vs)[j]? = some .no := fun e j hj hl => wip_at hj (by rw [← wip_len]; exact hl)
    refine ht X _ σ4 s4 _ _ I4 h4 fun b s5 l5 I5 h5 => ?_
    by_cases hb' : b = true
    · rw [if_pos hb'] at h5 ⊢
      refine ha X _ σ4 s5 _ _ I5 h5 fun y dy s6 l6 I6 r6 h6 => ?_
      refine ⟨ys, I6.held _ List.mem_cons_self, by rw [rA.length]; exact h6.1, by omega, ⟨s6.g, upd s6.H D (.lst (ys ++ [y])), Pu.wip s6.e vs, s6.w, s6.os⟩, ys ++ [y], acc ++ [dy], rfl, (L4.trans l5).trans l6, ?_, (rA.mono (((l3.trans l4).trans l5).trans l6)).app (.cons r6 .nil), hnoW _, h6.2⟩
      exact In.alike (I6.heldPut hxD noC_lst) hl4.symm fun j hj => (hv4 j hj).symm
    · rw [if_neg hb'] at h5 ⊢
      exact ⟨by omega, ⟨s5.g, s5.H, Pu.wip s5.e vs, s5.w, s5.os⟩, ys, acc, rfl, L4.trans l5, In.alike I5 hl4.symm fun j hj => (hv4 j hj).symm, rA.mono ((l3.trans l4).trans l5), hnoW _, h5⟩
  · have hi' : i = ds.length := by omega
    subst hi'
    rw [List.drop_length] at h2
    exact .inl ⟨hJ.stop X _ σ s2 l2 I2, hQ D ys acc s2 (l1.trans l2) hxD I2 rA h2⟩
theorem snd_yes : SndT K c tYes pYes := fun X F σ s k Q I h hQ => hQ true s (Gh.le.refl _) I h
theorem tgt_name (j : Nat) : Tgt (gName j) [j] := fun v σ σ0 H Q hw h => by
  have e : wipe (σ.set j (some v)) [j] = wipe σ [j] := by simp [wipe]
  exact ⟨e.trans hw, h (e.trans hw)⟩
end
end Pu
namespace Pu
open PySem L2 Eng
def qI (C : Int → Int → Prop) (g : Int → Int → Dat) : Q2
  | .int i, .int j, k => C i j ∧ k (g i j)
  | _, _, _ => False
def qI0 (g : Int → Int → Dat) : Q2
  | .int i, .int j, k => k (g i j)
  | _, _, _ => False
def qAdd : Q2 := qI0 fun i j => .int (i + j)
def qSub : Q2 := qI0 fun i j => .int (i - j)
def qMul : Q2 := qI IntMulOk fun i j => .int (i * j)
def qDiv : Q2 := qI oDiv fun i j => .int (i / j)
def qMod : Q2 := qI (fun _ j => 0 < j) fun i j => .int (i % j)
def qPow : Q2 := qI oPow fun i j => .int (i ^ j.toNat)
def qShl : Q2 := qI CShl fun i j => .int (i * 2 ^ j.toNat)
def qShr : Q2 := qI (fun _ j => 0 ≤ j) fun i j => .int (i / 2 ^ j.toNat)
def qAnd : Q2 := qI0 fun i j => .int (Builtin.bitAnd i j)
def qOr : Q2 := qI0 fun i j => .int (Builtin.bitOr i j)
def qXor : Q2 := qI0 fun i j => .int (Builtin.bitXor i j)
def qLt : Q2 := qI0 fun i j => .bl (decide (i < j))
def qLe : Q2 := qI0 fun i j => .bl (decide (i ≤ j))
def qGt : Q2 := qI0 fun i j => .bl (decide (j < i))
def qGe : Q2 := qI0 fun i j => .bl (decide (j ≤ i))
def qNeg : Q1
  | .int i, k => k (.int (-i))
  | _, _ => False
def qEq : Q2
  | .int i, .int j, k => k (.bl (decide (i = j)))
  | .str i, .str j, k => k (.bl (decide (i = j)))
  | .bl i, .bl j, k => k (.bl (decide (i = j)))
  | _, _, _ => False
def qNe : Q2
  | .int i, .int j, k => k (.bl (!decide (i = j)))
  | .str i, .str j, k => k (.bl (!decide (i = j)))
  | .bl i, .bl j, k => k (.bl (!decide (i = j)))
  | _, _, _ => False
def qIx : Q2
  | .lst l, .int n, k => onSome (atI l n) k
  | .cst l, .int n, k => onSome (atI l n) k
  | .tup l, .int n, k => onSome (atI l n) k
  | _, _, _ => False
def qCat : Dat → Dat → (List Dat → Prop) → Prop
  | .lst l, .lst m, k => l.length + m.length ≤ sizeLine ∧ k (l ++ m)
  | _, _, _ => False
def qRep : Dat → Dat → (List Dat → Prop) → Prop
  | .lst l, .int n, k => (-(2 ^ 63) ≤ n ∧ n < 2 ^ 63 ∧ l.length * n.toNat ≤ sizeLine) ∧ k (List.replicate n.toNat l).flatten
  | _, _, _ => False
def qLen : QL
  | [.lst l], k => k (.int (l.length : Nat))
  | [.cst l], k => k (.int (l.length : Nat))
  | [.tup l], k => k (.int (l.length : Nat))
  | _, _ => False
def qAbs : QL
  | [.int n], k => k (.int (if n < 0 then -n else n))
  | _, _ => False
def qInt : QL
  | [.int n], k => k (.int n)
  | [.bl b], k => k (.int (if b then 1 else 0))
  | _, _ => False
def qMax2 : QL
  | [.int i, .int j], k => k (.int (if j > i then j else i))
  | _, _ => False
def qMin2 : QL
  | [.int i, .int j], k => k (.int (if j < i then j else i))
  | _, _ => False
def qList : List Dat → (List Dat → Prop) → Prop
  | [.lst l], k => k l
  | [.cst l], k => k l
  | [.tup l], k => k l
  | _, _ => False
def qTupL : QL
  | [.lst l], k => k (.tup l)
  | _, _ => False
section
variable {K : PySem.W.Frag} {c : Pc} {X : En} {F : List (Addr × HO)} {σ : L2.St} {s : Cf} {ta tb tc te : TE} {pa pb pc' pe : PE} {tr : TA} {pr : PA} {P : PSp} {sp : Sp} {E : XK} {i : Nat}
theorem snd_rI {C : Int → Int → Prop} {gv : Int → Int → V} {gd : Int → Int → Dat} (hg : ∀ i j (g : Gh), Rep K c g (gv i j) (gd i j)) : SndR2 K c (rI C gv) (qI C gd) := by
  intro X F σ s x y dx dy k Q I rx ry h hQ
  cases dx with
  | int i =>
    cases dy with
    | int j => exact ⟨i, j, rx.int, ry.int, h.1, hQ _ _ s (Gh.le.refl _) I rfl rfl (hg i j _) h.2⟩
    | _ => exact h.elim
  | _ => exact h.elim
theorem snd_rI0 {gv : Int → Int → V} {gd : Int → Int → Dat} (hg : ∀ i j (g : Gh), Rep K c g (gv i j) (gd i j)) : SndR2 K c (rI0 gv) (qI0 gd) := by
  intro X F σ s x y dx dy k Q I rx ry h hQ
  cases dx with
  | int i =>
    cases dy with
    | int j => exact ⟨i, j, rx.int, ry.int, hQ _ _ s (Gh.le.refl _) I rfl rfl (hg i j _) h⟩
    | _ => exact h.elim
  | _ => exact h.elim
theorem s_add : SndR2 K c Eng.rAdd qAdd := snd_rI0 fun _ _ _ => .int _
theorem s_sub : SndR2 K c Eng.rSub qSub := snd_rI0 fun _ _ _ => .int _
theorem s_mul : SndR2 K c Eng.rMul qMul := snd_rI fun _ _ _ => .int _
theorem s_div : SndR2 K c Eng.rDiv qDiv := snd_rI fun _ _ _ => .int _
theorem s_mod : SndR2 K c Eng.rMod qMod := snd_rI fun _ _ _ => .int _
theorem s_pow : SndR2 K c Eng.rPow qPow := snd_rI fun _ _ _ => .int _
theorem s_shl : SndR2 K c Eng.rShl qShl := snd_rI fun _ _ _ => .int _
theorem s_shr : SndR2 K c Eng.rShr qShr := snd_rI fun _ _ _ => .int _
theorem s_or : SndR2 K c Eng.rOr qOr := snd_rI0 fun _ _ _ => .int _
theorem s_lt : SndR2 K c Eng.rLt qLt := snd_rI0 fun _ _ _ => .bl _
theorem s_le : SndR2 K c Eng.rLe qLe := snd_rI0 fun _ _ _ => .bl _
theorem s_gt : SndR2 K c Eng.rGt qGt := snd_rI0 fun _ _ _ => .bl _
theorem s_ge : SndR2 K c Eng.rGe qGe := snd_rI0 fun _ _ _ => .bl _
theorem snd_neg (ha : SndE K c ta pa) : SndE K c (tUn Eng.rNeg ta) (pUn qNeg pa) := snd_un (fun s x d r k Q h hQ => by
  cases d with
  | int n => exact ⟨n, r.intI, hQ _ _ (.int _) h⟩
  | _ => exact h.elim) ha
theorem s_eq : SndR2 K c rEq qEq := by
  intro X F σ s x y dx dy k Q I rx ry h hQ
  cases dx with
  | int i =>
    cases dy with
    | int j => rw [rx.int, ry.int]; exact rd_eqI (hQ _ _ s (Gh.le.refl _) I rfl rfl (.bl _) h)
    | _ => exact h.elim
  | str i =>
    cases dy with
    | str j => rw [rx.str, ry.str]; exact rd_eqS (hQ _ _ s (Gh.le.refl _) I rfl rfl (.bl _) h)
    | _ => exact h.elim
  | bl i =>
    cases dy with
    | bl j => rw [rx.bl, ry.bl]; exact rd_eqB (hQ _ _ s (Gh.le.refl _) I rfl rfl (.bl _) h)
    | _ => exact h.elim
  | _ => exact h.elim
theorem s_ne : SndR2 K c rNe qNe := by
  intro X F σ s x y dx dy k Q I rx ry h hQ
  cases dx with
  | int i =>
    cases dy with
    | int j => rw [rx.int, ry.int]; exact rd_neI (hQ _ _ s (Gh.le.refl _) I rfl rfl (.bl _) h)
    | _ => exact h.elim
  | str i =>
    cases dy with
    | str j => rw [rx.str, ry.str]; exact rd_neS (hQ _ _ s (Gh.le.refl _) I rfl rfl (.bl _) h)
    | _ => exact h.elim
  | bl i =>
    cases dy with
    | bl j => rw [rx.bl, ry.bl]; exact rd_neB (hQ _ _ s (Gh.le.refl _) I rfl rfl (.bl _) h)
    | _ => exact h.elim
  | _ => exact h.elim
theorem reps_at {g : Gh} {vs : List V} {ds : List Dat} {n : Int} {d : Dat} (r : Reps K c g vs ds) (h : atI ds n = some d) : ∃ v, atI vs n = some v ∧ Rep K c g v d := by
  unfold atI at h ⊢
  rw [r.length]
  cases e : ixN ds.length n with
  | none => rw [e] at h; cases h
  | some j => rw [e] at h; exact r.get h
def qIxT : Q2
  | .tup l, .int n, k => onSome (atI l n) k
  | _, _, _ => False
def qIxL : Q2
  | .lst l, .int n, k => onSome (atI l n) k
  | .cst l, .int n, k => onSome (atI l n) k
  | _, _, _ => False
theorem s_ixL : SndR2 K c (rIxL K) qIxL := by
  intro X F σ s x y dx dy k Q I rx ry h hQ
  cases dx with
  | lst l =>
    cases dy with
    | int n =>
      obtain ⟨d, hd, h⟩ := onSome_of h
      obtain ⟨a, vs, rfl, hH, hR⟩ := rx.lst I
      obtain ⟨v, hv, rv⟩ := reps_at hR hd
      exact ⟨a, vs, n, v, rfl, ry.int, SqL.of hH, hv, hQ v d s (Gh.le.refl _) I rfl rfl rv h⟩
    | _ => exact h.elim
  | cst l =>
    cases dy with
    | int n =>
      obtain ⟨d, hd, h⟩ := onSome_of h
      obtain ⟨a, vs, rfl, hH, hR⟩ := rx.cst I
      obtain ⟨v, hv, rv⟩ := reps_at hR hd
      exact ⟨a, vs, n, v, rfl, ry.int, hH, hv, hQ v d s (Gh.le.refl _) I rfl rfl rv h⟩
    | _ => exact h.elim
  | _ => exact h.elim
theorem s_ixT : SndR2 K c (rIxT K) qIxT := by
  intro X F σ s x y dx dy k Q I rx ry h hQ
  cases dx with
  | tup l =>
    cases dy with
    | int n =>
      obtain ⟨d, hd, h⟩ := onSome_of h
      obtain ⟨a, vs, rfl, hH, hR⟩ := rx.tup I
      obtain ⟨v, hv, rv⟩ := reps_at hR hd
      exact ⟨a, vs, n, v, rfl, ry.int, hH, hv, hQ v d s (Gh.le.refl _) I rfl rfl rv h⟩
    | _ => exact h.elim
  | _ => exact h.elim
theorem s_cat : SndR2F K c rCat qCat := by
  intro X F σ s x y dx dy k Q I rx ry h hQ
  cases dx with
  | lst l =>
    cases dy with
    | lst m =>
      obtain ⟨a, vs, rfl, hH, hR⟩ := rx.lst I
      obtain ⟨b, ws, rfl, hH', hR'⟩ := ry.lst I
      refine ⟨a, b, vs, ws, rfl, rfl, hH, hH', by rw [hR.length, hR'.length]; exact h.1, fun p hp => ?_⟩
      exact hQ p _ _ ⟨s.g, upd s.H p (.lst (vs ++ ws)), s.e, s.w, s.os⟩ (Gh.le.refl _) (I.fresh hp) (I.newF hp) rfl rfl (hR.app hR') h.2
    | _ => exact h.elim
  | _ => exact h.elim
theorem s_rep : SndR2F K c rRep qRep := by
  intro X F σ s x y dx dy k Q I rx ry h hQ
  cases dx with
  | lst l =>
    cases dy with
    | int n =>
      obtain ⟨a, vs, rfl, hH, hR⟩ := rx.lst I
      refine ⟨a, n, vs, rfl, ry.int, hH, h.1.1, h.1.2.1, by rw [hR.length]; exact h.1.2.2, fun p hp => ?_⟩
      exact hQ p _ _ ⟨s.g, upd s.H p (.lst _), s.e, s.w, s.os⟩ (Gh.le.refl _) (I.fresh hp) (I.newF hp) rfl rfl (hR.rep n.toNat) h.2
    | _ => exact h.elim
  | _ => exact h.elim
theorem one_of {s : Cf} {vs : List V} {d : Dat} (r : Paired (RepW K c s) vs [d]) : ∃ v, vs = [v] ∧ RepW K c s v d := by
  cases r with
  | cons r t => cases t; exact ⟨_, rfl, r⟩
theorem s_len : SndRL K c (Eng.rLen K) qLen := by
  intro X F σ s vs ds k Q I r h hQ
  unfold qLen at h
  split at h
  · replace r := one_of r
    obtain ⟨v, rfl, r⟩ := r
    obtain ⟨a, vs, rfl, hH, hR⟩ := r.lst I
    exact ⟨a, vs, rfl, .inl (SqL.of hH), by rw [hR.length]; exact hQ _ _ s (Gh.le.refl _) I rfl rfl (.int _) h⟩
  · replace r := one_of r
    obtain ⟨v, rfl, r⟩ := r
    obtain ⟨a, vs, rfl, hH, hR⟩ := r.cst I
    exact ⟨a, vs, rfl, .inl hH, by rw [hR.length]; exact hQ _ _ s (Gh.le.refl _) I rfl rfl (.int _) h⟩
  · replace r := one_of r
    obtain ⟨v, rfl, r⟩ := r
    obtain ⟨a, vs, rfl, hH, hR⟩ := r.tup I
    exact ⟨a, vs, rfl, .inr hH, by rw [hR.length]; exact hQ _ _ s (Gh.le.refl _) I rfl rfl (.int _) h⟩
  · exact h.elim
theorem s_abs : SndRL K c rAbs qAbs := by
  intro X F σ s vs ds k Q I r h hQ
  unfold qAbs at h
  split at h
  · replace r := one_of r
    obtain ⟨v, rfl, r⟩ := r
    exact ⟨_, by rw [r.int], hQ _ _ s (Gh.le.refl _) I rfl rfl (.int _) h⟩
  · exact h.elim
theorem s_int : SndRL K c rInt qInt := by
  intro X F σ s vs ds k Q I r h hQ
  unfold qInt at h
  split at h
  · replace r := one_of r
    obtain ⟨v, rfl, r⟩ := r
    exact .inl ⟨_, by rw [r.int], hQ _ _ s (Gh.le.refl _) I rfl rfl (.int _) h⟩
  · replace r := one_of r
    obtain ⟨v, rfl, r⟩ := r
    exact .inr ⟨_, by rw [r.bl], hQ _ _ s (Gh.le.refl _) I rfl rfl (.int _) h⟩
  · exact h.elim
theorem two_of {s : Cf} {vs : List V} {ds : List Dat} (r : Paired (RepW K c s) vs ds) {i j : Int} (h : ds = [.int i, .int j]) : vs = [.int i, .int j] := by
  subst h
  cases r with
  | cons r t =>
    cases t with
    | cons r' t' =>
      cases t'
      rw [r.int, r'.int]
theorem s_max2 : SndRL K c rMax2 qMax2 := by
  intro X F σ s vs ds k Q I r h hQ
  unfold qMax2 at h
  split at h
  · rename_i i j
    exact ⟨i, j, two_of r rfl, hQ _ _ s (Gh.le.refl _) I rfl rfl (.int _) h⟩
  · exact h.elim
def pNoPart : PO := fun e w k => k none e w
def pPart (a : PE) : PO := fun e w k => a e w fun x e w => intOf x fun n => k (some n) e w
def cutD (ds : List Dat) (lo hi : Option Int) : List Dat := (ds.drop (HT.sIx ds.length 0 lo)).take (HT.sIx ds.length ds.length hi - HT.sIx ds.length 0 lo)
def pSlL (a : PE) (lo hi : PO) : PF := fun e w k => a e w fun x e w => lo e w fun l e w => hi e w fun u e w => lstOf x fun ds => k (cutD ds l u) e w
theorem snd_noPart : SndO K c tNoPart pNoPart := fun X F σ s k Q I h hQ => hQ none s (Gh.le.refl _) I h
theorem snd_part (ha : SndE K c ta pa) : SndO K c (tPart ta) (pPart pa) := by
  intro X F σ s k Q I h hQ
  refine ha X F σ s _ _ I h fun x dx s1 l1 I1 r1 h1 => ?_
  replace h1 := intOf_of h1
  obtain ⟨n, rfl, h1⟩ := h1
  exact ⟨n, r1.intI, hQ _ s1 l1 I1 h1⟩
theorem lstOf_of {d : Dat} {k : List Dat → Prop} (h : lstOf d k) : ∃ l, (d = .lst l ∨ d = .cst l) ∧ k l := by
  cases d with
  | lst l => exact ⟨l, .inl rfl, h⟩
  | cst l => exact ⟨l, .inr rfl, h⟩
  | _ => exact h.elim
theorem Rep.sqL {v : V} {d : Dat} {l : List Dat} (r : Rep K c s.g v d) (I : In K c X F σ s) (h : d = .lst l ∨ d = .cst l) : ∃ a vs, v = .ref a ∧ SqL K s.H a vs ∧ Reps K c s.g vs l := by
  rcases h with rfl | rfl
  · obtain ⟨a, vs, e, h1, h2⟩ := RepW.lst (.inl r) I
    exact ⟨a, vs, e, SqL.of h1, h2⟩
  · exact RepW.cst (.inl r) I
theorem reps_cut {g : Gh} {vs : List V} {ds : List Dat} (r : Reps K c g vs ds) (lo hi : Option Int) : Reps K c g (cutV vs lo hi) (cutD ds lo hi) := by
  unfold cutV cutD
  rw [r.length]
  exact (r.drop _).take _
theorem snd_slL {tlo thi : TO} {plo phi : PO} (ha : SndE K c ta pa) (h1 : SndO K c tlo plo) (h2 : SndO K c thi phi) : SndF K c (tSl (rSlL K) ta tlo thi) (pSlL pa plo phi) := by
  intro X F σ s k Q I h hQ
  refine ha X F σ s _ _ I h fun x dx s1 l1 I1 r1 h' => ?_
  refine h1 X F σ s1 _ _ I1 h' fun l s2 l2 I2 h' => ?_
  refine h2 X F σ s2 _ _ I2 h' fun u s3 l3 I3 h' => ?_
  obtain ⟨ds, hd, h'⟩ := lstOf_of h'
  obtain ⟨a, vs, rfl, hH, hR⟩ := ((r1.mono l2).mono l3).sqL I3 hd
  exact ⟨a, vs, rfl, hH, fun p hp => hQ p _ _ ⟨s3.g, upd s3.H p (.lst _), s3.e, s3.w, s3.os⟩ ((l1.trans l2).trans l3) (I3.fresh hp) (I3.newF hp) (reps_cut hR l u) h'⟩
def pRevL (a : PE) : PF := fun e w k => a e w fun x e w => lstOf x fun ds => k ds.reverse e w
def pRevT (a : PE) : PE := fun e w k => a e w fun x e w => tupOf x fun ds => k (.tup ds.reverse) e w
theorem snd_revL (ha : SndE K c ta pa) : SndF K c (tRevL K ta) (pRevL pa) := by
  intro X F σ s k Q I h hQ
  refine ha X F σ s _ _ I h fun x dx s1 l1 I1 r1 h' => ?_
  obtain ⟨ds, hd, h'⟩ := lstOf_of h'
  obtain ⟨a, vs, rfl, hH, hR⟩ := r1.sqL I1 hd
  exact ⟨a, vs, rfl, hH, fun p hp => hQ p _ _ ⟨s1.g, upd s1.H p (.lst _), s1.e, s1.w, s1.os⟩ l1 (I1.fresh hp) (I1.newF hp) hR.rev h'⟩
def dN (ds : List Nat) : List Dat := ds.map fun (d : Nat) => Dat.int (d : Int)
theorem reps_dN {g : Gh} : ∀ (ds : List Nat), Reps K c g (iN ds) (dN ds)
  | [] => .nil
  | d :: ds => .cons (.int _) (reps_dN ds)
theorem reps_iN {g : Gh} : ∀ {ds : List Nat} {vs : List V}, Reps K c g vs (dN ds) → vs = iN ds
  | [], _, .nil => rfl
  | _ :: ds, _, .cons h t => by rw [h.intI, reps_iN t]; rfl
def pWidthB (a : PE) : PE := fun e w k => a e w fun x e w => match x with | .big b _ => k (.int (b : Int)) e w | _ => False
def pSide (a : PE) : PE := fun e w k => a e w fun x e w => match x with | .big _ n => k (.int (sgn n)) e w | _ => False
def pRow (a : PE) : PE := fun e w k => a e w fun x e w => match x with | .big b n => k (.tup (dN (digs b n.natAbs))) e w | _ => False
def onM (w : Wld) (i : Nat) (k : Mach → Prop) : Prop := match w.ms[i]? with | some m => k m | none => False
theorem onM_of {w : Wld} {i : Nat} {k : Mach → Prop} (h : onM w i k) : ∃ m, w.ms[i]? = some m ∧ k m := by
  unfold onM at h
  cases e : w.ms[i]? with
  | none => rw [e] at h; exact h.elim
  | some m => rw [e] at h; exact ⟨m, rfl, h⟩
def pWidthM (a : PE) : PE := fun e w k => a e w fun x e w => match x with | .mach i => onM w i fun m => k (.int (m.b : Int)) e w | _ => False
def pCut (a : PE) : PE := fun e w k => a e w fun x e w => match x with | .mach i => onM w i fun m => k (.int m.cut) e w | _ => False
def pBase (a : PE) : PE := fun e w k => a e w fun x e w => match x with | .mach i => onM w i fun m => k (.int (2 ^ m.b)) e w | _ => False
end
def pen (k : Dat → Wld → Prop) : PEnds := ⟨fun _ w => k .non w, fun d _ w => k d w, fun _ _ => False, fun _ _ => False⟩
def env0 (n : Nat) (ds : List Dat) : Env := ds.map Slot.val ++ List.replicate (n - ds.length) .no
section
variable {K : PySem.W.Frag} {c : Pc} {P : PSp} {vs : List V} {H : Hp} {Q : VK} {E : XK} {n : Nat} {t : TS} {p : PS}
theorem reps_env {X : En} {s : Cf} : ∀ {vs : List V} {ds : List Dat} {m : Nat} (r : Reps K c s.g vs ds) (i : Nat) (z : Slot), (ds.map Slot.val ++ List.replicate m .no)[i]? = some z → RSl K c X s i ((vs.map some ++ List.replicate m none : L2.St)[i]?) z
  | _, _, m, .nil, i, z, h => by
    simp only [List.map_nil, List.nil_append] at h ⊢
    have : z = .no := (List.mem_replicate.mp (List.mem_of_getElem? h)).2
    rw [this]; trivial
  | _, _, m, .cons r t, 0, z, h => by
    simp only [List.map_cons, List.cons_append, List.getElem?_cons_zero, Option.some.injEq] at h ⊢
    subst h
    exact ⟨_, rfl, r⟩
  | _, _, m, .cons r t, i + 1, z, h => by
    simp only [List.map_cons, List.cons_append, List.getElem?_cons_succ] at h ⊢
    have := reps_env (X := X) t i z h
    cases z with
    | no => trivial
    | val d => exact this
    | own f l =>
      exfalso
      have := List.mem_of_getElem? h
      rcases List.mem_append.mp this with q | q
      · obtain ⟨d, _, e⟩ := List.mem_map.mp q; cases e
      · exact nomatch (List.mem_replicate.mp q).2
    | ownT l r =>
      exfalso
      have := List.mem_of_getElem? h
      rcases List.mem_append.mp this with q | q
      · obtain ⟨d, _, e⟩ := List.mem_map.mp q; cases e
      · exact nomatch (List.mem_replicate.mp q).2
theorem In.start {g : Gh} {w : Wld} {ds : List Dat} (W : Wr K c g H w) (r : Reps K c g vs ds) : In K c ⟨H, g, []⟩ [] (st0 n vs) ⟨g, H, env0 n ds, w, []⟩ := by
  have e : (⟨g, H, env0 n ds, w, []⟩ : Cf).mu [] = g.mu := by unfold Cf.mu; simp
  refine ⟨W, by rw [e]; exact W.nd, by rw [e]; exact W.off, ?_, fun i z hz => ?_, (fun q h => nomatch h), (fun q h => nomatch h), Gh.le.refl _, fun _ _ h _ _ => h, fun _ _ _ => rfl, by rw [e]; exact fun a ha => .inl ha, fun a o h => ⟨o, h⟩⟩
  · show (env0 n ds).length = (st0 n vs).length
    unfold env0 st0
    simp only [List.length_append, List.length_map, List.length_replicate, r.length]
  · have hz : (env0 n ds)[i]? = some z := hz
    unfold env0 at hz
    unfold st0
    rw [r.length]
    exact reps_env (s := ⟨g, H, env0 n ds, w, []⟩) r i z hz
theorem In.aft {g : Gh} {σ : L2.St} {s : Cf} (I : In K c ⟨H, g, []⟩ [] σ s) : Aft g H s.g s.H :=
  ⟨I.le, fun a o h n => I.keep a o h n (fun z => nomatch z), I.frz, fun a ha => by
    rcases I.new a (List.mem_append_left _ ha) with z | z | z
    · exact .inl z
    · cases z
    · exact .inr z, I.dom⟩
/-- a def keeps its promise -/
theorem def_ok (hs : SndS K c t p) (hP : ∀ ds w k, P ds w k → p (pen k) (env0 n ds) w) (h : lif K c P vs H Q E) : t (en0 Q) (st0 n vs) H := by
  obtain ⟨g, w, ds, k, W, r, hp, hq⟩ := h
  refine hs ⟨H, g, []⟩ [] (st0 n vs) ⟨g, H, env0 n ds, w, []⟩ _ _ (In.start W r) (hP ds w k hp) ⟨fun σ s l I h => ?_, fun σ s v d l I r h => ?_, fun _ _ _ _ h => h.elim, fun _ _ _ _ h => h.elim⟩
  · exact hq .non .non s.g s.H s.w I.aft I.wr .non h
  · exact hq v d s.g s.H s.w I.aft I.wr r h
end
end Pu
namespace Pu
open PySem L2 Eng
def gAdd (g : Gh) : List (Addr × HO) → Gh
  | [] => g
  | q :: ns => gUpd (gAdd g ns) q.1 q.2
theorem gAdd_ms (g : Gh) : ∀ ns, (gAdd g ns).ms = g.ms ∧ (gAdd g ns).ss = g.ss
  | [] => ⟨rfl, rfl⟩
  | _ :: ns => gAdd_ms g ns
theorem gAdd_os (g : Gh) : ∀ ns, (gAdd g ns).os = g.os ∧ (gAdd g ns).ts = g.ts
  | [] => ⟨rfl, rfl⟩
  | _ :: ns => gAdd_os g ns
theorem gAdd_mu (g : Gh) (ns : List (Addr × HO)) : (gAdd g ns).mu = g.mu := by unfold Gh.mu Gh.ot; rw [(gAdd_ms g ns).1, (gAdd_ms g ns).2, (gAdd_os g ns).1, (gAdd_os g ns).2]
theorem gAdd_get {g : Gh} : ∀ {ns : List (Addr × HO)} {a : Addr} {o : HO}, (gAdd g ns).G a = some o → (a, o) ∈ ns ∨ g.G a = some o
  | [], _, _, h => .inr h
  | q :: ns, a, o, h => by
    have h : upd (gAdd g ns).G q.1 q.2 a = some o := h
    by_cases e : a = q.1
    · subst e; rw [upd_same] at h; cases h; exact .inl List.mem_cons_self
    · rw [upd_ne e] at h
      rcases gAdd_get h with z | z
      · exact .inl (List.mem_cons_of_mem _ z)
      · exact .inr z
theorem gAdd_out {g : Gh} : ∀ {ns : List (Addr × HO)} {a : Addr}, a ∉ ns.map (·.1) → (gAdd g ns).G a = g.G a
  | [], _, _ => rfl
  | q :: ns, a, h => by
    show upd (gAdd g ns).G q.1 q.2 a = _
    rw [upd_ne (fun e => h (by rw [e]; exact List.mem_cons_self)), gAdd_out fun z => h (List.mem_cons_of_mem _ z)]
theorem gAdd_in {g : Gh} : ∀ {ns : List (Addr × HO)} {q : Addr × HO}, (ns.map (·.1)).Nodup → q ∈ ns → (gAdd g ns).G q.1 = some q.2
  | p :: ns, q, hn, h => by
    show upd (gAdd g ns).G p.1 p.2 q.1 = _
    have hp := List.nodup_cons.mp (show (p.1 :: ns.map (·.1)).Nodup from hn)
    rcases List.mem_cons.mp h with rfl | h
    · exact upd_same
    · rw [upd_ne (fun (e : q.1 = p.1) => hp.1 (by rw [← e]; exact List.mem_map.mpr ⟨q, h, rfl⟩))]
      exact gAdd_in hp.2 h
section
variable {K : PySem.W.Frag} {c : Pc} {g : Gh} {H H' : Hp} {w w' : Wld} {cs ns fr : List (Addr × HO)} {i j : Nat}
theorem gAdd_le (h : ∀ q ∈ fr, g.G q.1 = none) : g.le (gAdd g fr) := by
  refine ⟨fun a o e => ?_, fun i q e => by rw [(gAdd_ms g fr).1]; exact e, fun i q e => by rw [(gAdd_ms g fr).2]; exact e, fun i q e => by rw [(gAdd_os g fr).1]; exact e, (gAdd_os g fr).2⟩
  rw [gAdd_out]
  · exact e
  · intro z
    obtain ⟨q, hq, rfl⟩ := List.mem_map.mp z
    rw [h q hq] at e; cases e
theorem Wr.noG (W : Wr K c g H w) {a : Addr} (h : H a = none) : g.G a = none := by
  cases e : g.G a with
  | none => rfl
  | some o => rw [W.sub a o e] at h; cases h
theorem Wr.go (W : Wr K c g H w) (ch : Chg H H' cs ns) (hcs : ∀ a ∈ cs.map (·.1), a ∈ g.mu) (hal : ∀ q ∈ cs, ∃ o, H' q.1 = some o) (hfr : ∀ q ∈ fr, q ∈ ns) (hl : w'.ms.length = w.ms.length) (hss : w'.ss = w.ss)
    (hm : g.le (gAdd g fr) → ∀ (i : Nat) q m', g.ms[i]? = some q → w'.ms[i]? = some m' → MRep K c (gAdd g fr) H' q m') (hs : ∀ a ∈ g.ss, ∃ o, H' a = some o ∧ SrcO o) (hol : w'.os.length = w.os.length) (ho : g.le (gAdd g fr) → ∀ (i : Nat) a o, g.os[i]? = some a → w'.os[i]? = some o → ORep K c (gAdd g fr) H' a o) (hts : ∀ p ∈ g.ts, p.1 ∉ cs.map (·.1)) : Wr K c (gAdd g fr) H' w' ∧ Aft g H (gAdd g fr) H' := by
  have hnew : ∀ q ∈ fr, H q.1 = none := fun q hq => (ch.new (a := q.1) (o := q.2) (hfr q hq)).1
  have le := gAdd_le (g := g) fun q hq => W.noG (hnew q hq)
  have hG : ∀ a ∈ g.mu, g.G a = none := W.off
  have hout : ∀ a o, H a = some o → a ∉ fr.map (·.1) := fun a o e z => by
    obtain ⟨q, hq, rfl⟩ := List.mem_map.mp z
    rw [hnew q hq] at e; cases e
  have hnd := W.nd
  refine ⟨⟨fun a o e => ?_, by rw [gAdd_mu]; exact W.nd, fun a ha => ?_, by rw [(gAdd_ms g fr).1, hl]; exact W.mlen, fun i q m' h1 h2 => hm le i q m' (by rw [(gAdd_ms g fr).1] at h1; exact h1) h2, fun a ha => hs a (by rw [(gAdd_ms g fr).2] at ha; exact ha), by rw [(gAdd_ms g fr).2, hss]; exact W.nss, by rw [(gAdd_os g fr).1, hol]; exact W.olen, fun i a o h1 h2 => ho le i a o (by rw [(gAdd_os g fr).1] at h1; exact h1) h2, by rw [(gAdd_os g fr).2]; exact tabs_mono W.tabs le.G fun p hp => by obtain ⟨ps, e, _⟩ := W.tabs p hp; rw [e]; exact ch.keep _ _ e (hts p hp), by rw [(gAdd_os g fr).2]; exact W.hts⟩, le, fun a o e n => ?_, fun a o e => gAdd_out (hout a o e), fun a ha => by rw [gAdd_mu] at ha; exact .inl ha, fun a o e => ?_⟩
  · rcases gAdd_get e with z | z
    · exact (ch.new (hfr _ z)).2
    · refine ch.keep a o (W.sub a o z) fun q => ?_
      rw [hG a (hcs a q)] at z; cases z
  · rw [gAdd_mu] at ha
    obtain ⟨o, e⟩ := W.muAt ha
    rw [gAdd_out (hout a o e)]; exact hG a ha
  · exact ch.keep a o e fun q => n (hcs a q)
  · by_cases q : a ∈ cs.map (·.1)
    · obtain ⟨p, hp, rfl⟩ := List.mem_map.mp q
      exact hal p hp
    · exact ⟨o, ch.keep a o e q⟩
theorem Wr.oKeep (W : Wr K c g H w) (ch : Chg H H' cs ns) {g' : Gh} (le : g.le g') {i : Nat} {a : Addr} {o : Obj} (h1 : g.os[i]? = some a) (h2 : w.os[i]? = some o) (hn : a ∉ cs.map (·.1)) : ORep K c g' H' a o := by
  have h := W.objs i a o h1 h2
  obtain ⟨u, e⟩ := W.muAt (mem_mu4 (List.mem_of_getElem? h1))
  exact h.mono le ((ch.keep a u e hn).trans e.symm)
/-- only new things -/
theorem Wr.go0 (W : Wr K c g H w) (ch : Chg H H' [] ns) : Wr K c (gAdd g ns) H' w ∧ Aft g H (gAdd g ns) H' := by
  refine W.go ch (fun a h => nomatch h) (fun q h => nomatch h) (fun q h => h) rfl rfl (fun le i q m' h1 h2 => ?_) (fun a ha => ?_) rfl ?_ ?_
  · have h := W.mach i q m' h1 h2
    obtain ⟨vs, h3, _⟩ := h.wlk
    exact h.mono le (by rw [h.cnt]; exact ch.keep _ _ h.cnt (fun z => nomatch z)) (by rw [h3]; exact ch.keep _ _ h3 (fun z => nomatch z))
  · obtain ⟨o, h1, h2⟩ := W.srcs a ha
    exact ⟨o, ch.keep _ _ h1 (fun z => nomatch z), h2⟩
  · exact fun le i a o h1 h2 => W.oKeep ch le h1 h2 (fun z => nomatch z)
  · exact fun p hp z => nomatch z
theorem Wr.goS (W : Wr K c g H w) (s : Same H H') : Wr K c g H' w ∧ Aft g H g H' := W.go0 (Chg.of_same s)
theorem nd_map {α : Type} {f : α → Addr} : ∀ {l : List α} {i j : Nat} {x y : α}, (l.map f).Nodup → l[i]? = some x → l[j]? = some y → f x = f y → i = j
  | l, i, j, x, y, hn, h1, h2, e => by
    have g1 : (l.map f)[i]? = some (f x) := by rw [List.getElem?_map, h1]; rfl
    have g2 : (l.map f)[j]? = some (f x) := by rw [List.getElem?_map, h2, e]; rfl
    have hi : i < (l.map f).length := (List.getElem?_eq_some_iff.mp g1).1
    exact (List.getElem?_inj hi hn).mp (g1.trans g2.symm)
theorem Wr.dne (W : Wr K c g H w) {q p : Addr × Addr × Addr} (h1 : g.ms[i]? = some q) (h2 : g.ms[j]? = some p) (ne : i ≠ j) : q.2.1 ≠ p.2.1 := fun e => ne (nd_map (f := fun q : Addr × Addr × Addr => q.2.1) (List.nodup_append.mp W.nd).1 h1 h2 e)
theorem Wr.ene (W : Wr K c g H w) {q p : Addr × Addr × Addr} (h1 : g.ms[i]? = some q) (h2 : g.ms[j]? = some p) (ne : i ≠ j) : q.2.2 ≠ p.2.2 := fun e => ne (nd_map (f := fun q : Addr × Addr × Addr => q.2.2) (List.nodup_append.mp (List.nodup_append.mp W.nd).2.1).1 h1 h2 e)
theorem Wr.de (W : Wr K c g H w) {q p : Addr × Addr × Addr} (h1 : g.ms[i]? = some q) (h2 : g.ms[j]? = some p) : q.2.1 ≠ p.2.2 := fun e => (List.nodup_append.mp W.nd).2.2 q.2.1 (List.mem_map.mpr ⟨q, List.mem_of_getElem? h1, rfl⟩) p.2.2 (List.mem_append_left _ (List.mem_map.mpr ⟨p, List.mem_of_getElem? h2, rfl⟩)) e
theorem Wr.ds (W : Wr K c g H w) {q : Addr × Addr × Addr} {a : Addr} (h1 : g.ms[i]? = some q) (h2 : a ∈ g.ss) : q.2.1 ≠ a := fun e => (List.nodup_append.mp W.nd).2.2 q.2.1 (List.mem_map.mpr ⟨q, List.mem_of_getElem? h1, rfl⟩) a (List.mem_append_right _ (List.mem_append_left _ h2)) e
theorem Wr.es (W : Wr K c g H w) {q : Addr × Addr × Addr} {a : Addr} (h1 : g.ms[i]? = some q) (h2 : a ∈ g.ss) : q.2.2 ≠ a := fun e => (List.nodup_append.mp (List.nodup_append.mp W.nd).2.1).2.2 q.2.2 (List.mem_map.mpr ⟨q, List.mem_of_getElem? h1, rfl⟩) a (List.mem_append_left _ h2) e
theorem Wr.dot (W : Wr K c g H w) {q : Addr × Addr × Addr} {a : Addr} (h1 : g.ms[i]? = some q) (h2 : a ∈ g.ot) : q.2.1 ≠ a := fun e => (List.nodup_append.mp W.nd).2.2 q.2.1 (List.mem_map.mpr ⟨q, List.mem_of_getElem? h1, rfl⟩) a (List.mem_append_right _ (List.mem_append_right _ h2)) e
theorem Wr.eot (W : Wr K c g H w) {q : Addr × Addr × Addr} {a : Addr} (h1 : g.ms[i]? = some q) (h2 : a ∈ g.ot) : q.2.2 ≠ a := fun e => (List.nodup_append.mp (List.nodup_append.mp W.nd).2.1).2.2 q.2.2 (List.mem_map.mpr ⟨q, List.mem_of_getElem? h1, rfl⟩) a (List.mem_append_right _ h2) e
theorem Wr.sot (W : Wr K c g H w) {b a : Addr} (h1 : b ∈ g.ss) (h2 : a ∈ g.ot) : b ≠ a := fun e => (List.nodup_append.mp (List.nodup_append.mp (List.nodup_append.mp W.nd).2.1).2.1).2.2 b h1 a h2 e
theorem mem_ot1 {a : Addr} (h : a ∈ g.os) : a ∈ g.ot := List.mem_append_left _ h
theorem mem_ot2 {p : Addr × Str} (h : p ∈ g.ts) : p.1 ∈ g.ot := List.mem_append_right _ (List.mem_map.mpr ⟨p, h, rfl⟩)
/-- machine i is now m -/
def Wld.put (w : Wld) (i : Nat) (m : Mach) : Wld := ⟨w.ms.set i m, w.ss, w.os⟩
/-- what is changed lies at machine i -/
theorem Wr.goM (W : Wr K c g H w) {q : Addr × Addr × Addr} {m : Mach} (hi : g.ms[i]? = some q) (ch : Chg H H' cs ns) (hcs : ∀ a ∈ cs.map (·.1), a = q.2.1 ∨ a = q.2.2) (hal : ∀ q ∈ cs, ∃ o, H' q.1 = some o) (hfr : ∀ q ∈ fr, q ∈ ns) (hm : g.le (gAdd g fr) → MRep K c (gAdd g fr) H' q m) : Wr K c (gAdd g fr) H' (w.put i m) ∧ Aft g H (gAdd g fr) H' := by
  refine W.go ch (fun a ha => ?_) hal hfr (by show (w.ms.set i m).length = _; rw [List.length_set]) rfl (fun le j p m' h1 h2 => ?_) (fun a ha => ?_) rfl (fun le j a o h1 h2 => W.oKeep ch le h1 h2 fun z => ?_) fun p hp z => ?_
  · rcases hcs a ha with rfl | rfl
    · exact mem_mu1 hi
    · exact mem_mu2 hi
  · rcases set_get (show (w.ms.set i m)[j]? = some m' from h2) with ⟨rfl, rfl⟩ | ⟨ne, h2'⟩
    · rw [hi] at h1; cases h1; exact hm le
    · have h := W.mach j p m' h1 h2'
      obtain ⟨vs, h3, _⟩ := h.wlk
      refine h.mono le ?_ ?_
      · rw [h.cnt]
        refine ch.keep _ _ h.cnt fun z => ?_
        rcases hcs _ z with e | e
        · exact W.dne h1 hi ne e
        · exact W.de h1 hi e
      · rw [h3]
        refine ch.keep _ _ h3 fun z => ?_
        rcases hcs _ z with e | e
        · exact W.de hi h1 e.symm
        · exact W.ene h1 hi ne e
  · obtain ⟨o, h1, h2⟩ := W.srcs a ha
    refine ⟨o, ch.keep _ _ h1 fun z => ?_, h2⟩
    rcases hcs _ z with e | e
    · exact W.ds hi ha e.symm
    · exact W.es hi ha e.symm
  · rcases hcs _ z with e | e
    · exact W.dot hi (mem_ot1 (List.mem_of_getElem? h1)) e.symm
    · exact W.eot hi (mem_ot1 (List.mem_of_getElem? h1)) e.symm
  · rcases hcs _ z with e | e
    · exact W.dot hi (mem_ot2 hp) e.symm
    · exact W.eot hi (mem_ot2 hp) e.symm
/-- a further machine -/
theorem Wr.addM (W : Wr K c g H w) {x dx d e : Addr} {b : Nat} {cut : Int} (hx : g.G x = some (.ins c.CMachine dx (mF b cut d e))) (hd : H d = some (.dK (cK zeros))) (he : H e = some (.lst [])) (nd : d ∉ g.mu) (ne : e ∉ g.mu) (gd : g.G d = none) (ge : g.G e = none) : Wr K c ⟨g.G, g.ms ++ [(x, d, e)], g.ss, g.os, g.ts⟩ H ⟨w.ms ++ [⟨b, cut, zeros, []⟩], w.ss, w.os⟩ := by
  have de : d ≠ e := fun z => by rw [z, he] at hd; cases hd
  have le : g.le ⟨g.G, g.ms ++ [(x, d, e)], g.ss, g.os, g.ts⟩ := ⟨fun _ _ h => h, fun i q h => by
    show (g.ms ++ [(x, d, e)])[i]? = some q
    rw [List.getElem?_append_left (List.getElem?_eq_some_iff.mp h).1]; exact h, fun _ _ h => h, fun _ _ h => h, rfl⟩
  have hmu : (⟨g.G, g.ms ++ [(x, d, e)], g.ss, g.os, g.ts⟩ : Gh).mu.Perm (d :: e :: g.mu) := by
    unfold Gh.mu
    simp only [List.map_append, List.map_cons, List.map_nil, List.append_assoc, List.cons_append, List.nil_append]
    refine List.perm_middle.trans (List.Perm.cons _ ?_)
    rw [← List.append_assoc]
    refine List.perm_middle.trans (List.Perm.cons _ ?_)
    rw [List.append_assoc]
    exact List.Perm.refl _
  refine ⟨W.sub, hmu.nodup_iff.mpr (List.nodup_cons.mpr ⟨fun z => ?_, List.nodup_cons.mpr ⟨ne, W.nd⟩⟩), fun a ha => ?_, by show (g.ms ++ [(x, d, e)]).length = (w.ms ++ [_]).length; simp only [List.length_append, W.mlen]; rfl, fun i q m h1 h2 => ?_, W.srcs, W.nss, W.olen, fun i a o h1 h2 => (W.objs i a o h1 h2).mono le rfl, W.tabs, W.hts⟩
  · rcases List.mem_cons.mp z with z | z
    · exact de z
    · exact nd z
  · rcases List.mem_cons.mp (hmu.mem_iff.mp ha) with rfl | z
    · exact gd
    · rcases List.mem_cons.mp z with rfl | z
      · exact ge
      · exact W.off a z
  · by_cases hi : i < g.ms.length
    · have h1 : (g.ms ++ [(x, d, e)])[i]? = some q := h1
      have h2 : (w.ms ++ [_])[i]? = some m := h2
      rw [List.getElem?_append_left hi] at h1
      rw [List.getElem?_append_left (by rw [← W.mlen]; exact hi)] at h2
      exact (W.mach i q m h1 h2).mono le rfl rfl
    · have h1 : (g.ms ++ [(x, d, e)])[i]? = some q := h1
      have h2 : (w.ms ++ [_])[i]? = some m := h2
      have hlt := (List.getElem?_eq_some_iff.mp h1).1
      simp only [List.length_append, List.length_cons, List.length_nil] at hlt
      have hi' : i = g.ms.length := by omega
      subst hi'
      rw [List.getElem?_concat_length] at h1
      rw [W.mlen, List.getElem?_concat_length] at h2
      cases h1; cases h2
      exact ⟨⟨dx, hx⟩, hd, rfl, ⟨[], he, .nil⟩, Nat.zero_le _⟩
end
end Pu
namespace Pu
open PySem L2 Eng
def Mach.cnt (m : Mach) (j : Nat) (v : Int) : Mach := { m with ns := m.ns.modify j (· + v) }
def Mach.ent (m : Mach) (s : Str) (a b : Int) : Mach := { m with walk := if m.walk.length < 1000 then m.walk ++ [(s, a, b)] else m.walk }
def Mach.rst (m : Mach) : Mach := { m with ns := zeros, walk := [] }
def P_D : PSp := fun ds w k => match ds with
  | [.mach i, .str s, .int v] => onM w i fun m => ∃ j, words[j]? = some s ∧ k .non (w.put i (m.cnt j v))
  | _ => False
def P_M : PSp := fun ds w k => match ds with
  | [.mach i] => onM w i fun m => k .non (w.put i m.rst)
  | _ => False
def P_A9 : PSp := fun ds w k => match ds with
  | [.mach i] => onM w i fun m => k (.tup [.int (m.b : Int), .int m.cut]) w
  | _ => False
def P_N : PSp := fun ds w k => match ds with
  | [.mach i] => onM w i fun m => k (.lst (m.walk.map dW)) w
  | _ => False
def dRows (ns : List Int) : List Dat := List.zipWith (fun (s : Str) n => Dat.tup [.str s, .int n]) words ns
def P_J : PSp := fun ds w k => match ds with
  | [.mach i] => onM w i fun m => k (.lst (dRows m.ns)) w
  | _ => False
def P_L : PSp := fun ds w k => match ds with
  | [.mach i] => onM w i fun _ => k .non w
  | _ => False
section
variable {K : PySem.W.Frag} {c : Pc}
theorem modify_set {ns : List Int} {j : Nat} {v : Int} (h : j < ns.length) : ns.set j (ns[j] + v) = ns.modify j (· + v) := by
  apply List.ext_getElem?
  intro i
  rw [List.getElem?_modify, List.getElem?_set]
  by_cases e : j = i
  · subst e; simp [h]
  · simp [e]
theorem one_arg {g : Gh} {vs : List V} {d : Dat} (r : Reps K c g vs [d]) : ∃ v, vs = [v] ∧ Rep K c g v d := by
  cases r with
  | cons r t => cases t; exact ⟨_, rfl, r⟩
theorem two_arg {g : Gh} {vs : List V} {d e : Dat} (r : Reps K c g vs [d, e]) : ∃ v v', vs = [v, v'] ∧ Rep K c g v d ∧ Rep K c g v' e := by
  cases r with
  | cons r t =>
    obtain ⟨v, rfl, h⟩ := one_arg t
    exact ⟨_, _, rfl, r, h⟩
theorem three_arg {g : Gh} {vs : List V} {d e f : Dat} (r : Reps K c g vs [d, e, f]) : ∃ v v' v'', vs = [v, v', v''] ∧ Rep K c g v d ∧ Rep K c g v' e ∧ Rep K c g v'' f := by
  cases r with
  | cons r t =>
    obtain ⟨v, v', rfl, h, h'⟩ := two_arg t
    exact ⟨_, _, _, rfl, r, h, h'⟩
theorem u_D : SndP K c (sp_D K c) P_D := by
  intro g H w vs ds k Q E W r h hQ
  unfold P_D at h
  split at h
  · rename_i i s v
    obtain ⟨m, hm, j, hj, h⟩ := onM_of h
    obtain ⟨a, b, d, rfl, r1, r2, r3⟩ := three_arg r
    obtain ⟨q, m', dx, hq, hm', rfl, hi, M⟩ := W.ins r1
    rw [hm] at hm'; cases hm'
    have hlt : j < m.ns.length := by rw [M.ten]; exact (List.getElem?_eq_some_iff.mp hj).1
    refine ⟨q.1, dx, m.b, m.cut, q.2.1, q.2.2, m.ns, s, j, m.ns[j]'hlt, v, by rw [r2.strI, r3.intI], hi, M.cnt, M.ten, hj, List.getElem?_eq_getElem hlt, fun H' ch => ?_⟩
    have e : m.ns.set j (m.ns[j]'hlt + v) = m.ns.modify j (· + v) := modify_set hlt
    rw [e] at ch
    obtain ⟨vs, hw1, hw2⟩ := M.wlk
    obtain ⟨W', A⟩ := W.goM (fr := []) (m := m.cnt j v) hq ch (fun a ha => .inl (List.mem_singleton.mp ha)) (fun q hq => by rw [List.mem_singleton.mp hq]; exact ⟨_, ch.chg List.mem_cons_self⟩) (fun _ z => nomatch z) fun _ => ⟨M.ins, ch.chg List.mem_cons_self, by show (m.ns.modify j _).length = 10; rw [List.length_modify]; exact M.ten, ⟨vs, ch.keep _ _ hw1 fun z => W.de hq hq (List.mem_singleton.mp z).symm, hw2⟩, M.few⟩
    exact hQ .non .non g H' _ A W' .non h
  · exact h.elim
theorem u_M : SndP K c (sp_M K c) P_M := by
  intro g H w vs ds k Q E W r h hQ
  unfold P_M at h
  split at h
  · rename_i i
    obtain ⟨m, hm, h⟩ := onM_of h
    obtain ⟨a, rfl, r1⟩ := one_arg r
    obtain ⟨q, m', dx, hq, hm', rfl, hi, M⟩ := W.ins r1
    rw [hm] at hm'; cases hm'
    obtain ⟨vs, hw1, hw2⟩ := M.wlk
    refine ⟨q.1, dx, m.b, m.cut, q.2.1, q.2.2, m.ns, vs, rfl, hi, M.cnt, M.ten, hw1, fun H' ch => ?_⟩
    obtain ⟨W', A⟩ := W.goM (fr := []) (m := m.rst) hq ch (fun a ha => by
      simp only [List.map_cons, List.map_nil, List.mem_cons, List.not_mem_nil, or_false] at ha
      exact ha) (fun q hq => ⟨q.2, ch.chg hq⟩) (fun _ z => nomatch z) fun _ => ⟨M.ins, ch.chg List.mem_cons_self, rfl, ⟨[], ch.chg (List.mem_cons_of_mem _ List.mem_cons_self), .nil⟩, Nat.zero_le _⟩
    exact hQ .non .non g H' _ A W' .non h
  · exact h.elim
theorem u_N : SndP K c (sp_N K c) P_N := by
  intro g H w vs ds k Q E W r h hQ
  unfold P_N at h
  split at h
  · rename_i i
    obtain ⟨m, hm, h⟩ := onM_of h
    obtain ⟨a, rfl, r1⟩ := one_arg r
    obtain ⟨q, m', dx, hq, hm', rfl, hi, M⟩ := W.ins r1
    rw [hm] at hm'; cases hm'
    obtain ⟨vs, hw1, hw2⟩ := M.wlk
    refine ⟨q.1, dx, m.b, m.cut, q.2.1, q.2.2, vs, rfl, hi, hw1, fun p H' ch => ?_⟩
    obtain ⟨W', A⟩ := W.go0 ch
    exact hQ _ _ _ H' w A W' (.lst (gAdd_in (q := (p, _)) ch.nd List.mem_cons_self) (hw2.mono A.le)) h
  · exact h.elim
theorem reps_rows {g : Gh} : ∀ {ws : List Str} {ns : List Int} {ps : List Addr} {n : Nat}, ws.length = n → ns.length = n → ps.length = n → (∀ (i : Nat) p t, ps[i]? = some p → (List.zipWith (fun (w : Str) n => [V.str w, V.int n]) ws ns)[i]? = some t → g.G p = some (.tup t)) → Reps K c g (ps.map V.ref) (List.zipWith (fun (s : Str) n => Dat.tup [.str s, .int n]) ws ns)
  | [], [], [], _, _, _, _, _ => .nil
  | s :: ws, m :: ns, p :: ps, n + 1, h1, h2, h3, h => .cons (.tup (h 0 p _ rfl rfl) (.cons (.str _) (.cons (.int _) .nil))) (reps_rows (n := n) (by simpa using h1) (by simpa using h2) (by simpa using h3) fun i q t e1 e2 => h (i + 1) q t e1 e2)
  | [], _ :: _, _, 0, _, h, _, _ => by simp at h
  | [], [], _ :: _, 0, _, _, h, _ => by simp at h
  | _ :: _, _, _, 0, h, _, _, _ => by simp at h
  | [], _, _, _ + 1, h, _, _, _ => by simp at h
  | _ :: _, [], _, _ + 1, _, h, _, _ => by simp at h
  | _ :: _, _ :: _, [], _ + 1, _, _, h, _ => by simp at h
theorem u_J : SndP K c (sp_J K c) P_J := by
  intro g H w vs ds k Q E W r h hQ
  unfold P_J at h
  split at h
  · rename_i i
    obtain ⟨m, hm, h⟩ := onM_of h
    obtain ⟨a, rfl, r1⟩ := one_arg r
    obtain ⟨q, m', dx, hq, hm', rfl, hi, M⟩ := W.ins r1
    rw [hm] at hm'; cases hm'
    refine ⟨q.1, dx, m.b, m.cut, q.2.1, q.2.2, m.ns, rfl, hi, M.cnt, M.ten, fun p ps H' hl ch => ?_⟩
    obtain ⟨W', A⟩ := W.go0 ch
    refine hQ _ _ _ H' w A W' (.lst (gAdd_in (q := (p, _)) ch.nd List.mem_cons_self) ?_) h
    refine reps_rows (n := 10) rfl M.ten hl fun i p' t e1 e2 => ?_
    exact gAdd_in (q := (p', HO.tup t)) ch.nd (List.mem_cons_of_mem _ (tl2_mem e1 e2))
  · exact h.elim
theorem u_L : SndP K c (sp_L K c) P_L := by
  intro g H w vs ds k Q E W r h hQ
  unfold P_L at h
  split at h
  · rename_i i
    obtain ⟨m, hm, h⟩ := onM_of h
    obtain ⟨a, rfl, r1⟩ := one_arg r
    obtain ⟨q, m', dx, hq, hm', rfl, hi, M⟩ := W.ins r1
    exact ⟨q.1, dx, _, rfl, hi, hQ _ _ g H w (Aft.refl _ _) W .non h⟩
  · exact h.elim
variable {ta : TE} {pa : PE} {tr : TA} {pr : PA} {E : XK}
theorem snd_widthM (PM : PM K c) (ha : SndE K c ta pa) : SndE K c (tFld K ta "width") (pWidthM pa) := by
  intro X F σ s k Q I h hQ
  refine ha X F σ s _ _ I h fun x dx s1 l1 I1 r1 h' => ?_
  cases dx with
  | mach i =>
    obtain ⟨m, hm, h'⟩ := onM_of h'
    obtain ⟨q, m', dx, hq, hm', rfl, hi, M⟩ := I1.wr.ins r1
    rw [hm] at hm'; cases hm'
    exact rd_Mwidth PM hi (hQ _ _ s1 l1 I1 (.int _) h')
  | _ => exact h'.elim
theorem snd_base (PM : PM K c) (ha : SndE K c ta pa) : SndE K c (tFld K ta "base") (pBase pa) := by
  intro X F σ s k Q I h hQ
  refine ha X F σ s _ _ I h fun x dx s1 l1 I1 r1 h' => ?_
  cases dx with
  | mach i =>
    obtain ⟨m, hm, h'⟩ := onM_of h'
    obtain ⟨q, m', dx, hq, hm', rfl, hi, M⟩ := I1.wr.ins r1
    rw [hm] at hm'; cases hm'
    exact rd_Mbase PM hi (hQ _ _ s1 l1 I1 (.int _) h')
  | _ => exact h'.elim
def P_Machine : PSp := fun ds w k => match ds with
  | [.int b, .int cut] => (8 ≤ b ∧ b ≤ 30 ∧ 2 ≤ cut ∧ cut ≤ 1000) ∧ k (.mach w.ms.length) ⟨w.ms ++ [⟨b.toNat, cut, zeros, []⟩], w.ss, w.os⟩
  | _ => False
theorem snd_mkM {dv : List V} {dd : List Dat} (hd : ∀ g : Gh, Reps K c g dv dd) (hr : SndA K c tr pr) : SndE K c (tMake c.CMachine (sp_A K c) dv E tr) (pCallD P_Machine dd pr) := by
  intro X F σ s k Q I h hQ
  refine hr X F σ s _ _ I h fun vs ds s1 l1 I1 r1 h1 => ?_
  intro x dx nx ndx nex
  have r2 := r1.app (hd s1.g)
  generalize hvs : vs ++ dv = us at r2
  generalize hds : ds ++ dd = es at r2 h1
  unfold P_Machine at h1
  split at h1
  · rename_i b cut
    obtain ⟨⟨b1, b2, c1, c2⟩, h1⟩ := h1
    obtain ⟨v, v', rfl, e1, e2⟩ := two_arg r2
    obtain ⟨b', rfl⟩ : ∃ b' : Nat, b = (b' : Int) := ⟨b.toNat, by omega⟩
    refine ⟨x, dx, b', cut, by rw [e1.intI, e2.intI], by omega, by omega, c1, c2, upd_same, fun d e H' ch => ⟨rfl, ?_⟩⟩
    have W := I1.wr
    have hnx : dx ≠ x := nex
    -- what is new: the object, its counts, its walk
    have hx' : H' x = some (.ins c.CMachine dx (mF b' cut d e)) := ch.chg List.mem_cons_self
    have hd0 := ch.new (a := d) (o := .dK (cK zeros)) List.mem_cons_self
    have he0 := ch.new (a := e) (o := .lst []) (List.mem_cons_of_mem _ List.mem_cons_self)
    have hdx : d ≠ x := fun z => by rw [z, upd_same] at hd0; cases hd0.1
    have hex : e ≠ x := fun z => by rw [z, upd_same] at he0; cases he0.1
    have hddx : d ≠ dx := fun z => by rw [z, upd_ne hnx, upd_same] at hd0; cases hd0.1
    have hedx : e ≠ dx := fun z => by rw [z, upd_ne hnx, upd_same] at he0; cases he0.1
    have hd1 : s1.H d = none := by have := hd0.1; rwa [upd_ne hdx, upd_ne hddx] at this
    have he1 : s1.H e = none := by have := he0.1; rwa [upd_ne hex, upd_ne hedx] at this
    have kp : ∀ a o, s1.H a = some o → H' a = some o := fun a o z => by
      have n1 : a ≠ x := fun y => by rw [y, nx] at z; cases z
      have n2 : a ≠ dx := fun y => by rw [y, ndx] at z; cases z
      refine ch.keep a o (by rw [upd_ne n1, upd_ne n2]; exact z) fun y => n1 (List.mem_singleton.mp y)
    have ch' : Chg s1.H H' [] [(x, .ins c.CMachine dx (mF b' cut d e))] := ⟨(fun z => nomatch z), fun z => by cases List.mem_singleton.mp z; exact ⟨nx, hx'⟩, by simp, fun a o z _ => kp a o z⟩
    obtain ⟨W1, A1⟩ := W.go0 ch'
    have hgx : (gAdd s1.g [(x, HO.ins c.CMachine dx (mF b' cut d e))]).G x = some (.ins c.CMachine dx (mF b' cut d e)) := gAdd_in (q := (x, _)) ch'.nd List.mem_cons_self
    have hmu : (gAdd s1.g [(x, HO.ins c.CMachine dx (mF b' cut d e))]).mu = s1.g.mu := gAdd_mu _ _
    have W2 := W1.addM hgx hd0.2 he0.2 (by rw [hmu]; exact fun z => by obtain ⟨o, e⟩ := W.muAt z; rw [hd1] at e; cases e) (by rw [hmu]; exact fun z => by obtain ⟨o, e⟩ := W.muAt z; rw [he1] at e; cases e) (by
      rw [gAdd_out (by simp only [List.map_cons, List.map_nil, List.mem_singleton]; exact hdx)]; exact W.noG hd1) (by
      rw [gAdd_out (by simp only [List.map_cons, List.map_nil, List.mem_singleton]; exact hex)]; exact W.noG he1)
    have le2 : (gAdd s1.g [(x, HO.ins c.CMachine dx (mF b' cut d e))]).le ⟨(gAdd s1.g [(x, HO.ins c.CMachine dx (mF b' cut d e))]).G, (gAdd s1.g [(x, HO.ins c.CMachine dx (mF b' cut d e))]).ms ++ [(x, d, e)], (gAdd s1.g [(x, HO.ins c.CMachine dx (mF b' cut d e))]).ss, (gAdd s1.g [(x, HO.ins c.CMachine dx (mF b' cut d e))]).os, (gAdd s1.g [(x, HO.ins c.CMachine dx (mF b' cut d e))]).ts⟩ := ⟨fun _ _ h => h, fun i q h => by
      show (_ ++ [(x, d, e)])[i]? = some q
      rw [List.getElem?_append_left (List.getElem?_eq_some_iff.mp h).1]; exact h, fun _ _ h => h, fun _ _ h => h, rfl⟩
    have A2 : Aft s1.g s1.H ⟨(gAdd s1.g [(x, HO.ins c.CMachine dx (mF b' cut d e))]).G, (gAdd s1.g [(x, HO.ins c.CMachine dx (mF b' cut d e))]).ms ++ [(x, d, e)], (gAdd s1.g [(x, HO.ins c.CMachine dx (mF b' cut d e))]).ss, (gAdd s1.g [(x, HO.ins c.CMachine dx (mF b' cut d e))]).os, (gAdd s1.g [(x, HO.ins c.CMachine dx (mF b' cut d e))]).ts⟩ H' := by
      refine ⟨A1.le.trans le2, A1.keep, A1.frz, fun a ha => ?_, A1.dom⟩
      unfold Gh.mu at ha
      simp only [List.map_append, List.map_cons, List.map_nil, List.mem_append, List.mem_singleton] at ha
      have hin : a ∈ (gAdd s1.g [(x, HO.ins c.CMachine dx (mF b' cut d e))]).mu ∨ a = d ∨ a = e := by
        unfold Gh.mu
        simp only [List.mem_append]
        rcases ha with (z | z) | (z | z) | z
        · exact .inl (.inl z)
        · exact .inr (.inl z)
        · exact .inl (.inr (.inl z))
        · exact .inr (.inr z)
        · exact .inl (.inr (.inr z))
      rcases hin with z | rfl | rfl
      · exact A1.new a z
      · exact .inr hd1
      · exact .inr he1
    have hlen : (gAdd s1.g [(x, HO.ins c.CMachine dx (mF b' cut d e))]).ms.length = s1.w.ms.length := W1.mlen
    refine hQ (.ref x) (.mach s1.w.ms.length) ⟨_, H', s1.e, _, s1.os⟩ (l1.trans A2.le) (I1.call A2 W2) ?_ (by
      have e3 : ((b' : Int)).toNat = b' := by omega
      rw [e3] at h1; exact h1)
    exact Rep.mach (q := (x, d, e)) (by
      show ((gAdd s1.g [(x, HO.ins c.CMachine dx (mF b' cut d e))]).ms ++ [(x, d, e)])[s1.w.ms.length]? = _
      rw [← hlen, List.getElem?_concat_length])
  · exact h1.elim
end
end Pu
namespace Pu
open PySem L2 Eng
def P_E : PSp := fun ds w k => match ds with
  | [.mach i, .int s, .lst l] => onM w i fun m => ∃ es : List Nat, l = dN es ∧ m.b ≠ 0 ∧ Digs m.b es ∧ es.length < 2 ^ 23 ∧ sgnOk s (val m.b es) ∧ k (.big m.b (s * (val m.b es : Nat))) w
  | _ => False
def P_V : PSp := fun ds w k => match ds with
  | [.mach i, .int n] => onM w i fun m => m.b ≠ 0 ∧ (digs m.b n.natAbs).length < 2 ^ 23 ∧ k (.big m.b n) w
  | _ => False
def P_R : PSp := fun ds w k => match ds with
  | [.big b n] => bigL b n ∧ k (.int n) w
  | _ => False
def P_Y : PSp := fun ds w k => match ds with
  | [.big _ _] => k .non w
  | _ => False
def P_check_big : PSp := fun ds w k => match ds with
  | [.mach i, .str _, .big b _] => onM w i fun m => m.b = b ∧ k .non w
  | _ => False
def P_check_bigs : PSp := fun ds w k => match ds with
  | [.mach i, .big b _, .big b' _] => onM w i fun m => m.b = b ∧ m.b = b' ∧ k .non w
  | _ => False
def P_is_compact : PSp := fun ds w k => match ds with
  | [.big b n] => k (.bl (decide ((digs b n.natAbs).length ≤ 1))) w
  | _ => False
def P_O : PSp := fun ds w k => match ds with
  | [.big _ n] => k (.int (sgn n)) w
  | _ => False
def P_P : PSp := fun ds w k => match ds with
  | [.big b _] => k (.int (b : Int)) w
  | _ => False
def P_Q : PSp := fun ds w k => match ds with
  | [.big b n] => k (.lst (dN (digs b n.natAbs))) w
  | _ => False
def P_bit_length : PSp := fun ds w k => match ds with
  | [.big b n] => bigL b n ∧ k (.int (Builtin.Int.intBits n : Nat)) w
  | _ => False
def P_is_digits : PSp := fun ds w k => match ds with
  | [.mach i, .lst l] => onM w i fun m => ∃ es : List Nat, l = dN es ∧ Digs m.b es ∧ es.length < 2 ^ 23 ∧ k (.bl true) w
  | _ => False
section
variable {K : PySem.W.Frag} {c : Pc} {tr : TA} {pr : PA} {E : XK} {ta : TE} {pa : PE}
theorem Wr.bigAt {g : Gh} {H : Hp} {w : Wld} (W : Wr K c g H w) {v : V} {b : Nat} {n : Int} (h : Rep K c g v (.big b n)) : ∃ a, v = .ref a ∧ BigAt c H a b n := by
  cases h with
  | big h => exact ⟨_, rfl, bigAt_mono W.sub h⟩
theorem Wr.lstAt {g : Gh} {H : Hp} {w : Wld} (W : Wr K c g H w) {v : V} {l : List Dat} (h : Rep K c g v (.lst l)) : ∃ a vs, v = .ref a ∧ H a = some (.lst vs) ∧ Reps K c g vs l := by
  cases h with
  | lst h r => exact ⟨_, _, rfl, W.sub _ _ h, r⟩
theorem newBig_rep {g : Gh} {H H' : Hp} {x dx r : Addr} {b : Nat} {n : Int} {s : Int} {ds : List Nat} (ch : Chg H H' [] [(x, .ins c.CBig dx (bF b s r)), (r, .tup (iN ds))]) (hs : s = sgn n) (hd : ds = digs b n.natAbs) : Rep K c (gAdd g [(x, HO.ins c.CBig dx (bF b s r)), (r, .tup (iN ds))]) (.ref x) (.big b n) := by
  subst hs; subst hd
  exact .big ⟨dx, r, gAdd_in (q := (x, _)) ch.nd List.mem_cons_self, gAdd_in (q := (r, _)) ch.nd (List.mem_cons_of_mem _ List.mem_cons_self)⟩
theorem sgn_mul {s : Int} {v : Nat} {ds : List Nat} {b : Nat} (hb : b ≠ 0) (hd : Digs b ds) (hs : sgnOk s (val b ds)) : (if strip ds = [] then 0 else s) = sgn (s * (val b ds : Nat)) ∧ strip ds = digs b (s * (val b ds : Nat)).natAbs := by
  have e3 : (s * (val b ds : Nat)).natAbs = val b ds := by
    rcases hs with rfl | rfl | ⟨rfl, z⟩ <;> omega
  have e4 : digs b (val b ds) = strip ds := by rw [← val_strip b ds, digs_val hb (fun d z => hd d (strip_mem z)) (strip_norm ds)]
  refine ⟨?_, by rw [e3, e4]⟩
  by_cases h0 : strip ds = []
  · rw [if_pos h0]
    have : val b ds = 0 := by rw [← val_strip, h0]; rfl
    rw [this]; simp [sgn]
  · rw [if_neg h0]
    have hv : val b ds ≠ 0 := fun z => h0 (by rw [← e4, z]; unfold digs; simp)
    unfold sgn
    rcases hs with rfl | rfl | ⟨rfl, z⟩
    · rw [if_neg (by omega), if_neg (by omega)]
    · rw [if_pos (by omega)]
    · exact absurd z hv
theorem u_E : SndP K c (sp_E K c) P_E := by
  intro g H w vs ds k Q E W r h hQ
  unfold P_E at h
  split at h
  · rename_i i s l
    obtain ⟨m, hm, es, rfl, hb, hd, hl, hs, h⟩ := onM_of h
    obtain ⟨a, b, d, rfl, r1, r2, r3⟩ := three_arg r
    obtain ⟨q, m', dx, hq, hm', rfl, hi, M⟩ := W.ins r1
    rw [hm] at hm'; cases hm'
    obtain ⟨a, ws, rfl, hH, hR⟩ := W.lstAt r3
    have := reps_iN hR
    subst this
    refine ⟨q.1, dx, m.b, m.cut, q.2.1, q.2.2, s, a, es, by rw [r2.intI], hi, hH, hl, fun x dx' r H' ch => ?_⟩
    obtain ⟨W', A⟩ := W.go0 ch
    obtain ⟨e1, e2⟩ := sgn_mul (v := 0) hb hd hs
    exact hQ _ _ _ H' w A W' (newBig_rep ch e1 e2) h
  · exact h.elim
theorem u_V : SndP K c (sp_V K c) P_V := by
  intro g H w vs ds k Q E W r h hQ
  unfold P_V at h
  split at h
  · rename_i i n
    obtain ⟨m, hm, hb, hl, h⟩ := onM_of h
    obtain ⟨a, b, rfl, r1, r2⟩ := two_arg r
    obtain ⟨q, m', dx, hq, hm', rfl, hi, M⟩ := W.ins r1
    rw [hm] at hm'; cases hm'
    refine ⟨q.1, dx, m.b, m.cut, q.2.1, q.2.2, n, by rw [r2.intI], hi, hb, hl, fun x dx' r H' ch => ?_⟩
    obtain ⟨W', A⟩ := W.go0 ch
    exact hQ _ _ _ H' w A W' (newBig_rep ch rfl rfl) h
  · exact h.elim
def P_big : PSp := P_V
theorem u_big : SndP K c (sp_big K c) P_big := u_V
theorem u_R : SndP K c (sp_R K c) P_R := by
  intro g H w vs ds k Q E W r h hQ
  unfold P_R at h
  split at h
  · rename_i b n
    obtain ⟨v, rfl, r1⟩ := one_arg r
    obtain ⟨a, rfl, hB⟩ := W.bigAt r1
    exact ⟨a, b, n, rfl, hB, h.1, fun H' s => hQ _ _ g H' w (W.goS s).2 (W.goS s).1 (.int _) h.2⟩
  · exact h.elim
def P_T : PSp := P_R
theorem u_T : SndP K c (sp_T K c) P_T := u_R
theorem u_O : SndP K c (sp_O K c) P_O := by
  intro g H w vs ds k Q E W r h hQ
  unfold P_O at h
  split at h
  · rename_i b n
    obtain ⟨v, rfl, r1⟩ := one_arg r
    obtain ⟨a, rfl, hB⟩ := W.bigAt r1
    exact ⟨a, b, n, rfl, hB, hQ _ _ g H w (Aft.refl _ _) W (.int _) h⟩
  · exact h.elim
theorem u_P : SndP K c (sp_P K c) P_P := by
  intro g H w vs ds k Q E W r h hQ
  unfold P_P at h
  split at h
  · rename_i b n
    obtain ⟨v, rfl, r1⟩ := one_arg r
    obtain ⟨a, rfl, hB⟩ := W.bigAt r1
    exact ⟨a, b, n, rfl, hB, hQ _ _ g H w (Aft.refl _ _) W (.int _) h⟩
  · exact h.elim
theorem u_Q : SndP K c (sp_Q K c) P_Q := by
  intro g H w vs ds k Q E W r h hQ
  unfold P_Q at h
  split at h
  · rename_i b n
    obtain ⟨v, rfl, r1⟩ := one_arg r
    obtain ⟨a, rfl, hB⟩ := W.bigAt r1
    refine ⟨a, b, n, rfl, hB, fun p H' ch => ?_⟩
    obtain ⟨W', A⟩ := W.go0 ch
    exact hQ _ _ _ H' w A W' (.lst (gAdd_in (q := (p, _)) ch.nd List.mem_cons_self) (reps_dN _)) h
  · exact h.elim
def P_Big : PSp := fun ds w k => match ds with
  | [.int b, .int s, .tup row] => ∃ (b' : Nat) (n : Int), b = (b' : Int) ∧ s = sgn n ∧ row = dN (digs b' n.natAbs) ∧ k (.big b' n) w
  | _ => False
def qEqB : Q2
  | .big b n, .big b' n', k => (b ≠ 0 ∧ b' ≠ 0) ∧ k (.bl (decide (b = b' ∧ n = n')))
  | _, _, _ => False
def qNeB : Q2
  | .big b n, .big b' n', k => (b ≠ 0 ∧ b' ≠ 0) ∧ k (.bl (!decide (b = b' ∧ n = n')))
  | _, _, _ => False
theorem In.same {X : En} {F : List (Addr × HO)} {σ : L2.St} {s : Cf} (I : In K c X F σ s) {H' : Hp} (h : Same s.H H') : In K c X F σ ⟨s.g, H', s.e, s.w, s.os⟩ := I.call (I.wr.goS h).2 (I.wr.goS h).1
theorem s_eqB (PB : PB K c) : SndR2 K c (rOwnEq K c.CBig (sp_S K c) E) qEqB := by
  intro X F σ s x y dx dy k Q I rx ry h hQ
  cases dx with
  | big b n =>
    cases dy with
    | big b' n' =>
      obtain ⟨a, rfl, hB⟩ := rx.big I
      obtain ⟨a', rfl, hB'⟩ := ry.big I
      obtain ⟨dx1, r1, h1, _⟩ := hB.at_
      obtain ⟨dx2, r2, h2, _⟩ := hB'.at_
      exact rd_ownEq h1 (.base (.ins h2 PB.isc.cl PB.isc.ha PB.isc.hn PB.isc.htk PB.isc.hm)) (nf_self _ _) ⟨a, b, n, .ref a', rfl, hB, h.1.1, .inl ⟨a', b', n', rfl, hB', h.1.2, fun H' sm => ⟨_, rfl, hQ _ _ ⟨s.g, H', s.e, s.w, s.os⟩ (Gh.le.refl _) (I.same sm) rfl rfl (.bl _) h.2⟩⟩⟩
    | _ => exact h.elim
  | _ => exact h.elim
def P_law_source_of : PSp := fun ds w k => match ds with
  | [.int _] => k (.src w.ss) ⟨w.ms, w.ss + 1, w.os⟩
  | _ => False
def P_law_next : PSp := fun ds w k => match ds with
  | [.src j, .int n] => j < w.ss ∧ (0 < n ∧ NxtB n) ∧ ∀ r, 0 ≤ r → r < n → k (.int r) w
  | _ => False
def P_law_one : PSp := fun ds w k => match ds with
  | [.src j, .lst l] => j < w.ss ∧ (l ≠ [] ∧ l.length ≤ 1000) ∧ ∀ d ∈ l, k d w
  | _ => False
def P_law_cell_at : PSp := fun ds w k => match ds with
  | [.cst l, .int _] => ∃ ns : List Int, l = ns.map Dat.int ∧ ns.length ≤ 1000 ∧ ∀ n, k (.int n) w
  | _ => False
end
end Pu
namespace Pu
open PySem L2 Eng
/-- x, y, .. = a new list, values -/
def pParO (i : Nat) (is : List Nat) (f : PF) (r : PA) : PS := fun D e w => f e w fun l e w => r e w fun ds e w => onSome (setAll (e.set i (.own true l)) is ds) fun e => D.nx e w
def zipD : List Dat → List Dat → List Dat
  | x :: xs, y :: ys => .tup [x, y] :: zipD xs ys
  | _, _ => []
def pIZip (a b : PE) : PA := fun e w k => a e w fun x e w => b e w fun y e w => lstOf x fun l => lstOf y fun m => k (zipD l m) e w
mutual
def py : Dat → PyData
  | .non => .none
  | .bl b => .bool b
  | .int n => .int n
  | .str s => .str s
  | .tup l => .tuple (pys l)
  | .lst l => .list (pys l)
  | _ => .none
def pys : List Dat → List PyData
  | [] => []
  | d :: ds => py d :: pys ds
end
def plF : Nat → Dat → Bool
  | _, .non => true
  | _, .bl _ => true
  | _, .int _ => true
  | _, .str s => PyData.strOk s
  | n + 1, .tup l => l.all (plF n)
  | n + 1, .lst l => l.all (plF n)
  | _, _ => false
/-- plain data -/
def pl (d : Dat) : Prop := plF 9 d = true
/-- without truths -/
def nbF : Nat → Dat → Bool
  | _, .bl _ => false
  | n + 1, .tup l => l.all (nbF n)
  | n + 1, .lst l => l.all (nbF n)
  | 0, .tup _ => false
  | 0, .lst _ => false
  | _, _ => true
def qEqD : Q2 := fun x y k => (pl x ∧ pl y) ∧ ∀ b : Bool, (x = y → b = true) → (x ≠ y → nbF 9 x = true → nbF 9 y = true → b = false) → k (.bl b)
def qNeD : Q2 := fun x y k => (pl x ∧ pl y) ∧ ∀ b : Bool, (x = y → b = false) → (x ≠ y → nbF 9 x = true → nbF 9 y = true → b = true) → k (.bl b)
section
variable {K : PySem.W.Frag} {c : Pc} {X : En} {F : List (Addr × HO)} {σ : L2.St} {s : Cf} {ta tb te : TE} {pa pb pe : PE} {tr : TA} {pr : PA} {E : XK} {i j : Nat}
theorem all_cons {n : Nat} {d : Dat} {ds : List Dat} (h : (d :: ds).all (plF n) = true) : plF n d = true ∧ ds.all (plF n) = true := by simpa using h
mutual
theorem dp_of : ∀ {n : Nat} {d : Dat} {v : V}, plF n d = true → Rep K c s.g v d → (∀ a o, s.g.G a = some o → s.H a = some o) → Dp K s.H v (py d)
  | n, .non, _, _, .non, _ => .non
  | n, .bl b, _, _, .bl _, _ => .bl b
  | n, .int b, _, _, .int _, _ => .int b
  | n, .str b, _, _, .str _, _ => .str b
  | n + 1, .tup l, _, h, .tup h1 h2, hs => by
    rw [py]
    exact .tup (SqT.of (hs _ _ h1)) (dps_of (by simpa [plF] using h) h2 hs)
  | n + 1, .lst l, _, h, .lst h1 h2, hs => by
    rw [py]
    exact .lst (SqL.of (hs _ _ h1)) (dps_of (by simpa [plF] using h) h2 hs)
  | 0, .tup _, _, h, _, _ => by simp [plF] at h
  | 0, .lst _, _, h, _, _ => by simp [plF] at h
  | n, .cst _, _, h, _, _ => by cases n <;> simp [plF] at h
  | n, .big _ _, _, h, _, _ => by cases n <;> simp [plF] at h
  | n, .mach _, _, h, _, _ => by cases n <;> simp [plF] at h
  | n, .src _, _, h, _, _ => by cases n <;> simp [plF] at h
  | n, .opq _, _, h, _, _ => by cases n <;> simp [plF] at h
  | n, .dic _, _, h, _, _ => by cases n <;> simp [plF] at h
  | n, .ob _, _, h, _, _ => by cases n <;> simp [plF] at h
  | n, .fn _ _, _, h, _, _ => by cases n <;> simp [plF] at h
  | n, .fnc _, _, h, _, _ => by cases n <;> simp [plF] at h
  | n, .dct _ _, _, h, _, _ => by cases n <;> simp [plF] at h
theorem dps_of : ∀ {n : Nat} {ds : List Dat} {vs : List V}, (∀ x ∈ ds, plF n x = true) → Reps K c s.g vs ds → (∀ a o, s.g.G a = some o → s.H a = some o) → DpAll K s.H vs (pys ds)
  | n, [], _, _, .nil, _ => by rw [pys]; exact .nil
  | n, d :: ds, _, h, .cons r t, hs => by
    rw [pys]
    exact .cons (dp_of (h d List.mem_cons_self) r hs) (dps_of (fun x hx => h x (List.mem_cons_of_mem _ hx)) t hs)
end
theorem dpW {n : Nat} {d : Dat} {v : V} (h : plF n d = true) (r : RepW K c s v d) (hs : ∀ a o, s.g.G a = some o → s.H a = some o) : Dp K s.H v (py d) := by
  rcases r with r | ⟨a, vs, ds, rfl, rfl, h1, h2⟩
  · exact dp_of h r hs
  · cases n with
    | zero => simp [plF] at h
    | succ n =>
      rw [py]
      exact .lst (SqL.of h1) (dps_of (by simpa [plF] using h) h2 hs)
mutual
theorem py_shape : ∀ {n : Nat} {d : Dat}, plF n d = true → (py d).canLay0 = true ∧ (py d).depth ≤ n
  | n, .non, _ => by simp [py, PyData.canLay0, PyData.depth]
  | n, .bl b, _ => by simp [py, PyData.canLay0, PyData.depth]
  | n, .int b, _ => by simp [py, PyData.canLay0, PyData.depth]
  | n, .str b, h => by
    have h : PyData.strOk b = true := by cases n <;> exact h
    simp [py, PyData.canLay0, PyData.depth, h]
  | n + 1, .tup l, h => by
    have := pys_shape (n := n) (ds := l) (by simpa [plF] using h)
    simp only [py, PyData.canLay0, PyData.depth]
    exact ⟨this.1, by omega⟩
  | n + 1, .lst l, h => by
    have := pys_shape (n := n) (ds := l) (by simpa [plF] using h)
    simp only [py, PyData.canLay0, PyData.depth]
    exact ⟨this.1, by omega⟩
  | 0, .tup _, h => by simp [plF] at h
  | 0, .lst _, h => by simp [plF] at h
  | n, .cst _, h => by cases n <;> simp [plF] at h
  | n, .big _ _, h => by cases n <;> simp [plF] at h
  | n, .mach _, h => by cases n <;> simp [plF] at h
  | n, .src _, h => by cases n <;> simp [plF] at h
  | n, .opq _, h => by cases n <;> simp [plF] at h
  | n, .dic _, h => by cases n <;> simp [plF] at h
  | n, .ob _, h => by cases n <;> simp [plF] at h
  | n, .fn _ _, h => by cases n <;> simp [plF] at h
  | n, .fnc _, h => by cases n <;> simp [plF] at h
  | n, .dct _ _, h => by cases n <;> simp [plF] at h
theorem pys_shape : ∀ {n : Nat} {ds : List Dat}, (∀ x ∈ ds, plF n x = true) → PyData.canLayAll0 (pys ds) = true ∧ PyData.depthAll (pys ds) ≤ n
  | n, [], _ => by simp [pys, PyData.canLayAll0, PyData.depthAll]
  | n, d :: ds, h => by
    have h1 := py_shape (h d List.mem_cons_self)
    have h2 := pys_shape (n := n) (ds := ds) fun x hx => h x (List.mem_cons_of_mem _ hx)
    simp only [pys, PyData.canLayAll0, PyData.depthAll]
    exact ⟨by rw [h1.1, h2.1]; rfl, by omega⟩
end
mutual
theorem py_inj : ∀ {n : Nat} {d e : Dat}, plF n d = true → plF n e = true → nbF n d = true → nbF n e = true → PyData.eqv (py d) (py e) = true → d = e
  | n, .non, e, _, he, _, hb, h => by
    cases e with
    | non => rfl
    | bl b => cases n <;> simp [nbF] at hb
    | tup l => cases n <;> simp [py, PyData.eqv] at h
    | lst l => cases n <;> simp [py, PyData.eqv] at h
    | int i => simp [py, PyData.eqv] at h
    | str i => simp [py, PyData.eqv] at h
    | _ => cases n <;> simp [plF] at he
  | n, .int i, e, _, he, _, hb, h => by
    cases e with
    | int j => simp [py, PyData.eqv] at h; rw [h]
    | bl b => cases n <;> simp [nbF] at hb
    | non => simp [py, PyData.eqv] at h
    | str j => simp [py, PyData.eqv] at h
    | tup l => simp [py, PyData.eqv] at h
    | lst l => simp [py, PyData.eqv] at h
    | _ => cases n <;> simp [plF] at he
  | n, .str i, e, _, he, _, hb, h => by
    cases e with
    | str j => simp [py, PyData.eqv] at h; rw [h]
    | bl b => cases n <;> simp [nbF] at hb
    | non => simp [py, PyData.eqv] at h
    | int j => simp [py, PyData.eqv] at h
    | tup l => simp [py, PyData.eqv] at h
    | lst l => simp [py, PyData.eqv] at h
    | _ => cases n <;> simp [plF] at he
  | n + 1, .tup l, e, hd, he, hn, hb, h => by
    cases e with
    | tup m => simp only [py, PyData.eqv] at h; rw [pys_inj (n := n) (by simpa [plF] using hd) (by simpa [plF] using he) (by simpa [nbF] using hn) (by simpa [nbF] using hb) h]
    | bl b => simp [nbF] at hb
    | non => simp [py, PyData.eqv] at h
    | int j => simp [py, PyData.eqv] at h
    | str j => simp [py, PyData.eqv] at h
    | lst l => simp [py, PyData.eqv] at h
    | _ => simp [plF] at he
  | n + 1, .lst l, e, hd, he, hn, hb, h => by
    cases e with
    | lst m => simp only [py, PyData.eqv] at h; rw [pys_inj (n := n) (by simpa [plF] using hd) (by simpa [plF] using he) (by simpa [nbF] using hn) (by simpa [nbF] using hb) h]
    | bl b => simp [nbF] at hb
    | non => simp [py, PyData.eqv] at h
    | int j => simp [py, PyData.eqv] at h
    | str j => simp [py, PyData.eqv] at h
    | tup l => simp [py, PyData.eqv] at h
    | _ => simp [plF] at he
  | n, .bl _, _, _, _, h, _, _ => by cases n <;> simp [nbF] at h
  | 0, .tup _, _, h, _, _, _, _ => by simp [plF] at h
  | 0, .lst _, _, h, _, _, _, _ => by simp [plF] at h
  | n, .cst _, _, h, _, _, _, _ => by cases n <;> simp [plF] at h
  | n, .big _ _, _, h, _, _, _, _ => by cases n <;> simp [plF] at h
  | n, .mach _, _, h, _, _, _, _ => by cases n <;> simp [plF] at h
  | n, .src _, _, h, _, _, _, _ => by cases n <;> simp [plF] at h
  | n, .opq _, _, h, _, _, _, _ => by cases n <;> simp [plF] at h
  | n, .dic _, _, h, _, _, _, _ => by cases n <;> simp [plF] at h
  | n, .ob _, _, h, _, _, _, _ => by cases n <;> simp [plF] at h
  | n, .fn _ _, _, h, _, _, _, _ => by cases n <;> simp [plF] at h
  | n, .fnc _, _, h, _, _, _, _ => by cases n <;> simp [plF] at h
  | n, .dct _ _, _, h, _, _, _, _ => by cases n <;> simp [plF] at h
theorem pys_inj : ∀ {n : Nat} {ds es : List Dat}, (∀ x ∈ ds, plF n x = true) → (∀ x ∈ es, plF n x = true) → (∀ x ∈ ds, nbF n x = true) → (∀ x ∈ es, nbF n x = true) → PyData.eqvAll (pys ds) (pys es) = true → ds = es
  | n, [], [], _, _, _, _, _ => rfl
  | n, d :: ds, e :: es, h1, h2, h3, h4, h => by
    simp only [pys, PyData.eqvAll, Bool.and_eq_true] at h
    rw [py_inj (h1 d List.mem_cons_self) (h2 e List.mem_cons_self) (h3 d List.mem_cons_self) (h4 e List.mem_cons_self) h.1,
      pys_inj (n := n) (fun x hx => h1 x (List.mem_cons_of_mem _ hx)) (fun x hx => h2 x (List.mem_cons_of_mem _ hx)) (fun x hx => h3 x (List.mem_cons_of_mem _ hx)) (fun x hx => h4 x (List.mem_cons_of_mem _ hx)) h.2]
  | n, [], _ :: _, _, _, _, _, h => by simp [pys, PyData.eqvAll] at h
  | n, _ :: _, [], _, _, _, _, h => by simp [pys, PyData.eqvAll] at h
end
theorem py_shaped {d : Dat} (h : pl d) : SeqAt.shaped (py d) = true := by
  obtain ⟨h1, h2⟩ := py_shape h
  unfold SeqAt.shaped
  rw [h1, decide_eq_true (Nat.le_trans h2 (by decide))]; rfl
theorem s_eqD : SndR2 K c (rEqD K) qEqD := by
  intro X F σ s x y dx dy k Q I rx ry h hQ
  refine ⟨py dx, py dy, dpW h.1.1 rx I.wr.sub, dpW h.1.2 ry I.wr.sub, py_shaped h.1.1, py_shaped h.1.2, hQ _ _ s (Gh.le.refl _) I rfl rfl (.bl _) (h.2 _ (fun e => ?_) fun ne n1 n2 => ?_)⟩
  · rw [e]; exact SeqAt.eqv_refl _ (py_shape h.1.2).1
  · cases e : PyData.eqv (py dx) (py dy) with
    | false => rfl
    | true => exact absurd (py_inj h.1.1 h.1.2 n1 n2 e) ne
theorem s_neD : SndR2 K c (rNeD K) qNeD := by
  intro X F σ s x y dx dy k Q I rx ry h hQ
  refine ⟨py dx, py dy, dpW h.1.1 rx I.wr.sub, dpW h.1.2 ry I.wr.sub, py_shaped h.1.1, py_shaped h.1.2, hQ _ _ s (Gh.le.refl _) I rfl rfl (.bl _) (h.2 _ (fun e => ?_) fun ne n1 n2 => ?_)⟩
  · rw [e, SeqAt.eqv_refl _ (py_shape h.1.2).1]; rfl
  · cases e : PyData.eqv (py dx) (py dy) with
    | false => rfl
    | true => exact absurd (py_inj h.1.1 h.1.2 n1 n2 e) ne
theorem snd_parO {pf : PF} (hf : SndF K c ta pf) (hr : SndA K c tr pr) : SndS K c (tPar i j (tCons ta tr)) (pParO i [j] pf pr) := by
  intro X F σ s D Dp I h hE
  refine hf X F σ s _ _ I h fun a vs ds s1 l1 hx I1 r1 h1 => ?_
  refine hr X _ σ s1 _ _ I1 h1 fun ws es s2 l2 I2 r2 h2 => ?_
  obtain ⟨e, he, h2⟩ := onSome_of h2
  have := In.setAll (Q := D.nx) (I2.setO (i := i) (r1.mono l2) hx) r2 he fun σ' I' => hE.nx σ' ⟨s2.g, s2.H, e, s2.w, (i, a) :: s2.os⟩ (l1.trans l2) I' h2
  obtain ⟨v, _, rfl, rfl, q⟩ := this
  exact ⟨_, v, rfl, q⟩
theorem snd_par3O {l : Nat} {pf : PF} (hf : SndF K c ta pf) (hr : SndA K c tr pr) : SndS K c (tPar3 i j l (tCons ta tr)) (pParO i [j, l] pf pr) := by
  intro X F σ s D Dp I h hE
  refine hf X F σ s _ _ I h fun a vs ds s1 l1 hx I1 r1 h1 => ?_
  refine hr X _ σ s1 _ _ I1 h1 fun ws es s2 l2 I2 r2 h2 => ?_
  obtain ⟨e, he, h2⟩ := onSome_of h2
  have := In.setAll (Q := D.nx) (I2.setO (i := i) (r1.mono l2) hx) r2 he fun σ' I' => hE.nx σ' ⟨s2.g, s2.H, e, s2.w, (i, a) :: s2.os⟩ (l1.trans l2) I' h2
  obtain ⟨v, _, rfl, v', _, rfl, rfl, q⟩ := this
  exact ⟨_, v, v', rfl, q⟩
def pParO2 (i j : Nat) (a : PE) (f : PF) : PS := fun D e w => a e w fun d e w => f e w fun l e w => D.nx ((e.set i (.val d)).set j (.own true l)) w
theorem zipD_get : ∀ {l m : List Dat} {i : Nat} {d : Dat}, (zipD l m)[i]? = some d → ∃ x y, l[i]? = some x ∧ m[i]? = some y ∧ d = .tup [x, y]
  | x :: l, y :: m, 0, d, h => by simp only [zipD, List.getElem?_cons_zero, Option.some.injEq] at h; exact ⟨x, y, rfl, rfl, h.symm⟩
  | x :: l, y :: m, i + 1, d, h => by simp only [zipD, List.getElem?_cons_succ] at h ⊢; exact zipD_get h
  | [], _, _, _, h => by simp [zipD] at h
  | _ :: _, [], _, _, h => by simp [zipD] at h
theorem zipD_len : ∀ (l m : List Dat), (zipD l m).length = min l.length m.length
  | x :: l, y :: m => by simp only [zipD, List.length_cons, zipD_len l m]; omega
  | [], _ => by simp [zipD]
  | _ :: _, [] => by simp [zipD]
theorem ItD.zip {g : Gh} {a b : Addr} {vs ws : List V} {l m : List Dat} (h : SqL K g.G a vs) (r : Reps K c g vs l) (h' : SqL K g.G b ws) (r' : Reps K c g ws m) : ItD K c (Itz K a b) g (zipD l m) where
  go := fun X F σ s i d le I hd => by
    obtain ⟨x, y, hx, hy, rfl⟩ := zipD_get hd
    obtain ⟨v, hv, rv⟩ := r.get hx
    obtain ⟨v', hv', rv'⟩ := r'.get hy
    have hs : SqL K s.H a vs := sqL_mono I.wr.sub (sqL_mono le.G h)
    have hs' : SqL K s.H b ws := sqL_mono I.wr.sub (sqL_mono le.G h')
    refine ⟨⟨vs, ws, v, v', hs, hs', hv, hv'⟩, fun z H' ⟨T, z1, z2, e, hT, e2, q1, q2⟩ => ?_⟩
    have e3 := q1 vs hs
    have e4 := q2 ws hs'
    rw [hv] at e3; rw [hv'] at e4
    cases e3; cases e4
    have le2 := gUpd_le (o := .tup [v, v']) (I.offG hT)
    exact ⟨⟨gUpd s.g T (.tup [v, v']), upd s.H T (.tup [v, v']), s.e, s.w, s.os⟩, e2.symm, le2, I.newG hT, rfl, rfl, by rw [e]; exact .tup (show upd s.g.G T _ T = _ from upd_same) (.cons ((rv.mono le).mono le2) (.cons ((rv'.mono le).mono le2) .nil))⟩
  stop := fun X F σ s le I => ⟨vs, ws, sqL_mono I.wr.sub (sqL_mono le.G h), sqL_mono I.wr.sub (sqL_mono le.G h'), by rw [r.length, r'.length, zipD_len]; omega⟩
theorem enm_get : ∀ {l : List Dat} {n i : Nat} {d : Dat}, (enm n l)[i]? = some d → ∃ x, l[i]? = some x ∧ d = .tup [.int ((n + i : Nat) : Int), x]
  | x :: l, n, 0, d, h => by simp only [enm, List.getElem?_cons_zero, Option.some.injEq] at h; exact ⟨x, rfl, h.symm⟩
  | x :: l, n, i + 1, d, h => by
    simp only [enm, List.getElem?_cons_succ] at h ⊢
    obtain ⟨y, h1, h2⟩ := enm_get h
    exact ⟨y, h1, by rw [h2]; congr 4; omega⟩
  | [], _, _, _, h => by simp [enm] at h
theorem enm_len : ∀ (l : List Dat) (n : Nat), (enm n l).length = l.length
  | [], _ => rfl
  | _ :: l, n => by simp only [enm, List.length_cons, enm_len l]
theorem ItD.enum {g : Gh} {a : Addr} {vs : List V} {l : List Dat} (h : SqL K g.G a vs) (r : Reps K c g vs l) : ItD K c (Ite K a) g (enm 0 l) where
  go := fun X F σ s i d le I hd => by
    obtain ⟨x, hx, rfl⟩ := enm_get hd
    obtain ⟨v, hv, rv⟩ := r.get hx
    have hs : SqL K s.H a vs := sqL_mono I.wr.sub (sqL_mono le.G h)
    refine ⟨⟨vs, v, hs, hv⟩, fun z H' ⟨T, z1, e, hT, e2, q1⟩ => ?_⟩
    have e3 := q1 vs hs
    rw [hv] at e3; cases e3
    have le2 := gUpd_le (o := .tup [.int (i : Nat), v]) (I.offG hT)
    refine ⟨⟨gUpd s.g T (.tup [.int (i : Nat), v]), upd s.H T (.tup [.int (i : Nat), v]), s.e, s.w, s.os⟩, e2.symm, le2, I.newG hT, rfl, rfl, ?_⟩
    rw [e, Nat.zero_add]
    exact .tup (show upd s.g.G T _ T = _ from upd_same) (.cons (.int _) (.cons ((rv.mono le).mono le2) .nil))
  stop := fun X F σ s le I => ⟨vs, sqL_mono I.wr.sub (sqL_mono le.G h), by rw [r.length, enm_len]; exact Nat.le_refl _⟩
def dVals : List (Str × PE) → Env → Wld → (List (Str × Int) → Env → Wld → Prop) → Prop
  | [], e, w, k => k [] e w
  | (s, a) :: r, e, w, k => a e w fun x e w => intOf x fun n => dVals r e w fun l e w => k ((s, n) :: l) e w
def pDisp (l : List (Str × PE)) : PE := fun e w k => ((l.map (·.1)).Nodup ∧ l.length ≤ 15) ∧ dVals l e w fun m e w => k (.dic m) e w
def SndD (K : PySem.W.Frag) (c : Pc) : List (TE × TE) → List (Str × PE) → Prop
  | [], [] => True
  | (tk, tv) :: ts, (s, p) :: ps => tk = tC (.str s) ∧ SndE K c tv p ∧ SndD K c ts ps
  | _, _ => False
theorem snd_vals : ∀ {ts : List (TE × TE)} {ps : List (Str × PE)}, SndD K c ts ps → ∀ (X : En) (F : List (Addr × HO)) (σ : L2.St) (s : Cf) (k : List (Str × Int) → Env → Wld → Prop) (Q : List (V × V) → Hp → Prop), In K c X F σ s → dVals ps s.e s.w k →
    (∀ l s', s.g.le s'.g → In K c X F σ s' → l.map (·.1) = ps.map (·.1) → k l s'.e s'.w → Q (l.map fun p => (V.str p.1, V.int p.2)) s'.H) → tPairs ts σ s.H Q
  | [], [], _, X, F, σ, s, k, Q, I, h, hQ => hQ [] s (Gh.le.refl _) I rfl h
  | (tk, tv) :: ts, (z, p) :: ps, hd, X, F, σ, s, k, Q, I, h, hQ => by
    obtain ⟨e1, h2, h3⟩ := hd
    subst e1
    refine h2 X F σ s _ _ I h fun x dx s1 l1 I1 r1 h1 => ?_
    replace h1 := intOf_of h1
    obtain ⟨n, rfl, h1⟩ := h1
    rw [r1.intI]
    refine snd_vals h3 X F σ s1 _ _ I1 h1 fun l s2 l2 I2 e2 h4 => ?_
    exact hQ ((z, n) :: l) s2 (l1.trans l2) I2 (by simp only [List.map_cons, e2]) h4
  | [], _ :: _, hd, _, _, _, _, _, _, _, _, _ => hd.elim
  | _ :: _, [], hd, _, _, _, _, _, _, _, _, _ => hd.elim
theorem snd_disp {ts : List (TE × TE)} {ps : List (Str × PE)} (hd : SndD K c ts ps) : SndE K c (tDisp ts) (pDisp ps) := by
  intro X F σ s k Q I h hQ
  intro p hp
  have hx := I.fresh hp
  refine snd_vals hd X ((p, .dK []) :: F) σ ⟨s.g, upd s.H p (.dK []), s.e, s.w, s.os⟩ _ _ (I.newF hp) h.2 fun l s1 l1 I1 e1 h1 => ?_
  have hn : ((dKs l).map (·.1)).Nodup := by
    have e2 : (dKs l).map (·.1) = (ps.map (·.1)).map fun z => (Sum.inr z : Key) := by
      rw [← e1]; unfold dKs; simp
    rw [e2]
    exact List.Pairwise.map (fun z => (Sum.inr z : Key)) (fun a b hne e => hne (Sum.inr.inj e)) h.1.1
  refine ⟨I1.held _ List.mem_cons_self, dKs l, by unfold dKs; rw [List.map_map]; rfl, ?_, ?_⟩
  · have := congrArg List.length e1
    simp only [List.length_map] at this
    unfold dKs
    rw [List.length_map, this]; exact h.1.2
  · rw [mergeK_nil hn]
    have I2 := I1.heldPut (o' := .dK (dKs l)) hx noC_dK
    have hm : p ∈ s1.mu ((p, .dK []) :: F) := (mu_cons s1 (p, .dK []) F).mem_iff.mpr List.mem_cons_self
    have le := gUpd_le (o := .dK (dKs l)) (I1.off p hm)
    exact hQ _ _ ⟨gUpd s1.g p (.dK (dKs l)), upd s1.H p (.dK (dKs l)), s1.e, s1.w, s1.os⟩ (l1.trans le) (I2.frzF hx) (.dic (show upd s1.g.G p _ p = _ from upd_same)) h1
def pDNew : PE := fun e w k => k (.dic []) e w
theorem snd_dnew : SndE K c tDNewK pDNew := by
  intro X F σ s k Q I h hQ
  intro p hp
  have le := gUpd_le (o := .dK []) (I.offG hp)
  exact hQ _ _ ⟨gUpd s.g p (.dK []), upd s.H p (.dK []), s.e, s.w, s.os⟩ le (I.newG hp) (.dic (show upd s.g.G p _ p = _ from upd_same)) h
end
end Pu
namespace Pu
open PySem L2 Eng
/-- l tells the counts ns: each word's number, 0 where it has none -/
structure Due (l : List (Str × Int)) (ns : List Int) : Prop where
  nd : (l.map (·.1)).Nodup
  few : l.length < 100
  inw : ∀ p ∈ l, p.1 ∈ words
  at_ : ∀ (j : Nat) (s : Str), words[j]? = some s → ns[j]? = some ((l.lookup s).getD 0)
def P_W : PSp := fun ds w k => match ds with
  | [.mach i, .dic l] => onM w i fun m => Due l m.ns ∧ k (.bl true) (w.put i m.rst)
  | _ => False
end Pu
namespace Pu
open PySem L2 Eng
section
variable {i j n m : Int} {a b : Bool} {s t : Str} {l l' : List Dat} {k : Dat → Prop} {kl : List Dat → Prop} {kb : Bool → Prop} {ki : Int → Prop} {e : Env} {w : Wld} {kq : PQ}
theorem eAdd : qAdd (.int i) (.int j) k = k (.int (i + j)) := rfl
theorem eSub : qSub (.int i) (.int j) k = k (.int (i - j)) := rfl
theorem eAnd : qAnd (.int i) (.int j) k = k (.int (Builtin.bitAnd i j)) := rfl
theorem eOr : qOr (.int i) (.int j) k = k (.int (Builtin.bitOr i j)) := rfl
theorem eXor : qXor (.int i) (.int j) k = k (.int (Builtin.bitXor i j)) := rfl
theorem eLt : qLt (.int i) (.int j) k = k (.bl (decide (i < j))) := rfl
theorem eLe : qLe (.int i) (.int j) k = k (.bl (decide (i ≤ j))) := rfl
theorem eGt : qGt (.int i) (.int j) k = k (.bl (decide (j < i))) := rfl
theorem eGe : qGe (.int i) (.int j) k = k (.bl (decide (j ≤ i))) := rfl
theorem eMul : qMul (.int i) (.int j) k = (IntMulOk i j ∧ k (.int (i * j))) := rfl
theorem eDiv : qDiv (.int i) (.int j) k = (oDiv i j ∧ k (.int (i / j))) := rfl
theorem eMod : qMod (.int i) (.int j) k = ((0 < j) ∧ k (.int (i % j))) := rfl
theorem ePow : qPow (.int i) (.int j) k = (oPow i j ∧ k (.int (i ^ j.toNat))) := rfl
theorem eShl : qShl (.int i) (.int j) k = (CShl i j ∧ k (.int (i * 2 ^ j.toNat))) := rfl
theorem eShr : qShr (.int i) (.int j) k = ((0 ≤ j) ∧ k (.int (i / 2 ^ j.toNat))) := rfl
theorem eNeg : qNeg (.int i) k = k (.int (-i)) := rfl
theorem eEqI : qEq (.int i) (.int j) k = k (.bl (decide (i = j))) := rfl
theorem eEqS : qEq (.str s) (.str t) k = k (.bl (decide (s = t))) := rfl
theorem eEqL : qEq (.bl a) (.bl b) k = k (.bl (decide (a = b))) := rfl
theorem eNeI : qNe (.int i) (.int j) k = k (.bl (!decide (i = j))) := rfl
theorem eNeS : qNe (.str s) (.str t) k = k (.bl (!decide (s = t))) := rfl
theorem eNeL : qNe (.bl a) (.bl b) k = k (.bl (!decide (a = b))) := rfl
theorem eIx1 : qIx (.lst l) (.int n) k = onSome (atI l n) k := rfl
theorem eIx2 : qIx (.tup l) (.int n) k = onSome (atI l n) k := rfl
theorem eIx3 : qIx (.cst l) (.int n) k = onSome (atI l n) k := rfl
theorem eIxL : qIxL (.lst l) (.int n) k = onSome (atI l n) k := rfl
theorem eIxC : qIxL (.cst l) (.int n) k = onSome (atI l n) k := rfl
theorem eIxT : qIxT (.tup l) (.int n) k = onSome (atI l n) k := rfl
theorem eCat : qCat (.lst l) (.lst l') kl = (l.length + l'.length ≤ sizeLine ∧ kl (l ++ l')) := rfl
theorem eRep : qRep (.lst l) (.int n) kl = ((-(2 ^ 63) ≤ n ∧ n < 2 ^ 63 ∧ l.length * n.toNat ≤ sizeLine) ∧ kl (List.replicate n.toNat l).flatten) := rfl
theorem eLen1 : qLen [.lst l] k = k (.int (l.length : Nat)) := rfl
theorem eLen2 : qLen [.tup l] k = k (.int (l.length : Nat)) := rfl
theorem eLen3 : qLen [.cst l] k = k (.int (l.length : Nat)) := rfl
theorem eAbs : qAbs [.int n] k = k (.int (if n < 0 then -n else n)) := rfl
theorem eInt1 : qInt [.int n] k = k (.int n) := rfl
theorem eInt2 : qInt [.bl b] k = k (.int (if b then 1 else 0)) := rfl
theorem eMax : qMax2 [.int i, .int j] k = k (.int (if j > i then j else i)) := rfl
theorem eMin : qMin2 [.int i, .int j] k = k (.int (if j < i then j else i)) := rfl
theorem eList1 : qList [.lst l] kl = kl l := rfl
theorem eList2 : qList [.tup l] kl = kl l := rfl
theorem eList3 : qList [.cst l] kl = kl l := rfl
theorem eTupL : qTupL [.lst l] k = k (.tup l) := rfl
theorem eEqB {x y : Nat} : qEqB (.big x i) (.big y j) k = ((x ≠ 0 ∧ y ≠ 0) ∧ k (.bl (decide (x = y ∧ i = j)))) := rfl
theorem eNeB {x y : Nat} : qNeB (.big x i) (.big y j) k = ((x ≠ 0 ∧ y ≠ 0) ∧ k (.bl (!decide (x = y ∧ i = j)))) := rfl
theorem eIsB : isB (.bl b) kb = kb b := rfl
theorem eTup : tupOf (.tup l) kl = kl l := rfl
theorem eLst1 : lstOf (.lst l) kl = kl l := rfl
theorem eLst2 : lstOf (.cst l) kl = kl l := rfl
theorem eIntO : intOf (.int n) ki = ki n := rfl
theorem eSeq1 : seqOf (.lst l) kl = kl l := rfl
theorem eSeq2 : seqOf (.tup l) kl = kl l := rfl
theorem eSeq3 : seqOf (.cst l) kl = kl l := rfl
theorem eSome {α : Type} {x : α} {f : α → Prop} : onSome (some x) f = f x := rfl
theorem at_nat {α : Type} {l : List α} {n : Nat} {x : α} (h : l[n]? = some x) : atI l (n : Int) = some x := by
  unfold atI ixN
  have hl := (List.getElem?_eq_some_iff.mp h).1
  rw [if_pos (by omega), if_pos (by omega)]
  show l[((n : Nat) : Int).toNat]? = some x
  rw [show ((n : Nat) : Int).toNat = n by omega]; exact h
theorem eAt0 {α : Type} {x : α} {r : List α} : atI (x :: r) 0 = some x := at_nat (n := 0) rfl
theorem eAt1 {α : Type} {x y : α} {r : List α} : atI (x :: y :: r) 1 = some y := at_nat (n := 1) rfl
theorem eAt2 {α : Type} {x y z : α} {r : List α} : atI (x :: y :: z :: r) 2 = some z := at_nat (n := 2) rfl
theorem eAt3 {α : Type} {x y z u : α} {r : List α} : atI (x :: y :: z :: u :: r) 3 = some u := at_nat (n := 3) rfl
theorem shl1 {b : Nat} (h : b ≤ 1000) : qShl (.int 1) (.int (b : Int)) k = k (.int ((2 ^ b : Nat) : Int)) := by
  rw [eShl]
  have e : (1 : Int) * 2 ^ ((b : Int)).toNat = ((2 ^ b : Nat) : Int) := by rw [Int.one_mul, Int.toNat_natCast, pwN]
  rw [e]
  exact propext ⟨fun h => h.2, fun h' => ⟨shl_one h, h'⟩⟩
def vOf (o : Option Slot) (k : Dat → Prop) : Prop := match o with | some (.val d) => k d | _ => False
def oOf (o : Option Slot) (k : Bool → List Dat → Prop) : Prop := match o with | some (.own f l) => k f l | _ => False
theorem eVar {x : Nat} : pVar x e w kq = vOf e[x]? fun d => kq d e w := by
  unfold pVar vOf
  cases e[x]? with
  | none => rfl
  | some z => cases z <;> rfl
theorem eVal {d : Dat} : vOf (some (.val d)) k = k d := rfl
theorem eOwnAt {x : Nat} {ko : Bool → List Dat → Prop} : ownAt e x ko = oOf e[x]? ko := rfl
theorem eOwn {f : Bool} {ko : Bool → List Dat → Prop} : oOf (some (.own f l)) ko = ko f l := rfl
def sideOf (d : Dat) (k : Dat → Prop) : Prop := match d with | .big _ n => k (.int (sgn n)) | _ => False
def rowOf (d : Dat) (k : Dat → Prop) : Prop := match d with | .big b n => k (.tup (dN (digs b n.natAbs))) | _ => False
def bitsOf (d : Dat) (k : Dat → Prop) : Prop := match d with | .big b _ => k (.int (b : Int)) | _ => False
def machOf (d : Dat) (k : Nat → Prop) : Prop := match d with | .mach i => k i | _ => False
def bigOf (d : Dat) (k : Nat → Int → Prop) : Prop := match d with | .big b n => k b n | _ => False
theorem eSide {p : PE} : pSide p e w kq = p e w fun x e w => sideOf x fun d => kq d e w := by
  unfold pSide; congr 1
theorem eRow {p : PE} : pRow p e w kq = p e w fun x e w => rowOf x fun d => kq d e w := by
  unfold pRow; congr 1
theorem eWidB {p : PE} : pWidthB p e w kq = p e w fun x e w => bitsOf x fun d => kq d e w := by
  unfold pWidthB; congr 1
theorem eWidM {p : PE} : pWidthM p e w kq = p e w fun x e w => machOf x fun i => onM w i fun m => kq (.int (m.b : Int)) e w := by
  unfold pWidthM; congr 1
theorem eCut {p : PE} : pCut p e w kq = p e w fun x e w => machOf x fun i => onM w i fun m => kq (.int m.cut) e w := by
  unfold pCut; congr 1
theorem eBase {p : PE} : pBase p e w kq = p e w fun x e w => machOf x fun i => onM w i fun m => kq (.int (2 ^ m.b)) e w := by
  unfold pBase; congr 1
theorem eMethM {P : PSp} {p : PE} {r : PA} : pMethM P p r e w kq = p e w fun x e w => machOf x fun i => r e w fun ds e w => P (.mach i :: ds) w fun d w => kq d e w := by
  unfold pMethM; congr 1
theorem eMethB {P : PSp} {p : PE} {r : PA} : pMethB P p r e w kq = p e w fun x e w => bigOf x fun b n => r e w fun ds e w => P (.big b n :: ds) w fun d w => kq d e w := by
  unfold pMethB; congr 1
theorem eSideB {x : Nat} : sideOf (.big x i) k = k (.int (sgn i)) := rfl
theorem eRowB {x : Nat} : rowOf (.big x i) k = k (.tup (dN (digs x i.natAbs))) := rfl
theorem eBitsB {x : Nat} : bitsOf (.big x i) k = k (.int (x : Int)) := rfl
theorem eMachO {x : Nat} {km : Nat → Prop} : machOf (.mach x) km = km x := rfl
theorem eBigO {x : Nat} {km : Nat → Int → Prop} : bigOf (.big x i) km = km x i := rfl
variable {x y : Nat} {kw : Dat → Wld → Prop} {cut : Int}
theorem e_Bd {v : Int} : P_D [.mach x, .str s, .int v] w kw = onM w x fun m => ∃ j, words[j]? = some s ∧ kw .non (w.put x (m.cnt j v)) := rfl
theorem e_Be : P_M [.mach x] w kw = onM w x fun m => kw .non (w.put x m.rst) := rfl
theorem e_A8 : P_A9 [.mach x] w kw = onM w x fun m => kw (.tup [.int (m.b : Int), .int m.cut]) w := rfl
theorem e_Ba : P_N [.mach x] w kw = onM w x fun m => kw (.lst (m.walk.map dW)) w := rfl
theorem e_Bf : P_J [.mach x] w kw = onM w x fun m => kw (.lst (dRows m.ns)) w := rfl
theorem e_L : P_L [.mach x] w kw = onM w x fun _ => kw .non w := rfl
theorem e_Machine : P_Machine [.int n, .int cut] w kw = ((8 ≤ n ∧ n ≤ 30 ∧ 2 ≤ cut ∧ cut ≤ 1000) ∧ kw (.mach w.ms.length) ⟨w.ms ++ [⟨n.toNat, cut, zeros, []⟩], w.ss, w.os⟩) := rfl
theorem e_E : P_E [.mach x, .int i, .lst l] w kw = onM w x fun m => ∃ es : List Nat, l = dN es ∧ m.b ≠ 0 ∧ Digs m.b es ∧ es.length < 2 ^ 23 ∧ sgnOk i (val m.b es) ∧ kw (.big m.b (i * (val m.b es : Nat))) w := rfl
theorem e_V : P_V [.mach x, .int n] w kw = onM w x fun m => m.b ≠ 0 ∧ (digs m.b n.natAbs).length < 2 ^ 23 ∧ kw (.big m.b n) w := rfl
theorem e_big : P_big [.mach x, .int n] w kw = onM w x fun m => m.b ≠ 0 ∧ (digs m.b n.natAbs).length < 2 ^ 23 ∧ kw (.big m.b n) w := rfl
theorem e_R : P_R [.big x n] w kw = (bigL x n ∧ kw (.int n) w) := rfl
theorem e_T : P_T [.big x n] w kw = (bigL x n ∧ kw (.int n) w) := rfl
theorem e_Y : P_Y [.big x n] w kw = kw .non w := rfl
theorem e_check_big : P_check_big [.mach x, .str s, .big y n] w kw = onM w x fun m => m.b = y ∧ kw .non w := rfl
theorem e_check_bigs {y' : Nat} : P_check_bigs [.mach x, .big y n, .big y' i] w kw = onM w x fun m => m.b = y ∧ m.b = y' ∧ kw .non w := rfl
theorem e_is_compact : P_is_compact [.big x n] w kw = kw (.bl (decide ((digs x n.natAbs).length ≤ 1))) w := rfl
theorem e_Bb : P_O [.big x n] w kw = kw (.int (sgn n)) w := rfl
theorem e_Az : P_P [.big x n] w kw = kw (.int (x : Int)) w := rfl
theorem e_Bc : P_Q [.big x n] w kw = kw (.lst (dN (digs x n.natAbs))) w := rfl
theorem e_bit_length : P_bit_length [.big x n] w kw = (bigL x n ∧ kw (.int (Builtin.Int.intBits n : Nat)) w) := rfl
theorem e_is_digits : P_is_digits [.mach x, .lst l] w kw = onM w x fun m => ∃ es : List Nat, l = dN es ∧ Digs m.b es ∧ es.length < 2 ^ 23 ∧ kw (.bl true) w := rfl
theorem e_Big : P_Big [.int n, .int i, .tup l] w kw = ∃ (b' : Nat) (z : Int), n = (b' : Int) ∧ i = sgn z ∧ l = dN (digs b' z.natAbs) ∧ kw (.big b' z) w := rfl
theorem e_source_of : P_law_source_of [.int n] w kw = kw (.src w.ss) ⟨w.ms, w.ss + 1, w.os⟩ := rfl
theorem e_next : P_law_next [.src x, .int n] w kw = (x < w.ss ∧ (0 < n ∧ NxtB n) ∧ ∀ r, 0 ≤ r → r < n → kw (.int r) w) := rfl
theorem e_one : P_law_one [.src x, .lst l] w kw = (x < w.ss ∧ (l ≠ [] ∧ l.length ≤ 1000) ∧ ∀ d ∈ l, kw d w) := rfl
theorem e_cell_at : P_law_cell_at [.cst l, .int i] w kw = ∃ ns : List Int, l = ns.map Dat.int ∧ ns.length ≤ 1000 ∧ ∀ n, kw (.int n) w := rfl
theorem e_counted {d : List (Str × Int)} : P_W [.mach x, .dic d] w kw = onM w x fun m => Due d m.ns ∧ kw (.bl true) (w.put x m.rst) := rfl
theorem e_cnt {v : Int} {j : Nat} (hj : words[j]? = some s) : P_D [.mach x, .str s, .int v] w kw = onM w x fun m => kw .non (w.put x (m.cnt j v)) := by
  rw [e_Bd]
  congr 1
  funext m
  refine propext ⟨fun ⟨j', h1, h2⟩ => ?_, fun h => ⟨j, hj, h⟩⟩
  have hi : j < words.length := (List.getElem?_eq_some_iff.mp hj).1
  have : j = j' := (List.getElem?_inj hi (by decide +kernel)).mp (hj.trans h1.symm)
  rw [this]; exact h2
theorem e_cnt0 {v : Int} : P_D [.mach x, .str "short", .int v] w kw = onM w x fun m => kw .non (w.put x (m.cnt 0 v)) := e_cnt rfl
theorem e_cnt1 {v : Int} : P_D [.mach x, .str "sum", .int v] w kw = onM w x fun m => kw .non (w.put x (m.cnt 1 v)) := e_cnt rfl
theorem e_cnt2 {v : Int} : P_D [.mach x, .str "product", .int v] w kw = onM w x fun m => kw .non (w.put x (m.cnt 2 v)) := e_cnt rfl
theorem e_cnt3 {v : Int} : P_D [.mach x, .str "quotient", .int v] w kw = onM w x fun m => kw .non (w.put x (m.cnt 3 v)) := e_cnt rfl
theorem e_cnt4 {v : Int} : P_D [.mach x, .str "corrected", .int v] w kw = onM w x fun m => kw .non (w.put x (m.cnt 4 v)) := e_cnt rfl
theorem e_cnt5 {v : Int} : P_D [.mach x, .str "restored", .int v] w kw = onM w x fun m => kw .non (w.put x (m.cnt 5 v)) := e_cnt rfl
theorem e_cnt6 {v : Int} : P_D [.mach x, .str "shifted", .int v] w kw = onM w x fun m => kw .non (w.put x (m.cnt 6 v)) := e_cnt rfl
theorem e_cnt7 {v : Int} : P_D [.mach x, .str "combined", .int v] w kw = onM w x fun m => kw .non (w.put x (m.cnt 7 v)) := e_cnt rfl
theorem e_cnt8 {v : Int} : P_D [.mach x, .str "complemented", .int v] w kw = onM w x fun m => kw .non (w.put x (m.cnt 8 v)) := e_cnt rfl
theorem e_cnt9 {v : Int} : P_D [.mach x, .str "looked", .int v] w kw = onM w x fun m => kw .non (w.put x (m.cnt 9 v)) := e_cnt rfl
theorem onM_is {m : Mach} {km : Mach → Prop} (h : w.ms[x]? = some m) : onM w x km = km m := by unfold onM; rw [h]
theorem put_at {m m' : Mach} (h : w.ms[x]? = some m) : (w.put x m').ms[x]? = some m' := by
  show (w.ms.set x m')[x]? = _
  exact List.getElem?_set_self (List.getElem?_eq_some_iff.mp h).1
theorem put_put {m m' : Mach} : (w.put x m).put x m' = w.put x m' := by
  unfold Wld.put; simp
theorem put_self {m : Mach} (h : w.ms[x]? = some m) : w.put x m = w := by
  unfold Wld.put
  obtain ⟨h1, h2⟩ := List.getElem?_eq_some_iff.mp h
  have : w.ms.set x m = w.ms := by rw [← h2]; exact List.set_getElem_self h1
  rw [this]
theorem onM_put {m m' : Mach} {km : Mach → Prop} (h : w.ms[x]? = some m) : onM (w.put x m') x km = km m' := onM_is (put_at h)
end
theorem ite_2 {p A B : Prop} [Decidable p] (ha : p → A) (hb : ¬ p → B) : if p then A else B := by
  by_cases h1 : p
  · rw [if_pos h1]; exact ha h1
  · rw [if_neg h1]; exact hb h1
theorem lp_ind {g : PG} {b : PS} {D : PEnds} {ds : List Dat} {e : Env} {w : Wld} (Iv : Nat → Env → Wld → Prop) (h0 : Iv 0 e w)
    (hs : ∀ (i : Nat) (d : Dat) (e : Env) (w : Wld) (nx : Env → Wld → Prop), ds[i]? = some d → Iv i e w → (∀ e w, Iv (i + 1) e w → nx e w) → g d e w fun e w => b ⟨nx, D.rt, D.nx, nx⟩ e w)
    (hd : ∀ e w, Iv ds.length e w → D.nx e w) : lp g b D ds e w := by
  have key : ∀ n i e w, n + i = ds.length → Iv i e w → lp g b D (ds.drop i) e w := by
    intro n
    induction n with
    | zero =>
      intro i e w hi hI
      have : i = ds.length := by omega
      subst this
      rw [List.drop_length]
      exact hd e w hI
    | succ n ih =>
      intro i e w hi hI
      have hlt : i < ds.length := by omega
      rw [List.drop_eq_getElem_cons hlt]
      exact hs i _ e w _ (List.getElem?_eq_getElem hlt) hI fun e w h => ih (i + 1) e w (by omega) h
  exact key ds.length 0 e w rfl h0
theorem lcp_ind {g : PG} {t : PT} {a : PE} {vs : List Nat} {k : List Dat → Env → Wld → Prop} {ds : List Dat} {e : Env} {w : Wld} (Iv : Nat → List Dat → Env → Wld → Prop) (h0 : Iv 0 [] e w)
    (hs : ∀ (i : Nat) (d : Dat) (acc : List Dat) (e : Env) (w : Wld) (nx : List Dat → Env → Wld → Prop), ds[i]? = some d → Iv i acc e w → (∀ acc e w, Iv (i + 1) acc e w → nx acc e w) →
      g d e w fun e w => t e w fun b e w => if b = true then a e w fun y e w => acc.length < sizeLine ∧ nx (acc ++ [y]) (wip e vs) w else nx acc (wip e vs) w)
    (hd : ∀ acc e w, Iv ds.length acc e w → k acc e w) : lcp g t a vs k ds [] e w := by
  have key : ∀ n i acc e w, n + i = ds.length → Iv i acc e w → lcp g t a vs k (ds.drop i) acc e w := by
    intro n
    induction n with
    | zero =>
      intro i acc e w hi hI
      have : i = ds.length := by omega
      subst this
      rw [List.drop_length]
      exact hd acc e w hI
    | succ n ih =>
      intro i acc e w hi hI
      have hlt : i < ds.length := by omega
      rw [List.drop_eq_getElem_cons hlt]
      exact hs i _ acc e w (fun acc e w => lcp g t a vs k (ds.drop (i + 1)) acc e w) (List.getElem?_eq_getElem hlt) hI fun acc e w h => ih (i + 1) acc e w (by omega) h
  exact key ds.length 0 [] e w rfl h0
theorem whl_ind {c : PT} {b : PS} {D : PEnds} {e : Env} {w : Wld} (Iv : Nat → Env → Wld → Prop) (m : Nat) (h0 : Iv m e w)
    (hs : ∀ (m : Nat) (e : Env) (w : Wld) (nx : Env → Wld → Prop), Iv m e w → (∀ m' e w, m' < m → Iv m' e w → nx e w) → c e w fun t e w => if t = true then b ⟨nx, D.rt, D.nx, nx⟩ e w else D.nx e w) : pWhile c b D e w := by
  have key : ∀ n m e w, m < n → Iv m e w → whl c b D n e w := by
    intro n
    induction n with
    | zero => intro m e w h _; omega
    | succ n ih => intro m e w h hI; exact hs m e w _ hI fun m' e w hm h' => ih m' e w (by omega) h'
  exact ⟨m + 1, key (m + 1) m e w (Nat.lt_succ_self m) h0⟩
theorem lif_len {K : PySem.W.Frag} {c : Pc} {P : PSp} {n : Nat} {vs : List V} {H : Hp} {Q : VK} {E : XK} (hP : ∀ ds w k, P ds w k → ds.length = n) (h : lif K c P vs H Q E) : vs.length = n := by
  obtain ⟨g, w, ds, k, _, r, hp, _⟩ := h
  rw [r.length]; exact hP ds w k hp
end Pu
namespace Pu
open PySem L2 Eng
def Mo (p : PE) : Prop := ∀ (e : Env) (w : Wld) (k k' : PQ), (∀ d e w, k d e w → k' d e w) → p e w k → p e w k'
def MoF (p : PF) : Prop := ∀ (e : Env) (w : Wld) (k k' : List Dat → Env → Wld → Prop), (∀ d e w, k d e w → k' d e w) → p e w k → p e w k'
def MoT (p : PT) : Prop := ∀ (e : Env) (w : Wld) (k k' : Bool → Env → Wld → Prop), (∀ d e w, k d e w → k' d e w) → p e w k → p e w k'
def MoA (p : PA) : Prop := ∀ (e : Env) (w : Wld) (k k' : List Dat → Env → Wld → Prop), (∀ d e w, k d e w → k' d e w) → p e w k → p e w k'
def MoQ (q : Q2) : Prop := ∀ (x y : Dat) (k k' : Dat → Prop), (∀ d, k d → k' d) → q x y k → q x y k'
section
variable {a b : PE} {c d : PT} {r : PA} {q : Q2} {i : Nat} {x : Dat} {P : PSp}
theorem mo_var : Mo (pVar i) := fun e w k k' h hp => by
  rw [eVar] at hp ⊢
  unfold vOf at hp ⊢
  split
  · rename_i z
    rw [z] at hp; exact h _ _ _ hp
  · rename_i z
    split at hp
    · rename_i z'; exact (z _ z').elim
    · exact hp
theorem mo_c : Mo (pC x) := fun e w k k' h hp => h _ _ _ hp
theorem mo_op (hq : MoQ q) (ha : Mo a) (hb : Mo b) : Mo (pOp q a b) := fun e w k k' h hp => ha _ _ _ _ (fun x e w hx => hb _ _ _ _ (fun y e w hy => hq _ _ _ _ (fun z hz => h _ _ _ hz) hy) hx) hp
theorem mo_neg (ha : Mo a) : Mo (pUn qNeg a) := fun e w k k' h hp => ha _ _ _ _ (fun x e w hx => by
  cases x with
  | int n => exact h _ _ _ hx
  | _ => exact hx.elim) hp
theorem mo_test (ha : Mo a) : MoT (pTest a) := fun e w k k' h hp => ha _ _ _ _ (fun x e w hx => by
  cases x with
  | bl n => exact h _ _ _ hx
  | _ => exact hx.elim) hp
theorem mo_not (hc : MoT c) : MoT (pNot c) := fun e w k k' h hp => hc _ _ _ _ (fun x e w hx => h _ _ _ hx) hp
theorem mo_and (hc : MoT c) (hd : MoT d) : MoT (pAnd c d) := fun e w k k' h hp => hc _ _ _ _ (fun x e w hx => by
  split
  · rename_i z; rw [if_pos z] at hx; exact hd _ _ _ _ h hx
  · rename_i z; rw [if_neg z] at hx; exact h _ _ _ hx) hp
theorem mo_or (hc : MoT c) (hd : MoT d) : MoT (pOr c d) := fun e w k k' h hp => hc _ _ _ _ (fun x e w hx => by
  split
  · rename_i z; rw [if_pos z] at hx; exact h _ _ _ hx
  · rename_i z; rw [if_neg z] at hx; exact hd _ _ _ _ h hx) hp
theorem mo_if (hc : MoT c) (ha : Mo a) (hb : Mo b) : Mo (pIf c a b) := fun e w k k' h hp => hc _ _ _ _ (fun x e w hx => by
  split
  · rename_i z; rw [if_pos z] at hx; exact ha _ _ _ _ h hx
  · rename_i z; rw [if_neg z] at hx; exact hb _ _ _ _ h hx) hp
theorem mo_nil : MoA pNil := fun e w k k' h hp => h _ _ _ hp
theorem mo_cons (ha : Mo a) (hr : MoA r) : MoA (pCons a r) := fun e w k k' h hp => ha _ _ _ _ (fun x e w hx => hr _ _ _ _ (fun y e w hy => h _ _ _ hy) hx) hp
theorem mo_tup (hr : MoA r) : Mo (pTup r) := fun e w k k' h hp => hr _ _ _ _ (fun x e w hx => ⟨hx.1, h _ _ _ hx.2⟩) hp
theorem mo_fz {f : PF} (hf : MoF f) : Mo (pFz f) := fun e w k k' h hp => hf _ _ _ _ (fun x e w hx => h _ _ _ hx) hp
theorem mo_lst (hr : MoA r) : MoF (pLst r) := fun e w k k' h hp => hr _ _ _ _ (fun x e w hx => ⟨hx.1, h _ _ _ hx.2⟩) hp
theorem moq_I {C : Int → Int → Prop} {g : Int → Int → Dat} : MoQ (qI C g) := fun x y k k' h hq => by
  cases x with
  | int i =>
    cases y with
    | int j => exact ⟨hq.1, h _ hq.2⟩
    | _ => exact hq.elim
  | _ => exact hq.elim
theorem moq_I0 {g : Int → Int → Dat} : MoQ (qI0 g) := fun x y k k' h hq => by
  cases x with
  | int i =>
    cases y with
    | int j => exact h _ hq
    | _ => exact hq.elim
  | _ => exact hq.elim
theorem moq_eq : MoQ qEq := fun x y k k' h hq => by
  cases x <;> cases y <;> first | exact h _ hq | exact hq.elim
theorem moq_ne : MoQ qNe := fun x y k k' h hq => by
  cases x <;> cases y <;> first | exact h _ hq | exact hq.elim
end
def P_law0 : PSp := fun ds w k => match ds with
  | [.cst l] => ∃ ns : List Int, l = ns.map Dat.int ∧ ns.length ≤ 63 ∧ ∀ w', k (.bl true) w'
  | _ => False
theorem law_lif {K : PySem.W.Frag} {c : Pc} {vs : List V} {H : Hp} {Q : VK} {E : XK} (NT : c.ts = []) (h : sp_law0 K vs H Q E) : lif K c P_law0 vs H Q E := by
  obtain ⟨a, ns, rfl, hs, hl, hq⟩ := h
  refine ⟨⟨H, [], [], [], []⟩, ⟨[], 0, []⟩, [.cst (ns.map Dat.int)], fun d _ => d = .bl true, ⟨fun _ _ h => h, List.nodup_nil, (fun _ h => nomatch h), rfl, (fun i q m h => by simp at h), (fun _ h => nomatch h), rfl, rfl, (fun i q m h => by simp at h), (fun _ h => nomatch h), NT.symm⟩, .cons (.cst hs (Reps.ofInts ns)) .nil, ⟨ns, rfl, hl, fun _ => rfl⟩, fun v d g' H' w' _ _ r hd => ?_⟩
  subst hd
  rw [r.blI]
  exact hq H'
theorem cut_all {P : Dat → Prop} {l : List Dat} (h : ∀ d ∈ l, P d) (lo hi : Option Int) : ∀ d ∈ cutD l lo hi, P d := fun d hd => h d (List.mem_of_mem_drop (List.mem_of_mem_take hd))
theorem cut_len {l : List Dat} (lo hi : Option Int) : (cutD l lo hi).length ≤ l.length := by
  unfold cutD
  rw [List.length_take, List.length_drop]; omega
end Pu
namespace Pu
open PySem L2 Eng
def P_U : PSp := fun ds w k => match ds with
  | [.mach i, .str s, .int m, .int n] => onM w i fun M => k .non (w.put i (M.ent s m n))
  | _ => False
theorem e_Bg {x : Nat} {s : Str} {m n : Int} {w : Wld} {kw : Dat → Wld → Prop} : P_U [.mach x, .str s, .int m, .int n] w kw = onM w x fun M => kw .non (w.put x (M.ent s m n)) := rfl
def pSlT (a : PE) (lo hi : PO) : PE := fun e w k => a e w fun x e w => lo e w fun l e w => hi e w fun u e w => tupOf x fun ds => k (.tup (cutD ds l u)) e w
section
variable {K : PySem.W.Frag} {c : Pc} {ta tb : TE} {pa pb : PE}
theorem four_arg {g : Gh} {vs : List V} {d e f f' : Dat} (r : Reps K c g vs [d, e, f, f']) : ∃ v v' v'' v3, vs = [v, v', v'', v3] ∧ Rep K c g v d ∧ Rep K c g v' e ∧ Rep K c g v'' f ∧ Rep K c g v3 f' := by
  cases r with
  | cons r t =>
    obtain ⟨v, v', v'', rfl, h, h', h''⟩ := three_arg t
    exact ⟨_, _, _, _, rfl, r, h, h', h''⟩
theorem u_U : SndP K c (sp_U K c) P_U := by
  intro g H w vs ds k Q E W r h hQ
  unfold P_U at h
  split at h
  · rename_i i s m n
    obtain ⟨M, hM, h⟩ := onM_of h
    obtain ⟨a, b, d, d', rfl, r1, r2, r3, r4⟩ := four_arg r
    obtain ⟨q, m', dx, hq, hm', rfl, hi, R⟩ := W.ins r1
    rw [hM] at hm'; cases hm'
    obtain ⟨ws, hw1, hw2⟩ := R.wlk
    have hlen : ws.length = M.walk.length := by rw [hw2.length, List.length_map]
    have hfew := R.few
    refine ⟨q.1, dx, M.b, M.cut, q.2.1, q.2.2, ws, s, m, n, by rw [r2.strI, r3.intI, r4.intI], hi, hw1, by omega, fun hlt p H' ch => ?_, fun hge => ?_⟩
    · obtain ⟨W', A⟩ := W.goM (fr := [(p, .tup [.str s, .int m, .int n])]) (m := M.ent s m n) hq ch (fun a ha => .inr (List.mem_singleton.mp ha)) (fun q hq => by rw [List.mem_singleton.mp hq]; exact ⟨_, ch.chg List.mem_cons_self⟩) (fun _ z => z) fun le => by
        obtain ⟨dx, hin⟩ := R.ins
        refine ⟨⟨dx, le.G _ _ hin⟩, ch.keep _ _ R.cnt (fun z => W.de hq hq (List.mem_singleton.mp z)), R.ten, ⟨_, ch.chg List.mem_cons_self, ?_⟩, ?_⟩
        · show Reps K c _ (ws ++ [.ref p]) ((if M.walk.length < 1000 then M.walk ++ [(s, m, n)] else M.walk).map dW)
          rw [if_pos (by omega), List.map_append]
          exact (hw2.mono le).app (.cons (.tup (gAdd_in (q := (p, HO.tup [.str s, .int m, .int n])) ch.nd List.mem_cons_self) (.cons (.str _) (.cons (.int _) (.cons (.int _) .nil)))) .nil)
        · show (if M.walk.length < 1000 then M.walk ++ [(s, m, n)] else M.walk).length ≤ 1000
          rw [if_pos (by omega), List.length_append]
          simp only [List.length_cons, List.length_nil]; omega
      exact hQ .non .non _ H' _ A W' .non h
    · have e : M.ent s m n = M := by unfold Mach.ent; rw [if_neg (by omega)]
      rw [e, put_self hM] at h
      exact hQ .non .non g H w (Aft.refl _ _) W .non h
  · exact h.elim
theorem ItD.enumT {g : Gh} {a : Addr} {vs : List V} {l : List Dat} (h : SqT K g.G a vs) (r : Reps K c g vs l) : ItD K c (IteT K a) g (enm 0 l) where
  go := fun X F σ s i d le I hd => by
    obtain ⟨x, hx, rfl⟩ := enm_get hd
    obtain ⟨v, hv, rv⟩ := r.get hx
    have hs : SqT K s.H a vs := sqT_mono I.wr.sub (sqT_mono le.G h)
    refine ⟨⟨vs, v, hs, hv⟩, fun z H' ⟨T, z1, e, hT, e2, q1⟩ => ?_⟩
    have e3 := q1 vs hs
    rw [hv] at e3; cases e3
    have le2 := gUpd_le (o := .tup [.int (i : Nat), v]) (I.offG hT)
    refine ⟨⟨gUpd s.g T (.tup [.int (i : Nat), v]), upd s.H T (.tup [.int (i : Nat), v]), s.e, s.w, s.os⟩, e2.symm, le2, I.newG hT, rfl, rfl, ?_⟩
    rw [e, Nat.zero_add]
    exact .tup (show upd s.g.G T _ T = _ from upd_same) (.cons (.int _) (.cons ((rv.mono le).mono le2) .nil))
  stop := fun X F σ s le I => ⟨vs, sqT_mono I.wr.sub (sqT_mono le.G h), by rw [r.length, enm_len]; exact Nat.le_refl _⟩
theorem snd_iEnumA (ha : SndE K c ta pa) : SndI K c (iEnumA K (tCons ta tNil)) (pIEnum pa) := by
  intro X F σ s k R I h hR
  refine ha X F σ s _ _ I h fun x dx s1 l1 I1 r1 h1 => ?_
  cases r1 with
  | lst h2 r2 => exact ⟨_, _, rfl, .inl ⟨SqL.of (I1.wr.sub _ _ h2), hR _ _ s1 l1 I1 (ItD.enum (SqL.of h2) r2) h1⟩⟩
  | cst h2 r2 => exact ⟨_, _, rfl, .inl ⟨sqL_mono I1.wr.sub h2, hR _ _ s1 l1 I1 (ItD.enum h2 r2) h1⟩⟩
  | tup h2 r2 => exact ⟨_, _, rfl, .inr ⟨SqT.of (I1.wr.sub _ _ h2), hR _ _ s1 l1 I1 (ItD.enumT (SqT.of h2) r2) h1⟩⟩
  | _ => exact h1.elim
end
end Pu
namespace Pu
open PySem L2 Eng
def qDivmod : QL
  | [.int i, .int j], k => oDiv i j ∧ k (.tup [.int (i / j), .int (i % j)])
  | _, _ => False
def qAnyT : QL
  | [.tup l], k => ∃ ns : List Int, l = ns.map Dat.int ∧ k (.bl (ns.any fun n => n != 0))
  | _, _ => False
def pExtend (i : Nat) (a : PE) : PS := fun D e w => ownAt e i fun _ _ => a e w fun d e w => match d with
  | .lst zs => ownAt e i fun f l => l.length + zs.length ≤ sizeLine ∧ D.nx (e.set i (.own f (l ++ zs))) w
  | _ => False
def pIA (a : PE) : PA := fun e w k => a e w fun d e w => seqOf d fun l => k l e w
def dP (p : Str × Int) : Dat := .tup [.str p.1, .int p.2]
def qDict : QL
  | [.lst l], k => ∃ prs : List (Str × Int), l = prs.map dP ∧ (prs.map (·.1)).Nodup ∧ k (.dic prs)
  | _, _ => False
/-- the same pairs -/
def EqDs (l l' : List (Str × Int)) : Prop := l.length = l'.length ∧ (l'.map (·.1)).Nodup ∧ ∀ p ∈ l, p ∈ l'
def qEqDA : Q2
  | .dic l, .dic l', k => EqDs l l' ∧ k (.bl true)
  | _, _, _ => False
def pos (l : List (Str × Int)) : List (Str × Int) := l.filter fun p => decide (0 < p.2)
def pPosD : PE := fun e w k => match e with
  | [_, .val (.dic l), _, _, _, _, _, _] => ((l.map (·.1)).Nodup ∧ l.length < 100) ∧ k (.dic (pos l)) e w
  | _ => False
theorem dKs_nd {l : List (Str × Int)} (h : (l.map (·.1)).Nodup) : ((dKs l).map (·.1)).Nodup := by
  have e2 : (dKs l).map (·.1) = (l.map (·.1)).map fun z => (Sum.inr z : Key) := by unfold dKs; simp
  rw [e2]
  exact List.Pairwise.map (fun z => (Sum.inr z : Key)) (fun a b hne e => hne (Sum.inr.inj e)) h
section
variable {K : PySem.W.Frag} {c : Pc}
theorem prs_of {g : Gh} {H : Hp} (sub : ∀ a o, g.G a = some o → H a = some o) : ∀ {prs : List (Str × Int)} {ws : List V}, Reps K c g ws (prs.map dP) → ∃ ps : List Addr, ws = ps.map V.ref ∧ Paired (fun p kv => SqT K H p [kV kv.1, kv.2]) ps (dKs prs)
  | [], _, .nil => ⟨[], rfl, .nil⟩
  | q :: prs, _, .cons r rs => by
    obtain ⟨ps, rfl, h⟩ := prs_of sub rs
    unfold dP at r
    cases r with
    | tup h1 r1 =>
      cases r1 with
      | cons r2 r3 =>
        cases r3 with
        | cons r4 r5 =>
          cases r5
          cases r2
          cases r4
          exact ⟨_ :: ps, rfl, .cons (SqT.of (sub _ _ h1)) h⟩
theorem s_dict : SndRL K c (rDict K) qDict := by
  intro X F σ s vs ds k Q I r h hQ
  unfold qDict at h
  split at h
  · replace r := one_of r
    obtain ⟨v, rfl, r⟩ := r
    obtain ⟨prs, rfl, hn, h⟩ := h
    obtain ⟨a, ws, rfl, hH, hR⟩ := r.lst I
    obtain ⟨ps, rfl, hp⟩ := prs_of I.wr.sub hR
    refine ⟨a, ps, dKs prs, rfl, SqL.of hH, hp, fun p hp => ?_⟩
    rw [mergeK_nil (dKs_nd hn)]
    have le := gUpd_le (o := .dK (dKs prs)) (I.offG hp)
    exact hQ _ _ ⟨gUpd s.g p (.dK (dKs prs)), upd s.H p (.dK (dKs prs)), s.e, s.w, s.os⟩ le (I.newG hp) rfl rfl (.dic (show upd s.g.G p _ p = _ from upd_same)) h
  · exact h.elim
theorem RepW.dic {s : Cf} {v : V} {l : List (Str × Int)} {X : En} {F : List (Addr × HO)} {σ : L2.St} (I : In K c X F σ s) (h : RepW K c s v (.dic l)) : ∃ a, v = .ref a ∧ s.H a = some (.dK (dKs l)) := by
  rcases h with h | ⟨_, _, _, _, e, _⟩
  · cases h with
    | dic h => exact ⟨_, rfl, I.wr.sub _ _ h⟩
  · cases e
def P_G : PSp := fun ds w k => match ds with
  | [.int _] => k (.bl true) w
  | _ => False
theorem u_G : SndP K c (sp_G K c) P_G := by
  intro g H w vs ds k Q E W r h hQ
  unfold P_G at h
  split at h
  · obtain ⟨v, rfl, r1⟩ := one_arg r
    cases r1
    exact ⟨_, true, rfl, .inl ⟨_, rfl, rfl⟩, hQ _ _ g H w (Aft.refl _ _) W (.bl _) h⟩
  · exact h.elim
end
theorem e_G {n : Int} {w : Wld} {k : Dat → Wld → Prop} : P_G [.int n] w k = k (.bl true) w := rfl
section
variable {kd : Dat → Prop} {kq : PQ} {w : Wld}
theorem eDivmod {i j : Int} : qDivmod [.int i, .int j] kd = (oDiv i j ∧ kd (.tup [.int (i / j), .int (i % j)])) := rfl
theorem eAnyT {l : List Dat} : qAnyT [.tup l] kd = ∃ ns : List Int, l = ns.map Dat.int ∧ kd (.bl (ns.any fun n => n != 0)) := rfl
theorem eDict {l : List Dat} : qDict [.lst l] kd = ∃ prs : List (Str × Int), l = prs.map dP ∧ (prs.map (·.1)).Nodup ∧ kd (.dic prs) := rfl
theorem eEqDA {l l' : List (Str × Int)} : qEqDA (.dic l) (.dic l') kd = (EqDs l l' ∧ kd (.bl true)) := rfl
theorem ePosD {x0 x2 x3 x4 x5 x6 x7 : Slot} {l : List (Str × Int)} : pPosD [x0, .val (.dic l), x2, x3, x4, x5, x6, x7] w kq = (((l.map (·.1)).Nodup ∧ l.length < 100) ∧ kq (.dic (pos l)) [x0, .val (.dic l), x2, x3, x4, x5, x6, x7] w) := rfl
end
end Pu
namespace Pu
open PySem L2 Eng
/-- free of lists -/
def lf : Dat → Prop
  | .int _ => True
  | .bl _ => True
  | .str _ => True
  | .non => True
  | _ => False
def noOwn : Env → Prop
  | [] => True
  | .no :: e => noOwn e
  | .val _ :: e => noOwn e
  | _ :: _ => False
/-- what a name with a list of its own is, looked at -/
def bview (e : Env) (i : Nat) (k : Dat → Prop) : Prop := match e[i]? with
  | some (.own true l) => k (.lst l)
  | some (.ownT l r) => k (.tup (.lst l :: r))
  | _ => False
def pBor (i : Nat) (p : PE) : PE := fun e w k => noOwn (e.set i .no) ∧ bview e i fun d => p (e.set i (.val d)) w fun v e' w' => lf v ∧ e' = e.set i (.val d) ∧ w'.os = [] ∧ k v e w'
def pBorT (i : Nat) (p : PT) : PT := fun e w k => noOwn (e.set i .no) ∧ bview e i fun d => p (e.set i (.val d)) w fun v e' w' => e' = e.set i (.val d) ∧ w'.os = [] ∧ k v e w'
section
variable {K : PySem.W.Frag} {c : Pc} {X : En} {F : List (Addr × HO)} {σ : L2.St} {s s1 : Cf} {g g1 : Gh} {H : Hp} {w : Wld} {a : Addr} {vs : List V} {i : Nat} {ta tb : TE} {pa pb : PE} {tT : TT} {pT : PT} {tr : TA} {pr : PA} {sp : Sp} {P : PSp} {E : XK} {ts tu : TS} {ps pu : PS}
def ownTAt (e : Env) (i : Nat) (k : List Dat → List Dat → Prop) : Prop := match e[i]? with | some (.ownT l r) => k l r | _ => False
/-- x[0].append(y) of a told tuple x -/
def pAppT (i : Nat) (a : PE) : PS := fun D e w => ownTAt e i fun _ _ => a e w fun d e w => ownTAt e i fun l r => l.length < sizeLine ∧ D.nx (e.set i (.ownT (l ++ [d]) r)) w
def lifS (K : PySem.W.Frag) (c : Pc) (P : PSp) : Sp := fun vs H Q _ => ∃ (g : Gh) (w : Wld) (ds : List Dat) (k : Dat → Wld → Prop), Wr K c g H w ∧ Reps K c g vs ds ∧ P ds w k ∧
  ∀ p a us ws l r g' H' w', Aft g H g' H' → Wr K c g' H' w' → H a = none → g'.G a = none → a ∉ g'.mu → H' a = some (.lst ws) → Reps K c g' ws l → g'.G p = some (.tup (.ref a :: us)) → Reps K c g' us r → k (.tup (.lst l :: r)) w' → Q (.ref p) H'
/-- behind a call that tells a list -/
theorem In.callH (I : In K c X F σ s) {g' : Gh} {H' : Hp} {w' : Wld} {ws : List V} (A : Aft s.g s.H g' H') (W : Wr K c g' H' w') (ha : s.H a = none) (hg : g'.G a = none) (hm : a ∉ g'.mu) (hH : H' a = some (.lst ws)) : In K c X ((a, .lst ws) :: F) σ ⟨g', H', s.e, w', s.os⟩ := by
  have I1 := I.call A W
  have hn : a ∉ (⟨g', H', s.e, w', s.os⟩ : Cf).mu F := fun z => by
    rcases List.mem_append.mp z with z | z
    · exact hm z
    · obtain ⟨o, e⟩ := I.al (List.mem_append_right _ z)
      rw [ha] at e; cases e
  have hp := mu_cons (⟨g', H', s.e, w', s.os⟩ : Cf) (a, .lst ws) F
  refine ⟨W, hp.nodup_iff.mpr (List.nodup_cons.mpr ⟨hn, I1.nd⟩), fun b hb => ?_, I1.len, I1.env, fun q hq => ?_, I1.oal, I1.le, I1.keep, I1.frz, fun b hb => ?_, I1.dom⟩
  · rcases List.mem_cons.mp (hp.mem_iff.mp hb) with z | z
    · rw [z]; exact hg
    · exact I1.off b z
  · rcases List.mem_cons.mp hq with rfl | hq
    · exact hH
    · exact I1.held q hq
  · rcases List.mem_cons.mp (hp.mem_iff.mp hb) with z | z
    · rw [z]; exact .inr (.inr (I.fresh ha))
    · exact I1.new b z
def tldOf : Dat → (List Dat → List Dat → Prop) → Prop
  | .tup (.lst l :: r), k => k l r
  | _, _ => False
/-- x = f(..), told -/
def pAsgT (P : PSp) (a : PA) (i : Nat) : PS := fun D e w => a e w fun ds e w => P ds w fun d w => tldOf d fun l r => D.nx (e.set i (.ownT l r)) w
/-- x, y = f(..), z -/
def pParT (P : PSp) (a : PA) (b : PE) (i j : Nat) : PS := fun D e w => a e w fun ds e w => P ds w fun d w => tldOf d fun l r => b e w fun d2 e w => D.nx ((e.set i (.ownT l r)).set j (.val d2)) w
/-- x, y = z, z told -/
def pTake (i x y : Nat) : PS := fun D e w => noOwn (e.set i .no) ∧ ownTAt e i fun l r => match r with
  | [d] => D.nx (((e.set i .no).set x (.own true l)).set y (.val d)) w
  | _ => False
structure SEndsS (K : PySem.W.Frag) (c : Pc) (X : En) (F : List (Addr × HO)) (g : Gh) (D : Ends) (Dp : PEnds) : Prop where
  rt : ∀ σ s p a us ws l r, g.le s.g → In K c X ((a, .lst ws) :: F) σ s → X.H a = none → s.g.G p = some (.tup (.ref a :: us)) → Reps K c s.g us r → Reps K c s.g ws l → Dp.rt (.tup (.lst l :: r)) s.e s.w → D.rt (.ref p) s.H
theorem SEndsS.mono {D : Ends} {Dp : PEnds} {g' : Gh} (h : SEndsS K c X F g D Dp) (le : g.le g') : SEndsS K c X F g' D Dp := ⟨fun σ s p a us ws l r l' => h.rt σ s p a us ws l r (le.trans l')⟩
def pSeqN (a b : PS) : PS := fun D e w => a ⟨b D, fun _ _ _ => False, fun _ _ => False, fun _ _ => False⟩ e w
def pRetT (f : PF) (b : PE) : PS := fun D e w => f e w fun l e w => b e w fun d e w => 2 ≤ sizeLine ∧ D.rt (.tup [.lst l, d]) e w
def pRetO (i : Nat) (b : PE) : PS := fun D e w => ownAt e i fun _ _ => b e w fun d e w => ownAt e i fun f l => (f = true ∧ noOwn (e.set i .no)) ∧ 2 ≤ sizeLine ∧ D.rt (.tup [.lst l, d]) (e.set i .no) w
def pRetC (P : PSp) (a : PA) : PS := fun D e w => a e w fun ds e w => P ds w fun d w => tldOf d fun l r => D.rt (.tup (.lst l :: r)) e w
theorem lifS_len {n : Nat} {us : List V} {Q : VK} (hP : ∀ ds w k, P ds w k → ds.length = n) (h : lifS K c P us H Q E) : us.length = n := by
  obtain ⟨g, w, ds, k, _, r, hp, _⟩ := h
  rw [r.length]; exact hP ds w k hp
/-- of a plain thing: the name of its type -/
def tyN : Dat → Option String
  | .int _ => some "int"
  | .bl _ => some "bool"
  | .str _ => some "str"
  | .lst _ => some "list"
  | .tup _ => some "tuple"
  | _ => none
def qIsi : QL
  | [d, .opq (.ty t)], k => ∃ a b, tyN d = some a ∧ kitB a t = some b ∧ k (.bl b)
  | _, _ => False
theorem s_isi : SndRL K c (rIsi K) qIsi := by
  intro X F σ s vs ds k Q I r h hQ
  unfold qIsi at h
  split at h
  · rename_i d t
    obtain ⟨v, v', rfl, r1, r2⟩ : ∃ v v', vs = [v, v'] ∧ RepW K c s v d ∧ RepW K c s v' (.opq (.ty t)) := by
      cases r with
      | cons q1 q =>
        cases q with
        | cons q2 q' =>
          cases q'
          exact ⟨_, _, rfl, q1, q2⟩
    obtain ⟨a, b, ht, hk, h⟩ := h
    have e2 : v' = .ty t := by
      rcases r2 with r2 | ⟨_, _, _, _, e, _⟩
      · cases r2; rfl
      · cases e
    subst e2
    have ty : TyX K s.H v (.type a) := by
      cases d with
      | int n => cases ht; rw [r1.int]; exact .base (.int n)
      | bl n => cases ht; rw [r1.bl]; exact .base (.bl n)
      | str n => cases ht; rw [r1.str]; exact .base (.str n)
      | lst l =>
        cases ht
        obtain ⟨x, ws, rfl, hH, _⟩ := r1.lst I
        exact .base (.lst hH)
      | tup l =>
        cases ht
        rcases r1 with r1 | ⟨_, _, _, _, e, _⟩
        · cases r1 with
          | tup h1 _ => exact .base (.tup (I.wr.sub _ _ h1))
        · cases e
      | _ => cases ht
    exact isi_ty ty hk (hQ _ _ s (Gh.le.refl _) I rfl rfl (.bl _) h)
  · exact h.elim
def bvO (o : Option Slot) (k : Dat → Prop) : Prop := match o with
  | some (.own true l) => k (.lst l)
  | some (.ownT l r) => k (.tup (.lst l :: r))
  | _ => False
variable {l r : List Dat} {k : Dat → Prop} {kk : List Dat → List Dat → Prop} {e : Env} {d : Dat} {n : Int} {b : Bool}
theorem eBv : bview e i k = bvO e[i]? k := rfl
theorem eBv1 : bvO (some (.own true l)) k = k (.lst l) := rfl
theorem eBv2 : bvO (some (.ownT l r)) k = k (.tup (.lst l :: r)) := rfl
def otO (o : Option Slot) (k : List Dat → List Dat → Prop) : Prop := match o with | some (.ownT l r) => k l r | _ => False
theorem eOt : ownTAt e i kk = otO e[i]? kk := rfl
theorem eOt1 : otO (some (.ownT l r)) kk = kk l r := rfl
theorem eNo0 : noOwn [] = True := rfl
theorem eNo1 : noOwn (.no :: e) = noOwn e := rfl
theorem eNo2 : noOwn (.val d :: e) = noOwn e := rfl
theorem eTld : tldOf (.tup (.lst l :: r)) kk = kk l r := rfl
theorem eIsi {t : String} : qIsi [d, .opq (.ty t)] k = ∃ a b, tyN d = some a ∧ kitB a t = some b ∧ k (.bl b) := rfl
theorem eLf1 : lf (.int n) = True := rfl
theorem eLf2 : lf (.bl b) = True := rfl
end
end Pu
namespace Pu
open PySem L2 Eng
/-- what a call leaves that may change the list at a -/
structure AftO (a : Addr) (g : Gh) (H : Hp) (g' : Gh) (H' : Hp) : Prop where
  le : g.le g'
  keep : ∀ x o, H x = some o → x ∉ g.mu → x ≠ a → H' x = some o
  frz : ∀ x o, H x = some o → g'.G x = g.G x
  new : ∀ x ∈ g'.mu, x ∈ g.mu ∨ H x = none
  dom : ∀ x o, H x = some o → ∃ o', H' x = some o'
/-- a promise with the caller's list as the first argument -/
def SndPO (K : PySem.W.Frag) (c : Pc) (sp : Sp) (P : PSpO) : Prop := ∀ (g : Gh) (H : Hp) (w : Wld) (a : Addr) (ws : List V) (l : List Dat) (vs : List V) (ds : List Dat) (k : Dat → List Dat → Wld → Prop) (Q : VK) (E : XK),
  Wr K c g H w → H a = some (.lst ws) → g.G a = none → a ∉ g.mu → Reps K c g ws l → Reps K c g vs ds → P ds l w k →
  (∀ v d ws' l' g' H' w', AftO a g H g' H' → Wr K c g' H' w' → H' a = some (.lst ws') → Reps K c g' ws' l' → Rep K c g' v d → k d l' w' → Q v H') → sp (.ref a :: vs) H Q E
def lifO (K : PySem.W.Frag) (c : Pc) (P : PSpO) : Sp := fun us H Q _ => ∃ (g : Gh) (w : Wld) (a : Addr) (ws : List V) (l : List Dat) (vs : List V) (ds : List Dat) (k : Dat → List Dat → Wld → Prop), us = .ref a :: vs ∧
  Wr K c g H w ∧ H a = some (.lst ws) ∧ g.G a = none ∧ a ∉ g.mu ∧ Reps K c g ws l ∧ Reps K c g vs ds ∧ P ds l w k ∧
  ∀ v d ws' l' g' H' w', AftO a g H g' H' → Wr K c g' H' w' → H' a = some (.lst ws') → Reps K c g' ws' l' → Rep K c g' v d → k d l' w' → Q v H'
section
variable {K : PySem.W.Frag} {c : Pc} {X : En} {F : List (Addr × HO)} {σ : L2.St} {s s1 : Cf} {g g1 : Gh} {H : Hp} {w : Wld} {a : Addr} {vs ws : List V} {i : Nat} {ta tb : TE} {pa pb : PE} {tr : TA} {pr : PA} {sp : Sp} {P : PSp} {O : PSpO} {E : XK} {Q : VK} {l : List Dat}
theorem SndPO.lif : SndPO K c (lifO K c O) O := fun g _ w a ws l vs ds k _ _ h1 h2 h3 h4 h5 h6 h7 h8 => ⟨g, w, a, ws, l, vs, ds, k, rfl, h1, h2, h3, h4, h5, h6, h7, h8⟩
/-- behind a call that may have changed a name's list -/
theorem In.callO (I : In K c X F σ s) {f : Bool} {ws' : List V} {l' : List Dat} {g' : Gh} {H' : Hp} {w' : Wld} (hi : s.e[i]? = some (.own f l)) (ho : (i, a) ∈ s.os) (hs : σ[i]? = some (some (.ref a))) (hf : OwnF X f a)
    (A : AftO a s.g s.H g' H') (W : Wr K c g' H' w') (hH : H' a = some (.lst ws')) (hr : Reps K c g' ws' l') : In K c X F σ ⟨g', H', s.e.set i (.own f l'), w', s.os⟩ := by
  have hmu := I.osMu ho
  have hk : ∀ x ∈ s.os.map (·.2) ++ F.map (·.1), x ≠ a → ∀ o, s.H x = some o → H' x = some o := fun x hx ne o e => A.keep x o e (fun z => (List.nodup_append.mp I.nd).2.2 x z x hx rfl) ne
  have hal : ∀ x ∈ s.os.map (·.2) ++ F.map (·.1), ∃ o, s.H x = some o := fun x hx => I.al (List.mem_append_right _ hx)
  have nF : ∀ q ∈ F, q.1 ≠ a := fun q hq e =>
    (List.nodup_append.mp (List.nodup_append.mp I.nd).2.1).2.2 a (List.mem_map.mpr ⟨_, ho, rfl⟩) q.1 (List.mem_map.mpr ⟨q, hq, rfl⟩) e.symm
  refine ⟨W, ?_, fun x hx => ?_, by show (s.e.set i _).length = _; rw [List.length_set]; exact I.len, fun j z hz => ?_, fun q hq => ?_, fun q hq => ?_, I.le.trans A.le, fun x u e n1 n2 => ?_, fun x u e => ?_, fun x hx => ?_, fun x u e => ?_⟩
  · refine List.nodup_append.mpr ⟨W.nd, (List.nodup_append.mp I.nd).2.1, fun x hx y hy e => ?_⟩
    subst e
    rcases A.new x hx with z | z
    · exact (List.nodup_append.mp I.nd).2.2 x z x hy rfl
    · obtain ⟨o, e⟩ := hal x hy
      rw [z] at e; cases e
  · rcases List.mem_append.mp hx with hx | hx
    · exact W.off x hx
    · obtain ⟨o, e⟩ := hal x hx
      show g'.G x = none
      rw [A.frz x o e]
      exact I.off x (List.mem_append_right _ hx)
  · rcases set_get hz with ⟨rfl, rfl⟩ | ⟨ne, hz'⟩
    · exact ⟨a, ws', hs, ho, hH, hr, hf⟩
    · have h' := I.env j z hz'
      cases z with
      | no => trivial
      | val d => obtain ⟨v, h1, h2⟩ := h'; exact ⟨v, h1, h2.mono A.le⟩
      | own f' dl =>
        obtain ⟨b, us, h1, h2, h3, h4, h5⟩ := h'
        have hb : b ≠ a := fun e => ne (os_inj I.osNd (by rw [← e]; exact h2) ho)
        exact ⟨b, us, h1, h2, hk b (List.mem_append_left _ (List.mem_map.mpr ⟨_, h2, rfl⟩)) hb _ h3, h4.mono A.le, h5⟩
      | ownT dl dr =>
        obtain ⟨p, b, us, xs, h1, h2, h3, h4, h5, h6, h7⟩ := h'
        have hb : b ≠ a := fun e => ne (os_inj I.osNd (by rw [← e]; exact h2) ho)
        exact ⟨p, b, us, xs, h1, h2, A.le.G _ _ h3, h4.mono A.le, hk b (List.mem_append_left _ (List.mem_map.mpr ⟨_, h2, rfl⟩)) hb _ h5, h6.mono A.le, h7⟩
  · exact hk _ (List.mem_append_right _ (List.mem_map.mpr ⟨q, hq, rfl⟩)) (nF q hq) _ (I.held q hq)
  · obtain ⟨o, e⟩ := I.oal q hq
    by_cases hqa : q.2 = a
    · exact ⟨ws', by rw [hqa]; exact hH⟩
    · exact ⟨o, hk _ (List.mem_append_left _ (List.mem_map.mpr ⟨q, hq, rfl⟩)) hqa _ e⟩
  · refine A.keep x u (I.keep x u e n1 n2) (fun z => ?_) fun z => ?_
    · rcases I.new x (List.mem_append_left _ z) with z | z | z
      · exact n1 z
      · exact n2 z
      · rw [z] at e; cases e
    · subst z
      rcases I.new x hmu with z | z | z
      · exact n1 z
      · exact n2 z
      · rw [z] at e; cases e
  · obtain ⟨u', e'⟩ := I.dom x u e
    show g'.G x = _
    rw [A.frz x u' e', I.frz x u e]
  · rcases List.mem_append.mp hx with hx | hx
    · rcases A.new x hx with z | z
      · exact I.new x (List.mem_append_left _ z)
      · exact .inr (.inr (I.fresh z))
    · exact I.new x (List.mem_append_right _ hx)
  · obtain ⟨u', e'⟩ := I.dom x u e
    exact A.dom x u' e'
/-- f(x, ..), x a name with a list of its own, which f may change -/
def pCallO (P : PSpO) (i : Nat) (a : PA) : PE := fun e w k => ownAt e i fun _ _ => a e w fun ds e w => ownAt e i fun f l => P ds l w fun d l' w => k d (e.set i (.own f l')) w
theorem snd_callO (hp : SndPO K c sp O) (hr : SndA K c tr pr) : SndE K c (tCall sp [] E (tCons (tVar i) tr)) (pCallO O i pr) := by
  intro X F σ s k Q I h hQ
  obtain ⟨f0, l0, e0, h⟩ := ownAt_of h
  obtain ⟨a, vs0, hs, _, _, _, _⟩ := I.own e0
  refine ⟨.ref a, hs, ?_⟩
  refine hr X F σ s _ _ I h fun vs ds s1 l1 I1 r1 h1 => ?_
  obtain ⟨f, l, e1, h1⟩ := ownAt_of h1
  obtain ⟨a', ws, hs', ho, hH, hR, hf⟩ := I1.own e1
  rw [hs] at hs'; cases hs'
  rw [List.append_nil]
  refine hp s1.g s1.H s1.w a ws l vs ds _ _ E I1.wr hH (I1.off a (I1.osMu ho)) (I1.osG ho) hR r1 h1 fun v d ws' l' g' H' w' A W hH' hR' r2 h2 => ?_
  exact hQ v d ⟨g', H', s1.e.set i (.own f l'), w', s1.os⟩ (l1.trans A.le) (I1.callO e1 ho hs hf A W hH' hR') r2 h2
def env0O (n : Nat) (l : List Dat) (ds : List Dat) : Env := .own false l :: (ds.map Slot.val ++ List.replicate (n - 1 - ds.length) .no)
theorem In.startO {n : Nat} {ds : List Dat} (hn : ds.length < n) (W : Wr K c g H w) (hH : H a = some (.lst ws)) (hg : g.G a = none) (hm : a ∉ g.mu) (hl : Reps K c g ws l) (r : Reps K c g vs ds) :
    In K c ⟨H, g, [a]⟩ [] (st0 n (.ref a :: vs)) ⟨g, H, env0O n l ds, w, [(0, a)]⟩ := by
  have e : (⟨g, H, env0O n l ds, w, [(0, a)]⟩ : Cf).mu [] = g.mu ++ [a] := rfl
  refine ⟨W, ?_, fun x hx => ?_, ?_, fun i z hz => ?_, (fun q h => nomatch h), fun q hq => ?_, Gh.le.refl _, fun _ _ h _ _ => h, fun _ _ _ => rfl, fun x hx => ?_, fun a o h => ⟨o, h⟩⟩
  · rw [e]
    exact List.nodup_append.mpr ⟨W.nd, by simp, fun x hx y hy z => by rw [List.mem_singleton.mp hy] at z; exact hm (z ▸ hx)⟩
  · rw [e] at hx
    rcases List.mem_append.mp hx with z | z
    · exact W.off x z
    · rw [List.mem_singleton.mp z]; exact hg
  · show (env0O n l ds).length = (st0 n (.ref a :: vs)).length
    unfold env0O st0
    simp only [List.length_cons, List.length_append, List.length_map, List.length_replicate, r.length]
    omega
  · have hz : (env0O n l ds)[i]? = some z := hz
    unfold env0O at hz
    unfold st0
    cases i with
    | zero =>
      cases hz
      exact ⟨a, ws, rfl, List.mem_cons_self, hH, hl, (fun z => nomatch z), fun _ => List.mem_cons_self⟩
    | succ i =>
      simp only [List.getElem?_cons_succ] at hz
      have e3 : n - (V.ref a :: vs).length = n - 1 - ds.length := by rw [List.length_cons, r.length]; omega
      show RSl K c _ _ (i + 1) ((V.ref a :: vs).map some ++ List.replicate (n - (V.ref a :: vs).length) none)[i + 1]? z
      rw [e3]
      simp only [List.map_cons, List.cons_append, List.getElem?_cons_succ]
      have h' := reps_env (X := ⟨H, g, [a]⟩) (s := ⟨g, H, env0O n l ds, w, [(0, a)]⟩) r i z hz
      cases z with
      | no => trivial
      | val d => exact h'
      | own f dl =>
        exfalso
        rcases List.mem_append.mp (List.mem_of_getElem? hz) with q | q
        · obtain ⟨d, _, e⟩ := List.mem_map.mp q; cases e
        · exact nomatch (List.mem_replicate.mp q).2
      | ownT dl dr =>
        exfalso
        rcases List.mem_append.mp (List.mem_of_getElem? hz) with q | q
        · obtain ⟨d, _, e⟩ := List.mem_map.mp q; cases e
        · exact nomatch (List.mem_replicate.mp q).2
  · rw [List.mem_singleton.mp hq]; exact ⟨_, hH⟩
  · rw [e] at hx
    rcases List.mem_append.mp hx with z | z
    · exact .inl z
    · exact .inr (.inl z)
theorem In.aftO {σ : L2.St} {s : Cf} (I : In K c ⟨H, g, [a]⟩ [] σ s) {j : Nat} (ho : (j, a) ∈ s.os) : AftO a g H s.g s.H :=
  ⟨I.le, fun x o h n ne => I.keep x o h n (fun z => ne (List.mem_singleton.mp z)), I.frz, fun x hx => by
    rcases I.new x (List.mem_append_left _ hx) with z | z | z
    · exact .inl z
    · rw [List.mem_singleton.mp z] at hx
      exact absurd hx (I.osG ho)
    · exact .inr z, I.dom⟩
def penF (k : Dat → List Dat → Wld → Prop) : PEnds := ⟨fun e w => ownAt e 0 fun f l => f = false ∧ k .non l w, fun d e w => ownAt e 0 fun f l => f = false ∧ k d l w, fun _ _ => False, fun _ _ => False⟩
/-- a def that may change its first argument keeps its promise -/
theorem def_okO {n : Nat} {t : TS} {p : PS} {us : List V} (hs : SndS K c t p) (hn : ∀ ds l w k, O ds l w k → ds.length < n) (hP : ∀ ds l w k, O ds l w k → p (penF k) (env0O n l ds) w) (h : lifO K c O us H Q E) : t (en0 Q) (st0 n us) H := by
  obtain ⟨g, w, a, ws, l, vs, ds, k, rfl, W, hH, hg, hm, hl, r, hp, hq⟩ := h
  have fin : ∀ {σ : L2.St} {s : Cf} {v : V} {d : Dat}, In K c ⟨H, g, [a]⟩ [] σ s → Rep K c s.g v d → (ownAt s.e 0 fun f l => f = false ∧ k d l s.w) → Q v s.H := fun {σ s v d} I r h => by
    obtain ⟨f, l', e1, hf, h⟩ := ownAt_of h
    obtain ⟨a', ws', h1, h2, h3, h4, h5⟩ := I.own e1
    have ha : a' = a := List.mem_singleton.mp (h5.2 hf)
    subst ha
    exact hq v d ws' l' s.g s.H s.w (I.aftO h2) I.wr h3 h4 r h
  refine hs ⟨H, g, [a]⟩ [] (st0 n (.ref a :: vs)) ⟨g, H, env0O n l ds, w, [(0, a)]⟩ _ _ (In.startO (hn ds l w k hp) W hH hg hm hl r) (hP ds l w k hp) ⟨fun σ s _ I h => fin I .non h, fun σ s v d _ I r h => fin I r h, fun _ _ _ _ h => h.elim, fun _ _ _ _ h => h.elim⟩
theorem lifO_len {n : Nat} {us : List V} (hO : ∀ ds l w k, O ds l w k → ds.length + 1 = n) (h : lifO K c O us H Q E) : us.length = n := by
  obtain ⟨g, w, a, ws, l, vs, ds, k, rfl, _, _, _, _, _, r, hp, _⟩ := h
  rw [List.length_cons, r.length]; exact hO ds l w k hp
end
end Pu
namespace Eng
open PySem PySem.Spec PyProof.Rows L2
section
variable {K : PySem.W.Frag} {x qual : Str} {params : Arguments} {body : List Stmt} {scope : Scope} {dvs : List V} {kws : List (Str × V)} {f : Addr} {fd : FuncData} {ps ks : List Str} {ix : List Nat} {n : Nat}
theorem kb_ofD (F : FunD K x qual params body scope dvs kws f fd) (hd : dvs ≠ [])
    (h : ∀ (T : Addr) (kV doc pm : Value) (an : Option Addr) (cdv ct : Value) (its ws : List Value), its.length = dvs.length → ws.length = ks.length →
      ∃ k, bindArgs (PySem.W.fnOf x qual params body scope (.ref T) kV doc pm an cdv ct) ⟨[], ks.zip ws⟩ = seqItems? (.ref T) >>= k ∧ k (some its.toArray) = pure (ps.zip (permV ix ws))) : KB0 K fd ps ks (permV ix) (perm ix) := by
  obtain ⟨oc, od, dV, kV, doc, pm, an, cdv, ct, osl, rfl, lk, hcd, hD, hK⟩ := F.ex
  rcases hD with ⟨e, _⟩ | ⟨_, T, o, its, m, rfl, lT, oT, rT⟩
  · exact absurd e hd
  · refine ⟨fun s ws X hl => ?_, fun r => perm_rel ix r⟩
    obtain ⟨k, e1, e2⟩ := h T kV doc pm an cdv ct its ws rT.length.symm hl
    refine BindsTo.of_looks fun M => ?_
    rw [e1]
    exact looks_items X lT oT (.of_pure e2)
end
end Eng
namespace Pu
open PySem L2 Eng
def pCallN (n m : Nat) (P : PSp) (a r : PA) : PE := fun e w k => a e w fun ds e w => r e w fun zs e w => ds.length = n ∧ zs.length = m ∧ P (ds ++ zs) w fun d w => k d e w
section
variable {K : PySem.W.Frag} {c : Pc} {sp : Sp} {P : PSp} {E : XK} {tr tl : TA} {pr pl : PA} {n m : Nat}
/-- x, y, .. = [..], e, ..  (four names or more: by a tuple) -/
def pTupO (x : Nat) (is : List Nat) (f : PF) (r : PA) : PS := fun D e w => f e w fun l e w => r e w fun ds e w => ds.length + 1 ≤ sizeLine ∧ onSome (setAll (e.set x (.own true l)) is ds) fun e => D.nx e w
def fl : Dat → Option V
  | .non => some .non
  | .bl b => some (.bl b)
  | .int n => some (.int n)
  | .str t => some (.str t)
  | _ => none
def fls : List Dat → Option (List V)
  | [] => some []
  | d :: l => match fl d, fls l with
    | some v, some vs => some (v :: vs)
    | _, _ => none
theorem fl_rep {g : Gh} {x v : V} {d : Dat} (r : Rep K c g x d) (h : fl d = some v) : x = v ∧ flatV v = true := by
  cases r <;> simp only [fl, Option.some.injEq, reduceCtorEq] at h <;> subst h <;> exact ⟨rfl, rfl⟩
theorem fls_rep {g : Gh} : ∀ {xs vs : List V} {l : List Dat}, Reps K c g xs l → fls l = some vs → xs = vs ∧ vs.all flatV = true
  | _, vs, _, .nil, h => by cases (show some [] = some vs from h); exact ⟨rfl, rfl⟩
  | _, vs, _, .cons r rs, h => by
    unfold fls at h
    split at h
    · rename_i v vs' h1 h2
      cases h
      obtain ⟨rfl, e1⟩ := fl_rep r h1
      obtain ⟨rfl, e2⟩ := fls_rep rs h2
      exact ⟨rfl, by rw [List.all_cons, e1, e2]; rfl⟩
    · cases h
def qInN (neg : Bool) : Q2
  | d, .tup l, k => onSome (fl d) fun v => onSome (fls l) fun vs => k (.bl (if neg then !inV v vs else inV v vs))
  | _, _, _ => False
def qIn : Q2 := qInN false
theorem s_inN {neg : Bool} : SndR2 K c (rIn K neg) (qInN neg) := by
  intro X F σ s x y dx dy k Q I rx ry h hQ
  cases dy with
  | tup l =>
    obtain ⟨v, hv, h⟩ := onSome_of h
    obtain ⟨vs, hvs, h⟩ := onSome_of h
    obtain ⟨a, us, rfl, hH, hR⟩ := ry.tup I
    obtain ⟨rfl, e2⟩ := fls_rep hR hvs
    have e1 : x = v ∧ flatV v = true := by
      rcases rx with rx | rx
      · exact fl_rep rx hv
      · obtain ⟨_, _, _, _, rfl, _⟩ := rx; cases hv
    obtain ⟨rfl, e1⟩ := e1
    exact ⟨a, us, rfl, .inr hH, e1, e2, hQ _ _ s (Gh.le.refl _) I rfl rfl (.bl _) h⟩
  | _ => exact h.elim
theorem s_in : SndR2 K c (rIn K false) qIn := s_inN
def qAll : QL
  | [.lst l], k => ∃ bs : List Bool, l = bs.map Dat.bl ∧ k (.bl (bs.all id))
  | _, _ => False
theorem eAll {l : List Dat} {k : Dat → Prop} : qAll [.lst l] k = ∃ bs : List Bool, l = bs.map Dat.bl ∧ k (.bl (bs.all id)) := rfl
end
end Pu
namespace Eng
open PySem PySem.Spec PyProof.Rows L2
section
open PySem.SeqAt PySem.W MeetsSeq MeetsSeq2 MeetsSeq3 SeqRoads2
open AutoSeq1 (wpAny_loadPart')
variable {prog : Program} {w : World} {A : Around} {s : Shared}
/-- != of two tuples whose things are alike -/
theorem tne_alike (p q : Addr) (xs ys : Array Value) (n n2 : Nat) (dd dd2 : Option Addr) (sl sl2 : Array (Option Value)) (hz : xs.size = ys.size) :
    MeetsIn prog w (Builtin.«tuple.__ne__» ⟨[.ref p, .ref q], []⟩)
      (fun A R s => s.heap.get? p = some { cls := .type "tuple", dict := dd, data := .seq xs n, slots := sl } ∧ s.heap.get? q = some { cls := .type "tuple", dict := dd2, data := .seq ys n2, slots := sl2 } ∧
        (∀ j (h1 : j < xs.size) (h2 : j < ys.size), EqIn prog w A.in1 s xs[j] ys[j] true) ∧ R (.ok (.ret (.bool false))) s) :=
  .of_wp fun A R s h => by
    obtain ⟨hp, g, d, tk, os⟩ := s
    obtain ⟨gp, gq, he, h⟩ := h
    have sub := AutoSeq1.sub_tuple_tuple
    wp_walk using wpAny_loadPart' gp, wpAny_loadPart' gq, wpAny_forIn_list _ (fun rest b s' => b.1 = none ∧ s' = ⟨hp, g, d, tk, os⟩ ∧ ∃ i, rest = (xs.toList.zip ys.toList).drop i) _
    case turn =>
      rintro ⟨y, x⟩ rest b s' ⟨hb', rfl, i, hr⟩
      have hlt : i < (xs.toList.zip ys.toList).length := by
        rcases Nat.lt_or_ge i (xs.toList.zip ys.toList).length with z | z
        · exact z
        · rw [List.drop_of_length_le z] at hr; cases hr
      have hlt' : i < min xs.size ys.size := by simpa using hlt
      have h1 : i < xs.size := by omega
      have h2 : i < ys.size := by omega
      rw [List.drop_eq_getElem_cons hlt] at hr
      injection hr with hyx hrest
      have hy : y = xs[i] := by have := congrArg Prod.fst hyx; simpa using this
      have hx : x = ys[i] := by have := congrArg Prod.snd hyx; simpa using this
      subst hy hx
      refine wpAny_bind (he i h1 h2 _ _ ?_)
      wp_walk
      exact ⟨rfl, rfl, i + 1, hrest⟩
    case fin =>
      rintro ⟨b1, b2⟩ s' ⟨hb', rfl, i, hr⟩
      simp only at hb'
      subst hb'
      wp_walk
      exact ⟨_, rfl, by simpa [Builtin.Tuple.tupleCompareSizes, hz] using h⟩
    case h =>
      exact ⟨rfl, rfl, 0, rfl⟩
theorem rc_tne {E : Value → Shared → Prop} {p q : Addr} {xs ys : Array Value} {Q : Value → Shared → Prop} (hp : s.heap.IsTuple p xs) (hq : s.heap.IsTuple q ys) (hz : xs.size = ys.size) (hu : A.units < cLine)
    (he : ∀ j (h1 : j < xs.size) (h2 : j < ys.size), EqIn prog w A.in1 s xs[j] ys[j] true) (h : Q (.bool false) s) : wpAny (model prog w) A (richCompare .NotEq (.ref p) (.ref q)) Q E s := by
  obtain ⟨⟨c1, dd, data, sl⟩, ho, hc, n, hd⟩ := id hp
  obtain ⟨⟨c2, dd2, data2, sl2⟩, ho2, hc2, n2, hd2⟩ := id hq
  simp only at hc hd hc2 hd2
  subst hc hd hc2 hd2
  exact wpAny_richCompare_same_room (T := "tuple") (op := .NotEq) ⟨_, ho, rfl⟩ ⟨_, ho2, rfl⟩ F.slot_tuple_ne (call_meetsIn F.slot_tuple_ne ⟨_, ho, rfl⟩ F.entry_tuple_ne (F.args_tuple_ne_2 _ _) (tne_alike p q xs ys n n2 dd dd2 sl sl2 hz)
    ⟨ho, ho2, he, show Value.bool false ≠ Value.notImplemented ∧ Q (.bool false) s from ⟨(fun x => nomatch x), h⟩⟩) hu
end
/-- two pairs (dict, plain thing), alike -/
def TdSame (K : PySem.W.Frag) (H : Hp) (x y : V) : Prop := ∃ p q a b u v ks ls d, x = .ref p ∧ y = .ref q ∧ SqT K H p [.ref a, u] ∧ SqT K H q [.ref b, v] ∧ H a = some (.dK ks) ∧ H b = some (.dK ls) ∧ ks.length = ls.length ∧ (∀ z ∈ ks, valV ls z.1 = some z.2 ∧ flatB z.2 = true) ∧ Dp K H u d ∧ Dp K H v d ∧ SeqAt.shaped d = true ∧ PyData.eqv d d = true
def rEqTD (K : PySem.W.Frag) : R2 := fun x y H Q => TdSame K H x y ∧ Q (.bl true) H
def rNeTD (K : PySem.W.Frag) : R2 := fun x y H Q => TdSame K H x y ∧ Q (.bl false) H
section
variable {X : Cx}
theorem td_A8 {pins : List (Addr × Obj)} {σ : L2.St} {H : Hp} {s : Shared} (I : L2.Inv X pins σ H s) {x y : V} (h : TdSame X.K H x y) :
    ∃ (p q : Addr) (v0 v1 w0 w1 : Value), x = .ref p ∧ y = .ref q ∧ IsTup s.heap p #[v0, v1] ∧ IsTup s.heap q #[w0, w1] ∧ ∀ A : Around, A.units + 64 < cLine → SeqAt.EqIn X.prog X.w A s v0 w0 true ∧ SeqAt.EqIn X.prog X.w A s v1 w1 true := by
  obtain ⟨p, q, a, b, u, v, ks, ls, d, rfl, rfl, hp, hq, ha, hb, hl, hm, hu, hv, hd, hee⟩ := h
  obtain ⟨is1, r1, t1, _⟩ := I.tuple hp
  obtain ⟨is2, r2, t2, _⟩ := I.tuple hq
  cases r1 with
  | cons e1 r1 =>
    cases r1 with
    | cons f1 r1 =>
      cases r1
      cases r2 with
      | cons e2 r2 =>
        cases r2 with
        | cons f2 r2 =>
          cases r2
          rename_i v0 v1 w0 w1
          refine ⟨p, q, v0, v1, w0, w1, rfl, rfl, t1, t2, fun A hA => ⟨?_, ?_⟩⟩
          · obtain rfl : v0 = Value.ref a := e1
            obtain rfl : w0 = Value.ref b := e2
            by_cases hab : a = b
            · subst hab
              exact (SeqAt.EqAt.same _).inModel _ _
            · refine SeqAt.EqIn.of_refs hab fun E Q hq => ?_
              obtain ⟨_, ya, va, ra, da⟩ := (show ObjOk X.prog X.w H s.heap a (.dK ks) from I.hok a _ ha)
              obtain ⟨_, yb, vb, rb, db⟩ := (show ObjOk X.prog X.w H s.heap b (.dK ls) from I.hok b _ hb)
              have hl2 : va.length = vb.length := by rw [← ra.length, ← rb.length]; exact hl
              exact PySem.W.keq_eq (knd := mixKind X.prog X.w) (r := true) ya yb da db (by omega) (fun _ => hits_all rb ra hm) (by simpa [hl2] using hq)
          · obtain ⟨as, r3⟩ := Dp.reads I d u v1 hu f1
            obtain ⟨bs, r4⟩ := Dp.reads I d v w1 hv f2
            have := (SeqAt.eqAt_reads d d A s v1 w1 as bs r3 r4 (SeqAt.canLay_of_shaped hd) (SeqAt.canLay_of_shaped hd) (SeqAt.room_of_shaped hd hA)).inModel X.prog X.w
            rw [hee] at this
            exact this
theorem room66 {k : Nat} {A : Around} (r : Room k A) : A.units + 66 < cLine := by have := r.un; omega
theorem o_eqTD (hu : X.A.units + 66 < cLine) : OpR X (compareOp .Eq) (rEqTD X.K) := by
  intro pins s σ H x y v u Q I rx ry h
  obtain ⟨h, q⟩ := h
  obtain ⟨p, p', v0, v1, w0, w1, rfl, rfl, t1, t2, hE⟩ := td_A8 I h
  obtain rfl : v = Value.ref p := rx
  obtain rfl : u = Value.ref p' := ry
  have he := hE X.A.in1 (by show X.A.units + 1 + 64 < cLine; omega)
  refine SeqAt.rcIn_tuples (e := fun _ => true) t1 t2 (by omega) (fun j h1 h2 => ?_) ⟨.bl true, H, I, rfl, q⟩
  match j, h1 with
  | 0, _ => exact he.1
  | 1, _ => exact he.2
theorem o_neTD (hu : X.A.units + 66 < cLine) : OpR X (compareOp .NotEq) (rNeTD X.K) := by
  intro pins s σ H x y v u Q I rx ry h
  obtain ⟨h, q⟩ := h
  obtain ⟨p, p', v0, v1, w0, w1, rfl, rfl, t1, t2, hE⟩ := td_A8 I h
  obtain rfl : v = Value.ref p := rx
  obtain rfl : u = Value.ref p' := ry
  have he := hE X.A.in1 (by show X.A.units + 1 + 64 < cLine; omega)
  refine rc_tne t1 t2 rfl (by omega) (fun j h1 h2 => ?_) ⟨.bl _, H, I, rfl, q⟩
  match j, h1 with
  | 0, _ => exact he.1
  | 1, _ => exact he.2
end
end Eng
namespace Pu
open PySem L2 Eng
section
variable {K : PySem.W.Frag} {c : Pc} {X : En} {F : List (Addr × HO)} {σ : L2.St} {s s1 : Cf} {g g1 : Gh} {H : Hp} {w : Wld} {a : Addr} {vs ws : List V} {i : Nat} {ta tb : TE} {pa pb : PE} {tr : TA} {pr : PA} {ts tu : TS} {ps pu : PS} {sp : Sp} {P : PSp} {E : XK} {Q : VK} {l : List Dat}
def SndPL (K : PySem.W.Frag) (c : Pc) (sp : Sp) (P : PSp) : Prop := ∀ (g : Gh) (H : Hp) (w : Wld) (vs : List V) (ds : List Dat) (k : Dat → Wld → Prop) (Q : VK) (E : XK), Wr K c g H w → Reps K c g vs ds → P ds w k →
  (∀ a ws l g' H' w', Aft g H g' H' → Wr K c g' H' w' → H a = none → g'.G a = none → a ∉ g'.mu → H' a = some (.lst ws) → Reps K c g' ws l → k (.lst l) w' → Q (.ref a) H') → sp vs H Q E
def lifL (K : PySem.W.Frag) (c : Pc) (P : PSp) : Sp := fun vs H Q _ => ∃ (g : Gh) (w : Wld) (ds : List Dat) (k : Dat → Wld → Prop), Wr K c g H w ∧ Reps K c g vs ds ∧ P ds w k ∧
  ∀ a ws l g' H' w', Aft g H g' H' → Wr K c g' H' w' → H a = none → g'.G a = none → a ∉ g'.mu → H' a = some (.lst ws) → Reps K c g' ws l → k (.lst l) w' → Q (.ref a) H'
theorem SndPL.lif : SndPL K c (lifL K c P) P := fun g _ w _ ds k _ _ h1 h2 h3 h4 => ⟨g, w, ds, k, h1, h2, h3, h4⟩
def lsOf : Dat → (List Dat → Prop) → Prop
  | .lst l, k => k l
  | _, _ => False
/-- f(..), told -/
def pCallL (P : PSp) (a : PA) : PF := fun e w k => a e w fun ds e w => P ds w fun d w => lsOf d fun l => k l e w
theorem snd_callL (hp : SndPL K c sp P) (hr : SndA K c tr pr) : SndF K c (tCall sp [] E tr) (pCallL P pr) := by
  intro X F σ s k Q I h hQ
  refine hr X F σ s _ _ I h fun vs ds s1 l1 I1 r1 h1 => ?_
  rw [List.append_nil]
  refine hp s1.g s1.H s1.w vs ds _ _ E I1.wr r1 h1 fun a ws l g' H' w' A W ha hg hm hH hw hk => ?_
  exact hQ a ws l ⟨g', H', s1.e, w', s1.os⟩ (l1.trans A.le) (I1.fresh ha) (I1.callH A W ha hg hm hH) hw hk
structure SEndsL (K : PySem.W.Frag) (c : Pc) (X : En) (F : List (Addr × HO)) (g : Gh) (D : Ends) (Dp : PEnds) : Prop where
  rt : ∀ σ s a ws l, g.le s.g → In K c X ((a, .lst ws) :: F) σ s → X.H a = none → Reps K c s.g ws l → Dp.rt (.lst l) s.e s.w → D.rt (.ref a) s.H
theorem SEndsL.mono {D : Ends} {Dp : PEnds} {g' : Gh} (h : SEndsL K c X F g D Dp) (le : g.le g') : SEndsL K c X F g' D Dp := ⟨fun σ s a ws l l' => h.rt σ s a ws l (le.trans l')⟩
def SndSL (K : PySem.W.Frag) (c : Pc) (t : TS) (p : PS) : Prop := ∀ (X : En) (F : List (Addr × HO)) (σ : L2.St) (s : Cf) (D : Ends) (Dp : PEnds), In K c X F σ s → p Dp s.e s.w → SEndsL K c X F s.g D Dp → t D σ s.H
def pRetL (f : PF) : PS := fun D e w => f e w fun l e w => D.rt (.lst l) e w
theorem snd_retL {pf : PF} (hf : SndF K c ta pf) : SndSL K c (tRet ta) (pRetL pf) := by
  intro X F σ s D Dp I h hE
  exact hf X F σ s _ _ I h fun a vs ds s1 l1 hx I1 r1 h1 => hE.rt σ s1 a vs ds l1 I1 hx r1 h1
theorem def_okL {n : Nat} {t : TS} {p : PS} {us : List V} (hs : SndSL K c t p) (hP : ∀ ds w k, P ds w k → p (pen k) (env0 n ds) w) (h : lifL K c P us H Q E) : t (en0 Q) (st0 n us) H := by
  obtain ⟨g, w, ds, k, W, r, hp, hq⟩ := h
  refine hs ⟨H, g, []⟩ [] (st0 n us) ⟨g, H, env0 n ds, w, []⟩ _ _ (In.start W r) (hP ds w k hp) ⟨fun σ s a ws l le I hx hw hk => ?_⟩
  have hpm := mu_cons s (a, .lst ws) []
  have hin : a ∈ s.mu [(a, .lst ws)] := hpm.mem_iff.mpr List.mem_cons_self
  have hn : a ∉ s.g.mu := fun z => (List.nodup_cons.mp (hpm.nodup_iff.mp I.nd)).1 (List.mem_append_left _ z)
  refine hq a ws l s.g s.H s.w ⟨I.le, fun b o e n => I.keep b o e n (fun z => nomatch z), I.frz, fun b hb => ?_, I.dom⟩ I.wr hx (I.off a hin) hn (I.held _ List.mem_cons_self) hw hk
  rcases I.new b (List.mem_append_left _ hb) with z | z | z
  · exact .inl z
  · cases z
  · exact .inr z
theorem lifL_len {n : Nat} {us : List V} (hP : ∀ ds w k, P ds w k → ds.length = n) (h : lifL K c P us H Q E) : us.length = n := by
  obtain ⟨g, w, ds, k, _, r, hp, _⟩ := h
  rw [r.length]; exact hP ds w k hp
def qTD (r : Bool) : Q2
  | .tup [.dic l, d], .tup [.dic l', d'], k => EqDs l l' ∧ d = d' ∧ pl d ∧ k (.bl r)
  | _, _, _ => False
def qEqTD : Q2 := qTD true
def qNeTD : Q2 := qTD false
theorem td_same {x y : V} {l l' : List (Str × Int)} {d : Dat} (I : In K c X F σ s) (rx : RepW K c s x (.tup [.dic l, d])) (ry : RepW K c s y (.tup [.dic l', d])) (h : EqDs l l') (hp : pl d) : TdSame K s.H x y := by
  obtain ⟨p, vs, rfl, hv, rv⟩ := rx.tup I
  obtain ⟨q, us, rfl, hu, ru⟩ := ry.tup I
  cases rv with
  | cons e1 rv =>
    cases rv with
    | cons f1 rv =>
      cases rv
      cases ru with
      | cons e2 ru =>
        cases ru with
        | cons f2 ru =>
          cases ru
          obtain ⟨a, rfl, ha⟩ := RepW.dic I (.inl e1)
          obtain ⟨b, rfl, hb⟩ := RepW.dic I (.inl e2)
          obtain ⟨h1, h2, h3⟩ := h
          refine ⟨p, q, a, b, _, _, dKs l, dKs l', py d, rfl, rfl, hv, hu, ha, hb, by unfold dKs; rw [List.length_map, List.length_map]; exact h1, fun z hz => ?_, dpW hp (.inl f1) I.wr.sub, dpW hp (.inl f2) I.wr.sub, py_shaped hp, SeqAt.eqv_refl _ (py_shape hp).1⟩
          obtain ⟨q, hq, rfl⟩ := List.mem_map.mp hz
          exact ⟨valV_mem (dKs_nd h2) (List.mem_map.mpr ⟨q, h3 q hq, rfl⟩), rfl⟩
theorem s_TD {r : Bool} {rr : R2} (hr : ∀ x y H Q, TdSame K H x y → Q (.bl r) H → rr x y H Q) : SndR2 K c rr (qTD r) := by
  intro X F σ s x y dx dy k Q I rx ry h hQ
  unfold qTD at h
  split at h
  · obtain ⟨h1, rfl, hp, h⟩ := h
    exact hr _ _ _ _ (td_same I rx ry h1 hp) (hQ _ _ s (Gh.le.refl _) I rfl rfl (.bl _) h)
  · exact h.elim
theorem s_eqTD : SndR2 K c (rEqTD K) qEqTD := s_TD fun _ _ _ _ h q => ⟨h, q⟩
theorem s_neTD : SndR2 K c (rNeTD K) qNeTD := s_TD fun _ _ _ _ h q => ⟨h, q⟩
theorem eEqTD {l l' : List (Str × Int)} {d d' : Dat} {k : Dat → Prop} : qEqTD (.tup [.dic l, d]) (.tup [.dic l', d']) k = (EqDs l l' ∧ d = d' ∧ pl d ∧ k (.bl true)) := rfl
theorem eNeTD {l l' : List (Str × Int)} {d d' : Dat} {k : Dat → Prop} : qNeTD (.tup [.dic l, d]) (.tup [.dic l', d']) k = (EqDs l l' ∧ d = d' ∧ pl d ∧ k (.bl false)) := rfl
def dicOf : Dat → (List (Str × Int) → Prop) → Prop
  | .dic l, k => k l
  | _, _ => False
def gtOf (l : List (Str × Int)) : Dat → Dat → (Dat → Prop) → Prop
  | .str t, .int n, k => k (.int ((l.lookup t).getD n))
  | _, _, _ => False
def pDGet2 (d y x : PE) : PE := fun e w k => d e w fun v e w => dicOf v fun l => y e w fun u e w => x e w fun z e w => gtOf l u z fun r => k r e w
theorem eDicOf {l : List (Str × Int)} {k : List (Str × Int) → Prop} : dicOf (.dic l) k = k l := rfl
theorem eGtOf {l : List (Str × Int)} {t : Str} {n : Int} {k : Dat → Prop} : gtOf l (.str t) (.int n) k = k (.int ((l.lookup t).getD n)) := rfl
theorem eLsOf {l : List Dat} {k : List Dat → Prop} : lsOf (.lst l) k = k l := rfl
end
end Pu
namespace Eng
open PySem L2 Pu
def pgUnl (is : List Nat) : PG := fun d e w k => lstOf d fun ds => onSome (setAll e is ds) fun e => k e w
end Eng
namespace Pu
open PySem L2 Eng
def Wld.putO (w : Wld) (j : Nat) (o : Obj) : Wld := ⟨w.ms, w.ss, w.os.set j o⟩
def Wld.addO (w : Wld) (o : Obj) : Wld := ⟨w.ms, w.ss, w.os ++ [o]⟩
def lsAt (w : Wld) (j : Nat) (k : List Dat → Prop) : Prop := match w.os[j]? with | some (.lst l) => k l | _ => False
def dcAt (w : Wld) (j : Nat) (k : List (Str × Int) → Prop) : Prop := match w.os[j]? with | some (.dic l) => k l | _ => False
def obOf : Dat → (Nat → Prop) → Prop
  | .ob j, k => k j
  | _, _ => False
/-- an operand as it stands now -/
def vw (w : Wld) : Dat → (Dat → Prop) → Prop
  | .ob j, k => lsAt w j fun l => k (.lst l)
  | d, k => k d
def vws (w : Wld) : List Dat → (List Dat → Prop) → Prop
  | [], k => k []
  | d :: ds, k => vw w d fun x => vws w ds fun xs => k (x :: xs)
def pOpW (q : Q2) (a b : PE) : PE := fun e w k => a e w fun x e w => b e w fun y e w => vw w x fun x => vw w y fun y => q x y fun z => k z e w
def pCBW (q : QL) (a : PA) : PE := fun e w k => a e w fun ds e w => vws w ds fun ds => q ds fun z => k z e w
def pOpFW (q : Dat → Dat → (List Dat → Prop) → Prop) (a b : PE) : PF := fun e w k => a e w fun x e w => b e w fun y e w => vw w x fun x => vw w y fun y => q x y fun z => k z e w
def pCBFW (q : List Dat → (List Dat → Prop) → Prop) (a : PA) : PF := fun e w k => a e w fun ds e w => vws w ds fun ds => q ds fun z => k z e w
/-- a new list that may be changed -/
def pObj (f : PF) : PE := fun e w k => f e w fun l e w => k (.ob w.os.length) e (w.addO (.lst l))
def pSlW (a : PE) (lo hi : PO) : PF := fun e w k => a e w fun x e w => lo e w fun l e w => hi e w fun u e w => vw w x fun x => lstOf x fun ds => k (cutD ds l u) e w
/-- x[i] = v -/
def pSetO (o ix v : PE) : PS := fun D e w => v e w fun d e w => o e w fun x e w => ix e w fun y e w => obOf x fun j => intOf y fun n => lsAt w j fun l => onSome (ixN l.length n) fun q => D.nx e (w.putO j (.lst (l.set q d)))
/-- x.append(v) -/
def pAppO (o v : PE) : PS := fun D e w => o e w fun x e w => obOf x fun j => lsAt w j fun _ => v e w fun d e w => lsAt w j fun l => l.length < sizeLine ∧ D.nx e (w.putO j (.lst (l ++ [d])))
section
variable {K : PySem.W.Frag} {c : Pc} {X : En} {F : List (Addr × HO)} {σ : L2.St} {s s1 : Cf} {g g1 : Gh} {H : Hp} {w : Wld} {a p : Addr} {vs ws : List V} {i j : Nat} {ta tb tc : TE} {pa pb pc' : PE} {tr : TA} {pr : PA} {ts tu : TS} {ps pu : PS} {sp : Sp} {P : PSp} {E : XK} {Q : VK} {l : List Dat} {r : R2} {q : Q2}
theorem lsAt_of {k : List Dat → Prop} (h : lsAt w j k) : ∃ l, w.os[j]? = some (.lst l) ∧ k l := by
  unfold lsAt at h
  split at h
  · exact ⟨_, by assumption, h⟩
  · exact h.elim
theorem obOf_of {d : Dat} {k : Nat → Prop} (h : obOf d k) : ∃ j, d = .ob j ∧ k j := by
  cases d with
  | ob j => exact ⟨j, rfl, h⟩
  | _ => exact h.elim
theorem Wr.obAt (W : Wr K c g H w) {v : V} {o : Obj} (r : Rep K c g v (.ob j)) (h : w.os[j]? = some o) : ∃ a, v = .ref a ∧ g.os[j]? = some a ∧ ORep K c g H a o := by
  cases r with
  | ob e => exact ⟨_, rfl, e, W.objs _ _ _ e h⟩
theorem vw_of (I : In K c X F σ s) {v : V} {d : Dat} {k : Dat → Prop} (r : Rep K c s.g v d) (h : vw s.w d k) : ∃ d', RepW K c s v d' ∧ k d' := by
  unfold vw at h
  split at h
  · rename_i j
    obtain ⟨l, e, h⟩ := lsAt_of h
    obtain ⟨a, rfl, _, vs, h1, h2⟩ := I.wr.obAt r e
    exact ⟨_, .inr ⟨a, vs, l, rfl, rfl, h1, h2⟩, h⟩
  · exact ⟨d, .inl r, h⟩
theorem vws_of (I : In K c X F σ s) : ∀ {vs : List V} {ds : List Dat} {k : List Dat → Prop}, Reps K c s.g vs ds → vws s.w ds k → ∃ ds', Paired (RepW K c s) vs ds' ∧ k ds'
  | _, _, _, .nil, h => ⟨[], .nil, h⟩
  | _, _, _, .cons r t, h => by
    obtain ⟨d', r', h⟩ := vw_of I r h
    obtain ⟨ds', t', h⟩ := vws_of I t h
    exact ⟨_, .cons r' t', h⟩
theorem snd_cbW {rl : List V → Hp → VK → Prop} {q : QL} (hr : SndRL K c rl q) (ha : SndA K c tr pr) : SndE K c (tCB rl tr) (pCBW q pr) := by
  intro X F σ s k Q I h hQ
  refine ha X F σ s _ _ I h fun vs ds s1 l1 I1 r1 h1 => ?_
  obtain ⟨ds', r', h1⟩ := vws_of I1 r1 h1
  refine hr X F σ s1 vs ds' _ _ I1 r' h1 fun v d s3 l3 I3 e3 w3 r3 h3 => ?_
  refine hQ v d s3 (l1.trans l3) I3 r3 ?_
  rw [e3, w3]; exact h3
theorem snd_slW {tlo thi : TO} {plo phi : PO} (ha : SndE K c ta pa) (h1 : SndO K c tlo plo) (h2 : SndO K c thi phi) : SndF K c (tSl (rSlL K) ta tlo thi) (pSlW pa plo phi) := by
  intro X F σ s k Q I h hQ
  refine ha X F σ s _ _ I h fun x dx s1 l1 I1 r1 h' => ?_
  refine h1 X F σ s1 _ _ I1 h' fun l s2 l2 I2 h' => ?_
  refine h2 X F σ s2 _ _ I2 h' fun u s3 l3 I3 h' => ?_
  obtain ⟨dx', rw', h'⟩ := vw_of I3 ((r1.mono l2).mono l3) h'
  obtain ⟨ds, hd, h'⟩ := lstOf_of h'
  have hx : ∃ a vs, x = .ref a ∧ SqL K s3.H a vs ∧ Reps K c s3.g vs ds := by
    rcases hd with rfl | rfl
    · obtain ⟨a, vs, e, hH, hR⟩ := rw'.lst I3
      exact ⟨a, vs, e, SqL.of hH, hR⟩
    · exact rw'.cst I3
  obtain ⟨a, vs, rfl, hH, hR⟩ := hx
  exact ⟨a, vs, rfl, hH, fun p hp => hQ p _ _ ⟨s3.g, upd s3.H p (.lst _), s3.e, s3.w, s3.os⟩ ((l1.trans l2).trans l3) (I3.fresh hp) (I3.newF hp) (reps_cut hR l u) h'⟩
def gOb (g : Gh) (a : Addr) : Gh := ⟨g.G, g.ms, g.ss, g.os ++ [a], g.ts⟩
theorem gOb_le (g : Gh) (a : Addr) : g.le (gOb g a) := ⟨fun _ _ h => h, fun _ _ h => h, fun _ _ h => h, fun i q h => by
  show (g.os ++ [a])[i]? = some q
  rw [List.getElem?_append_left (List.getElem?_eq_some_iff.mp h).1]; exact h, rfl⟩
theorem gOb_mu (g : Gh) (a : Addr) : (gOb g a).mu.Perm (a :: g.mu) := by
  unfold Gh.mu Gh.ot
  show (g.ms.map (·.2.1) ++ (g.ms.map (·.2.2) ++ (g.ss ++ ((g.os ++ [a]) ++ g.ts.map (·.1))))).Perm (a :: (g.ms.map (·.2.1) ++ (g.ms.map (·.2.2) ++ (g.ss ++ (g.os ++ g.ts.map (·.1))))))
  rw [List.append_assoc g.os, List.singleton_append]
  simp only [← List.append_assoc]
  exact List.perm_middle
theorem Wr.addOb (W : Wr K c g H w) {o : Obj} (h : ORep K c g H a o) (na : a ∉ g.mu) (ga : g.G a = none) : Wr K c (gOb g a) H (w.addO o) := by
  have le := gOb_le g a
  have hmu := gOb_mu g a
  refine ⟨W.sub, hmu.nodup_iff.mpr (List.nodup_cons.mpr ⟨na, W.nd⟩), fun b hb => ?_, W.mlen, fun i q m h1 h2 => (W.mach i q m h1 h2).mono le rfl rfl, W.srcs, W.nss, by show (g.os ++ [a]).length = (w.os ++ [o]).length; rw [List.length_append, List.length_append, W.olen]; rfl, fun i b u h1 h2 => ?_, W.tabs, W.hts⟩
  · rcases List.mem_cons.mp (hmu.mem_iff.mp hb) with rfl | z
    · exact ga
    · exact W.off b z
  · have h1 : (g.os ++ [a])[i]? = some b := h1
    have h2 : (w.os ++ [o])[i]? = some u := h2
    by_cases hi : i < g.os.length
    · rw [List.getElem?_append_left hi] at h1
      rw [List.getElem?_append_left (by rw [← W.olen]; exact hi)] at h2
      exact (W.objs i b u h1 h2).mono le rfl
    · have hlt := (List.getElem?_eq_some_iff.mp h1).1
      simp only [List.length_append, List.length_cons, List.length_nil] at hlt
      have hi' : i = g.os.length := by omega
      subst hi'
      rw [List.getElem?_concat_length] at h1
      rw [W.olen, List.getElem?_concat_length] at h2
      cases h1; cases h2
      exact h.mono le rfl
/-- what is held becomes an object -/
theorem In.toOb {o : HO} {u : Obj} (I : In K c X ((p, o) :: F) σ s) (hx : X.H p = none) (h : ORep K c s.g s.H p u) : In K c X F σ ⟨gOb s.g p, s.H, s.e, s.w.addO u, s.os⟩ := by
  have hpm := mu_cons s (p, o) F
  have hnd := List.nodup_cons.mp (hpm.nodup_iff.mp I.nd)
  have hin : p ∈ s.mu ((p, o) :: F) := hpm.mem_iff.mpr List.mem_cons_self
  have hng : p ∉ s.g.mu := fun z => hnd.1 (List.mem_append_left _ z)
  have le := gOb_le s.g p
  have hmu : ((⟨gOb s.g p, s.H, s.e, s.w.addO u, s.os⟩ : Cf).mu F).Perm (p :: s.mu F) := by
    unfold Cf.mu
    exact (List.Perm.append_right _ (gOb_mu s.g p))
  refine ⟨I.wr.addOb h hng (I.off p hin), hmu.nodup_iff.mpr (List.nodup_cons.mpr ⟨hnd.1, hnd.2⟩), fun b hb => ?_, I.len, fun i z hz => (I.env i z hz).mono le (fun q hq => hq) (fun _ _ => rfl), fun q hq => I.held q (List.mem_cons_of_mem _ hq), I.oal, I.le.trans le, I.keep, I.frz, fun b hb => ?_, I.dom⟩
  · exact I.off b (hpm.mem_iff.mpr (hmu.mem_iff.mp hb))
  · exact I.new b (hpm.mem_iff.mpr (hmu.mem_iff.mp hb))
theorem snd_obj {pf : PF} (hf : SndF K c ta pf) : SndE K c ta (pObj pf) := by
  intro X F σ s k Q I h hQ
  refine hf X F σ s _ _ I h fun a vs ds s1 l1 hx I1 r1 h1 => ?_
  have hH := I1.held _ List.mem_cons_self
  have I2 := I1.toOb (u := .lst ds) hx ⟨vs, hH, r1⟩
  refine hQ (.ref a) (.ob s1.w.os.length) ⟨gOb s1.g a, s1.H, s1.e, s1.w.addO (.lst ds), s1.os⟩ (l1.trans (gOb_le _ a)) I2 (.ob ?_) h1
  show (s1.g.os ++ [a])[s1.w.os.length]? = some a
  rw [← I1.wr.olen, List.getElem?_concat_length]
theorem Wr.obNe (W : Wr K c g H w) {i j : Nat} {a b : Addr} (h1 : g.os[i]? = some a) (h2 : g.os[j]? = some b) (ne : i ≠ j) : a ≠ b := fun e => by
  have hn : g.os.Nodup := (List.nodup_append.mp (List.nodup_append.mp (List.nodup_append.mp (List.nodup_append.mp W.nd).2.1).2.1).2.1).1
  have hi : i < g.os.length := (List.getElem?_eq_some_iff.mp h1).1
  exact ne ((List.getElem?_inj hi hn).mp (h1.trans (by rw [e]; exact h2.symm)))
theorem Wr.obTs (W : Wr K c g H w) {j : Nat} {b : Addr} (h2 : g.os[j]? = some b) {p : Addr × Str} (hp : p ∈ g.ts) : p.1 ≠ b := fun e =>
  (List.nodup_append.mp (List.nodup_append.mp (List.nodup_append.mp (List.nodup_append.mp W.nd).2.1).2.1).2.1).2.2 b (List.mem_of_getElem? h2) p.1 (List.mem_map.mpr ⟨p, hp, rfl⟩) e.symm
theorem Wr.putOb (W : Wr K c g H w) {o : Obj} {u : HO} (ha : g.os[j]? = some a) (h : ORep K c g (upd H a u) a o) : Wr K c g (upd H a u) (w.putO j o) := by
  have hm : a ∈ g.os := List.mem_of_getElem? ha
  have hmu := mem_mu4 hm
  obtain ⟨u0, e0⟩ := W.muAt hmu
  refine ⟨fun b v e => ?_, W.nd, W.off, W.mlen, fun i q m h1 h2 => (W.mach i q m h1 h2).mono (Gh.le.refl _) (upd_ne (W.dot h1 (mem_ot1 hm))) (upd_ne (W.eot h1 (mem_ot1 hm))), fun b hb => ?_, W.nss, by show _ = (w.os.set j o).length; rw [List.length_set]; exact W.olen, fun i b v h1 h2 => ?_, tabs_mono W.tabs (fun _ _ h => h) fun p hp => upd_ne (W.obTs ha hp), W.hts⟩
  · rw [upd_ne (fun z => by rw [z, W.off a hmu] at e; cases e)]; exact W.sub b v e
  · obtain ⟨v, h1, h2⟩ := W.srcs b hb
    exact ⟨v, by rw [upd_ne (W.sot hb (mem_ot1 hm))]; exact h1, h2⟩
  · rcases set_get (show (w.os.set j o)[i]? = some v from h2) with ⟨rfl, rfl⟩ | ⟨ne, h2'⟩
    · rw [ha] at h1; cases h1; exact h
    · exact (W.objs i b v h1 h2').mono (Gh.le.refl _) (upd_ne (W.obNe h1 ha ne))
theorem In.putOb (I : In K c X F σ s) {o : Obj} {u : HO} (ha : s.g.os[j]? = some a) (h : ORep K c s.g (upd s.H a u) a o) : In K c X F σ ⟨s.g, upd s.H a u, s.e, s.w.putO j o, s.os⟩ := by
  have hm : a ∈ s.g.mu := mem_mu4 (List.mem_of_getElem? ha)
  have hM : a ∈ s.mu F := List.mem_append_left _ hm
  have ne : ∀ b ∈ s.os.map (·.2) ++ F.map (·.1), b ≠ a := fun b hb e => (List.nodup_append.mp I.nd).2.2 a hm b hb e.symm
  have neo : ∀ q ∈ s.os, q.2 ≠ a := fun q hq => ne _ (List.mem_append_left _ (List.mem_map.mpr ⟨q, hq, rfl⟩))
  refine ⟨I.wr.putOb ha h, I.nd, I.off, I.len, fun i z hz => (I.env i z hz).mono (Gh.le.refl _) (fun q hq => hq) (fun q hq => upd_ne (neo q hq)), fun q hq => ?_, fun q hq => ?_, I.le, fun b v e n1 n2 => ?_, I.frz, I.new, fun b v e => ?_⟩
  · show upd s.H a u q.1 = _
    rw [upd_ne (ne _ (List.mem_append_right _ (List.mem_map.mpr ⟨q, hq, rfl⟩)))]; exact I.held q hq
  · obtain ⟨v, e⟩ := I.oal q hq
    exact ⟨v, by show upd s.H a u q.2 = _; rw [upd_ne (neo q hq)]; exact e⟩
  · show upd s.H a u b = _
    rw [upd_ne (fun z => by
      subst z
      rcases I.new b hM with z | z | z
      · exact n1 z
      · exact n2 z
      · rw [z] at e; cases e)]
    exact I.keep b v e n1 n2
  · by_cases z : b = a
    · exact ⟨_, by show upd s.H a u b = _; rw [z]; exact upd_same⟩
    · obtain ⟨v', e'⟩ := I.dom b v e
      exact ⟨v', by show upd s.H a u b = _; rw [upd_ne z]; exact e'⟩
theorem snd_appO (ho : SndE K c tc pc') (hv : SndE K c ta pa) : SndS K c (tDrop (tBM K "list" rAppend tc (tCons ta tNil))) (pAppO pc' pa) := by
  intro X F σ s D Dp I h hE
  refine ho X F σ s _ _ I h fun x dx s1 l1 I1 r1 h1 => ?_
  replace h1 := obOf_of h1
  obtain ⟨j, rfl, h1⟩ := h1
  obtain ⟨l0, hl0, h1⟩ := lsAt_of h1
  obtain ⟨a, rfl, ha0, vs0, hH0, hR0⟩ := I1.wr.obAt r1 hl0
  refine ⟨.inl ⟨rfl, _, SqL.of hH0⟩, ?_⟩
  refine hv X F σ s1 _ _ I1 h1 fun y dy s2 l2 I2 r2 h2 => ?_
  obtain ⟨l, hl, hz, h2⟩ := lsAt_of h2
  obtain ⟨a', e, ha, vs, hH, hR⟩ := I2.wr.obAt (r1.mono l2) hl
  cases e
  exact ⟨a, vs, y, rfl, rfl, hH, by rw [hR.length]; exact hz, hE.nx σ ⟨s2.g, upd s2.H a _, s2.e, s2.w.putO j (.lst (l ++ [dy])), s2.os⟩ (l1.trans l2) (I2.putOb ha ⟨_, upd_same, hR.app (.cons r2 .nil)⟩) h2⟩
end
section
variable {i j n m : Int} {a b : Bool} {s t : Str} {l l' : List Dat} {k : Dat → Prop} {kl : List Dat → Prop} {w : Wld} {o : Obj} {x y : Nat} {d : Dat} {mm : Mach}
theorem vw_int : vw w (.int n) k = k (.int n) := rfl
theorem vw_bl : vw w (.bl a) k = k (.bl a) := rfl
theorem vw_str : vw w (.str s) k = k (.str s) := rfl
theorem vw_tup : vw w (.tup l) k = k (.tup l) := rfl
theorem vw_lst : vw w (.lst l) k = k (.lst l) := rfl
theorem vw_cst : vw w (.cst l) k = k (.cst l) := rfl
theorem vw_big {bb : Nat} : vw w (.big bb n) k = k (.big bb n) := rfl
theorem vw_non : vw w .non k = k .non := rfl
theorem vw_dic {dl : List (Str × Int)} : vw w (.dic dl) k = k (.dic dl) := rfl
theorem vw_ob : vw w (.ob x) k = lsAt w x fun l => k (.lst l) := rfl
theorem vws_nil : vws w [] kl = kl [] := rfl
theorem vws_cons {ds : List Dat} : vws w (d :: ds) kl = vw w d fun x => vws w ds fun xs => kl (x :: xs) := rfl
theorem obOf_ob {kn : Nat → Prop} : obOf (.ob x) kn = kn x := rfl
theorem lsAt_is (h : w.os[x]? = some (.lst l)) : lsAt w x kl = kl l := by unfold lsAt; rw [h]
theorem lsAt_put : lsAt (w.put y mm) x kl = lsAt w x kl := rfl
theorem onM_putO {km : Mach → Prop} : onM (w.putO y o) x km = onM w x km := rfl
theorem onM_addO {km : Mach → Prop} : onM (w.addO o) x km = onM w x km := rfl
theorem putO_at {o' : Obj} (h : w.os[x]? = some o) : (w.putO x o').os[x]? = some o' := by
  show (w.os.set x o')[x]? = _
  exact List.getElem?_set_self (List.getElem?_eq_some_iff.mp h).1
theorem putO_ne {o' : Obj} (h : y ≠ x) : (w.putO x o').os[y]? = w.os[y]? := List.getElem?_set_ne (Ne.symm h)
theorem putO_putO {o' : Obj} : (w.putO x o).putO x o' = w.putO x o' := by unfold Wld.putO; simp
theorem putO_self (h : w.os[x]? = some o) : w.putO x o = w := by
  unfold Wld.putO
  obtain ⟨h1, h2⟩ := List.getElem?_eq_some_iff.mp h
  have : w.os.set x o = w.os := by rw [← h2]; exact List.set_getElem_self h1
  rw [this]
theorem addO_at : (w.addO o).os[w.os.length]? = some o := by
  show (w.os ++ [o])[w.os.length]? = _
  exact List.getElem?_concat_length
theorem addO_putO {o' : Obj} : (w.addO o).putO w.os.length o' = w.addO o' := by
  unfold Wld.putO Wld.addO
  simp
end
end Pu
namespace Eng
open PySem L2
/-- j is not 0, and the division does not go by the library's own way for great numbers -/
def oDivF (i j : Int) : Prop := j ≠ 0 ∧ Builtin.divisionGoesByPylong i j = false
end Eng
namespace Pu
open PySem L2 Eng
def qModF : Q2 := qI (fun _ j => j ≠ 0) fun i j => .int (i.fmod j)
def qDivF : Q2 := qI oDivF fun i j => .int (i.fdiv j)
def qDivmodF : QL
  | [.int i, .int j], k => oDivF i j ∧ k (.tup [.int (i.fdiv j), .int (i.fmod j)])
  | _, _ => False
def rngC (lo c : Int) : Nat → List Dat
  | 0 => []
  | n + 1 => .int lo :: rngC (lo + c) c n
def pIR3 (a b c : PE) : PA := fun e w k => a e w fun x e w => b e w fun y e w => c e w fun z e w => intOf x fun i => intOf y fun j => intOf z fun q => ∃ n, RgC i j q n ∧ k (rngC i q n) e w
/-- x[i] = .., as a part of a target -/
def pgSetI (i : Nat) (ix : PE) : PG := fun d e w k => ownAt e i fun _ _ => ix e w fun x e w => intOf x fun n => ownAt e i fun f l => onSome (ixN l.length n) fun j => k (e.set i (.own f (l.set j d))) w
def pgSetO (o ix : PE) : PG := fun d e w k => o e w fun x e w => ix e w fun y e w => obOf x fun j => intOf y fun n => lsAt w j fun l => onSome (ixN l.length n) fun q => k e (w.putO j (.lst (l.set q d)))
def two {α : Type} : List α → (α → α → Prop) → Prop
  | [x, y], k => k x y
  | _, _ => False
def pgTup2 (g h : PG) : PG := fun d e w k => tupOf d fun ds => two ds fun x y => g x e w fun e w => h y e w k
def lone {α : Type} : List α → (α → Prop) → Prop
  | [x], k => k x
  | _, _ => False
/-- x, y = f(..), told; x is then an object -/
def pTellO (P : PSp) (a : PA) (x y : Nat) : PS := fun D e w => a e w fun ds e w => P ds w fun d w => tldOf d fun l r => lone r fun d2 => D.nx ((e.set x (.val (.ob w.os.length))).set y (.val d2)) (w.addO (.lst l))
section
variable {K : PySem.W.Frag} {c : Pc} {X : En} {F : List (Addr × HO)} {σ : L2.St} {s s1 : Cf} {g g1 : Gh} {H : Hp} {w : Wld} {a p : Addr} {vs ws : List V} {i j : Nat} {ta tb tc : TE} {pa pb pc' : PE} {tr : TA} {pr : PA} {ts tu : TS} {ps pu : PS} {sp : Sp} {P : PSp} {E : XK} {Q : VK} {l : List Dat} {tg th : TG} {pg ph : PG}
theorem rngC_len : ∀ (n : Nat) (lo q : Int), (rngC lo q n).length = n
  | 0, _, _ => rfl
  | n + 1, lo, q => by simp only [rngC, List.length_cons, rngC_len n]
theorem rngC_get : ∀ {n : Nat} {lo q : Int} {i : Nat} {d : Dat}, (rngC lo q n)[i]? = some d → i < n ∧ d = .int (lo + (i : Nat) * q)
  | 0, _, _, _, _, h => by simp [rngC] at h
  | n + 1, lo, q, 0, d, h => by
    simp only [rngC, List.getElem?_cons_zero, Option.some.injEq] at h
    exact ⟨Nat.succ_pos _, by rw [← h]; simp⟩
  | n + 1, lo, q, i + 1, d, h => by
    simp only [rngC, List.getElem?_cons_succ] at h
    obtain ⟨h1, h2⟩ := rngC_get h
    refine ⟨Nat.succ_lt_succ h1, ?_⟩
    rw [h2]
    congr 1
    have : ((i + 1 : Nat) : Int) * q = (i : Int) * q + q := by rw [Int.natCast_add, Int.add_mul]; simp
    omega
theorem ItD.rangeC {g : Gh} (lo q : Int) (n : Nat) : ItD K c (Itc lo q n) g (rngC lo q n) where
  go := fun X F σ s i d le I hd => by
    obtain ⟨h1, rfl⟩ := rngC_get hd
    exact ⟨h1, fun x H' ⟨e, hx⟩ => ⟨s, e.symm, Gh.le.refl _, I, rfl, rfl, by rw [hx]; exact .int _⟩⟩
  stop := fun X F σ s le I => by rw [rngC_len]; exact Nat.le_refl n
theorem snd_iR3 (ha : SndE K c ta pa) (hb : SndE K c tb pb) (hc : SndE K c tc pc') : SndI K c (iRng3 (tCons ta (tCons tb (tCons tc tNil)))) (pIR3 pa pb pc') := by
  intro X F σ s k R I h hR
  refine ha X F σ s _ _ I h fun x dx s1 l1 I1 r1 h1 => ?_
  refine hb X F σ s1 _ _ I1 h1 fun y dy s2 l2 I2 r2 h2 => ?_
  refine hc X F σ s2 _ _ I2 h2 fun z dz s3 l3 I3 r3 h3 => ?_
  replace h3 := intOf_of h3
  obtain ⟨i, rfl, h3⟩ := h3
  replace h3 := intOf_of h3
  obtain ⟨j, rfl, h3⟩ := h3
  replace h3 := intOf_of h3
  obtain ⟨q, rfl, n, hn, h3⟩ := h3
  exact ⟨i, j, q, n, by rw [r1.intI, r2.intI, r3.intI], hn, hR _ _ s3 ((l1.trans l2).trans l3) I3 (ItD.rangeC i q n) h3⟩
end
section
variable {i j n m : Int} {k : Dat → Prop} {kl : List Dat → Prop} {e : Env} {w : Wld} {D : PEnds} {ke : Env → Wld → Prop}
theorem eModF : qModF (.int i) (.int j) k = (j ≠ 0 ∧ k (.int (i.fmod j))) := rfl
theorem eDivF : qDivF (.int i) (.int j) k = (oDivF i j ∧ k (.int (i.fdiv j))) := rfl
theorem eDivmodF : qDivmodF [.int i, .int j] k = (oDivF i j ∧ k (.tup [.int (i.fdiv j), .int (i.fmod j)])) := rfl
theorem eLone {α : Type} {x : α} {k : α → Prop} : lone [x] k = k x := rfl
theorem eTwo {α : Type} {x y : α} {k : α → α → Prop} : two [x, y] k = k x y := rfl
end
end Pu
namespace Pu
open PySem L2 Eng
theorem len_of_le {α : Type} {l l' : List α} (h : ∀ (i : Nat) q, l[i]? = some q → l'[i]? = some q) : l.length ≤ l'.length := by
  cases e : l.length with
  | zero => exact Nat.zero_le _
  | succ m =>
    have hm : m < l.length := by omega
    exact (List.getElem?_eq_some_iff.mp (h m _ (List.getElem?_eq_getElem hm))).1
mutual
/-- data that holds only the first n objects -/
def lowOb (n : Nat) : Dat → Prop
  | .tup l => lowObs n l
  | .lst l => lowObs n l
  | .cst l => lowObs n l
  | .ob j => j < n
  | .fn _ g => g.os.length ≤ n
  | .dct _ l => lowObs n l
  | _ => True
def lowObs (n : Nat) : List Dat → Prop
  | [] => True
  | d :: ds => lowOb n d ∧ lowObs n ds
end
def gCut (g : Gh) (n : Nat) : Gh := ⟨g.G, g.ms, g.ss, g.os.take n, g.ts⟩
def Wld.cut (w : Wld) (os : List Obj) : Wld := ⟨w.ms, w.ss, os⟩
section
variable {K : PySem.W.Frag} {c : Pc} {g : Gh}
mutual
theorem Rep.low : ∀ {d : Dat} {v : V}, Rep K c g v d → lowOb g.os.length d
  | .non, _, _ => by rw [lowOb]; all_goals (intros; trivial)
  | .bl _, _, _ => by rw [lowOb]; all_goals (intros; trivial)
  | .int _, _, _ => by rw [lowOb]; all_goals (intros; trivial)
  | .str _, _, _ => by rw [lowOb]; all_goals (intros; trivial)
  | .tup _, _, .tup _ r => by rw [lowOb]; exact Reps.low r
  | .lst _, _, .lst _ r => by rw [lowOb]; exact Reps.low r
  | .cst _, _, .cst _ r => by rw [lowOb]; exact Reps.low r
  | .big _ _, _, _ => by rw [lowOb]; all_goals (intros; trivial)
  | .mach _, _, _ => by rw [lowOb]; all_goals (intros; trivial)
  | .src _, _, _ => by rw [lowOb]; all_goals (intros; trivial)
  | .opq _, _, _ => by rw [lowOb]; all_goals (intros; trivial)
  | .dic _, _, _ => by rw [lowOb]; all_goals (intros; trivial)
  | .ob _, _, .ob h => by rw [lowOb]; exact (List.getElem?_eq_some_iff.mp h).1
  | .fn _ _, _, .fn h => by rw [lowOb]; exact len_of_le h.os
  | .fnc _, _, _ => by rw [lowOb]; all_goals (intros; trivial)
  | .dct _ _, _, .dct _ _ r => by rw [lowOb]; exact Reps.low r
theorem Reps.low : ∀ {ds : List Dat} {vs : List V}, Reps K c g vs ds → lowObs g.os.length ds
  | [], _, .nil => by rw [lowObs]; trivial
  | _ :: _, _, .cons h t => by rw [lowObs]; exact ⟨Rep.low h, Reps.low t⟩
end
mutual
theorem Rep.cutO {n : Nat} : ∀ {d : Dat} {v : V}, lowOb n d → Rep K c g v d → Rep K c (gCut g n) v d
  | .non, _, _, .non => .non
  | .bl _, _, _, .bl _ => .bl _
  | .int _, _, _, .int _ => .int _
  | .str _, _, _, .str _ => .str _
  | .tup _, _, h, .tup s r => .tup s (Reps.cutO (by rw [lowOb] at h; exact h) r)
  | .lst _, _, h, .lst s r => .lst s (Reps.cutO (by rw [lowOb] at h; exact h) r)
  | .cst _, _, h, .cst s r => .cst s (Reps.cutO (by rw [lowOb] at h; exact h) r)
  | .big _ _, _, _, .big h => .big h
  | .mach _, _, _, .mach h => .mach h
  | .src _, _, _, .src h => .src h
  | .opq _, _, _, .opq _ => .opq _
  | .dic _, _, _, .dic h => .dic h
  | .ob _, _, h, .ob e => .ob (by rw [lowOb] at h; show (g.os.take n)[_]? = _; rw [List.getElem?_take_of_lt h]; exact e)
  | .fn _ g0, _, h, .fn e => .fn ⟨e.G, e.ms, e.ss, fun i q z => by rw [lowOb] at h; show (g.os.take n)[i]? = _; rw [List.getElem?_take_of_lt (Nat.lt_of_lt_of_le (List.getElem?_eq_some_iff.mp z).1 h)]; exact e.os i q z, e.ts⟩
  | .fnc _, _, _, .fnc _ => .fnc _
  | .dct _ _, _, h, .dct s hl r => .dct s hl (Reps.cutO (by rw [lowOb] at h; exact h) r)
theorem Reps.cutO {n : Nat} : ∀ {ds : List Dat} {vs : List V}, lowObs n ds → Reps K c g vs ds → Reps K c (gCut g n) vs ds
  | [], _, _, .nil => .nil
  | _ :: _, _, h, .cons r t => .cons (Rep.cutO (by rw [lowObs] at h; exact h.1) r) (Reps.cutO (by rw [lowObs] at h; exact h.2) t)
end
def lowObj (n : Nat) : Obj → Prop
  | .lst l => lowObs n l
  | .dic _ => True
  | .kd _ l => lowObs n l
  | .ins _ _ l => lowObs n l
theorem ORep.low {H : Hp} {a : Addr} {o : Obj} (h : ORep K c g H a o) : lowObj g.os.length o := by
  cases o with
  | lst l => obtain ⟨vs, _, r⟩ := h; exact r.low
  | dic l => trivial
  | kd ks l => obtain ⟨vs, _, _, r⟩ := h; exact r.low
  | ins cl ks l => obtain ⟨dx, vs, _, _, r⟩ := h; exact r.low
theorem ORep.cutO {H : Hp} {a : Addr} {o : Obj} {n : Nat} (hl : lowObj n o) (h : ORep K c g H a o) : ORep K c (gCut g n) H a o := by
  cases o with
  | lst l => obtain ⟨vs, e, r⟩ := h; exact ⟨vs, e, r.cutO hl⟩
  | dic l => exact h
  | kd ks l => obtain ⟨vs, e, hz, r⟩ := h; exact ⟨vs, e, hz, r.cutO hl⟩
  | ins cl ks l => obtain ⟨dx, vs, e, hz, r⟩ := h; exact ⟨dx, vs, e, hz, r.cutO hl⟩
theorem lowObs_mem {n : Nat} : ∀ {ds : List Dat}, (∀ d ∈ ds, lowOb n d) → lowObs n ds
  | [], _ => by rw [lowObs]; trivial
  | d :: ds, h => by rw [lowObs]; exact ⟨h d List.mem_cons_self, lowObs_mem fun x hx => h x (List.mem_cons_of_mem _ hx)⟩
theorem low_int {n : Nat} {i : Int} : lowOb n (.int i) = True := by rw [lowOb]; all_goals (intros; trivial)
theorem low_bl {n : Nat} {i : Bool} : lowOb n (.bl i) = True := by rw [lowOb]; all_goals (intros; trivial)
theorem low_str {n : Nat} {i : Str} : lowOb n (.str i) = True := by rw [lowOb]; all_goals (intros; trivial)
theorem low_non {n : Nat} : lowOb n .non = True := by rw [lowOb]; all_goals (intros; trivial)
theorem low_big {n b : Nat} {i : Int} : lowOb n (.big b i) = True := by rw [lowOb]; all_goals (intros; trivial)
theorem low_mach {n i : Nat} : lowOb n (.mach i) = True := by rw [lowOb]; all_goals (intros; trivial)
theorem low_src {n i : Nat} : lowOb n (.src i) = True := by rw [lowOb]; all_goals (intros; trivial)
theorem low_dic {n : Nat} {l : List (Str × Int)} : lowOb n (.dic l) = True := by rw [lowOb]; all_goals (intros; trivial)
theorem low_tup {n : Nat} {l : List Dat} : lowOb n (.tup l) = lowObs n l := by rw [lowOb]
theorem low_lst {n : Nat} {l : List Dat} : lowOb n (.lst l) = lowObs n l := by rw [lowOb]
theorem low_nil {n : Nat} : lowObs n [] = True := by rw [lowObs]
theorem low_cons {n : Nat} {d : Dat} {ds : List Dat} : lowObs n (d :: ds) = (lowOb n d ∧ lowObs n ds) := by rw [lowObs]
/-- at the end of a def: its own objects are forgotten, those that were there are as they were -/
def penD (os : List Obj) (k : Dat → Wld → Prop) : PEnds := ⟨fun _ w => w.os.take os.length = os ∧ k .non (w.cut os), fun d _ w => lowOb os.length d ∧ w.os.take os.length = os ∧ k d (w.cut os), fun _ _ => False, fun _ _ => False⟩
variable {P : PSp} {vs : List V} {H : Hp} {Q : VK} {E : XK} {n : Nat} {t : TS} {p : PS}
theorem gCut_mu (g : Gh) (n : Nat) : List.Sublist (gCut g n).mu g.mu := by
  unfold Gh.mu Gh.ot
  refine List.Sublist.append (List.Sublist.refl _) (List.Sublist.append (List.Sublist.refl _) (List.Sublist.append (List.Sublist.refl _) (List.Sublist.append (List.take_sublist _ _) (List.Sublist.refl _))))
theorem Wr.cut {w : Wld} {os : List Obj} (W : Wr K c g H w) (e : w.os.take os.length = os) (low : ∀ o ∈ os, lowObj os.length o) (hle : os.length ≤ g.os.length) : Wr K c (gCut g os.length) H (w.cut os) := by
  have hs := gCut_mu g os.length
  refine ⟨W.sub, W.nd.sublist hs, fun a ha => W.off a (hs.subset ha), W.mlen, fun i q m h1 h2 => ?_, W.srcs, W.nss, ?_, fun i a o h1 h2 => ?_, W.tabs, W.hts⟩
  · have M := W.mach i q m h1 h2
    obtain ⟨us, u1, u2⟩ := M.wlk
    refine ⟨M.ins, M.cnt, M.ten, ⟨us, u1, u2.cutO (lowObs_mem fun d hd => ?_)⟩, M.few⟩
    obtain ⟨x, _, rfl⟩ := List.mem_map.mp hd
    unfold dW
    simp only [low_tup, low_cons, low_str, low_int, low_nil, and_self]
  · show (g.os.take os.length).length = os.length
    rw [List.length_take]; omega
  · have h1 : (g.os.take os.length)[i]? = some a := h1
    have h2 : os[i]? = some o := h2
    have hi : i < os.length := (List.getElem?_eq_some_iff.mp h2).1
    rw [List.getElem?_take_of_lt hi] at h1
    have h2' : w.os[i]? = some o := by
      rw [← e, List.getElem?_take_of_lt hi] at h2; exact h2
    exact (W.objs i a o h1 h2').cutO (low o (List.mem_of_getElem? h2))
theorem def_okD (hs : SndS K c t p) (hP : ∀ ds w k, P ds w k → p (penD w.os k) (env0 n ds) w) (h : lif K c P vs H Q E) : t (en0 Q) (st0 n vs) H := by
  obtain ⟨g, w, ds, k, W, r, hp, hq⟩ := h
  have low : ∀ o ∈ w.os, lowObj w.os.length o := fun o ho => by
    obtain ⟨i, hi⟩ := List.mem_iff_getElem?.mp ho
    have hl : i < g.os.length := by rw [W.olen]; exact (List.getElem?_eq_some_iff.mp hi).1
    have := (W.objs i _ o (List.getElem?_eq_getElem hl) hi).low
    rw [W.olen] at this
    exact this
  have fin : ∀ {σ : L2.St} {s : Cf} {v : V} {d : Dat}, In K c ⟨H, g, []⟩ [] σ s → Rep K c s.g v d → lowOb w.os.length d → s.w.os.take w.os.length = w.os → k d (s.w.cut w.os) → Q v s.H := fun {σ s v d} I rv h1 h2 h3 => by
    have A := I.aft
    have hle : w.os.length ≤ s.g.os.length := by
      rw [← W.olen]
      rcases Nat.lt_or_ge s.g.os.length g.os.length with z | z
      · have := A.le.os s.g.os.length _ (List.getElem?_eq_getElem z)
        have := (List.getElem?_eq_some_iff.mp this).1
        omega
      · exact z
    have hsub := gCut_mu s.g w.os.length
    refine hq v d (gCut s.g w.os.length) s.H (s.w.cut w.os) ⟨⟨A.le.G, A.le.ms, A.le.ss, fun i q e => ?_, A.le.ts⟩, A.keep, A.frz, fun a ha => A.new a (hsub.subset ha), A.dom⟩ (I.wr.cut h2 low hle) (rv.cutO h1) h3
    show (s.g.os.take w.os.length)[i]? = some q
    rw [List.getElem?_take_of_lt (by rw [← W.olen]; exact (List.getElem?_eq_some_iff.mp e).1)]
    exact A.le.os i q e
  refine hs ⟨H, g, []⟩ [] (st0 n vs) ⟨g, H, env0 n ds, w, []⟩ _ _ (In.start W r) (hP ds w k hp) ⟨fun σ s l I h => ?_, fun σ s v d l I r h => ?_, fun _ _ _ _ h => h.elim, fun _ _ _ _ h => h.elim⟩
  · exact fin I .non (by rw [low_non]; trivial) h.1 h.2
  · exact fin I r h.1 h.2.1 h.2.2
/-- n.bit_length() -/
def pBits (a : PE) : PE := fun e w k => a e w fun x e w => intOf x fun n => k (.int (Builtin.Int.intBits n : Nat)) e w
theorem snd_Az {ta : TE} {pa : PE} (ha : SndE K c ta pa) : SndE K c (tBits ta) (pBits pa) := by
  intro X F σ s k Q I h hQ
  refine ha X F σ s _ _ I h fun x dx s1 l1 I1 r1 h1 => ?_
  replace h1 := intOf_of h1
  obtain ⟨n, rfl, h1⟩ := h1
  exact ⟨n, r1.intI, hQ _ _ s1 l1 I1 (.int _) h1⟩
theorem take_self {os : List Obj} : os.take os.length = os := List.take_of_length_le (Nat.le_refl _)
end
end Pu
namespace Pu
open PySem L2 Eng
section
variable {K : PySem.W.Frag} {c : Pc}
def P_d_source : PSp := P_law_source_of
def P_d_draw : PSp := P_law_next
def P_d_pick : PSp := P_law_one
variable {x : Nat} {n : Int} {l : List Dat} {w : Wld} {kw : Dat → Wld → Prop}
theorem e_d_source : P_d_source [.int n] w kw = kw (.src w.ss) ⟨w.ms, w.ss + 1, w.os⟩ := rfl
theorem e_d_draw : P_d_draw [.src x, .int n] w kw = (x < w.ss ∧ (0 < n ∧ NxtB n) ∧ ∀ r, 0 ≤ r → r < n → kw (.int r) w) := rfl
theorem e_d_pick : P_d_pick [.src x, .lst l] w kw = (x < w.ss ∧ (l ≠ [] ∧ l.length ≤ 1000) ∧ ∀ d ∈ l, kw d w) := rfl
end
end Pu
namespace Eng
open PySem L2
end Eng
namespace Pu
open PySem L2 Eng
def qCatQ : Dat → Dat → (List Dat → Prop) → Prop
  | .cst l, .lst m, k => l.length + m.length ≤ sizeLine ∧ k (l ++ m)
  | _, _, _ => False
theorem eCatQ {l m : List Dat} {k : List Dat → Prop} : qCatQ (.cst l) (.lst m) k = (l.length + m.length ≤ sizeLine ∧ k (l ++ m)) := rfl
end Pu
namespace Pu
open PySem L2 Eng
/-- what a call of a lambda does -/
abbrev Ask := Wld → (Dat → Wld → Prop) → Prop
def noS : Slot → Slot
  | .val d => .val d
  | _ => .no
/-- the names that a lambda may read -/
def noO (e : Env) : Env := e.map noS
/-- P(a, lambda: b) -/
def pLam2 (P : Ask → PSp) (a b : PE) : PE := fun e w k => a e w fun d e w => P (fun w k => b (noO e) w fun d _ w => k d w) [d] w fun d w => k d e w
section
variable {K : PySem.W.Frag} {c : Pc} {g : Gh} {H : Hp} {w : Wld}
theorem noO_get {e : Env} {i : Nat} {z : Slot} (h : (noO e)[i]? = some z) : z = .no ∨ ∃ d, z = .val d ∧ e[i]? = some (.val d) := by
  unfold noO at h
  rw [List.getElem?_map] at h
  cases e1 : e[i]? with
  | none => rw [e1] at h; cases h
  | some y =>
    rw [e1] at h
    cases y with
    | val d => cases h; exact .inr ⟨d, rfl, rfl⟩
    | no => cases h; exact .inl rfl
    | own f l => cases h; exact .inl rfl
    | ownT l r => cases h; exact .inl rfl
end
end Pu
namespace Pu
open PySem L2 Eng
end Pu
namespace Eng
open PySem PySem.Spec PyProof.Rows L2
end Eng
namespace Pu
open PySem L2 Eng
def putS (l : List (Str × Int)) (s : Str) (n : Int) : List (Str × Int) := if (l.any fun p => decide (p.1 = s)) = true then l.map (fun p => if p.1 = s then (p.1, n) else p) else l ++ [(s, n)]
def strOf : Dat → (Str → Prop) → Prop
  | .str s, k => k s
  | _, _ => False
/-- a new dict that may be changed -/
def pDispO (l : List (Str × PE)) : PE := fun e w k => ((l.map (·.1)).Nodup ∧ l.length ≤ 15) ∧ dVals l e w fun m e w => k (.ob w.os.length) e (w.addO (.dic m))
def pDNewO : PE := fun e w k => k (.ob w.os.length) e (w.addO (.dic []))
/-- d[s] = n -/
def pgPutO (o ix : PE) : PG := fun d e w k => o e w fun x e w => ix e w fun y e w => obOf x fun j => strOf y fun s => intOf d fun n => dcAt w j fun l => l.length < sizeLine ∧ k e (w.putO j (.dic (putS l s n)))
def qNeDA : Q2
  | .dic l, .dic l', k => EqDs l l' ∧ k (.bl false)
  | _, _, _ => False
/-- a value as it leaves a def that has made the objects from n on -/
def thw1 (n : Nat) (w : Wld) : Dat → (Dat → Prop) → Prop
  | .ob j, k => if j < n then k (.ob j) else match w.os[j]? with | some (.dic l) => k (.dic l) | some (.lst l) => lowObs n l ∧ k (.lst l) | some (.kd ks l) => lowObs n l ∧ k (.dct ks l) | _ => False
  | d, k => lowOb n d ∧ k d
def thws (n : Nat) (w : Wld) : List Dat → (List Dat → Prop) → Prop
  | [], k => k []
  | d :: ds, k => thw1 n w d fun x => thws n w ds fun xs => k (x :: xs)
def thw (n : Nat) (w : Wld) : Dat → (Dat → Prop) → Prop
  | .tup l, k => thws n w l fun l => k (.tup l)
  | d, k => thw1 n w d k
def penT (os : List Obj) (k : Dat → Wld → Prop) : PEnds := ⟨fun _ w => w.os.take os.length = os ∧ k .non (w.cut os), fun d _ w => w.os.take os.length = os ∧ thw os.length w d fun d => k d (w.cut os), fun _ _ => False, fun _ _ => False⟩
section
variable {K : PySem.W.Frag} {c : Pc} {X : En} {F : List (Addr × HO)} {σ : L2.St} {s s1 : Cf} {g g1 : Gh} {H : Hp} {w : Wld} {a p : Addr} {vs ws : List V} {i j n : Nat} {ta tb tc : TE} {pa pb pc' : PE} {t : TS} {pp : PS} {sp : Sp} {P : PSp} {E : XK} {Q : VK} {l : List Dat}
theorem strOf_of {d : Dat} {k : Str → Prop} (h : strOf d k) : ∃ s, d = .str s ∧ k s := by
  cases d with
  | str s => exact ⟨s, rfl, h⟩
  | _ => exact h.elim
def alk1 : Dat → Dat → Prop
  | .big b n, .big b' n' => b ≠ 0 ∧ b = b' ∧ n = n'
  | .dic l, .dic l' => EqDs l l'
  | d, d' => d = d' ∧ pl d
def alks : List Dat → List Dat → Prop
  | [], [] => True
  | d :: ds, d' :: ds' => alk1 d d' ∧ alks ds ds'
  | _, _ => False
def qEqMX : Q2
  | .tup l, .tup l', k => alks l l' ∧ k (.bl true)
  | _, _, _ => False
def qNeMX : Q2
  | .tup l, .tup l', k => alks l l' ∧ k (.bl false)
  | _, _, _ => False
end
section
variable {n m : Int} {b : Bool} {s : Str} {l l' : List Dat} {k : Dat → Prop} {kl : List Dat → Prop} {w : Wld} {o : Obj} {x y : Nat} {d d' : Dat} {dl dl' : List (Str × Int)} {kd : List (Str × Int) → Prop}
theorem eStrO {ks : Str → Prop} : strOf (.str s) ks = ks s := rfl
theorem eNeDA : qNeDA (.dic dl) (.dic dl') k = (EqDs dl dl' ∧ k (.bl false)) := rfl
theorem eEqMX : qEqMX (.tup l) (.tup l') k = (alks l l' ∧ k (.bl true)) := rfl
theorem eNeMX : qNeMX (.tup l) (.tup l') k = (alks l l' ∧ k (.bl false)) := rfl
theorem dcAt_is (h : w.os[x]? = some (.dic dl)) : dcAt w x kd = kd dl := by unfold dcAt; rw [h]
theorem dcAt_add : dcAt (w.addO (.dic dl)) w.os.length kd = kd dl := dcAt_is addO_at
theorem thw_tup : thw x w (.tup l) k = thws x w l fun l => k (.tup l) := rfl
theorem thws_nil : thws x w [] kl = kl [] := rfl
theorem thws_cons : thws x w (d :: l) kl = thw1 x w d fun y => thws x w l fun ys => kl (y :: ys) := rfl
theorem thw1_dic (h : w.os[y]? = some (.dic dl)) (hx : x ≤ y) : thw1 x w (.ob y) k = k (.dic dl) := by
  unfold thw1
  simp only [h, Nat.not_lt.mpr hx, if_false]
theorem thw1_new : thw1 w.os.length (w.addO (.dic dl)) (.ob w.os.length) k = k (.dic dl) := thw1_dic addO_at (Nat.le_refl _)
theorem thw1_L : thw1 x w (.lst l) k = (lowObs x l ∧ k (.lst l)) := by
  show (lowOb x (.lst l) ∧ _) = _
  rw [low_lst]
theorem thw1_D : thw1 x w (.dic dl) k = k (.dic dl) := by
  show (lowOb x (.dic dl) ∧ _) = _
  rw [low_dic, true_and]
end
end Pu
namespace Pu
open PySem L2 Eng
def alkW (w : Wld) : Dat → Dat → Prop
  | .dic l, .ob j => dcAt w j fun l' => EqDs l l'
  | .lst l, .ob j => lsAt w j fun l' => l = l' ∧ pl (.lst l)
  | d, d' => alk1 d d'
def alksW (w : Wld) : List Dat → List Dat → Prop
  | [], [] => True
  | d :: ds, d' :: ds' => alkW w d d' ∧ alksW w ds ds'
  | _, _ => False
def pEqMW (r : Bool) (a b : PE) : PE := fun e w k => a e w fun x e w => b e w fun y e w => tupOf x fun l => tupOf y fun l' => alksW w l l' ∧ k (.bl r) e w
theorem noO_nil : noO [] = [] := rfl
theorem noO_cons {z : Slot} {e : Pu.Env} : noO (z :: e) = noS z :: noO e := rfl
theorem noS_val {d : Dat} : noS (.val d) = .val d := rfl
theorem noS_no : noS .no = .no := rfl
theorem noS_own {f : Bool} {l : List Dat} : noS (.own f l) = .no := rfl
end Pu
namespace Eng
open PySem L2
end Eng
namespace Pu
open PySem L2 Eng
def pDictCO (a : PE) : PE := fun e w k => a e w fun d e w => dicOf d fun l => k (.ob w.os.length) e (w.addO (.dic l))
def lsOf1 : Dat → (List Dat → Prop) → Prop
  | .lst l, k => k l
  | _, _ => False
def pExtO (o v : PE) : PS := fun D e w => o e w fun x e w => obOf x fun j => lsAt w j fun _ => v e w fun d e w => lsOf1 d fun m => lsAt w j fun l => l.length + m.length ≤ sizeLine ∧ D.nx e (w.putO j (.lst (l ++ m)))
section
variable {K : PySem.W.Frag} {c : Pc} {X : En} {F : List (Addr × HO)} {σ : L2.St} {s : Cf} {ta tb tc : TE} {pa pb pc' : PE} {i1 i2 x : Nat}
theorem eLsOf1 {l : List Dat} {k : List Dat → Prop} : lsOf1 (.lst l) k = k l := rfl
end
end Pu
namespace Pu
open PySem L2 Eng
end Pu
namespace Eng
open PySem PySem.Spec PyProof.Rows L2
end Eng
namespace Pu
open PySem L2 Eng
end Pu
namespace Eng
open PySem PySem.Spec PyProof.Rows L2 GQ
end Eng
namespace Pu
open PySem L2 Eng
end Pu
namespace Pu
open PySem L2 Eng
/-- an error: its class by its place in c.xs, its field if it has one -/
structure XD where
  j : Nat
  f : Option (Str × Dat)
abbrev PX := XD → Wld → Prop
abbrev PSpX := List Dat → Wld → (Dat → Wld → Prop) → PX → Prop
/-- the error x comes out over H -/
def XOut (K : PySem.W.Frag) (c : Pc) (g : Gh) (H : Hp) (E : XK) (x : XD) : Prop := match x.f with
  | none => E (.ref (c.xs.getD x.j 0)) none H
  | some (n, d) => ∀ v p, Rep K c g v d → H p = none → E (.ref (c.xs.getD x.j 0)) (some p) (upd H p (.xd [(n, v)]))
def SndPX (K : PySem.W.Frag) (c : Pc) (sp : Sp) (P : PSpX) : Prop := ∀ (g : Gh) (H : Hp) (w : Wld) (vs : List V) (ds : List Dat) (k : Dat → Wld → Prop) (kx : PX) (Q : VK) (E : XK), Wr K c g H w → Reps K c g vs ds → P ds w k kx →
  (∀ v d g' H' w', Aft g H g' H' → Wr K c g' H' w' → Rep K c g' v d → k d w' → Q v H') → (∀ x g' H' w', Aft g H g' H' → Wr K c g' H' w' → kx x w' → XOut K c g' H' E x) → sp vs H Q E
section
variable {K : PySem.W.Frag} {c : Pc} {X : En} {F : List (Addr × HO)} {σ : L2.St} {s : Cf} {tr : TA} {pr : PA} {ts : TS} {ps : PS} {tx ux : XK → TS} {px qx : PX → PS} {tT : TT} {pT : PT} {P : PSpX} {sp : Sp} {i j : Nat}
def gAsg (i : Nat) (d : Dat) : PS := fun D e w => D.nx (e.set i (.val d)) w
def gRet (d : Dat) : PS := fun D e w => D.rt d e w
def gDrop (_ : Dat) : PS := fun D e w => D.nx e w
end
def qIsN : Q2 := fun x y k => match y with
  | .non => (match x with
    | .non => k (.bl true)
    | .opq _ => False
    | _ => k (.bl false))
  | _ => False
theorem eIsN0 {k : Dat → Prop} : qIsN .non .non k = k (.bl true) := rfl
theorem eIsN1 {l : List Dat} {k : Dat → Prop} : qIsN (.tup l) .non k = k (.bl false) := rfl
theorem eIsN2 {n : Int} {k : Dat → Prop} : qIsN (.int n) .non k = k (.bl false) := rfl
theorem s_isN {K : PySem.W.Frag} {c : Pc} : SndR2 K c rIsN qIsN := by
  intro X F σ s x y dx dy k Q I rx ry h hQ
  cases dy with
  | non =>
    refine ⟨ry.non, ?_⟩
    rcases rx with rx | ⟨a, vs, ds, rfl, rfl, _, _⟩
    · cases rx with
      | non => exact hQ _ _ s (Gh.le.refl _) I rfl rfl (.bl _) h
      | opq => exact h.elim
      | _ => exact hQ _ _ s (Gh.le.refl _) I rfl rfl (.bl _) (by first | exact h | simpa using h)
    · exact hQ _ _ s (Gh.le.refl _) I rfl rfl (.bl _) h
  | _ => exact h.elim
end Pu
namespace Pu
open PySem L2 Eng
section
variable {K : PySem.W.Frag} {c : Pc} {X : En} {F : List (Addr × HO)} {σ : L2.St} {s : Cf} {te : TE} {pe : PE} {ta : TA} {pa : PA} {sp : Sp} {P : PSpX} {i j : Nat} {f : Str}
def pRaiseF (kx : PX) (j : Nat) (f : Str) (a : PE) : PS := fun _ e w => a e w fun d _ w => kx ⟨j, some (f, d)⟩ w
end
def pCallE (P : PSpX) (a : PA) (kx : PX) : PE := fun e w k => a e w fun ds e w => P ds w (fun d w => k d e w) kx
abbrev AskX := Wld → (Dat → Wld → Prop) → PX → Prop
abbrev AsksP := Addr → Gh → AskX
abbrev PSpA := AsksP → PSp
def Posts (K : PySem.W.Frag) (c : Pc) (g : Gh) (H : Hp) (k : Dat → Wld → Prop) (kx : PX) (Q : VK) (E : XK) : Prop :=
  (∀ v d g' H' w', Aft g H g' H' → Wr K c g' H' w' → Rep K c g' v d → k d w' → Q v H') ∧ ∀ x g' H' w', Aft g H g' H' → Wr K c g' H' w' → kx x w' → XOut K c g' H' E x
structure PCl where
  j : Nat
  i : Option Nat
  ps : Addr → Gh → XD → PS
def noP (D : PEnds) (i : Nat) : PEnds := ⟨fun e w => D.nx (e.set i .no) w, D.rt, fun e w => D.bk (e.set i .no) w, fun e w => D.ct (e.set i .no) w⟩
def pSu (q : PCl) (x : XD) (D : PEnds) (e : Env) (w : Wld) : Prop := match q.i with
  | none => ∀ a g0, q.ps a g0 x D e w
  | some i => ∀ a g0, q.ps a g0 x (noP D i) (e.set i (.val (.fn a g0))) w
def pCla (x : XD) (D : PEnds) (e : Env) (w : Wld) : List PCl → Prop
  | [] => False
  | q :: r => if x.j = q.j ∨ q.j = 0 then pSu q x D e w else pCla x D e w r
def askAt (e : Env) (i : Nat) (k : Addr → Gh → Prop) : Prop := match e[i]? with
  | some (.val (.fn f g0)) => k f g0
  | _ => False
def pTryA (S : List Nat) (A : AsksP) (i : Nat) (g : Dat → PS) (cl : List PCl) : PS := fun D e w => askAt e i fun f g0 => A f g0 w (fun d w => g d D e w) fun x w => x.j ∈ S ∧ pCla x D e w cl
/-- the field of the error at hand -/
def pXf (x : XD) (a : Addr) (g0 : Gh) (i : Nat) (f : Str) : PE := fun e w k => e[i]? = some (.val (.fn a g0)) ∧ ∃ d, x.f = some (f, d) ∧ k d e w
abbrev ICl := Addr → Gh → Nat → Prop
/-- lambda: .. -/
def pMkL (IC : ICl) (j : Nat) : PE := fun e w k => ∀ f g0, IC f g0 j → k (.fn f g0) e w
def rfr1 (gs : Gh) : Dat → Dat
  | .fn f _ => .fn f gs
  | d => d
def rfr (gs : Gh) : Dat → Dat
  | .fn f _ => .fn f gs
  | .lst l => .lst (l.map (rfr1 gs))
  | d => d
def InClo (ds : List Dat) (f : Addr) (g0 : Gh) : Prop := .fn f g0 ∈ ds ∨ ∃ l, .lst l ∈ ds ∧ .fn f g0 ∈ l
abbrev PBd := Env → AskX
def askM (IC : ICl) (pB : List PBd) (gs : Gh) (e : Env) : AsksP := fun f g0 w k kx => g0 = gs ∧ ∃ j pb, pB[j]? = some pb ∧ IC f g0 j ∧ pb (noO e) w k kx
def pCloM (IC : ICl) (pB : List PBd) (P : PSpA) (a : PA) : PE := fun e w k => a e w fun ds e w => ∀ gs, (∀ f g0 j, InClo ds f g0 → IC f g0 j → IC f gs j) → P (askM IC pB gs e) (ds.map (rfr gs)) w fun d w => k d e w
def pLam1 (pb : PBd) (P : PSpA) : PE := fun e w k => ∀ f gs, P (fun f' g0 w k kx => f' = f ∧ g0 = gs ∧ pb (noO e) w k kx) [.fn f gs] w fun d w => k d e w
/-- bodies: a call that may raise, a call that does not, any value -/
def bdX (a : PA) (P : PSpX) : PBd := fun e w k kx => a e w fun ds _ w => P ds w k kx
def bdE (a : PE) : PBd := fun e w k _ => a e w fun d _ w => k d w
def SndB (K : PySem.W.Frag) (c : Pc) (tb : XK → TE) (pb : PBd) : Prop := ∀ (σ : L2.St) (g : Gh) (H : Hp) (e : Env) (w : Wld) (k : Dat → Wld → Prop) (kx : PX) (Q : VK) (E : XK), In K c ⟨H, g, []⟩ [] σ ⟨g, H, e, w, []⟩ → pb e w k kx → Posts K c g H k kx Q E → tb E σ H Q
section
variable {K : PySem.W.Frag} {c : Pc} {X : En} {F : List (Addr × HO)} {σ : L2.St} {s : Cf} {ta : TA} {pa : PA} {te : TE} {pe : PE} {sp : Sp}
/-- the state in which a closure's body runs -/
theorem In.body (I : In K c X F σ s) {g : Gh} {H : Hp} {w : Wld} (le : s.g.le g) (W : Wr K c g H w) : In K c ⟨H, g, []⟩ [] σ ⟨g, H, noO s.e, w, []⟩ := by
  have mu0 : ∀ a, a ∈ (⟨g, H, noO s.e, w, []⟩ : Cf).mu [] → a ∈ g.mu := fun a ha => by
    have ha : a ∈ g.mu ++ ([] ++ []) := ha
    rwa [List.append_nil, List.append_nil] at ha
  refine ⟨W, ?_, fun a ha => W.off a (mu0 a ha), by show (noO s.e).length = _; unfold noO; rw [List.length_map]; exact I.len, fun j z hz => ?_, fun q hq => (nomatch hq), fun q hq => (nomatch hq), Gh.le.refl _, fun a o e _ _ => e, fun _ _ _ => rfl, fun a ha => .inl (mu0 a ha), fun a o e => ⟨o, e⟩⟩
  · show (g.mu ++ ([] ++ [])).Nodup
    rw [List.append_nil, List.append_nil]; exact W.nd
  · rcases noO_get hz with rfl | ⟨d, rfl, hz2⟩
    · trivial
    · obtain ⟨v, e1, r⟩ := I.env j _ hz2
      exact ⟨v, e1, r.mono le⟩
/-- the lambdas' readings and their meanings -/
inductive BdS (K : PySem.W.Frag) (c : Pc) : List (Lmb × (XK → TE)) → List PBd → Prop
  | nil : BdS K c [] []
  | cons {L : Lmb} {tb : XK → TE} {pb : PBd} {bs : List (Lmb × (XK → TE))} {pB : List PBd} : SndB K c tb pb → BdS K c bs pB → BdS K c ((L, tb) :: bs) (pb :: pB)
theorem BdS.at : ∀ {bs : List (Lmb × (XK → TE))} {pB : List PBd}, BdS K c bs pB → ∀ {j : Nat} {L : Lmb} {tb : XK → TE} {pb : PBd}, bs[j]? = some (L, tb) → pB[j]? = some pb → SndB K c tb pb
  | _, _, .nil, _, _, _, _, h, _ => by simp at h
  | _, _, .cons h t, 0, _, _, _, h1, h2 => by cases h1; cases h2; exact h
  | _, _, .cons h t, j + 1, _, _, _, h1, h2 => BdS.at t (j := j) (by simpa using h1) (by simpa using h2)
/-- in a comprehension: the list that is walked is told anew, so that its closures are of the entry -/
def lstV (e : Env) (i : Nat) (k : List Dat → Prop) : Prop := match e[i]? with
  | some (.val (.lst l)) => k l
  | _ => False
def pRfr (IC : ICl) (i : Nat) (p : Gh → Env → PF) : PF := fun e w k => lstV e i fun l => ∀ gs, (∀ f g0 j, .fn f g0 ∈ l → IC f g0 j → IC f gs j) → p gs e (e.set i (.val (.lst (l.map (rfr1 gs))))) w k
def pCloB (IC : ICl) (pB : List PBd) (gs : Gh) (e0 : Env) (P : PSpA) (a : PA) : PE := fun e w k => a e w fun ds e w => (∃ f, .fn f gs ∈ ds) ∧ P (askM IC pB gs e0) ds w fun d w => k d e w
end
end Pu
namespace Pu
open PySem L2 Eng
/-- what a thing is: 1 a machine, 2 a Big, 0 neither -/
def isDk : Option HO → Option Nat
  | some (.dK _) => some 0
  | _ => none
def kindD : Dat → Option Nat
  | .non | .bl _ | .int _ | .str _ | .tup _ | .lst _ | .dic _ => some 0
  | .mach _ => some 1
  | .big _ _ => some 2
  | .fn f g => isDk (g.G f)
  | _ => none
def pIsO (n : Nat) (a : PE) : PE := fun e w k => a e w fun d e w => onSome (kindD d) fun q => k (.bl (decide (q = n))) e w
section
variable {K : PySem.W.Frag} {c : Pc}
theorem lcp_cons {g : PG} {t : PT} {a : PE} {vs : List Nat} {k : List Dat → Env → Wld → Prop} {d : Dat} {ds acc : List Dat} {e : Env} {w : Wld} :
    lcp g t a vs k (d :: ds) acc e w = g d e w fun e w => t e w fun b e w => if b = true then a e w fun y e w => acc.length < sizeLine ∧ lcp g t a vs k ds (acc ++ [y]) (wip e vs) w else lcp g t a vs k ds acc (wip e vs) w := rfl
theorem lcp_nil {g : PG} {t : PT} {a : PE} {vs : List Nat} {k : List Dat → Env → Wld → Prop} {acc : List Dat} {e : Env} {w : Wld} : lcp g t a vs k [] acc e w = k acc e w := rfl
theorem eBl {b : Bool} {k : Bool → Prop} : isB (.bl b) k = k b := rfl
theorem eKd0 {k : Nat → Prop} : onSome (kindD .non) k = k 0 := rfl
theorem eKd1 {b : Bool} {k : Nat → Prop} : onSome (kindD (.bl b)) k = k 0 := rfl
theorem eKd2 {n : Int} {k : Nat → Prop} : onSome (kindD (.int n)) k = k 0 := rfl
theorem eKd3 {s : Str} {k : Nat → Prop} : onSome (kindD (.str s)) k = k 0 := rfl
theorem eKd4 {l : List Dat} {k : Nat → Prop} : onSome (kindD (.tup l)) k = k 0 := rfl
theorem eKd5 {l : List Dat} {k : Nat → Prop} : onSome (kindD (.lst l)) k = k 0 := rfl
theorem eKd6 {l : List (Str × Int)} {k : Nat → Prop} : onSome (kindD (.dic l)) k = k 0 := rfl
theorem eKd7 {i : Nat} {k : Nat → Prop} : onSome (kindD (.mach i)) k = k 1 := rfl
theorem eKd8 {b : Nat} {n : Int} {k : Nat → Prop} : onSome (kindD (.big b n)) k = k 2 := rfl
end
end Pu
namespace Pu
open PySem L2 Eng
end Pu
namespace Pu
open PySem L2 Eng
/-- the promises over the heap and over data go together -/
inductive FLs (K : PySem.W.Frag) (c : Pc) : List (Nat × Sp) → List (Nat × PSp) → Prop
  | nil : FLs K c [] []
  | cons {j : Nat} {sp : Sp} {P : PSp} {ls : List (Nat × Sp)} {l : List (Nat × PSp)} : SndP K c sp P → FLs K c ls l → FLs K c ((j, sp) :: ls) ((j, P) :: l)
section
variable {K : PySem.W.Frag} {c : Pc} {ls : List (Nat × Sp)} {l : List (Nat × PSp)} {tr : TA} {pr : PA} {i n : Nat}
theorem FLs.get (h : FLs K c ls l) {j : Nat} {P : PSp} (e : l.lookup j = some P) : ∃ sp, (j, sp) ∈ ls ∧ SndP K c sp P := by
  induction h with
  | nil => cases e
  | @cons q sp Q ls l hs t ih =>
    rw [List.lookup_cons] at e
    by_cases z : j = q
    · subst z
      rw [beq_self_eq_true] at e
      cases e
      exact ⟨sp, List.mem_cons_self, hs⟩
    · rw [show (j == q) = false by simpa using z] at e
      obtain ⟨sp', h1, h2⟩ := ih e
      exact ⟨sp', List.mem_cons_of_mem _ h1, h2⟩
end
end Pu
namespace Pu
open PySem L2 Eng
end Pu
namespace Pu
open PySem L2 Eng
def pInC (ps : List (Int × Int)) (a : PE) : PE := fun e w k => a e w fun d e w => intOf d fun n => k (.bl (ps.lookup n).isSome) e w
def pIxD (ps : List (Int × Int)) (a : PE) : PE := fun e w k => a e w fun d e w => intOf d fun n => onSome (ps.lookup n) fun m => k (.int m) e w
section
variable {K : PySem.W.Frag} {c : Pc} {ta : TE} {pa : PE} {ps : List (Int × Int)}
theorem snd_inC (ha : SndE K c ta pa) : SndE K c (tInC ps ta) (pInC ps pa) := by
  intro X F σ s k Q I h hQ a
  refine ha X F σ s _ _ I h fun v d s1 l1 I1 r1 h1 => ?_
  cases d with
  | int n => exact ⟨n, r1.intI, rfl, hQ _ _ s1 l1 I1 (.bl _) h1⟩
  | _ => exact h1.elim
theorem snd_ixD (ha : SndE K c ta pa) : SndE K c (tIxD ps ta) (pIxD ps pa) := by
  intro X F σ s k Q I h hQ a
  refine ha X F σ s _ _ I h fun v d s1 l1 I1 r1 h1 => ?_
  cases d with
  | int n =>
    replace h1 := onSome_of h1
    obtain ⟨m, hm, h1⟩ := h1
    exact ⟨n, m, rfl, r1.intI, hm, hQ _ _ s1 l1 I1 (.int m) h1⟩
  | _ => exact h1.elim
end
end Pu
namespace Pu
open PySem L2 Eng
end Pu
namespace Pu
open PySem L2 Eng
end Pu
namespace Pu
open PySem L2 Eng
end Pu
namespace Pu
open PySem L2 Eng
end Pu
namespace Pu
open PySem L2 Eng
end Pu
namespace Pu
open PySem L2 Eng
end Pu
namespace Pu
open PySem L2 Eng
end Pu
namespace Pu
open PySem L2 Eng
end Pu
namespace Eng
open PySem PySem.Spec PyProof.Rows L2
end Eng
namespace Pu
open PySem L2 Eng
end Pu
namespace Eng
open PySem PySem.Spec PyProof.Rows L2
end Eng
namespace Pu
open PySem L2 Eng
section
variable {K : PySem.W.Frag} {c : Pc} {sp : Sp} {P : PSp} {E : XK} {tr : TA} {pr : PA} {n : Nat} {ix : List Nat}
def pKwD (n : Nat) (P : PSp) (ix : List Nat) (dv : List Dat) (a : PA) : PE := fun e w k => a e w fun ds e w => ds.length = n ∧ P ((ix.map fun i => ds.getD i .non) ++ dv) w fun d w => k d e w
end
end Pu
namespace Pu
open PySem L2 Eng
section
variable {κ : Type} [DecidableEq κ] {α : Type}
def kGet : List κ → List α → κ → Option α
  | k' :: ks, d :: l, k => if k' = k then some d else kGet ks l k
  | _, _, _ => none
def kSet : List κ → List α → κ → α → List α
  | k' :: ks, d' :: l, k, d => if k' = k then d :: l else d' :: kSet ks l k d
  | _, _, _, d => [d]
def kKs : List κ → κ → List κ
  | k' :: ks, k => if k' = k then k' :: ks else k' :: kKs ks k
  | [], k => [k]
theorem kKs_len {k : κ} {d : α} : ∀ {ks : List κ} {l : List α}, ks.length = l.length → (kKs ks k).length = (kSet ks l k d).length
  | [], [], _ => rfl
  | a :: ks, b :: l, h => by
    unfold kKs kSet
    split
    · exact h
    · rw [List.length_cons, List.length_cons, kKs_len (ks := ks) (l := l) (Nat.succ.inj h)]
end
theorem valV_zip {κ : Type} [DecidableEq κ] {k : κ} : ∀ {ks : List κ} {vs : List V}, valV (ks.zip vs) k = kGet ks vs k
  | [], _ => by simp [kGet, valV]
  | _ :: _, [] => by simp [kGet, valV]
  | a :: ks, v :: vs => by
    show valV ((a, v) :: ks.zip vs) k = _
    unfold kGet
    by_cases h : a = k
    · rw [if_pos h, valV_pos (p := (a, v)) h]
    · rw [if_neg h, valV_neg (p := (a, v)) h, valV_zip]
theorem putF_zip {f : Str} {v : V} : ∀ {ks : List Str} {vs : List V}, ks.length = vs.length → putF f v (ks.zip vs) = (kKs ks f).zip (kSet ks vs f v)
  | [], [], _ => rfl
  | a :: ks, x :: vs, hl => by
    show (if a = f then (a, v) :: ks.zip vs else (a, x) :: putF f v (ks.zip vs)) = _
    unfold kKs kSet
    by_cases h : a = f
    · rw [if_pos h, if_pos h, if_pos h]; rfl
    · rw [if_neg h, if_neg h, if_neg h, putF_zip (Nat.succ.inj hl)]; rfl
theorem lookup_zip {f : Str} : ∀ {ks : List Str} {vs : List V}, (ks.zip vs).lookup f = kGet ks vs f
  | [], _ => by simp [kGet]
  | _ :: _, [] => by simp [kGet]
  | a :: ks, v :: vs => by
    show List.lookup f ((a, v) :: ks.zip vs) = _
    rw [List.lookup_cons]
    unfold kGet
    by_cases h : a = f
    · rw [if_pos h, show (f == a) = true by rw [h]; exact beq_self_eq_true _]
    · rw [if_neg h, show (f == a) = false from by simpa using fun z => h z.symm, lookup_zip]
section
variable {K : PySem.W.Frag} {c : Pc} {g : Gh}
theorem Reps.kGet {κ : Type} [DecidableEq κ] {k : κ} {d : Dat} : ∀ {ks : List κ} {vs : List V} {l : List Dat}, Reps K c g vs l → Pu.kGet ks l k = some d → ∃ v, Pu.kGet ks vs k = some v ∧ Rep K c g v d
  | [], _, _, _, h => by simp [Pu.kGet] at h
  | _ :: _, _, _, .nil, h => by simp [Pu.kGet] at h
  | a :: ks, _, _, .cons r t, h => by
    unfold Pu.kGet at h ⊢
    by_cases e : a = k
    · rw [if_pos e] at h ⊢
      cases h
      exact ⟨_, rfl, r⟩
    · rw [if_neg e] at h ⊢
      exact t.kGet h
theorem Reps.kNone {κ : Type} [DecidableEq κ] {k : κ} : ∀ {ks : List κ} {vs : List V} {l : List Dat}, Reps K c g vs l → Pu.kGet ks l k = none → Pu.kGet ks vs k = none
  | [], _, _, _, h => by simp [Pu.kGet]
  | _ :: _, _, _, .nil, h => by simp [Pu.kGet]
  | a :: ks, _, _, .cons r t, h => by
    unfold Pu.kGet at h ⊢
    by_cases e : a = k
    · rw [if_pos e] at h; cases h
    · rw [if_neg e] at h ⊢
      exact t.kNone h
theorem Reps.kSet {κ : Type} [DecidableEq κ] {k : κ} {d : Dat} {v : V} (h : Rep K c g v d) : ∀ {ks : List κ} {vs : List V} {l : List Dat}, Reps K c g vs l → Reps K c g (Pu.kSet ks vs k v) (Pu.kSet ks l k d)
  | [], _, _, _ => by unfold Pu.kSet; exact .cons h .nil
  | _ :: _, _, _, .nil => by unfold Pu.kSet; exact .cons h .nil
  | a :: ks, _, _, .cons r t => by
    unfold Pu.kSet
    by_cases e : a = k
    · rw [if_pos e, if_pos e]; exact .cons h t
    · rw [if_neg e, if_neg e]; exact .cons r (t.kSet h)
end
def kdOb (w : Wld) (j : Nat) (k : List Key → List Dat → Prop) : Prop := match w.os[j]? with | some (.kd ks l) => k ks l | _ => False
def insOb (w : Wld) (j : Nat) (cl : Nat) (k : List Str → List Dat → Prop) : Prop := match w.os[j]? with | some (.ins cl' ks l) => cl' = cl ∧ k ks l | _ => False
/-- what a dict holds now -/
def kdAt (w : Wld) : Dat → (List Key → List Dat → Prop) → Prop
  | .dct ks l, k => k ks l
  | .ob j, k => kdOb w j k
  | _, _ => False
def keyOf : Dat → (Key → Prop) → Prop
  | .int n, k => k (Sum.inl n)
  | .str s, k => k (Sum.inr s)
  | _, _ => False
def pDGetK (a b : PE) : PE := fun e w k => a e w fun x e w => b e w fun y e w => keyOf y fun q => kdAt w x fun ks l => onSome (kGet ks l q) fun d => k d e w
def pDInK (b a : PE) : PE := fun e w k => b e w fun y e w => a e w fun x e w => keyOf y fun q => kdAt w x fun ks l => k (.bl (kGet ks l q).isSome) e w
def pDNotInK (b a : PE) : PE := fun e w k => b e w fun y e w => a e w fun x e w => keyOf y fun q => kdAt w x fun ks l => k (.bl (!(kGet ks l q).isSome)) e w
def pgPutK (o ix : PE) : PG := fun d e w k => o e w fun x e w => ix e w fun y e w => obOf x fun j => keyOf y fun q => kdOb w j fun ks l => ks.length < sizeLine ∧ k e (w.putO j (.kd (kKs ks q) (kSet ks l q d)))
def kVals : List (Key × PE) → Env → Wld → (List Dat → Env → Wld → Prop) → Prop
  | [], e, w, k => k [] e w
  | (_, a) :: r, e, w, k => a e w fun x e w => kVals r e w fun l e w => k (x :: l) e w
/-- a new dict; one that may be changed -/
def pDispK (l : List (Key × PE)) : PE := fun e w k => ((l.map (·.1)).Nodup ∧ l.length ≤ 15) ∧ kVals l e w fun m e w => k (.dct (l.map (·.1)) m) e w
def pDispKO (l : List (Key × PE)) : PE := fun e w k => ((l.map (·.1)).Nodup ∧ l.length ≤ 15) ∧ kVals l e w fun m e w => k (.ob w.os.length) e (w.addO (.kd (l.map (·.1)) m))
def pDNewKO : PE := fun e w k => k (.ob w.os.length) e (w.addO (.kd [] []))
/-- o.f, o.f = v, o.m(..), C(..) of an own class -/
def pFldO (cl : Nat) (f : Str) (a : PE) : PE := fun e w k => a e w fun x e w => obOf x fun j => insOb w j cl fun ks l => onSome (kGet ks l f) fun d => k d e w
def pFldS (cl : Nat) (f : Str) (o v : PE) : PS := fun D e w => v e w fun d e w => o e w fun x e w => obOf x fun j => insOb w j cl fun ks l => ks.length < 1000 ∧ D.nx e (w.putO j (.ins cl (kKs ks f) (kSet ks l f d)))
def pMethO (cl : Nat) (m : Str) (P : PSp) (a : PE) (r : PA) : PE := fun e w k => a e w fun x e w => obOf x fun j => insOb w j cl fun ks l => kGet ks l m = none ∧ r e w fun ds e w => P (x :: ds) w fun d w => k d e w
def pMkO (cl : Nat) (P : PSp) (dv : List Dat) (r : PA) : PE := fun e w k => r e w fun ds e w => P (.ob w.os.length :: (ds ++ dv)) (w.addO (.ins cl [] [])) fun d w' => d = .non ∧ k (.ob w.os.length) e w'
/-- what the text says of an own class -/
def KsAt (K : PySem.W.Frag) (c : Pc) (cl : Nat) (fs : List Str) : Prop := Cls K (c.ks.getD cl 0) ∧ ∀ f ∈ fs, NoAttr K (c.ks.getD cl 0) f
section
variable {K : PySem.W.Frag} {c : Pc} {X : En} {F : List (Addr × HO)} {σ : L2.St} {s s1 : Cf} {g g1 : Gh} {H : Hp} {w : Wld} {a p : Addr} {vs ws : List V} {i j n cl : Nat} {ta tb tc : TE} {pa pb pc' : PE} {tr : TA} {pr : PA} {sp : Sp} {P : PSp} {E : XK} {Q : VK} {l : List Dat} {f m : Str} {fs : List Str}
theorem keyOf_of {d : Dat} {k : Key → Prop} (h : keyOf d k) : ∃ q, (∀ v, Rep K c g v d → v = kV q) ∧ k q := by
  cases d with
  | int n => exact ⟨Sum.inl n, fun v r => by cases r; rfl, h⟩
  | str n => exact ⟨Sum.inr n, fun v r => by cases r; rfl, h⟩
  | _ => exact h.elim
theorem kdOb_of {k : List Key → List Dat → Prop} (h : kdOb w j k) : ∃ ks l, w.os[j]? = some (.kd ks l) ∧ k ks l := by
  unfold kdOb at h
  split at h
  · exact ⟨_, _, by assumption, h⟩
  · exact h.elim
theorem insOb_of {k : List Str → List Dat → Prop} (h : insOb w j cl k) : ∃ ks l, w.os[j]? = some (.ins cl ks l) ∧ k ks l := by
  unfold insOb at h
  split at h
  · obtain ⟨e, h⟩ := h
    subst e
    exact ⟨_, _, by assumption, h⟩
  · exact h.elim
theorem Wr.kdAt (W : Wr K c g H w) {v : V} {d : Dat} {k : List Key → List Dat → Prop} (r : Rep K c g v d) (h : Pu.kdAt w d k) : ∃ a ks vs l, v = .ref a ∧ H a = some (.dK (ks.zip vs)) ∧ ks.length = vs.length ∧ Reps K c g vs l ∧ k ks l := by
  cases r with
  | dct h1 h2 h3 => exact ⟨_, _, _, _, rfl, W.sub _ _ h1, h2, h3, h⟩
  | ob e =>
    obtain ⟨ks, l, hl, h⟩ := kdOb_of h
    obtain ⟨a, ea, _, vs, h1, h2, h3⟩ := W.obAt (Rep.ob e) hl
    exact ⟨a, ks, vs, l, ea, h1, h2.1, h3, h⟩
  | _ => exact h.elim
theorem snd_dgetK (ha : SndE K c ta pa) (hb : SndE K c tb pb) : SndE K c (tDGet ta tb) (pDGetK pa pb) := by
  intro X F σ s k Q I h hQ
  refine ha X F σ s _ _ I h fun x dx s1 l1 I1 r1 h1 => ?_
  refine hb X F σ s1 _ _ I1 h1 fun y dy s2 l2 I2 r2 h2 => ?_
  obtain ⟨q, hq, h2⟩ := keyOf_of h2
  obtain ⟨a, ks, vs, l, rfl, hH, hl, hR, h2⟩ := I2.wr.kdAt (r1.mono l2) h2
  obtain ⟨d, hd, h2⟩ := onSome_of h2
  obtain ⟨v, hv, rv⟩ := hR.kGet hd
  refine ⟨a, v, rfl, ?_, hQ v d s2 (l1.trans l2) I2 rv h2⟩
  rw [hq _ r2]
  have := DGet.k (k := q) hH
  rw [valV_zip, hv] at this
  exact this
def SndDK (K : PySem.W.Frag) (c : Pc) : List (TE × TE) → List (Key × PE) → Prop
  | [], [] => True
  | (tk, tv) :: ts, (q, p) :: ps => tk = tC (kV q) ∧ SndE K c tv p ∧ SndDK K c ts ps
  | _, _ => False
theorem snd_kVals : ∀ {ts : List (TE × TE)} {ps : List (Key × PE)}, SndDK K c ts ps → ∀ (X : En) (F : List (Addr × HO)) (σ : L2.St) (s : Cf) (k : List Dat → Env → Wld → Prop) (Q : List (V × V) → Hp → Prop), In K c X F σ s → kVals ps s.e s.w k →
    (∀ l vs s', s.g.le s'.g → In K c X F σ s' → Reps K c s'.g vs l → vs.length = ps.length → k l s'.e s'.w → Q (((ps.map (·.1)).zip vs).map fun kv => (kV kv.1, kv.2)) s'.H) → tPairs ts σ s.H Q
  | [], [], _, X, F, σ, s, k, Q, I, h, hQ => hQ [] [] s (Gh.le.refl _) I .nil rfl h
  | (tk, tv) :: ts, (z, p) :: ps, hd, X, F, σ, s, k, Q, I, h, hQ => by
    obtain ⟨e1, h2, h3⟩ := hd
    subst e1
    refine h2 X F σ s _ _ I h fun x dx s1 l1 I1 r1 h1 => ?_
    refine snd_kVals h3 X F σ s1 _ _ I1 h1 fun l vs s2 l2 I2 r2 hl h4 => ?_
    exact hQ (dx :: l) (x :: vs) s2 (l1.trans l2) I2 (.cons (r1.mono l2) r2) (by simp only [List.length_cons, hl]) h4
  | [], _ :: _, hd, _, _, _, _, _, _, _, _, _ => hd.elim
  | _ :: _, [], hd, _, _, _, _, _, _, _, _, _ => hd.elim
theorem merge_zip {ks : List Key} {vs : List V} (h : ks.Nodup) (hl : ks.length = vs.length) : mergeK [] (ks.zip vs) = ks.zip vs := mergeK_nil (by rw [List.map_fst_zip (Nat.le_of_eq hl)]; exact h)
theorem snd_dispK {ts : List (TE × TE)} {ps : List (Key × PE)} (hd : SndDK K c ts ps) : SndE K c (tDisp ts) (pDispK ps) := by
  intro X F σ s k Q I h hQ
  intro p hp
  have hx := I.fresh hp
  refine snd_kVals hd X ((p, .dK []) :: F) σ ⟨s.g, upd s.H p (.dK []), s.e, s.w, s.os⟩ _ _ (I.newF hp) h.2 fun l vs s1 l1 I1 r1 hl h1 => ?_
  have hl' : (ps.map (·.1)).length = vs.length := by rw [List.length_map, hl]
  refine ⟨I1.held _ List.mem_cons_self, (ps.map (·.1)).zip vs, rfl, by rw [List.length_zip, hl', Nat.min_self, hl]; exact h.1.2, ?_⟩
  rw [merge_zip h.1.1 hl']
  have I2 := I1.heldPut (o' := .dK ((ps.map (·.1)).zip vs)) hx noC_dK
  have hm : p ∈ s1.mu ((p, .dK []) :: F) := (mu_cons s1 (p, .dK []) F).mem_iff.mpr List.mem_cons_self
  have le := gUpd_le (o := .dK ((ps.map (·.1)).zip vs)) (I1.off p hm)
  exact hQ _ _ ⟨gUpd s1.g p (.dK ((ps.map (·.1)).zip vs)), upd s1.H p (.dK ((ps.map (·.1)).zip vs)), s1.e, s1.w, s1.os⟩ (l1.trans le) (I2.frzF hx) (.dct (show upd s1.g.G p _ p = _ from upd_same) hl' (r1.mono le)) h1
theorem snd_fldO (KS : KsAt K c cl fs) (hm : fs.contains f = true) (ha : SndE K c ta pa) : SndE K c (tFld K ta f) (pFldO cl f pa) := by
  intro X F σ s k Q I h hQ
  refine ha X F σ s _ _ I h fun x dx s1 l1 I1 r1 h1 => ?_
  replace h1 := obOf_of h1
  obtain ⟨j, rfl, h1⟩ := h1
  obtain ⟨ks, l, hl, h1⟩ := insOb_of h1
  obtain ⟨d, hd, h1⟩ := onSome_of h1
  obtain ⟨a, rfl, _, dd, vs, hH, hz, hR⟩ := I1.wr.obAt r1 hl
  obtain ⟨v, hv, rv⟩ := hR.kGet hd
  exact ⟨a, _, dd, _, v, rfl, hH, KS.1, KS.2 f (List.contains_iff_mem.mp hm), by rw [lookup_zip]; exact hv, hQ v d s1 l1 I1 rv h1⟩
theorem snd_fldS (KS : KsAt K c cl fs) (hm : fs.contains f = true) (ho : SndE K c ta pa) (hv : SndE K c tb pb) : SndS K c (sFld K ta tb f) (pFldS cl f pa pb) := by
  intro X F σ s D Dp I h hE
  refine hv X F σ s _ _ I h fun y dy s1 l1 I1 r1 h1 => ?_
  refine ho X F σ s1 _ _ I1 h1 fun x dx s2 l2 I2 r2 h2 => ?_
  replace h2 := obOf_of h2
  obtain ⟨j, rfl, h2⟩ := h2
  obtain ⟨ks, l, hl, hn, h2⟩ := insOb_of h2
  obtain ⟨a, rfl, ha, dd, vs, hH, hz, hR⟩ := I2.wr.obAt r2 hl
  refine ⟨a, _, dd, _, rfl, hH, KS.1, KS.2 f (List.contains_iff_mem.mp hm), by rw [List.length_zip, ← hz, Nat.min_self]; exact hn, ?_⟩
  rw [putF_zip hz]
  exact hE.nx σ ⟨s2.g, upd s2.H a _, s2.e, s2.w.putO j (.ins cl (kKs ks f) (kSet ks l f dy)), s2.os⟩ (l1.trans l2) (I2.putOb ha ⟨dd, _, upd_same, kKs_len hz, hR.kSet (r1.mono l2)⟩) h2
theorem snd_methO (hp : SndP K c sp P) (ha : SndE K c ta pa) (hr : SndA K c tr pr) : SndE K c (tMeth (c.ks.getD cl 0) m sp [] E ta tr) (pMethO cl m P pa pr) := by
  intro X F σ s k Q I h hQ
  refine ha X F σ s _ _ I h fun x dx s1 l1 I1 r1 h1 => ?_
  have h1' := h1
  replace h1' := obOf_of h1'
  obtain ⟨j, rfl, h1'⟩ := h1'
  obtain ⟨ks, l, hl, hn, h1'⟩ := insOb_of h1'
  obtain ⟨a, rfl, _, dd, vs, hH, hz, hR⟩ := I1.wr.obAt r1 hl
  refine ⟨a, dd, _, rfl, hH, by rw [lookup_zip]; exact hR.kNone hn, ?_⟩
  refine hr X F σ s1 _ _ I1 h1' fun us ds s2 l2 I2 r2 h2 => ?_
  rw [List.append_nil]
  refine hp s2.g s2.H s2.w _ _ _ _ E I2.wr (.cons (r1.mono l2) r2) h2 fun v d g' H' w' A W r3 h3 => ?_
  exact hQ v d ⟨g', H', s2.e, w', s2.os⟩ ((l1.trans l2).trans A.le) (I2.call A W) r3 h3
theorem snd_mkO {dv : List V} {dd : List Dat} (hp : SndP K c sp P) (hd : ∀ g : Gh, Reps K c g dv dd) (hr : SndA K c tr pr) : SndE K c (tMake (c.ks.getD cl 0) sp dv E tr) (pMkO cl P dd pr) := by
  intro X F σ s k Q I h hQ
  refine hr X F σ s _ _ I h fun us ds s1 l1 I1 r1 h1 => ?_
  intro x dx hx hdx ne
  have I2 := I1.newG (o := .own x) hdx
  have hx2 : upd s1.H dx (.own x) x = none := by rw [upd_ne (Ne.symm ne)]; exact hx
  have I3 := (I2.newF (o := .ins (c.ks.getD cl 0) dx []) hx2).toOb (u := .ins cl [] []) (I1.fresh hx) ⟨dx, [], upd_same, rfl, .nil⟩
  have le : s1.g.le (gOb (gUpd s1.g dx (.own x)) x) := (gUpd_le (I1.offG hdx)).trans (gOb_le _ x)
  have hob : (gOb (gUpd s1.g dx (.own x)) x).os[s1.w.os.length]? = some x := by
    show (s1.g.os ++ [x])[s1.w.os.length]? = some x
    rw [← I1.wr.olen, List.getElem?_concat_length]
  refine hp _ _ _ _ _ _ _ E I3.wr (.cons (.ob hob) ((r1.mono le).app (hd _))) h1 fun v d g' H' w' A W r3 h3 => ?_
  obtain ⟨e, h3⟩ := h3
  subst e
  exact ⟨r3.nonI, hQ (.ref x) (.ob s1.w.os.length) ⟨g', H', s1.e, w', s1.os⟩ (l1.trans (le.trans A.le)) (I3.call A W) (.ob (A.le.os _ _ hob)) h3⟩
variable {k : Dat → Prop} {d : Dat} {o : Obj}
theorem eKeyI {n : Int} {k : Key → Prop} : keyOf (.int n) k = k (Sum.inl n) := rfl
theorem eKeyS {n : Str} {k : Key → Prop} : keyOf (.str n) k = k (Sum.inr n) := rfl
theorem eKdD {ks : List Key} {k : List Key → List Dat → Prop} : kdAt w (.dct ks l) k = k ks l := rfl
theorem eKdO {k : List Key → List Dat → Prop} : kdAt w (.ob j) k = kdOb w j k := rfl
theorem kdOb_is {ks : List Key} {k : List Key → List Dat → Prop} (h : w.os[j]? = some (.kd ks l)) : kdOb w j k = k ks l := by unfold kdOb; rw [h]
theorem insOb_is {ks : List Str} {k : List Str → List Dat → Prop} (h : w.os[j]? = some (.ins cl ks l)) : insOb w j cl k = k ks l := by
  unfold insOb; rw [h]; exact propext ⟨fun z => z.2, fun z => ⟨rfl, z⟩⟩
theorem kdOb_add {ks : List Key} {k : List Key → List Dat → Prop} : kdOb (w.addO (.kd ks l)) w.os.length k = k ks l := kdOb_is addO_at
theorem insOb_add {ks : List Str} {k : List Str → List Dat → Prop} : insOb (w.addO (.ins cl ks l)) w.os.length cl k = k ks l := insOb_is addO_at
end
end Pu
namespace Pu
open PySem L2 Eng
def tyD : String → Dat → Bool
  | "list", .lst _ => true
  | "str", .str _ => true
  | _, _ => false
/-- o.m(..) of a value -/
def pBM (T : String) (q : Dat → QL) (o : PE) (a : PA) : PE := fun e w k => o e w fun x e w => tyD T x = true ∧ a e w fun ds e w => q x ds fun z => k z e w
def pBM0 (T : String) (q : Dat → QL) (o : PE) : PE := fun e w k => o e w fun x e w => tyD T x = true ∧ q x [] fun z => k z e w
section
variable {K : PySem.W.Frag} {c : Pc} {X : En} {F : List (Addr × HO)} {σ : L2.St} {s s1 : Cf} {ta tb tc : TE} {pa pb pc' : PE} {tr : TA} {pr : PA} {T : String}
/-- x, y = [..], [..]: both lists are the names' own -/
def pParOO (i j : Nat) (f g : PF) : PS := fun D e w => f e w fun l e w => g e w fun l' e w => D.nx ((e.set i (.own true l)).set j (.own true l')) w
theorem eTyL {l : List Dat} : (tyD "list" (.lst l) = true) = True := eq_true rfl
theorem eTyS {l : Str} : (tyD "str" (.str l) = true) = True := eq_true rfl
end
end Pu
namespace Pu
open PySem L2 Eng
inductive FLsX (K : PySem.W.Frag) (c : Pc) : List (Nat × Sp) → List (Nat × PSpX) → Prop
  | nil : FLsX K c [] []
  | cons {j : Nat} {sp : Sp} {P : PSpX} {ls : List (Nat × Sp)} {l : List (Nat × PSpX)} : SndPX K c sp P → FLsX K c ls l → FLsX K c ((j, sp) :: ls) ((j, P) :: l)
section
variable {K : PySem.W.Frag} {c : Pc} {ls : List (Nat × Sp)} {l : List (Nat × PSpX)} {ta : TA} {pa : PA} {i : Nat}
theorem FLsX.get (h : FLsX K c ls l) {j : Nat} {P : PSpX} (e : l.lookup j = some P) : ∃ sp, (j, sp) ∈ ls ∧ SndPX K c sp P := by
  induction h with
  | nil => cases e
  | @cons q sp Q ls l hs t ih =>
    rw [List.lookup_cons] at e
    by_cases z : j = q
    · subst z
      rw [beq_self_eq_true] at e
      cases e
      exact ⟨sp, List.mem_cons_self, hs⟩
    · rw [show (j == q) = false by simpa using z] at e
      obtain ⟨sp', h1, h2⟩ := ih e
      exact ⟨sp', List.mem_cons_of_mem _ h1, h2⟩
end
end Pu
namespace Eng
open PySem PySem.Spec PyProof.Rows L2
end Eng
namespace Pu
open PySem L2 Eng
end Pu
namespace Pu
open PySem L2 Eng
end Pu
namespace Eng
open PySem PySem.Spec PyProof.Rows L2
end Eng
namespace Pu
open PySem L2 Eng
def qAddS : Q2
  | .str a, .str b, k => a.length + b.length ≤ sizeLine ∧ k (.str (a ++ b))
  | _, _, _ => False
def qMulS : Q2
  | .str a, .int n, k => (0 ≤ n ∧ n ≤ 100000 ∧ a.length ≤ 100) ∧ k (.str (repS a n.toNat))
  | _, _, _ => False
def qIxS : Q2
  | .str z, .int i, k => z.length ≤ sizeLine ∧ onSome (atI z.cps.toList i) fun c => k (.str ⟨#[c]⟩)
  | _, _, _ => False
def qStrI : QL
  | [.int i], k => i.natAbs.log2 < 1920 ∧ k (.str (toString i))
  | _, _ => False
def qLenZ : QL
  | [.str z], k => z.length ≤ sizeLine ∧ k (.int z.length)
  | _, _ => False
def qIntS : QL
  | [.str a], k => ∃ n, PySem.intText? a = some n ∧ a.length ≤ 640 ∧ k (.int n)
  | _, _ => False
def pJoin (a b : PE) : PE := fun e w k => a e w fun x e w => strOf x fun s => b e w fun y e w => lstOf y fun l => ∃ ys : List Str, l = ys.map Dat.str ∧ (ys.map (·.length)).sum + ys.length * s.length ≤ 16777216 ∧ k (.str (Txt.join s ys)) e w
def pInT (neg : Bool) (ns : List Int) (a : PE) : PE := fun e w k => a e w fun d e w => intOf d fun n => k (.bl (if neg then !(ns.contains n) else ns.contains n)) e w
/-- { key : value }, the key computed -/
def pDisp1 (a b : PE) : PE := fun e w k => a e w fun d e w => strOf d fun s => b e w fun y e w => intOf y fun n => k (.dic [(s, n)]) e w
def pIfT (c a b : PT) : PT := fun e w k => c e w fun t e w => if t = true then a e w k else b e w k
def pRev2L (a : PE) : PF := fun e w k => a e w fun x e w => lstOf x fun ds => k ds.dropLast.reverse e w
section
variable {K : PySem.W.Frag} {c : Pc} {ta tb : TE} {pa pb : PE}
theorem s_addS : SndR2 K c rAddS qAddS := by
  intro X F σ s x y dx dy k Q I rx ry h hQ
  unfold qAddS at h
  split at h
  · obtain ⟨hl, h⟩ := h
    rw [rx.str, ry.str]
    exact ⟨_, _, rfl, rfl, hl, hQ _ _ s (Gh.le.refl _) I rfl rfl (.str _) h⟩
  · exact h.elim
theorem s_ixS : SndR2 K c rIxS qIxS := by
  intro X F σ s x y dx dy k Q I rx ry h hQ
  unfold qIxS at h
  split at h
  · obtain ⟨hl, h⟩ := h
    rw [rx.str, ry.int]
    unfold onSome at h
    split at h
    · exact ⟨_, _, _, rfl, rfl, hl, by assumption, hQ _ _ s (Gh.le.refl _) I rfl rfl (.str _) h⟩
    · exact h.elim
  · exact h.elim
theorem snd_disp1 {tk tv : TE} {pk pv : PE} (hk : SndE K c tk pk) (hv : SndE K c tv pv) : SndE K c (tDisp [(tk, tv)]) (pDisp1 pk pv) := by
  intro X F σ s k Q I h hQ
  intro p hp
  have hx := I.fresh hp
  refine hk X ((p, .dK []) :: F) σ ⟨s.g, upd s.H p (.dK []), s.e, s.w, s.os⟩ _ _ (I.newF hp) h fun x dx s1 l1 I1 r1 h1 => ?_
  obtain ⟨z, rfl, h1⟩ := strOf_of h1
  cases r1
  refine hv X _ σ s1 _ _ I1 h1 fun y dy s2 l2 I2 r2 h2 => ?_
  replace h2 := intOf_of h2
  obtain ⟨n, rfl, h2⟩ := h2
  rw [r2.intI]
  have hn : ((dKs [(z, n)]).map (·.1)).Nodup := by simp [dKs]
  refine ⟨I2.held _ List.mem_cons_self, dKs [(z, n)], rfl, by show 1 ≤ 15; decide, ?_⟩
  rw [mergeK_nil hn]
  have I3 := I2.heldPut (o' := .dK (dKs [(z, n)])) hx noC_dK
  have hm : p ∈ s2.mu ((p, .dK []) :: F) := (mu_cons s2 (p, .dK []) F).mem_iff.mpr List.mem_cons_self
  have le := gUpd_le (o := .dK (dKs [(z, n)])) (I2.off p hm)
  exact hQ _ _ ⟨gUpd s2.g p (.dK (dKs [(z, n)])), upd s2.H p (.dK (dKs [(z, n)])), s2.e, s2.w, s2.os⟩ ((l1.trans l2).trans le) (I3.frzF hx) (.dic (show upd s2.g.G p _ p = _ from upd_same)) h2
end
section
variable {a b : Str} {n i : Int} {k : Dat → Prop}
theorem eAddS : qAddS (.str a) (.str b) k = (a.length + b.length ≤ sizeLine ∧ k (.str (a ++ b))) := rfl
theorem eMulS : qMulS (.str a) (.int n) k = ((0 ≤ n ∧ n ≤ 100000 ∧ a.length ≤ 100) ∧ k (.str (repS a n.toNat))) := rfl
theorem eIxS : qIxS (.str a) (.int i) k = (a.length ≤ sizeLine ∧ onSome (atI a.cps.toList i) fun c => k (.str ⟨#[c]⟩)) := rfl
theorem eStrI : qStrI [.int i] k = (i.natAbs.log2 < 1920 ∧ k (.str (toString i))) := rfl
theorem eLenZ : qLenZ [.str a] k = (a.length ≤ sizeLine ∧ k (.int a.length)) := rfl
theorem eIntS : qIntS [.str a] k = (∃ n, PySem.intText? a = some n ∧ a.length ≤ 640 ∧ k (.int n)) := rfl
end
end Pu
namespace Pu
open PySem L2 Eng
def pInCs (ps : List (Str × Int)) (a : PE) : PE := fun e w k => a e w fun d e w => strOf d fun n => k (.bl (ps.lookup n).isSome) e w
def pIxCs (ps : List (Str × Int)) (a : PE) : PE := fun e w k => a e w fun d e w => strOf d fun n => onSome (ps.lookup n) fun m => k (.int m) e w
def qInS : Q2
  | .str a, .str z, k => ∃ c : Nat, a = ⟨#[c]⟩ ∧ k (.bl (decide (c ∈ z.cps.toList)))
  | _, _, _ => False
def pLower (a : PE) : PE := fun e w k => a e w fun x e w => strOf x fun s => s.length ≤ 5592405 ∧ k (.str (Txt.lower s)) e w
def pUpper (a : PE) : PE := fun e w k => a e w fun x e w => strOf x fun s => s.length ≤ 5592405 ∧ k (.str (Txt.upper s)) e w
def pFind (a b : PE) : PE := fun e w k => a e w fun x e w => strOf x fun s => b e w fun y e w => strOf y fun t => k (.int (Txt.find s t)) e w
def pSlS (a : PE) (lo hi : PO) : PE := fun e w k => a e w fun x e w => lo e w fun l e w => hi e w fun u e w => strOf x fun z => z.length ≤ sizeLine ∧ k (.str (cutS z l u)) e w
section
variable {K : PySem.W.Frag} {c : Pc} {ta tb : TE} {pa pb : PE} {ps : List (Str × Int)}
theorem snd_inCs (ha : SndE K c ta pa) : SndE K c (tInCs ps ta) (pInCs ps pa) := by
  intro X F σ s k Q I h hQ a
  refine ha X F σ s _ _ I h fun v d s1 l1 I1 r1 h1 => ?_
  obtain ⟨n, rfl, h1⟩ := strOf_of h1
  cases r1
  exact ⟨n, rfl, rfl, hQ _ _ s1 l1 I1 (.bl _) h1⟩
theorem snd_ixCs (ha : SndE K c ta pa) : SndE K c (tIxCs ps ta) (pIxCs ps pa) := by
  intro X F σ s k Q I h hQ a
  refine ha X F σ s _ _ I h fun v d s1 l1 I1 r1 h1 => ?_
  obtain ⟨n, rfl, h1⟩ := strOf_of h1
  cases r1
  replace h1 := onSome_of h1
  obtain ⟨m, hm, h1⟩ := h1
  exact ⟨n, m, rfl, rfl, hm, hQ _ _ s1 l1 I1 (.int m) h1⟩
theorem s_inS : SndR2 K c rInS qInS := by
  intro X F σ s x y dx dy k Q I rx ry h hQ
  unfold qInS at h
  split at h
  · obtain ⟨n, rfl, h⟩ := h
    rw [rx.str, ry.str]
    exact ⟨n, _, rfl, rfl, hQ _ _ s (Gh.le.refl _) I rfl rfl (.bl _) h⟩
  · exact h.elim
theorem snd_lower (ha : SndE K c ta pa) : SndE K c (tM0 rLower ta) (pLower pa) := by
  intro X F σ s k Q I h hQ
  refine ha X F σ s _ _ I h fun x dx s1 l1 I1 r1 h1 => ?_
  obtain ⟨a, rfl, h1⟩ := strOf_of h1
  cases r1
  exact ⟨⟨a, rfl⟩, a, rfl, rfl, h1.1, hQ _ _ s1 l1 I1 (.str _) h1.2⟩
theorem snd_upper (ha : SndE K c ta pa) : SndE K c (tM0 rUpper ta) (pUpper pa) := by
  intro X F σ s k Q I h hQ
  refine ha X F σ s _ _ I h fun x dx s1 l1 I1 r1 h1 => ?_
  obtain ⟨a, rfl, h1⟩ := strOf_of h1
  cases r1
  exact ⟨⟨a, rfl⟩, a, rfl, rfl, h1.1, hQ _ _ s1 l1 I1 (.str _) h1.2⟩
theorem snd_find (ha : SndE K c ta pa) (hb : SndE K c tb pb) : SndE K c (tM1 rFind ta tb) (pFind pa pb) := by
  intro X F σ s k Q I h hQ
  refine ha X F σ s _ _ I h fun x dx s1 l1 I1 r1 h1 => ?_
  obtain ⟨a, rfl, h1⟩ := strOf_of h1
  cases r1
  refine ⟨⟨a, rfl⟩, hb X F σ s1 _ _ I1 h1 fun y dy s2 l2 I2 r2 h2 => ?_⟩
  obtain ⟨b, rfl, h2⟩ := strOf_of h2
  cases r2
  exact ⟨a, b, rfl, rfl, hQ _ _ s2 (l1.trans l2) I2 (.int _) h2⟩
theorem snd_slS {tlo thi : TO} {plo phi : PO} (ha : SndE K c ta pa) (h1 : SndO K c tlo plo) (h2 : SndO K c thi phi) : SndE K c (tSl rSlS ta tlo thi) (pSlS pa plo phi) := by
  intro X F σ s k Q I h hQ
  refine ha X F σ s _ _ I h fun x dx s1 l1 I1 r1 h' => ?_
  refine h1 X F σ s1 _ _ I1 h' fun l s2 l2 I2 h' => ?_
  refine h2 X F σ s2 _ _ I2 h' fun u s3 l3 I3 h' => ?_
  obtain ⟨z, rfl, h'⟩ := strOf_of h'
  cases r1
  exact ⟨z, rfl, h'.1, hQ _ _ s3 ((l1.trans l2).trans l3) I3 (.str _) h'.2⟩
end
theorem eInS {a z : Str} {k : Dat → Prop} : qInS (.str a) (.str z) k = (∃ c : Nat, a = ⟨#[c]⟩ ∧ k (.bl (decide (c ∈ z.cps.toList)))) := rfl
/-- x is not None, where x may be anything that is known -/
def pNotNV (a : PE) : PE := fun e w k => a e w fun d e w => match d with
  | .non => k (.bl false) e w
  | .opq _ => False
  | _ => k (.bl true) e w
theorem snd_notNV {K : PySem.W.Frag} {c : Pc} {td : TE} {pd : PE} (ha : SndE K c td pd) : SndE K c (tNotN td) (pNotNV pd) := by
  intro X F σ s k Q I h hQ
  refine ha X F σ s _ _ I h fun v dv s1 l1 I1 r1 h1 => ?_
  cases r1 with
  | non => exact hQ _ _ s1 l1 I1 (.bl _) h1
  | opq => exact h1.elim
  | _ => exact hQ _ _ s1 l1 I1 (.bl _) (by first | exact h1 | simpa using h1)
def pNotInC (ps : List (Int × Int)) (a : PE) : PE := fun e w k => a e w fun d e w => intOf d fun n => k (.bl (!(ps.lookup n).isSome)) e w
theorem snd_notInC {K : PySem.W.Frag} {c : Pc} {ta : TE} {pa : PE} {ps : List (Int × Int)} (ha : SndE K c ta pa) : SndE K c (tNotInC ps ta) (pNotInC ps pa) := by
  intro X F σ s k Q I h hQ a
  refine ha X F σ s _ _ I h fun v d s1 l1 I1 r1 h1 => ?_
  cases d with
  | int n => exact ⟨n, r1.intI, rfl, hQ _ _ s1 l1 I1 (.bl _) h1⟩
  | _ => exact h1.elim
/-- l[::-1], l an object -/
def pRevLW (a : PE) : PF := fun e w k => a e w fun x e w => vw w x fun x => lstOf x fun ds => k ds.reverse e w
theorem snd_revLW {K : PySem.W.Frag} {c : Pc} {ta : TE} {pa : PE} (ha : SndE K c ta pa) : SndF K c (tRevL K ta) (pRevLW pa) := by
  intro X F σ s k Q I h hQ
  refine ha X F σ s _ _ I h fun x dx s1 l1 I1 r1 h' => ?_
  obtain ⟨dx', rw', h'⟩ := vw_of I1 r1 h'
  obtain ⟨ds, hd, h'⟩ := lstOf_of h'
  have hx : ∃ a vs, x = .ref a ∧ SqL K s1.H a vs ∧ Reps K c s1.g vs ds := by
    rcases hd with rfl | rfl
    · obtain ⟨a, vs, e, hH, hR⟩ := rw'.lst I1
      exact ⟨a, vs, e, SqL.of hH, hR⟩
    · exact rw'.cst I1
  obtain ⟨a, vs, rfl, hH, hR⟩ := hx
  exact ⟨a, vs, rfl, hH, fun p hp => hQ p _ _ ⟨s1.g, upd s1.H p (.lst _), s1.e, s1.w, s1.os⟩ l1 (I1.fresh hp) (I1.newF hp) hR.rev h'⟩
end Pu
namespace Eng
open PySem L2 Pu
local macro_rules | `(tactic| walk_at "pu") => `(tactic| try simp only [pDictCO, pExtO, eLsOf1, pEqMW, pLam2, noO_nil, noO_cons, noS_val, noS_no, noS_own, pDispO, pDNewO, pgPutO, penT, eStrO, eNeDA, eEqMX, eNeMX, dcAt_add, thw_tup, thws_nil, thws_cons, thw1_L, thw1_D, thw1_new, pOpW, pCBW, pOpFW, pCBFW, pObj, pSlW, pSetO, pAppO, pIR3, pgSetI, pgSetO, pgTup2, pTellO, vw_int, vw_bl, vw_str, vw_tup, vw_lst, vw_cst, vw_big, vw_non, vw_dic, vw_ob, vws_nil, vws_cons, obOf_ob, lsAt_put, onM_putO, onM_addO, eModF, eDivF, eDivmodF, eTwo, eLone, eCatQ, pBits, penD, low_int, low_bl, low_str, low_non, low_big, low_mach, low_src, low_dic, low_tup, low_lst, low_nil, low_cons, and_self, take_self, pSeq, pNext, pBreak, pCont, pAsg, pAsgO, pAsgG, pPar, pParO, pParO2, pRet, pRetN, pDrop, pIfS, pAppend, pSetI, pFrz, pFor, pC, pOp, pUn, pTest, pNot, pAnd, pOr, pAndV, pOrV, pNotV, pIf, pChain, pNil, pCons, pCall, pCallD, pKw, pTup, pCB, pLst, pFz, pOpF, pCBF, pOpO, pCBO, pgName, pgTup, pLc, pYes, pIL, pIT, pIR1, pIR2, pIEnum, pIZip, pNoPart, pPart, pSlL, pSlT, pRevL, pRevT, pDisp, dVals, pDNew, setAll, wip, env0, pen, frz, fz,
  eAdd, eSub, eAnd, eOr, eXor, eLt, eLe, eGt, eGe, eMul, eDiv, eMod, ePow, eShr, eNeg, eEqI, eEqS, eEqL, eNeI, eNeS, eNeL, eIx1, eIx2, eIx3, eIxL, eIxC, eIxT, eCat, eRep, eLen1, eLen2, eLen3, eAbs, eInt1, eInt2, eMax, eMin, eDivmod, eAnyT, pExtend, pIA, e_G, eDict, eEqDA, ePosD, eList1, eList2, eList3, eTupL, eEqB, eNeB, eIsB, qEqD, qNeD, eTup, eLst1, eLst2, eIntO, eSeq1, eSeq2, eSeq3, eSome, eAt0, eAt1, eAt2, eAt3, eVar, eVal, eOwnAt, eOwn, eSide, eRow, eWidB, eWidM, eCut, eBase, eMethM, eMethB, eSideB, eRowB, eBitsB, eMachO, eBigO,
  pCallN, pTupO, eAll, pCallO, pCallL, pRetL, pgUnl, pDGet2, eDicOf, eGtOf, eLsOf, eEqTD, eNeTD, penF, env0O, pBor, pBorT, pAppT, pAsgT, pParT, pTake, pSeqN, pRetT, pRetO, pRetC, eBv, eBv1, eBv2, eOt, eOt1, eNo0, eNo1, eNo2, eTld, eLf1, eLf2, eIsi, eq_self,
  e_cnt0, e_cnt1, e_cnt2, e_cnt3, e_cnt4, e_cnt5, e_cnt6, e_cnt7, e_cnt8, e_cnt9, e_Bg, e_Be, e_A8, e_Ba, e_Bf, e_L, e_Machine, e_E, e_V, e_big, e_R, e_T, e_Y, e_check_big, e_check_bigs, e_is_compact, e_Bb, e_Az, e_Bc, e_bit_length, e_is_digits, e_Big, e_source_of, e_next, e_one, e_d_source, e_d_draw, e_d_pick, e_cell_at, e_counted,
  List.map_cons, List.map_nil, List.length_cons, List.length_nil, List.cons_append, List.nil_append, List.append_nil, List.replicate_succ, List.replicate_zero, List.set_cons_zero, List.set_cons_succ, List.getElem?_cons_zero, List.getElem?_cons_succ, List.getD_cons_zero, List.getD_cons_succ, Nat.reduceSub, Nat.reduceAdd, Bool.not_true, Bool.not_false, Bool.false_eq_true, reduceIte, reduceCtorEq, true_and, and_true, decide_eq_true_eq, Bool.not_eq_true, Bool.not_eq_eq_eq_not, decide_eq_false_iff_not, Bool.not_not])
local macro_rules | `(tactic| walk_at "mo") => `(tactic| repeat (first | exact mo_var | exact mo_c | exact moq_I | exact moq_I0 | exact moq_eq | exact moq_ne | exact mo_nil | refine mo_op ?_ ?_ ?_ | refine mo_neg ?_ | refine mo_test ?_ | refine mo_not ?_ | refine mo_and ?_ ?_ | refine mo_or ?_ ?_ | refine mo_if ?_ ?_ ?_ | refine mo_cons ?_ ?_ | refine mo_tup ?_ | refine mo_fz ?_ | refine mo_lst ?_))
local macro_rules | `(tactic| walk_at "px") => `(tactic| (walk_at "pu"; (try simp only [eBl, pIsO, pCallE, pRaiseF, pMkL, pCloM, pCloB, pLam1, pRfr, lstV, lcp_cons, lcp_nil, pTryA, askAt, pCla, pSu, pXf, noP, bdX, bdE, gDrop, gRet, gAsg, eKd0, eKd1, eKd2, eKd3, eKd4, eKd5, eKd6, eKd7, eKd8, rfr, rfr1]); walk_at "pu"))
local macro_rules | `(tactic| walk_at "pk") => `(tactic| (walk_at "pu"; repeat ((simp only [pDGetK, pDInK, pDNotInK, pgPutK, pDispK, pDispKO, kVals, pDNewKO, pFldO, pFldS, pMethO, pMkO, eKeyI, eKeyS, eKdD, eKdO, kdOb_add, insOb_add, addO_putO, pKwD, pBM, pBM0, pParOO, eTyL, eTyS, eIsN0, eIsN1, eIsN2]); walk_at "pu")))
theorem dN_app (ds es : List Nat) : dN ds ++ dN es = dN (ds ++ es) := by unfold dN; rw [List.map_append]
theorem dN_len (ds : List Nat) : (dN ds).length = ds.length := by unfold dN; rw [List.length_map]
theorem dN_rev (ds : List Nat) : (dN ds).reverse = dN ds.reverse := by unfold dN; rw [List.map_reverse]
theorem dN_get {ds : List Nat} {i : Nat} {d : Dat} (h : (dN ds)[i]? = some d) : ∃ n : Nat, ds[i]? = some n ∧ d = .int (n : Int) := by
  unfold dN at h
  rw [List.getElem?_map] at h
  cases e : ds[i]? with
  | none => rw [e] at h; cases h
  | some n => rw [e] at h; exact ⟨n, rfl, (Option.some.inj h).symm⟩
theorem dN_inj {ds es : List Nat} (h : dN ds = dN es) : ds = es := by
  unfold dN at h
  exact (List.map_inj_right (fun a b e => by injection e with e; omega)).mp h
theorem dN_one (d : Nat) : [Dat.int (d : Int)] = dN [d] := rfl
theorem pl_dN {n : Nat} (ds : List Nat) : (dN ds).all (plF n) = true := by
  unfold dN
  rw [List.all_map]
  exact List.all_eq_true.mpr fun x _ => by cases n <;> rfl
theorem nb_dN {n : Nat} (ds : List Nat) : (dN ds).all (nbF n) = true := by
  unfold dN
  rw [List.all_map]
  exact List.all_eq_true.mpr fun x _ => by cases n <;> rfl
theorem pl_L (ds : List Nat) : pl (.lst (dN ds)) := pl_dN ds
theorem nb_L (ds : List Nat) : nbF 9 (.lst (dN ds)) = true := nb_dN ds
theorem pl_nil : pl (.lst []) := rfl
theorem dN_at {ds : List Nat} {n : Nat} {i : Int} {d : Nat} (hi : i = (n : Int)) (h : ds[n]? = some d) : atI (dN ds) i = some (.int (d : Int)) := by
  subst hi
  refine at_nat ?_
  unfold dN
  rw [List.getElem?_map, h]; rfl
theorem val_take (b : Nat) (ds : List Nat) (i : Nat) : val b (ds.take (i + 1)) = val b (ds.take i) + 2 ^ (b * i) * ds.getD i 0 := by
  rw [List.take_succ, val_app]
  by_cases h : i < ds.length
  · rw [List.getElem?_eq_getElem h, List.length_take, Nat.min_eq_left (Nat.le_of_lt h), List.getD_eq_getElem?_getD, List.getElem?_eq_getElem h]
    simp [val]
  · rw [List.getElem?_eq_none_iff.mpr (by omega), List.getD_eq_getElem?_getD, List.getElem?_eq_none_iff.mpr (by omega)]
    simp [val]
theorem val_snoc (b : Nat) (es : List Nat) (d : Nat) : val b (es ++ [d]) = val b es + 2 ^ (b * es.length) * d := by
  rw [val_app]; simp [val]
theorem Digs.snoc {b : Nat} {es : List Nat} {d : Nat} (h : Digs b es) (hd : d < 2 ^ b) : Digs b (es ++ [d]) := fun x hx => by
  rcases List.mem_append.mp hx with z | z
  · exact h x z
  · rw [List.mem_singleton.mp z]; exact hd
theorem Digs.getD {b : Nat} {ds : List Nat} (h : Digs b ds) (i : Nat) : ds.getD i 0 < 2 ^ b := by
  rw [List.getD_eq_getElem?_getD]
  cases e : ds[i]? with
  | none => exact Nat.two_pow_pos b
  | some d => exact h d (List.mem_of_getElem? e)
/-- a list or a tuple of digits -/
def IsRow (d : Dat) (xs : List Nat) : Prop := d = .tup (dN xs) ∨ d = .lst (dN xs)
theorem IsRow.len {d : Dat} {xs : List Nat} (h : IsRow d xs) {k : Dat → Prop} : qLen [d] k = k (.int (xs.length : Nat)) := by
  rcases h with rfl | rfl
  · rw [eLen2, dN_len]
  · rw [eLen1, dN_len]
theorem IsRow.seq {d : Dat} {xs : List Nat} (h : IsRow d xs) {k : List Dat → Prop} : seqOf d k = k (dN xs) := by
  rcases h with rfl | rfl <;> rfl
theorem enm_dN {xs : List Nat} {i : Nat} {d : Dat} (h : (enm 0 (dN xs))[i]? = some d) : i < xs.length ∧ d = .tup [.int (i : Int), .int (xs.getD i 0 : Nat)] := by
  obtain ⟨x, hx, rfl⟩ := enm_get h
  obtain ⟨n, hn, rfl⟩ := dN_get hx
  refine ⟨(List.getElem?_eq_some_iff.mp hn).1, ?_⟩
  rw [List.getD_eq_getElem?_getD, hn, Nat.zero_add]; rfl
theorem or_high {r q : Int} {k : Nat} (h0 : 0 ≤ r) (h1 : r < 2 ^ k) (hq : 0 ≤ q) : Builtin.bitOr r (q * 2 ^ k) = r + q * 2 ^ k := by
  rw [PyProof.Rows.bitOr_comm, or_low hq h0 h1, Int.add_comm]
theorem dN_set (rs : List Nat) (j d : Nat) : (dN rs).set j (.int (d : Int)) = dN (rs.set j d) := by
  unfold dN; rw [List.map_set]
theorem ix_nat {n p : Nat} (h : p < n) : ixN n (p : Int) = some p := by
  unfold ixN
  rw [if_pos (by omega), if_pos (by omega)]
  rfl
def vl (r : Nat) : List Nat → Nat
  | [] => 0
  | d :: l => d + r * vl r l
def dg (r n : Nat) : List Nat := if h : n = 0 ∨ r < 2 then [] else n % r :: dg r (n / r)
termination_by n
decreasing_by exact Nat.div_lt_self (by omega) (by omega)
theorem dg_zero (r : Nat) : dg r 0 = [] := by rw [dg]; simp
theorem dg_pos {r n : Nat} (hr : 2 ≤ r) (hn : n ≠ 0) : dg r n = n % r :: dg r (n / r) := by rw [dg, dif_neg (by omega)]
theorem vl_dg {r : Nat} (hr : 2 ≤ r) (n : Nat) : vl r (dg r n) = n := by
  induction n using Nat.strongRecOn with
  | ind n ih =>
    by_cases hn : n = 0
    · subst hn; rw [dg_zero]; rfl
    · rw [dg_pos hr hn]
      show n % r + r * vl r (dg r (n / r)) = n
      rw [ih _ (Nat.div_lt_self (by omega) (by omega))]; exact Nat.mod_add_div n r
theorem dg_lt {r : Nat} (hr : 2 ≤ r) (n : Nat) : ∀ d ∈ dg r n, d < r := by
  induction n using Nat.strongRecOn with
  | ind n ih =>
    by_cases hn : n = 0
    · subst hn; rw [dg_zero]; exact fun _ z => nomatch z
    · rw [dg_pos hr hn]
      intro d hd
      rcases List.mem_cons.mp hd with rfl | hd
      · exact Nat.mod_lt _ (by omega)
      · exact ih _ (Nat.div_lt_self (by omega) (by omega)) d hd
theorem dg_nil {r n : Nat} (hr : 2 ≤ r) : dg r n = [] ↔ n = 0 := by
  constructor
  · intro h
    have := vl_dg hr n
    rw [h] at this; exact this.symm
  · rintro rfl; exact dg_zero r
theorem vl_app (r : Nat) (a b : List Nat) : vl r (a ++ b) = vl r a + r ^ a.length * vl r b := by
  induction a with
  | nil => simp [vl]
  | cons d a ih =>
    rw [List.cons_append, vl, ih, vl, List.length_cons, Nat.pow_succ]
    rw [Nat.mul_add, ← Nat.mul_assoc, Nat.mul_comm r (r ^ a.length), Nat.add_assoc]
theorem vl_lt {r : Nat} {l : List Nat} (h : ∀ d ∈ l, d < r) : vl r l < r ^ l.length := by
  induction l with
  | nil => simp [vl]
  | cons d l ih =>
    have h1 := ih fun x hx => h x (List.mem_cons_of_mem _ hx)
    have h2 := h d List.mem_cons_self
    rw [vl, List.length_cons, Nat.pow_succ, Nat.mul_comm (r ^ l.length)]
    have h3 : r * (vl r l + 1) ≤ r * r ^ l.length := Nat.mul_le_mul_left r h1
    rw [Nat.mul_add, Nat.mul_one] at h3
    omega
theorem dg_le {r n k : Nat} (hr : 2 ≤ r) (h : n < r ^ k) : (dg r n).length ≤ k := by
  induction k generalizing n with
  | zero => have : n = 0 := by simpa using h
            subst this; rw [dg_zero]; exact Nat.le_refl _
  | succ k ih =>
    by_cases hn : n = 0
    · subst hn; rw [dg_zero]; exact Nat.zero_le _
    · rw [dg_pos hr hn, List.length_cons]
      have : n / r < r ^ k := Nat.div_lt_of_lt_mul (by rw [Nat.mul_comm, ← Nat.pow_succ]; exact h)
      exact Nat.succ_le_succ (ih this)
theorem dg_ge {r n : Nat} (hr : 2 ≤ r) (hn : n ≠ 0) : r ^ ((dg r n).length - 1) ≤ n := by
  induction n using Nat.strongRecOn with
  | ind n ih =>
    rw [dg_pos hr hn, List.length_cons, Nat.add_sub_cancel]
    by_cases h0 : n / r = 0
    · rw [h0, dg_zero]; simp; omega
    · have h1 := ih _ (Nat.div_lt_self (by omega) (by omega)) h0
      have h2 : (dg r (n / r)).length ≠ 0 := fun z => h0 ((dg_nil hr).mp (List.length_eq_zero_iff.mp z))
      have e : (dg r (n / r)).length = ((dg r (n / r)).length - 1) + 1 := by omega
      rw [e, Nat.pow_succ]
      exact Nat.le_trans (Nat.mul_le_mul_right r h1) (Nat.div_mul_le_self n r)
theorem dg_len2 {r n k : Nat} (hr : 2 ≤ r) (h : n < 2 ^ k) : (dg r n).length ≤ k := dg_le hr (Nat.lt_of_lt_of_le h (Nat.pow_le_pow_left hr k))
def fig (d : Nat) : Nat := if d < 10 then 48 + d else 87 + d
/-- digits, the last one first, as a text -/
def txL (l : List Nat) : Str := ⟨(l.reverse.map fig).toArray⟩
def tx (r n : Nat) : Str := txL (dg r n)
def figS : Str := "0123456789abcdefghijklmnopqrstuvwxyz"
theorem figs_at {d : Nat} (h : d < 36) : atI figS.cps.toList (d : Int) = some (fig d) := by
  have : ∀ d : Nat, d < 36 → atI figS.cps.toList (d : Int) = some (fig d) := by decide +kernel
  exact this d h
/-- a number's decimal text -/
def ts (n : Nat) : Str := if n = 0 then "0" else tx 10 n
def pad (p d : Nat) : List Nat := dg 10 d ++ List.replicate (p - (dg 10 d).length) 0
theorem vl_zeros (r k : Nat) : vl r (List.replicate k 0) = 0 := by
  induction k with
  | zero => rfl
  | succ k ih => rw [List.replicate_succ, vl, ih]; simp
/-- a tally as pairs -/
def tal (ns : List Int) : List (Str × Int) := List.zipWith Prod.mk words ns
theorem dRows_tal (ns : List Int) : dRows ns = (tal ns).map dP := by
  unfold dRows tal
  rw [List.map_zipWith]
  rfl
theorem tal_nd {ns : List Int} : ((tal ns).map (·.1)).Nodup := by
  have e : ((tal ns).map (·.1)) <+: words := by
    unfold tal
    rw [List.map_zipWith]
    have : ∀ (ws : List Str) (ns : List Int), List.zipWith (fun (a : Str) (b : Int) => (a, b).1) ws ns <+: ws := by
      intro ws
      induction ws with
      | nil => intro ns; simp
      | cons a ws ih =>
        intro ns
        cases ns with
        | nil => simp
        | cons n ns => rw [List.zipWith_cons_cons]; exact (List.prefix_cons_inj a).mpr (ih ns)
    exact this words ns
  exact (show words.Nodup from by decide +kernel).sublist e.sublist
theorem tal_len {ns : List Int} : (tal ns).length ≤ 10 := by
  unfold tal
  rw [List.length_zipWith]
  have : words.length = 10 := by decide +kernel
  omega
/-- a purse: z bounds the number of draws so far -/
def Prs (z : Nat) (l : List Dat) : Prop := ∃ a b c : Int, l = [.int a, .int b, .int c] ∧ 0 ≤ a ∧ (0 ≤ b ∧ b < 2 ^ 31) ∧ 0 ≤ c ∧ c ≤ (z : Int)
theorem Prs.mono {z z' : Nat} {l : List Dat} (h : Prs z l) (le : z ≤ z') : Prs z' l := by
  obtain ⟨a, b, c, rfl, h1, h2, h3, h4⟩ := h
  exact ⟨a, b, c, rfl, h1, h2, h3, by omega⟩
def P_z_purse : PSp := fun ds w k => match ds with
  | [.int _] => ∀ l, Prs 7 l → k (.lst l) w
  | _ => False
def sp_z_purse (K : PySem.W.Frag) (c : Pc) : Sp := lifL K c P_z_purse
theorem ul_z_purse {K : PySem.W.Frag} {c : Pc} : SndPL K c (sp_z_purse K c) P_z_purse := SndPL.lif
/-- 0:_law_cell -/
def t_z_purse (K : PySem.W.Frag) (c : Pc) : TS :=
  (tRet (tLst (tCons (tOp rMul (tVar 0) (tCB rInt (tCons (tOp rGe (tVar 0) (tOp rPow (tC (.int 10)) (tC (.int 18)))) tNil))) (tCons (tOp rMod (tCB rInt (tCons (tVar 0) tNil)) (tC (.int 2147483563))) (tCons (tC (.int 7)) tNil)))))
def p_z_purse : PS :=
  (pRetL (pLst (pCons (pOp qMul (pVar 0) (pCB qInt (pCons (pOp qGe (pVar 0) (pOp qPow (pC (.int 10)) (pC (.int 18)))) pNil))) (pCons (pOp qMod (pCB qInt (pCons (pVar 0) pNil)) (pC (.int 2147483563))) (pCons (pC (.int 7)) pNil)))))
theorem sn_z_purse {K : PySem.W.Frag} {c : Pc} {α : Prop} (PM : PM K c) (PB : α) : SndSL K c (t_z_purse K c) p_z_purse :=
  (snd_retL (snd_lst (snd_cons (snd_op s_mul snd_var (snd_cb s_int (snd_cons (snd_op s_ge snd_var (snd_op s_pow (snd_int 10) (snd_int 18))) snd_nil))) (snd_cons (snd_op s_mod (snd_cb s_int (snd_cons snd_var snd_nil)) (snd_int 2147483563)) (snd_cons (snd_int 7) snd_nil)))))
theorem n_z_purse : ∀ ds w k, P_z_purse ds w k → ds.length = 1 := fun ds w k h => by
  unfold P_z_purse at h
  split at h
  · rfl
  · exact h.elim
theorem e_z_purse {n : Int} {w : Wld} {k : Dat → Wld → Prop} : P_z_purse [.int n] w k = ∀ l, Prs 7 l → k (.lst l) w := rfl
theorem w_z_purse : ∀ ds w k, P_z_purse ds w k → p_z_purse (pen k) (env0 1 ds) w := by
  intro ds w k h
  unfold P_z_purse at h
  split at h
  · rename_i n
    have hz := sizeLine_eq
    unfold p_z_purse
    walk_at "pu"
    refine ⟨pow18, (show L2.CMul _ _ from .inr (by split <;> decide)).ok, by decide, by omega, h _ ⟨_, _, _, rfl, ?_, ⟨Int.emod_nonneg _ (by decide), ?_⟩, by decide, by decide⟩⟩
    · split
      · rename_i z
        have : (0 : Int) ≤ 10 ^ Int.toNat 18 := by decide
        omega
      · omega
    · have := Int.emod_lt_of_pos n (show (0 : Int) < 2147483563 by decide)
      omega
  · exact h.elim
theorem b_z_purse {K : PySem.W.Frag} {c : Pc} {vs : List V} {H : Hp} {Q : VK} {E : XK} {α : Prop} (PM : PM K c) (PB : α) (h : sp_z_purse K c vs H Q E) : t_z_purse K c (en0 Q) (st0 1 vs) H := def_okL (sn_z_purse PM PB) w_z_purse h
def P_z_coin : PSpO := fun ds l w k => match ds with
  | [.int n] => ∃ z, Prs z l ∧ z < 2 ^ 40 ∧ (0 < n ∧ NxtB n) ∧ ∀ r l', 0 ≤ r → r < n → Prs (z + 1) l' → k (.int r) l' w
  | _ => False
def sp_z_coin (K : PySem.W.Frag) (c : Pc) : Sp := lifO K c P_z_coin
theorem uO_z_coin {K : PySem.W.Frag} {c : Pc} : SndPO K c (sp_z_coin K c) P_z_coin := SndPO.lif
/-- 0:_law_purse_here 1:_law_amount 2:_law_coin_here 3:_law_mixed -/
def t_z_coin (K : PySem.W.Frag) (c : Pc) : TS :=
  (tSeq (tIfS (tTest (tOp rGt (tOp (rIxL K) (tVar 0) (tC (.int 0))) (tC (.int 0)))) (tSeq (tAsg (tOp rMod (tCB rInt (tCons (tOp (rIxL K) (tVar 0) (tC (.int 0))) tNil)) (tVar 1)) (gName 2))
  (tSeq (tAsg (tOp rDiv (tOp (rIxL K) (tVar 0) (tC (.int 0))) (tVar 1)) (gSub (tVar 0) (tC (.int 0)) rSetL))
  (tRet (tVar 2)))) tNext)
  (tSeq (tAsg (tOp rAdd (tOp (rIxL K) (tVar 0) (tC (.int 2))) (tC (.int 1))) (gSub (tVar 0) (tC (.int 2)) rSetL))
  (tSeq (tAsg (tOp rMod (tCB rInt (tCons (tOp rPow (tOp rAdd (tOp rAdd (tOp (rIxL K) (tVar 0) (tC (.int 1))) (tOp rMul (tC (.int 80021)) (tOp (rIxL K) (tVar 0) (tC (.int 2))))) (tC (.int 9))) (tC (.int 3))) tNil)) (tC (.int 2147483587))) (gName 3))
  (tSeq (tAsg (tOp rMod (tCB rInt (tCons (tOp rMul (tOp rAdd (tVar 3) (tOp rMul (tC (.int 7)) (tOp (rIxL K) (tVar 0) (tC (.int 2))))) (tOp rAdd (tOp rDiv (tVar 3) (tC (.int 1031))) (tC (.int 60089)))) tNil)) (tC (.int 2147483549))) (gName 3))
  (tRet (tOp rMod (tCB rInt (tCons (tOp rDiv (tOp rMod (tCB rInt (tCons (tOp rMul (tVar 3) (tOp rAdd (tOp rDiv (tVar 3) (tC (.int 2027))) (tC (.int 50069)))) tNil)) (tC (.int 2147483543))) (tC (.int 3))) tNil)) (tVar 1)))))))
def p_z_coin : PS :=
  (pSeq (pIfS (pTest (pOp qGt (pOpO qIxL 0 (pC (.int 0))) (pC (.int 0)))) (pSeq (pAsg (pOp qMod (pCB qInt (pCons (pOpO qIxL 0 (pC (.int 0))) pNil)) (pVar 1)) 2)
  (pSeq (pSetI 0 (pC (.int 0)) (pOp qDiv (pOpO qIxL 0 (pC (.int 0))) (pVar 1)))
  (pRet (pVar 2)))) pNext)
  (pSeq (pSetI 0 (pC (.int 2)) (pOp qAdd (pOpO qIxL 0 (pC (.int 2))) (pC (.int 1))))
  (pSeq (pAsg (pOp qMod (pCB qInt (pCons (pOp qPow (pOp qAdd (pOp qAdd (pOpO qIxL 0 (pC (.int 1))) (pOp qMul (pC (.int 80021)) (pOpO qIxL 0 (pC (.int 2))))) (pC (.int 9))) (pC (.int 3))) pNil)) (pC (.int 2147483587))) 3)
  (pSeq (pAsg (pOp qMod (pCB qInt (pCons (pOp qMul (pOp qAdd (pVar 3) (pOp qMul (pC (.int 7)) (pOpO qIxL 0 (pC (.int 2))))) (pOp qAdd (pOp qDiv (pVar 3) (pC (.int 1031))) (pC (.int 60089)))) pNil)) (pC (.int 2147483549))) 3)
  (pRet (pOp qMod (pCB qInt (pCons (pOp qDiv (pOp qMod (pCB qInt (pCons (pOp qMul (pVar 3) (pOp qAdd (pOp qDiv (pVar 3) (pC (.int 2027))) (pC (.int 50069)))) pNil)) (pC (.int 2147483543))) (pC (.int 3))) pNil)) (pVar 1)))))))
theorem sn_z_coin {K : PySem.W.Frag} {c : Pc} {α : Prop} (PM : PM K c) (PB : α) : SndS K c (t_z_coin K c) p_z_coin :=
  (snd_seq (snd_ifS (snd_test (snd_op s_gt (snd_opO s_ixL (snd_int 0)) (snd_int 0))) (snd_seq (snd_asg (snd_op s_mod (snd_cb s_int (snd_cons (snd_opO s_ixL (snd_int 0)) snd_nil)) snd_var))
  (snd_seq (snd_setI (snd_int 0) (snd_op s_div (snd_opO s_ixL (snd_int 0)) snd_var))
  (snd_ret snd_var))) snd_next)
  (snd_seq (snd_setI (snd_int 2) (snd_op s_add (snd_opO s_ixL (snd_int 2)) (snd_int 1)))
  (snd_seq (snd_asg (snd_op s_mod (snd_cb s_int (snd_cons (snd_op s_pow (snd_op s_add (snd_op s_add (snd_opO s_ixL (snd_int 1)) (snd_op s_mul (snd_int 80021) (snd_opO s_ixL (snd_int 2)))) (snd_int 9)) (snd_int 3)) snd_nil)) (snd_int 2147483587)))
  (snd_seq (snd_asg (snd_op s_mod (snd_cb s_int (snd_cons (snd_op s_mul (snd_op s_add snd_var (snd_op s_mul (snd_int 7) (snd_opO s_ixL (snd_int 2)))) (snd_op s_add (snd_op s_div snd_var (snd_int 1031)) (snd_int 60089))) snd_nil)) (snd_int 2147483549)))
  (snd_ret (snd_op s_mod (snd_cb s_int (snd_cons (snd_op s_div (snd_op s_mod (snd_cb s_int (snd_cons (snd_op s_mul snd_var (snd_op s_add (snd_op s_div snd_var (snd_int 2027)) (snd_int 50069))) snd_nil)) (snd_int 2147483543)) (snd_int 3)) snd_nil)) snd_var))))))
theorem n_z_coin : ∀ ds l w k, P_z_coin ds l w k → ds.length + 1 = 2 := fun ds l w k h => by
  unfold P_z_coin at h
  split at h
  · rfl
  · exact h.elim
theorem e_z_coin {n : Int} {l : List Dat} {w : Wld} {k : Dat → List Dat → Wld → Prop} : P_z_coin [.int n] l w k = ∃ z, Prs z l ∧ z < 2 ^ 40 ∧ (0 < n ∧ NxtB n) ∧ ∀ r l', 0 ≤ r → r < n → Prs (z + 1) l' → k (.int r) l' w := rfl
theorem w_z_coin : ∀ ds l w k, P_z_coin ds l w k → p_z_coin (penF k) (env0O 4 l ds) w := by
  intro ds l w k h
  unfold P_z_coin at h
  split at h
  · rename_i n
    obtain ⟨z, hp, hz40, ⟨hn, hnb⟩, h⟩ := h
    obtain ⟨a, b, c, rfl, ha, hb, hc, hcz⟩ := hp
    have hz := sizeLine_eq
    unfold p_z_coin
    walk_at "pu"
    have e0 : ixN 3 0 = some 0 := rfl
    have e2 : ixN 3 2 = some 2 := rfl
    rw [e0, e2]
    refine ite_2 (fun h0 => ?_) fun h0 => ?_
    · walk_at "pu"
      refine ⟨hn, div_ok (k := 8000) hn hnb (by decide) (by decide), h _ _ (Int.emod_nonneg _ (by omega)) (Int.emod_lt_of_pos _ hn) ⟨_, _, _, rfl, Int.ediv_nonneg ha (by omega), hb, hc, by omega⟩⟩
    · walk_at "pu"
      have q1 : oPow (b + 80021 * (c + 1) + 9) 3 := ⟨by decide, by
        have := PyProof.Rows.intBits_le (a := b + 80021 * (c + 1) + 9) (k := 64) (by omega)
        omega⟩
      have m1 : ∀ x : Int, 0 ≤ x % 2147483587 ∧ x % 2147483587 < 2147483587 := fun x => ⟨Int.emod_nonneg _ (by decide), Int.emod_lt_of_pos _ (by decide)⟩
      have m2 : ∀ x : Int, 0 ≤ x % 2147483549 ∧ x % 2147483549 < 2147483549 := fun x => ⟨Int.emod_nonneg _ (by decide), Int.emod_lt_of_pos _ (by decide)⟩
      refine ⟨mul_okL (by omega) (by omega), q1, by decide, mul_okL (by omega) (by omega), div_ok64 (by decide) (by decide), mul_okL ?_ ?_, by decide, div_ok64 (by decide) (by decide), mul_okL ?_ ?_, by decide, div_ok64 (by decide) (by decide), hn, h _ _ (Int.emod_nonneg _ (by omega)) (Int.emod_lt_of_pos _ hn) ⟨_, _, _, rfl, ha, hb, by omega, by omega⟩⟩
      · have := m1 ((b + 80021 * (c + 1) + 9) ^ Int.toNat 3); omega
      · have := m1 ((b + 80021 * (c + 1) + 9) ^ Int.toNat 3); omega
      · exact Int.lt_of_lt_of_le (by decide) (m2 _).1
      · exact Int.lt_of_lt_of_le (m2 _).2 (by decide)
  · exact h.elim
theorem b_z_coin {K : PySem.W.Frag} {c : Pc} {vs : List V} {H : Hp} {Q : VK} {E : XK} {α : Prop} (PM : PM K c) (PB : α) (h : sp_z_coin K c vs H Q E) : t_z_coin K c (en0 Q) (st0 4 vs) H := def_okO (sn_z_coin PM PB) (fun ds l w k h => by have := n_z_coin ds l w k h; omega) w_z_coin h
def P_z_pick : PSpO := fun ds l w k => match ds with
  | [.lst s] => ∃ z, Prs z l ∧ z < 2 ^ 40 ∧ (s ≠ [] ∧ s.length ≤ 1000) ∧ ∀ d l', d ∈ s → Prs (z + 1) l' → k d l' w
  | _ => False
def sp_z_pick (K : PySem.W.Frag) (c : Pc) : Sp := lifO K c P_z_pick
theorem uO_z_pick {K : PySem.W.Frag} {c : Pc} : SndPO K c (sp_z_pick K c) P_z_pick := SndPO.lif
/-- 0:_law_purse_here 1:_law_some -/
def t_z_pick (K : PySem.W.Frag) (c : Pc) : TS :=
  (tRet (tOp (rIxL K) (tVar 1) (tCall (sp_z_coin K c) [] E0 (tCons (tVar 0) (tCons (tCB (rLen K) (tCons (tVar 1) tNil)) tNil)))))
def p_z_pick : PS :=
  (pRet (pOp qIxL (pVar 1) (pCallO P_z_coin 0 (pCons (pCB qLen (pCons (pVar 1) pNil)) pNil))))
theorem sn_z_pick {K : PySem.W.Frag} {c : Pc} {α : Prop} (PM : PM K c) (PB : α) : SndS K c (t_z_pick K c) p_z_pick :=
  (snd_ret (snd_op s_ixL snd_var (snd_callO uO_z_coin (snd_cons (snd_cb s_len (snd_cons snd_var snd_nil)) snd_nil))))
theorem n_z_pick : ∀ ds l w k, P_z_pick ds l w k → ds.length + 1 = 2 := fun ds l w k h => by
  unfold P_z_pick at h
  split at h
  · rfl
  · exact h.elim
theorem e_z_pick {s : List Dat} {l : List Dat} {w : Wld} {k : Dat → List Dat → Wld → Prop} : P_z_pick [.lst s] l w k = ∃ z, Prs z l ∧ z < 2 ^ 40 ∧ (s ≠ [] ∧ s.length ≤ 1000) ∧ ∀ d l', d ∈ s → Prs (z + 1) l' → k d l' w := rfl
theorem w_z_pick : ∀ ds l w k, P_z_pick ds l w k → p_z_pick (penF k) (env0O 2 l ds) w := by
  intro ds l w k h
  unfold P_z_pick at h
  split at h
  · rename_i s
    obtain ⟨z, hp, hz40, ⟨hn, hnb⟩, h⟩ := h
    have hz := sizeLine_eq
    unfold p_z_pick
    walk_at "pu"
    rw [e_z_coin]
    have hl : 0 < s.length := List.length_pos_iff.mpr hn
    refine ⟨z, hp, hz40, nxOk (by omega) (by omega), fun r l' r0 r1 hp' => ?_⟩
    obtain ⟨j, rfl⟩ := Int.eq_ofNat_of_zero_le r0
    have hj : j < s.length := by omega
    rw [eIxL, at_nat (List.getElem?_eq_getElem hj), eSome]
    exact h _ _ (List.getElem_mem hj) hp'
  · exact h.elim
theorem b_z_pick {K : PySem.W.Frag} {c : Pc} {vs : List V} {H : Hp} {Q : VK} {E : XK} {α : Prop} (PM : PM K c) (PB : α) (h : sp_z_pick K c vs H Q E) : t_z_pick K c (en0 Q) (st0 2 vs) H := def_okO (sn_z_pick PM PB) (fun ds l w k h => by have := n_z_pick ds l w k h; omega) w_z_pick h
theorem norm_snoc {d : Nat} (hd : d ≠ 0) : ∀ ys : List Nat, Norm (ys ++ [d])
  | [] => by
    show strip (d :: []) = [d]
    rw [strip_cons, strip_nil, if_pos rfl, if_neg hd]
  | y :: ys => by
    have ih : strip (ys ++ [d]) = ys ++ [d] := norm_snoc hd ys
    show strip (y :: (ys ++ [d])) = y :: (ys ++ [d])
    rw [strip_cons, ih, if_neg (by simp)]
theorem cut_snoc (xs : List Nat) (x : Nat) : cutD (dN (xs ++ [x])) none (some (-1)) = dN xs := by
  unfold cutD
  have hl : (dN (xs ++ [x])).length = xs.length + 1 := by rw [dN_len, List.length_append]; rfl
  rw [hl, HT.sIx_none, List.drop_zero, Nat.sub_zero]
  have e : HT.sIx (xs.length + 1) (xs.length + 1) (some (-1)) = xs.length := by
    unfold HT.sIx
    simp
    omega
  rw [e, ← dN_app, List.take_append_of_le_length (by rw [dN_len]; exact Nat.le_refl _), List.take_of_length_le (by rw [dN_len]; exact Nat.le_refl _)]
theorem at_snoc (xs : List Nat) (x : Nat) : atI (dN (xs ++ [x])) (-1) = some (.int (x : Int)) := by
  have g : (dN (xs ++ [x]))[xs.length]? = some (.int (x : Int)) := by
    unfold dN
    rw [List.getElem?_map]
    simp
  unfold atI ixN
  rw [if_neg (by decide), dN_len, List.length_append, if_pos (by simp; omega)]
  show (dN (xs ++ [x]))[(((xs.length + 1 : Nat) : Int) + -1).toNat]? = _
  rw [show (((xs.length + 1 : Nat) : Int) + -1).toNat = xs.length by omega]
  exact g
def P_z_prow : PSpO := fun ds l w k => match ds with
  | [.int b, .int n] => ∃ (z B N : Nat), b = (B : Int) ∧ n = (N : Int) ∧ Prs z l ∧ z + 3 * N < 2 ^ 40 ∧ (0 < B ∧ B ≤ 60) ∧ N ≤ 10000 ∧ ∀ (xs : List Nat) l', Digs B xs → xs.length = N → Norm xs → Prs (z + 3 * N) l' → k (.lst (dN xs)) l' w
  | _ => False
def sp_z_prow (K : PySem.W.Frag) (c : Pc) : Sp := lifO K c P_z_prow
theorem uO_z_prow {K : PySem.W.Frag} {c : Pc} : SndPO K c (sp_z_prow K c) P_z_prow := SndPO.lif
/-- 0:_law_purse_here 1:_law_bits 2:_law_size 3:_law_found 4:_law_k -/
def t_z_prow (K : PySem.W.Frag) (c : Pc) : TS :=
  (tSeq (tAsg (tLst tNil) (gName 3))
  (tSeq (tFor (iRng1 (tCons (tVar 2) tNil)) (gName 4) (tDrop (tBM K "list" rAppend (tVar 3) (tCons (tCall (sp_z_pick K c) [] E0 (tCons (tVar 0) (tCons (tLst (tCons (tCall (sp_z_coin K c) [] E0 (tCons (tVar 0) (tCons (tOp rShl (tC (.int 1)) (tVar 1)) tNil))) (tCons (tCall (sp_z_coin K c) [] E0 (tCons (tVar 0) (tCons (tOp rShl (tC (.int 1)) (tVar 1)) tNil))) (tCons (tC (.int 0)) (tCons (tOp rSub (tOp rShl (tC (.int 1)) (tVar 1)) (tC (.int 1))) tNil))))) tNil))) tNil))))
  (tRet (tIf (tTest (tOp (rNeD K) (tVar 3) (tLst tNil))) (tOp rCat (tSl (rSlL K) (tVar 3) tNoPart (tPart (tUn rNeg (tC (.int 1))))) (tLst (tCons (tCB rMax2 (tCons (tC (.int 1)) (tCons (tOp (rIxL K) (tVar 3) (tUn rNeg (tC (.int 1)))) tNil))) tNil))) (tLst tNil)))))
def b1_z_prow : PS :=
  (pAppend 3 (pCallO P_z_pick 0 (pCons (pFz (pLst (pCons (pCallO P_z_coin 0 (pCons (pOp qShl (pC (.int 1)) (pVar 1)) pNil)) (pCons (pCallO P_z_coin 0 (pCons (pOp qShl (pC (.int 1)) (pVar 1)) pNil)) (pCons (pC (.int 0)) (pCons (pOp qSub (pOp qShl (pC (.int 1)) (pVar 1)) (pC (.int 1))) pNil)))))) pNil)))
def r2_z_prow : PS :=
  (pFrz [3] (pRet (pIf (pTest (pOp qNeD (pVar 3) (pFz (pLst pNil)))) (pFz (pOpF qCat (pFz (pSlL (pVar 3) pNoPart (pPart (pUn qNeg (pC (.int 1)))))) (pFz (pLst (pCons (pCB qMax2 (pCons (pC (.int 1)) (pCons (pOp qIxL (pVar 3) (pUn qNeg (pC (.int 1)))) pNil))) pNil))))) (pFz (pLst pNil)))))
def p_z_prow : PS :=
  (pSeq (pAsgO (pLst pNil) 3)
  (pSeq (pFor (pIR1 (pVar 2)) (pgName 4) b1_z_prow)
  r2_z_prow))
theorem sn_z_prow {K : PySem.W.Frag} {c : Pc} {α : Prop} (PM : PM K c) (PB : α) : SndS K c (t_z_prow K c) p_z_prow :=
  (snd_seq (snd_asgO (snd_lst snd_nil))
  (snd_seq (snd_for (snd_iR1 snd_var) snd_gName (snd_append (snd_callO uO_z_pick (snd_cons (snd_fz (snd_lst (snd_cons (snd_callO uO_z_coin (snd_cons (snd_op s_shl (snd_int 1) snd_var) snd_nil)) (snd_cons (snd_callO uO_z_coin (snd_cons (snd_op s_shl (snd_int 1) snd_var) snd_nil)) (snd_cons (snd_int 0) (snd_cons (snd_op s_sub (snd_op s_shl (snd_int 1) snd_var) (snd_int 1)) snd_nil)))))) snd_nil))))
  (snd_frz (snd_ret (snd_if (snd_test (snd_op s_neD snd_var (snd_fz (snd_lst snd_nil)))) (snd_fz (snd_opF s_cat (snd_fz (snd_slL snd_var snd_noPart (snd_part (snd_neg (snd_int 1))))) (snd_fz (snd_lst (snd_cons (snd_cb s_max2 (snd_cons (snd_int 1) (snd_cons (snd_op s_ixL snd_var (snd_neg (snd_int 1))) snd_nil))) snd_nil))))) (snd_fz (snd_lst snd_nil)))))))
theorem n_z_prow : ∀ ds l w k, P_z_prow ds l w k → ds.length + 1 = 3 := fun ds l w k h => by
  unfold P_z_prow at h
  split at h
  · rfl
  · exact h.elim
theorem e_z_prow {b n : Int} {l : List Dat} {w : Wld} {k : Dat → List Dat → Wld → Prop} : P_z_prow [.int b, .int n] l w k = ∃ (z B N : Nat), b = (B : Int) ∧ n = (N : Int) ∧ Prs z l ∧ z + 3 * N < 2 ^ 40 ∧ (0 < B ∧ B ≤ 60) ∧ N ≤ 10000 ∧ ∀ (xs : List Nat) l', Digs B xs → xs.length = N → Norm xs → Prs (z + 3 * N) l' → k (.lst (dN xs)) l' w := rfl
theorem w_z_prow : ∀ ds l w k, P_z_prow ds l w k → p_z_prow (penF k) (env0O 5 l ds) w := by
  intro ds l w k h
  unfold P_z_prow at h
  split at h
  · obtain ⟨z, B, N, rfl, rfl, hp, hz40, hB, hN, h⟩ := h
    have hz := sizeLine_eq
    unfold p_z_prow
    walk_at "pu"
    refine ⟨by omega, ⟨by omega, by omega⟩, ?_⟩
    have hp60 : 2 ^ B ≤ 2 ^ 60 := Nat.pow_le_pow_right (by decide) hB.2
    have hpos := Nat.two_pow_pos B
    refine lp_ind (fun c e w' => w' = w ∧ ∃ (l : List Dat) (xs : List Nat) (y4 : Slot), Prs (z + 3 * c) l ∧ Digs B xs ∧ xs.length = c ∧ e = [.own false l, .val (.int (B : Int)), .val (.int (N : Int)), .own true (dN xs), y4]) ⟨rfl, l, [], .no, hp, (fun _ z => nomatch z), rfl, rfl⟩ ?_ ?_
    · rintro c d e w' nx hd ⟨rfl, l1, xs, y4, hp1, hdg, hlx, rfl⟩ hn
      have hc : c < N := by have := (rng_get hd).1; omega
      unfold b1_z_prow
      walk_at "pu"
      have hn64 : 0 < ((2 ^ B : Nat) : Int) ∧ NxtB ((2 ^ B : Nat) : Int) := nxOk (by omega) (by omega)
      rw [shl1 (by omega), e_z_coin]
      refine ⟨_, hp1, by omega, hn64, fun r1 l2 r10 r11 hp2 => ?_⟩
      rw [shl1 (by omega), e_z_coin]
      refine ⟨_, hp2, by omega, hn64, fun r2 l3 r20 r21 hp3 => ?_⟩
      rw [shl1 (by omega)]
      walk_at "pu"
      rw [e_z_pick]
      refine ⟨by omega, _, hp3, by omega, ⟨by simp, by simp⟩, fun d' l4 hd' hp4 => ?_⟩
      obtain ⟨u, rfl, hu⟩ : ∃ u : Nat, d' = .int (u : Int) ∧ u < 2 ^ B := by
        simp only [List.mem_cons, List.not_mem_nil, or_false] at hd'
        rcases hd' with rfl | rfl | rfl | rfl
        · exact ⟨r1.toNat, by rw [Int.toNat_of_nonneg r10], by omega⟩
        · exact ⟨r2.toNat, by rw [Int.toNat_of_nonneg r20], by omega⟩
        · exact ⟨0, rfl, hpos⟩
        · exact ⟨2 ^ B - 1, by congr 1; omega, by omega⟩
      refine ⟨by rw [dN_len]; omega, hn _ _ ⟨rfl, l4, xs ++ [u], .val d, hp4, hdg.snoc hu, by rw [List.length_append, hlx]; rfl, ?_⟩⟩
      rw [dN_one, dN_app]
    · rintro e w' ⟨rfl, l1, xs, y4, hp1, hdg, hlx, rfl⟩
      rw [rng_len, Int.toNat_natCast] at hlx hp1
      unfold r2_z_prow
      walk_at "pu"
      refine ⟨by omega, ⟨pl_L _, pl_nil⟩, fun b hb1 hb2 => ?_⟩
      by_cases hx : xs = []
      · subst hx
        rw [hb1 rfl]
        walk_at "pu"
        exact ⟨by omega, h [] l1 hdg hlx rfl hp1⟩
      · have e : xs = xs.dropLast ++ [xs.getLast hx] := (List.dropLast_concat_getLast hx).symm
        generalize xs.dropLast = ys at e
        generalize xs.getLast hx = y at e
        subst e
        rw [hb2 (fun z => by
          injection z with z
          exact absurd (congrArg List.length z) (by rw [dN_len]; simp)) (nb_L _) rfl]
        walk_at "pu"
        rw [at_snoc, cut_snoc]
        walk_at "pu"
        rw [List.length_append] at hlx
        simp only [List.length_cons, List.length_nil] at hlx
        have hyb : y < 2 ^ B := hdg y (List.mem_append_right _ (List.mem_singleton.mpr rfl))
        have hysd : Digs B ys := fun x hx => hdg x (List.mem_append_left _ hx)
        have h2B : 1 < 2 ^ B := Nat.one_lt_two_pow (by omega)
        have em : (if (y : Int) > 1 then (y : Int) else 1) = ((max 1 y : Nat) : Int) := by split <;> omega
        rw [em, dN_len]
        refine ⟨by omega, by omega, ?_⟩
        rw [dN_one, dN_app]
        exact h (ys ++ [max 1 y]) l1 (hysd.snoc (by omega)) (by rw [List.length_append]; exact hlx) (norm_snoc (by omega) ys) hp1
  · exact h.elim
theorem b_z_prow {K : PySem.W.Frag} {c : Pc} {vs : List V} {H : Hp} {Q : VK} {E : XK} {α : Prop} (PM : PM K c) (PB : α) (h : sp_z_prow K c vs H Q E) : t_z_prow K c (en0 Q) (st0 5 vs) H := def_okO (sn_z_prow PM PB) (fun ds l w k h => by have := n_z_prow ds l w k h; omega) w_z_prow h
theorem valB_pow (B : Nat) : ∀ xs : List Nat, valB (2 ^ B) xs = val B xs
  | [] => rfl
  | x :: xs => by
    show x + 2 ^ B * valB (2 ^ B) xs = x + 2 ^ B * val B xs
    rw [valB_pow B xs]
def P_z_worth : PSp := fun ds w k => match ds with
  | [.int b, .lst l] => ∃ (B : Nat) (xs : List Nat), b = (B : Int) ∧ l = dN xs ∧ (0 < B ∧ B ≤ 60) ∧ (Digs B xs ∧ xs.length ≤ 10000) ∧ k (.int (val B xs : Nat)) w
  | _ => False
def sp_z_worth (K : PySem.W.Frag) (c : Pc) : Sp := lif K c P_z_worth
theorem u_z_worth {K : PySem.W.Frag} {c : Pc} : SndP K c (sp_z_worth K c) P_z_worth := SndP.lif
/-- 0:_law_bits 1:_law_row_here 2:_law_found 3:_law_digit -/
def t_z_worth (K : PySem.W.Frag) (c : Pc) : TS :=
  (tSeq (tAsg (tC (.int 0)) (gName 2))
  (tSeq (tFor (iList K (tRevL K (tVar 1))) (gName 3) (tAsg (tOp rAdd (tOp rShl (tVar 2) (tVar 0)) (tVar 3)) (gName 2)))
  (tRet (tVar 2))))
def p_z_worth : PS :=
  (pSeq (pAsg (pC (.int 0)) 2)
  (pSeq (pFor (pIL (pFz (pRevL (pVar 1)))) (pgName 3) (pAsg (pOp qAdd (pOp qShl (pVar 2) (pVar 0)) (pVar 3)) 2))
  (pRet (pVar 2))))
theorem sn_z_worth {K : PySem.W.Frag} {c : Pc} {α : Prop} (PM : PM K c) (PB : α) : SndS K c (t_z_worth K c) p_z_worth :=
  (snd_seq (snd_asg (snd_int 0))
  (snd_seq (snd_for (snd_iList (snd_fz (snd_revL snd_var))) snd_gName (snd_asg (snd_op s_add (snd_op s_shl snd_var snd_var) snd_var)))
  (snd_ret snd_var)))
theorem n_z_worth : ∀ ds w k, P_z_worth ds w k → ds.length = 2 := fun ds w k h => by
  unfold P_z_worth at h
  split at h
  · rfl
  · exact h.elim
theorem e_z_worth {b : Int} {l : List Dat} {w : Wld} {k : Dat → Wld → Prop} : P_z_worth [.int b, .lst l] w k = ∃ (B : Nat) (xs : List Nat), b = (B : Int) ∧ l = dN xs ∧ (0 < B ∧ B ≤ 60) ∧ (Digs B xs ∧ xs.length ≤ 10000) ∧ k (.int (val B xs : Nat)) w := rfl
theorem w_z_worth : ∀ ds w k, P_z_worth ds w k → p_z_worth (pen k) (env0 4 ds) w := by
  intro ds w k h
  unfold P_z_worth at h
  split at h
  · obtain ⟨B, xs, rfl, rfl, hB, ⟨hdg, hl⟩, h⟩ := h
    have hz := sizeLine_eq
    unfold p_z_worth
    walk_at "pu"
    rw [dN_rev]
    refine lp_ind (fun i e w' => w' = w ∧ ∃ (z : Slot) (f : Nat), f = (xs.reverse.take i).foldl (fun r d => 2 ^ B * r + d) 0 ∧ f < 2 ^ (B * i) ∧ e = [.val (.int (B : Int)), .val (.lst (dN xs)), .val (.int (f : Int)), z]) ⟨rfl, _, 0, rfl, Nat.two_pow_pos _, rfl⟩ ?_ ?_
    · rintro i d e w' nx hd ⟨rfl, z, f, hf, hlt, rfl⟩ hn
      obtain ⟨n, hn', rfl⟩ := dN_get hd
      have hi : i < xs.length := by
        have := (List.getElem?_eq_some_iff.mp hn').1
        rwa [List.length_reverse] at this
      have hd1 : n < 2 ^ B := hdg _ (List.mem_reverse.mp (List.mem_of_getElem? hn'))
      walk_at "pu"
      rw [eShl]
      refine ⟨shl_ok (n := B * i) (by simpa using hlt) (by
        have : B * i ≤ 60 * 10000 := Nat.mul_le_mul hB.2 (by omega)
        omega), ?_⟩
      walk_at "pu"
      have e2 : ((2 : Int) ^ ((B : Int)).toNat) = ((2 ^ B : Nat) : Int) := by rw [Int.toNat_natCast, Int.natCast_pow]; rfl
      rw [e2, ← Int.natCast_mul, ← Int.natCast_add]
      refine hn _ _ ⟨rfl, .val (.int (n : Int)), f * 2 ^ B + n, ?_, ?_, rfl⟩
      · have e1 : xs.reverse.take (i + 1) = xs.reverse.take i ++ [n] := by rw [List.take_succ, hn']; rfl
        rw [e1, List.foldl_append, ← hf]
        simp only [List.foldl_cons, List.foldl_nil]
        rw [Nat.mul_comm]
      · rw [Nat.mul_succ, Nat.pow_add]
        have : (f + 1) * 2 ^ B ≤ 2 ^ (B * i) * 2 ^ B := Nat.mul_le_mul_right _ hlt
        rw [Nat.add_mul] at this
        omega
    · rintro e w' ⟨rfl, z, f, hf, hlt, rfl⟩
      walk_at "pu"
      rw [dN_len, List.take_length, valB_fold, valB_pow] at hf
      rw [hf]
      exact h
  · exact h.elim
theorem b_z_worth {K : PySem.W.Frag} {c : Pc} {vs : List V} {H : Hp} {Q : VK} {E : XK} {α : Prop} (PM : PM K c) (PB : α) (h : sp_z_worth K c vs H Q E) : t_z_worth K c (en0 Q) (st0 4 vs) H := def_ok (sn_z_worth PM PB) w_z_worth h
def P_z_pdigits : PSp := fun ds w k => match ds with
  | [.int b, .int n] => ∃ (B N : Nat), b = (B : Int) ∧ n = (N : Int) ∧ (0 < B ∧ B ≤ 60) ∧ (digs B N).length ≤ 100000 ∧ k (.lst (dN (digs B N))) w
  | _ => False
def sp_z_pdigits (K : PySem.W.Frag) (c : Pc) : Sp := lif K c P_z_pdigits
theorem u_z_pdigits {K : PySem.W.Frag} {c : Pc} : SndP K c (sp_z_pdigits K c) P_z_pdigits := SndP.lif
/-- 0:_law_bits 1:_law_n 2:_law_found -/
def t_z_pdigits (K : PySem.W.Frag) (c : Pc) : TS :=
  (tSeq (tAsg (tLst tNil) (gName 2))
  (tSeq (tWhile (tTest (tOp rGt (tVar 1) (tC (.int 0)))) (tSeq (tDrop (tBM K "list" rAppend (tVar 2) (tCons (tOp rMod (tCB rInt (tCons (tVar 1) tNil)) (tOp rShl (tC (.int 1)) (tVar 0))) tNil)))
  (tAsg (tOp rShr (tVar 1) (tVar 0)) (gName 1))))
  (tRet (tVar 2))))
def b1_z_pdigits : PS :=
  (pSeq (pAppend 2 (pOp qMod (pCB qInt (pCons (pVar 1) pNil)) (pOp qShl (pC (.int 1)) (pVar 0))))
  (pAsg (pOp qShr (pVar 1) (pVar 0)) 1))
def p_z_pdigits : PS :=
  (pSeq (pAsgO (pLst pNil) 2)
  (pSeq (pWhile (pTest (pOp qGt (pVar 1) (pC (.int 0)))) b1_z_pdigits)
  (pFrz [2] (pRet (pVar 2)))))
theorem sn_z_pdigits {K : PySem.W.Frag} {c : Pc} {α : Prop} (PM : PM K c) (PB : α) : SndS K c (t_z_pdigits K c) p_z_pdigits :=
  (snd_seq (snd_asgO (snd_lst snd_nil))
  (snd_seq (snd_while (snd_test (snd_op s_gt snd_var (snd_int 0))) (snd_seq (snd_append (snd_op s_mod (snd_cb s_int (snd_cons snd_var snd_nil)) (snd_op s_shl (snd_int 1) snd_var)))
  (snd_asg (snd_op s_shr snd_var snd_var))))
  (snd_frz (snd_ret snd_var))))
theorem n_z_pdigits : ∀ ds w k, P_z_pdigits ds w k → ds.length = 2 := fun ds w k h => by
  unfold P_z_pdigits at h
  split at h
  · rfl
  · exact h.elim
theorem e_z_pdigits {b n : Int} {w : Wld} {k : Dat → Wld → Prop} : P_z_pdigits [.int b, .int n] w k = ∃ (B N : Nat), b = (B : Int) ∧ n = (N : Int) ∧ (0 < B ∧ B ≤ 60) ∧ (digs B N).length ≤ 100000 ∧ k (.lst (dN (digs B N))) w := rfl
theorem w_z_pdigits : ∀ ds w k, P_z_pdigits ds w k → p_z_pdigits (pen k) (env0 3 ds) w := by
  intro ds w k h
  unfold P_z_pdigits at h
  split at h
  · obtain ⟨B, N, rfl, rfl, hB, hl, h⟩ := h
    have hz := sizeLine_eq
    unfold p_z_pdigits
    walk_at "pu"
    have hp := Nat.two_pow_pos B
    have hp60 : 2 ^ B ≤ 2 ^ 60 := Nat.pow_le_pow_right (by decide) hB.2
    have hb : B ≠ 0 := by omega
    refine ⟨by omega, ?_⟩
    refine whl_ind (fun m e w' => w' = w ∧ ∃ es : List Nat, es ++ digs B m = digs B N ∧ e = [.val (.int (B : Int)), .val (.int (m : Int)), .own true (dN es)]) N ⟨rfl, [], rfl, rfl⟩ ?_
    rintro m e w' nx ⟨rfl, es, he, rfl⟩ hn
    unfold b1_z_pdigits
    walk_at "pu"
    split
    · rename_i hm
      have hm0 : m ≠ 0 := by omega
      have hlen : es.length < 2 ^ 23 := by
        have := congrArg List.length he
        rw [List.length_append] at this; omega
      rw [digs_pos hb hm0] at he
      rw [shl1 (by omega)]
      walk_at "pu"
      have e2 : ((2 : Int) ^ ((B : Int)).toNat) = ((2 ^ B : Nat) : Int) := by rw [Int.toNat_natCast, Int.natCast_pow]; rfl
      rw [e2]
      refine ⟨by omega, by rw [dN_len]; omega, by omega, hn (m / 2 ^ B) _ _ (Nat.div_lt_self (by omega) (Nat.one_lt_two_pow hb)) ⟨rfl, es ++ [m % 2 ^ B], by rw [List.append_assoc]; exact he, ?_⟩⟩
      rw [← Int.natCast_emod, ← Int.natCast_ediv, dN_one, dN_app]
    · rename_i hm
      have hm0 : m = 0 := by omega
      subst hm0
      rw [digs_zero, List.append_nil] at he
      rw [he]
      exact h
  · exact h.elim
theorem b_z_pdigits {K : PySem.W.Frag} {c : Pc} {vs : List V} {H : Hp} {Q : VK} {E : XK} {α : Prop} (PM : PM K c) (PB : α) (h : sp_z_pdigits K c vs H Q E) : t_z_pdigits K c (en0 Q) (st0 3 vs) H := def_ok (sn_z_pdigits PM PB) w_z_pdigits h
def P_z_is : PSp := fun ds w k => match ds with
  | [.big b n, .int b', .int n'] => bigL b n ∧ b ≠ 0 ∧ b ≤ 60 ∧ (digs b n.natAbs).length ≤ 100000 ∧ b' = (b : Int) ∧ n' = n ∧ k (.bl true) w
  | _ => False
def sp_z_is (K : PySem.W.Frag) (c : Pc) : Sp := lif K c P_z_is
theorem u_z_is {K : PySem.W.Frag} {c : Pc} : SndP K c (sp_z_is K c) P_z_is := SndP.lif
/-- 0:_law_held 1:_law_bits 2:_law_n 3:_law_side -/
def t_z_is (K : PySem.W.Frag) (c : Pc) : TS :=
  (tSeq (tAsg (tOp rSub (tCB rInt (tCons (tOp rGt (tVar 2) (tC (.int 0))) tNil)) (tCB rInt (tCons (tOp rLt (tVar 2) (tC (.int 0))) tNil))) (gName 3))
  (tRet (tOp (rEqD K) (tTup (tCons (tMeth c.CBig "sign" (sp_O K c) [] E0 (tVar 0) tNil) (tCons (tMeth c.CBig "digits" (sp_Q K c) [] E0 (tVar 0) tNil) (tCons (tMeth c.CBig "bits" (sp_P K c) [] E0 (tVar 0) tNil) (tCons (tCall (sp_T K c) [] E0 (tCons (tVar 0) tNil)) tNil))))) (tTup (tCons (tVar 3) (tCons (tCall (sp_z_pdigits K c) [] E0 (tCons (tVar 1) (tCons (tCB rAbs (tCons (tVar 2) tNil)) tNil))) (tCons (tVar 1) (tCons (tVar 2) tNil))))))))
def p_z_is : PS :=
  (pSeq (pAsg (pOp qSub (pCB qInt (pCons (pOp qGt (pVar 2) (pC (.int 0))) pNil)) (pCB qInt (pCons (pOp qLt (pVar 2) (pC (.int 0))) pNil))) 3)
  (pRet (pOp qEqD (pTup (pCons (pMethB P_O (pVar 0) pNil) (pCons (pMethB P_Q (pVar 0) pNil) (pCons (pMethB P_P (pVar 0) pNil) (pCons (pCall P_T (pCons (pVar 0) pNil)) pNil))))) (pTup (pCons (pVar 3) (pCons (pCall P_z_pdigits (pCons (pVar 1) (pCons (pCB qAbs (pCons (pVar 2) pNil)) pNil))) (pCons (pVar 1) (pCons (pVar 2) pNil))))))))
theorem sn_z_is {K : PySem.W.Frag} {c : Pc} {α : Prop} (PM : PM K c) (PB : α) : SndS K c (t_z_is K c) p_z_is :=
  (snd_seq (snd_asg (snd_op s_sub (snd_cb s_int (snd_cons (snd_op s_gt snd_var (snd_int 0)) snd_nil)) (snd_cb s_int (snd_cons (snd_op s_lt snd_var (snd_int 0)) snd_nil))))
  (snd_ret (snd_op s_eqD (snd_tup (snd_cons (snd_methB (by decide) u_O snd_var snd_nil) (snd_cons (snd_methB (by decide) u_Q snd_var snd_nil) (snd_cons (snd_methB (by decide) u_P snd_var snd_nil) (snd_cons (snd_call u_T (snd_cons snd_var snd_nil)) snd_nil))))) (snd_tup (snd_cons snd_var (snd_cons (snd_call u_z_pdigits (snd_cons snd_var (snd_cons (snd_cb s_abs (snd_cons snd_var snd_nil)) snd_nil))) (snd_cons snd_var (snd_cons snd_var snd_nil))))))))
theorem n_z_is : ∀ ds w k, P_z_is ds w k → ds.length = 3 := fun ds w k h => by
  unfold P_z_is at h
  split at h
  · rfl
  · exact h.elim
theorem w_z_is : ∀ ds w k, P_z_is ds w k → p_z_is (pen k) (env0 4 ds) w := by
  intro ds w k h
  unfold P_z_is at h
  split at h
  · rename_i b n b' n'
    obtain ⟨hL, hb0, hb60, hl, rfl, rfl, h⟩ := h
    have hz := sizeLine_eq
    unfold p_z_is
    walk_at "pu"
    have e0 : (if n' < 0 then -n' else n') = ((n'.natAbs : Nat) : Int) := by split <;> omega
    rw [e0]
    refine ⟨hL, by omega, ?_⟩
    rw [e_z_pdigits]
    refine ⟨b, n'.natAbs, rfl, rfl, ⟨by omega, hb60⟩, hl, ?_⟩
    have e1 : ((if 0 < n' then (1 : Int) else 0) - if n' < 0 then 1 else 0) = sgn n' := by
      unfold sgn
      rcases Int.lt_trichotomy n' 0 with z | z | z
      · simp [z, Int.not_lt.mpr (Int.le_of_lt z)]
      · subst z; decide
      · rw [if_pos z, if_neg (by omega), if_neg (by omega)]
        first
          | rfl
          | (rw [if_neg (by omega)]; rfl)
          | (rw [if_neg (by omega), if_neg (by omega)]; rfl)
    rw [e1]
    have hpl : pl (Dat.tup [Dat.int (sgn n'), Dat.lst (dN (digs b n'.natAbs)), Dat.int (b : Int), Dat.int n']) := by
      unfold pl
      simp only [plF, List.all_cons, List.all_nil, pl_dN, Bool.and_self]
    refine ⟨by omega, ⟨hpl, hpl⟩, fun b1 h1 _ => ?_⟩
    rw [h1 rfl]
    exact h
  · exact h.elim
theorem b_z_is {K : PySem.W.Frag} {c : Pc} {vs : List V} {H : Hp} {Q : VK} {E : XK} {α : Prop} (PM : PM K c) (PB : α) (h : sp_z_is K c vs H Q E) : t_z_is K c (en0 Q) (st0 4 vs) H := def_ok (sn_z_is PM PB) w_z_is h
/-- the words of the tally that are not 0 -/
def nzB (ns : List Int) : List (Str × Int) := (tal ns).filter fun p => decide (p.2 ≠ 0)
def P_z_pcounted : PSp := fun ds w k => match ds with
  | [.mach i] => onM w i fun m => k (.tup [.dic (nzB m.ns), .lst (m.walk.map dW)]) (w.put i m.rst)
  | _ => False
def sp_z_pcounted (K : PySem.W.Frag) (c : Pc) : Sp := lif K c P_z_pcounted
theorem u_z_pcounted {K : PySem.W.Frag} {c : Pc} : SndP K c (sp_z_pcounted K c) P_z_pcounted := SndP.lif
/-- 0:_law_engine 1:_law_found 2:_law_row_here -/
def t_z_pcounted (K : PySem.W.Frag) (c : Pc) : TS :=
  (tSeq (tAsg (tTup (tCons (tCB (rDict K) (tCons (tLc (iList K (tMeth c.CMachine "tally" (sp_J K c) [] E0 (tVar 0) tNil)) (gName 2) (tTest (tOp rNe (tOp (rIxT K) (tVar 2) (tC (.int 1))) (tC (.int 0)))) (tVar 2) [2]) tNil)) (tCons (tMeth c.CMachine "walk" (sp_N K c) [] E0 (tVar 0) tNil) tNil))) (gName 1))
  (tSeq (tDrop (tMeth c.CMachine "reset" (sp_M K c) [] E0 (tVar 0) tNil))
  (tRet (tVar 1))))
def p_z_pcounted : PS :=
  (pSeq (pAsg (pTup (pCons (pCB qDict (pCons (pFz (pLc (pIL (pMethM P_J (pVar 0) pNil)) (pgName 2) (pTest (pOp qNe (pOp qIxT (pVar 2) (pC (.int 1))) (pC (.int 0)))) (pVar 2) [2])) pNil)) (pCons (pMethM P_N (pVar 0) pNil) pNil))) 1)
  (pSeq (pDrop (pMethM P_M (pVar 0) pNil))
  (pRet (pVar 1))))
theorem sn_z_pcounted {K : PySem.W.Frag} {c : Pc} {α : Prop} (PM : PM K c) (PB : α) : SndS K c (t_z_pcounted K c) p_z_pcounted :=
  (snd_seq (snd_asg (snd_tup (snd_cons (snd_cb s_dict (snd_cons (snd_fz (snd_lc (snd_iList (snd_methM (by decide) u_J snd_var snd_nil)) snd_gName (tgt_name _) (snd_test (snd_op s_ne (snd_op s_ixT snd_var (snd_int 1)) (snd_int 0))) snd_var)) snd_nil)) (snd_cons (snd_methM (by decide) u_N snd_var snd_nil) snd_nil))))
  (snd_seq (snd_drop (snd_methM (by decide) u_M snd_var snd_nil))
  (snd_ret snd_var)))
theorem n_z_pcounted : ∀ ds w k, P_z_pcounted ds w k → ds.length = 1 := fun ds w k h => by
  unfold P_z_pcounted at h
  split at h
  · rfl
  · exact h.elim
theorem w_z_pcounted : ∀ ds w k, P_z_pcounted ds w k → p_z_pcounted (pen k) (env0 3 ds) w := by
  intro ds w k h
  unfold P_z_pcounted at h
  split at h
  · rename_i i
    replace h := onM_of h
    obtain ⟨m, hm, h⟩ := h
    have hz := sizeLine_eq
    unfold p_z_pcounted
    walk_at "pu"
    rw [onM_is hm]
    rw [dRows_tal]
    refine lcp_ind (fun i' acc e w' => w' = w ∧ acc = (((tal m.ns).take i').filter fun p => decide (p.2 ≠ 0)).map dP ∧ e = [.val (.mach i), .no, .no]) ⟨rfl, by simp, rfl⟩ ?_ ?_
    · rintro j d acc e w' nx hd ⟨rfl, rfl, rfl⟩ hn
      rw [List.getElem?_map] at hd
      cases hp : (tal m.ns)[j]? with
      | none => rw [hp] at hd; cases hd
      | some p =>
        rw [hp] at hd
        cases hd
        have h10 : j < 10 := Nat.lt_of_lt_of_le (List.getElem?_eq_some_iff.mp hp).1 tal_len
        have hs : ((tal m.ns).take (j + 1)).filter (fun p => decide (p.2 ≠ 0)) = ((tal m.ns).take j).filter (fun p => decide (p.2 ≠ 0)) ++ if p.2 ≠ 0 then [p] else [] := by
          rw [List.take_add_one, hp, List.filter_append]
          simp only [Option.toList, List.filter_cons, List.filter_nil, decide_eq_true_eq]
        unfold dP
        walk_at "pu"
        refine ite_2 (fun h0 => ?_) fun h0 => ?_
        · refine ⟨?_, hn _ _ _ ⟨rfl, ?_, rfl⟩⟩
          · rw [List.length_map]
            have h1 : (((tal m.ns).take j).filter fun p => decide (p.2 ≠ 0)).length ≤ ((tal m.ns).take j).length := List.length_filter_le _ _
            have h2 : ((tal m.ns).take j).length ≤ j := List.length_take_le _ _
            omega
          · rw [hs, if_pos h0, List.map_append]
            rfl
        · exact hn _ _ _ ⟨rfl, by rw [hs, if_neg h0, List.append_nil]; rfl, rfl⟩
    · rintro acc e w' ⟨rfl, rfl, rfl⟩
      rw [List.length_map, List.take_length]
      refine ⟨_, rfl, ?_, ?_⟩
      · exact List.Nodup.sublist (List.Sublist.map _ List.filter_sublist) tal_nd
      · walk_at "pu"
        rw [onM_is hm]
        refine ⟨by omega, ?_⟩
        rw [onM_is hm]
        exact h
  · exact h.elim
theorem b_z_pcounted {K : PySem.W.Frag} {c : Pc} {vs : List V} {H : Hp} {Q : VK} {E : XK} {α : Prop} (PM : PM K c) (PB : α) (h : sp_z_pcounted K c vs H Q E) : t_z_pcounted K c (en0 Q) (st0 3 vs) H := def_ok (sn_z_pcounted PM PB) w_z_pcounted h
theorem val_div {b : Nat} {ds : List Nat} (h : Digs b ds) (i : Nat) : val b ds / 2 ^ (b * i) = val b (ds.drop i) := by
  by_cases hi : i ≤ ds.length
  · have e := val_app b (ds.take i) (ds.drop i)
    rw [List.take_append_drop, List.length_take, Nat.min_eq_left hi] at e
    have hl : val b (ds.take i) < 2 ^ (b * i) := by
      have := val_lt (b := b) (ds := ds.take i) (fun d hd => h d (List.mem_of_mem_take hd))
      rw [List.length_take, Nat.min_eq_left hi] at this
      exact this
    rw [e, Nat.add_mul_div_left _ _ (Nat.two_pow_pos _), Nat.div_eq_of_lt hl, Nat.zero_add]
  · rw [List.drop_eq_nil_of_le (by omega), val_nil]
    refine Nat.div_eq_of_lt (Nat.lt_of_lt_of_le (val_lt h) (Nat.pow_le_pow_right (by decide) (Nat.mul_le_mul_left _ (by omega))))
theorem val_dig {b : Nat} {ds : List Nat} (h : Digs b ds) (i : Nat) : ds.getD i 0 = val b ds / 2 ^ (b * i) % 2 ^ b := by
  rw [val_div h]
  by_cases hi : i < ds.length
  · rw [List.drop_eq_getElem_cons hi, val_cons, Nat.add_mul_mod_self_left, List.getD_eq_getElem?_getD, List.getElem?_eq_getElem hi]
    exact (Nat.mod_eq_of_lt (h _ (List.getElem_mem hi))).symm
  · rw [List.drop_eq_nil_of_le (by omega), val_nil, Nat.zero_mod, List.getD_eq_getElem?_getD, List.getElem?_eq_none_iff.mpr (by omega)]
    rfl
theorem kn_Bh {X D h two P q : Nat} (hD : h * P ≤ D) (hX : X < (two + 1) * P) (hq : q * D ≤ X) : q * h ≤ two := by
  have h1 : q * h * P ≤ q * D := by rw [Nat.mul_assoc]; exact Nat.mul_le_mul_left _ hD
  have h2 : q * h * P < (two + 1) * P := by omega
  have := Nat.lt_of_mul_lt_mul_right h2
  omega
theorem kn_step {X D h s two t P B g left : Nat} (hD : (h * B + s) * P ≤ D) (hX : X < (two * B + t + 1) * P) (hl : left + g * h = two) (hc : left * B + t < s * g) : ¬ g * D ≤ X := fun hq => by
  have h1 : g * (h * B + s) * P ≤ g * D := by rw [Nat.mul_assoc]; exact Nat.mul_le_mul_left _ hD
  have h2 : g * (h * B + s) * P < (two * B + t + 1) * P := by omega
  have h3 := Nat.lt_of_mul_lt_mul_right h2
  rw [← hl, Nat.add_mul, Nat.mul_add, ← Nat.mul_assoc, Nat.mul_comm g s] at h3
  omega
theorem kn_end1 {X D D0 h s two t P B g left : Nat} (hD : D = (h * B + s) * P + D0) (hX : (two * B + t) * P ≤ X) (hl : left + g * h = two) (hc : s * g ≤ left * B + t) : g * D ≤ X + g * D0 := by
  have h1 : g * (h * B + s) ≤ two * B + t := by
    rw [← hl, Nat.add_mul, Nat.mul_add, ← Nat.mul_assoc, Nat.mul_comm g s]
    omega
  have h2 : g * (h * B + s) * P ≤ (two * B + t) * P := Nat.mul_le_mul_right _ h1
  rw [hD, Nat.mul_add, ← Nat.mul_assoc]
  omega
theorem kn_end2 {X D h two P B g left : Nat} (hD : D ≤ (h + 1) * P) (hX : two * P ≤ X) (hl : left + g * h = two) (hg : g ≤ B) (hc : B ≤ left) : g * D ≤ X := by
  have h1 : g * D ≤ g * ((h + 1) * P) := Nat.mul_le_mul_left _ hD
  have h2 : g * ((h + 1) * P) = (g * h + g) * P := by rw [← Nat.mul_assoc, Nat.mul_add, Nat.mul_one]
  have h3 : (g * h + g) * P ≤ two * P := Nat.mul_le_mul_right _ (by omega)
  omega
/-- the divisor's last two digits -/
def hiD (b n D : Nat) : Nat := D / 2 ^ (b * (n - 1))
def seD (b n D : Nat) : Nat := D / 2 ^ (b * (n - 2)) % 2 ^ b
/-- what is left, its two last digits together, the third one -/
def twD (b n R st : Nat) : Nat := R / 2 ^ (b * (st + n - 1))
def thD (b n R st : Nat) : Nat := R / 2 ^ (b * (st + n - 2)) % 2 ^ b
def gsD (b n D R st : Nat) : Nat := twD b n R st / hiD b n D
def lfD (b n D R st : Nat) : Nat := twD b n R st % hiD b n D
/-- a guess that is too great by the third digit, corrected c times -/
def tooD (b n D R st c : Nat) : Prop := lfD b n D R st + c * hiD b n D < 2 ^ b ∧ (lfD b n D R st + c * hiD b n D) * 2 ^ b + thD b n R st < seD b n D * (gsD b n D R st - c)
instance (b n D R st c : Nat) : Decidable (tooD b n D R st c) := by unfold tooD; infer_instance
def coD (b n D R st : Nat) : Nat := if tooD b n D R st 0 then (if tooD b n D R st 1 then 2 else 1) else 0
def qD (b D R st : Nat) : Nat := R / (D * 2 ^ (b * st))
/-- what a divisor and a dividend keep -/
structure Kn (b n D R st : Nat) : Prop where
  b8 : 8 ≤ b
  n2 : 2 ≤ n
  d1 : 2 ^ (b * n) ≤ 2 * D
  d2 : D < 2 ^ (b * n)
  r : R < D * 2 ^ (b * (st + 1))
section
variable {b n D R st : Nat}
theorem pow_split (b i j : Nat) : 2 ^ (b * (i + j)) = 2 ^ (b * i) * 2 ^ (b * j) := by rw [Nat.mul_add, Nat.pow_add]
theorem Kn.pn (K : Kn b n D R st) : 2 ^ (b * n) = 2 ^ (b * (n - 1)) * 2 ^ b := by
  have := pow_split b (n - 1) 1
  rw [Nat.mul_one, show n - 1 + 1 = n by have := K.n2; omega] at this
  exact this
theorem Kn.pn2 (K : Kn b n D R st) : 2 ^ (b * (n - 1)) = 2 ^ b * 2 ^ (b * (n - 2)) := by
  have := pow_split b 1 (n - 2)
  rw [Nat.mul_one, show 1 + (n - 2) = n - 1 by have := K.n2; omega] at this
  exact this
theorem Kn.h1 (K : Kn b n D R st) : 2 ^ b ≤ 2 * hiD b n D := by
  have h := K.d1
  rw [K.pn, Nat.mul_comm _ (2 ^ b)] at h
  have hp := Nat.two_pow_pos (b * (n - 1))
  have e : 2 ^ b = 2 * 2 ^ (b - 1) := by
    rw [← Nat.pow_succ', show (b - 1).succ = b by have := K.b8; omega]
  rw [e, Nat.mul_assoc] at h
  unfold hiD
  have := (Nat.le_div_iff_mul_le hp (x := 2 ^ (b - 1)) (y := D)).mpr (by omega)
  omega
theorem Kn.h2 (K : Kn b n D R st) : hiD b n D < 2 ^ b := by
  have h := K.d2
  rw [K.pn] at h
  unfold hiD
  exact Nat.div_lt_of_lt_mul h
theorem Kn.b256 (K : Kn b n D R st) : 256 ≤ 2 ^ b := by
  have : 2 ^ 8 ≤ 2 ^ b := Nat.pow_le_pow_right (by decide) K.b8
  omega
/-- the divisor by its parts -/
theorem Kn.dEq (K : Kn b n D R st) : D = (hiD b n D * 2 ^ b + seD b n D) * 2 ^ (b * (n - 2)) + D % 2 ^ (b * (n - 2)) := by
  have e1 := Nat.div_add_mod D (2 ^ (b * (n - 2)))
  have e2 := Nat.div_add_mod (D / 2 ^ (b * (n - 2))) (2 ^ b)
  have e3 : D / 2 ^ (b * (n - 2)) / 2 ^ b = hiD b n D := by
    unfold hiD
    rw [Nat.div_div_eq_div_mul, K.pn2, Nat.mul_comm (2 ^ b)]
  unfold seD
  rw [e3, Nat.mul_comm (2 ^ b)] at e2
  rw [e2, Nat.mul_comm _ (2 ^ (b * (n - 2)))]
  exact e1.symm
theorem Kn.dP (K : Kn b n D R st) : hiD b n D * 2 ^ (b * (n - 1)) ≤ D ∧ D < (hiD b n D + 1) * 2 ^ (b * (n - 1)) := by
  have e1 := Nat.div_add_mod D (2 ^ (b * (n - 1)))
  have hm := Nat.mod_lt D (Nat.two_pow_pos (b * (n - 1)))
  unfold hiD
  rw [Nat.mul_comm] at e1
  rw [Nat.add_mul]
  omega
/-- what is left, from its place on -/
theorem Kn.X (K : Kn b n D R st) : R / 2 ^ (b * st) < D * 2 ^ b ∧ twD b n R st * 2 ^ (b * (n - 1)) ≤ R / 2 ^ (b * st) ∧ R / 2 ^ (b * st) < (twD b n R st + 1) * 2 ^ (b * (n - 1))
    ∧ (twD b n R st * 2 ^ b + thD b n R st) * 2 ^ (b * (n - 2)) ≤ R / 2 ^ (b * st) ∧ R / 2 ^ (b * st) < (twD b n R st * 2 ^ b + thD b n R st + 1) * 2 ^ (b * (n - 2)) := by
  have hn := K.n2
  have t1 : twD b n R st = R / 2 ^ (b * st) / 2 ^ (b * (n - 1)) := by
    unfold twD
    rw [Nat.div_div_eq_div_mul, ← pow_split, show st + (n - 1) = st + n - 1 by omega]
  have t2 : R / 2 ^ (b * (st + n - 2)) = R / 2 ^ (b * st) / 2 ^ (b * (n - 2)) := by
    rw [Nat.div_div_eq_div_mul, ← pow_split, show st + (n - 2) = st + n - 2 by omega]
  have t3 : R / 2 ^ (b * (st + n - 2)) / 2 ^ b = twD b n R st := by
    rw [t2, Nat.div_div_eq_div_mul, Nat.mul_comm _ (2 ^ b), ← K.pn2, t1]
  have t4 : twD b n R st * 2 ^ b + thD b n R st = R / 2 ^ (b * st) / 2 ^ (b * (n - 2)) := by
    rw [← t2, ← t3]
    unfold thD
    have := Nat.div_add_mod (R / 2 ^ (b * (st + n - 2))) (2 ^ b)
    rw [Nat.mul_comm] at this
    exact this
  refine ⟨?_, ?_, ?_, ?_, ?_⟩
  · have h := K.r
    rw [pow_split, Nat.mul_one] at h
    refine Nat.div_lt_of_lt_mul ?_
    rw [Nat.mul_left_comm]
    exact h
  · rw [t1]; exact Nat.div_mul_le_self _ _
  · rw [t1]
    have e := Nat.div_add_mod (R / 2 ^ (b * st)) (2 ^ (b * (n - 1)))
    have hm := Nat.mod_lt (R / 2 ^ (b * st)) (Nat.two_pow_pos (b * (n - 1)))
    rw [Nat.add_mul, Nat.mul_comm (R / 2 ^ (b * st) / 2 ^ (b * (n - 1)))]
    omega
  · rw [t4]; exact Nat.div_mul_le_self _ _
  · rw [t4]
    have e := Nat.div_add_mod (R / 2 ^ (b * st)) (2 ^ (b * (n - 2)))
    have hm := Nat.mod_lt (R / 2 ^ (b * st)) (Nat.two_pow_pos (b * (n - 2)))
    rw [Nat.add_mul, Nat.mul_comm (R / 2 ^ (b * st) / 2 ^ (b * (n - 2)))]
    omega
theorem Kn.hp (K : Kn b n D R st) : 0 < hiD b n D := by
  have := K.h1
  have := K.b256
  omega
theorem Kn.D0 (K : Kn b n D R st) : 0 < D := by
  have := K.d1
  have := Nat.two_pow_pos (b * n)
  omega
theorem Kn.q (K : Kn b n D R st) : qD b D R st = R / 2 ^ (b * st) / D := by
  unfold qD
  rw [Nat.div_div_eq_div_mul, Nat.mul_comm]
theorem Kn.left (K : Kn b n D R st) (c : Nat) (hc : c ≤ gsD b n D R st) : lfD b n D R st + c * hiD b n D + (gsD b n D R st - c) * hiD b n D = twD b n R st := by
  have e := Nat.div_add_mod (twD b n R st) (hiD b n D)
  unfold lfD gsD at *
  rw [Nat.add_assoc, ← Nat.add_mul, show c + (twD b n R st / hiD b n D - c) = twD b n R st / hiD b n D by omega, Nat.mul_comm _ (hiD b n D)]
  omega
/-- a guess is never too small -/
theorem Kn.ge (K : Kn b n D R st) (c : Nat) (h : ∀ c' < c, tooD b n D R st c') : qD b D R st + c ≤ gsD b n D R st := by
  have hX := K.X
  have hqX : qD b D R st * D ≤ R / 2 ^ (b * st) := by rw [K.q]; exact Nat.div_mul_le_self _ _
  induction c with
  | zero =>
    unfold gsD
    rw [Nat.add_zero, Nat.le_div_iff_mul_le K.hp]
    exact kn_Bh K.dP.1 hX.2.2.1 hqX
  | succ c ih =>
    have ih := ih fun c' hc' => h c' (by omega)
    have ht := h c (by omega)
    have hl := K.left c (by omega)
    have hne : ¬ (gsD b n D R st - c) * D ≤ R / 2 ^ (b * st) := kn_step (h := hiD b n D) (s := seD b n D) (two := twD b n R st) (t := thD b n R st) (B := 2 ^ b) (P := 2 ^ (b * (n - 2))) (by have := K.dEq; omega) hX.2.2.2.2 hl ht.2
    have : qD b D R st ≠ gsD b n D R st - c := fun z => hne (z ▸ hqX)
    omega
theorem Kn.tw (K : Kn b n D R st) : gsD b n D R st ≤ 2 ^ b + 1 := by
  have hX := K.X
  have h1 : twD b n R st * 2 ^ (b * (n - 1)) < (hiD b n D + 1) * 2 ^ b * 2 ^ (b * (n - 1)) := by
    have h2 : D * 2 ^ b ≤ (hiD b n D + 1) * 2 ^ (b * (n - 1)) * 2 ^ b := Nat.mul_le_mul_right _ (Nat.le_of_lt K.dP.2)
    have h3 : (hiD b n D + 1) * 2 ^ (b * (n - 1)) * 2 ^ b = (hiD b n D + 1) * 2 ^ b * 2 ^ (b * (n - 1)) := by rw [Nat.mul_assoc, Nat.mul_comm (2 ^ (b * (n - 1))), Nat.mul_assoc]
    omega
  have h4 := Nat.lt_of_mul_lt_mul_right h1
  unfold gsD
  have hh := K.h1
  have hb := K.b256
  have h5 : twD b n R st < hiD b n D * (2 ^ b + 2) := by
    have : (hiD b n D + 1) * 2 ^ b ≤ hiD b n D * (2 ^ b + 2) := by
      rw [Nat.add_mul, Nat.mul_add]
      omega
    omega
  have := Nat.div_lt_of_lt_mul h5
  omega
/-- no further correction -/
theorem Kn.stop (K : Kn b n D R st) : (∀ c < coD b n D R st, tooD b n D R st c) ∧ ¬ tooD b n D R st (coD b n D R st) := by
  unfold coD
  by_cases h0 : tooD b n D R st 0
  · rw [if_pos h0]
    by_cases h1 : tooD b n D R st 1
    · rw [if_pos h1]
      refine ⟨fun c hc => ?_, fun z => ?_⟩
      · match c, hc with
        | 0, _ => exact h0
        | 1, _ => exact h1
      · have := z.1
        have := K.h1
        have := K.b256
        omega
    · rw [if_neg h1]
      refine ⟨fun c hc => ?_, h1⟩
      match c, hc with
      | 0, _ => exact h0
  · rw [if_neg h0]
    exact ⟨(fun c hc => by omega), h0⟩
theorem Kn.main (K : Kn b n D R st) : coD b n D R st ≤ gsD b n D R st ∧ qD b D R st ≤ gsD b n D R st - coD b n D R st ∧ gsD b n D R st - coD b n D R st ≤ qD b D R st + 1 ∧ (n = 2 → gsD b n D R st - coD b n D R st = qD b D R st) := by
  have hge := K.ge _ K.stop.1
  have hX := K.X
  have hD0 := K.D0
  have hb := K.b256
  have hl := K.left (coD b n D R st) (by omega)
  have htw := K.tw
  have hq := K.q
  have hqd : R / 2 ^ (b * st) < (qD b D R st + 1) * D := by
    rw [hq]
    have e := Nat.div_add_mod (R / 2 ^ (b * st)) D
    have hm := Nat.mod_lt (R / 2 ^ (b * st)) hD0
    rw [Nat.add_mul, Nat.mul_comm (R / 2 ^ (b * st) / D)]
    omega
  have fin : ∀ g : Nat, g * D ≤ R / 2 ^ (b * st) → g ≤ qD b D R st := fun g hg => by
    have := Nat.lt_of_mul_lt_mul_right (Nat.lt_of_le_of_lt hg hqd)
    omega
  rcases Decidable.not_and_iff_or_not.mp K.stop.2 with h | h
  · have hco : coD b n D R st ≠ 0 := fun z => by
      rw [z, Nat.zero_mul, Nat.add_zero] at h
      have h1 : lfD b n D R st < hiD b n D := Nat.mod_lt _ K.hp
      have h2 := K.h2
      omega
    have := fin _ (kn_end2 (B := 2 ^ b) (Nat.le_of_lt K.dP.2) hX.2.1 hl (by omega) (by omega))
    exact ⟨by omega, by omega, by omega, fun _ => by omega⟩
  · have h1 := kn_end1 K.dEq hX.2.2.2.1 hl (by omega)
    have hP := Nat.two_pow_pos (b * (n - 2))
    have hm := Nat.mod_lt D hP
    have h2 : (gsD b n D R st - coD b n D R st) * (D % 2 ^ (b * (n - 2))) ≤ D := by
      have hg : gsD b n D R st - coD b n D R st ≤ hiD b n D * 2 ^ b := by
        have h3 : 128 * 2 ^ b ≤ hiD b n D * 2 ^ b := Nat.mul_le_mul_right _ (by have := K.h1; omega)
        omega
      have h4 : (gsD b n D R st - coD b n D R st) * (D % 2 ^ (b * (n - 2))) ≤ hiD b n D * 2 ^ b * 2 ^ (b * (n - 2)) := Nat.mul_le_mul hg (Nat.le_of_lt hm)
      have h5 : hiD b n D * 2 ^ b * 2 ^ (b * (n - 2)) ≤ D := by
        have := K.dEq
        rw [Nat.add_mul] at this
        omega
      omega
    refine ⟨by omega, by omega, ?_, fun e => ?_⟩
    · have h6 : (gsD b n D R st - coD b n D R st - 1) * D ≤ R / 2 ^ (b * st) := by
        rw [Nat.sub_mul, Nat.one_mul]
        omega
      have := fin _ h6
      omega
    · have h7 : D % 2 ^ (b * (n - 2)) = 0 := by
        rw [e]
        show D % 2 ^ (b * 0) = 0
        rw [Nat.mul_zero, Nat.pow_zero, Nat.mod_one]
      rw [h7, Nat.mul_zero, Nat.add_zero] at h1
      have := fin _ h1
      omega
structure TkS (b : Nat) (rs bs : List Nat) (st : Nat) (e : Int) (rs' : List Nat) (c : Int) (p : Nat) : Prop where
  len : rs'.length = rs.length
  dig : Digs b rs'
  up : ∀ i, st + p ≤ i → rs'.getD i 0 = rs.getD i 0
  eq : ((val b (rs'.take (st + p)) : Nat) : Int) + c * ((2 ^ (b * (st + p)) : Nat) : Int) = ((val b (rs.take (st + p)) : Nat) : Int) + e * ((val b (bs.take p) * 2 ^ (b * st) : Nat) : Int)
theorem TkS.zero {rs bs : List Nat} {e : Int} (h : Digs b rs) : TkS b rs bs st e rs 0 0 := ⟨rfl, h, fun _ _ => rfl, by simp [val]⟩
theorem Digs.set {ds : List Nat} {i x : Nat} (h : Digs b ds) (hx : x < 2 ^ b) : Digs b (ds.set i x) := fun d hd => by
  rcases List.mem_or_eq_of_mem_set hd with z | z
  · exact h d z
  · rw [z]; exact hx
end
local macro_rules | `(tactic| walk_at "pt") => `(tactic| (walk_at "pu"; repeat ((simp only [pJoin, pRev2L, pInT, pIxD, pDisp1, pIfT, eAddS, eMulS, eIxS, eStrI, eLenZ, eIntS]); walk_at "pu")))
def P_p_group : PSp := fun ds w k => match ds with
  | [.mach i, .int r] => onM w i fun m => ∃ R : Nat, r = (R : Int) ∧ 2 ≤ R ∧ R ≤ 36 ∧ R ≤ 2 ^ m.b ∧ m.b ≤ 30 ∧ ∀ s : Nat, 1 ≤ s → s ≤ 30 → R ^ s ≤ 2 ^ m.b → 2 ^ m.b < R ^ s * R → k (.tup [.int (s : Int), .int ((R ^ s : Nat) : Int)]) w
  | _ => False
theorem n_p_group : ∀ ds w k, P_p_group ds w k → ds.length = 2 := fun ds w k h => by
  unfold P_p_group at h
  split at h
  · rfl
  · exact h.elim
theorem e_p_group {i : Nat} {r : Int} {w : Wld} {k : Dat → Wld → Prop} : P_p_group [.mach i, .int r] w k = (onM w i fun m => ∃ R : Nat, r = (R : Int) ∧ 2 ≤ R ∧ R ≤ 36 ∧ R ≤ 2 ^ m.b ∧ m.b ≤ 30 ∧ ∀ s : Nat, 1 ≤ s → s ≤ 30 → R ^ s ≤ 2 ^ m.b → 2 ^ m.b < R ^ s * R → k (.tup [.int (s : Int), .int ((R ^ s : Nat) : Int)]) w) := rfl
def sp_p_group (K : PySem.W.Frag) (c : Pc) : Sp := lif K c P_p_group
theorem u_p_group {K : PySem.W.Frag} {c : Pc} : SndP K c (sp_p_group K c) P_p_group := SndP.lif
/-- 0:machine 1:base 2:size 3:power -/
def t_p_group (K : PySem.W.Frag) (c : Pc) : TS :=
  (tSeq (tPar 2 3 (tCons (tC (.int 1)) (tCons (tVar 1) tNil)))
  (tSeq (tWhile (tTest (tOp rLe (tOp rMul (tVar 3) (tVar 1)) (tFld K (tVar 0) "base"))) (tPar 2 3 (tCons (tOp rAdd (tVar 2) (tC (.int 1))) (tCons (tOp rMul (tVar 3) (tVar 1)) tNil))))
  (tRet (tTup (tCons (tVar 2) (tCons (tVar 3) tNil))))))
def b1_p_group : PS :=
  (pPar [2, 3] (pCons (pOp qAdd (pVar 2) (pC (.int 1))) (pCons (pOp qMul (pVar 3) (pVar 1)) pNil)))
def c1_p_group : PT :=
  (pTest (pOp qLe (pOp qMul (pVar 3) (pVar 1)) (pBase (pVar 0))))
def p_p_group : PS :=
  (pSeq (pPar [2, 3] (pCons (pC (.int 1)) (pCons (pVar 1) pNil)))
  (pSeq (pWhile c1_p_group b1_p_group)
  (pRet (pTup (pCons (pVar 2) (pCons (pVar 3) pNil))))))
theorem sn_p_group {K : PySem.W.Frag} {c : Pc} {α : Prop} (PM : PM K c) (PB : α) : SndS K c (t_p_group K c) p_p_group :=
  (snd_seq (snd_par (snd_cons (snd_int 1) (snd_cons snd_var snd_nil)))
  (snd_seq (snd_while (snd_test (snd_op s_le (snd_op s_mul snd_var snd_var) (snd_base PM snd_var))) (snd_par (snd_cons (snd_op s_add snd_var (snd_int 1)) (snd_cons (snd_op s_mul snd_var snd_var) snd_nil))))
  (snd_ret (snd_tup (snd_cons snd_var (snd_cons snd_var snd_nil))))))
theorem w_p_group : ∀ ds w k, P_p_group ds w k → p_p_group (pen k) (env0 4 ds) w := by
  intro ds w k h
  unfold P_p_group at h
  split at h
  · rename_i i r
    replace h := onM_of h
    obtain ⟨m, hm, R, rfl, h2, h36, hRb, hb, h⟩ := h
    have hz := sizeLine_eq
    have hb30 : 2 ^ m.b ≤ 2 ^ 30 := Nat.pow_le_pow_right (by decide) hb
    unfold p_p_group
    walk_at "pu"
    refine whl_ind (fun mm e w' => w' = w ∧ ∃ p : Nat, mm = 30 - p ∧ 1 ≤ p ∧ p ≤ 30 ∧ R ^ p ≤ 2 ^ m.b ∧ e = [.val (.mach i), .val (.int (R : Int)), .val (.int (p : Int)), .val (.int ((R ^ p : Nat) : Int))]) 29 ⟨rfl, 1, by omega, by omega, by omega, by rw [Nat.pow_one]; exact hRb, by rw [Nat.pow_one]; rfl⟩ ?_
    rintro mm e w' nx ⟨rfl, p, hmm, hp1, hp30, hR, rfl⟩ hn
    unfold c1_p_group b1_p_group
    walk_at "pu"
    simp only [onM_is hm]
    rw [← Int.natCast_mul, ← Nat.pow_succ]
    have hP : R ^ p < 2 ^ 60 := by omega
    have e1 : ((2 : Int) ^ m.b) = ((2 ^ m.b : Nat) : Int) := by rw [Int.natCast_pow]; rfl
    have hmul : IntMulOk ((R ^ p : Nat) : Int) (R : Int) := mul_okL (by omega) (by omega)
    rw [e1]
    refine ⟨hmul, ite_2 (fun c => ⟨hmul, ?_⟩) fun c => ⟨by omega, h p hp1 hp30 hR (by rw [← Nat.pow_succ]; omega)⟩⟩
    have c' : R ^ (p + 1) ≤ 2 ^ m.b := by have := Int.ofNat_le.mp c; exact this
    have hp : p + 1 ≤ 30 := by
      have h3 : 2 ^ (p + 1) ≤ R ^ (p + 1) := Nat.pow_le_pow_left h2 _
      exact (Nat.pow_le_pow_iff_right (by decide : 1 < 2)).mp (Nat.le_trans h3 (Nat.le_trans c' hb30))
    exact hn (30 - (p + 1)) _ _ (by omega) ⟨rfl, p + 1, rfl, by omega, hp, c', rfl⟩
  · exact h.elim
theorem b_p_group {K : PySem.W.Frag} {c : Pc} {vs : List V} {H : Hp} {Q : VK} {E : XK} {α : Prop} (PM : PM K c) (PB : α) (h : sp_p_group K c vs H Q E) : t_p_group K c (en0 Q) (st0 4 vs) H := def_ok (sn_p_group PM PB) w_p_group h
def P_t_most : PSp := fun ds w k => match ds with
  | [.int v] => (v = 0 ∨ 640 ≤ v) ∧ k .non w
  | _ => False
theorem n_t_most : ∀ ds w k, P_t_most ds w k → ds.length = 1 := fun ds w k h => by
  unfold P_t_most at h
  split at h
  · rfl
  · exact h.elim
theorem e_t_most {v : Int} {w : Wld} {k : Dat → Wld → Prop} : P_t_most [.int v] w k = ((v = 0 ∨ 640 ≤ v) ∧ k .non w) := rfl
def sp_t_most (K : PySem.W.Frag) (c : Pc) : Sp := lif K c P_t_most
theorem u_t_most {K : PySem.W.Frag} {c : Pc} : SndP K c (sp_t_most K c) P_t_most := SndP.lif
/-- 0:value -/
def t_t_most (K : PySem.W.Frag) (c : Pc) : TS :=
  (tIfS (tOr (tNot (L2.tB (tCall (sp_G K c) [] E0 (tCons (tVar 0) tNil)))) (tAnd (tTest (tOp rNe (tVar 0) (tC (.int 0)))) (tTest (tOp rLt (tVar 0) (tC (.int 640)))))) tNever tNext)
def p_t_most : PS :=
  (pIfS (pOr (pNot (pTest (pCall P_G (pCons (pVar 0) pNil)))) (pAnd (pTest (pOp qNe (pVar 0) (pC (.int 0)))) (pTest (pOp qLt (pVar 0) (pC (.int 640)))))) pNever pNext)
theorem sn_t_most {K : PySem.W.Frag} {c : Pc} {α : Prop} (PM : PM K c) (PB : α) : SndS K c (t_t_most K c) p_t_most :=
  (snd_ifS (snd_or (snd_not (snd_tB (snd_call u_G (snd_cons snd_var snd_nil)))) (snd_and (snd_test (snd_op s_ne snd_var (snd_int 0))) (snd_test (snd_op s_lt snd_var (snd_int 640))))) snd_never snd_next)
theorem w_t_most : ∀ ds w k, P_t_most ds w k → p_t_most (pen k) (env0 1 ds) w := by
  intro ds w k h
  unfold P_t_most at h
  split at h
  · rename_i v
    obtain ⟨hv, h⟩ := h
    unfold p_t_most
    walk_at "pt"
    refine ite_2 (fun c => ite_2 (fun c2 => by omega) fun _ => h) fun _ => h
  · exact h.elim
theorem b_t_most {K : PySem.W.Frag} {c : Pc} {vs : List V} {H : Hp} {Q : VK} {E : XK} {α : Prop} (PM : PM K c) (PB : α) (h : sp_t_most K c vs H Q E) : t_t_most K c (en0 Q) (st0 1 vs) H := def_ok (sn_t_most PM PB) w_t_most h
/-- how many decimal digits a digit holds -/
def gp (b : Nat) : Nat := (dg 10 (2 ^ b)).length - 1
def Sm7 (n : Int) : Prop := n.natAbs < 2 ^ 700
theorem digs100 {b : Nat} {n : Int} (h1 : 8 ≤ b) (h2 : b ≤ 30) (hn : Sm7 n) : (digs b n.natAbs).length ≤ 100 ∧ bigL b n ∧ Builtin.Int.intBits n ≤ 700 := by
  have hd : (digs b n.natAbs).length ≤ 100 := digs_length_le (by omega) (k := 100) _ (Nat.lt_of_lt_of_le hn (Nat.pow_le_pow_right (by decide) (by omega)))
  exact ⟨hd, ⟨by omega, h2, Nat.lt_of_le_of_lt hd (by decide)⟩, intBits_le_iff.mpr hn⟩
local macro_rules | `(tactic| walk_at "pr") => `(tactic| (walk_at "pk"; repeat ((simp only [pInT, pIxD, pDisp1, pIfT, eAddS, eMulS, eIxS, eStrI, eLenZ, eIntS, pInCs, pIxCs, eInS, pLower, pUpper, pFind, pSlS]); walk_at "pk")))
def figV (c : Nat) : Option Nat := if 48 ≤ c ∧ c ≤ 57 then some (c - 48) else if 97 ≤ c ∧ c ≤ 122 then some (c - 87) else if 65 ≤ c ∧ c ≤ 90 then some (c - 55) else none
theorem fig_find {c : Nat} (h : c < 128) : Txt.find figS (Txt.lower ⟨#[c]⟩) = (match figV c with | some v => (v : Int) | none => -1) := by
  have : ∀ c : Nat, c < 128 → Txt.find figS (Txt.lower ⟨#[c]⟩) = (match figV c with | some v => (v : Int) | none => -1) := by decide +kernel
  exact this c h
theorem low_ne {c : Nat} (h : c < 128) : Txt.lower ⟨#[c]⟩ ≠ Str.ofString "" := by
  have : ∀ c : Nat, c < 128 → Txt.lower ⟨#[c]⟩ ≠ Str.ofString "" := by decide +kernel
  exact this c h
/-- a reader -/
def rdO (t : List Nat) (at_ b : Nat) (hz : Bool) (jf : Nat) : Pu.Obj := .ins 3 ["whole", "at", "base", "has_zeros_alone", "figures"] [.str ⟨t.toArray⟩, .int (at_ : Int), .int (b : Int), .bl hz, .ob jf]
section
variable {a1 a2 a3 a4 a5 : Dat}
theorem fRd1 : kGet (["whole", "at", "base", "has_zeros_alone", "figures"] : List Str) [a1, a2, a3, a4, a5] (Str.ofString "whole") = some a1 := rfl
theorem fRd2 : kGet (["whole", "at", "base", "has_zeros_alone", "figures"] : List Str) [a1, a2, a3, a4, a5] (Str.ofString "at") = some a2 := rfl
theorem fRd3 : kGet (["whole", "at", "base", "has_zeros_alone", "figures"] : List Str) [a1, a2, a3, a4, a5] (Str.ofString "base") = some a3 := rfl
theorem fRd4 : kGet (["whole", "at", "base", "has_zeros_alone", "figures"] : List Str) [a1, a2, a3, a4, a5] (Str.ofString "has_zeros_alone") = some a4 := rfl
theorem fRd5 : kGet (["whole", "at", "base", "has_zeros_alone", "figures"] : List Str) [a1, a2, a3, a4, a5] (Str.ofString "figures") = some a5 := rfl
end
theorem insRd {w : Wld} {j at_ b jf : Nat} {t : List Nat} {hz : Bool} {k : List Str → List Dat → Prop} (h : w.os[j]? = some (rdO t at_ b hz jf)) : insOb w j 3 k = k ["whole", "at", "base", "has_zeros_alone", "figures"] [.str ⟨t.toArray⟩, .int (at_ : Int), .int (b : Int), .bl hz, .ob jf] := insOb_is h
def sgn1 (l : List Nat) : Str := ⟨(l.take 1).toArray⟩
theorem cut_sgn (t : List Nat) (a : Nat) : cutS ⟨t.toArray⟩ (some (a : Int)) (some ((a : Int) + 1)) = sgn1 (t.drop a) := by
  unfold cutS sgn1
  have hl : (⟨t.toArray⟩ : Str).length = t.length := List.size_toArray
  have e1 : HT.sIx t.length 0 (some (a : Int)) = min a t.length := by
    unfold HT.sIx
    simp
    omega
  have e2 : HT.sIx t.length t.length (some ((a : Int) + 1)) = min (a + 1) t.length := by
    unfold HT.sIx
    simp
    omega
  rw [hl, e1, e2]
  congr 1
  show ((t.drop (min a t.length)).take (min (a + 1) t.length - min a t.length)).toArray = _
  congr 1
  by_cases h : a < t.length
  · rw [show min a t.length = a by omega, show min (a + 1) t.length - a = 1 by omega]
  · rw [show min a t.length = t.length by omega, List.drop_length, List.drop_eq_nil_of_le (by omega : t.length ≤ a)]
    simp
def P_rd_next : PSp := fun ds w k => match ds with
  | [.ob j] => ∃ (t : List Nat) (at_ b : Nat) (hz : Bool) (jf : Nat), w.os[j]? = some (rdO t at_ b hz jf) ∧ t.length ≤ 100000 ∧ k (.str (sgn1 (t.drop at_))) w
  | _ => False
theorem n_rd_next : ∀ ds w k, P_rd_next ds w k → ds.length = 1 := fun ds w k h => by
  unfold P_rd_next at h
  split at h
  · rfl
  · exact h.elim
theorem e_rd_next {j : Nat} {w : Wld} {k : Dat → Wld → Prop} : P_rd_next [.ob j] w k = (∃ (t : List Nat) (at_ b : Nat) (hz : Bool) (jf : Nat), w.os[j]? = some (rdO t at_ b hz jf) ∧ t.length ≤ 100000 ∧ k (.str (sgn1 (t.drop at_))) w) := rfl
def sp_rd_next (K : PySem.W.Frag) (c : Pc) : Sp := lif K c P_rd_next
theorem u_rd_next {K : PySem.W.Frag} {c : Pc} : SndP K c (sp_rd_next K c) P_rd_next := SndP.lif
/-- 0:self -/
def t_rd_next (K : PySem.W.Frag) (c : Pc) : TS :=
  (tRet (tSl rSlS (tFld K (tVar 0) "whole") (tPart (tFld K (tVar 0) "at")) (tPart (tOp rAdd (tFld K (tVar 0) "at") (tC (.int 1))))))
def p_rd_next : PS :=
  (pRet (pSlS (pFldO 3 "whole" (pVar 0)) (pPart (pFldO 3 "at" (pVar 0))) (pPart (pOp qAdd (pFldO 3 "at" (pVar 0)) (pC (.int 1))))))
theorem sn_rd_next {K : PySem.W.Frag} {c : Pc} {α : Prop} (PM : PM K c) (PB : α) (KS3 : KsAt K c 3 ["whole", "at", "base", "has_zeros_alone", "figures"]) : SndS K c (t_rd_next K c) p_rd_next :=
  (snd_ret (snd_slS (snd_fldO KS3 (by decide) snd_var) (snd_part (snd_fldO KS3 (by decide) snd_var)) (snd_part (snd_op s_add (snd_fldO KS3 (by decide) snd_var) (snd_int 1)))))
theorem w_rd_next : ∀ ds w k, P_rd_next ds w k → p_rd_next (pen k) (env0 1 ds) w := by
  intro ds w k h
  unfold P_rd_next at h
  split at h
  · rename_i j
    obtain ⟨t, at_, b, hz', jf, ho, ht, h⟩ := h
    have hz := sizeLine_eq
    unfold p_rd_next
    walk_at "pr"
    simp only [insRd ho, fRd1, fRd2]
    walk_at "pr"
    rw [cut_sgn]
    exact ⟨by show t.toArray.size ≤ _; rw [List.size_toArray]; omega, h⟩
  · exact h.elim
theorem b_rd_next {K : PySem.W.Frag} {c : Pc} {vs : List V} {H : Hp} {Q : VK} {E : XK} {α : Prop} (PM : PM K c) (PB : α) (KS3 : KsAt K c 3 ["whole", "at", "base", "has_zeros_alone", "figures"]) (h : sp_rd_next K c vs H Q E) : t_rd_next K c (en0 Q) (st0 1 vs) H := def_ok (sn_rd_next PM PB KS3) w_rd_next h
section
variable {a1 a2 a3 a4 a5 d : Dat}
theorem sRdK1 : kKs (["whole", "at", "base", "has_zeros_alone", "figures"] : List Str) (Str.ofString "at") = (["whole", "at", "base", "has_zeros_alone", "figures"] : List Str) := rfl
theorem sRdK2 : kKs (["whole", "at", "base", "has_zeros_alone", "figures"] : List Str) (Str.ofString "base") = (["whole", "at", "base", "has_zeros_alone", "figures"] : List Str) := rfl
theorem sRdK3 : kKs (["whole", "at", "base", "has_zeros_alone", "figures"] : List Str) (Str.ofString "has_zeros_alone") = (["whole", "at", "base", "has_zeros_alone", "figures"] : List Str) := rfl
theorem sRd2 : kSet (["whole", "at", "base", "has_zeros_alone", "figures"] : List Str) [a1, a2, a3, a4, a5] (Str.ofString "at") d = [a1, d, a3, a4, a5] := rfl
theorem sRd3 : kSet (["whole", "at", "base", "has_zeros_alone", "figures"] : List Str) [a1, a2, a3, a4, a5] (Str.ofString "base") d = [a1, a2, d, a4, a5] := rfl
theorem sRd4 : kSet (["whole", "at", "base", "has_zeros_alone", "figures"] : List Str) [a1, a2, a3, a4, a5] (Str.ofString "has_zeros_alone") d = [a1, a2, a3, d, a5] := rfl
theorem fRdM1 : kGet (["whole", "at", "base", "has_zeros_alone", "figures"] : List Str) [a1, a2, a3, a4, a5] (Str.ofString "next_sign") = none := rfl
theorem fRdM2 : kGet (["whole", "at", "base", "has_zeros_alone", "figures"] : List Str) [a1, a2, a3, a4, a5] (Str.ofString "skip_blanks") = none := rfl
theorem fRdM3 : kGet (["whole", "at", "base", "has_zeros_alone", "figures"] : List Str) [a1, a2, a3, a4, a5] (Str.ofString "go_over") = none := rfl
theorem fRdM4 : kGet (["whole", "at", "base", "has_zeros_alone", "figures"] : List Str) [a1, a2, a3, a4, a5] (Str.ofString "find_base") = none := rfl
theorem fRdM5 : kGet (["whole", "at", "base", "has_zeros_alone", "figures"] : List Str) [a1, a2, a3, a4, a5] (Str.ofString "value_here") = none := rfl
theorem fRdM6 : kGet (["whole", "at", "base", "has_zeros_alone", "figures"] : List Str) [a1, a2, a3, a4, a5] (Str.ofString "read_figure") = none := rfl
theorem fRdM7 : kGet (["whole", "at", "base", "has_zeros_alone", "figures"] : List Str) [a1, a2, a3, a4, a5] (Str.ofString "read") = none := rfl
end
/-- where a reader stands -/
structure RdIn (w : Wld) (j jf : Nat) (t : List Nat) (at_ b : Nat) (hz : Bool) (fs : List Nat) : Prop where
  ob : w.os[j]? = some (rdO t at_ b hz jf)
  fg : w.os[jf]? = some (.lst (dN fs))
  ne : jf ≠ j
  len : t.length ≤ 100000
def rdW (w : Wld) (j jf : Nat) (t : List Nat) (at_ b : Nat) (hz : Bool) (fs : List Nat) : Wld := (w.putO j (rdO t at_ b hz jf)).putO jf (.lst (dN fs))
theorem putO_self {w : Wld} {j : Nat} {o : Pu.Obj} (h : w.os[j]? = some o) : w.putO j o = w := by
  unfold Wld.putO
  obtain ⟨h1, h2⟩ := List.getElem?_eq_some_iff.mp h
  subst h2
  rw [List.set_getElem_self]
theorem addO_get {w : Wld} {j : Nat} {o x : Pu.Obj} (h : w.os[j]? = some o) : (w.addO x).os[j]? = some o := by
  show (w.os ++ [x])[j]? = _
  rw [List.getElem?_append_left (List.getElem?_eq_some_iff.mp h).1]; exact h
theorem putO_addO {w : Wld} {j : Nat} {o o' x : Pu.Obj} (h : w.os[j]? = some o') : (w.putO j o).addO x = (w.addO x).putO j o := by
  unfold Wld.putO Wld.addO
  simp only []
  rw [List.set_append_left _ _ (List.getElem?_eq_some_iff.mp h).1]
theorem putO_comm {w : Wld} {j j' : Nat} {o o' : Pu.Obj} (h : j ≠ j') : (w.putO j o).putO j' o' = (w.putO j' o').putO j o := by
  unfold Wld.putO
  simp only []
  rw [List.set_comm _ _ h]
section
variable {w : Wld} {j jf at_ b at2 b2 : Nat} {t fs fs2 : List Nat} {hz hz2 : Bool}
theorem RdIn.to (I : RdIn w j jf t at_ b hz fs) : RdIn (rdW w j jf t at2 b2 hz2 fs2) j jf t at2 b2 hz2 fs2 :=
  ⟨by unfold rdW; rw [putO_ne (Ne.symm I.ne)]; exact putO_at I.ob, by unfold rdW; exact putO_at (by rw [putO_ne I.ne]; exact I.fg), I.ne, I.len⟩
theorem RdIn.self (I : RdIn w j jf t at_ b hz fs) : rdW w j jf t at_ b hz fs = w := by
  unfold rdW
  rw [putO_self I.ob, putO_self I.fg]
theorem RdIn.go {at3 b3 : Nat} {hz3 : Bool} {fs3 : List Nat} (I : RdIn w j jf t at_ b hz fs) : rdW (rdW w j jf t at2 b2 hz2 fs2) j jf t at3 b3 hz3 fs3 = rdW w j jf t at3 b3 hz3 fs3 := by
  unfold rdW
  rw [putO_comm (w := (w.putO j (rdO t at2 b2 hz2 jf))) I.ne, putO_putO, putO_putO]
theorem RdIn.putJ (I : RdIn w j jf t at_ b hz fs) : w.putO j (rdO t at2 b2 hz2 jf) = rdW w j jf t at2 b2 hz2 fs := by
  unfold rdW
  rw [putO_self (w := w.putO j _) (by rw [putO_ne I.ne]; exact I.fg)]
theorem RdIn.putK {x : Int} (hx : x = (at2 : Int)) (I : RdIn w j jf t at_ b hz fs) : w.putO j (Pu.Obj.ins 3 ["whole", "at", "base", "has_zeros_alone", "figures"] [.str ⟨t.toArray⟩, .int x, .int (b2 : Int), .bl hz2, .ob jf]) = rdW w j jf t at2 b2 hz2 fs := by
  subst hx
  exact I.putJ
theorem RdIn.putF (I : RdIn w j jf t at_ b hz fs) : w.putO jf (.lst (dN fs2)) = rdW w j jf t at_ b hz fs2 := by
  unfold rdW
  rw [putO_self I.ob]
end
theorem sgn1_nil {l : List Nat} : sgn1 l = Str.ofString "" ↔ l = [] := by
  cases l with
  | nil => exact ⟨fun _ => rfl, fun _ => by decide +kernel⟩
  | cons c r =>
    refine ⟨fun h => ?_, fun h => nomatch h⟩
    have := congrArg (fun s : Str => s.cps.toList.length) h
    have e0 : (Str.ofString "").cps.toList.length = 0 := by decide +kernel
    rw [e0] at this
    simp [sgn1] at this
theorem k_next {w : Wld} {j jf at_ b : Nat} {t fs : List Nat} {hz : Bool} {k : Dat → Wld → Prop} (I : RdIn w j jf t at_ b hz fs) (h : k (.str (sgn1 (t.drop at_))) w) : P_rd_next [.ob j] w k := by
  rw [e_rd_next]
  exact ⟨t, at_, b, hz, jf, I.ob, I.len, h⟩
def isBl (c : Nat) : Bool := decide (c ∈ (Str.ofString " \t\n").cps.toList)
/-- how many signs of l are over -/
def nB (l : List Nat) : Nat := (l.takeWhile isBl).length
def P_rd_skip : PSp := fun ds w k => match ds with
  | [.ob j] => ∃ (t : List Nat) (at_ b : Nat) (hz : Bool) (jf : Nat) (fs : List Nat), RdIn w j jf t at_ b hz fs ∧ k .non (rdW w j jf t (at_ + nB (t.drop at_)) b hz fs)
  | _ => False
theorem n_rd_skip : ∀ ds w k, P_rd_skip ds w k → ds.length = 1 := fun ds w k h => by
  unfold P_rd_skip at h
  split at h
  · rfl
  · exact h.elim
theorem e_rd_skip {j : Nat} {w : Wld} {k : Dat → Wld → Prop} : P_rd_skip [.ob j] w k = (∃ (t : List Nat) (at_ b : Nat) (hz : Bool) (jf : Nat) (fs : List Nat), RdIn w j jf t at_ b hz fs ∧ k .non (rdW w j jf t (at_ + nB (t.drop at_)) b hz fs)) := rfl
def sp_rd_skip (K : PySem.W.Frag) (c : Pc) : Sp := lif K c P_rd_skip
theorem u_rd_skip {K : PySem.W.Frag} {c : Pc} : SndP K c (sp_rd_skip K c) P_rd_skip := SndP.lif
/-- 0:self -/
def t_rd_skip (K : PySem.W.Frag) (c : Pc) : TS :=
  (tWhile (tAnd (tTest (tOp rNe (tMeth (c.ks.getD 3 0) "next_sign" (sp_rd_next K c) [] E0 (tVar 0) tNil) (tC (.str "")))) (tTest (tOp rInS (tMeth (c.ks.getD 3 0) "next_sign" (sp_rd_next K c) [] E0 (tVar 0) tNil) (tC (.str " \t\n"))))) (sFld K (tVar 0) (tOp rAdd (tFld K (tVar 0) "at") (tC (.int 1))) "at"))
def b1_rd_skip : PS :=
  (pFldS 3 "at" (pVar 0) (pOp qAdd (pFldO 3 "at" (pVar 0)) (pC (.int 1))))
def c1_rd_skip : PT :=
  (pAnd (pTest (pOp qNe (pMethO 3 "next_sign" P_rd_next (pVar 0) pNil) (pC (.str "")))) (pTest (pOp qInS (pMethO 3 "next_sign" P_rd_next (pVar 0) pNil) (pC (.str " \t\n")))))
def p_rd_skip : PS :=
  (pWhile c1_rd_skip b1_rd_skip)
theorem sn_rd_skip {K : PySem.W.Frag} {c : Pc} {α : Prop} (PM : PM K c) (PB : α) (KS3 : KsAt K c 3 ["whole", "at", "base", "has_zeros_alone", "figures"]) : SndS K c (t_rd_skip K c) p_rd_skip :=
  (snd_while (snd_and (snd_test (snd_op s_ne (snd_methO u_rd_next snd_var snd_nil) (snd_str ""))) (snd_test (snd_op s_inS (snd_methO u_rd_next snd_var snd_nil) (snd_str " \t\n")))) (snd_fldS KS3 (by decide) snd_var (snd_op s_add (snd_fldO KS3 (by decide) snd_var) (snd_int 1))))
theorem w_rd_skip : ∀ ds w k, P_rd_skip ds w k → p_rd_skip (pen k) (env0 1 ds) w := by
  intro ds w k h
  unfold P_rd_skip at h
  split at h
  · rename_i j
    obtain ⟨t, at_, b, hz', jf, fs, I, h⟩ := h
    unfold p_rd_skip
    refine whl_ind (fun mm e w' => ∃ a, w' = rdW w j jf t a b hz' fs ∧ mm = t.length - a ∧ a + nB (t.drop a) = at_ + nB (t.drop at_) ∧ e = [.val (.ob j)]) (t.length - at_) ⟨at_, I.self.symm, rfl, rfl, rfl⟩ ?_
    rintro mm e w' nx ⟨a, rfl, rfl, ha, rfl⟩ hn
    have I2 : RdIn (rdW w j jf t a b hz' fs) j jf t a b hz' fs := I.to
    unfold c1_rd_skip
    walk_at "pr"
    simp only [insRd I2.ob, fRdM1]
    refine ⟨trivial, k_next I2 ?_⟩
    cases hd : t.drop a with
    | nil =>
      walk_at "pr"
      rw [if_neg (by rw [sgn1_nil]; simp)]
      rw [hd] at ha
      rw [← ha] at h
      exact h
    | cons c r =>
      have hal : a < t.length := by
        rcases Nat.lt_or_ge a t.length with z | z
        · exact z
        · rw [List.drop_eq_nil_of_le z] at hd; cases hd
      have hd2 : t.drop (a + 1) = r := by rw [← List.drop_drop, hd]; rfl
      walk_at "pr"
      rw [if_pos (by rw [sgn1_nil]; simp)]
      simp only [insRd I2.ob, fRdM1]
      refine ⟨trivial, k_next I2 ?_⟩
      rw [hd] at ha ⊢
      walk_at "pr"
      refine ⟨c, rfl, ?_⟩
      by_cases hc : isBl c = true
      · have hc' : c ∈ (Str.ofString " \t\n").cps.toList := of_decide_eq_true hc
        rw [if_pos hc']
        unfold b1_rd_skip
        walk_at "pr"
        simp only [insRd I2.ob, fRd2, sRdK1, sRd2]
        refine ⟨by decide, ?_⟩
        show nx _ ((rdW w j jf t a b hz' fs).putO j (rdO t (a + 1) b hz' jf))
        rw [I2.putJ, I.go]
        refine hn (t.length - (a + 1)) _ _ (by omega) ⟨a + 1, rfl, rfl, ?_, rfl⟩
        rw [hd2, ← ha]
        unfold nB
        rw [List.takeWhile_cons, if_pos hc, List.length_cons]; omega
      · have hc' : ¬ c ∈ (Str.ofString " \t\n").cps.toList := fun z => hc (decide_eq_true z)
        rw [if_neg hc']
        have : nB (c :: r) = 0 := by unfold nB; rw [List.takeWhile_cons, if_neg hc]; rfl
        rw [this] at ha
        rw [← ha] at h
        exact h
  · exact h.elim
theorem b_rd_skip {K : PySem.W.Frag} {c : Pc} {vs : List V} {H : Hp} {Q : VK} {E : XK} {α : Prop} (PM : PM K c) (PB : α) (KS3 : KsAt K c 3 ["whole", "at", "base", "has_zeros_alone", "figures"]) (h : sp_rd_skip K c vs H Q E) : t_rd_skip K c (en0 Q) (st0 1 vs) H := def_ok (sn_rd_skip PM PB KS3) w_rd_skip h
/-- is the first sign one of some -/
def hdIn (l zs : List Nat) : Bool := match l with
  | c :: _ => decide (c ∈ zs)
  | [] => false
def P_rd_over : PSp := fun ds w k => match ds with
  | [.ob j, .str s] => ∃ (t : List Nat) (at_ b : Nat) (hz : Bool) (jf : Nat) (fs : List Nat) (r : Bool), RdIn w j jf t at_ b hz fs ∧ r = hdIn (t.drop at_) s.cps.toList ∧ k (.bl r) (rdW w j jf t (at_ + if r then 1 else 0) b hz fs)
  | _ => False
theorem n_rd_over : ∀ ds w k, P_rd_over ds w k → ds.length = 2 := fun ds w k h => by
  unfold P_rd_over at h
  split at h
  · rfl
  · exact h.elim
theorem e_rd_over {j : Nat} {s : Str} {w : Wld} {k : Dat → Wld → Prop} : P_rd_over [.ob j, .str s] w k = (∃ (t : List Nat) (at_ b : Nat) (hz : Bool) (jf : Nat) (fs : List Nat) (r : Bool), RdIn w j jf t at_ b hz fs ∧ r = hdIn (t.drop at_) s.cps.toList ∧ k (.bl r) (rdW w j jf t (at_ + if r then 1 else 0) b hz fs)) := rfl
def sp_rd_over (K : PySem.W.Frag) (c : Pc) : Sp := lif K c P_rd_over
theorem u_rd_over {K : PySem.W.Frag} {c : Pc} : SndP K c (sp_rd_over K c) P_rd_over := SndP.lif
/-- 0:self 1:signs 2:is_there -/
def t_rd_over (K : PySem.W.Frag) (c : Pc) : TS :=
  (tSeq (tAsg (tAndV (tOp rNe (tMeth (c.ks.getD 3 0) "next_sign" (sp_rd_next K c) [] E0 (tVar 0) tNil) (tC (.str ""))) (tOp rInS (tMeth (c.ks.getD 3 0) "next_sign" (sp_rd_next K c) [] E0 (tVar 0) tNil) (tVar 1))) (gName 2))
  (tSeq (sFld K (tVar 0) (tOp rAdd (tFld K (tVar 0) "at") (tCB rInt (tCons (tVar 2) tNil))) "at")
  (tRet (tVar 2))))
def p_rd_over : PS :=
  (pSeq (pAsg (pAndV (pOp qNe (pMethO 3 "next_sign" P_rd_next (pVar 0) pNil) (pC (.str ""))) (pOp qInS (pMethO 3 "next_sign" P_rd_next (pVar 0) pNil) (pVar 1))) 2)
  (pSeq (pFldS 3 "at" (pVar 0) (pOp qAdd (pFldO 3 "at" (pVar 0)) (pCB qInt (pCons (pVar 2) pNil))))
  (pRet (pVar 2))))
theorem sn_rd_over {K : PySem.W.Frag} {c : Pc} {α : Prop} (PM : PM K c) (PB : α) (KS3 : KsAt K c 3 ["whole", "at", "base", "has_zeros_alone", "figures"]) : SndS K c (t_rd_over K c) p_rd_over :=
  (snd_seq (snd_asg (snd_andV (snd_op s_ne (snd_methO u_rd_next snd_var snd_nil) (snd_str "")) (snd_op s_inS (snd_methO u_rd_next snd_var snd_nil) snd_var)))
  (snd_seq (snd_fldS KS3 (by decide) snd_var (snd_op s_add (snd_fldO KS3 (by decide) snd_var) (snd_cb s_int (snd_cons snd_var snd_nil))))
  (snd_ret snd_var)))
theorem w_rd_over : ∀ ds w k, P_rd_over ds w k → p_rd_over (pen k) (env0 3 ds) w := by
  intro ds w k h
  unfold P_rd_over at h
  split at h
  · rename_i j s
    obtain ⟨t, at_, b, hz', jf, fs, r, I, hr, h⟩ := h
    unfold p_rd_over
    walk_at "pr"
    simp only [insRd I.ob, fRdM1]
    refine ⟨trivial, k_next I ?_⟩
    cases hd : t.drop at_ with
    | nil =>
      rw [hd] at hr
      subst hr
      walk_at "pr"
      rw [if_neg (by rw [sgn1_nil]; simp)]
      simp only [insRd I.ob, fRd2, sRdK1, sRd2]
      walk_at "pr"
      refine ⟨by decide, ?_⟩
      show k _ (w.putO j (rdO t at_ b hz' jf))
      rw [I.putJ]
      exact h
    | cons c r =>
      rw [hd] at hr
      walk_at "pr"
      rw [if_pos (by rw [sgn1_nil]; simp)]
      simp only [insRd I.ob, fRd2, fRdM1, sRdK1, sRd2]
      refine ⟨trivial, k_next I ?_⟩
      rw [hd]
      walk_at "pr"
      refine ⟨c, rfl, ?_⟩
      simp only [insRd I.ob, fRd2, sRdK1, sRd2]
      walk_at "pr"
      refine ⟨by decide, ?_⟩
      subst hr
      unfold hdIn at h
      have e : (at_ : Int) + (if c ∈ s.cps.toList then 1 else 0) = ((at_ + (if decide (c ∈ s.cps.toList) = true then 1 else 0) : Nat) : Int) := by
        by_cases z : c ∈ s.cps.toList <;> simp [z]
      rw [e]
      show k _ (w.putO j (rdO t _ b hz' jf))
      rw [I.putJ]
      exact h
  · exact h.elim
theorem b_rd_over {K : PySem.W.Frag} {c : Pc} {vs : List V} {H : Hp} {Q : VK} {E : XK} {α : Prop} (PM : PM K c) (PB : α) (KS3 : KsAt K c 3 ["whole", "at", "base", "has_zeros_alone", "figures"]) (h : sp_rd_over K c vs H Q E) : t_rd_over K c (en0 Q) (st0 3 vs) H := def_ok (sn_rd_over PM PB KS3) w_rd_over h
/-- the value of the next sign as a digit -/
def valC (b : Nat) (hz : Bool) (l : List Nat) : Option Nat := match l with
  | c :: _ => (match figV c with | some v => if v < b ∧ ¬ (hz = true ∧ 0 < v) then some v else none | none => none)
  | [] => none
def vD : Option Nat → Dat
  | some v => .int (v : Int)
  | none => .non
def P_rd_value : PSp := fun ds w k => match ds with
  | [.ob j] => ∃ (t : List Nat) (at_ b : Nat) (hz : Bool) (jf : Nat) (fs : List Nat), RdIn w j jf t at_ b hz fs ∧ (∀ c ∈ t, c < 128) ∧ k (vD (valC b hz (t.drop at_))) w
  | _ => False
theorem n_rd_value : ∀ ds w k, P_rd_value ds w k → ds.length = 1 := fun ds w k h => by
  unfold P_rd_value at h
  split at h
  · rfl
  · exact h.elim
theorem e_rd_value {j : Nat} {w : Wld} {k : Dat → Wld → Prop} : P_rd_value [.ob j] w k = (∃ (t : List Nat) (at_ b : Nat) (hz : Bool) (jf : Nat) (fs : List Nat), RdIn w j jf t at_ b hz fs ∧ (∀ c ∈ t, c < 128) ∧ k (vD (valC b hz (t.drop at_))) w) := rfl
def sp_rd_value (K : PySem.W.Frag) (c : Pc) : Sp := lif K c P_rd_value
theorem u_rd_value {K : PySem.W.Frag} {c : Pc} : SndP K c (sp_rd_value K c) P_rd_value := SndP.lif
/-- 0:self 1:sign 2:value -/
def t_rd_value (K : PySem.W.Frag) (c : Pc) : TS :=
  (tSeq (tAsg (tM0 rLower (tMeth (c.ks.getD 3 0) "next_sign" (sp_rd_next K c) [] E0 (tVar 0) tNil)) (gName 1))
  (tSeq (tAsg (tIf (tTest (tOp rNe (tVar 1) (tC (.str "")))) (tM1 rFind (tC (.str "0123456789abcdefghijklmnopqrstuvwxyz")) (tVar 1)) (tUn rNeg (tC (.int 1)))) (gName 2))
  (tSeq (tIfS (tOr (tNot (tTest (tChain rLe rLt (tC (.int 0)) (tVar 2) (tFld K (tVar 0) "base")))) (tAnd (L2.tB (tFld K (tVar 0) "has_zeros_alone")) (tTest (tOp rGt (tVar 2) (tC (.int 0)))))) (tRet (tC .non)) tNext)
  (tRet (tVar 2)))))
def p_rd_value : PS :=
  (pSeq (pAsg (pLower (pMethO 3 "next_sign" P_rd_next (pVar 0) pNil)) 1)
  (pSeq (pAsg (pIf (pTest (pOp qNe (pVar 1) (pC (.str "")))) (pFind (pC (.str "0123456789abcdefghijklmnopqrstuvwxyz")) (pVar 1)) (pUn qNeg (pC (.int 1)))) 2)
  (pSeq (pIfS (pOr (pNot (pTest (pChain qLe qLt (pC (.int 0)) (pVar 2) (pFldO 3 "base" (pVar 0))))) (pAnd (pTest (pFldO 3 "has_zeros_alone" (pVar 0))) (pTest (pOp qGt (pVar 2) (pC (.int 0)))))) (pRet (pC .non)) pNext)
  (pRet (pVar 2)))))
theorem sn_rd_value {K : PySem.W.Frag} {c : Pc} {α : Prop} (PM : PM K c) (PB : α) (KS3 : KsAt K c 3 ["whole", "at", "base", "has_zeros_alone", "figures"]) : SndS K c (t_rd_value K c) p_rd_value :=
  (snd_seq (snd_asg (snd_lower (snd_methO u_rd_next snd_var snd_nil)))
  (snd_seq (snd_asg (snd_if (snd_test (snd_op s_ne snd_var (snd_str ""))) (snd_find (snd_str "0123456789abcdefghijklmnopqrstuvwxyz") snd_var) (snd_neg (snd_int 1))))
  (snd_seq (snd_ifS (snd_or (snd_not (snd_test (snd_chain s_le s_lt (snd_int 0) snd_var (snd_fldO KS3 (by decide) snd_var)))) (snd_and (snd_tB (snd_fldO KS3 (by decide) snd_var)) (snd_test (snd_op s_gt snd_var (snd_int 0))))) (snd_ret snd_non) snd_next)
  (snd_ret snd_var))))
theorem w_rd_value : ∀ ds w k, P_rd_value ds w k → p_rd_value (pen k) (env0 3 ds) w := by
  intro ds w k h
  unfold P_rd_value at h
  split at h
  · rename_i j
    obtain ⟨t, at_, b, hz', jf, fs, I, hasc, h⟩ := h
    unfold p_rd_value
    walk_at "pr"
    simp only [insRd I.ob, fRdM1]
    refine ⟨trivial, k_next I ?_⟩
    walk_at "pr"
    cases hd : t.drop at_ with
    | nil =>
      have e1 : Txt.lower (sgn1 []) = Str.ofString "" := by decide +kernel
      rw [hd] at h
      rw [e1, if_neg (by simp), if_neg (by decide)]
      exact ⟨by decide, h⟩
    | cons c r =>
      have hc : c < 128 := hasc c (List.mem_of_mem_drop (by rw [hd]; exact List.mem_cons_self))
      have e1 : sgn1 (c :: r) = (⟨#[c]⟩ : Str) := rfl
      have e2 : Txt.find (Str.ofString "0123456789abcdefghijklmnopqrstuvwxyz") (Txt.lower ⟨#[c]⟩) = (match figV c with | some v => (v : Int) | none => -1) := fig_find hc
      rw [hd] at h
      rw [e1, if_pos (low_ne hc), e2]
      refine ⟨by show 1 ≤ _; decide, ?_⟩
      unfold valC at h
      cases hv : figV c with
      | none =>
        simp only [hv] at h ⊢
        rw [if_neg (by decide)]
        exact h
      | some v =>
        simp only [hv] at h ⊢
        rw [if_pos (by omega)]
        simp only [insRd I.ob, fRd3, fRd4]
        walk_at "pr"
        by_cases h1 : v < b
        · rw [if_neg (by omega)]
          cases hz' with
          | true =>
            walk_at "pr"
            by_cases h2 : 0 < v
            · rw [if_pos (by omega)]
              rw [if_neg (by simp; omega)] at h
              exact h
            · rw [if_neg (by omega)]
              rw [if_pos ⟨h1, by simp; omega⟩] at h
              exact h
          | false =>
            walk_at "pr"
            rw [if_pos ⟨h1, by simp⟩] at h
            exact h
        · rw [if_pos (by omega)]
          rw [if_neg (fun z => h1 z.1)] at h
          exact h
  · exact h.elim
theorem b_rd_value {K : PySem.W.Frag} {c : Pc} {vs : List V} {H : Hp} {Q : VK} {E : XK} {α : Prop} (PM : PM K c) (PB : α) (KS3 : KsAt K c 3 ["whole", "at", "base", "has_zeros_alone", "figures"]) (h : sp_rd_value K c vs H Q E) : t_rd_value K c (en0 Q) (st0 3 vs) H := def_ok (sn_rd_value PM PB KS3) w_rd_value h
def P_rd_figure : PSp := fun ds w k => match ds with
  | [.ob j] => ∃ (t : List Nat) (at_ b : Nat) (hz : Bool) (jf : Nat) (fs : List Nat) (v : Nat), RdIn w j jf t at_ b hz fs ∧ (∀ c ∈ t, c < 128) ∧ fs.length ≤ 100000 ∧ valC b hz (t.drop at_) = some v ∧ k .non (rdW w j jf t (at_ + 1) b hz (fs ++ [v]))
  | _ => False
theorem n_rd_figure : ∀ ds w k, P_rd_figure ds w k → ds.length = 1 := fun ds w k h => by
  unfold P_rd_figure at h
  split at h
  · rfl
  · exact h.elim
theorem e_rd_figure {j : Nat} {w : Wld} {k : Dat → Wld → Prop} : P_rd_figure [.ob j] w k = (∃ (t : List Nat) (at_ b : Nat) (hz : Bool) (jf : Nat) (fs : List Nat) (v : Nat), RdIn w j jf t at_ b hz fs ∧ (∀ c ∈ t, c < 128) ∧ fs.length ≤ 100000 ∧ valC b hz (t.drop at_) = some v ∧ k .non (rdW w j jf t (at_ + 1) b hz (fs ++ [v]))) := rfl
def sp_rd_figure (K : PySem.W.Frag) (c : Pc) : Sp := lif K c P_rd_figure
theorem u_rd_figure {K : PySem.W.Frag} {c : Pc} : SndP K c (sp_rd_figure K c) P_rd_figure := SndP.lif
/-- 0:self 1:value -/
def t_rd_figure (K : PySem.W.Frag) (c : Pc) : TS :=
  (tSeq (tAsg (tMeth (c.ks.getD 3 0) "value_here" (sp_rd_value K c) [] E0 (tVar 0) tNil) (gName 1))
  (tSeq (tIfS (tTest (tOp rIsN (tVar 1) (tC .non))) tNever tNext)
  (tSeq (tDrop (tBM K "list" rAppend (tFld K (tVar 0) "figures") (tCons (tVar 1) tNil)))
  (sFld K (tVar 0) (tOp rAdd (tFld K (tVar 0) "at") (tC (.int 1))) "at"))))
def p_rd_figure : PS :=
  (pSeq (pAsg (pMethO 3 "value_here" P_rd_value (pVar 0) pNil) 1)
  (pSeq (pIfS (pTest (pOp qIsN (pVar 1) (pC .non))) pNever pNext)
  (pSeq (pAppO (pFldO 3 "figures" (pVar 0)) (pVar 1))
  (pFldS 3 "at" (pVar 0) (pOp qAdd (pFldO 3 "at" (pVar 0)) (pC (.int 1)))))))
theorem sn_rd_figure {K : PySem.W.Frag} {c : Pc} {α : Prop} (PM : PM K c) (PB : α) (KS3 : KsAt K c 3 ["whole", "at", "base", "has_zeros_alone", "figures"]) : SndS K c (t_rd_figure K c) p_rd_figure :=
  (snd_seq (snd_asg (snd_methO u_rd_value snd_var snd_nil))
  (snd_seq (snd_ifS (snd_test (snd_op s_isN snd_var snd_non)) snd_never snd_next)
  (snd_seq (snd_appO (snd_fldO KS3 (by decide) snd_var) snd_var)
  (snd_fldS KS3 (by decide) snd_var (snd_op s_add (snd_fldO KS3 (by decide) snd_var) (snd_int 1))))))
theorem w_rd_figure : ∀ ds w k, P_rd_figure ds w k → p_rd_figure (pen k) (env0 2 ds) w := by
  intro ds w k h
  unfold P_rd_figure at h
  split at h
  · rename_i j
    obtain ⟨t, at_, b, hz', jf, fs, v, I, hasc, hfl, hv, h⟩ := h
    have hsz := sizeLine_eq
    unfold p_rd_figure
    walk_at "pr"
    simp only [insRd I.ob, fRdM5]
    rw [e_rd_value]
    refine ⟨trivial, t, at_, b, hz', jf, fs, I, hasc, ?_⟩
    rw [hv]
    unfold vD
    walk_at "pr"
    simp only [insRd I.ob, fRd5]
    walk_at "pr"
    rw [lsAt_is I.fg, lsAt_is I.fg]
    have e1 : dN fs ++ [Dat.int (v : Int)] = dN (fs ++ [v]) := by rw [← dN_app]; rfl
    rw [e1, I.putF]
    have I2 : RdIn (rdW w j jf t at_ b hz' (fs ++ [v])) j jf t at_ b hz' (fs ++ [v]) := I.to
    refine ⟨by rw [dN_len]; omega, ?_⟩
    simp only [insRd I2.ob, fRd2, sRdK1, sRd2]
    refine ⟨by decide, ?_⟩
    show k _ ((rdW w j jf t at_ b hz' (fs ++ [v])).putO j (rdO t (at_ + 1) b hz' jf))
    rw [I2.putJ, I.go]
    exact h
  · exact h.elim
theorem b_rd_figure {K : PySem.W.Frag} {c : Pc} {vs : List V} {H : Hp} {Q : VK} {E : XK} {α : Prop} (PM : PM K c) (PB : α) (KS3 : KsAt K c 3 ["whole", "at", "base", "has_zeros_alone", "figures"]) (h : sp_rd_figure K c vs H Q E) : t_rd_figure K c (en0 Q) (st0 2 vs) H := def_ok (sn_rd_figure PM PB KS3) w_rd_figure h
def P_rd_init : PSp := fun ds w k => match ds with
  | [.ob j, .str s, .int b] => ∃ (t : List Nat) (B : Nat), s = ⟨t.toArray⟩ ∧ b = (B : Int) ∧ w.os[j]? = some (.ins 3 [] []) ∧ k .non ((w.addO (.lst [])).putO j (rdO t 0 B false w.os.length))
  | _ => False
theorem n_rd_init : ∀ ds w k, P_rd_init ds w k → ds.length = 3 := fun ds w k h => by
  unfold P_rd_init at h
  split at h
  · rfl
  · exact h.elim
theorem e_rd_init {j : Nat} {s : Str} {b : Int} {w : Wld} {k : Dat → Wld → Prop} : P_rd_init [.ob j, .str s, .int b] w k = (∃ (t : List Nat) (B : Nat), s = ⟨t.toArray⟩ ∧ b = (B : Int) ∧ w.os[j]? = some (.ins 3 [] []) ∧ k .non ((w.addO (.lst [])).putO j (rdO t 0 B false w.os.length))) := rfl
def sp_rd_init (K : PySem.W.Frag) (c : Pc) : Sp := lif K c P_rd_init
theorem u_rd_init {K : PySem.W.Frag} {c : Pc} : SndP K c (sp_rd_init K c) P_rd_init := SndP.lif
/-- 0:self 1:text 2:base -/
def t_rd_init (K : PySem.W.Frag) (c : Pc) : TS :=
  (tSeq (sFld K (tVar 0) (tVar 1) "whole")
  (tSeq (sFld K (tVar 0) (tC (.int 0)) "at")
  (tSeq (sFld K (tVar 0) (tVar 2) "base")
  (tSeq (sFld K (tVar 0) (tC (.bl false)) "has_zeros_alone")
  (sFld K (tVar 0) (tLst tNil) "figures")))))
def p_rd_init : PS :=
  (pSeq (pFldS 3 "whole" (pVar 0) (pVar 1))
  (pSeq (pFldS 3 "at" (pVar 0) (pC (.int 0)))
  (pSeq (pFldS 3 "base" (pVar 0) (pVar 2))
  (pSeq (pFldS 3 "has_zeros_alone" (pVar 0) (pC (.bl false)))
  (pFldS 3 "figures" (pVar 0) (pObj (pLst pNil)))))))
theorem sn_rd_init {K : PySem.W.Frag} {c : Pc} {α : Prop} (PM : PM K c) (PB : α) (KS3 : KsAt K c 3 ["whole", "at", "base", "has_zeros_alone", "figures"]) : SndS K c (t_rd_init K c) p_rd_init :=
  (snd_seq (snd_fldS KS3 (by decide) snd_var snd_var)
  (snd_seq (snd_fldS KS3 (by decide) snd_var (snd_int 0))
  (snd_seq (snd_fldS KS3 (by decide) snd_var snd_var)
  (snd_seq (snd_fldS KS3 (by decide) snd_var (snd_bl false))
  (snd_fldS KS3 (by decide) snd_var (snd_obj (snd_lst snd_nil)))))))
theorem w_rd_init : ∀ ds w k, P_rd_init ds w k → p_rd_init (pen k) (env0 3 ds) w := by
  intro ds w k h
  unfold P_rd_init at h
  split at h
  · rename_i j s b
    obtain ⟨t, B, rfl, rfl, ho, h⟩ := h
    have hsz := sizeLine_eq
    unfold p_rd_init
    walk_at "pr"
    rw [insOb_is ho]
    refine ⟨by decide, ?_⟩
    rw [insOb_is (putO_at ho), putO_putO]
    refine ⟨by decide, ?_⟩
    rw [insOb_is (putO_at ho), putO_putO]
    refine ⟨by decide, ?_⟩
    rw [insOb_is (putO_at ho), putO_putO]
    refine ⟨by decide, by omega, ?_⟩
    have hO : Pu.Obj.ins 3 (kKs (kKs (kKs (kKs [] (Str.ofString "whole")) (Str.ofString "at")) (Str.ofString "base")) (Str.ofString "has_zeros_alone")) (kSet (kKs (kKs (kKs [] (Str.ofString "whole")) (Str.ofString "at")) (Str.ofString "base")) (kSet (kKs (kKs [] (Str.ofString "whole")) (Str.ofString "at")) (kSet (kKs [] (Str.ofString "whole")) (kSet [] [] (Str.ofString "whole") (Dat.str { cps := t.toArray })) (Str.ofString "at") (Dat.int 0)) (Str.ofString "base") (Dat.int ↑B)) (Str.ofString "has_zeros_alone") (Dat.bl false)) = .ins 3 ["whole", "at", "base", "has_zeros_alone"] [.str ⟨t.toArray⟩, .int 0, .int (B : Int), .bl false] := rfl
    have hl : ∀ o, (w.putO j o).os.length = w.os.length := fun o => List.length_set
    rw [hO, hl, putO_addO ho, insOb_is (putO_at (addO_get ho)), putO_putO]
    exact ⟨by decide, h⟩
  · exact h.elim
theorem b_rd_init {K : PySem.W.Frag} {c : Pc} {vs : List V} {H : Hp} {Q : VK} {E : XK} {α : Prop} (PM : PM K c) (PB : α) (KS3 : KsAt K c 3 ["whole", "at", "base", "has_zeros_alone", "figures"]) (h : sp_rd_init K c vs H Q E) : t_rd_init K c (en0 Q) (st0 3 vs) H := def_ok (sn_rd_init PM PB KS3) w_rd_init h
def pfx (c : Nat) : Option Nat := if c = 120 ∨ c = 88 then some 16 else if c = 111 ∨ c = 79 then some 8 else if c = 98 ∨ c = 66 then some 2 else none
theorem pfx_look {c : Nat} (h : c < 128) : List.lookup (Txt.lower ⟨#[c]⟩) [(Str.ofString "x", (16 : Int)), (Str.ofString "o", 8), (Str.ofString "b", 2)] = (pfx c).map fun (n : Nat) => (n : Int) := by
  have : ∀ c : Nat, c < 128 → List.lookup (Txt.lower ⟨#[c]⟩) [(Str.ofString "x", (16 : Int)), (Str.ofString "o", 8), (Str.ofString "b", 2)] = (pfx c).map fun (n : Nat) => (n : Int) := by decide +kernel
  exact this c h
/-- is there a prefix that fits the base b -/
def pfxOf (b : Nat) (l : List Nat) : Option Nat := match l with
  | 48 :: c :: _ => (match pfx c with | some P => if b = 0 ∨ b = P then some P else none | none => none)
  | _ => none
/-- how many signs are gone over, the base, whether zeros alone are told -/
def bsF (b : Nat) (hz : Bool) (l : List Nat) : Nat × Nat × Bool := match pfxOf b l with
  | some P => (2 + (if l.getD 2 0 = 95 then 1 else 0), P, hz)
  | none => if b = 0 then (0, 10, decide (l.getD 0 0 = 48)) else (0, b, hz)
theorem pIfS_by {c : PT} {a b : PS} {D : PEnds} {e : Pu.Env} {w : Wld} (t0 : Bool) (h : ∀ K : Bool → Pu.Env → Wld → Prop, K t0 e w → c e w K) (ht : t0 = true → a D e w) (hf : t0 = false → b D e w) : pIfS c a b D e w := by
  refine h _ ?_
  cases t0 with
  | true => exact ht rfl
  | false => exact hf rfl
def P_rd_base : PSp := fun ds w k => match ds with
  | [.ob j] => ∃ (t : List Nat) (at_ b : Nat) (hz : Bool) (jf : Nat) (fs : List Nat), RdIn w j jf t at_ b hz fs ∧ (∀ c ∈ t, c < 128) ∧ k .non (rdW w j jf t (at_ + (bsF b hz (t.drop at_)).1) (bsF b hz (t.drop at_)).2.1 (bsF b hz (t.drop at_)).2.2 fs)
  | _ => False
theorem n_rd_base : ∀ ds w k, P_rd_base ds w k → ds.length = 1 := fun ds w k h => by
  unfold P_rd_base at h
  split at h
  · rfl
  · exact h.elim
theorem e_rd_base {j : Nat} {w : Wld} {k : Dat → Wld → Prop} : P_rd_base [.ob j] w k = (∃ (t : List Nat) (at_ b : Nat) (hz : Bool) (jf : Nat) (fs : List Nat), RdIn w j jf t at_ b hz fs ∧ (∀ c ∈ t, c < 128) ∧ k .non (rdW w j jf t (at_ + (bsF b hz (t.drop at_)).1) (bsF b hz (t.drop at_)).2.1 (bsF b hz (t.drop at_)).2.2 fs)) := rfl
def sp_rd_base (K : PySem.W.Frag) (c : Pc) : Sp := lif K c P_rd_base
theorem u_rd_base {K : PySem.W.Frag} {c : Pc} : SndP K c (sp_rd_base K c) P_rd_base := SndP.lif
/-- 0:self 1:letter -/
def t_rd_base (K : PySem.W.Frag) (c : Pc) : TS :=
  (tSeq (tAsg (tM0 rLower (tSl rSlS (tFld K (tVar 0) "whole") (tPart (tOp rAdd (tFld K (tVar 0) "at") (tC (.int 1)))) (tPart (tOp rAdd (tFld K (tVar 0) "at") (tC (.int 2)))))) (gName 1))
  (tIfS (tAnd (tTest (tOp rEq (tMeth (c.ks.getD 3 0) "next_sign" (sp_rd_next K c) [] E0 (tVar 0) tNil) (tC (.str "0")))) (tAnd (tTest (tInCs [("x", 16), ("o", 8), ("b", 2)] (tVar 1))) (tTest (tOp (rIn K false) (tFld K (tVar 0) "base") (tTup (tCons (tC (.int 0)) (tCons (tIxCs [("x", 16), ("o", 8), ("b", 2)] (tVar 1)) tNil))))))) (tSeq (sFld K (tVar 0) (tIxCs [("x", 16), ("o", 8), ("b", 2)] (tVar 1)) "base")
  (tSeq (sFld K (tVar 0) (tOp rAdd (tFld K (tVar 0) "at") (tC (.int 2))) "at")
  (tDrop (tMeth (c.ks.getD 3 0) "go_over" (sp_rd_over K c) [] E0 (tVar 0) (tCons (tC (.str "_")) tNil))))) (tIfS (tTest (tOp rEq (tFld K (tVar 0) "base") (tC (.int 0)))) (tSeq (sFld K (tVar 0) (tC (.int 10)) "base")
  (sFld K (tVar 0) (tOp rEq (tMeth (c.ks.getD 3 0) "next_sign" (sp_rd_next K c) [] E0 (tVar 0) tNil) (tC (.str "0"))) "has_zeros_alone")) tNext)))
def r1_rd_base : PS :=
  (pIfS (pAnd (pTest (pOp qEq (pMethO 3 "next_sign" P_rd_next (pVar 0) pNil) (pC (.str "0")))) (pAnd (pTest (pInCs [("x" , 16), ("o" , 8), ("b" , 2)] (pVar 1))) (pTest (pOp qIn (pFldO 3 "base" (pVar 0)) (pTup (pCons (pC (.int 0)) (pCons (pIxCs [("x" , 16), ("o" , 8), ("b" , 2)] (pVar 1)) pNil))))))) (pSeq (pFldS 3 "base" (pVar 0) (pIxCs [("x" , 16), ("o" , 8), ("b" , 2)] (pVar 1)))
  (pSeq (pFldS 3 "at" (pVar 0) (pOp qAdd (pFldO 3 "at" (pVar 0)) (pC (.int 2))))
  (pDrop (pMethO 3 "go_over" P_rd_over (pVar 0) (pCons (pC (.str "_")) pNil))))) (pIfS (pTest (pOp qEq (pFldO 3 "base" (pVar 0)) (pC (.int 0)))) (pSeq (pFldS 3 "base" (pVar 0) (pC (.int 10)))
  (pFldS 3 "has_zeros_alone" (pVar 0) (pOp qEq (pMethO 3 "next_sign" P_rd_next (pVar 0) pNil) (pC (.str "0"))))) pNext))
def p_rd_base : PS :=
  (pSeq (pAsg (pLower (pSlS (pFldO 3 "whole" (pVar 0)) (pPart (pOp qAdd (pFldO 3 "at" (pVar 0)) (pC (.int 1)))) (pPart (pOp qAdd (pFldO 3 "at" (pVar 0)) (pC (.int 2)))))) 1)
  r1_rd_base)
theorem sn_rd_base {K : PySem.W.Frag} {c : Pc} {α : Prop} (PM : PM K c) (PB : α) (KS3 : KsAt K c 3 ["whole", "at", "base", "has_zeros_alone", "figures"]) : SndS K c (t_rd_base K c) p_rd_base :=
  (snd_seq (snd_asg (snd_lower (snd_slS (snd_fldO KS3 (by decide) snd_var) (snd_part (snd_op s_add (snd_fldO KS3 (by decide) snd_var) (snd_int 1))) (snd_part (snd_op s_add (snd_fldO KS3 (by decide) snd_var) (snd_int 2))))))
  (snd_ifS (snd_and (snd_test (snd_op s_eq (snd_methO u_rd_next snd_var snd_nil) (snd_str "0"))) (snd_and (snd_test (snd_inCs snd_var)) (snd_test (snd_op s_in (snd_fldO KS3 (by decide) snd_var) (snd_tup (snd_cons (snd_int 0) (snd_cons (snd_ixCs snd_var) snd_nil))))))) (snd_seq (snd_fldS KS3 (by decide) snd_var (snd_ixCs snd_var))
  (snd_seq (snd_fldS KS3 (by decide) snd_var (snd_op s_add (snd_fldO KS3 (by decide) snd_var) (snd_int 2)))
  (snd_drop (snd_methO u_rd_over snd_var (snd_cons (snd_str "_") snd_nil))))) (snd_ifS (snd_test (snd_op s_eq (snd_fldO KS3 (by decide) snd_var) (snd_int 0))) (snd_seq (snd_fldS KS3 (by decide) snd_var (snd_int 10))
  (snd_fldS KS3 (by decide) snd_var (snd_op s_eq (snd_methO u_rd_next snd_var snd_nil) (snd_str "0")))) snd_next)))
theorem w_rd_base : ∀ ds w k, P_rd_base ds w k → p_rd_base (pen k) (env0 2 ds) w := by
  intro ds w k h
  unfold P_rd_base at h
  split at h
  · rename_i j
    obtain ⟨t, at_, b, hz', jf, fs, I, hasc, h⟩ := h
    have hsz := sizeLine_eq
    unfold p_rd_base
    walk_at "pr"
    simp only [insRd I.ob, fRd1, fRd2]
    walk_at "pr"
    have e1 : cutS ⟨t.toArray⟩ (some ((at_ : Int) + 1)) (some ((at_ : Int) + 2)) = sgn1 (t.drop (at_ + 1)) := cut_sgn t (at_ + 1)
    rw [e1]
    refine ⟨by show t.toArray.size ≤ _; rw [List.size_toArray]; have := I.len; omega, ?_, ?_⟩
    · show ((t.drop (at_ + 1)).take 1).toArray.size ≤ _
      rw [List.size_toArray, List.length_take]; omega
    unfold r1_rd_base
    have hd1 : t.drop (at_ + 1) = (t.drop at_).drop 1 := by rw [List.drop_drop]
    refine pIfS_by (pfxOf b (t.drop at_)).isSome (fun K hK => ?_) (fun ht => ?_) fun hf => ?_
    · walk_at "pr"
      simp only [insRd I.ob, fRdM1]
      refine ⟨trivial, k_next I ?_⟩
      rw [hd1]
      walk_at "pr"
      simp only [insRd I.ob, fRd3]
      generalize hlt : t.drop at_ = lt at hK ⊢
      have hkey : ∀ (e : Pu.Env), (if sgn1 lt = Str.ofString "0" then if (List.lookup (Txt.lower (sgn1 (List.drop 1 lt))) [(Str.ofString "x", (16 : Int)), (Str.ofString "o", 8), (Str.ofString "b", 2)]).isSome = true then onSome (some (Dat.int (b : Int))) fun d => onSome (List.lookup (Txt.lower (sgn1 (List.drop 1 lt))) [(Str.ofString "x", (16 : Int)), (Str.ofString "o", 8), (Str.ofString "b", 2)]) fun m => 2 ≤ sizeLine ∧ qIn d (Dat.tup [Dat.int 0, Dat.int m]) fun z => isB z fun b => K b e w else K false e w else K false e w) = K (pfxOf b lt).isSome e w := by
        intro e
        match lt, hlt with
        | [], _ => rw [if_neg (by decide)]; rfl
        | c0 :: r0, hlt =>
          by_cases h0 : c0 = 48
          · subst h0
            rw [if_pos (by rfl)]
            match r0, hlt with
            | [], _ =>
              have e2 : (List.lookup (Txt.lower (sgn1 (List.drop 1 [48]))) [(Str.ofString "x", (16 : Int)), (Str.ofString "o", 8), (Str.ofString "b", 2)]) = none := by decide +kernel
              rw [e2]
              rfl
            | c1 :: r1, hlt =>
              have hc1 : c1 < 128 := hasc c1 (List.mem_of_mem_drop (by rw [hlt]; exact List.mem_cons_of_mem _ List.mem_cons_self))
              have e2 : sgn1 (List.drop 1 (48 :: c1 :: r1)) = (⟨#[c1]⟩ : Str) := rfl
              rw [e2, pfx_look hc1]
              cases hp : pfx c1 with
              | none =>
                have e3 : pfxOf b (48 :: c1 :: r1) = none := by simp only [pfxOf, hp]
                rw [e3]
                rfl
              | some P =>
                have e3 : pfxOf b (48 :: c1 :: r1) = if b = 0 ∨ b = P then some P else none := by simp only [pfxOf, hp]
                rw [e3]
                show (2 ≤ sizeLine ∧ K (inV (.int (b : Int)) [.int 0, .int (P : Int)]) e w) = _
                have e4 : inV (.int (b : Int)) [.int 0, .int (P : Int)] = (if b = 0 ∨ b = P then some P else none).isSome := by
                  have ev : ∀ x y : Nat, eqV (.int (x : Int)) (.int (y : Int)) = decide (x = y) := fun x y => by
                    show decide ((x : Int) = (y : Int)) = _
                    exact decide_eq_decide.mpr Int.ofNat_inj
                  have ev0 : eqV (.int 0) (.int (b : Int)) = decide (0 = b) := ev 0 b
                  simp only [inV, List.any_cons, List.any_nil, ev, ev0]
                  by_cases z0 : b = 0
                  · simp [z0]
                  · by_cases z1 : b = P
                    · subst z1; simp
                    · simp [z0, z1, Ne.symm z1, Ne.symm z0]
                rw [e4]
                exact propext ⟨fun z => z.2, fun z => ⟨by omega, z⟩⟩
          · rw [if_neg (fun z => h0 (by have := congrArg (fun s : Str => s.cps.toList) z; have e0 : (Str.ofString "0").cps.toList = [48] := by decide +kernel
                                        rw [e0] at this; simpa [sgn1] using this))]
            have e3 : pfxOf b (c0 :: r0) = none := by
              unfold pfxOf
              split
              · rename_i z; cases z; exact (h0 rfl).elim
              · rfl
            rw [e3]
            rfl
      rw [hkey]
      rw [hd1, hlt] at hK
      exact hK
    · walk_at "pr"
      obtain ⟨P, hP⟩ := Option.isSome_iff_exists.mp ht
      have hB : bsF b hz' (t.drop at_) = (2 + (if (t.drop at_).getD 2 0 = 95 then 1 else 0), P, hz') := by unfold bsF; rw [hP]
      rw [hB] at h
      obtain ⟨c1, r1, hl, hp⟩ : ∃ c1 r1, t.drop at_ = 48 :: c1 :: r1 ∧ pfx c1 = some P := by
        unfold pfxOf at hP
        split at hP
        · rename_i c1 r1 e
          cases hp : pfx c1 with
          | none => rw [hp] at hP; cases hP
          | some P' =>
            rw [hp] at hP
            simp only [] at hP
            split at hP
            · cases hP; exact ⟨c1, r1, e, hp⟩
            · cases hP
        · cases hP
      have hc1 : c1 < 128 := hasc c1 (List.mem_of_mem_drop (by rw [hl]; exact List.mem_cons_of_mem _ List.mem_cons_self))
      have e2 : sgn1 (List.drop (at_ + 1) t) = (⟨#[c1]⟩ : Str) := by rw [hd1, hl]; rfl
      rw [e2, pfx_look hc1, hp]
      simp only [insRd I.ob, fRd1, fRd2, fRd3, sRdK1, sRdK2, sRd2, sRd3]
      have I2 : RdIn (rdW w j jf t at_ P hz' fs) j jf t at_ P hz' fs := I.to
      have I3 : RdIn (rdW w j jf t (at_ + 2) P hz' fs) j jf t (at_ + 2) P hz' fs := I.to
      show 5 < 1000 ∧ insOb (w.putO j (Pu.Obj.ins 3 ["whole", "at", "base", "has_zeros_alone", "figures"] [.str ⟨t.toArray⟩, .int (at_ : Int), .int (P : Int), .bl hz', .ob jf])) j 3 _
      rw [I.putK rfl]
      refine ⟨by decide, ?_⟩
      rw [insRd I2.ob, fRd2]
      walk_at "pr"
      rw [insRd I2.ob]
      refine ⟨by decide, ?_⟩
      simp only [sRdK1, sRd2]
      rw [I2.putK (x := (at_ : Int) + 2) (at2 := at_ + 2) (by omega), I.go, insRd I3.ob, e_rd_over]
      refine ⟨rfl, t, at_ + 2, P, hz', jf, fs, _, I3, rfl, ?_⟩
      rw [I.go]
      have hd2 : t.drop (at_ + 2) = r1 := by rw [← List.drop_drop, hl]; rfl
      have e0 : (Str.ofString "_").cps.toList = [95] := by decide +kernel
      rw [hd2, e0]
      have e8 : (at_ + 2 + if hdIn r1 [95] = true then 1 else 0) = at_ + (2 + if (t.drop at_).getD 2 0 = 95 then 1 else 0) := by
        rw [hl, Nat.add_assoc]
        cases r1 with
        | nil => rfl
        | cons c r => simp [hdIn]
      rw [e8]
      exact h
    · walk_at "pr"
      simp only [insRd I.ob, fRd3]
      have hP : pfxOf b (t.drop at_) = none := by cases hh : pfxOf b (t.drop at_) with | none => rfl | some _ => rw [hh] at hf; cases hf
      have hB : bsF b hz' (t.drop at_) = if b = 0 then (0, 10, decide ((t.drop at_).getD 0 0 = 48)) else (0, b, hz') := by unfold bsF; rw [hP]
      rw [hB] at h
      walk_at "pr"
      by_cases hb : b = 0
      · subst hb
        rw [if_pos rfl] at h
        rw [if_pos (by rfl)]
        simp only [sRdK2, sRd3]
        rw [insOb_is (putO_at I.ob)]
        have I2 : RdIn (rdW w j jf t at_ 10 hz' fs) j jf t at_ 10 hz' fs := I.to
        have e5 : w.putO j (Pu.Obj.ins 3 ["whole", "at", "base", "has_zeros_alone", "figures"] [.str ⟨t.toArray⟩, .int (at_ : Int), .int 10, .bl hz', .ob jf]) = rdW w j jf t at_ 10 hz' fs := I.putJ (b2 := 10)
        refine ⟨by decide, fRdM1, ?_⟩
        rw [e5]
        refine k_next I2 ?_
        walk_at "pr"
        simp only [insRd I2.ob, sRdK3, sRd4]
        refine ⟨by decide, ?_⟩
        have e6 : decide (sgn1 (List.drop at_ t) = Str.ofString "0") = decide ((t.drop at_).getD 0 0 = 48) := by
          refine decide_eq_decide.mpr ?_
          have e0 : (Str.ofString "0").cps.toList = [48] := by decide +kernel
          cases t.drop at_ with
          | nil => exact ⟨fun z => by have := congrArg (fun s : Str => s.cps.toList) z; rw [e0] at this; simp [sgn1] at this, fun z => by simp at z⟩
          | cons c r =>
            refine ⟨fun z => ?_, fun z => ?_⟩
            · have := congrArg (fun s : Str => s.cps.toList) z
              rw [e0] at this
              simpa [sgn1] using this
            · have : c = 48 := by simpa using z
              subst this
              rfl
        rw [e6]
        have e7 := I2.putK (x := at_) (at2 := at_) (b2 := 10) (hz2 := decide ((t.drop at_).getD 0 0 = 48)) rfl
        rw [I.go] at e7
        exact e7 ▸ h
      · rw [if_neg (by omega)]
        rw [if_neg hb] at h
        rw [show at_ + (0, b, hz').1 = at_ from rfl, I.self] at h
        exact h
  · exact h.elim
theorem b_rd_base {K : PySem.W.Frag} {c : Pc} {vs : List V} {H : Hp} {Q : VK} {E : XK} {α : Prop} (PM : PM K c) (PB : α) (KS3 : KsAt K c 3 ["whole", "at", "base", "has_zeros_alone", "figures"]) (h : sp_rd_base K c vs H Q E) : t_rd_base K c (en0 Q) (st0 2 vs) H := def_ok (sn_rd_base PM PB KS3) w_rd_base h
/-- the digits behind the first one -/
inductive LpR (B : Nat) (hz : Bool) : List Nat → List Nat → List Nat → Prop
  | nil {l : List Nat} (h1 : hdIn l [95] = false) (h2 : valC B hz l = none) : LpR B hz l [] l
  | und {l fs r : List Nat} {v : Nat} (h1 : valC B hz l = some v) (h2 : LpR B hz (l.drop 1) fs r) : LpR B hz (95 :: l) (v :: fs) r
  | fig {l fs r : List Nat} {v : Nat} (h0 : hdIn l [95] = false) (h1 : valC B hz l = some v) (h2 : LpR B hz (l.drop 1) fs r) : LpR B hz l (v :: fs) r
/-- what a text tells -/
structure RdT (b : Nat) (t : List Nat) (side : Int) (B : Nat) (hz : Bool) (fs : List Nat) : Prop where
  asc : ∀ c ∈ t, c < 128
  len : t.length ≤ 100000
  ok : ∃ (l0 l1 l2 fs2 rest : List Nat) (n v : Nat), t.drop (nB t) = l0 ∧ side = (if l0.getD 0 0 = 45 then -1 else 1) ∧ l1 = l0.drop (if hdIn l0 [43, 45] then 1 else 0) ∧ bsF b false l1 = (n, B, hz) ∧ l2 = l1.drop n ∧ valC B hz l2 = some v ∧ LpR B hz (l2.drop 1) fs2 rest ∧ nB rest = rest.length ∧ fs = v :: fs2
theorem sgn_is {l : List Nat} {c : Nat} {s : Str} (h : s.cps.toList = [c]) (hc : c ≠ 0) : (sgn1 l = s) ↔ l.getD 0 0 = c := by
  have hs : s = ⟨#[c]⟩ := by
    have : s.cps = #[c] := by rw [← Array.toArray_toList (xs := s.cps), h]
    cases s; cases this; rfl
  subst hs
  cases l with
  | nil => exact ⟨fun z => (by have := congrArg (fun s : Str => s.cps.toList) z; simp [sgn1] at this), fun z => (hc z.symm).elim⟩
  | cons d r =>
    refine ⟨fun z => ?_, fun z => ?_⟩
    · have := congrArg (fun s : Str => s.cps.toList) z
      simpa [sgn1] using this
    · have : d = c := by simpa using z
      subst this
      rfl
theorem valC_len {B : Nat} {hz : Bool} {l : List Nat} {v : Nat} (h : valC B hz l = some v) : 1 ≤ l.length := by
  cases l with
  | nil => cases h
  | cons _ _ => simp
theorem LpR.len {B : Nat} {hz : Bool} {l fs r : List Nat} (h : LpR B hz l fs r) : fs.length ≤ l.length := by
  induction h with
  | nil _ _ => simp
  | und h1 _ ih => have := valC_len h1; simp only [List.length_cons, List.length_drop] at ih ⊢; omega
  | fig _ h1 _ ih => have := valC_len h1; simp only [List.length_cons, List.length_drop] at ih ⊢; omega
def P_rd_read : PSp := fun ds w k => match ds with
  | [.ob j] => ∃ (t : List Nat) (b : Nat) (jf : Nat) (side : Int) (B : Nat) (hz : Bool) (fs : List Nat), RdIn w j jf t 0 b false [] ∧ RdT b t side B hz fs ∧ k (.int side) (rdW w j jf t t.length B hz fs)
  | _ => False
theorem n_rd_read : ∀ ds w k, P_rd_read ds w k → ds.length = 1 := fun ds w k h => by
  unfold P_rd_read at h
  split at h
  · rfl
  · exact h.elim
theorem e_rd_read {j : Nat} {w : Wld} {k : Dat → Wld → Prop} : P_rd_read [.ob j] w k = (∃ (t : List Nat) (b : Nat) (jf : Nat) (side : Int) (B : Nat) (hz : Bool) (fs : List Nat), RdIn w j jf t 0 b false [] ∧ RdT b t side B hz fs ∧ k (.int side) (rdW w j jf t t.length B hz fs)) := rfl
def sp_rd_read (K : PySem.W.Frag) (c : Pc) : Sp := lif K c P_rd_read
theorem u_rd_read {K : PySem.W.Frag} {c : Pc} : SndP K c (sp_rd_read K c) P_rd_read := SndP.lif
/-- 0:self 1:side -/
def t_rd_read (K : PySem.W.Frag) (c : Pc) : TS :=
  (tSeq (tDrop (tMeth (c.ks.getD 3 0) "skip_blanks" (sp_rd_skip K c) [] E0 (tVar 0) tNil))
  (tSeq (tAsg (tIf (tTest (tOp rEq (tMeth (c.ks.getD 3 0) "next_sign" (sp_rd_next K c) [] E0 (tVar 0) tNil) (tC (.str "-")))) (tUn rNeg (tC (.int 1))) (tC (.int 1))) (gName 1))
  (tSeq (tDrop (tMeth (c.ks.getD 3 0) "go_over" (sp_rd_over K c) [] E0 (tVar 0) (tCons (tC (.str "+-")) tNil)))
  (tSeq (tDrop (tMeth (c.ks.getD 3 0) "find_base" (sp_rd_base K c) [] E0 (tVar 0) tNil))
  (tSeq (tDrop (tMeth (c.ks.getD 3 0) "read_figure" (sp_rd_figure K c) [] E0 (tVar 0) tNil))
  (tSeq (tWhile (tOr (L2.tB (tMeth (c.ks.getD 3 0) "go_over" (sp_rd_over K c) [] E0 (tVar 0) (tCons (tC (.str "_")) tNil))) (L2.tB (tNotN (tMeth (c.ks.getD 3 0) "value_here" (sp_rd_value K c) [] E0 (tVar 0) tNil)))) (tDrop (tMeth (c.ks.getD 3 0) "read_figure" (sp_rd_figure K c) [] E0 (tVar 0) tNil)))
  (tSeq (tDrop (tMeth (c.ks.getD 3 0) "skip_blanks" (sp_rd_skip K c) [] E0 (tVar 0) tNil))
  (tSeq (tIfS (tTest (tOp rNe (tMeth (c.ks.getD 3 0) "next_sign" (sp_rd_next K c) [] E0 (tVar 0) tNil) (tC (.str "")))) tNever tNext)
  (tRet (tVar 1))))))))))
def c1_rd_read : PT :=
  (pOr (pTest (pMethO 3 "go_over" P_rd_over (pVar 0) (pCons (pC (.str "_")) pNil))) (pTest (pNotNV (pMethO 3 "value_here" P_rd_value (pVar 0) pNil))))
def p_rd_read : PS :=
  (pSeq (pDrop (pMethO 3 "skip_blanks" P_rd_skip (pVar 0) pNil))
  (pSeq (pAsg (pIf (pTest (pOp qEq (pMethO 3 "next_sign" P_rd_next (pVar 0) pNil) (pC (.str "-")))) (pUn qNeg (pC (.int 1))) (pC (.int 1))) 1)
  (pSeq (pDrop (pMethO 3 "go_over" P_rd_over (pVar 0) (pCons (pC (.str "+-")) pNil)))
  (pSeq (pDrop (pMethO 3 "find_base" P_rd_base (pVar 0) pNil))
  (pSeq (pDrop (pMethO 3 "read_figure" P_rd_figure (pVar 0) pNil))
  (pSeq (pWhile c1_rd_read (pDrop (pMethO 3 "read_figure" P_rd_figure (pVar 0) pNil)))
  (pSeq (pDrop (pMethO 3 "skip_blanks" P_rd_skip (pVar 0) pNil))
  (pSeq (pIfS (pTest (pOp qNe (pMethO 3 "next_sign" P_rd_next (pVar 0) pNil) (pC (.str "")))) pNever pNext)
  (pRet (pVar 1))))))))))
theorem sn_rd_read {K : PySem.W.Frag} {c : Pc} {α : Prop} (PM : PM K c) (PB : α) : SndS K c (t_rd_read K c) p_rd_read :=
  (snd_seq (snd_drop (snd_methO u_rd_skip snd_var snd_nil))
  (snd_seq (snd_asg (snd_if (snd_test (snd_op s_eq (snd_methO u_rd_next snd_var snd_nil) (snd_str "-"))) (snd_neg (snd_int 1)) (snd_int 1)))
  (snd_seq (snd_drop (snd_methO u_rd_over snd_var (snd_cons (snd_str "+-") snd_nil)))
  (snd_seq (snd_drop (snd_methO u_rd_base snd_var snd_nil))
  (snd_seq (snd_drop (snd_methO u_rd_figure snd_var snd_nil))
  (snd_seq (snd_while (snd_or (snd_tB (snd_methO u_rd_over snd_var (snd_cons (snd_str "_") snd_nil))) (snd_tB (snd_notNV (snd_methO u_rd_value snd_var snd_nil)))) (snd_drop (snd_methO u_rd_figure snd_var snd_nil)))
  (snd_seq (snd_drop (snd_methO u_rd_skip snd_var snd_nil))
  (snd_seq (snd_ifS (snd_test (snd_op s_ne (snd_methO u_rd_next snd_var snd_nil) (snd_str ""))) snd_never snd_next)
  (snd_ret snd_var)))))))))
theorem w_rd_read : ∀ ds w k, P_rd_read ds w k → p_rd_read (pen k) (env0 2 ds) w := by
  intro ds w k h
  unfold P_rd_read at h
  split at h
  · rename_i j
    obtain ⟨t, b, jf, side, B, hz', fs, I, ⟨hasc, htl, l0, l1, l2, fs2, rest, n, v, e0, eside, e1, ebs, e2, hv, hlp, hrest, hfs⟩, h⟩ := h
    have hsz := sizeLine_eq
    have hT : ∀ a b2 hz2 fs2, RdIn (rdW w j jf t a b2 hz2 fs2) j jf t a b2 hz2 fs2 := fun a b2 hz2 fs2 => I.to
    unfold p_rd_read
    walk_at "pr"
    simp only [insRd I.ob, fRdM2, e_rd_skip]
    refine ⟨trivial, t, 0, b, false, jf, [], I, ?_⟩
    simp only [insRd (hT _ _ _ _).ob, fRdM1]
    refine ⟨trivial, k_next (hT _ _ _ _) ?_⟩
    rw [Nat.zero_add, List.drop_zero, e0]
    walk_at "pr"
    have em : (Str.ofString "-").cps.toList = [45] := by decide +kernel
    have epm : (Str.ofString "+-").cps.toList = [43, 45] := by decide +kernel
    by_cases hm : sgn1 l0 = Str.ofString "-"
    all_goals
      first
        | rw [if_pos hm]; rw [if_pos ((sgn_is em (by decide)).mp hm)] at eside; rw [← eside]
        | rw [if_neg hm]; rw [if_neg (fun z => hm ((sgn_is em (by decide)).mpr z))] at eside; rw [← eside]
      simp only [insRd (hT _ _ _ _).ob, fRdM3, e_rd_over]
      refine ⟨trivial, t, nB t, b, false, jf, [], _, hT _ _ _ _, rfl, ?_⟩
      rw [I.go, e0, epm]
      simp only [insRd (hT _ _ _ _).ob, fRdM4, e_rd_base]
      have hl1 : t.drop (nB t + if hdIn l0 [43, 45] = true then 1 else 0) = l1 := by rw [← List.drop_drop, e0, e1]
      refine ⟨trivial, t, _, b, false, jf, [], hT _ _ _ _, hasc, ?_⟩
      rw [I.go, hl1, ebs]
      have hl2 : t.drop (nB t + (if hdIn l0 [43, 45] = true then 1 else 0) + n) = l2 := by rw [← List.drop_drop, hl1, e2]
      simp only [insRd (hT _ _ _ _).ob, fRdM6, e_rd_figure]
      refine ⟨trivial, t, _, B, hz', jf, [], v, hT _ _ _ _, hasc, by simp, by rw [hl2]; exact hv, ?_⟩
      rw [I.go]
      generalize hat : nB t + (if hdIn l0 [43, 45] = true then 1 else 0) + n = at2 at hl2 ⊢
      rw [List.nil_append]
      refine whl_ind (fun mm e w' => ∃ a fs1 fs3, w' = rdW w j jf t a B hz' fs1 ∧ LpR B hz' (t.drop a) fs3 rest ∧ mm = fs3.length ∧ fs1 ++ fs3 = fs ∧ e = [.val (.ob j), .val (.int side)] ∧ a ≤ t.length) fs2.length ⟨at2 + 1, [v], fs2, rfl, by rw [← List.drop_drop, hl2]; exact hlp, rfl, by rw [hfs]; rfl, rfl, by have := valC_len hv; rw [← hl2, List.length_drop] at this; omega⟩ ?_
      rintro mm e w' nx ⟨a, fs1, fs3, rfl, hL, rfl, hcat, rfl, hat3⟩ hn
      unfold c1_rd_read
      walk_at "pr"
      simp only [insRd (hT _ _ _ _).ob, fRdM3, e_rd_over]
      refine ⟨trivial, t, a, B, hz', jf, fs1, _, hT _ _ _ _, rfl, ?_⟩
      rw [I.go]
      have hf1 : fs1.length ≤ 100000 := by
        have h1 : fs1.length ≤ fs.length := by rw [← hcat, List.length_append]; omega
        have h2 := hlp.len
        have h3 := valC_len hv
        have h4 : l2.length ≤ t.length := by rw [← hl2, List.length_drop]; omega
        rw [hfs, List.length_cons] at h1
        rw [List.length_drop] at h2
        omega
      have eu : (Str.ofString "_").cps.toList = [95] := by decide +kernel
      rw [eu]
      generalize hla : t.drop a = la at hL
      cases hL with
      | nil h1 h2 =>
        rw [h1]
        walk_at "pr"
        unfold pNotNV
        walk_at "pr"
        simp only [insRd (hT _ _ _ _).ob, fRdM5, e_rd_value]
        refine ⟨trivial, t, a, B, hz', jf, fs1, hT _ _ _ _, hasc, ?_⟩
        rw [hla, h2]
        unfold vD
        walk_at "pr"
        simp only [insRd (hT _ _ _ _).ob, fRdM2, e_rd_skip]
        refine ⟨trivial, t, a, B, hz', jf, fs1, hT _ _ _ _, ?_⟩
        rw [I.go]
        simp only [insRd (hT _ _ _ _).ob, fRdM1]
        refine ⟨trivial, k_next (hT _ _ _ _) ?_⟩
        have hal : a + nB (t.drop a) = t.length := by
          rw [hla, hrest, ← hla, List.length_drop]; omega
        rw [hal, List.drop_length]
        walk_at "pr"
        rw [if_neg (by rw [sgn1_nil]; simp)]
        rw [List.append_nil] at hcat
        rw [hcat]
        exact h
      | @und l' fs' _ v' h1 h2 =>
        rw [show hdIn (95 :: l') [95] = true by simp [hdIn]]
        walk_at "pr"
        simp only [insRd (hT _ _ _ _).ob, fRdM6, e_rd_figure]
        have hla2 : t.drop (a + 1) = l' := by rw [← List.drop_drop, hla]; rfl
        refine ⟨trivial, t, _, B, hz', jf, fs1, v', hT _ _ _ _, hasc, hf1, by rw [hla2]; exact h1, ?_⟩
        rw [I.go]
        refine hn fs'.length _ _ (by simp) ⟨a + 1 + 1, fs1 ++ [v'], fs', rfl, by rw [← List.drop_drop, hla2]; exact h2, rfl, by rw [← hcat]; simp, rfl, by have := valC_len h1; rw [← hla2, List.length_drop] at this; omega⟩
      | @fig _ fs' _ v' h0 h1 h2 =>
        rw [h0]
        walk_at "pr"
        unfold pNotNV
        walk_at "pr"
        simp only [insRd (hT _ _ _ _).ob, fRdM5, e_rd_value]
        refine ⟨trivial, t, a, B, hz', jf, fs1, hT _ _ _ _, hasc, ?_⟩
        rw [hla, h1]
        unfold vD
        walk_at "pr"
        simp only [insRd (hT _ _ _ _).ob, fRdM6, e_rd_figure]
        refine ⟨trivial, t, a, B, hz', jf, fs1, v', hT _ _ _ _, hasc, hf1, by rw [hla]; exact h1, ?_⟩
        rw [I.go]
        have hll := valC_len h1
        rw [← hla, List.length_drop] at hll
        refine hn fs'.length _ _ (by simp) ⟨a + 1, fs1 ++ [v'], fs', rfl, by rw [← List.drop_drop, hla]; exact h2, rfl, by rw [← hcat]; simp, rfl, by omega⟩
  · exact h.elim
theorem b_rd_read {K : PySem.W.Frag} {c : Pc} {vs : List V} {H : Hp} {Q : VK} {E : XK} {α : Prop} (PM : PM K c) (PB : α) (h : sp_rd_read K c vs H Q E) : t_rd_read K c (en0 Q) (st0 2 vs) H := def_ok (sn_rd_read PM PB) w_rd_read h
/-- how far the digits of a shifted number are found: es, and what goes over -/
structure ShlS (b low : Nat) (xs es : List Nat) (r i : Nat) : Prop where
  len : es.length = i
  dig : Digs b es
  lt : r < 2 ^ low
  eq : val b es + 2 ^ (b * i) * r = 2 ^ low * val b (xs.take i)
theorem ShlS.zero (b low : Nat) (xs : List Nat) : ShlS b low xs [] 0 0 := ⟨rfl, (fun _ z => nomatch z), Nat.two_pow_pos _, by simp [val]⟩
theorem dN_zeros : ∀ k : Nat, (List.replicate k [Dat.int 0]).flatten = dN (List.replicate k 0)
  | 0 => rfl
  | k + 1 => by
    rw [List.replicate_succ, List.replicate_succ, List.flatten_cons, dN_zeros k]
    rfl
/-- how far the digits of a shifted number are found: es, and what goes over -/
structure ShrS (b hi r0 : Nat) (xs es : List Nat) (r i : Nat) : Prop where
  len : es.length = i
  dig : Digs b es
  lt : r < 2 ^ b
  eq : val b es + 2 ^ (b * i) * r = r0 + 2 ^ hi * val b (xs.take i)
theorem ShrS.zero {b hi r0 : Nat} {xs : List Nat} (h : r0 < 2 ^ b) : ShrS b hi r0 xs [] r0 0 := ⟨rfl, (fun _ z => nomatch z), h, by simp [val]⟩
/-- how far the digits of a sum are found: es, and what goes over -/
structure AddS (b : Nat) (xs ys es : List Nat) (c i : Nat) : Prop where
  len : es.length = i
  dig : Digs b es
  le : c ≤ 1
  eq : val b es + 2 ^ (b * i) * c = val b (xs.take i) + val b (ys.take i)
theorem AddS.zero (b : Nat) (xs ys : List Nat) : AddS b xs ys [] 0 0 := ⟨rfl, (fun _ z => nomatch z), Nat.zero_le _, by simp [val]⟩
structure SubS (b : Nat) (xs ys es : List Nat) (c i : Nat) : Prop where
  len : es.length = i
  dig : Digs b es
  le : c ≤ 1
  eq : val b es + val b (ys.take i) = val b (xs.take i) + 2 ^ (b * i) * c
theorem SubS.zero (b : Nat) (xs ys : List Nat) : SubS b xs ys [] 0 0 := ⟨rfl, (fun _ z => nomatch z), Nat.zero_le _, by simp [val]⟩
theorem LD.symm {ds es : List Nat} {p : Nat} (h : LD ds es p) (hl : ds.length = es.length) : LD es ds p := ⟨by rw [← hl]; exact h.le, fun i hi => (h.alike i hi).symm, by
  rcases h.differ with z | z
  · exact .inl z
  · exact .inr fun q => z q.symm⟩
def P_H : PSp := fun ds w k => match ds with
  | [.int x, .int lo, .int hi] => (lo ≤ x ∧ x ≤ hi) ∧ k (.bl true) w
  | _ => False
theorem u_H {K : PySem.W.Frag} {c : Pc} : SndP K c (sp_H K c) P_H := by
  intro g H w vs ds k Q E W r h hQ
  unfold P_H at h
  split at h
  · obtain ⟨v, v', v'', rfl, r1, r2, r3⟩ := three_arg r
    rw [r1.intI, r2.intI, r3.intI]
    exact u_between (E := E) h.1.1 h.1.2 (hQ _ _ g H w (Aft.refl _ _) W (.bl _) h.2)
  · exact h.elim
theorem e_H {x lo hi : Int} {w : Wld} {k : Dat → Wld → Prop} : P_H [.int x, .int lo, .int hi] w k = ((lo ≤ x ∧ x ≤ hi) ∧ k (.bl true) w) := rfl
/-- a row lifted by low bits: its digits, and what goes over -/
structure Lift (b low : Nat) (xs es : List Nat) (r : Nat) : Prop where
  len : es.length = xs.length
  dig : Digs b es
  lt : r < 2 ^ low
  eq : val b es + 2 ^ (b * xs.length) * r = 2 ^ low * val b xs
/-- how far a row is lowered -/
structure LowS (b low : Nat) (ys fs : List Nat) (r i : Nat) : Prop where
  len : fs.length = i
  dig : Digs b fs
  lt : r < 2 ^ low
  eq : 2 ^ low * val b fs.reverse + r = val b (ys.take i).reverse
theorem LowS.zero (b low : Nat) (ys : List Nat) : LowS b low ys [] 0 0 := ⟨rfl, (fun _ z => nomatch z), Nat.two_pow_pos _, by simp [val]⟩
local macro_rules | `(tactic| walk_at "pr") => `(tactic| (walk_at "pk"; repeat ((simp only [pInT, pIxD, pDisp1, pIfT, pRevLW, vw, eAddS, eMulS, eIxS, eStrI, eLenZ, eIntS, pInCs, pIxCs, eInS, pLower, pUpper, pFind, pSlS]); walk_at "pk")))
def P_t_bits : PSp := fun ds w k => match ds with
  | [.mach i, .ob j, .int base] => onM w i fun m => ∃ (fs : List Nat) (wd : Nat), w.os[j]? = some (.lst (dN fs)) ∧ (1 ≤ wd ∧ wd ≤ 5) ∧ base = ((2 ^ wd : Nat) : Int) ∧ (8 ≤ m.b ∧ m.b ≤ 30) ∧ (∀ d ∈ fs, d < 2 ^ wd) ∧ fs.length ≤ 3000 ∧ ∀ row : List Nat, Digs m.b row → val m.b row = vl (2 ^ wd) fs.reverse → row.length = (wd * fs.length + m.b - 1) / m.b → k (.lst (dN row)) (w.put i (m.cnt 6 (row.length : Int)))
  | _ => False
theorem n_t_bits : ∀ ds w k, P_t_bits ds w k → ds.length = 3 := fun ds w k h => by
  unfold P_t_bits at h
  split at h
  · rfl
  · exact h.elim
theorem e_t_bits {i j : Nat} {base : Int} {w : Wld} {k : Dat → Wld → Prop} : P_t_bits [.mach i, .ob j, .int base] w k = (onM w i fun m => ∃ (fs : List Nat) (wd : Nat), w.os[j]? = some (.lst (dN fs)) ∧ (1 ≤ wd ∧ wd ≤ 5) ∧ base = ((2 ^ wd : Nat) : Int) ∧ (8 ≤ m.b ∧ m.b ≤ 30) ∧ (∀ d ∈ fs, d < 2 ^ wd) ∧ fs.length ≤ 3000 ∧ ∀ row : List Nat, Digs m.b row → val m.b row = vl (2 ^ wd) fs.reverse → row.length = (wd * fs.length + m.b - 1) / m.b → k (.lst (dN row)) (w.put i (m.cnt 6 (row.length : Int)))) := rfl
def sp_t_bits (K : PySem.W.Frag) (c : Pc) : Sp := lif K c P_t_bits
theorem u_t_bits {K : PySem.W.Frag} {c : Pc} : SndP K c (sp_t_bits K c) P_t_bits := SndP.lif
/-- 0:machine 1:figures 2:base 3:row 4:held 5:many 6:value -/
def t_t_bits (K : PySem.W.Frag) (c : Pc) : TS :=
  (tSeq (tPar3 3 4 5 (tCons (tLst tNil) (tCons (tC (.int 0)) (tCons (tC (.int 0)) tNil))))
  (tSeq (tFor (iList K (tRevL K (tVar 1))) (gName 6) (tSeq (tPar 4 5 (tCons (tOp rOr (tVar 4) (tOp rShl (tVar 6) (tVar 5))) (tCons (tOp rAdd (tVar 5) (tIxD [(2, 1), (4, 2), (8, 3), (16, 4), (32, 5)] (tVar 2))) tNil)))
  (tIfS (tTest (tOp rGe (tVar 5) (tFld K (tVar 0) "width"))) (tSeq (tDrop (tBM K "list" rAppend (tVar 3) (tCons (tOp rMod (tVar 4) (tFld K (tVar 0) "base")) tNil)))
  (tPar 4 5 (tCons (tOp rShr (tVar 4) (tFld K (tVar 0) "width")) (tCons (tOp rSub (tVar 5) (tFld K (tVar 0) "width")) tNil)))) tNext)))
  (tSeq (tIfS (tTest (tOp rGt (tVar 5) (tC (.int 0)))) (tDrop (tBM K "list" rAppend (tVar 3) (tCons (tVar 4) tNil))) tNext)
  (tSeq (tDrop (tMeth c.CMachine "count" (sp_D K c) [] E0 (tVar 0) (tCons (tC (.str "shifted")) (tCons (tCB (rLen K) (tCons (tVar 3) tNil)) tNil))))
  (tRet (tVar 3))))))
def b1_t_bits : PS :=
  (pSeq (pPar [4, 5] (pCons (pOp qOr (pVar 4) (pOp qShl (pVar 6) (pVar 5))) (pCons (pOp qAdd (pVar 5) (pIxD [(2 , 1), (4 , 2), (8 , 3), (16 , 4), (32 , 5)] (pVar 2))) pNil)))
  (pIfS (pTest (pOp qGe (pVar 5) (pWidthM (pVar 0)))) (pSeq (pAppend 3 (pOp qMod (pVar 4) (pBase (pVar 0))))
  (pPar [4, 5] (pCons (pOp qShr (pVar 4) (pWidthM (pVar 0))) (pCons (pOp qSub (pVar 5) (pWidthM (pVar 0))) pNil)))) pNext))
def p_t_bits : PS :=
  (pSeq (pParO 3 [4, 5] (pLst pNil) (pCons (pC (.int 0)) (pCons (pC (.int 0)) pNil)))
  (pSeq (pFor (pIL (pFz (pRevLW (pVar 1)))) (pgName 6) b1_t_bits)
  (pSeq (pIfS (pTest (pOp qGt (pVar 5) (pC (.int 0)))) (pAppend 3 (pVar 4)) pNext)
  (pSeq (pDrop (pMethM P_D (pVar 0) (pCons (pC (.str "shifted")) (pCons (pCBO qLen 3) pNil))))
  (pFrz [3] (pRet (pVar 3)))))))
theorem sn_t_bits {K : PySem.W.Frag} {c : Pc} {α : Prop} (PM : PM K c) (PB : α) : SndS K c (t_t_bits K c) p_t_bits :=
  (snd_seq (snd_par3O (snd_lst snd_nil) (snd_cons (snd_int 0) (snd_cons (snd_int 0) snd_nil)))
  (snd_seq (snd_for (snd_iList (snd_fz (snd_revLW snd_var))) snd_gName (snd_seq (snd_par (snd_cons (snd_op s_or snd_var (snd_op s_shl snd_var snd_var)) (snd_cons (snd_op s_add snd_var (snd_ixD snd_var)) snd_nil)))
  (snd_ifS (snd_test (snd_op s_ge snd_var (snd_widthM PM snd_var))) (snd_seq (snd_append (snd_op s_mod snd_var (snd_base PM snd_var)))
  (snd_par (snd_cons (snd_op s_shr snd_var (snd_widthM PM snd_var)) (snd_cons (snd_op s_sub snd_var (snd_widthM PM snd_var)) snd_nil)))) snd_next)))
  (snd_seq (snd_ifS (snd_test (snd_op s_gt snd_var (snd_int 0))) (snd_append snd_var) snd_next)
  (snd_seq (snd_drop (snd_methM (by decide) u_D snd_var (snd_cons (snd_str "shifted") (snd_cons (snd_cbO s_len) snd_nil))))
  (snd_frz (snd_ret snd_var))))))
theorem w_t_bits : ∀ ds w k, P_t_bits ds w k → p_t_bits (pen k) (env0 7 ds) w := by
  intro ds w k h
  unfold P_t_bits at h
  split at h
  · rename_i i j base
    replace h := onM_of h
    obtain ⟨m, hm, fs, wd, hfs, hwd, rfl, hb, hdg, hlen, h⟩ := h
    have hz := sizeLine_eq
    unfold p_t_bits
    walk_at "pr"
    rw [lsAt_is hfs]
    refine ⟨?_, lp_ind (fun p e w' => w' = w ∧ ∃ (row : List Nat) (held many : Nat) (y6 : Slot), Digs m.b row ∧ held < 2 ^ many ∧ many < m.b ∧ wd * p = m.b * row.length + many ∧ val m.b row + 2 ^ (m.b * row.length) * held = vl (2 ^ wd) (fs.reverse.take p) ∧ e = [.val (.mach i), .val (.ob j), .val (.int ((2 ^ wd : Nat) : Int)), .own true (dN row), .val (.int (held : Int)), .val (.int (many : Int)), y6]) ⟨rfl, [], 0, 0, .no, by simp [Digs], by simp, by omega, by simp, by simp [val, vl], rfl⟩ ?_ ?_⟩
    · omega
    · rintro p d e w' nx hd' ⟨rfl, row, held, many, y6, hD, hh, hmy, hct, hval, rfl⟩ hn
      have hrv : (dN fs).reverse = dN fs.reverse := (List.map_reverse ..).symm
      rw [hrv] at hd'
      obtain ⟨v, hv, rfl⟩ : ∃ v, fs.reverse[p]? = some v ∧ d = .int (v : Int) := by
        unfold dN at hd'
        rw [List.getElem?_map] at hd'
        cases hx : fs.reverse[p]? with
        | none => rw [hx] at hd'; cases hd'
        | some v => rw [hx] at hd'; cases hd'; exact ⟨v, rfl, rfl⟩
      have hv2 : v < 2 ^ wd := hdg v (List.mem_reverse.mp (List.mem_of_getElem? hv))
      have hpl : p < fs.length := by have := (List.getElem?_eq_some_iff.mp hv).1; rwa [List.length_reverse] at this
      have hlk : List.lookup ((2 ^ wd : Nat) : Int) [((2 : Int), (1 : Int)), (4, 2), (8, 3), (16, 4), (32, 5)] = some (wd : Int) := by
        obtain ⟨h1, h2⟩ := hwd
        rcases (show wd = 1 ∨ wd = 2 ∨ wd = 3 ∨ wd = 4 ∨ wd = 5 by omega) with rfl | rfl | rfl | rfl | rfl <;> rfl
      unfold b1_t_bits
      walk_at "pr"
      rw [hlk, eShl]
      refine ⟨shl_ok (n := wd) (by rw [Int.natAbs_natCast]; exact hv2) (by omega), ?_⟩
      rw [eOr, Int.toNat_natCast]
      have hor : Builtin.bitOr (held : Int) ((v : Int) * 2 ^ many) = ((held + v * 2 ^ many : Nat) : Int) := by
        rw [or_high (by omega) (by have := hh; rw [show ((2 : Int) ^ many) = ((2 ^ many : Nat) : Int) by rw [Int.natCast_pow]; rfl]; omega) (by omega)]
        rw [Int.natCast_add, Int.natCast_mul, Int.natCast_pow]; rfl
      rw [hor]
      generalize hH : held + v * 2 ^ many = H
      have hH2 : H < 2 ^ (many + wd) := by
        rw [← hH, Nat.pow_add]
        have h6 : v * 2 ^ many + 2 ^ many ≤ 2 ^ wd * 2 ^ many := by
          rw [← Nat.succ_mul]; exact Nat.mul_le_mul_right _ hv2
        rw [Nat.mul_comm (2 ^ many)]; omega
      have hV : val m.b row + 2 ^ (m.b * row.length) * H = vl (2 ^ wd) (fs.reverse.take (p + 1)) := by
        have ht : fs.reverse.take (p + 1) = fs.reverse.take p ++ [v] := by rw [List.take_add_one, hv]; rfl
        rw [ht, vl_app, ← hval, List.length_take, List.length_reverse, Nat.min_eq_left (by omega), ← hH, Nat.mul_add, Nat.add_assoc]
        congr 2
        show _ = (2 ^ wd) ^ p * (v + 2 ^ wd * 0)
        rw [Nat.mul_zero, Nat.add_zero, ← Nat.pow_mul, hct, Nat.pow_add, Nat.mul_comm v, Nat.mul_assoc]
      walk_at "pr"
      have hrl : row.length ≤ 15000 := by
        have h1 : wd * p ≤ 5 * 3000 := Nat.mul_le_mul hwd.2 (by omega)
        have h2 : 1 * row.length ≤ m.b * row.length := Nat.mul_le_mul_right _ (by omega)
        omega
      simp only [onM_is hm]
      refine ite_2 (fun c => ?_) fun c => ?_
      · have hp2 : 0 < 2 ^ m.b := Nat.two_pow_pos _
        have e1 : (H : Int) % (2 : Int) ^ m.b = ((H % 2 ^ m.b : Nat) : Int) := by rw [Int.natCast_emod, Int.natCast_pow]; rfl
        have e2 : (H : Int) / 2 ^ ((m.b : Int)).toNat = ((H / 2 ^ m.b : Nat) : Int) := by
          rw [Int.toNat_natCast, Int.natCast_ediv, Int.natCast_pow]; rfl
        have e3 : (many : Int) + (wd : Int) - (m.b : Int) = ((many + wd - m.b : Nat) : Int) := by omega
        rw [e1, e2, e3, dN_one, dN_app, dN_len]
        refine ⟨Int.pow_pos (by decide), by omega, by omega, hn _ _ ⟨rfl, row ++ [H % 2 ^ m.b], H / 2 ^ m.b, many + wd - m.b, _, ?_, ?_, by omega, ?_, ?_, rfl⟩⟩
        · intro d hd
          rcases List.mem_append.mp hd with hd | hd
          · exact hD d hd
          · rw [List.mem_singleton.mp hd]; exact Nat.mod_lt _ hp2
        · refine Nat.div_lt_of_lt_mul ?_
          rw [← Nat.pow_add, show m.b + (many + wd - m.b) = many + wd by omega]; exact hH2
        · rw [List.length_append, List.length_singleton, Nat.mul_add m.b, Nat.mul_one, Nat.mul_succ]; omega
        · rw [← hV, val_app, List.length_append, List.length_singleton, Nat.mul_add m.b, Nat.mul_one, Nat.pow_add, Nat.add_assoc]
          congr 1
          show 2 ^ (m.b * row.length) * (H % 2 ^ m.b + 2 ^ m.b * 0) + _ = _
          rw [Nat.mul_zero, Nat.add_zero, Nat.mul_assoc, ← Nat.mul_add, Nat.mod_add_div]
      · refine hn _ _ ⟨rfl, row, H, many + wd, _, hD, hH2, by omega, by rw [Nat.mul_succ]; omega, hV, by rw [Int.natCast_add]⟩
    · rintro e w' ⟨rfl, row, held, many, y6, hD, hh, hmy, hct, hval, rfl⟩
      walk_at "pr"
      rw [List.length_reverse, dN_len] at hct hval
      rw [List.take_of_length_le (by rw [List.length_reverse]; omega)] at hval
      simp only [onM_is hm]
      refine ite_2 (fun c => ?_) fun c => ?_
      · have hrl : row.length ≤ 15000 := by
          have h1 : wd * fs.length ≤ 5 * 3000 := Nat.mul_le_mul hwd.2 (by omega)
          have h2 : 1 * row.length ≤ m.b * row.length := Nat.mul_le_mul_right _ (by omega)
          omega
        rw [dN_one, dN_app, dN_len, dN_len]
        refine ⟨by omega, h (row ++ [held]) ?_ ?_ ?_⟩
        · intro d hd
          rcases List.mem_append.mp hd with hd | hd
          · exact hD d hd
          · rw [List.mem_singleton.mp hd]; exact Nat.lt_of_lt_of_le hh (Nat.pow_le_pow_right (by decide) (by omega))
        · rw [val_app, ← hval]; rfl
        · rw [List.length_append, List.length_singleton, hct, Nat.add_assoc, Nat.add_sub_assoc (by omega), Nat.mul_add_div (by omega)]
          congr 1
          rw [show many + m.b - 1 = m.b + (many - 1) by omega, Nat.add_div_left _ (by omega), Nat.div_eq_of_lt (by omega)]
      · have hm0 : many = 0 := by omega
        subst hm0
        have hh0 : held = 0 := by simpa using hh
        subst hh0
        rw [dN_len]
        refine h row hD (by rw [← hval]; simp) ?_
        rw [hct, Nat.add_zero, Nat.add_sub_assoc (by omega), Nat.mul_add_div (by omega)]
        rw [Nat.div_eq_of_lt (by omega)]; rfl
  · exact h.elim
theorem b_t_bits {K : PySem.W.Frag} {c : Pc} {vs : List V} {H : Hp} {Q : VK} {E : XK} {α : Prop} (PM : PM K c) (PB : α) (h : sp_t_bits K c vs H Q E) : t_t_bits K c (en0 Q) (st0 7 vs) H := def_ok (sn_t_bits PM PB) w_t_bits h
theorem rgc_st {x y : Nat} (h1 : 1 ≤ x) (lx : x ≤ 2 ^ 20) (ly : y ≤ 2 ^ 20) : RgC 0 (y : Int) (x : Int) ((y + x - 1) / x) := by
  have e2 : Builtin.Range.rangeSize 0 (y : Int) (x : Int) = ((y + x - 1) / x : Nat) := by
    unfold Builtin.Range.rangeSize
    rw [if_pos (by omega)]
    by_cases c : y = 0
    · subst c
      rw [if_neg (by decide), Nat.div_eq_of_lt (by omega)]; rfl
    · rw [if_pos (by omega), show y + x - 1 = (y - 1) + x by omega, Nat.add_div_right _ (by omega), Int.natCast_add, Int.natCast_ediv]
      congr 1
      congr 1
      omega
  refine ⟨by omega, by omega, ?_, e2⟩
  have h2 := Nat.div_le_self (y + x - 1) x
  unfold Builtin.Range.small
  rw [e2]
  generalize (y + x - 1) / x = n at h2
  rw [if_pos (show (x : Int) > 0 by omega)]
  unfold Builtin.Range.rangeFitsLong
  simp only [Bool.and_eq_true, Bool.or_eq_true, decide_eq_true_eq]
  refine ⟨⟨⟨⟨?_, ?_⟩, ?_⟩, ?_⟩, .inr ?_⟩ <;> omega
/-- a slice of a row -/
theorem cut_st {ys : List Nat} {S n : Nat} (h : S ≤ ys.length) : cutD (dN ys) (some (S : Int)) (some ((S + n : Nat) : Int)) = dN ((ys.drop S).take n) := by
  unfold cutD
  rw [HT.sIx_nat, HT.sIx_nat, dN_len]
  unfold dN
  rw [← List.map_drop, ← List.map_take, Nat.min_eq_left h]
  congr 1
  rw [List.take_eq_take_iff, List.length_drop]
  omega
theorem strip_full : ∀ {ds : List Nat}, ds.length ≤ (strip ds).length → strip ds = ds
  | [], _ => rfl
  | d :: ds, h => by
    rw [strip_cons] at h ⊢
    by_cases c : strip ds = []
    · rw [if_pos c] at h ⊢
      by_cases c2 : d = 0
      · rw [if_pos c2] at h; simp at h
      · rw [if_neg c2] at h ⊢
        simp at h
        rw [h]
    · rw [if_neg c] at h ⊢
      rw [strip_full (by simpa using h)]
theorem digs_mad {b V f c c' : Nat} {out : List Nat} (hb : b ≠ 0) (hf : 1 ≤ f) (hl : out.length = (digs b V).length) (hD : Digs b out) (hv : val b out + 2 ^ (b * out.length) * c' = f * V + c) (hc : c' < 2 ^ b) : (if 0 < c' then out ++ [c'] else out) = digs b (f * V + c) := by
  by_cases h0 : 0 < c'
  · rw [if_pos h0]
    have h1 : Digs b (out ++ [c']) := fun d hd => by
      rcases List.mem_append.mp hd with hd | hd
      · exact hD d hd
      · rw [List.mem_singleton.mp hd]; exact hc
    have h2 : Norm (out ++ [c']) := strip_app_ne out (by omega)
    have h3 : val b (out ++ [c']) = f * V + c := by rw [val_app, ← hv]; rfl
    rw [← h3, digs_val hb h1 h2]
  · rw [if_neg h0]
    have : c' = 0 := by omega
    subst this
    rw [Nat.mul_zero, Nat.add_zero] at hv
    have h1 : digs b (f * V + c) = strip out := by
      rw [← hv, ← val_strip]
      exact digs_val hb (fun d hd => hD d (strip_mem hd)) (strip_norm out)
    have h2 : out.length ≤ (strip out).length := by
      rw [hl, ← h1]
      refine digs_length_le hb _ ?_
      have h3 := val_lt (digs_lt hb (f * V + c))
      rw [val_digs hb] at h3
      exact Nat.lt_of_le_of_lt (Nat.le_trans (Nat.le_mul_of_pos_left V hf) (Nat.le_add_right _ _)) h3
    rw [h1, strip_full h2]
theorem vl_rev_snoc (R : Nat) (l : List Nat) (v : Nat) : vl R (l ++ [v]).reverse = v + R * vl R l.reverse := by
  rw [List.reverse_append]; rfl
/-- how often a digit is changed for figures in the base R, s at a time -/
def stepsR (b R s : Nat) (fs : List Nat) : Nat := ((List.range ((fs.length + s - 1) / s)).map fun t => (digs b (vl R (fs.take (s * t)).reverse)).length).sum
def P_t_groups : PSp := fun ds w k => match ds with
  | [.mach i, .ob j, .int base] => onM w i fun m => ∃ (fs : List Nat) (R : Nat), w.os[j]? = some (.lst (dN fs)) ∧ base = (R : Int) ∧ (2 ≤ R ∧ R ≤ 36) ∧ (8 ≤ m.b ∧ m.b ≤ 30) ∧ (∀ d ∈ fs, d < R) ∧ fs.length ≤ 3000 ∧ ∀ s : Nat, 1 ≤ s → s ≤ 30 → R ^ s ≤ 2 ^ m.b → 2 ^ m.b < R ^ s * R → k (.lst (dN (digs m.b (vl R fs.reverse)))) (w.put i (m.cnt 2 ((stepsR m.b R s fs : Nat) : Int)))
  | _ => False
theorem n_t_groups : ∀ ds w k, P_t_groups ds w k → ds.length = 3 := fun ds w k h => by
  unfold P_t_groups at h
  split at h
  · rfl
  · exact h.elim
theorem e_t_groups {i j : Nat} {base : Int} {w : Wld} {k : Dat → Wld → Prop} : P_t_groups [.mach i, .ob j, .int base] w k = (onM w i fun m => ∃ (fs : List Nat) (R : Nat), w.os[j]? = some (.lst (dN fs)) ∧ base = (R : Int) ∧ (2 ≤ R ∧ R ≤ 36) ∧ (8 ≤ m.b ∧ m.b ≤ 30) ∧ (∀ d ∈ fs, d < R) ∧ fs.length ≤ 3000 ∧ ∀ s : Nat, 1 ≤ s → s ≤ 30 → R ^ s ≤ 2 ^ m.b → 2 ^ m.b < R ^ s * R → k (.lst (dN (digs m.b (vl R fs.reverse)))) (w.put i (m.cnt 2 ((stepsR m.b R s fs : Nat) : Int)))) := rfl
def sp_t_groups (K : PySem.W.Frag) (c : Pc) : Sp := lif K c P_t_groups
theorem u_t_groups {K : PySem.W.Frag} {c : Pc} : SndP K c (sp_t_groups K c) P_t_groups := SndP.lif
/-- 0:machine 1:figures 2:base 3:size 4:power 5:row 6:steps 7:start 8:carry 9:factor 10:value 11:place -/
def t_t_groups (K : PySem.W.Frag) (c : Pc) : TS :=
  (tSeq (tAsg (tCall (sp_p_group K c) [] E0 (tCons (tVar 0) (tCons (tVar 2) tNil))) (gTup K 2 (gCons (gName 3) (gCons (gName 4) gNil))))
  (tSeq (tPar 5 6 (tCons (tLst tNil) (tCons (tC (.int 0)) tNil)))
  (tSeq (tFor (iRng3 (tCons (tC (.int 0)) (tCons (tCB (rLen K) (tCons (tVar 1) tNil)) (tCons (tVar 3) tNil)))) (gName 7) (tSeq (tAsg (tTup (tCons (tC (.int 0)) (tCons (tC (.int 1)) tNil))) (gTup K 2 (gCons (gName 8) (gCons (gName 9) gNil))))
  (tSeq (tFor (iList K (tSl (rSlL K) (tVar 1) (tPart (tVar 7)) (tPart (tOp rAdd (tVar 7) (tVar 3))))) (gName 10) (tPar 8 9 (tCons (tOp rAdd (tOp rMul (tVar 8) (tVar 2)) (tVar 10)) (tCons (tOp rMul (tVar 9) (tVar 2)) tNil))))
  (tSeq (tAsg (tOp rAdd (tVar 6) (tCB (rLen K) (tCons (tVar 5) tNil))) (gName 6))
  (tSeq (tFor (iRng1 (tCons (tCB (rLen K) (tCons (tVar 5) tNil)) tNil)) (gName 11) (tSeq (tAsg (tOp rAdd (tOp rMul (tOp (rIxL K) (tVar 5) (tVar 11)) (tVar 9)) (tVar 8)) (gName 8))
  (tSeq (tAsg (tOp rMod (tVar 8) (tFld K (tVar 0) "base")) (gSub (tVar 5) (tVar 11) rSetL))
  (tAsg (tOp rShr (tVar 8) (tFld K (tVar 0) "width")) (gName 8)))))
  (tIfS (tTest (tOp rGt (tVar 8) (tC (.int 0)))) (tDrop (tBM K "list" rAppend (tVar 5) (tCons (tVar 8) tNil))) tNext))))))
  (tSeq (tDrop (tMeth c.CMachine "count" (sp_D K c) [] E0 (tVar 0) (tCons (tC (.str "product")) (tCons (tVar 6) tNil))))
  (tRet (tVar 5))))))
def b1_t_groups : PS :=
  (pPar [8, 9] (pCons (pOp qAdd (pOp qMul (pVar 8) (pVar 2)) (pVar 10)) (pCons (pOp qMul (pVar 9) (pVar 2)) pNil)))
def b2_t_groups : PS :=
  (pSeq (pAsg (pOp qAdd (pOp qMul (pOpO qIxL 5 (pVar 11)) (pVar 9)) (pVar 8)) 8)
  (pSeq (pSetI 5 (pVar 11) (pOp qMod (pVar 8) (pBase (pVar 0))))
  (pAsg (pOp qShr (pVar 8) (pWidthM (pVar 0))) 8)))
def b3_t_groups : PS :=
  (pSeq (pAsgG (pTup (pCons (pC (.int 0)) (pCons (pC (.int 1)) pNil))) (pgTup [8, 9]))
  (pSeq (pFor (pIL (pFz (pSlW (pVar 1) (pPart (pVar 7)) (pPart (pOp qAdd (pVar 7) (pVar 3)))))) (pgName 10) b1_t_groups)
  (pSeq (pAsg (pOp qAdd (pVar 6) (pCBO qLen 5)) 6)
  (pSeq (pFor (pIR1 (pCBO qLen 5)) (pgName 11) b2_t_groups)
  (pIfS (pTest (pOp qGt (pVar 8) (pC (.int 0)))) (pAppend 5 (pVar 8)) pNext)))))
def p_t_groups : PS :=
  (pSeq (pAsgG (pCall P_p_group (pCons (pVar 0) (pCons (pVar 2) pNil))) (pgTup [3, 4]))
  (pSeq (pParO 5 [6] (pLst pNil) (pCons (pC (.int 0)) pNil))
  (pSeq (pFor (pIR3 (pC (.int 0)) (pCBW qLen (pCons (pVar 1) pNil)) (pVar 3)) (pgName 7) b3_t_groups)
  (pSeq (pDrop (pMethM P_D (pVar 0) (pCons (pC (.str "product")) (pCons (pVar 6) pNil))))
  (pFrz [5] (pRet (pVar 5)))))))
theorem sn_t_groups {K : PySem.W.Frag} {c : Pc} {α : Prop} (PM : PM K c) (PB : α) : SndS K c (t_t_groups K c) p_t_groups :=
  (snd_seq (snd_asgG (snd_call u_p_group (snd_cons snd_var (snd_cons snd_var snd_nil))) (snd_gTup (is := [3, 4]) rfl))
  (snd_seq (snd_parO (snd_lst snd_nil) (snd_cons (snd_int 0) snd_nil))
  (snd_seq (snd_for (snd_iR3 (snd_int 0) (snd_cbW s_len (snd_cons snd_var snd_nil)) snd_var) snd_gName (snd_seq (snd_asgG (snd_tup (snd_cons (snd_int 0) (snd_cons (snd_int 1) snd_nil))) (snd_gTup (is := [8, 9]) rfl))
  (snd_seq (snd_for (snd_iList (snd_fz (snd_slW snd_var (snd_part snd_var) (snd_part (snd_op s_add snd_var snd_var))))) snd_gName (snd_par (snd_cons (snd_op s_add (snd_op s_mul snd_var snd_var) snd_var) (snd_cons (snd_op s_mul snd_var snd_var) snd_nil))))
  (snd_seq (snd_asg (snd_op s_add snd_var (snd_cbO s_len)))
  (snd_seq (snd_for (snd_iR1 (snd_cbO s_len)) snd_gName (snd_seq (snd_asg (snd_op s_add (snd_op s_mul (snd_opO s_ixL snd_var) snd_var) snd_var))
  (snd_seq (snd_setI snd_var (snd_op s_mod snd_var (snd_base PM snd_var)))
  (snd_asg (snd_op s_shr snd_var (snd_widthM PM snd_var))))))
  (snd_ifS (snd_test (snd_op s_gt snd_var (snd_int 0))) (snd_append snd_var) snd_next))))))
  (snd_seq (snd_drop (snd_methM (by decide) u_D snd_var (snd_cons (snd_str "product") (snd_cons snd_var snd_nil))))
  (snd_frz (snd_ret snd_var))))))
theorem w_t_groups : ∀ ds w k, P_t_groups ds w k → p_t_groups (pen k) (env0 12 ds) w := by
  intro ds w k h
  unfold P_t_groups at h
  split at h
  · rename_i i j base
    replace h := onM_of h
    obtain ⟨m, hm, fs, R, hfs, rfl, hR, hb, hdg, hlen, h⟩ := h
    have hz := sizeLine_eq
    have h28 : (2 : Nat) ^ 8 ≤ 2 ^ m.b := Nat.pow_le_pow_right (by decide) hb.1
    have h230 : (2 : Nat) ^ m.b ≤ 2 ^ 30 := Nat.pow_le_pow_right (by decide) hb.2
    unfold p_t_groups
    walk_at "pr"
    rw [e_p_group]
    rw [onM_is hm]
    refine ⟨R, rfl, hR.1, hR.2, by omega, hb.2, fun s hs1 hs30 hs2 hs3 => ?_⟩
    replace h := h s hs1 hs30 hs2 hs3
    walk_at "pr"
    rw [lsAt_is hfs]
    walk_at "pr"
    rw [dN_len]
    have hP1 : R ^ s ≤ 2 ^ 30 := by omega
    refine ⟨by omega, (fs.length + s - 1) / s, rgc_st (x := s) (y := fs.length) hs1 (by omega) (by omega), ?_⟩
    refine lp_ind (fun q e w' => w' = w ∧ ∃ (y7 y8 y9 y10 y11 : Slot), e = [.val (.mach i), .val (.ob j), .val (.int (R : Int)), .val (.int (s : Int)), .val (.int ((R ^ s : Nat) : Int)), .own true (dN (digs m.b (vl R (fs.take (s * q)).reverse))), .val (.int (((List.range q).map fun t => (digs m.b (vl R (fs.take (s * t)).reverse)).length).sum : Nat)), y7, y8, y9, y10, y11]) ⟨rfl, .no, .no, .no, .no, .no, ?_⟩ ?_ ?_
    · rw [Nat.mul_zero, List.take_zero]
      show _ = [_, _, _, _, _, Slot.own true (dN (digs m.b 0)), _, _, _, _, _, _]
      rw [digs_zero]
      rfl
    · rintro q d e w' nx hd' ⟨rfl, y7, y8, y9, y10, y11, rfl⟩ hn
      obtain ⟨hq, rfl⟩ := rngC_get hd'
      unfold b3_t_groups
      walk_at "pr"
      rw [lsAt_is hfs]
      walk_at "pr"
      have hsq : s * q < fs.length := by
        have h1 : s * (q + 1) ≤ fs.length + s - 1 := by
          have := Nat.mul_le_mul_left s (show q + 1 ≤ (fs.length + s - 1) / s from hq)
          exact Nat.le_trans this (Nat.mul_div_le _ _)
        rw [Nat.mul_succ] at h1
        omega
      have e1 : (0 : Int) + (q : Int) * (s : Int) = ((s * q : Nat) : Int) := by rw [Int.zero_add, Int.natCast_mul, Int.mul_comm]
      have e2 : ((s * q : Nat) : Int) + (s : Int) = ((s * q + s : Nat) : Int) := by omega
      rw [e1, e2, cut_st (by omega)]
      generalize hch : (fs.drop (s * q)).take s = ch
      have hchl : ch.length ≤ s := by rw [← hch, List.length_take]; omega
      have htk : fs.take (s * (q + 1)) = fs.take (s * q) ++ ch := by rw [← hch, Nat.mul_succ, List.take_add]
      have hchR : ∀ d ∈ ch, d < R := fun d hd => hdg d (List.mem_of_mem_drop (List.mem_of_mem_take (by rw [hch]; exact hd)))
      have hRp : ∀ p, p ≤ s → R ^ p ≤ 2 ^ 30 := fun p hp => Nat.le_trans (Nat.pow_le_pow_right (by omega) hp) hP1
      have hvc : ∀ p, vl R (ch.take p).reverse < R ^ (ch.take p).length := fun p => by
        have := vl_lt (r := R) (l := (ch.take p).reverse) fun d hd => hchR d (List.mem_of_mem_take (List.mem_reverse.mp hd))
        rwa [List.length_reverse] at this
      refine ⟨by omega, lp_ind (fun p e w'' => w'' = w' ∧ p ≤ ch.length ∧ ∃ y10, e = [.val (.mach i), .val (.ob j), .val (.int (R : Int)), .val (.int (s : Int)), .val (.int ((R ^ s : Nat) : Int)), .own true (dN (digs m.b (vl R (fs.take (s * q)).reverse))), .val (.int (((List.range q).map fun t => (digs m.b (vl R (fs.take (s * t)).reverse)).length).sum : Nat)), .val (.int ((s * q : Nat) : Int)), .val (.int ((vl R (ch.take p).reverse : Nat) : Int)), .val (.int ((R ^ p : Nat) : Int)), y10, y11]) ⟨rfl, by omega, _, rfl⟩ ?_ ?_⟩
      · rintro p d e w'' nx2 hd2 ⟨rfl, hpl, y10, rfl⟩ hn2
        obtain ⟨v, hv, rfl⟩ := dN_get hd2
        have hpc : p < ch.length := (List.getElem?_eq_some_iff.mp hv).1
        unfold b1_t_groups
        walk_at "pr"
        have h1 := hvc p
        rw [List.length_take, Nat.min_eq_left (by omega)] at h1
        have h2 := hRp p (by omega)
        have h3 : ch.take (p + 1) = ch.take p ++ [v] := by rw [List.take_add_one, hv]; rfl
        refine ⟨mul_okL (by omega) (by omega), mul_okL (by omega) (by omega), hn2 _ _ ⟨rfl, by omega, .val (.int (v : Int)), ?_⟩⟩
        have a1 : ((vl R (ch.take p).reverse : Nat) : Int) * (R : Int) + (v : Int) = ((v + R * vl R (ch.take p).reverse : Nat) : Int) := by
          rw [Int.natCast_add, Int.natCast_mul, Int.mul_comm (R : Int), Int.add_comm]
        have a2 : ((R ^ p : Nat) : Int) * (R : Int) = ((R ^ (p + 1) : Nat) : Int) := by rw [Nat.pow_succ, Int.natCast_mul]
        rw [h3, vl_rev_snoc, a1, a2]
      · rintro e w'' ⟨rfl, hpl, y10, rfl⟩
        rw [dN_len] at hpl ⊢
        walk_at "pr"
        rw [dN_len]
        have htl : ch.take ch.length = ch := List.take_length
        have hc := hvc ch.length
        rw [htl] at hc ⊢
        have hfb : R ^ ch.length ≤ 2 ^ m.b := Nat.le_trans (Nat.pow_le_pow_right (by omega) hchl) hs2
        have hV' : vl R (fs.take (s * (q + 1))).reverse = R ^ ch.length * vl R (fs.take (s * q)).reverse + vl R ch.reverse := by
          rw [htk, List.reverse_append, vl_app, List.length_reverse, Nat.add_comm]
        have hxl : (digs m.b (vl R (fs.take (s * q)).reverse)).length ≤ 20000 := by
          have h1 := vl_lt (r := R) (l := (fs.take (s * q)).reverse) fun d hd => hdg d (List.mem_of_mem_take (List.mem_reverse.mp hd))
          rw [List.length_reverse, List.length_take] at h1
          refine Nat.le_trans (digs_length_le (k := min (s * q) fs.length) (by omega) _ (Nat.lt_of_lt_of_le h1 ?_)) (by omega)
          rw [Nat.pow_mul]
          exact Nat.pow_le_pow_left (by omega) _
        have hsum : (((List.range q).map fun t => (digs m.b (vl R (fs.take (s * t)).reverse)).length).sum : Nat) + (digs m.b (vl R (fs.take (s * q)).reverse)).length = ((List.range (q + 1)).map fun t => (digs m.b (vl R (fs.take (s * t)).reverse)).length).sum := by
          rw [List.range_succ, List.map_append, List.sum_append]; simp
        rw [← Int.natCast_add, hsum]
        have hf1 : 1 ≤ R ^ ch.length := Nat.pow_pos (by omega)
        generalize hf : R ^ ch.length = f at *
        generalize hcv : vl R ch.reverse = c at *
        generalize hV : vl R (fs.take (s * q)).reverse = V at *
        have hxD := digs_lt (b := m.b) (by omega) V
        have hxv := val_digs (b := m.b) (by omega) V
        refine ⟨⟨by omega, by omega⟩, ?_⟩
        rw [Int.toNat_natCast]
        refine lp_ind (fun p e w3 => w3 = w'' ∧ ∃ (lows : List Nat) (c' : Nat) (y11 : Slot), lows.length = p ∧ p ≤ (digs m.b V).length ∧ Digs m.b lows ∧ val m.b lows + 2 ^ (m.b * p) * c' = f * val m.b ((digs m.b V).take p) + c ∧ e = [.val (.mach i), .val (.ob j), .val (.int (R : Int)), .val (.int (s : Int)), .val (.int ((R ^ s : Nat) : Int)), .own true (dN (lows ++ (digs m.b V).drop p)), .val (.int (((List.range (q + 1)).map fun t => (digs m.b (vl R (fs.take (s * t)).reverse)).length).sum : Nat)), .val (.int ((s * q : Nat) : Int)), .val (.int (c' : Int)), .val (.int (f : Int)), y10, y11]) ⟨rfl, [], c, _, rfl, by omega, by simp [Digs], by simp [val], rfl⟩ ?_ ?_
        · rintro p d e w'' nx2 hd2 ⟨rfl, lows, c', y11, hll, hpl2, hlD, hlv, rfl⟩ hn2
          obtain ⟨hp, rfl⟩ := rng_get hd2
          rw [Int.zero_add]
          unfold b2_t_groups
          walk_at "pr"
          have hpx : p < (digs m.b V).length := hp
          generalize hxs : digs m.b V = xs at *
          obtain ⟨x, hx⟩ : ∃ x, xs[p]? = some x := ⟨_, List.getElem?_eq_getElem hpx⟩
          have hxb : x < 2 ^ m.b := hxD x (List.mem_of_getElem? hx)
          have hdp : xs.drop p = x :: xs.drop (p + 1) := by
            rw [List.drop_eq_getElem_cons hpx]
            congr 1
            exact Option.some.inj ((List.getElem?_eq_getElem hpx).symm.trans hx)
          have hgD : xs.getD p 0 = x := by rw [List.getD_eq_getElem?_getD, hx]; rfl
          rw [hdp, dN_at (n := p) (d := x) rfl (by rw [List.getElem?_append_right (by omega), hll]; simp)]
          walk_at "pr"
          have e4 : ((x : Int) * (f : Int) + (c' : Int)) = ((x * f + c' : Nat) : Int) := by rw [Int.natCast_add, Int.natCast_mul]
          rw [e4]
          generalize hy : x * f + c' = y at *
          have e5 : (y : Int) % (2 : Int) ^ m.b = ((y % 2 ^ m.b : Nat) : Int) := by rw [Int.natCast_emod, Int.natCast_pow]; rfl
          have e6 : (y : Int) / 2 ^ ((m.b : Int)).toNat = ((y / 2 ^ m.b : Nat) : Int) := by
            rw [Int.toNat_natCast, Int.natCast_ediv, Int.natCast_pow]; rfl
          simp only [onM_is hm]
          walk_at "pr"
          rw [ix_nat (p := p) (by rw [dN_len, List.length_append, List.length_cons]; omega)]
          walk_at "pr"
          rw [e5, e6, dN_set, List.set_append_right _ _ (by omega), hll, Nat.sub_self, List.set_cons_zero]
          have e7 : lows ++ y % 2 ^ m.b :: List.drop (p + 1) xs = (lows ++ [y % 2 ^ m.b]) ++ xs.drop (p + 1) := by simp
          rw [e7]
          refine ⟨mul_okL (by omega) (by omega), Int.pow_pos (by decide), by omega, hn2 _ _ ⟨rfl, lows ++ [y % 2 ^ m.b], y / 2 ^ m.b, _, by rw [List.length_append, hll]; rfl, by omega, ?_, ?_, rfl⟩⟩
          · intro d hd
            rcases List.mem_append.mp hd with hd | hd
            · exact hlD d hd
            · rw [List.mem_singleton.mp hd]; exact Nat.mod_lt _ (Nat.two_pow_pos _)
          · rw [val_take, hgD, Nat.mul_add f, Nat.add_right_comm, ← hlv, val_app, hll, Nat.mul_succ m.b p, Nat.pow_add, Nat.add_assoc]
            show _ + (2 ^ (m.b * p) * (y % 2 ^ m.b + 2 ^ m.b * 0) + _) = _
            rw [Nat.mul_zero, Nat.add_zero, Nat.mul_assoc, ← Nat.mul_add, Nat.mod_add_div, ← hy, Nat.mul_add, Nat.add_assoc]
            congr 1
            rw [Nat.add_comm]
            congr 1
            rw [Nat.mul_comm x, Nat.mul_left_comm]
        · rintro e w'' ⟨rfl, lows, c', y11, hll, hpl2, hlD, hlv, rfl⟩
          rw [rng_len] at hll hlv
          walk_at "pr"
          rw [rng_len, List.drop_length, List.append_nil]
          rw [List.take_length, hxv] at hlv
          have hlv2 : val m.b lows + 2 ^ (m.b * lows.length) * c' = f * V + c := by rw [hll]; exact hlv
          have hc' : c' < 2 ^ m.b := by
            have h1 := val_lt hxD
            rw [hxv] at h1
            have h2 : f * V + c < f * 2 ^ (m.b * (digs m.b V).length) := by
              have := Nat.mul_le_mul_left f (show V + 1 ≤ 2 ^ (m.b * (digs m.b V).length) from h1)
              rw [Nat.mul_succ] at this; omega
            refine Nat.lt_of_lt_of_le ?_ hfb
            refine Nat.lt_of_mul_lt_mul_left (a := 2 ^ (m.b * (digs m.b V).length)) ?_
            rw [Nat.mul_comm _ f]
            omega
          have hmd := digs_mad (by omega) hf1 hll hlD hlv2 hc'
          rw [← hV'] at hmd
          refine ite_2 (fun z => ?_) fun z => ?_
          · rw [if_pos (by omega)] at hmd
            rw [dN_one, dN_app, hmd, dN_len]
            refine ⟨by omega, hn _ _ ⟨rfl, _, _, _, _, _, rfl⟩⟩
          · rw [if_neg (by omega)] at hmd
            rw [hmd]
            exact hn _ _ ⟨rfl, _, _, _, _, _, rfl⟩
    · rintro e w' ⟨rfl, y7, y8, y9, y10, y11, rfl⟩
      walk_at "pr"
      rw [rngC_len, onM_is hm]
      have ht : fs.take (s * ((fs.length + s - 1) / s)) = fs := by
        refine List.take_of_length_le ?_
        have := Nat.div_add_mod (fs.length + s - 1) s
        have := Nat.mod_lt (fs.length + s - 1) (show 0 < s by omega)
        omega
      rw [ht]
      exact h
  · exact h.elim
theorem b_t_groups {K : PySem.W.Frag} {c : Pc} {vs : List V} {H : Hp} {Q : VK} {E : XK} {α : Prop} (PM : PM K c) (PB : α) (h : sp_t_groups K c vs H Q E) : t_t_groups K c (en0 Q) (st0 12 vs) H := def_ok (sn_t_groups PM PB) w_t_groups h
/-- how many figures of the base R go into a digit -/
def gpR (b R : Nat) : Nat := (dg R (2 ^ b)).length - 1
theorem gpR_ok {b R : Nat} (hb : 8 ≤ b) (hb2 : b ≤ 30) (hR : 2 ≤ R) (hR2 : R ≤ 36) : 1 ≤ gpR b R ∧ gpR b R ≤ 30 ∧ R ^ gpR b R ≤ 2 ^ b ∧ 2 ^ b < R ^ gpR b R * R := by
  have h2 : 2 ^ b ≠ 0 := by have := Nat.two_pow_pos b; omega
  have h8 : 2 ^ 8 ≤ 2 ^ b := Nat.pow_le_pow_right (by decide) hb
  have h30 : 2 ^ b ≤ 2 ^ 30 := Nat.pow_le_pow_right (by decide) hb2
  have h3 : R ^ gpR b R ≤ 2 ^ b := dg_ge hR h2
  have h4 : (dg R (2 ^ b)).length ≠ 0 := fun z => h2 ((dg_nil hR).mp (List.length_eq_zero_iff.mp z))
  have h5 : 2 ^ b < R ^ gpR b R * R := by
    have := vl_lt (dg_lt (r := R) hR (2 ^ b))
    rw [vl_dg hR, show (dg R (2 ^ b)).length = gpR b R + 1 by unfold gpR; omega, Nat.pow_succ] at this
    exact this
  refine ⟨?_, ?_, h3, h5⟩
  · by_cases z : gpR b R = 0
    · rw [z, Nat.pow_zero] at h5; omega
    · omega
  · refine (Nat.pow_le_pow_iff_right (a := 2) (by decide)).mp ?_
    exact Nat.le_trans (Nat.pow_le_pow_left hR _) (Nat.le_trans h3 h30)
theorem gpR_uniq {b p R : Nat} (hb : 8 ≤ b) (hb2 : b ≤ 30) (hR : 2 ≤ R) (hR2 : R ≤ 36) (h1 : R ^ p ≤ 2 ^ b) (h2 : 2 ^ b < R ^ p * R) : p = gpR b R := by
  obtain ⟨_, _, h3, h4⟩ := gpR_ok hb hb2 hR hR2
  rw [← Nat.pow_succ] at h2 h4
  have a1 : p < gpR b R + 1 := (Nat.pow_lt_pow_iff_right (show 1 < R by omega)).mp (Nat.lt_of_le_of_lt h1 h4)
  have a2 : gpR b R < p + 1 := (Nat.pow_lt_pow_iff_right (show 1 < R by omega)).mp (Nat.lt_of_le_of_lt h3 h2)
  omega
/-- the bits of a figure in a base that is a power of two -/
def bitsO (R : Nat) : Option Nat := if R = 2 then some 1 else if R = 4 then some 2 else if R = 8 then some 3 else if R = 16 then some 4 else if R = 32 then some 5 else none
theorem bits_look {R : Nat} (h : R ≤ 36) : List.lookup (R : Int) [((2 : Int), (1 : Int)), (4, 2), (8, 3), (16, 4), (32, 5)] = (bitsO R).map fun (n : Nat) => (n : Int) := by
  have : ∀ R : Nat, R < 37 → List.lookup (R : Int) [((2 : Int), (1 : Int)), (4, 2), (8, 3), (16, 4), (32, 5)] = (bitsO R).map fun (n : Nat) => (n : Int) := by decide +kernel
  exact this R (by omega)
theorem bitsO_of {R wd : Nat} (h : bitsO R = some wd) : R = 2 ^ wd ∧ 1 ≤ wd ∧ wd ≤ 5 := by
  unfold bitsO at h
  (repeat' split at h) <;> cases h <;> subst_vars <;> decide
/-- the word and the steps of reading -/
def rdC (b R : Nat) (fs : List Nat) : Nat × Nat := match bitsO R with
  | some wd => (6, (wd * fs.length + b - 1) / b)
  | none => (2, stepsR b R (gpR b R) fs)
/-- what reading leaves of a machine -/
def rdM (m : Mach) (R : Nat) (fs : List Nat) : Mach := (m.ent "read" fs.length R).cnt (rdC m.b R fs).1 ((rdC m.b R fs).2 : Nat)
def P_t_figures : PSp := fun ds w k => match ds with
  | [.mach i, .ob j, .int base, .int side] => onM w i fun m => ∃ (fs : List Nat) (R : Nat), w.os[j]? = some (.lst (dN fs)) ∧ base = (R : Int) ∧ (2 ≤ R ∧ R ≤ 36) ∧ (8 ≤ m.b ∧ m.b ≤ 30) ∧ (∀ d ∈ fs, d < R) ∧ fs.length ≤ 3000 ∧ (side = 1 ∨ side = -1) ∧ k (.big m.b (side * (vl R fs.reverse : Nat))) (w.put i (rdM m R fs))
  | _ => False
theorem n_t_figures : ∀ ds w k, P_t_figures ds w k → ds.length = 4 := fun ds w k h => by
  unfold P_t_figures at h
  split at h
  · rfl
  · exact h.elim
theorem e_t_figures {i j : Nat} {base side : Int} {w : Wld} {k : Dat → Wld → Prop} : P_t_figures [.mach i, .ob j, .int base, .int side] w k = (onM w i fun m => ∃ (fs : List Nat) (R : Nat), w.os[j]? = some (.lst (dN fs)) ∧ base = (R : Int) ∧ (2 ≤ R ∧ R ≤ 36) ∧ (8 ≤ m.b ∧ m.b ≤ 30) ∧ (∀ d ∈ fs, d < R) ∧ fs.length ≤ 3000 ∧ (side = 1 ∨ side = -1) ∧ k (.big m.b (side * (vl R fs.reverse : Nat))) (w.put i (rdM m R fs))) := rfl
def sp_t_figures (K : PySem.W.Frag) (c : Pc) : Sp := lif K c P_t_figures
theorem u_t_figures {K : PySem.W.Frag} {c : Pc} : SndP K c (sp_t_figures K c) P_t_figures := SndP.lif
/-- 0:machine 1:figures 2:base 3:side -/
def t_t_figures (K : PySem.W.Frag) (c : Pc) : TS :=
  (tSeq (tDrop (tMeth c.CMachine "enter" (sp_U K c) [] E0 (tVar 0) (tCons (tC (.str "read")) (tCons (tCB (rLen K) (tCons (tVar 1) tNil)) (tCons (tVar 2) tNil)))))
  (tSeq (tIfS (tTest (tInC [(2, 1), (4, 2), (8, 3), (16, 4), (32, 5)] (tVar 2))) (tRet (tCall (sp_E K c) [] E0 (tCons (tVar 0) (tCons (tVar 3) (tCons (tCall (sp_t_bits K c) [] E0 (tCons (tVar 0) (tCons (tVar 1) (tCons (tVar 2) tNil)))) tNil))))) tNext)
  (tRet (tCall (sp_E K c) [] E0 (tCons (tVar 0) (tCons (tVar 3) (tCons (tCall (sp_t_groups K c) [] E0 (tCons (tVar 0) (tCons (tVar 1) (tCons (tVar 2) tNil)))) tNil)))))))
def p_t_figures : PS :=
  (pSeq (pDrop (pMethM P_U (pVar 0) (pCons (pC (.str "read")) (pCons (pCBW qLen (pCons (pVar 1) pNil)) (pCons (pVar 2) pNil)))))
  (pSeq (pIfS (pTest (pInC [(2 , 1), (4 , 2), (8 , 3), (16 , 4), (32 , 5)] (pVar 2))) (pRet (pCall P_E (pCons (pVar 0) (pCons (pVar 3) (pCons (pCall P_t_bits (pCons (pVar 0) (pCons (pVar 1) (pCons (pVar 2) pNil)))) pNil))))) pNext)
  (pRet (pCall P_E (pCons (pVar 0) (pCons (pVar 3) (pCons (pCall P_t_groups (pCons (pVar 0) (pCons (pVar 1) (pCons (pVar 2) pNil)))) pNil)))))))
theorem sn_t_figures {K : PySem.W.Frag} {c : Pc} {α : Prop} (PM : PM K c) (PB : α) : SndS K c (t_t_figures K c) p_t_figures :=
  (snd_seq (snd_drop (snd_methM (by decide) u_U snd_var (snd_cons (snd_str "read") (snd_cons (snd_cbW s_len (snd_cons snd_var snd_nil)) (snd_cons snd_var snd_nil)))))
  (snd_seq (snd_ifS (snd_test (snd_inC snd_var)) (snd_ret (snd_call u_E (snd_cons snd_var (snd_cons snd_var (snd_cons (snd_call u_t_bits (snd_cons snd_var (snd_cons snd_var (snd_cons snd_var snd_nil)))) snd_nil))))) snd_next)
  (snd_ret (snd_call u_E (snd_cons snd_var (snd_cons snd_var (snd_cons (snd_call u_t_groups (snd_cons snd_var (snd_cons snd_var (snd_cons snd_var snd_nil)))) snd_nil)))))))
theorem w_t_figures : ∀ ds w k, P_t_figures ds w k → p_t_figures (pen k) (env0 4 ds) w := by
  intro ds w k h
  unfold P_t_figures at h
  split at h
  · rename_i i j base side
    replace h := onM_of h
    obtain ⟨m, hm, fs, R, hfs, rfl, hR, hb, hdg, hlen, hside, h⟩ := h
    have hz := sizeLine_eq
    unfold p_t_figures
    walk_at "pr"
    rw [lsAt_is hfs]
    walk_at "pr"
    rw [onM_is hm]
    unfold pInC
    walk_at "pr"
    rw [bits_look hR.2, dN_len]
    have hm2 : (w.put i (m.ent (Str.ofString "read") ↑fs.length ↑R)).ms[i]? = some (m.ent (Str.ofString "read") ↑fs.length ↑R) := put_at hm
    unfold rdM rdC at h
    have hb0 : m.b ≠ 0 := by omega
    have hsg : ∀ v : Nat, sgnOk side v := fun v => hside.elim .inl fun z => .inr (.inl z)
    cases hbo : bitsO R with
    | some wd =>
      rw [hbo] at h
      obtain ⟨hRw, h1, h2⟩ := bitsO_of hbo
      rw [if_pos (show ((some wd).map fun (n : Nat) => (n : Int)).isSome = true from rfl), e_t_bits, onM_is hm2]
      refine ⟨fs, wd, hfs, ⟨h1, h2⟩, by rw [hRw], hb, by rw [← hRw]; exact hdg, hlen, fun row hD hv hl => ?_⟩
      rw [e_E, put_put, onM_is (put_at hm)]
      have hrl : row.length ≤ 15030 := by
        rw [hl]
        refine Nat.le_trans (Nat.div_le_self _ _) ?_
        have : wd * fs.length ≤ 5 * 3000 := Nat.mul_le_mul h2 hlen
        have := hb.2
        show wd * fs.length + m.b - 1 ≤ _
        omega
      refine ⟨row, rfl, hb0, hD, by omega, hsg _, ?_⟩
      have hv2 : val m.b row = vl R fs.reverse := by rw [hRw]; exact hv
      have hl2 : row.length = (wd * fs.length + m.b - 1) / m.b := hl
      show k (.big m.b (side * (val m.b row : Nat))) _
      rw [hv2, hl2]
      exact h
    | none =>
      rw [hbo] at h
      rw [if_neg (show ¬ ((none : Option Nat).map fun (n : Nat) => (n : Int)).isSome = true by decide), e_t_groups, onM_is hm2]
      refine ⟨fs, R, hfs, rfl, hR, hb, hdg, hlen, fun s hs1 hs30 hs2 hs3 => ?_⟩
      have hs2 : R ^ s ≤ 2 ^ m.b := hs2
      have hs3 : 2 ^ m.b < R ^ s * R := hs3
      have := gpR_uniq hb.1 hb.2 hR.1 hR.2 hs2 hs3
      subst this
      rw [e_E, put_put, onM_is (put_at hm)]
      show ∃ es : List Nat, dN (digs m.b (vl R fs.reverse)) = dN es ∧ m.b ≠ 0 ∧ Digs m.b es ∧ es.length < 2 ^ 23 ∧ sgnOk side (val m.b es) ∧ _
      have hvd : val m.b (digs m.b (vl R fs.reverse)) = vl R fs.reverse := val_digs hb0 _
      refine ⟨_, rfl, hb0, digs_lt hb0 _, ?_, hsg _, ?_⟩
      · have h1 := vl_lt (r := R) (l := fs.reverse) fun d hd => hdg d (List.mem_reverse.mp hd)
        rw [List.length_reverse] at h1
        refine Nat.lt_of_le_of_lt (digs_length_le (k := fs.length) hb0 _ (Nat.lt_of_lt_of_le h1 ?_)) (by omega)
        rw [Nat.pow_mul]
        have : (2 : Nat) ^ 8 ≤ 2 ^ m.b := Nat.pow_le_pow_right (by decide) hb.1
        exact Nat.pow_le_pow_left (by omega) _
      · show k (.big m.b (side * (val m.b (digs m.b (vl R fs.reverse)) : Nat))) _
        rw [hvd]
        exact h
  · exact h.elim
theorem b_t_figures {K : PySem.W.Frag} {c : Pc} {vs : List V} {H : Hp} {Q : VK} {E : XK} {α : Prop} (PM : PM K c) (PB : α) (h : sp_t_figures K c vs H Q E) : t_t_figures K c (en0 Q) (st0 4 vs) H := def_ok (sn_t_figures PM PB) w_t_figures h
def P_t_read : PSp := fun ds w k => match ds with
  | [.mach i, .str s, .int base, .int most] => onM w i fun m => ∃ (t : List Nat) (b : Nat) (side : Int) (B : Nat) (hz : Bool) (fs : List Nat), s = ⟨t.toArray⟩ ∧ base = (b : Int) ∧ (b ≤ 36 ∧ b ≠ 1) ∧ RdT b t side B hz fs ∧ (2 ≤ B ∧ B ≤ 36) ∧ (8 ≤ m.b ∧ m.b ≤ 30) ∧ (∀ d ∈ fs, d < B) ∧ fs.length ≤ 600 ∧ (most = 0 ∨ 640 ≤ most) ∧ (side = 1 ∨ side = -1) ∧ k (.big m.b (side * (vl B fs.reverse : Nat))) (w.put i (rdM m B fs))
  | _ => False
theorem n_t_read : ∀ ds w k, P_t_read ds w k → ds.length = 4 := fun ds w k h => by
  unfold P_t_read at h
  split at h
  · rfl
  · exact h.elim
theorem e_t_read {i : Nat} {s : Str} {base most : Int} {w : Wld} {k : Dat → Wld → Prop} : P_t_read [.mach i, .str s, .int base, .int most] w k = (onM w i fun m => ∃ (t : List Nat) (b : Nat) (side : Int) (B : Nat) (hz : Bool) (fs : List Nat), s = ⟨t.toArray⟩ ∧ base = (b : Int) ∧ (b ≤ 36 ∧ b ≠ 1) ∧ RdT b t side B hz fs ∧ (2 ≤ B ∧ B ≤ 36) ∧ (8 ≤ m.b ∧ m.b ≤ 30) ∧ (∀ d ∈ fs, d < B) ∧ fs.length ≤ 600 ∧ (most = 0 ∨ 640 ≤ most) ∧ (side = 1 ∨ side = -1) ∧ k (.big m.b (side * (vl B fs.reverse : Nat))) (w.put i (rdM m B fs))) := rfl
def sp_t_read (K : PySem.W.Frag) (c : Pc) : Sp := lif K c P_t_read
theorem u_t_read {K : PySem.W.Frag} {c : Pc} : SndP K c (sp_t_read K c) P_t_read := SndP.lif
/-- 0:machine 1:text 2:base 3:most 4:reader 5:side -/
def t_t_read (K : PySem.W.Frag) (c : Pc) : TS :=
  (tSeq (tDrop (tCall (sp_L K c) [] E0 (tCons (tVar 0) tNil)))
  (tSeq (tIfS (tNot (L2.tB (tCB (rIsi K) (tCons (tVar 1) (tCons (tC (.ty "str")) tNil))))) tNever tNext)
  (tSeq (tIfS (tOr (tNot (L2.tB (tCall (sp_H K c) [] E0 (tCons (tVar 2) (tCons (tC (.int 0)) (tCons (tC (.int 36)) tNil)))))) (tTest (tOp rEq (tVar 2) (tC (.int 1))))) tNever tNext)
  (tSeq (tDrop (tCall (sp_t_most K c) [] E0 (tCons (tVar 3) tNil)))
  (tSeq (tAsg (tMake (c.ks.getD 3 0) (sp_rd_init K c) [] E0 (tCons (tVar 1) (tCons (tVar 2) tNil))) (gName 4))
  (tSeq (tAsg (tMeth (c.ks.getD 3 0) "read" (sp_rd_read K c) [] E0 (tVar 4) tNil) (gName 5))
  (tSeq (tIfS (tAnd (tTest (tNotInC [(2, 1), (4, 2), (8, 3), (16, 4), (32, 5)] (tFld K (tVar 4) "base"))) (tTest (tChain rLt rLt (tC (.int 0)) (tVar 3) (tCB (rLen K) (tCons (tFld K (tVar 4) "figures") tNil))))) tNever tNext)
  (tRet (tCall (sp_t_figures K c) [] E0 (tCons (tVar 0) (tCons (tFld K (tVar 4) "figures") (tCons (tFld K (tVar 4) "base") (tCons (tVar 5) tNil)))))))))))))
def p_t_read : PS :=
  (pSeq (pDrop (pCall P_L (pCons (pVar 0) pNil)))
  (pSeq (pIfS (pNot (pTest (pCB qIsi (pCons (pVar 1) (pCons (pC (.opq (.ty "str"))) pNil))))) pNever pNext)
  (pSeq (pIfS (pOr (pNot (pTest (pCall P_H (pCons (pVar 2) (pCons (pC (.int 0)) (pCons (pC (.int 36)) pNil)))))) (pTest (pOp qEq (pVar 2) (pC (.int 1))))) pNever pNext)
  (pSeq (pDrop (pCall P_t_most (pCons (pVar 3) pNil)))
  (pSeq (pAsg (pMkO 3 P_rd_init [] (pCons (pVar 1) (pCons (pVar 2) pNil))) 4)
  (pSeq (pAsg (pMethO 3 "read" P_rd_read (pVar 4) pNil) 5)
  (pSeq (pIfS (pAnd (pTest (pNotInC [(2 , 1), (4 , 2), (8 , 3), (16 , 4), (32 , 5)] (pFldO 3 "base" (pVar 4)))) (pTest (pChain qLt qLt (pC (.int 0)) (pVar 3) (pCBW qLen (pCons (pFldO 3 "figures" (pVar 4)) pNil))))) pNever pNext)
  (pRet (pCall P_t_figures (pCons (pVar 0) (pCons (pFldO 3 "figures" (pVar 4)) (pCons (pFldO 3 "base" (pVar 4)) (pCons (pVar 5) pNil)))))))))))))
theorem sn_t_read {K : PySem.W.Frag} {c : Pc} {α : Prop} (PM : PM K c) (PB : α) (KS3 : KsAt K c 3 ["whole", "at", "base", "has_zeros_alone", "figures"]) : SndS K c (t_t_read K c) p_t_read :=
  (snd_seq (snd_drop (snd_call u_L (snd_cons snd_var snd_nil)))
  (snd_seq (snd_ifS (snd_not (snd_tB (snd_cb s_isi (snd_cons snd_var (snd_cons (snd_opq (.ty "str")) snd_nil))))) snd_never snd_next)
  (snd_seq (snd_ifS (snd_or (snd_not (snd_tB (snd_call u_H (snd_cons snd_var (snd_cons (snd_int 0) (snd_cons (snd_int 36) snd_nil)))))) (snd_test (snd_op s_eq snd_var (snd_int 1)))) snd_never snd_next)
  (snd_seq (snd_drop (snd_call u_t_most (snd_cons snd_var snd_nil)))
  (snd_seq (snd_asg (snd_mkO u_rd_init (fun _ => .nil) (snd_cons snd_var (snd_cons snd_var snd_nil))))
  (snd_seq (snd_asg (snd_methO u_rd_read snd_var snd_nil))
  (snd_seq (snd_ifS (snd_and (snd_test (snd_notInC (snd_fldO KS3 (by decide) snd_var))) (snd_test (snd_chain s_lt s_lt (snd_int 0) snd_var (snd_cbW s_len (snd_cons (snd_fldO KS3 (by decide) snd_var) snd_nil))))) snd_never snd_next)
  (snd_ret (snd_call u_t_figures (snd_cons snd_var (snd_cons (snd_fldO KS3 (by decide) snd_var) (snd_cons (snd_fldO KS3 (by decide) snd_var) (snd_cons snd_var snd_nil)))))))))))))
theorem w_t_read : ∀ ds w k, P_t_read ds w k → p_t_read (penD w.os k) (env0 6 ds) w := by
  intro ds w k h
  unfold P_t_read at h
  split at h
  · rename_i i s base most
    replace h := onM_of h
    obtain ⟨m, hm, t, b, side, B, hz', fs, rfl, rfl, hb, hT, hB, hmb, hdg, hlen, hmost, hside, h⟩ := h
    have hz := sizeLine_eq
    unfold p_t_read
    walk_at "pr"
    rw [onM_is hm]
    refine ⟨"str", true, rfl, by decide +kernel, ?_⟩
    rw [if_neg (by decide), e_H]
    refine ⟨⟨by omega, by omega⟩, ?_⟩
    walk_at "pr"
    rw [if_neg (by omega), e_t_most]
    refine ⟨hmost, ?_⟩
    rw [e_rd_init]
    refine ⟨t, b, rfl, rfl, by show (w.os ++ [_])[w.os.length]? = _; rw [List.getElem?_append_right (by omega)]; simp, rfl, ?_⟩
    have hl1 : (w.addO (Pu.Obj.ins 3 [] [])).os.length = w.os.length + 1 := by show (w.os ++ [_]).length = _; simp
    rw [hl1]
    generalize hW : (((w.addO (Pu.Obj.ins 3 [] [])).addO (Pu.Obj.lst [])).putO w.os.length (rdO t 0 b false (w.os.length + 1))) = W1
    have I : RdIn W1 w.os.length (w.os.length + 1) t 0 b false [] := by
      subst hW
      refine ⟨putO_at (o := .ins 3 [] []) ?_, ?_, by omega, hT.len⟩
      · show ((w.os ++ [_]) ++ [_])[w.os.length]? = _
        simp
      · rw [putO_ne (by omega)]
        show ((w.os ++ [_]) ++ [_])[w.os.length + 1]? = _
        rw [List.getElem?_append_right (by simp)]
        simp [dN]
    have hms : W1.ms = w.ms := by rw [← hW]; rfl
    have htk : W1.os.take w.os.length = w.os := by
      rw [← hW]
      show (((w.os ++ [_]) ++ [_]).set w.os.length _).take w.os.length = _
      rw [List.take_set_of_le (Nat.le_refl _), List.append_assoc, List.take_left]
    have hcut : ∀ M' : Mach, ((rdW W1 w.os.length (w.os.length + 1) t t.length B hz' fs).put i M').cut w.os = w.put i M' := fun M' => by rw [← hW]; rfl
    rw [insRd I.ob, e_rd_read]
    refine ⟨fRdM7, t, b, w.os.length + 1, side, B, hz', fs, I, hT, ?_⟩
    have I2 : RdIn (rdW W1 w.os.length (w.os.length + 1) t t.length B hz' fs) w.os.length (w.os.length + 1) t t.length B hz' fs := I.to
    have htk2 : ∀ M', ((rdW W1 w.os.length (w.os.length + 1) t t.length B hz' fs).put i M').os.take w.os.length = w.os := fun M' => by
      show (((W1.os.set _ _).set _ _).take w.os.length) = _
      rw [List.take_set_of_le (by omega), List.take_set_of_le (by omega), htk]
    have hm2 : (rdW W1 w.os.length (w.os.length + 1) t t.length B hz' fs).ms[i]? = some m := by
      show W1.ms[i]? = _
      rw [hms]; exact hm
    generalize rdW W1 w.os.length (w.os.length + 1) t t.length B hz' fs = W2 at *
    have fin : P_t_figures [.mach i, .ob (w.os.length + 1), .int (B : Int), .int side] W2 fun d w_3 => lowOb w.os.length d ∧ w_3.os.take w.os.length = w.os ∧ k d (w_3.cut w.os) := by
      rw [e_t_figures, onM_is hm2]
      refine ⟨fs, B, I2.fg, rfl, hB, hmb, hdg, by omega, hside, ?_, htk2 _, ?_⟩
      · rw [low_big]; trivial
      · rw [hcut]; exact h
    unfold pNotInC
    walk_at "pr"
    simp only [insRd I2.ob, fRd3, fRd5]
    walk_at "pr"
    rw [bits_look hB.2]
    cases hbo : bitsO B with
    | some wd => exact fin
    | none =>
      walk_at "pr"
      rw [if_pos (by rfl)]
      refine ite_2 (fun c => ?_) fun _ => fin
      rw [lsAt_is I2.fg, dN_len, if_neg (by omega)]
      exact fin
  · exact h.elim
theorem b_t_read {K : PySem.W.Frag} {c : Pc} {vs : List V} {H : Hp} {Q : VK} {E : XK} {α : Prop} (PM : PM K c) (PB : α) (KS3 : KsAt K c 3 ["whole", "at", "base", "has_zeros_alone", "figures"]) (h : sp_t_read K c vs H Q E) : t_t_read K c (en0 Q) (st0 6 vs) H := def_okD (sn_t_read PM PB KS3) w_t_read h
/-- the world w, with the machine i at any counts -/
def Up (w : Wld) (i b : Nat) (W : Wld) : Prop := (∃ m0, w.ms[i]? = some m0) ∧ ∃ m, m.b = b ∧ W = w.put i m
theorem Up.refl {w : Wld} {i : Nat} {m : Mach} (h : w.ms[i]? = some m) : Up w i m.b w := ⟨⟨m, h⟩, m, rfl, (put_self h).symm⟩
theorem Up.go {w W : Wld} {i b : Nat} {m : Mach} (h : Up w i b W) (hb : m.b = b) : Up w i b (W.put i m) := by
  obtain ⟨h0, m1, h1, rfl⟩ := h
  exact ⟨h0, m, hb, by rw [put_put]⟩
theorem Up.trans {w W W' : Wld} {i b : Nat} (h : Up w i b W) (h' : Up W i b W') : Up w i b W' := by
  obtain ⟨_, m, hb, rfl⟩ := h'
  exact h.go hb
theorem Up.ss {w W : Wld} {i b : Nat} (h : Up w i b W) : W.ss = w.ss := by
  obtain ⟨_, m, _, rfl⟩ := h
  rfl
theorem val_inj {b : Nat} : ∀ {xs ys : List Nat}, Digs b xs → Digs b ys → xs.length = ys.length → val b xs = val b ys → xs = ys
  | [], [], _, _, _, _ => rfl
  | x :: xs, y :: ys, hx, hy, hl, hv => by
    rw [val_cons, val_cons] at hv
    have h1 := hx x List.mem_cons_self
    have h2 := hy y List.mem_cons_self
    have hp := Nat.two_pow_pos b
    have e1 : x = y := by
      have := congrArg (· % 2 ^ b) hv
      simp only [Nat.add_mul_mod_self_left] at this
      rwa [Nat.mod_eq_of_lt h1, Nat.mod_eq_of_lt h2] at this
    subst e1
    have e2 : val b xs = val b ys := Nat.eq_of_mul_eq_mul_left hp (by omega)
    rw [val_inj (fun d h => hx d (List.mem_cons_of_mem _ h)) (fun d h => hy d (List.mem_cons_of_mem _ h)) (by simpa using hl) e2]
theorem Lift.all {b low N : Nat} {es : List Nat} {r : Nat} (hb : b ≠ 0) (hlo : low ≤ b) (h : Lift b low (digs b N) es r) : es ++ (if 0 < r then [r] else []) = digs b (N * 2 ^ low) := by
  have hv := val_digs hb N
  have he := h.eq
  rw [hv] at he
  have hlen := h.len
  have hrb : r < 2 ^ b := Nat.lt_of_lt_of_le h.lt (Nat.pow_le_pow_right (by decide) hlo)
  have key : Digs b (es ++ (if 0 < r then [r] else [])) ∧ Norm (es ++ (if 0 < r then [r] else [])) ∧ val b (es ++ (if 0 < r then [r] else [])) = N * 2 ^ low := by
    by_cases hr : 0 < r
    · rw [if_pos hr]
      refine ⟨h.dig.snoc hrb, strip_app_ne es (by omega), ?_⟩
      rw [val_snoc, hlen, he, Nat.mul_comm]
    · rw [if_neg hr, List.append_nil]
      have hr0 : r = 0 := by omega
      rw [hr0, Nat.mul_zero, Nat.add_zero] at he
      refine ⟨h.dig, ?_, by rw [he, Nat.mul_comm]⟩
      rcases List.eq_nil_or_concat es with z | ⟨es', d, z⟩
      · rw [z]; rfl
      · rw [List.concat_eq_append] at z
        subst z
        rw [List.length_append, List.length_cons, List.length_nil] at hlen
        refine strip_app_ne es' fun d0 => ?_
        have hlow := digs_lower (l := es'.length) (n := N) hb (by omega)
        have hd' : Digs b es' := fun x hx => h.dig x (List.mem_append_left _ hx)
        have hlt := val_lt hd'
        rw [val_snoc, d0, Nat.mul_zero, Nat.add_zero] at he
        have : 1 * N ≤ 2 ^ low * N := Nat.mul_le_mul_right _ (Nat.two_pow_pos low)
        omega
  rw [← key.2.2, digs_val hb key.1 key.2.1]
theorem Lift.none {b : Nat} {xs es : List Nat} {r : Nat} (h : Lift b 0 xs es r) (hx : Digs b xs) : es = xs ∧ r = 0 := by
  have h1 := h.lt
  have r0 : r = 0 := by simp at h1; exact h1
  have he := h.eq
  rw [r0] at he
  simp at he
  exact ⟨val_inj h.dig hx h.len he, r0⟩
/-- a place in the room -/
structure Rm (b : Nat) (rs bs : List Nat) (st : Nat) : Prop where
  dr : Digs b rs
  db : Digs b bs
  hl : st + bs.length < rs.length
  kn : Kn b bs.length (val b bs) (val b (rs.take (st + bs.length + 1))) st
  b30 : b ≤ 30
  len : rs.length < 2 ^ 23
section
variable {b st : Nat} {rs bs : List Nat}
theorem Rm.dt (K : Rm b rs bs st) : Digs b (rs.take (st + bs.length + 1)) := fun d hd => K.dr d (List.mem_of_mem_take hd)
theorem getD_take {ds : List Nat} {i n : Nat} (h : i < n) : (ds.take n).getD i 0 = ds.getD i 0 := by
  rw [List.getD_eq_getElem?_getD, List.getElem?_take_of_lt h, ← List.getD_eq_getElem?_getD]
theorem Rm.tw (K : Rm b rs bs st) : rs.getD (st + bs.length) 0 * 2 ^ b + rs.getD (st + bs.length - 1) 0 = twD b bs.length (val b (rs.take (st + bs.length + 1))) st := by
  have hn := K.kn.n2
  have hl := K.hl
  unfold twD
  rw [val_div K.dt]
  have hL : (rs.take (st + bs.length + 1)).length = st + bs.length + 1 := by rw [List.length_take]; omega
  rw [List.drop_eq_getElem_cons (by omega), List.drop_eq_getElem_cons (by omega), List.drop_eq_nil_of_le (by omega), val_cons, val_cons, val_nil]
  have e1 : (rs.take (st + bs.length + 1))[st + bs.length - 1]'(by omega) = rs.getD (st + bs.length - 1) 0 := by
    rw [← getD_take (n := st + bs.length + 1) (by omega), List.getD_eq_getElem?_getD, List.getElem?_eq_getElem (by omega)]; rfl
  have e2 : (rs.take (st + bs.length + 1))[st + bs.length - 1 + 1]'(by omega) = rs.getD (st + bs.length) 0 := by
    rw [← getD_take (n := st + bs.length + 1) (by omega), List.getD_eq_getElem?_getD, List.getElem?_eq_getElem (by omega)]
    simp only [show st + bs.length - 1 + 1 = st + bs.length by omega]; rfl
  rw [e1, e2, Nat.mul_zero, Nat.add_zero, Nat.mul_comm]
  omega
end
theorem bits_low {n : Nat} (h : n ≠ 0) : 2 ^ (Builtin.Int.intBits (n : Int) - 1) ≤ n ∧ n < 2 ^ Builtin.Int.intBits (n : Int) ∧ 1 ≤ Builtin.Int.intBits (n : Int) := by
  have h1 := intBits_le_iff.mp (Nat.le_refl (Builtin.Int.intBits (n : Int)))
  rw [Int.natAbs_natCast] at h1
  have h2 : 1 ≤ Builtin.Int.intBits (n : Int) := by
    rcases Nat.eq_zero_or_pos (Builtin.Int.intBits (n : Int)) with z | z
    · rw [z] at h1; omega
    · exact z
  refine ⟨?_, h1, h2⟩
  rcases Nat.lt_or_ge n (2 ^ (Builtin.Int.intBits (n : Int) - 1)) with z | z
  · have := intBits_le_iff.mpr (show (n : Int).natAbs < 2 ^ (Builtin.Int.intBits (n : Int) - 1) by rw [Int.natAbs_natCast]; exact z)
    omega
  · exact z
/-- by how many bits the divisor is lifted -/
def cntD (b y : Nat) : Nat := b * (digs b y).length - Builtin.Int.intBits (y : Int)
theorem top_dig {b y : Nat} (hb : b ≠ 0) (hn : 1 ≤ (digs b y).length) : (digs b y).getD ((digs b y).length - 1) 0 ≠ 0 ∧ (digs b y).getD ((digs b y).length - 1) 0 < 2 ^ b ∧ (digs b y).getD ((digs b y).length - 1) 0 = y / 2 ^ (b * ((digs b y).length - 1)) := by
  have hd := digs_lt hb y
  have hN := digs_norm hb y
  obtain ⟨es, d, e, hd0⟩ := hN.last (fun z => by rw [z] at hn; simp at hn)
  have h3 : (digs b y).getD ((digs b y).length - 1) 0 = d := by
    rw [e, List.length_append, List.length_singleton, Nat.add_sub_cancel, List.getD_eq_getElem?_getD, List.getElem?_concat_length]; rfl
  have h4 := hd.getD ((digs b y).length - 1)
  have h5 := val_dig hd ((digs b y).length - 1)
  rw [val_digs hb, Nat.mod_eq_of_lt] at h5
  · exact ⟨by rw [h3]; exact hd0, h4, h5⟩
  · apply Nat.div_lt_of_lt_mul
    have := val_lt hd
    rw [val_digs hb] at this
    rw [← Nat.pow_add, show b * ((digs b y).length - 1) + b = b * (digs b y).length by
      have := Nat.mul_succ b ((digs b y).length - 1)
      rw [show ((digs b y).length - 1).succ = (digs b y).length by omega] at this
      omega]
    exact this
theorem cnt_top {b y : Nat} (hb : b ≠ 0) (hn : 1 ≤ (digs b y).length) : (b : Int) - (Builtin.Int.intBits (((digs b y).getD ((digs b y).length - 1) 0 : Nat) : Int) : Nat) = (cntD b y : Int) ∧ cntD b y < b ∧ y * 2 ^ cntD b y < 2 ^ (b * (digs b y).length) ∧ 2 ^ (b * (digs b y).length) ≤ 2 * (y * 2 ^ cntD b y) := by
  obtain ⟨h0, h1, h2⟩ := top_dig hb hn
  generalize ht : (digs b y).getD ((digs b y).length - 1) 0 = t at *
  obtain ⟨l1, l2, l3⟩ := bits_low h0
  have hy0 : y ≠ 0 := fun z => by rw [z, Nat.zero_div] at h2; exact h0 h2
  obtain ⟨y1, y2, y3⟩ := bits_low hy0
  have hLb : Builtin.Int.intBits (t : Int) ≤ b := intBits_le_iff.mpr (by rw [Int.natAbs_natCast]; exact h1)
  have hn1 : b * (digs b y).length = b * ((digs b y).length - 1) + b := by
    have := Nat.mul_succ b ((digs b y).length - 1)
    rw [show ((digs b y).length - 1).succ = (digs b y).length by omega] at this
    omega
  have hP := Nat.two_pow_pos (b * ((digs b y).length - 1))
  have e := Nat.div_add_mod y (2 ^ (b * ((digs b y).length - 1)))
  have hm := Nat.mod_lt y hP
  rw [← h2] at e
  have hy : Builtin.Int.intBits (y : Int) = b * ((digs b y).length - 1) + Builtin.Int.intBits (t : Int) := by
    apply Nat.le_antisymm
    · refine intBits_le_iff.mpr ?_
      rw [Int.natAbs_natCast, Nat.pow_add]
      have : 2 ^ (b * ((digs b y).length - 1)) * (t + 1) ≤ 2 ^ (b * ((digs b y).length - 1)) * 2 ^ Builtin.Int.intBits (t : Int) := Nat.mul_le_mul_left _ l2
      rw [Nat.mul_add, Nat.mul_one] at this
      omega
    · rcases Nat.lt_or_ge (Builtin.Int.intBits (y : Int)) (b * ((digs b y).length - 1) + Builtin.Int.intBits (t : Int)) with z | z
      · exfalso
        have h5 : 2 ^ Builtin.Int.intBits (y : Int) ≤ 2 ^ (b * ((digs b y).length - 1) + (Builtin.Int.intBits (t : Int) - 1)) := Nat.pow_le_pow_right (by decide) (by omega)
        rw [Nat.pow_add] at h5
        have h6 : 2 ^ (b * ((digs b y).length - 1)) * 2 ^ (Builtin.Int.intBits (t : Int) - 1) ≤ 2 ^ (b * ((digs b y).length - 1)) * t := Nat.mul_le_mul_left _ l1
        omega
      · exact z
  have hc : cntD b y + Builtin.Int.intBits (y : Int) = b * (digs b y).length := by unfold cntD; omega
  refine ⟨by omega, by omega, ?_, ?_⟩
  · rw [← hc, Nat.add_comm, Nat.pow_add]
    exact Nat.mul_lt_mul_of_pos_right y2 (Nat.two_pow_pos _)
  · rw [← hc, Nat.add_comm, Nat.pow_add, ← Nat.mul_assoc]
    refine Nat.mul_le_mul_right _ ?_
    have : 2 ^ Builtin.Int.intBits (y : Int) = 2 * 2 ^ (Builtin.Int.intBits (y : Int) - 1) := by rw [← Nat.pow_succ']; congr 1; omega
    omega
structure LongC (b x y : Nat) : Prop where
  b8 : 8 ≤ b
  b30 : b ≤ 30
  n2 : 2 ≤ (digs b y).length
  mn : (digs b y).length ≤ (digs b x).length
  len : (digs b x).length < 2 ^ 21
/-- divisor and dividend, lifted; one more digit; how many places -/
def dvD (b y : Nat) : Nat := y * 2 ^ cntD b y
section
variable {b x y : Nat}
theorem LongC.b0 (C : LongC b x y) : b ≠ 0 := by have := C.b8; omega
theorem LongC.kn (C : LongC b x y) {R st : Nat} (h : R < dvD b y * 2 ^ (b * (st + 1))) : Kn b (digs b y).length (dvD b y) R st := by
  have := cnt_top C.b0 (y := y) (by have := C.n2; omega)
  exact ⟨C.b8, C.n2, this.2.2.2, this.2.2.1, h⟩
end
theorem dig_bounds {b x : Nat} (hb : b ≠ 0) (hx : x ≠ 0) : 2 ^ (b * ((digs b x).length - 1)) ≤ x ∧ x < 2 ^ (b * (digs b x).length) ∧ 1 ≤ (digs b x).length := by
  have hn : 1 ≤ (digs b x).length := by
    rcases Nat.eq_zero_or_pos (digs b x).length with z | z
    · exact absurd ((digs_eq_nil hb).mp (List.length_eq_zero_iff.mp z)) hx
    · exact z
  obtain ⟨h0, h1, h2⟩ := top_dig hb hn
  refine ⟨?_, ?_, hn⟩
  · rw [h2] at h0
    have e := Nat.div_add_mod x (2 ^ (b * ((digs b x).length - 1)))
    have : 2 ^ (b * ((digs b x).length - 1)) * 1 ≤ 2 ^ (b * ((digs b x).length - 1)) * (x / 2 ^ (b * ((digs b x).length - 1))) := Nat.mul_le_mul_left _ (by omega)
    omega
  · have := val_lt (digs_lt hb x)
    rw [val_digs hb] at this
    exact this
theorem eqDs_refl {l : List (Str × Int)} (h : (l.map (·.1)).Nodup) : EqDs l l := ⟨rfl, h, fun _ hp => hp⟩
theorem pl_rt {s : Str} {x y : Int} (hs : PyData.strOk s = true) : pl (.lst [.tup [.str s, .int x, .int y]]) := by
  unfold pl
  simp only [plF, List.all_cons, List.all_nil, hs, Bool.and_self]
local macro_rules | `(tactic| walk_at "pt") => `(tactic| (walk_at "pk"; repeat ((simp only [pJoin, pRev2L, pInT, pIxD, pDisp1, pIfT, eAddS, eMulS, eIxS, eStrI, eLenZ, eIntS, pInC, pInCs, pIxCs, eInS, pLower, pUpper, pFind, pSlS]); walk_at "pk")))
theorem size_bits6 {b x : Nat} (hb : 1 ≤ b) : (Builtin.Int.intBits (x : Int) + b - 1) / b = (digs b x).length := by
  by_cases h0 : x = 0
  · subst h0
    rw [digs_zero]
    have : Builtin.Int.intBits ((0 : Nat) : Int) ≤ 0 := intBits_le_iff.mpr (by decide)
    exact Nat.div_eq_of_lt (by omega)
  · obtain ⟨d1, d2, d3⟩ := dig_bounds (b := b) (by omega) h0
    have h1 : Builtin.Int.intBits (x : Int) ≤ b * (digs b x).length := intBits_le_iff.mpr d2
    have h2 : b * ((digs b x).length - 1) + 1 ≤ Builtin.Int.intBits (x : Int) := by
      rcases Nat.lt_or_ge (b * ((digs b x).length - 1)) (Builtin.Int.intBits (x : Int)) with z | z
      · exact z
      · have h3 : x < 2 ^ (b * ((digs b x).length - 1)) := intBits_le_iff (x := (x : Int)).mp z
        omega
    obtain ⟨l, hl⟩ : ∃ l, (digs b x).length = l + 1 := ⟨(digs b x).length - 1, by omega⟩
    rw [hl] at h1 h2 ⊢
    rw [Nat.add_sub_cancel] at h2
    rw [Nat.mul_add, Nat.mul_one] at h1
    generalize Builtin.Int.intBits (x : Int) = B at *
    refine Nat.div_eq_of_lt_le ?_ ?_
    · rw [Nat.add_mul, Nat.mul_comm l b]; omega
    · rw [show l + 1 + 1 = l + 2 by omega, Nat.add_mul, Nat.mul_comm l b]; omega
def P_k64_group : PSp := fun ds w k => match ds with
  | [.int b, .int r] => ∃ B R : Nat, b = (B : Int) ∧ r = (R : Int) ∧ 2 ≤ R ∧ R ≤ 36 ∧ R ≤ 2 ^ B ∧ B ≤ 30 ∧ ∀ s : Nat, 1 ≤ s → s ≤ 30 → R ^ s ≤ 2 ^ B → 2 ^ B < R ^ s * R → k (.tup [.int (s : Int), .int ((R ^ s : Nat) : Int)]) w
  | _ => False
theorem n_k64_group : ∀ ds w k, P_k64_group ds w k → ds.length = 2 := fun ds w k h => by
  unfold P_k64_group at h
  split at h
  · rfl
  · exact h.elim
theorem e_k64_group {b r : Int} {w : Wld} {k : Dat → Wld → Prop} : P_k64_group [.int b, .int r] w k = (∃ B R : Nat, b = (B : Int) ∧ r = (R : Int) ∧ 2 ≤ R ∧ R ≤ 36 ∧ R ≤ 2 ^ B ∧ B ≤ 30 ∧ ∀ s : Nat, 1 ≤ s → s ≤ 30 → R ^ s ≤ 2 ^ B → 2 ^ B < R ^ s * R → k (.tup [.int (s : Int), .int ((R ^ s : Nat) : Int)]) w) := rfl
def sp_k64_group (K : PySem.W.Frag) (c : Pc) : Sp := lif K c P_k64_group
theorem u_k64_group {K : PySem.W.Frag} {c : Pc} : SndP K c (sp_k64_group K c) P_k64_group := SndP.lif
/-- 0:_law_bits 1:_law_radix 2:_law_size 3:_law_worth_here -/
def t_k64_group (K : PySem.W.Frag) (c : Pc) : TS :=
  (tSeq (tPar 2 3 (tCons (tC (.int 1)) (tCons (tVar 1) tNil)))
  (tSeq (tWhile (tTest (tOp rLe (tOp rMul (tVar 3) (tVar 1)) (tOp rShl (tC (.int 1)) (tVar 0)))) (tPar 2 3 (tCons (tOp rAdd (tVar 2) (tC (.int 1))) (tCons (tOp rMul (tVar 3) (tVar 1)) tNil))))
  (tRet (tTup (tCons (tVar 2) (tCons (tVar 3) tNil))))))
def b1_k64_group : PS :=
  (pPar [2, 3] (pCons (pOp qAdd (pVar 2) (pC (.int 1))) (pCons (pOp qMul (pVar 3) (pVar 1)) pNil)))
def c1_k64_group : PT :=
  (pTest (pOp qLe (pOp qMul (pVar 3) (pVar 1)) (pOp qShl (pC (.int 1)) (pVar 0))))
def p_k64_group : PS :=
  (pSeq (pPar [2, 3] (pCons (pC (.int 1)) (pCons (pVar 1) pNil)))
  (pSeq (pWhile c1_k64_group b1_k64_group)
  (pRet (pTup (pCons (pVar 2) (pCons (pVar 3) pNil))))))
theorem sn_k64_group {K : PySem.W.Frag} {c : Pc} {α : Prop} (PM : PM K c) (PB : α) : SndS K c (t_k64_group K c) p_k64_group :=
  (snd_seq (snd_par (snd_cons (snd_int 1) (snd_cons snd_var snd_nil)))
  (snd_seq (snd_while (snd_test (snd_op s_le (snd_op s_mul snd_var snd_var) (snd_op s_shl (snd_int 1) snd_var))) (snd_par (snd_cons (snd_op s_add snd_var (snd_int 1)) (snd_cons (snd_op s_mul snd_var snd_var) snd_nil))))
  (snd_ret (snd_tup (snd_cons snd_var (snd_cons snd_var snd_nil))))))
theorem w_k64_group : ∀ ds w k, P_k64_group ds w k → p_k64_group (pen k) (env0 4 ds) w := by
  intro ds w k h
  unfold P_k64_group at h
  split at h
  · rename_i b r
    obtain ⟨B, R, rfl, rfl, h2, h36, hRb, hb, h⟩ := h
    have hz := sizeLine_eq
    have hb30 : 2 ^ B ≤ 2 ^ 30 := Nat.pow_le_pow_right (by decide) hb
    unfold p_k64_group
    walk_at "pt"
    refine whl_ind (fun mm e w' => w' = w ∧ ∃ p : Nat, mm = 30 - p ∧ 1 ≤ p ∧ p ≤ 30 ∧ R ^ p ≤ 2 ^ B ∧ e = [.val (.int (B : Int)), .val (.int (R : Int)), .val (.int (p : Int)), .val (.int ((R ^ p : Nat) : Int))]) 29 ⟨rfl, 1, by omega, by omega, by omega, by rw [Nat.pow_one]; exact hRb, by rw [Nat.pow_one]; rfl⟩ ?_
    rintro mm e w' nx ⟨rfl, p, hmm, hp1, hp30, hR, rfl⟩ hn
    unfold c1_k64_group b1_k64_group
    walk_at "pt"
    rw [shl1 (by omega)]
    walk_at "pt"
    rw [← Int.natCast_mul, ← Nat.pow_succ]
    have hP : R ^ p < 2 ^ 60 := by omega
    have hmul : IntMulOk ((R ^ p : Nat) : Int) (R : Int) := mul_okL (by omega) (by omega)
    refine ⟨hmul, ite_2 (fun c => ⟨hmul, ?_⟩) fun c => ⟨by omega, h p hp1 hp30 hR (by rw [← Nat.pow_succ]; omega)⟩⟩
    have c' : R ^ (p + 1) ≤ 2 ^ B := by have := Int.ofNat_le.mp c; exact this
    have hp : p + 1 ≤ 30 := by
      have h3 : 2 ^ (p + 1) ≤ R ^ (p + 1) := Nat.pow_le_pow_left h2 _
      exact (Nat.pow_le_pow_iff_right (by decide : 1 < 2)).mp (Nat.le_trans h3 (Nat.le_trans c' hb30))
    exact hn (30 - (p + 1)) _ _ (by omega) ⟨rfl, p + 1, rfl, by omega, hp, c', rfl⟩
  · exact h.elim
theorem b_k64_group {K : PySem.W.Frag} {c : Pc} {vs : List V} {H : Hp} {Q : VK} {E : XK} {α : Prop} (PM : PM K c) (PB : α) (h : sp_k64_group K c vs H Q E) : t_k64_group K c (en0 Q) (st0 4 vs) H := def_ok (sn_k64_group PM PB) w_k64_group h
def P_k65_steps : PSp := fun ds w k => match ds with
  | [.int b, .int r, .lst l] => ∃ (B R : Nat) (fs : List Nat), b = (B : Int) ∧ r = (R : Int) ∧ l = dN fs ∧ (8 ≤ B ∧ B ≤ 30) ∧ (2 ≤ R ∧ R ≤ 36) ∧ (∀ d ∈ fs, d < R) ∧ fs.length ≤ 600 ∧ k (.tup [.int (stepsR B R (gpR B R) fs : Nat), .int (vl R fs.reverse : Nat)]) w
  | _ => False
theorem n_k65_steps : ∀ ds w k, P_k65_steps ds w k → ds.length = 3 := fun ds w k h => by
  unfold P_k65_steps at h
  split at h
  · rfl
  · exact h.elim
theorem e_k65_steps {b r : Int} {l : List Dat} {w : Wld} {k : Dat → Wld → Prop} : P_k65_steps [.int b, .int r, .lst l] w k = (∃ (B R : Nat) (fs : List Nat), b = (B : Int) ∧ r = (R : Int) ∧ l = dN fs ∧ (8 ≤ B ∧ B ≤ 30) ∧ (2 ≤ R ∧ R ≤ 36) ∧ (∀ d ∈ fs, d < R) ∧ fs.length ≤ 600 ∧ k (.tup [.int (stepsR B R (gpR B R) fs : Nat), .int (vl R fs.reverse : Nat)]) w) := rfl
def sp_k65_steps (K : PySem.W.Frag) (c : Pc) : Sp := lif K c P_k65_steps
theorem u_k65_steps {K : PySem.W.Frag} {c : Pc} : SndP K c (sp_k65_steps K c) P_k65_steps := SndP.lif
/-- 0:_law_bits 1:_law_radix 2:_law_digits_so 3:_law_size 4:_law_worth_here 5:_law_found 6:_law_whole 7:_law_start 8:_law_value -/
def t_k65_steps (K : PySem.W.Frag) (c : Pc) : TS :=
  (tSeq (tAsg (tCall (sp_k64_group K c) [] E0 (tCons (tVar 0) (tCons (tVar 1) tNil))) (gTup K 2 (gCons (gName 3) (gCons (gName 4) gNil))))
  (tSeq (tAsg (tTup (tCons (tC (.int 0)) (tCons (tC (.int 0)) tNil))) (gTup K 2 (gCons (gName 5) (gCons (gName 6) gNil))))
  (tSeq (tFor (iRng3 (tCons (tC (.int 0)) (tCons (tCB (rLen K) (tCons (tVar 2) tNil)) (tCons (tVar 3) tNil)))) (gName 7) (tSeq (tAsg (tOp rAdd (tVar 5) (tOp rDiv (tOp rSub (tOp rAdd (tBits (tVar 6)) (tVar 0)) (tC (.int 1))) (tVar 0))) (gName 5))
  (tFor (iList K (tSl (rSlL K) (tVar 2) (tPart (tVar 7)) (tPart (tOp rAdd (tVar 7) (tVar 3))))) (gName 8) (tAsg (tOp rAdd (tOp rMul (tVar 6) (tVar 1)) (tVar 8)) (gName 6)))))
  (tRet (tTup (tCons (tVar 5) (tCons (tVar 6) tNil)))))))
def b1_k65_steps : PS :=
  (pSeq (pAsg (pOp qAdd (pVar 5) (pOp qDiv (pOp qSub (pOp qAdd (pBits (pVar 6)) (pVar 0)) (pC (.int 1))) (pVar 0))) 5)
  (pFor (pIL (pFz (pSlL (pVar 2) (pPart (pVar 7)) (pPart (pOp qAdd (pVar 7) (pVar 3)))))) (pgName 8) (pAsg (pOp qAdd (pOp qMul (pVar 6) (pVar 1)) (pVar 8)) 6)))
def p_k65_steps : PS :=
  (pSeq (pAsgG (pCall P_k64_group (pCons (pVar 0) (pCons (pVar 1) pNil))) (pgTup [3, 4]))
  (pSeq (pAsgG (pTup (pCons (pC (.int 0)) (pCons (pC (.int 0)) pNil))) (pgTup [5, 6]))
  (pSeq (pFor (pIR3 (pC (.int 0)) (pCB qLen (pCons (pVar 2) pNil)) (pVar 3)) (pgName 7) b1_k65_steps)
  (pRet (pTup (pCons (pVar 5) (pCons (pVar 6) pNil)))))))
theorem sn_k65_steps {K : PySem.W.Frag} {c : Pc} {α : Prop} (PM : PM K c) (PB : α) : SndS K c (t_k65_steps K c) p_k65_steps :=
  (snd_seq (snd_asgG (snd_call u_k64_group (snd_cons snd_var (snd_cons snd_var snd_nil))) (snd_gTup (is := [3, 4]) rfl))
  (snd_seq (snd_asgG (snd_tup (snd_cons (snd_int 0) (snd_cons (snd_int 0) snd_nil))) (snd_gTup (is := [5, 6]) rfl))
  (snd_seq (snd_for (snd_iR3 (snd_int 0) (snd_cb s_len (snd_cons snd_var snd_nil)) snd_var) snd_gName (snd_seq (snd_asg (snd_op s_add snd_var (snd_op s_div (snd_op s_sub (snd_op s_add (snd_Az snd_var) snd_var) (snd_int 1)) snd_var)))
  (snd_for (snd_iList (snd_fz (snd_slL snd_var (snd_part snd_var) (snd_part (snd_op s_add snd_var snd_var))))) snd_gName (snd_asg (snd_op s_add (snd_op s_mul snd_var snd_var) snd_var)))))
  (snd_ret (snd_tup (snd_cons snd_var (snd_cons snd_var snd_nil)))))))
theorem w_k65_steps : ∀ ds w k, P_k65_steps ds w k → p_k65_steps (pen k) (env0 9 ds) w := by
  intro ds w k h
  unfold P_k65_steps at h
  split at h
  · rename_i b r l
    obtain ⟨B, R, fs, rfl, rfl, rfl, hb, hR, hdg, hlen, h⟩ := h
    have hz := sizeLine_eq
    unfold p_k65_steps
    walk_at "pt"
    have h28 : (2 : Nat) ^ 8 ≤ 2 ^ B := Nat.pow_le_pow_right (by decide) hb.1
    rw [e_k64_group]
    refine ⟨B, R, rfl, rfl, hR.1, hR.2, by omega, hb.2, fun s hs1 hs30 hs2 hs3 => ?_⟩
    have := gpR_uniq hb.1 hb.2 hR.1 hR.2 hs2 hs3
    subst this
    generalize gpR B R = s at *
    walk_at "pt"
    rw [dN_len]
    refine ⟨by omega, (fs.length + s - 1) / s, rgc_st (x := s) (y := fs.length) hs1 (by omega) (by omega), ?_⟩
    refine lp_ind (fun q e w' => w' = w ∧ ∃ (y7 y8 : Slot), e = [.val (.int (B : Int)), .val (.int (R : Int)), .val (.lst (dN fs)), .val (.int (s : Int)), .val (.int ((R ^ s : Nat) : Int)), .val (.int (((List.range q).map fun t => (digs B (vl R (fs.take (s * t)).reverse)).length).sum : Nat)), .val (.int (vl R (fs.take (s * q)).reverse : Nat)), y7, y8]) ⟨rfl, .no, .no, by rw [Nat.mul_zero, List.take_zero]; rfl⟩ ?_ ?_
    · rintro q d e w' nx hd' ⟨rfl, y7, y8, rfl⟩ hn
      obtain ⟨hq, rfl⟩ := rngC_get hd'
      unfold b1_k65_steps
      walk_at "pt"
      have hsq : s * q < fs.length := by
        have h1 : s * (q + 1) ≤ fs.length + s - 1 := by
          have := Nat.mul_le_mul_left s (show q + 1 ≤ (fs.length + s - 1) / s from hq)
          exact Nat.le_trans this (Nat.mul_div_le _ _)
        rw [Nat.mul_succ] at h1
        omega
      have e1 : (0 : Int) + (q : Int) * (s : Int) = ((s * q : Nat) : Int) := by rw [Int.zero_add, Int.natCast_mul, Int.mul_comm]
      have e2 : ((s * q : Nat) : Int) + (s : Int) = ((s * q + s : Nat) : Int) := by omega
      rw [e1, e2, cut_st (by omega)]
      have eL : ((Builtin.Int.intBits ((vl R (fs.take (s * q)).reverse : Nat) : Int) : Int) + (B : Int) - 1) / (B : Int) = ((digs B (vl R (fs.take (s * q)).reverse)).length : Int) := by
        rw [← size_bits6 (x := vl R (fs.take (s * q)).reverse) (show 1 ≤ B by omega)]
        have : ((Builtin.Int.intBits ((vl R (fs.take (s * q)).reverse : Nat) : Int) : Int) + (B : Int) - 1) = ((Builtin.Int.intBits ((vl R (fs.take (s * q)).reverse : Nat) : Int) + B - 1 : Nat) : Int) := by omega
        rw [this]; rfl
      have hsum : (((List.range q).map fun t => (digs B (vl R (fs.take (s * t)).reverse)).length).sum : Nat) + (digs B (vl R (fs.take (s * q)).reverse)).length = ((List.range (q + 1)).map fun t => (digs B (vl R (fs.take (s * t)).reverse)).length).sum := by
        rw [List.range_succ, List.map_append, List.sum_append]; simp
      have hbits : Builtin.Int.intBits ((vl R (fs.take (s * q)).reverse : Nat) : Int) ≤ 6 * fs.length := by
        refine intBits_le_iff.mpr ?_
        rw [Int.natAbs_natCast]
        have h1 := vl_lt (r := R) (l := (fs.take (s * q)).reverse) fun d hd => hdg d (List.mem_of_mem_take (List.mem_reverse.mp hd))
        rw [List.length_reverse, List.length_take] at h1
        refine Nat.lt_of_lt_of_le h1 (Nat.le_trans (Nat.pow_le_pow_left (show R ≤ 2 ^ 6 by omega) _) ?_)
        rw [← Nat.pow_mul]
        exact Nat.pow_le_pow_right (by decide) (by omega)
      have hsumI : (((((List.range q).map fun t => (digs B (vl R (fs.take (s * t)).reverse)).length).sum : Nat) : Int) + ((digs B (vl R (fs.take (s * q)).reverse)).length : Int)) = ((((List.range (q + 1)).map fun t => (digs B (vl R (fs.take (s * t)).reverse)).length).sum : Nat) : Int) := by rw [← hsum, Int.natCast_add]
      rw [eL, hsumI]
      generalize hch : (fs.drop (s * q)).take s = ch
      have htk : fs.take (s * (q + 1)) = fs.take (s * q) ++ ch := by rw [← hch, Nat.mul_succ, List.take_add]
      refine ⟨div_ok64 (by omega) (by omega), lp_ind (fun p e w'' => w'' = w' ∧ ∃ y8, e = [.val (.int (B : Int)), .val (.int (R : Int)), .val (.lst (dN fs)), .val (.int (s : Int)), .val (.int ((R ^ s : Nat) : Int)), .val (.int (((List.range (q + 1)).map fun t => (digs B (vl R (fs.take (s * t)).reverse)).length).sum : Nat)), .val (.int (vl R (fs.take (s * q) ++ ch.take p).reverse : Nat)), .val (.int ((s * q : Nat) : Int)), y8]) ⟨rfl, _, by rw [List.take_zero, List.append_nil]⟩ ?_ ?_⟩
      · rintro p d e w'' nx2 hd2 ⟨rfl, y8, rfl⟩ hn2
        obtain ⟨v, hv, rfl⟩ := dN_get hd2
        walk_at "pt"
        have h3 : ch.take (p + 1) = ch.take p ++ [v] := by rw [List.take_add_one, hv]; rfl
        have a1 : ((vl R (fs.take (s * q) ++ ch.take p).reverse : Nat) : Int) * (R : Int) + (v : Int) = ((vl R (fs.take (s * q) ++ ch.take (p + 1)).reverse : Nat) : Int) := by
          rw [h3, ← List.append_assoc, vl_rev_snoc, Int.natCast_add, Int.natCast_mul, Int.mul_comm (R : Int), Int.add_comm]
        rw [a1]
        exact ⟨mul_okR (by omega) (by omega), hn2 _ _ ⟨rfl, _, rfl⟩⟩
      · rintro e w'' ⟨rfl, y8, rfl⟩
        rw [dN_len, List.take_length, ← htk]
        exact hn _ _ ⟨rfl, _, _, rfl⟩
    · rintro e w' ⟨rfl, y7, y8, rfl⟩
      walk_at "pt"
      rw [rngC_len]
      have ht : fs.take (s * ((fs.length + s - 1) / s)) = fs := by
        refine List.take_of_length_le ?_
        have := Nat.div_add_mod (fs.length + s - 1) s
        have := Nat.mod_lt (fs.length + s - 1) (show 0 < s by omega)
        omega
      rw [ht]
      exact ⟨by omega, h⟩
  · exact h.elim
theorem b_k65_steps {K : PySem.W.Frag} {c : Pc} {vs : List V} {H : Hp} {Q : VK} {E : XK} {α : Prop} (PM : PM K c) (PB : α) (h : sp_k65_steps K c vs H Q E) : t_k65_steps K c (en0 Q) (st0 9 vs) H := def_ok (sn_k65_steps PM PB) w_k65_steps h
/-- figures, some behind a "_" -/
def bd (cs : List (Bool × Nat)) : List Nat := cs.flatMap fun p => if p.1 then [95, p.2] else [p.2]
theorem bd_app (a b : List (Bool × Nat)) : bd (a ++ b) = bd a ++ bd b := List.flatMap_append
theorem bd_cons (p : Bool × Nat) (a : List (Bool × Nat)) : bd (p :: a) = (if p.1 then [95, p.2] else [p.2]) ++ bd a := List.flatMap_cons
theorem bd_len (cs : List (Bool × Nat)) : (bd cs).length ≤ 2 * cs.length := by
  induction cs with
  | nil => exact Nat.zero_le _
  | cons p a ih =>
    rw [bd_cons, List.length_append, List.length_cons]
    split <;> simp <;> omega
theorem figV_lt {c v : Nat} (h : figV c = some v) : c < 128 ∧ 48 ≤ c ∧ c ≠ 95 ∧ isBl c = false := by
  have h1 : 48 ≤ c ∧ c < 128 ∧ c ≠ 95 := by
    unfold figV at h
    by_cases a1 : 48 ≤ c ∧ c ≤ 57
    · omega
    · rw [if_neg a1] at h
      by_cases a2 : 97 ≤ c ∧ c ≤ 122
      · omega
      · rw [if_neg a2] at h
        by_cases a3 : 65 ≤ c ∧ c ≤ 90
        · omega
        · rw [if_neg a3] at h; cases h
  refine ⟨h1.2.1, h1.1, h1.2.2, ?_⟩
  have : ∀ c : Nat, c < 128 → 48 ≤ c → isBl c = false := by decide +kernel
  exact this c h1.2.1 h1.1
theorem bl_lt {c : Nat} (h : isBl c = true) : c < 128 ∧ c ≠ 95 ∧ figV c = none ∧ c ≠ 43 ∧ c ≠ 45 ∧ pfx c = none := by
  have e : (Str.ofString " \t\n").cps.toList = [32, 9, 10] := by decide +kernel
  have h' : c ∈ [32, 9, 10] := by rw [← e]; exact of_decide_eq_true h
  simp only [List.mem_cons, List.not_mem_nil, or_false] at h'
  rcases h' with rfl | rfl | rfl <;> decide
theorem LpR_bd {B : Nat} {hz : Bool} {rest : List Nat} (h1 : hdIn rest [95] = false) (h2 : valC B hz rest = none) : ∀ (cs : List (Bool × Nat)) (fs : List Nat), cs.map (fun p => figV p.2) = fs.map some → (∀ d ∈ fs, d < B ∧ (hz = true → d = 0)) → LpR B hz (bd cs ++ rest) fs rest
  | [], [], _, _ => .nil h1 h2
  | [], _ :: _, h, _ => nomatch h
  | _ :: _, [], h, _ => nomatch h
  | p :: cs, v :: fs, h, hd => by
    rw [List.map_cons, List.map_cons] at h
    obtain ⟨hv, ht⟩ := List.cons.inj h
    have ih := LpR_bd h1 h2 cs fs ht fun d hd2 => hd d (List.mem_cons_of_mem _ hd2)
    have hvv := hd v List.mem_cons_self
    have hval : valC B hz (p.2 :: (bd cs ++ rest)) = some v := by
      unfold valC
      simp only [hv]
      rw [if_pos ⟨hvv.1, fun z => by have := hvv.2 z.1; omega⟩]
    obtain ⟨u, c⟩ := p
    rw [bd_cons]
    cases u with
    | true => exact .und hval ih
    | false =>
      refine .fig ?_ hval ih
      show decide (c ∈ [95]) = false
      have := (figV_lt hv).2.2.1
      simp [this]
/-- a drawn text -/
structure WrT (side : Int) (fs : List Nat) (R : Nat) (h : Bool) (t : List Nat) : Prop where
  ok : ∃ (e0 e1 sg pre : List Nat) (c0 : Nat) (cs : List (Bool × Nat)), t = e0 ++ (sg ++ (pre ++ (bd ((false, c0) :: cs) ++ e1))) ∧ (∀ c ∈ e0, isBl c = true) ∧ (∀ c ∈ e1, isBl c = true) ∧ e0.length ≤ 10 ∧ e1.length ≤ 10 ∧ ((side = -1 ∧ sg = [45]) ∨ (side = 1 ∧ (sg = [] ∨ sg = [43]))) ∧ (h = false → pre = []) ∧ (h = true → ∃ pc, pfx pc = some R ∧ pc < 128 ∧ (pre = [48, pc] ∨ pre = [48, pc, 95])) ∧ ((false, c0) :: cs).map (fun p => figV p.2) = fs.map some
theorem nB_app {e r : List Nat} (h : ∀ c ∈ e, isBl c = true) (h2 : ∀ c r', r = c :: r' → isBl c = false) : nB (e ++ r) = e.length := by
  unfold nB
  induction e with
  | nil =>
    cases r with
    | nil => rfl
    | cons c r' => rw [List.nil_append, List.takeWhile_cons, if_neg (by rw [h2 c r' rfl]; decide)]
  | cons c e ih =>
    rw [List.cons_append, List.takeWhile_cons, if_pos (h c List.mem_cons_self), List.length_cons, List.length_cons, ih fun d hd => h d (List.mem_cons_of_mem _ hd)]
theorem pfx_fig {c v P : Nat} (h : pfx c = some P) (hv : figV c = some v) : P < v ∧ 10 < v := by
  have : ∀ c : Nat, c < 128 → (match pfx c, figV c with | some P, some v => decide (P < v ∧ 10 < v) | _, _ => true) = true := by decide +kernel
  have := this c (figV_lt hv).1
  rw [h, hv] at this
  exact of_decide_eq_true this
theorem pfxOf_no {b : Nat} {l : List Nat} (h : ∀ c0 c r P, l = c0 :: c :: r → pfx c = some P → ¬ (b = 0 ∨ b = P)) : pfxOf b l = none := by
  unfold pfxOf
  split
  · rename_i c r
    cases hp : pfx c with
    | none => rfl
    | some P => simp only []; rw [if_neg (h _ _ _ _ rfl hp)]
  · rfl
theorem sg_side {side : Int} {sg l1 : List Nat} (hs : (side = -1 ∧ sg = [45]) ∨ (side = 1 ∧ (sg = [] ∨ sg = [43]))) (h : l1.getD 0 0 ≠ 45 ∧ l1.getD 0 0 ≠ 43) : side = (if (sg ++ l1).getD 0 0 = 45 then -1 else 1) ∧ l1 = (sg ++ l1).drop (if hdIn (sg ++ l1) [43, 45] then 1 else 0) := by
  rcases hs with ⟨rfl, rfl⟩ | ⟨rfl, rfl | rfl⟩
  · exact ⟨rfl, rfl⟩
  · rw [List.nil_append, if_neg h.1]
    refine ⟨rfl, ?_⟩
    have : hdIn l1 [43, 45] = false := by
      cases l1 with
      | nil => rfl
      | cons c r =>
        have h1 : c ≠ 45 := h.1
        have h2 : c ≠ 43 := h.2
        show decide (c ∈ [43, 45]) = false
        simp [h1, h2]
    rw [this]; rfl
  · exact ⟨rfl, rfl⟩
theorem WrT.rd {side : Int} {fs t : List Nat} {R b : Nat} {h : Bool} (W : WrT side fs R h t) (hd : ∀ d ∈ fs, d < R) (hR : 2 ≤ R ∧ R ≤ 36) (hl : fs.length ≤ 600)
    (hb : b = R ∨ (b = 0 ∧ (h = true ∨ (R = 10 ∧ (fs.getD 0 0 ≠ 0 ∨ ∀ d ∈ fs, d = 0))))) : ∃ hz, RdT b t side R hz fs := by
  obtain ⟨e0, e1, sg, pre, c0, cs, rfl, he0, he1, l0, l1, hs, hp0, hp1, hcs⟩ := W.ok
  obtain ⟨v0, fs', rfl⟩ : ∃ v0 fs', fs = v0 :: fs' := by
    cases fs with
    | nil => cases hcs
    | cons v0 fs' => exact ⟨v0, fs', rfl⟩
  rw [List.map_cons, List.map_cons] at hcs
  obtain ⟨hv0, hcs⟩ := List.cons.inj hcs
  have hv0 : figV c0 = some v0 := hv0
  obtain ⟨hc1, hc2, hc3, hc4⟩ := figV_lt hv0
  have hcm : ∀ p ∈ cs, ∃ v ∈ fs', figV p.2 = some v := fun p hp => by
    have : figV p.2 ∈ fs'.map some := by rw [← hcs]; exact List.mem_map_of_mem hp
    obtain ⟨v, h1, h2⟩ := List.mem_map.mp this
    exact ⟨v, h1, h2.symm⟩
  have hbd : ∀ c ∈ bd cs, c = 95 ∨ ∃ v ∈ fs', figV c = some v := fun c hc => by
    obtain ⟨p, hp, hc⟩ := List.mem_flatMap.mp hc
    obtain ⟨v, h1, h2⟩ := hcm p hp
    split at hc
    · simp only [List.mem_cons, List.not_mem_nil, or_false] at hc
      rcases hc with rfl | rfl
      · exact .inl rfl
      · exact .inr ⟨v, h1, h2⟩
    · rw [List.mem_singleton.mp hc]; exact .inr ⟨v, h1, h2⟩
  have hlen2 : cs.length ≤ 600 := by
    have := congrArg List.length hcs
    rw [List.length_map, List.length_map] at this
    rw [List.length_cons] at hl
    omega
  have hbl := bd_len cs
  have e95 : hdIn e1 [95] = false := by
    cases e1 with
    | nil => rfl
    | cons c r =>
      have := (bl_lt (he1 c List.mem_cons_self)).2.1
      show decide (c ∈ [95]) = false
      simp [this]
  have eval : ∀ hz, valC R hz e1 = none := fun hz => by
    cases e1 with
    | nil => rfl
    | cons c r =>
      have := (bl_lt (he1 c List.mem_cons_self)).2.2.1
      unfold valC
      simp only [this]
  have enB : nB e1 = e1.length := by
    have := nB_app (r := []) he1 (fun _ _ z => nomatch z)
    rwa [List.append_nil] at this
  rw [bd_cons, if_neg (by simp), List.append_assoc, List.singleton_append]
  have fin : ∀ (hz : Bool) (n : Nat), (hz = true → ∀ d ∈ v0 :: fs', d = 0) → (pre ++ c0 :: (bd cs ++ e1)).getD 0 0 ≠ 45 ∧ (pre ++ c0 :: (bd cs ++ e1)).getD 0 0 ≠ 43 ∧ isBl ((pre ++ c0 :: (bd cs ++ e1)).getD 0 0) = false → pre.length ≤ 3 → (∀ c ∈ pre, c < 128) → bsF b false (pre ++ c0 :: (bd cs ++ e1)) = (n, R, hz) → (pre ++ c0 :: (bd cs ++ e1)).drop n = c0 :: (bd cs ++ e1) → RdT b (e0 ++ (sg ++ (pre ++ c0 :: (bd cs ++ e1)))) side R hz (v0 :: fs') := by
    intro hz n hzz hhd hpl hpa hbs hdr
    obtain ⟨hs1, hs2⟩ := sg_side (l1 := pre ++ c0 :: (bd cs ++ e1)) hs ⟨hhd.1, hhd.2.1⟩
    have hsa : (∀ c ∈ sg, c < 128) ∧ sg.length ≤ 1 := by
      rcases hs with ⟨_, rfl⟩ | ⟨_, rfl | rfl⟩ <;> exact ⟨by decide, by decide⟩
    have hnb : nB (e0 ++ (sg ++ (pre ++ c0 :: (bd cs ++ e1)))) = e0.length := by
      refine nB_app he0 fun c r' e => ?_
      rcases hs with ⟨_, rfl⟩ | ⟨_, rfl | rfl⟩
      · cases e; decide +kernel
      · rw [List.nil_append] at e
        rw [e] at hhd
        exact hhd.2.2
      · cases e; decide +kernel
    refine ⟨fun c hc => ?_, ?_, sg ++ (pre ++ c0 :: (bd cs ++ e1)), pre ++ c0 :: (bd cs ++ e1), c0 :: (bd cs ++ e1), fs', e1, n, v0, ?_, hs1, hs2, hbs, hdr.symm, ?_, ?_, enB, rfl⟩
    · rcases List.mem_append.mp hc with hc | hc
      · exact (bl_lt (he0 c hc)).1
      rcases List.mem_append.mp hc with hc | hc
      · exact hsa.1 c hc
      rcases List.mem_append.mp hc with hc | hc
      · exact hpa c hc
      rcases List.mem_cons.mp hc with rfl | hc
      · exact hc1
      rcases List.mem_append.mp hc with hc | hc
      · rcases hbd c hc with rfl | ⟨v, _, h2⟩
        · decide
        · exact (figV_lt h2).1
      · exact (bl_lt (he1 c hc)).1
    · simp only [List.length_append, List.length_cons]
      omega
    · rw [hnb, List.drop_left]
    · unfold valC
      simp only [hv0]
      rw [if_pos ⟨hd v0 List.mem_cons_self, fun z => by have := hzz z.1 v0 List.mem_cons_self; omega⟩]
    · rw [List.drop_one, List.tail_cons]
      exact LpR_bd e95 (eval hz) cs fs' hcs fun d hd2 => ⟨hd d (List.mem_cons_of_mem _ hd2), fun z => hzz z d (List.mem_cons_of_mem _ hd2)⟩
  cases h with
  | true =>
    obtain ⟨pc, hpc, hpc2, hpre⟩ := hp1 rfl
    have hbR : b = 0 ∨ b = R := by rcases hb with z | ⟨z, _⟩ <;> omega
    refine ⟨false, ?_⟩
    rcases hpre with rfl | rfl
    · refine fin false 2 (fun z => nomatch z) ⟨by simp, by simp, by simp; decide +kernel⟩ (by simp) (fun c hc => ?_) ?_ rfl
      · simp only [List.mem_cons, List.not_mem_nil, or_false] at hc
        omega
      · unfold bsF
        simp only [List.cons_append, List.nil_append, pfxOf, hpc]
        rw [if_pos hbR]
        simp [hc3]
    · refine fin false 3 (fun z => nomatch z) ⟨by simp, by simp, by simp; decide +kernel⟩ (by simp) (fun c hc => ?_) ?_ rfl
      · simp only [List.mem_cons, List.not_mem_nil, or_false] at hc
        omega
      · unfold bsF
        simp only [List.cons_append, List.nil_append, pfxOf, hpc]
        rw [if_pos hbR]
        simp
  | false =>
    have := hp0 rfl
    subst this
    have hno : pfxOf b ([] ++ c0 :: (bd cs ++ e1)) = none := by
      refine pfxOf_no fun x c r P e hp => ?_
      rw [List.nil_append] at e
      have e' : bd cs ++ e1 = c :: r := (List.cons.inj e).2
      have hc : c ∈ bd cs ++ e1 := by rw [e']; exact List.mem_cons_self
      rcases List.mem_append.mp hc with hc | hc
      · rcases hbd c hc with rfl | ⟨v, h1, h2⟩
        · cases (show pfx 95 = none by decide).symm.trans hp
        · have h3 := pfx_fig hp h2
          have h4 := hd v (List.mem_cons_of_mem _ h1)
          rcases hb with z | ⟨z, z2 | z2⟩
          · omega
          · cases z2
          · omega
      · cases (bl_lt (he1 c hc)).2.2.2.2.2.symm.trans hp
    have hbs : bsF b false ([] ++ c0 :: (bd cs ++ e1)) = if b = 0 then (0, 10, decide (c0 = 48)) else (0, b, false) := by
      unfold bsF
      rw [hno]
      rfl
    rcases hb with rfl | ⟨rfl, z2 | ⟨rfl, z2⟩⟩
    · refine ⟨false, fin false 0 (fun z => nomatch z) ⟨by show c0 ≠ 45; omega, by show c0 ≠ 43; omega, hc4⟩ (by decide) (by simp) ?_ rfl⟩
      rw [hbs, if_neg (by omega)]
    · cases z2
    · refine ⟨decide (c0 = 48), fin _ 0 (fun z => ?_) ⟨by show c0 ≠ 45; omega, by show c0 ≠ 43; omega, hc4⟩ (by decide) (by simp) ?_ rfl⟩
      · have h48 := of_decide_eq_true z
        subst h48
        have : v0 = 0 := by
          have : figV 48 = some 0 := by decide
          rw [this] at hv0; exact (Option.some.inj hv0).symm
        rcases z2 with z2 | z2
        · exact absurd (show (v0 :: fs').getD 0 0 = 0 by simpa using this) z2
        · exact z2
      · rw [hbs, if_pos rfl]
def P_k65_figures : PSpO := fun ds l w k => match ds with
  | [.int n, .int r] => ∃ (N R z : Nat), n = (N : Int) ∧ r = (R : Int) ∧ (2 ≤ R ∧ R ≤ 36) ∧ N < 2 ^ 450 ∧ Prs z l ∧ z + 10 < 2 ^ 40 ∧ ∀ (q : Nat) l', q ≤ 40 → Prs (z + 1) l' → k (.lst (dN (List.replicate q 0 ++ (dg R N).reverse))) l' w
  | _ => False
def sp_k65_figures (K : PySem.W.Frag) (c : Pc) : Sp := lifO K c P_k65_figures
theorem uO_k65_figures {K : PySem.W.Frag} {c : Pc} : SndPO K c (sp_k65_figures K c) P_k65_figures := SndPO.lif
/-- 0:_law_purse_here 1:_law_n 2:_law_radix 3:_law_found -/
def t_k65_figures (K : PySem.W.Frag) (c : Pc) : TS :=
  (tSeq (tAsg (tLst tNil) (gName 3))
  (tSeq (tWhile (tTest (tOp rGt (tVar 1) (tC (.int 0)))) (tSeq (tDrop (tBM K "list" rAppend (tVar 3) (tCons (tOp rMod (tCB rInt (tCons (tVar 1) tNil)) (tVar 2)) tNil)))
  (tAsg (tOp rDiv (tVar 1) (tVar 2)) (gName 1))))
  (tRet (tOp rCat (tOp rRep (tLst (tCons (tC (.int 0)) tNil)) (tCall (sp_z_pick K c) [] E0 (tCons (tVar 0) (tCons (tLst (tCons (tC (.int 0)) (tCons (tC (.int 0)) (tCons (tCB rInt (tCons (tOp (rEqD K) (tVar 3) (tLst tNil)) tNil)) (tCons (tC (.int 1)) (tCons (tC (.int 5)) (tCons (tC (.int 40)) tNil))))))) tNil)))) (tRevL K (tVar 3))))))
def b1_k65_figures : PS :=
  (pSeq (pAppend 3 (pOp qMod (pCB qInt (pCons (pVar 1) pNil)) (pVar 2)))
  (pAsg (pOp qDiv (pVar 1) (pVar 2)) 1))
def p_k65_figures : PS :=
  (pSeq (pAsgO (pLst pNil) 3)
  (pSeq (pWhile (pTest (pOp qGt (pVar 1) (pC (.int 0)))) b1_k65_figures)
  (pFrz [3] (pRet (pFz (pOpF qCat (pFz (pOpF qRep (pFz (pLst (pCons (pC (.int 0)) pNil))) (pCallO P_z_pick 0 (pCons (pFz (pLst (pCons (pC (.int 0)) (pCons (pC (.int 0)) (pCons (pCB qInt (pCons (pOp qEqD (pVar 3) (pFz (pLst pNil))) pNil)) (pCons (pC (.int 1)) (pCons (pC (.int 5)) (pCons (pC (.int 40)) pNil)))))))) pNil)))) (pFz (pRevL (pVar 3)))))))))
theorem sn_k65_figures {K : PySem.W.Frag} {c : Pc} {α : Prop} (PM : PM K c) (PB : α) : SndS K c (t_k65_figures K c) p_k65_figures :=
  (snd_seq (snd_asgO (snd_lst snd_nil))
  (snd_seq (snd_while (snd_test (snd_op s_gt snd_var (snd_int 0))) (snd_seq (snd_append (snd_op s_mod (snd_cb s_int (snd_cons snd_var snd_nil)) snd_var))
  (snd_asg (snd_op s_div snd_var snd_var))))
  (snd_frz (snd_ret (snd_fz (snd_opF s_cat (snd_fz (snd_opF s_rep (snd_fz (snd_lst (snd_cons (snd_int 0) snd_nil))) (snd_callO uO_z_pick (snd_cons (snd_fz (snd_lst (snd_cons (snd_int 0) (snd_cons (snd_int 0) (snd_cons (snd_cb s_int (snd_cons (snd_op s_eqD snd_var (snd_fz (snd_lst snd_nil))) snd_nil)) (snd_cons (snd_int 1) (snd_cons (snd_int 5) (snd_cons (snd_int 40) snd_nil)))))))) snd_nil)))) (snd_fz (snd_revL snd_var))))))))
theorem n_k65_figures : ∀ ds l w k, P_k65_figures ds l w k → ds.length + 1 = 3 := fun ds l w k h => by
  unfold P_k65_figures at h
  split at h
  · rfl
  · exact h.elim
theorem e_k65_figures {n r : Int} {l : List Dat} {w : Wld} {k : Dat → List Dat → Wld → Prop} : P_k65_figures [.int n, .int r] l w k = ∃ (N R z : Nat), n = (N : Int) ∧ r = (R : Int) ∧ (2 ≤ R ∧ R ≤ 36) ∧ N < 2 ^ 450 ∧ Prs z l ∧ z + 10 < 2 ^ 40 ∧ ∀ (q : Nat) l', q ≤ 40 → Prs (z + 1) l' → k (.lst (dN (List.replicate q 0 ++ (dg R N).reverse))) l' w := rfl
theorem w_k65_figures : ∀ ds l w k, P_k65_figures ds l w k → p_k65_figures (penF k) (env0O 4 l ds) w := by
  intro ds l w k h
  unfold P_k65_figures at h
  split at h
  · rename_i n r
    obtain ⟨N, R, z, rfl, rfl, hR, hN, hp, hz40, h⟩ := h
    have hz := sizeLine_eq
    have hdl := dg_len2 hR.1 hN
    unfold p_k65_figures
    walk_at "pt"
    refine ⟨by omega, whl_ind (fun mm e w' => w' = w ∧ ∃ (fs : List Nat), fs ++ dg R mm = dg R N ∧ e = [.own false l, .val (.int (mm : Int)), .val (.int (R : Int)), .own true (dN fs)]) N ⟨rfl, [], rfl, rfl⟩ ?_⟩
    rintro mm e w' nx ⟨rfl, fs, hfs, rfl⟩ hn
    have hfl : fs.length ≤ 450 := by
      have := congrArg List.length hfs
      rw [List.length_append] at this; omega
    walk_at "pt"
    refine ite_2 (fun c => ?_) fun c => ?_
    · unfold b1_k65_figures
      walk_at "pt"
      have e1 : (mm : Int) % (R : Int) = ((mm % R : Nat) : Int) := (Int.natCast_emod ..).symm
      have e2 : (mm : Int) / (R : Int) = ((mm / R : Nat) : Int) := (Int.natCast_ediv ..).symm
      rw [e1, e2, dN_one, dN_app, dN_len]
      refine ⟨by omega, by omega, div_ok64 (by omega) (by omega), hn (mm / R) _ _ (Nat.div_lt_self (by omega) hR.1) ⟨rfl, fs ++ [mm % R], ?_, rfl⟩⟩
      rw [← hfs, dg_pos (n := mm) hR.1 (by omega), List.append_assoc]; rfl
    · have h0 : mm = 0 := by omega
      subst h0
      rw [dg_zero, List.append_nil] at hfs
      subst hfs
      walk_at "pt"
      refine ⟨by omega, by omega, ⟨pl_dN _, pl_dN []⟩, fun bq _ _ => ⟨by omega, ?_⟩⟩
      rw [e_z_pick]
      refine ⟨_, hp, by omega, ⟨by simp, by simp⟩, fun d l' hd hp1 => ?_⟩
      obtain ⟨q, rfl, hq⟩ : ∃ q : Nat, d = .int (q : Int) ∧ q ≤ 40 := by
        simp only [List.mem_cons, List.not_mem_nil, or_false] at hd
        rcases hd with rfl | rfl | rfl | rfl | rfl | rfl
        · exact ⟨0, rfl, by omega⟩
        · exact ⟨0, rfl, by omega⟩
        · cases bq
          · exact ⟨0, rfl, by omega⟩
          · exact ⟨1, rfl, by omega⟩
        · exact ⟨1, rfl, by omega⟩
        · exact ⟨5, rfl, by omega⟩
        · exact ⟨40, rfl, by omega⟩
      have e0 : (List.replicate q [Dat.int 0]).flatten = dN (List.replicate q 0) := dN_zeros q
      rw [eRep, Int.toNat_natCast, e0, dN_rev, dN_app, dN_len, dN_len, List.length_replicate, List.length_reverse]
      exact ⟨⟨by omega, by omega, by simp; omega⟩, by omega, h q l' hq hp1⟩
  · exact h.elim
theorem b_k65_figures {K : PySem.W.Frag} {c : Pc} {vs : List V} {H : Hp} {Q : VK} {E : XK} {α : Prop} (PM : PM K c) (PB : α) (h : sp_k65_figures K c vs H Q E) : t_k65_figures K c (en0 Q) (st0 4 vs) H := def_okO (sn_k65_figures PM PB) (fun ds l w k h => by have := n_k65_figures ds l w k h; omega) w_k65_figures h
theorem str_app (a b : List Nat) : (⟨a.toArray⟩ : Str) ++ (⟨b.toArray⟩ : Str) = ⟨(a ++ b).toArray⟩ := by
  show Str.mk (a.toArray ++ b.toArray) = _
  rw [List.append_toArray]
theorem str_len (a : List Nat) : (⟨a.toArray⟩ : Str).length = a.length := List.size_toArray
/-- the capital sign of a digit -/
def figU (d : Nat) : Nat := if d < 10 then 48 + d else 55 + d
theorem fig_up {v : Nat} (h : v < 36) : Txt.upper ⟨#[fig v]⟩ = ⟨#[figU v]⟩ ∧ figV (fig v) = some v ∧ figV (figU v) = some v := by
  have : ∀ v : Nat, v < 36 → Txt.upper ⟨#[fig v]⟩ = ⟨#[figU v]⟩ ∧ figV (fig v) = some v ∧ figV (figU v) = some v := by decide +kernel
  exact this v h
def P_k65_written : PSpO := fun ds l w k => match ds with
  | [.int side, .lst l1, .int r, .bl h] => ∃ (fs : List Nat) (R z : Nat), (side = 1 ∨ side = -1) ∧ l1 = dN fs ∧ fs ≠ [] ∧ r = (R : Int) ∧ (2 ≤ R ∧ R ≤ 36) ∧ (∀ d ∈ fs, d < R) ∧ fs.length ≤ 600 ∧ (h = true → R = 2 ∨ R = 8 ∨ R = 16) ∧ Prs z l ∧ z + 1300 < 2 ^ 40 ∧ ∀ (t : List Nat) l', WrT side fs R h t → Prs (z + 1300) l' → k (.str ⟨t.toArray⟩) l' w
  | _ => False
def sp_k65_written (K : PySem.W.Frag) (c : Pc) : Sp := lifO K c P_k65_written
theorem uO_k65_written {K : PySem.W.Frag} {c : Pc} : SndPO K c (sp_k65_written K c) P_k65_written := SndPO.lif
/-- 0:_law_purse_here 1:_law_side 2:_law_figures_here 3:_law_radix 4:_law_has_prefix 5:_law_line 6:_law_place 7:_law_value 8:_law_sign 9:_law_letter 10:_law_ends 11:_law_turn -/
def t_k65_written (K : PySem.W.Frag) (c : Pc) : TS :=
  (tSeq (tAsg (tC (.str "")) (gName 5))
  (tSeq (tFor (iEnumA K (tCons (tVar 2) tNil)) (gTup K 2 (gCons (gName 6) (gCons (gName 7) gNil))) (tSeq (tAsg (tOp rIxS (tC (.str "0123456789abcdefghijklmnopqrstuvwxyz")) (tVar 7)) (gName 8))
  (tSeq (tAsg (tIf (tTest (tOp rEq (tCall (sp_z_coin K c) [] E0 (tCons (tVar 0) (tCons (tC (.int 3)) tNil))) (tC (.int 0)))) (tM0 rUpper (tVar 8)) (tVar 8)) (gName 8))
  (tAsg (tOp rAddS (tOp rAddS (tVar 5) (tIf (tAnd (tTest (tOp rGt (tVar 6) (tC (.int 0)))) (tTest (tOp rEq (tCall (sp_z_coin K c) [] E0 (tCons (tVar 0) (tCons (tC (.int 5)) tNil))) (tC (.int 0))))) (tC (.str "_")) (tC (.str "")))) (tVar 8)) (gName 5)))))
  (tSeq (tIfS (L2.tB (tVar 4)) (tSeq (tAsg (tDGet (tDisp [((tC (.int 2)), (tC (.str "b"))), ((tC (.int 8)), (tC (.str "o"))), ((tC (.int 16)), (tC (.str "x")))]) (tVar 3)) (gName 9))
  (tSeq (tAsg (tIf (tTest (tOp rEq (tCall (sp_z_coin K c) [] E0 (tCons (tVar 0) (tCons (tC (.int 3)) tNil))) (tC (.int 0)))) (tM0 rUpper (tVar 9)) (tVar 9)) (gName 9))
  (tAsg (tOp rAddS (tOp rAddS (tOp rAddS (tC (.str "0")) (tVar 9)) (tCall (sp_z_pick K c) [] E0 (tCons (tVar 0) (tCons (tLst (tCons (tC (.str "")) (tCons (tC (.str "")) (tCons (tC (.str "_")) tNil)))) tNil)))) (tVar 5)) (gName 5)))) tNext)
  (tSeq (tAsg (tOp rAddS (tIf (tTest (tOp rLt (tVar 1) (tC (.int 0)))) (tC (.str "-")) (tCall (sp_z_pick K c) [] E0 (tCons (tVar 0) (tCons (tLst (tCons (tC (.str "")) (tCons (tC (.str "")) (tCons (tC (.str "+")) tNil)))) tNil)))) (tVar 5)) (gName 5))
  (tSeq (tAsg (tLc (iRng1 (tCons (tC (.int 2)) tNil)) (gName 11) tYes (tCall (sp_z_pick K c) [] E0 (tCons (tVar 0) (tCons (tLst (tCons (tC (.str "")) (tCons (tC (.str "")) (tCons (tC (.str " ")) (tCons (tC (.str "  ")) (tCons (tC (.str "\n")) (tCons (tC (.str "\t ")) tNil))))))) tNil))) [11]) (gName 10))
  (tRet (tOp rAddS (tOp rAddS (tOp (rIxL K) (tVar 10) (tC (.int 0))) (tVar 5)) (tOp (rIxL K) (tVar 10) (tC (.int 1))))))))))
def b1_k65_written : PS :=
  (pSeq (pAsg (pOp qIxS (pC (.str "0123456789abcdefghijklmnopqrstuvwxyz")) (pVar 7)) 8)
  (pSeq (pAsg (pIf (pTest (pOp qEq (pCallO P_z_coin 0 (pCons (pC (.int 3)) pNil)) (pC (.int 0)))) (pUpper (pVar 8)) (pVar 8)) 8)
  (pAsg (pOp qAddS (pOp qAddS (pVar 5) (pIf (pAnd (pTest (pOp qGt (pVar 6) (pC (.int 0)))) (pTest (pOp qEq (pCallO P_z_coin 0 (pCons (pC (.int 5)) pNil)) (pC (.int 0))))) (pC (.str "_")) (pC (.str "")))) (pVar 8)) 5)))
def r4_k65_written : PS :=
  (pSeq (pAsg (pFz (pLc (pIR1 (pC (.int 2))) (pgName 11) pYes (pCallO P_z_pick 0 (pCons (pFz (pLst (pCons (pC (.str "")) (pCons (pC (.str "")) (pCons (pC (.str " ")) (pCons (pC (.str "  ")) (pCons (pC (.str "\n")) (pCons (pC (.str "\t ")) pNil)))))))) pNil)) [11])) 10)
  (pRet (pOp qAddS (pOp qAddS (pOp qIxL (pVar 10) (pC (.int 0))) (pVar 5)) (pOp qIxL (pVar 10) (pC (.int 1))))))
def r3_k65_written : PS :=
  (pSeq (pAsg (pOp qAddS (pIf (pTest (pOp qLt (pVar 1) (pC (.int 0)))) (pC (.str "-")) (pCallO P_z_pick 0 (pCons (pFz (pLst (pCons (pC (.str "")) (pCons (pC (.str "")) (pCons (pC (.str "+")) pNil))))) pNil))) (pVar 5)) 5)
  r4_k65_written)
def r2_k65_written : PS :=
  (pSeq (pIfS (pTest (pVar 4)) (pSeq (pAsg (pDGetK (pDispK [(Sum.inl 2, (pC (.str "b"))), (Sum.inl 8, (pC (.str "o"))), (Sum.inl 16, (pC (.str "x")))]) (pVar 3)) 9)
  (pSeq (pAsg (pIf (pTest (pOp qEq (pCallO P_z_coin 0 (pCons (pC (.int 3)) pNil)) (pC (.int 0)))) (pUpper (pVar 9)) (pVar 9)) 9)
  (pAsg (pOp qAddS (pOp qAddS (pOp qAddS (pC (.str "0")) (pVar 9)) (pCallO P_z_pick 0 (pCons (pFz (pLst (pCons (pC (.str "")) (pCons (pC (.str "")) (pCons (pC (.str "_")) pNil))))) pNil))) (pVar 5)) 5))) pNext)
  r3_k65_written)
def p_k65_written : PS :=
  (pSeq (pAsg (pC (.str "")) 5)
  (pSeq (pFor (pIEnum (pVar 2)) (pgTup [6, 7]) b1_k65_written)
  r2_k65_written))
theorem sn_k65_written {K : PySem.W.Frag} {c : Pc} {α : Prop} (PM : PM K c) (PB : α) : SndS K c (t_k65_written K c) p_k65_written :=
  (snd_seq (snd_asg (snd_str ""))
  (snd_seq (snd_for (snd_iEnumA snd_var) (snd_gTup (is := [6, 7]) rfl) (snd_seq (snd_asg (snd_op s_ixS (snd_str "0123456789abcdefghijklmnopqrstuvwxyz") snd_var))
  (snd_seq (snd_asg (snd_if (snd_test (snd_op s_eq (snd_callO uO_z_coin (snd_cons (snd_int 3) snd_nil)) (snd_int 0))) (snd_upper snd_var) snd_var))
  (snd_asg (snd_op s_addS (snd_op s_addS snd_var (snd_if (snd_and (snd_test (snd_op s_gt snd_var (snd_int 0))) (snd_test (snd_op s_eq (snd_callO uO_z_coin (snd_cons (snd_int 5) snd_nil)) (snd_int 0)))) (snd_str "_") (snd_str ""))) snd_var)))))
  (snd_seq (snd_ifS (snd_tB snd_var) (snd_seq (snd_asg (snd_dgetK (snd_dispK (show SndDK K c _ _ from ⟨rfl, (snd_str "b"), ⟨rfl, (snd_str "o"), ⟨rfl, (snd_str "x"), trivial⟩⟩⟩)) snd_var))
  (snd_seq (snd_asg (snd_if (snd_test (snd_op s_eq (snd_callO uO_z_coin (snd_cons (snd_int 3) snd_nil)) (snd_int 0))) (snd_upper snd_var) snd_var))
  (snd_asg (snd_op s_addS (snd_op s_addS (snd_op s_addS (snd_str "0") snd_var) (snd_callO uO_z_pick (snd_cons (snd_fz (snd_lst (snd_cons (snd_str "") (snd_cons (snd_str "") (snd_cons (snd_str "_") snd_nil))))) snd_nil))) snd_var)))) snd_next)
  (snd_seq (snd_asg (snd_op s_addS (snd_if (snd_test (snd_op s_lt snd_var (snd_int 0))) (snd_str "-") (snd_callO uO_z_pick (snd_cons (snd_fz (snd_lst (snd_cons (snd_str "") (snd_cons (snd_str "") (snd_cons (snd_str "+") snd_nil))))) snd_nil))) snd_var))
  (snd_seq (snd_asg (snd_fz (snd_lc (snd_iR1 (snd_int 2)) snd_gName (tgt_name _) snd_yes (snd_callO uO_z_pick (snd_cons (snd_fz (snd_lst (snd_cons (snd_str "") (snd_cons (snd_str "") (snd_cons (snd_str " ") (snd_cons (snd_str "  ") (snd_cons (snd_str "\n") (snd_cons (snd_str "\t ") snd_nil)))))))) snd_nil)))))
  (snd_ret (snd_op s_addS (snd_op s_addS (snd_op s_ixL snd_var (snd_int 0)) snd_var) (snd_op s_ixL snd_var (snd_int 1)))))))))
theorem n_k65_written : ∀ ds l w k, P_k65_written ds l w k → ds.length + 1 = 5 := fun ds l w k h => by
  unfold P_k65_written at h
  split at h
  · rfl
  · exact h.elim
theorem e_k65_written {side r : Int} {l1 : List Dat} {h : Bool} {l : List Dat} {w : Wld} {k : Dat → List Dat → Wld → Prop} : P_k65_written [.int side, .lst l1, .int r, .bl h] l w k = ∃ (fs : List Nat) (R z : Nat), (side = 1 ∨ side = -1) ∧ l1 = dN fs ∧ fs ≠ [] ∧ r = (R : Int) ∧ (2 ≤ R ∧ R ≤ 36) ∧ (∀ d ∈ fs, d < R) ∧ fs.length ≤ 600 ∧ (h = true → R = 2 ∨ R = 8 ∨ R = 16) ∧ Prs z l ∧ z + 1300 < 2 ^ 40 ∧ ∀ (t : List Nat) l', WrT side fs R h t → Prs (z + 1300) l' → k (.str ⟨t.toArray⟩) l' w := rfl
theorem bl_str {d : Dat} (h : d ∈ [Dat.str (Str.ofString ""), Dat.str (Str.ofString ""), Dat.str (Str.ofString " "), Dat.str (Str.ofString "  "), Dat.str (Str.ofString "\n"), Dat.str (Str.ofString "\t ")]) : ∃ e : List Nat, d = .str ⟨e.toArray⟩ ∧ (∀ c ∈ e, isBl c = true) ∧ e.length ≤ 10 := by
  simp only [List.mem_cons, List.not_mem_nil, or_false] at h
  rcases h with rfl | rfl | rfl | rfl | rfl | rfl
  · exact ⟨[], congrArg Dat.str (by decide +kernel), by decide, by decide⟩
  · exact ⟨[], congrArg Dat.str (by decide +kernel), by decide, by decide⟩
  · exact ⟨[32], congrArg Dat.str (by decide +kernel), by decide +kernel, by decide⟩
  · exact ⟨[32, 32], congrArg Dat.str (by decide +kernel), by decide +kernel, by decide⟩
  · exact ⟨[10], congrArg Dat.str (by decide +kernel), by decide +kernel, by decide⟩
  · exact ⟨[9, 32], congrArg Dat.str (by decide +kernel), by decide +kernel, by decide⟩
theorem k65_r4 {D : PEnds} {l : List Dat} {w : Wld} {x1 x2 x3 x4 x6 x7 x8 x9 x10 : Slot} {mid : List Nat} {z : Nat} (hp : Prs z l) (hz40 : z + 10 < 2 ^ 40) (hml : mid.length ≤ 1300)
    (h : ∀ (e0 e1 : List Nat) (l2 : List Dat) (ee : Pu.Env), (∀ c ∈ e0, isBl c = true) → (∀ c ∈ e1, isBl c = true) → e0.length ≤ 10 → e1.length ≤ 10 → Prs (z + 2) l2 → ee[0]? = some (.own false l2) → D.rt (.str ⟨(e0 ++ (mid ++ e1)).toArray⟩) ee w) :
    r4_k65_written D [.own false l, x1, x2, x3, x4, .val (.str ⟨mid.toArray⟩), x6, x7, x8, x9, x10, .no] w := by
  have hz := sizeLine_eq
  unfold r4_k65_written
  walk_at "pt"
  rw [show rng 0 (Int.toNat 2) = [Dat.int 0, Dat.int 1] from rfl, lcp_cons]
  refine ⟨⟨by decide, by decide⟩, ?_⟩
  walk_at "pt"
  rw [e_z_pick]
  refine ⟨by omega, _, hp, by omega, ⟨by simp, by simp⟩, fun d l2 hd hp1 => ?_⟩
  obtain ⟨e0, rfl, h1, h2⟩ := bl_str hd
  rw [lcp_cons]
  walk_at "pt"
  rw [e_z_pick]
  refine ⟨by omega, by omega, _, hp1, by omega, ⟨by simp, by simp⟩, fun d l3 hd hp2 => ?_⟩
  obtain ⟨e1, rfl, h3, h4⟩ := bl_str hd
  rw [lcp_nil]
  walk_at "pt"
  rw [str_app, str_app, str_len, str_len, str_len, str_len, List.length_append, List.append_assoc]
  exact ⟨by omega, by omega, by omega, h e0 e1 l3 _ h1 h3 h2 h4 hp2 rfl⟩
theorem k65_r3 {D : PEnds} {l : List Dat} {w : Wld} {x2 x3 x4 x6 x7 x8 x9 x10 : Slot} {side : Int} {mid : List Nat} {z : Nat} (hs : side = 1 ∨ side = -1) (hp : Prs z l) (hz40 : z + 20 < 2 ^ 40) (hml : mid.length ≤ 1250)
    (h : ∀ (e0 e1 sg : List Nat) (l2 : List Dat) (ee : Pu.Env), ((side = -1 ∧ sg = [45]) ∨ (side = 1 ∧ (sg = [] ∨ sg = [43]))) → (∀ c ∈ e0, isBl c = true) → (∀ c ∈ e1, isBl c = true) → e0.length ≤ 10 → e1.length ≤ 10 → Prs (z + 3) l2 → ee[0]? = some (.own false l2) → D.rt (.str ⟨(e0 ++ (sg ++ mid ++ e1)).toArray⟩) ee w) :
    r3_k65_written D [.own false l, .val (.int side), x2, x3, x4, .val (.str ⟨mid.toArray⟩), x6, x7, x8, x9, x10, .no] w := by
  have hz := sizeLine_eq
  have em : Str.ofString "-" = (⟨[45].toArray⟩ : Str) := by decide +kernel
  have key : ∀ (sg : List Nat) (l2 : List Dat), ((side = -1 ∧ sg = [45]) ∨ (side = 1 ∧ (sg = [] ∨ sg = [43]))) → sg.length ≤ 1 → Prs (z + 1) l2 → (⟨sg.toArray⟩ : Str).length + (⟨mid.toArray⟩ : Str).length ≤ sizeLine ∧ r4_k65_written D [.own false l2, .val (.int side), x2, x3, x4, .val (.str ((⟨sg.toArray⟩ : Str) ++ (⟨mid.toArray⟩ : Str))), x6, x7, x8, x9, x10, .no] w := fun sg l2 h1 h2 h3 => by
    rw [str_app, str_len, str_len]
    refine ⟨by omega, k65_r4 h3 (by omega) (by rw [List.length_append]; omega) fun e0 e1 l3 ee a1 a2 a3 a4 a5 a6 => h e0 e1 sg l3 ee h1 a1 a2 a3 a4 (a5.mono (by omega)) a6⟩
  unfold r3_k65_written
  walk_at "pt"
  rw [em]
  refine ite_2 (fun c => key [45] _ (.inl ⟨by omega, rfl⟩) (by decide) (hp.mono (by omega))) fun c => ⟨by omega, ?_⟩
  rw [e_z_pick]
  refine ⟨_, hp, by omega, ⟨by simp, by simp⟩, fun d l2 hd hp1 => ?_⟩
  obtain ⟨sg, rfl, hsg⟩ : ∃ sg : List Nat, d = .str ⟨sg.toArray⟩ ∧ (sg = [] ∨ sg = [43]) := by
    simp only [List.mem_cons, List.not_mem_nil, or_false] at hd
    rcases hd with rfl | rfl | rfl
    · exact ⟨[], congrArg Dat.str (by decide +kernel), .inl rfl⟩
    · exact ⟨[], congrArg Dat.str (by decide +kernel), .inl rfl⟩
    · exact ⟨[43], congrArg Dat.str (by decide +kernel), .inr rfl⟩
  rw [eAddS]
  exact key sg _ (.inr ⟨by omega, hsg⟩) (by rcases hsg with rfl | rfl <;> decide) hp1
theorem w_k65_written : ∀ ds l w k, P_k65_written ds l w k → p_k65_written (penF k) (env0O 12 l ds) w := by
  intro ds l w k h
  unfold P_k65_written at h
  split at h
  · rename_i side l1 r hh
    obtain ⟨fs, R, z, hs, rfl, hne, rfl, hR, hdg, hlen, hh1, hp, hz40, h⟩ := h
    have hz := sizeLine_eq
    unfold p_k65_written
    walk_at "pt"
    refine lp_ind (fun q e w' => w' = w ∧ ∃ (cs : List (Bool × Nat)) (l' : List Dat) (y6 y7 y8 : Slot), cs.map (fun p => figV p.2) = (fs.take q).map some ∧ (∀ p cs', cs = p :: cs' → p.1 = false) ∧ Prs (z + 2 * q) l' ∧ e = [.own false l', .val (.int side), .val (.lst (dN fs)), .val (.int (R : Int)), .val (.bl hh), .val (.str ⟨(bd cs).toArray⟩), y6, y7, y8, .no, .no, .no]) ⟨rfl, [], l, .no, .no, .no, rfl, (fun _ _ z => nomatch z), hp, rfl⟩ ?_ ?_
    · rintro q d e w' nx hd' ⟨rfl, cs, l', y6, y7, y8, hcs, hfst, hp', rfl⟩ hn
      obtain ⟨hq, rfl⟩ := enm_dN hd'
      have hvq : fs[q]? = some (fs.getD q 0) := by rw [List.getD_eq_getElem?_getD, List.getElem?_eq_getElem hq]; rfl
      generalize fs.getD q 0 = v at *
      have hvR : v < R := hdg v (List.mem_of_getElem? hvq)
      obtain ⟨hup, hf1, hf2⟩ := fig_up (v := v) (by omega)
      have hcl : cs.length = q := by
        have := congrArg List.length hcs
        rw [List.length_map, List.length_map, List.length_take] at this; omega
      have hbl := bd_len cs
      have htq : fs.take (q + 1) = fs.take q ++ [v] := by rw [List.take_add_one, hvq]; rfl
      have e95 : Str.ofString "_" = (⟨[95].toArray⟩ : Str) := by decide +kernel
      have e00 : Str.ofString "" = (⟨([] : List Nat).toArray⟩ : Str) := by decide +kernel
      have nxt : ∀ (c' : Nat) (u : Bool) (us : Str) (l2 : List Dat), us = ⟨(if u then [95] else [] : List Nat).toArray⟩ → figV c' = some v → (cs = [] → u = false) → Prs (z + 2 * (q + 1)) l2 →
          (⟨(bd cs).toArray⟩ : Str).length + us.length ≤ sizeLine ∧ ((⟨(bd cs).toArray⟩ : Str) ++ us).length + (⟨#[c']⟩ : Str).length ≤ sizeLine ∧
            nx [.own false l2, .val (.int side), .val (.lst (dN fs)), .val (.int (R : Int)), .val (.bl hh), .val (.str ((⟨(bd cs).toArray⟩ : Str) ++ us ++ ⟨#[c']⟩)), .val (.int (q : Int)), .val (.int (v : Int)), .val (.str ⟨#[c']⟩), .no, .no, .no] w' := by
        rintro c' u us l2 rfl hc hu hp2
        have e1 : (⟨#[c']⟩ : Str) = ⟨[c'].toArray⟩ := rfl
        have hul : (if u then [95] else [] : List Nat).length ≤ 1 := by cases u <;> decide
        rw [str_app, e1, str_app, str_len, str_len, str_len, str_len, List.length_append, List.length_singleton]
        refine ⟨by omega, by omega, hn _ _ ⟨rfl, cs ++ [(u, c')], l2, .val (.int (q : Int)), .val (.int (v : Int)), .val (.str ⟨#[c']⟩), ?_, ?_, hp2, ?_⟩⟩
        · rw [List.map_append, hcs, htq, List.map_append]
          show _ ++ [figV c'] = _
          rw [hc]; rfl
        · intro p cs' e
          cases cs with
          | nil => rw [List.nil_append] at e; cases e; exact hu rfl
          | cons p0 cs0 => cases e; exact hfst _ _ rfl
        · rw [bd_app, bd_cons, List.append_assoc]
          cases u <;> rfl
      unfold b1_k65_written
      walk_at "pt"
      have hf : atI (Str.ofString "0123456789abcdefghijklmnopqrstuvwxyz").cps.toList ((v : Nat) : Int) = some (fig v) := figs_at (by omega)
      rw [hf, eSome, e_z_coin]
      refine ⟨by decide +kernel, _, hp', by omega, nxOk (by decide) (by decide), fun x1 l1 x10 x11 hp1 => ?_⟩
      walk_at "pt"
      rw [hup]
      refine ite_2 (fun _ => ⟨by show 1 ≤ _; decide, ite_2 (fun hq0 => ?_) fun hq0 => ?_⟩) fun _ => ite_2 (fun hq0 => ?_) fun hq0 => ?_
      · rw [e_z_coin]
        refine ⟨_, hp1, by omega, nxOk (by decide) (by decide), fun x2 l2 x20 x21 hp2 => ?_⟩
        walk_at "pt"
        have hp3 := hp2.mono (show z + 2 * q + 1 + 1 ≤ z + 2 * (q + 1) by omega)
        exact ite_2 (fun _ => nxt _ true _ _ e95 hf2 (fun e => by subst e; simp at hcl; omega) hp3) fun _ => nxt _ false _ _ e00 hf2 (fun _ => rfl) hp3
      · exact nxt _ false _ _ e00 hf2 (fun _ => rfl) (hp1.mono (by omega))
      · rw [e_z_coin]
        refine ⟨_, hp1, by omega, nxOk (by decide) (by decide), fun x2 l2 x20 x21 hp2 => ?_⟩
        walk_at "pt"
        have hp3 := hp2.mono (show z + 2 * q + 1 + 1 ≤ z + 2 * (q + 1) by omega)
        exact ite_2 (fun _ => nxt _ true _ _ e95 hf1 (fun e => by subst e; simp at hcl; omega) hp3) fun _ => nxt _ false _ _ e00 hf1 (fun _ => rfl) hp3
      · exact nxt _ false _ _ e00 hf1 (fun _ => rfl) (hp1.mono (by omega))
    · rintro e w' ⟨rfl, cs, l', y6, y7, y8, hcs, hfst, hp', rfl⟩
      rw [enm_len, dN_len] at hcs hp'
      rw [List.take_length] at hcs
      have hcl : cs.length = fs.length := by
        have := congrArg List.length hcs
        rw [List.length_map, List.length_map] at this; omega
      have hbl := bd_len cs
      have fin : ∀ (pre : List Nat) (l2 : List Dat) (x9 : Slot), pre.length ≤ 3 → (hh = false → pre = []) → (hh = true → ∃ pc, pfx pc = some R ∧ pc < 128 ∧ (pre = [48, pc] ∨ pre = [48, pc, 95])) → Prs (z + 2 * fs.length + 2) l2 →
          r3_k65_written ⟨fun e w => oOf e[0]? fun f l => f = false ∧ k .non l w, fun d e w => oOf e[0]? fun f l => f = false ∧ k d l w, fun _ _ => False, fun _ _ => False⟩ [.own false l2, .val (.int side), .val (.lst (dN fs)), .val (.int (R : Int)), .val (.bl hh), .val (.str ⟨(pre ++ bd cs).toArray⟩), y6, y7, y8, x9, .no, .no] w' := by
        intro pre l2 x9 h1 h2 h3 h4
        refine k65_r3 hs h4 (by omega) (by rw [List.length_append]; omega) fun e0 e1 sg l3 ee b1 b2 b3 b4 b5 b6 b7 => ?_
        show oOf ee[0]? fun f l => f = false ∧ k (.str ⟨(e0 ++ (sg ++ (pre ++ bd cs) ++ e1)).toArray⟩) l w'
        rw [b7]
        refine ⟨rfl, h _ _ ⟨?_⟩ (b6.mono (by omega))⟩
        cases cs with
        | nil =>
          rw [List.length_nil] at hcl
          exact absurd (List.length_eq_zero_iff.mp hcl.symm) hne
        | cons p cs' =>
          have hp1 := hfst p cs' rfl
          obtain ⟨u, c0⟩ := p
          have hu : u = false := hp1
          subst hu
          exact ⟨e0, e1, sg, pre, c0, cs', by simp only [List.append_assoc], b2, b3, b4, b5, b1, h2, h3, hcs⟩
      unfold r2_k65_written
      walk_at "pt"
      cases hh with
      | false =>
        rw [if_neg (by decide)]
        exact fin [] l' .no (by decide) (fun _ => rfl) (fun z => nomatch z) (hp'.mono (by omega))
      | true =>
        rw [if_pos rfl]
        obtain ⟨pc, pcu, hk, hpc, hpcl, hup, hpu, hpul⟩ : ∃ pc pcu : Nat, kGet ([Sum.inl 2, Sum.inl 8, Sum.inl 16] : List Key) [Dat.str (Str.ofString "b"), Dat.str (Str.ofString "o"), Dat.str (Str.ofString "x")] (Sum.inl (R : Int)) = some (.str ⟨#[pc]⟩) ∧ pfx pc = some R ∧ pc < 128 ∧ Txt.upper ⟨#[pc]⟩ = ⟨#[pcu]⟩ ∧ pfx pcu = some R ∧ pcu < 128 := by
          rcases hh1 rfl with rfl | rfl | rfl
          · exact ⟨98, 66, (show kGet ([Sum.inl 2, Sum.inl 8, Sum.inl 16] : List Key) [Dat.str (Str.ofString "b"), Dat.str (Str.ofString "o"), Dat.str (Str.ofString "x")] (Sum.inl ((2 : Nat) : Int)) = some (.str (Str.ofString "b")) by simp [kGet]).trans (congrArg (fun s => some (Dat.str s)) (show Str.ofString "b" = ⟨#[98]⟩ by decide +kernel)), by decide, by decide, by decide +kernel, by decide, by decide⟩
          · exact ⟨111, 79, (show kGet ([Sum.inl 2, Sum.inl 8, Sum.inl 16] : List Key) [Dat.str (Str.ofString "b"), Dat.str (Str.ofString "o"), Dat.str (Str.ofString "x")] (Sum.inl ((8 : Nat) : Int)) = some (.str (Str.ofString "o")) by simp [kGet]).trans (congrArg (fun s => some (Dat.str s)) (show Str.ofString "o" = ⟨#[111]⟩ by decide +kernel)), by decide, by decide, by decide +kernel, by decide, by decide⟩
          · exact ⟨120, 88, (show kGet ([Sum.inl 2, Sum.inl 8, Sum.inl 16] : List Key) [Dat.str (Str.ofString "b"), Dat.str (Str.ofString "o"), Dat.str (Str.ofString "x")] (Sum.inl ((16 : Nat) : Int)) = some (.str (Str.ofString "x")) by simp [kGet]).trans (congrArg (fun s => some (Dat.str s)) (show Str.ofString "x" = ⟨#[120]⟩ by decide +kernel)), by decide, by decide, by decide +kernel, by decide, by decide⟩
        rw [hk, eSome, e_z_coin]
        refine ⟨⟨by decide, by decide⟩, _, hp', by omega, nxOk (by decide) (by decide), fun x1 l1 x10 x11 hp1 => ?_⟩
        have key : ∀ pc : Nat, pfx pc = some R → pc < 128 → 3 ≤ sizeLine ∧ P_z_pick [.lst [Dat.str (Str.ofString ""), Dat.str (Str.ofString ""), Dat.str (Str.ofString "_")]] l1 w' fun d l' w => qAddS (.str (Str.ofString "0" ++ (⟨#[pc]⟩ : Str))) d fun z => qAddS z (.str ⟨(bd cs).toArray⟩) fun z => r3_k65_written ⟨fun e w => oOf e[0]? fun f l => f = false ∧ k .non l w, fun d e w => oOf e[0]? fun f l => f = false ∧ k d l w, fun _ _ => False, fun _ _ => False⟩ [.own false l', .val (.int side), .val (.lst (dN fs)), .val (.int (R : Int)), .val (.bl true), .val z, y6, y7, y8, .val (.str ⟨#[pc]⟩), .no, .no] w := by
          intro pc hpc hpcl
          refine ⟨by omega, ?_⟩
          rw [e_z_pick]
          refine ⟨_, hp1, by omega, ⟨by simp, by simp⟩, fun d l2 hd hp2 => ?_⟩
          have ez : Str.ofString "0" ++ (⟨#[pc]⟩ : Str) = ⟨[48, pc].toArray⟩ := by
            rw [show Str.ofString "0" = (⟨[48].toArray⟩ : Str) by decide +kernel]; rfl
          rw [ez]
          obtain ⟨us, rfl, hus⟩ : ∃ us : List Nat, d = .str ⟨us.toArray⟩ ∧ (us = [] ∨ us = [95]) := by
            simp only [List.mem_cons, List.not_mem_nil, or_false] at hd
            rcases hd with rfl | rfl | rfl
            · exact ⟨[], congrArg Dat.str (by decide +kernel), .inl rfl⟩
            · exact ⟨[], congrArg Dat.str (by decide +kernel), .inl rfl⟩
            · exact ⟨[95], congrArg Dat.str (by decide +kernel), .inr rfl⟩
          rw [eAddS, str_app, eAddS, str_app, str_len, str_len, str_len, str_len]
          have hul : us.length ≤ 1 := by rcases hus with rfl | rfl <;> decide
          have h2 : [48, pc].length = 2 := rfl
          rw [List.length_append]
          refine ⟨by omega, by omega, fin _ _ _ (by rw [List.length_append]; omega) (fun z => nomatch z) (fun _ => ⟨pc, hpc, hpcl, ?_⟩) (hp2.mono (by omega))⟩
          rcases hus with rfl | rfl
          · exact .inl rfl
          · exact .inr rfl
        walk_at "pt"
        have el0 : (Str.ofString "0").length = 1 := by decide +kernel
        rw [hup, el0]
        refine ite_2 (fun _ => ⟨by show 1 ≤ _; decide, ?_, key pcu hpu hpul⟩) fun _ => ⟨?_, key pc hpc hpcl⟩
        · show 1 + 1 ≤ _; omega
        · show 1 + 1 ≤ _; omega
  · exact h.elim
theorem b_k65_written {K : PySem.W.Frag} {c : Pc} {vs : List V} {H : Hp} {Q : VK} {E : XK} {α : Prop} (PM : PM K c) (PB : α) (h : sp_k65_written K c vs H Q E) : t_k65_written K c (en0 Q) (st0 12 vs) H := def_okO (sn_k65_written PM PB) (fun ds l w k h => by have := n_k65_written ds l w k h; omega) w_k65_written h
def P_k65_right : PSpO := fun ds l w k => match ds with
  | [] => ∃ z, Prs z l ∧ z + 5000 < 2 ^ 40 ∧ ∀ l' w', Prs (z + 2000) l' → k (.bl true) l' w'
  | _ => False
def sp_k65_right (K : PySem.W.Frag) (c : Pc) : Sp := lifO K c P_k65_right
theorem uO_k65_right {K : PySem.W.Frag} {c : Pc} : SndPO K c (sp_k65_right K c) P_k65_right := SndPO.lif
/-- 0:_law_purse_here 1:_law_bits 2:_law_radix 3:_law_n 4:_law_engine 5:_law_side 6:_law_figures_here 7:_law_has_prefix 8:_law_line 9:_law_is_plain 10:_law_asked 11:_law_width 12:_law_word 13:_law_steps 14:_law_due 15:_law_again -/
def t_k65_right (K : PySem.W.Frag) (c : Pc) : TS :=
  (tSeq (tPar 1 2 (tCons (tCall (sp_z_pick K c) [] E0 (tCons (tVar 0) (tCons (tLst (tCons (tC (.int 8)) (tCons (tC (.int 9)) (tCons (tC (.int 15)) (tCons (tC (.int 30)) (tCons (tOp rAdd (tC (.int 8)) (tCall (sp_z_coin K c) [] E0 (tCons (tVar 0) (tCons (tC (.int 23)) tNil)))) tNil)))))) tNil))) (tCons (tOp rAdd (tC (.int 2)) (tCall (sp_z_coin K c) [] E0 (tCons (tVar 0) (tCons (tC (.int 35)) tNil)))) tNil)))
  (tSeq (tAsg (tCall (sp_z_pick K c) [] E0 (tCons (tVar 0) (tCons (tLst (tCons (tVar 2) (tCons (tVar 2) (tCons (tC (.int 10)) (tCons (tC (.int 16)) (tCons (tC (.int 8)) (tCons (tC (.int 2)) (tCons (tC (.int 32)) (tCons (tC (.int 4)) tNil))))))))) tNil))) (gName 2))
  (tSeq (tAsg (tCall (sp_z_worth K c) [] E0 (tCons (tVar 1) (tCons (tCall (sp_z_prow K c) [] E0 (tCons (tVar 0) (tCons (tVar 1) (tCons (tCall (sp_z_coin K c) [] E0 (tCons (tVar 0) (tCons (tCall (sp_z_pick K c) [] E0 (tCons (tVar 0) (tCons (tLst (tCons (tC (.int 3)) (tCons (tC (.int 13)) tNil))) tNil))) tNil))) tNil)))) tNil))) (gName 3))
  (tSeq (tPar3 4 5 6 (tCons (tMake c.CMachine (sp_A K c) [(.int 70)] E0 (tCons (tVar 1) tNil)) (tCons (tCall (sp_z_pick K c) [] E0 (tCons (tVar 0) (tCons (tLst (tCons (tC (.int 1)) (tCons (tUn rNeg (tC (.int 1))) tNil))) tNil))) (tCons (tCall (sp_k65_figures K c) [] E0 (tCons (tVar 0) (tCons (tVar 3) (tCons (tVar 2) tNil)))) tNil))))
  (tSeq (tAsg (tIf (tTest (tOp (rNeD K) (tVar 6) (tLst tNil))) (tVar 6) (tLst (tCons (tC (.int 0)) tNil))) (gName 6))
  (tSeq (tAsg (tAndV (tOp (rIn K false) (tVar 2) (tTup (tCons (tC (.int 2)) (tCons (tC (.int 8)) (tCons (tC (.int 16)) tNil))))) (tOp rEq (tCall (sp_z_coin K c) [] E0 (tCons (tVar 0) (tCons (tC (.int 2)) tNil))) (tC (.int 0)))) (gName 7))
  (tSeq (tAsg (tCall (sp_k65_written K c) [] E0 (tCons (tVar 0) (tCons (tVar 5) (tCons (tVar 6) (tCons (tVar 2) (tCons (tVar 7) tNil)))))) (gName 8))
  (tSeq (tAsg (tAndV (tOp rEq (tVar 2) (tC (.int 10))) (tOrV (tOp rGt (tOp (rIxL K) (tVar 6) (tC (.int 0))) (tC (.int 0))) (tOp rEq (tVar 3) (tC (.int 0))))) (gName 9))
  (tSeq (tAsg (tIf (tAnd (tOr (L2.tB (tVar 7)) (L2.tB (tVar 9))) (tTest (tOp rEq (tCall (sp_z_coin K c) [] E0 (tCons (tVar 0) (tCons (tC (.int 2)) tNil))) (tC (.int 0))))) (tC (.int 0)) (tVar 2)) (gName 10))
  (tSeq (tIfS (tNot (L2.tB (tCall (sp_z_is K c) [] E0 (tCons (tCall (sp_t_read K c) [(.int 4300)] E0 (tCons (tVar 4) (tCons (tVar 8) (tCons (tVar 10) tNil)))) (tCons (tVar 1) (tCons (tOp rMul (tVar 5) (tVar 3)) tNil)))))) (tRet (tC (.bl false))) tNext)
  (tSeq (tIfS (tTest (tOp (rIn K false) (tVar 2) (tTup (tCons (tC (.int 2)) (tCons (tC (.int 4)) (tCons (tC (.int 8)) (tCons (tC (.int 16)) (tCons (tC (.int 32)) tNil)))))))) (tSeq (tAsg (tDGet (tDisp [((tC (.int 2)), (tC (.int 1))), ((tC (.int 4)), (tC (.int 2))), ((tC (.int 8)), (tC (.int 3))), ((tC (.int 16)), (tC (.int 4))), ((tC (.int 32)), (tC (.int 5)))]) (tVar 2)) (gName 11))
  (tPar 12 13 (tCons (tC (.str "shifted")) (tCons (tOp rDiv (tOp rSub (tOp rAdd (tOp rMul (tCB (rLen K) (tCons (tVar 6) tNil)) (tVar 11)) (tVar 1)) (tC (.int 1))) (tVar 1)) tNil)))) (tPar 12 13 (tCons (tC (.str "product")) (tCons (tOp (rIxT K) (tCall (sp_k65_steps K c) [] E0 (tCons (tVar 1) (tCons (tVar 2) (tCons (tVar 6) tNil)))) (tC (.int 0))) tNil))))
  (tSeq (tAsg (tTup (tCons (tIf (tTest (tOp rGt (tVar 13) (tC (.int 0)))) (tDisp [((tVar 12), (tVar 13))]) tDNewK) (tCons (tLst (tCons (tTup (tCons (tC (.str "read")) (tCons (tCB (rLen K) (tCons (tVar 6) tNil)) (tCons (tVar 2) tNil)))) tNil)) tNil))) (gName 14))
  (tSeq (tIfS (tTest (tOp (rNeTD K) (tCall (sp_z_pcounted K c) [] E0 (tCons (tVar 4) tNil)) (tVar 14))) (tRet (tC (.bl false))) tNext)
  (tSeq (tAsg (tKw 4 (sp_t_read K c) (perm [2, 1, 0, 3]) E0 (tCons (tVar 10) (tCons (tVar 8) (tCons (tVar 4) (tCons (tC (.int 0)) tNil))))) (gName 15))
  (tRet (tAndV (tOp (rOwnEq K c.CBig (sp_S K c) E0) (tVar 15) (tCall (sp_big K c) [] E0 (tCons (tVar 4) (tCons (tOp rMul (tVar 5) (tVar 3)) tNil)))) (tOp (rEqTD K) (tCall (sp_z_pcounted K c) [] E0 (tCons (tVar 4) tNil)) (tVar 14))))))))))))))))))
def r13_k65_right : PS :=
  (pSeq (pAsg (pKw 4 P_t_read [2, 1, 0, 3] (pCons (pVar 10) (pCons (pVar 8) (pCons (pVar 4) (pCons (pC (.int 0)) pNil))))) 15)
  (pRet (pAndV (pOp qEqB (pVar 15) (pCall P_big (pCons (pVar 4) (pCons (pOp qMul (pVar 5) (pVar 3)) pNil)))) (pOp qEqTD (pCall P_z_pcounted (pCons (pVar 4) pNil)) (pVar 14)))))
def r12_k65_right : PS :=
  (pSeq (pIfS (pTest (pOp qNeTD (pCall P_z_pcounted (pCons (pVar 4) pNil)) (pVar 14))) (pRet (pC (.bl false))) pNext)
  r13_k65_right)
def r11_k65_right : PS :=
  (pSeq (pAsg (pTup (pCons (pIf (pTest (pOp qGt (pVar 13) (pC (.int 0)))) (pDisp1 (pVar 12) (pVar 13)) pDNew) (pCons (pFz (pLst (pCons (pTup (pCons (pC (.str "read")) (pCons (pCB qLen (pCons (pVar 6) pNil)) (pCons (pVar 2) pNil)))) pNil))) pNil))) 14)
  r12_k65_right)
def r10_k65_right : PS :=
  (pSeq (pIfS (pTest (pOp qIn (pVar 2) (pTup (pCons (pC (.int 2)) (pCons (pC (.int 4)) (pCons (pC (.int 8)) (pCons (pC (.int 16)) (pCons (pC (.int 32)) pNil)))))))) (pSeq (pAsg (pDGetK (pDispK [(Sum.inl 2, (pC (.int 1))), (Sum.inl 4, (pC (.int 2))), (Sum.inl 8, (pC (.int 3))), (Sum.inl 16, (pC (.int 4))), (Sum.inl 32, (pC (.int 5)))]) (pVar 2)) 11)
  (pPar [12, 13] (pCons (pC (.str "shifted")) (pCons (pOp qDiv (pOp qSub (pOp qAdd (pOp qMul (pCB qLen (pCons (pVar 6) pNil)) (pVar 11)) (pVar 1)) (pC (.int 1))) (pVar 1)) pNil)))) (pPar [12, 13] (pCons (pC (.str "product")) (pCons (pOp qIxT (pCall P_k65_steps (pCons (pVar 1) (pCons (pVar 2) (pCons (pVar 6) pNil)))) (pC (.int 0))) pNil))))
  r11_k65_right)
def r9_k65_right : PS :=
  (pSeq (pIfS (pNot (pTest (pCall P_z_is (pCons (pCallD P_t_read [(.int 4300)] (pCons (pVar 4) (pCons (pVar 8) (pCons (pVar 10) pNil)))) (pCons (pVar 1) (pCons (pOp qMul (pVar 5) (pVar 3)) pNil)))))) (pRet (pC (.bl false))) pNext)
  r10_k65_right)
def r8_k65_right : PS :=
  (pSeq (pAsg (pIf (pAnd (pOr (pTest (pVar 7)) (pTest (pVar 9))) (pTest (pOp qEq (pCallO P_z_coin 0 (pCons (pC (.int 2)) pNil)) (pC (.int 0))))) (pC (.int 0)) (pVar 2)) 10)
  r9_k65_right)
def r7_k65_right : PS :=
  (pSeq (pAsg (pAndV (pOp qEq (pVar 2) (pC (.int 10))) (pOrV (pOp qGt (pOp qIxL (pVar 6) (pC (.int 0))) (pC (.int 0))) (pOp qEq (pVar 3) (pC (.int 0))))) 9)
  r8_k65_right)
def r6_k65_right : PS :=
  (pSeq (pAsg (pCallO P_k65_written 0 (pCons (pVar 5) (pCons (pVar 6) (pCons (pVar 2) (pCons (pVar 7) pNil))))) 8)
  r7_k65_right)
def r5_k65_right : PS :=
  (pSeq (pAsg (pAndV (pOp qIn (pVar 2) (pTup (pCons (pC (.int 2)) (pCons (pC (.int 8)) (pCons (pC (.int 16)) pNil))))) (pOp qEq (pCallO P_z_coin 0 (pCons (pC (.int 2)) pNil)) (pC (.int 0)))) 7)
  r6_k65_right)
def r4_k65_right : PS :=
  (pSeq (pAsg (pIf (pTest (pOp qNeD (pVar 6) (pFz (pLst pNil)))) (pVar 6) (pFz (pLst (pCons (pC (.int 0)) pNil)))) 6)
  r5_k65_right)
def p_k65_right : PS :=
  (pSeq (pPar [1, 2] (pCons (pCallO P_z_pick 0 (pCons (pFz (pLst (pCons (pC (.int 8)) (pCons (pC (.int 9)) (pCons (pC (.int 15)) (pCons (pC (.int 30)) (pCons (pOp qAdd (pC (.int 8)) (pCallO P_z_coin 0 (pCons (pC (.int 23)) pNil))) pNil))))))) pNil)) (pCons (pOp qAdd (pC (.int 2)) (pCallO P_z_coin 0 (pCons (pC (.int 35)) pNil))) pNil)))
  (pSeq (pAsg (pCallO P_z_pick 0 (pCons (pFz (pLst (pCons (pVar 2) (pCons (pVar 2) (pCons (pC (.int 10)) (pCons (pC (.int 16)) (pCons (pC (.int 8)) (pCons (pC (.int 2)) (pCons (pC (.int 32)) (pCons (pC (.int 4)) pNil)))))))))) pNil)) 2)
  (pSeq (pAsg (pCall P_z_worth (pCons (pVar 1) (pCons (pCallO P_z_prow 0 (pCons (pVar 1) (pCons (pCallO P_z_coin 0 (pCons (pCallO P_z_pick 0 (pCons (pFz (pLst (pCons (pC (.int 3)) (pCons (pC (.int 13)) pNil)))) pNil)) pNil)) pNil))) pNil))) 3)
  (pSeq (pPar [4, 5, 6] (pCons (pCallD P_Machine [(.int 70)] (pCons (pVar 1) pNil)) (pCons (pCallO P_z_pick 0 (pCons (pFz (pLst (pCons (pC (.int 1)) (pCons (pUn qNeg (pC (.int 1))) pNil)))) pNil)) (pCons (pCallO P_k65_figures 0 (pCons (pVar 3) (pCons (pVar 2) pNil))) pNil))))
  r4_k65_right))))
theorem sn_k65_right {K : PySem.W.Frag} {c : Pc} (PM : PM K c) (PB : PB K c) : SndS K c (t_k65_right K c) p_k65_right :=
  (snd_seq (snd_par (snd_cons (snd_callO uO_z_pick (snd_cons (snd_fz (snd_lst (snd_cons (snd_int 8) (snd_cons (snd_int 9) (snd_cons (snd_int 15) (snd_cons (snd_int 30) (snd_cons (snd_op s_add (snd_int 8) (snd_callO uO_z_coin (snd_cons (snd_int 23) snd_nil))) snd_nil))))))) snd_nil)) (snd_cons (snd_op s_add (snd_int 2) (snd_callO uO_z_coin (snd_cons (snd_int 35) snd_nil))) snd_nil)))
  (snd_seq (snd_asg (snd_callO uO_z_pick (snd_cons (snd_fz (snd_lst (snd_cons snd_var (snd_cons snd_var (snd_cons (snd_int 10) (snd_cons (snd_int 16) (snd_cons (snd_int 8) (snd_cons (snd_int 2) (snd_cons (snd_int 32) (snd_cons (snd_int 4) snd_nil)))))))))) snd_nil)))
  (snd_seq (snd_asg (snd_call u_z_worth (snd_cons snd_var (snd_cons (snd_callO uO_z_prow (snd_cons snd_var (snd_cons (snd_callO uO_z_coin (snd_cons (snd_callO uO_z_pick (snd_cons (snd_fz (snd_lst (snd_cons (snd_int 3) (snd_cons (snd_int 13) snd_nil)))) snd_nil)) snd_nil)) snd_nil))) snd_nil))))
  (snd_seq (snd_par3 (snd_cons (snd_mkM (fun _ => (.cons (.int _) .nil)) (snd_cons snd_var snd_nil)) (snd_cons (snd_callO uO_z_pick (snd_cons (snd_fz (snd_lst (snd_cons (snd_int 1) (snd_cons (snd_neg (snd_int 1)) snd_nil)))) snd_nil)) (snd_cons (snd_callO uO_k65_figures (snd_cons snd_var (snd_cons snd_var snd_nil))) snd_nil))))
  (snd_seq (snd_asg (snd_if (snd_test (snd_op s_neD snd_var (snd_fz (snd_lst snd_nil)))) snd_var (snd_fz (snd_lst (snd_cons (snd_int 0) snd_nil)))))
  (snd_seq (snd_asg (snd_andV (snd_op s_in snd_var (snd_tup (snd_cons (snd_int 2) (snd_cons (snd_int 8) (snd_cons (snd_int 16) snd_nil))))) (snd_op s_eq (snd_callO uO_z_coin (snd_cons (snd_int 2) snd_nil)) (snd_int 0))))
  (snd_seq (snd_asg (snd_callO uO_k65_written (snd_cons snd_var (snd_cons snd_var (snd_cons snd_var (snd_cons snd_var snd_nil))))))
  (snd_seq (snd_asg (snd_andV (snd_op s_eq snd_var (snd_int 10)) (snd_orV (snd_op s_gt (snd_op s_ixL snd_var (snd_int 0)) (snd_int 0)) (snd_op s_eq snd_var (snd_int 0)))))
  (snd_seq (snd_asg (snd_if (snd_and (snd_or (snd_tB snd_var) (snd_tB snd_var)) (snd_test (snd_op s_eq (snd_callO uO_z_coin (snd_cons (snd_int 2) snd_nil)) (snd_int 0)))) (snd_int 0) snd_var))
  (snd_seq (snd_ifS (snd_not (snd_tB (snd_call u_z_is (snd_cons (snd_callD u_t_read (fun _ => (.cons (.int _) .nil)) (snd_cons snd_var (snd_cons snd_var (snd_cons snd_var snd_nil)))) (snd_cons snd_var (snd_cons (snd_op s_mul snd_var snd_var) snd_nil)))))) (snd_ret (snd_bl false)) snd_next)
  (snd_seq (snd_ifS (snd_test (snd_op s_in snd_var (snd_tup (snd_cons (snd_int 2) (snd_cons (snd_int 4) (snd_cons (snd_int 8) (snd_cons (snd_int 16) (snd_cons (snd_int 32) snd_nil)))))))) (snd_seq (snd_asg (snd_dgetK (snd_dispK (show SndDK K c _ _ from ⟨rfl, (snd_int 1), ⟨rfl, (snd_int 2), ⟨rfl, (snd_int 3), ⟨rfl, (snd_int 4), ⟨rfl, (snd_int 5), trivial⟩⟩⟩⟩⟩)) snd_var))
  (snd_par (snd_cons (snd_str "shifted") (snd_cons (snd_op s_div (snd_op s_sub (snd_op s_add (snd_op s_mul (snd_cb s_len (snd_cons snd_var snd_nil)) snd_var) snd_var) (snd_int 1)) snd_var) snd_nil)))) (snd_par (snd_cons (snd_str "product") (snd_cons (snd_op s_ixT (snd_call u_k65_steps (snd_cons snd_var (snd_cons snd_var (snd_cons snd_var snd_nil)))) (snd_int 0)) snd_nil))))
  (snd_seq (snd_asg (snd_tup (snd_cons (snd_if (snd_test (snd_op s_gt snd_var (snd_int 0))) (snd_disp1 snd_var snd_var) snd_dnew) (snd_cons (snd_fz (snd_lst (snd_cons (snd_tup (snd_cons (snd_str "read") (snd_cons (snd_cb s_len (snd_cons snd_var snd_nil)) (snd_cons snd_var snd_nil)))) snd_nil))) snd_nil))))
  (snd_seq (snd_ifS (snd_test (snd_op s_neTD (snd_call u_z_pcounted (snd_cons snd_var snd_nil)) snd_var)) (snd_ret (snd_bl false)) snd_next)
  (snd_seq (snd_asg (snd_kw u_t_read (snd_cons snd_var (snd_cons snd_var (snd_cons snd_var (snd_cons (snd_int 0) snd_nil))))))
  (snd_ret (snd_andV (snd_op (s_eqB PB) snd_var (snd_call u_big (snd_cons snd_var (snd_cons (snd_op s_mul snd_var snd_var) snd_nil)))) (snd_op s_eqTD (snd_call u_z_pcounted (snd_cons snd_var snd_nil)) snd_var)))))))))))))))))
theorem n_k65_right : ∀ ds l w k, P_k65_right ds l w k → ds.length + 1 = 1 := fun ds l w k h => by
  unfold P_k65_right at h
  split at h
  · rfl
  · exact h.elim
theorem e_k65_right {l : List Dat} {w : Wld} {k : Dat → List Dat → Wld → Prop} : P_k65_right [] l w k = ∃ z, Prs z l ∧ z + 5000 < 2 ^ 40 ∧ ∀ l' w', Prs (z + 2000) l' → k (.bl true) l' w' := rfl
/-- the word of reading -/
def wdR (R : Nat) : Str := match bitsO R with
  | some _ => "shifted"
  | none => "product"
def cnR (b R : Nat) (fs : List Nat) : List (Str × Int) := if (rdC b R fs).2 = 0 then [] else [(wdR R, ((rdC b R fs).2 : Int))]
theorem cnR_nd (b R : Nat) (fs : List Nat) : ((cnR b R fs).map (·.1)).Nodup := by
  unfold cnR; split <;> simp
def wkR (R : Nat) (fs : List Nat) : Dat := .lst [.tup [.str "read", .int (fs.length : Int), .int (R : Int)]]
theorem nzB_r {v : Int} : nzB (zeros.modify 2 (· + v)) = (if v = 0 then [] else [(("product" : Str), v)]) ∧ nzB (zeros.modify 6 (· + v)) = (if v = 0 then [] else [(("shifted" : Str), v)]) := by
  have e2 : words = (["short", "sum", "product", "quotient", "corrected", "restored", "shifted", "combined", "complemented", "looked"] : List Str) := by decide +kernel
  have e : zeros.modify 2 (· + v) = [0, 0, 0 + v, 0, 0, 0, 0, 0, 0, 0] := rfl
  have e3 : zeros.modify 6 (· + v) = [0, 0, 0, 0, 0, 0, 0 + v, 0, 0, 0] := rfl
  unfold nzB tal
  rw [e, e3, e2]
  simp only [List.zipWith_cons_cons, List.zipWith_nil_left, List.filter_cons, List.filter_nil, Int.zero_add, ne_eq, not_true_eq_false, decide_false, Bool.false_eq_true, if_false, decide_not]
  by_cases h : v = 0
  · simp [h]
  · simp [h]
theorem pcnR {R i : Nat} {fs : List Nat} {W : Wld} {m m0 : Mach} {k : Dat → Wld → Prop} (hm0 : W.ms[i]? = some m0) (hns : m.ns = zeros) (hw : m.walk = [])
    (h : k (.tup [.dic (cnR m.b R fs), wkR R fs]) (W.put i (rdM m R fs).rst)) : P_z_pcounted [.mach i] (W.put i (rdM m R fs)) k := by
  show onM _ i _
  rw [onM_put hm0, put_put]
  have e1 : nzB (rdM m R fs).ns = cnR m.b R fs := by
    show nzB (m.ns.modify (rdC m.b R fs).1 (· + _)) = _
    rw [hns]
    unfold cnR wdR rdC
    cases bitsO R with
    | some wd =>
      simp only []
      rw [nzB_r.2]
      split <;> split <;> first | rfl | omega
    | none =>
      simp only []
      rw [nzB_r.1]
      split <;> split <;> first | rfl | omega
  have e2 : (rdM m R fs).walk = [(("read" : Str), (fs.length : Int), (R : Int))] := by
    show (m.ent "read" (fs.length : Int) (R : Int)).walk = _
    unfold Mach.ent
    rw [hw]; rfl
  show k (.tup [.dic (nzB (rdM m R fs).ns), .lst ((rdM m R fs).walk.map dW)]) _
  rw [e1, e2]
  exact h
/-- what a drawn text is -/
structure RtH (b R N : Nat) (side : Int) (fs t : List Nat) (q : Nat) : Prop where
  hb : 8 ≤ b ∧ b ≤ 30
  hR : 2 ≤ R ∧ R ≤ 36
  hd : ∀ d ∈ fs, d < R
  hl : fs.length ≤ 600
  hs : side = 1 ∨ side = -1
  hv : vl R fs.reverse = N
  hN : N < 2 ^ 450
  hq : q ≤ 36 ∧ q ≠ 1
  ht : ∃ hz, RdT q t side R hz fs
theorem RtH.sm {b R N : Nat} {side : Int} {fs t : List Nat} {q : Nat} (H : RtH b R N side fs t q) : Sm7 (side * (N : Int)) := by
  have h1 : (side * (N : Int)).natAbs = N := by rcases H.hs with h | h <;> rw [h] <;> omega
  unfold Sm7
  rw [h1]
  exact Nat.lt_of_lt_of_le H.hN (Nat.pow_le_pow_right (by decide) (by decide))
theorem RtH.read {b R N : Nat} {side most : Int} {fs t : List Nat} {q i : Nat} (H : RtH b R N side fs t q) {W : Wld} {m : Mach} {k : Dat → Wld → Prop} (hm : W.ms[i]? = some m) (hmb : m.b = b) (hmost : most = 0 ∨ 640 ≤ most)
    (h : k (.big b (side * (N : Int))) (W.put i (rdM m R fs))) : P_t_read [.mach i, .str ⟨t.toArray⟩, .int (q : Int), .int most] W k := by
  rw [e_t_read, onM_is hm]
  obtain ⟨hz, hT⟩ := H.ht
  refine ⟨t, q, side, R, hz, fs, rfl, rfl, H.hq, hT, H.hR, by rw [hmb]; exact H.hb, H.hd, H.hl, hmost, H.hs, ?_⟩
  rw [H.hv, hmb]
  exact h
theorem k65_q13 {D : PEnds} {b R N : Nat} {side : Int} {fs t : List Nat} {q i : Nat} {W : Wld} {m : Mach} {x0 x1 x2 x6 x7 x9 x11 x12 x13 x15 : Slot} (H : RtH b R N side fs t q) (hm : W.ms[i]? = some m) (hmb : m.b = b) (hns : m.ns = zeros) (hw : m.walk = [])
    (h : ∀ y W', D.rt (.bl true) [x0, x1, x2, .val (.int (N : Int)), .val (.mach i), .val (.int side), x6, x7, .val (.str ⟨t.toArray⟩), x9, .val (.int (q : Int)), x11, x12, x13, .val (.tup [.dic (cnR b R fs), wkR R fs]), y] W') :
    r13_k65_right D [x0, x1, x2, .val (.int (N : Int)), .val (.mach i), .val (.int side), x6, x7, .val (.str ⟨t.toArray⟩), x9, .val (.int (q : Int)), x11, x12, x13, .val (.tup [.dic (cnR b R fs), wkR R fs]), x15] W := by
  have hz := sizeLine_eq
  subst hmb
  have hd1 := (digs100 H.hb.1 H.hb.2 H.sm).1
  have hpl : pl (wkR R fs) := pl_rt (by decide +kernel)
  unfold r13_k65_right
  walk_at "pt"
  refine H.read hm rfl (.inl rfl) ?_
  rw [onM_is (put_at hm)]
  have hbb : (rdM m R fs).b = m.b := rfl
  rw [hbb]
  refine ⟨mul_okL (by have := H.hs; omega) (by have := H.hs; omega), by have := H.hb; omega, by omega, ?_⟩
  walk_at "pt"
  refine ⟨by have := H.hb; omega, pcnR hm hns hw ?_⟩
  walk_at "pt"
  exact ⟨eqDs_refl (cnR_nd _ _ _), hpl, h _ _⟩
theorem k65_q12 {D : PEnds} {b R N : Nat} {side : Int} {fs t : List Nat} {q i : Nat} {W : Wld} {m m0 : Mach} {x0 x1 x2 x6 x7 x9 x11 x12 x13 x15 : Slot} (H : RtH b R N side fs t q) (hm0 : W.ms[i]? = some m0) (hmb : m.b = b) (hns : m.ns = zeros) (hw : m.walk = [])
    (h : ∀ y W', D.rt (.bl true) [x0, x1, x2, .val (.int (N : Int)), .val (.mach i), .val (.int side), x6, x7, .val (.str ⟨t.toArray⟩), x9, .val (.int (q : Int)), x11, x12, x13, .val (.tup [.dic (cnR b R fs), wkR R fs]), y] W') :
    r12_k65_right D [x0, x1, x2, .val (.int (N : Int)), .val (.mach i), .val (.int side), x6, x7, .val (.str ⟨t.toArray⟩), x9, .val (.int (q : Int)), x11, x12, x13, .val (.tup [.dic (cnR b R fs), wkR R fs]), x15] (W.put i (rdM m R fs)) := by
  have hz := sizeLine_eq
  subst hmb
  have hpl : pl (wkR R fs) := pl_rt (by decide +kernel)
  unfold r12_k65_right
  walk_at "pt"
  refine pcnR hm0 hns hw ?_
  walk_at "pt"
  exact ⟨eqDs_refl (cnR_nd _ _ _), hpl, k65_q13 H (put_at hm0) rfl rfl rfl h⟩
theorem in_Az {R : Nat} {K : Dat → Prop} (h : R ≤ 36) (hk : K (.bl (bitsO R).isSome)) : qIn (.int (R : Int)) (.tup [.int 2, .int 4, .int 8, .int 16, .int 32]) K := by
  show K (.bl (inV (.int (R : Int)) [.int 2, .int 4, .int 8, .int 16, .int 32]))
  have : ∀ R : Nat, R < 37 → inV (.int (R : Int)) [.int 2, .int 4, .int 8, .int 16, .int 32] = (bitsO R).isSome := by decide +kernel
  rw [this R (by omega)]
  exact hk
theorem kGet_Az {R wd : Nat} (h : bitsO R = some wd) : kGet ([Sum.inl 2, Sum.inl 4, Sum.inl 8, Sum.inl 16, Sum.inl 32] : List Key) [Dat.int 1, Dat.int 2, Dat.int 3, Dat.int 4, Dat.int 5] (Sum.inl (R : Int)) = some (.int (wd : Int)) := by
  obtain ⟨rfl, h1, h2⟩ := bitsO_of h
  rcases (show wd = 1 ∨ wd = 2 ∨ wd = 3 ∨ wd = 4 ∨ wd = 5 by omega) with rfl | rfl | rfl | rfl | rfl <;> simp [kGet]
theorem k65_q10 {D : PEnds} {b R N : Nat} {side : Int} {fs t : List Nat} {q i : Nat} {W : Wld} {m m0 : Mach} {x0 x7 x9 x11 x12 x13 x14 x15 : Slot} (H : RtH b R N side fs t q) (hm0 : W.ms[i]? = some m0) (hmb : m.b = b) (hns : m.ns = zeros) (hw : m.walk = [])
    (h : ∀ e W', e[0]? = some x0 → D.rt (.bl true) e W') :
    r10_k65_right D [x0, .val (.int (b : Int)), .val (.int (R : Int)), .val (.int (N : Int)), .val (.mach i), .val (.int side), .val (.lst (dN fs)), x7, .val (.str ⟨t.toArray⟩), x9, .val (.int (q : Int)), x11, x12, x13, x14, x15] (W.put i (rdM m R fs)) := by
  have hz := sizeLine_eq
  have key : ∀ x11, r11_k65_right D [x0, .val (.int (b : Int)), .val (.int (R : Int)), .val (.int (N : Int)), .val (.mach i), .val (.int side), .val (.lst (dN fs)), x7, .val (.str ⟨t.toArray⟩), x9, .val (.int (q : Int)), x11, .val (.str (wdR R)), .val (.int ((rdC b R fs).2 : Nat)), x14, x15] (W.put i (rdM m R fs)) := by
    intro x11
    unfold r11_k65_right
    walk_at "pt"
    have e1 := k65_q12 (D := D) (x0 := x0) (x1 := .val (.int (b : Int))) (x2 := .val (.int (R : Int))) (x6 := .val (.lst (dN fs))) (x7 := x7) (x9 := x9) (x11 := x11) (x12 := .val (.str (wdR R))) (x13 := .val (.int ((rdC b R fs).2 : Nat))) (x15 := x15) H hm0 hmb hns hw (fun y W' => h _ W' rfl)
    unfold cnR wkR at e1
    rw [dN_len]
    refine ite_2 (fun c => ⟨by omega, by omega, by omega, ?_⟩) fun c => ⟨by omega, by omega, by omega, ?_⟩
    · rw [if_neg (by omega)] at e1; exact e1
    · rw [if_pos (by omega)] at e1; exact e1
  unfold r10_k65_right
  walk_at "pt"
  refine ⟨by omega, in_Az H.hR.2 ?_⟩
  have hb := H.hb
  cases hbo : bitsO R with
  | some wd =>
    obtain ⟨_, h1, h2⟩ := bitsO_of hbo
    have key := key (.val (.int (wd : Int)))
    unfold wdR rdC at key
    rw [hbo] at key
    walk_at "pt"
    rw [if_pos (by rfl), kGet_Az hbo, eSome, dN_len]
    walk_at "pt"
    have e1 : ((fs.length : Int) * (wd : Int) + (b : Int) - 1) / (b : Int) = (((wd * fs.length + b - 1) / b : Nat) : Int) := by
      rw [Int.natCast_ediv]
      congr 1
      have : wd * fs.length + b - 1 = wd * fs.length + (b - 1) := by omega
      rw [this, Int.natCast_add, Int.natCast_mul, Int.mul_comm]
      omega
    rw [e1]
    exact ⟨⟨by decide, by decide⟩, mul_okR (by omega) (by omega), div_ok64 (by omega) (by omega), key⟩
  | none =>
    have key := key x11
    unfold wdR rdC at key
    rw [hbo] at key
    walk_at "pt"
    rw [if_neg (by simp), e_k65_steps]
    refine ⟨b, R, fs, rfl, rfl, rfl, hb, H.hR, H.hd, H.hl, ?_⟩
    walk_at "pt"
    exact key
theorem k65_q9 {D : PEnds} {b R N : Nat} {side : Int} {fs t : List Nat} {q i : Nat} {W : Wld} {m : Mach} {x0 x7 x9 x11 x12 x13 x14 x15 : Slot} (H : RtH b R N side fs t q) (hm : W.ms[i]? = some m) (hmb : m.b = b) (hns : m.ns = zeros) (hw : m.walk = [])
    (h : ∀ e W', e[0]? = some x0 → D.rt (.bl true) e W') :
    r9_k65_right D [x0, .val (.int (b : Int)), .val (.int (R : Int)), .val (.int (N : Int)), .val (.mach i), .val (.int side), .val (.lst (dN fs)), x7, .val (.str ⟨t.toArray⟩), x9, .val (.int (q : Int)), x11, x12, x13, x14, x15] W := by
  have hz := sizeLine_eq
  obtain ⟨hd1, hB, _⟩ := digs100 H.hb.1 H.hb.2 H.sm
  unfold r9_k65_right
  walk_at "pt"
  refine H.read hm hmb (.inr (by decide)) ?_
  refine ⟨mul_okL (by have := H.hs; omega) (by have := H.hs; omega), ?_⟩
  show bigL b (side * (N : Int)) ∧ b ≠ 0 ∧ b ≤ 60 ∧ (digs b (side * (N : Int)).natAbs).length ≤ 100000 ∧ (b : Int) = (b : Int) ∧ side * (N : Int) = side * (N : Int) ∧ _
  refine ⟨hB, by have := H.hb; omega, by have := H.hb; omega, by omega, rfl, rfl, ?_⟩
  walk_at "pt"
  exact k65_q10 H hm hmb hns hw h
theorem vl_zero {R : Nat} (hR : 1 ≤ R) : ∀ {l : List Nat}, vl R l = 0 → ∀ d ∈ l, d = 0
  | [], _, d, hd => nomatch hd
  | c :: l, h, d, hd => by
    have h : c + R * vl R l = 0 := h
    have h1 : c = 0 := by omega
    have h2 : R * vl R l = 0 := by omega
    have h3 : vl R l = 0 := by
      rcases Nat.mul_eq_zero.mp h2 with z | z
      · omega
      · exact z
    rcases List.mem_cons.mp hd with rfl | hd
    · exact h1
    · exact vl_zero hR h3 d hd
theorem k65_q6 {D : PEnds} {b R N : Nat} {side : Int} {fs : List Nat} {i z : Nat} {l : List Dat} {hh : Bool} {W : Wld} {m : Mach} {x8 x9 x10 x11 x12 x13 x14 x15 : Slot}
    (hb : 8 ≤ b ∧ b ≤ 30) (hR : 2 ≤ R ∧ R ≤ 36) (hd : ∀ d ∈ fs, d < R) (hl : fs.length ≤ 600) (hne : fs ≠ []) (hs : side = 1 ∨ side = -1) (hv : vl R fs.reverse = N) (hN : N < 2 ^ 450) (hh1 : hh = true → R = 2 ∨ R = 8 ∨ R = 16) (hp : Prs z l) (hz40 : z + 1400 < 2 ^ 40)
    (hm : W.ms[i]? = some m) (hmb : m.b = b) (hns : m.ns = zeros) (hw : m.walk = [])
    (h : ∀ e W' l', Prs (z + 1301) l' → e[0]? = some (.own false l') → D.rt (.bl true) e W') :
    r6_k65_right D [.own false l, .val (.int (b : Int)), .val (.int (R : Int)), .val (.int (N : Int)), .val (.mach i), .val (.int side), .val (.lst (dN fs)), .val (.bl hh), x8, x9, x10, x11, x12, x13, x14, x15] W := by
  have hz := sizeLine_eq
  unfold r6_k65_right
  walk_at "pt"
  rw [e_k65_written]
  refine ⟨fs, R, z, hs, rfl, hne, rfl, hR, hd, hl, hh1, hp, by omega, fun t l1 hW hp1 => ?_⟩
  obtain ⟨f0, fs', hfs⟩ : ∃ f0 fs', fs = f0 :: fs' := by
    cases fs with
    | nil => exact absurd rfl hne
    | cons f0 fs' => exact ⟨f0, fs', rfl⟩
  have hat : atI (dN fs) 0 = some (.int (f0 : Int)) := by rw [hfs]; exact dN_at (n := 0) rfl rfl
  have key : ∀ (q : Nat) (pl : Bool) (l2 : List Dat), (q = R ∨ (q = 0 ∧ (hh = true ∨ pl = true))) → (pl = true → R = 10 ∧ (0 < f0 ∨ N = 0)) → Prs (z + 1301) l2 → r9_k65_right D [.own false l2, .val (.int (b : Int)), .val (.int (R : Int)), .val (.int (N : Int)), .val (.mach i), .val (.int side), .val (.lst (dN fs)), .val (.bl hh), .val (.str ⟨t.toArray⟩), .val (.bl pl), .val (.int (q : Int)), x11, x12, x13, x14, x15] W := by
    intro q pl l2 hq hpl hp2
    refine k65_q9 ⟨hb, hR, hd, hl, hs, hv, hN, ?_, hW.rd hd hR hl ?_⟩ hm hmb hns hw fun e W' he => h e W' l2 hp2 he
    · rcases hq with rfl | ⟨rfl, _⟩ <;> omega
    · rcases hq with rfl | ⟨rfl, hx | hx⟩
      · exact .inl rfl
      · exact .inr ⟨rfl, .inl hx⟩
      · refine .inr ⟨rfl, .inr ⟨(hpl hx).1, ?_⟩⟩
        rcases (hpl hx).2 with h1 | h1
        · left; rw [hfs]; show f0 ≠ 0; omega
        · right
          have h2 := vl_zero (R := R) (by omega) (hv.trans h1)
          exact fun d hd2 => h2 d (List.mem_reverse.mpr hd2)
  have key8 : ∀ pl : Bool, (pl = true → R = 10 ∧ (0 < f0 ∨ N = 0)) → r8_k65_right D [.own false l1, .val (.int (b : Int)), .val (.int (R : Int)), .val (.int (N : Int)), .val (.mach i), .val (.int side), .val (.lst (dN fs)), .val (.bl hh), .val (.str ⟨t.toArray⟩), .val (.bl pl), x10, x11, x12, x13, x14, x15] W := by
    intro pl hpl
    have key := key
    unfold r8_k65_right
    walk_at "pt"
    have hcoin : ∀ (hx : hh = true ∨ pl = true), P_z_coin [Dat.int 2] l1 W fun d l' w => qEq d (Dat.int 0) fun z => isB z fun b_1 => if b_1 = true then r9_k65_right D [.own false l', .val (.int (b : Int)), .val (.int (R : Int)), .val (.int (N : Int)), .val (.mach i), .val (.int side), .val (.lst (dN fs)), .val (.bl hh), .val (.str ⟨t.toArray⟩), .val (.bl pl), .val (.int 0), x11, x12, x13, x14, x15] w else r9_k65_right D [.own false l', .val (.int (b : Int)), .val (.int (R : Int)), .val (.int (N : Int)), .val (.mach i), .val (.int side), .val (.lst (dN fs)), .val (.bl hh), .val (.str ⟨t.toArray⟩), .val (.bl pl), .val (.int (R : Int)), x11, x12, x13, x14, x15] w := by
      intro hx
      rw [e_z_coin]
      refine ⟨_, hp1, by omega, nxOk (by decide) (by decide), fun x1 l2 x10 x11 hp2 => ?_⟩
      walk_at "pt"
      exact ite_2 (fun _ => key 0 pl l2 (.inr ⟨rfl, hx⟩) hpl hp2) fun _ => key R pl l2 (.inl rfl) hpl hp2
    refine ite_2 (fun c => hcoin (.inl c)) fun _ => ite_2 (fun c => hcoin (.inr c)) fun _ => key R pl l1 (.inl rfl) hpl (hp1.mono (by omega))
  unfold r7_k65_right
  walk_at "pt"
  rw [hat, eSome]
  walk_at "pt"
  refine ite_2 (fun c => ite_2 (fun c2 => key8 true fun _ => ⟨by omega, .inl (by omega)⟩) fun c2 => key8 _ fun z => ⟨by omega, .inr (by have := of_decide_eq_true z; omega)⟩) fun _ => key8 false fun z => nomatch z
theorem in_pre {R : Nat} {K : Dat → Prop} (h : R ≤ 36) (hk : K (.bl (decide (R = 2 ∨ R = 8 ∨ R = 16)))) : qIn (.int (R : Int)) (.tup [.int 2, .int 8, .int 16]) K := by
  show K (.bl (inV (.int (R : Int)) [.int 2, .int 8, .int 16]))
  have : ∀ R : Nat, R < 37 → inV (.int (R : Int)) [.int 2, .int 8, .int 16] = decide (R = 2 ∨ R = 8 ∨ R = 16) := by decide +kernel
  rw [this R (by omega)]
  exact hk
theorem k65_q4 {D : PEnds} {b R N : Nat} {side : Int} {fs : List Nat} {i z : Nat} {l : List Dat} {W : Wld} {m : Mach} {x7 x8 x9 x10 x11 x12 x13 x14 x15 : Slot}
    (hb : 8 ≤ b ∧ b ≤ 30) (hR : 2 ≤ R ∧ R ≤ 36) (hd : ∀ d ∈ fs, d < R) (hl : fs.length ≤ 600) (hs : side = 1 ∨ side = -1) (hv : vl R fs.reverse = N) (hN : N < 2 ^ 450) (hp : Prs z l) (hz40 : z + 1500 < 2 ^ 40)
    (hm : W.ms[i]? = some m) (hmb : m.b = b) (hns : m.ns = zeros) (hw : m.walk = [])
    (h : ∀ e W' l', Prs (z + 1302) l' → e[0]? = some (.own false l') → D.rt (.bl true) e W') :
    r4_k65_right D [.own false l, .val (.int (b : Int)), .val (.int (R : Int)), .val (.int (N : Int)), .val (.mach i), .val (.int side), .val (.lst (dN fs)), x7, x8, x9, x10, x11, x12, x13, x14, x15] W := by
  have hz := sizeLine_eq
  have key : ∀ fs : List Nat, (∀ d ∈ fs, d < R) → fs.length ≤ 600 → fs ≠ [] → vl R fs.reverse = N → r5_k65_right D [.own false l, .val (.int (b : Int)), .val (.int (R : Int)), .val (.int (N : Int)), .val (.mach i), .val (.int side), .val (.lst (dN fs)), x7, x8, x9, x10, x11, x12, x13, x14, x15] W := by
    intro fs hd hl hne hv
    have key6 := fun (hh : Bool) (l2 : List Dat) (h1 : hh = true → R = 2 ∨ R = 8 ∨ R = 16) (hp2 : Prs (z + 1) l2) => k65_q6 (D := D) (hh := hh) (x8 := x8) (x9 := x9) (x10 := x10) (x11 := x11) (x12 := x12) (x13 := x13) (x14 := x14) (x15 := x15) hb hR hd hl hne hs hv hN h1 hp2 (by omega) hm hmb hns hw (fun e W' l' a1 a2 => h e W' l' (a1.mono (by omega)) a2)
    unfold r5_k65_right
    walk_at "pt"
    refine ⟨by omega, in_pre (by omega) ?_⟩
    walk_at "pt"
    refine ite_2 (fun c => ?_) fun _ => key6 false l (fun z => nomatch z) (hp.mono (by omega))
    rw [e_z_coin]
    refine ⟨_, hp, by omega, nxOk (by decide) (by decide), fun x1 l2 x10 x11 hp2 => ?_⟩
    walk_at "pt"
    exact key6 _ l2 (fun _ => c) hp2
  unfold r4_k65_right
  walk_at "pt"
  refine ⟨by omega, ⟨pl_dN _, pl_dN []⟩, fun bq h1 h2 => ?_⟩
  by_cases hne : fs = []
  · subst hne
    rw [h1 rfl, if_neg (by decide)]
    exact ⟨by omega, key [0] (fun d hd => by rw [List.mem_singleton.mp hd]; omega) (by decide) (by decide) (by rw [← hv]; rfl)⟩
  · rw [h2 (fun z => hne (dN_inj (Dat.lst.inj z))) (nb_dN _) rfl, if_pos rfl]
    exact key fs hd hl hne hv
theorem w_k65_right : ∀ ds l w k, P_k65_right ds l w k → p_k65_right (penF k) (env0O 16 l ds) w := by
  intro ds l w k h
  unfold P_k65_right at h
  split at h
  · obtain ⟨z, hp, hz40, h⟩ := h
    have hz := sizeLine_eq
    unfold p_k65_right
    walk_at "pt"
    rw [e_z_coin]
    refine ⟨_, hp, by omega, nxOk (by decide) (by decide), fun r1 l1 r10 r11 hp1 => ⟨by omega, ?_⟩⟩
    walk_at "pt"
    rw [e_z_pick]
    refine ⟨_, hp1, by omega, ⟨by simp, by simp⟩, fun d l2 hd hp2 => ?_⟩
    obtain ⟨b, rfl, hb⟩ : ∃ b : Nat, d = .int (b : Int) ∧ (8 ≤ b ∧ b ≤ 30) := by
      simp only [List.mem_cons, List.not_mem_nil, or_false] at hd
      rcases hd with rfl | rfl | rfl | rfl | rfl
      · exact ⟨8, rfl, by omega⟩
      · exact ⟨9, rfl, by omega⟩
      · exact ⟨15, rfl, by omega⟩
      · exact ⟨30, rfl, by omega⟩
      · exact ⟨(8 + r1).toNat, by rw [Int.toNat_of_nonneg (by omega)], by omega⟩
    rw [e_z_coin]
    refine ⟨_, hp2, by omega, nxOk (by decide) (by decide), fun r2 l3 r20 r21 hp3 => ?_⟩
    walk_at "pt"
    rw [e_z_pick]
    refine ⟨by omega, _, hp3, by omega, ⟨by simp, by simp⟩, fun d l4 hd hp4 => ?_⟩
    obtain ⟨R, rfl, hR⟩ : ∃ R : Nat, d = .int (R : Int) ∧ (2 ≤ R ∧ R ≤ 36) := by
      simp only [List.mem_cons, List.not_mem_nil, or_false] at hd
      rcases hd with rfl | rfl | rfl | rfl | rfl | rfl | rfl | rfl
      · exact ⟨(2 + r2).toNat, by rw [Int.toNat_of_nonneg (by omega)], by omega⟩
      · exact ⟨(2 + r2).toNat, by rw [Int.toNat_of_nonneg (by omega)], by omega⟩
      · exact ⟨10, rfl, by omega⟩
      · exact ⟨16, rfl, by omega⟩
      · exact ⟨8, rfl, by omega⟩
      · exact ⟨2, rfl, by omega⟩
      · exact ⟨32, rfl, by omega⟩
      · exact ⟨4, rfl, by omega⟩
    rw [e_z_pick]
    refine ⟨by omega, _, hp4, by omega, ⟨by simp, by simp⟩, fun d l5 hd hp5 => ?_⟩
    obtain ⟨u, rfl, hu⟩ : ∃ u : Nat, d = .int (u : Int) ∧ 1 ≤ u ∧ u ≤ 13 := by
      simp only [List.mem_cons, List.not_mem_nil, or_false] at hd
      rcases hd with rfl | rfl
      · exact ⟨3, rfl, by omega, by omega⟩
      · exact ⟨13, rfl, by omega, by omega⟩
    rw [e_z_coin]
    refine ⟨_, hp5, by omega, nxOk (by omega) (by omega), fun r l6 r0 r1 hp6 => ?_⟩
    rw [e_z_prow]
    refine ⟨_, b, r.toNat, rfl, by rw [Int.toNat_of_nonneg r0], hp6, by omega, ⟨by omega, by omega⟩, by omega, fun xs l7 hxd hxl hxn hp7 => ?_⟩
    rw [e_z_worth]
    refine ⟨b, xs, rfl, rfl, ⟨by omega, by omega⟩, ⟨hxd, by omega⟩, ?_⟩
    have hN : val b xs < 2 ^ 450 := Nat.lt_of_lt_of_le (val_lt hxd) (Nat.pow_le_pow_right (by decide) (Nat.le_trans (Nat.mul_le_mul hb.2 (show xs.length ≤ 12 by omega)) (by decide)))
    generalize val b xs = N at hN ⊢
    refine ⟨by omega, by omega, ?_⟩
    rw [e_z_pick]
    refine ⟨_, hp7, by omega, ⟨by simp, by simp⟩, fun d l8 hd hp8 => ?_⟩
    obtain ⟨side, rfl, hs⟩ : ∃ side : Int, d = .int side ∧ (side = 1 ∨ side = -1) := by
      simp only [List.mem_cons, List.not_mem_nil, or_false] at hd
      rcases hd with rfl | rfl
      · exact ⟨1, rfl, .inl rfl⟩
      · exact ⟨-1, rfl, .inr rfl⟩
    rw [e_k65_figures]
    refine ⟨N, R, _, rfl, rfl, hR, hN, hp8, by omega, fun q l9 hq hp9 => ?_⟩
    have hdl := dg_len2 hR.1 hN
    have hm : (w.ms ++ [(⟨((b : Int)).toNat, 70, zeros, []⟩ : Mach)])[w.ms.length]? = some ⟨b, 70, zeros, []⟩ := by
      rw [List.getElem?_append_right (by omega)]; simp
    refine k65_q4 hb hR ?_ ?_ hs ?_ hN hp9 (by omega) hm rfl rfl rfl fun e W' l' hp10 he => ?_
    · intro d hd
      rcases List.mem_append.mp hd with hd | hd
      · rw [(List.mem_replicate.mp hd).2]; omega
      · exact dg_lt hR.1 N d (List.mem_reverse.mp hd)
    · rw [List.length_append, List.length_replicate, List.length_reverse]; omega
    · rw [List.reverse_append, List.reverse_reverse, List.reverse_replicate, vl_app, vl_zeros, vl_dg hR.1]; omega
    · show oOf e[0]? fun f l => f = false ∧ k (.bl true) l W'
      rw [he]
      exact ⟨rfl, h l' W' (hp10.mono (by omega))⟩
  · exact h.elim
theorem b_k65_right {K : PySem.W.Frag} {c : Pc} {vs : List V} {H : Hp} {Q : VK} {E : XK} (PM : PM K c) (PB : PB K c) (h : sp_k65_right K c vs H Q E) : t_k65_right K c (en0 Q) (st0 16 vs) H := def_okO (sn_k65_right PM PB) (fun ds l w k h => by have := n_k65_right ds l w k h; omega) w_k65_right h
def P_k65_law : PSp := P_law0
def sp_k65_law (K : PySem.W.Frag) (c : Pc) : Sp := sp_law0 K
/-- 0:_law_script 1:_law_cell 2:_law_purse_here 3:_law_turn 4:_law_tiny 5:_law_got 6:_law_one -/
def t_k65_law (K : PySem.W.Frag) (c : Pc) : TS :=
  (tSeq (tFor (iList K (tOp rCat (tSl (rSlL K) (tVar 0) tNoPart (tPart (tC (.int 3)))) (tLst (tCons (tC (.int 0)) tNil)))) (gName 1) (tSeq (tAsg (tCall (sp_z_purse K c) [] E0 (tCons (tVar 1) tNil)) (gName 2))
  (tFor (iRng1 (tCons (tC (.int 6)) tNil)) (gName 3) (tIfS (tNot (L2.tB (tCall (sp_k65_right K c) [] E0 (tCons (tVar 2) tNil)))) (tRet (tC (.bl false))) tNext))))
  (tSeq (tAsg (tMake c.CMachine (sp_A K c) [] E0 (tCons (tC (.int 8)) (tCons (tC (.int 4)) tNil))) (gName 4))
  (tSeq (tAsg (tLst (tCons (tCall (sp_t_read K c) [(.int 10), (.int 4300)] E0 (tCons (tVar 4) (tCons (tC (.str "-2_000")) tNil))) (tCons (tCall (sp_t_read K c) [(.int 4300)] E0 (tCons (tVar 4) (tCons (tC (.str " -0x_7d0 ")) (tCons (tC (.int 16)) tNil)))) tNil))) (gName 5))
  (tSeq (tIfS (tTest (tOp (rNeTD K) (tCall (sp_z_pcounted K c) [] E0 (tCons (tVar 4) tNil)) (tTup (tCons (tDisp [((tC (.str "product")), (tC (.int 1))), ((tC (.str "shifted")), (tC (.int 2)))]) (tCons (tLst (tCons (tTup (tCons (tC (.str "read")) (tCons (tC (.int 4)) (tCons (tC (.int 10)) tNil)))) (tCons (tTup (tCons (tC (.str "read")) (tCons (tC (.int 3)) (tCons (tC (.int 16)) tNil)))) tNil))) tNil))))) (tRet (tC (.bl false))) tNext)
  (tRet (tOp (rEqD K) (tLc (iList K (tVar 5)) (gName 6) tYes (tCall (sp_T K c) [] E0 (tCons (tVar 6) tNil)) [6]) (tLst (tCons (tUn rNeg (tC (.int 2000))) (tCons (tUn rNeg (tC (.int 2000))) tNil)))))))))
def b1_k65_law : PS :=
  (pIfS (pNot (pTest (pCallO P_k65_right 2 pNil))) (pRet (pC (.bl false))) pNext)
def b2_k65_law : PS :=
  (pSeq (pAsgO (pCallL P_z_purse (pCons (pVar 1) pNil)) 2)
  (pFor (pIR1 (pC (.int 6))) (pgName 3) b1_k65_law))
def r4_k65_law : PS :=
  (pRet (pOp qEqD (pFz (pLc (pIL (pVar 5)) (pgName 6) pYes (pCall P_T (pCons (pVar 6) pNil)) [6])) (pFz (pLst (pCons (pUn qNeg (pC (.int 2000))) (pCons (pUn qNeg (pC (.int 2000))) pNil))))))
def r3_k65_law : PS :=
  (pSeq (pIfS (pTest (pOp qNeTD (pCall P_z_pcounted (pCons (pVar 4) pNil)) (pTup (pCons (pDisp [("product", (pC (.int 1))), ("shifted", (pC (.int 2)))]) (pCons (pFz (pLst (pCons (pTup (pCons (pC (.str "read")) (pCons (pC (.int 4)) (pCons (pC (.int 10)) pNil)))) (pCons (pTup (pCons (pC (.str "read")) (pCons (pC (.int 3)) (pCons (pC (.int 16)) pNil)))) pNil)))) pNil))))) (pRet (pC (.bl false))) pNext)
  r4_k65_law)
def r2_k65_law : PS :=
  (pSeq (pAsg (pFz (pLst (pCons (pCallD P_t_read [(.int 10), (.int 4300)] (pCons (pVar 4) (pCons (pC (.str "-2_000")) pNil))) (pCons (pCallD P_t_read [(.int 4300)] (pCons (pVar 4) (pCons (pC (.str " -0x_7d0 ")) (pCons (pC (.int 16)) pNil)))) pNil)))) 5)
  r3_k65_law)
def r1_k65_law : PS :=
  (pSeq (pAsg (pCallD P_Machine [] (pCons (pC (.int 8)) (pCons (pC (.int 4)) pNil))) 4)
  r2_k65_law)
def p_k65_law : PS :=
  (pSeq (pFor (pIL (pFz (pOpF qCat (pFz (pSlL (pVar 0) pNoPart (pPart (pC (.int 3))))) (pFz (pLst (pCons (pC (.int 0)) pNil)))))) (pgName 1) b2_k65_law)
  r1_k65_law)
theorem sn_k65_law {K : PySem.W.Frag} {c : Pc} {α : Prop} (PM : PM K c) (PB : α) : SndS K c (t_k65_law K c) p_k65_law :=
  (snd_seq (snd_for (snd_iList (snd_fz (snd_opF s_cat (snd_fz (snd_slL snd_var snd_noPart (snd_part (snd_int 3)))) (snd_fz (snd_lst (snd_cons (snd_int 0) snd_nil)))))) snd_gName (snd_seq (snd_asgO (snd_callL ul_z_purse (snd_cons snd_var snd_nil)))
  (snd_for (snd_iR1 (snd_int 6)) snd_gName (snd_ifS (snd_not (snd_tB (snd_callO uO_k65_right snd_nil))) (snd_ret (snd_bl false)) snd_next))))
  (snd_seq (snd_asg (snd_mkM (fun _ => .nil) (snd_cons (snd_int 8) (snd_cons (snd_int 4) snd_nil))))
  (snd_seq (snd_asg (snd_fz (snd_lst (snd_cons (snd_callD u_t_read (fun _ => (.cons (.int _) (.cons (.int _) .nil))) (snd_cons snd_var (snd_cons (snd_str "-2_000") snd_nil))) (snd_cons (snd_callD u_t_read (fun _ => (.cons (.int _) .nil)) (snd_cons snd_var (snd_cons (snd_str " -0x_7d0 ") (snd_cons (snd_int 16) snd_nil)))) snd_nil)))))
  (snd_seq (snd_ifS (snd_test (snd_op s_neTD (snd_call u_z_pcounted (snd_cons snd_var snd_nil)) (snd_tup (snd_cons (snd_disp (show SndD K c _ _ from ⟨rfl, (snd_int 1), ⟨rfl, (snd_int 2), trivial⟩⟩)) (snd_cons (snd_fz (snd_lst (snd_cons (snd_tup (snd_cons (snd_str "read") (snd_cons (snd_int 4) (snd_cons (snd_int 10) snd_nil)))) (snd_cons (snd_tup (snd_cons (snd_str "read") (snd_cons (snd_int 3) (snd_cons (snd_int 16) snd_nil)))) snd_nil)))) snd_nil))))) (snd_ret (snd_bl false)) snd_next)
  (snd_ret (snd_op s_eqD (snd_fz (snd_lc (snd_iList snd_var) snd_gName (tgt_name _) snd_yes (snd_call u_T (snd_cons snd_var snd_nil)))) (snd_fz (snd_lst (snd_cons (snd_neg (snd_int 2000)) (snd_cons (snd_neg (snd_int 2000)) snd_nil))))))))))
theorem pcn_d {i : Nat} {W : Wld} {m m0 : Mach} {k : Dat → Wld → Prop} {l : List (Str × Int)} {dl : List Dat} (hm0 : W.ms[i]? = some m0) (h1 : nzB m.ns = l) (h2 : m.walk.map dW = dl)
    (h : k (.tup [.dic l, .lst dl]) (W.put i m.rst)) : P_z_pcounted [.mach i] (W.put i m) k := by
  show onM _ i _
  rw [onM_put hm0, put_put]
  show k (.tup [.dic (nzB m.ns), .lst (m.walk.map dW)]) _
  rw [h1, h2]; exact h
def rM0 : Mach := ⟨8, 4, zeros, []⟩
def rM1 : Mach := (rM0.ent "read" 4 10).cnt 2 1
def rM2 : Mach := (rM1.ent "read" 3 16).cnt 6 2
theorem rM2_nz : nzB rM2.ns = [(("product" : Str), 1), (("shifted" : Str), 2)] := by decide +kernel
theorem rt1 : RtH 8 10 2000 (-1) [2, 0, 0, 0] [45, 50, 95, 48, 48, 48] 10 := by
  refine ⟨by decide, by decide, by decide, by decide, .inr rfl, rfl, Nat.lt_of_lt_of_le (show 2000 < 2 ^ 11 by decide) (Nat.pow_le_pow_right (by decide) (by decide)), by decide, WrT.rd (h := false) ⟨[], [], [45], [], 50, [(true, 48), (false, 48), (false, 48)], rfl, by decide, by decide, by decide, by decide, .inl ⟨rfl, rfl⟩, (fun _ => rfl), (fun z => nomatch z), rfl⟩ (by decide) (by decide) (by decide) (.inl rfl)⟩
theorem rt2 : RtH 8 16 2000 (-1) [7, 13, 0] [32, 45, 48, 120, 95, 55, 100, 48, 32] 16 := by
  refine ⟨by decide, by decide, by decide, by decide, .inr rfl, rfl, Nat.lt_of_lt_of_le (show 2000 < 2 ^ 11 by decide) (Nat.pow_le_pow_right (by decide) (by decide)), by decide, WrT.rd (h := true) ⟨[32], [32], [45], [48, 120, 95], 55, [(false, 100), (false, 48)], rfl, by decide +kernel, by decide +kernel, by decide, by decide, .inl ⟨rfl, rfl⟩, (fun z => nomatch z), (fun _ => ⟨120, by decide, by decide, .inr rfl⟩), rfl⟩ (by decide) (by decide) (by decide) (.inl rfl)⟩
theorem rd1 : rdM rM0 10 [2, 0, 0, 0] = rM1 := by
  have e1 : gpR 8 10 = 2 := (gpR_uniq (by decide) (by decide) (by decide) (by decide) (by decide) (by decide)).symm
  have e2 : digs 8 20 = [20] := digs_val (b := 8) (ds := [20]) (by decide) (by unfold Digs; decide) (by unfold Norm; decide)
  have e3 : digs 8 0 = [] := digs_zero 8
  have e4 : stepsR 8 10 (gpR 8 10) [2, 0, 0, 0] = 1 := by
    rw [e1]
    show (digs 8 0).length + ((digs 8 20).length + 0) = 1
    rw [e2, e3]; rfl
  have e5 : rdC 8 10 [2, 0, 0, 0] = (2, 1) := by
    show (2, stepsR 8 10 (gpR 8 10) [2, 0, 0, 0]) = _
    rw [e4]
  show (rM0.ent "read" 4 10).cnt (rdC 8 10 [2, 0, 0, 0]).1 ((rdC 8 10 [2, 0, 0, 0]).2 : Nat) = _
  rw [e5]; rfl
theorem rd2 : rdM rM1 16 [7, 13, 0] = rM2 := rfl
theorem k65_tail {D : PEnds} {W : Wld} {i : Nat} {y0 y1 y2 y3 : Slot} (hm : W.ms[i]? = some ⟨8, 4, zeros, []⟩) (h : ∀ e W', D.rt (.bl true) e W') : r2_k65_law D [y0, y1, y2, y3, .val (.mach i), .no, .no] W := by
  have hz := sizeLine_eq
  have hm : W.ms[i]? = some rM0 := hm
  have ea : Str.ofString "-2_000" = ⟨[45, 50, 95, 48, 48, 48].toArray⟩ := by decide +kernel
  have eb : Str.ofString " -0x_7d0 " = ⟨[32, 45, 48, 120, 95, 55, 100, 48, 32].toArray⟩ := by decide +kernel
  unfold r2_k65_law
  walk_at "pt"
  rw [ea, eb]
  refine rt1.read (most := 4300) hm rfl (.inr (by decide)) ?_
  rw [rd1]
  refine rt2.read (most := 4300) (put_at hm) rfl (.inr (by decide)) ?_
  rw [rd2, put_put]
  refine ⟨by omega, ?_⟩
  unfold r3_k65_law
  walk_at "pt"
  refine pcn_d hm rM2_nz rfl ?_
  walk_at "pt"
  refine ⟨⟨by decide +kernel, by decide⟩, by omega, by omega, by omega, by omega, eqDs_refl (by decide +kernel), rfl, by unfold pl; decide +kernel, ?_⟩
  unfold r4_k65_law
  walk_at "pt"
  rw [lcp_cons]
  walk_at "pt"
  rw [lcp_cons]
  walk_at "pt"
  rw [lcp_nil]
  walk_at "pt"
  have hB : bigL 8 (-1 * ((2000 : Nat) : Int)) := (digs100 (b := 8) (by decide) (by decide) rt1.sm).2.1
  have hpl : pl (Dat.lst [Dat.int (-2000), Dat.int (-2000)]) := by unfold pl; decide +kernel
  have hpl2 : pl (Dat.lst [Dat.int (-1 * ((2000 : Nat) : Int)), Dat.int (-1 * ((2000 : Nat) : Int))]) := hpl
  refine ⟨hB, by omega, hB, by omega, by omega, ⟨hpl2, hpl⟩, fun bq h1 _ => ?_⟩
  rw [h1 rfl]
  exact h _ _
theorem w_k65_law : ∀ ds w k, P_k65_law ds w k → p_k65_law (pen k) (env0 7 ds) w := by
  intro ds w k h
  unfold P_k65_law P_law0 at h
  split at h
  · rename_i l
    obtain ⟨ns, rfl, hl, h⟩ := h
    have hz := sizeLine_eq
    unfold p_k65_law
    walk_at "pt"
    have hcl := cut_len (l := ns.map Dat.int) none (some 3)
    rw [List.length_map] at hcl
    refine ⟨by omega, by omega, ?_⟩
    have hall : ∀ d ∈ cutD (ns.map Dat.int) none (some 3) ++ [Dat.int 0], ∃ z : Int, d = .int z := fun d hd => by
      rcases List.mem_append.mp hd with y | y
      · exact cut_all (P := fun d => ∃ z, d = .int z) (fun d hd => by obtain ⟨z, _, rfl⟩ := List.mem_map.mp hd; exact ⟨z, rfl⟩) _ _ d y
      · exact ⟨0, List.mem_singleton.mp y⟩
    refine lp_ind (fun _ e _ => ∃ y1 y2 y3, e = [.val (.cst (ns.map Dat.int)), y1, y2, y3, .no, .no, .no]) ⟨_, _, _, rfl⟩ ?_ ?_
    · rintro j d e w nx hd ⟨y1, y2, y3, rfl⟩ hn
      obtain ⟨z, rfl⟩ := hall d (List.mem_of_getElem? hd)
      unfold b2_k65_law
      walk_at "pt"
      rw [e_z_purse]
      intro l hp
      walk_at "pt"
      refine ⟨⟨by decide, by decide⟩, lp_ind (fun j e w' => ∃ l' y3, Prs (7 + 2000 * j) l' ∧ e = [.val (.cst (ns.map Dat.int)), .val (.int z), .own true l', y3, .no, .no, .no]) ⟨l, y3, hp, rfl⟩ ?_ ?_⟩
      · rintro j d e w' nx hd ⟨l', y3, hp', rfl⟩ hn2
        obtain ⟨hj, _⟩ := rng_get hd
        have hj : j < 6 := hj
        unfold b1_k65_law
        walk_at "pt"
        rw [e_k65_right]
        refine ⟨_, hp', by omega, fun l2 w2 hp2 => ?_⟩
        walk_at "pt"
        exact hn2 _ _ ⟨l2, _, hp2.mono (by omega), rfl⟩
      · rintro e w' ⟨l', y3, _, rfl⟩
        exact hn _ _ ⟨_, _, _, rfl⟩
    · rintro e w ⟨y1, y2, y3, rfl⟩
      unfold r1_k65_law
      walk_at "pt"
      refine ⟨by decide, ?_⟩
      refine k65_tail (i := w.ms.length) List.getElem?_concat_length fun e W' => ?_
      exact h _
  · exact h.elim
theorem b_k65_law {K : PySem.W.Frag} {c : Pc} {vs : List V} {H : Hp} {Q : VK} {E : XK} {α : Prop} (PM : PM K c) (PB : α) (NT : c.ts = []) (h : sp_k65_law K c vs H Q E) : t_k65_law K c (en0 Q) (st0 7 vs) H := def_ok (sn_k65_law PM PB) w_k65_law (law_lif NT h)
end Eng
namespace Law
open PySem PySem.Spec PyProof.Rows L2 Eng
def top (i : Nat) : Stmt := PySem.Challenge.pw_thirtybits_k65_texts_read.main.body.getD i (.Pass ⟨0, 0, 0, 0⟩)
abbrev s_G : Stmt := top 7
abbrev N_G : List Str := ["value"]
theorem sc_G : FnScope N_G ["value"] (defScope s_G) := ⟨rfl, rfl, rfl, by decide +kernel, rfl, by decide +kernel, by decide +kernel⟩
abbrev s_H : Stmt := top 8
abbrev N_H : List Str := ["value", "low", "high"]
theorem sc_H : FnScope N_H ["value", "low", "high"] (defScope s_H) := ⟨rfl, rfl, rfl, by decide +kernel, rfl, by decide +kernel, by decide +kernel⟩
abbrev s_Ae : Stmt := top 9
abbrev N_Ae : List Str := ["argument", "value"]
theorem sc_Ae : FnScope N_Ae ["argument", "value"] (defScope s_Ae) := ⟨rfl, rfl, rfl, by decide +kernel, rfl, by decide +kernel, by decide +kernel⟩
abbrev s_A : Stmt := inClass (top 17) 0
abbrev N_A : List Str := ["self", "bits", "cutoff", "word"]
theorem sc_A : FnScope N_A ["self", "bits", "cutoff"] (defScope s_A) := ⟨rfl, rfl, rfl, by decide +kernel, rfl, by decide +kernel, by decide +kernel⟩
abbrev s_J : Stmt := inClass (top 17) 3
abbrev N_J : List Str := ["self", "word"]
theorem sc_J : FnScope N_J ["self"] (defScope s_J) := ⟨rfl, rfl, rfl, by decide +kernel, rfl, by decide +kernel, by decide +kernel⟩
abbrev s_N : Stmt := inClass (top 17) 4
abbrev N_N : List Str := ["self"]
theorem sc_N : FnScope N_N ["self"] (defScope s_N) := ⟨rfl, rfl, rfl, by decide +kernel, rfl, by decide +kernel, by decide +kernel⟩
abbrev s_M : Stmt := inClass (top 17) 5
abbrev N_M : List Str := ["self", "word"]
theorem sc_M : FnScope N_M ["self"] (defScope s_M) := ⟨rfl, rfl, rfl, by decide +kernel, rfl, by decide +kernel, by decide +kernel⟩
abbrev s_D : Stmt := inClass (top 17) 6
abbrev N_D : List Str := ["self", "word", "number"]
theorem sc_D : FnScope N_D ["self", "word", "number"] (defScope s_D) := ⟨rfl, rfl, rfl, by decide +kernel, rfl, by decide +kernel, by decide +kernel⟩
abbrev s_U : Stmt := inClass (top 17) 7
abbrev N_U : List Str := ["self", "word", "m", "n"]
theorem sc_U : FnScope N_U ["self", "word", "m", "n"] (defScope s_U) := ⟨rfl, rfl, rfl, by decide +kernel, rfl, by decide +kernel, by decide +kernel⟩
abbrev s_L : Stmt := top 18
abbrev N_L : List Str := ["value"]
theorem sc_L : FnScope N_L ["value"] (defScope s_L) := ⟨rfl, rfl, rfl, by decide +kernel, rfl, by decide +kernel, by decide +kernel⟩
abbrev s_X : Stmt := inClass (top 20) 0
abbrev N_X : List Str := ["self", "width", "side", "row"]
theorem sc_X : FnScope N_X ["self", "width", "side", "row"] (defScope s_X) := ⟨rfl, rfl, rfl, by decide +kernel, rfl, by decide +kernel, by decide +kernel⟩
abbrev s_S : Stmt := inClass (top 20) 1
abbrev N_S : List Str := ["self", "other"]
theorem sc_S : FnScope N_S ["self", "other"] (defScope s_S) := ⟨rfl, rfl, rfl, by decide +kernel, rfl, by decide +kernel, by decide +kernel⟩
abbrev s_O : Stmt := inClass (top 20) 2
abbrev N_O : List Str := ["self"]
theorem sc_O : FnScope N_O ["self"] (defScope s_O) := ⟨rfl, rfl, rfl, by decide +kernel, rfl, by decide +kernel, by decide +kernel⟩
abbrev s_Q : Stmt := inClass (top 20) 3
abbrev N_Q : List Str := ["self"]
theorem sc_Q : FnScope N_Q ["self"] (defScope s_Q) := ⟨rfl, rfl, rfl, by decide +kernel, rfl, by decide +kernel, by decide +kernel⟩
abbrev s_P : Stmt := inClass (top 20) 4
abbrev N_P : List Str := ["self"]
theorem sc_P : FnScope N_P ["self"] (defScope s_P) := ⟨rfl, rfl, rfl, by decide +kernel, rfl, by decide +kernel, by decide +kernel⟩
abbrev s_E : Stmt := top 21
abbrev N_E : List Str := ["machine", "side", "digits", "size"]
theorem sc_E : FnScope N_E ["machine", "side", "digits"] (defScope s_E) := ⟨rfl, rfl, rfl, by decide +kernel, rfl, by decide +kernel, by decide +kernel⟩
abbrev s_Z : Stmt := top 22
abbrev N_Z : List Str := ["machine", "n", "found"]
theorem sc_Z : FnScope N_Z ["machine", "n"] (defScope s_Z) := ⟨rfl, rfl, rfl, by decide +kernel, rfl, by decide +kernel, by decide +kernel⟩
abbrev s_V : Stmt := top 23
abbrev N_V : List Str := ["machine", "n"]
theorem sc_V : FnScope N_V ["machine", "n"] (defScope s_V) := ⟨rfl, rfl, rfl, by decide +kernel, rfl, by decide +kernel, by decide +kernel⟩
abbrev s_R : Stmt := top 24
abbrev N_R : List Str := ["x", "found", "digit"]
theorem sc_R : FnScope N_R ["x"] (defScope s_R) := ⟨rfl, rfl, rfl, by decide +kernel, rfl, by decide +kernel, by decide +kernel⟩
abbrev s_Y : Stmt := top 25
abbrev N_Y : List Str := ["value"]
theorem sc_Y : FnScope N_Y ["value"] (defScope s_Y) := ⟨rfl, rfl, rfl, by decide +kernel, rfl, by decide +kernel, by decide +kernel⟩
abbrev s_big : Stmt := top 26
abbrev N_big : List Str := ["machine", "n"]
theorem sc_big : FnScope N_big ["machine", "n"] (defScope s_big) := ⟨rfl, rfl, rfl, by decide +kernel, rfl, by decide +kernel, by decide +kernel⟩
abbrev s_T : Stmt := top 27
abbrev N_T : List Str := ["x"]
theorem sc_T : FnScope N_T ["x"] (defScope s_T) := ⟨rfl, rfl, rfl, by decide +kernel, rfl, by decide +kernel, by decide +kernel⟩
abbrev s_Au : Stmt := top 35
abbrev N_Au : List Str := ["value"]
theorem sc_Au : FnScope N_Au ["value"] (defScope s_Au) := ⟨rfl, rfl, rfl, by decide +kernel, rfl, by decide +kernel, by decide +kernel⟩
abbrev s_Ao : Stmt := top 36
abbrev N_Ao : List Str := ["machine", "base", "size", "power"]
theorem sc_Ao : FnScope N_Ao ["machine", "base"] (defScope s_Ao) := ⟨rfl, rfl, rfl, by decide +kernel, rfl, by decide +kernel, by decide +kernel⟩
abbrev s_As : Stmt := inClass (top 37) 0
abbrev N_As : List Str := ["self", "text", "base"]
theorem sc_As : FnScope N_As ["self", "text", "base"] (defScope s_As) := ⟨rfl, rfl, rfl, by decide +kernel, rfl, by decide +kernel, by decide +kernel⟩
abbrev s_K : Stmt := inClass (top 37) 1
abbrev N_K : List Str := ["self"]
theorem sc_K : FnScope N_K ["self"] (defScope s_K) := ⟨rfl, rfl, rfl, by decide +kernel, rfl, by decide +kernel, by decide +kernel⟩
abbrev s_Ai : Stmt := inClass (top 37) 2
abbrev N_Ai : List Str := ["self"]
theorem sc_Ai : FnScope N_Ai ["self"] (defScope s_Ai) := ⟨rfl, rfl, rfl, by decide +kernel, rfl, by decide +kernel, by decide +kernel⟩
abbrev s_Ac : Stmt := inClass (top 37) 3
abbrev N_Ac : List Str := ["self", "signs", "is_there"]
theorem sc_Ac : FnScope N_Ac ["self", "signs"] (defScope s_Ac) := ⟨rfl, rfl, rfl, by decide +kernel, rfl, by decide +kernel, by decide +kernel⟩
abbrev s_Ak : Stmt := inClass (top 37) 4
abbrev N_Ak : List Str := ["self", "letter"]
theorem sc_Ak : FnScope N_Ak ["self"] (defScope s_Ak) := ⟨rfl, rfl, rfl, by decide +kernel, rfl, by decide +kernel, by decide +kernel⟩
abbrev s_Af : Stmt := inClass (top 37) 5
abbrev N_Af : List Str := ["self", "sign", "value"]
theorem sc_Af : FnScope N_Af ["self"] (defScope s_Af) := ⟨rfl, rfl, rfl, by decide +kernel, rfl, by decide +kernel, by decide +kernel⟩
abbrev s_Ag : Stmt := inClass (top 37) 6
abbrev N_Ag : List Str := ["self", "value"]
theorem sc_Ag : FnScope N_Ag ["self"] (defScope s_Ag) := ⟨rfl, rfl, rfl, by decide +kernel, rfl, by decide +kernel, by decide +kernel⟩
abbrev s_Al : Stmt := inClass (top 37) 7
abbrev N_Al : List Str := ["self", "side"]
theorem sc_Al : FnScope N_Al ["self"] (defScope s_Al) := ⟨rfl, rfl, rfl, by decide +kernel, rfl, by decide +kernel, by decide +kernel⟩
abbrev s_Ad : Stmt := top 38
abbrev N_Ad : List Str := ["machine", "figures", "base", "size", "power", "row", "steps", "start", "carry", "factor", "value", "place"]
theorem sc_Ad : FnScope N_Ad ["machine", "figures", "base"] (defScope s_Ad) := ⟨rfl, rfl, rfl, by decide +kernel, rfl, by decide +kernel, by decide +kernel⟩
abbrev s_Am : Stmt := top 39
abbrev N_Am : List Str := ["machine", "figures", "base", "row", "held", "many", "value"]
theorem sc_Am : FnScope N_Am ["machine", "figures", "base"] (defScope s_Am) := ⟨rfl, rfl, rfl, by decide +kernel, rfl, by decide +kernel, by decide +kernel⟩
abbrev s_F : Stmt := top 40
abbrev N_F : List Str := ["machine", "figures", "base", "side"]
theorem sc_F : FnScope N_F ["machine", "figures", "base", "side"] (defScope s_F) := ⟨rfl, rfl, rfl, by decide +kernel, rfl, by decide +kernel, by decide +kernel⟩
abbrev s_B : Stmt := top 41
abbrev N_B : List Str := ["machine", "text", "base", "most", "reader", "side"]
theorem sc_B : FnScope N_B ["machine", "text", "base", "most"] (defScope s_B) := ⟨rfl, rfl, rfl, by decide +kernel, rfl, by decide +kernel, by decide +kernel⟩
abbrev s_Av : Stmt := top 43
abbrev N_Av : List Str := ["_law_cell"]
theorem sc_Av : FnScope N_Av ["_law_cell"] (defScope s_Av) := ⟨rfl, rfl, rfl, by decide +kernel, rfl, by decide +kernel, by decide +kernel⟩
abbrev s_C : Stmt := top 44
abbrev N_C : List Str := ["_law_purse_here", "_law_amount", "_law_coin_here", "_law_mixed"]
theorem sc_C : FnScope N_C ["_law_purse_here", "_law_amount"] (defScope s_C) := ⟨rfl, rfl, rfl, by decide +kernel, rfl, by decide +kernel, by decide +kernel⟩
abbrev s_I : Stmt := top 45
abbrev N_I : List Str := ["_law_purse_here", "_law_some"]
theorem sc_I : FnScope N_I ["_law_purse_here", "_law_some"] (defScope s_I) := ⟨rfl, rfl, rfl, by decide +kernel, rfl, by decide +kernel, by decide +kernel⟩
abbrev s_Ap : Stmt := top 46
abbrev N_Ap : List Str := ["_law_purse_here", "_law_bits", "_law_size", "_law_found", "_law_k"]
theorem sc_Ap : FnScope N_Ap ["_law_purse_here", "_law_bits", "_law_size"] (defScope s_Ap) := ⟨rfl, rfl, rfl, by decide +kernel, rfl, by decide +kernel, by decide +kernel⟩
abbrev s_An : Stmt := top 47
abbrev N_An : List Str := ["_law_bits", "_law_row_here", "_law_found", "_law_digit"]
theorem sc_An : FnScope N_An ["_law_bits", "_law_row_here"] (defScope s_An) := ⟨rfl, rfl, rfl, by decide +kernel, rfl, by decide +kernel, by decide +kernel⟩
abbrev s_Ah : Stmt := top 48
abbrev N_Ah : List Str := ["_law_bits", "_law_n", "_law_found"]
theorem sc_Ah : FnScope N_Ah ["_law_bits", "_law_n"] (defScope s_Ah) := ⟨rfl, rfl, rfl, by decide +kernel, rfl, by decide +kernel, by decide +kernel⟩
abbrev s_At : Stmt := top 49
abbrev N_At : List Str := ["_law_held", "_law_bits", "_law_n", "_law_side"]
theorem sc_At : FnScope N_At ["_law_held", "_law_bits", "_law_n"] (defScope s_At) := ⟨rfl, rfl, rfl, by decide +kernel, rfl, by decide +kernel, by decide +kernel⟩
abbrev s_W : Stmt := top 50
abbrev N_W : List Str := ["_law_engine", "_law_found", "_law_row_here"]
theorem sc_W : FnScope N_W ["_law_engine"] (defScope s_W) := ⟨rfl, rfl, rfl, by decide +kernel, rfl, by decide +kernel, by decide +kernel⟩
abbrev s_Aq : Stmt := top 51
abbrev N_Aq : List Str := ["_law_bits", "_law_radix", "_law_size", "_law_worth_here"]
theorem sc_Aq : FnScope N_Aq ["_law_bits", "_law_radix"] (defScope s_Aq) := ⟨rfl, rfl, rfl, by decide +kernel, rfl, by decide +kernel, by decide +kernel⟩
abbrev s_Aj : Stmt := top 52
abbrev N_Aj : List Str := ["_law_bits", "_law_radix", "_law_digits_so", "_law_size", "_law_worth_here", "_law_found", "_law_whole", "_law_start", "_law_value"]
theorem sc_Aj : FnScope N_Aj ["_law_bits", "_law_radix", "_law_digits_so"] (defScope s_Aj) := ⟨rfl, rfl, rfl, by decide +kernel, rfl, by decide +kernel, by decide +kernel⟩
abbrev s_Ar : Stmt := top 53
abbrev N_Ar : List Str := ["_law_purse_here", "_law_n", "_law_radix", "_law_found"]
theorem sc_Ar : FnScope N_Ar ["_law_purse_here", "_law_n", "_law_radix"] (defScope s_Ar) := ⟨rfl, rfl, rfl, by decide +kernel, rfl, by decide +kernel, by decide +kernel⟩
abbrev s_Aa : Stmt := top 54
abbrev N_Aa : List Str := ["_law_purse_here", "_law_side", "_law_figures_here", "_law_radix", "_law_has_prefix", "_law_line", "_law_place", "_law_value", "_law_sign", "_law_letter", "_law_ends", "_law_turn"]
theorem sc_Aa : FnScope N_Aa ["_law_purse_here", "_law_side", "_law_figures_here", "_law_radix", "_law_has_prefix"] (defScope s_Aa) := ⟨rfl, rfl, rfl, by decide +kernel, rfl, by decide +kernel, by decide +kernel⟩
abbrev s_Ab : Stmt := top 55
abbrev N_Ab : List Str := ["_law_purse_here", "_law_bits", "_law_radix", "_law_n", "_law_engine", "_law_side", "_law_figures_here", "_law_has_prefix", "_law_line", "_law_is_plain", "_law_asked", "_law_width", "_law_word", "_law_steps", "_law_due", "_law_again"]
theorem sc_Ab : FnScope N_Ab ["_law_purse_here"] (defScope s_Ab) := ⟨rfl, rfl, rfl, by decide +kernel, rfl, by decide +kernel, by decide +kernel⟩
abbrev s_law : Stmt := top 56
abbrev N_law : List Str := ["_law_script", "_law_cell", "_law_purse_here", "_law_turn", "_law_tiny", "_law_got", "_law_one"]
theorem sc_law : FnScope N_law ["_law_script"] (defScope s_law) := ⟨rfl, rfl, rfl, by decide +kernel, rfl, by decide +kernel, by decide +kernel⟩
/-- where all stands -/
structure Ad where
  c : Pc
  f_G : Addr
  fd_G : FuncData
  f_H : Addr
  fd_H : FuncData
  f_Ae : Addr
  fd_Ae : FuncData
  f_A : Addr
  fd_A : FuncData
  f_J : Addr
  fd_J : FuncData
  f_N : Addr
  fd_N : FuncData
  f_M : Addr
  fd_M : FuncData
  f_D : Addr
  fd_D : FuncData
  f_U : Addr
  fd_U : FuncData
  f_L : Addr
  fd_L : FuncData
  f_X : Addr
  fd_X : FuncData
  f_S : Addr
  fd_S : FuncData
  f_O : Addr
  fd_O : FuncData
  f_Q : Addr
  fd_Q : FuncData
  f_P : Addr
  fd_P : FuncData
  f_E : Addr
  fd_E : FuncData
  f_Z : Addr
  fd_Z : FuncData
  f_V : Addr
  fd_V : FuncData
  f_R : Addr
  fd_R : FuncData
  f_Y : Addr
  fd_Y : FuncData
  f_big : Addr
  fd_big : FuncData
  f_T : Addr
  fd_plain : FuncData
  f_Au : Addr
  fd_Au : FuncData
  f_Ao : Addr
  fd_Ao : FuncData
  f_As : Addr
  fd_As : FuncData
  f_K : Addr
  fd_K : FuncData
  f_Ai : Addr
  fd_Ai : FuncData
  f_Ac : Addr
  fd_Ac : FuncData
  f_Ak : Addr
  fd_Ak : FuncData
  f_Af : Addr
  fd_Af : FuncData
  f_Ag : Addr
  fd_Ag : FuncData
  f_Al : Addr
  fd_Al : FuncData
  f_Ad : Addr
  fd_Ad : FuncData
  f_Am : Addr
  fd_Am : FuncData
  f_F : Addr
  fd_F : FuncData
  f_B : Addr
  fd_B : FuncData
  f_Av : Addr
  fd_Av : FuncData
  f_C : Addr
  fd_C : FuncData
  f_I : Addr
  fd_I : FuncData
  f_Ap : Addr
  fd_Ap : FuncData
  f_An : Addr
  fd_An : FuncData
  f_Ah : Addr
  fd_Ah : FuncData
  f_At : Addr
  fd_At : FuncData
  f_W : Addr
  fd_W : FuncData
  f_Aq : Addr
  fd_Aq : FuncData
  f_Aj : Addr
  fd_Aj : FuncData
  f_Ar : Addr
  fd_Ar : FuncData
  f_Aa : Addr
  fd_Aa : FuncData
  f_Ab : Addr
  fd_Ab : FuncData
  f_law : Addr
  fd_law : FuncData
  ds_Machine_init_1 : List Value
  dk_read_text_2 : List Value
  dk_read_text_3 : List Value
/-- what the top has left -/
structure Txt (w : World) (K : PySem.W.Frag) (mg : Str → Option Value) (a : Ad) : Prop where
  NT : a.c.ts = []
  PM : Eng.PM K a.c
  PB : Eng.PB K a.c
  g_Machine : mg "Machine" = some (.ref a.c.CMachine)
  cl_Machine : Cls K a.c.CMachine
  mk_Machine : Mk K a.c.CMachine a.f_A
  g_Big : mg "Big" = some (.ref a.c.CBig)
  cl_Big : Cls K a.c.CBig
  mk_Big : Mk K a.c.CBig a.f_X
  eq_Big : PySem.W.findIn K (.ref a.c.CBig) "__eq__" = some (some (.ref a.f_S))
  ie_Big : PySem.W.isFn K (.ref a.f_S) = true
  g_Reader : mg "Reader" = some (.ref (a.c.ks.getD 3 0))
  cl_Reader : Cls K (a.c.ks.getD 3 0)
  KS3 : Pu.KsAt K a.c 3 ["whole", "at", "base", "has_zeros_alone", "figures"]
  mk_Reader : Mk K (a.c.ks.getD 3 0) a.f_As
  g_Aw : CidT K mg "BITS_OF_BASES" [(2, 1), (4, 2), (8, 3), (16, 4), (32, 5)]
  g_A0 : ∃ u, mg "BLANKS" = some u ∧ RelV (.str " \t\n") u
  g_A1 : ∃ u, mg "FIGURES" = some u ∧ RelV (.str "0123456789abcdefghijklmnopqrstuvwxyz") u
  g_A2 : ∃ u, mg "LEAST_BITS" = some u ∧ RelV (.int 8) u
  g_A3 : ∃ u, mg "LEAST_LIMIT" = some u ∧ RelV (.int 640) u
  g_A4 : ∃ u, mg "MOST_BASE" = some u ∧ RelV (.int 36) u
  g_A5 : ∃ u, mg "MOST_BITS" = some u ∧ RelV (.int 30) u
  g_A6 : ∃ u, mg "MOST_CUTOFF" = some u ∧ RelV (.int 1000) u
  g_A7 : ∃ u, mg "MOST_WALK" = some u ∧ RelV (.int 1000) u
  g_Ax : CsdT w.params K mg "PREFIXES" [("x", 16), ("o", 8), ("b", 2)]
  g_Ay : mg "WORDS" = some (.ref a.c.aWORDS)
  F_G : Fun K "is_integer" "is_integer" s_G a.f_G a.fd_G
  m_G : mg "is_integer" = some (.ref a.f_G)
  b_G : Binds K a.fd_G ["value"] []
  F_H : Fun K "is_between" "is_between" s_H a.f_H a.fd_H
  m_H : mg "is_between" = some (.ref a.f_H)
  b_H : Binds K a.fd_H ["value", "low", "high"] []
  F_Ae : Fun K "check_integer" "check_integer" s_Ae a.f_Ae a.fd_Ae
  m_Ae : mg "check_integer" = some (.ref a.f_Ae)
  b_Ae : Binds K a.fd_Ae ["argument", "value"] []
  F_A : FunD K "__init__" "Machine.__init__" (defArgs s_A) (defBody s_A) (defScope s_A) [(.int 30), (.int 70)] [] a.f_A a.fd_A
  b_A : Binds K a.fd_A ["self", "bits", "cutoff"] []
  F_J : Fun K "tally" "Machine.tally" s_J a.f_J a.fd_J
  me_J : Meth K a.c.CMachine "tally" a.f_J
  b_J : Binds K a.fd_J ["self"] []
  F_N : Fun K "walk" "Machine.walk" s_N a.f_N a.fd_N
  me_N : Meth K a.c.CMachine "walk" a.f_N
  b_N : Binds K a.fd_N ["self"] []
  F_M : Fun K "reset" "Machine.reset" s_M a.f_M a.fd_M
  me_M : Meth K a.c.CMachine "reset" a.f_M
  b_M : Binds K a.fd_M ["self"] []
  F_D : Fun K "count" "Machine.count" s_D a.f_D a.fd_D
  me_D : Meth K a.c.CMachine "count" a.f_D
  b_D : Binds K a.fd_D ["self", "word", "number"] []
  F_U : Fun K "enter" "Machine.enter" s_U a.f_U a.fd_U
  me_U : Meth K a.c.CMachine "enter" a.f_U
  b_U : Binds K a.fd_U ["self", "word", "m", "n"] []
  F_L : Fun K "check_machine" "check_machine" s_L a.f_L a.fd_L
  m_L : mg "check_machine" = some (.ref a.f_L)
  b_L : Binds K a.fd_L ["value"] []
  F_X : Fun K "__init__" "Big.__init__" s_X a.f_X a.fd_X
  b_X : Binds K a.fd_X ["self", "width", "side", "row"] []
  F_S : Fun K "__eq__" "Big.__eq__" s_S a.f_S a.fd_S
  me_S : Meth K a.c.CBig "__eq__" a.f_S
  b_S : Binds K a.fd_S ["self", "other"] []
  F_O : Fun K "sign" "Big.sign" s_O a.f_O a.fd_O
  me_O : Meth K a.c.CBig "sign" a.f_O
  b_O : Binds K a.fd_O ["self"] []
  F_Q : Fun K "digits" "Big.digits" s_Q a.f_Q a.fd_Q
  me_Q : Meth K a.c.CBig "digits" a.f_Q
  b_Q : Binds K a.fd_Q ["self"] []
  F_P : Fun K "bits" "Big.bits" s_P a.f_P a.fd_P
  me_P : Meth K a.c.CBig "bits" a.f_P
  b_P : Binds K a.fd_P ["self"] []
  F_E : Fun K "made" "made" s_E a.f_E a.fd_E
  m_E : mg "made" = some (.ref a.f_E)
  b_E : Binds K a.fd_E ["machine", "side", "digits"] []
  F_Z : Fun K "digits_of" "digits_of" s_Z a.f_Z a.fd_Z
  m_Z : mg "digits_of" = some (.ref a.f_Z)
  b_Z : Binds K a.fd_Z ["machine", "n"] []
  F_V : Fun K "big_of" "big_of" s_V a.f_V a.fd_V
  m_V : mg "big_of" = some (.ref a.f_V)
  b_V : Binds K a.fd_V ["machine", "n"] []
  F_R : Fun K "value_of" "value_of" s_R a.f_R a.fd_R
  m_R : mg "value_of" = some (.ref a.f_R)
  b_R : Binds K a.fd_R ["x"] []
  F_Y : Fun K "check_any" "check_any" s_Y a.f_Y a.fd_Y
  m_Y : mg "check_any" = some (.ref a.f_Y)
  b_Y : Binds K a.fd_Y ["value"] []
  F_big : Fun K "big" "big" s_big a.f_big a.fd_big
  m_big : mg "big" = some (.ref a.f_big)
  b_big : Binds K a.fd_big ["machine", "n"] []
  F_T : Fun K "plain" "plain" s_T a.f_T a.fd_plain
  m_T : mg "plain" = some (.ref a.f_T)
  b_T : Binds K a.fd_plain ["x"] []
  F_Au : Fun K "check_most" "check_most" s_Au a.f_Au a.fd_Au
  m_Au : mg "check_most" = some (.ref a.f_Au)
  b_Au : Binds K a.fd_Au ["value"] []
  F_Ao : Fun K "group" "group" s_Ao a.f_Ao a.fd_Ao
  m_Ao : mg "group" = some (.ref a.f_Ao)
  b_Ao : Binds K a.fd_Ao ["machine", "base"] []
  F_As : Fun K "__init__" "Reader.__init__" s_As a.f_As a.fd_As
  b_As : Binds K a.fd_As ["self", "text", "base"] []
  F_K : Fun K "next_sign" "Reader.next_sign" s_K a.f_K a.fd_K
  me_K : Meth K (a.c.ks.getD 3 0) "next_sign" a.f_K
  b_K : Binds K a.fd_K ["self"] []
  F_Ai : Fun K "skip_blanks" "Reader.skip_blanks" s_Ai a.f_Ai a.fd_Ai
  me_Ai : Meth K (a.c.ks.getD 3 0) "skip_blanks" a.f_Ai
  b_Ai : Binds K a.fd_Ai ["self"] []
  F_Ac : Fun K "go_over" "Reader.go_over" s_Ac a.f_Ac a.fd_Ac
  me_Ac : Meth K (a.c.ks.getD 3 0) "go_over" a.f_Ac
  b_Ac : Binds K a.fd_Ac ["self", "signs"] []
  F_Ak : Fun K "find_base" "Reader.find_base" s_Ak a.f_Ak a.fd_Ak
  me_Ak : Meth K (a.c.ks.getD 3 0) "find_base" a.f_Ak
  b_Ak : Binds K a.fd_Ak ["self"] []
  F_Af : Fun K "value_here" "Reader.value_here" s_Af a.f_Af a.fd_Af
  me_Af : Meth K (a.c.ks.getD 3 0) "value_here" a.f_Af
  b_Af : Binds K a.fd_Af ["self"] []
  F_Ag : Fun K "read_figure" "Reader.read_figure" s_Ag a.f_Ag a.fd_Ag
  me_Ag : Meth K (a.c.ks.getD 3 0) "read_figure" a.f_Ag
  b_Ag : Binds K a.fd_Ag ["self"] []
  F_Al : Fun K "read" "Reader.read" s_Al a.f_Al a.fd_Al
  me_Al : Meth K (a.c.ks.getD 3 0) "read" a.f_Al
  b_Al : Binds K a.fd_Al ["self"] []
  F_Ad : Fun K "digits_by_groups" "digits_by_groups" s_Ad a.f_Ad a.fd_Ad
  m_Ad : mg "digits_by_groups" = some (.ref a.f_Ad)
  b_Ad : Binds K a.fd_Ad ["machine", "figures", "base"] []
  F_Am : Fun K "digits_by_bits" "digits_by_bits" s_Am a.f_Am a.fd_Am
  m_Am : mg "digits_by_bits" = some (.ref a.f_Am)
  b_Am : Binds K a.fd_Am ["machine", "figures", "base"] []
  F_F : FunD K "read_figures" "read_figures" (defArgs s_F) (defBody s_F) (defScope s_F) [(.int 1)] [] a.f_F a.fd_F
  m_F : mg "read_figures" = some (.ref a.f_F)
  b_F : Binds K a.fd_F ["machine", "figures", "base", "side"] []
  F_B : FunD K "read_text" "read_text" (defArgs s_B) (defBody s_B) (defScope s_B) [(.int 10)] [("most", (.int 4300))] a.f_B a.fd_B
  m_B : mg "read_text" = some (.ref a.f_B)
  F_Av : Fun K "_law_purse" "_law_purse" s_Av a.f_Av a.fd_Av
  m_Av : mg "_law_purse" = some (.ref a.f_Av)
  b_Av : Binds K a.fd_Av ["_law_cell"] []
  F_C : Fun K "_law_coin" "_law_coin" s_C a.f_C a.fd_C
  m_C : mg "_law_coin" = some (.ref a.f_C)
  b_C : Binds K a.fd_C ["_law_purse_here", "_law_amount"] []
  F_I : Fun K "_law_pick" "_law_pick" s_I a.f_I a.fd_I
  m_I : mg "_law_pick" = some (.ref a.f_I)
  b_I : Binds K a.fd_I ["_law_purse_here", "_law_some"] []
  F_Ap : Fun K "_law_row" "_law_row" s_Ap a.f_Ap a.fd_Ap
  m_Ap : mg "_law_row" = some (.ref a.f_Ap)
  b_Ap : Binds K a.fd_Ap ["_law_purse_here", "_law_bits", "_law_size"] []
  F_An : Fun K "_law_worth" "_law_worth" s_An a.f_An a.fd_An
  m_An : mg "_law_worth" = some (.ref a.f_An)
  b_An : Binds K a.fd_An ["_law_bits", "_law_row_here"] []
  F_Ah : Fun K "_law_digits" "_law_digits" s_Ah a.f_Ah a.fd_Ah
  m_Ah : mg "_law_digits" = some (.ref a.f_Ah)
  b_Ah : Binds K a.fd_Ah ["_law_bits", "_law_n"] []
  F_At : Fun K "_law_is" "_law_is" s_At a.f_At a.fd_At
  m_At : mg "_law_is" = some (.ref a.f_At)
  b_At : Binds K a.fd_At ["_law_held", "_law_bits", "_law_n"] []
  F_W : Fun K "_law_counted" "_law_counted" s_W a.f_W a.fd_W
  m_W : mg "_law_counted" = some (.ref a.f_W)
  b_W : Binds K a.fd_W ["_law_engine"] []
  F_Aq : Fun K "_law_group" "_law_group" s_Aq a.f_Aq a.fd_Aq
  m_Aq : mg "_law_group" = some (.ref a.f_Aq)
  b_Aq : Binds K a.fd_Aq ["_law_bits", "_law_radix"] []
  F_Aj : Fun K "_law_steps_in" "_law_steps_in" s_Aj a.f_Aj a.fd_Aj
  m_Aj : mg "_law_steps_in" = some (.ref a.f_Aj)
  b_Aj : Binds K a.fd_Aj ["_law_bits", "_law_radix", "_law_digits_so"] []
  F_Ar : Fun K "_law_figures" "_law_figures" s_Ar a.f_Ar a.fd_Ar
  m_Ar : mg "_law_figures" = some (.ref a.f_Ar)
  b_Ar : Binds K a.fd_Ar ["_law_purse_here", "_law_n", "_law_radix"] []
  F_Aa : Fun K "_law_written" "_law_written" s_Aa a.f_Aa a.fd_Aa
  m_Aa : mg "_law_written" = some (.ref a.f_Aa)
  b_Aa : Binds K a.fd_Aa ["_law_purse_here", "_law_side", "_law_figures_here", "_law_radix", "_law_has_prefix"] []
  F_Ab : Fun K "_law_right" "_law_right" s_Ab a.f_Ab a.fd_Ab
  m_Ab : mg "_law_right" = some (.ref a.f_Ab)
  b_Ab : Binds K a.fd_Ab ["_law_purse_here"] []
  F_law : Fun K "law" "law" s_law a.f_law a.fd_law
  m_law : mg "law" = some (.ref a.f_law)
  b_law : Binds K a.fd_law ["_law_script"] []
  bd_Machine_init_1 : Vals [(.int 70)] a.ds_Machine_init_1 ∧ Binds K a.fd_A ["self", "bits", "cutoff"] a.ds_Machine_init_1
  bk_read_text_2 : Vals [(.int 10), (.int 4300)] a.dk_read_text_2 ∧ Binds K a.fd_B ["machine", "text", "base", "most"] a.dk_read_text_2
  bk_read_text_3 : Vals [(.int 4300)] a.dk_read_text_3 ∧ Binds K a.fd_B ["machine", "text", "base", "most"] a.dk_read_text_3
  kb_read_text_base_text_machine_most : KB0 K a.fd_B ["machine", "text", "base", "most"] ["base", "text", "machine", "most"] (permV [2, 1, 0, 3]) (perm [2, 1, 0, 3])
  n_abs : mg "abs" = none
  n_bool : mg "bool" = none
  n_dict : mg "dict" = none
  n_enumerate : mg "enumerate" = none
  n_int : mg "int" = none
  n_isinstance : mg "isinstance" = none
  n_len : mg "len" = none
  n_list : mg "list" = none
  n_max : mg "max" = none
  n_range : mg "range" = none
  n_str : mg "str" = none
  n_tuple : mg "tuple" = none
section
variable {P : Program} {w : World} {K : PySem.W.Frag} {mg : Str → Option Value} {base : Heap} {a : Ad}
theorem dv_G {cdv : Value} {A : Around} {outer : List Env} {s : Shared} {H : Hp} {E : XK} (T : Txt w K mg a) (hr : Room 0 (A.deeper (envOfC "is_integer" (defScope s_G) s.heap.objs.size a.f_G cdv))) :
    PSs (cxOf CX0 P w K mg base N_G "is_integer" (defScope s_G) a.f_G cdv A outer s H E).nox (defBody s_G) (t_G K a.c) := by
  unfold t_G
  exact (pss_one (ps_ret (pe_and (pe_callB call_isi (by rfl) T.n_isinstance (by decide +kernel) (pa_cons (pv 0) (pa_cons (pe_bltn (v := .ty "int") (by rfl) T.n_int (by decide +kernel) rfl) pa_nil))) (pe_one (pe_not (pe_callB call_isi (by rfl) T.n_isinstance (by decide +kernel) (pa_cons (pv 0) (pa_cons (pe_bltn (v := .ty "bool") (by rfl) T.n_bool (by decide +kernel) rfl) pa_nil))))))))
theorem ok_G (T : Txt w K mg a) : FnOk P w K mg base CX0 1 a.f_G a.fd_G ["value"] (sp_G K a.c) := by
  refine T.F_G.ok sc_G (fun vs H Q E h => ?_) (fun cdv A outer s H vs Q E hr h => ⟨_, dv_G T hr, b_G h⟩)
  (repeat (obtain ⟨_, h⟩ := h)); all_goals (subst_vars; rfl)
theorem dv_J {cdv : Value} {A : Around} {outer : List Env} {s : Shared} {H : Hp} {E : XK} (T : Txt w K mg a) (hr : Room 0 (A.deeper (envOfC "Machine.tally" (defScope s_J) s.heap.objs.size a.f_J cdv))) :
    PSs (cxOf CX0 P w K mg base N_J "Machine.tally" (defScope s_J) a.f_J cdv A outer s H E).nox (defBody s_J) (t_J K a.c) := by
  unfold t_J
  exact (pss_one (ps_ret (pe_lc (own := [("word", 1)]) (g := (gName 1)) rfl sc_J.nd (pi_tup (pe_glob rfl T.g_Ay rfl)) (blkOk_by (own := [("word", 1)]) (N := N_J) (sc := defScope s_J) (by decide +kernel)) (fun _ _ _ _ _ => (pg_name (i := 1) sc_J.nd rfl (by first | exact Or.inl rfl | exact Or.inr rfl))) (fun _ _ _ _ _ => pts_nil) (fun _ _ _ _ _ => (pe_tup (pa_cons (pv 1) (pa_cons (pe_dget (hu_of hr) (pe_fld (pv 0) rfl) (pv 1) (fun _ _ => rfl)) pa_nil)))))))
theorem ok_J (T : Txt w K mg a) : FnOk P w K mg base CX0 1 a.f_J a.fd_J ["self"] (sp_J K a.c) := by
  refine T.F_J.ok sc_J (fun vs H Q E h => ?_) (fun cdv A outer s H vs Q E hr h => ⟨_, dv_J T hr, b_J T.PM h⟩)
  (repeat (obtain ⟨_, h⟩ := h)); all_goals (subst_vars; rfl)
theorem dv_N {cdv : Value} {A : Around} {outer : List Env} {s : Shared} {H : Hp} {E : XK} (T : Txt w K mg a) (hr : Room 0 (A.deeper (envOfC "Machine.walk" (defScope s_N) s.heap.objs.size a.f_N cdv))) :
    PSs (cxOf CX0 P w K mg base N_N "Machine.walk" (defScope s_N) a.f_N cdv A outer s H E).nox (defBody s_N) (t_N K a.c) := by
  unfold t_N
  exact (pss_one (ps_ret (pe_callTy c_list (by rfl) T.n_list (by decide +kernel) (pa_cons (pe_fld (pv 0) rfl) pa_nil))))
theorem ok_N (T : Txt w K mg a) : FnOk P w K mg base CX0 1 a.f_N a.fd_N ["self"] (sp_N K a.c) := by
  refine T.F_N.ok sc_N (fun vs H Q E h => ?_) (fun cdv A outer s H vs Q E hr h => ⟨_, dv_N T hr, b_N T.PM h⟩)
  (repeat (obtain ⟨_, h⟩ := h)); all_goals (subst_vars; rfl)
theorem dv_M {cdv : Value} {A : Around} {outer : List Env} {s : Shared} {H : Hp} {E : XK} (T : Txt w K mg a) (hr : Room 0 (A.deeper (envOfC "Machine.reset" (defScope s_M) s.heap.objs.size a.f_M cdv))) :
    PSs (cxOf CX0 P w K mg base N_M "Machine.reset" (defScope s_M) a.f_M cdv A outer s H E).nox (defBody s_M) (t_M K a.c) := by
  unfold t_M
  exact (pss_cons (ps_for PassesOwn.never rfl (pi_tup (pe_glob rfl T.g_Ay rfl)) (pg_name (i := 1) sc_M.nd rfl (by first | exact Or.inl rfl | exact Or.inr rfl)) (pss_one (ps_dput (hu_of hr) (pe_fld (pv 0) rfl) (pv 1) pe_int rfl)))
      (pss_one (ps_expr (pe_bm0 PySem.F.plainAttrs_list PySem.F.slot_list_clear PySem.F.type_list_clear mt_clear (pe_fld (pv 0) rfl)))))
theorem ok_M (T : Txt w K mg a) : FnOk P w K mg base CX0 1 a.f_M a.fd_M ["self"] (sp_M K a.c) := by
  refine T.F_M.ok sc_M (fun vs H Q E h => ?_) (fun cdv A outer s H vs Q E hr h => ⟨_, dv_M T hr, b_M T.PM h⟩)
  (repeat (obtain ⟨_, h⟩ := h)); all_goals (subst_vars; rfl)
theorem dv_D {cdv : Value} {A : Around} {outer : List Env} {s : Shared} {H : Hp} {E : XK} (T : Txt w K mg a) (hr : Room 0 (A.deeper (envOfC "Machine.count" (defScope s_D) s.heap.objs.size a.f_D cdv))) :
    PSs (cxOf CX0 P w K mg base N_D "Machine.count" (defScope s_D) a.f_D cdv A outer s H E).nox (defBody s_D) (t_D K a.c) := by
  unfold t_D
  exact (pss_one (ps_dput (hu_of hr) (pe_fld (pv 0) rfl) (pv 1) (pe_op o_add (pe_dget (hu_of hr) (pe_fld (pv 0) rfl) (pv 1) (fun _ _ => rfl)) (pv 2)) rfl))
theorem ok_D (T : Txt w K mg a) : FnOk P w K mg base CX0 1 a.f_D a.fd_D ["self", "word", "number"] (sp_D K a.c) := by
  refine T.F_D.ok sc_D (fun vs H Q E h => ?_) (fun cdv A outer s H vs Q E hr h => ⟨_, dv_D T hr, b_D T.PM h⟩)
  (repeat (obtain ⟨_, h⟩ := h)); all_goals (subst_vars; rfl)
theorem dv_U {cdv : Value} {A : Around} {outer : List Env} {s : Shared} {H : Hp} {E : XK} (T : Txt w K mg a) (hr : Room 0 (A.deeper (envOfC "Machine.enter" (defScope s_U) s.heap.objs.size a.f_U cdv))) :
    PSs (cxOf CX0 P w K mg base N_U "Machine.enter" (defScope s_U) a.f_U cdv A outer s H E).nox (defBody s_U) (t_U K a.c) := by
  unfold t_U
  exact (pss_one (ps_if (pt_cmpR o_lt (pe_callB c_len (by rfl) T.n_len (by decide +kernel) (pa_cons (pe_fld (pv 0) rfl) pa_nil)) (C8.pe_gc rfl T.g_A7) (nomark _)) (pss_one (ps_expr (pe_bm PySem.F.plainAttrs_list PySem.F.slot_list_append PySem.F.type_list_append mt_append (pe_fld (pv 0) rfl) (pa_cons (pe_tup (pa_cons (pv 1) (pa_cons (pv 2) (pa_cons (pv 3) pa_nil)))) pa_nil)))) pss_nil))
theorem ok_U (T : Txt w K mg a) : FnOk P w K mg base CX0 1 a.f_U a.fd_U ["self", "word", "m", "n"] (sp_U K a.c) := by
  refine T.F_U.ok sc_U (fun vs H Q E h => ?_) (fun cdv A outer s H vs Q E hr h => ⟨_, dv_U T hr, b_U T.PM h⟩)
  (repeat (obtain ⟨_, h⟩ := h)); all_goals (subst_vars; rfl)
theorem dv_L {cdv : Value} {A : Around} {outer : List Env} {s : Shared} {H : Hp} {E : XK} (T : Txt w K mg a) (hr : Room 0 (A.deeper (envOfC "check_machine" (defScope s_L) s.heap.objs.size a.f_L cdv))) :
    PSs (cxOf CX0 P w K mg base N_L "check_machine" (defScope s_L) a.f_L cdv A outer s H E).nox (defBody s_L) (t_L K a.c) := by
  unfold t_L
  exact (pss_one (ps_if (pt_not (pt_val (pe_callB call_isi (by rfl) T.n_isinstance (by decide +kernel) (pa_cons (pv 0) (pa_cons (pe_glob rfl T.g_Machine rfl) pa_nil))))) (pss_one ps_never) pss_nil))
theorem ok_L (T : Txt w K mg a) : FnOk P w K mg base CX0 1 a.f_L a.fd_L ["value"] (sp_L K a.c) := by
  refine T.F_L.ok sc_L (fun vs H Q E h => ?_) (fun cdv A outer s H vs Q E hr h => ⟨_, dv_L T hr, b_L T.PM h⟩)
  (repeat (obtain ⟨_, h⟩ := h)); all_goals (subst_vars; rfl)
theorem dv_X {cdv : Value} {A : Around} {outer : List Env} {s : Shared} {H : Hp} {E : XK} (T : Txt w K mg a) (hr : Room 0 (A.deeper (envOfC "Big.__init__" (defScope s_X) s.heap.objs.size a.f_X cdv))) :
    PSs (cxOf CX0 P w K mg base N_X "Big.__init__" (defScope s_X) a.f_X cdv A outer s H E).nox (defBody s_X) (t_X K a.c) := by
  unfold t_X
  exact (pss_cons (ps_fld (pv 0) (pv 1) rfl)
      (pss_cons (ps_fld (pv 0) (pv 2) rfl)
      (pss_one (ps_fld (pv 0) (pv 3) rfl))))
theorem ok_X (T : Txt w K mg a) : FnOk P w K mg base CX0 1 a.f_X a.fd_X ["self", "width", "side", "row"] (sp_X K a.c) := by
  refine T.F_X.ok sc_X (fun vs H Q E h => ?_) (fun cdv A outer s H vs Q E hr h => ⟨_, dv_X T hr, b_X T.PB h⟩)
  (repeat (obtain ⟨_, h⟩ := h)); all_goals (subst_vars; rfl)
theorem dv_S {cdv : Value} {A : Around} {outer : List Env} {s : Shared} {H : Hp} {E : XK} (T : Txt w K mg a) (hr : Room 0 (A.deeper (envOfC "Big.__eq__" (defScope s_S) s.heap.objs.size a.f_S cdv))) :
    PSs (cxOf CX0 P w K mg base N_S "Big.__eq__" (defScope s_S) a.f_S cdv A outer s H E).nox (defBody s_S) (t_S K a.c) := by
  unfold t_S
  exact (pss_one (ps_ret (pe_and (pe_callB call_isi (by rfl) T.n_isinstance (by decide +kernel) (pa_cons (pv 1) (pa_cons (pe_glob rfl T.g_Big rfl) pa_nil))) (pe_one (pe_cmpR (op_eqD hr.units) (pe_tup (pa_cons (pe_fld (pv 0) rfl) (pa_cons (pe_fld (pv 0) rfl) (pa_cons (pe_fld (pv 0) rfl) pa_nil)))) (pe_tup (pa_cons (pe_fld (pv 1) rfl) (pa_cons (pe_fld (pv 1) rfl) (pa_cons (pe_fld (pv 1) rfl) pa_nil)))) (nomark _))))))
theorem ok_S (T : Txt w K mg a) : FnOk P w K mg base CX0 1 a.f_S a.fd_S ["self", "other"] (sp_S K a.c) := by
  refine T.F_S.ok sc_S (fun vs H Q E h => ?_) (fun cdv A outer s H vs Q E hr h => ⟨_, dv_S T hr, b_S T.PB h⟩)
  (repeat (obtain ⟨_, h⟩ := h)); all_goals (subst_vars; rfl)
theorem dv_O {cdv : Value} {A : Around} {outer : List Env} {s : Shared} {H : Hp} {E : XK} (T : Txt w K mg a) (hr : Room 0 (A.deeper (envOfC "Big.sign" (defScope s_O) s.heap.objs.size a.f_O cdv))) :
    PSs (cxOf CX0 P w K mg base N_O "Big.sign" (defScope s_O) a.f_O cdv A outer s H E).nox (defBody s_O) (t_O K a.c) := by
  unfold t_O
  exact (pss_one (ps_ret (pe_fld (pv 0) rfl)))
theorem ok_O (T : Txt w K mg a) : FnOk P w K mg base CX0 1 a.f_O a.fd_O ["self"] (sp_O K a.c) := by
  refine T.F_O.ok sc_O (fun vs H Q E h => ?_) (fun cdv A outer s H vs Q E hr h => ⟨_, dv_O T hr, b_O T.PB h⟩)
  (repeat (obtain ⟨_, h⟩ := h)); all_goals (subst_vars; rfl)
theorem dv_Q {cdv : Value} {A : Around} {outer : List Env} {s : Shared} {H : Hp} {E : XK} (T : Txt w K mg a) (hr : Room 0 (A.deeper (envOfC "Big.digits" (defScope s_Q) s.heap.objs.size a.f_Q cdv))) :
    PSs (cxOf CX0 P w K mg base N_Q "Big.digits" (defScope s_Q) a.f_Q cdv A outer s H E).nox (defBody s_Q) (t_Q K a.c) := by
  unfold t_Q
  exact (pss_one (ps_ret (pe_callTy c_list (by rfl) T.n_list (by decide +kernel) (pa_cons (pe_fld (pv 0) rfl) pa_nil))))
theorem ok_Q (T : Txt w K mg a) : FnOk P w K mg base CX0 1 a.f_Q a.fd_Q ["self"] (sp_Q K a.c) := by
  refine T.F_Q.ok sc_Q (fun vs H Q E h => ?_) (fun cdv A outer s H vs Q E hr h => ⟨_, dv_Q T hr, b_Q T.PB h⟩)
  (repeat (obtain ⟨_, h⟩ := h)); all_goals (subst_vars; rfl)
theorem dv_P {cdv : Value} {A : Around} {outer : List Env} {s : Shared} {H : Hp} {E : XK} (T : Txt w K mg a) (hr : Room 0 (A.deeper (envOfC "Big.bits" (defScope s_P) s.heap.objs.size a.f_P cdv))) :
    PSs (cxOf CX0 P w K mg base N_P "Big.bits" (defScope s_P) a.f_P cdv A outer s H E).nox (defBody s_P) (t_P K a.c) := by
  unfold t_P
  exact (pss_one (ps_ret (pe_fld (pv 0) rfl)))
theorem ok_P (T : Txt w K mg a) : FnOk P w K mg base CX0 1 a.f_P a.fd_P ["self"] (sp_P K a.c) := by
  refine T.F_P.ok sc_P (fun vs H Q E h => ?_) (fun cdv A outer s H vs Q E hr h => ⟨_, dv_P T hr, b_P T.PB h⟩)
  (repeat (obtain ⟨_, h⟩ := h)); all_goals (subst_vars; rfl)
theorem dv_Z {cdv : Value} {A : Around} {outer : List Env} {s : Shared} {H : Hp} {E : XK} (T : Txt w K mg a) (hr : Room 0 (A.deeper (envOfC "digits_of" (defScope s_Z) s.heap.objs.size a.f_Z cdv))) :
    PSs (cxOf CX0 P w K mg base N_Z "digits_of" (defScope s_Z) a.f_Z cdv A outer s H E).nox (defBody s_Z) (t_Z K a.c) := by
  unfold t_Z
  exact (pss_cons (ps_set (i := 2) sc_Z.nd rfl (by first | exact Or.inl rfl | exact Or.inr rfl) (pe_lst pa_nil))
      (pss_cons (ps_while PassesOwn.never (pt_cmpR o_gt (pv 1) pe_int (nomark _)) (pss_cons (ps_expr (pe_bm PySem.F.plainAttrs_list PySem.F.slot_list_append PySem.F.type_list_append mt_append (pv 2) (pa_cons (pe_op o_mod (pv 1) (pe_fld (pv 0) rfl)) pa_nil)))
      (pss_one (ps_set (i := 1) sc_Z.nd rfl (by first | exact Or.inl rfl | exact Or.inr rfl) (pe_op o_shr (pv 1) (pe_fld (pv 0) rfl))))))
      (pss_one (ps_ret (pv 2)))))
theorem ok_Z (T : Txt w K mg a) : FnOk P w K mg base CX0 1 a.f_Z a.fd_Z ["machine", "n"] (sp_Z K a.c) := by
  refine T.F_Z.ok sc_Z (fun vs H Q E h => ?_) (fun cdv A outer s H vs Q E hr h => ⟨_, dv_Z T hr, b_Z T.PM h⟩)
  (repeat (obtain ⟨_, h⟩ := h)); all_goals (subst_vars; rfl)
theorem dv_R {cdv : Value} {A : Around} {outer : List Env} {s : Shared} {H : Hp} {E : XK} (T : Txt w K mg a) (hr : Room 0 (A.deeper (envOfC "value_of" (defScope s_R) s.heap.objs.size a.f_R cdv))) :
    PSs (cxOf CX0 P w K mg base N_R "value_of" (defScope s_R) a.f_R cdv A outer s H E).nox (defBody s_R) (t_R K a.c) := by
  unfold t_R
  exact (pss_cons (ps_set (i := 1) sc_R.nd rfl (by first | exact Or.inl rfl | exact Or.inr rfl) pe_int)
      (pss_cons (ps_for PassesOwn.never rfl (pi_tup (pe_revT (pe_fld (pv 0) rfl))) (pg_name (i := 2) sc_R.nd rfl (by first | exact Or.inl rfl | exact Or.inr rfl)) (pss_one (ps_set (i := 1) sc_R.nd rfl (by first | exact Or.inl rfl | exact Or.inr rfl) (pe_op o_or (pe_op o_shl (pv 1) (pe_fld (pv 0) rfl)) (pv 2)))))
      (pss_one (ps_ret (pe_op o_mul (pe_fld (pv 0) rfl) (pv 1))))))
theorem ok_R (T : Txt w K mg a) : FnOk P w K mg base CX0 1 a.f_R a.fd_R ["x"] (sp_R K a.c) := by
  refine T.F_R.ok sc_R (fun vs H Q E h => ?_) (fun cdv A outer s H vs Q E hr h => ⟨_, dv_R T hr, b_R T.PB h⟩)
  (repeat (obtain ⟨_, h⟩ := h)); all_goals (subst_vars; rfl)
theorem dv_Y {cdv : Value} {A : Around} {outer : List Env} {s : Shared} {H : Hp} {E : XK} (T : Txt w K mg a) (hr : Room 0 (A.deeper (envOfC "check_any" (defScope s_Y) s.heap.objs.size a.f_Y cdv))) :
    PSs (cxOf CX0 P w K mg base N_Y "check_any" (defScope s_Y) a.f_Y cdv A outer s H E).nox (defBody s_Y) (t_Y K a.c) := by
  unfold t_Y
  exact (pss_one (ps_if (pt_not (pt_val (pe_callB call_isi (by rfl) T.n_isinstance (by decide +kernel) (pa_cons (pv 0) (pa_cons (pe_glob rfl T.g_Big rfl) pa_nil))))) (pss_one ps_never) pss_nil))
theorem ok_Y (T : Txt w K mg a) : FnOk P w K mg base CX0 1 a.f_Y a.fd_Y ["value"] (sp_Y K a.c) := by
  refine T.F_Y.ok sc_Y (fun vs H Q E h => ?_) (fun cdv A outer s H vs Q E hr h => ⟨_, dv_Y T hr, b_Y T.PB h⟩)
  (repeat (obtain ⟨_, h⟩ := h)); all_goals (subst_vars; rfl)
theorem dv_Ao {cdv : Value} {A : Around} {outer : List Env} {s : Shared} {H : Hp} {E : XK} (T : Txt w K mg a) (hr : Room 0 (A.deeper (envOfC "group" (defScope s_Ao) s.heap.objs.size a.f_Ao cdv))) :
    PSs (cxOf CX0 P w K mg base N_Ao "group" (defScope s_Ao) a.f_Ao cdv A outer s H E).nox (defBody s_Ao) (t_p_group K a.c) := by
  unfold t_p_group
  exact (pss_cons (ps_par rfl sc_Ao.nd rfl rfl (by decide) rfl rfl (pa_cons pe_int (pa_cons (pv 1) pa_nil)) (by rfl))
      (pss_cons (ps_while PassesOwn.never (pt_cmpR o_le (pe_op o_mul (pv 3) (pv 1)) (pe_fld (pv 0) rfl) (nomark _)) (pss_one (ps_par rfl sc_Ao.nd rfl rfl (by decide) rfl rfl (pa_cons (pe_op o_add (pv 2) pe_int) (pa_cons (pe_op o_mul (pv 3) (pv 1)) pa_nil)) (by rfl))))
      (pss_one (ps_ret (pe_tup (pa_cons (pv 2) (pa_cons (pv 3) pa_nil)))))))
theorem ok_Ao (T : Txt w K mg a) : FnOk P w K mg base CX0 1 a.f_Ao a.fd_Ao ["machine", "base"] (sp_p_group K a.c) := by
  refine T.F_Ao.ok sc_Ao (fun vs H Q E h => ?_) (fun cdv A outer s H vs Q E hr h => ⟨_, dv_Ao T hr, b_p_group T.PM T.PB h⟩)
  first | exact Pu.lif_len n_p_group h | exact Pu.lifS_len n_p_group h | exact Pu.lifL_len n_p_group h | exact Pu.lifO_len n_p_group h
theorem dv_As {cdv : Value} {A : Around} {outer : List Env} {s : Shared} {H : Hp} {E : XK} (T : Txt w K mg a) (hr : Room 0 (A.deeper (envOfC "Reader.__init__" (defScope s_As) s.heap.objs.size a.f_As cdv))) :
    PSs (cxOf CX0 P w K mg base N_As "Reader.__init__" (defScope s_As) a.f_As cdv A outer s H E).nox (defBody s_As) (t_rd_init K a.c) := by
  unfold t_rd_init
  exact (pss_cons (ps_fld (pv 0) (pv 1) rfl)
      (pss_cons (ps_fld (pv 0) pe_int rfl)
      (pss_cons (ps_fld (pv 0) (pv 2) rfl)
      (pss_cons (ps_fld (pv 0) pe_bl rfl)
      (pss_one (ps_fld (pv 0) (pe_lst pa_nil) rfl))))))
theorem ok_As (T : Txt w K mg a) : FnOk P w K mg base CX0 1 a.f_As a.fd_As ["self", "text", "base"] (sp_rd_init K a.c) := by
  refine T.F_As.ok sc_As (fun vs H Q E h => ?_) (fun cdv A outer s H vs Q E hr h => ⟨_, dv_As T hr, b_rd_init T.PM T.PB T.KS3 h⟩)
  first | exact Pu.lif_len n_rd_init h | exact Pu.lifS_len n_rd_init h | exact Pu.lifL_len n_rd_init h | exact Pu.lifO_len n_rd_init h
theorem dv_K {cdv : Value} {A : Around} {outer : List Env} {s : Shared} {H : Hp} {E : XK} (T : Txt w K mg a) (hr : Room 0 (A.deeper (envOfC "Reader.next_sign" (defScope s_K) s.heap.objs.size a.f_K cdv))) :
    PSs (cxOf CX0 P w K mg base N_K "Reader.next_sign" (defScope s_K) a.f_K cdv A outer s H E).nox (defBody s_K) (t_rd_next K a.c) := by
  unfold t_rd_next
  exact (pss_one (ps_ret (pe_slice sl_str (pe_fld (pv 0) rfl) (po_some (pe_fld (pv 0) rfl)) (po_some (pe_op o_add (pe_fld (pv 0) rfl) pe_int)))))
theorem ok_K (T : Txt w K mg a) : FnOk P w K mg base CX0 1 a.f_K a.fd_K ["self"] (sp_rd_next K a.c) := by
  refine T.F_K.ok sc_K (fun vs H Q E h => ?_) (fun cdv A outer s H vs Q E hr h => ⟨_, dv_K T hr, b_rd_next T.PM T.PB T.KS3 h⟩)
  first | exact Pu.lif_len n_rd_next h | exact Pu.lifS_len n_rd_next h | exact Pu.lifL_len n_rd_next h | exact Pu.lifO_len n_rd_next h
theorem dv_Av {cdv : Value} {A : Around} {outer : List Env} {s : Shared} {H : Hp} {E : XK} (T : Txt w K mg a) (hr : Room 0 (A.deeper (envOfC "_law_purse" (defScope s_Av) s.heap.objs.size a.f_Av cdv))) :
    PSs (cxOf CX0 P w K mg base N_Av "_law_purse" (defScope s_Av) a.f_Av cdv A outer s H E).nox (defBody s_Av) (t_z_purse K a.c) := by
  unfold t_z_purse
  exact (pss_one (ps_ret (pe_lst (pa_cons (pe_op o_mul (pv 0) (pe_callTy c_int (by rfl) T.n_int (by decide +kernel) (pa_cons (pe_cmpR o_ge (pv 0) (pe_op o_pow pe_int pe_int) (nomark _)) pa_nil))) (pa_cons (pe_op o_mod (pe_callTy c_int (by rfl) T.n_int (by decide +kernel) (pa_cons (pv 0) pa_nil)) pe_int) (pa_cons pe_int pa_nil))))))
theorem ok_Av (T : Txt w K mg a) : FnOk P w K mg base CX0 1 a.f_Av a.fd_Av ["_law_cell"] (sp_z_purse K a.c) := by
  refine T.F_Av.ok sc_Av (fun vs H Q E h => ?_) (fun cdv A outer s H vs Q E hr h => ⟨_, dv_Av T hr, b_z_purse T.PM T.PB h⟩)
  first | exact Pu.lif_len n_z_purse h | exact Pu.lifS_len n_z_purse h | exact Pu.lifL_len n_z_purse h | exact Pu.lifO_len n_z_purse h
theorem dv_C {cdv : Value} {A : Around} {outer : List Env} {s : Shared} {H : Hp} {E : XK} (T : Txt w K mg a) (hr : Room 0 (A.deeper (envOfC "_law_coin" (defScope s_C) s.heap.objs.size a.f_C cdv))) :
    PSs (cxOf CX0 P w K mg base N_C "_law_coin" (defScope s_C) a.f_C cdv A outer s H E).nox (defBody s_C) (t_z_coin K a.c) := by
  unfold t_z_coin
  exact (pss_cons (ps_if (pt_cmpR o_gt (pe_ix ix_list (pv 0) pe_int (fun _ _ => rfl)) pe_int (nomark _)) (pss_cons (ps_set (i := 2) sc_C.nd rfl (by first | exact Or.inl rfl | exact Or.inr rfl) (pe_op o_mod (pe_callTy c_int (by rfl) T.n_int (by decide +kernel) (pa_cons (pe_ix ix_list (pv 0) pe_int (fun _ _ => rfl)) pa_nil)) (pv 1)))
      (pss_cons (ps_asg (pe_op o_div (pe_ix ix_list (pv 0) pe_int (fun _ _ => rfl)) (pv 1)) (pg_sub (pv 0) pe_int set_list))
      (pss_one (ps_ret (pv 2))))) pss_nil)
      (pss_cons (ps_asg (pe_op o_add (pe_ix ix_list (pv 0) pe_int (fun _ _ => rfl)) pe_int) (pg_sub (pv 0) pe_int set_list))
      (pss_cons (ps_set (i := 3) sc_C.nd rfl (by first | exact Or.inl rfl | exact Or.inr rfl) (pe_op o_mod (pe_callTy c_int (by rfl) T.n_int (by decide +kernel) (pa_cons (pe_op o_pow (pe_op o_add (pe_op o_add (pe_ix ix_list (pv 0) pe_int (fun _ _ => rfl)) (pe_op o_mul pe_int (pe_ix ix_list (pv 0) pe_int (fun _ _ => rfl)))) pe_int) pe_int) pa_nil)) pe_int))
      (pss_cons (ps_set (i := 3) sc_C.nd rfl (by first | exact Or.inl rfl | exact Or.inr rfl) (pe_op o_mod (pe_callTy c_int (by rfl) T.n_int (by decide +kernel) (pa_cons (pe_op o_mul (pe_op o_add (pv 3) (pe_op o_mul pe_int (pe_ix ix_list (pv 0) pe_int (fun _ _ => rfl)))) (pe_op o_add (pe_op o_div (pv 3) pe_int) pe_int)) pa_nil)) pe_int))
      (pss_one (ps_ret (pe_op o_mod (pe_callTy c_int (by rfl) T.n_int (by decide +kernel) (pa_cons (pe_op o_div (pe_op o_mod (pe_callTy c_int (by rfl) T.n_int (by decide +kernel) (pa_cons (pe_op o_mul (pv 3) (pe_op o_add (pe_op o_div (pv 3) pe_int) pe_int)) pa_nil)) pe_int) pe_int) pa_nil)) (pv 1))))))))
theorem ok_C (T : Txt w K mg a) : FnOk P w K mg base CX0 1 a.f_C a.fd_C ["_law_purse_here", "_law_amount"] (sp_z_coin K a.c) := by
  refine T.F_C.ok sc_C (fun vs H Q E h => ?_) (fun cdv A outer s H vs Q E hr h => ⟨_, dv_C T hr, b_z_coin T.PM T.PB h⟩)
  first | exact Pu.lif_len n_z_coin h | exact Pu.lifS_len n_z_coin h | exact Pu.lifL_len n_z_coin h | exact Pu.lifO_len n_z_coin h
theorem dv_An {cdv : Value} {A : Around} {outer : List Env} {s : Shared} {H : Hp} {E : XK} (T : Txt w K mg a) (hr : Room 0 (A.deeper (envOfC "_law_worth" (defScope s_An) s.heap.objs.size a.f_An cdv))) :
    PSs (cxOf CX0 P w K mg base N_An "_law_worth" (defScope s_An) a.f_An cdv A outer s H E).nox (defBody s_An) (t_z_worth K a.c) := by
  unfold t_z_worth
  exact (pss_cons (ps_set (i := 2) sc_An.nd rfl (by first | exact Or.inl rfl | exact Or.inr rfl) pe_int)
      (pss_cons (ps_for PassesOwn.never rfl (pi_list (pe_revL (pv 1))) (pg_name (i := 3) sc_An.nd rfl (by first | exact Or.inl rfl | exact Or.inr rfl)) (pss_one (ps_set (i := 2) sc_An.nd rfl (by first | exact Or.inl rfl | exact Or.inr rfl) (pe_op o_add (pe_op o_shl (pv 2) (pv 0)) (pv 3)))))
      (pss_one (ps_ret (pv 2)))))
theorem ok_An (T : Txt w K mg a) : FnOk P w K mg base CX0 1 a.f_An a.fd_An ["_law_bits", "_law_row_here"] (sp_z_worth K a.c) := by
  refine T.F_An.ok sc_An (fun vs H Q E h => ?_) (fun cdv A outer s H vs Q E hr h => ⟨_, dv_An T hr, b_z_worth T.PM T.PB h⟩)
  first | exact Pu.lif_len n_z_worth h | exact Pu.lifS_len n_z_worth h | exact Pu.lifL_len n_z_worth h | exact Pu.lifO_len n_z_worth h
theorem dv_Ah {cdv : Value} {A : Around} {outer : List Env} {s : Shared} {H : Hp} {E : XK} (T : Txt w K mg a) (hr : Room 0 (A.deeper (envOfC "_law_digits" (defScope s_Ah) s.heap.objs.size a.f_Ah cdv))) :
    PSs (cxOf CX0 P w K mg base N_Ah "_law_digits" (defScope s_Ah) a.f_Ah cdv A outer s H E).nox (defBody s_Ah) (t_z_pdigits K a.c) := by
  unfold t_z_pdigits
  exact (pss_cons (ps_set (i := 2) sc_Ah.nd rfl (by first | exact Or.inl rfl | exact Or.inr rfl) (pe_lst pa_nil))
      (pss_cons (ps_while PassesOwn.never (pt_cmpR o_gt (pv 1) pe_int (nomark _)) (pss_cons (ps_expr (pe_bm PySem.F.plainAttrs_list PySem.F.slot_list_append PySem.F.type_list_append mt_append (pv 2) (pa_cons (pe_op o_mod (pe_callTy c_int (by rfl) T.n_int (by decide +kernel) (pa_cons (pv 1) pa_nil)) (pe_op o_shl pe_int (pv 0))) pa_nil)))
      (pss_one (ps_set (i := 1) sc_Ah.nd rfl (by first | exact Or.inl rfl | exact Or.inr rfl) (pe_op o_shr (pv 1) (pv 0))))))
      (pss_one (ps_ret (pv 2)))))
theorem ok_Ah (T : Txt w K mg a) : FnOk P w K mg base CX0 1 a.f_Ah a.fd_Ah ["_law_bits", "_law_n"] (sp_z_pdigits K a.c) := by
  refine T.F_Ah.ok sc_Ah (fun vs H Q E h => ?_) (fun cdv A outer s H vs Q E hr h => ⟨_, dv_Ah T hr, b_z_pdigits T.PM T.PB h⟩)
  first | exact Pu.lif_len n_z_pdigits h | exact Pu.lifS_len n_z_pdigits h | exact Pu.lifL_len n_z_pdigits h | exact Pu.lifO_len n_z_pdigits h
theorem dv_Aq {cdv : Value} {A : Around} {outer : List Env} {s : Shared} {H : Hp} {E : XK} (T : Txt w K mg a) (hr : Room 0 (A.deeper (envOfC "_law_group" (defScope s_Aq) s.heap.objs.size a.f_Aq cdv))) :
    PSs (cxOf CX0 P w K mg base N_Aq "_law_group" (defScope s_Aq) a.f_Aq cdv A outer s H E).nox (defBody s_Aq) (t_k64_group K a.c) := by
  unfold t_k64_group
  exact (pss_cons (ps_par rfl sc_Aq.nd rfl rfl (by decide) rfl rfl (pa_cons pe_int (pa_cons (pv 1) pa_nil)) (by rfl))
      (pss_cons (ps_while PassesOwn.never (pt_cmpR o_le (pe_op o_mul (pv 3) (pv 1)) (pe_op o_shl pe_int (pv 0)) (nomark _)) (pss_one (ps_par rfl sc_Aq.nd rfl rfl (by decide) rfl rfl (pa_cons (pe_op o_add (pv 2) pe_int) (pa_cons (pe_op o_mul (pv 3) (pv 1)) pa_nil)) (by rfl))))
      (pss_one (ps_ret (pe_tup (pa_cons (pv 2) (pa_cons (pv 3) pa_nil)))))))
theorem ok_Aq (T : Txt w K mg a) : FnOk P w K mg base CX0 1 a.f_Aq a.fd_Aq ["_law_bits", "_law_radix"] (sp_k64_group K a.c) := by
  refine T.F_Aq.ok sc_Aq (fun vs H Q E h => ?_) (fun cdv A outer s H vs Q E hr h => ⟨_, dv_Aq T hr, b_k64_group T.PM T.PB h⟩)
  first | exact Pu.lif_len n_k64_group h | exact Pu.lifS_len n_k64_group h | exact Pu.lifL_len n_k64_group h | exact Pu.lifO_len n_k64_group h
theorem dv_H {cdv : Value} {A : Around} {outer : List Env} {s : Shared} {H : Hp} {E : XK} (T : Txt w K mg a) (hr : Room 1 (A.deeper (envOfC "is_between" (defScope s_H) s.heap.objs.size a.f_H cdv))) :
    PSs (cxOf CX0 P w K mg base N_H "is_between" (defScope s_H) a.f_H cdv A outer s H E).nox (defBody s_H) (t_H K a.c) := by
  unfold t_H
  exact (pss_one (ps_ret (pe_and (pe_call (ok_G T) (hr.mono (by decide)) rfl T.m_G T.F_G.kp T.b_G .nil pass0 (pa_cons (pv 0) pa_nil)) (pe_one (pe_chain o_le o_le (pv 1) (pv 0) (pv 2))))))
theorem ok_H (T : Txt w K mg a) : FnOk P w K mg base CX0 2 a.f_H a.fd_H ["value", "low", "high"] (sp_H K a.c) := by
  refine T.F_H.ok sc_H (fun vs H Q E h => ?_) (fun cdv A outer s H vs Q E hr h => ⟨_, dv_H T hr, b_H h⟩)
  (repeat (obtain ⟨_, h⟩ := h)); all_goals (subst_vars; rfl)
theorem dv_Ae {cdv : Value} {A : Around} {outer : List Env} {s : Shared} {H : Hp} {E : XK} (T : Txt w K mg a) (hr : Room 1 (A.deeper (envOfC "check_integer" (defScope s_Ae) s.heap.objs.size a.f_Ae cdv))) :
    PSs (cxOf CX0 P w K mg base N_Ae "check_integer" (defScope s_Ae) a.f_Ae cdv A outer s H E).nox (defBody s_Ae) (t_Ae K a.c) := by
  unfold t_Ae
  exact (pss_one (ps_if (pt_not (pt_val (pe_call (ok_G T) (hr.mono (by decide)) rfl T.m_G T.F_G.kp T.b_G .nil pass0 (pa_cons (pv 1) pa_nil)))) (pss_one ps_never) pss_nil))
theorem ok_Ae (T : Txt w K mg a) : FnOk P w K mg base CX0 2 a.f_Ae a.fd_Ae ["argument", "value"] (sp_Ae K a.c) := by
  refine T.F_Ae.ok sc_Ae (fun vs H Q E h => ?_) (fun cdv A outer s H vs Q E hr h => ⟨_, dv_Ae T hr, b_Ae h⟩)
  (repeat (obtain ⟨_, h⟩ := h)); all_goals (subst_vars; rfl)
theorem dv_T {cdv : Value} {A : Around} {outer : List Env} {s : Shared} {H : Hp} {E : XK} (T : Txt w K mg a) (hr : Room 1 (A.deeper (envOfC "plain" (defScope s_T) s.heap.objs.size a.f_T cdv))) :
    PSs (cxOf CX0 P w K mg base N_T "plain" (defScope s_T) a.f_T cdv A outer s H E).nox (defBody s_T) (t_T K a.c) := by
  unfold t_T
  exact (pss_cons (ps_expr (pe_call (ok_Y T) (hr.mono (by decide)) rfl T.m_Y T.F_Y.kp T.b_Y .nil pass0 (pa_cons (pv 0) pa_nil)))
      (pss_one (ps_ret (pe_call (ok_R T) (hr.mono (by decide)) rfl T.m_R T.F_R.kp T.b_R .nil pass0 (pa_cons (pv 0) pa_nil)))))
theorem ok_T (T : Txt w K mg a) : FnOk P w K mg base CX0 2 a.f_T a.fd_plain ["x"] (sp_T K a.c) := by
  refine T.F_T.ok sc_T (fun vs H Q E h => ?_) (fun cdv A outer s H vs Q E hr h => ⟨_, dv_T T hr, b_T h⟩)
  (repeat (obtain ⟨_, h⟩ := h)); all_goals (subst_vars; rfl)
theorem dv_Au {cdv : Value} {A : Around} {outer : List Env} {s : Shared} {H : Hp} {E : XK} (T : Txt w K mg a) (hr : Room 1 (A.deeper (envOfC "check_most" (defScope s_Au) s.heap.objs.size a.f_Au cdv))) :
    PSs (cxOf CX0 P w K mg base N_Au "check_most" (defScope s_Au) a.f_Au cdv A outer s H E).nox (defBody s_Au) (t_t_most K a.c) := by
  unfold t_t_most
  exact (pss_one (ps_if (PW.pt (pw_or (pt_not (pt_val (pe_call (ok_G T) (hr.mono (by decide)) rfl T.m_G T.F_G.kp T.b_G .nil pass0 (pa_cons (pv 0) pa_nil)))) (pw_or1 (PW.pt (pw_and (pt_cmpR op_ne (pv 0) pe_int (nomark _)) (pw_and1 (pt_cmpR o_lt (pv 0) (C8.pe_gc rfl T.g_A3) (nomark _)))))))) (pss_one ps_never) pss_nil))
theorem ok_Au (T : Txt w K mg a) : FnOk P w K mg base CX0 2 a.f_Au a.fd_Au ["value"] (sp_t_most K a.c) := by
  refine T.F_Au.ok sc_Au (fun vs H Q E h => ?_) (fun cdv A outer s H vs Q E hr h => ⟨_, dv_Au T hr, b_t_most T.PM T.PB h⟩)
  first | exact Pu.lif_len n_t_most h | exact Pu.lifS_len n_t_most h | exact Pu.lifL_len n_t_most h | exact Pu.lifO_len n_t_most h
theorem dv_Ai {cdv : Value} {A : Around} {outer : List Env} {s : Shared} {H : Hp} {E : XK} (T : Txt w K mg a) (hr : Room 1 (A.deeper (envOfC "Reader.skip_blanks" (defScope s_Ai) s.heap.objs.size a.f_Ai cdv))) :
    PSs (cxOf CX0 P w K mg base N_Ai "Reader.skip_blanks" (defScope s_Ai) a.f_Ai cdv A outer s H E).nox (defBody s_Ai) (t_rd_skip K a.c) := by
  unfold t_rd_skip
  exact (pss_one (ps_while PassesOwn.never (PW.pt (pw_and (pt_cmpR op_ne (pe_meth0 (pv 0) T.cl_Reader T.me_K (ok_K T) (hr.mono (by decide)) T.b_K .nil pass0) pe_str (nomark _)) (pw_and1 (pt_cmpR o_inS (pe_meth0 (pv 0) T.cl_Reader T.me_K (ok_K T) (hr.mono (by decide)) T.b_K .nil pass0) (C8.pe_gc rfl T.g_A0) (by rfl))))) (pss_one (ps_fld (pv 0) (pe_op o_add (pe_fld (pv 0) rfl) pe_int) rfl))))
theorem ok_Ai (T : Txt w K mg a) : FnOk P w K mg base CX0 2 a.f_Ai a.fd_Ai ["self"] (sp_rd_skip K a.c) := by
  refine T.F_Ai.ok sc_Ai (fun vs H Q E h => ?_) (fun cdv A outer s H vs Q E hr h => ⟨_, dv_Ai T hr, b_rd_skip T.PM T.PB T.KS3 h⟩)
  first | exact Pu.lif_len n_rd_skip h | exact Pu.lifS_len n_rd_skip h | exact Pu.lifL_len n_rd_skip h | exact Pu.lifO_len n_rd_skip h
theorem dv_Ac {cdv : Value} {A : Around} {outer : List Env} {s : Shared} {H : Hp} {E : XK} (T : Txt w K mg a) (hr : Room 1 (A.deeper (envOfC "Reader.go_over" (defScope s_Ac) s.heap.objs.size a.f_Ac cdv))) :
    PSs (cxOf CX0 P w K mg base N_Ac "Reader.go_over" (defScope s_Ac) a.f_Ac cdv A outer s H E).nox (defBody s_Ac) (t_rd_over K a.c) := by
  unfold t_rd_over
  exact (pss_cons (ps_set (i := 2) sc_Ac.nd rfl (by first | exact Or.inl rfl | exact Or.inr rfl) (pe_and (pe_cmpR op_ne (pe_meth0 (pv 0) T.cl_Reader T.me_K (ok_K T) (hr.mono (by decide)) T.b_K .nil pass0) pe_str (nomark _)) (pe_one (pe_cmpR o_inS (pe_meth0 (pv 0) T.cl_Reader T.me_K (ok_K T) (hr.mono (by decide)) T.b_K .nil pass0) (pv 1) (by rfl)))))
      (pss_cons (ps_fld (pv 0) (pe_op o_add (pe_fld (pv 0) rfl) (pe_callTy c_int (by rfl) T.n_int (by decide +kernel) (pa_cons (pv 2) pa_nil))) rfl)
      (pss_one (ps_ret (pv 2)))))
theorem ok_Ac (T : Txt w K mg a) : FnOk P w K mg base CX0 2 a.f_Ac a.fd_Ac ["self", "signs"] (sp_rd_over K a.c) := by
  refine T.F_Ac.ok sc_Ac (fun vs H Q E h => ?_) (fun cdv A outer s H vs Q E hr h => ⟨_, dv_Ac T hr, b_rd_over T.PM T.PB T.KS3 h⟩)
  first | exact Pu.lif_len n_rd_over h | exact Pu.lifS_len n_rd_over h | exact Pu.lifL_len n_rd_over h | exact Pu.lifO_len n_rd_over h
theorem dv_Af {cdv : Value} {A : Around} {outer : List Env} {s : Shared} {H : Hp} {E : XK} (T : Txt w K mg a) (hr : Room 1 (A.deeper (envOfC "Reader.value_here" (defScope s_Af) s.heap.objs.size a.f_Af cdv))) :
    PSs (cxOf CX0 P w K mg base N_Af "Reader.value_here" (defScope s_Af) a.f_Af cdv A outer s H E).nox (defBody s_Af) (t_rd_value K a.c) := by
  unfold t_rd_value
  exact (pss_cons (ps_set (i := 1) sc_Af.nd rfl (by first | exact Or.inl rfl | exact Or.inr rfl) (pe_lowerA (pe_meth0 (pv 0) T.cl_Reader T.me_K (ok_K T) (hr.mono (by decide)) T.b_K .nil pass0)))
      (pss_cons (ps_set (i := 2) sc_Af.nd rfl (by first | exact Or.inl rfl | exact Or.inr rfl) (pe_ifExp (pt_cmpR op_ne (pv 1) pe_str (nomark _)) (pe_findA (C8.pe_gc rfl T.g_A1) (pv 1)) (pe_un o_neg pe_int)))
      (pss_cons (ps_if (PW.pt (pw_or (pt_not (pt_chain o_le o_lt pe_int (pv 2) (pe_fld (pv 0) rfl))) (pw_or1 (PW.pt (pw_and (pt_val (pe_fld (pv 0) rfl)) (pw_and1 (pt_cmpR o_gt (pv 2) pe_int (nomark _)))))))) (pss_one (ps_ret pe_non)) pss_nil)
      (pss_one (ps_ret (pv 2))))))
theorem ok_Af (T : Txt w K mg a) : FnOk P w K mg base CX0 2 a.f_Af a.fd_Af ["self"] (sp_rd_value K a.c) := by
  refine T.F_Af.ok sc_Af (fun vs H Q E h => ?_) (fun cdv A outer s H vs Q E hr h => ⟨_, dv_Af T hr, b_rd_value T.PM T.PB T.KS3 h⟩)
  first | exact Pu.lif_len n_rd_value h | exact Pu.lifS_len n_rd_value h | exact Pu.lifL_len n_rd_value h | exact Pu.lifO_len n_rd_value h
theorem dv_Ad {cdv : Value} {A : Around} {outer : List Env} {s : Shared} {H : Hp} {E : XK} (T : Txt w K mg a) (hr : Room 1 (A.deeper (envOfC "digits_by_groups" (defScope s_Ad) s.heap.objs.size a.f_Ad cdv))) :
    PSs (cxOf CX0 P w K mg base N_Ad "digits_by_groups" (defScope s_Ad) a.f_Ad cdv A outer s H E).nox (defBody s_Ad) (t_t_groups K a.c) := by
  unfold t_t_groups
  exact (pss_cons (ps_asg (pe_call (ok_Ao T) (hr.mono (by decide)) rfl T.m_Ao T.F_Ao.kp T.b_Ao .nil pass0 (pa_cons (pv 0) (pa_cons (pv 2) pa_nil))) (pg_tup rfl (pgs_cons (pg_name (i := 3) sc_Ad.nd rfl (by first | exact Or.inl rfl | exact Or.inr rfl)) (pgs_cons (pg_name (i := 4) sc_Ad.nd rfl (by first | exact Or.inl rfl | exact Or.inr rfl)) pgs_nil))))
      (pss_cons (ps_par rfl sc_Ad.nd rfl rfl (by decide) rfl rfl (pa_cons (pe_lst pa_nil) (pa_cons pe_int pa_nil)) (by rfl))
      (pss_cons (ps_for PassesOwn.never rfl (pi_range3 rfl T.n_range (pa_cons pe_int (pa_cons (pe_callB c_len (by rfl) T.n_len (by decide +kernel) (pa_cons (pv 1) pa_nil)) (pa_cons (pv 3) pa_nil)))) (pg_name (i := 7) sc_Ad.nd rfl (by first | exact Or.inl rfl | exact Or.inr rfl)) (pss_cons (ps_asg (pe_tup (pa_cons pe_int (pa_cons pe_int pa_nil))) (pg_tup rfl (pgs_cons (pg_name (i := 8) sc_Ad.nd rfl (by first | exact Or.inl rfl | exact Or.inr rfl)) (pgs_cons (pg_name (i := 9) sc_Ad.nd rfl (by first | exact Or.inl rfl | exact Or.inr rfl)) pgs_nil))))
      (pss_cons (ps_for PassesOwn.never rfl (pi_list (pe_slice sl_list (pv 1) (po_some (pv 7)) (po_some (pe_op o_add (pv 7) (pv 3))))) (pg_name (i := 10) sc_Ad.nd rfl (by first | exact Or.inl rfl | exact Or.inr rfl)) (pss_one (ps_par rfl sc_Ad.nd rfl rfl (by decide) rfl rfl (pa_cons (pe_op o_add (pe_op o_mul (pv 8) (pv 2)) (pv 10)) (pa_cons (pe_op o_mul (pv 9) (pv 2)) pa_nil)) (by rfl))))
      (pss_cons (ps_set (i := 6) sc_Ad.nd rfl (by first | exact Or.inl rfl | exact Or.inr rfl) (pe_op o_add (pv 6) (pe_callB c_len (by rfl) T.n_len (by decide +kernel) (pa_cons (pv 5) pa_nil))))
      (pss_cons (ps_for PassesOwn.never rfl (pi_range1 rfl T.n_range (pa_cons (pe_callB c_len (by rfl) T.n_len (by decide +kernel) (pa_cons (pv 5) pa_nil)) pa_nil)) (pg_name (i := 11) sc_Ad.nd rfl (by first | exact Or.inl rfl | exact Or.inr rfl)) (pss_cons (ps_set (i := 8) sc_Ad.nd rfl (by first | exact Or.inl rfl | exact Or.inr rfl) (pe_op o_add (pe_op o_mul (pe_ix ix_list (pv 5) (pv 11) (fun _ _ => rfl)) (pv 9)) (pv 8)))
      (pss_cons (ps_asg (pe_op o_mod (pv 8) (pe_fld (pv 0) rfl)) (pg_sub (pv 5) (pv 11) set_list))
      (pss_one (ps_set (i := 8) sc_Ad.nd rfl (by first | exact Or.inl rfl | exact Or.inr rfl) (pe_op o_shr (pv 8) (pe_fld (pv 0) rfl)))))))
      (pss_one (ps_if (pt_cmpR o_gt (pv 8) pe_int (nomark _)) (pss_one (ps_expr (pe_bm PySem.F.plainAttrs_list PySem.F.slot_list_append PySem.F.type_list_append mt_append (pv 5) (pa_cons (pv 8) pa_nil)))) pss_nil)))))))
      (pss_cons (ps_expr (pe_meth (pv 0) T.cl_Machine T.me_D (ok_D T) (hr.mono (by decide)) T.b_D .nil pass0 (pa_cons pe_str (pa_cons (pv 6) pa_nil))))
      (pss_one (ps_ret (pv 5)))))))
theorem ok_Ad (T : Txt w K mg a) : FnOk P w K mg base CX0 2 a.f_Ad a.fd_Ad ["machine", "figures", "base"] (sp_t_groups K a.c) := by
  refine T.F_Ad.ok sc_Ad (fun vs H Q E h => ?_) (fun cdv A outer s H vs Q E hr h => ⟨_, dv_Ad T hr, b_t_groups T.PM T.PB h⟩)
  first | exact Pu.lif_len n_t_groups h | exact Pu.lifS_len n_t_groups h | exact Pu.lifL_len n_t_groups h | exact Pu.lifO_len n_t_groups h
theorem dv_Am {cdv : Value} {A : Around} {outer : List Env} {s : Shared} {H : Hp} {E : XK} (T : Txt w K mg a) (hr : Room 1 (A.deeper (envOfC "digits_by_bits" (defScope s_Am) s.heap.objs.size a.f_Am cdv))) :
    PSs (cxOf CX0 P w K mg base N_Am "digits_by_bits" (defScope s_Am) a.f_Am cdv A outer s H E).nox (defBody s_Am) (t_t_bits K a.c) := by
  unfold t_t_bits
  exact (pss_cons (ps_par3 rfl sc_Am.nd rfl rfl rfl (by decide) (by decide) (by decide) rfl rfl rfl (pa_cons (pe_lst pa_nil) (pa_cons pe_int (pa_cons pe_int pa_nil))) (by rfl))
      (pss_cons (ps_for PassesOwn.never rfl (pi_list (pe_revL (pv 1))) (pg_name (i := 6) sc_Am.nd rfl (by first | exact Or.inl rfl | exact Or.inr rfl)) (pss_cons (ps_par rfl sc_Am.nd rfl rfl (by decide) rfl rfl (pa_cons (pe_op o_or (pv 4) (pe_op o_shl (pv 6) (pv 5))) (pa_cons (pe_op o_add (pv 5) (pe_ixD rfl T.g_Aw (pv 2) (fun _ _ => rfl))) pa_nil)) (by rfl))
      (pss_one (ps_if (pt_cmpR o_ge (pv 5) (pe_fld (pv 0) rfl) (nomark _)) (pss_cons (ps_expr (pe_bm PySem.F.plainAttrs_list PySem.F.slot_list_append PySem.F.type_list_append mt_append (pv 3) (pa_cons (pe_op o_mod (pv 4) (pe_fld (pv 0) rfl)) pa_nil)))
      (pss_one (ps_par rfl sc_Am.nd rfl rfl (by decide) rfl rfl (pa_cons (pe_op o_shr (pv 4) (pe_fld (pv 0) rfl)) (pa_cons (pe_op o_sub (pv 5) (pe_fld (pv 0) rfl)) pa_nil)) (by rfl)))) pss_nil))))
      (pss_cons (ps_if (pt_cmpR o_gt (pv 5) pe_int (nomark _)) (pss_one (ps_expr (pe_bm PySem.F.plainAttrs_list PySem.F.slot_list_append PySem.F.type_list_append mt_append (pv 3) (pa_cons (pv 4) pa_nil)))) pss_nil)
      (pss_cons (ps_expr (pe_meth (pv 0) T.cl_Machine T.me_D (ok_D T) (hr.mono (by decide)) T.b_D .nil pass0 (pa_cons pe_str (pa_cons (pe_callB c_len (by rfl) T.n_len (by decide +kernel) (pa_cons (pv 3) pa_nil)) pa_nil))))
      (pss_one (ps_ret (pv 3)))))))
theorem ok_Am (T : Txt w K mg a) : FnOk P w K mg base CX0 2 a.f_Am a.fd_Am ["machine", "figures", "base"] (sp_t_bits K a.c) := by
  refine T.F_Am.ok sc_Am (fun vs H Q E h => ?_) (fun cdv A outer s H vs Q E hr h => ⟨_, dv_Am T hr, b_t_bits T.PM T.PB h⟩)
  first | exact Pu.lif_len n_t_bits h | exact Pu.lifS_len n_t_bits h | exact Pu.lifL_len n_t_bits h | exact Pu.lifO_len n_t_bits h
theorem dv_I {cdv : Value} {A : Around} {outer : List Env} {s : Shared} {H : Hp} {E : XK} (T : Txt w K mg a) (hr : Room 1 (A.deeper (envOfC "_law_pick" (defScope s_I) s.heap.objs.size a.f_I cdv))) :
    PSs (cxOf CX0 P w K mg base N_I "_law_pick" (defScope s_I) a.f_I cdv A outer s H E).nox (defBody s_I) (t_z_pick K a.c) := by
  unfold t_z_pick
  exact (pss_one (ps_ret (pe_ix ix_list (pv 1) (pe_call (ok_C T) (hr.mono (by decide)) rfl T.m_C T.F_C.kp T.b_C .nil pass0 (pa_cons (pv 0) (pa_cons (pe_callB c_len (by rfl) T.n_len (by decide +kernel) (pa_cons (pv 1) pa_nil)) pa_nil))) (fun _ _ => rfl))))
theorem ok_I (T : Txt w K mg a) : FnOk P w K mg base CX0 2 a.f_I a.fd_I ["_law_purse_here", "_law_some"] (sp_z_pick K a.c) := by
  refine T.F_I.ok sc_I (fun vs H Q E h => ?_) (fun cdv A outer s H vs Q E hr h => ⟨_, dv_I T hr, b_z_pick T.PM T.PB h⟩)
  first | exact Pu.lif_len n_z_pick h | exact Pu.lifS_len n_z_pick h | exact Pu.lifL_len n_z_pick h | exact Pu.lifO_len n_z_pick h
theorem dv_W {cdv : Value} {A : Around} {outer : List Env} {s : Shared} {H : Hp} {E : XK} (T : Txt w K mg a) (hr : Room 1 (A.deeper (envOfC "_law_counted" (defScope s_W) s.heap.objs.size a.f_W cdv))) :
    PSs (cxOf CX0 P w K mg base N_W "_law_counted" (defScope s_W) a.f_W cdv A outer s H E).nox (defBody s_W) (t_z_pcounted K a.c) := by
  unfold t_z_pcounted
  exact (pss_cons (ps_set (i := 1) sc_W.nd rfl (by first | exact Or.inl rfl | exact Or.inr rfl) (pe_tup (pa_cons (pe_callTy (c_dict rfl) (by rfl) T.n_dict (by decide +kernel) (pa_cons (pe_lc (own := [("_law_row_here", 2)]) (g := (gName 2)) rfl sc_W.nd (pi_list (pe_meth0 (pv 0) T.cl_Machine T.me_J (ok_J T) (hr.mono (by decide)) T.b_J .nil pass0)) (blkOk_by (own := [("_law_row_here", 2)]) (N := N_W) (sc := defScope s_W) (by decide +kernel)) (fun _ _ _ _ _ => (pg_name (i := 2) sc_W.nd rfl (by first | exact Or.inl rfl | exact Or.inr rfl))) (fun _ _ _ _ _ => pts_one (pt_cmpR op_ne (pe_ix ix_tup (pv 2) pe_int (fun _ _ => rfl)) pe_int (nomark _))) (fun _ _ _ _ _ => (pv 2))) pa_nil)) (pa_cons (pe_meth0 (pv 0) T.cl_Machine T.me_N (ok_N T) (hr.mono (by decide)) T.b_N .nil pass0) pa_nil))))
      (pss_cons (ps_expr (pe_meth0 (pv 0) T.cl_Machine T.me_M (ok_M T) (hr.mono (by decide)) T.b_M .nil pass0))
      (pss_one (ps_ret (pv 1)))))
theorem ok_W (T : Txt w K mg a) : FnOk P w K mg base CX0 2 a.f_W a.fd_W ["_law_engine"] (sp_z_pcounted K a.c) := by
  refine T.F_W.ok sc_W (fun vs H Q E h => ?_) (fun cdv A outer s H vs Q E hr h => ⟨_, dv_W T hr, b_z_pcounted T.PM T.PB h⟩)
  first | exact Pu.lif_len n_z_pcounted h | exact Pu.lifS_len n_z_pcounted h | exact Pu.lifL_len n_z_pcounted h | exact Pu.lifO_len n_z_pcounted h
theorem dv_Aj {cdv : Value} {A : Around} {outer : List Env} {s : Shared} {H : Hp} {E : XK} (T : Txt w K mg a) (hr : Room 1 (A.deeper (envOfC "_law_steps_in" (defScope s_Aj) s.heap.objs.size a.f_Aj cdv))) :
    PSs (cxOf CX0 P w K mg base N_Aj "_law_steps_in" (defScope s_Aj) a.f_Aj cdv A outer s H E).nox (defBody s_Aj) (t_k65_steps K a.c) := by
  unfold t_k65_steps
  exact (pss_cons (ps_asg (pe_call (ok_Aq T) (hr.mono (by decide)) rfl T.m_Aq T.F_Aq.kp T.b_Aq .nil pass0 (pa_cons (pv 0) (pa_cons (pv 1) pa_nil))) (pg_tup rfl (pgs_cons (pg_name (i := 3) sc_Aj.nd rfl (by first | exact Or.inl rfl | exact Or.inr rfl)) (pgs_cons (pg_name (i := 4) sc_Aj.nd rfl (by first | exact Or.inl rfl | exact Or.inr rfl)) pgs_nil))))
      (pss_cons (ps_asg (pe_tup (pa_cons pe_int (pa_cons pe_int pa_nil))) (pg_tup rfl (pgs_cons (pg_name (i := 5) sc_Aj.nd rfl (by first | exact Or.inl rfl | exact Or.inr rfl)) (pgs_cons (pg_name (i := 6) sc_Aj.nd rfl (by first | exact Or.inl rfl | exact Or.inr rfl)) pgs_nil))))
      (pss_cons (ps_for PassesOwn.never rfl (pi_range3 rfl T.n_range (pa_cons pe_int (pa_cons (pe_callB c_len (by rfl) T.n_len (by decide +kernel) (pa_cons (pv 2) pa_nil)) (pa_cons (pv 3) pa_nil)))) (pg_name (i := 7) sc_Aj.nd rfl (by first | exact Or.inl rfl | exact Or.inr rfl)) (pss_cons (ps_set (i := 5) sc_Aj.nd rfl (by first | exact Or.inl rfl | exact Or.inr rfl) (pe_op o_add (pv 5) (pe_op o_div (pe_op o_sub (pe_op o_add (pe_bits (pv 6)) (pv 0)) pe_int) (pv 0))))
      (pss_one (ps_for PassesOwn.never rfl (pi_list (pe_slice sl_list (pv 2) (po_some (pv 7)) (po_some (pe_op o_add (pv 7) (pv 3))))) (pg_name (i := 8) sc_Aj.nd rfl (by first | exact Or.inl rfl | exact Or.inr rfl)) (pss_one (ps_set (i := 6) sc_Aj.nd rfl (by first | exact Or.inl rfl | exact Or.inr rfl) (pe_op o_add (pe_op o_mul (pv 6) (pv 1)) (pv 8))))))))
      (pss_one (ps_ret (pe_tup (pa_cons (pv 5) (pa_cons (pv 6) pa_nil))))))))
theorem ok_Aj (T : Txt w K mg a) : FnOk P w K mg base CX0 2 a.f_Aj a.fd_Aj ["_law_bits", "_law_radix", "_law_digits_so"] (sp_k65_steps K a.c) := by
  refine T.F_Aj.ok sc_Aj (fun vs H Q E h => ?_) (fun cdv A outer s H vs Q E hr h => ⟨_, dv_Aj T hr, b_k65_steps T.PM T.PB h⟩)
  first | exact Pu.lif_len n_k65_steps h | exact Pu.lifS_len n_k65_steps h | exact Pu.lifL_len n_k65_steps h | exact Pu.lifO_len n_k65_steps h
theorem dv_A {cdv : Value} {A : Around} {outer : List Env} {s : Shared} {H : Hp} {E : XK} (T : Txt w K mg a) (hr : Room 2 (A.deeper (envOfC "Machine.__init__" (defScope s_A) s.heap.objs.size a.f_A cdv))) :
    PSs (cxOf CX0 P w K mg base N_A "Machine.__init__" (defScope s_A) a.f_A cdv A outer s H E).nox (defBody s_A) (t_A K a.c) := by
  unfold t_A
  exact (pss_cons (ps_if (pt_not (pt_val (pe_call (ok_H T) (hr.mono (by decide)) rfl T.m_H T.F_H.kp T.b_H .nil pass0 (pa_cons (pv 1) (pa_cons (C8.pe_gc rfl T.g_A2) (pa_cons (C8.pe_gc rfl T.g_A5) pa_nil)))))) (pss_one ps_never) pss_nil)
      (pss_cons (ps_if (pt_not (pt_val (pe_call (ok_H T) (hr.mono (by decide)) rfl T.m_H T.F_H.kp T.b_H .nil pass0 (pa_cons (pv 2) (pa_cons pe_int (pa_cons (C8.pe_gc rfl T.g_A6) pa_nil)))))) (pss_one ps_never) pss_nil)
      (pss_cons (ps_fld (pv 0) (pv 1) rfl)
      (pss_cons (ps_fld (pv 0) (pv 2) rfl)
      (pss_cons (ps_fld (pv 0) (pe_op o_shl pe_int (pv 1)) rfl)
      (pss_cons (ps_fld (pv 0) (pe_callTy (c_dict rfl) (by rfl) T.n_dict (by decide +kernel) (pa_cons (pe_lc (own := [("word", 3)]) (g := (gName 3)) rfl sc_A.nd (pi_tup (pe_glob rfl T.g_Ay rfl)) (blkOk_by (own := [("word", 3)]) (N := N_A) (sc := defScope s_A) (by decide +kernel)) (fun _ _ _ _ _ => (pg_name (i := 3) sc_A.nd rfl (by first | exact Or.inl rfl | exact Or.inr rfl))) (fun _ _ _ _ _ => pts_nil) (fun _ _ _ _ _ => (pe_tup (pa_cons (pv 3) (pa_cons pe_int pa_nil))))) pa_nil)) rfl)
      (pss_one (ps_fld (pv 0) (pe_lst pa_nil) rfl))))))))
theorem ok_A (T : Txt w K mg a) : FnOk P w K mg base CX0 3 a.f_A a.fd_A ["self", "bits", "cutoff"] (sp_A K a.c) := by
  refine FunD.ok T.F_A sc_A (fun vs H Q E h => ?_) (fun cdv A outer s H vs Q E hr h => ⟨_, (dv_A T hr).nox, b_A T.PM h⟩)
  (repeat (obtain ⟨_, h⟩ := h)); all_goals (subst_vars; rfl)
theorem dv_E {cdv : Value} {A : Around} {outer : List Env} {s : Shared} {H : Hp} {E : XK} (T : Txt w K mg a) (hr : Room 2 (A.deeper (envOfC "made" (defScope s_E) s.heap.objs.size a.f_E cdv))) :
    PSs (cxOf CX0 P w K mg base N_E "made" (defScope s_E) a.f_E cdv A outer s H E).nox (defBody s_E) (t_E K a.c) := by
  unfold t_E
  exact (pss_cons (ps_set (i := 3) sc_E.nd rfl (by first | exact Or.inl rfl | exact Or.inr rfl) (pe_callB c_len (by rfl) T.n_len (by decide +kernel) (pa_cons (pv 2) pa_nil)))
      (pss_cons (ps_while PassesOwn.never (PW.pt (pw_and (pt_cmpR o_gt (pv 3) pe_int (nomark _)) (pw_and1 (pt_cmpR op_eq (pe_ix ix_list (pv 2) (pe_op o_sub (pv 3) pe_int) (fun _ _ => rfl)) pe_int (nomark _))))) (pss_one (ps_set (i := 3) sc_E.nd rfl (by first | exact Or.inl rfl | exact Or.inr rfl) (pe_op o_sub (pv 3) pe_int))))
      (pss_one (ps_ret (pe_make T.mk_Big (ok_X T) (hr.mono (by decide)) rfl T.g_Big T.b_X .nil pass0 (pa_cons (pe_fld (pv 0) rfl) (pa_cons (pe_ifExp (pt_cmpR o_gt (pv 3) pe_int (nomark _)) (pv 1) pe_int) (pa_cons (pe_callTy c_tupL (by rfl) T.n_tuple (by decide +kernel) (pa_cons (pe_slice sl_list (pv 2) po_none (po_some (pv 3))) pa_nil)) pa_nil))))))))
theorem ok_E (T : Txt w K mg a) : FnOk P w K mg base CX0 3 a.f_E a.fd_E ["machine", "side", "digits"] (sp_E K a.c) := by
  refine T.F_E.ok sc_E (fun vs H Q E h => ?_) (fun cdv A outer s H vs Q E hr h => ⟨_, dv_E T hr, b_E T.PM T.PB h⟩)
  (repeat (obtain ⟨_, h⟩ := h)); all_goals (subst_vars; rfl)
theorem dv_Ak {cdv : Value} {A : Around} {outer : List Env} {s : Shared} {H : Hp} {E : XK} (T : Txt w K mg a) (hr : Room 2 (A.deeper (envOfC "Reader.find_base" (defScope s_Ak) s.heap.objs.size a.f_Ak cdv))) :
    PSs (cxOf CX0 P w K mg base N_Ak "Reader.find_base" (defScope s_Ak) a.f_Ak cdv A outer s H E).nox (defBody s_Ak) (t_rd_base K a.c) := by
  unfold t_rd_base
  exact (pss_cons (ps_set (i := 1) sc_Ak.nd rfl (by first | exact Or.inl rfl | exact Or.inr rfl) (pe_lowerA (pe_slice sl_str (pe_fld (pv 0) rfl) (po_some (pe_op o_add (pe_fld (pv 0) rfl) pe_int)) (po_some (pe_op o_add (pe_fld (pv 0) rfl) pe_int)))))
      (pss_one (ps_if (PW.pt (pw_and (pt_cmpR op_eq (pe_meth0 (pv 0) T.cl_Reader T.me_K (ok_K T) (hr.mono (by decide)) T.b_K .nil pass0) pe_str (nomark _)) (pw_and (pt_inCs rfl T.g_Ax (pv 1) (by rfl)) (pw_and1 (pt_cmpR op_in_seq (pe_fld (pv 0) rfl) (pe_tup (pa_cons pe_int (pa_cons (pe_ixCs rfl T.g_Ax (pv 1) (fun _ _ => rfl)) pa_nil))) (by rfl)))))) (pss_cons (ps_fld (pv 0) (pe_ixCs rfl T.g_Ax (pv 1) (fun _ _ => rfl)) rfl)
      (pss_cons (ps_fld (pv 0) (pe_op o_add (pe_fld (pv 0) rfl) pe_int) rfl)
      (pss_one (ps_expr (pe_meth (pv 0) T.cl_Reader T.me_Ac (ok_Ac T) (hr.mono (by decide)) T.b_Ac .nil pass0 (pa_cons pe_str pa_nil)))))) (pss_one (ps_if (pt_cmpR op_eq (pe_fld (pv 0) rfl) pe_int (nomark _)) (pss_cons (ps_fld (pv 0) pe_int rfl)
      (pss_one (ps_fld (pv 0) (pe_cmpR op_eq (pe_meth0 (pv 0) T.cl_Reader T.me_K (ok_K T) (hr.mono (by decide)) T.b_K .nil pass0) pe_str (nomark _)) rfl))) pss_nil)))))
theorem ok_Ak (T : Txt w K mg a) : FnOk P w K mg base CX0 3 a.f_Ak a.fd_Ak ["self"] (sp_rd_base K a.c) := by
  refine T.F_Ak.ok sc_Ak (fun vs H Q E h => ?_) (fun cdv A outer s H vs Q E hr h => ⟨_, dv_Ak T hr, b_rd_base T.PM T.PB T.KS3 h⟩)
  first | exact Pu.lif_len n_rd_base h | exact Pu.lifS_len n_rd_base h | exact Pu.lifL_len n_rd_base h | exact Pu.lifO_len n_rd_base h
theorem dv_Ag {cdv : Value} {A : Around} {outer : List Env} {s : Shared} {H : Hp} {E : XK} (T : Txt w K mg a) (hr : Room 2 (A.deeper (envOfC "Reader.read_figure" (defScope s_Ag) s.heap.objs.size a.f_Ag cdv))) :
    PSs (cxOf CX0 P w K mg base N_Ag "Reader.read_figure" (defScope s_Ag) a.f_Ag cdv A outer s H E).nox (defBody s_Ag) (t_rd_figure K a.c) := by
  unfold t_rd_figure
  exact (pss_cons (ps_set (i := 1) sc_Ag.nd rfl (by first | exact Or.inl rfl | exact Or.inr rfl) (pe_meth0 (pv 0) T.cl_Reader T.me_Af (ok_Af T) (hr.mono (by decide)) T.b_Af .nil pass0))
      (pss_cons (ps_if (pt_cmpR o_isN (pv 1) pe_non (nomark _)) (pss_one ps_never) pss_nil)
      (pss_cons (ps_expr (pe_bm PySem.F.plainAttrs_list PySem.F.slot_list_append PySem.F.type_list_append mt_append (pe_fld (pv 0) rfl) (pa_cons (pv 1) pa_nil)))
      (pss_one (ps_fld (pv 0) (pe_op o_add (pe_fld (pv 0) rfl) pe_int) rfl)))))
theorem ok_Ag (T : Txt w K mg a) : FnOk P w K mg base CX0 3 a.f_Ag a.fd_Ag ["self"] (sp_rd_figure K a.c) := by
  refine T.F_Ag.ok sc_Ag (fun vs H Q E h => ?_) (fun cdv A outer s H vs Q E hr h => ⟨_, dv_Ag T hr, b_rd_figure T.PM T.PB T.KS3 h⟩)
  first | exact Pu.lif_len n_rd_figure h | exact Pu.lifS_len n_rd_figure h | exact Pu.lifL_len n_rd_figure h | exact Pu.lifO_len n_rd_figure h
theorem dv_Ap {cdv : Value} {A : Around} {outer : List Env} {s : Shared} {H : Hp} {E : XK} (T : Txt w K mg a) (hr : Room 2 (A.deeper (envOfC "_law_row" (defScope s_Ap) s.heap.objs.size a.f_Ap cdv))) :
    PSs (cxOf CX0 P w K mg base N_Ap "_law_row" (defScope s_Ap) a.f_Ap cdv A outer s H E).nox (defBody s_Ap) (t_z_prow K a.c) := by
  unfold t_z_prow
  exact (pss_cons (ps_set (i := 3) sc_Ap.nd rfl (by first | exact Or.inl rfl | exact Or.inr rfl) (pe_lst pa_nil))
      (pss_cons (ps_for PassesOwn.never rfl (pi_range1 rfl T.n_range (pa_cons (pv 2) pa_nil)) (pg_name (i := 4) sc_Ap.nd rfl (by first | exact Or.inl rfl | exact Or.inr rfl)) (pss_one (ps_expr (pe_bm PySem.F.plainAttrs_list PySem.F.slot_list_append PySem.F.type_list_append mt_append (pv 3) (pa_cons (pe_call (ok_I T) (hr.mono (by decide)) rfl T.m_I T.F_I.kp T.b_I .nil pass0 (pa_cons (pv 0) (pa_cons (pe_lst (pa_cons (pe_call (ok_C T) (hr.mono (by decide)) rfl T.m_C T.F_C.kp T.b_C .nil pass0 (pa_cons (pv 0) (pa_cons (pe_op o_shl pe_int (pv 1)) pa_nil))) (pa_cons (pe_call (ok_C T) (hr.mono (by decide)) rfl T.m_C T.F_C.kp T.b_C .nil pass0 (pa_cons (pv 0) (pa_cons (pe_op o_shl pe_int (pv 1)) pa_nil))) (pa_cons pe_int (pa_cons (pe_op o_sub (pe_op o_shl pe_int (pv 1)) pe_int) pa_nil))))) pa_nil))) pa_nil)))))
      (pss_one (ps_ret (pe_ifExp (pt_cmpR (op_neD hr.units) (pv 3) (pe_lst pa_nil) (nomark _)) (pe_op op_cat (pe_slice sl_list (pv 3) po_none (po_some (pe_un o_neg pe_int))) (pe_lst (pa_cons (pe_callB (c_max rfl) (by rfl) T.n_max (by decide +kernel) (pa_cons pe_int (pa_cons (pe_ix ix_list (pv 3) (pe_un o_neg pe_int) (fun _ _ => rfl)) pa_nil))) pa_nil))) (pe_lst pa_nil))))))
theorem ok_Ap (T : Txt w K mg a) : FnOk P w K mg base CX0 3 a.f_Ap a.fd_Ap ["_law_purse_here", "_law_bits", "_law_size"] (sp_z_prow K a.c) := by
  refine T.F_Ap.ok sc_Ap (fun vs H Q E h => ?_) (fun cdv A outer s H vs Q E hr h => ⟨_, dv_Ap T hr, b_z_prow T.PM T.PB h⟩)
  first | exact Pu.lif_len n_z_prow h | exact Pu.lifS_len n_z_prow h | exact Pu.lifL_len n_z_prow h | exact Pu.lifO_len n_z_prow h
theorem dv_At {cdv : Value} {A : Around} {outer : List Env} {s : Shared} {H : Hp} {E : XK} (T : Txt w K mg a) (hr : Room 2 (A.deeper (envOfC "_law_is" (defScope s_At) s.heap.objs.size a.f_At cdv))) :
    PSs (cxOf CX0 P w K mg base N_At "_law_is" (defScope s_At) a.f_At cdv A outer s H E).nox (defBody s_At) (t_z_is K a.c) := by
  unfold t_z_is
  exact (pss_cons (ps_set (i := 3) sc_At.nd rfl (by first | exact Or.inl rfl | exact Or.inr rfl) (pe_op o_sub (pe_callTy c_int (by rfl) T.n_int (by decide +kernel) (pa_cons (pe_cmpR o_gt (pv 2) pe_int (nomark _)) pa_nil)) (pe_callTy c_int (by rfl) T.n_int (by decide +kernel) (pa_cons (pe_cmpR o_lt (pv 2) pe_int (nomark _)) pa_nil))))
      (pss_one (ps_ret (pe_cmpR (op_eqD hr.units) (pe_tup (pa_cons (pe_meth0 (pv 0) T.cl_Big T.me_O (ok_O T) (hr.mono (by decide)) T.b_O .nil pass0) (pa_cons (pe_meth0 (pv 0) T.cl_Big T.me_Q (ok_Q T) (hr.mono (by decide)) T.b_Q .nil pass0) (pa_cons (pe_meth0 (pv 0) T.cl_Big T.me_P (ok_P T) (hr.mono (by decide)) T.b_P .nil pass0) (pa_cons (pe_call (ok_T T) (hr.mono (by decide)) rfl T.m_T T.F_T.kp T.b_T .nil pass0 (pa_cons (pv 0) pa_nil)) pa_nil))))) (pe_tup (pa_cons (pv 3) (pa_cons (pe_call (ok_Ah T) (hr.mono (by decide)) rfl T.m_Ah T.F_Ah.kp T.b_Ah .nil pass0 (pa_cons (pv 1) (pa_cons (pe_callB c_abs (by rfl) T.n_abs (by decide +kernel) (pa_cons (pv 2) pa_nil)) pa_nil))) (pa_cons (pv 1) (pa_cons (pv 2) pa_nil))))) (nomark _)))))
theorem ok_At (T : Txt w K mg a) : FnOk P w K mg base CX0 3 a.f_At a.fd_At ["_law_held", "_law_bits", "_law_n"] (sp_z_is K a.c) := by
  refine T.F_At.ok sc_At (fun vs H Q E h => ?_) (fun cdv A outer s H vs Q E hr h => ⟨_, dv_At T hr, b_z_is T.PM T.PB h⟩)
  first | exact Pu.lif_len n_z_is h | exact Pu.lifS_len n_z_is h | exact Pu.lifL_len n_z_is h | exact Pu.lifO_len n_z_is h
theorem dv_Ar {cdv : Value} {A : Around} {outer : List Env} {s : Shared} {H : Hp} {E : XK} (T : Txt w K mg a) (hr : Room 2 (A.deeper (envOfC "_law_figures" (defScope s_Ar) s.heap.objs.size a.f_Ar cdv))) :
    PSs (cxOf CX0 P w K mg base N_Ar "_law_figures" (defScope s_Ar) a.f_Ar cdv A outer s H E).nox (defBody s_Ar) (t_k65_figures K a.c) := by
  unfold t_k65_figures
  exact (pss_cons (ps_set (i := 3) sc_Ar.nd rfl (by first | exact Or.inl rfl | exact Or.inr rfl) (pe_lst pa_nil))
      (pss_cons (ps_while PassesOwn.never (pt_cmpR o_gt (pv 1) pe_int (nomark _)) (pss_cons (ps_expr (pe_bm PySem.F.plainAttrs_list PySem.F.slot_list_append PySem.F.type_list_append mt_append (pv 3) (pa_cons (pe_op o_mod (pe_callTy c_int (by rfl) T.n_int (by decide +kernel) (pa_cons (pv 1) pa_nil)) (pv 2)) pa_nil)))
      (pss_one (ps_set (i := 1) sc_Ar.nd rfl (by first | exact Or.inl rfl | exact Or.inr rfl) (pe_op o_div (pv 1) (pv 2))))))
      (pss_one (ps_ret (pe_op op_cat (pe_op op_rep (pe_lst (pa_cons pe_int pa_nil)) (pe_call (ok_I T) (hr.mono (by decide)) rfl T.m_I T.F_I.kp T.b_I .nil pass0 (pa_cons (pv 0) (pa_cons (pe_lst (pa_cons pe_int (pa_cons pe_int (pa_cons (pe_callTy c_int (by rfl) T.n_int (by decide +kernel) (pa_cons (pe_cmpR (op_eqD hr.units) (pv 3) (pe_lst pa_nil) (nomark _)) pa_nil)) (pa_cons pe_int (pa_cons pe_int (pa_cons pe_int pa_nil))))))) pa_nil)))) (pe_revL (pv 3)))))))
theorem ok_Ar (T : Txt w K mg a) : FnOk P w K mg base CX0 3 a.f_Ar a.fd_Ar ["_law_purse_here", "_law_n", "_law_radix"] (sp_k65_figures K a.c) := by
  refine T.F_Ar.ok sc_Ar (fun vs H Q E h => ?_) (fun cdv A outer s H vs Q E hr h => ⟨_, dv_Ar T hr, b_k65_figures T.PM T.PB h⟩)
  first | exact Pu.lif_len n_k65_figures h | exact Pu.lifS_len n_k65_figures h | exact Pu.lifL_len n_k65_figures h | exact Pu.lifO_len n_k65_figures h
theorem dv_Aa {cdv : Value} {A : Around} {outer : List Env} {s : Shared} {H : Hp} {E : XK} (T : Txt w K mg a) (hr : Room 2 (A.deeper (envOfC "_law_written" (defScope s_Aa) s.heap.objs.size a.f_Aa cdv))) :
    PSs (cxOf CX0 P w K mg base N_Aa "_law_written" (defScope s_Aa) a.f_Aa cdv A outer s H E).nox (defBody s_Aa) (t_k65_written K a.c) := by
  unfold t_k65_written
  exact (pss_cons (ps_set (i := 5) sc_Aa.nd rfl (by first | exact Or.inl rfl | exact Or.inr rfl) pe_str)
      (pss_cons (ps_for PassesOwn.never rfl (pi_enumA (by rfl) T.n_enumerate (pa_cons (pv 2) pa_nil)) (pg_tup rfl (pgs_cons (pg_name (i := 6) sc_Aa.nd rfl (by first | exact Or.inl rfl | exact Or.inr rfl)) (pgs_cons (pg_name (i := 7) sc_Aa.nd rfl (by first | exact Or.inl rfl | exact Or.inr rfl)) pgs_nil))) (pss_cons (ps_set (i := 8) sc_Aa.nd rfl (by first | exact Or.inl rfl | exact Or.inr rfl) (pe_ix ix_str pe_str (pv 7) (fun _ _ => rfl)))
      (pss_cons (ps_set (i := 8) sc_Aa.nd rfl (by first | exact Or.inl rfl | exact Or.inr rfl) (pe_ifExp (pt_cmpR op_eq (pe_call (ok_C T) (hr.mono (by decide)) rfl T.m_C T.F_C.kp T.b_C .nil pass0 (pa_cons (pv 0) (pa_cons pe_int pa_nil))) pe_int (nomark _)) (pe_upperA (pv 8)) (pv 8)))
      (pss_one (ps_set (i := 5) sc_Aa.nd rfl (by first | exact Or.inl rfl | exact Or.inr rfl) (pe_op o_addS (pe_op o_addS (pv 5) (pe_ifExp (PW.pt (pw_and (pt_cmpR o_gt (pv 6) pe_int (nomark _)) (pw_and1 (pt_cmpR op_eq (pe_call (ok_C T) (hr.mono (by decide)) rfl T.m_C T.F_C.kp T.b_C .nil pass0 (pa_cons (pv 0) (pa_cons pe_int pa_nil))) pe_int (nomark _))))) pe_str pe_str)) (pv 8)))))))
      (pss_cons (ps_if (pt_val (pv 4)) (pss_cons (ps_set (i := 9) sc_Aa.nd rfl (by first | exact Or.inl rfl | exact Or.inr rfl) (pe_dget (hu_of hr) (pe_disp (pps_cons pe_int pe_str (pps_cons pe_int pe_str (pps_cons pe_int pe_str pps_nil))) (by rfl) (by rfl) (fun z => by cases z) (by decide)) (pv 3) (fun _ _ => rfl)))
      (pss_cons (ps_set (i := 9) sc_Aa.nd rfl (by first | exact Or.inl rfl | exact Or.inr rfl) (pe_ifExp (pt_cmpR op_eq (pe_call (ok_C T) (hr.mono (by decide)) rfl T.m_C T.F_C.kp T.b_C .nil pass0 (pa_cons (pv 0) (pa_cons pe_int pa_nil))) pe_int (nomark _)) (pe_upperA (pv 9)) (pv 9)))
      (pss_one (ps_set (i := 5) sc_Aa.nd rfl (by first | exact Or.inl rfl | exact Or.inr rfl) (pe_op o_addS (pe_op o_addS (pe_op o_addS pe_str (pv 9)) (pe_call (ok_I T) (hr.mono (by decide)) rfl T.m_I T.F_I.kp T.b_I .nil pass0 (pa_cons (pv 0) (pa_cons (pe_lst (pa_cons pe_str (pa_cons pe_str (pa_cons pe_str pa_nil)))) pa_nil)))) (pv 5)))))) pss_nil)
      (pss_cons (ps_set (i := 5) sc_Aa.nd rfl (by first | exact Or.inl rfl | exact Or.inr rfl) (pe_op o_addS (pe_ifExp (pt_cmpR o_lt (pv 1) pe_int (nomark _)) pe_str (pe_call (ok_I T) (hr.mono (by decide)) rfl T.m_I T.F_I.kp T.b_I .nil pass0 (pa_cons (pv 0) (pa_cons (pe_lst (pa_cons pe_str (pa_cons pe_str (pa_cons pe_str pa_nil)))) pa_nil)))) (pv 5)))
      (pss_cons (ps_setLc (i := 10) (own := [("_law_turn", 11)]) (g := (gName 11)) rfl sc_Aa.nd rfl rfl (sw_true rfl rfl rfl (by decide +kernel)) (pi_range1 rfl T.n_range (pa_cons pe_int pa_nil)) (blkOk_by (own := [("_law_turn", 11)]) (N := N_Aa) (sc := defScope s_Aa) (by decide +kernel)) (fun _ _ _ _ _ => (pg_name (i := 11) sc_Aa.nd rfl (by first | exact Or.inl rfl | exact Or.inr rfl))) (fun _ _ _ _ _ => pts_nil) (fun _ _ _ _ _ => (pe_call (ok_I T) (hr.mono (by decide)) rfl T.m_I T.F_I.kp T.b_I .nil pass0 (pa_cons (pv 0) (pa_cons (pe_lst (pa_cons pe_str (pa_cons pe_str (pa_cons pe_str (pa_cons pe_str (pa_cons pe_str (pa_cons pe_str pa_nil))))))) pa_nil)))))
      (pss_one (ps_ret (pe_op o_addS (pe_op o_addS (pe_ix ix_list (pv 10) pe_int (fun _ _ => rfl)) (pv 5)) (pe_ix ix_list (pv 10) pe_int (fun _ _ => rfl))))))))))
theorem ok_Aa (T : Txt w K mg a) : FnOk P w K mg base CX0 3 a.f_Aa a.fd_Aa ["_law_purse_here", "_law_side", "_law_figures_here", "_law_radix", "_law_has_prefix"] (sp_k65_written K a.c) := by
  refine T.F_Aa.ok sc_Aa (fun vs H Q E h => ?_) (fun cdv A outer s H vs Q E hr h => ⟨_, dv_Aa T hr, b_k65_written T.PM T.PB h⟩)
  first | exact Pu.lif_len n_k65_written h | exact Pu.lifS_len n_k65_written h | exact Pu.lifL_len n_k65_written h | exact Pu.lifO_len n_k65_written h
theorem dv_V {cdv : Value} {A : Around} {outer : List Env} {s : Shared} {H : Hp} {E : XK} (T : Txt w K mg a) (hr : Room 3 (A.deeper (envOfC "big_of" (defScope s_V) s.heap.objs.size a.f_V cdv))) :
    PSs (cxOf CX0 P w K mg base N_V "big_of" (defScope s_V) a.f_V cdv A outer s H E).nox (defBody s_V) (t_V K a.c) := by
  unfold t_V
  exact (pss_one (ps_ret (pe_call (ok_E T) (hr.mono (by decide)) rfl T.m_E T.F_E.kp T.b_E .nil pass0 (pa_cons (pv 0) (pa_cons (pe_ifExp (pt_cmpR o_lt (pv 1) pe_int (nomark _)) (pe_un o_neg pe_int) pe_int) (pa_cons (pe_call (ok_Z T) (hr.mono (by decide)) rfl T.m_Z T.F_Z.kp T.b_Z .nil pass0 (pa_cons (pv 0) (pa_cons (pe_callB c_abs (by rfl) T.n_abs (by decide +kernel) (pa_cons (pv 1) pa_nil)) pa_nil))) pa_nil))))))
theorem ok_V (T : Txt w K mg a) : FnOk P w K mg base CX0 4 a.f_V a.fd_V ["machine", "n"] (sp_V K a.c) := by
  refine T.F_V.ok sc_V (fun vs H Q E h => ?_) (fun cdv A outer s H vs Q E hr h => ⟨_, dv_V T hr, b_V T.PM h⟩)
  (repeat (obtain ⟨_, h⟩ := h)); all_goals (subst_vars; rfl)
theorem dv_Al {cdv : Value} {A : Around} {outer : List Env} {s : Shared} {H : Hp} {E : XK} (T : Txt w K mg a) (hr : Room 3 (A.deeper (envOfC "Reader.read" (defScope s_Al) s.heap.objs.size a.f_Al cdv))) :
    PSs (cxOf CX0 P w K mg base N_Al "Reader.read" (defScope s_Al) a.f_Al cdv A outer s H E).nox (defBody s_Al) (t_rd_read K a.c) := by
  unfold t_rd_read
  exact (pss_cons (ps_expr (pe_meth0 (pv 0) T.cl_Reader T.me_Ai (ok_Ai T) (hr.mono (by decide)) T.b_Ai .nil pass0))
      (pss_cons (ps_set (i := 1) sc_Al.nd rfl (by first | exact Or.inl rfl | exact Or.inr rfl) (pe_ifExp (pt_cmpR op_eq (pe_meth0 (pv 0) T.cl_Reader T.me_K (ok_K T) (hr.mono (by decide)) T.b_K .nil pass0) pe_str (nomark _)) (pe_un o_neg pe_int) pe_int))
      (pss_cons (ps_expr (pe_meth (pv 0) T.cl_Reader T.me_Ac (ok_Ac T) (hr.mono (by decide)) T.b_Ac .nil pass0 (pa_cons pe_str pa_nil)))
      (pss_cons (ps_expr (pe_meth0 (pv 0) T.cl_Reader T.me_Ak (ok_Ak T) (hr.mono (by decide)) T.b_Ak .nil pass0))
      (pss_cons (ps_expr (pe_meth0 (pv 0) T.cl_Reader T.me_Ag (ok_Ag T) (hr.mono (by decide)) T.b_Ag .nil pass0))
      (pss_cons (ps_while PassesOwn.never (PW.pt (pw_or (pt_val (pe_meth (pv 0) T.cl_Reader T.me_Ac (ok_Ac T) (hr.mono (by decide)) T.b_Ac .nil pass0 (pa_cons pe_str pa_nil))) (pw_or1 (pt_cmp (pc_notN (pe_meth0 (pv 0) T.cl_Reader T.me_Af (ok_Af T) (hr.mono (by decide)) T.b_Af .nil pass0)))))) (pss_one (ps_expr (pe_meth0 (pv 0) T.cl_Reader T.me_Ag (ok_Ag T) (hr.mono (by decide)) T.b_Ag .nil pass0))))
      (pss_cons (ps_expr (pe_meth0 (pv 0) T.cl_Reader T.me_Ai (ok_Ai T) (hr.mono (by decide)) T.b_Ai .nil pass0))
      (pss_cons (ps_if (pt_cmpR op_ne (pe_meth0 (pv 0) T.cl_Reader T.me_K (ok_K T) (hr.mono (by decide)) T.b_K .nil pass0) pe_str (nomark _)) (pss_one ps_never) pss_nil)
      (pss_one (ps_ret (pv 1)))))))))))
theorem ok_Al (T : Txt w K mg a) : FnOk P w K mg base CX0 4 a.f_Al a.fd_Al ["self"] (sp_rd_read K a.c) := by
  refine T.F_Al.ok sc_Al (fun vs H Q E h => ?_) (fun cdv A outer s H vs Q E hr h => ⟨_, dv_Al T hr, b_rd_read T.PM T.PB h⟩)
  first | exact Pu.lif_len n_rd_read h | exact Pu.lifS_len n_rd_read h | exact Pu.lifL_len n_rd_read h | exact Pu.lifO_len n_rd_read h
theorem dv_F {cdv : Value} {A : Around} {outer : List Env} {s : Shared} {H : Hp} {E : XK} (T : Txt w K mg a) (hr : Room 3 (A.deeper (envOfC "read_figures" (defScope s_F) s.heap.objs.size a.f_F cdv))) :
    PSs (cxOf CX0 P w K mg base N_F "read_figures" (defScope s_F) a.f_F cdv A outer s H E).nox (defBody s_F) (t_t_figures K a.c) := by
  unfold t_t_figures
  exact (pss_cons (ps_expr (pe_meth (pv 0) T.cl_Machine T.me_U (ok_U T) (hr.mono (by decide)) T.b_U .nil pass0 (pa_cons pe_str (pa_cons (pe_callB c_len (by rfl) T.n_len (by decide +kernel) (pa_cons (pv 1) pa_nil)) (pa_cons (pv 2) pa_nil)))))
      (pss_cons (ps_if (pt_inC rfl T.g_Aw (pv 2) (by rfl)) (pss_one (ps_ret (pe_call (ok_E T) (hr.mono (by decide)) rfl T.m_E T.F_E.kp T.b_E .nil pass0 (pa_cons (pv 0) (pa_cons (pv 3) (pa_cons (pe_call (ok_Am T) (hr.mono (by decide)) rfl T.m_Am T.F_Am.kp T.b_Am .nil pass0 (pa_cons (pv 0) (pa_cons (pv 1) (pa_cons (pv 2) pa_nil)))) pa_nil)))))) pss_nil)
      (pss_one (ps_ret (pe_call (ok_E T) (hr.mono (by decide)) rfl T.m_E T.F_E.kp T.b_E .nil pass0 (pa_cons (pv 0) (pa_cons (pv 3) (pa_cons (pe_call (ok_Ad T) (hr.mono (by decide)) rfl T.m_Ad T.F_Ad.kp T.b_Ad .nil pass0 (pa_cons (pv 0) (pa_cons (pv 1) (pa_cons (pv 2) pa_nil)))) pa_nil))))))))
theorem ok_F (T : Txt w K mg a) : FnOk P w K mg base CX0 4 a.f_F a.fd_F ["machine", "figures", "base", "side"] (sp_t_figures K a.c) := by
  refine FunD.ok T.F_F sc_F (fun vs H Q E h => ?_) (fun cdv A outer s H vs Q E hr h => ⟨_, (dv_F T hr).nox, b_t_figures T.PM T.PB h⟩)
  first | exact Pu.lif_len n_t_figures h | exact Pu.lifS_len n_t_figures h | exact Pu.lifL_len n_t_figures h | exact Pu.lifO_len n_t_figures h
theorem dv_big {cdv : Value} {A : Around} {outer : List Env} {s : Shared} {H : Hp} {E : XK} (T : Txt w K mg a) (hr : Room 4 (A.deeper (envOfC "big" (defScope s_big) s.heap.objs.size a.f_big cdv))) :
    PSs (cxOf CX0 P w K mg base N_big "big" (defScope s_big) a.f_big cdv A outer s H E).nox (defBody s_big) (t_big K a.c) := by
  unfold t_big
  exact (pss_cons (ps_expr (pe_call (ok_L T) (hr.mono (by decide)) rfl T.m_L T.F_L.kp T.b_L .nil pass0 (pa_cons (pv 0) pa_nil)))
      (pss_cons (ps_expr (pe_call (ok_Ae T) (hr.mono (by decide)) rfl T.m_Ae T.F_Ae.kp T.b_Ae .nil pass0 (pa_cons pe_str (pa_cons (pv 1) pa_nil))))
      (pss_one (ps_ret (pe_call (ok_V T) (hr.mono (by decide)) rfl T.m_V T.F_V.kp T.b_V .nil pass0 (pa_cons (pv 0) (pa_cons (pv 1) pa_nil)))))))
theorem ok_big (T : Txt w K mg a) : FnOk P w K mg base CX0 5 a.f_big a.fd_big ["machine", "n"] (sp_big K a.c) := by
  refine T.F_big.ok sc_big (fun vs H Q E h => ?_) (fun cdv A outer s H vs Q E hr h => ⟨_, dv_big T hr, b_big h⟩)
  (repeat (obtain ⟨_, h⟩ := h)); all_goals (subst_vars; rfl)
theorem dv_B {cdv : Value} {A : Around} {outer : List Env} {s : Shared} {H : Hp} {E : XK} (T : Txt w K mg a) (hr : Room 4 (A.deeper (envOfC "read_text" (defScope s_B) s.heap.objs.size a.f_B cdv))) :
    PSs (cxOf CX0 P w K mg base N_B "read_text" (defScope s_B) a.f_B cdv A outer s H E).nox (defBody s_B) (t_t_read K a.c) := by
  unfold t_t_read
  exact (pss_cons (ps_expr (pe_call (ok_L T) (hr.mono (by decide)) rfl T.m_L T.F_L.kp T.b_L .nil pass0 (pa_cons (pv 0) pa_nil)))
      (pss_cons (ps_if (pt_not (pt_val (pe_callB call_isi (by rfl) T.n_isinstance (by decide +kernel) (pa_cons (pv 1) (pa_cons (pe_bltn (v := .ty "str") (by rfl) T.n_str (by decide +kernel) rfl) pa_nil))))) (pss_one ps_never) pss_nil)
      (pss_cons (ps_if (PW.pt (pw_or (pt_not (pt_val (pe_call (ok_H T) (hr.mono (by decide)) rfl T.m_H T.F_H.kp T.b_H .nil pass0 (pa_cons (pv 2) (pa_cons pe_int (pa_cons (C8.pe_gc rfl T.g_A4) pa_nil)))))) (pw_or1 (pt_cmpR op_eq (pv 2) pe_int (nomark _))))) (pss_one ps_never) pss_nil)
      (pss_cons (ps_expr (pe_call (ok_Au T) (hr.mono (by decide)) rfl T.m_Au T.F_Au.kp T.b_Au .nil pass0 (pa_cons (pv 3) pa_nil)))
      (pss_cons (ps_set (i := 4) sc_B.nd rfl (by first | exact Or.inl rfl | exact Or.inr rfl) (pe_make T.mk_Reader (ok_As T) (hr.mono (by decide)) rfl T.g_Reader T.b_As .nil pass0 (pa_cons (pv 1) (pa_cons (pv 2) pa_nil))))
      (pss_cons (ps_set (i := 5) sc_B.nd rfl (by first | exact Or.inl rfl | exact Or.inr rfl) (pe_meth0 (pv 4) T.cl_Reader T.me_Al (ok_Al T) (hr.mono (by decide)) T.b_Al .nil pass0))
      (pss_cons (ps_if (PW.pt (pw_and (pt_notInC rfl T.g_Aw (pe_fld (pv 4) rfl) (by rfl)) (pw_and1 (pt_chain o_lt o_lt pe_int (pv 3) (pe_callB c_len (by rfl) T.n_len (by decide +kernel) (pa_cons (pe_fld (pv 4) rfl) pa_nil)))))) (pss_one ps_never) pss_nil)
      (pss_one (ps_ret (pe_call (ok_F T) (hr.mono (by decide)) rfl T.m_F T.F_F.kp T.b_F .nil pass0 (pa_cons (pv 0) (pa_cons (pe_fld (pv 4) rfl) (pa_cons (pe_fld (pv 4) rfl) (pa_cons (pv 5) pa_nil))))))))))))))
theorem ok_B (T : Txt w K mg a) : FnOk P w K mg base CX0 5 a.f_B a.fd_B ["machine", "text", "base", "most"] (sp_t_read K a.c) := by
  refine FunD.ok T.F_B sc_B (fun vs H Q E h => ?_) (fun cdv A outer s H vs Q E hr h => ⟨_, (dv_B T hr).nox, b_t_read T.PM T.PB T.KS3 h⟩)
  first | exact Pu.lif_len n_t_read h | exact Pu.lifS_len n_t_read h | exact Pu.lifL_len n_t_read h | exact Pu.lifO_len n_t_read h
theorem dv_Ab {cdv : Value} {A : Around} {outer : List Env} {s : Shared} {H : Hp} {E : XK} (T : Txt w K mg a) (hr : Room 5 (A.deeper (envOfC "_law_right" (defScope s_Ab) s.heap.objs.size a.f_Ab cdv))) :
    PSs (cxOf CX0 P w K mg base N_Ab "_law_right" (defScope s_Ab) a.f_Ab cdv A outer s H E).nox (defBody s_Ab) (t_k65_right K a.c) := by
  unfold t_k65_right
  exact (pss_cons (ps_par rfl sc_Ab.nd rfl rfl (by decide) rfl rfl (pa_cons (pe_call (ok_I T) (hr.mono (by decide)) rfl T.m_I T.F_I.kp T.b_I .nil pass0 (pa_cons (pv 0) (pa_cons (pe_lst (pa_cons pe_int (pa_cons pe_int (pa_cons pe_int (pa_cons pe_int (pa_cons (pe_op o_add pe_int (pe_call (ok_C T) (hr.mono (by decide)) rfl T.m_C T.F_C.kp T.b_C .nil pass0 (pa_cons (pv 0) (pa_cons pe_int pa_nil)))) pa_nil)))))) pa_nil))) (pa_cons (pe_op o_add pe_int (pe_call (ok_C T) (hr.mono (by decide)) rfl T.m_C T.F_C.kp T.b_C .nil pass0 (pa_cons (pv 0) (pa_cons pe_int pa_nil)))) pa_nil)) (by rfl))
      (pss_cons (ps_set (i := 2) sc_Ab.nd rfl (by first | exact Or.inl rfl | exact Or.inr rfl) (pe_call (ok_I T) (hr.mono (by decide)) rfl T.m_I T.F_I.kp T.b_I .nil pass0 (pa_cons (pv 0) (pa_cons (pe_lst (pa_cons (pv 2) (pa_cons (pv 2) (pa_cons pe_int (pa_cons pe_int (pa_cons pe_int (pa_cons pe_int (pa_cons pe_int (pa_cons pe_int pa_nil))))))))) pa_nil))))
      (pss_cons (ps_set (i := 3) sc_Ab.nd rfl (by first | exact Or.inl rfl | exact Or.inr rfl) (pe_call (ok_An T) (hr.mono (by decide)) rfl T.m_An T.F_An.kp T.b_An .nil pass0 (pa_cons (pv 1) (pa_cons (pe_call (ok_Ap T) (hr.mono (by decide)) rfl T.m_Ap T.F_Ap.kp T.b_Ap .nil pass0 (pa_cons (pv 0) (pa_cons (pv 1) (pa_cons (pe_call (ok_C T) (hr.mono (by decide)) rfl T.m_C T.F_C.kp T.b_C .nil pass0 (pa_cons (pv 0) (pa_cons (pe_call (ok_I T) (hr.mono (by decide)) rfl T.m_I T.F_I.kp T.b_I .nil pass0 (pa_cons (pv 0) (pa_cons (pe_lst (pa_cons pe_int (pa_cons pe_int pa_nil))) pa_nil))) pa_nil))) pa_nil)))) pa_nil))))
      (pss_cons (ps_par3 rfl sc_Ab.nd rfl rfl rfl (by decide) (by decide) (by decide) rfl rfl rfl (pa_cons (pe_make T.mk_Machine (ok_A T) (hr.mono (by decide)) rfl T.g_Machine T.bd_Machine_init_1.2 T.bd_Machine_init_1.1 pass0 (pa_cons (pv 1) pa_nil)) (pa_cons (pe_call (ok_I T) (hr.mono (by decide)) rfl T.m_I T.F_I.kp T.b_I .nil pass0 (pa_cons (pv 0) (pa_cons (pe_lst (pa_cons pe_int (pa_cons (pe_un o_neg pe_int) pa_nil))) pa_nil))) (pa_cons (pe_call (ok_Ar T) (hr.mono (by decide)) rfl T.m_Ar T.F_Ar.kp T.b_Ar .nil pass0 (pa_cons (pv 0) (pa_cons (pv 3) (pa_cons (pv 2) pa_nil)))) pa_nil))) (by rfl))
      (pss_cons (ps_set (i := 6) sc_Ab.nd rfl (by first | exact Or.inl rfl | exact Or.inr rfl) (pe_ifExp (pt_cmpR (op_neD hr.units) (pv 6) (pe_lst pa_nil) (nomark _)) (pv 6) (pe_lst (pa_cons pe_int pa_nil))))
      (pss_cons (ps_set (i := 7) sc_Ab.nd rfl (by first | exact Or.inl rfl | exact Or.inr rfl) (pe_and (pe_cmpR op_in_seq (pv 2) (pe_tup (pa_cons pe_int (pa_cons pe_int (pa_cons pe_int pa_nil)))) (by rfl)) (pe_one (pe_cmpR op_eq (pe_call (ok_C T) (hr.mono (by decide)) rfl T.m_C T.F_C.kp T.b_C .nil pass0 (pa_cons (pv 0) (pa_cons pe_int pa_nil))) pe_int (nomark _)))))
      (pss_cons (ps_set (i := 8) sc_Ab.nd rfl (by first | exact Or.inl rfl | exact Or.inr rfl) (pe_call (ok_Aa T) (hr.mono (by decide)) rfl T.m_Aa T.F_Aa.kp T.b_Aa .nil pass0 (pa_cons (pv 0) (pa_cons (pv 5) (pa_cons (pv 6) (pa_cons (pv 2) (pa_cons (pv 7) pa_nil)))))))
      (pss_cons (ps_set (i := 9) sc_Ab.nd rfl (by first | exact Or.inl rfl | exact Or.inr rfl) (pe_and (pe_cmpR op_eq (pv 2) pe_int (nomark _)) (pe_one (pe_or (pe_cmpR o_gt (pe_ix ix_list (pv 6) pe_int (fun _ _ => rfl)) pe_int (nomark _)) (pe_one (pe_cmpR op_eq (pv 3) pe_int (nomark _)))))))
      (pss_cons (ps_set (i := 10) sc_Ab.nd rfl (by first | exact Or.inl rfl | exact Or.inr rfl) (pe_ifExp (PW.pt (pw_and (PW.pt (pw_or (pt_val (pv 7)) (pw_or1 (pt_val (pv 9))))) (pw_and1 (pt_cmpR op_eq (pe_call (ok_C T) (hr.mono (by decide)) rfl T.m_C T.F_C.kp T.b_C .nil pass0 (pa_cons (pv 0) (pa_cons pe_int pa_nil))) pe_int (nomark _))))) pe_int (pv 2)))
      (pss_cons (ps_if (pt_not (pt_val (pe_call (ok_At T) (hr.mono (by decide)) rfl T.m_At T.F_At.kp T.b_At .nil pass0 (pa_cons (pe_call (ok_B T) (hr.mono (by decide)) rfl T.m_B T.F_B.kp T.bk_read_text_3.2 T.bk_read_text_3.1 pass0 (pa_cons (pv 4) (pa_cons (pv 8) (pa_cons (pv 10) pa_nil)))) (pa_cons (pv 1) (pa_cons (pe_op o_mul (pv 5) (pv 3)) pa_nil)))))) (pss_one (ps_ret pe_bl)) pss_nil)
      (pss_cons (ps_if (pt_cmpR op_in_seq (pv 2) (pe_tup (pa_cons pe_int (pa_cons pe_int (pa_cons pe_int (pa_cons pe_int (pa_cons pe_int pa_nil)))))) (by rfl)) (pss_cons (ps_set (i := 11) sc_Ab.nd rfl (by first | exact Or.inl rfl | exact Or.inr rfl) (pe_dget (hu_of hr) (pe_disp (pps_cons pe_int pe_int (pps_cons pe_int pe_int (pps_cons pe_int pe_int (pps_cons pe_int pe_int (pps_cons pe_int pe_int pps_nil))))) (by rfl) (by rfl) (fun z => by cases z) (by decide)) (pv 2) (fun _ _ => rfl)))
      (pss_one (ps_par rfl sc_Ab.nd rfl rfl (by decide) rfl rfl (pa_cons pe_str (pa_cons (pe_op o_div (pe_op o_sub (pe_op o_add (pe_op o_mul (pe_callB c_len (by rfl) T.n_len (by decide +kernel) (pa_cons (pv 6) pa_nil)) (pv 11)) (pv 1)) pe_int) (pv 1)) pa_nil)) (by rfl)))) (pss_one (ps_par rfl sc_Ab.nd rfl rfl (by decide) rfl rfl (pa_cons pe_str (pa_cons (pe_ix ix_tup (pe_call (ok_Aj T) (hr.mono (by decide)) rfl T.m_Aj T.F_Aj.kp T.b_Aj .nil pass0 (pa_cons (pv 1) (pa_cons (pv 2) (pa_cons (pv 6) pa_nil)))) pe_int (fun _ _ => rfl)) pa_nil)) (by rfl))))
      (pss_cons (ps_set (i := 14) sc_Ab.nd rfl (by first | exact Or.inl rfl | exact Or.inr rfl) (pe_tup (pa_cons (pe_ifExp (pt_cmpR o_gt (pv 13) pe_int (nomark _)) (pe_disp (pps_cons (pv 12) (pv 13) pps_nil) (by rfl) (by rfl) (fun z => by cases z) (by decide)) pe_dnewK) (pa_cons (pe_lst (pa_cons (pe_tup (pa_cons pe_str (pa_cons (pe_callB c_len (by rfl) T.n_len (by decide +kernel) (pa_cons (pv 6) pa_nil)) (pa_cons (pv 2) pa_nil)))) pa_nil)) pa_nil))))
      (pss_cons (ps_if (pt_cmpR (o_neTD (room66 hr)) (pe_call (ok_W T) (hr.mono (by decide)) rfl T.m_W T.F_W.kp T.b_W .nil pass0 (pa_cons (pv 4) pa_nil)) (pv 14) (nomark _)) (pss_one (ps_ret pe_bl)) pss_nil)
      (pss_cons (ps_set (i := 15) sc_Ab.nd rfl (by first | exact Or.inl rfl | exact Or.inr rfl) (pe_kw (ok_B T) (hr.mono (by decide)) rfl T.m_B T.F_B.kp T.kb_read_text_base_text_machine_most pass0 (pk_cons (pv 10) (pk_cons (pv 8) (pk_cons (pv 4) (pk_cons pe_int pk_nil))))))
      (pss_one (ps_ret (pe_and (pe_cmpR (o_ownEq (ok_S T) (hr.mono (by decide)) T.eq_Big T.ie_Big T.b_S pass0) (pv 15) (pe_call (ok_big T) (hr.mono (by decide)) rfl T.m_big T.F_big.kp T.b_big .nil pass0 (pa_cons (pv 4) (pa_cons (pe_op o_mul (pv 5) (pv 3)) pa_nil))) (nomark _)) (pe_one (pe_cmpR (o_eqTD (room66 hr)) (pe_call (ok_W T) (hr.mono (by decide)) rfl T.m_W T.F_W.kp T.b_W .nil pass0 (pa_cons (pv 4) pa_nil)) (pv 14) (nomark _))))))))))))))))))))
theorem ok_Ab (T : Txt w K mg a) : FnOk P w K mg base CX0 6 a.f_Ab a.fd_Ab ["_law_purse_here"] (sp_k65_right K a.c) := by
  refine T.F_Ab.ok sc_Ab (fun vs H Q E h => ?_) (fun cdv A outer s H vs Q E hr h => ⟨_, dv_Ab T hr, b_k65_right T.PM T.PB h⟩)
  first | exact Pu.lif_len n_k65_right h | exact Pu.lifS_len n_k65_right h | exact Pu.lifL_len n_k65_right h | exact Pu.lifO_len n_k65_right h
theorem dv_law {cdv : Value} {A : Around} {outer : List Env} {s : Shared} {H : Hp} {E : XK} (T : Txt w K mg a) (hr : Room 6 (A.deeper (envOfC "law" (defScope s_law) s.heap.objs.size a.f_law cdv))) :
    PSs (cxOf CX0 P w K mg base N_law "law" (defScope s_law) a.f_law cdv A outer s H E).nox (defBody s_law) (t_k65_law K a.c) := by
  unfold t_k65_law
  exact (pss_cons (ps_for PassesOwn.never rfl (pi_list (pe_op op_cat (pe_slice sl_list (pv 0) po_none (po_some pe_int)) (pe_lst (pa_cons pe_int pa_nil)))) (pg_name (i := 1) sc_law.nd rfl (by first | exact Or.inl rfl | exact Or.inr rfl)) (pss_cons (ps_set (i := 2) sc_law.nd rfl (by first | exact Or.inl rfl | exact Or.inr rfl) (pe_call (ok_Av T) (hr.mono (by decide)) rfl T.m_Av T.F_Av.kp T.b_Av .nil pass0 (pa_cons (pv 1) pa_nil)))
      (pss_one (ps_for PassesOwn.never rfl (pi_range1 rfl T.n_range (pa_cons pe_int pa_nil)) (pg_name (i := 3) sc_law.nd rfl (by first | exact Or.inl rfl | exact Or.inr rfl)) (pss_one (ps_if (pt_not (pt_val (pe_call (ok_Ab T) (hr.mono (by decide)) rfl T.m_Ab T.F_Ab.kp T.b_Ab .nil pass0 (pa_cons (pv 2) pa_nil)))) (pss_one (ps_ret pe_bl)) pss_nil))))))
      (pss_cons (ps_set (i := 4) sc_law.nd rfl (by first | exact Or.inl rfl | exact Or.inr rfl) (pe_make T.mk_Machine (ok_A T) (hr.mono (by decide)) rfl T.g_Machine T.b_A .nil pass0 (pa_cons pe_int (pa_cons pe_int pa_nil))))
      (pss_cons (ps_set (i := 5) sc_law.nd rfl (by first | exact Or.inl rfl | exact Or.inr rfl) (pe_lst (pa_cons (pe_call (ok_B T) (hr.mono (by decide)) rfl T.m_B T.F_B.kp T.bk_read_text_2.2 T.bk_read_text_2.1 pass0 (pa_cons (pv 4) (pa_cons pe_str pa_nil))) (pa_cons (pe_call (ok_B T) (hr.mono (by decide)) rfl T.m_B T.F_B.kp T.bk_read_text_3.2 T.bk_read_text_3.1 pass0 (pa_cons (pv 4) (pa_cons pe_str (pa_cons pe_int pa_nil)))) pa_nil))))
      (pss_cons (ps_if (pt_cmpR (o_neTD (room66 hr)) (pe_call (ok_W T) (hr.mono (by decide)) rfl T.m_W T.F_W.kp T.b_W .nil pass0 (pa_cons (pv 4) pa_nil)) (pe_tup (pa_cons (pe_disp (pps_cons pe_str pe_int (pps_cons pe_str pe_int pps_nil)) (by rfl) (by rfl) (fun z => by cases z) (by decide)) (pa_cons (pe_lst (pa_cons (pe_tup (pa_cons pe_str (pa_cons pe_int (pa_cons pe_int pa_nil)))) (pa_cons (pe_tup (pa_cons pe_str (pa_cons pe_int (pa_cons pe_int pa_nil)))) pa_nil))) pa_nil))) (nomark _)) (pss_one (ps_ret pe_bl)) pss_nil)
      (pss_one (ps_ret (pe_cmpR (op_eqD hr.units) (pe_lc (own := [("_law_one", 6)]) (g := (gName 6)) rfl sc_law.nd (pi_list (pv 5)) (blkOk_by (own := [("_law_one", 6)]) (N := N_law) (sc := defScope s_law) (by decide +kernel)) (fun _ _ _ _ _ => (pg_name (i := 6) sc_law.nd rfl (by first | exact Or.inl rfl | exact Or.inr rfl))) (fun _ _ _ _ _ => pts_nil) (fun _ _ _ _ _ => (pe_call (ok_T T) (hr.mono (by decide)) rfl T.m_T T.F_T.kp T.b_T .nil pass0 (pa_cons (pv 6) pa_nil)))) (pe_lst (pa_cons (pe_un o_neg pe_int) (pa_cons (pe_un o_neg pe_int) pa_nil))) (nomark _))))))))
theorem ok_law (T : Txt w K mg a) : FnOk P w K mg base CX0 7 a.f_law a.fd_law ["_law_script"] (sp_k65_law K a.c) := by
  refine T.F_law.ok sc_law (fun vs H Q E h => ?_) (fun cdv A outer s H vs Q E hr h => ⟨_, dv_law T hr, b_k65_law T.PM T.PB T.NT h⟩)
  (repeat (obtain ⟨_, h⟩ := h)); all_goals (subst_vars; rfl)
end
theorem all_mk {l : PySem.W.OpenLaw} {w : World} {K : PySem.W.Frag} {h : Heap} {mg : Str → Option Value} {fa : Addr} {CMachine : Addr} {CBig : Addr} {CReader : Addr} {aBITS_OF_BASES : Addr} {esBITS_OF_BASES : Array DictEntry} {nBITS_OF_BASES : Nat} {t_A0 : Tok} {t_A1 : Tok} {t_A2 : Tok} {t_A3 : Tok} {t_A4 : Tok} {t_A5 : Tok} {t_A6 : Tok} {t_A7 : Tok} {aPREFIXES : Addr} {esPREFIXES : Array DictEntry} {nPREFIXES : Nat} {aWORDS : Addr} {oW1 : Option Addr} {itW : Array Value} {nW : Nat} {slW : Array (Option Value)} {f_G : Addr} {oc_G kV_G dc_G pm_G cd_G ct_G : Value} {od_G an_G : Option Addr} {sl_G : Array (Option Value)} {f_H : Addr} {oc_H kV_H dc_H pm_H cd_H ct_H : Value} {od_H an_H : Option Addr} {sl_H : Array (Option Value)} {f_Ae : Addr} {oc_Ae kV_Ae dc_Ae pm_Ae cd_Ae ct_Ae : Value} {od_Ae an_Ae : Option Addr} {sl_Ae : Array (Option Value)} {f_A : Addr} {oc_A kV_A dc_A pm_A cd_A ct_A : Value} {od_A an_A : Option Addr} {sl_A : Array (Option Value)} {dT_A : Addr} {ocT_A : Value} {odT_A : Option Addr} {nT_A : Nat} {slT_A : Array (Option Value)} {itT_A : Array Value} {f_J : Addr} {oc_J kV_J dc_J pm_J cd_J ct_J : Value} {od_J an_J : Option Addr} {sl_J : Array (Option Value)} {f_N : Addr} {oc_N kV_N dc_N pm_N cd_N ct_N : Value} {od_N an_N : Option Addr} {sl_N : Array (Option Value)} {f_M : Addr} {oc_M kV_M dc_M pm_M cd_M ct_M : Value} {od_M an_M : Option Addr} {sl_M : Array (Option Value)} {f_D : Addr} {oc_D kV_D dc_D pm_D cd_D ct_D : Value} {od_D an_D : Option Addr} {sl_D : Array (Option Value)} {f_U : Addr} {oc_U kV_U dc_U pm_U cd_U ct_U : Value} {od_U an_U : Option Addr} {sl_U : Array (Option Value)} {f_L : Addr} {oc_L kV_L dc_L pm_L cd_L ct_L : Value} {od_L an_L : Option Addr} {sl_L : Array (Option Value)} {f_X : Addr} {oc_X kV_X dc_X pm_X cd_X ct_X : Value} {od_X an_X : Option Addr} {sl_X : Array (Option Value)} {f_S : Addr} {oc_S kV_S dc_S pm_S cd_S ct_S : Value} {od_S an_S : Option Addr} {sl_S : Array (Option Value)} {f_O : Addr} {oc_O kV_O dc_O pm_O cd_O ct_O : Value} {od_O an_O : Option Addr} {sl_O : Array (Option Value)} {f_Q : Addr} {oc_Q kV_Q dc_Q pm_Q cd_Q ct_Q : Value} {od_Q an_Q : Option Addr} {sl_Q : Array (Option Value)} {f_P : Addr} {oc_P kV_P dc_P pm_P cd_P ct_P : Value} {od_P an_P : Option Addr} {sl_P : Array (Option Value)} {f_E : Addr} {oc_E kV_E dc_E pm_E cd_E ct_E : Value} {od_E an_E : Option Addr} {sl_E : Array (Option Value)} {f_Z : Addr} {oc_Z kV_Z dc_Z pm_Z cd_Z ct_Z : Value} {od_Z an_Z : Option Addr} {sl_Z : Array (Option Value)} {f_V : Addr} {oc_V kV_V dc_V pm_V cd_V ct_V : Value} {od_V an_V : Option Addr} {sl_V : Array (Option Value)} {f_R : Addr} {oc_R kV_R dc_R pm_R cd_R ct_R : Value} {od_R an_R : Option Addr} {sl_R : Array (Option Value)} {f_Y : Addr} {oc_Y kV_Y dc_Y pm_Y cd_Y ct_Y : Value} {od_Y an_Y : Option Addr} {sl_Y : Array (Option Value)} {f_big : Addr} {oc_big kV_big dc_big pm_big cd_big ct_big : Value} {od_big an_big : Option Addr} {sl_big : Array (Option Value)} {f_T : Addr} {oc_T kV_T dc_T pm_T cd_T ct_T : Value} {od_T an_T : Option Addr} {sl_plain : Array (Option Value)} {f_Au : Addr} {oc_Au kV_Au dc_Au pm_Au cd_Au ct_Au : Value} {od_Au an_Au : Option Addr} {sl_Au : Array (Option Value)} {f_Ao : Addr} {oc_Ao kV_Ao dc_Ao pm_Ao cd_Ao ct_Ao : Value} {od_Ao an_Ao : Option Addr} {sl_Ao : Array (Option Value)} {f_As : Addr} {oc_As kV_As dc_As pm_As cd_As ct_As : Value} {od_As an_As : Option Addr} {sl_As : Array (Option Value)} {f_K : Addr} {oc_K kV_K dc_K pm_K cd_K ct_K : Value} {od_K an_K : Option Addr} {sl_K : Array (Option Value)} {f_Ai : Addr} {oc_Ai kV_Ai dc_Ai pm_Ai cd_Ai ct_Ai : Value} {od_Ai an_Ai : Option Addr} {sl_Ai : Array (Option Value)} {f_Ac : Addr} {oc_Ac kV_Ac dc_Ac pm_Ac cd_Ac ct_Ac : Value} {od_Ac an_Ac : Option Addr} {sl_Ac : Array (Option Value)} {f_Ak : Addr} {oc_Ak kV_Ak dc_Ak pm_Ak cd_Ak ct_Ak : Value} {od_Ak an_Ak : Option Addr} {sl_Ak : Array (Option Value)} {f_Af : Addr} {oc_Af kV_Af dc_Af pm_Af cd_Af ct_Af : Value} {od_Af an_Af : Option Addr} {sl_Af : Array (Option Value)} {f_Ag : Addr} {oc_Ag kV_Ag dc_Ag pm_Ag cd_Ag ct_Ag : Value} {od_Ag an_Ag : Option Addr} {sl_Ag : Array (Option Value)} {f_Al : Addr} {oc_Al kV_Al dc_Al pm_Al cd_Al ct_Al : Value} {od_Al an_Al : Option Addr} {sl_Al : Array (Option Value)} {f_Ad : Addr} {oc_Ad kV_Ad dc_Ad pm_Ad cd_Ad ct_Ad : Value} {od_Ad an_Ad : Option Addr} {sl_Ad : Array (Option Value)} {f_Am : Addr} {oc_Am kV_Am dc_Am pm_Am cd_Am ct_Am : Value} {od_Am an_Am : Option Addr} {sl_Am : Array (Option Value)} {f_F : Addr} {oc_F kV_F dc_F pm_F cd_F ct_F : Value} {od_F an_F : Option Addr} {sl_F : Array (Option Value)} {dT_F : Addr} {ocT_F : Value} {odT_F : Option Addr} {nT_F : Nat} {slT_F : Array (Option Value)} {itT_F : Array Value} {f_B : Addr} {oc_B dc_B pm_B cd_B ct_B : Value} {od_B an_B : Option Addr} {sl_B : Array (Option Value)} {kD_B : Addr} {dT_B : Addr} {ocT_B : Value} {odT_B : Option Addr} {nT_B : Nat} {slT_B : Array (Option Value)} {itT_B : Array Value} {kt_read_text_most : Tok} {f_Av : Addr} {oc_Av kV_Av dc_Av pm_Av cd_Av ct_Av : Value} {od_Av an_Av : Option Addr} {sl_Av : Array (Option Value)} {f_C : Addr} {oc_C kV_C dc_C pm_C cd_C ct_C : Value} {od_C an_C : Option Addr} {sl_C : Array (Option Value)} {f_I : Addr} {oc_I kV_I dc_I pm_I cd_I ct_I : Value} {od_I an_I : Option Addr} {sl_I : Array (Option Value)} {f_Ap : Addr} {oc_Ap kV_Ap dc_Ap pm_Ap cd_Ap ct_Ap : Value} {od_Ap an_Ap : Option Addr} {sl_Ap : Array (Option Value)} {f_An : Addr} {oc_An kV_An dc_An pm_An cd_An ct_An : Value} {od_An an_An : Option Addr} {sl_An : Array (Option Value)} {f_Ah : Addr} {oc_Ah kV_Ah dc_Ah pm_Ah cd_Ah ct_Ah : Value} {od_Ah an_Ah : Option Addr} {sl_Ah : Array (Option Value)} {f_At : Addr} {oc_At kV_At dc_At pm_At cd_At ct_At : Value} {od_At an_At : Option Addr} {sl_At : Array (Option Value)} {f_W : Addr} {oc_W kV_W dc_W pm_W cd_W ct_W : Value} {od_W an_W : Option Addr} {sl_W : Array (Option Value)} {f_Aq : Addr} {oc_Aq kV_Aq dc_Aq pm_Aq cd_Aq ct_Aq : Value} {od_Aq an_Aq : Option Addr} {sl_Aq : Array (Option Value)} {f_Aj : Addr} {oc_Aj kV_Aj dc_Aj pm_Aj cd_Aj ct_Aj : Value} {od_Aj an_Aj : Option Addr} {sl_Aj : Array (Option Value)} {f_Ar : Addr} {oc_Ar kV_Ar dc_Ar pm_Ar cd_Ar ct_Ar : Value} {od_Ar an_Ar : Option Addr} {sl_Ar : Array (Option Value)} {f_Aa : Addr} {oc_Aa kV_Aa dc_Aa pm_Aa cd_Aa ct_Aa : Value} {od_Aa an_Aa : Option Addr} {sl_Aa : Array (Option Value)} {f_Ab : Addr} {oc_Ab kV_Ab dc_Ab pm_Ab cd_Ab ct_Ab : Value} {od_Ab an_Ab : Option Addr} {sl_Ab : Array (Option Value)} {f_law : Addr} {oc_law kV_law dc_law pm_law cd_law ct_law : Value} {od_law an_law : Option Addr} {sl_law : Array (Option Value)} (X : K.In h) (G : h.Ns mainGlobals mg) (hfa : mg "law" = some (.ref fa))
    (aMachine : PySem.W.nsIn K mainGlobals "Machine" = some (some (.ref CMachine)))
    (pgMachine : PySem.W.plainGet K CMachine Str.empty = true)
    (hdMachine : PySem.W.hasDictIn K CMachine = true)
    (poMachine : PySem.W.plainOver K CMachine = true)
    (saMachine : PySem.W.findIn K (.ref CMachine) "__setattr__" = some (some (.builtin "object.__setattr__")))
    (mkMachine : PySem.W.makesIn K CMachine = true)
    (kcMachine : PySem.W.keepIn K (.ref CMachine) = true)
    (haMachine : PySem.W.findIn K (.ref CMachine) "__class__" = some (some (.builtin "object.__class__")))
    (hmMachine : PySem.W.mroIn K CMachine (.type "object") = some true)
    (nfMachine_entered : PySem.W.findIn K (.ref CMachine) "entered" = some none)
    (nfMachine_counts : PySem.W.findIn K (.ref CMachine) "counts" = some none)
    (nfMachine_base : PySem.W.findIn K (.ref CMachine) "base" = some none)
    (nfMachine_limit_of_rows : PySem.W.findIn K (.ref CMachine) "limit_of_rows" = some none)
    (nfMachine_width : PySem.W.findIn K (.ref CMachine) "width" = some none)
    (aBig : PySem.W.nsIn K mainGlobals "Big" = some (some (.ref CBig)))
    (pgBig : PySem.W.plainGet K CBig Str.empty = true)
    (hdBig : PySem.W.hasDictIn K CBig = true)
    (poBig : PySem.W.plainOver K CBig = true)
    (saBig : PySem.W.findIn K (.ref CBig) "__setattr__" = some (some (.builtin "object.__setattr__")))
    (mkBig : PySem.W.makesIn K CBig = true)
    (kcBig : PySem.W.keepIn K (.ref CBig) = true)
    (haBig : PySem.W.findIn K (.ref CBig) "__class__" = some (some (.builtin "object.__class__")))
    (hmBig : PySem.W.mroIn K CBig (.type "object") = some true)
    (nfBig_row : PySem.W.findIn K (.ref CBig) "row" = some none)
    (nfBig_side : PySem.W.findIn K (.ref CBig) "side" = some none)
    (nfBig_width : PySem.W.findIn K (.ref CBig) "width" = some none)
    (aReader : PySem.W.nsIn K mainGlobals "Reader" = some (some (.ref CReader)))
    (pgReader : PySem.W.plainGet K CReader Str.empty = true)
    (hdReader : PySem.W.hasDictIn K CReader = true)
    (poReader : PySem.W.plainOver K CReader = true)
    (saReader : PySem.W.findIn K (.ref CReader) "__setattr__" = some (some (.builtin "object.__setattr__")))
    (mkReader : PySem.W.makesIn K CReader = true)
    (kcReader : PySem.W.keepIn K (.ref CReader) = true)
    (haReader : PySem.W.findIn K (.ref CReader) "__class__" = some (some (.builtin "object.__class__")))
    (hmReader : PySem.W.mroIn K CReader (.type "object") = some true)
    (nfReader_whole : PySem.W.findIn K (.ref CReader) "whole" = some none)
    (nfReader_at : PySem.W.findIn K (.ref CReader) "at" = some none)
    (nfReader_base : PySem.W.findIn K (.ref CReader) "base" = some none)
    (nfReader_has_zeros_alone : PySem.W.findIn K (.ref CReader) "has_zeros_alone" = some none)
    (nfReader_figures : PySem.W.findIn K (.ref CReader) "figures" = some none)
    (hsp : PySem.W.specialIn K (.builtin "object.__class__") "__get__" = some (some (.builtin "getset_descriptor.__get__")))
    (htk : PySem.W.takesIn K (.builtin "object.__class__") = some true)
    (g_Aw : PySem.W.nsIn K mainGlobals "BITS_OF_BASES" = some (some (.ref aBITS_OF_BASES)))
    (l_Aw : K.lookup aBITS_OF_BASES = some ⟨.type "dict", none, .dict esBITS_OF_BASES nBITS_OF_BASES, #[]⟩)
    (w_Aw : (aBITS_OF_BASES == sysModules) = false)
    (v_Aw : IntEs esBITS_OF_BASES.toList [(2, 1), (4, 2), (8, 3), (16, 4), (32, 5)])
    (g_A0 : PySem.W.nsIn K mainGlobals "BLANKS" = some (some (.str " \t\n" t_A0)))
    (g_A1 : PySem.W.nsIn K mainGlobals "FIGURES" = some (some (.str "0123456789abcdefghijklmnopqrstuvwxyz" t_A1)))
    (g_A2 : PySem.W.nsIn K mainGlobals "LEAST_BITS" = some (some (.int 8 t_A2)))
    (g_A3 : PySem.W.nsIn K mainGlobals "LEAST_LIMIT" = some (some (.int 640 t_A3)))
    (g_A4 : PySem.W.nsIn K mainGlobals "MOST_BASE" = some (some (.int 36 t_A4)))
    (g_A5 : PySem.W.nsIn K mainGlobals "MOST_BITS" = some (some (.int 30 t_A5)))
    (g_A6 : PySem.W.nsIn K mainGlobals "MOST_CUTOFF" = some (some (.int 1000 t_A6)))
    (g_A7 : PySem.W.nsIn K mainGlobals "MOST_WALK" = some (some (.int 1000 t_A7)))
    (g_Ax : PySem.W.nsIn K mainGlobals "PREFIXES" = some (some (.ref aPREFIXES)))
    (l_Ax : K.lookup aPREFIXES = some ⟨.type "dict", none, .dict esPREFIXES nPREFIXES, #[]⟩)
    (w_Ax : (aPREFIXES == sysModules) = false)
    (v_Ax : StrEs w.params esPREFIXES.toList [("x", 16), ("o", 8), ("b", 2)])
    (g_Ay : PySem.W.nsIn K mainGlobals "WORDS" = some (some (.ref aWORDS)))
    (l_Ay : K.lookup aWORDS = some ⟨.type "tuple", oW1, .seq itW nW, slW⟩)
    (z_Ay : itW.size ≤ sizeLine)
    (v_Ay : Vals (words.map V.str) itW.toList)
    (a_G : PySem.W.nsIn K mainGlobals "is_integer" = some (some (.ref f_G)))
    (l_G : K.lookup f_G = some ⟨oc_G, od_G, .func (PySem.W.fnOf "is_integer" "is_integer" (defArgs s_G) (defBody s_G) (defScope s_G) .none kV_G dc_G pm_G an_G cd_G ct_G), sl_G⟩)
    (c_G : PySem.W.codeIn K cd_G "is_integer" = true)
    (k_G : PySem.W.keepIn K (.ref f_G) = true)
    (a_H : PySem.W.nsIn K mainGlobals "is_between" = some (some (.ref f_H)))
    (l_H : K.lookup f_H = some ⟨oc_H, od_H, .func (PySem.W.fnOf "is_between" "is_between" (defArgs s_H) (defBody s_H) (defScope s_H) .none kV_H dc_H pm_H an_H cd_H ct_H), sl_H⟩)
    (c_H : PySem.W.codeIn K cd_H "is_between" = true)
    (k_H : PySem.W.keepIn K (.ref f_H) = true)
    (a_Ae : PySem.W.nsIn K mainGlobals "check_integer" = some (some (.ref f_Ae)))
    (l_Ae : K.lookup f_Ae = some ⟨oc_Ae, od_Ae, .func (PySem.W.fnOf "check_integer" "check_integer" (defArgs s_Ae) (defBody s_Ae) (defScope s_Ae) .none kV_Ae dc_Ae pm_Ae an_Ae cd_Ae ct_Ae), sl_Ae⟩)
    (c_Ae : PySem.W.codeIn K cd_Ae "check_integer" = true)
    (k_Ae : PySem.W.keepIn K (.ref f_Ae) = true)
    (a_A : PySem.W.findIn K (.ref CMachine) "__init__" = some (some (.ref f_A)))
    (i_A : PySem.W.isFn K (.ref f_A) = true)
    (l_A : K.lookup f_A = some ⟨oc_A, od_A, .func (PySem.W.fnOf "__init__" "Machine.__init__" (defArgs s_A) (defBody s_A) (defScope s_A) (.ref dT_A) kV_A dc_A pm_A an_A cd_A ct_A), sl_A⟩)
    (c_A : PySem.W.codeIn K cd_A "Machine.__init__" = true)
    (k_A : PySem.W.keepIn K (.ref f_A) = true)
    (lT_A : K.lookup dT_A = some ⟨ocT_A, odT_A, .seq itT_A nT_A, slT_A⟩)
    (vT_A : Vals [(.int 30), (.int 70)] itT_A.toList)
    (a_J : PySem.W.findIn K (.ref CMachine) "tally" = some (some (.ref f_J)))
    (i_J : PySem.W.isFn K (.ref f_J) = true)
    (l_J : K.lookup f_J = some ⟨oc_J, od_J, .func (PySem.W.fnOf "tally" "Machine.tally" (defArgs s_J) (defBody s_J) (defScope s_J) .none kV_J dc_J pm_J an_J cd_J ct_J), sl_J⟩)
    (c_J : PySem.W.codeIn K cd_J "Machine.tally" = true)
    (k_J : PySem.W.keepIn K (.ref f_J) = true)
    (a_N : PySem.W.findIn K (.ref CMachine) "walk" = some (some (.ref f_N)))
    (i_N : PySem.W.isFn K (.ref f_N) = true)
    (l_N : K.lookup f_N = some ⟨oc_N, od_N, .func (PySem.W.fnOf "walk" "Machine.walk" (defArgs s_N) (defBody s_N) (defScope s_N) .none kV_N dc_N pm_N an_N cd_N ct_N), sl_N⟩)
    (c_N : PySem.W.codeIn K cd_N "Machine.walk" = true)
    (k_N : PySem.W.keepIn K (.ref f_N) = true)
    (a_M : PySem.W.findIn K (.ref CMachine) "reset" = some (some (.ref f_M)))
    (i_M : PySem.W.isFn K (.ref f_M) = true)
    (l_M : K.lookup f_M = some ⟨oc_M, od_M, .func (PySem.W.fnOf "reset" "Machine.reset" (defArgs s_M) (defBody s_M) (defScope s_M) .none kV_M dc_M pm_M an_M cd_M ct_M), sl_M⟩)
    (c_M : PySem.W.codeIn K cd_M "Machine.reset" = true)
    (k_M : PySem.W.keepIn K (.ref f_M) = true)
    (a_D : PySem.W.findIn K (.ref CMachine) "count" = some (some (.ref f_D)))
    (i_D : PySem.W.isFn K (.ref f_D) = true)
    (l_D : K.lookup f_D = some ⟨oc_D, od_D, .func (PySem.W.fnOf "count" "Machine.count" (defArgs s_D) (defBody s_D) (defScope s_D) .none kV_D dc_D pm_D an_D cd_D ct_D), sl_D⟩)
    (c_D : PySem.W.codeIn K cd_D "Machine.count" = true)
    (k_D : PySem.W.keepIn K (.ref f_D) = true)
    (a_U : PySem.W.findIn K (.ref CMachine) "enter" = some (some (.ref f_U)))
    (i_U : PySem.W.isFn K (.ref f_U) = true)
    (l_U : K.lookup f_U = some ⟨oc_U, od_U, .func (PySem.W.fnOf "enter" "Machine.enter" (defArgs s_U) (defBody s_U) (defScope s_U) .none kV_U dc_U pm_U an_U cd_U ct_U), sl_U⟩)
    (c_U : PySem.W.codeIn K cd_U "Machine.enter" = true)
    (k_U : PySem.W.keepIn K (.ref f_U) = true)
    (a_L : PySem.W.nsIn K mainGlobals "check_machine" = some (some (.ref f_L)))
    (l_L : K.lookup f_L = some ⟨oc_L, od_L, .func (PySem.W.fnOf "check_machine" "check_machine" (defArgs s_L) (defBody s_L) (defScope s_L) .none kV_L dc_L pm_L an_L cd_L ct_L), sl_L⟩)
    (c_L : PySem.W.codeIn K cd_L "check_machine" = true)
    (k_L : PySem.W.keepIn K (.ref f_L) = true)
    (a_X : PySem.W.findIn K (.ref CBig) "__init__" = some (some (.ref f_X)))
    (i_X : PySem.W.isFn K (.ref f_X) = true)
    (l_X : K.lookup f_X = some ⟨oc_X, od_X, .func (PySem.W.fnOf "__init__" "Big.__init__" (defArgs s_X) (defBody s_X) (defScope s_X) .none kV_X dc_X pm_X an_X cd_X ct_X), sl_X⟩)
    (c_X : PySem.W.codeIn K cd_X "Big.__init__" = true)
    (k_X : PySem.W.keepIn K (.ref f_X) = true)
    (a_S : PySem.W.findIn K (.ref CBig) "__eq__" = some (some (.ref f_S)))
    (i_S : PySem.W.isFn K (.ref f_S) = true)
    (l_S : K.lookup f_S = some ⟨oc_S, od_S, .func (PySem.W.fnOf "__eq__" "Big.__eq__" (defArgs s_S) (defBody s_S) (defScope s_S) .none kV_S dc_S pm_S an_S cd_S ct_S), sl_S⟩)
    (c_S : PySem.W.codeIn K cd_S "Big.__eq__" = true)
    (k_S : PySem.W.keepIn K (.ref f_S) = true)
    (a_O : PySem.W.findIn K (.ref CBig) "sign" = some (some (.ref f_O)))
    (i_O : PySem.W.isFn K (.ref f_O) = true)
    (l_O : K.lookup f_O = some ⟨oc_O, od_O, .func (PySem.W.fnOf "sign" "Big.sign" (defArgs s_O) (defBody s_O) (defScope s_O) .none kV_O dc_O pm_O an_O cd_O ct_O), sl_O⟩)
    (c_O : PySem.W.codeIn K cd_O "Big.sign" = true)
    (k_O : PySem.W.keepIn K (.ref f_O) = true)
    (a_Q : PySem.W.findIn K (.ref CBig) "digits" = some (some (.ref f_Q)))
    (i_Q : PySem.W.isFn K (.ref f_Q) = true)
    (l_Q : K.lookup f_Q = some ⟨oc_Q, od_Q, .func (PySem.W.fnOf "digits" "Big.digits" (defArgs s_Q) (defBody s_Q) (defScope s_Q) .none kV_Q dc_Q pm_Q an_Q cd_Q ct_Q), sl_Q⟩)
    (c_Q : PySem.W.codeIn K cd_Q "Big.digits" = true)
    (k_Q : PySem.W.keepIn K (.ref f_Q) = true)
    (a_P : PySem.W.findIn K (.ref CBig) "bits" = some (some (.ref f_P)))
    (i_P : PySem.W.isFn K (.ref f_P) = true)
    (l_P : K.lookup f_P = some ⟨oc_P, od_P, .func (PySem.W.fnOf "bits" "Big.bits" (defArgs s_P) (defBody s_P) (defScope s_P) .none kV_P dc_P pm_P an_P cd_P ct_P), sl_P⟩)
    (c_P : PySem.W.codeIn K cd_P "Big.bits" = true)
    (k_P : PySem.W.keepIn K (.ref f_P) = true)
    (a_E : PySem.W.nsIn K mainGlobals "made" = some (some (.ref f_E)))
    (l_E : K.lookup f_E = some ⟨oc_E, od_E, .func (PySem.W.fnOf "made" "made" (defArgs s_E) (defBody s_E) (defScope s_E) .none kV_E dc_E pm_E an_E cd_E ct_E), sl_E⟩)
    (c_E : PySem.W.codeIn K cd_E "made" = true)
    (k_made : PySem.W.keepIn K (.ref f_E) = true)
    (a_Z : PySem.W.nsIn K mainGlobals "digits_of" = some (some (.ref f_Z)))
    (l_Z : K.lookup f_Z = some ⟨oc_Z, od_Z, .func (PySem.W.fnOf "digits_of" "digits_of" (defArgs s_Z) (defBody s_Z) (defScope s_Z) .none kV_Z dc_Z pm_Z an_Z cd_Z ct_Z), sl_Z⟩)
    (c_Z : PySem.W.codeIn K cd_Z "digits_of" = true)
    (k_Z : PySem.W.keepIn K (.ref f_Z) = true)
    (a_V : PySem.W.nsIn K mainGlobals "big_of" = some (some (.ref f_V)))
    (l_V : K.lookup f_V = some ⟨oc_V, od_V, .func (PySem.W.fnOf "big_of" "big_of" (defArgs s_V) (defBody s_V) (defScope s_V) .none kV_V dc_V pm_V an_V cd_V ct_V), sl_V⟩)
    (c_V : PySem.W.codeIn K cd_V "big_of" = true)
    (k_V : PySem.W.keepIn K (.ref f_V) = true)
    (a_R : PySem.W.nsIn K mainGlobals "value_of" = some (some (.ref f_R)))
    (l_R : K.lookup f_R = some ⟨oc_R, od_R, .func (PySem.W.fnOf "value_of" "value_of" (defArgs s_R) (defBody s_R) (defScope s_R) .none kV_R dc_R pm_R an_R cd_R ct_R), sl_R⟩)
    (c_R : PySem.W.codeIn K cd_R "value_of" = true)
    (k_R : PySem.W.keepIn K (.ref f_R) = true)
    (a_Y : PySem.W.nsIn K mainGlobals "check_any" = some (some (.ref f_Y)))
    (l_Y : K.lookup f_Y = some ⟨oc_Y, od_Y, .func (PySem.W.fnOf "check_any" "check_any" (defArgs s_Y) (defBody s_Y) (defScope s_Y) .none kV_Y dc_Y pm_Y an_Y cd_Y ct_Y), sl_Y⟩)
    (c_Y : PySem.W.codeIn K cd_Y "check_any" = true)
    (k_Y : PySem.W.keepIn K (.ref f_Y) = true)
    (a_big : PySem.W.nsIn K mainGlobals "big" = some (some (.ref f_big)))
    (l_big : K.lookup f_big = some ⟨oc_big, od_big, .func (PySem.W.fnOf "big" "big" (defArgs s_big) (defBody s_big) (defScope s_big) .none kV_big dc_big pm_big an_big cd_big ct_big), sl_big⟩)
    (c_big : PySem.W.codeIn K cd_big "big" = true)
    (k_big : PySem.W.keepIn K (.ref f_big) = true)
    (a_T : PySem.W.nsIn K mainGlobals "plain" = some (some (.ref f_T)))
    (l_T : K.lookup f_T = some ⟨oc_T, od_T, .func (PySem.W.fnOf "plain" "plain" (defArgs s_T) (defBody s_T) (defScope s_T) .none kV_T dc_T pm_T an_T cd_T ct_T), sl_plain⟩)
    (c_T : PySem.W.codeIn K cd_T "plain" = true)
    (k_T : PySem.W.keepIn K (.ref f_T) = true)
    (a_Au : PySem.W.nsIn K mainGlobals "check_most" = some (some (.ref f_Au)))
    (l_Au : K.lookup f_Au = some ⟨oc_Au, od_Au, .func (PySem.W.fnOf "check_most" "check_most" (defArgs s_Au) (defBody s_Au) (defScope s_Au) .none kV_Au dc_Au pm_Au an_Au cd_Au ct_Au), sl_Au⟩)
    (c_Au : PySem.W.codeIn K cd_Au "check_most" = true)
    (k_Au : PySem.W.keepIn K (.ref f_Au) = true)
    (a_Ao : PySem.W.nsIn K mainGlobals "group" = some (some (.ref f_Ao)))
    (l_Ao : K.lookup f_Ao = some ⟨oc_Ao, od_Ao, .func (PySem.W.fnOf "group" "group" (defArgs s_Ao) (defBody s_Ao) (defScope s_Ao) .none kV_Ao dc_Ao pm_Ao an_Ao cd_Ao ct_Ao), sl_Ao⟩)
    (c_Ao : PySem.W.codeIn K cd_Ao "group" = true)
    (k_Ao : PySem.W.keepIn K (.ref f_Ao) = true)
    (a_As : PySem.W.findIn K (.ref CReader) "__init__" = some (some (.ref f_As)))
    (i_As : PySem.W.isFn K (.ref f_As) = true)
    (l_As : K.lookup f_As = some ⟨oc_As, od_As, .func (PySem.W.fnOf "__init__" "Reader.__init__" (defArgs s_As) (defBody s_As) (defScope s_As) .none kV_As dc_As pm_As an_As cd_As ct_As), sl_As⟩)
    (c_As : PySem.W.codeIn K cd_As "Reader.__init__" = true)
    (k_As : PySem.W.keepIn K (.ref f_As) = true)
    (a_K : PySem.W.findIn K (.ref CReader) "next_sign" = some (some (.ref f_K)))
    (i_K : PySem.W.isFn K (.ref f_K) = true)
    (l_K : K.lookup f_K = some ⟨oc_K, od_K, .func (PySem.W.fnOf "next_sign" "Reader.next_sign" (defArgs s_K) (defBody s_K) (defScope s_K) .none kV_K dc_K pm_K an_K cd_K ct_K), sl_K⟩)
    (c_K : PySem.W.codeIn K cd_K "Reader.next_sign" = true)
    (k_K : PySem.W.keepIn K (.ref f_K) = true)
    (a_Ai : PySem.W.findIn K (.ref CReader) "skip_blanks" = some (some (.ref f_Ai)))
    (i_Ai : PySem.W.isFn K (.ref f_Ai) = true)
    (l_Ai : K.lookup f_Ai = some ⟨oc_Ai, od_Ai, .func (PySem.W.fnOf "skip_blanks" "Reader.skip_blanks" (defArgs s_Ai) (defBody s_Ai) (defScope s_Ai) .none kV_Ai dc_Ai pm_Ai an_Ai cd_Ai ct_Ai), sl_Ai⟩)
    (c_Ai : PySem.W.codeIn K cd_Ai "Reader.skip_blanks" = true)
    (k_Ai : PySem.W.keepIn K (.ref f_Ai) = true)
    (a_Ac : PySem.W.findIn K (.ref CReader) "go_over" = some (some (.ref f_Ac)))
    (i_Ac : PySem.W.isFn K (.ref f_Ac) = true)
    (l_Ac : K.lookup f_Ac = some ⟨oc_Ac, od_Ac, .func (PySem.W.fnOf "go_over" "Reader.go_over" (defArgs s_Ac) (defBody s_Ac) (defScope s_Ac) .none kV_Ac dc_Ac pm_Ac an_Ac cd_Ac ct_Ac), sl_Ac⟩)
    (c_Ac : PySem.W.codeIn K cd_Ac "Reader.go_over" = true)
    (k_Ac : PySem.W.keepIn K (.ref f_Ac) = true)
    (a_Ak : PySem.W.findIn K (.ref CReader) "find_base" = some (some (.ref f_Ak)))
    (i_Ak : PySem.W.isFn K (.ref f_Ak) = true)
    (l_Ak : K.lookup f_Ak = some ⟨oc_Ak, od_Ak, .func (PySem.W.fnOf "find_base" "Reader.find_base" (defArgs s_Ak) (defBody s_Ak) (defScope s_Ak) .none kV_Ak dc_Ak pm_Ak an_Ak cd_Ak ct_Ak), sl_Ak⟩)
    (c_Ak : PySem.W.codeIn K cd_Ak "Reader.find_base" = true)
    (k_Ak : PySem.W.keepIn K (.ref f_Ak) = true)
    (a_Af : PySem.W.findIn K (.ref CReader) "value_here" = some (some (.ref f_Af)))
    (i_Af : PySem.W.isFn K (.ref f_Af) = true)
    (l_Af : K.lookup f_Af = some ⟨oc_Af, od_Af, .func (PySem.W.fnOf "value_here" "Reader.value_here" (defArgs s_Af) (defBody s_Af) (defScope s_Af) .none kV_Af dc_Af pm_Af an_Af cd_Af ct_Af), sl_Af⟩)
    (c_Af : PySem.W.codeIn K cd_Af "Reader.value_here" = true)
    (k_Af : PySem.W.keepIn K (.ref f_Af) = true)
    (a_Ag : PySem.W.findIn K (.ref CReader) "read_figure" = some (some (.ref f_Ag)))
    (i_Ag : PySem.W.isFn K (.ref f_Ag) = true)
    (l_Ag : K.lookup f_Ag = some ⟨oc_Ag, od_Ag, .func (PySem.W.fnOf "read_figure" "Reader.read_figure" (defArgs s_Ag) (defBody s_Ag) (defScope s_Ag) .none kV_Ag dc_Ag pm_Ag an_Ag cd_Ag ct_Ag), sl_Ag⟩)
    (c_Ag : PySem.W.codeIn K cd_Ag "Reader.read_figure" = true)
    (k_Ag : PySem.W.keepIn K (.ref f_Ag) = true)
    (a_Al : PySem.W.findIn K (.ref CReader) "read" = some (some (.ref f_Al)))
    (i_Al : PySem.W.isFn K (.ref f_Al) = true)
    (l_Al : K.lookup f_Al = some ⟨oc_Al, od_Al, .func (PySem.W.fnOf "read" "Reader.read" (defArgs s_Al) (defBody s_Al) (defScope s_Al) .none kV_Al dc_Al pm_Al an_Al cd_Al ct_Al), sl_Al⟩)
    (c_Al : PySem.W.codeIn K cd_Al "Reader.read" = true)
    (k_Al : PySem.W.keepIn K (.ref f_Al) = true)
    (a_Ad : PySem.W.nsIn K mainGlobals "digits_by_groups" = some (some (.ref f_Ad)))
    (l_Ad : K.lookup f_Ad = some ⟨oc_Ad, od_Ad, .func (PySem.W.fnOf "digits_by_groups" "digits_by_groups" (defArgs s_Ad) (defBody s_Ad) (defScope s_Ad) .none kV_Ad dc_Ad pm_Ad an_Ad cd_Ad ct_Ad), sl_Ad⟩)
    (c_Ad : PySem.W.codeIn K cd_Ad "digits_by_groups" = true)
    (k_Ad : PySem.W.keepIn K (.ref f_Ad) = true)
    (a_Am : PySem.W.nsIn K mainGlobals "digits_by_bits" = some (some (.ref f_Am)))
    (l_Am : K.lookup f_Am = some ⟨oc_Am, od_Am, .func (PySem.W.fnOf "digits_by_bits" "digits_by_bits" (defArgs s_Am) (defBody s_Am) (defScope s_Am) .none kV_Am dc_Am pm_Am an_Am cd_Am ct_Am), sl_Am⟩)
    (c_Am : PySem.W.codeIn K cd_Am "digits_by_bits" = true)
    (k_Am : PySem.W.keepIn K (.ref f_Am) = true)
    (a_F : PySem.W.nsIn K mainGlobals "read_figures" = some (some (.ref f_F)))
    (l_F : K.lookup f_F = some ⟨oc_F, od_F, .func (PySem.W.fnOf "read_figures" "read_figures" (defArgs s_F) (defBody s_F) (defScope s_F) (.ref dT_F) kV_F dc_F pm_F an_F cd_F ct_F), sl_F⟩)
    (c_F : PySem.W.codeIn K cd_F "read_figures" = true)
    (k_F : PySem.W.keepIn K (.ref f_F) = true)
    (lT_F : K.lookup dT_F = some ⟨ocT_F, odT_F, .seq itT_F nT_F, slT_F⟩)
    (vT_F : Vals [(.int 1)] itT_F.toList)
    (a_B : PySem.W.nsIn K mainGlobals "read_text" = some (some (.ref f_B)))
    (l_B : K.lookup f_B = some ⟨oc_B, od_B, .func (PySem.W.fnOf "read_text" "read_text" (defArgs s_B) (defBody s_B) (defScope s_B) (.ref dT_B) (.ref kD_B) dc_B pm_B an_B cd_B ct_B), sl_B⟩)
    (kd_read_text_most : PySem.W.nsIn K kD_B "most" = some (some (.int 4300 kt_read_text_most)))
    (c_B : PySem.W.codeIn K cd_B "read_text" = true)
    (k_B : PySem.W.keepIn K (.ref f_B) = true)
    (lT_B : K.lookup dT_B = some ⟨ocT_B, odT_B, .seq itT_B nT_B, slT_B⟩)
    (vT_B : Vals [(.int 10)] itT_B.toList)
    (a_Av : PySem.W.nsIn K mainGlobals "_law_purse" = some (some (.ref f_Av)))
    (l_Av : K.lookup f_Av = some ⟨oc_Av, od_Av, .func (PySem.W.fnOf "_law_purse" "_law_purse" (defArgs s_Av) (defBody s_Av) (defScope s_Av) .none kV_Av dc_Av pm_Av an_Av cd_Av ct_Av), sl_Av⟩)
    (c_Av : PySem.W.codeIn K cd_Av "_law_purse" = true)
    (k_Av : PySem.W.keepIn K (.ref f_Av) = true)
    (a_C : PySem.W.nsIn K mainGlobals "_law_coin" = some (some (.ref f_C)))
    (l_C : K.lookup f_C = some ⟨oc_C, od_C, .func (PySem.W.fnOf "_law_coin" "_law_coin" (defArgs s_C) (defBody s_C) (defScope s_C) .none kV_C dc_C pm_C an_C cd_C ct_C), sl_C⟩)
    (c_C : PySem.W.codeIn K cd_C "_law_coin" = true)
    (k_C : PySem.W.keepIn K (.ref f_C) = true)
    (a_I : PySem.W.nsIn K mainGlobals "_law_pick" = some (some (.ref f_I)))
    (l_I : K.lookup f_I = some ⟨oc_I, od_I, .func (PySem.W.fnOf "_law_pick" "_law_pick" (defArgs s_I) (defBody s_I) (defScope s_I) .none kV_I dc_I pm_I an_I cd_I ct_I), sl_I⟩)
    (c_I : PySem.W.codeIn K cd_I "_law_pick" = true)
    (k_I : PySem.W.keepIn K (.ref f_I) = true)
    (a_Ap : PySem.W.nsIn K mainGlobals "_law_row" = some (some (.ref f_Ap)))
    (l_Ap : K.lookup f_Ap = some ⟨oc_Ap, od_Ap, .func (PySem.W.fnOf "_law_row" "_law_row" (defArgs s_Ap) (defBody s_Ap) (defScope s_Ap) .none kV_Ap dc_Ap pm_Ap an_Ap cd_Ap ct_Ap), sl_Ap⟩)
    (c_Ap : PySem.W.codeIn K cd_Ap "_law_row" = true)
    (k_Ap : PySem.W.keepIn K (.ref f_Ap) = true)
    (a_An : PySem.W.nsIn K mainGlobals "_law_worth" = some (some (.ref f_An)))
    (l_An : K.lookup f_An = some ⟨oc_An, od_An, .func (PySem.W.fnOf "_law_worth" "_law_worth" (defArgs s_An) (defBody s_An) (defScope s_An) .none kV_An dc_An pm_An an_An cd_An ct_An), sl_An⟩)
    (c_An : PySem.W.codeIn K cd_An "_law_worth" = true)
    (k_An : PySem.W.keepIn K (.ref f_An) = true)
    (a_Ah : PySem.W.nsIn K mainGlobals "_law_digits" = some (some (.ref f_Ah)))
    (l_Ah : K.lookup f_Ah = some ⟨oc_Ah, od_Ah, .func (PySem.W.fnOf "_law_digits" "_law_digits" (defArgs s_Ah) (defBody s_Ah) (defScope s_Ah) .none kV_Ah dc_Ah pm_Ah an_Ah cd_Ah ct_Ah), sl_Ah⟩)
    (c_Ah : PySem.W.codeIn K cd_Ah "_law_digits" = true)
    (k_Ah : PySem.W.keepIn K (.ref f_Ah) = true)
    (a_At : PySem.W.nsIn K mainGlobals "_law_is" = some (some (.ref f_At)))
    (l_At : K.lookup f_At = some ⟨oc_At, od_At, .func (PySem.W.fnOf "_law_is" "_law_is" (defArgs s_At) (defBody s_At) (defScope s_At) .none kV_At dc_At pm_At an_At cd_At ct_At), sl_At⟩)
    (c_At : PySem.W.codeIn K cd_At "_law_is" = true)
    (k_At : PySem.W.keepIn K (.ref f_At) = true)
    (a_W : PySem.W.nsIn K mainGlobals "_law_counted" = some (some (.ref f_W)))
    (l_W : K.lookup f_W = some ⟨oc_W, od_W, .func (PySem.W.fnOf "_law_counted" "_law_counted" (defArgs s_W) (defBody s_W) (defScope s_W) .none kV_W dc_W pm_W an_W cd_W ct_W), sl_W⟩)
    (c_W : PySem.W.codeIn K cd_W "_law_counted" = true)
    (k_W : PySem.W.keepIn K (.ref f_W) = true)
    (a_Aq : PySem.W.nsIn K mainGlobals "_law_group" = some (some (.ref f_Aq)))
    (l_Aq : K.lookup f_Aq = some ⟨oc_Aq, od_Aq, .func (PySem.W.fnOf "_law_group" "_law_group" (defArgs s_Aq) (defBody s_Aq) (defScope s_Aq) .none kV_Aq dc_Aq pm_Aq an_Aq cd_Aq ct_Aq), sl_Aq⟩)
    (c_Aq : PySem.W.codeIn K cd_Aq "_law_group" = true)
    (k_Aq : PySem.W.keepIn K (.ref f_Aq) = true)
    (a_Aj : PySem.W.nsIn K mainGlobals "_law_steps_in" = some (some (.ref f_Aj)))
    (l_Aj : K.lookup f_Aj = some ⟨oc_Aj, od_Aj, .func (PySem.W.fnOf "_law_steps_in" "_law_steps_in" (defArgs s_Aj) (defBody s_Aj) (defScope s_Aj) .none kV_Aj dc_Aj pm_Aj an_Aj cd_Aj ct_Aj), sl_Aj⟩)
    (c_Aj : PySem.W.codeIn K cd_Aj "_law_steps_in" = true)
    (k_Aj : PySem.W.keepIn K (.ref f_Aj) = true)
    (a_Ar : PySem.W.nsIn K mainGlobals "_law_figures" = some (some (.ref f_Ar)))
    (l_Ar : K.lookup f_Ar = some ⟨oc_Ar, od_Ar, .func (PySem.W.fnOf "_law_figures" "_law_figures" (defArgs s_Ar) (defBody s_Ar) (defScope s_Ar) .none kV_Ar dc_Ar pm_Ar an_Ar cd_Ar ct_Ar), sl_Ar⟩)
    (c_Ar : PySem.W.codeIn K cd_Ar "_law_figures" = true)
    (k_Ar : PySem.W.keepIn K (.ref f_Ar) = true)
    (a_Aa : PySem.W.nsIn K mainGlobals "_law_written" = some (some (.ref f_Aa)))
    (l_Aa : K.lookup f_Aa = some ⟨oc_Aa, od_Aa, .func (PySem.W.fnOf "_law_written" "_law_written" (defArgs s_Aa) (defBody s_Aa) (defScope s_Aa) .none kV_Aa dc_Aa pm_Aa an_Aa cd_Aa ct_Aa), sl_Aa⟩)
    (c_Aa : PySem.W.codeIn K cd_Aa "_law_written" = true)
    (k_Aa : PySem.W.keepIn K (.ref f_Aa) = true)
    (a_Ab : PySem.W.nsIn K mainGlobals "_law_right" = some (some (.ref f_Ab)))
    (l_Ab : K.lookup f_Ab = some ⟨oc_Ab, od_Ab, .func (PySem.W.fnOf "_law_right" "_law_right" (defArgs s_Ab) (defBody s_Ab) (defScope s_Ab) .none kV_Ab dc_Ab pm_Ab an_Ab cd_Ab ct_Ab), sl_Ab⟩)
    (c_Ab : PySem.W.codeIn K cd_Ab "_law_right" = true)
    (k_Ab : PySem.W.keepIn K (.ref f_Ab) = true)
    (a_law : PySem.W.nsIn K mainGlobals "law" = some (some (.ref f_law)))
    (l_law : K.lookup f_law = some ⟨oc_law, od_law, .func (PySem.W.fnOf "law" "law" (defArgs s_law) (defBody s_law) (defScope s_law) .none kV_law dc_law pm_law an_law cd_law ct_law), sl_law⟩)
    (c_law : PySem.W.codeIn K cd_law "law" = true)
    (k_law : PySem.W.keepIn K (.ref f_law) = true)
    (z_abs : PySem.W.nsIn K mainGlobals "abs" = some none)
    (z_bool : PySem.W.nsIn K mainGlobals "bool" = some none)
    (z_dict : PySem.W.nsIn K mainGlobals "dict" = some none)
    (z_enumerate : PySem.W.nsIn K mainGlobals "enumerate" = some none)
    (z_int : PySem.W.nsIn K mainGlobals "int" = some none)
    (z_isinstance : PySem.W.nsIn K mainGlobals "isinstance" = some none)
    (z_len : PySem.W.nsIn K mainGlobals "len" = some none)
    (z_list : PySem.W.nsIn K mainGlobals "list" = some none)
    (z_max : PySem.W.nsIn K mainGlobals "max" = some none)
    (z_range : PySem.W.nsIn K mainGlobals "range" = some none)
    (z_str : PySem.W.nsIn K mainGlobals "str" = some none)
    (z_tuple : PySem.W.nsIn K mainGlobals "tuple" = some none)
    : ∃ fd : FuncData, (∀ (s : Shared) (v : Value), BindsTo s fd ⟨[v], []⟩ [("_law_script", v)]) ∧ ∀ base : Heap, K.In base → base.Ns mainGlobals mg → FnOk l.prog w K mg base CX0 7 fa fd ["_law_script"] (sp_law0 K) := by
  have e : f_law = fa := by
    have q := (PySem.W.mg_of X G a_law).symm.trans hfa
    exact Value.ref.inj (Option.some.inj q)
  subst e
  have F_G := fun_mk (st := s_G) l_G c_G k_G
  have b_G := F_G.binds (ps := ["value"]) fun _ _ _ _ _ _ us hl => match us, hl with | [_], _ => rfl
  have F_H := fun_mk (st := s_H) l_H c_H k_H
  have b_H := F_H.binds (ps := ["value", "low", "high"]) fun _ _ _ _ _ _ us hl => match us, hl with | [_, _, _], _ => rfl
  have F_Ae := fun_mk (st := s_Ae) l_Ae c_Ae k_Ae
  have b_Ae := F_Ae.binds (ps := ["argument", "value"]) fun _ _ _ _ _ _ us hl => match us, hl with | [_, _], _ => rfl
  have F_A : FunD K "__init__" "Machine.__init__" (defArgs s_A) (defBody s_A) (defScope s_A) [(.int 30), (.int 70)] [] f_A _ := ⟨⟨_, _, _, _, _, _, _, _, _, _, rfl, l_A, c_A, .inr ⟨by simp, dT_A, _, itT_A.toList, nT_A, rfl, lT_A, by simp, vT_A⟩, .inl rfl⟩, k_A⟩
  obtain ⟨dsf_A, vf_A, b_A⟩ := F_A.binds1 (ps := ["self", "bits", "cutoff"]) 3 2 (by simp) (by decide) (fun _ _ _ _ _ _ _ us its h1 h2 => match us, its, h1, h2 with | [_, _, _], [_, _], _, _ => ⟨_, rfl, rfl⟩)
  cases vf_A
  have F_J := fun_mk (st := s_J) l_J c_J k_J
  have b_J := F_J.binds (ps := ["self"]) fun _ _ _ _ _ _ us hl => match us, hl with | [_], _ => rfl
  have F_N := fun_mk (st := s_N) l_N c_N k_N
  have b_N := F_N.binds (ps := ["self"]) fun _ _ _ _ _ _ us hl => match us, hl with | [_], _ => rfl
  have F_M := fun_mk (st := s_M) l_M c_M k_M
  have b_M := F_M.binds (ps := ["self"]) fun _ _ _ _ _ _ us hl => match us, hl with | [_], _ => rfl
  have F_D := fun_mk (st := s_D) l_D c_D k_D
  have b_D := F_D.binds (ps := ["self", "word", "number"]) fun _ _ _ _ _ _ us hl => match us, hl with | [_, _, _], _ => rfl
  have F_U := fun_mk (st := s_U) l_U c_U k_U
  have b_U := F_U.binds (ps := ["self", "word", "m", "n"]) fun _ _ _ _ _ _ us hl => match us, hl with | [_, _, _, _], _ => rfl
  have F_L := fun_mk (st := s_L) l_L c_L k_L
  have b_L := F_L.binds (ps := ["value"]) fun _ _ _ _ _ _ us hl => match us, hl with | [_], _ => rfl
  have F_X := fun_mk (st := s_X) l_X c_X k_X
  have b_X := F_X.binds (ps := ["self", "width", "side", "row"]) fun _ _ _ _ _ _ us hl => match us, hl with | [_, _, _, _], _ => rfl
  have F_S := fun_mk (st := s_S) l_S c_S k_S
  have b_S := F_S.binds (ps := ["self", "other"]) fun _ _ _ _ _ _ us hl => match us, hl with | [_, _], _ => rfl
  have F_O := fun_mk (st := s_O) l_O c_O k_O
  have b_O := F_O.binds (ps := ["self"]) fun _ _ _ _ _ _ us hl => match us, hl with | [_], _ => rfl
  have F_Q := fun_mk (st := s_Q) l_Q c_Q k_Q
  have b_Q := F_Q.binds (ps := ["self"]) fun _ _ _ _ _ _ us hl => match us, hl with | [_], _ => rfl
  have F_P := fun_mk (st := s_P) l_P c_P k_P
  have b_P := F_P.binds (ps := ["self"]) fun _ _ _ _ _ _ us hl => match us, hl with | [_], _ => rfl
  have F_E := fun_mk (st := s_E) l_E c_E k_made
  have b_E := F_E.binds (ps := ["machine", "side", "digits"]) fun _ _ _ _ _ _ us hl => match us, hl with | [_, _, _], _ => rfl
  have F_Z := fun_mk (st := s_Z) l_Z c_Z k_Z
  have b_Z := F_Z.binds (ps := ["machine", "n"]) fun _ _ _ _ _ _ us hl => match us, hl with | [_, _], _ => rfl
  have F_V := fun_mk (st := s_V) l_V c_V k_V
  have b_V := F_V.binds (ps := ["machine", "n"]) fun _ _ _ _ _ _ us hl => match us, hl with | [_, _], _ => rfl
  have F_R := fun_mk (st := s_R) l_R c_R k_R
  have b_R := F_R.binds (ps := ["x"]) fun _ _ _ _ _ _ us hl => match us, hl with | [_], _ => rfl
  have F_Y := fun_mk (st := s_Y) l_Y c_Y k_Y
  have b_Y := F_Y.binds (ps := ["value"]) fun _ _ _ _ _ _ us hl => match us, hl with | [_], _ => rfl
  have F_big := fun_mk (st := s_big) l_big c_big k_big
  have b_big := F_big.binds (ps := ["machine", "n"]) fun _ _ _ _ _ _ us hl => match us, hl with | [_, _], _ => rfl
  have F_T := fun_mk (st := s_T) l_T c_T k_T
  have b_T := F_T.binds (ps := ["x"]) fun _ _ _ _ _ _ us hl => match us, hl with | [_], _ => rfl
  have F_Au := fun_mk (st := s_Au) l_Au c_Au k_Au
  have b_Au := F_Au.binds (ps := ["value"]) fun _ _ _ _ _ _ us hl => match us, hl with | [_], _ => rfl
  have F_Ao := fun_mk (st := s_Ao) l_Ao c_Ao k_Ao
  have b_Ao := F_Ao.binds (ps := ["machine", "base"]) fun _ _ _ _ _ _ us hl => match us, hl with | [_, _], _ => rfl
  have F_As := fun_mk (st := s_As) l_As c_As k_As
  have b_As := F_As.binds (ps := ["self", "text", "base"]) fun _ _ _ _ _ _ us hl => match us, hl with | [_, _, _], _ => rfl
  have F_K := fun_mk (st := s_K) l_K c_K k_K
  have b_K := F_K.binds (ps := ["self"]) fun _ _ _ _ _ _ us hl => match us, hl with | [_], _ => rfl
  have F_Ai := fun_mk (st := s_Ai) l_Ai c_Ai k_Ai
  have b_Ai := F_Ai.binds (ps := ["self"]) fun _ _ _ _ _ _ us hl => match us, hl with | [_], _ => rfl
  have F_Ac := fun_mk (st := s_Ac) l_Ac c_Ac k_Ac
  have b_Ac := F_Ac.binds (ps := ["self", "signs"]) fun _ _ _ _ _ _ us hl => match us, hl with | [_, _], _ => rfl
  have F_Ak := fun_mk (st := s_Ak) l_Ak c_Ak k_Ak
  have b_Ak := F_Ak.binds (ps := ["self"]) fun _ _ _ _ _ _ us hl => match us, hl with | [_], _ => rfl
  have F_Af := fun_mk (st := s_Af) l_Af c_Af k_Af
  have b_Af := F_Af.binds (ps := ["self"]) fun _ _ _ _ _ _ us hl => match us, hl with | [_], _ => rfl
  have F_Ag := fun_mk (st := s_Ag) l_Ag c_Ag k_Ag
  have b_Ag := F_Ag.binds (ps := ["self"]) fun _ _ _ _ _ _ us hl => match us, hl with | [_], _ => rfl
  have F_Al := fun_mk (st := s_Al) l_Al c_Al k_Al
  have b_Al := F_Al.binds (ps := ["self"]) fun _ _ _ _ _ _ us hl => match us, hl with | [_], _ => rfl
  have F_Ad := fun_mk (st := s_Ad) l_Ad c_Ad k_Ad
  have b_Ad := F_Ad.binds (ps := ["machine", "figures", "base"]) fun _ _ _ _ _ _ us hl => match us, hl with | [_, _, _], _ => rfl
  have F_Am := fun_mk (st := s_Am) l_Am c_Am k_Am
  have b_Am := F_Am.binds (ps := ["machine", "figures", "base"]) fun _ _ _ _ _ _ us hl => match us, hl with | [_, _, _], _ => rfl
  have F_F : FunD K "read_figures" "read_figures" (defArgs s_F) (defBody s_F) (defScope s_F) [(.int 1)] [] f_F _ := ⟨⟨_, _, _, _, _, _, _, _, _, _, rfl, l_F, c_F, .inr ⟨by simp, dT_F, _, itT_F.toList, nT_F, rfl, lT_F, by simp, vT_F⟩, .inl rfl⟩, k_F⟩
  obtain ⟨dsf_F, vf_F, b_F⟩ := F_F.binds1 (ps := ["machine", "figures", "base", "side"]) 4 1 (by simp) (by decide) (fun _ _ _ _ _ _ _ us its h1 h2 => match us, its, h1, h2 with | [_, _, _, _], [_], _, _ => ⟨_, rfl, rfl⟩)
  cases vf_F
  have F_B : FunD K "read_text" "read_text" (defArgs s_B) (defBody s_B) (defScope s_B) [(.int 10)] [("most", (.int 4300))] f_B _ := ⟨⟨_, _, _, _, _, _, _, _, _, _, rfl, l_B, c_B, .inr ⟨by simp, dT_B, _, itT_B.toList, nT_B, rfl, lT_B, by simp, vT_B⟩, .inr ⟨kD_B, rfl, fun q hq => by simp only [List.mem_cons, List.not_mem_nil, or_false] at hq; rcases hq with rfl; exact ⟨_, kd_read_text_most, ⟨_, rfl⟩⟩⟩⟩, k_B⟩
  have F_Av := fun_mk (st := s_Av) l_Av c_Av k_Av
  have b_Av := F_Av.binds (ps := ["_law_cell"]) fun _ _ _ _ _ _ us hl => match us, hl with | [_], _ => rfl
  have F_C := fun_mk (st := s_C) l_C c_C k_C
  have b_C := F_C.binds (ps := ["_law_purse_here", "_law_amount"]) fun _ _ _ _ _ _ us hl => match us, hl with | [_, _], _ => rfl
  have F_I := fun_mk (st := s_I) l_I c_I k_I
  have b_I := F_I.binds (ps := ["_law_purse_here", "_law_some"]) fun _ _ _ _ _ _ us hl => match us, hl with | [_, _], _ => rfl
  have F_Ap := fun_mk (st := s_Ap) l_Ap c_Ap k_Ap
  have b_Ap := F_Ap.binds (ps := ["_law_purse_here", "_law_bits", "_law_size"]) fun _ _ _ _ _ _ us hl => match us, hl with | [_, _, _], _ => rfl
  have F_An := fun_mk (st := s_An) l_An c_An k_An
  have b_An := F_An.binds (ps := ["_law_bits", "_law_row_here"]) fun _ _ _ _ _ _ us hl => match us, hl with | [_, _], _ => rfl
  have F_Ah := fun_mk (st := s_Ah) l_Ah c_Ah k_Ah
  have b_Ah := F_Ah.binds (ps := ["_law_bits", "_law_n"]) fun _ _ _ _ _ _ us hl => match us, hl with | [_, _], _ => rfl
  have F_At := fun_mk (st := s_At) l_At c_At k_At
  have b_At := F_At.binds (ps := ["_law_held", "_law_bits", "_law_n"]) fun _ _ _ _ _ _ us hl => match us, hl with | [_, _, _], _ => rfl
  have F_W := fun_mk (st := s_W) l_W c_W k_W
  have b_W := F_W.binds (ps := ["_law_engine"]) fun _ _ _ _ _ _ us hl => match us, hl with | [_], _ => rfl
  have F_Aq := fun_mk (st := s_Aq) l_Aq c_Aq k_Aq
  have b_Aq := F_Aq.binds (ps := ["_law_bits", "_law_radix"]) fun _ _ _ _ _ _ us hl => match us, hl with | [_, _], _ => rfl
  have F_Aj := fun_mk (st := s_Aj) l_Aj c_Aj k_Aj
  have b_Aj := F_Aj.binds (ps := ["_law_bits", "_law_radix", "_law_digits_so"]) fun _ _ _ _ _ _ us hl => match us, hl with | [_, _, _], _ => rfl
  have F_Ar := fun_mk (st := s_Ar) l_Ar c_Ar k_Ar
  have b_Ar := F_Ar.binds (ps := ["_law_purse_here", "_law_n", "_law_radix"]) fun _ _ _ _ _ _ us hl => match us, hl with | [_, _, _], _ => rfl
  have F_Aa := fun_mk (st := s_Aa) l_Aa c_Aa k_Aa
  have b_Aa := F_Aa.binds (ps := ["_law_purse_here", "_law_side", "_law_figures_here", "_law_radix", "_law_has_prefix"]) fun _ _ _ _ _ _ us hl => match us, hl with | [_, _, _, _, _], _ => rfl
  have F_Ab := fun_mk (st := s_Ab) l_Ab c_Ab k_Ab
  have b_Ab := F_Ab.binds (ps := ["_law_purse_here"]) fun _ _ _ _ _ _ us hl => match us, hl with | [_], _ => rfl
  have F_law := fun_mk (st := s_law) l_law c_law k_law
  have b_law := F_law.binds (ps := ["_law_script"]) fun _ _ _ _ _ _ us hl => match us, hl with | [_], _ => rfl
  obtain ⟨ds_Machine_init_1, vd_Machine_init_1, bd_Machine_init_1⟩ := F_A.binds1 (ps := ["self", "bits", "cutoff"]) 2 1 (by simp) (by decide) (fun _ _ _ _ _ _ _ us its h1 h2 => match us, its, h1, h2 with | [_, _], [_, _], _, _ => ⟨_, rfl, rfl⟩)
  obtain ⟨dk_read_text_2, vk_read_text_2, bk_read_text_2⟩ := F_B.binds (ps := ["machine", "text", "base", "most"]) 2 0 (by simp) (by decide) (fun _ _ _ _ _ _ _ us its ks h1 h2 h3 => match us, its, ks, h1, h2, h3 with | [_, _], [_], [_], _, _, _ => ⟨_, rfl, ⟨_, _, _, _, _, _, rfl, rfl, rfl⟩⟩) (by simp)
  obtain ⟨dk_read_text_3, vk_read_text_3, bk_read_text_3⟩ := F_B.binds (ps := ["machine", "text", "base", "most"]) 3 1 (by simp) (by decide) (fun _ _ _ _ _ _ _ us its ks h1 h2 h3 => match us, its, ks, h1, h2, h3 with | [_, _, _], [_], [_], _, _, _ => ⟨_, rfl, ⟨_, _, _, _, _, _, rfl, rfl, rfl⟩⟩) (by simp)
  have kb_read_text_base_text_machine_most : KB0 K _ ["machine", "text", "base", "most"] ["base", "text", "machine", "most"] (permV [2, 1, 0, 3]) (perm [2, 1, 0, 3]) := kb_ofD F_B (by simp) fun _ _ _ _ _ _ _ its ws h1 h2 => match its, ws, h1, h2 with | [_], [_, _, _, _], _, _ => ⟨_, rfl, rfl⟩
  let c : Pc := ⟨CMachine, CBig, 0, aWORDS, 0, [], [], [], [0, 0, 0, CReader, 0]⟩
  let a : Ad := ⟨c, f_G, (PySem.W.fnOf "is_integer" "is_integer" (defArgs s_G) (defBody s_G) (defScope s_G) .none kV_G dc_G pm_G an_G cd_G ct_G), f_H, (PySem.W.fnOf "is_between" "is_between" (defArgs s_H) (defBody s_H) (defScope s_H) .none kV_H dc_H pm_H an_H cd_H ct_H), f_Ae, (PySem.W.fnOf "check_integer" "check_integer" (defArgs s_Ae) (defBody s_Ae) (defScope s_Ae) .none kV_Ae dc_Ae pm_Ae an_Ae cd_Ae ct_Ae), f_A, (PySem.W.fnOf "__init__" "Machine.__init__" (defArgs s_A) (defBody s_A) (defScope s_A) (.ref dT_A) kV_A dc_A pm_A an_A cd_A ct_A), f_J, (PySem.W.fnOf "tally" "Machine.tally" (defArgs s_J) (defBody s_J) (defScope s_J) .none kV_J dc_J pm_J an_J cd_J ct_J), f_N, (PySem.W.fnOf "walk" "Machine.walk" (defArgs s_N) (defBody s_N) (defScope s_N) .none kV_N dc_N pm_N an_N cd_N ct_N), f_M, (PySem.W.fnOf "reset" "Machine.reset" (defArgs s_M) (defBody s_M) (defScope s_M) .none kV_M dc_M pm_M an_M cd_M ct_M), f_D, (PySem.W.fnOf "count" "Machine.count" (defArgs s_D) (defBody s_D) (defScope s_D) .none kV_D dc_D pm_D an_D cd_D ct_D), f_U, (PySem.W.fnOf "enter" "Machine.enter" (defArgs s_U) (defBody s_U) (defScope s_U) .none kV_U dc_U pm_U an_U cd_U ct_U), f_L, (PySem.W.fnOf "check_machine" "check_machine" (defArgs s_L) (defBody s_L) (defScope s_L) .none kV_L dc_L pm_L an_L cd_L ct_L), f_X, (PySem.W.fnOf "__init__" "Big.__init__" (defArgs s_X) (defBody s_X) (defScope s_X) .none kV_X dc_X pm_X an_X cd_X ct_X), f_S, (PySem.W.fnOf "__eq__" "Big.__eq__" (defArgs s_S) (defBody s_S) (defScope s_S) .none kV_S dc_S pm_S an_S cd_S ct_S), f_O, (PySem.W.fnOf "sign" "Big.sign" (defArgs s_O) (defBody s_O) (defScope s_O) .none kV_O dc_O pm_O an_O cd_O ct_O), f_Q, (PySem.W.fnOf "digits" "Big.digits" (defArgs s_Q) (defBody s_Q) (defScope s_Q) .none kV_Q dc_Q pm_Q an_Q cd_Q ct_Q), f_P, (PySem.W.fnOf "bits" "Big.bits" (defArgs s_P) (defBody s_P) (defScope s_P) .none kV_P dc_P pm_P an_P cd_P ct_P), f_E, (PySem.W.fnOf "made" "made" (defArgs s_E) (defBody s_E) (defScope s_E) .none kV_E dc_E pm_E an_E cd_E ct_E), f_Z, (PySem.W.fnOf "digits_of" "digits_of" (defArgs s_Z) (defBody s_Z) (defScope s_Z) .none kV_Z dc_Z pm_Z an_Z cd_Z ct_Z), f_V, (PySem.W.fnOf "big_of" "big_of" (defArgs s_V) (defBody s_V) (defScope s_V) .none kV_V dc_V pm_V an_V cd_V ct_V), f_R, (PySem.W.fnOf "value_of" "value_of" (defArgs s_R) (defBody s_R) (defScope s_R) .none kV_R dc_R pm_R an_R cd_R ct_R), f_Y, (PySem.W.fnOf "check_any" "check_any" (defArgs s_Y) (defBody s_Y) (defScope s_Y) .none kV_Y dc_Y pm_Y an_Y cd_Y ct_Y), f_big, (PySem.W.fnOf "big" "big" (defArgs s_big) (defBody s_big) (defScope s_big) .none kV_big dc_big pm_big an_big cd_big ct_big), f_T, (PySem.W.fnOf "plain" "plain" (defArgs s_T) (defBody s_T) (defScope s_T) .none kV_T dc_T pm_T an_T cd_T ct_T), f_Au, (PySem.W.fnOf "check_most" "check_most" (defArgs s_Au) (defBody s_Au) (defScope s_Au) .none kV_Au dc_Au pm_Au an_Au cd_Au ct_Au), f_Ao, (PySem.W.fnOf "group" "group" (defArgs s_Ao) (defBody s_Ao) (defScope s_Ao) .none kV_Ao dc_Ao pm_Ao an_Ao cd_Ao ct_Ao), f_As, (PySem.W.fnOf "__init__" "Reader.__init__" (defArgs s_As) (defBody s_As) (defScope s_As) .none kV_As dc_As pm_As an_As cd_As ct_As), f_K, (PySem.W.fnOf "next_sign" "Reader.next_sign" (defArgs s_K) (defBody s_K) (defScope s_K) .none kV_K dc_K pm_K an_K cd_K ct_K), f_Ai, (PySem.W.fnOf "skip_blanks" "Reader.skip_blanks" (defArgs s_Ai) (defBody s_Ai) (defScope s_Ai) .none kV_Ai dc_Ai pm_Ai an_Ai cd_Ai ct_Ai), f_Ac, (PySem.W.fnOf "go_over" "Reader.go_over" (defArgs s_Ac) (defBody s_Ac) (defScope s_Ac) .none kV_Ac dc_Ac pm_Ac an_Ac cd_Ac ct_Ac), f_Ak, (PySem.W.fnOf "find_base" "Reader.find_base" (defArgs s_Ak) (defBody s_Ak) (defScope s_Ak) .none kV_Ak dc_Ak pm_Ak an_Ak cd_Ak ct_Ak), f_Af, (PySem.W.fnOf "value_here" "Reader.value_here" (defArgs s_Af) (defBody s_Af) (defScope s_Af) .none kV_Af dc_Af pm_Af an_Af cd_Af ct_Af), f_Ag, (PySem.W.fnOf "read_figure" "Reader.read_figure" (defArgs s_Ag) (defBody s_Ag) (defScope s_Ag) .none kV_Ag dc_Ag pm_Ag an_Ag cd_Ag ct_Ag), f_Al, (PySem.W.fnOf "read" "Reader.read" (defArgs s_Al) (defBody s_Al) (defScope s_Al) .none kV_Al dc_Al pm_Al an_Al cd_Al ct_Al), f_Ad, (PySem.W.fnOf "digits_by_groups" "digits_by_groups" (defArgs s_Ad) (defBody s_Ad) (defScope s_Ad) .none kV_Ad dc_Ad pm_Ad an_Ad cd_Ad ct_Ad), f_Am, (PySem.W.fnOf "digits_by_bits" "digits_by_bits" (defArgs s_Am) (defBody s_Am) (defScope s_Am) .none kV_Am dc_Am pm_Am an_Am cd_Am ct_Am), f_F, (PySem.W.fnOf "read_figures" "read_figures" (defArgs s_F) (defBody s_F) (defScope s_F) (.ref dT_F) kV_F dc_F pm_F an_F cd_F ct_F), f_B, (PySem.W.fnOf "read_text" "read_text" (defArgs s_B) (defBody s_B) (defScope s_B) (.ref dT_B) (.ref kD_B) dc_B pm_B an_B cd_B ct_B), f_Av, (PySem.W.fnOf "_law_purse" "_law_purse" (defArgs s_Av) (defBody s_Av) (defScope s_Av) .none kV_Av dc_Av pm_Av an_Av cd_Av ct_Av), f_C, (PySem.W.fnOf "_law_coin" "_law_coin" (defArgs s_C) (defBody s_C) (defScope s_C) .none kV_C dc_C pm_C an_C cd_C ct_C), f_I, (PySem.W.fnOf "_law_pick" "_law_pick" (defArgs s_I) (defBody s_I) (defScope s_I) .none kV_I dc_I pm_I an_I cd_I ct_I), f_Ap, (PySem.W.fnOf "_law_row" "_law_row" (defArgs s_Ap) (defBody s_Ap) (defScope s_Ap) .none kV_Ap dc_Ap pm_Ap an_Ap cd_Ap ct_Ap), f_An, (PySem.W.fnOf "_law_worth" "_law_worth" (defArgs s_An) (defBody s_An) (defScope s_An) .none kV_An dc_An pm_An an_An cd_An ct_An), f_Ah, (PySem.W.fnOf "_law_digits" "_law_digits" (defArgs s_Ah) (defBody s_Ah) (defScope s_Ah) .none kV_Ah dc_Ah pm_Ah an_Ah cd_Ah ct_Ah), f_At, (PySem.W.fnOf "_law_is" "_law_is" (defArgs s_At) (defBody s_At) (defScope s_At) .none kV_At dc_At pm_At an_At cd_At ct_At), f_W, (PySem.W.fnOf "_law_counted" "_law_counted" (defArgs s_W) (defBody s_W) (defScope s_W) .none kV_W dc_W pm_W an_W cd_W ct_W), f_Aq, (PySem.W.fnOf "_law_group" "_law_group" (defArgs s_Aq) (defBody s_Aq) (defScope s_Aq) .none kV_Aq dc_Aq pm_Aq an_Aq cd_Aq ct_Aq), f_Aj, (PySem.W.fnOf "_law_steps_in" "_law_steps_in" (defArgs s_Aj) (defBody s_Aj) (defScope s_Aj) .none kV_Aj dc_Aj pm_Aj an_Aj cd_Aj ct_Aj), f_Ar, (PySem.W.fnOf "_law_figures" "_law_figures" (defArgs s_Ar) (defBody s_Ar) (defScope s_Ar) .none kV_Ar dc_Ar pm_Ar an_Ar cd_Ar ct_Ar), f_Aa, (PySem.W.fnOf "_law_written" "_law_written" (defArgs s_Aa) (defBody s_Aa) (defScope s_Aa) .none kV_Aa dc_Aa pm_Aa an_Aa cd_Aa ct_Aa), f_Ab, (PySem.W.fnOf "_law_right" "_law_right" (defArgs s_Ab) (defBody s_Ab) (defScope s_Ab) .none kV_Ab dc_Ab pm_Ab an_Ab cd_Ab ct_Ab), f_law, (PySem.W.fnOf "law" "law" (defArgs s_law) (defBody s_law) (defScope s_law) .none kV_law dc_law pm_law an_law cd_law ct_law), ds_Machine_init_1, dk_read_text_2, dk_read_text_3⟩
  have cl_Machine : Cls K CMachine := ⟨pgMachine, hdMachine, poMachine, saMachine⟩
  have ic_Machine : C8.InsC K CMachine := ⟨cl_Machine, haMachine, hsp, htk, hmMachine, kit_self K CMachine⟩
  have cl_Big : Cls K CBig := ⟨pgBig, hdBig, poBig, saBig⟩
  have ic_Big : C8.InsC K CBig := ⟨cl_Big, haBig, hsp, htk, hmBig, kit_self K CBig⟩
  have cl_Reader : Cls K CReader := ⟨pgReader, hdReader, poReader, saReader⟩
  have ic_Reader : C8.InsC K CReader := ⟨cl_Reader, haReader, hsp, htk, hmReader, kit_self K CReader⟩
  have pm : Eng.PM K c := ⟨ic_Machine, nfMachine_entered, nfMachine_counts, nfMachine_base, nfMachine_limit_of_rows, nfMachine_width, fun H => .inr ⟨_, itW, nW, l_Ay, rfl, rfl, z_Ay, v_Ay⟩⟩
  have pb : Eng.PB K c := ⟨ic_Big, nfBig_row, nfBig_side, nfBig_width⟩
  have T : Txt w K mg a := {
      NT := rfl,
      PM := pm,
      PB := pb,
      g_Machine := PySem.W.mg_of X G aMachine,
      cl_Machine := cl_Machine,
      mk_Machine := ⟨mkMachine, a_A, i_A, kcMachine⟩,
      g_Big := PySem.W.mg_of X G aBig,
      cl_Big := cl_Big,
      mk_Big := ⟨mkBig, a_X, i_X, kcBig⟩,
      eq_Big := a_S,
      ie_Big := i_S,
      KS3 := ⟨cl_Reader, by intro f hf; simp only [List.mem_cons, List.not_mem_nil, or_false] at hf; rcases hf with rfl | rfl | rfl | rfl | rfl <;> assumption⟩,
      g_Reader := PySem.W.mg_of X G aReader,
      cl_Reader := cl_Reader,
      mk_Reader := ⟨mkReader, a_As, i_As, kcReader⟩,
      g_Aw := ⟨_, esBITS_OF_BASES, nBITS_OF_BASES, PySem.W.mg_of X G g_Aw, l_Aw, w_Aw, v_Aw⟩,
      g_A0 := ⟨_, PySem.W.mg_of X G g_A0, ⟨_, rfl⟩⟩,
      g_A1 := ⟨_, PySem.W.mg_of X G g_A1, ⟨_, rfl⟩⟩,
      g_A2 := ⟨_, PySem.W.mg_of X G g_A2, ⟨_, rfl⟩⟩,
      g_A3 := ⟨_, PySem.W.mg_of X G g_A3, ⟨_, rfl⟩⟩,
      g_A4 := ⟨_, PySem.W.mg_of X G g_A4, ⟨_, rfl⟩⟩,
      g_A5 := ⟨_, PySem.W.mg_of X G g_A5, ⟨_, rfl⟩⟩,
      g_A6 := ⟨_, PySem.W.mg_of X G g_A6, ⟨_, rfl⟩⟩,
      g_A7 := ⟨_, PySem.W.mg_of X G g_A7, ⟨_, rfl⟩⟩,
      g_Ax := ⟨_, esPREFIXES, nPREFIXES, PySem.W.mg_of X G g_Ax, l_Ax, w_Ax, v_Ax⟩,
      g_Ay := PySem.W.mg_of X G g_Ay,
      F_G := F_G,
      m_G := PySem.W.mg_of X G a_G,
      b_G := b_G,
      F_H := F_H,
      m_H := PySem.W.mg_of X G a_H,
      b_H := b_H,
      F_Ae := F_Ae,
      m_Ae := PySem.W.mg_of X G a_Ae,
      b_Ae := b_Ae,
      F_A := F_A,
      b_A := b_A,
      F_J := F_J,
      me_J := ⟨a_J, i_J, k_J⟩,
      b_J := b_J,
      F_N := F_N,
      me_N := ⟨a_N, i_N, k_N⟩,
      b_N := b_N,
      F_M := F_M,
      me_M := ⟨a_M, i_M, k_M⟩,
      b_M := b_M,
      F_D := F_D,
      me_D := ⟨a_D, i_D, k_D⟩,
      b_D := b_D,
      F_U := F_U,
      me_U := ⟨a_U, i_U, k_U⟩,
      b_U := b_U,
      F_L := F_L,
      m_L := PySem.W.mg_of X G a_L,
      b_L := b_L,
      F_X := F_X,
      b_X := b_X,
      F_S := F_S,
      me_S := ⟨a_S, i_S, k_S⟩,
      b_S := b_S,
      F_O := F_O,
      me_O := ⟨a_O, i_O, k_O⟩,
      b_O := b_O,
      F_Q := F_Q,
      me_Q := ⟨a_Q, i_Q, k_Q⟩,
      b_Q := b_Q,
      F_P := F_P,
      me_P := ⟨a_P, i_P, k_P⟩,
      b_P := b_P,
      F_E := F_E,
      m_E := PySem.W.mg_of X G a_E,
      b_E := b_E,
      F_Z := F_Z,
      m_Z := PySem.W.mg_of X G a_Z,
      b_Z := b_Z,
      F_V := F_V,
      m_V := PySem.W.mg_of X G a_V,
      b_V := b_V,
      F_R := F_R,
      m_R := PySem.W.mg_of X G a_R,
      b_R := b_R,
      F_Y := F_Y,
      m_Y := PySem.W.mg_of X G a_Y,
      b_Y := b_Y,
      F_big := F_big,
      m_big := PySem.W.mg_of X G a_big,
      b_big := b_big,
      F_T := F_T,
      m_T := PySem.W.mg_of X G a_T,
      b_T := b_T,
      F_Au := F_Au,
      m_Au := PySem.W.mg_of X G a_Au,
      b_Au := b_Au,
      F_Ao := F_Ao,
      m_Ao := PySem.W.mg_of X G a_Ao,
      b_Ao := b_Ao,
      F_As := F_As,
      b_As := b_As,
      F_K := F_K,
      me_K := ⟨a_K, i_K, k_K⟩,
      b_K := b_K,
      F_Ai := F_Ai,
      me_Ai := ⟨a_Ai, i_Ai, k_Ai⟩,
      b_Ai := b_Ai,
      F_Ac := F_Ac,
      me_Ac := ⟨a_Ac, i_Ac, k_Ac⟩,
      b_Ac := b_Ac,
      F_Ak := F_Ak,
      me_Ak := ⟨a_Ak, i_Ak, k_Ak⟩,
      b_Ak := b_Ak,
      F_Af := F_Af,
      me_Af := ⟨a_Af, i_Af, k_Af⟩,
      b_Af := b_Af,
      F_Ag := F_Ag,
      me_Ag := ⟨a_Ag, i_Ag, k_Ag⟩,
      b_Ag := b_Ag,
      F_Al := F_Al,
      me_Al := ⟨a_Al, i_Al, k_Al⟩,
      b_Al := b_Al,
      F_Ad := F_Ad,
      m_Ad := PySem.W.mg_of X G a_Ad,
      b_Ad := b_Ad,
      F_Am := F_Am,
      m_Am := PySem.W.mg_of X G a_Am,
      b_Am := b_Am,
      F_F := F_F,
      m_F := PySem.W.mg_of X G a_F,
      b_F := b_F,
      F_B := F_B,
      m_B := PySem.W.mg_of X G a_B,
      F_Av := F_Av,
      m_Av := PySem.W.mg_of X G a_Av,
      b_Av := b_Av,
      F_C := F_C,
      m_C := PySem.W.mg_of X G a_C,
      b_C := b_C,
      F_I := F_I,
      m_I := PySem.W.mg_of X G a_I,
      b_I := b_I,
      F_Ap := F_Ap,
      m_Ap := PySem.W.mg_of X G a_Ap,
      b_Ap := b_Ap,
      F_An := F_An,
      m_An := PySem.W.mg_of X G a_An,
      b_An := b_An,
      F_Ah := F_Ah,
      m_Ah := PySem.W.mg_of X G a_Ah,
      b_Ah := b_Ah,
      F_At := F_At,
      m_At := PySem.W.mg_of X G a_At,
      b_At := b_At,
      F_W := F_W,
      m_W := PySem.W.mg_of X G a_W,
      b_W := b_W,
      F_Aq := F_Aq,
      m_Aq := PySem.W.mg_of X G a_Aq,
      b_Aq := b_Aq,
      F_Aj := F_Aj,
      m_Aj := PySem.W.mg_of X G a_Aj,
      b_Aj := b_Aj,
      F_Ar := F_Ar,
      m_Ar := PySem.W.mg_of X G a_Ar,
      b_Ar := b_Ar,
      F_Aa := F_Aa,
      m_Aa := PySem.W.mg_of X G a_Aa,
      b_Aa := b_Aa,
      F_Ab := F_Ab,
      m_Ab := PySem.W.mg_of X G a_Ab,
      b_Ab := b_Ab,
      F_law := F_law,
      m_law := PySem.W.mg_of X G a_law,
      b_law := b_law,
      bd_Machine_init_1 := ⟨vd_Machine_init_1, bd_Machine_init_1⟩,
      bk_read_text_2 := ⟨vk_read_text_2, bk_read_text_2⟩,
      bk_read_text_3 := ⟨vk_read_text_3, bk_read_text_3⟩,
      kb_read_text_base_text_machine_most := kb_read_text_base_text_machine_most,
      n_abs := PySem.W.mg_none_of X G z_abs,
      n_bool := PySem.W.mg_none_of X G z_bool,
      n_dict := PySem.W.mg_none_of X G z_dict,
      n_enumerate := PySem.W.mg_none_of X G z_enumerate,
      n_int := PySem.W.mg_none_of X G z_int,
      n_isinstance := PySem.W.mg_none_of X G z_isinstance,
      n_len := PySem.W.mg_none_of X G z_len,
      n_list := PySem.W.mg_none_of X G z_list,
      n_max := PySem.W.mg_none_of X G z_max,
      n_range := PySem.W.mg_none_of X G z_range,
      n_str := PySem.W.mg_none_of X G z_str,
      n_tuple := PySem.W.mg_none_of X G z_tuple }
  exact ⟨_, fun s v => .of_eq rfl, fun base _ _ => ok_law (a := a) T⟩
theorem walk {l : PySem.W.OpenLaw} {q : Program} {loose : List Str} {XP : (Str → Option Value) → Heap → Prop} {YP : World → Heap → Prop} {d : DefRec} {K : Params → PySem.W.Frag} (hn : l.most = some 63) (hdf : d.params.defaults = [])
    (hY : ∀ (w : World) (h : Heap), YP w h → (K w.params).In h)
    (F : ∀ (w : World) (mg : Str → Option Value) (fa : Addr) (h : Heap), (K w.params).In h → h.Ns mainGlobals mg → mg d.name = some (.ref fa) →
      ∃ fd : FuncData, (∀ (s : Shared) (u : Value), BindsTo s fd ⟨[u], []⟩ [("_law_script", u)]) ∧ ∀ base : Heap, (K w.params).In base → base.Ns mainGlobals mg → FnOk l.prog w (K w.params) mg base CX0 7 fa fd ["_law_script"] (sp_law0 (K w.params))) :
    PySem.W.WalkO q loose XP YP l.row.toRowW d [] (fun f vs => PySem.call f vs) :=
  L2.walk_of (n := 63) (k := 7) (x := "_law_script") (CX := fun _ => CX0) (sp := fun w => sp_law0 (K w.params)) hn (by decide) hdf ⟨rfl, by decide, by decide⟩ hY F (fun _ _ a ns hl _ hS => ⟨a, ns, rfl, hS, hl, fun _ => rfl⟩) fun _ _ _ _ _ z => z
end Law
open PySem PySem.W PyProof.Rows
set_option maxRecDepth 100000 in
set_option maxHeartbeats 0 in
theorem PySem.Challenge.cw_thirtybits_k65_texts_read_holds : PySem.Challenge.rw_thirtybits_k65_texts_read.Holds :=
  H0 (by
  k_fill
  refine Law.walk (l := PySem.Challenge.rw_thirtybits_k65_texts_read) rfl rfl (fun w h Y => PySem.W.kIn_of Y) ?F
  case F =>
    intro w mg fa h KX G hmg
    refine' Law.all_mk KX G hmg ?aMachine ?pgMachine ?hdMachine ?poMachine ?saMachine ?mkMachine ?kcMachine ?haMachine ?hmMachine ?nfMachine_entered ?nfMachine_counts ?nfMachine_base ?nfMachine_limit_of_rows ?nfMachine_width ?aBig ?pgBig ?hdBig ?poBig ?saBig ?mkBig ?kcBig ?haBig ?hmBig ?nfBig_row ?nfBig_side ?nfBig_width ?aReader ?pgReader ?hdReader ?poReader ?saReader ?mkReader ?kcReader ?haReader ?hmReader ?nfReader_whole ?nfReader_at ?nfReader_base ?nfReader_has_zeros_alone ?nfReader_figures ?hsp ?htk ?g_Aw ?l_Aw ?w_Aw ?v_Aw ?g_A0 ?g_A1 ?g_A2 ?g_A3 ?g_A4 ?g_A5 ?g_A6 ?g_A7 ?g_Ax ?l_Ax ?w_Ax ?v_Ax ?g_Ay ?l_Ay ?z_Ay ?v_Ay ?a_G ?l_G ?c_G ?k_G ?a_H ?l_H ?c_H ?k_H ?a_Ae ?l_Ae ?c_Ae ?k_Ae ?a_A ?i_A ?l_A ?c_A ?k_A ?lT_A ?vT_A ?a_J ?i_J ?l_J ?c_J ?k_J ?a_N ?i_N ?l_N ?c_N ?k_N ?a_M ?i_M ?l_M ?c_M ?k_M ?a_D ?i_D ?l_D ?c_D ?k_D ?a_U ?i_U ?l_U ?c_U ?k_U ?a_L ?l_L ?c_L ?k_L ?a_X ?i_X ?l_X ?c_X ?k_X ?a_S ?i_S ?l_S ?c_S ?k_S ?a_O ?i_O ?l_O ?c_O ?k_O ?a_Q ?i_Q ?l_Q ?c_Q ?k_Q ?a_P ?i_P ?l_P ?c_P ?k_P ?a_E ?l_E ?c_E ?k_made ?a_Z ?l_Z ?c_Z ?k_Z ?a_V ?l_V ?c_V ?k_V ?a_R ?l_R ?c_R ?k_R ?a_Y ?l_Y ?c_Y ?k_Y ?a_big ?l_big ?c_big ?k_big ?a_T ?l_T ?c_T ?k_T ?a_Au ?l_Au ?c_Au ?k_Au ?a_Ao ?l_Ao ?c_Ao ?k_Ao ?a_As ?i_As ?l_As ?c_As ?k_As ?a_K ?i_K ?l_K ?c_K ?k_K ?a_Ai ?i_Ai ?l_Ai ?c_Ai ?k_Ai ?a_Ac ?i_Ac ?l_Ac ?c_Ac ?k_Ac ?a_Ak ?i_Ak ?l_Ak ?c_Ak ?k_Ak ?a_Af ?i_Af ?l_Af ?c_Af ?k_Af ?a_Ag ?i_Ag ?l_Ag ?c_Ag ?k_Ag ?a_Al ?i_Al ?l_Al ?c_Al ?k_Al ?a_Ad ?l_Ad ?c_Ad ?k_Ad ?a_Am ?l_Am ?c_Am ?k_Am ?a_F ?l_F ?c_F ?k_F ?lT_F ?vT_F ?a_B ?l_B ?kd_read_text_most ?c_B ?k_B ?lT_B ?vT_B ?a_Av ?l_Av ?c_Av ?k_Av ?a_C ?l_C ?c_C ?k_C ?a_I ?l_I ?c_I ?k_I ?a_Ap ?l_Ap ?c_Ap ?k_Ap ?a_An ?l_An ?c_An ?k_An ?a_Ah ?l_Ah ?c_Ah ?k_Ah ?a_At ?l_At ?c_At ?k_At ?a_W ?l_W ?c_W ?k_W ?a_Aq ?l_Aq ?c_Aq ?k_Aq ?a_Aj ?l_Aj ?c_Aj ?k_Aj ?a_Ar ?l_Ar ?c_Ar ?k_Ar ?a_Aa ?l_Aa ?c_Aa ?k_Aa ?a_Ab ?l_Ab ?c_Ab ?k_Ab ?a_law ?l_law ?c_law ?k_law ?z_abs ?z_bool ?z_dict ?z_enumerate ?z_int ?z_isinstance ?z_len ?z_list ?z_max ?z_range ?z_str ?z_tuple
    (case aMachine => k_is)
    (case pgMachine => k_is)
    (case hdMachine => k_is)
    (case poMachine => k_is)
    (case saMachine => k_is)
    (case mkMachine => k_is)
    (case kcMachine => k_is)
    (case haMachine => k_is)
    (case hmMachine => k_is)
    (case nfMachine_entered => k_is)
    (case nfMachine_counts => k_is)
    (case nfMachine_base => k_is)
    (case nfMachine_limit_of_rows => k_is)
    (case nfMachine_width => k_is)
    (case aBig => k_is)
    (case pgBig => k_is)
    (case hdBig => k_is)
    (case poBig => k_is)
    (case saBig => k_is)
    (case mkBig => k_is)
    (case kcBig => k_is)
    (case haBig => k_is)
    (case hmBig => k_is)
    (case nfBig_row => k_is)
    (case nfBig_side => k_is)
    (case nfBig_width => k_is)
    (case aReader => k_is)
    (case pgReader => k_is)
    (case hdReader => k_is)
    (case poReader => k_is)
    (case saReader => k_is)
    (case mkReader => k_is)
    (case kcReader => k_is)
    (case haReader => k_is)
    (case hmReader => k_is)
    (case nfReader_whole => k_is)
    (case nfReader_at => k_is)
    (case nfReader_base => k_is)
    (case nfReader_has_zeros_alone => k_is)
    (case nfReader_figures => k_is)
    (case hsp => k_is)
    (case htk => k_is)
    (case g_Aw => k_is)
    (case l_Aw => k_is)
    (case w_Aw => first | rfl | decide | k_is)
    (case v_Aw => exact ⟨⟨_, _, rfl⟩, ⟨⟨_, _, rfl⟩, ⟨⟨_, _, rfl⟩, ⟨⟨_, _, rfl⟩, ⟨⟨_, _, rfl⟩, trivial⟩⟩⟩⟩⟩)
    (case g_A0 => k_is)
    (case g_A1 => k_is)
    (case g_A2 => k_is)
    (case g_A3 => k_is)
    (case g_A4 => k_is)
    (case g_A5 => k_is)
    (case g_A6 => k_is)
    (case g_A7 => k_is)
    (case g_Ax => k_is)
    (case l_Ax => k_is)
    (case w_Ax => first | rfl | decide | k_is)
    (case v_Ax => exact ⟨⟨_, _, rfl⟩, ⟨⟨_, _, rfl⟩, ⟨⟨_, _, rfl⟩, trivial⟩⟩⟩)
    (case g_Ay => k_is)
    (case l_Ay => k_is)
    (case z_Ay => decide)
    (case v_Ay => exact .cons ⟨_, rfl⟩ (.cons ⟨_, rfl⟩ (.cons ⟨_, rfl⟩ (.cons ⟨_, rfl⟩ (.cons ⟨_, rfl⟩ (.cons ⟨_, rfl⟩ (.cons ⟨_, rfl⟩ (.cons ⟨_, rfl⟩ (.cons ⟨_, rfl⟩ (.cons ⟨_, rfl⟩ .nil))))))))))
    (case a_G => k_is)
    (case l_G => k_is)
    (case c_G => k_is)
    (case k_G => k_is)
    (case a_H => k_is)
    (case l_H => k_is)
    (case c_H => k_is)
    (case k_H => k_is)
    (case a_Ae => k_is)
    (case l_Ae => k_is)
    (case c_Ae => k_is)
    (case k_Ae => k_is)
    (case a_A => k_is)
    (case i_A => k_is)
    (case l_A => k_is)
    (case c_A => k_is)
    (case k_A => k_is)
    (case lT_A => k_is)
    (case vT_A => exact (.cons ⟨_, rfl⟩ (.cons ⟨_, rfl⟩ .nil)))
    (case a_J => k_is)
    (case i_J => k_is)
    (case l_J => k_is)
    (case c_J => k_is)
    (case k_J => k_is)
    (case a_N => k_is)
    (case i_N => k_is)
    (case l_N => k_is)
    (case c_N => k_is)
    (case k_N => k_is)
    (case a_M => k_is)
    (case i_M => k_is)
    (case l_M => k_is)
    (case c_M => k_is)
    (case k_M => k_is)
    (case a_D => k_is)
    (case i_D => k_is)
    (case l_D => k_is)
    (case c_D => k_is)
    (case k_D => k_is)
    (case a_U => k_is)
    (case i_U => k_is)
    (case l_U => k_is)
    (case c_U => k_is)
    (case k_U => k_is)
    (case a_L => k_is)
    (case l_L => k_is)
    (case c_L => k_is)
    (case k_L => k_is)
    (case a_X => k_is)
    (case i_X => k_is)
    (case l_X => k_is)
    (case c_X => k_is)
    (case k_X => k_is)
    (case a_S => k_is)
    (case i_S => k_is)
    (case l_S => k_is)
    (case c_S => k_is)
    (case k_S => k_is)
    (case a_O => k_is)
    (case i_O => k_is)
    (case l_O => k_is)
    (case c_O => k_is)
    (case k_O => k_is)
    (case a_Q => k_is)
    (case i_Q => k_is)
    (case l_Q => k_is)
    (case c_Q => k_is)
    (case k_Q => k_is)
    (case a_P => k_is)
    (case i_P => k_is)
    (case l_P => k_is)
    (case c_P => k_is)
    (case k_P => k_is)
    (case a_E => k_is)
    (case l_E => k_is)
    (case c_E => k_is)
    (case k_made => k_is)
    (case a_Z => k_is)
    (case l_Z => k_is)
    (case c_Z => k_is)
    (case k_Z => k_is)
    (case a_V => k_is)
    (case l_V => k_is)
    (case c_V => k_is)
    (case k_V => k_is)
    (case a_R => k_is)
    (case l_R => k_is)
    (case c_R => k_is)
    (case k_R => k_is)
    (case a_Y => k_is)
    (case l_Y => k_is)
    (case c_Y => k_is)
    (case k_Y => k_is)
    (case a_big => k_is)
    (case l_big => k_is)
    (case c_big => k_is)
    (case k_big => k_is)
    (case a_T => k_is)
    (case l_T => k_is)
    (case c_T => k_is)
    (case k_T => k_is)
    (case a_Au => k_is)
    (case l_Au => k_is)
    (case c_Au => k_is)
    (case k_Au => k_is)
    (case a_Ao => k_is)
    (case l_Ao => k_is)
    (case c_Ao => k_is)
    (case k_Ao => k_is)
    (case a_As => k_is)
    (case i_As => k_is)
    (case l_As => k_is)
    (case c_As => k_is)
    (case k_As => k_is)
    (case a_K => k_is)
    (case i_K => k_is)
    (case l_K => k_is)
    (case c_K => k_is)
    (case k_K => k_is)
    (case a_Ai => k_is)
    (case i_Ai => k_is)
    (case l_Ai => k_is)
    (case c_Ai => k_is)
    (case k_Ai => k_is)
    (case a_Ac => k_is)
    (case i_Ac => k_is)
    (case l_Ac => k_is)
    (case c_Ac => k_is)
    (case k_Ac => k_is)
    (case a_Ak => k_is)
    (case i_Ak => k_is)
    (case l_Ak => k_is)
    (case c_Ak => k_is)
    (case k_Ak => k_is)
    (case a_Af => k_is)
    (case i_Af => k_is)
    (case l_Af => k_is)
    (case c_Af => k_is)
    (case k_Af => k_is)
    (case a_Ag => k_is)
    (case i_Ag => k_is)
    (case l_Ag => k_is)
    (case c_Ag => k_is)
    (case k_Ag => k_is)
    (case a_Al => k_is)
    (case i_Al => k_is)
    (case l_Al => k_is)
    (case c_Al => k_is)
    (case k_Al => k_is)
    (case a_Ad => k_is)
    (case l_Ad => k_is)
    (case c_Ad => k_is)
    (case k_Ad => k_is)
    (case a_Am => k_is)
    (case l_Am => k_is)
    (case c_Am => k_is)
    (case k_Am => k_is)
    (case a_F => k_is)
    (case l_F => k_is)
    (case c_F => k_is)
    (case k_F => k_is)
    (case lT_F => k_is)
    (case vT_F => exact (.cons ⟨_, rfl⟩ .nil))
    (case a_B => k_is)
    (case l_B => k_is)
    (case kd_read_text_most => k_is)
    (case c_B => k_is)
    (case k_B => k_is)
    (case lT_B => k_is)
    (case vT_B => exact (.cons ⟨_, rfl⟩ .nil))
    (case a_Av => k_is)
    (case l_Av => k_is)
    (case c_Av => k_is)
    (case k_Av => k_is)
    (case a_C => k_is)
    (case l_C => k_is)
    (case c_C => k_is)
    (case k_C => k_is)
    (case a_I => k_is)
    (case l_I => k_is)
    (case c_I => k_is)
    (case k_I => k_is)
    (case a_Ap => k_is)
    (case l_Ap => k_is)
    (case c_Ap => k_is)
    (case k_Ap => k_is)
    (case a_An => k_is)
    (case l_An => k_is)
    (case c_An => k_is)
    (case k_An => k_is)
    (case a_Ah => k_is)
    (case l_Ah => k_is)
    (case c_Ah => k_is)
    (case k_Ah => k_is)
    (case a_At => k_is)
    (case l_At => k_is)
    (case c_At => k_is)
    (case k_At => k_is)
    (case a_W => k_is)
    (case l_W => k_is)
    (case c_W => k_is)
    (case k_W => k_is)
    (case a_Aq => k_is)
    (case l_Aq => k_is)
    (case c_Aq => k_is)
    (case k_Aq => k_is)
    (case a_Aj => k_is)
    (case l_Aj => k_is)
    (case c_Aj => k_is)
    (case k_Aj => k_is)
    (case a_Ar => k_is)
    (case l_Ar => k_is)
    (case c_Ar => k_is)
    (case k_Ar => k_is)
    (case a_Aa => k_is)
    (case l_Aa => k_is)
    (case c_Aa => k_is)
    (case k_Aa => k_is)
    (case a_Ab => k_is)
    (case l_Ab => k_is)
    (case c_Ab => k_is)
    (case k_Ab => k_is)
    (case a_law => k_is)
    (case l_law => k_is)
    (case c_law => k_is)
    (case k_law => k_is)
    (case z_abs => k_is)
    (case z_bool => k_is)
    (case z_dict => k_is)
    (case z_enumerate => k_is)
    (case z_int => k_is)
    (case z_isinstance => k_is)
    (case z_len => k_is)
    (case z_list => k_is)
    (case z_max => k_is)
    (case z_range => k_is)
    (case z_str => k_is)
    (case z_tuple => k_is))
