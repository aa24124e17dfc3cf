import PyProof.Rows.All
import Wide.All
import OpenK.AllK
import Wide.FinOn
import HandS.ForMost
import HandS.WideBits
import HandS.Style
import HandS.Defaults
import HandS.IsInst
import HandS.Codes
import HandS.Evl
import HandS.Flow
import HandS.OwnEq
import KE.IntBitsLaws
import PyProof.Rows.RuleB_pow
import PyProof.InstNe
import KE.GoesMore
import KE.GoesEnum
import HandS.Iter
import HandS.DictComp
import HandS.Lambda
import HandS.HeadWalk
import HandS.Small
import KE.KDflt
import HandS.ExcInit
import HandS.ExcOwn
import HandS.TryOnly
import HandS.WordsExc
import HandS.ClsMeth
import HandS.TryMany
import HandS.ExcField
import HandS.ExcIs
import KE.KExcInit
import HandS.CallLocal
import HandS.More
import HandS.TupAny
import KE.KEqNest
import PyProof.NeKinds
import HandS.NoneIn
import PySem.Challenge.RW_thirtybits_k54_whole_steps_of_lehmer
set_option Elab.async false
set_option linter.all false
set_option maxRecDepth 100000
set_option maxHeartbeats 4000000
namespace Eng
open PySem L2
/-- H0 the heap at the entry, H now; M: what of H0 may change; L: what is known, each place once -/
structure Wd (H0 H : Hp) (M : List Addr) (L : List (Addr × HO)) : Prop where
  get : ∀ {a : Addr} {o : HO}, (a, o) ∈ L → H a = some o
  nd : (L.map (·.1)).Nodup
  keep : ∀ b o, H0 b = some o → b ∉ M → H b = some o
  sub : ∀ a ∈ M, a ∈ L.map (·.1)
/-- L' is L with the thing at a turned from o to u -/
inductive Rp (a : Addr) (o u : HO) : List (Addr × HO) → List (Addr × HO) → Prop where
  | here {L} : Rp a o u ((a, o) :: L) ((a, u) :: L)
  | there {q L L'} : Rp a o u L L' → Rp a o u (q :: L) (q :: L')
theorem Rp.app {a : Addr} {o u : HO} {L L' : List (Addr × HO)} (r : Rp a o u L L') : ∀ {N : List (Addr × HO)}, Rp a o u (N ++ L) (N ++ L')
  | [] => r
  | _ :: _ => .there r.app
theorem Rp.mem {a : Addr} {o u : HO} : ∀ {L L' : List (Addr × HO)}, Rp a o u L L' → (a, o) ∈ L
  | _, _, .here => List.mem_cons_self
  | _, _, .there r => List.mem_cons_of_mem _ r.mem
theorem Rp.keys {a : Addr} {o u : HO} : ∀ {L L' : List (Addr × HO)}, Rp a o u L L' → L'.map (·.1) = L.map (·.1)
  | _, _, .here => rfl
  | _, _, .there (q := q) (L := L) (L' := L') r => by
    show q.1 :: L'.map (·.1) = q.1 :: L.map (·.1)
    rw [r.keys]
theorem Rp.get {a : Addr} {o u : HO} : ∀ {L L' : List (Addr × HO)}, Rp a o u L L' → (L.map (·.1)).Nodup → ∀ {b : Addr} {v : HO}, (b, v) ∈ L' → (b = a ∧ v = u) ∨ (b ≠ a ∧ (b, v) ∈ L)
  | _, _, .here (L := L), hn, b, v, hm => by
    rcases List.mem_cons.mp hm with e | hm
    · cases e
      exact .inl ⟨rfl, rfl⟩
    · refine .inr ⟨fun e => ?_, List.mem_cons_of_mem _ hm⟩
      have h1 : a ∉ L.map (·.1) := (List.nodup_cons.mp (show (a :: L.map (·.1)).Nodup from hn)).1
      exact h1 (e ▸ List.mem_map.mpr ⟨(b, v), hm, rfl⟩)
  | _, _, .there (q := q) (L := L) (L' := L') r, hn, b, v, hm => by
    have hq := List.nodup_cons.mp (show (q.1 :: L.map (·.1)).Nodup from hn)
    rcases List.mem_cons.mp hm with e | hm
    · refine .inr ⟨fun e2 => ?_, by rw [← e]; exact List.mem_cons_self⟩
      have h2 : q.1 = a := by rw [← e]; exact e2
      exact hq.1 (h2 ▸ List.mem_map.mpr ⟨(a, o), r.mem, rfl⟩)
    · rcases r.get hq.2 hm with z | ⟨z1, z2⟩
      · exact .inl z
      · exact .inr ⟨z1, List.mem_cons_of_mem _ z2⟩
section
variable {H0 H H' : Hp} {M : List Addr} {L L' : List (Addr × HO)} {a p : Addr} {o u : HO}
theorem Wd.start (h : ∀ {a : Addr} {o : HO}, (a, o) ∈ L → H a = some o) (nd : (L.map (·.1)).Nodup) (sub : ∀ a ∈ M, a ∈ L.map (·.1)) : Wd H H M L := ⟨h, nd, fun _ _ e _ => e, sub⟩
theorem Wd.nil (H : Hp) : Wd H H [] [] := ⟨(fun h => nomatch h), List.nodup_nil, fun _ _ e _ => e, (fun _ h => nomatch h)⟩
/-- a further thing that stands in the entry's heap -/
theorem Wd.old (W : Wd H0 H M L) (h : H a = some o) (ha : a ∉ L.map (·.1)) : Wd H0 H M ((a, o) :: L) where
  get := fun hm => by
    rcases List.mem_cons.mp hm with e | hm
    · cases e; exact h
    · exact W.get hm
  nd := List.nodup_cons.mpr ⟨ha, W.nd⟩
  keep := W.keep
  sub := fun a h => List.mem_cons_of_mem _ (W.sub a h)
theorem Wd.one (h : H a = some o) : Wd H H [] [(a, o)] := (Wd.nil H).old h (fun z => nomatch z)
theorem Wd.may (W : Wd H0 H M L) (h : a ∈ L.map (·.1)) : Wd H0 H (a :: M) L where
  get := W.get
  nd := W.nd
  keep := fun b o e hb => W.keep b o e fun z => hb (List.mem_cons_of_mem _ z)
  sub := fun b hb => by
    rcases List.mem_cons.mp hb with e | hb
    · rw [e]; exact h
    · exact W.sub b hb
theorem Wd.there (W : Wd H0 H M L) (h : p ∈ L.map (·.1)) : ∃ o, H p = some o := by
  obtain ⟨⟨b, v⟩, hm, rfl⟩ := List.mem_map.mp h
  exact ⟨v, W.get hm⟩
theorem Wd.out (W : Wd H0 H M L) (h : H p = none) : p ∉ L.map (·.1) := fun z => by
  obtain ⟨o, e⟩ := W.there z
  rw [h] at e
  cases e
theorem Wd.fresh (W : Wd H0 H M L) (h : H p = none) : H0 p = none := by
  cases e : H0 p with
  | none => rfl
  | some o =>
    by_cases hm : p ∈ M
    · exact absurd (W.sub p hm) (W.out h)
    · rw [W.keep p o e hm] at h
      cases h
theorem Wd.new (W : Wd H0 H M L) (h : H p = none) : Wd H0 (upd H p o) M ((p, o) :: L) where
  get := fun {a v} hm => by
    rcases List.mem_cons.mp hm with e | hm
    · cases e; exact upd_same
    · rw [upd_ne (ne_of_none (W.get hm) h)]
      exact W.get hm
  nd := List.nodup_cons.mpr ⟨W.out h, W.nd⟩
  keep := fun b v e hb => by
    rw [upd_ne (ne_of_none (W.keep b v e hb) h)]
    exact W.keep b v e hb
  sub := fun a h => List.mem_cons_of_mem _ (W.sub a h)
theorem Wd.put (W : Wd H0 H M L) (r : Rp a o u L L') (h : H0 a = none ∨ a ∈ M) : Wd H0 (upd H a u) M L' where
  get := fun {b v} hm => by
    rcases r.get W.nd hm with ⟨e1, e2⟩ | ⟨e1, e2⟩
    · rw [e1, e2]; exact upd_same
    · rw [upd_ne e1]; exact W.get e2
  nd := by rw [r.keys]; exact W.nd
  keep := fun b v e hb => by
    have ne : b ≠ a := fun z => by
      subst z
      rcases h with h | h
      · rw [h] at e; cases e
      · exact hb h
    rw [upd_ne ne]
    exact W.keep b v e hb
  sub := fun b hb => by rw [r.keys]; exact W.sub b hb
theorem Wd.same (W : Wd H0 H M L) (s : Same H H') : Wd H0 H' M L := ⟨fun hm => s _ _ (W.get hm), W.nd, fun b o e hb => s _ _ (W.keep b o e hb), W.sub⟩
/-- a shorter list -/
theorem Wd.drop (W : Wd H0 H [] L) (hs : L'.Sublist L) : Wd H0 H [] L' := ⟨fun hm => W.get (hs.subset hm), (hs.map _).nodup W.nd, W.keep, (fun _ h => nomatch h)⟩
theorem Wd.drop1 {q : Addr × HO} (W : Wd H0 H M (q :: L)) (h : q.1 ∉ M) : Wd H0 H M L := ⟨fun hm => W.get (List.mem_cons_of_mem _ hm), (List.nodup_cons.mp (show (q.1 :: L.map (·.1)).Nodup from W.nd)).2, W.keep, fun a ha => by
  rcases List.mem_cons.mp (show a ∈ q.1 :: L.map (·.1) from W.sub a ha) with e | z
  · exact absurd (e ▸ ha) h
  · exact z⟩
theorem Wd.perm (W : Wd H0 H M L) (h : L.Perm L') : Wd H0 H M L' := ⟨fun hm => W.get (h.mem_iff.mpr hm), (h.map _).nodup_iff.mp W.nd, W.keep, fun a ha => (h.map _).mem_iff.mp (W.sub a ha)⟩
/-- the first to the end -/
theorem Wd.move {q : Addr × HO} {A B : List (Addr × HO)} (W : Wd H0 H M (q :: (A ++ B))) : Wd H0 H M (A ++ (B ++ [q])) := W.perm (by
  rw [← List.append_assoc]
  exact (List.perm_append_singleton q (A ++ B)).symm)
theorem Wd.toSame (W : Wd H0 H [] L) : Same H0 H := fun b o e => W.keep b o e (fun h => nomatch h)
end
structure Chg (H H' : Hp) (cs ns : List (Addr × HO)) : Prop where
  chg : ∀ {a : Addr} {o : HO}, (a, o) ∈ cs → H' a = some o
  new : ∀ {a : Addr} {o : HO}, (a, o) ∈ ns → H a = none ∧ H' a = some o
  nd : (ns.map (·.1)).Nodup
  keep : ∀ b o, H b = some o → b ∉ cs.map (·.1) → H' b = some o
section
variable {H0 H H' : Hp} {M : List Addr} {L L' L'' cs ns : List (Addr × HO)} {a b : Addr} {o u o2 u2 : HO}
theorem Wd.chg0 (W : Wd H0 H M L) (c : Chg H H' [] ns) : Wd H0 H' M (ns ++ L) where
  get := fun hm => by
    rcases List.mem_append.mp hm with h | h
    · exact (c.new h).2
    · exact c.keep _ _ (W.get h) (fun z => nomatch z)
  nd := by
    rw [List.map_append]
    refine List.nodup_append.mpr ⟨c.nd, W.nd, fun x hx y hy e => ?_⟩
    subst e
    obtain ⟨⟨p, v⟩, hm, rfl⟩ := List.mem_map.mp hx
    exact W.out (c.new hm).1 hy
  keep := fun b v e hb => c.keep _ _ (W.keep b v e hb) (fun z => nomatch z)
  sub := fun a h => by rw [List.map_append]; exact List.mem_append_right _ (W.sub a h)
theorem Wd.chg1 (W : Wd H0 H M L) (r : Rp a o u L L') (c : Chg H H' [(a, u)] ns) (h : H0 a = none ∨ a ∈ M) : Wd H0 H' M (ns ++ L') where
  get := fun {b v} hm => by
    rcases List.mem_append.mp hm with z | z
    · exact (c.new z).2
    · rcases r.get W.nd z with ⟨e1, e2⟩ | ⟨e1, e2⟩
      · rw [e1, e2]; exact c.chg List.mem_cons_self
      · exact c.keep _ _ (W.get e2) (fun z => by rcases List.mem_cons.mp z with q | q; exact e1 q; exact nomatch q)
  nd := by
    rw [List.map_append, r.keys]
    refine List.nodup_append.mpr ⟨c.nd, W.nd, fun x hx y hy e => ?_⟩
    subst e
    obtain ⟨⟨p, v⟩, hm, rfl⟩ := List.mem_map.mp hx
    exact W.out (c.new hm).1 hy
  keep := fun b v e hb => by
    have ne : b ≠ a := fun z => by
      subst z
      rcases h with h | h
      · rw [h] at e; cases e
      · exact hb h
    exact c.keep _ _ (W.keep b v e hb) (fun z => by rcases List.mem_cons.mp z with q | q; exact ne q; exact nomatch q)
  sub := fun a h => by rw [List.map_append, r.keys]; exact List.mem_append_right _ (W.sub a h)
theorem Chg.of_same (s : Same H H') : Chg H H' [] [] := ⟨(fun h => nomatch h), (fun h => nomatch h), List.nodup_nil, fun b o e _ => s b o e⟩
/-- what a def has done, told to its caller -/
theorem Wd.done (W : Wd H H' M L) (hc : ∀ q ∈ cs, q ∈ L) (hM : ∀ a ∈ M, a ∈ cs.map (·.1)) (hn : ∀ q ∈ ns, q ∈ L ∧ H q.1 = none) (nd : (ns.map (·.1)).Nodup) : Chg H H' cs ns :=
  ⟨fun h => W.get (hc _ h), fun h => ⟨(hn _ h).2, W.get (hn _ h).1⟩, nd, fun b o e hb => W.keep b o e fun z => hb (hM b z)⟩
end
end Eng
namespace Eng
open PySem L2
def kB (Q : Bool → Hp → Prop) : VK := fun x H => ∃ k, x = .bl k ∧ Q k H
def kIf (A B : Hp → Prop) : Bool → Hp → Prop := fun b H => if b = true then A H else B H
def kFld (K : PySem.W.Frag) (f : Str) (Q : VK) : VK := fun x H => ∃ a C dx fs v, x = .ref a ∧ H a = some (.ins C dx fs) ∧ Cls K C ∧ NoAttr K C f ∧ fs.lookup f = some v ∧ Q v H
def kMeth (C : Addr) (m : Str) (sp : Sp) (dvs : List V) (E : XK) (t : TA) (σ : L2.St) (Q : VK) : VK := fun x H1 => ∃ a dx fs, x = .ref a ∧ H1 a = some (.ins C dx fs) ∧ fs.lookup m = none ∧ t σ H1 fun vs H2 => sp (x :: (vs ++ dvs)) H2 Q E
def kBM (K : PySem.W.Frag) (T : String) (r : V → List V → Hp → VK → Prop) (t : TA) (σ : L2.St) (Q : VK) : VK := fun x H1 => tyV K T x H1 ∧ t σ H1 fun xs H2 => r x xs H2 Q
def kIL (K : PySem.W.Frag) (R : It → Hp → Prop) : VK := fun x H1 => ∃ a, x = .ref a ∧ (∃ xs, SqL K H1 a xs) ∧ R (Itl K a) H1
def kIT (K : PySem.W.Frag) (R : It → Hp → Prop) : VK := fun x H1 => ∃ a, x = .ref a ∧ (∃ xs, SqT K H1 a xs) ∧ R (Itt K a) H1
def kR1 (R : It → Hp → Prop) : List V → Hp → Prop := fun vs H1 => ∃ j : Int, vs = [.int j] ∧ -(2 ^ 62) ≤ j ∧ j < 2 ^ 62 ∧ R (Itr 0 j.toNat) H1
def kR2 (R : It → Hp → Prop) : List V → Hp → Prop := fun vs H1 => ∃ i j : Int, vs = [.int i, .int j] ∧ (-(2 ^ 62) ≤ i ∧ i < 2 ^ 62 ∧ -(2 ^ 62) ≤ j ∧ j < 2 ^ 62) ∧ R (Itr i (j - i).toNat) H1
def kFor (g : TG) (tb : TS) (D : Ends) (σ : L2.St) : It → Hp → Prop := fun J H1 => ∃ W : Nat → Nat → L2.St → Hp → Prop, (∃ m, W 0 m σ H1) ∧ ∀ i m σ H, W i m σ H →
  (J.stop i H ∧ D.nx σ H) ∨ (J.go i H ∧ ∃ N : L2.St → Hp → Prop, (∀ σ' H', N σ' H' → ∃ m', m' < m ∧ W (i + 1) m' σ' H') ∧ ∀ x H', J.yld i H x H' → g x σ H' fun σ2 H2 => tb { D with nx := N, ct := N, bk := D.nx } σ2 H2)
def kWh (W : Nat → L2.St → Hp → Prop) (m : Nat) (tb : TS) (nx : L2.St → Hp → Prop) (rt : VK) (σ : L2.St) : Bool → Hp → Prop := fun b H1 =>
  if b = true then ∃ N : L2.St → Hp → Prop, (∀ σ' H', N σ' H' → ∃ m', m' < m ∧ W m' σ' H') ∧ tb ⟨N, rt, nx, N⟩ σ H1 else nx σ H1
def kLc (g : TG) (tt : TT) (te : TE) (vs : List Nat) (σ : L2.St) (Q : VK) : It → Hp → Prop := fun J H1 => ∀ D, H1 D = none → ∃ W : Nat → Nat → Hp → Prop, (∃ m, W 0 m (upd H1 D (.lst []))) ∧ ∀ i m H, W i m H →
  (J.stop i H ∧ Q (.ref D) H) ∨ (J.go i H ∧ ∃ Nx : Hp → Prop, (∀ H', Nx H' → ∃ m', m' < m ∧ W (i + 1) m' H') ∧ ∀ x H', J.yld i H x H' → g x (wipe σ vs) H' fun σ2 H2 => wipe σ2 vs = wipe σ vs ∧ tt σ2 H2 fun b H3 =>
    if b = true then te σ2 H3 fun y H4 => ∃ acc, H4 D = some (.lst acc) ∧ acc.length < sizeLine ∧ Nx (upd H4 D (.lst (acc ++ [y]))) else Nx H3)
/-- what stands behind a turn of a comprehension -/
def kAcc (D : Addr) (Nx : Hp → Prop) : VK := fun y H4 => ∃ acc, H4 D = some (.lst acc) ∧ acc.length < sizeLine ∧ Nx (upd H4 D (.lst (acc ++ [y])))
def kPar (i j : Nat) (σ : L2.St) (nx : L2.St → Hp → Prop) : List V → Hp → Prop := fun vs H1 => ∃ v w, vs = [v, w] ∧ nx ((σ.set i (some v)).set j (some w)) H1
def kPar3 (i j l : Nat) (σ : L2.St) (nx : L2.St → Hp → Prop) : List V → Hp → Prop := fun vs H1 => ∃ u v w, vs = [u, v, w] ∧ nx (((σ.set i (some u)).set j (some v)).set l (some w)) H1
def kTup (Q : VK) : List V → Hp → Prop := fun xs H1 => xs.length ≤ sizeLine ∧ ∀ p, H1 p = none → Q (.ref p) (upd H1 p (.tup xs))
def kLst (Q : VK) : List V → Hp → Prop := fun xs H1 => xs.length ≤ sizeLine ∧ ∀ p, H1 p = none → Q (.ref p) (upd H1 p (.lst xs))
def kMake (C : Addr) (sp : Sp) (dvs : List V) (E : XK) (Q : VK) : List V → Hp → Prop := fun vs H1 => ∀ x dx, H1 x = none → H1 dx = none → dx ≠ x →
  sp (.ref x :: (vs ++ dvs)) (upd (upd H1 dx (.own x)) x (.ins C dx [])) (fun v H2 => v = .non ∧ Q (.ref x) H2) E
def kPart (Q : Option Int → Hp → Prop) : VK := fun x H1 => ∃ i, x = .int i ∧ Q (some i) H1
def kSFld (K : PySem.W.Frag) (f : Str) (y : V) (nx : L2.St → Hp → Prop) (σ : L2.St) : VK := fun x H2 => ∃ a C dx fs, x = .ref a ∧ H2 a = some (.ins C dx fs) ∧ Cls K C ∧ NoAttr K C f ∧ fs.length < 1000 ∧ nx σ (upd H2 a (.ins C dx (putF f y fs)))
def kDG (Q : VK) : V → V → Hp → Prop := fun x y H2 => ∃ a v, x = .ref a ∧ DGet H2 a y (some v) ∧ Q v H2
def kDP (nx : L2.St → Hp → Prop) (σ : L2.St) (v : V) : V → V → Hp → Prop := fun x y H3 => ∃ a H4, x = .ref a ∧ DPut H3 a y v H4 ∧ nx σ H4
def kBits (Q : VK) : VK := fun x H1 => ∃ i, x = .int i ∧ Q (.int (Builtin.Int.intBits i : Nat)) H1
def kCh (r' : R2) (y : V) (tc : TE) (σ : L2.St) (Q : VK) : VK := fun z H3 => ∃ k, z = .bl k ∧ (if k = true then tc σ H3 fun w' H4 => r' y w' H4 Q else Q (.bl false) H3)
def kRev (K : PySem.W.Frag) (Q : VK) : VK := fun x H1 => ∃ a xs, x = .ref a ∧ SqL K H1 a xs ∧ ∀ p, H1 p = none → Q (.ref p) (upd H1 p (.lst xs.reverse))
/-- the slot i holds v from here on -/
inductive Sets (v : Option V) : L2.St → Nat → L2.St → Prop where
  | here {a l} : Sets v (a :: l) 0 (v :: l)
  | there {a l i l'} : Sets v l i l' → Sets v (a :: l) (i + 1) (a :: l')
theorem Sets.eq {v : Option V} : ∀ {σ : L2.St} {i : Nat} {σ' : L2.St}, Sets v σ i σ' → σ.set i v = σ'
  | _, _, _, .here => rfl
  | _, _, _, .there r => congrArg (List.cons _) r.eq
section
variable {K : PySem.W.Frag} {σ σ' σ1 σ2 : L2.St} {H H' H0 : Hp} {Q : VK} {QB : Bool → Hp → Prop} {QA : List V → Hp → Prop} {nx bk ct : L2.St → Hp → Prop} {rt : VK} {D : Ends} {M : List Addr} {L L' : List (Addr × HO)}
  {ta tb tc te : TE} {tA tB' tT tU : TT} {ts tu : TS} {tr tl : TA} {v w x y : V} {i j : Nat} {n m : Int} {b c : Bool} {A B : Hp → Prop} {a l p C dx : Addr} {fs : List (Str × V)} {f : Str} {xs ys : List V} {r : R2} {o u : HO}
theorem rd_seq (q : ts ⟨tu ⟨nx, rt, bk, ct⟩, rt, bk, ct⟩ σ H) : tSeq ts tu ⟨nx, rt, bk, ct⟩ σ H := q
theorem rd_next (q : nx σ H) : tNext ⟨nx, rt, bk, ct⟩ σ H := q
theorem rd_asg {g : TG} (q : te σ H fun x H1 => g x σ H1 nx) : tAsg te g ⟨nx, rt, bk, ct⟩ σ H := q
theorem rd_name {k : L2.St → Hp → Prop} (hs : Sets (some v) σ i σ') (q : k σ' H) : gName i v σ H k := by unfold gName; rw [hs.eq]; exact q
theorem rd_ret (q : te σ H rt) : tRet te ⟨nx, rt, bk, ct⟩ σ H := q
theorem rd_retN (q : rt .non H) : tRetN ⟨nx, rt, bk, ct⟩ σ H := q
theorem rd_drop (q : te σ H fun _ H1 => nx σ H1) : tDrop te ⟨nx, rt, bk, ct⟩ σ H := q
theorem rd_ifS (q : tT σ H (kIf (fun H1 => ts D σ H1) (fun H1 => tu D σ H1))) : tIfS tT ts tu D σ H := q
theorem rd_T (h : b = true) (q : A H) : kIf A B b H := by unfold kIf; rw [if_pos h]; exact q
theorem rd_F (h : b = false) (q : B H) : kIf A B b H := by unfold kIf; rw [h, if_neg Bool.false_ne_true]; exact q
theorem rd_2 (h : b = true → A H) (k : b = false → B H) : kIf A B b H := by
  cases b with
  | true => exact rd_T rfl (h rfl)
  | false => exact rd_F rfl (k rfl)
theorem rd_Td {P : Prop} [Decidable P] (h : P) (q : A H) : kIf A B (decide P) H := rd_T (decide_eq_true h) q
theorem rd_Fd {P : Prop} [Decidable P] (h : ¬ P) (q : B H) : kIf A B (decide P) H := rd_F (decide_eq_false h) q
theorem rd_2d {P : Prop} [Decidable P] (h : P → A H) (k : ¬ P → B H) : kIf A B (decide P) H := rd_2 (fun e => h (of_decide_eq_true e)) (fun e => k (of_decide_eq_false e))
theorem rd_Tn {P : Prop} [Decidable P] (h : ¬ P) (q : A H) : kIf A B (!decide P) H := rd_T (by rw [decide_eq_false h]; rfl) q
theorem rd_Fn {P : Prop} [Decidable P] (h : P) (q : B H) : kIf A B (!decide P) H := rd_F (by rw [decide_eq_true h]; rfl) q
theorem rd_par (q : tr σ H (kPar i j σ nx)) : tPar i j tr ⟨nx, rt, bk, ct⟩ σ H := q
theorem rd_kPar (h1 : Sets (some v) σ i σ1) (h2 : Sets (some w) σ1 j σ') (q : nx σ' H) : kPar i j σ nx [v, w] H := ⟨v, w, rfl, by rw [h1.eq, h2.eq]; exact q⟩
theorem rd_par3 {k : Nat} (q : tr σ H (kPar3 i j k σ nx)) : tPar3 i j k tr ⟨nx, rt, bk, ct⟩ σ H := q
theorem rd_kPar3 {k : Nat} (h1 : Sets (some v) σ i σ1) (h2 : Sets (some w) σ1 j σ2) (h3 : Sets (some x) σ2 k σ') (q : nx σ' H) : kPar3 i j k σ nx [v, w, x] H := ⟨v, w, x, rfl, by rw [h1.eq, h2.eq, h3.eq]; exact q⟩
theorem rd_sFld (q : te σ H fun y H1 => ta σ H1 (kSFld K f y nx σ)) : sFld K ta te f ⟨nx, rt, bk, ct⟩ σ H := q
theorem rd_sDPut {td ty tv : TE} (q : tv σ H fun v H1 => td σ H1 fun x H2 => ty σ H2 fun y H3 => kDP nx σ v x y H3) : sDPut td ty tv ⟨nx, rt, bk, ct⟩ σ H := q
theorem rd_for {wi : TI} {g : TG} (q : wi σ H (kFor g ts D σ)) : tFor wi g ts D σ H := q
theorem rd_while (W : Nat → L2.St → Hp → Prop) (m0 : Nat) (h0 : W m0 σ H) (q : ∀ m σ H, W m σ H → tT σ H (kWh W m ts nx rt σ)) : tWhile tT ts ⟨nx, rt, bk, ct⟩ σ H := ⟨W, ⟨m0, h0⟩, q⟩
theorem rd_whT {W : Nat → L2.St → Hp → Prop} {m : Nat} (h : b = true) (q : ts ⟨fun σ' H' => ∃ m', m' < m ∧ W m' σ' H', rt, nx, fun σ' H' => ∃ m', m' < m ∧ W m' σ' H'⟩ σ H) : kWh W m ts nx rt σ b H := by
  unfold kWh; rw [if_pos h]; exact ⟨_, fun _ _ z => z, q⟩
theorem rd_whF {W : Nat → L2.St → Hp → Prop} {m : Nat} (h : b = false) (q : nx σ H) : kWh W m ts nx rt σ b H := by
  unfold kWh; rw [h, if_neg Bool.false_ne_true]; exact q
theorem rd_wh2 {W : Nat → L2.St → Hp → Prop} {m : Nat} {P : Prop} [Decidable P] (q : P → ts ⟨fun σ' H' => ∃ m', m' < m ∧ W m' σ' H', rt, nx, fun σ' H' => ∃ m', m' < m ∧ W m' σ' H'⟩ σ H) (q' : ¬ P → nx σ H) : kWh W m ts nx rt σ (decide P) H := by
  by_cases h : P
  · exact rd_whT (decide_eq_true h) (q h)
  · exact rd_whF (decide_eq_false h) (q' h)
theorem rd_var (h : σ[i]? = some (some v)) (q : Q v H) : tVar i σ H Q := ⟨v, h, q⟩
theorem rd_c (q : Q v H) : tC v σ H Q := q
theorem rd_op (q : ta σ H fun x H1 => tb σ H1 fun y H2 => r x y H2 Q) : tOp r ta tb σ H Q := q
theorem rd_un {ru : V → Hp → VK → Prop} (q : ta σ H fun x H1 => ru x H1 Q) : tUn ru ta σ H Q := q
theorem dec_int : decide (V.int n = V.int m) = decide (n = m) := by simp
theorem dec_str {s t : Str} : decide (V.str s = V.str t) = decide (s = t) := by simp
theorem dec_bl : decide (V.bl b = V.bl c) = decide (b = c) := by simp
theorem rd_eqI (q : Q (.bl (decide (n = m))) H) : rEq (.int n) (.int m) H Q := ⟨rfl, by rw [dec_int]; exact q⟩
theorem rd_neI (q : Q (.bl (!decide (n = m))) H) : rNe (.int n) (.int m) H Q := ⟨rfl, by rw [dec_int]; exact q⟩
theorem rd_eqS {s t : Str} (q : Q (.bl (decide (s = t))) H) : rEq (.str s) (.str t) H Q := ⟨rfl, by rw [dec_str]; exact q⟩
theorem rd_neS {s t : Str} (q : Q (.bl (!decide (s = t))) H) : rNe (.str s) (.str t) H Q := ⟨rfl, by rw [dec_str]; exact q⟩
theorem rd_eqB (q : Q (.bl (decide (b = c))) H) : rEq (.bl b) (.bl c) H Q := ⟨rfl, by rw [dec_bl]; exact q⟩
theorem rd_neB (q : Q (.bl (!decide (b = c))) H) : rNe (.bl b) (.bl c) H Q := ⟨rfl, by rw [dec_bl]; exact q⟩
theorem rd_test (q : te σ H (kB QB)) : tTest te σ H QB := q
theorem rd_tB (q : te σ H (kB QB)) : L2.tB te σ H QB := q
theorem rd_kB (q : QB b H) : kB QB (.bl b) H := ⟨b, rfl, q⟩
theorem rd_and (q : tT σ H (kIf (fun H1 => tU σ H1 QB) (fun H1 => QB false H1))) : tAnd tT tU σ H QB := q
theorem rd_or (q : tT σ H (kIf (fun H1 => QB true H1) (fun H1 => tU σ H1 QB))) : tOr tT tU σ H QB := q
theorem rd_not (q : tT σ H fun c H1 => QB (!c) H1) : tNot tT σ H QB := q
theorem rd_andV (q : ta σ H (kB (kIf (fun H1 => tb σ H1 Q) (fun H1 => Q (.bl false) H1)))) : tAndV ta tb σ H Q := q
theorem rd_orV (q : ta σ H (kB (kIf (fun H1 => Q (.bl true) H1) (fun H1 => tb σ H1 Q)))) : tOrV ta tb σ H Q := q
theorem rd_notV (q : ta σ H (kB fun c H1 => Q (.bl (!c)) H1)) : tNotV ta σ H Q := q
theorem rd_ifE (q : tT σ H (kIf (fun H1 => ta σ H1 Q) (fun H1 => tb σ H1 Q))) : tIf tT ta tb σ H Q := q
theorem rd_chain {r' : R2} (q : ta σ H fun x H1 => tb σ H1 fun y H2 => r x y H2 (kCh r' y tc σ Q)) : tChain r r' ta tb tc σ H Q := q
theorem rd_kChT {r' : R2} (h : b = true) (q : tc σ H fun w' H4 => r' y w' H4 Q) : kCh r' y tc σ Q (.bl b) H := ⟨b, rfl, by rw [if_pos h]; exact q⟩
theorem rd_kChF {r' : R2} (h : b = false) (q : Q (.bl false) H) : kCh r' y tc σ Q (.bl b) H := ⟨b, rfl, by rw [h, if_neg Bool.false_ne_true]; exact q⟩
theorem rd_bits (q : ta σ H (kBits Q)) : tBits ta σ H Q := q
theorem rd_kBits (q : Q (.int (Builtin.Int.intBits n : Nat)) H) : kBits Q (.int n) H := ⟨n, rfl, q⟩
theorem rd_nil (q : QA [] H) : tNil σ H QA := q
theorem rd_cons (q : ta σ H fun x H1 => tr σ H1 fun xs H2 => QA (x :: xs) H2) : tCons ta tr σ H QA := q
theorem rd_call {sp : Sp} {E : XK} (q : tr σ H fun vs H1 => sp vs H1 Q E) : tCall sp [] E tr σ H Q := by
  unfold tCall
  simp only [List.append_nil]
  exact q
theorem rd_cb {rc : List V → Hp → VK → Prop} (q : tr σ H fun vs H1 => rc vs H1 Q) : tCB rc tr σ H Q := q
theorem rd_meth {sp : Sp} {E : XK} {dvs : List V} (q : ta σ H (kMeth C f sp dvs E tr σ Q)) : tMeth C f sp dvs E ta tr σ H Q := q
theorem rd_kMeth {sp : Sp} {E : XK} (h : H a = some (.ins C dx fs)) (hl : fs.lookup f = none) (q : tr σ H fun vs H2 => sp (.ref a :: vs) H2 Q E) : kMeth C f sp [] E tr σ Q (.ref a) H := by
  refine ⟨a, dx, fs, rfl, h, hl, ?_⟩
  simp only [List.append_nil]
  exact q
theorem rd_make {sp : Sp} {E : XK} {dvs : List V} (q : tr σ H (kMake C sp dvs E Q)) : tMake C sp dvs E tr σ H Q := q
theorem rd_bm {T : String} {rm : V → List V → Hp → VK → Prop} (q : ta σ H (kBM K T rm tr σ Q)) : tBM K T rm ta tr σ H Q := q
theorem rd_bm0 {T : String} {rm : V → List V → Hp → VK → Prop} (q : ta σ H fun x H1 => tyV K T x H1 ∧ rm x [] H1 Q) : tBM0 K T rm ta σ H Q := q
theorem rd_kBMl {rm : V → List V → Hp → VK → Prop} (h : H l = some (.lst xs)) (q : tr σ H fun ys H2 => rm (.ref l) ys H2 Q) : kBM K "list" rm tr σ Q (.ref l) H := ⟨.inl ⟨rfl, _, SqL.of h⟩, q⟩
theorem rd_append (W : Wd H0 H M L) (r : Rp l (.lst xs) (.lst (xs ++ [y])) L L') (hm : H0 l = none ∨ l ∈ M) (hl : xs.length < sizeLine) (q : ∀ H', Wd H0 H' M L' → Q .non H') : rAppend (.ref l) [y] H Q :=
  ⟨l, xs, y, rfl, rfl, W.get r.mem, hl, q _ (W.put r hm)⟩
theorem rd_fld (q : ta σ H (kFld K f Q)) : tFld K ta f σ H Q := q
theorem rd_kFld (c : Cls K C) (n : NoAttr K C f) (h : H a = some (.ins C dx fs)) (hl : fs.lookup f = some v) (q : Q v H) : kFld K f Q (.ref a) H := ⟨a, C, dx, fs, v, rfl, h, c, n, hl, q⟩
theorem rd_kSFld (W : Wd H0 H M L) (c : Cls K C) (n : NoAttr K C f) (r : Rp a (.ins C dx fs) (.ins C dx (putF f y fs)) L L') (hm : H0 a = none ∨ a ∈ M) (hl : fs.length < 1000) (q : ∀ H', Wd H0 H' M L' → nx σ H') : kSFld K f y nx σ (.ref a) H :=
  ⟨a, C, dx, fs, rfl, W.get r.mem, c, n, hl, q _ (W.put r hm)⟩
theorem rd_tup (q : tr σ H (kTup Q)) : tTup tr σ H Q := q
theorem rd_lst (q : tr σ H (kLst Q)) : tLst tr σ H Q := q
theorem rd_kTup (W : Wd H0 H M L) (hl : xs.length ≤ sizeLine) (q : ∀ p H', H0 p = none → Wd H0 H' M ((p, .tup xs) :: L) → Q (.ref p) H') : kTup Q xs H := ⟨hl, fun p hp => q p _ (W.fresh hp) (W.new hp)⟩
theorem rd_kLst (W : Wd H0 H M L) (hl : xs.length ≤ sizeLine) (q : ∀ p H', H0 p = none → Wd H0 H' M ((p, .lst xs) :: L) → Q (.ref p) H') : kLst Q xs H := ⟨hl, fun p hp => q p _ (W.fresh hp) (W.new hp)⟩
theorem rd_ixL (h : SqL K H p xs) (hv : atI xs n = some v) (q : Q v H) : rIxL K (.ref p) (.int n) H Q := ⟨p, xs, n, v, rfl, rfl, h, hv, q⟩
theorem rd_ixT (h : SqT K H p xs) (hv : atI xs n = some v) (q : Q v H) : rIxT K (.ref p) (.int n) H Q := ⟨p, xs, n, v, rfl, rfl, h, hv, q⟩
theorem rd_sub {tS : TSet} {k : L2.St → Hp → Prop} (q : ta σ H fun o H1 => tb σ H1 fun i H2 => tS o i v H2 fun H3 => k σ H3) : gSub ta tb tS v σ H k := q
theorem rd_setL {k : Hp → Prop} (W : Wd H0 H M L) (hj : ixN xs.length n = some j) (r : Rp p (.lst xs) (.lst (xs.set j v)) L L') (hm : H0 p = none ∨ p ∈ M) (q : ∀ H', Wd H0 H' M L' → k H') : rSetL (.ref p) (.int n) v H k :=
  ⟨p, xs, n, j, rfl, rfl, W.get r.mem, hj, q _ (W.put r hm)⟩
theorem rd_sl {rs : V → Option Int → Option Int → Hp → VK → Prop} {to1 to2 : TO} (q : te σ H fun x H1 => to1 σ H1 fun l H2 => to2 σ H2 fun u H3 => rs x l u H3 Q) : tSl rs te to1 to2 σ H Q := q
theorem rd_noPart {QO : Option Int → Hp → Prop} (q : QO none H) : tNoPart σ H QO := q
theorem rd_part {QO : Option Int → Hp → Prop} (q : te σ H (kPart QO)) : tPart te σ H QO := q
theorem rd_kPart {QO : Option Int → Hp → Prop} (q : QO (some n) H) : kPart QO (.int n) H := ⟨n, rfl, q⟩
theorem rd_slL {lo hi : Option Int} (W : Wd H0 H M L) (h : SqL K H a xs) (hc : cutV xs lo hi = ys) (q : ∀ p H', H0 p = none → Wd H0 H' M ((p, .lst ys) :: L) → Q (.ref p) H') : rSlL K (.ref a) lo hi H Q :=
  ⟨a, xs, rfl, h, fun p hp => by subst hc; exact q p _ (W.fresh hp) (W.new hp)⟩
theorem rd_revL (q : te σ H (kRev K Q)) : tRevL K te σ H Q := q
theorem rd_gTup {k : Nat} {gs : TGs} {kk : L2.St → Hp → Prop} (h : SqT K H a xs) (hl : xs.length = k) (q : gs xs σ H kk) : gTup K k gs (.ref a) σ H kk := ⟨a, xs, rfl, h, hl, q⟩
theorem rd_gCons {g : TG} {gs : TGs} {kk : L2.St → Hp → Prop} (q : g v σ H fun σ' H' => gs xs σ' H' kk) : gCons g gs (v :: xs) σ H kk := ⟨v, xs, rfl, q⟩
theorem rd_gNil {kk : L2.St → Hp → Prop} (q : kk σ H) : gNil [] σ H kk := ⟨rfl, q⟩
theorem rd_dget {td ty : TE} (q : td σ H fun x H1 => ty σ H1 fun y H2 => kDG Q x y H2) : tDGet td ty σ H Q := q
theorem rd_kDGs {kvs : List (Key × V)} {s : Str} (h : H a = some (.dK kvs)) (hv : valV kvs (Sum.inr s : Key) = some v) (q : Q v H) : kDG Q (.ref a) (.str s) H := ⟨a, v, rfl, hv ▸ DGet.k (k := Sum.inr s) h, q⟩
theorem rd_kDPs {kvs : List (Key × V)} {s : Str} (W : Wd H0 H M L) (r : Rp a (.dK kvs) (.dK (putK kvs (Sum.inr s : Key) v)) L L') (hm : H0 a = none ∨ a ∈ M) (hl : kvs.length < sizeLine) (q : ∀ H', Wd H0 H' M L' → nx σ H') : kDP nx σ v (.ref a) (.str s) H :=
  ⟨a, _, rfl, DPut.k (k := Sum.inr s) (W.get r.mem) hl, q _ (W.put r hm)⟩
theorem rd_iList {R : It → Hp → Prop} (q : te σ H (kIL K R)) : iList K te σ H R := q
theorem rd_kIL {R : It → Hp → Prop} (h : SqL K H a xs) (q : R (Itl K a) H) : kIL K R (.ref a) H := ⟨a, rfl, ⟨_, h⟩, q⟩
theorem rd_iTup {R : It → Hp → Prop} (q : te σ H (kIT K R)) : iTup K te σ H R := q
theorem rd_kIT {R : It → Hp → Prop} (h : SqT K H a xs) (q : R (Itt K a) H) : kIT K R (.ref a) H := ⟨a, rfl, ⟨_, h⟩, q⟩
theorem rd_iR1 {R : It → Hp → Prop} (q : tr σ H (kR1 R)) : iRng1 tr σ H R := q
theorem rd_iR2 {R : It → Hp → Prop} (q : tr σ H (kR2 R)) : iRng2 tr σ H R := q
theorem rd_forT {g : TG} (Pv : Nat → L2.St → Hp → Prop) (h0 : Pv 0 σ H) (hl : ∀ i σ H, i ≤ xs.length → Pv i σ H → SqT K H a xs)
    (hs : ∀ i x σ H, xs[i]? = some x → Pv i σ H → g x σ H fun σ2 H2 => ts ⟨Pv (i + 1), rt, nx, Pv (i + 1)⟩ σ2 H2) (hd : ∀ σ H, Pv xs.length σ H → nx σ H) : kFor g ts ⟨nx, rt, bk, ct⟩ σ (Itt K a) H :=
  for_tup (D := ⟨nx, rt, bk, ct⟩) Pv h0 hl hs hd
theorem rd_lc {wi : TI} {g : TG} {vs : List Nat} (q : wi σ H (kLc g tT te vs σ Q)) : tLc wi g tT te vs σ H Q := q
theorem rd_yes (q : QB true H) : tYes σ H QB := q
/-- over a list: Pv (items taken, heap); D the list that grows -/
theorem rd_lcL {g : TG} {vs : List Nat} (hq : ∀ D, H D = none → ∃ Pv : Nat → Hp → Prop, Pv 0 (upd H D (.lst [])) ∧ (∀ i H, i ≤ xs.length → Pv i H → SqL K H a xs) ∧
    (∀ i x H, xs[i]? = some x → Pv i H → g x (wipe σ vs) H fun σ2 H2 => wipe σ2 vs = wipe σ vs ∧ tT σ2 H2 (kIf (fun H3 => te σ2 H3 (kAcc D (Pv (i + 1)))) (fun H3 => Pv (i + 1) H3))) ∧ ∀ H, Pv xs.length H → Q (.ref D) H) : kLc g tT te vs σ Q (Itl K a) H := fun D hD => by
  obtain ⟨Pv, h0, hl, hs, hd⟩ := hq D hD
  exact lc_list Pv h0 hl hs hd
theorem rd_lcT {g : TG} {vs : List Nat} (hq : ∀ D, H D = none → ∃ Pv : Nat → Hp → Prop, Pv 0 (upd H D (.lst [])) ∧ (∀ i H, i ≤ xs.length → Pv i H → SqT K H a xs) ∧
    (∀ i x H, xs[i]? = some x → Pv i H → g x (wipe σ vs) H fun σ2 H2 => wipe σ2 vs = wipe σ vs ∧ tT σ2 H2 (kIf (fun H3 => te σ2 H3 (kAcc D (Pv (i + 1)))) (fun H3 => Pv (i + 1) H3))) ∧ ∀ H, Pv xs.length H → Q (.ref D) H) : kLc g tT te vs σ Q (Itt K a) H := fun D hD => by
  obtain ⟨Pv, h0, hl, hs, hd⟩ := hq D hD
  exact lc_tup Pv h0 hl hs hd
theorem rd_kAcc {Nx : Hp → Prop} (W : Wd H0 H M L) (r : Rp l (.lst xs) (.lst (xs ++ [y])) L L') (hm : H0 l = none ∨ l ∈ M) (hl : xs.length < sizeLine) (q : ∀ H', Wd H0 H' M L' → Nx H') : kAcc l Nx y H :=
  ⟨xs, W.get r.mem, hl, q _ (W.put r hm)⟩
def rAbs : List V → Hp → VK → Prop := fun xs H Q => ∃ i, xs = [.int i] ∧ Q (.int (if i < 0 then -i else i)) H
def rInt : List V → Hp → VK → Prop := fun xs H Q => (∃ i, xs = [.int i] ∧ Q (.int i) H) ∨ ∃ k, xs = [.bl k] ∧ Q (.int (if k then 1 else 0)) H
def rLen (K : PySem.W.Frag) : List V → Hp → VK → Prop := fun xs H Q => ∃ p ys, xs = [.ref p] ∧ (SqL K H p ys ∨ SqT K H p ys) ∧ Q (.int ys.length) H
def rList (K : PySem.W.Frag) : List V → Hp → VK → Prop := fun xs H Q => ∃ p ys, xs = [.ref p] ∧ (SqL K H p ys ∨ SqT K H p ys) ∧ ∀ l, H l = none → Q (.ref l) (upd H l (.lst ys))
def rTupL (K : PySem.W.Frag) : List V → Hp → VK → Prop := fun xs H Q => ∃ p ys, xs = [.ref p] ∧ SqL K H p ys ∧ ∀ l, H l = none → Q (.ref l) (upd H l (.tup ys))
def rDict (K : PySem.W.Frag) : List V → Hp → VK → Prop := fun xs H Q => ∃ (a : Addr) (ps : List Addr) (kvs : List (Key × V)), xs = [.ref a] ∧ SqL K H a (ps.map V.ref) ∧ Paired (fun p kv => SqT K H p [kV kv.1, kv.2]) ps kvs ∧ ∀ p, H p = none → Q (.ref p) (upd H p (.dK (mergeK [] kvs)))
theorem rd_abs (q : Q (.int (if n < 0 then -n else n)) H) : rAbs [.int n] H Q := ⟨n, rfl, q⟩
theorem rd_int (q : Q (.int n) H) : rInt [.int n] H Q := .inl ⟨n, rfl, q⟩
theorem rd_intB (q : Q (.int (if b then 1 else 0)) H) : rInt [.bl b] H Q := .inr ⟨b, rfl, q⟩
theorem rd_lenL (h : SqL K H p xs) (q : Q (.int xs.length) H) : rLen K [.ref p] H Q := ⟨p, xs, rfl, .inl h, q⟩
theorem rd_lenT (h : SqT K H p xs) (q : Q (.int xs.length) H) : rLen K [.ref p] H Q := ⟨p, xs, rfl, .inr h, q⟩
theorem rd_list (W : Wd H0 H M L) (h : SqL K H a xs ∨ SqT K H a xs) (q : ∀ p H', H0 p = none → Wd H0 H' M ((p, .lst xs) :: L) → Q (.ref p) H') : rList K [.ref a] H Q := ⟨a, xs, rfl, h, fun p hp => q p _ (W.fresh hp) (W.new hp)⟩
theorem rd_tupL (W : Wd H0 H M L) (h : SqL K H a xs) (q : ∀ p H', H0 p = none → Wd H0 H' M ((p, .tup xs) :: L) → Q (.ref p) H') : rTupL K [.ref a] H Q := ⟨a, xs, rfl, h, fun p hp => q p _ (W.fresh hp) (W.new hp)⟩
end
section
variable {X : Cx}
theorem c_abs : CallR X (.builtin "abs") rAbs := call_abs
theorem c_int : CallR X (.type "int") rInt := call_int1
theorem c_len : CallR X (.builtin "len") (rLen X.K) := call_len_seq
theorem c_list : CallR X (.type "list") (rList X.K) := call_list_of
theorem c_tupL : CallR X (.type "tuple") (rTupL X.K) := fun pins s σ H xs us Q I r h => by
  obtain ⟨p, ys, e, h1, q⟩ := h
  exact call_tuple_of pins s σ H xs us Q I r ⟨p, ys, e, .inl ⟨h1, q⟩⟩
theorem c_dict (h : X.calm = true) : CallR X (.type "dict") (rDict X.K) := call_dictP h
end
end Eng
namespace Eng
open PySem L2
def oDiv (i j : Int) : Prop := 0 < j ∧ Builtin.divisionGoesByPylong i j = false
def oPow (i j : Int) : Prop := 0 ≤ j ∧ (Builtin.Int.intBits i : Int) * j ≤ 2 ^ 27
def rAdd : R2 := rI0 fun i j => .int (i + j)
def rSub : R2 := rI0 fun i j => .int (i - j)
def rMul : R2 := rI IntMulOk fun i j => .int (i * j)
def rDiv : R2 := rI oDiv fun i j => .int (i / j)
def rMod : R2 := rI (fun _ j => 0 < j) fun i j => .int (i % j)
def rPow : R2 := rI oPow fun i j => .int (i ^ j.toNat)
def rShl : R2 := rI CShl fun i j => .int (i * 2 ^ j.toNat)
def rShr : R2 := rI (fun _ j => 0 ≤ j) fun i j => .int (i / 2 ^ j.toNat)
def rAnd : R2 := rI0 fun i j => .int (Builtin.bitAnd i j)
def rOr : R2 := rI0 fun i j => .int (Builtin.bitOr i j)
def rXor : R2 := rI0 fun i j => .int (Builtin.bitXor i j)
def rLt : R2 := rI0 fun i j => .bl (decide (i < j))
def rLe : R2 := rI0 fun i j => .bl (decide (i ≤ j))
def rGt : R2 := rI0 fun i j => .bl (decide (j < i))
def rGe : R2 := rI0 fun i j => .bl (decide (j ≤ i))
def rNeg : V → Hp → VK → Prop := rU fun i => .int (-i)
section
variable {X : Cx}
theorem o_add : OpR X (binaryOp .Add) rAdd := op_add
theorem o_sub : OpR X (binaryOp .Sub) rSub := op_sub
theorem o_mul : OpR X (binaryOp .Mult) rMul := opI fun _ _ _ _ _ _ _ hc q => PyProof.Rows.mul_int q hc
theorem o_div : OpR X (binaryOp .FloorDiv) rDiv := opI fun i j _ _ _ _ _ hc q => by
  have h1 : (0 : Int) < j := hc.1
  exact PyProof.Rows.floordiv_int (by omega) (by rw [Int.fdiv_eq_ediv_of_nonneg i (by omega)]; exact q) (.inl hc.2)
theorem o_mod : OpR X (binaryOp .Mod) rMod := op_mod
theorem o_pow : OpR X (binaryOp .Pow) rPow := opI fun _ _ _ _ _ _ _ hc q => PyProof.Rows.pow_int hc.1 hc.2 q
theorem o_shl : OpR X (binaryOp .LShift) rShl := op_shlW
theorem o_shr : OpR X (binaryOp .RShift) rShr := op_shr
theorem o_and : OpR X (binaryOp .BitAnd) rAnd := op_and
theorem o_or : OpR X (binaryOp .BitOr) rOr := op_or
theorem o_lt : OpR X (compareOp .Lt) rLt := op_lt
theorem o_le : OpR X (compareOp .LtE) rLe := op_le
theorem o_gt : OpR X (compareOp .Gt) rGt := op_gt
theorem o_ge : OpR X (compareOp .GtE) rGe := op_ge
theorem o_neg : UnR X (unaryOp .USub) rNeg := un_neg
end
section
variable {H : Hp} {Q : VK} {n m : Int}
theorem rd_add (q : Q (.int (n + m)) H) : rAdd (.int n) (.int m) H Q := ⟨n, m, rfl, rfl, q⟩
theorem rd_subI (q : Q (.int (n - m)) H) : rSub (.int n) (.int m) H Q := ⟨n, m, rfl, rfl, q⟩
theorem rd_mul (h : IntMulOk n m) (q : Q (.int (n * m)) H) : rMul (.int n) (.int m) H Q := ⟨n, m, rfl, rfl, h, q⟩
theorem rd_div (h : oDiv n m) (q : Q (.int (n / m)) H) : rDiv (.int n) (.int m) H Q := ⟨n, m, rfl, rfl, h, q⟩
theorem rd_mod (h : 0 < m) (q : Q (.int (n % m)) H) : rMod (.int n) (.int m) H Q := ⟨n, m, rfl, rfl, h, q⟩
theorem rd_pow (h : oPow n m) (q : Q (.int (n ^ m.toNat)) H) : rPow (.int n) (.int m) H Q := ⟨n, m, rfl, rfl, h, q⟩
theorem rd_shl (h : CShl n m) (q : Q (.int (n * 2 ^ m.toNat)) H) : rShl (.int n) (.int m) H Q := ⟨n, m, rfl, rfl, h, q⟩
theorem rd_shr (h : 0 ≤ m) (q : Q (.int (n / 2 ^ m.toNat)) H) : rShr (.int n) (.int m) H Q := ⟨n, m, rfl, rfl, h, q⟩
theorem rd_andI (q : Q (.int (Builtin.bitAnd n m)) H) : rAnd (.int n) (.int m) H Q := ⟨n, m, rfl, rfl, q⟩
theorem rd_orI (q : Q (.int (Builtin.bitOr n m)) H) : rOr (.int n) (.int m) H Q := ⟨n, m, rfl, rfl, q⟩
theorem rd_xorI (q : Q (.int (Builtin.bitXor n m)) H) : rXor (.int n) (.int m) H Q := ⟨n, m, rfl, rfl, q⟩
theorem rd_lt (q : Q (.bl (decide (n < m))) H) : rLt (.int n) (.int m) H Q := ⟨n, m, rfl, rfl, q⟩
theorem rd_le (q : Q (.bl (decide (n ≤ m))) H) : rLe (.int n) (.int m) H Q := ⟨n, m, rfl, rfl, q⟩
theorem rd_gt (q : Q (.bl (decide (m < n))) H) : rGt (.int n) (.int m) H Q := ⟨n, m, rfl, rfl, q⟩
theorem rd_ge (q : Q (.bl (decide (m ≤ n))) H) : rGe (.int n) (.int m) H Q := ⟨n, m, rfl, rfl, q⟩
theorem rd_neg (q : Q (.int (-n)) H) : rNeg (.int n) H Q := ⟨n, rfl, q⟩
end
theorem mul_okL {n m : Int} (h1 : -(2 ^ 64) < n) (h2 : n < 2 ^ 64) : IntMulOk n m := .of_left (intBits_le_64 h1 h2)
theorem mul_okR {n m : Int} (h1 : -(2 ^ 64) < m) (h2 : m < 2 ^ 64) : IntMulOk n m := .of_right (intBits_le_64 h1 h2)
theorem div_ok {n m : Int} {k : Nat} (h : 0 < m) (hm : m.natAbs < 2 ^ k) (hk : k ≤ 9000) (hp : 0 < k) : oDiv n m := ⟨h, PyProof.noPylong_of_log2 (Nat.lt_of_lt_of_le (PySem.Flt.log2_lt_of hp hm) hk)⟩
theorem div_ok64 {n m : Int} (h : 0 < m) (hm : m < 2 ^ 64) : oDiv n m := div_ok (k := 64) h (by omega) (by decide) (by decide)
end Eng
namespace Eng
open PySem PySem.Spec PyProof.Rows L2
section
variable {X : Cx} {CX : CXT} {k : Nat} {f : Addr} {fd : FuncData} {ps ks : List Str} {sp : Sp} {E : XK} {x : Str} {p pos : Pos} {kws : List Keyword} {tk : TA} {g : List Value → List Value} {gV : List V → List V} {n : Nat}
/-- f(k = v, ..): how the keywords' values come to the parameters -/
structure KB0 (K : PySem.W.Frag) (fd : FuncData) (ps ks : List Str) (g : List Value → List Value) (gV : List V → List V) : Prop where
  to : ∀ (s : Shared) (ws : List Value), K.In s.heap → ws.length = ks.length → BindsTo s fd ⟨[], ks.zip ws⟩ (ps.zip (g ws))
  rel : ∀ {zs : List V} {ws : List Value}, Vals zs ws → Vals (gV zs) (g ws)
def tKw (n : Nat) (sp : Sp) (gV : List V → List V) (E : XK) (tk : TA) : TE := fun σ H Q => tk σ H fun zs H1 => zs.length = n ∧ sp (gV zs) H1 Q E
theorem pe_kw (F : FnOk X.prog X.w X.K X.mg X.base CX k f fd ps sp) (hr : Room k X.A) (hg : Gl X x) (hm : X.mg x = some (.ref f)) (hk : PySem.W.keepIn X.K (.ref f) = true) (hb : KB0 X.K fd ps ks g gV) (hx : Passes CX X E)
    (hkw : PK X kws tk) (hall : (backToKw pos (keywordEach kws X.env)).all (·.1.isSome) = true := by rfl) (hks : (backToKw pos (keywordEach kws X.env)).filterMap (·.1) = ks := by rfl)
    (hdb : (x == ("__debug__" : Str)) = false := by decide)
    (hpl : ((backTo pos (starEach [] X.env)).any (·.1) || (backToKw pos (keywordEach kws X.env)).any (·.1.isNone)) = false := by rfl) (hn : n = ks.length := by rfl) :
    PE X (.Call (.Name x p) [] kws pos) (tKw n sp gV E tk) := by
  refine ⟨fun pins s σ H Q I h => ?_⟩
  refine wpAny_Call_Name_kw (ld_glob I hg hm ?_ hdb)
  refine PySem.W.callWith_KW0 (h₀ := X.base) I.ok.mod.kin hk hall (thn (hkw.run pos pins s σ H _ I h) fun ws s2 ⟨zs, H2, I2, rz, l2, q2⟩ => ⟨I2.kIn, ?_⟩) hpl
  rw [hks]
  have r2 := hb.rel rz
  show wpAny _ _ (call (.ref f) [] (ks.zip ws)) _ _ _
  refine wpAny_call (codeAny_mono (F.run X.A X.stack s2 H2 ⟨[], ks.zip ws⟩ (g ws) (gV zs) Q E hr I2.env0 (hb.to s2 ws I2.kIn (rz.length.symm.trans (l2.trans hn))) r2 q2) fun r s' hq => ?_)
  cases r with
  | error e => exact hx pins σ H2 s2 e s' I2 hq
  | ok fl =>
    cases fl with
    | ret u => exact I2.after hq
    | next => exact False.elim hq
    | brk => exact False.elim hq
    | cont => exact False.elim hq
end
theorem adj_rev (n : Nat) : Builtin.Slice.sliceAdjust none none (-1) (n : Int) = ((n : Int) - 1, -1) := by
  unfold Builtin.Slice.sliceAdjust
  simp
theorem places_rev (n : Nat) : Builtin.Slice.slicePlaces ((n : Int) - 1) (-1) (-1) = n := by
  unfold Builtin.Slice.slicePlaces
  have h1 : ¬ ((-1 : Int) > 0) := by omega
  simp only [h1, if_false]
  have e : (-(-1) : Int) = 1 := by decide
  rw [e, Int.ediv_one]
  split <;> omega
theorem fm_congr {α β : Type} {f g : α → Option β} : ∀ {l : List α}, (∀ m ∈ l, f m = g m) → l.filterMap f = l.filterMap g
  | [], _ => rfl
  | a :: l, h => by
    rw [List.filterMap_cons, List.filterMap_cons, h a List.mem_cons_self, fm_congr fun m hm => h m (List.mem_cons_of_mem _ hm)]
theorem fm_all {α : Type} : ∀ (ys : List α), List.filterMap (fun m => ys[m]?) (List.range ys.length) = ys
  | [] => rfl
  | y :: ys => by
    rw [List.length_cons, List.range_succ_eq_map, List.filterMap_cons]
    have e : (y :: ys)[0]? = some y := rfl
    rw [e, List.filterMap_map]
    have e2 : ((fun m => (y :: ys)[m]?) ∘ Nat.succ) = fun m => ys[m]? := by funext m; simp
    show y :: List.filterMap ((fun m => (y :: ys)[m]?) ∘ Nat.succ) (List.range ys.length) = y :: ys
    rw [e2, fm_all ys]
theorem getElem?_rev (xs : List Value) (m : Nat) (h : m < xs.length) : xs[xs.length - 1 - m]? = xs.reverse[m]? := by
  rw [List.getElem?_reverse h]
theorem pick_rev (xs : Array Value) : ((List.range xs.size).filterMap fun (m : Nat) => xs[(((xs.size : Int) - 1) + (m : Int) * (-1)).toNat]?).toArray = xs.toList.reverse.toArray := by
  congr 1
  have e : ∀ m ∈ List.range xs.size, (fun (m : Nat) => xs[(((xs.size : Int) - 1) + (m : Int) * (-1)).toNat]?) m = (fun m => xs.toList.reverse[m]?) m := fun m hm => by
    have hm' : m < xs.size := List.mem_range.mp hm
    have e1 : (((xs.size : Int) - 1) + (m : Int) * (-1)).toNat = xs.toList.length - 1 - m := by rw [Array.length_toList]; omega
    show xs[(((xs.size : Int) - 1) + (m : Int) * (-1)).toNat]? = xs.toList.reverse[m]?
    rw [e1, ← getElem?_rev xs.toList m (by rw [Array.length_toList]; exact hm')]
    simp
  rw [fm_congr e]
  have hl : xs.size = xs.toList.reverse.length := by rw [List.length_reverse, Array.length_toList]
  rw [hl]
  exact fm_all _
section
variable {prog : Program} {w : World} {A : Around} {E : Value → Shared → Prop} {s : Shared}
theorem sliceApplied_rev {sl : Addr} {vs : Value} {n : Nat} {Q : Int × Int × Nat → Shared → Prop} (hs : s.heap.IsSliceOf sl .none .none vs) (ps : IsPart vs (some (-1)))
    (h : Q ((n : Int) - 1, -1, n) s) : wpAny (model prog w) A (Builtin.Slice.sliceApplied (.ref sl) (pure (n : Int))) Q E s := by
  obtain ⟨os, hos, hcs, hds⟩ := id hs
  unfold Builtin.Slice.sliceApplied Builtin.Slice.sliceFields
  refine wpAny_bind (wpAny_bind (wpAny_field hos hds (x := .none) rfl (wpAny_bind (wpAny_field hos hds (x := .none) rfl (wpAny_bind (wpAny_field hos hds (x := vs) rfl (wpAny_pure ?_)))))))
  refine wpAny_bind (HT.slicePart_ ps ?_)
  show wpAny _ _ (if ((-1 : Int) == 0) = true then _ else _) _ _ s
  rw [if_neg (by decide)]
  refine wpAny_bind (HT.slicePart_ .none (wpAny_bind (HT.slicePart_ .none (wpAny_bind (wpAny_pure ?_)))))
  show wpAny _ _ (match Builtin.Slice.sliceAdjust none none (-1) (n : Int) with | (lo, hi) => pure (lo, (-1 : Int), Builtin.Slice.slicePlaces lo hi (-1))) _ _ s
  rw [adj_rev n]
  show wpAny _ _ (pure ((n : Int) - 1, (-1 : Int), Builtin.Slice.slicePlaces ((n : Int) - 1) (-1) (-1))) _ _ s
  rw [places_rev]
  exact wpAny_pure h
theorem getItem_tuple_rev {t sl : Addr} {items : Array Value} {vs : Value} {Q : Value → Shared → Prop} (ht : IsTup s.heap t items) (hs : s.heap.IsSliceOf sl .none .none vs) (ps : IsPart vs (some (-1)))
    (h : Q (.ref s.heap.objs.size) { s with heap := s.heap.push { cls := .type "tuple", data := .seq items.toList.reverse.toArray } }) (hsz : items.size ≤ sizeLine) : wpAny (model prog w) A (getItem (.ref t) (.ref sl)) Q E s := by
  have htake : sizeOk (.seq items.toList.reverse.toArray) := by
    show items.toList.reverse.toArray.size ≤ sizeLine
    rw [List.size_toArray, List.length_reverse, Array.length_toList]
    exact hsz
  obtain ⟨os, hos, hcs, hds⟩ := id hs
  have hTs : s.TypeIs (.ref sl) "slice" := ⟨os, hos, hcs⟩
  unfold getItem
  try with_reducible refine wpAny_holding ?_
  first | refine wpAny_bind (wpAny_pure ?_) | skip
  refine wpAny_bind (wpAny_sequenceKey ht.typeIs (by decide) ?_)
  refine wpAny_bind (wpAny_callSpecial?_slot (name := Str.ofString "__getitem__") ht.typeIs PyProof.Rows.slot_tuple_getitem
    (wpAny_call_entry PyProof.Rows.slot_tuple_getitem ht.typeIs entry_tuple_getitem ?_ (args_tuple_getitem _ _)))
  show wpAny _ _ (Builtin.Tuple.tupleItemsOf (.ref t) >>= _) _ _ s
  refine wpAny_bind (tupleItemsOf_ ht ?_)
  refine wpAny_bind (wpAny_typeOf hTs ?_)
  rw [if_pos (by decide)]
  refine wpAny_bind (sliceApplied_rev hs ps ?_)
  have hno : ¬ ((((items.size : Int) - 1) == 0 && (-1 : Int) == 1 && items.size == items.size) = true) := by simp
  show wpAny _ _ (if (((items.size : Int) - 1) == 0 && (-1 : Int) == 1 && items.size == items.size) = true then _ else _) _ _ s
  rw [if_neg hno, pick_rev]
  first
    | exact wpAny_bind (m := Builtin.Tuple.tupleExact _) (wpAny_newObj_type (wpAny_pure ⟨_, rfl, wpAny_pure h⟩) htake)
    | exact wpAny_bind (m := Builtin.Tuple.tupleExact _) (wpAny_newObj_type (wpAny_bind (wpAny_pure (wpAny_pure ⟨_, rfl, wpAny_pure h⟩))) htake)
    | exact wpAny_bind (wpAny_bind (m := Builtin.Tuple.tupleExact _) (wpAny_newObj_type (wpAny_pure (wpAny_pure ⟨_, rfl, wpAny_pure h⟩)) htake))
    | exact wpAny_bind (wpAny_bind (m := Builtin.Tuple.tupleExact _) (wpAny_newObj_type (wpAny_pure ⟨_, rfl, wpAny_pure h⟩) htake))
end
section
variable {X : Cx}
def kRevT (K : PySem.W.Frag) (Q : VK) : VK := fun x H1 => ∃ a xs, x = .ref a ∧ SqT K H1 a xs ∧ ∀ p, H1 p = none → Q (.ref p) (upd H1 p (.tup xs.reverse))
def tRevT (K : PySem.W.Frag) (te : TE) : TE := fun σ H Q => te σ H (kRevT K Q)
theorem pe_revT {e : Expr} {te : TE} {k : Nat} {p1 p2 p3 pos : Pos} (he : PE X e te) : PE X (.Subscript e (.Slice none none (some (.UnaryOp .USub (.Constant (.int 1) k p1) p2)) p3) pos) (tRevT X.K te) := by
  refine ⟨fun pins s σ H Q I h => ?_⟩
  refine Subscript_ (thn (he.run pins s σ H _ I h) fun v s1 ⟨x, H1, I1, r1, q1⟩ => ?_)
  obtain ⟨a, xs, ex, hx, q⟩ := q1
  subst ex
  cases r1
  have hst : PO X (some (.UnaryOp .USub (.Constant (.int 1) k p1) p2)) (tPart (tUn (rU fun i => .int (-i)) (tC (.int 1)))) := po_some (pe_un un_neg pe_int)
  refine wpAny_Slice ?_
  rw [evalPart_none]
  refine wpAny_pure ?_
  refine wpAny_pure ?_
  refine thn (hst.run pins s1 σ H1 (fun o H4 => o = some (-1) ∧ H4 = H1) I1 ⟨1, rfl, -1, rfl, rfl, rfl⟩) fun vs s4 ⟨o, H4, I4, ps, eo, e4⟩ => ?_
  subst eo e4
  have I5 : Inv X pins σ H4 { s4 with heap := s4.heap.push { cls := .type "slice", data := .fields #[.none, .none, vs] } } := I4.kept (t' := s4.toks) fun b ob q => Heap.get?_push_of_some _ q
  obtain ⟨its, r, ht, hz⟩ := I5.tuple hx
  have hlen := r.length
  show wpAny (model X.prog X.w) X.A (subscriptTail e (.Slice none none (some (.UnaryOp .USub (.Constant (.int 1) k p1) p2)) p3) (.ref a) (.ref s4.heap.objs.size)) (EP X pins σ Q) X.xe { s4 with heap := s4.heap.push { cls := .type "slice", data := .fields #[.none, .none, vs] } }
  refine tail_any (ops := [.ref a, .ref s4.heap.objs.size]) ht.typeIs (PyProof.Rows.slot_tuple_getitem.lookup) ?_ (by with_unfolding_all rfl)
  refine getItem_tuple_rev ht (Heap.IsSliceOf.new _ .none .none vs) ps ?_ (by rw [List.size_toArray]; omega)
  refine ⟨.ref _, _, I5.laid (t' := s4.toks) (o := .tup xs.reverse) (fun b ob q => Heap.get?_push_of_some _ q) (Nat.le_refl _) ?_, rfl, q _ (I5.hok.fresh (Nat.le_refl _))⟩
  exact ⟨by rw [List.length_reverse]; exact hz, _, r.reverse, IsTup.new _ _⟩
end
section
variable {K : PySem.W.Frag} {σ : L2.St} {H H0 : Hp} {Q : VK} {te : TE} {a : Addr} {xs : List V} {M : List Addr} {L : List (Addr × HO)} {tl : TA} {n : Nat} {sp : Sp} {gV : List V → List V} {E : XK}
theorem rd_revT (q : te σ H (kRevT K Q)) : tRevT K te σ H Q := q
theorem rd_kRevT (W : Wd H0 H M L) (h : SqT K H a xs) (q : ∀ p H', H0 p = none → Wd H0 H' M ((p, .tup xs.reverse) :: L) → Q (.ref p) H') : kRevT K Q (.ref a) H :=
  ⟨a, xs, rfl, h, fun p hp => q p _ (W.fresh hp) (W.new hp)⟩
theorem rd_kw (q : tl σ H fun zs H1 => zs.length = n ∧ sp (gV zs) H1 Q E) : tKw n sp gV E tl σ H Q := q
end
end Eng
namespace Eng
open PySem PySem.Spec PyProof.Rows L2
/-- x == y by the promise sp of the class's own __eq__ -/
def rOwnEq (K : PySem.W.Frag) (C : Addr) (sp : Sp) (E : XK) : R2 := fun x y H Q => ∃ a dx fs tb, x = .ref a ∧ H a = some (.ins C dx fs) ∧ TyX K H y tb ∧ PySem.W.notFirst K C tb = true ∧ sp [x, y] H (fun v H' => ∃ b, v = .bl b ∧ Q (.bl b) H') E
/-- x != y of two of the class -/
def rOwnNe (K : PySem.W.Frag) (C : Addr) (sp : Sp) (E : XK) : R2 := fun x y H Q => ∃ a dx fs a' dx' fs', x = .ref a ∧ y = .ref a' ∧ H a = some (.ins C dx fs) ∧ H a' = some (.ins C dx' fs') ∧ sp [x, y] H (fun v H' => ∃ b, v = .bl b ∧ Q (.bl (!b)) H') E
section
variable {K : PySem.W.Frag} {C a a' dx dx' : Addr} {fs fs' : List (Str × V)} {sp : Sp} {E : XK} {H : Hp} {Q : VK} {y : V} {tb : Value}
theorem rd_ownEq (h : H a = some (.ins C dx fs)) (ty : TyX K H y tb) (hn : PySem.W.notFirst K C tb = true) (q : sp [.ref a, y] H (fun v H' => ∃ b, v = .bl b ∧ Q (.bl b) H') E) : rOwnEq K C sp E (.ref a) y H Q := ⟨a, dx, fs, tb, rfl, h, ty, hn, q⟩
theorem rd_ownNe (h : H a = some (.ins C dx fs)) (h' : H a' = some (.ins C dx' fs')) (q : sp [.ref a, .ref a'] H (fun v H' => ∃ b, v = .bl b ∧ Q (.bl (!b)) H') E) : rOwnNe K C sp E (.ref a) (.ref a') H Q := ⟨a, dx, fs, a', dx', fs', rfl, rfl, h, h', q⟩
end
def rAnyI (K : PySem.W.Frag) : List V → Hp → VK → Prop := fun vs H Q => ∃ (a : Addr) (ns : List Int), vs = [V.ref a] ∧ SqL K H a (ns.map V.int) ∧ Q (.bl (ns.any fun n => n != 0)) H
def rMax2 : List V → Hp → VK → Prop := fun xs H Q => ∃ i j, xs = [.int i, .int j] ∧ Q (.int (if j > i then j else i)) H
def rMin2 : List V → Hp → VK → Prop := fun xs H Q => ∃ i j, xs = [.int i, .int j] ∧ Q (.int (if j < i then j else i)) H
section
variable {X : Cx}
theorem c_max (hc : X.calm = true) : CallR X (.builtin "max") rMax2 := call_max2 hc
end
section
variable {K : PySem.W.Frag} {H H0 : Hp} {Q : VK} {a : Addr} {ns : List Int} {bs : List Bool} {n m : Int} {M : List Addr} {L : List (Addr × HO)} {xs : List V}
theorem rd_anyI (h : SqL K H a (ns.map V.int)) (q : Q (.bl (ns.any fun n => n != 0)) H) : rAnyI K [.ref a] H Q := ⟨a, ns, rfl, h, q⟩
theorem rd_max (q : Q (.int (if m > n then m else n)) H) : rMax2 [.int n, .int m] H Q := ⟨n, m, rfl, q⟩
theorem rd_min (q : Q (.int (if m < n then m else n)) H) : rMin2 [.int n, .int m] H Q := ⟨n, m, rfl, q⟩
end
end Eng
namespace Eng
open PySem PySem.Spec PyProof.Rows L2
end Eng
namespace Eng
/-- without zeros at the end -/
def strip : List Nat → List Nat
  | [] => []
  | d :: ds => match strip ds with
    | [] => if d = 0 then [] else [d]
    | e :: es => d :: e :: es
theorem strip_nil : strip [] = [] := rfl
theorem strip_cons (d : Nat) (ds : List Nat) : strip (d :: ds) = if strip ds = [] then (if d = 0 then [] else [d]) else d :: strip ds := by
  show (match strip ds with | [] => if d = 0 then [] else [d] | e :: es => d :: e :: es) = _
  cases h : strip ds with
  | nil => simp
  | cons e es => simp
theorem strip_zeros : ∀ {ds : List Nat}, (∀ d ∈ ds, d = 0) → strip ds = []
  | [], _ => rfl
  | d :: ds, h => by
    rw [strip_cons, strip_zeros (fun x hx => h x (List.mem_cons_of_mem _ hx)), if_pos rfl, if_pos (h d List.mem_cons_self)]
theorem strip_app_zeros : ∀ (ds : List Nat) {zs : List Nat}, (∀ d ∈ zs, d = 0) → strip (ds ++ zs) = strip ds
  | [], zs, h => by rw [List.nil_append, strip_zeros h]; rfl
  | d :: ds, zs, h => by rw [List.cons_append, strip_cons, strip_cons, strip_app_zeros ds h]
theorem strip_app_ne : ∀ (ds : List Nat) {d : Nat}, d ≠ 0 → strip (ds ++ [d]) = ds ++ [d]
  | [], d, h => by rw [List.nil_append, strip_cons, strip_nil, if_pos rfl, if_neg h]
  | e :: ds, d, h => by rw [List.cons_append, strip_cons, strip_app_ne ds h, if_neg (by simp)]
theorem strip_length : ∀ ds : List Nat, (strip ds).length ≤ ds.length
  | [] => Nat.le_refl _
  | d :: ds => by
    have ih := strip_length ds
    rw [strip_cons]
    split
    · split <;> simp
    · simp; exact ih
theorem strip_mem : ∀ {ds : List Nat} {d : Nat}, d ∈ strip ds → d ∈ ds
  | [], _, h => h
  | e :: ds, d, h => by
    rw [strip_cons] at h
    split at h
    · split at h
      · cases h
      · rw [List.mem_singleton.mp h]; exact List.mem_cons_self
    · rcases List.mem_cons.mp h with z | z
      · rw [z]; exact List.mem_cons_self
      · exact List.mem_cons_of_mem _ (strip_mem z)
/-- in normal form -/
def Norm (ds : List Nat) : Prop := strip ds = ds
theorem strip_norm : ∀ ds : List Nat, Norm (strip ds)
  | [] => rfl
  | d :: ds => by
    unfold Norm
    have ih : strip (strip ds) = strip ds := strip_norm ds
    rw [strip_cons]
    by_cases h : strip ds = []
    · rw [if_pos h]
      by_cases h0 : d = 0
      · rw [if_pos h0]; rfl
      · rw [if_neg h0, strip_cons, strip_nil, if_pos rfl, if_neg h0]
    · rw [if_neg h, strip_cons, ih, if_neg h]
theorem Norm.tail {d : Nat} {ds : List Nat} (h : Norm (d :: ds)) : Norm ds := by
  unfold Norm at *
  rw [strip_cons] at h
  by_cases h1 : strip ds = []
  · rw [if_pos h1] at h
    by_cases h0 : d = 0
    · rw [if_pos h0] at h; cases h
    · rw [if_neg h0] at h
      have : ds = [] := by simpa using h.symm
      rw [this]; rfl
  · rw [if_neg h1] at h
    exact (List.cons.inj h).2
theorem Norm.last {ds : List Nat} (h : Norm ds) (hn : ds ≠ []) : ∃ es d, ds = es ++ [d] ∧ d ≠ 0 := by
  have e : ds = ds.dropLast ++ [ds.getLast hn] := (List.dropLast_concat_getLast hn).symm
  refine ⟨ds.dropLast, ds.getLast hn, e, fun z => ?_⟩
  unfold Norm at h
  have h2 : strip (ds.dropLast ++ [ds.getLast hn]) = ds := by rw [← e]; exact h
  rw [z, strip_app_zeros _ (by simp)] at h2
  have l := strip_length ds.dropLast
  rw [h2, List.length_dropLast] at l
  have : 0 < ds.length := List.length_pos_iff.mpr hn
  omega
/-- the value of a row of digits of b bits -/
def val (b : Nat) : List Nat → Nat
  | [] => 0
  | d :: ds => d + 2 ^ b * val b ds
theorem val_nil (b : Nat) : val b [] = 0 := rfl
theorem val_cons (b d : Nat) (ds : List Nat) : val b (d :: ds) = d + 2 ^ b * val b ds := rfl
theorem val_app (b : Nat) : ∀ (ds es : List Nat), val b (ds ++ es) = val b ds + 2 ^ (b * ds.length) * val b es
  | [], es => by simp [val]
  | d :: ds, es => by
    rw [List.cons_append, val_cons, val_cons, val_app b ds es, List.length_cons, Nat.mul_add, Nat.mul_add, Nat.mul_one, Nat.pow_add, Nat.add_assoc, Nat.mul_comm (2 ^ (b * ds.length)) (2 ^ b), Nat.mul_assoc]
theorem val_zeros (b : Nat) : ∀ {ds : List Nat}, (∀ d ∈ ds, d = 0) → val b ds = 0
  | [], _ => rfl
  | d :: ds, h => by rw [val_cons, val_zeros b (fun x hx => h x (List.mem_cons_of_mem _ hx)), h d List.mem_cons_self]; rfl
theorem val_strip (b : Nat) : ∀ ds : List Nat, val b (strip ds) = val b ds
  | [] => rfl
  | d :: ds => by
    have ih := val_strip b ds
    rw [strip_cons, val_cons]
    by_cases h : strip ds = []
    · rw [if_pos h]
      rw [h] at ih
      rw [← ih]
      by_cases h0 : d = 0
      · rw [if_pos h0, h0]; rfl
      · rw [if_neg h0]; rfl
    · rw [if_neg h, val_cons, ih]
/-- all below 2 ^ b -/
def Digs (b : Nat) (ds : List Nat) : Prop := ∀ d ∈ ds, d < 2 ^ b
theorem val_lt {b : Nat} : ∀ {ds : List Nat}, Digs b ds → val b ds < 2 ^ (b * ds.length)
  | [], _ => by simp [val]
  | d :: ds, h => by
    have ih := val_lt (b := b) (ds := ds) fun x hx => h x (List.mem_cons_of_mem _ hx)
    have hd := h d List.mem_cons_self
    rw [val_cons, List.length_cons, Nat.mul_add, Nat.mul_one, Nat.pow_add]
    have h1 : 2 ^ b * (val b ds + 1) ≤ 2 ^ b * 2 ^ (b * ds.length) := Nat.mul_le_mul_left _ ih
    rw [Nat.mul_add, Nat.mul_one] at h1
    rw [Nat.mul_comm (2 ^ (b * ds.length))]
    omega
/-- the digits of n -/
def digs (b n : Nat) : List Nat := if h : n = 0 ∨ b = 0 then [] else n % 2 ^ b :: digs b (n / 2 ^ b)
termination_by n
decreasing_by
  have hn : 0 < n := Nat.pos_of_ne_zero fun z => h (.inl z)
  have hb : 1 < 2 ^ b := Nat.one_lt_two_pow fun z => h (.inr z)
  exact Nat.div_lt_self hn hb
theorem digs_zero (b : Nat) : digs b 0 = [] := by rw [digs, dif_pos (.inl rfl)]
theorem digs_pos {b n : Nat} (hb : b ≠ 0) (hn : n ≠ 0) : digs b n = n % 2 ^ b :: digs b (n / 2 ^ b) := by
  rw [digs, dif_neg (fun z => z.elim hn hb)]
theorem digs_ind {b : Nat} (hb : b ≠ 0) {P : Nat → Prop} (h0 : P 0) (hs : ∀ n, n ≠ 0 → P (n / 2 ^ b) → P n) (n : Nat) : P n := by
  induction n using Nat.strongRecOn with
  | _ n ih =>
    by_cases hn : n = 0
    · rw [hn]; exact h0
    · exact hs n hn (ih _ (Nat.div_lt_self (Nat.pos_of_ne_zero hn) (Nat.one_lt_two_pow hb)))
theorem val_digs {b : Nat} (hb : b ≠ 0) (n : Nat) : val b (digs b n) = n := by
  refine digs_ind hb (P := fun n => val b (digs b n) = n) ?_ (fun n hn ih => ?_) n
  · rw [digs_zero]; rfl
  · rw [digs_pos hb hn, val_cons, ih]
    exact Nat.mod_add_div n (2 ^ b)
theorem digs_lt {b : Nat} (hb : b ≠ 0) (n : Nat) : Digs b (digs b n) := by
  refine digs_ind hb (P := fun n => Digs b (digs b n)) ?_ (fun n hn ih => ?_) n
  · rw [digs_zero]; intro d h; cases h
  · rw [digs_pos hb hn]
    intro d h
    rcases List.mem_cons.mp h with z | z
    · rw [z]; exact Nat.mod_lt _ (Nat.two_pow_pos b)
    · exact ih d z
theorem digs_norm {b : Nat} (hb : b ≠ 0) (n : Nat) : Norm (digs b n) := by
  refine digs_ind hb (P := fun n => Norm (digs b n)) ?_ (fun n hn ih => ?_) n
  · rw [digs_zero]; rfl
  · rw [digs_pos hb hn]
    unfold Norm at *
    rw [strip_cons, ih]
    by_cases h : digs b (n / 2 ^ b) = []
    · rw [if_pos h, h]
      have hv := val_digs hb (n / 2 ^ b)
      rw [h] at hv
      have hm := Nat.mod_add_div n (2 ^ b)
      rw [← hv, val_nil, Nat.mul_zero, Nat.add_zero] at hm
      rw [if_neg (by rw [hm]; exact hn)]
    · rw [if_neg h]
theorem digs_eq_nil {b n : Nat} (hb : b ≠ 0) : digs b n = [] ↔ n = 0 := by
  constructor
  · intro h
    have hv := val_digs hb n
    rw [h] at hv
    exact hv.symm
  · intro h; rw [h, digs_zero]
/-- rows in normal form are the digits of their value -/
theorem digs_val {b : Nat} (hb : b ≠ 0) : ∀ {ds : List Nat}, Digs b ds → Norm ds → digs b (val b ds) = ds
  | [], _, _ => by rw [val_nil, digs_zero]
  | d :: ds, hd, hn => by
    have h1 : d < 2 ^ b := hd d List.mem_cons_self
    have h2 : Digs b ds := fun x hx => hd x (List.mem_cons_of_mem _ hx)
    have ih := digs_val hb h2 hn.tail
    have hz : val b (d :: ds) ≠ 0 := fun z => by
      have e := (val_strip b (d :: ds)).symm
      obtain ⟨es, x, e1, e2⟩ := hn.last (by simp)
      rw [e1, val_app] at z
      have := Nat.two_pow_pos (b * es.length)
      have : 2 ^ (b * es.length) * val b [x] = 0 := by omega
      rcases Nat.mul_eq_zero.mp this with q | q
      · omega
      · rw [val_cons, val_nil, Nat.mul_zero, Nat.add_zero] at q
        exact e2 q
    rw [digs_pos hb hz]
    have e1 : val b (d :: ds) % 2 ^ b = d := by rw [val_cons, Nat.add_mul_mod_self_left, Nat.mod_eq_of_lt h1]
    have e2 : val b (d :: ds) / 2 ^ b = val b ds := by
      rw [val_cons, Nat.add_mul_div_left _ _ (Nat.two_pow_pos b), Nat.div_eq_of_lt h1, Nat.zero_add]
    rw [e1, e2, ih]
/-- the sign of an integer -/
def sgn (n : Int) : Int := if n < 0 then -1 else if n = 0 then 0 else 1
theorem sgn_mul (n : Int) : sgn n * (n.natAbs : Int) = n := by
  unfold sgn
  split
  · omega
  · split <;> omega
theorem digs_length_le {b : Nat} (hb : b ≠ 0) (n : Nat) {k : Nat} (h : n < 2 ^ (b * k)) : (digs b n).length ≤ k := by
  have key : ∀ (k n : Nat), n < 2 ^ (b * k) → (digs b n).length ≤ k := by
    intro k
    induction k with
    | zero =>
      intro n h
      rw [Nat.mul_zero, Nat.pow_zero] at h
      have : n = 0 := by omega
      rw [this, digs_zero]; exact Nat.le_refl _
    | succ k ih =>
      intro n h
      by_cases hn : n = 0
      · rw [hn, digs_zero]; exact Nat.zero_le _
      · rw [digs_pos hb hn, List.length_cons]
        refine Nat.succ_le_succ (ih _ ?_)
        rw [Nat.mul_add, Nat.mul_one, Nat.pow_add] at h
        exact Nat.div_lt_of_lt_mul (by rw [Nat.mul_comm]; exact h)
  exact key k n h
end Eng
namespace Eng
theorem digs_lower {b n l : Nat} (hb : b ≠ 0) (h : l < (digs b n).length) : 2 ^ (b * l) ≤ n := by
  rcases Nat.lt_or_ge n (2 ^ (b * l)) with z | z
  · have := digs_length_le hb n z
    omega
  · exact z
/-- from p on the rows are alike, and at p - 1 they differ -/
structure LD (ds es : List Nat) (p : Nat) : Prop where
  le : p ≤ ds.length
  alike : ∀ i, p ≤ i → ds[i]? = es[i]?
  differ : p = 0 ∨ ds[p - 1]? ≠ es[p - 1]?
theorem LD.zero {ds es : List Nat} (h : LD ds es 0) : ds = es := List.ext_getElem? fun i => h.alike i (Nat.zero_le _)
theorem LD.drop {ds es : List Nat} {p : Nat} (h : LD ds es p) : ds.drop p = es.drop p := List.ext_getElem? fun i => by
  rw [List.getElem?_drop, List.getElem?_drop]
  exact h.alike _ (by omega)
theorem LD.ex : ∀ (ds es : List Nat), ds.length = es.length → ∃ p, LD ds es p
  | [], [], _ => ⟨0, Nat.le_refl _, fun _ _ => rfl, .inl rfl⟩
  | d :: ds, e :: es, h => by
    obtain ⟨p, hp⟩ := LD.ex ds es (by simpa using h)
    by_cases h0 : p = 0
    · subst h0
      by_cases hd : d = e
      · subst hd
        exact ⟨0, Nat.zero_le _, fun i _ => by rw [hp.zero], .inl rfl⟩
      · refine ⟨1, by simp, fun i hi => ?_, .inr (by simpa using hd)⟩
        obtain ⟨i', rfl⟩ : ∃ i', i = i' + 1 := ⟨i - 1, by omega⟩
        simp only [List.getElem?_cons_succ]
        exact hp.alike i' (Nat.zero_le _)
    · refine ⟨p + 1, by simp only [List.length_cons]; have := hp.le; omega, fun i hi => ?_, .inr ?_⟩
      · obtain ⟨i', rfl⟩ : ∃ i', i = i' + 1 := ⟨i - 1, by omega⟩
        simp only [List.getElem?_cons_succ]
        exact hp.alike i' (by omega)
      · obtain ⟨p', rfl⟩ : ∃ p', p = p' + 1 := ⟨p - 1, by omega⟩
        rcases hp.differ with z | z
        · omega
        · simpa using z
  | [], _ :: _, h => by simp at h
  | _ :: _, [], h => by simp at h
end Eng
namespace Eng
open PySem L2
local macro_rules | `(tactic| walk_at "len") => `(tactic| first | decide | (simp only [List.length_cons, List.length_nil, List.length_append]; decide))
local macro_rules | `(tactic| walk_at "mem") => `(tactic| repeat (first | exact List.mem_cons_self | refine List.mem_cons_of_mem _ ?_ | refine List.mem_append_right _ ?_))
local macro_rules | `(tactic| walk_at "own") => `(tactic| first | assumption | (refine Wd.get (by assumption) ?_; walk_at "mem"))
local macro_rules | `(tactic| walk_at "rp") => `(tactic| repeat (first | exact Rp.here | apply Rp.there | apply Rp.app))
local macro_rules | `(tactic| walk_at "may") => `(tactic| first | exact Or.inl (by assumption) | exact Or.inr (by walk_at "mem"))
local macro_rules | `(tactic| walk_at "sq") => `(tactic| first | assumption | exact SqL.of (by walk_at "own") | exact SqT.of (by walk_at "own"))
local macro_rules | `(tactic| walk_at "ari") => `(tactic| first | assumption | omega | decide)
local macro_rules | `(tactic| walk_at "set") => `(tactic| repeat (first | exact Sets.here | apply Sets.there))
local macro_rules | `(tactic| walk_at "rd1") => `(tactic| first
  | with_reducible refine' rd_seq ?_
  | with_reducible refine' rd_asg ?_
  | ((with_reducible refine' rd_var ?h ?_); case h => exact rfl)
  | with_reducible refine' rd_c ?_
  | with_reducible refine' rd_op ?_
  | ((with_reducible refine' rd_name ?h ?_); case h => walk_at "set")
  | with_reducible refine' rd_cons ?_
  | with_reducible refine' rd_nil ?_
  | with_reducible refine' rd_add ?_
  | with_reducible refine' rd_subI ?_
  | ((with_reducible refine' rd_mod ?h ?_); case h => walk_at "ari")
  | with_reducible refine' rd_lt ?_
  | with_reducible refine' rd_le ?_
  | with_reducible refine' rd_gt ?_
  | with_reducible refine' rd_ge ?_
  | with_reducible refine' rd_eqI ?_
  | with_reducible refine' rd_neI ?_
  | with_reducible refine' rd_test ?_
  | with_reducible refine' rd_tB ?_
  | with_reducible refine' rd_kB ?_
  | with_reducible refine' rd_ret ?_
  | with_reducible refine' rd_retN ?_
  | with_reducible refine' rd_next ?_
  | with_reducible refine' rd_drop ?_
  | with_reducible refine' rd_ifS ?_
  | with_reducible refine' rd_ifE ?_
  | with_reducible refine' rd_call ?_
  | with_reducible refine' rd_cb ?_
  | with_reducible refine' rd_not ?_
  | with_reducible refine' rd_and ?_
  | with_reducible refine' rd_or ?_
  | with_reducible refine' rd_andV ?_
  | with_reducible refine' rd_orV ?_
  | with_reducible refine' rd_notV ?_
  | with_reducible refine' rd_un ?_
  | with_reducible refine' rd_neg ?_
  | with_reducible refine' rd_fld ?_
  | with_reducible refine' rd_tup ?_
  | with_reducible refine' rd_lst ?_
  | with_reducible refine' rd_bm ?_
  | ((with_reducible refine' rd_kBMl ?h ?_); case h => walk_at "own")
  | with_reducible refine' rd_meth ?_
  | with_reducible refine' rd_make ?_
  | with_reducible refine' rd_chain ?_
  | with_reducible refine' rd_int ?_
  | with_reducible refine' rd_intB ?_
  | with_reducible refine' rd_abs ?_
  | ((with_reducible refine' rd_lenL ?h ?_); case h => walk_at "sq")
  | ((with_reducible refine' rd_lenT ?h ?_); case h => walk_at "sq")
  | with_reducible refine' rd_sub ?_
  | with_reducible refine' rd_sl ?_
  | with_reducible refine' rd_noPart ?_
  | with_reducible refine' rd_part ?_
  | with_reducible refine' rd_kPart ?_
  | with_reducible refine' rd_for ?_
  | with_reducible refine' rd_iList ?_
  | with_reducible refine' rd_iTup ?_
  | with_reducible refine' rd_iR1 ?_
  | with_reducible refine' rd_iR2 ?_
  | ((with_reducible refine' rd_kIL ?h ?_); case h => walk_at "sq")
  | ((with_reducible refine' rd_kIT ?h ?_); case h => walk_at "sq")
  | with_reducible refine' rd_revL ?_
  | with_reducible refine' rd_revT ?_
  | with_reducible refine' rd_par ?_
  | ((with_reducible refine' rd_kPar ?h ?k ?_); (case h => walk_at "set"); case k => walk_at "set")
  | with_reducible refine' rd_par3 ?_
  | ((with_reducible refine' rd_kPar3 ?h ?k ?l ?_); (case h => walk_at "set"); (case k => walk_at "set"); case l => walk_at "set")
  | with_reducible refine' rd_lc ?_
  | with_reducible refine' rd_yes ?_
  | with_reducible refine' rd_sFld ?_
  | with_reducible refine' rd_dget ?_
  | with_reducible refine' rd_sDPut ?_
  | with_reducible refine' rd_gCons ?_
  | with_reducible refine' rd_gNil ?_
  | with_reducible refine' rd_kw ?_
  | with_reducible refine' rd_bits ?_
  | with_reducible refine' rd_kBits ?_
  | ((with_reducible refine' rd_anyI ?h ?_); case h => walk_at "sq")
  | with_reducible refine' rd_max ?_
  | with_reducible refine' rd_min ?_
  | with_reducible refine' rd_bm0 ?_
  | with_reducible refine' rd_andI ?_
  | with_reducible refine' rd_orI ?_
  | with_reducible refine' rd_xorI ?_)
local macro_rules | `(tactic| walk_at "rd") => `(tactic| repeat (walk_at "rd1"))
/-- the program's places -/
structure Pc where
  CMachine : Addr
  CBig : Addr
  CDesk : Addr
  aWORDS : Addr
  aBITS_OF_BASES : Addr
  ts : List (Addr × Str)
  xs : List Addr
  fs : List Addr
/-- a def's first slots -/
abbrev st0 (n : Nat) (vs : List V) : L2.St := vs.map some ++ List.replicate (n - vs.length) none
abbrev en0 (Q : VK) : Ends := ⟨fun _ H' => Q .non H', Q, fun _ _ => False, fun _ _ => False⟩
/-- the keywords' values by the parameters' order -/
def perm (ix : List Nat) (zs : List V) : List V := ix.map fun i => zs.getD i .non
def permV (ix : List Nat) (ws : List Value) : List Value := ix.map fun i => ws.getD i .none
theorem vals_getD {zs : List V} {ws : List Value} (r : Vals zs ws) (i : Nat) : RelV (zs.getD i .non) (ws.getD i .none) := by
  rw [List.getD_eq_getElem?_getD, List.getD_eq_getElem?_getD]
  cases e : zs[i]? with
  | none => rw [r.none_of e]; rfl
  | some v =>
    obtain ⟨u, e2, r2⟩ := r.get e
    rw [e2]
    exact r2
theorem perm_rel (ix : List Nat) {zs : List V} {ws : List Value} (r : Vals zs ws) : Vals (perm ix zs) (permV ix ws) := by
  unfold perm permV
  induction ix with
  | nil => exact .nil
  | cons i ix ih => exact .cons (vals_getD r i) ih
theorem kb_of {K : PySem.W.Frag} {x qual : Str} {st : Stmt} {f : Addr} {fd : FuncData} {ps ks : List Str} {ix : List Nat} (F : Fun K x qual st f fd)
    (h : ∀ (kV doc pm : Value) (an : Option Addr) (cdv ct : Value) (ws : List Value), ws.length = ks.length → bindArgs (PySem.W.fnOf x qual (defArgs st) (defBody st) (defScope st) .none kV doc pm an cdv ct) ⟨[], ks.zip ws⟩ = pure (ps.zip (permV ix ws))) : KB0 K fd ps ks (permV ix) (perm ix) := by
  obtain ⟨oc, od, kV, doc, pm, an, cdv, ct, osl, rfl, lk, hcd⟩ := F.ex
  exact ⟨fun s ws _ hl => .of_eq (h kV doc pm an cdv ct ws hl), fun r => perm_rel ix r⟩
theorem kit_self (K : PySem.W.Frag) (C : Addr) : PySem.W.kitOne K (.ref C) (.ref C) = some true := by
  unfold PySem.W.kitOne
  simp
/-- what is built in is none of the class -/
structure NoSub (K : PySem.W.Frag) (C : Addr) : Prop where
  ic : PySem.W.isClsIn K C = true
  ty : PySem.W.typeIn K (.ref C) = some (.type "type")
  sb : ∀ b ∈ (["int", "list", "str", "NoneType", "bool", "tuple", "dict"] : List String), PySem.W.subIn K (.type b) (.ref C) = some false
theorem NoSub.kit {K : PySem.W.Frag} {C : Addr} (h : NoSub K C) {b : String} (hb : b ∈ (["int", "list", "str", "NoneType", "bool", "tuple", "dict"] : List String)) : PySem.W.kitOne K (.type b) (.ref C) = some false := by
  unfold PySem.W.kitOne
  have e : (Value.type b == Value.ref C) = false := rfl
  rw [e, if_neg Bool.false_ne_true]
  unfold PySem.W.kitCls
  have e2 : ((PySem.W.clsIn K C).isSome && PySem.W.typeIn K (.ref C) == some (.type "type")) = true := by
    have h2 : (PySem.W.clsIn K C).isSome = true := h.ic
    rw [h2, h.ty]
    rfl
  show (if ((PySem.W.clsIn K C).isSome && PySem.W.typeIn K (.ref C) == some (.type "type")) = true then PySem.W.subIn K (.type b) (.ref C) else none) = some false
  rw [if_pos e2]
  exact h.sb b hb
theorem NoSub.nf {K : PySem.W.Frag} {C : Addr} (h : NoSub K C) {b : String} (hb : b ∈ (["int", "list", "str", "NoneType", "bool", "tuple", "dict"] : List String)) : PySem.W.notFirst K C (.type b) = true := by
  unfold PySem.W.notFirst
  rw [h.sb b hb]
  simp
theorem nf_self (K : PySem.W.Frag) (C : Addr) : PySem.W.notFirst K C (.ref C) = true := by
  unfold PySem.W.notFirst
  simp
def IsI (K : PySem.W.Frag) (H : Hp) (x : V) (b : Bool) : Prop := (∃ i, x = .int i ∧ b = true) ∨ (b = false ∧ ((∃ k, x = .bl k) ∨ ∃ t, TyX K H x t ∧ PySem.W.kitOne K t (.type "int") = some false))
def sp_is_integer (K : PySem.W.Frag) (c : Pc) : Sp := fun vs H Q _ => ∃ x b, vs = [x] ∧ IsI K H x b ∧ Q (.bl b) H
def t_is_integer (K : PySem.W.Frag) (c : Pc) : TS :=
  (tRet (tAndV (tCB (rIsi K) (tCons (tVar 0) (tCons (tC (.ty "int")) tNil))) (tNotV (tCB (rIsi K) (tCons (tVar 0) (tCons (tC (.ty "bool")) tNil))))))
section
variable {K : PySem.W.Frag} {c : Pc} {vs : List V} {H H0 : Hp} {Q : VK} {E : XK} {M : List Addr} {L : List (Addr × HO)} {x : V} {i lo hi : Int}
theorem isi_ty {a b : String} {r : Bool} (ty : TyX K H x (.type a)) (h : kitB a b = some r) (q : Q (.bl r) H) : rIsi K [x, .ty b] H Q := ⟨x, .ty b, _, _, r, rfl, .ty b, ty, kit_ty h, q⟩
theorem b_is_integer (h : sp_is_integer K c vs H Q E) : t_is_integer K c (en0 Q) (st0 1 vs) H := by
  obtain ⟨x, b, rfl, hx, q⟩ := h
  unfold t_is_integer
  walk_at "rd"
  rcases hx with ⟨i, rfl, rfl⟩ | ⟨rfl, ⟨k, rfl⟩ | ⟨t, ty, e⟩⟩
  · refine isi_ty (.base (.int i)) (by decide +kernel : kitB "int" "int" = some true) ?_
    walk_at "rd"
    refine rd_T rfl ?_
    walk_at "rd"
    refine isi_ty (.base (.int i)) (by decide +kernel : kitB "int" "bool" = some false) ?_
    walk_at "rd"
    exact q
  · refine isi_ty (.base (.bl k)) (by decide +kernel : kitB "bool" "int" = some true) ?_
    walk_at "rd"
    refine rd_T rfl ?_
    walk_at "rd"
    refine isi_ty (.base (.bl k)) (by decide +kernel : kitB "bool" "bool" = some true) ?_
    walk_at "rd"
    exact q
  · refine (show rIsi K [x, .ty "int"] H _ from ⟨x, _, t, _, false, rfl, .ty _, ty, e, ?_⟩)
    walk_at "rd"
    refine rd_F rfl ?_
    exact q
def Btw (K : PySem.W.Frag) (H : Hp) (x : V) (lo hi : Int) (r : Bool) : Prop := (∃ i, x = .int i ∧ r = (decide (lo ≤ i) && decide (i ≤ hi))) ∨ (IsI K H x false ∧ r = false)
def sp_is_between (K : PySem.W.Frag) (c : Pc) : Sp := fun vs H Q _ => ∃ x lo hi r, vs = [x, .int lo, .int hi] ∧ Btw K H x lo hi r ∧ Q (.bl r) H
def t_is_between (K : PySem.W.Frag) (c : Pc) : TS :=
  (tRet (tAndV (tCall (sp_is_integer K c) [] E0 (tCons (tVar 0) tNil)) (tChain rLe rLe (tVar 1) (tVar 0) (tVar 2))))
theorem b_is_between (h : sp_is_between K c vs H Q E) : t_is_between K c (en0 Q) (st0 3 vs) H := by
  obtain ⟨x, lo, hi, r, rfl, hx, q⟩ := h
  unfold t_is_between
  walk_at "rd"
  rcases hx with ⟨i, rfl, rfl⟩ | ⟨hx, rfl⟩
  · refine ⟨_, true, rfl, .inl ⟨i, rfl, rfl⟩, ?_⟩
    walk_at "rd"
    refine rd_T rfl ?_
    walk_at "rd"
    by_cases h1 : lo ≤ i
    · rw [decide_eq_true h1] at q ⊢
      refine rd_kChT rfl ?_
      walk_at "rd"
      exact q
    · rw [decide_eq_false h1] at q ⊢
      refine rd_kChF rfl ?_
      exact q
  · refine ⟨_, false, rfl, hx, ?_⟩
    walk_at "rd"
    refine rd_F rfl ?_
    exact q
theorem u_between (h1 : lo ≤ i) (h2 : i ≤ hi) (q : Q (.bl true) H) : sp_is_between K c [.int i, .int lo, .int hi] H Q E :=
  ⟨_, lo, hi, true, rfl, .inl ⟨i, rfl, by rw [decide_eq_true h1, decide_eq_true h2]; rfl⟩, q⟩
theorem u_integer (q : Q (.bl true) H) : sp_is_integer K c [.int i] H Q E := ⟨_, true, rfl, .inl ⟨i, rfl, rfl⟩, q⟩
def sp_check_integer (K : PySem.W.Frag) (c : Pc) : Sp := fun vs H Q _ => ∃ a i, vs = [.str a, .int i] ∧ Q .non H
def t_check_integer (K : PySem.W.Frag) (c : Pc) : TS :=
  (tIfS (tNot (L2.tB (tCall (sp_is_integer K c) [] E0 (tCons (tVar 1) tNil)))) tNever tNext)
theorem b_check_integer (h : sp_check_integer K c vs H Q E) : t_check_integer K c (en0 Q) (st0 2 vs) H := by
  obtain ⟨a, i, rfl, q⟩ := h
  unfold t_check_integer
  walk_at "rd"
  refine u_integer ?_
  walk_at "rd"
  refine rd_F rfl ?_
  walk_at "rd"
  exact q
end
def words : List Str := ["short", "sum", "product", "quotient", "corrected", "restored", "shifted", "combined", "complemented", "looked"]
/-- a machine's attributes: bits, cutoff, the places of its counts and of its walk -/
def mF (b : Nat) (cut : Int) (d e : Addr) : List (Str × V) := putF "entered" (.ref e) (putF "counts" (.ref d) (putF "base" (.int (2 ^ b)) (putF "limit_of_rows" (.int cut) (putF "width" (.int (b : Int)) []))))
section
variable {b : Nat} {cut : Int} {d e : Addr}
theorem mF_entered : (mF b cut d e).lookup ("entered" : Str) = some (.ref e) := by
  unfold mF
  rw [lookup_putF, if_pos rfl]
theorem mF_counts : (mF b cut d e).lookup ("counts" : Str) = some (.ref d) := by
  unfold mF
  rw [lookup_putF, if_neg (by decide +kernel), lookup_putF, if_pos rfl]
theorem mF_base : (mF b cut d e).lookup ("base" : Str) = some (.int (2 ^ b)) := by
  unfold mF
  rw [lookup_putF, if_neg (by decide +kernel), lookup_putF, if_neg (by decide +kernel), lookup_putF, if_pos rfl]
theorem mF_limit : (mF b cut d e).lookup ("limit_of_rows" : Str) = some (.int cut) := by
  unfold mF
  rw [lookup_putF, if_neg (by decide +kernel), lookup_putF, if_neg (by decide +kernel), lookup_putF, if_neg (by decide +kernel), lookup_putF, if_pos rfl]
theorem mF_width : (mF b cut d e).lookup ("width" : Str) = some (.int (b : Int)) := by
  unfold mF
  rw [lookup_putF, if_neg (by decide +kernel), lookup_putF, if_neg (by decide +kernel), lookup_putF, if_neg (by decide +kernel), lookup_putF, if_neg (by decide +kernel), lookup_putF, if_pos rfl]
theorem mF_none {m : Str} (h1 : ¬ m = "entered") (h2 : ¬ m = "counts") (h3 : ¬ m = "base") (h4 : ¬ m = "limit_of_rows") (h5 : ¬ m = "width") : (mF b cut d e).lookup m = none := by
  unfold mF
  rw [lookup_putF, if_neg h1, lookup_putF, if_neg h2, lookup_putF, if_neg h3, lookup_putF, if_neg h4, lookup_putF, if_neg h5]
  rfl
end
/-- the counts -/
def cK (ns : List Int) : List (Key × V) := List.zipWith (fun (w : Str) n => ((Sum.inr w : Key), V.int n)) words ns
def zeros : List Int := [0, 0, 0, 0, 0, 0, 0, 0, 0, 0]
/-- what the top tells of machines -/
structure PM (K : PySem.W.Frag) (c : Pc) : Prop where
  isc : C8.InsC K c.CMachine
  nE : NoAttr K c.CMachine "entered"
  nC : NoAttr K c.CMachine "counts"
  nB : NoAttr K c.CMachine "base"
  nL : NoAttr K c.CMachine "limit_of_rows"
  nW : NoAttr K c.CMachine "width"
  words : ∀ H : Hp, SqT K H c.aWORDS (words.map V.str)
section
variable {K : PySem.W.Frag} {c : Pc} {vs : List V} {H H0 : Hp} {Q : VK} {E : XK} {M : List Addr} {L : List (Addr × HO)} {b : Nat} {cut : Int} {a m d e dx : Addr}
theorem rd_Mwidth (P : PM K c) (h : H a = some (.ins c.CMachine dx (mF b cut d e))) (q : Q (.int (b : Int)) H) : kFld K "width" Q (.ref a) H := rd_kFld P.isc.cl P.nW h mF_width q
theorem rd_Mbase (P : PM K c) (h : H a = some (.ins c.CMachine dx (mF b cut d e))) (q : Q (.int (2 ^ b)) H) : kFld K "base" Q (.ref a) H := rd_kFld P.isc.cl P.nB h mF_base q
theorem rd_Mlimit (P : PM K c) (h : H a = some (.ins c.CMachine dx (mF b cut d e))) (q : Q (.int cut) H) : kFld K "limit_of_rows" Q (.ref a) H := rd_kFld P.isc.cl P.nL h mF_limit q
theorem rd_Mcounts (P : PM K c) (h : H a = some (.ins c.CMachine dx (mF b cut d e))) (q : Q (.ref d) H) : kFld K "counts" Q (.ref a) H := rd_kFld P.isc.cl P.nC h mF_counts q
theorem rd_Mentered (P : PM K c) (h : H a = some (.ins c.CMachine dx (mF b cut d e))) (q : Q (.ref e) H) : kFld K "entered" Q (.ref a) H := rd_kFld P.isc.cl P.nE h mF_entered q
theorem isi_own {C x : Addr} {fs : List (Str × V)} (I : C8.InsC K C) (h : H x = some (.ins C dx fs)) (q : Q (.bl true) H) : rIsi K [.ref x, .ref C] H Q :=
  ⟨.ref x, .ref C, _, _, true, rfl, .own C, .base (.ins h I.cl I.ha I.hn I.htk I.hm), I.me, q⟩
def sp_check_machine (K : PySem.W.Frag) (c : Pc) : Sp := fun vs H Q _ => ∃ a dx fs, vs = [.ref a] ∧ H a = some (.ins c.CMachine dx fs) ∧ Q .non H
def t_check_machine (K : PySem.W.Frag) (c : Pc) : TS :=
  (tIfS (tNot (L2.tB (tCB (rIsi K) (tCons (tVar 0) (tCons (tC (.ref c.CMachine)) tNil))))) tNever tNext)
theorem b_check_machine (P : PM K c) (h : sp_check_machine K c vs H Q E) : t_check_machine K c (en0 Q) (st0 1 vs) H := by
  obtain ⟨a, dx, fs, rfl, ha, q⟩ := h
  unfold t_check_machine
  walk_at "rd"
  refine isi_own P.isc ha ?_
  walk_at "rd"
  refine rd_F rfl ?_
  walk_at "rd"
  exact q
def tl2 (ps : List Addr) (ts : List (List V)) : List (Addr × HO) := List.zipWith (fun p t => (p, HO.tup t)) ps ts
theorem tl2_snoc {ps : List Addr} {ts : List (List V)} {p : Addr} {t : List V} (h : ps.length = ts.length) : tl2 (ps ++ [p]) (ts ++ [t]) = tl2 ps ts ++ [(p, .tup t)] := by
  unfold tl2
  rw [List.zipWith_append h]
  rfl
def rowsOf (ns : List Int) : List (List V) := List.zipWith (fun (w : Str) n => [V.str w, V.int n]) words ns
theorem take_snoc {α : Type} {l : List α} {i : Nat} {x : α} (h : l[i]? = some x) : l.take (i + 1) = l.take i ++ [x] := by
  rw [List.take_succ, h]
  rfl
theorem rows_get {ns : List Int} {i : Nat} {w : Str} {n : Int} (h1 : words[i]? = some w) (h2 : ns[i]? = some n) : (rowsOf ns)[i]? = some [.str w, .int n] := by
  unfold rowsOf
  rw [List.getElem?_zipWith, h1, h2]
theorem str_of_words {i : Nat} {x : V} (h : (words.map V.str)[i]? = some x) : ∃ w, words[i]? = some w ∧ x = .str w ∧ i < 10 := by
  rw [List.getElem?_map] at h
  cases e : words[i]? with
  | none => rw [e] at h; cases h
  | some w =>
    rw [e] at h
    refine ⟨w, rfl, (Option.some.inj h).symm, ?_⟩
    have := (List.getElem?_eq_some_iff.mp e).1
    exact this
theorem cK_val {ns : List Int} {i : Nat} {w : Str} {n : Int} (h1 : words[i]? = some w) (h2 : ns[i]? = some n) : valV (cK ns) (Sum.inr w : Key) = some (.int n) := by
  have hi : i < 10 := (List.getElem?_eq_some_iff.mp h1).1
  have hn : i < ns.length := (List.getElem?_eq_some_iff.mp h2).1
  have key : ∀ (ws : List Str) (ms : List Int) (j : Nat), ws.Nodup → ws[j]? = some w → ms[j]? = some n → valV (List.zipWith (fun (w : Str) n => ((Sum.inr w : Key), V.int n)) ws ms) (Sum.inr w : Key) = some (.int n) := by
    intro ws
    induction ws with
    | nil => intro ms j _ h _; simp at h
    | cons u ws ih =>
      intro ms j nd h h'
      cases ms with
      | nil => simp at h'
      | cons z ms =>
        cases j with
        | zero =>
          have e1 : u = w := by simpa using h
          have e2 : z = n := by simpa using h'
          subst e1 e2
          exact valV_pos rfl
        | succ j =>
          have hw : w ∈ ws := List.mem_of_getElem? (by simpa using h)
          have ne : ¬ (Sum.inr u : Key) = Sum.inr w := fun z => by
            have z' := Sum.inr.inj z
            subst z'
            exact (List.nodup_cons.mp nd).1 hw
          rw [List.zipWith_cons_cons, valV_neg (p := ((Sum.inr u : Key), V.int z)) ne]
          exact ih ms j (List.nodup_cons.mp nd).2 (by simpa using h) (by simpa using h')
  exact key words ns i (by decide +kernel) h1 h2
def sp_Machine_tally (K : PySem.W.Frag) (c : Pc) : Sp := fun vs H Q _ => ∃ a dx b cut d e ns, vs = [.ref a] ∧ H a = some (.ins c.CMachine dx (mF b cut d e)) ∧ H d = some (.dK (cK ns)) ∧ ns.length = 10 ∧
  ∀ p ps H', ps.length = 10 → Chg H H' [] ((p, .lst (ps.map V.ref)) :: tl2 ps (rowsOf ns)) → Q (.ref p) H'
def t_Machine_tally (K : PySem.W.Frag) (c : Pc) : TS :=
  (tRet (tLc (iTup K (tC (.ref c.aWORDS))) (gName 1) tYes (tTup (tCons (tVar 1) (tCons (tDGet (tFld K (tVar 0) "counts") (tVar 1)) tNil))) [1]))
theorem b_Machine_tally (P : PM K c) (h : sp_Machine_tally K c vs H Q E) : t_Machine_tally K c (en0 Q) (st0 2 vs) H := by
  obtain ⟨a, dx, b, cut, d, e, ns, rfl, ha, hd, hn, k⟩ := h
  have nad : a ≠ d := ne_of ha hd (by intro z; cases z)
  have W : Wd H H [] [(a, .ins c.CMachine dx (mF b cut d e)), (d, .dK (cK ns))] := (Wd.one hd).old ha (by simpa using nad)
  have hr : (rowsOf ns).length = 10 := by unfold rowsOf; rw [List.length_zipWith, hn]; rfl
  unfold t_Machine_tally
  walk_at "rd"
  refine rd_kIT (P.words H) ?_
  refine rd_lcT (xs := words.map V.str) fun D hD => ⟨fun i H' => ∃ ps : List Addr, ps.length = i ∧ (∀ p ∈ ps, H p = none) ∧ Wd H H' [] ([(D, .lst (ps.map V.ref)), (a, .ins c.CMachine dx (mF b cut d e)), (d, .dK (cK ns))] ++ tl2 ps ((rowsOf ns).take i)), ?_, ?_, ?_, ?_⟩
  · exact ⟨[], rfl, (fun _ z => nomatch z), W.new hD⟩
  · intro i H' _ _
    exact P.words H'
  · rintro i x H1 hx ⟨ps, hps, hfr, W1⟩
    obtain ⟨w, hw, rfl, hi⟩ := str_of_words hx
    have hD0 : H D = none := hD
    obtain ⟨n, hni⟩ : ∃ n, ns[i]? = some n := ⟨ns[i]'(by omega), List.getElem?_eq_getElem _⟩
    have hrow := rows_get hw hni
    walk_at "rd"
    refine ⟨rfl, ?_⟩
    walk_at "rd"
    refine rd_T rfl ?_
    walk_at "rd"
    refine rd_Mcounts P (W1.get (by walk_at "mem")) ?_
    walk_at "rd"
    refine rd_kDGs (W1.get (by walk_at "mem")) (cK_val hw hni) ?_
    walk_at "rd"
    refine rd_kTup W1 (by show 2 ≤ sizeLine; decide) fun p H2 hp W2 => ?_
    refine rd_kAcc W2 (by walk_at "rp") (.inl hD0) (by rw [List.length_map, hps]; exact small1000 (by omega)) fun H3 W3 => ?_
    refine ⟨ps ++ [p], by rw [List.length_append, hps]; rfl, fun q hq => ?_, ?_⟩
    · rcases List.mem_append.mp hq with z | z
      · exact hfr q z
      · rw [List.mem_singleton.mp z]; exact hp
    · rw [take_snoc hrow, tl2_snoc (by rw [hps, List.length_take, hr]; omega), List.map_append]
      exact W3.move (A := [_, _, _])
  · rintro H1 ⟨ps, hps, hfr, W1⟩
    have hl : ps.length = 10 := hps
    have e10 : (rowsOf ns).take (words.map V.str).length = rowsOf ns := List.take_of_length_le (by rw [hr]; decide)
    rw [e10] at W1
    refine k D ps H1 hl ?_
    have nd := W1.nd
    refine W1.done (fun q z => nomatch z) (fun q z => nomatch z) (fun q hq => ?_) ?_
    · rcases List.mem_cons.mp hq with z | z
      · rw [z]; exact ⟨List.mem_cons_self, hD⟩
      · refine ⟨List.mem_append_right _ z, ?_⟩
        unfold tl2 at z
        obtain ⟨i, hi⟩ := List.mem_iff_getElem?.mp z
        rw [List.getElem?_zipWith] at hi
        cases e1 : ps[i]? with
        | none => rw [e1] at hi; cases hi
        | some p =>
          cases e2 : (rowsOf ns)[i]? with
          | none => rw [e1, e2] at hi; cases hi
          | some t =>
            rw [e1, e2] at hi
            have := Option.some.inj hi
            rw [← this]
            exact hfr p (List.mem_of_getElem? e1)
    · refine nd.sublist (List.Sublist.map _ ?_)
      exact (List.Sublist.cons _ (List.Sublist.cons _ (List.Sublist.refl _))).cons₂ _
theorem tl2_mem {ps : List Addr} {ts : List (List V)} {i : Nat} {p : Addr} {t : List V} (h1 : ps[i]? = some p) (h2 : ts[i]? = some t) : (p, HO.tup t) ∈ tl2 ps ts := by
  unfold tl2
  refine List.mem_iff_getElem?.mpr ⟨i, ?_⟩
  rw [List.getElem?_zipWith, h1, h2]
theorem paired_of {α β : Type} {R : α → β → Prop} : ∀ {l : List α} {k : List β}, l.length = k.length → (∀ (i : Nat) x y, l[i]? = some x → k[i]? = some y → R x y) → Paired R l k
  | [], [], _, _ => .nil
  | [], _ :: _, h, _ => by simp at h
  | _ :: _, [], h, _ => by simp at h
  | x :: l, y :: k, h, f => .cons (f 0 x y rfl rfl) (paired_of (by simpa using h) fun i a b h1 h2 => f (i + 1) a b (by simpa using h1) (by simpa using h2))
theorem rd_dict {ps : List Addr} {kvs kvs' : List (Key × V)} (W : Wd H0 H M L) (h : H a = some (.lst (ps.map V.ref))) (hp : Paired (fun p kv => SqT K H p [kV kv.1, kv.2]) ps kvs) (he : mergeK [] kvs = kvs')
    (q : ∀ p H', H0 p = none → Wd H0 H' M ((p, .dK kvs') :: L) → Q (.ref p) H') : rDict K [.ref a] H Q :=
  ⟨a, ps, kvs, rfl, SqL.of h, hp, fun p hp => by subst he; exact q p _ (W.fresh hp) (W.new hp)⟩
theorem cK_get {ns : List Int} {i : Nat} {w : Str} {n : Int} (h1 : words[i]? = some w) (h2 : ns[i]? = some n) : (cK ns)[i]? = some (Sum.inr w, .int n) := by
  unfold cK
  rw [List.getElem?_zipWith, h1, h2]
theorem rows_cK {ns : List Int} (hn : ns.length = 10) {i : Nat} {t : List V} {kv : Key × V} (h1 : (rowsOf ns)[i]? = some t) (h2 : (cK ns)[i]? = some kv) : t = [kV kv.1, kv.2] := by
  have hi : i < 10 := by
    have := (List.getElem?_eq_some_iff.mp h1).1
    unfold rowsOf at this
    rw [List.length_zipWith, hn] at this
    exact Nat.lt_of_lt_of_le this (by decide)
  have hw : words[i]? = some (words[i]'hi) := List.getElem?_eq_getElem _
  have hz : ns[i]? = some (ns[i]'(by omega)) := List.getElem?_eq_getElem _
  rw [rows_get hw hz] at h1
  rw [cK_get hw hz] at h2
  cases h1
  cases h2
  rfl
theorem len_putF (f : Str) (v : V) : ∀ fs : List (Str × V), (putF f v fs).length ≤ fs.length + 1
  | [] => Nat.le_refl _
  | (g, x) :: r => by
    show (if g = f then (g, v) :: r else (g, x) :: putF f v r).length ≤ _
    by_cases h : g = f
    · rw [if_pos h]; exact Nat.le_succ _
    · rw [if_neg h]; exact Nat.succ_le_succ (len_putF f v r)
def sp_Machine_init (K : PySem.W.Frag) (c : Pc) : Sp := fun vs H Q _ => ∃ (x dx : Addr) (b : Nat) (cut : Int), vs = [.ref x, .int (b : Int), .int cut] ∧ 8 ≤ b ∧ b ≤ 30 ∧ 2 ≤ cut ∧ cut ≤ 1000 ∧ H x = some (.ins c.CMachine dx []) ∧
  ∀ d e H', Chg H H' [(x, .ins c.CMachine dx (mF b cut d e))] [(d, .dK (cK zeros)), (e, .lst [])] → Q .non H'
def t_Machine_init (K : PySem.W.Frag) (c : Pc) : TS :=
  (tSeq (tIfS (tNot (L2.tB (tCall (sp_is_between K c) [] E0 (tCons (tVar 1) (tCons (tC (.int 8)) (tCons (tC (.int 30)) tNil)))))) tNever tNext)
  (tSeq (tIfS (tNot (L2.tB (tCall (sp_is_between K c) [] E0 (tCons (tVar 2) (tCons (tC (.int 2)) (tCons (tC (.int 1000)) tNil)))))) tNever tNext)
  (tSeq (sFld K (tVar 0) (tVar 1) "width")
  (tSeq (sFld K (tVar 0) (tVar 2) "limit_of_rows")
  (tSeq (sFld K (tVar 0) (tOp rShl (tC (.int 1)) (tVar 1)) "base")
  (tSeq (sFld K (tVar 0) (tCB (rDict K) (tCons (tLc (iTup K (tC (.ref c.aWORDS))) (gName 3) tYes (tTup (tCons (tVar 3) (tCons (tC (.int 0)) tNil))) [3]) tNil)) "counts")
  (sFld K (tVar 0) (tLst tNil) "entered")))))))
theorem zero_get {i : Nat} (h : i < 10) : zeros[i]? = some 0 := by
  have : ∀ i : Fin 10, zeros[i.val]? = some 0 := by decide
  exact this ⟨i, h⟩
theorem shl_one {b : Nat} (h : b ≤ 1000) : CShl 1 (b : Int) := shl_ok (n := 1) (by decide) (by omega)
theorem b_Machine_init (P : PM K c) (h : sp_Machine_init K c vs H Q E) : t_Machine_init K c (en0 Q) (st0 4 vs) H := by
  obtain ⟨x, dx, b, cut, rfl, hb1, hb2, hc1, hc2, hx, k⟩ := h
  have W : Wd H H [x] [(x, .ins c.CMachine dx [])] := (Wd.one hx).may List.mem_cons_self
  unfold t_Machine_init
  walk_at "rd"
  refine u_between (by omega) (by omega) ?_
  walk_at "rd"
  refine rd_F rfl ?_
  walk_at "rd"
  refine u_between hc1 hc2 ?_
  walk_at "rd"
  refine rd_F rfl ?_
  walk_at "rd"
  refine rd_kSFld W P.isc.cl P.nW (by walk_at "rp") (by walk_at "may") (by decide) fun H1 W1 => ?_
  walk_at "rd"
  refine rd_kSFld W1 P.isc.cl P.nL (by walk_at "rp") (by walk_at "may") (Nat.lt_of_le_of_lt (len_putF _ _ _) (by decide)) fun H2 W2 => ?_
  walk_at "rd"
  refine rd_shl (shl_one (by omega)) ?_
  rw [Int.toNat_natCast, Int.one_mul]
  walk_at "rd"
  refine rd_kSFld W2 P.isc.cl P.nB (by walk_at "rp") (by walk_at "may") (Nat.lt_of_le_of_lt (len_putF _ _ _) (Nat.lt_of_le_of_lt (Nat.succ_le_succ (len_putF _ _ _)) (by decide))) fun H3 W3 => ?_
  walk_at "rd"
  refine rd_kIT (P.words H3) ?_
  refine rd_lcT (xs := words.map V.str) fun D hD => ⟨fun i H' => ∃ ps : List Addr, ps.length = i ∧ Wd H H' [x] ([(D, .lst (ps.map V.ref)), (x, .ins c.CMachine dx (putF "base" (.int (2 ^ b)) (putF "limit_of_rows" (.int cut) (putF "width" (.int (b : Int)) []))))] ++ tl2 ps ((rowsOf zeros).take i)), ?_, ?_, ?_, ?_⟩
  · exact ⟨[], rfl, W3.new hD⟩
  · intro i H' _ _
    exact P.words H'
  · rintro i y H4 hy ⟨ps, hps, W4⟩
    obtain ⟨w, hw, rfl, hi⟩ := str_of_words hy
    have hrow := rows_get hw (zero_get hi)
    have hD0 : H D = none := W3.fresh hD
    walk_at "rd"
    refine ⟨rfl, ?_⟩
    walk_at "rd"
    refine rd_T rfl ?_
    walk_at "rd"
    refine rd_kTup W4 (by show 2 ≤ sizeLine; decide) fun p H5 hp W5 => ?_
    refine rd_kAcc W5 (by walk_at "rp") (.inl hD0) (by rw [List.length_map, hps]; exact small1000 (by omega)) fun H6 W6 => ?_
    refine ⟨ps ++ [p], by rw [List.length_append, hps]; rfl, ?_⟩
    rw [take_snoc hrow, tl2_snoc (by rw [hps, List.length_take]; show i = min i 10; omega), List.map_append]
    exact W6.move (A := [_, _])
  · rintro H4 ⟨ps, hps, W4⟩
    have hl : ps.length = 10 := hps
    have e10 : (rowsOf zeros).take (words.map V.str).length = rowsOf zeros := List.take_of_length_le (by decide)
    rw [e10] at W4
    have hD0 : H D = none := W3.fresh hD
    walk_at "rd"
    refine rd_dict (kvs := cK zeros) (kvs' := cK zeros) W4 (W4.get List.mem_cons_self) (paired_of (by rw [hl]; decide) fun i p kv h1 h2 => ?_) (by decide +kernel) fun d H5 hd W5 => ?_
    · have hi : i < 10 := by have := (List.getElem?_eq_some_iff.mp h1).1; omega
      have hr : (rowsOf zeros)[i]? = some ((rowsOf zeros)[i]'hi) := List.getElem?_eq_getElem _
      have e := rows_cK (by decide) hr h2
      have := W4.get (List.mem_append_right _ (tl2_mem h1 hr))
      rw [e] at this
      exact SqT.of this
    · walk_at "rd"
      refine rd_kSFld W5 P.isc.cl P.nC (by walk_at "rp") (by walk_at "may") (Nat.lt_of_le_of_lt (len_putF _ _ _) (Nat.lt_of_le_of_lt (Nat.succ_le_succ (Nat.le_trans (len_putF _ _ _) (Nat.succ_le_succ (len_putF _ _ _)))) (by decide))) fun H6 W6 => ?_
      walk_at "rd"
      refine rd_kLst W6 (by decide) fun e H7 he W7 => ?_
      walk_at "rd"
      refine rd_kSFld W7 P.isc.cl P.nE (by walk_at "rp") (by walk_at "may") (Nat.lt_of_le_of_lt (len_putF _ _ _) (Nat.lt_of_le_of_lt (Nat.succ_le_succ (Nat.le_trans (len_putF _ _ _) (Nat.succ_le_succ (Nat.le_trans (len_putF _ _ _) (Nat.succ_le_succ (len_putF _ _ _)))))) (by decide))) fun H8 W8 => ?_
      have nd := W8.nd
      refine k d e H8 (W8.done (fun q hq => ?_) (fun q hq => hq) (fun q hq => ?_) ?_)
      · rw [List.mem_singleton.mp hq]
        walk_at "mem"
      · rcases List.mem_cons.mp hq with z | z
        · rw [z]; exact ⟨by walk_at "mem", hd⟩
        · rw [List.mem_singleton.mp z]; exact ⟨by walk_at "mem", he⟩
      · have ne : e ≠ d := fun z => by
          subst z
          have h1 := (List.nodup_cons.mp nd).1
          exact h1 List.mem_cons_self
        exact List.nodup_cons.mpr ⟨by simpa using Ne.symm ne, by simp⟩
end
/-- a row of digits as values -/
def iN (ds : List Nat) : List V := ds.map fun (d : Nat) => V.int (d : Int)
theorem iN_length (ds : List Nat) : (iN ds).length = ds.length := List.length_map _
theorem iN_get {ds : List Nat} {i d : Nat} (h : ds[i]? = some d) : (iN ds)[i]? = some (.int (d : Int)) := by unfold iN; rw [List.getElem?_map, h]; rfl
theorem iN_of {ds : List Nat} {i : Nat} {x : V} (h : (iN ds)[i]? = some x) : ∃ d, ds[i]? = some d ∧ x = .int (d : Int) := by
  unfold iN at h
  rw [List.getElem?_map] at h
  cases e : ds[i]? with
  | none => rw [e] at h; cases h
  | some d => rw [e] at h; exact ⟨d, rfl, (Option.some.inj h).symm⟩
theorem iN_take (ds : List Nat) (n : Nat) : (iN ds).take n = iN (ds.take n) := by unfold iN; rw [List.map_take]
theorem iN_rev (ds : List Nat) : (iN ds).reverse = iN ds.reverse := by unfold iN; rw [List.map_reverse]
theorem iN_app (ds es : List Nat) : iN ds ++ iN es = iN (ds ++ es) := by unfold iN; rw [List.map_append]
/-- a Big's attributes -/
def bF (b : Nat) (s : Int) (r : Addr) : List (Str × V) := putF "row" (.ref r) (putF "side" (.int s) (putF "width" (.int (b : Int)) []))
section
variable {b : Nat} {s : Int} {r : Addr}
theorem bF_row : (bF b s r).lookup ("row" : Str) = some (.ref r) := by
  unfold bF
  rw [lookup_putF, if_pos rfl]
theorem bF_side : (bF b s r).lookup ("side" : Str) = some (.int s) := by
  unfold bF
  rw [lookup_putF, if_neg (by decide +kernel), lookup_putF, if_pos rfl]
theorem bF_width : (bF b s r).lookup ("width" : Str) = some (.int (b : Int)) := by
  unfold bF
  rw [lookup_putF, if_neg (by decide +kernel), lookup_putF, if_neg (by decide +kernel), lookup_putF, if_pos rfl]
theorem bF_none {m : Str} (h1 : ¬ m = "row") (h2 : ¬ m = "side") (h3 : ¬ m = "width") : (bF b s r).lookup m = none := by
  unfold bF
  rw [lookup_putF, if_neg h1, lookup_putF, if_neg h2, lookup_putF, if_neg h3]
  rfl
end
/-- what the top tells of Bigs -/
structure PB (K : PySem.W.Frag) (c : Pc) : Prop where
  isc : C8.InsC K c.CBig
  nR : NoAttr K c.CBig "row"
  nS : NoAttr K c.CBig "side"
  nW : NoAttr K c.CBig "width"
section
variable {K : PySem.W.Frag} {c : Pc} {vs : List V} {H H0 : Hp} {Q : VK} {E : XK} {M : List Addr} {L : List (Addr × HO)} {b : Nat} {s cut : Int} {a m d e dx r x l : Addr} {ds : List Nat}
theorem rd_Bwidth (P : PB K c) (h : H a = some (.ins c.CBig dx (bF b s r))) (q : Q (.int (b : Int)) H) : kFld K "width" Q (.ref a) H := rd_kFld P.isc.cl P.nW h bF_width q
theorem rd_Bside (P : PB K c) (h : H a = some (.ins c.CBig dx (bF b s r))) (q : Q (.int s) H) : kFld K "side" Q (.ref a) H := rd_kFld P.isc.cl P.nS h bF_side q
theorem rd_Brow (P : PB K c) (h : H a = some (.ins c.CBig dx (bF b s r))) (q : Q (.ref r) H) : kFld K "row" Q (.ref a) H := rd_kFld P.isc.cl P.nR h bF_row q
def sp_Big_init (K : PySem.W.Frag) (c : Pc) : Sp := fun vs H Q _ => ∃ (x dx : Addr) (b : Nat) (s : Int) (r : Addr), vs = [.ref x, .int (b : Int), .int s, .ref r] ∧ H x = some (.ins c.CBig dx []) ∧
  ∀ H', Chg H H' [(x, .ins c.CBig dx (bF b s r))] [] → Q .non H'
def t_Big_init (K : PySem.W.Frag) (c : Pc) : TS :=
  (tSeq (sFld K (tVar 0) (tVar 1) "width")
  (tSeq (sFld K (tVar 0) (tVar 2) "side")
  (sFld K (tVar 0) (tVar 3) "row")))
theorem b_Big_init (P : PB K c) (h : sp_Big_init K c vs H Q E) : t_Big_init K c (en0 Q) (st0 4 vs) H := by
  obtain ⟨x, dx, b, s, r, rfl, hx, k⟩ := h
  have W : Wd H H [x] [(x, .ins c.CBig dx [])] := (Wd.one hx).may List.mem_cons_self
  unfold t_Big_init
  walk_at "rd"
  refine rd_kSFld W P.isc.cl P.nW (by walk_at "rp") (by walk_at "may") (by decide) fun H1 W1 => ?_
  walk_at "rd"
  refine rd_kSFld W1 P.isc.cl P.nS (by walk_at "rp") (by walk_at "may") (Nat.lt_of_le_of_lt (len_putF _ _ _) (by decide)) fun H2 W2 => ?_
  walk_at "rd"
  refine rd_kSFld W2 P.isc.cl P.nR (by walk_at "rp") (by walk_at "may") (Nat.lt_of_le_of_lt (len_putF _ _ _) (Nat.lt_of_le_of_lt (Nat.succ_le_succ (len_putF _ _ _)) (by decide))) fun H3 W3 => ?_
  exact k H3 (W3.done (fun q hq => hq) (fun q hq => hq) (fun q hq => nomatch hq) List.nodup_nil)
/-- Big(b, s, r) -/
theorem rd_mkBig (W : Wd H0 H M L) (q : ∀ x dx H', H0 x = none → Wd H0 H' M ((x, .ins c.CBig dx (bF b s r)) :: L) → Q (.ref x) H') : kMake c.CBig (sp_Big_init K c) [] E Q [.int (b : Int), .int s, .ref r] H := by
  intro x dx hx hdx ne
  have W1 := W.new (o := .own x) hdx
  have hx1 : upd H dx (.own x) x = none := by rw [upd_ne (Ne.symm ne)]; exact hx
  have W2 := W1.new (o := .ins c.CBig dx []) hx1
  refine ⟨x, dx, b, s, r, rfl, upd_same, fun H' ch => ⟨rfl, ?_⟩⟩
  have W3 := W2.chg1 Rp.here ch (.inl (W.fresh hx))
  have hno : dx ∉ M := fun z => W.out hdx (W.sub dx z)
  refine q x dx H' (W.fresh hx) ?_
  have W4 : Wd H0 H' M ((dx, .own x) :: (x, .ins c.CBig dx (bF b s r)) :: L) := W3.perm (List.Perm.swap _ _ _)
  exact W4.drop1 hno
def sp_made (K : PySem.W.Frag) (c : Pc) : Sp := fun vs H Q _ => ∃ (m dx : Addr) (b : Nat) (cut : Int) (d e : Addr) (s : Int) (l : Addr) (ds : List Nat), vs = [.ref m, .int s, .ref l] ∧ H m = some (.ins c.CMachine dx (mF b cut d e)) ∧ H l = some (.lst (iN ds)) ∧ ds.length < 2 ^ 23 ∧
  ∀ x dx r H', Chg H H' [] [(x, .ins c.CBig dx (bF b (if strip ds = [] then 0 else s) r)), (r, .tup (iN (strip ds)))] → Q (.ref x) H'
def t_made (K : PySem.W.Frag) (c : Pc) : TS :=
  (tSeq (tAsg (tCB (rLen K) (tCons (tVar 2) tNil)) (gName 3))
  (tSeq (tWhile (tAnd (tTest (tOp rGt (tVar 3) (tC (.int 0)))) (tTest (tOp rEq (tOp (rIxL K) (tVar 2) (tOp rSub (tVar 3) (tC (.int 1)))) (tC (.int 0))))) (tAsg (tOp rSub (tVar 3) (tC (.int 1))) (gName 3)))
  (tRet (tMake c.CBig (sp_Big_init K c) [] E0 (tCons (tFld K (tVar 0) "width") (tCons (tIf (tTest (tOp rGt (tVar 3) (tC (.int 0)))) (tVar 1) (tC (.int 0))) (tCons (tCB (rTupL K) (tCons (tSl (rSlL K) (tVar 2) tNoPart (tPart (tVar 3))) tNil)) tNil)))))))
theorem strip_take {ds : List Nat} {n : Nat} (hz : ∀ d ∈ ds.drop n, d = 0) (hn : n = 0 ∨ ∃ d, ds[n - 1]? = some d ∧ d ≠ 0) : strip ds = ds.take n := by
  have e : ds = ds.take n ++ ds.drop n := (List.take_append_drop n ds).symm
  rw [e, strip_app_zeros _ hz, ← e]
  rcases hn with h | ⟨d, h1, h2⟩
  · rw [h]; rfl
  · have hl : n - 1 < ds.length := (List.getElem?_eq_some_iff.mp h1).1
    cases n with
    | zero => rfl
    | succ n =>
      have h1' : ds[n]? = some d := by simpa using h1
      rw [take_snoc h1', strip_app_ne _ h2]
theorem b_made (P : PM K c) (PB : PB K c) (h : sp_made K c vs H Q E) : t_made K c (en0 Q) (st0 4 vs) H := by
  obtain ⟨m, dx, b, cut, d, e, s, l, ds, rfl, hm, hl, hlen, k⟩ := h
  have nml : m ≠ l := ne_of hm hl (by intro z; cases z)
  have W : Wd H H [] [(m, .ins c.CMachine dx (mF b cut d e)), (l, .lst (iN ds))] := (Wd.one hl).old hm (by simpa using nml)
  unfold t_made
  walk_at "rd"
  refine rd_while (fun n σ' H' => σ' = [some (.ref m), some (.int s), some (.ref l), some (.int (n : Int))] ∧ H' = H ∧ n ≤ ds.length ∧ ∀ d ∈ ds.drop n, d = 0) ds.length ⟨by rw [iN_length]; rfl, rfl, Nat.le_refl _, by rw [List.drop_length]; intro d z; cases z⟩ ?_
  rintro n σ' H' ⟨rfl, rfl, hn, hz⟩
  have fin : (n = 0 ∨ ∃ d, ds[n - 1]? = some d ∧ d ≠ 0) → tRet (tMake c.CBig (sp_Big_init K c) [] E0 (tCons (tFld K (tVar 0) "width") (tCons (tIf (tTest (tOp rGt (tVar 3) (tC (.int 0)))) (tVar 1) (tC (.int 0))) (tCons (tCB (rTupL K) (tCons (tSl (rSlL K) (tVar 2) tNoPart (tPart (tVar 3))) tNil)) tNil)))) (en0 Q) [some (.ref m), some (.int s), some (.ref l), some (.int (n : Int))] H' := by
    intro hend
    have es := strip_take hz hend
    have hsid : (if strip ds = [] then (0 : Int) else s) = if 0 < n then s else 0 := by
      rw [es]
      rcases Nat.eq_zero_or_pos n with z | z
      · rw [z]; rfl
      · rw [if_neg (fun q => ?_), if_pos z]
        have := congrArg List.length q
        rw [List.length_take] at this
        simp only [List.length_nil] at this
        omega
    walk_at "rd"
    refine rd_Mwidth P (by walk_at "own") ?_
    walk_at "rd"
    have cont : ∀ (s' : Int), s' = (if strip ds = [] then (0 : Int) else s) → tCons (tCB (rTupL K) (tCons (tSl (rSlL K) (tVar 2) tNoPart (tPart (tVar 3))) tNil)) tNil [some (.ref m), some (.int s), some (.ref l), some (.int (n : Int))] H' (fun xs H2 => kMake c.CBig (sp_Big_init K c) [] E0 Q (.int (b : Int) :: .int s' :: xs) H2) := by
      intro s' hs'
      subst hs'
      walk_at "rd"
      refine rd_slL (ys := iN (strip ds)) W (by walk_at "sq") ?_ fun p H1 hp W1 => ?_
      · rw [es, ← iN_take]
        unfold cutV
        rw [HT.sIx_none, HT.sIx_nat, List.drop_zero, Nat.sub_zero, iN_length, Nat.min_eq_left hn]
      walk_at "rd"
      refine rd_tupL W1 (by walk_at "sq") fun r H2 hr W2 => ?_
      walk_at "rd"
      refine rd_mkBig W2 fun x dx' H3 hx W3 => ?_
      refine k x dx' r H3 (W3.done (fun q z => nomatch z) (fun q z => nomatch z) (fun q hq => ?_) ?_)
      · rcases List.mem_cons.mp hq with z | z
        · rw [z]; exact ⟨by walk_at "mem", hx⟩
        · rw [List.mem_singleton.mp z]; exact ⟨by walk_at "mem", hr⟩
      · have nd := W3.nd
        exact nd.sublist (List.Sublist.map _ (List.Sublist.cons₂ _ (List.Sublist.cons₂ _ (List.nil_sublist _))))
    refine rd_2d (fun h1 => ?_) fun h1 => ?_
    · refine rd_var rfl ?_
      exact cont s (by rw [hsid, if_pos (by omega)])
    · refine rd_c ?_
      exact cont 0 (by rw [hsid, if_neg (by omega)])
  walk_at "rd"
  refine rd_2d (fun h1 => ?_) fun h1 => ?_
  · obtain ⟨d1, hd1⟩ : ∃ d1, ds[n - 1]? = some d1 := ⟨ds[n - 1]'(by omega), List.getElem?_eq_getElem _⟩
    walk_at "rd"
    refine rd_ixL (by walk_at "sq") (at_of (j := n - 1) (by omega) (iN_get hd1)) ?_
    walk_at "rd"
    refine rd_wh2 (fun h2 => ?_) fun h2 => ?_
    · walk_at "rd"
      refine ⟨n - 1, by omega, ?_, rfl, by omega, ?_⟩
      · rw [show ((n : Int) - 1) = ((n - 1 : Nat) : Int) by omega]
      · intro x hx
        have e1 : ds.drop (n - 1) = d1 :: ds.drop n := by
          have hlt : n - 1 < ds.length := by omega
          have e2 := List.drop_eq_getElem_cons hlt
          rw [e2]
          have e3 : ds[n - 1]'hlt = d1 := by
            have := (List.getElem?_eq_some_iff.mp hd1).2
            exact this
          rw [e3]
          congr 2
          omega
        rw [e1] at hx
        rcases List.mem_cons.mp hx with z | z
        · rw [z]; omega
        · exact hz x z
    · exact fin (.inr ⟨d1, hd1, by omega⟩)
  · refine rd_whF rfl ?_
    exact fin (.inl (by omega))
theorem pwN (b : Nat) : (2 : Int) ^ b = ((2 ^ b : Nat) : Int) := by simp
theorem pwPos (b : Nat) : (0 : Int) < 2 ^ b := by rw [pwN]; exact Int.ofNat_lt.mpr (Nat.two_pow_pos b)
theorem modN (n b : Nat) : (n : Int) % 2 ^ b = ((n % 2 ^ b : Nat) : Int) := by rw [pwN]; rfl
theorem divN (n b : Nat) : (n : Int) / 2 ^ b = ((n / 2 ^ b : Nat) : Int) := by rw [pwN]; rfl
theorem absN (n : Int) : (if n < 0 then -n else n) = (n.natAbs : Int) := by split <;> omega
theorem two_nd {α : Type} {p q : Addr} {o u : α} {L : List (Addr × α)} (h : (((p, o) :: (q, u) :: L).map (·.1)).Nodup) : ([(p, o), (q, u)].map (·.1)).Nodup := h.sublist (List.Sublist.map _ (List.Sublist.cons₂ _ (List.Sublist.cons₂ _ (List.nil_sublist _))))
def sp_digits_of (K : PySem.W.Frag) (c : Pc) : Sp := fun vs H Q _ => ∃ (m dx : Addr) (b : Nat) (cut : Int) (d e : Addr) (n : Nat), vs = [.ref m, .int (n : Int)] ∧ H m = some (.ins c.CMachine dx (mF b cut d e)) ∧ b ≠ 0 ∧ (digs b n).length < 2 ^ 23 ∧
  ∀ l H', Chg H H' [] [(l, .lst (iN (digs b n)))] → Q (.ref l) H'
def t_digits_of (K : PySem.W.Frag) (c : Pc) : TS :=
  (tSeq (tAsg (tLst tNil) (gName 2))
  (tSeq (tWhile (tTest (tOp rGt (tVar 1) (tC (.int 0)))) (tSeq (tDrop (tBM K "list" rAppend (tVar 2) (tCons (tOp rMod (tVar 1) (tFld K (tVar 0) "base")) tNil)))
  (tAsg (tOp rShr (tVar 1) (tFld K (tVar 0) "width")) (gName 1))))
  (tRet (tVar 2))))
theorem b_digits_of (P : PM K c) (h : sp_digits_of K c vs H Q E) : t_digits_of K c (en0 Q) (st0 3 vs) H := by
  obtain ⟨m, dx, b, cut, d, e, n, rfl, hm, hb, hlen, kq⟩ := h
  have W : Wd H H [] [(m, .ins c.CMachine dx (mF b cut d e))] := Wd.one hm
  unfold t_digits_of
  walk_at "rd"
  refine rd_kLst W (by decide) fun l H1 hl W1 => ?_
  walk_at "rd"
  refine rd_while (fun k σ' H' => ∃ ds, σ' = [some (.ref m), some (.int (k : Int)), some (.ref l)] ∧ Wd H H' [] [(l, .lst (iN ds)), (m, .ins c.CMachine dx (mF b cut d e))] ∧ ds ++ digs b k = digs b n) n ⟨[], rfl, W1, rfl⟩ ?_
  rintro k σ' H' ⟨ds, rfl, W2, hds⟩
  walk_at "rd"
  refine rd_wh2 (fun h1 => ?_) fun h1 => ?_
  · have hk : k ≠ 0 := by omega
    have e1 := digs_pos hb hk
    walk_at "rd"
    refine rd_Mbase P (by walk_at "own") ?_
    refine rd_mod (pwPos b) ?_
    rw [modN]
    walk_at "rd"
    have hdl : ds.length < 2 ^ 23 := by
      have := congrArg List.length hds
      rw [List.length_append] at this
      omega
    refine rd_append W2 (by walk_at "rp") (by walk_at "may") (by rw [iN_length]; exact Nat.lt_of_lt_of_le hdl (by decide)) fun H3 W3 => ?_
    walk_at "rd"
    refine rd_Mwidth P (by walk_at "own") ?_
    refine rd_shr (Int.natCast_nonneg _) ?_
    rw [Int.toNat_natCast, divN]
    walk_at "rd"
    refine ⟨k / 2 ^ b, Nat.div_lt_self (Nat.pos_of_ne_zero hk) (Nat.one_lt_two_pow hb), ds ++ [k % 2 ^ b], rfl, ?_, ?_⟩
    · rw [← iN_app]
      exact W3
    · rw [← hds, e1, List.append_assoc]
      rfl
  · have hk : k = 0 := by omega
    rw [hk, digs_zero, List.append_nil] at hds
    subst hds
    walk_at "rd"
    exact kq l H' (W2.done (fun q z => nomatch z) (fun q z => nomatch z) (fun q hq => by rw [List.mem_singleton.mp hq]; exact ⟨List.mem_cons_self, hl⟩) (by simp))
/-- what a new Big is -/
def NewBig (c : Pc) (Q : VK) (H : Hp) (b : Nat) (s : Int) (ds : List Nat) : Prop := ∀ x dx r H', Chg H H' [] [(x, .ins c.CBig dx (bF b s r)), (r, .tup (iN ds))] → Q (.ref x) H'
def sp_big_of (K : PySem.W.Frag) (c : Pc) : Sp := fun vs H Q _ => ∃ (m dx : Addr) (b : Nat) (cut : Int) (d e : Addr) (n : Int), vs = [.ref m, .int n] ∧ H m = some (.ins c.CMachine dx (mF b cut d e)) ∧ b ≠ 0 ∧ (digs b n.natAbs).length < 2 ^ 23 ∧
  NewBig c Q H b (sgn n) (digs b n.natAbs)
def t_big_of (K : PySem.W.Frag) (c : Pc) : TS :=
  (tRet (tCall (sp_made K c) [] E0 (tCons (tVar 0) (tCons (tIf (tTest (tOp rLt (tVar 1) (tC (.int 0)))) (tUn rNeg (tC (.int 1))) (tC (.int 1))) (tCons (tCall (sp_digits_of K c) [] E0 (tCons (tVar 0) (tCons (tCB rAbs (tCons (tVar 1) tNil)) tNil))) tNil)))))
theorem b_big_of (P : PM K c) (h : sp_big_of K c vs H Q E) : t_big_of K c (en0 Q) (st0 2 vs) H := by
  obtain ⟨m, dx, b, cut, d, e, n, rfl, hm, hb, hlen, k⟩ := h
  have W : Wd H H [] [(m, .ins c.CMachine dx (mF b cut d e))] := Wd.one hm
  unfold t_big_of
  walk_at "rd"
  have cont : ∀ s : Int, (if digs b n.natAbs = [] then 0 else s) = sgn n → tCons (tCall (sp_digits_of K c) [] E0 (tCons (tVar 0) (tCons (tCB rAbs (tCons (tVar 1) tNil)) tNil))) tNil (st0 2 [.ref m, .int n]) H (fun xs H2 => sp_made K c (.ref m :: .int s :: xs) H2 Q E0) := by
    intro s hs
    walk_at "rd"
    rw [absN]
    refine ⟨m, dx, b, cut, d, e, n.natAbs, rfl, hm, hb, hlen, fun l H1 ch => ?_⟩
    have W1 := W.chg0 ch
    walk_at "rd"
    refine ⟨m, dx, b, cut, d, e, s, l, digs b n.natAbs, rfl, W1.get (by walk_at "mem"), W1.get (by walk_at "mem"), hlen, fun x dx r H2 ch2 => ?_⟩
    rw [digs_norm hb, hs] at ch2
    have W2 := W1.chg0 ch2
    refine k x dx r H2 (W2.done (fun q z => nomatch z) (fun q z => nomatch z) (fun q hq => ?_) (two_nd W2.nd))
    have h0 : ∀ {p o}, (p, o) ∈ [(x, HO.ins c.CBig dx (bF b (sgn n) r)), (r, HO.tup (iN (digs b n.natAbs)))] → H p = none := fun hp => W1.fresh (ch2.new hp).1
    exact ⟨List.mem_append_left _ hq, h0 (p := q.1) (o := q.2) hq⟩
  refine rd_2d (fun h1 => ?_) fun h1 => ?_
  · refine rd_un (rd_c (rd_neg ?_))
    refine cont (-1) ?_
    rw [if_neg (fun z => by have := (digs_eq_nil hb).mp z; omega)]
    unfold sgn
    rw [if_pos h1]
  · refine rd_c ?_
    refine cont 1 ?_
    unfold sgn
    rw [if_neg h1]
    by_cases h2 : n = 0
    · rw [if_pos ((digs_eq_nil hb).mpr (by omega)), if_pos h2]
    · rw [if_neg (fun z => by have := (digs_eq_nil hb).mp z; omega), if_neg h2]
def sp_big (K : PySem.W.Frag) (c : Pc) : Sp := sp_big_of K c
def t_big (K : PySem.W.Frag) (c : Pc) : TS :=
  (tSeq (tDrop (tCall (sp_check_machine K c) [] E0 (tCons (tVar 0) tNil)))
  (tSeq (tDrop (tCall (sp_check_integer K c) [] E0 (tCons (tC (.str "n")) (tCons (tVar 1) tNil))))
  (tRet (tCall (sp_big_of K c) [] E0 (tCons (tVar 0) (tCons (tVar 1) tNil))))))
theorem b_big (h : sp_big K c vs H Q E) : t_big K c (en0 Q) (st0 2 vs) H := by
  obtain ⟨m, dx, b, cut, d, e, n, rfl, hm, hb, hlen, k⟩ := h
  unfold t_big
  walk_at "rd"
  refine ⟨m, dx, _, rfl, hm, ?_⟩
  walk_at "rd"
  refine ⟨_, n, rfl, ?_⟩
  walk_at "rd"
  exact ⟨m, dx, b, cut, d, e, n, rfl, hm, hb, hlen, k⟩
/-- the Big of n at x, its row at r -/
structure BigAt (c : Pc) (H : Hp) (x : Addr) (b : Nat) (n : Int) : Prop where
  at_ : ∃ dx r, H x = some (.ins c.CBig dx (bF b (sgn n) r)) ∧ H r = some (.tup (iN (digs b n.natAbs)))
theorem BigAt.same {H' : Hp} {n : Int} (h : BigAt c H x b n) (hs : Same H H') : BigAt c H' x b n := by
  obtain ⟨dx, r, h1, h2⟩ := h.at_
  exact ⟨dx, r, hs _ _ h1, hs _ _ h2⟩
def bigL (b : Nat) (n : Int) : Prop := b ≠ 0 ∧ b ≤ 30 ∧ (digs b n.natAbs).length < 2 ^ 22
theorem sgn_small (n : Int) : -1 ≤ sgn n ∧ sgn n ≤ 1 := by
  unfold sgn
  split
  · omega
  · split <;> omega
end
/-- the state of a source of draws -/
def SrcO (o : HO) : Prop := ∃ z0 z1 z2 : Int, o = .lst [.int z0, .int z1, .int z2]
section
variable {K : PySem.W.Frag} {c : Pc} {vs : List V} {H H0 : Hp} {Q : VK} {E : XK} {M : List Addr} {L : List (Addr × HO)} {L' : HO → List (Addr × HO)} {n : Int} {a p : Addr} {o : HO}
def sp_law_source_of (K : PySem.W.Frag) (c : Pc) : Sp := fun vs H Q _ => ∃ n, vs = [.int n] ∧ ∀ p o H', SrcO o → Chg H H' [] [(p, o)] → Q (.ref p) H'
theorem one_nd {α : Type} {p : Addr} {o : α} : ([(p, o)].map (·.1)).Nodup := List.nodup_cons.mpr ⟨by simp, List.nodup_nil⟩
theorem Wd.new1 {H' : Hp} {o : HO} (W : Wd H H' [] ((p, o) :: L)) (hp : H p = none) : Chg H H' [] [(p, o)] :=
  W.done (fun q z => nomatch z) (fun q z => nomatch z) (fun q hq => by rw [List.mem_singleton.mp hq]; exact ⟨List.mem_cons_self, hp⟩) one_nd
theorem pow18 : oPow 10 18 := ⟨by decide, by decide⟩
def NxtB (n : Int) : Prop := n.natAbs < 2 ^ 8000
theorem nxt_of {n : Int} {k : Nat} (h : n.natAbs < 2 ^ k) (hk : k ≤ 8000) : NxtB n := Nat.lt_of_lt_of_le h (Nat.pow_le_pow_right (by decide) hk)
theorem nxt64 {n : Int} (h0 : 0 < n) (h : n < 2 ^ 64) : NxtB n := nxt_of (k := 64) (by omega) (by decide)
theorem nxOk {n : Int} (h0 : 0 < n) (h : n < 2 ^ 64) : 0 < n ∧ NxtB n := ⟨h0, nxt64 h0 h⟩
def sp_law_next (K : PySem.W.Frag) (c : Pc) : Sp := fun vs H Q _ => ∃ a o n, vs = [.ref a, .int n] ∧ H a = some o ∧ SrcO o ∧ 0 < n ∧ NxtB n ∧ ∀ r o' H', 0 ≤ r → r < n → SrcO o' → Chg H H' [(a, o')] [] → Q (.int r) H'
theorem Wd.chg_one {H' : Hp} {o : HO} {a : Addr} (W : Wd H H' [a] ((a, o) :: L)) : Chg H H' [(a, o)] [] :=
  W.done (fun q hq => by rw [List.mem_singleton.mp hq]; exact List.mem_cons_self) (fun q hq => hq) (fun q z => nomatch z) List.nodup_nil
/-- a draw, for those who call -/
theorem u_next (W : Wd H0 H M L) (hr : ∀ u, Rp a o u L (L' u)) (ho : SrcO o) (hm : H0 a = none ∨ a ∈ M) (h0 : 0 < n) (hn : n < 2 ^ 64) (q : ∀ r o' H', 0 ≤ r → r < n → SrcO o' → Wd H0 H' M (L' o') → Q (.int r) H') : sp_law_next K c [.ref a, .int n] H Q E :=
  ⟨a, o, n, rfl, W.get (hr o).mem, ho, h0, nxt64 h0 hn, fun r o' H' h1 h2 h3 ch => q r o' H' h1 h2 h3 (W.chg1 (hr o') ch hm)⟩
def sp_law_one (K : PySem.W.Frag) (c : Pc) : Sp := fun vs H Q _ => ∃ a o l xs, vs = [.ref a, .ref l] ∧ H a = some o ∧ SrcO o ∧ H l = some (.lst xs) ∧ xs ≠ [] ∧ xs.length ≤ 1000 ∧ a ≠ l ∧ ∀ v o' H', v ∈ xs → SrcO o' → Chg H H' [(a, o')] [] → Q v H'
def t_law_one (K : PySem.W.Frag) (c : Pc) : TS :=
  (tRet (tOp (rIxL K) (tVar 1) (tCall (sp_law_next K c) [] E0 (tCons (tVar 0) (tCons (tCB (rLen K) (tCons (tVar 1) tNil)) tNil)))))
theorem b_law_one (h : sp_law_one K c vs H Q E) : t_law_one K c (en0 Q) (st0 2 vs) H := by
  obtain ⟨a, o, l, xs, rfl, ha, ho, hl, hne, hlen, nal, k⟩ := h
  have W : Wd H H [a] [(a, o), (l, .lst xs)] := ((Wd.one hl).old ha (by simpa using nal)).may List.mem_cons_self
  have hpos : 0 < xs.length := List.length_pos_iff.mpr hne
  unfold t_law_one
  walk_at "rd"
  refine u_next W (fun u => by walk_at "rp") ho (by walk_at "may") (by omega) (by omega) fun r o' H1 h1 h2 ho' W1 => ?_
  have hlt : r.toNat < xs.length := by omega
  refine rd_ixL (by walk_at "sq") (v := xs[r.toNat]'hlt) (at_of (j := r.toNat) (by omega) (List.getElem?_eq_getElem _)) ?_
  exact k _ o' H1 (List.getElem_mem _) ho' W1.chg_one
theorem u_one {l : Addr} {xs : List V} (W : Wd H0 H M L) (hr : ∀ u, Rp a o u L (L' u)) (ho : SrcO o) (hm : H0 a = none ∨ a ∈ M) (hl : (l, .lst xs) ∈ L) (nal : a ≠ l) (hne : xs ≠ []) (hlen : xs.length ≤ 1000) (q : ∀ v o' H', v ∈ xs → SrcO o' → Wd H0 H' M (L' o') → Q v H') : sp_law_one K c [.ref a, .ref l] H Q E :=
  ⟨a, o, l, xs, rfl, W.get (hr o).mem, ho, W.get hl, hne, hlen, nal, fun v o' H' h1 h2 ch => q v o' H' h1 h2 (W.chg1 (hr o') ch hm)⟩
end
def dI (ns : List Int) : List PyData := ns.map PyData.int
theorem dI_lay : ∀ ns : List Int, PyData.canLayAll0 (dI ns) = true
  | [] => by simp [dI, PyData.canLayAll0]
  | n :: ns => by
    show PyData.canLayAll0 (PyData.int n :: dI ns) = true
    rw [PyData.canLayAll0, dI_lay ns]
    simp [PyData.canLay0]
theorem dI_depth : ∀ ns : List Int, PyData.depthAll (dI ns) = 0
  | [] => by simp [dI, PyData.depthAll]
  | n :: ns => by
    show PyData.depthAll (PyData.int n :: dI ns) = 0
    rw [PyData.depthAll, dI_depth ns]
    simp [PyData.depth]
theorem dI_eqv : ∀ ns ms : List Int, PyData.eqvAll (dI ns) (dI ms) = decide (ns = ms)
  | [], [] => by simp [dI, PyData.eqvAll]
  | [], _ :: _ => by simp [dI, PyData.eqvAll]
  | _ :: _, [] => by simp [dI, PyData.eqvAll]
  | n :: ns, m :: ms => by
    show PyData.eqvAll (PyData.int n :: dI ns) (PyData.int m :: dI ms) = _
    rw [PyData.eqvAll, dI_eqv ns ms, PyData.eqv]
    by_cases h1 : n = m
    · by_cases h2 : ns = ms
      · simp [h1, h2]
      · simp [h1, h2]
    · simp [h1]
theorem shaped_list (ns : List Int) : SeqAt.shaped (.list (dI ns)) = true := by
  unfold SeqAt.shaped
  rw [PyData.canLay0, dI_lay, PyData.depth, dI_depth]
  rfl
theorem dpI {K : PySem.W.Frag} {H : Hp} : ∀ ns : List Int, DpAll K H (ns.map V.int) (dI ns)
  | [] => .nil
  | n :: ns => .cons (.int n) (dpI ns)
section
variable {K : PySem.W.Frag} {c : Pc} {vs : List V} {H H0 : Hp} {Q : VK} {E : XK} {M : List Addr} {L : List (Addr × HO)} {L' : HO → List (Addr × HO)} {n : Int} {a p l : Addr} {o : HO} {ns ms : List Int} {ds : List Nat}
theorem rd_neLI (h1 : SqL K H l (ns.map V.int)) (h2 : SqL K H p (ms.map V.int)) (q : Q (.bl (!decide (ns = ms))) H) : rNeD K (.ref l) (.ref p) H Q :=
  ⟨_, _, .lst h1 (dpI ns), .lst h2 (dpI ms), shaped_list ns, shaped_list ms, by rw [PyData.eqv, dI_eqv]; exact q⟩
theorem rd_eqLI (h1 : SqL K H l (ns.map V.int)) (h2 : SqL K H p (ms.map V.int)) (q : Q (.bl (decide (ns = ms))) H) : rEqD K (.ref l) (.ref p) H Q :=
  ⟨_, _, .lst h1 (dpI ns), .lst h2 (dpI ms), shaped_list ns, shaped_list ms, by rw [PyData.eqv, dI_eqv]; exact q⟩
theorem iN_int (ds : List Nat) : iN ds = (ds.map fun (d : Nat) => (d : Int)).map V.int := by unfold iN; rw [List.map_map]; rfl
theorem rd_mkMachine {b : Nat} {cut : Int} (W : Wd H0 H M L) (h1 : 8 ≤ b) (h2 : b ≤ 30) (h3 : 2 ≤ cut) (h4 : cut ≤ 1000)
    (q : ∀ x dx d e H', H0 x = none → H0 d = none → H0 e = none → Wd H0 H' M ((d, .dK (cK zeros)) :: (e, .lst []) :: (x, .ins c.CMachine dx (mF b cut d e)) :: L) → Q (.ref x) H') : kMake c.CMachine (sp_Machine_init K c) [] E Q [.int (b : Int), .int cut] H := by
  intro x dx hx hdx ne
  have W1 := W.new (o := .own x) hdx
  have hx1 : upd H dx (.own x) x = none := by rw [upd_ne (Ne.symm ne)]; exact hx
  have W2 := W1.new (o := .ins c.CMachine dx []) hx1
  refine ⟨x, dx, b, cut, rfl, h1, h2, h3, h4, upd_same, fun d e H' ch => ⟨rfl, ?_⟩⟩
  have W3 := W2.chg1 Rp.here ch (.inl (W.fresh hx))
  have hno : dx ∉ M := fun z => W.out hdx (W.sub dx z)
  have hd0 : H0 d = none := W2.fresh (ch.new (o := .dK (cK zeros)) (by walk_at "mem")).1
  have he0 : H0 e = none := W2.fresh (ch.new (o := .lst []) (by walk_at "mem")).1
  refine q x dx d e H' (W.fresh hx) hd0 he0 ?_
  have W4 : Wd H0 H' M ((dx, .own x) :: (d, .dK (cK zeros)) :: (e, .lst []) :: (x, .ins c.CMachine dx (mF b cut d e)) :: L) := W3.perm (List.perm_middle (l₁ := [_, _, _]) (l₂ := L))
  exact W4.drop1 hno
def sp_law_machine (K : PySem.W.Frag) (c : Pc) : Sp := fun vs H Q _ => ∃ a o, vs = [.ref a] ∧ H a = some o ∧ SrcO o ∧
  ∀ (x dx : Addr) (b : Nat) (cut : Int) (d e : Addr) o' H', 8 ≤ b → b ≤ 30 → 2 ≤ cut → cut ≤ 1000 → SrcO o' → Chg H H' [(a, o')] [(d, .dK (cK zeros)), (e, .lst []), (x, .ins c.CMachine dx (mF b cut d e))] → Q (.ref x) H'
end
/-- a thing that calls may change: a list or a dict -/
def Chb (o : HO) : Prop := (∃ xs, o = .lst xs) ∨ ∃ kvs, o = .dK kvs
section
variable {K : PySem.W.Frag} {c : Pc} {vs : List V} {H H0 H' : Hp} {Q : VK} {E : XK} {M : List Addr} {L : List (Addr × HO)} {b : Nat} {s cut n : Int} {a m d e dx r x l p : Addr} {ds : List Nat} {cs ns : List (Addr × HO)}
theorem BigAt.chg (h : BigAt c H x b n) (ch : Chg H H' cs ns) (hc : ∀ q ∈ cs, ∃ o, H q.1 = some o ∧ Chb o) : BigAt c H' x b n := by
  obtain ⟨dx, r, h1, h2⟩ := h.at_
  refine ⟨dx, r, ch.keep _ _ h1 fun z => ?_, ch.keep _ _ h2 fun z => ?_⟩
  · obtain ⟨q, hq, e⟩ := List.mem_map.mp z
    obtain ⟨o, ho, hb⟩ := hc q hq
    rw [e, h1] at ho
    rcases hb with ⟨xs, rfl⟩ | ⟨kvs, rfl⟩ <;> cases ho
  · obtain ⟨q, hq, e⟩ := List.mem_map.mp z
    obtain ⟨o, ho, hb⟩ := hc q hq
    rw [e, h2] at ho
    rcases hb with ⟨xs, rfl⟩ | ⟨kvs, rfl⟩ <;> cases ho
theorem NewBig.at (h : ∀ x H', Chg H H' [] [] → H x = none → BigAt c H' x b n → Q (.ref x) H') : NewBig c Q H b (sgn n) (digs b n.natAbs) := fun x dx r H' ch =>
  h x H' (.of_same fun q o z => ch.keep q o z fun y => nomatch y) (ch.new List.mem_cons_self).1 ⟨dx, r, (ch.new List.mem_cons_self).2, (ch.new (List.mem_cons_of_mem _ List.mem_cons_self)).2⟩
def sp_Machine_parts (K : PySem.W.Frag) (c : Pc) : Sp := fun vs H Q _ => ∃ (a dx : Addr) (b : Nat) (cut : Int) (d e : Addr), vs = [.ref a] ∧ H a = some (.ins c.CMachine dx (mF b cut d e)) ∧ ∀ p H', Chg H H' [] [(p, .tup [.int (b : Int), .int cut])] → Q (.ref p) H'
def t_Machine_parts (K : PySem.W.Frag) (c : Pc) : TS :=
  (tRet (tTup (tCons (tFld K (tVar 0) "width") (tCons (tFld K (tVar 0) "limit_of_rows") tNil))))
theorem b_Machine_parts (P : PM K c) (h : sp_Machine_parts K c vs H Q E) : t_Machine_parts K c (en0 Q) (st0 1 vs) H := by
  obtain ⟨a, dx, b, cut, d, e, rfl, ha, k⟩ := h
  unfold t_Machine_parts
  walk_at "rd"
  refine rd_Mwidth P ha ?_
  walk_at "rd"
  refine rd_Mlimit P ha ?_
  walk_at "rd"
  refine rd_kTup (Wd.nil H) (by walk_at "len") fun p H1 hp W => ?_
  exact k p H1 (W.new1 hp)
def sp_Machine_walk (K : PySem.W.Frag) (c : Pc) : Sp := fun vs H Q _ => ∃ (a dx : Addr) (b : Nat) (cut : Int) (d e : Addr) (xs : List V), vs = [.ref a] ∧ H a = some (.ins c.CMachine dx (mF b cut d e)) ∧ H e = some (.lst xs) ∧ ∀ p H', Chg H H' [] [(p, .lst xs)] → Q (.ref p) H'
def t_Machine_walk (K : PySem.W.Frag) (c : Pc) : TS :=
  (tRet (tCB (rList K) (tCons (tFld K (tVar 0) "entered") tNil)))
theorem b_Machine_walk (P : PM K c) (h : sp_Machine_walk K c vs H Q E) : t_Machine_walk K c (en0 Q) (st0 1 vs) H := by
  obtain ⟨a, dx, b, cut, d, e, xs, rfl, ha, he, k⟩ := h
  unfold t_Machine_walk
  walk_at "rd"
  refine rd_Mentered P ha ?_
  walk_at "rd"
  refine rd_list (Wd.nil H) (.inl (SqL.of he)) fun p H1 hp W => ?_
  exact k p H1 (W.new1 hp)
def sp_Big_sign (K : PySem.W.Frag) (c : Pc) : Sp := fun vs H Q _ => ∃ x b n, vs = [.ref x] ∧ BigAt c H x b n ∧ Q (.int (sgn n)) H
def sp_Big_bits (K : PySem.W.Frag) (c : Pc) : Sp := fun vs H Q _ => ∃ x b n, vs = [.ref x] ∧ BigAt c H x b n ∧ Q (.int (b : Int)) H
def sp_Big_digits (K : PySem.W.Frag) (c : Pc) : Sp := fun vs H Q _ => ∃ x b n, vs = [.ref x] ∧ BigAt c H x b n ∧ ∀ p H', Chg H H' [] [(p, .lst (iN (digs b n.natAbs)))] → Q (.ref p) H'
def sp_Big_eq (K : PySem.W.Frag) (c : Pc) : Sp := fun vs H Q _ => ∃ x b n y, vs = [.ref x, y] ∧ BigAt c H x b n ∧ b ≠ 0 ∧
  ((∃ x' b' n', y = .ref x' ∧ BigAt c H x' b' n' ∧ b' ≠ 0 ∧ ∀ H', Same H H' → Q (.bl (decide (b = b' ∧ n = n'))) H') ∨ (∃ t, TyX K H y t ∧ PySem.W.kitOne K t (.ref c.CBig) = some false ∧ Q (.bl false) H))
def sp_value_of (K : PySem.W.Frag) (c : Pc) : Sp := fun vs H Q _ => ∃ x b n, vs = [.ref x] ∧ BigAt c H x b n ∧ bigL b n ∧ ∀ H', Same H H' → Q (.int n) H'
def t_value_of (K : PySem.W.Frag) (c : Pc) : TS :=
  (tSeq (tAsg (tC (.int 0)) (gName 1))
  (tSeq (tFor (iTup K (tRevT K (tFld K (tVar 0) "row"))) (gName 2) (tAsg (tOp rOr (tOp rShl (tVar 1) (tFld K (tVar 0) "width")) (tVar 2)) (gName 1)))
  (tRet (tOp rMul (tFld K (tVar 0) "side") (tVar 1)))))
theorem fold_val (b : Nat) (ds : List Nat) : ds.reverse.foldl (fun r d => r * 2 ^ b + d) 0 = val b ds := by
  rw [List.foldl_reverse]
  induction ds with
  | nil => rfl
  | cons d ds ih => rw [List.foldr_cons, ih, val_cons, Nat.add_comm, Nat.mul_comm]
theorem fold_lt {b : Nat} : ∀ {ds : List Nat} (k : Nat), Digs b ds → k < 2 ^ 0 → ds.foldl (fun r d => r * 2 ^ b + d) k < 2 ^ (b * ds.length) := by
  have key : ∀ (ds : List Nat) (k j : Nat), Digs b ds → k < 2 ^ j → ds.foldl (fun r d => r * 2 ^ b + d) k < 2 ^ (b * ds.length + j) := by
    intro ds
    induction ds with
    | nil => intro k j _ hk; simpa using hk
    | cons d ds ih =>
      intro k j hd hk
      have h1 := ih (k * 2 ^ b + d) (b + j) (fun y hy => hd y (List.mem_cons_of_mem _ hy)) (by
        have hdl := hd d List.mem_cons_self
        have : (k + 1) * 2 ^ b ≤ 2 ^ j * 2 ^ b := Nat.mul_le_mul_right _ hk
        rw [Nat.add_mul, Nat.one_mul] at this
        rw [Nat.pow_add, Nat.mul_comm (2 ^ b)]
        omega)
      rw [List.foldl_cons, List.length_cons, Nat.mul_add, Nat.mul_one]
      rw [show b * ds.length + b + j = b * ds.length + (b + j) by omega]
      exact h1
  intro ds k hd hk
  have := key ds k 0 hd hk
  simpa using this
theorem b_value_of (P : PB K c) (h : sp_value_of K c vs H Q E) : t_value_of K c (en0 Q) (st0 3 vs) H := by
  obtain ⟨x, b, n, rfl, ⟨dx, r, hx, hr⟩, ⟨hb, hb30, hl⟩, q⟩ := h
  have nxr : x ≠ r := ne_of hx hr (by intro z; cases z)
  have W : Wd H H [] [(x, .ins c.CBig dx (bF b (sgn n) r)), (r, .tup (iN (digs b n.natAbs)))] := (Wd.one hr).old hx (by simpa using nxr)
  have hdg : Digs b (digs b n.natAbs).reverse := fun d hd => digs_lt hb _ d (List.mem_reverse.mp hd)
  unfold t_value_of
  walk_at "rd"
  refine rd_Brow P hx ?_
  refine rd_kRevT W (by walk_at "sq") fun t H1 ht W1 => ?_
  rw [iN_rev] at W1
  walk_at "rd"
  refine rd_forT (xs := iN (digs b n.natAbs).reverse) (fun i σ' H' => ∃ v, σ' = [some (.ref x), some (.int (((digs b n.natAbs).reverse.take i).foldl (fun r d => r * 2 ^ b + d) 0 : Nat)), v] ∧ H' = H1) ⟨none, rfl, rfl⟩ ?_ ?_ ?_
  · rintro i σ' H' _ ⟨v, _, rfl⟩
    walk_at "sq"
  · rintro i y σ' H' hy ⟨v, rfl, rfl⟩
    obtain ⟨d, hd, rfl⟩ := iN_of hy
    have hil : i < (digs b n.natAbs).length := by
      have := (List.getElem?_eq_some_iff.mp hd).1
      rwa [List.length_reverse] at this
    have hR := fold_lt (b := b) (ds := (digs b n.natAbs).reverse.take i) 0 (fun y hy => hdg y (List.mem_of_mem_take hy)) (by decide)
    rw [List.length_take, List.length_reverse, Nat.min_eq_left (by omega)] at hR
    have hdl : d < 2 ^ b := hdg d (List.mem_of_getElem? hd)
    generalize hRR : ((digs b n.natAbs).reverse.take i).foldl (fun r d => r * 2 ^ b + d) 0 = R at hR
    have hbi : b * i ≤ 30 * i := Nat.mul_le_mul_right _ hb30
    walk_at "rd"
    refine rd_Bwidth P (by walk_at "own") ?_
    refine rd_shl (shl_ok (n := b * i) (by simpa using hR) (by omega)) ?_
    walk_at "rd"
    rw [Int.toNat_natCast, or_low (Int.natCast_nonneg _) (Int.natCast_nonneg _) (by rw [pwN]; exact Int.ofNat_lt.mpr hdl)]
    refine ⟨some (.int (d : Int)), ?_, rfl⟩
    rw [take_snoc hd, List.foldl_append, hRR, pwN]
    rfl
  · rintro σ' H' ⟨v, rfl, rfl⟩
    rw [iN_length, List.take_length, fold_val, val_digs hb]
    have hs := sgn_small n
    walk_at "rd"
    refine rd_Bside P (by walk_at "own") ?_
    walk_at "rd"
    refine rd_mul (mul_okL (by omega) (by omega)) ?_
    rw [sgn_mul]
    exact q _ W1.toSame
def sp_plain (K : PySem.W.Frag) (c : Pc) : Sp := sp_value_of K c
def sp_negative (K : PySem.W.Frag) (c : Pc) : Sp := fun vs H Q _ => ∃ x b n, vs = [.ref x] ∧ BigAt c H x b n ∧ ∀ x' H', H x' = none → Chg H H' [] [] → BigAt c H' x' b (-n) → Q (.ref x') H'
theorem sgn_neg (n : Int) : sgn (-n) = 0 - sgn n := by
  unfold sgn
  split <;> split <;> (try split) <;> (try split) <;> omega
def sp_absolute (K : PySem.W.Frag) (c : Pc) : Sp := fun vs H Q _ => ∃ x b n, vs = [.ref x] ∧ BigAt c H x b n ∧ ∀ x' H', H x' = none → Chg H H' [] [] → BigAt c H' x' b (n.natAbs : Int) → Q (.ref x') H'
end
section
variable {K : PySem.W.Frag} {c : Pc} {vs : List V} {H H0 : Hp} {Q : VK} {E : XK} {M : List Addr} {L : List (Addr × HO)} {L' : HO → List (Addr × HO)} {n : Int} {a p l : Addr} {o : HO} {base most : Nat} {ds : List Nat}
def sp_law_digits (K : PySem.W.Frag) (c : Pc) : Sp := fun vs H Q _ => ∃ (a : Addr) (o : HO) (base most : Nat), vs = [.ref a, .int (base : Int), .int (most : Int)] ∧ H a = some o ∧ SrcO o ∧ 2 ≤ base ∧ base ≤ 2 ^ 30 ∧ most ≤ 10000 ∧
  ∀ (l : Addr) (ds : List Nat) o' H', ds.length ≤ most + 1 → (∀ d ∈ ds, d < base) → SrcO o' → Chg H H' [(a, o')] [(l, .lst (iN ds))] → Q (.ref l) H'
theorem u_digits (W : Wd H0 H M L) (hr : ∀ u, Rp a o u L (L' u)) (ho : SrcO o) (hm : H0 a = none ∨ a ∈ M) (h1 : 2 ≤ base) (h2 : base ≤ 2 ^ 30) (h3 : most ≤ 10000)
    (q : ∀ (l : Addr) (ds : List Nat) o' H', H0 l = none → ds.length ≤ most + 1 → (∀ d ∈ ds, d < base) → SrcO o' → Wd H0 H' M ((l, .lst (iN ds)) :: L' o') → Q (.ref l) H') : sp_law_digits K c [.ref a, .int (base : Int), .int (most : Int)] H Q E :=
  ⟨a, o, base, most, rfl, W.get (hr o).mem, ho, h1, h2, h3, fun l ds o' H' h4 h5 h6 ch => q l ds o' H' (W.fresh (ch.new List.mem_cons_self).1) h4 h5 h6 (W.chg1 (hr o') ch hm)⟩
def valB (base : Nat) : List Nat → Nat
  | [] => 0
  | d :: ds => d + base * valB base ds
theorem valB_lt : ∀ {ds : List Nat}, (∀ d ∈ ds, d < base) → valB base ds < base ^ ds.length
  | [], _ => by simp [valB]
  | d :: ds, h => by
    have ih := valB_lt (ds := ds) fun x hx => h x (List.mem_cons_of_mem _ hx)
    have hd := h d List.mem_cons_self
    show d + base * valB base ds < base ^ (ds.length + 1)
    have h1 : base * (valB base ds + 1) ≤ base * base ^ ds.length := Nat.mul_le_mul_left _ ih
    rw [Nat.mul_add, Nat.mul_one] at h1
    rw [Nat.pow_succ, Nat.mul_comm (base ^ ds.length)]
    omega
def sp_law_value (K : PySem.W.Frag) (c : Pc) : Sp := fun vs H Q _ => ∃ (l : Addr) (base : Nat) (ds : List Nat), vs = [.ref l, .int (base : Int)] ∧ H l = some (.lst (iN ds)) ∧ base ≤ 2 ^ 30 ∧ ∀ H', Same H H' → Q (.int (valB base ds : Nat)) H'
def sp_law_number (K : PySem.W.Frag) (c : Pc) : Sp := fun vs H Q _ => ∃ (a : Addr) (o : HO) (base most : Nat), vs = [.ref a, .int (base : Int), .int (most : Int)] ∧ H a = some o ∧ SrcO o ∧ 2 ≤ base ∧ base ≤ 2 ^ 30 ∧ most ≤ 10000 ∧
  ∀ (n : Int) o' H', n.natAbs < base ^ (most + 1) → SrcO o' → Chg H H' [(a, o')] [] → Q (.int n) H'
def t_law_number (K : PySem.W.Frag) (c : Pc) : TS :=
  (tSeq (tAsg (tCall (sp_law_value K c) [] E0 (tCons (tCall (sp_law_digits K c) [] E0 (tCons (tVar 0) (tCons (tVar 1) (tCons (tVar 2) tNil)))) (tCons (tVar 1) tNil))) (gName 3))
  (tSeq (tAsg (tIf (tTest (tOp rGt (tVar 3) (tC (.int 0)))) (tVar 3) (tCall (sp_law_next K c) [] E0 (tCons (tVar 0) (tCons (tVar 1) tNil)))) (gName 3))
  (tRet (tCall (sp_law_one K c) [] E0 (tCons (tVar 0) (tCons (tLst (tCons (tVar 3) (tCons (tVar 3) (tCons (tOp rSub (tC (.int 0)) (tVar 3)) tNil)))) tNil))))))
theorem b_law_number (h : sp_law_number K c vs H Q E) : t_law_number K c (en0 Q) (st0 4 vs) H := by
  obtain ⟨a, o, base, most, rfl, ha, ho, hb1, hb2, hm, k⟩ := h
  have W : Wd H H [a] [(a, o)] := (Wd.one ha).may List.mem_cons_self
  unfold t_law_number
  walk_at "rd"
  refine u_digits W (fun u => by walk_at "rp") ho (by walk_at "may") hb1 hb2 hm fun l ds o1 H1 hl hds hlt ho1 W1 => ?_
  walk_at "rd"
  refine ⟨l, base, ds, rfl, W1.get (by walk_at "mem"), hb2, fun H2 hs => ?_⟩
  have W2 := W1.same hs
  have hv := valB_lt hlt
  have hv2 : valB base ds < base ^ (most + 1) := Nat.lt_of_lt_of_le hv (Nat.pow_le_pow_right (by omega) hds)
  generalize valB base ds = v at hv2
  walk_at "rd"
  have cont : ∀ (v : Nat) (o2 : HO) (H3 : Hp), v < base ^ (most + 1) → SrcO o2 → Wd H H3 [a] [(l, .lst (iN ds)), (a, o2)] →
      tRet (tCall (sp_law_one K c) [] E0 (tCons (tVar 0) (tCons (tLst (tCons (tVar 3) (tCons (tVar 3) (tCons (tOp rSub (tC (.int 0)) (tVar 3)) tNil)))) tNil))) (en0 Q) [some (.ref a), some (.int (base : Int)), some (.int (most : Int)), some (.int (v : Int))] H3 := by
    intro v o2 H3 hv ho2 W3
    walk_at "rd"
    refine rd_kLst W3 (by walk_at "len") fun t H4 ht W4 => ?_
    walk_at "rd"
    have nat : a ≠ t := fun z => by
      rw [z, ht] at ha
      cases ha
    refine u_one W4 (fun u => by walk_at "rp") ho2 (by walk_at "may") (by walk_at "mem") nat (by simp) (by simp) fun w o3 H5 hw ho3 W5 => ?_
    have ch : Chg H H5 [(a, o3)] [] := W5.done (fun q hq => by rw [List.mem_singleton.mp hq]; walk_at "mem") (fun q hq => hq) (fun q z => nomatch z) List.nodup_nil
    simp only [List.mem_cons, List.not_mem_nil, or_false] at hw
    rcases hw with rfl | rfl | rfl
    · exact k _ o3 H5 (by omega) ho3 ch
    · exact k _ o3 H5 (by omega) ho3 ch
    · exact k _ o3 H5 (by omega) ho3 ch
  refine rd_2d (fun h1 => ?_) fun h1 => ?_
  · refine rd_var rfl (rd_name (by walk_at "set") ?_)
    exact cont v o1 H2 hv2 ho1 W2
  · refine rd_call (rd_cons (rd_var rfl (rd_cons (rd_var rfl (rd_nil ?_)))))
    refine u_next W2 (fun u => by walk_at "rp") ho1 (by walk_at "may") (by omega) (by omega) fun r o2 H3 h3 h4 ho2 W3 => ?_
    obtain ⟨r', rfl⟩ := Int.eq_ofNat_of_zero_le h3
    refine rd_name (by walk_at "set") ?_
    refine cont r' o2 H3 ?_ ho2 W3
    have : base ^ 1 ≤ base ^ (most + 1) := Nat.pow_le_pow_right (by omega) (by omega)
    rw [Nat.pow_one] at this
    omega
end
section
variable {K : PySem.W.Frag} {c : Pc} {vs : List V} {H H0 : Hp} {Q : VK} {E : XK} {M : List Addr} {L : List (Addr × HO)} {L' : HO → List (Addr × HO)} {n : Int} {a p : Addr} {o : HO}
theorem b01 (b : Bool) : -(2 ^ 64) < (if b = true then (1 : Int) else 0) ∧ (if b = true then (1 : Int) else 0) < 2 ^ 64 := by cases b <;> decide
end
section
variable {K : PySem.W.Frag} {c : Pc} {vs : List V} {H H0 : Hp} {Q : VK} {E : XK} {M : List Addr} {L : List (Addr × HO)} {L' : HO → List (Addr × HO)} {n : Int} {a p : Addr} {o : HO}
def sp_x_mixed (K : PySem.W.Frag) (c : Pc) : Sp := fun vs H Q _ => ∃ x y, vs = [.int x, .int y] ∧ ∀ r, 0 ≤ r → r < 2147483563 → Q (.int r) H
def t_x_mixed (K : PySem.W.Frag) (c : Pc) : TS :=
  (tSeq (tAsg (tOp rMod (tCB rInt (tCons (tOp rMul (tOp rAdd (tOp rMod (tCB rInt (tCons (tVar 0) tNil)) (tC (.int 2147483629))) (tC (.int 1))) (tOp rAdd (tOp rMul (tVar 1) (tC (.int 7919))) (tC (.int 104729)))) tNil)) (tC (.int 2147483647))) (gName 2))
  (tSeq (tAsg (tOp rMod (tCB rInt (tCons (tOp rMul (tOp rAdd (tVar 2) (tOp rMul (tOp rMod (tCB rInt (tCons (tOp rDiv (tVar 0) (tC (.int 2147483629))) tNil)) (tC (.int 1000003))) (tOp rAdd (tVar 1) (tC (.int 31))))) (tC (.int 48271))) tNil)) (tC (.int 2147483629))) (gName 2))
  (tSeq (tAsg (tOp rMod (tCB rInt (tCons (tOp rMul (tVar 2) (tOp rAdd (tOp rAdd (tOp rDiv (tVar 2) (tC (.int 1013))) (tC (.int 69621))) (tVar 1))) tNil)) (tC (.int 2147483587))) (gName 2))
  (tRet (tOp rMod (tCB rInt (tCons (tOp rMul (tVar 2) (tOp rAdd (tOp rDiv (tVar 2) (tC (.int 2003))) (tC (.int 40692)))) tNil)) (tC (.int 2147483563)))))))
theorem b_x_mixed (h : sp_x_mixed K c vs H Q E) : t_x_mixed K c (en0 Q) (st0 3 vs) H := by
  obtain ⟨x, y, rfl, k⟩ := h
  unfold t_x_mixed
  walk_at "rd"
  refine rd_mul (mul_okR (by decide) (by decide)) ?_
  walk_at "rd"
  refine rd_mul (mul_okL (by omega) (by omega)) ?_
  walk_at "rd"
  generalize h1 : (x % 2147483629 + 1) * (y * 7919 + 104729) % 2147483647 = f1
  have b1 : 0 ≤ f1 ∧ f1 < 2147483647 := ⟨by rw [← h1]; exact Int.emod_nonneg _ (by decide), by rw [← h1]; exact Int.emod_lt_of_pos _ (by decide)⟩
  refine rd_div (div_ok64 (by decide) (by decide)) ?_
  walk_at "rd"
  generalize h2 : x / 2147483629 % 1000003 = f2
  have b2 : 0 ≤ f2 ∧ f2 < 1000003 := ⟨by rw [← h2]; exact Int.emod_nonneg _ (by decide), by rw [← h2]; exact Int.emod_lt_of_pos _ (by decide)⟩
  refine rd_mul (mul_okL (by omega) (by omega)) ?_
  walk_at "rd"
  refine rd_mul (mul_okR (by decide) (by decide)) ?_
  walk_at "rd"
  generalize h3 : (f1 + f2 * (y + 31)) * 48271 % 2147483629 = f3
  have b3 : 0 ≤ f3 ∧ f3 < 2147483629 := ⟨by rw [← h3]; exact Int.emod_nonneg _ (by decide), by rw [← h3]; exact Int.emod_lt_of_pos _ (by decide)⟩
  refine rd_div (div_ok64 (by decide) (by decide)) ?_
  walk_at "rd"
  refine rd_mul (mul_okL (by omega) (by omega)) ?_
  walk_at "rd"
  generalize h4 : f3 * (f3 / 1013 + 69621 + y) % 2147483587 = f4
  have b4 : 0 ≤ f4 ∧ f4 < 2147483587 := ⟨by rw [← h4]; exact Int.emod_nonneg _ (by decide), by rw [← h4]; exact Int.emod_lt_of_pos _ (by decide)⟩
  refine rd_div (div_ok64 (by decide) (by decide)) ?_
  walk_at "rd"
  refine rd_mul (mul_okL (by omega) (by omega)) ?_
  walk_at "rd"
  exact k _ (Int.emod_nonneg _ (by decide)) (Int.emod_lt_of_pos _ (by decide))
def sp_x_source (K : PySem.W.Frag) (c : Pc) : Sp := sp_law_source_of K c
def t_x_source (K : PySem.W.Frag) (c : Pc) : TS :=
  (tRet (tLst (tCons (tOp rMul (tVar 0) (tCB rInt (tCons (tOp rGe (tVar 0) (tOp rPow (tC (.int 10)) (tC (.int 18)))) tNil))) (tCons (tVar 0) (tCons (tC (.int 0)) tNil)))))
theorem b_x_source (h : sp_x_source K c vs H Q E) : t_x_source K c (en0 Q) (st0 1 vs) H := by
  obtain ⟨n, rfl, k⟩ := h
  unfold t_x_source
  walk_at "rd"
  refine rd_pow pow18 ?_
  walk_at "rd"
  refine rd_mul (mul_okR (b01 _).1 (b01 _).2) ?_
  walk_at "rd"
  refine rd_kLst (Wd.nil H) (by walk_at "len") fun p H1 hp W => ?_
  exact k p _ H1 ⟨_, _, _, rfl⟩ (W.new1 hp)
def sp_x_draw (K : PySem.W.Frag) (c : Pc) : Sp := sp_law_next K c
def t_x_draw (K : PySem.W.Frag) (c : Pc) : TS :=
  (tSeq (tIfS (tTest (tOp rGt (tOp (rIxL K) (tVar 0) (tC (.int 0))) (tC (.int 0)))) (tSeq (tAsg (tOp rMod (tCB rInt (tCons (tOp (rIxL K) (tVar 0) (tC (.int 0))) tNil)) (tVar 1)) (gName 2))
  (tSeq (tAsg (tOp rDiv (tOp (rIxL K) (tVar 0) (tC (.int 0))) (tVar 1)) (gSub (tVar 0) (tC (.int 0)) rSetL))
  (tRet (tVar 2)))) tNext)
  (tSeq (tAsg (tOp rAdd (tOp (rIxL K) (tVar 0) (tC (.int 2))) (tC (.int 1))) (gSub (tVar 0) (tC (.int 2)) rSetL))
  (tRet (tOp rMod (tCB rInt (tCons (tCall (sp_x_mixed K c) [] E0 (tCons (tOp (rIxL K) (tVar 0) (tC (.int 1))) (tCons (tOp (rIxL K) (tVar 0) (tC (.int 2))) tNil))) tNil)) (tVar 1)))))
theorem b_x_draw (h : sp_x_draw K c vs H Q E) : t_x_draw K c (en0 Q) (st0 3 vs) H := by
  obtain ⟨a, o, n, rfl, ha, ⟨z0, z1, z2, rfl⟩, h0, hn, k⟩ := h
  have W : Wd H H [a] [(a, .lst [.int z0, .int z1, .int z2])] := (Wd.one ha).may List.mem_cons_self
  unfold t_x_draw
  walk_at "rd"
  refine rd_ixL (by walk_at "sq") (v := .int z0) rfl ?_
  walk_at "rd"
  refine rd_2d (fun h1 => ?_) fun h1 => ?_
  · walk_at "rd"
    refine rd_ixL (by walk_at "sq") (v := .int z0) rfl ?_
    walk_at "rd"
    refine rd_ixL (by walk_at "sq") (v := .int z0) rfl ?_
    walk_at "rd"
    refine rd_div (div_ok (k := 8000) h0 hn (by decide) (by decide)) ?_
    walk_at "rd"
    refine rd_setL W (j := 0) rfl (by walk_at "rp") (by walk_at "may") fun H1 W1 => ?_
    walk_at "rd"
    exact k _ _ H1 (Int.emod_nonneg _ (by omega)) (Int.emod_lt_of_pos _ h0) ⟨_, _, _, rfl⟩ W1.chg_one
  · walk_at "rd"
    refine rd_ixL (by walk_at "sq") (v := .int z2) rfl ?_
    walk_at "rd"
    refine rd_setL W (j := 2) rfl (by walk_at "rp") (by walk_at "may") fun H1 W1 => ?_
    walk_at "rd"
    refine rd_ixL (by walk_at "sq") (v := .int z1) rfl ?_
    walk_at "rd"
    refine rd_ixL (by walk_at "sq") (v := .int (z2 + 1)) rfl ?_
    refine ⟨z1, z2 + 1, rfl, fun r hr0 hr => ?_⟩
    walk_at "rd"
    exact k _ _ H1 (Int.emod_nonneg _ (by omega)) (Int.emod_lt_of_pos _ h0) ⟨_, _, _, rfl⟩ W1.chg_one
def sp_x_one (K : PySem.W.Frag) (c : Pc) : Sp := sp_law_one K c
def t_x_one (K : PySem.W.Frag) (c : Pc) : TS :=
  (tRet (tOp (rIxL K) (tVar 1) (tCall (sp_x_draw K c) [] E0 (tCons (tVar 0) (tCons (tCB (rLen K) (tCons (tVar 1) tNil)) tNil)))))
theorem b_x_one (h : sp_x_one K c vs H Q E) : t_x_one K c (en0 Q) (st0 2 vs) H := b_law_one (E := E) h
end
/-- B: the Bigs that stand: place, width, number -/
structure Wb (c : Pc) (H0 H : Hp) (M : List Addr) (L : List (Addr × HO)) (B : List (Addr × Nat × Int)) : Prop where
  wd : Wd H0 H M L
  big : ∀ {x : Addr} {b : Nat} {n : Int}, (x, b, n) ∈ B → BigAt c H x b n ∧ bigL b n
/-- a list of integers -/
def AllI (xs : List V) : Prop := ∃ ns : List Int, xs = ns.map V.int
theorem AllI.nil : AllI [] := ⟨[], rfl⟩
theorem AllI.cons {n : Int} {xs : List V} (h : AllI xs) : AllI (.int n :: xs) := by obtain ⟨ns, rfl⟩ := h; exact ⟨n :: ns, rfl⟩
theorem AllI.n (ds : List Nat) : AllI (iN ds) := ⟨_, iN_int ds⟩
theorem AllI.m (ns : List Int) : AllI (ns.map V.int) := ⟨ns, rfl⟩
theorem AllI.app {xs ys : List V} (h : AllI xs) (k : AllI ys) : AllI (xs ++ ys) := by
  obtain ⟨ns, rfl⟩ := h
  obtain ⟨ms, rfl⟩ := k
  exact ⟨ns ++ ms, by rw [List.map_append]⟩
theorem AllI.rep {n : Nat} {xs : List V} (h : AllI xs) : AllI (List.replicate n xs).flatten := by
  induction n with
  | zero => exact AllI.nil
  | succ n ih => rw [List.replicate_succ, List.flatten_cons]; exact h.app ih
theorem SrcO.chb {o : HO} (h : SrcO o) : Chb o := by obtain ⟨a, b, d, rfl⟩ := h; exact .inl ⟨_, rfl⟩
theorem Chb.lst {xs : List V} : Chb (.lst xs) := .inl ⟨_, rfl⟩
theorem Chb.dK {kvs : List (Key × V)} : Chb (.dK kvs) := .inr ⟨_, rfl⟩
section
variable {K : PySem.W.Frag} {c : Pc} {vs xs ys : List V} {H H0 H' : Hp} {Q : VK} {E : XK} {M : List Addr} {L L' ns cs : List (Addr × HO)} {L1 : HO → List (Addr × HO)} {B : List (Addr × Nat × Int)} {b b' : Nat} {cut n m : Int} {a d e dx r x x' l p : Addr} {o u : HO} {σ : L2.St} {y : V} {tr : TA}
theorem Wb.self (W : Wb c H0 H M L B) : Wd H H [] L := ⟨W.wd.get, W.wd.nd, fun _ _ e _ => e, fun _ h => nomatch h⟩
theorem Wb.get (W : Wb c H0 H M L B) (h : (a, o) ∈ L) : H a = some o := W.wd.get h
theorem Wb.chg0 (W : Wb c H0 H M L B) (ch : Chg H H' [] ns) : Wb c H0 H' M (ns ++ L) B := ⟨W.wd.chg0 ch, fun h => ⟨(W.big h).1.chg ch (fun _ z => nomatch z), (W.big h).2⟩⟩
theorem Wb.chg1 (W : Wb c H0 H M L B) (r : Rp a o u L L') (hb : Chb o) (ch : Chg H H' [(a, u)] ns) (hm : H0 a = none ∨ a ∈ M) : Wb c H0 H' M (ns ++ L') B := ⟨W.wd.chg1 r ch hm, fun h => ⟨(W.big h).1.chg ch (fun q z => by
  rw [List.mem_singleton.mp z]; exact ⟨o, W.wd.get r.mem, hb⟩), (W.big h).2⟩⟩
theorem Wb.same (W : Wb c H0 H M L B) (s : Same H H') : Wb c H0 H' M L B := ⟨W.wd.same s, fun h => ⟨(W.big h).1.same s, (W.big h).2⟩⟩
theorem Wb.add (W : Wb c H0 H M L B) (h : BigAt c H x b n) (l : bigL b n) : Wb c H0 H M L ((x, b, n) :: B) := ⟨W.wd, fun z => by
  rcases List.mem_cons.mp z with z | z
  · cases z; exact ⟨h, l⟩
  · exact W.big z⟩
theorem Wb.new (W : Wb c H0 H M L B) (h : H p = none) : Wb c H0 (upd H p o) M ((p, o) :: L) B :=
  W.chg0 (ns := [(p, o)]) (((Wd.nil H).new h).new1 h)
theorem Wb.put (W : Wb c H0 H M L B) (r : Rp a o u L L') (hb : Chb o) (hm : H0 a = none ∨ a ∈ M) : Wb c H0 (upd H a u) M L' B :=
  W.chg1 (ns := []) r hb (⟨fun z => by cases List.mem_singleton.mp z; exact upd_same, (fun z => nomatch z), List.nodup_nil, fun b o e hb => by rw [upd_ne (fun z => hb (by rw [z]; exact List.mem_cons_self))]; exact e⟩) hm
theorem Wb.toSame (W : Wb c H H' [] L B) : Same H H' := W.wd.toSame
theorem Wb.start (W : Wd H0 H M L) : Wb c H0 H M L [] := ⟨W, fun z => nomatch z⟩
theorem lw_lst (W : Wb c H0 H M L B) (hl : xs.length ≤ sizeLine) (q : ∀ p H', H0 p = none → Wb c H0 H' M ((p, .lst xs) :: L) B → Q (.ref p) H') : kLst Q xs H := ⟨hl, fun p hp => q p _ (W.wd.fresh hp) (W.new hp)⟩
theorem lw_tup (W : Wb c H0 H M L B) (hl : xs.length ≤ sizeLine) (q : ∀ p H', H0 p = none → Wb c H0 H' M ((p, .tup xs) :: L) B → Q (.ref p) H') : kTup Q xs H := ⟨hl, fun p hp => q p _ (W.wd.fresh hp) (W.new hp)⟩
theorem lw_cat (W : Wb c H0 H M L B) (h1 : (a, .lst xs) ∈ L) (h2 : (l, .lst ys) ∈ L) (hl : xs.length + ys.length ≤ sizeLine) (q : ∀ p H', H0 p = none → Wb c H0 H' M ((p, .lst (xs ++ ys)) :: L) B → Q (.ref p) H') : rCat (.ref a) (.ref l) H Q :=
  ⟨a, l, xs, ys, rfl, rfl, W.get h1, W.get h2, hl, fun p hp => q p _ (W.wd.fresh hp) (W.new hp)⟩
theorem lw_rep (W : Wb c H0 H M L B) (h : (a, .lst xs) ∈ L) (h1 : -(2 ^ 63) ≤ n) (h2 : n < 2 ^ 63) (h3 : xs.length * n.toNat ≤ sizeLine) (q : ∀ p H', H0 p = none → Wb c H0 H' M ((p, .lst (List.replicate n.toNat xs).flatten) :: L) B → Q (.ref p) H') : rRep (.ref a) (.int n) H Q :=
  ⟨a, n, xs, rfl, rfl, W.get h, h1, h2, h3, fun p hp => q p _ (W.wd.fresh hp) (W.new hp)⟩
theorem lw_catN {ds es : List Nat} (W : Wb c H0 H M L B) (h1 : (a, .lst (iN ds)) ∈ L) (h2 : (l, .lst (iN es)) ∈ L) (hl : (iN ds).length + (iN es).length ≤ sizeLine) (q : ∀ p H', H0 p = none → Wb c H0 H' M ((p, .lst (iN (ds ++ es))) :: L) B → Q (.ref p) H') : rCat (.ref a) (.ref l) H Q :=
  lw_cat W h1 h2 hl (by rw [iN_app]; exact q)
theorem rep_zero (k : Nat) : (List.replicate k [V.int 0]).flatten = iN (List.replicate k 0) := by
  induction k with
  | zero => rfl
  | succ k ih => rw [List.replicate_succ, List.flatten_cons, ih]; rfl
theorem lw_repZ (W : Wb c H0 H M L B) (h : (a, .lst [.int 0]) ∈ L) (h1 : 0 ≤ n) (h2 : n < 10000) (q : ∀ p H', H0 p = none → Wb c H0 H' M ((p, .lst (iN (List.replicate n.toNat 0))) :: L) B → Q (.ref p) H') : rRep (.ref a) (.int n) H Q :=
  lw_rep W h (by omega) (by omega) (Evl.sz_of (by rw [List.length_singleton]; omega)) (by rw [rep_zero]; exact q)
theorem lw_append (W : Wb c H0 H M L B) (r : Rp l (.lst xs) (.lst (xs ++ [y])) L L') (hm : H0 l = none ∨ l ∈ M) (hl : xs.length < sizeLine) (q : ∀ H', Wb c H0 H' M L' B → Q .non H') : rAppend (.ref l) [y] H Q :=
  ⟨l, xs, y, rfl, rfl, W.get r.mem, hl, q _ (W.put r .lst hm)⟩
theorem lw_slL {lo hi : Option Int} (W : Wb c H0 H M L B) (h : (a, .lst xs) ∈ L) (q : ∀ p H', H0 p = none → Wb c H0 H' M ((p, .lst (cutV xs lo hi)) :: L) B → Q (.ref p) H') : rSlL K (.ref a) lo hi H Q :=
  ⟨a, xs, rfl, SqL.of (W.get h), fun p hp => q p _ (W.wd.fresh hp) (W.new hp)⟩
theorem lw_list (W : Wb c H0 H M L B) (h : (a, .lst xs) ∈ L) (q : ∀ p H', H0 p = none → Wb c H0 H' M ((p, .lst xs) :: L) B → Q (.ref p) H') : rList K [.ref a] H Q := ⟨a, xs, rfl, .inl (SqL.of (W.get h)), fun p hp => q p _ (W.wd.fresh hp) (W.new hp)⟩
theorem lw_ixT (W : Wb c H0 H M L B) (h : (a, .tup xs) ∈ L) (hv : atI xs n = some y) (q : Q y H) : rIxT K (.ref a) (.int n) H Q := rd_ixT (SqT.of (W.get h)) hv q
theorem lw_kBMl {rm : V → List V → Hp → VK → Prop} (W : Wb c H0 H M L B) (h : (l, .lst xs) ∈ L) (q : tr σ H fun ys H2 => rm (.ref l) ys H2 Q) : kBM K "list" rm tr σ Q (.ref l) H := rd_kBMl (W.get h) q
/-- two lists of integers, alike or not -/
theorem mapI_inj : ∀ {ns ms : List Int}, ns.map V.int = ms.map V.int → ns = ms
  | [], [], _ => rfl
  | [], _ :: _, h => by simp at h
  | _ :: _, [], h => by simp at h
  | x :: xs, y :: ys, h => by
    rw [List.map_cons, List.map_cons] at h
    obtain ⟨h1, h2⟩ := List.cons.inj h
    rw [mapI_inj h2, V.int.inj h1]
theorem lw_neL (W : Wb c H0 H M L B) (h1 : (a, .lst xs) ∈ L) (h2 : (l, .lst ys) ∈ L) (a1 : AllI xs) (a2 : AllI ys) (q : ∀ k : Bool, (xs = ys → k = false) → (xs ≠ ys → k = true) → Q (.bl k) H) : rNeD K (.ref a) (.ref l) H Q := by
  obtain ⟨ns, rfl⟩ := a1
  obtain ⟨ms, rfl⟩ := a2
  refine rd_neLI (SqL.of (W.get h1)) (SqL.of (W.get h2)) (q _ (fun z => ?_) (fun z => ?_))
  · rw [mapI_inj z, decide_eq_true rfl]; rfl
  · rw [decide_eq_false (fun e => z (by rw [e]))]; rfl
theorem lw_eqL (W : Wb c H0 H M L B) (h1 : (a, .lst xs) ∈ L) (h2 : (l, .lst ys) ∈ L) (a1 : AllI xs) (a2 : AllI ys) (q : ∀ k : Bool, (xs = ys → k = true) → (xs ≠ ys → k = false) → Q (.bl k) H) : rEqD K (.ref a) (.ref l) H Q := by
  obtain ⟨ns, rfl⟩ := a1
  obtain ⟨ms, rfl⟩ := a2
  refine rd_eqLI (SqL.of (W.get h1)) (SqL.of (W.get h2)) (q _ (fun z => ?_) (fun z => ?_))
  · rw [mapI_inj z, decide_eq_true rfl]
  · rw [decide_eq_false (fun e => z (by rw [e]))]
/-- where they are alike -/
theorem lw_neLF (W : Wb c H0 H M L B) (h1 : (a, .lst xs) ∈ L) (h2 : (l, .lst ys) ∈ L) (e : xs = ys) (a1 : AllI xs) (q : Q (.bl false) H) : rNeD K (.ref a) (.ref l) H Q :=
  lw_neL W h1 h2 a1 (e ▸ a1) fun k z _ => by rw [z e]; exact q
theorem lw_eqLT (W : Wb c H0 H M L B) (h1 : (a, .lst xs) ∈ L) (h2 : (l, .lst ys) ∈ L) (e : xs = ys) (a1 : AllI xs) (q : Q (.bl true) H) : rEqD K (.ref a) (.ref l) H Q :=
  lw_eqL W h1 h2 a1 (e ▸ a1) fun k z _ => by rw [z e]; exact q
theorem lw_source_of (W : Wb c H0 H M L B) (q : ∀ p o H', H0 p = none → SrcO o → Wb c H0 H' M ((p, o) :: L) B → Q (.ref p) H') : sp_law_source_of K c [.int n] H Q E :=
  ⟨n, rfl, fun p o H' ho ch => q p o H' (W.wd.fresh (ch.new List.mem_cons_self).1) ho (W.chg0 ch)⟩
theorem lw_next (W : Wb c H0 H M L B) (hr : ∀ u, Rp a o u L (L1 u)) (ho : SrcO o) (hm : H0 a = none ∨ a ∈ M) (h0 : 0 < n) (hn : n < 2 ^ 64) (q : ∀ r o' H', 0 ≤ r → r < n → SrcO o' → Wb c H0 H' M (L1 o') B → Q (.int r) H') : sp_law_next K c [.ref a, .int n] H Q E :=
  ⟨a, o, n, rfl, W.get (hr o).mem, ho, h0, nxt64 h0 hn, fun r o' H' h1 h2 h3 ch => q r o' H' h1 h2 h3 (W.chg1 (hr o') ho.chb ch hm)⟩
theorem lw_machine (W : Wb c H0 H M L B) (hr : ∀ u, Rp a o u L (L1 u)) (ho : SrcO o) (hm : H0 a = none ∨ a ∈ M)
    (q : ∀ (x dx : Addr) (b : Nat) (cut : Int) (d e : Addr) o' H', 8 ≤ b → b ≤ 30 → 2 ≤ cut → cut ≤ 1000 → H0 x = none → H0 d = none → H0 e = none → SrcO o' → Wb c H0 H' M ((d, .dK (cK zeros)) :: (e, .lst []) :: (x, .ins c.CMachine dx (mF b cut d e)) :: L1 o') B → Q (.ref x) H') : sp_law_machine K c [.ref a] H Q E :=
  ⟨a, o, rfl, W.get (hr o).mem, ho, fun x dx b cut d e o' H' h1 h2 h3 h4 h5 ch => q x dx b cut d e o' H' h1 h2 h3 h4 (W.wd.fresh (ch.new (o := .ins c.CMachine dx (mF b cut d e)) (by walk_at "mem")).1) (W.wd.fresh (ch.new (o := .dK (cK zeros)) (by walk_at "mem")).1) (W.wd.fresh (ch.new (o := .lst []) (by walk_at "mem")).1) h5 (W.chg1 (hr o') ho.chb ch hm)⟩
theorem lw_mkMachine (W : Wb c H0 H M L B) (h1 : 8 ≤ b) (h2 : b ≤ 30) (h3 : 2 ≤ cut) (h4 : cut ≤ 1000)
    (q : ∀ x dx d e H', H0 x = none → H0 d = none → H0 e = none → Wb c H0 H' M ((d, .dK (cK zeros)) :: (e, .lst []) :: (x, .ins c.CMachine dx (mF b cut d e)) :: L) B → Q (.ref x) H') : kMake c.CMachine (sp_Machine_init K c) [] E Q [.int (b : Int), .int cut] H := 
  rd_mkMachine W.self h1 h2 h3 h4 fun x dx d e H' hx hd he S => q x dx d e H' (W.wd.fresh hx) (W.wd.fresh hd) (W.wd.fresh he) ⟨⟨S.get, S.nd, fun b o e hb => S.keep _ _ (W.wd.keep b o e hb) (fun z => nomatch z), fun a h => List.mem_cons_of_mem _ (List.mem_cons_of_mem _ (List.mem_cons_of_mem _ (W.wd.sub a h)))⟩, fun z => ⟨(W.big z).1.same S.toSame, (W.big z).2⟩⟩
theorem lw_shl1 (h : b ≤ 1000) (q : Q (.int ((2 ^ b : Nat) : Int)) H) : rShl (.int 1) (.int (b : Int)) H Q := rd_shl (shl_one h) (by rw [Int.one_mul, Int.toNat_natCast, pwN]; exact q)
theorem lw_kwS {sp : Sp} {i j : Nat} {ix : List Nat} {zs vs : List V} (h : i = j) (e : perm ix zs = vs) (q : sp vs H Q E) : i = j ∧ sp (perm ix zs) H Q E := ⟨h, by rw [e]; exact q⟩
theorem rd_nT {A A' : Hp → Prop} (q : A' H) : kIf A A' (!true) H := rd_F rfl q
theorem rd_nF {A A' : Hp → Prop} (q : A H) : kIf A A' (!false) H := rd_T rfl q
theorem rd_isB {k k' : Bool} (q : Q (.bl (decide (k = k'))) H) : rIsB (.bl k) (.bl k') H Q := ⟨k, k', rfl, rfl, q⟩
theorem bigL_of {b : Nat} {n : Int} (h1 : 8 ≤ b) (h2 : b ≤ 30) (hn : n.natAbs < 2 ^ 4000) : bigL b n := by
  refine ⟨by omega, h2, Nat.lt_of_le_of_lt (digs_length_le (by omega) _ (k := 500) (Nat.lt_of_lt_of_le hn (Nat.pow_le_pow_right (by decide) ?_))) (by decide)⟩
  omega
theorem iN_digs0 : iN (digs b (Int.natAbs 0)) = [] := by rw [Int.natAbs_zero, digs_zero]; rfl
/-- N is L with more ahead of it -/
def Sfx {α : Type} (L N : List α) : Prop := ∃ P, N = P ++ L
theorem Sfx.refl {α : Type} {L : List α} : Sfx L L := ⟨[], rfl⟩
theorem Sfx.cons {α : Type} {L N : List α} {q : α} (h : Sfx L N) : Sfx L (q :: N) := by obtain ⟨P, rfl⟩ := h; exact ⟨q :: P, rfl⟩
theorem Sfx.app {α : Type} {L N P : List α} (h : Sfx L N) : Sfx L (P ++ N) := by obtain ⟨P', rfl⟩ := h; exact ⟨P ++ P', by rw [List.append_assoc]⟩
theorem lw_kIT {R : It → Hp → Prop} (W : Wb c H0 H M L B) (h : (a, .tup xs) ∈ L) (q : R (Itt K a) H) : kIT K R (.ref a) H := rd_kIT (SqT.of (W.get h)) q
theorem lw_kIL {R : It → Hp → Prop} (W : Wb c H0 H M L B) (h : (a, .lst xs) ∈ L) (q : R (Itl K a) H) : kIL K R (.ref a) H := rd_kIL (SqL.of (W.get h)) q
theorem kMake_dvs {C : Addr} {sp : Sp} {dvs : List V} (q : kMake C sp [] E Q (vs ++ dvs) H) : kMake C sp dvs E Q vs H := fun x dx h1 h2 h3 => by
  have := q x dx h1 h2 h3
  rwa [List.append_nil] at this
theorem lw_mkM1 (W : Wb c H0 H M L B) (h1 : 8 ≤ b) (h2 : b ≤ 30) (h3 : 2 ≤ cut) (h4 : cut ≤ 1000)
    (q : ∀ x dx d e H', H0 x = none → H0 d = none → H0 e = none → Wb c H0 H' M ((d, .dK (cK zeros)) :: (e, .lst []) :: (x, .ins c.CMachine dx (mF b cut d e)) :: L) B → Q (.ref x) H') : kMake c.CMachine (sp_Machine_init K c) [.int cut] E Q [.int (b : Int)] H :=
  kMake_dvs (lw_mkMachine W h1 h2 h3 h4 q)
theorem lw_mkM0 (W : Wb c H0 H M L B) 
    (q : ∀ x dx d e H', H0 x = none → H0 d = none → H0 e = none → Wb c H0 H' M ((d, .dK (cK zeros)) :: (e, .lst []) :: (x, .ins c.CMachine dx (mF 30 70 d e)) :: L) B → Q (.ref x) H') : kMake c.CMachine (sp_Machine_init K c) [.int 30, .int 70] E Q [] H :=
  kMake_dvs (lw_mkMachine (b := 30) W (by decide) (by decide) (by decide) (by decide) q)
theorem mF_meth' {m : Str} (h : (m == "entered" || m == "counts" || m == "base" || m == "limit_of_rows" || m == "width") = false) : (mF b cut d e).lookup m = none := by
  simp only [Bool.or_eq_false_iff, beq_eq_false_iff_ne] at h
  exact mF_none h.1.1.1.1 h.1.1.1.2 h.1.1.2 h.1.2 h.2
theorem bF_meth' {s : Int} {m : Str} (h : (m == "row" || m == "side" || m == "width") = false) : (bF b s r).lookup m = none := by
  simp only [Bool.or_eq_false_iff, beq_eq_false_iff_ne] at h
  exact bF_none h.1.1 h.1.2 h.2
theorem lw_methM {sp : Sp} {f : Str} (W : Wb c H0 H M L B) (h : (a, .ins c.CMachine dx (mF b cut d e)) ∈ L) (hl : (f == "entered" || f == "counts" || f == "base" || f == "limit_of_rows" || f == "width") = false) (q : tr σ H fun vs H2 => sp (.ref a :: vs) H2 Q E) : kMeth c.CMachine f sp [] E tr σ Q (.ref a) H :=
  rd_kMeth (W.get h) (mF_meth' hl) q
theorem lw_methB {sp : Sp} {f : Str} (W : Wb c H0 H M L B) (h : (x, b, n) ∈ B) (hl : (f == "row" || f == "side" || f == "width") = false) (q : tr σ H fun vs H2 => sp (.ref x :: vs) H2 Q E) : kMeth c.CBig f sp [] E tr σ Q (.ref x) H := by
  obtain ⟨dx, r, h1, _⟩ := (W.big h).1.at_
  exact rd_kMeth h1 (bF_meth' hl) q
theorem lw_parts (W : Wb c H0 H M L B) (h : (a, .ins c.CMachine dx (mF b cut d e)) ∈ L) (q : ∀ p H', H0 p = none → Wb c H0 H' M ((p, .tup [.int (b : Int), .int cut]) :: L) B → Q (.ref p) H') : sp_Machine_parts K c [.ref a] H Q E :=
  ⟨a, dx, b, cut, d, e, rfl, W.get h, fun p H' ch => q p H' (W.wd.fresh (ch.new List.mem_cons_self).1) (W.chg0 ch)⟩
theorem lw_walk (W : Wb c H0 H M L B) (h : (a, .ins c.CMachine dx (mF b cut d e)) ∈ L) (h2 : (e, .lst xs) ∈ L) (q : ∀ p H', H0 p = none → Wb c H0 H' M ((p, .lst xs) :: L) B → Q (.ref p) H') : sp_Machine_walk K c [.ref a] H Q E :=
  ⟨a, dx, b, cut, d, e, xs, rfl, W.get h, W.get h2, fun p H' ch => q p H' (W.wd.fresh (ch.new List.mem_cons_self).1) (W.chg0 ch)⟩
theorem lw_big (W : Wb c H0 H M L B) (h : (a, .ins c.CMachine dx (mF b cut d e)) ∈ L) (hl : bigL b n) (q : ∀ x H', H0 x = none → Wb c H0 H' M L ((x, b, n) :: B) → Q (.ref x) H') : sp_big K c [.ref a, .int n] H Q E :=
  ⟨a, dx, b, cut, d, e, n, rfl, W.get h, hl.1, Nat.lt_trans hl.2.2 (by decide), NewBig.at fun x H' ch hx hB => q x H' (W.wd.fresh hx) ((W.chg0 ch).add hB hl)⟩
theorem lw_sign (W : Wb c H0 H M L B) (h : (x, b, n) ∈ B) (q : Q (.int (sgn n)) H) : sp_Big_sign K c [.ref x] H Q E := ⟨x, b, n, rfl, (W.big h).1, q⟩
theorem lw_bits (W : Wb c H0 H M L B) (h : (x, b, n) ∈ B) (q : Q (.int (b : Int)) H) : sp_Big_bits K c [.ref x] H Q E := ⟨x, b, n, rfl, (W.big h).1, q⟩
theorem lw_digits (W : Wb c H0 H M L B) (h : (x, b, n) ∈ B) (q : ∀ p H', H0 p = none → Wb c H0 H' M ((p, .lst (iN (digs b n.natAbs))) :: L) B → Q (.ref p) H') : sp_Big_digits K c [.ref x] H Q E :=
  ⟨x, b, n, rfl, (W.big h).1, fun p H' ch => q p H' (W.wd.fresh (ch.new List.mem_cons_self).1) (W.chg0 ch)⟩
theorem lw_plain (W : Wb c H0 H M L B) (h : (x, b, n) ∈ B) (q : ∀ H', Wb c H0 H' M L B → Q (.int n) H') : sp_plain K c [.ref x] H Q E := ⟨x, b, n, rfl, (W.big h).1, (W.big h).2, fun H' s => q H' (W.same s)⟩
theorem bigL_neg (h : bigL b n) : bigL b (-n) := ⟨h.1, h.2.1, by rw [Int.natAbs_neg]; exact h.2.2⟩
theorem bigL_abs (h : bigL b n) : bigL b (n.natAbs : Int) := ⟨h.1, h.2.1, by rw [Int.natAbs_natCast]; exact h.2.2⟩
theorem lw_negative (W : Wb c H0 H M L B) (h : (x, b, n) ∈ B) (q : ∀ x' H', H0 x' = none → Wb c H0 H' M L ((x', b, -n) :: B) → Q (.ref x') H') : sp_negative K c [.ref x] H Q E :=
  ⟨x, b, n, rfl, (W.big h).1, fun x' H' hx ch hB => q x' H' (W.wd.fresh hx) ((W.chg0 ch).add hB (bigL_neg (W.big h).2))⟩
theorem lw_absolute (W : Wb c H0 H M L B) (h : (x, b, n) ∈ B) (q : ∀ x' H', H0 x' = none → Wb c H0 H' M L ((x', b, (n.natAbs : Int)) :: B) → Q (.ref x') H') : sp_absolute K c [.ref x] H Q E :=
  ⟨x, b, n, rfl, (W.big h).1, fun x' H' hx ch hB => q x' H' (W.wd.fresh hx) ((W.chg0 ch).add hB (bigL_abs (W.big h).2))⟩
theorem lw_ownEq (P : PB K c) (W : Wb c H0 H M L B) (h : (x, b, n) ∈ B) (h' : (x', b', m) ∈ B) (q : ∀ H', Wb c H0 H' M L B → Q (.bl (decide (b = b' ∧ n = m))) H') : rOwnEq K c.CBig (sp_Big_eq K c) E (.ref x) (.ref x') H Q := by
  obtain ⟨dx, r, h1, _⟩ := (W.big h).1.at_
  obtain ⟨dx', r', h1', _⟩ := (W.big h').1.at_
  exact rd_ownEq h1 (.base (.ins h1' P.isc.cl P.isc.ha P.isc.hn P.isc.htk P.isc.hm)) (nf_self _ _) ⟨x, b, n, .ref x', rfl, (W.big h).1, (W.big h).2.1, .inl ⟨x', b', m, rfl, (W.big h').1, (W.big h').2.1, fun H' s => ⟨_, rfl, q H' (W.same s)⟩⟩⟩
theorem lw_ownNe (W : Wb c H0 H M L B) (h : (x, b, n) ∈ B) (h' : (x', b', m) ∈ B) (q : ∀ H', Wb c H0 H' M L B → Q (.bl (!decide (b = b' ∧ n = m))) H') : rOwnNe K c.CBig (sp_Big_eq K c) E (.ref x) (.ref x') H Q := by
  obtain ⟨dx, r, h1, _⟩ := (W.big h).1.at_
  obtain ⟨dx', r', h1', _⟩ := (W.big h').1.at_
  exact rd_ownNe h1 h1' ⟨x, b, n, .ref x', rfl, (W.big h).1, (W.big h).2.1, .inl ⟨x', b', m, rfl, (W.big h').1, (W.big h').2.1, fun H' s => ⟨_, rfl, q H' (W.same s)⟩⟩⟩
theorem lw_ownEqI (N : NoSub K c.CBig) (W : Wb c H0 H M L B) (h : (x, b, n) ∈ B) (q : Q (.bl false) H) : rOwnEq K c.CBig (sp_Big_eq K c) E (.ref x) (.int m) H Q := by
  obtain ⟨dx, r, h1, _⟩ := (W.big h).1.at_
  exact rd_ownEq h1 (.base (.int m)) (N.nf (by decide)) ⟨x, b, n, .int m, rfl, (W.big h).1, (W.big h).2.1, .inr ⟨_, .base (.int m), N.kit (by decide), ⟨_, rfl, q⟩⟩⟩
theorem lw_ownEqL (N : NoSub K c.CBig) (W : Wb c H0 H M L B) (h : (x, b, n) ∈ B) (h' : (l, .lst xs) ∈ L) (q : Q (.bl false) H) : rOwnEq K c.CBig (sp_Big_eq K c) E (.ref x) (.ref l) H Q := by
  obtain ⟨dx, r, h1, _⟩ := (W.big h).1.at_
  exact rd_ownEq h1 (.base (.lst (W.get h'))) (N.nf (by decide)) ⟨x, b, n, .ref l, rfl, (W.big h).1, (W.big h).2.1, .inr ⟨_, .base (.lst (W.get h')), N.kit (by decide), ⟨_, rfl, q⟩⟩⟩
/-- a law's promise -/
def sp_law0 (K : PySem.W.Frag) : Sp := fun vs H Q _ => ∃ (a : Addr) (ns : List Int), vs = [.ref a] ∧ SqL K H a (ns.map V.int) ∧ ns.length ≤ 63 ∧ ∀ H', Q (.bl true) H'
theorem Chg.same {H' : Hp} {ns : List (Addr × HO)} (h : Chg H H' [] ns) : Same H H' := fun b o e => h.keep b o e (fun z => nomatch z)
/-- what is left of a tally of zeros: nothing -/
theorem zero_rows {i : Nat} {t : List V} (h : (rowsOf zeros)[i]? = some t) : ∃ w, t = [.str w, .int 0] := by
  have hi : i < 10 := (List.getElem?_eq_some_iff.mp h).1
  have hw : words[i]? = some (words[i]'hi) := List.getElem?_eq_getElem _
  rw [rows_get hw (zero_get hi)] at h
  exact ⟨_, (Option.some.inj h).symm⟩
theorem zero_tups {H1 : Hp} {p : Addr} {ps : List Addr} (hl : ps.length = 10) (ch : Chg H H1 [] ((p, .lst (ps.map V.ref)) :: tl2 ps (rowsOf zeros))) : ∀ q ∈ ps, ∃ w, H1 q = some (.tup [.str w, .int 0]) := fun q hq => by
  obtain ⟨i, hi⟩ := List.mem_iff_getElem?.mp hq
  have hlt : i < 10 := by rw [← hl]; exact (List.getElem?_eq_some_iff.mp hi).1
  have hr : (rowsOf zeros)[i]? = some ((rowsOf zeros)[i]'hlt) := List.getElem?_eq_getElem _
  obtain ⟨w, hw⟩ := zero_rows hr
  have := (ch.new (List.mem_cons_of_mem _ (tl2_mem hi hr))).2
  rw [hw] at this
  exact ⟨w, this⟩
theorem Rp.same : ∀ {L L' : List (Addr × HO)}, Rp a o o L L' → L' = L
  | _, _, .here => rfl
  | _, _, .there r => congrArg (List.cons _) r.same
/-- the tally of a machine that has counted nothing, what of it is not 0 -/
theorem lw_tally0 (W : Wb c H0 H M L B) (h : (a, .ins c.CMachine dx (mF b cut d e)) ∈ L) (h2 : (d, .dK (cK zeros)) ∈ L)
    (q : ∀ p (ps : List Addr) H', ps.length = 10 → H0 p = none → (∀ q ∈ ps, ∃ w, H' q = some (.tup [.str w, .int 0])) → Wb c H0 H' M ((p, .lst (ps.map V.ref)) :: (tl2 ps (rowsOf zeros) ++ L)) B → Q (.ref p) H') : sp_Machine_tally K c [.ref a] H Q E :=
  ⟨a, dx, b, cut, d, e, zeros, rfl, W.get h, W.get h2, rfl, fun p ps H' hl ch => q p ps H' hl (W.wd.fresh (ch.new List.mem_cons_self).1) (zero_tups hl ch) (W.chg0 ch)⟩
theorem lw_lc0 {te : TE} {i j : Nat} {ps : List Addr} (W : Wb c H0 H M L B) (h : (p, .lst (ps.map V.ref)) ∈ L) (hz : ∀ q ∈ ps, ∃ w, H q = some (.tup [.str w, .int 0])) (hw : ∀ v w, wipe (((wipe σ [i, j]).set i (some v)).set j (some w)) [i, j] = wipe σ [i, j])
    (hv : ∀ v w, (((wipe σ [i, j]).set i (some v)).set j (some w))[j]? = some (some w))
    (q : ∀ D H', H0 D = none → Wb c H0 H' M ((D, .lst []) :: L) B → Q (.ref D) H') : kLc (gTup K 2 (gCons (gName i) (gCons (gName j) gNil))) (tTest (tOp rNe (tVar j) (tC (.int 0)))) te [i, j] σ Q (Itl K p) H := by
  refine rd_lcL (xs := ps.map V.ref) fun D hD => ⟨fun i H' => H' = upd H D (.lst []), rfl, ?_, ?_, ?_⟩
  · rintro i H' _ rfl
    have W1 := W.new (o := .lst []) hD
    exact SqL.of (W1.get (List.mem_cons_of_mem _ h))
  · rintro i' x H' hx rfl
    obtain ⟨z, hz1, rfl⟩ := List.mem_map.mp (List.mem_of_getElem? hx)
    obtain ⟨w, hw1⟩ := hz z hz1
    have hne : z ≠ D := fun e => by rw [e, hD] at hw1; cases hw1
    refine rd_gTup (xs := [.str w, .int 0]) (SqT.of (by rw [upd_ne hne]; exact hw1)) rfl ?_
    refine rd_gCons ?_
    unfold gName
    refine rd_gCons ?_
    refine rd_gNil ?_
    refine ⟨hw _ _, ?_⟩
    refine rd_test (rd_op (rd_var (hv _ _) (rd_c ?_)))
    refine rd_neI (rd_kB ?_)
    exact rd_Fn rfl rfl
  · rintro H' rfl
    exact q D _ (W.wd.fresh hD) (W.new hD)
end
local macro_rules | `(tactic| walk_at "sfx") => `(tactic| repeat (first | exact Sfx.refl | with_reducible refine Sfx.cons ?_ | with_reducible refine Sfx.app ?_))
local macro_rules | `(tactic| walk_at "len2") => `(tactic| first | walk_at "len" | exact Nat.le_trans (m := 2 ^ 23) (by simp only [iN_length, List.length_append, List.length_replicate, List.length_cons, List.length_nil, List.length_map]; omega) (by decide) | exact Nat.lt_of_lt_of_le (m := 2 ^ 23) (by simp only [iN_length, List.length_append, List.length_replicate, List.length_cons, List.length_nil, List.length_map]; omega) (by decide))
local macro_rules | `(tactic| walk_at "al") => `(tactic| repeat (first | with_reducible exact AllI.nil | with_reducible exact AllI.n _ | with_reducible exact AllI.m _ | with_reducible refine AllI.app ?_ ?_ | with_reducible refine AllI.cons ?_ | with_reducible refine AllI.rep ?_))
local macro_rules | `(tactic| walk_at "tst") => `(tactic| first | with_reducible exact rfl | assumption | with_reducible exact ⟨rfl, rfl⟩ | omega)
local macro_rules | `(tactic| walk_at "bl") => `(tactic| first | assumption | exact bigL_of (by omega) (by omega) (by first | assumption | decide +kernel))
set_option hygiene false in
local macro_rules | `(tactic| walk_at "lw1") => `(tactic| first
  | walk_at "rd1"
  | ((with_reducible refine' lw_lst (by assumption) ?hh1 ?_); (case hh1 => walk_at "len2"); intro p H' hp W)
  | ((with_reducible refine' lw_tup (by assumption) ?hh1 ?_); (case hh1 => walk_at "len2"); intro p H' hp W)
  | ((with_reducible refine' lw_catN (by assumption) ?hh1 ?hh2 ?hh3 ?_); (case hh1 => walk_at "mem"); (case hh2 => walk_at "mem"); (case hh3 => walk_at "len2"); intro p H' hp W)
  | ((with_reducible refine' lw_repZ (by assumption) ?hh1 ?hh2 ?hh3 ?_); (case hh1 => walk_at "mem"); (case hh2 => omega); (case hh3 => omega); intro p H' hp W)
  | ((with_reducible refine' lw_cat (by assumption) ?hh1 ?hh2 ?hh3 ?_); (case hh1 => walk_at "mem"); (case hh2 => walk_at "mem"); (case hh3 => walk_at "len2"); intro p H' hp W)
  | ((with_reducible refine' lw_append (by assumption) ?hh1 ?hh2 ?hh3 ?_); (case hh1 => walk_at "rp"); (case hh2 => walk_at "may"); (case hh3 => walk_at "len2"); intro H' W)
  | ((with_reducible refine' lw_slL (by assumption) ?hh1 ?_); (case hh1 => walk_at "mem"); intro p H' hp W)
  | ((with_reducible refine' lw_list (by assumption) ?hh1 ?_); (case hh1 => walk_at "mem"); intro p H' hp W)
  | ((with_reducible refine' lw_ixT (by assumption) ?hh1 ?hh2 ?_); (case hh1 => walk_at "mem"); (case hh2 => exact rfl))
  | ((with_reducible refine' rd_mul ?hh1 ?_); (case hh1 => first | exact mul_okR (by omega) (by omega) | exact mul_okL (by omega) (by omega)))
  | ((with_reducible refine' lw_kBMl (by assumption) ?hh1 ?_); (case hh1 => walk_at "mem"))
  | ((with_reducible refine' lw_neLF (by assumption) ?hh1 ?hh2 ?hh6 ?hh3 ?_); (case hh1 => walk_at "mem"); (case hh2 => walk_at "mem"); (case hh6 => first | with_reducible exact rfl | assumption | exact iN_digs0); (case hh3 => walk_at "al"))
  | ((with_reducible refine' lw_eqLT (by assumption) ?hh1 ?hh2 ?hh6 ?hh3 ?_); (case hh1 => walk_at "mem"); (case hh2 => walk_at "mem"); (case hh6 => first | with_reducible exact rfl | assumption | exact iN_digs0); (case hh3 => walk_at "al"))
  | ((with_reducible refine' lw_source_of (by assumption) ?_); intro p o H' hp ho W)
  | ((with_reducible refine' lw_next (by assumption) ?hh1 ?hh2 ?hh3 ?hh4 ?hh5 ?_); (case hh1 => (intro u; walk_at "rp")); (case hh2 => assumption); (case hh3 => walk_at "may"); (case hh4 => walk_at "ari"); (case hh5 => walk_at "ari"); intro r o H' hr0 hr1 ho W)
  | ((with_reducible refine' lw_machine (by assumption) ?hh1 ?hh2 ?hh3 ?_); (case hh1 => (intro u; walk_at "rp")); (case hh2 => assumption); (case hh3 => walk_at "may"); intro x dx b cut d e o H' hb1 hb2 hc1 hc2 hx hd he ho W)
  | ((with_reducible refine' lw_methM (by assumption) ?hh1 ?hh2 ?_); (case hh1 => walk_at "mem"); (case hh2 => decide))
  | ((with_reducible refine' lw_methB (by assumption) ?hh1 ?hh2 ?_); (case hh1 => walk_at "mem"); (case hh2 => decide))
  | ((with_reducible refine' lw_parts (by assumption) ?hh1 ?_); (case hh1 => walk_at "mem"); intro p H' hp W)
  | ((with_reducible refine' lw_walk (by assumption) ?hh1 ?hh2 ?_); (case hh1 => walk_at "mem"); (case hh2 => walk_at "mem"); intro p H' hp W)
  | ((with_reducible refine' lw_big (by assumption) ?hh1 ?hh2 ?_); (case hh1 => walk_at "mem"); (case hh2 => walk_at "bl"); intro x H' hx W)
  | ((with_reducible refine' lw_normalP (by assumption) ?hh1 ?hh2 ?hh3 ?hh4 ?_); (case hh1 => walk_at "mem"); (case hh2 => walk_at "mem"); (case hh3 => walk_at "bl"); (case hh4 => omega); intro x H' hx W)
  | ((with_reducible refine' lw_normalD (by assumption) ?hh1 ?hh2 ?hh3 ?_); (case hh1 => walk_at "mem"); (case hh2 => walk_at "mem"); (case hh3 => walk_at "bl"); intro x H' hx W)
  | ((with_reducible refine' lw_normalN (by assumption) ?hh1 ?hh2 ?hh3 ?_); (case hh1 => walk_at "mem"); (case hh2 => walk_at "mem"); (case hh3 => walk_at "bl"); intro x H' hx W)
  | ((with_reducible refine' lw_normalZ (by assumption) ?hh1 ?hh2 ?hh3 ?hh4 ?hh5 ?hh6 ?_); (case hh1 => walk_at "mem"); (case hh2 => walk_at "mem"); (case hh3 => omega); (case hh4 => omega); (case hh5 => omega); (case hh6 => omega); intro x H' hx W)
  | ((with_reducible refine' lw_normalE (by assumption) ?hh1 ?hh2 ?hh3 ?hh4 ?hh6 ?_); (case hh1 => walk_at "mem"); (case hh2 => walk_at "mem"); (case hh3 => omega); (case hh4 => omega); (case hh6 => omega); intro x H' hx W)
  | ((with_reducible refine' lw_split (by assumption) ?hh1 ?hh2 ?hh3 ?_); (case hh1 => omega); (case hh2 => omega); (case hh3 => omega); intro p H' hp W)
  | ((with_reducible refine' lw_sign (by assumption) ?hh1 ?_); (case hh1 => walk_at "mem"))
  | ((with_reducible refine' lw_bits (by assumption) ?hh1 ?_); (case hh1 => walk_at "mem"))
  | ((with_reducible refine' lw_digits (by assumption) ?hh1 ?_); (case hh1 => walk_at "mem"); intro p H' hp W)
  | ((with_reducible refine' lw_plain (by assumption) ?hh1 ?_); (case hh1 => walk_at "mem"); intro H' W)
  | ((with_reducible refine' lw_negative (by assumption) ?hh1 ?_); (case hh1 => walk_at "mem"); intro x H' hx W)
  | ((with_reducible refine' lw_absolute (by assumption) ?hh1 ?_); (case hh1 => walk_at "mem"); intro x H' hx W)
  | ((with_reducible refine' lw_ownNe (by assumption) ?hh1 ?hh2 ?_); (case hh1 => walk_at "mem"); (case hh2 => walk_at "mem"); intro H' W)
  | ((with_reducible refine' lw_ownEq (by assumption) (by assumption) ?hh1 ?hh2 ?_); (case hh1 => walk_at "mem"); (case hh2 => walk_at "mem"); intro H' W)
  | ((with_reducible refine' lw_ownEqI (by assumption) (by assumption) ?hh1 ?_); (case hh1 => walk_at "mem"))
  | ((with_reducible refine' lw_ownEqL (by assumption) (by assumption) ?hh1 ?hh2 ?_); (case hh1 => walk_at "mem"); (case hh2 => walk_at "mem"))
  | ((with_reducible refine' lw_kIT (by assumption) ?hh1 ?_); (case hh1 => walk_at "mem"))
  | ((with_reducible refine' lw_kIL (by assumption) ?hh1 ?_); (case hh1 => walk_at "mem"))
  | ((with_reducible refine' lw_mkMachine (by assumption) ?hh1 ?hh2 ?hh3 ?hh4 ?_); (case hh1 => omega); (case hh2 => omega); (case hh3 => omega); (case hh4 => omega); intro x dx d e H' hx hd he W)
  | ((with_reducible refine' lw_mkM1 (by assumption) ?hh1 ?hh2 ?hh3 ?hh4 ?_); (case hh1 => omega); (case hh2 => omega); (case hh3 => omega); (case hh4 => omega); intro x dx d e H' hx hd he W)
  | ((with_reducible refine' lw_mkM0 (by assumption) ?_); intro x dx d e H' hx hd he W)
  | ((with_reducible refine' lw_tally0 (by assumption) ?hh1 ?hh2 ?_); (case hh1 => walk_at "mem"); (case hh2 => walk_at "mem"); intro p ps H' hpl hp hz W)
  | ((with_reducible refine' lw_lc0 (by assumption) ?hh1 ?hh2 ?hh3 ?hh4 ?_); (case hh1 => walk_at "mem"); (case hh2 => assumption); (case hh3 => (intro _ _; exact rfl)); (case hh4 => (intro _ _; exact rfl)); intro p H' hp W)
  | ((with_reducible refine' lw_shl1 ?hh1 ?_); (case hh1 => omega))
  | (with_reducible refine' rd_isB ?_)
  | ((with_reducible refine' lw_kwS ?hh1 ?hh2 ?_); (case hh1 => exact rfl); (case hh2 => (simp only [perm, List.map_cons, List.map_nil, List.getD_cons_zero, List.getD_cons_succ]; try rfl)))
  | (with_reducible refine' rd_nT ?_)
  | (with_reducible refine' rd_nF ?_)
  | (with_reducible refine' rd_T rfl ?_)
  | (with_reducible refine' rd_F rfl ?_)
  | ((with_reducible refine' rd_Fn ?hh1 ?_); (case hh1 => walk_at "tst"))
  | ((with_reducible refine' rd_Td ?hh1 ?_); (case hh1 => walk_at "tst"))
  | ((with_reducible refine' rd_Fd ?hh1 ?_); (case hh1 => walk_at "tst"))
  | ((with_reducible refine' rd_Tn ?hh1 ?_); (case hh1 => walk_at "tst")))
local macro_rules | `(tactic| walk_at "lw") => `(tactic| repeat (walk_at "lw1"))
section
variable {K : PySem.W.Frag} {c : Pc} {vs xs ys : List V} {H H0 H' : Hp} {Q : VK} {E : XK} {M : List Addr} {L L' ns cs : List (Addr × HO)} {L1 : HO → List (Addr × HO)} {B : List (Addr × Nat × Int)} {b b' : Nat} {cut n m : Int} {a d e dx r x x' l p : Addr} {o u : HO} {σ : L2.St} {y : V} {tr : TA}
theorem nosub_mk {C : Addr} (h1 : PySem.W.isClsIn K C = true) (h2 : PySem.W.typeIn K (.ref C) = some (.type "type")) (s1 : PySem.W.subIn K (.type "int") (.ref C) = some false) (s2 : PySem.W.subIn K (.type "list") (.ref C) = some false) (s3 : PySem.W.subIn K (.type "str") (.ref C) = some false) (s4 : PySem.W.subIn K (.type "NoneType") (.ref C) = some false) (s5 : PySem.W.subIn K (.type "bool") (.ref C) = some false) (s6 : PySem.W.subIn K (.type "tuple") (.ref C) = some false) (s7 : PySem.W.subIn K (.type "dict") (.ref C) = some false) : NoSub K C :=
  ⟨h1, h2, fun b hb => by
    simp only [List.mem_cons, List.not_mem_nil, or_false] at hb
    rcases hb with rfl | rfl | rfl | rfl | rfl | rfl | rfl
    · exact s1
    · exact s2
    · exact s3
    · exact s4
    · exact s5
    · exact s6
    · exact s7⟩
def sgnOk (s : Int) (v : Nat) : Prop := s = 1 ∨ s = -1 ∨ (s = 0 ∧ v = 0)
def sp_normal (K : PySem.W.Frag) (c : Pc) : Sp := fun vs H Q _ => ∃ (m dx : Addr) (b : Nat) (cut : Int) (d e l : Addr) (s : Int) (ds : List Nat), vs = [.ref m, .int s, .ref l] ∧ H m = some (.ins c.CMachine dx (mF b cut d e)) ∧ H l = some (.lst (iN ds)) ∧ b ≠ 0 ∧ Digs b ds ∧ ds.length < 2 ^ 22 ∧ sgnOk s (val b ds) ∧
  ∀ x H', H x = none → Chg H H' [] [] → BigAt c H' x b (s * (val b ds : Nat)) → Q (.ref x) H'
theorem lw_normal {ds : List Nat} {s : Int} (W : Wb c H0 H M L B) (h : (a, .ins c.CMachine dx (mF b cut d e)) ∈ L) (hl : (l, .lst (iN ds)) ∈ L) (hb : b ≠ 0) (hb' : b ≤ 30) (hd : Digs b ds) (hlen : ds.length < 2 ^ 22) (hs : sgnOk s (val b ds))
    (q : ∀ x H', H0 x = none → Wb c H0 H' M L ((x, b, s * (val b ds : Nat)) :: B) → Q (.ref x) H') : sp_normal K c [.ref a, .int s, .ref l] H Q E :=
  ⟨a, dx, b, cut, d, e, l, s, ds, rfl, W.get h, W.get hl, hb, hd, hlen, hs, fun x H' hx ch hB => q x H' (W.wd.fresh hx) ((W.chg0 ch).add hB ⟨hb, hb', by
    have e3 : (s * (val b ds : Nat)).natAbs = val b ds := by
      rcases hs with rfl | rfl | ⟨rfl, z⟩
      · omega
      · omega
      · omega
    rw [e3, ← val_strip b ds, digs_val hb (fun d z => hd d (strip_mem z)) (strip_norm ds)]
    exact Nat.lt_of_le_of_lt (strip_length ds) hlen⟩)⟩
theorem Digs.pad {ds : List Nat} {k : Nat} (h : Digs b ds) : Digs b (ds ++ List.replicate k 0) := fun d hd => by
  rcases List.mem_append.mp hd with z | z
  · exact h d z
  · rw [(List.mem_replicate.mp z).2]; exact Nat.two_pow_pos b
theorem val_pad (ds : List Nat) (k : Nat) : val b (ds ++ List.replicate k 0) = val b ds := by
  rw [← val_strip, strip_app_zeros _ (fun d z => (List.mem_replicate.mp z).2), val_strip]
theorem sgn_ok (n : Int) : sgnOk (sgn n) n.natAbs := by
  unfold sgnOk sgn
  split
  · exact .inr (.inl rfl)
  · split
    · rename_i h; subst h; exact .inr (.inr ⟨rfl, rfl⟩)
    · exact .inl rfl
theorem lw_normalP {k : Nat} (W : Wb c H0 H M L B) (h : (a, .ins c.CMachine dx (mF b cut d e)) ∈ L) (hl : (l, .lst (iN (digs b n.natAbs ++ List.replicate k 0))) ∈ L) (hL : bigL b n) (hk : (digs b n.natAbs).length + k < 2 ^ 22)
    (q : ∀ x H', H0 x = none → Wb c H0 H' M L ((x, b, n) :: B) → Q (.ref x) H') : sp_normal K c [.ref a, .int (sgn n), .ref l] H Q E :=
  lw_normal W h hl hL.1 hL.2.1 (digs_lt hL.1 _).pad (by rw [List.length_append, List.length_replicate]; exact hk) (by rw [val_pad, val_digs hL.1]; exact sgn_ok n) (by rw [val_pad, val_digs hL.1, sgn_mul]; exact q)
theorem lw_normalD (W : Wb c H0 H M L B) (h : (a, .ins c.CMachine dx (mF b cut d e)) ∈ L) (hl : (l, .lst (iN (digs b n.natAbs))) ∈ L) (hL : bigL b n)
    (q : ∀ x H', H0 x = none → Wb c H0 H' M L ((x, b, n) :: B) → Q (.ref x) H') : sp_normal K c [.ref a, .int (sgn n), .ref l] H Q E :=
  lw_normal W h hl hL.1 hL.2.1 (digs_lt hL.1 _) hL.2.2 (by rw [val_digs hL.1]; exact sgn_ok n) (by rw [val_digs hL.1, sgn_mul]; exact q)
theorem lw_normalN (W : Wb c H0 H M L B) (h : (a, .ins c.CMachine dx (mF b cut d e)) ∈ L) (hl : (l, .lst (iN (digs b n.natAbs))) ∈ L) (hL : bigL b n)
    (q : ∀ x H', H0 x = none → Wb c H0 H' M L ((x, b, -n) :: B) → Q (.ref x) H') : sp_normal K c [.ref a, .int (0 - sgn n), .ref l] H Q E := by
  rw [← sgn_neg]
  refine lw_normalD (n := -n) W h ?_ (bigL_neg hL) q
  rw [Int.natAbs_neg]; exact hl
theorem lw_normalZ {s : Int} {k : Nat} (W : Wb c H0 H M L B) (h : (a, .ins c.CMachine dx (mF b cut d e)) ∈ L) (hl : (l, .lst (iN (List.replicate k 0))) ∈ L) (hb : b ≠ 0) (hb' : b ≤ 30) (hk : k < 2 ^ 22) (hs : -1 ≤ s ∧ s ≤ 1)
    (q : ∀ x H', H0 x = none → Wb c H0 H' M L ((x, b, 0) :: B) → Q (.ref x) H') : sp_normal K c [.ref a, .int s, .ref l] H Q E := by
  have hv : val b (List.replicate k 0) = 0 := val_zeros b fun d z => (List.mem_replicate.mp z).2
  refine lw_normal W h hl hb hb' (fun d z => by rw [(List.mem_replicate.mp z).2]; exact Nat.two_pow_pos b) (by rw [List.length_replicate]; exact hk) (by rw [hv]; unfold sgnOk; omega) ?_
  rw [hv]
  have e : s * ((0 : Nat) : Int) = 0 := by simp
  rw [e]
  exact q
theorem lw_normalE {s : Int} (W : Wb c H0 H M L B) (h : (a, .ins c.CMachine dx (mF b cut d e)) ∈ L) (hl : (l, .lst []) ∈ L) (hb : b ≠ 0) (hb' : b ≤ 30) (hs : -1 ≤ s ∧ s ≤ 1)
    (q : ∀ x H', H0 x = none → Wb c H0 H' M L ((x, b, 0) :: B) → Q (.ref x) H') : sp_normal K c [.ref a, .int s, .ref l] H Q E :=
  lw_normalZ (k := 0) W h hl hb hb' (by decide) hs q
def sp_law_split (K : PySem.W.Frag) (c : Pc) : Sp := fun vs H Q _ => ∃ (n : Int) (b : Nat), vs = [.int n, .int ((2 ^ b : Nat) : Int)] ∧ b ≠ 0 ∧ b ≤ 60 ∧ (digs b n.natAbs).length < 2 ^ 23 ∧ ∀ l H', Chg H H' [] [(l, .lst (iN (digs b n.natAbs)))] → Q (.ref l) H'
theorem lw_split (W : Wb c H0 H M L B) (hb : b ≠ 0) (hb' : b ≤ 60) (hl : (digs b n.natAbs).length < 2 ^ 23) (q : ∀ p H', H0 p = none → Wb c H0 H' M ((p, .lst (iN (digs b n.natAbs))) :: L) B → Q (.ref p) H') : sp_law_split K c [.int n, .int ((2 ^ b : Nat) : Int)] H Q E :=
  ⟨n, b, rfl, hb, hb', hl, fun p H' ch => q p H' (W.wd.fresh (ch.new List.mem_cons_self).1) (W.chg0 ch)⟩
end
section
variable {K : PySem.W.Frag} {c : Pc} {vs xs ys : List V} {H H0 H' : Hp} {Q : VK} {E : XK} {M : List Addr} {L L' cs : List (Addr × HO)} {L1 : HO → List (Addr × HO)} {B : List (Addr × Nat × Int)} {b b' : Nat} {cut n m : Int} {a d e dx r x x' l p : Addr} {o u : HO} {σ : L2.St} {y : V} {tr : TA} {ns : List Int}
theorem cK_put {i : Nat} {w : Str} {n v : Int} (h1 : words[i]? = some w) (h2 : ns[i]? = some n) : putK (cK ns) (Sum.inr w : Key) (.int v) = cK (ns.set i v) := by
  have idm : ∀ (ws : List Str) (ms : List Int), w ∉ ws → (List.zipWith (fun (w : Str) n => ((Sum.inr w : Key), V.int n)) ws ms).map (fun kv => if kv.1 = (Sum.inr w : Key) then (kv.1, V.int v) else kv) = List.zipWith (fun (w : Str) n => ((Sum.inr w : Key), V.int n)) ws ms := by
    intro ws
    induction ws with
    | nil => intro ms _; rfl
    | cons u ws ih =>
      intro ms hw
      cases ms with
      | nil => rfl
      | cons z ms =>
        have ne : ¬ (Sum.inr u : Key) = Sum.inr w := fun z => hw (by rw [Sum.inr.inj z]; exact List.mem_cons_self)
        rw [List.zipWith_cons_cons, List.map_cons, ih ms (fun z => hw (List.mem_cons_of_mem _ z)), if_neg ne]
  have key : ∀ (ws : List Str) (ms : List Int) (j : Nat), ws.Nodup → ws[j]? = some w → (List.zipWith (fun (w : Str) n => ((Sum.inr w : Key), V.int n)) ws ms).map (fun kv => if kv.1 = (Sum.inr w : Key) then (kv.1, V.int v) else kv) = List.zipWith (fun (w : Str) n => ((Sum.inr w : Key), V.int n)) ws (ms.set j v) := by
    intro ws
    induction ws with
    | nil => intro ms j _ h; simp at h
    | cons u ws ih =>
      intro ms j nd h
      cases ms with
      | nil => rfl
      | cons z ms =>
        cases j with
        | zero =>
          have e1 : u = w := by simpa using h
          subst e1
          rw [List.zipWith_cons_cons, List.map_cons, if_pos rfl, idm ws ms (List.nodup_cons.mp nd).1]
          rfl
        | succ j =>
          have hw : w ∈ ws := List.mem_of_getElem? (by simpa using h)
          have ne : ¬ (Sum.inr u : Key) = Sum.inr w := fun z => by
            have z' := Sum.inr.inj z
            subst z'
            exact (List.nodup_cons.mp nd).1 hw
          rw [List.zipWith_cons_cons, List.map_cons, if_neg ne, ih ms j (List.nodup_cons.mp nd).2 (by simpa using h), List.set_cons_succ, List.zipWith_cons_cons]
  unfold putK
  rw [if_pos]
  · exact key words ns i (by decide +kernel) h1
  · rw [List.any_eq_true]
    exact ⟨_, List.mem_of_getElem? (cK_get h1 h2), decide_eq_true rfl⟩
def sp_Machine_count (K : PySem.W.Frag) (c : Pc) : Sp := fun vs H Q _ => ∃ (a dx : Addr) (b : Nat) (cut : Int) (d e : Addr) (ns : List Int) (w : Str) (i : Nat) (n v : Int), vs = [.ref a, .str w, .int v] ∧ H a = some (.ins c.CMachine dx (mF b cut d e)) ∧ H d = some (.dK (cK ns)) ∧ ns.length = 10 ∧ words[i]? = some w ∧ ns[i]? = some n ∧
  ∀ H', Chg H H' [(d, .dK (cK (ns.set i (n + v))))] [] → Q .non H'
def t_Machine_count (K : PySem.W.Frag) (c : Pc) : TS :=
  (sDPut (tFld K (tVar 0) "counts") (tVar 1) (tOp rAdd (tDGet (tFld K (tVar 0) "counts") (tVar 1)) (tVar 2)))
theorem cK_len : (cK ns).length ≤ 10 := by
  unfold cK
  rw [List.length_zipWith]
  exact Nat.min_le_left _ _
theorem b_Machine_count (P : PM K c) (h : sp_Machine_count K c vs H Q E) : t_Machine_count K c (en0 Q) (st0 3 vs) H := by
  obtain ⟨a, dx, b, cut, d, e, ns, w, i, n, v, rfl, ha, hd, hn, hw, hi, k⟩ := h
  have W : Wd H H [d] [(d, .dK (cK ns))] := (Wd.one hd).may List.mem_cons_self
  unfold t_Machine_count
  walk_at "rd"
  refine rd_Mcounts P ha ?_
  walk_at "rd"
  refine rd_kDGs hd (cK_val hw hi) ?_
  walk_at "rd"
  refine rd_Mcounts P ha ?_
  walk_at "rd"
  refine rd_kDPs W (by walk_at "rp") (by walk_at "may") (Nat.lt_of_le_of_lt cK_len (by decide)) fun H1 W1 => ?_
  rw [cK_put hw hi] at W1
  exact k H1 W1.chg_one
def sp_Machine_reset (K : PySem.W.Frag) (c : Pc) : Sp := fun vs H Q _ => ∃ (a dx : Addr) (b : Nat) (cut : Int) (d e : Addr) (ns : List Int) (xs : List V), vs = [.ref a] ∧ H a = some (.ins c.CMachine dx (mF b cut d e)) ∧ H d = some (.dK (cK ns)) ∧ ns.length = 10 ∧ H e = some (.lst xs) ∧
  ∀ H', Chg H H' [(d, .dK (cK zeros)), (e, .lst [])] [] → Q .non H'
def t_Machine_reset (K : PySem.W.Frag) (c : Pc) : TS :=
  (tSeq (tFor (iTup K (tC (.ref c.aWORDS))) (gName 1) (sDPut (tFld K (tVar 0) "counts") (tVar 1) (tC (.int 0))))
  (tDrop (tBM0 K "list" rClear (tFld K (tVar 0) "entered"))))
theorem zero_more {i : Nat} (h1 : i < 10) (h2 : ns.length = 10) : ((zeros.take i) ++ ns.drop i).set i 0 = zeros.take (i + 1) ++ ns.drop (i + 1) := by
  have hz : zeros[i]? = some 0 := zero_get h1
  have hl : (zeros.take i).length = i := by rw [List.length_take]; show min i 10 = i; omega
  rw [List.set_append_right _ _ (by omega), hl, Nat.sub_self, take_snoc hz, List.append_assoc, List.drop_eq_getElem_cons (by omega : i < ns.length)]
  rfl
theorem b_Machine_reset (P : PM K c) (h : sp_Machine_reset K c vs H Q E) : t_Machine_reset K c (en0 Q) (st0 2 vs) H := by
  obtain ⟨a, dx, b, cut, d, e, ns, xs, rfl, ha, hd, hn, he, k⟩ := h
  have nad : a ≠ d := ne_of ha hd (by intro z; cases z)
  have nae : a ≠ e := ne_of ha he (by intro z; cases z)
  have nde : d ≠ e := ne_of hd he (by intro z; cases z)
  have W : Wd H H [d, e] [(a, .ins c.CMachine dx (mF b cut d e)), (d, .dK (cK ns)), (e, .lst xs)] := ((((Wd.one he).old hd (by simpa using nde)).old ha (by simpa using ⟨nad, nae⟩)).may (by simp)).may (by simp)
  unfold t_Machine_reset
  walk_at "rd"
  refine rd_kIT (P.words H) ?_
  refine rd_forT (xs := words.map V.str) (fun i σ' H' => ∃ v, σ' = [some (.ref a), v] ∧ Wd H H' [d, e] [(a, .ins c.CMachine dx (mF b cut d e)), (d, .dK (cK (zeros.take i ++ ns.drop i))), (e, .lst xs)]) ⟨none, rfl, W⟩ ?_ ?_ ?_
  · rintro i σ' H' _ ⟨v, _, W1⟩
    exact P.words H'
  · rintro i y σ' H' hy ⟨v, rfl, W1⟩
    obtain ⟨w, hw, rfl, hi⟩ := str_of_words hy
    walk_at "rd"
    refine rd_Mcounts P (by walk_at "own") ?_
    walk_at "rd"
    refine rd_kDPs W1 (by walk_at "rp") (by walk_at "may") (Nat.lt_of_le_of_lt cK_len (by decide)) fun H1 W2 => ?_
    have hg : (zeros.take i ++ ns.drop i)[i]? = some (ns[i]'(by omega)) := by
      have hl : (zeros.take i).length = i := by rw [List.length_take]; show min i 10 = i; omega
      rw [List.getElem?_append_right (by omega), hl, Nat.sub_self, List.getElem?_drop]
      exact List.getElem?_eq_getElem _
    rw [cK_put hw hg, zero_more hi hn] at W2
    exact ⟨_, rfl, W2⟩
  · rintro σ' H' ⟨v, rfl, W1⟩
    have e1 : zeros.take (words.map V.str).length ++ ns.drop (words.map V.str).length = zeros := by
      rw [List.length_map]
      show zeros.take 10 ++ ns.drop 10 = zeros
      rw [List.drop_eq_nil_of_le (by omega)]
      rfl
    rw [e1] at W1
    walk_at "rd"
    refine rd_Mentered P (by walk_at "own") ?_
    refine ⟨.inl ⟨rfl, _, SqL.of (W1.get (by walk_at "mem"))⟩, e, xs, rfl, rfl, W1.get (by walk_at "mem"), ?_⟩
    have W2 := W1.put (a := e) (o := .lst xs) (u := .lst []) (L' := [(a, .ins c.CMachine dx (mF b cut d e)), (d, .dK (cK zeros)), (e, .lst [])]) (by walk_at "rp") (.inr (by simp))
    refine k _ (W2.done (fun q hq => ?_) (fun q hq => ?_) (fun q hq => nomatch hq) List.nodup_nil)
    · simp only [List.mem_cons, List.not_mem_nil, or_false] at hq
      rcases hq with rfl | rfl
      · walk_at "mem"
      · walk_at "mem"
    · simpa using hq
end
section
variable {K : PySem.W.Frag} {c : Pc} {vs xs ys : List V} {H H0 H' : Hp} {Q : VK} {E : XK} {M : List Addr} {L L' cs : List (Addr × HO)} {a d e dx r x x' l p : Addr} {σ : L2.St} {te : TE} {tT : TT} {kvs : List (Key × V)}
theorem mergeK_app {kvs : List (Key × V)} : ∀ {more : List (Key × V)}, ((kvs ++ more).map (·.1)).Nodup → mergeK kvs more = kvs ++ more := by
  intro more
  induction more generalizing kvs with
  | nil => intro _; simp [mergeK]
  | cons q more ih =>
    intro h
    have e : kvs ++ q :: more = (kvs ++ [q]) ++ more := by simp
    have hn : ¬ (kvs.any fun kv => decide (kv.1 = q.1)) = true := by
      intro z
      obtain ⟨kv, hm, hk⟩ := List.any_eq_true.mp z
      rw [List.map_append, List.map_cons] at h
      exact (List.nodup_append.mp h).2.2 kv.1 (List.mem_map.mpr ⟨kv, hm, rfl⟩) q.1 List.mem_cons_self (of_decide_eq_true hk)
    have hp : putK kvs q.1 q.2 = kvs ++ [q] := by
      unfold putK
      rw [if_neg hn]
    rw [e, ← ih (kvs := kvs ++ [q]) (by rw [← e]; exact h), ← hp]
    rfl
theorem mergeK_nil (h : (kvs.map (·.1)).Nodup) : mergeK [] kvs = kvs := mergeK_app (kvs := []) h
theorem prd_imp {α β : Type} {R S : α → β → Prop} (h : ∀ x y, R x y → S x y) : ∀ {l : List α} {k : List β}, Paired R l k → Paired S l k
  | _, _, .nil => .nil
  | _, _, .cons a t => .cons (h _ _ a) (prd_imp h t)
/-- D holds pairs, each a tuple of its own; all else stands as in Hb -/
def PInv (Hb : Hp) (D : Addr) (kvs : List (Key × V)) (H : Hp) : Prop := Same Hb H ∧ ∃ qs : List Addr, qs.length = kvs.length ∧ H D = some (.lst (qs.map V.ref)) ∧ Paired (fun q kv => H q = some (.tup [kV kv.1, kv.2])) qs kvs
theorem PInv.start {D : Addr} (h : H D = none) : PInv H D [] (upd H D (.lst [])) :=
  ⟨fun b o e => by rw [upd_ne (fun z => by rw [z, h] at e; cases e)]; exact e, [], rfl, upd_same, .nil⟩
theorem PInv.dict {Hb : Hp} {D : Addr} (h : PInv Hb D kvs H) (hn : (kvs.map (·.1)).Nodup) (q : ∀ p, H p = none → Q (.ref p) (upd H p (.dK kvs))) : rDict K [.ref D] H Q := by
  obtain ⟨hs, qs, hq, hd, hp⟩ := h
  refine ⟨D, qs, kvs, rfl, SqL.of hd, prd_imp (fun x y hx => SqT.of hx) hp, fun p hp => ?_⟩
  rw [mergeK_nil hn]
  exact q p hp
end
section
variable {K : PySem.W.Frag} {c : Pc} {vs xs ys : List V} {H H0 H' : Hp} {Q : VK} {E : XK} {M : List Addr} {L L' cs : List (Addr × HO)} {L1 : HO → List (Addr × HO)} {B : List (Addr × Nat × Int)} {b b' : Nat} {cut n m : Int} {a d e dx r x x' l p : Addr} {o u : HO} {σ : L2.St} {y : V} {tr : TA} {ns : List Int}
def sp_check_big (K : PySem.W.Frag) (c : Pc) : Sp := fun vs H Q _ => ∃ (m dx : Addr) (b : Nat) (cut : Int) (d e : Addr) (s : Str) (x : Addr) (n : Int), vs = [.ref m, .str s, .ref x] ∧ H m = some (.ins c.CMachine dx (mF b cut d e)) ∧ BigAt c H x b n ∧ Q .non H
def t_check_big (K : PySem.W.Frag) (c : Pc) : TS :=
  (tIfS (tOr (tNot (L2.tB (tCB (rIsi K) (tCons (tVar 2) (tCons (tC (.ref c.CBig)) tNil))))) (tTest (tOp rNe (tFld K (tVar 2) "width") (tFld K (tVar 0) "width")))) tNever tNext)
theorem b_check_big (PM : PM K c) (P : PB K c) (h : sp_check_big K c vs H Q E) : t_check_big K c (en0 Q) (st0 3 vs) H := by
  obtain ⟨m, dx, b, cut, d, e, s, x, n, rfl, hm, ⟨dx', r, hx, hr⟩, q⟩ := h
  unfold t_check_big
  walk_at "rd"
  refine isi_own P.isc hx ?_
  walk_at "rd"
  refine rd_F rfl ?_
  walk_at "rd"
  refine rd_Bwidth P hx ?_
  walk_at "rd"
  refine rd_Mwidth PM hm ?_
  walk_at "rd"
  refine rd_Fn rfl ?_
  walk_at "rd"
  exact q
def sp_check_bigs (K : PySem.W.Frag) (c : Pc) : Sp := fun vs H Q _ => ∃ (m dx : Addr) (b : Nat) (cut : Int) (d e : Addr) (x y : Addr) (n k : Int), vs = [.ref m, .ref x, .ref y] ∧ H m = some (.ins c.CMachine dx (mF b cut d e)) ∧ BigAt c H x b n ∧ BigAt c H y b k ∧ Q .non H
def t_check_bigs (K : PySem.W.Frag) (c : Pc) : TS :=
  (tSeq (tDrop (tCall (sp_check_machine K c) [] E0 (tCons (tVar 0) tNil)))
  (tSeq (tDrop (tCall (sp_check_big K c) [] E0 (tCons (tVar 0) (tCons (tC (.str "x")) (tCons (tVar 1) tNil)))))
  (tDrop (tCall (sp_check_big K c) [] E0 (tCons (tVar 0) (tCons (tC (.str "y")) (tCons (tVar 2) tNil)))))))
theorem b_check_bigs (h : sp_check_bigs K c vs H Q E) : t_check_bigs K c (en0 Q) (st0 3 vs) H := by
  obtain ⟨m, dx, b, cut, d, e, x, y, n, k, rfl, hm, hx, hy, q⟩ := h
  unfold t_check_bigs
  walk_at "rd"
  refine ⟨m, dx, _, rfl, hm, ?_⟩
  walk_at "rd"
  refine ⟨m, dx, b, cut, d, e, _, x, n, rfl, hm, hx, ?_⟩
  walk_at "rd"
  exact ⟨m, dx, b, cut, d, e, _, y, k, rfl, hm, hy, q⟩
end
end Eng
namespace Eng
open PySem PySem.Spec PyProof.Rows L2
/-- what the making of a lambda leaves: its code was there, or is new and stands in the table now -/
def LamStep (H : Hp) (P : Addr) (ps : Array Value) (q : Str) (c' : Addr) (H1 : Hp) : Prop :=
  (H1 = H ∧ ∃ pos : Pos, codeAmong pos ps.toList = some (.ref c')) ∨
  (H c' = none ∧ ∃ more : Array Value, H1 = upd (upd H P (.tbl (ps ++ more))) c' (LamX.CodeO c' q) ∧ TriplesOk (ps ++ more).toList ∧ ∀ (pos : Pos) (cv : Value), codeAmong pos (ps ++ more).toList = some cv → codeAmong pos ps.toList = some cv ∨ cv = .ref c')
/-- a def whose code object stands at c -/
def FunC (K : PySem.W.Frag) (x qual : Str) (st : Stmt) (f : Addr) (fd : FuncData) (c : Addr) : Prop :=
  ∃ (oc : Value) (od : Option Addr) (kV doc pm : Value) (an : Option Addr) (ct : Value) (osl : Array (Option Value)), fd = PySem.W.fnOf x qual (defArgs st) (defBody st) (defScope st) .none kV doc pm an (.ref c) ct ∧ K.lookup f = some ⟨oc, od, .func (PySem.W.fnOf x qual (defArgs st) (defBody st) (defScope st) .none kV doc pm an (.ref c) ct), osl⟩ ∧ PySem.W.codeIn K (.ref c) qual = true
theorem FunC.ok {P : Program} {w : World} {K : PySem.W.Frag} {mg : Str → Option Value} {base : Heap} {x qual : Str} {st : Stmt} {f : Addr} {fd : FuncData} {c : Addr} {N ps : List Str} {k : Nat} {sp : Sp} (F : FunC K x qual st f fd c) (S : FnScope N ps (defScope st)) (len : ∀ vs H Q E, sp vs H Q E → vs.length = ps.length)
    (hbody : ∀ (A : Around) (outer : List Env) (s : Shared) (H : Hp) (vs : List V) (Q : VK) (E : XK), Room k (A.deeper (envOfC qual (defScope st) s.heap.objs.size f (.ref c))) → sp vs H Q E →
      ∃ t, PSs (cxOf C8.CX0 P w K mg base N qual (defScope st) f (.ref c) A outer s H E).nox (defBody st) t ∧ t { nx := fun _ H' => Q .non H', rt := Q } (L2.start N vs) H) : FnOk P w K mg base C8.CX0 (k + 1) f fd ps sp := by
  obtain ⟨oc, od, kV, doc, pm, an, ct, osl, rfl, lk, hcd⟩ := F
  refine fn_of lk hcd S len fun A outer s H vs Q E hr hsp => ?_
  obtain ⟨t, h, q⟩ := hbody A outer s H vs Q E hr hsp
  exact ⟨t, h.nox, q⟩
/-- a lambda's qualified name -/
abbrev lamQ (q : Str) : Str := q ++ ".<locals>." ++ "<lambda>"
/-- the law's start, with tables of code -/
def sp_lawT (K : PySem.W.Frag) (c : Pc) : Sp := fun vs H Q E => (∀ p ∈ c.ts, H p.1 = some (.tbl #[])) ∧ sp_law0 K vs H Q E
/-- the table of the i-th def with lambdas -/
def tabP (c : Pc) (i : Nat) : Addr := (c.ts.getD i (0, "")).1
theorem tab_mem {c : Pc} {qs : List Str} (h : c.ts.map (·.2) = qs) (i : Nat) {q : Str} (hq : qs[i]? = some q) : (tabP c i, q) ∈ c.ts := by
  subst h
  rw [List.getElem?_map] at hq
  unfold tabP
  cases e : c.ts[i]? with
  | none => rw [e] at hq; cases hq
  | some p =>
    rw [e] at hq
    cases hq
    rw [List.getD_eq_getElem?_getD, e]
    exact List.mem_of_getElem? e
end Eng
namespace Eng
open PySem PySem.Spec PyProof.Rows L2
/-- the names of such a lambda: its parameter ya (no name of the maker), captured ones and globals -/
structure LamD (N : List Str) (ya : Str) (sc scope : Scope) : Prop where
  kind : scope.kind = .function
  co : scope.isCoroutine = false
  gen : scope.isGenerator = false
  nocell : ∀ y ∈ scope.names, y.2 ≠ .cell
  own : ∀ y ∈ scope.names, y.2 = .local → y.1 = ya
  par : scope.names.lookup ya = some .local
  off : ya ∉ N
  free : ∀ y ∈ scope.names, y.2 = .free → sc.names.lookup y.1 = some .cell ∨ sc.names.lookup y.1 = some .free
def lamDB (N : List Str) (ya : Str) (sc scope : Scope) : Bool :=
  decide (scope.kind = .function) && !scope.isCoroutine && !scope.isGenerator && (scope.names.all fun y => !decide (y.2 = .cell) && (!decide (y.2 = .local) || decide (y.1 = ya)) && (!decide (y.2 = .free) || decide (sc.names.lookup y.1 = some .cell) || decide (sc.names.lookup y.1 = some .free))) && decide (scope.names.lookup ya = some .local) && !decide (ya ∈ N)
theorem lamD_by {N : List Str} {ya : Str} {sc scope : Scope} (h : lamDB N ya sc scope = true) : LamD N ya sc scope := by
  unfold lamDB at h
  simp only [Bool.and_eq_true, Bool.or_eq_true, Bool.not_eq_true', decide_eq_true_eq, decide_eq_false_iff_not, List.all_eq_true] at h
  obtain ⟨⟨⟨⟨⟨h1, h2⟩, h3⟩, h4⟩, h5⟩, h6⟩ := h
  refine ⟨h1, h2, h3, fun y hy => (h4 y hy).1.1, fun y hy e => ?_, h5, h6, fun y hy e => ?_⟩
  · rcases (h4 y hy).1.2 with z | z
    · exact absurd e z
    · exact z
  · rcases (h4 y hy).2 with (z | z) | z
    · exact absurd e z
    · exact .inl z
    · exact .inr z
theorem LamD.has {X : Cx} {ya : Str} {scope : Scope} (L : LamD X.N ya X.env.scope scope) (ok : X.Ok) : ∀ y ∈ scope.names, y.2 = .free → ∃ c, X.env.cells.lookup y.1 = some c := fun y hy e => by
  rcases L.free y hy e with k | k
  · exact ok.has _ (.inl k)
  · exact ok.has _ (.inr k)
section
variable {X : Cx} {pins : List (Addr × Obj)} {σ : L2.St} {H HZ : Hp} {s s1 : Shared}
/-- how the binder makes of no arguments the default's binding -/
def BindD (params : Arguments) (body : Expr) (scope : Scope) (ya : Str) : Prop :=
  ∀ (q : Str) (cl : List (Str × Addr)) (T : Addr) (doc pm cv ctv u : Value), ∃ k, bindArgs (PySem.W.kdv_fn "<lambda>" q params (.expr body) scope cl (.ref T) doc pm cv ctv) ⟨[], []⟩ = seqItems? (.ref T) >>= k ∧ k (some #[u]) = pure [(ya, u)]
end
end Eng
namespace Eng
open PySem PySem.Spec PyProof.Rows L2
abbrev aeTail : List Value := [.type "ArithmeticError", .type "Exception", .type "BaseException", .type "object"]
/-- some own classes, then what ArithmeticError has -/
def refsAE (l : List Value) : Bool := l.dropWhile (fun v => match v with | .ref _ => true | _ => false) == aeTail
theorem refsAE_contains (X : String) : ∀ (l : List Value), refsAE l = true → l.contains (.type X) = aeTail.contains (.type X)
  | [], e => by cases beq_iff_eq.mp e
  | .ref c :: r, e => by
    rw [List.contains_cons, refsAE_contains X r e]
    rfl
  | .none :: r, e | .ellipsis :: r, e | .notImplemented :: r, e | .bool _ :: r, e | .int _ _ :: r, e | .float _ _ :: r, e | .str _ _ :: r, e | .bytes _ _ :: r, e | .type _ :: r, e | .builtin _ :: r, e => by
    have e2 := beq_iff_eq.mp e
    simp only [List.dropWhile] at e2
    rw [e2]
/-- what the written part says of such a class -/
structure AexC (K : PySem.W.Frag) (C : Addr) : Prop where
  cls : ∃ nm q N bs bm hdct sn sub ab col dd k0 k1 k2 k3 k5, K.lookup C = some (excClassObj nm q C N bs bm hdct sn sub ab col dd k0 k1 k2 k3 k5 "ArithmeticError.__new__") ∧ refsAE bm = true
  exC : PySem.W.subIn K (.ref C) (.type "BaseException") = some true
  tyC : PySem.W.typeIn K (.ref C) = some (.type "type")
  kC : PySem.W.keepIn K (.ref C) = true
/-- the base class, whose __init__ is read off it -/
structure AexB (K : PySem.W.Frag) (C : Addr) : Prop where
  rd : PySem.W.readsIn K C (.type "type") = true
  ga : PySem.W.specialIn K (.ref C) "__getattribute__" = some (some (.builtin "type.__getattribute__"))
  ini : PySem.W.findCls K (.ref C) (.type "type") "__init__" = some (.val (.builtin "ArithmeticError.__init__"))
section
variable {X : Cx} {pins : List (Addr × PySem.Obj)} {σ : L2.St} {H : Hp} {s : Shared} {a C : Addr}
theorem ainit_ok {us : List Value} {Q : Value → Shared → Prop} {E : Value → Shared → Prop} (T : AexC X.K C) (I : Inv X pins σ H s) (e : H a = some (exo a C none)) (hl : us.length ≤ sizeLine) (h : ∀ s', Inv X pins σ H s' → Q .none s') :
    wpAny (model X.prog X.w) X.A (call (.builtin "ArithmeticError.__init__") (.ref a :: us)) Q E s := by
  obtain ⟨nm, q, N, bs, bm, hdct, sn, sub, ab, col, dd, k0, k1, k2, k3, k5, hC, hbm⟩ := T.cls
  obtain ⟨t1, ho⟩ := exo_at I.hok e
  obtain ⟨hp, g, d, t, os⟩ := s
  refine wpAny_call (PySem.HandSPX.init_base F.excBase_ArithmeticError (fun Y => refsAE_contains Y bm hbm) (I.kIn _ _ hC) ho hl fun h' t2 k hx => ?_)
  have J := I.write (t' := t) (x := a) (e := a) (o := exo a C none) (by rw [e]; exact True.intro) (.inl rfl) k ⟨_, hx⟩ (exo_ok hx)
  have eu : upd H a (exo a C none) = H := funext fun b => by
    by_cases hb : b = a
    · rw [hb, upd_same, e]
    · rw [upd_ne hb]
  exact h _ (eu ▸ J)
/-- B.__init__(self, ..) -/
def tBaseI (K : PySem.W.Frag) (ta : TA) : TE := fun σ H Q => ta σ H fun vs H1 => ∃ (a C : Addr) (ws : List V), vs = .ref a :: ws ∧ ws.length ≤ 1000 ∧ AexC K C ∧ H1 a = some (exo a C none) ∧ Q .non H1
theorem pe_baseinit {x : Str} {CB : Addr} {e : Expr} {es : List Expr} {ta : TA} {p1 p2 pos : Pos} {pl : Sem Bool} (B : AexB X.K CB) (hg : Gl X x) (hm : X.mg x = some (.ref CB)) (ha : PA X (e :: es) ta) (hdb : (x == ("__debug__" : Str)) = false := by decide)
    (hc : eval (.Call (.Attribute (.Name x p1) "__init__" p2) (e :: es) [] pos) X.env = (do
      let ov ← eval (.Name x p1) X.env
      standAt p2.atName
      let (f, first) ← holding [ov] (getMethod ov "__init__" pl)
      callWith pos f first (backTo pos (starEach (e :: es) X.env)) (backToKw pos (keywordEach [] X.env))) := by rfl)
    (he : starEach (e :: es) X.env = (false, eval e X.env) :: starEach es X.env := by rfl) (hpl : (backTo pos (starEach es X.env)).any (·.1) = false := by rfl) :
    PE X (.Call (.Attribute (.Name x p1) "__init__" p2) (e :: es) [] pos) (tBaseI X.K ta) := by
  refine ⟨fun pins s σ H Q I h => ?_⟩
  refine PySem.W.methodCall_KW (ld_glob I hg hm ?_ hdb) hc
  refine PySem.W.method_cls I.kIn B.ga (PySem.W.cls_value I.kIn B.rd B.ini (by decide +kernel) ?_)
  show wpAny _ _ (callWith pos (Value.builtin "ArithmeticError.__init__") [] (backTo pos (starEach (e :: es) X.env)) []) _ _ _
  refine PyProof.Rows.callWith_method1 (thn (ha.run pos pins _ σ H _ (I.tok _) h) fun us s1 ⟨vs, H1, I1, r1, a, C, ws, ev, hl, T, ea, q⟩ => ?_) he hpl
  subst ev
  cases r1 with
  | @cons _ u0 _ ur ra rw' =>
    obtain rfl : u0 = Value.ref a := ra
    have hlen : ur.length ≤ sizeLine := by
      rw [← Paired.length rw', sizeLine_eq]
      omega
    exact ainit_ok T I1 ea hlen fun s' J => ⟨.non, H1, J, rfl, q⟩
end
end Eng
namespace Eng
open PySem PySem.Spec PyProof.Rows L2
theorem refsAE_step : ∀ {l : List Value}, refsAE l = true → l = aeTail ∨ ∃ c r, l = .ref c :: r ∧ refsAE r = true
  | [], e => by cases beq_iff_eq.mp e
  | .ref c :: r, e => .inr ⟨c, r, rfl, e⟩
  | .none :: r, e | .ellipsis :: r, e | .notImplemented :: r, e | .bool _ :: r, e | .int _ _ :: r, e | .float _ _ :: r, e | .str _ _ :: r, e | .bytes _ _ :: r, e | .type _ :: r, e | .builtin _ :: r, e => .inl (beq_iff_eq.mp e)
theorem refsAE_pass (self : Value) : ∀ {l : List Value}, refsAE l = true → refuseLoop self "__setattr__" l = pure ()
  | [], e => by cases beq_iff_eq.mp e
  | v :: r, e => by
    rcases refsAE_step e with z | ⟨c, r', z, h⟩
    · rw [z]; exact PySem.F.store_ArithmeticError.passes self
    · obtain ⟨z1, z2⟩ := List.cons.inj z
      rw [z1, z2, refuseLoop_ref]
      exact refsAE_pass self h
theorem refsAE_some {l : List Value} (e : refsAE l = true) : l.isEmpty = false := by
  cases l with
  | nil => cases beq_iff_eq.mp e
  | cons _ _ => rfl
section
open PySem.W PySem.Calls PySem.HandSPX Builtin Builtin.ObjectAttr
variable {prog : Program} {w : World} {A : Around} {R : Result → Shared → Prop} {hp : Heap} {g : Array GenState} {d : Drawn} {t : Nat} {os : OsState}
theorem ae_osa {K : PySem.W.Frag} {name : Str} {tk : Tok} {v : Value} {x C : Addr} {fv : Array Value} {cd : ClassData}
    (hK : K.In hp) (at_ : hp.get? x = some { cls := .ref C, data := .fields fv }) (c1 : PySem.W.clsIn K C = some cd) (c2 : refsAE cd.mro = true) (c3 : cd.hasDict = true) (c4 : PySem.W.findIn K (.ref C) name = some none)
    (go : ∀ h' tk' dx, (∀ b o, b ≠ x → hp.get? b = some o → h'.get? b = some o) → hp.objs.size ≤ dx → dx ≠ x → h'.get? x = some { cls := .ref C, dict := some dx, data := .fields fv } → h'.Ns1 dx (fun y => if y = name then some v else none) → R (.ok (.ret .none)) ⟨h', g, d, tk', os⟩) :
    codeAny (model prog w) A (.call (.builtin "object.__setattr__") ⟨[.ref x, .str name tk, v], []⟩) R ⟨hp, g, d, t, os⟩ := by
  have ia : PySem.W.InstAt hp x { cls := .ref C, data := .fields fv } C none := ⟨at_, rfl, rfl, trivial⟩
  have isOb : cd.mro.contains (.type "object") = true := (refsAE_contains "object" _ c2).trans (by decide +kernel)
  have apart : x ≠ hp.objs.size := Nat.ne_of_lt (Heap.lt_size at_)
  have lk1 : PySem.W.Looks (model prog w) hp (isInstance (.ref x) (.type "object")) true := ia.type.andThen (PySem.W.looks_mroIn hK (by unfold PySem.W.mroIn; rw [c1, Option.bind_some, if_neg (by rw [refsAE_some c2]; decide), isOb]))
  have fs := PySem.F.store_object
  refine codeAny_call_builtin fs.slot.plain fs.entry (@PySem.W.check_slot (model prog w) _ _ ⟨hp, g, d, t, os⟩ "object.__setattr__" "object" "__setattr__" (.ref x) [.str name tk, v] [] _ fs.kind fs.split lk1 (fs.args (.ref x) (.str name tk) v) ?_)
  have lk2 : PySem.W.Looks (model prog w) hp (mroOf (.ref C)) cd.mro := (PySem.W.looks_clsIn hK c1).andThen .now
  have lk3 : PySem.W.Looks (model prog w) hp (storeTaker? none) none := .now
  have lk4 : PySem.W.Looks (model prog w) hp (classData C) cd := PySem.W.looks_clsIn hK c1
  rw [PySem.W.osa_eq, refuse_eq]
  refine wpAny_bind (wpAny_bind (ia.type.at (wpAny_bind (lk2.at ?_))))
  rw [refsAE_pass _ c2]
  refine wpAny_pure (wpAny_bind (ia.type.at (wpAny_bind ((PySem.W.looks_findIn hK c4).at (wpAny_bind (lk3.at ?_))))))
  show wpAny _ _ (storeInOwnDict (.ref x) (.ref C) (.str name tk) name v false) _ _ _
  obtain ⟨_, _, _, _, _, hasD, _, _, _, _, _⟩ := cd
  dsimp only at c3
  subst c3
  unfold storeInOwnDict ownDictForStores
  repeat (first | with_reducible refine store_in_new ?_ ?_ | with_reducible refine wpAny_loadPart_at at_ ?_ | with_reducible refine lk4.at ?_ | wp_step)
  · exact ⟨_, #[], _, (Heap.get?_update_ne _ _ _ _ apart.symm).trans (Heap.get?_push_at rfl rfl), rfl, fun e z => absurd z (by simp), fun _ => rfl⟩
  · intro h' tk' ns same
    have x1 : (hp.push { cls := .type "dict", data := .dict #[] }).get? x = some { cls := .ref C, data := .fields fv } := Heap.get?_push_of_some _ at_
    refine go h' tk' hp.objs.size (fun b o nb ob => ?_) (Nat.le_refl _) apart.symm ((same.2 x apart).trans (Heap.get?_update_self _ x1 rfl)) ns
    exact (same.2 b (Nat.ne_of_lt (Heap.lt_size ob))).trans ((Heap.get?_update_ne _ _ _ _ nb).trans (Heap.get?_push_of_some _ ob))
end
/-- a class of such errors with a field f -/
structure AexF (K : PySem.W.Frag) (C : Addr) (f : Str) : Prop where
  ax : AexC K C
  hd : PySem.W.hasDictIn K C = true
  sa : PySem.W.findIn K (.ref C) "__setattr__" = some (some (.builtin "object.__setattr__"))
  no : PySem.W.findIn K (.ref C) f = some none
section
variable {X : Cx} {pins : List (Addr × PySem.Obj)} {σ : L2.St} {H : Hp} {s : Shared} {a C : Addr} {f : Str} {y : V} {u : Value}
/-- the heap behind self.f = y -/
def putF (H : Hp) (a C dx : Addr) (f : Str) (y : V) : Hp := upd (upd H dx (exd dx [(f, y)])) a (exo a C (some dx))
theorem ae_set {Q : Unit → Shared → Prop} {E : Value → Shared → Prop} {A : Around} (T : AexF X.K C f) (I : Inv X pins σ H s) (e : H a = some (exo a C none)) (ry : RelV y u)
    (h : ∀ dx s', H dx = none → dx ≠ a → Inv X pins σ (putF H a C dx f y) s' → Q () s') : wpAny (model X.prog X.w) A (setAttr (.ref a) f u) Q E s := by
  obtain ⟨nm, q, N, bs, bm, hdct, sn, sub, ab, col, dd, k0, k1, k2, k3, k5, hC, hbm⟩ := T.ax.cls
  have hcl : PySem.W.clsIn X.K C = some { name := nm, bases := bs, mro := .ref C :: bm, ns := N, qualname := q, hasDict := hdct, slotNames := sn, subclasses := sub, abstract := ab, collection := col, hasDel := false } := by unfold PySem.W.clsIn; rw [hC] <;> rfl
  have hh : hdct = true := by
    have z := T.hd
    unfold PySem.W.hasDictIn at z
    rw [hcl] at z
    exact z
  obtain ⟨t1, ho⟩ := exo_at I.hok e
  obtain ⟨hp, g, d, t, os⟩ := s
  refine PySem.W.set_plain I.kIn (ox := { cls := .ref C, dict := none, data := .fields #[.ref t1, .none, .none, .none, .bool false, .none] }) (od := none) ⟨ho, rfl, rfl, trivial⟩ T.sa ?_
  refine ae_osa I.kIn ho hcl (show refsAE (.ref C :: bm) = true from hbm) hh T.no (fun h' tk' dx kept big apart atx ns => ?_)
  have dN : H dx = none := I.hok.fresh big
  have old : ∀ {b : Addr} {o : PySem.Obj}, hp.get? b = some o → b ≠ dx := fun z => Nat.ne_of_lt (Nat.lt_of_lt_of_le (Heap.lt_size z) big)
  have un : ∀ {b : Addr}, H b = none → b ≠ a := fun n z => by rw [z, e] at n; cases n
  have go : ∀ {b : Addr} {o : HO}, H b = some o → exo a C none ≠ o → putF H a C dx f y b = some o := fun {b o} z n => by
    unfold putF
    rw [upd_ne (at_ne e z n), upd_ne (ne_of_none z dN)]
    exact z
  refine h dx _ dN apart (I.un (t' := tk') { keep := fun b o z n _ _ => kept b o (un n) z, slot := fun b o z n _ _ => ⟨o.slots, kept b o (un n) z⟩, free := fun b o z n _ => ?_, there := fun b o z _ => ?_, tups := fun b xs z => go z exo_tup, frzs := fun b o v z => go z exo_frz, tbls := fun b ps z => ⟨#[], by rw [go z exo_tbl]; simp⟩ } fun b o z => ?_)
  · unfold putF
    rw [upd_ne (un n), upd_ne (old z)]
    exact n
  · by_cases hb : b = a
    · exact ⟨_, by rw [hb]; exact atx⟩
    · exact ⟨o, kept b o hb z⟩
  · unfold putF at z
    by_cases hb : b = a
    · subst hb
      rw [upd_same] at z
      cases z
      exact exo_ok atx
    rw [upd_ne hb] at z
    by_cases hd : b = dx
    · subst hd
      rw [upd_same] at z
      cases z
      exact exd_ok ns (relO_put (fs := []) ry fun _ => True.intro)
    rw [upd_ne hd] at z
    exact (I.hok b o z).stay (fun c v hc => kept c v (by
      rcases hc with hc | hc
      · rw [hc]; exact hb
      · exact at_ne e hc exo_own)) (fun c hc => go hc exo_own) fun c xs hc => go hc exo_tup
/-- self.f = e, in the __init__ of such a class -/
def tSetF (K : PySem.W.Frag) (f : Str) (to te : TE) : TS := fun D σ H => te σ H fun y H1 => to σ H1 fun x H2 => ∃ a C : Addr, x = .ref a ∧ AexF K C f ∧ H2 a = some (exo a C none) ∧ ∀ dx, H2 dx = none → dx ≠ a → D.nx σ (putF H2 a C dx f y)
theorem ps_setF {o e : Expr} {to te : TE} {p' pos : Pos} (ho : PE X o to) (he : PE X e te) (hs : swapsWith e (some (.Attribute o f p')) pos.line X.env = pure false := by rfl) : PS X (.Assign [.Attribute o f p'] e pos) (tSetF X.K f to te) := by
  refine ⟨fun pins s σ H D I h => ?_⟩
  refine plainObj_wpAny_Assign_Attribute (thn (he.run pins s σ H _ I h) fun v s1 ⟨y, H1, I1, r1, q1⟩ => thn (ho.run pins s1 σ H1 _ I1 q1) fun u s2 ⟨x, H2, I2, r2, a, C, ex, T, ea, q⟩ => ?_) hs
  subst ex
  obtain rfl : u = Value.ref a := r2
  exact ae_set T I2 ea r1 fun dx s' n ne J => ⟨σ, _, J, q dx n ne⟩
/-- what an __init__ with one field promises -/
def spInF (K : PySem.W.Frag) (f : Str) : Sp := fun vs H Q _ => ∃ (a C : Addr) (y : V), vs = [.ref a, y] ∧ AexF K C f ∧ H a = some (exo a C none) ∧ ∀ dx, H dx = none → dx ≠ a → Q .non (putF H a C dx f y)
def tInF (K : PySem.W.Frag) (m f : Str) : TS := tSeq (tDrop (tBaseI K (tCons (tVar 0) (tCons (tC (.str m)) tNil)))) (tSetF K f (tVar 0) (tVar 1))
theorem b_inF {K : PySem.W.Frag} {m f : Str} {vs : List V} {Q : VK} {E : XK} (h : spInF K f vs H Q E) : tInF K m f (en0 Q) (st0 2 vs) H := by
  obtain ⟨a, C, y, rfl, T, e, q⟩ := h
  exact ⟨.ref a, rfl, a, C, [.str m], rfl, by simp, T.ax, e, y, rfl, .ref a, rfl, a, C, rfl, T, e, q⟩
/-- C(e) -/
def tMkF (C : Addr) (f : Str) (te : TE) : L2.St → Hp → XK → Prop := fun σ H Q => te σ H fun y H1 => ∀ d, H1 d = none → Q (.ref C) (some d) (upd H1 d (.xd [(f, y)]))
theorem pmk_aexF {CX : CXT} {x : Str} {fI : Addr} {k : Nat} {fd : FuncData} {ps : List Str} {e : Expr} {te : TE} {p pos : Pos} (T : AexF X.K C f) (iC : PySem.W.findIn X.K (.ref C) "__init__" = some (some (.ref fI))) (tI : PySem.W.typeIn X.K (.ref fI) = some (.type "function"))
    (F1 : FnOk X.prog X.w X.K X.mg X.base CX k fI fd ps (spInF X.K f)) (hr : Room (k + 1) X.A) (hb : Binds X.K fd ps []) (hx : Passes CX X (fun _ _ _ => False)) (hg : Gl X x) (hm : X.mg x = some (.ref C)) (ha : PA X [e] fun σ H Q => te σ H fun y H1 => Q [y] H1) (hdb : (x == ("__debug__" : Str)) = false := by decide)
    (he : starEach [e] X.env = (false, eval e X.env) :: starEach [] X.env := by rfl) (hpl : (backTo pos (starEach [] X.env)).any (·.1) = false := by rfl) :
    PMk X (.Call (.Name x p) [e] [] pos) (tMkF C f te) := by
  intro pins s σ H Q I h
  obtain ⟨nm, q, N, bs, bm, hdct, sn, sub, ab, col, dd, k0, k1, k2, k3, k5, hC, hbm⟩ := T.ax.cls
  refine wpAny_Call_Name_kw (ld_glob I hg hm ?_ hdb)
  refine PySem.W.callWith_K (h₀ := X.base) I.ok.mod.kin T.ax.kC (thn (ha.run pos pins s σ H (fun vs H1 => ∃ y, vs = [y] ∧ ∀ d, H1 d = none → Q (.ref C) (some d) (upd H1 d (.xd [(f, y)]))) I ?_) fun us s1 ⟨vs, H1, I1, r1, y, ev, q1⟩ => ⟨I1.kIn, ?_⟩) he hpl
  · show te σ H fun y H1 => ∃ y', [y] = [y'] ∧ _
    have e : (fun (y : V) (H1 : Hp) => ∃ y', [y] = [y'] ∧ ∀ d, H1 d = none → Q (.ref C) (some d) (upd H1 d (.xd [(f, y')]))) = fun y H1 => ∀ d, H1 d = none → Q (.ref C) (some d) (upd H1 d (.xd [(f, y)])) := by
      funext y H1
      refine propext ⟨fun ⟨y', z, h⟩ => ?_, fun h => ⟨y, rfl, h⟩⟩
      cases z
      exact h
    rw [e]
    exact h
  subst ev
  cases r1 with
  | @cons _ u _ ur ra rr =>
  cases rr
  show wpAny _ _ (call (.ref C) [u]) _ _ _
  obtain ⟨hp, g, dr, tk, os⟩ := s1
  have hsz : hp.objs.size ≤ hp.objs.size + 1 := Nat.le_succ _
  have hn : H1 (hp.objs.size + 1) = none := I1.hok.fresh hsz
  have kk : ∀ b o, hp.get? b = some o → ((hp.push (PySem.W.kdv_tup [u])).push (PySem.HandSPX.excO C hp.objs.size)).get? b = some o := fun b o z => Heap.get?_push_of_some _ (Heap.get?_push_of_some _ z)
  have hget : ((hp.push (PySem.W.kdv_tup [u])).push (PySem.HandSPX.excO C hp.objs.size)).get? (hp.objs.size + 1) = some (PySem.HandSPX.excO C hp.objs.size) := by heap_get
  generalize hxa : hp.objs.size + 1 = xa at hsz hn hget
  have I2 : Inv X pins σ (upd H1 xa (exo xa C none)) ⟨(hp.push (PySem.W.kdv_tup [u])).push (PySem.HandSPX.excO C hp.objs.size), g, dr, tk, os⟩ :=
    I1.laid (t' := tk) (a := xa) (o := exo xa C none) (h' := (hp.push (PySem.W.kdv_tup [u])).push (PySem.HandSPX.excO C hp.objs.size)) kk hsz (exo_ok hget)
  have r2 : Vals [V.ref xa, y] [Value.ref xa, u] := .cons rfl (.cons ra .nil)
  have hq : spInF X.K f [V.ref xa, y] (upd H1 xa (exo xa C none)) (fun v H2 => v = .non ∧ ∃ d, H1 d = none ∧ d ≠ xa ∧ H2 = putF (upd H1 xa (exo xa C none)) xa C d f y) (fun _ _ _ => False) :=
    ⟨xa, C, y, rfl, T, upd_same, fun d hd ne => ⟨rfl, d, by rw [upd_ne ne] at hd; exact hd, ne, rfl⟩⟩
  have hl : ([Value.ref xa, u] ++ ([] : List Value)).length = ps.length := F1.len _ _ _ _ hq
  have F2 := F1.run _ X.stack _ _ ⟨[Value.ref xa, u], []⟩ [Value.ref xa, u] _ _ (fun _ _ _ => False) (hr.make C [u] []) (I2.env0.make C [u] []) (hb _ [Value.ref xa, u] I2.kIn hl) r2 hq
  rw [← hxa] at F2
  refine wpAny_call (PySem.HandSPX.call_own F.excBase_ArithmeticError (fun Y => refsAE_contains Y bm hbm) (I1.kIn _ _ hC) (PySem.W.looks_findIn I1.kIn iC) (fun self => PySem.W.bind_fn I1.kIn self tI) (by rw [sizeLine_eq]; show 1 ≤ _; omega)
    (codeAny_mono F2 fun r s' hq' => ?_))
  rw [hxa] at hq'
  cases r with
  | error er => exact hx pins σ _ _ er s' I2 hq'
  | ok fl =>
    cases fl with
    | ret u' =>
      obtain ⟨v, H2, os2, bare2, un2, hok2, rv, ev, d, hd, ne, e2⟩ := hq'
      subst ev
      subst e2
      obtain ⟨h2, g2, d2, t2, os'⟩ := s'
      refine ⟨rv, ?_⟩
      rw [hxa]
      refine mk_end (raises_own T.ax.exC T.ax.tyC) I1 hsz kk un2 hok2 os2 bare2 upd_same (by unfold putF; rw [upd_ne ne, upd_same]) hd ?_
      have e : upd (del (putF (upd H1 xa (exo xa C none)) xa C d f y) xa) d (.xd [(f, y)]) = upd H1 d (.xd [(f, y)]) := by
        funext b
        by_cases h1 : b = d
        · subst h1; rw [upd_same, upd_same]
        · rw [upd_ne h1, upd_ne h1]
          by_cases h2 : b = xa
          · subst h2; rw [del_same, hn]
          · rw [del_ne h2]
            unfold putF
            rw [upd_ne h2, upd_ne h1, upd_ne h2]
      rw [e]
      exact q1 d hd
    | next => exact False.elim hq'
    | brk => exact False.elim hq'
    | cont => exact False.elim hq'
/-- raise C(e) -/
def tRaiseF (C : Addr) (f : Str) (te : TE) (E : XK) : TS := fun _ σ H => te σ H fun y H1 => ∀ d, H1 d = none → E (.ref C) (some d) (upd H1 d (.xd [(f, y)]))
theorem ps_raiseF {E : XK} {e : Expr} {te : TE} {pos : Pos} (hc : X.calm = true) (tk : Takes X (fun cls d _ H => E cls d H)) (he : PMk X e (tMkF C f te)) : PS X (.Raise (some e) none pos) (tRaiseF C f te E) := ps_raise hc tk he
end
end Eng
namespace Eng
open PySem PySem.Spec PyProof.Rows L2
/-- which cells, and what they hold -/
structure Th where
  dom : Addr → Prop
  has : Addr → V → Prop
def CellsAt (θ : Th) (H : Hp) (h : Heap) : Prop := ∀ c, θ.dom c → H c = none ∧ ∃ u, h.IsCell c u ∧ ∀ v, θ.has c v → ∃ w, u = some w ∧ RelV v w
section
variable {θ : Th} {fs ex : List Addr} {H H' : Hp} {h h' : Heap} {X : Cx} {pins : List (Addr × Obj)} {σ : L2.St} {s : Shared}
theorem CellsAt.un (C : CellsAt θ H h) (U : Un fs ex H H' h h') (hx : ∀ c, θ.dom c → c ∉ ex) : CellsAt θ H' h' := fun c hc => by
  obtain ⟨n, u, ⟨o, ho, hd⟩, r⟩ := C c hc
  obtain ⟨sl, e⟩ := U.any ho n (hx c hc)
  exact ⟨U.free c o ho n (hx c hc), u, ⟨_, e, hd⟩, r⟩
theorem cell_one {c : Addr} {u v : Option Value} (a : h.IsCell c u) (b : h.IsCell c v) : u = v := by
  obtain ⟨o, e1, e2⟩ := a
  obtain ⟨p, f1, f2⟩ := b
  rw [e1] at f1
  cases f1
  rw [e2] at f2
  cases f2
  rfl
/-- a def's own cells, by what its names hold -/
def thX (X : Cx) (σ : L2.St) : Th := ⟨fun c => ∃ y, X.env.cells.lookup y = some c, fun c v => ∃ (i : Nat) (y : Str), X.N[i]? = some y ∧ X.env.cells.lookup y = some c ∧ σ[i]? = some (some v) ∧ (X.env.kindOf y = some .cell ∨ X.env.kindOf y = some .free)⟩
theorem inv_cells (I : Inv X pins σ H s) : CellsAt (thX X σ) H s.heap := by
  rintro c ⟨y0, e0⟩
  obtain ⟨u, z⟩ := I.cell y0 c e0
  refine ⟨I.freeC y0 c e0, u, z, ?_⟩
  rintro v ⟨i, y, e1, e2, e3, hk⟩
  obtain ⟨m, _, hl⟩ := I.loc
  obtain ⟨w, r, q⟩ := hl i y v e1 e3 (hk.elim (fun k => .inr (.inl k)) fun k => .inr (.inr k))
  rcases q with ⟨k, _⟩ | ⟨_, c1, e4, z1⟩
  · rcases hk with k1 | k1 <;> rw [k] at k1 <;> cases k1
  · rw [e2] at e4
    cases e4
    exact ⟨w, cell_one z z1, r⟩
/-- a context in which they are told -/
def Bears (θ : Th) (Z : Cx) : Prop := CellsAt θ Z.H_0 Z.s_0.heap ∧ ∀ c, θ.dom c → c ∉ Z.ex
theorem Bears.here (B : Bears θ X) (I : Inv X pins σ H s) : CellsAt θ H s.heap := B.1.un I.base B.2
end
/-- a lambda's text -/
structure Lmb where
  q : Str
  params : Arguments
  body : Expr
  scope : Scope
/-- a closure without defaults, with one -/
def CloO (f : Addr) (L : Lmb) (cl : List (Str × Addr)) (c' : Addr) : HO := .ext fun h => ∃ pm ctv, h.get? f = some (PySem.W.kla_obj "<lambda>" L.q L.params L.body L.scope cl pm c' ctv)
def CloD (f : Addr) (L : Lmb) (cl : List (Str × Addr)) (c' T : Addr) : HO := .ext fun h => ∃ doc pm ctv, h.get? f = some (PySem.W.kdv_obj "<lambda>" L.q L.params (.expr L.body) L.scope cl (.ref T) doc pm c' ctv)
def TupD (T : Addr) : HO := .ext fun h => ∃ u, h.get? T = some (PySem.W.kdv_tup [u])
/-- the closure at f -/
inductive IsClo (H : Hp) (f : Addr) (L : Lmb) (cl : List (Str × Addr)) : Prop
  | plain {c' : Addr} : L.params.defaults = [] → H f = some (CloO f L cl c') → H c' = some (LamX.CodeO c' L.q) → IsClo H f L cl
  | dflt {c' T : Addr} : L.params.defaults ≠ [] → H f = some (CloD f L cl c' T) → H T = some (TupD T) → H c' = some (LamX.CodeO c' L.q) → IsClo H f L cl
theorem IsClo.mono {H H' : Hp} {f : Addr} {L : Lmb} {cl : List (Str × Addr)} (h : IsClo H f L cl) (k : ∀ a o, H a = some o → H' a = some o) : IsClo H' f L cl := by
  cases h with
  | plain n a b => exact .plain n (k _ _ a) (k _ _ b)
  | dflt n a b d => exact .dflt n (k _ _ a) (k _ _ b) (k _ _ d)
section
variable {P : Program} {w : World} {H : Hp} {h : Heap} {f T c' : Addr} {L : Lmb} {cl : List (Str × Addr)}
theorem cloO_ok {pm ctv : Value} (e : h.get? f = some (PySem.W.kla_obj "<lambda>" L.q L.params L.body L.scope cl pm c' ctv)) : ObjOk P w H h f (CloO f L cl c') :=
  ⟨⟨pm, ctv, e⟩, ⟨_, e⟩, fun _ _ ⟨p, v, z⟩ k => ⟨p, v, k _ z⟩⟩
theorem cloD_ok {doc pm ctv : Value} (e : h.get? f = some (PySem.W.kdv_obj "<lambda>" L.q L.params (.expr L.body) L.scope cl (.ref T) doc pm c' ctv)) : ObjOk P w H h f (CloD f L cl c' T) :=
  ⟨⟨doc, pm, ctv, e⟩, ⟨_, e⟩, fun _ _ ⟨d, p, v, z⟩ k => ⟨d, p, v, k _ z⟩⟩
theorem tupD_ok {u : Value} (e : h.get? T = some (PySem.W.kdv_tup [u])) : ObjOk P w H h T (TupD T) :=
  ⟨⟨u, e⟩, ⟨_, e⟩, fun _ _ ⟨u, z⟩ k => ⟨u, k _ z⟩⟩
end
/-- the names of a lambda: captured ones, globals, a parameter that is no name of the maker's -/
structure LamC (N : List Str) (sc scope : Scope) : Prop where
  kind : scope.kind = .function
  co : scope.isCoroutine = false
  gen : scope.isGenerator = false
  nocell : ∀ y ∈ scope.names, y.2 ≠ .cell
  off : ∀ y ∈ scope.names, y.2 = .local → y.1 ∉ N
  free : ∀ y ∈ scope.names, y.2 = .free → sc.names.lookup y.1 = some .cell ∨ sc.names.lookup y.1 = some .free
theorem LamC.ofS {N : List Str} {sc scope : Scope} (L : LamX.LamS sc scope) : LamC N sc scope := ⟨L.kind, L.co, L.gen, fun y hy => (L.own y hy).2, fun y hy e => absurd e (L.own y hy).1, L.free⟩
theorem LamC.ofD {N : List Str} {ya : Str} {sc scope : Scope} (L : LamD N ya sc scope) : LamC N sc scope := ⟨L.kind, L.co, L.gen, L.nocell, fun y hy e => by rw [L.own y hy e]; exact L.off, L.free⟩
theorem LamC.has {X : Cx} {N : List Str} {scope : Scope} (L : LamC N X.env.scope scope) (ok : X.Ok) : ∀ y ∈ scope.names, y.2 = .free → ∃ c, X.env.cells.lookup y.1 = some c := fun y hy e =>
  (L.free y hy e).elim (fun k => ok.has _ (.inl k)) fun k => ok.has _ (.inr k)
/-- a lambda's kind: no parameter, or one with a default -/
inductive LmbK (N : List Str) (sc : Scope) (L : Lmb) : Prop
  | plain : LamX.LamS sc L.scope → (∀ (q : Str) (cl : List (Str × Addr)) (pm cv ctv : Value), bindArgs (PySem.W.kla_fn "<lambda>" q L.params L.body L.scope cl pm cv ctv) ⟨[], []⟩ = pure []) → (∀ env, defaultsOf L.params env = ([], [])) → L.params.defaults = [] → LmbK N sc L
  | dflt {ya : Str} {i : Int} {j : Nat} {pi : Pos} : LamD N ya sc L.scope → BindD L.params L.body L.scope ya → L.params.defaults = [.Constant (.int i) j pi] → L.params.kw_defaults = [] → LmbK N sc L
theorem LmbK.c {N : List Str} {sc : Scope} {L : Lmb} (h : LmbK N sc L) : LamC N sc L.scope := by
  cases h with
  | plain a _ _ _ => exact .ofS a
  | dflt a _ _ _ => exact .ofD a
/-- what its making leaves -/
def MkStep (H : Hp) (P : Addr) (ps : Array Value) (L : Lmb) (cl : List (Str × Addr)) (f : Addr) (H1 : Hp) : Prop :=
  (∃ c' H2, L.params.defaults = [] ∧ LamStep H P ps L.q c' H2 ∧ H2 c' = some (LamX.CodeO c' L.q) ∧ H2 f = none ∧ H1 = upd H2 f (CloO f L cl c')) ∨
  (∃ c' T H2, L.params.defaults ≠ [] ∧ H T = none ∧ T ≠ P ∧ LamStep (upd H T (TupD T)) P ps L.q c' H2 ∧ H2 T = some (TupD T) ∧ H2 c' = some (LamX.CodeO c' L.q) ∧ H2 f = none ∧ H1 = upd H2 f (CloD f L cl c' T))
def TabAt (H : Hp) (P : Addr) (ps : Array Value) (q : Str) : Prop := H P = some (.tbl ps) ∧ TriplesOk ps.toList ∧ ∀ (pos : Pos) (cv : Value), codeAmong pos ps.toList = some cv → ∃ c', cv = .ref c' ∧ H c' = some (LamX.CodeO c' q)
def tMkL (P : Addr) (L : Lmb) (cl : List (Str × Addr)) : TE := fun _ H Q => ∃ ps, TabAt H P ps L.q ∧ ∀ f H1, MkStep H P ps L (cloFrom cl L.scope.names []) f H1 → Q (.ref f) H1
section
variable {X : Cx} {pins : List (Addr × Obj)} {σ : L2.St} {H : Hp} {s : Shared}
theorem mk_plain {c P : Addr} {ps : Array Value} {L : Lmb} {pos : Pos} {E : Value → Shared → Prop} {Q : Value → Shared → Prop} (I : Inv X pins σ H s) (TB : LamX.TabB X.base X.mg c P) (hcode : X.env.code = .ref c) (hq : L.q = X.env.qual ++ "<lambda>")
    (T : TabAt H P ps L.q) (hdef : defaultsOf L.params X.env = ([], [])) (hnd : L.params.defaults = []) (hfree : ∀ y ∈ L.scope.names, y.2 = .free → ∃ c, X.env.cells.lookup y.1 = some c)
    (go : ∀ f H1 s', Inv X pins σ H1 s' → MkStep H P ps L (cloFrom X.env.cells L.scope.names []) f H1 → Q (.ref f) s') : wpAny (model X.prog X.w) X.A (eval (.Lambda L.params L.body L.scope pos) X.env) Q E s := by
  obtain ⟨q, params, body, scope⟩ := L
  dsimp only at hq T hdef hnd hfree go ⊢
  subst hq
  obtain ⟨hP, ht, ha⟩ := T
  refine PySem.W.kla_eval hdef ?_
  have tabAt : s.heap.get? P = some { cls := .none, data := .fields ps } := I.hok P _ hP
  cases hit : codeAmong pos ps.toList with
  | some cv =>
    obtain ⟨c', rfl, known⟩ := ha pos cv hit
    refine PySem.W.kla_makeFunctionHit (mg := X.mg) (c := c) (P := P) (ps := ps) (closure_ok hfree) I.ok.glob (I.mod.glob.keeps I.bk) hcode (TB.code.keeps I.bk) tabAt ht hit (TB.bm.keeps I.bk) fun ctv h' tk grow big => ?_
    have at_ := Heap.get?_push_size h' (o := PySem.W.kla_obj "<lambda>" (X.env.qual ++ "<lambda>") params body scope (cloFrom X.env.cells scope.names []) ((X.mg "__name__").getD .none) c' ctv) rfl
    exact go h'.objs.size _ _ (I.laid (t' := tk) (o := CloO h'.objs.size ⟨X.env.qual ++ "<lambda>", params, body, scope⟩ (cloFrom X.env.cells scope.names []) c') (fun b o e => Heap.get?_push_of_some _ (grow b o e)) big (cloO_ok at_)) (.inl ⟨c', H, hnd, .inl ⟨rfl, pos, hit⟩, known, I.hok.fresh big, rfl⟩)
  | none =>
    refine PySem.W.kla_makeFunction (mg := X.mg) (c := c) (P := P) (ps := ps) (closure_ok hfree) I.ok.glob (I.mod.glob.keeps I.bk) hcode (TB.code.keeps I.bk) tabAt ht hit TB.gP (TB.bm.keeps I.bk) fun c' ctv h' tk grow ge lt rec tab => ?_
    obtain ⟨c2, oc, vs, t, ec, hoc, hd, hv⟩ := rec
    cases ec
    have new : H c' = none := I.hok.fresh ge
    have J := LamX.inv_table (t' := tk) (q := X.env.qual ++ "<lambda>") (more := #[rawInt pos.line, rawInt pos.col, .ref c']) (h' := h') I hP grow tab ge ⟨oc, vs, t, hoc, hd, hv⟩
    have el : (ps ++ #[rawInt pos.line, rawInt pos.col, .ref c']).toList = ps.toList ++ [rawInt pos.line, rawInt pos.col, .ref c'] := by simp
    have at_ := Heap.get?_push_size h' (o := PySem.W.kla_obj "<lambda>" (X.env.qual ++ "<lambda>") params body scope (cloFrom X.env.cells scope.names []) ((X.mg "__name__").getD .none) c' ctv) rfl
    refine go h'.objs.size _ _ (J.laid (t' := tk) (o := CloO h'.objs.size ⟨X.env.qual ++ "<lambda>", params, body, scope⟩ (cloFrom X.env.cells scope.names []) c') (fun b o e => Heap.get?_push_of_some _ e) (Nat.le_refl _) (cloO_ok at_)) (.inl ⟨c', _, hnd, .inr ⟨new, _, rfl, by rw [el]; exact PySem.TriplesOk_snoc _ _ _ _ ht, fun p' cv hcv => ?_⟩, upd_same, J.hok.fresh (Nat.le_refl _), rfl⟩)
    rw [el] at hcv
    exact LamX.among_app _ ht hcv
theorem mk_dflt {c P : Addr} {ps : Array Value} {L : Lmb} {pos : Pos} {E : Value → Shared → Prop} {Q : Value → Shared → Prop} {i : Int} {j : Nat} {pi : Pos} (I : Inv X pins σ H s) (TB : LamX.TabB X.base X.mg c P) (hcode : X.env.code = .ref c) (hq : L.q = X.env.qual ++ "<lambda>")
    (T : TabAt H P ps L.q) (hdef : L.params.defaults = [.Constant (.int i) j pi]) (hkd : L.params.kw_defaults = []) (hfree : ∀ y ∈ L.scope.names, y.2 = .free → ∃ c, X.env.cells.lookup y.1 = some c)
    (go : ∀ f H1 s', Inv X pins σ H1 s' → MkStep H P ps L (cloFrom X.env.cells L.scope.names []) f H1 → Q (.ref f) s') : wpAny (model X.prog X.w) X.A (eval (.Lambda L.params L.body L.scope pos) X.env) Q E s := by
  obtain ⟨q, params, body, scope⟩ := L
  dsimp only at hq T hdef hkd hfree go ⊢
  subst hq
  obtain ⟨hP, ht, ha⟩ := T
  refine PySem.W.kdv_lam (by rw [hdef]; rfl) hkd ?_
  rw [hdef]
  refine PySem.W.kdv_all1 (wpAny_Constant_int (PySem.W.kdv_all0 ?_))
  rw [makeFunction_eq]
  simp only [List.zip_nil_right, List.filterMap_nil, List.isEmpty_nil, List.isEmpty_cons, if_true, pure_bind, Bool.false_eq_true, if_false]
  refine wpAny_bind (wpAny_newTextTuple ?_)
  have newT : H s.heap.objs.size = none := I.hok.fresh (Nat.le_refl _)
  have tabAt0 : s.heap.get? P = some { cls := .none, data := .fields ps } := I.hok P _ hP
  have hTP : s.heap.objs.size ≠ P := Nat.ne_of_gt (Heap.lt_size tabAt0)
  have at2 : (s.heap.push (PySem.W.kdv_tup [Value.int i s.toks])).get? s.heap.objs.size = some (PySem.W.kdv_tup [Value.int i s.toks]) := Heap.get?_push_size _ rfl
  have I2 : Inv X pins σ (upd H s.heap.objs.size (TupD s.heap.objs.size)) { s with heap := s.heap.push (PySem.W.kdv_tup [Value.int i s.toks]), toks := s.toks + 1 } := I.laid (fun b o e => Heap.get?_push_of_some _ e) (Nat.le_refl _) (tupD_ok at2)
  generalize hT0 : s.heap.objs.size = T at *
  have hP2 : upd H T (TupD T) P = some (.tbl ps) := by rw [upd_ne (Ne.symm hTP)]; exact hP
  have ha2 : ∀ (pos : Pos) (cv : Value), codeAmong pos ps.toList = some cv → ∃ c', cv = .ref c' ∧ upd H T (TupD T) c' = some (LamX.CodeO c' (X.env.qual ++ "<lambda>")) := fun p cv hc => by
    obtain ⟨c', e1, e2⟩ := ha p cv hc
    exact ⟨c', e1, by rw [upd_ne (ne_of_none e2 newT)]; exact e2⟩
  have tabAt : (s.heap.push (PySem.W.kdv_tup [Value.int i s.toks])).get? P = some { cls := .none, data := .fields ps } := I2.hok P _ hP2
  generalize hh2 : s.heap.push (PySem.W.kdv_tup [Value.int i s.toks]) = h2 at I2 at2 tabAt
  cases hit : codeAmong pos ps.toList with
  | some cv =>
    obtain ⟨c', rfl, known⟩ := ha2 pos cv hit
    refine PySem.W.kdv_makeTailHit (mg := X.mg) (c := c) (P := P) (ps := ps) (closure_ok hfree) I2.ok.glob (I2.mod.glob.keeps I2.bk) hcode (TB.code.keeps I2.bk) tabAt ht hit (TB.bm.keeps I2.bk) fun ctv doc h' tk grow big => ?_
    have at_ := Heap.get?_push_size h' (o := PySem.W.kdv_obj "<lambda>" (X.env.qual ++ "<lambda>") params (.expr body) scope (cloFrom X.env.cells scope.names []) (.ref T) doc ((X.mg "__name__").getD .none) c' ctv) rfl
    exact go h'.objs.size _ _ (I2.laid (t' := tk) (o := CloD h'.objs.size ⟨X.env.qual ++ "<lambda>", params, body, scope⟩ (cloFrom X.env.cells scope.names []) c' T) (fun b o e => Heap.get?_push_of_some _ (grow b o e)) big (cloD_ok at_)) (.inr ⟨c', T, _, fun z => (by rw [hdef] at z; cases z), newT, hTP, .inl ⟨rfl, pos, hit⟩, upd_same, known, I2.hok.fresh big, rfl⟩)
  | none =>
    refine PySem.W.kdv_makeTail (mg := X.mg) (c := c) (P := P) (ps := ps) (closure_ok hfree) I2.ok.glob (I2.mod.glob.keeps I2.bk) hcode (TB.code.keeps I2.bk) tabAt ht hit TB.gP (TB.bm.keeps I2.bk) fun c' ctv doc h' tk grow ge lt rec tab => ?_
    obtain ⟨c2, oc, vs, t, ec, hoc, hd, hv⟩ := rec
    cases ec
    have new : upd H T (TupD T) c' = none := I2.hok.fresh ge
    have J := LamX.inv_table (t' := tk) (q := X.env.qual ++ "<lambda>") (more := #[rawInt pos.line, rawInt pos.col, .ref c']) (h' := h') I2 hP2 grow tab ge ⟨oc, vs, t, hoc, hd, hv⟩
    have el : (ps ++ #[rawInt pos.line, rawInt pos.col, .ref c']).toList = ps.toList ++ [rawInt pos.line, rawInt pos.col, .ref c'] := by simp
    have at_ := Heap.get?_push_size h' (o := PySem.W.kdv_obj "<lambda>" (X.env.qual ++ "<lambda>") params (.expr body) scope (cloFrom X.env.cells scope.names []) (.ref T) doc ((X.mg "__name__").getD .none) c' ctv) rfl
    have nTc : T ≠ c' := fun z => by rw [← z, upd_same] at new; cases new
    refine go h'.objs.size _ _ (J.laid (t' := tk) (o := CloD h'.objs.size ⟨X.env.qual ++ "<lambda>", params, body, scope⟩ (cloFrom X.env.cells scope.names []) c' T) (fun b o e => Heap.get?_push_of_some _ e) (Nat.le_refl _) (cloD_ok at_)) (.inr ⟨c', T, _, fun z => (by rw [hdef] at z; cases z), newT, hTP, .inr ⟨new, _, rfl, by rw [el]; exact PySem.TriplesOk_snoc _ _ _ _ ht, fun p' cv hcv => ?_⟩, by rw [upd_ne nTc, upd_ne hTP]; exact upd_same, upd_same, J.hok.fresh (Nat.le_refl _), rfl⟩)
    rw [el] at hcv
    exact LamX.among_app _ ht hcv
/-- lambda: .. as a value -/
theorem pe_mkL {c P : Addr} {L : Lmb} {pos : Pos} (TB : LamX.TabB X.base X.mg c P) (hcode : X.env.code = .ref c) (hq : L.q = X.env.qual ++ "<lambda>") (K : LmbK X.N X.env.scope L) : PE X (.Lambda L.params L.body L.scope pos) (tMkL P L X.env.cells) := by
  refine ⟨fun pins s σ H Q I h => ?_⟩
  obtain ⟨ps, T, h⟩ := h
  have hf := K.c.has I.ok
  cases K with
  | plain a _ d e => exact mk_plain I TB hcode hq T (d _) e hf fun f H1 s' J st => ⟨.ref f, H1, J, rfl, h f H1 st⟩
  | dflt a _ d e => exact mk_dflt I TB hcode hq T d e hf fun f H1 s' J st => ⟨.ref f, H1, J, rfl, h f H1 st⟩
end
abbrev Asks := Addr → XK → Hp → VK → Prop
def ActsOk (P : Program) (w : World) (K : PySem.W.Frag) (mg : Str → Option Value) (base : Heap) (k : Nat) (θ : Th) (asks : Asks) : Prop :=
  ∀ (f : Addr) (E : XK) (H : Hp) (Q : VK) (A : Around) (outer : List Env) (s : Shared), Room k A → Env0 P w K mg base A outer s H → CellsAt θ H s.heap → asks f E H Q →
    PySem.W.FnAt f s.heap ∧ codeAny (model P w) A (.call (.ref f) ⟨[], []⟩) (CR (L2.CX P w) outer P w H s Q E) s
section
variable {X : Cx} {σ : L2.St} {HZ : Hp} {s1 : Shared}
theorem lam_startC {A : Around} {outer : List Env} {E : XK} {scope : Scope} {bs : List (Str × Value)} {f c' : Addr} {h₁ : Heap} {tk : Nat} (ok : X.Ok) (len : σ.length = X.N.length) (L : LamC X.N X.env.scope scope) (e0 : Env0 X.prog X.w X.K X.mg X.base A outer s1 HZ) (hd : A.handled = none)
    (C : CellsAt (thX X σ) HZ s1.heap) (hns : h₁.Ns s1.heap.objs.size fun y => bs.reverse.lookup y) (kp : ∀ b o, s1.heap.get? b = some o → h₁.get? b = some o) :
    Inv (LamX.lamCx X A outer s1 HZ E scope f c') [] σ HZ { s1 with heap := h₁, toks := tk } := by
  have hfree := L.has ok
  have cm : ∀ {y c}, (cloFrom X.env.cells scope.names []).lookup y = some c → X.env.cells.lookup y = some c := fun {y c} e => by
    rcases cloFrom_mem (PySem.mem_of_lookup e) with hm | ⟨h1, h2⟩
    · cases hm
    · obtain ⟨c1, hc⟩ := hfree _ h1 rfl
      have hc : X.env.cells.lookup y = some c1 := hc
      have e2 : c = c1 := by
        rw [h2, hc] <;> rfl
      rw [e2]
      exact hc
  have look : ∀ {y}, scope.names.lookup y = some .free → ∃ c, (cloFrom X.env.cells scope.names []).lookup y = some c := fun {y} hl =>
    mem_lookup (cloFrom_has (cells := X.env.cells) (acc := []) (show (y, NameKind.free) ∈ scope.names from PySem.mem_of_lookup hl))
  have noA : ∀ b : Addr, b ∉ (LamX.lamCx X A outer s1 HZ E scope f c').ex := fun b z => absurd (show b ∈ ([] : List Addr) from z) (by simp)
  refine ⟨⟨e0.mod, L.kind, rfl, rfl, Nat.le_refl _, fun y z c e1 e2 => ok.inj y z c (cm e1) (cm e2), fun y hy => ?_, fun y c z _ => ?_, fun _ => hd, Around.frames_deeper e0.frames, .inr ⟨rfl, rfl⟩, fun b z => absurd z (noA b), e0.bs, e0.bsz, fun b _ _ => noA b,
      fun b z => absurd z (noA b), e0.funs, e0.frf⟩,
    rfl, e0.bare, Un.kept kp, ⟨_, hns, fun i y v e1 e2 e3 => ?_⟩, fun y c e => ?_, e0.hok.fresh (Nat.le_refl _), fun y c e => (C c ⟨y, cm e⟩).1, fun q hq => absurd (show q ∈ ([] : List (Addr × Obj)) ++ [] from hq) (by simp), e0.hok.kept kp, len⟩
  · have hy : scope.names.lookup y = some .cell ∨ scope.names.lookup y = some .free := hy
    rcases hy with hy | hy
    · exact absurd rfl (L.nocell _ (PySem.mem_of_lookup hy))
    · exact look hy
  · have z : false = true := z
    cases z
  · have e3 : Vis scope y := e3
    have e1 : X.N[i]? = some y := e1
    rcases e3 with k | k | k
    · exact absurd (List.mem_of_getElem? e1) (L.off _ (PySem.mem_of_lookup k) rfl)
    · exact absurd rfl (L.nocell _ (PySem.mem_of_lookup k))
    · obtain ⟨c2, h2⟩ := look k
      have c1 := cm h2
      obtain ⟨_, u, z, r⟩ := C c2 ⟨y, c1⟩
      obtain ⟨w', eu, rv⟩ := r v ⟨i, y, e1, c1, e2, (L.free _ (PySem.mem_of_lookup k) rfl).elim (fun q => .inl q) fun q => .inr q⟩
      subst eu
      exact ⟨w', rv, .inr ⟨.inr k, c2, h2, z.keeps kp⟩⟩
  · obtain ⟨_, u, z, _⟩ := C c ⟨y, cm e⟩
    exact ⟨u, z.keeps kp⟩
/-- a closure of this def is called, wherever -/
theorem clo_run {L : Lmb} {A : Around} {outer : List Env} {s : Shared} {H : Hp} {E : XK} {Q : VK} {f : Addr} {tb : XK → TE} {k : Nat} (ok : X.Ok) (len : σ.length = X.N.length) (hq : L.q = X.env.qual ++ "<lambda>") (hk : LmbK X.N X.env.scope L)
    (hr : Room (k + 1) A) (e0 : Env0 X.prog X.w X.K X.mg X.base A outer s H) (hc : CellsAt (thX X σ) H s.heap) (hf : IsClo H f L (cloFrom X.env.cells L.scope.names []))
    (hbody : ∀ (A : Around) (outer : List Env) (s : Shared) (H : Hp) (E : XK) (f c' : Addr), Room k (A.deeper (LamX.lamEnv X L.scope s.heap.objs.size f c')) → PE (LamX.lamCx X A outer s H E L.scope f c') L.body (tb E)) (ht : tb E σ H Q) :
    PySem.W.FnAt f s.heap ∧ codeAny (model X.prog X.w) A (.call (.ref f) ⟨[], []⟩) (CR (L2.CX X.prog X.w) outer X.prog X.w H s Q E) s := by
  obtain ⟨q, params, body, scope⟩ := L
  dsimp only at hq hk hf hbody
  subst hq
  have LC : LamC X.N X.env.scope scope := hk.c
  have nl : s.heap.NoLimit := e0.mod.nolimit.keeps fun b o e => (e0.bs b o e).1
  cases hf with
  | @plain c' n0 h1 h2 =>
    obtain ⟨⟨pm, ctv, at_⟩, _, _⟩ := e0.hok f _ h1
    obtain ⟨⟨oc, vs, t, hoc, hdc, hvc⟩, _, _⟩ := e0.hok c' _ h2
    refine ⟨⟨_, _, _, _, at_⟩, ?_⟩
    cases hk with
    | plain a hbind _ _ =>
      refine PySem.W.kla_callFunE hr.depth at_ rfl LC.co LC.gen rfl ⟨c', oc, vs, t, rfl, hoc, hdc, hvc⟩ ?_
      rw [hbind]
      refine wpAny_pure (wpAny_newFunctionEnv (fun y hy => LC.nocell y hy) (fun y hy => absurd hy (by simp)) (fun h₁ hns hsb => ⟨nl.fresh _ hsb, ?_⟩) LC.kind)
      have J := lam_startC (E := E) (f := f) (c' := c') (tk := s.toks + ([] : List (Str × Value)).length) ok len LC e0 hr.hd hc hns fun b o e => hsb.extBut b o (Nat.ne_of_lt (Heap.lt_size e)) (Heap.get?_push_of_some _ e)
      refine PySem.W.kla_codeExpr (wpAny_mono ((hbody _ _ s H E f c' (hr.deeper _)).run [] _ _ H Q J ht) (fun v s' hq => ?_) fun e s' hq => hq)
      obtain ⟨w', H', J', rv, q⟩ := hq
      exact ⟨w', H', J'.os, J'.bare, J'.base, J'.hok, rv, q⟩
    | @dflt ya i j pi a hbind hd hkd => exact absurd (n0.symm.trans hd) (by simp)
  | @dflt c' T n0 h1 h3 h2 =>
    obtain ⟨⟨doc, pm, ctv, at_⟩, _, _⟩ := e0.hok f _ h1
    obtain ⟨⟨ud, atT⟩, _, _⟩ := e0.hok T _ h3
    obtain ⟨⟨oc, vs, t, hoc, hdc, hvc⟩, _, _⟩ := e0.hok c' _ h2
    refine ⟨⟨_, _, _, _, at_⟩, ?_⟩
    cases hk with
    | plain a hbind _ hd => exact absurd hd n0
    | @dflt ya i j pi a hbind hd hkd =>
      refine PySem.W.kla_callFunE hr.depth at_ rfl LC.co LC.gen rfl ⟨c', oc, vs, t, rfl, hoc, hdc, hvc⟩ ?_
      obtain ⟨k', b1, b2⟩ := hbind (X.env.qual ++ "<lambda>") (cloFrom X.env.cells scope.names []) T doc pm (.ref c') ctv ud
      refine BindsTo.of_defaults (fd := PySem.W.kdv_fn "<lambda>" (X.env.qual ++ "<lambda>") params (.expr body) scope (cloFrom X.env.cells scope.names []) (.ref T) doc pm (.ref c') ctv) rfl atT rfl b1 b2 _ _ _ _ ?_
      refine wpAny_newFunctionEnv (fun y hy => LC.nocell y hy) (fun y hy => ?_) (fun h₁ hns hsb => ⟨nl.fresh _ hsb, ?_⟩) LC.kind
      · rw [List.mem_singleton.mp hy]
        exact a.par
      have J := lam_startC (E := E) (f := f) (c' := c') (tk := s.toks + ([(ya, ud)] : List (Str × Value)).length) ok len LC e0 hr.hd hc hns fun b o e => hsb.extBut b o (Nat.ne_of_lt (Heap.lt_size e)) (Heap.get?_push_of_some _ e)
      refine PySem.W.kla_codeExpr (wpAny_mono ((hbody _ _ s H E f c' (hr.deeper _)).run [] _ _ H Q J ht) (fun v s' hq => ?_) fun e s' hq => hq)
      obtain ⟨w', H', J', rv, q⟩ := hq
      exact ⟨w', H', J'.os, J'.bare, J'.base, J'.hok, rv, q⟩
end
end Eng
namespace Eng
open PySem PySem.Spec PyProof.Rows L2
/-- the lambdas of a context, with what their bodies read as -/
def LBs (X : Cx) (k : Nat) (bs : List (Lmb × (XK → TE))) : Prop := ∀ p ∈ bs, p.1.q = X.env.qual ++ "<lambda>" ∧ LmbK X.N X.env.scope p.1 ∧
  ∀ (A : Around) (outer : List Env) (s : Shared) (H : Hp) (E : XK) (f c' : Addr), Room k (A.deeper (LamX.lamEnv X p.1.scope s.heap.objs.size f c')) → PE (LamX.lamCx X A outer s H E p.1.scope f c') p.1.body (p.2 E)
theorem lbs_nil {X : Cx} {k : Nat} : LBs X k [] := fun _ h => nomatch h
theorem lbs_cons {X : Cx} {k : Nat} {L : Lmb} {tb : XK → TE} {bs : List (Lmb × (XK → TE))} (h1 : L.q = X.env.qual ++ "<lambda>") (h2 : LmbK X.N X.env.scope L)
    (h3 : ∀ (A : Around) (outer : List Env) (s : Shared) (H : Hp) (E : XK) (f c' : Addr), Room k (A.deeper (LamX.lamEnv X L.scope s.heap.objs.size f c')) → PE (LamX.lamCx X A outer s H E L.scope f c') L.body (tb E)) (h : LBs X k bs) : LBs X k ((L, tb) :: bs) := fun p hp => by
  rcases List.mem_cons.mp hp with rfl | hp
  · exact ⟨h1, h2, h3⟩
  · exact h p hp
def asksX (cl : List (Str × Addr)) (bs : List (Lmb × (XK → TE))) (σ : L2.St) : Asks := fun f E H Q => ∃ (j : Nat) (L : Lmb) (tb : XK → TE), bs[j]? = some (L, tb) ∧ IsClo H f L (cloFrom cl L.scope.names []) ∧ tb E σ H Q
theorem acts_X {X : Cx} {k : Nat} {σ : L2.St} {bs : List (Lmb × (XK → TE))} (ok : X.Ok) (len : σ.length = X.N.length) (h : LBs X k bs) : ActsOk X.prog X.w X.K X.mg X.base (k + 1) (thX X σ) (asksX X.env.cells bs σ) := by
  intro f E H Q A outer s hr e0 hc ⟨j, L, tb, hj, hf, ht⟩
  obtain ⟨h1, h2, h3⟩ := h _ (List.mem_of_getElem? hj)
  exact clo_run ok len h1 h2 hr e0 hc hf h3 ht
/-- x(), x a name that holds a closure -/
def tAsk (asks : Asks) (W : WX) (i : Nat) : TE := fun σ H Q => ∃ f, σ[i]? = some (some (.ref f)) ∧ asks f (WE W σ) H Q
theorem pe_ask {Z : Cx} {W : WX} {k i : Nat} {θ : Th} {asks : Asks} {a : Str} {p1 p2 : Pos} (AO : ActsOk Z.prog Z.w Z.K Z.mg Z.base k θ asks) (B : Bears θ Z) (hr : Room k Z.A) (tk : Takes Z W) (hN : Z.N[i]? = some a) (hv : Vis Z.env.scope a)
    (hd : (a == ("__debug__" : Str)) = false := by decide) (hcd : (a == ("__classdict__" : Str)) = false := by decide) : PE Z (.Call (.Name a p1) [] [] p2) (tAsk asks W i) := by
  refine ⟨fun pins s σ H Q I h => ?_⟩
  obtain ⟨f, hs, h⟩ := h
  refine wpAny_Call_Name_kw (thn ((pe_var (pos := p1) (i := i) hN hv hd hcd).run pins s σ H (fun v H1 => v = .ref f ∧ H1 = H) I ⟨.ref f, hs, rfl, rfl⟩) fun u s1 ⟨v, H1, I1, r1, q1⟩ => ?_)
  obtain ⟨rfl, rfl⟩ := q1
  obtain rfl : u = Value.ref f := r1
  obtain ⟨fn, run⟩ := AO f (WE W σ) _ Q Z.A Z.stack s1 hr I1.env0 (B.here I1) h
  refine PySem.W.callWith_F0 fn (wpAny_call (codeAny_mono run fun r s' hq => ?_))
  cases r with
  | error e => exact passAt tk σ _ _ _ e s' I1 hq
  | ok fl =>
    cases fl with
    | ret u => exact I1.after hq
    | next => exact False.elim hq
    | brk => exact False.elim hq
    | cont => exact False.elim hq
structure FnA (P : Program) (w : World) (K : PySem.W.Frag) (mg : Str → Option Value) (base : Heap) (k kA : Nat) (f : Addr) (fd : FuncData) (ps : List Str) (sp : Asks → Sp) : Prop where
  len : ∀ asks vs H Q E, sp asks vs H Q E → vs.length = ps.length
  run : ∀ (θ : Th) (asks : Asks), ActsOk P w K mg base kA θ asks → ∀ (A : Around) (outer : List Env) (s : Shared) (H : Hp) (args : Args) (us : List Value) (vs : List V) (Q : VK) (E : XK), Room k A → Env0 P w K mg base A outer s H → CellsAt θ H s.heap → BindsTo s fd args (ps.zip us) → Vals vs us → sp asks vs H Q E →
    codeAny (model P w) A (.call (.ref f) args) (CR CX0 outer P w H s Q E) s
theorem FnA.of {P : Program} {w : World} {K : PySem.W.Frag} {mg : Str → Option Value} {base : Heap} {x qual : Str} {st : Stmt} {f : Addr} {fd : FuncData} {N ps : List Str} {k kA : Nat} {sp : Asks → Sp} (F : Fun K x qual st f fd) (S : FnScope N ps (defScope st)) (len : ∀ asks vs H Q E, sp asks vs H Q E → vs.length = ps.length)
    (hbody : ∀ (cdv : Value) (θ : Th) (asks : Asks) (A : Around) (outer : List Env) (s : Shared) (H : Hp) (vs : List V) (Q : VK) (E : XK), ActsOk P w K mg base kA θ asks → Bears θ (cxOf CX0 P w K mg base N qual (defScope st) f cdv A outer s H E) → Room k (A.deeper (envOfC qual (defScope st) s.heap.objs.size f cdv)) → sp asks vs H Q E →
      ∃ t, PSs (cxOf CX0 P w K mg base N qual (defScope st) f cdv A outer s H E).nox (defBody st) t ∧ t { nx := fun _ H' => Q .non H', rt := Q } (L2.start N vs) H) : FnA P w K mg base (k + 1) kA f fd ps sp := by
  obtain ⟨oc, od, kV, doc, pm, an, cdv, ct, osl, rfl, lk, hcd⟩ := F.ex
  refine ⟨len, fun θ asks AO A outer s H args us vs Q E hr e0 hc hb r h => ?_⟩
  refine LamX.run_ofS lk hcd S hr e0 hb r (len asks _ _ _ _ h) fun hr' => ?_
  obtain ⟨t, ht, hq⟩ := hbody cdv θ asks A outer s H vs Q E AO ⟨hc, fun c _ z => nomatch (show c ∈ ([] : List Addr) from z)⟩ hr' h
  exact ⟨t, ht.nox, hq⟩
theorem FnA.mono {P : Program} {w : World} {K : PySem.W.Frag} {mg : Str → Option Value} {base : Heap} {j k kA : Nat} {f : Addr} {fd : FuncData} {ps : List Str} {sp : Asks → Sp} (F : FnA P w K mg base j kA f fd ps sp) (h : j ≤ k) : FnA P w K mg base k kA f fd ps sp :=
  ⟨F.len, fun θ asks AO A outer s H args us vs Q E hr => F.run θ asks AO A outer s H args us vs Q E (hr.mono h)⟩
section
variable {X : Cx} {k kA kb : Nat} {f : Addr} {fd : FuncData} {ps : List Str} {sp : Asks → Sp} {θ : Th} {asks : Asks} {x : Str} {e : Expr} {es : List Expr} {t : TA} {p pos : Pos} {bs : List (Lmb × (XK → TE))}
theorem run_fnA {pins : List (Addr × Obj)} {σ : L2.St} {H : Hp} {s : Shared} {Q : VK} {us : List Value} {vs : List V} (F : FnA X.prog X.w X.K X.mg X.base k kA f fd ps sp) (AO : ActsOk X.prog X.w X.K X.mg X.base kA θ asks) (hr : Room k X.A) (hb : Binds X.K fd ps [])
    (I : Inv X pins σ H s) (hc : CellsAt θ H s.heap) (r : Vals vs us) (h : sp asks vs H Q E0) : wpAny (model X.prog X.w) X.A (call (.ref f) us) (EP X pins σ Q) X.xe s := by
  have hl : us.length = ps.length := by rw [← r.length]; exact F.len _ _ _ _ _ h
  have b := hb s us I.kIn (by rw [List.append_nil]; exact hl)
  rw [List.append_nil] at b
  refine wpAny_call (codeAny_mono (F.run θ asks AO X.A X.stack s H ⟨us, []⟩ us vs Q E0 hr I.env0 hc b r h) fun r s' hq => ?_)
  cases r with
  | error e => exact False.elim hq
  | ok fl =>
    cases fl with
    | ret u => exact I.after hq
    | next => exact False.elim hq
    | brk => exact False.elim hq
    | cont => exact False.elim hq
/-- f(.., x ..), x a closure that came from outside -/
theorem pe_cloA (F : FnA X.prog X.w X.K X.mg X.base k kA f fd ps sp) (AO : ActsOk X.prog X.w X.K X.mg X.base kA θ asks) (B : Bears θ X) (hr : Room k X.A) (hg : Gl X x) (hm : X.mg x = some (.ref f)) (hk : PySem.W.keepIn X.K (.ref f) = true) (hb : Binds X.K fd ps []) (ha : PA X (e :: es) t)
    (hdb : (x == ("__debug__" : Str)) = false := by decide) (he : starEach (e :: es) X.env = (false, eval e X.env) :: starEach es X.env := by rfl) (hpl : (backTo pos (starEach es X.env)).any (·.1) = false := by rfl) :
    PE X (.Call (.Name x p) (e :: es) [] pos) (tCall (sp asks) [] E0 t) := by
  refine ⟨fun pins s σ H Q I h => ?_⟩
  refine wpAny_Call_Name_kw (ld_glob I hg hm ?_ hdb)
  refine PySem.W.callWith_K (h₀ := X.base) I.ok.mod.kin hk (thn (ha.run pos pins s σ H _ I h) fun us s1 ⟨vs, H1, I1, r, q⟩ => ⟨I1.kIn, ?_⟩) he hpl
  refine run_fnA F AO hr hb I1 (B.here I1) r ?_
  have q : sp asks (vs ++ []) H1 Q E0 := q
  rw [List.append_nil] at q
  exact q
/-- .., x one of this context's own -/
def tCloM (sp : Asks → Sp) (cl : List (Str × Addr)) (bs : List (Lmb × (XK → TE))) (t : TA) : TE := fun σ H Q => t σ H fun vs H1 => sp (asksX cl bs σ) vs H1 Q E0
theorem pe_cloM (F : FnA X.prog X.w X.K X.mg X.base k (kb + 1) f fd ps sp) (LB : LBs X kb bs) (hr : Room k X.A) (hg : Gl X x) (hm : X.mg x = some (.ref f)) (hk : PySem.W.keepIn X.K (.ref f) = true) (hb : Binds X.K fd ps []) (ha : PA X (e :: es) t)
    (hdb : (x == ("__debug__" : Str)) = false := by decide) (he : starEach (e :: es) X.env = (false, eval e X.env) :: starEach es X.env := by rfl) (hpl : (backTo pos (starEach es X.env)).any (·.1) = false := by rfl) :
    PE X (.Call (.Name x p) (e :: es) [] pos) (tCloM sp X.env.cells bs t) := by
  refine ⟨fun pins s σ H Q I h => ?_⟩
  refine wpAny_Call_Name_kw (ld_glob I hg hm ?_ hdb)
  refine PySem.W.callWith_K (h₀ := X.base) I.ok.mod.kin hk (thn (ha.run pos pins s σ H _ I h) fun us s1 ⟨vs, H1, I1, r, q⟩ => ⟨I1.kIn, ?_⟩) he hpl
  exact run_fnA F (acts_X I1.ok I1.len LB) hr hb I1 (inv_cells I1) r q
end
section
variable {X : Cx} {elt tg iter : Expr} {ifs : List Expr} {scope : Scope} {own : List (Str × Nat)} {pos : Pos} {wi : TI} {g : TG} {tt : L2.St → TT}
/-- the reading of the item may look at what stood at the entry -/
def tLcE (wi : TI) (g : TG) (tt : L2.St → TT) (te : L2.St → TE) (vs : List Nat) : TE := fun σ H Q => tLc wi g (tt σ) (te σ) vs σ H Q
/-- the iterator's own objects -/
def FpIn (X : Cx) (pins : List (Addr × Obj)) (H : Hp) (h : Heap) (fp : List Addr) : Prop := ∀ b ∈ fp, FpOk X pins H b ∧ ∃ o, h.get? b = some o ∧ ∀ v, o.data ≠ .cell v
theorem bears_own {pins : List (Addr × Obj)} {σ : L2.St} {H : Hp} {s : Shared} {ce : Env} {fp : List Addr} (I : Inv X pins σ H s) (hf : FpIn X pins H s.heap fp) : Bears (thX X σ) (X.blk s H scope ce fp) :=
  ⟨inv_cells I, fun c ⟨y, hy⟩ hb => (hf c hb).1.2.2.2.2.1 y c hy rfl⟩
theorem pe_lcE {te : L2.St → TE} (hc : X.calm = true) (hN : X.N.Nodup) (hi : PI X tg iter wi) (ok : BlkOk X.N X.env.scope scope own)
    (hg : ∀ (s : Shared) (H : Hp) (C : Addr) (cl : List (Str × Addr)) (fp : List Addr), PG (X.blk s H scope (compEnvC scope cl C X.env) fp) tg g) (ht : ∀ (pins : List (Addr × Obj)) (σ : L2.St) (s : Shared) (H : Hp) (C : Addr) (cl : List (Str × Addr)) (fp : List Addr), Inv X pins σ H s → FpIn X pins H s.heap fp → PTs (X.blk s H scope (compEnvC scope cl C X.env) fp) ifs (tt σ))
    (he : ∀ (pins : List (Addr × Obj)) (σ : L2.St) (s : Shared) (H : Hp) (C : Addr) (cl : List (Str × Addr)) (fp : List Addr), Inv X pins σ H s → FpIn X pins H s.heap fp → PE (X.blk s H scope (compEnvC scope cl C X.env) fp) elt (te σ)) (hs : ∀ x, foldedSetIterable iter X.env x = pure x := by intro _; rfl) :
    PE X (.ListComp elt [⟨tg, iter, ifs, 0⟩] scope pos) (tLcE wi g tt te (own.map (·.2))) := by
  refine ⟨fun pins s σ H Q I h => ?_⟩
  rw [eval_ListComp]
  have caught : ∀ y ∈ scope.names, y.2 = .free → ∃ c, X.env.cells.lookup y.1 = some c := fun y hy e => (ok.free y hy e).elim (fun k => I.ok.has _ (.inl k)) fun k => I.ok.has _ (.inr k)
  refine wpAny_comprehension_free (use := none) rfl hs (closure_ok caught) ok.kind (fun y hy e => by rw [ok.uniq y hy, e]) (thn (hi.run pins s σ H _ I h) fun _ _ z => thn z fun _ s2 z2 => ?_)
  obtain ⟨it, fp, tn, J, H2, rfl, I2, T, t2, f2, q⟩ := z2
  refine wpAny_newObj_type (newEnv_comp ?_) (by show 0 ≤ sizeLine; decide)
  generalize eD : s2.heap.objs.size = D
  obtain ⟨Wn, ⟨m0, first⟩, turn⟩ := q D (I2.hok.fresh (Nat.le_of_eq eD))
  generalize eS : ({ s2 with heap := s2.heap.push { cls := .type "list", data := .seq ([] : List Value).toArray } } : Shared) = sB
  have grown : ∀ b o, s2.heap.get? b = some o → sB.heap.get? b = some o := fun b o e => by rw [← eS]; exact Heap.get?_push_of_some _ e
  have size : sB.heap.objs.size = s2.heap.objs.size + 1 := by rw [← eS]; exact Heap.size_push _ _
  have IB : Inv X pins σ (upd H2 D (.lst [])) sB := by
    have z := Heap.get?_push_size s2.heap (o := { cls := .type "list", data := .seq ([] : List Value).toArray }) rfl
    rw [eD] at z
    subst eS
    exact I2.laid (t' := s2.toks) (fun b o e => Heap.get?_push_of_some _ e) (Nat.le_of_eq eD) ⟨Nat.zero_le _, [], 0, .nil, z⟩
  have small : ∀ b ∈ fp, b < s2.heap.objs.size := fun b hb => (T.obj _ _ t2 b hb).elim fun o e => Heap.lt_size e.1
  have fB : ∀ b ∈ fp, FpOk X pins (upd H2 D (.lst [])) b ∧ b < sB.heap.objs.size := fun b hb =>
    ⟨⟨by rw [upd_ne (Nat.ne_of_lt (eD ▸ small b hb))]; exact (f2 b hb).1, (f2 b hb).2⟩, by rw [size]; exact Nat.lt_succ_of_lt (small b hb)⟩
  have tB : tn 0 sB.heap := T.keep _ _ _ t2 fun b _ o e => grown b o e
  have J0 := block_start IB ok hN fB
  have oB : FpIn X pins (upd H2 D (.lst [])) sB.heap fp := fun b hb => ⟨(fB b hb).1, T.obj _ _ tB b hb⟩
  show codeAny _ _ (.compStart (.ListComp elt [⟨tg, iter, ifs, 0⟩] scope pos) 0 (.ref it) (.ref D) (compEnvC scope (cellsFrom (sB.heap.objs.size + 1) scope.names (cloFrom X.env.cells scope.names [])) sB.heap.objs.size X.env)) (compPost (model X.prog X.w) X.A X.xe none (EP X pins σ Q) (.ref D) sB.heap.objs.size) { sB with heap := pushCells (sB.heap.push { cls := .type "dict", data := .dict #[] }) scope.names }
  generalize eCl : cellsFrom (sB.heap.objs.size + 1) scope.names (cloFrom X.env.cells scope.names []) = cl at J0 ⊢
  have rg := hg sB (upd H2 D (.lst [])) sB.heap.objs.size cl fp
  have rt := ht pins σ sB (upd H2 D (.lst [])) sB.heap.objs.size cl fp IB oB
  have re := he pins σ sB (upd H2 D (.lst [])) sB.heap.objs.size cl fp IB oB
  have loc0 : (compEnvC scope cl sB.heap.objs.size X.env).locals = sB.heap.objs.size := rfl
  generalize compEnvC scope cl sB.heap.objs.size X.env = ce at J0 rg rt re loc0 ⊢
  generalize eH : upd H2 D (.lst []) = HB at IB J0 rg rt re first fB oB
  have off0 : ∀ b ∈ fp, HB b = none := fun b hb => (fB b hb).1.1
  generalize eS4 : ({ sB with heap := pushCells (sB.heap.push { cls := .type "dict", data := .dict #[] }) scope.names } : Shared) = sC at J0 ⊢
  have tC : tn 0 sC.heap := T.keep _ _ _ tB fun b _ o e => by rw [← eS4]; exact pushCells_keeps _ _ _ _ (Heap.get?_push_of_some _ e)
  have stay : ∀ {σ' : L2.St} {H' : Hp} {s' : Shared}, Inv (X.blk sB HB scope ce fp) [] σ' H' s' → (∀ b ∈ fp, H' b = none) → ∀ b ∈ fp, FpOk (X.blk sB HB scope ce fp) [] H' b := fun {σ' H' s'} J' n b hb =>
    ⟨n b hb, (J'.ok.exf b hb).1, J'.ok.exfs b hb, .inl hb, fun y c e => (J'.ok.exf b hb).2 y c e, fun p hp => nomatch (show p ∈ ([] : List (Addr × Obj)) from hp)⟩
  have loop : codeAny (model X.prog X.w) X.A (.compLoop (.ListComp elt [⟨tg, iter, ifs, 0⟩] scope pos) 0 (.ref it) (.ref D) ce) (compPost (model X.prog X.w) X.A X.xe none (EP X pins σ Q) (.ref D) sB.heap.objs.size) sC := by
    refine compLoop_any (fun n s' => ∃ i H', Inv (X.blk sB HB scope ce fp) [] (wipe σ (own.map (·.2))) H' s' ∧ tn i s'.heap ∧ (∀ b ∈ fp, H' b = none) ∧ Wn i n H') ?_ m0 ⟨0, HB, J0, tC, off0, first⟩
    rintro n s5 ⟨i, H5, I5, t5, o5, w5⟩
    rcases turn i n H5 w5 with ⟨stop, qq⟩ | ⟨more, Nx, less, step⟩
    · refine thnF (T.done (X.blk sB HB scope ce fp) rfl rfl rfl hc i [] s5 _ H5 (fun _ _ => False) I5 (stay I5 o5) t5 stop) fun r s6 ⟨er, I6⟩ => ?_
      subst er
      have I7 : Inv X pins σ H5 s6 := IB.call' (ch := fp) I6.os I6.base I6.hok I6.bare fun b hb => ⟨(fB b hb).1.2.2.2.1, (fB b hb).1.2.1, (fB b hb).1.2.2.2.2.1, (fB b hb).1.2.2.2.2.2⟩
      have offC : H5 sB.heap.objs.size = none := loc0 ▸ I6.free
      obtain ⟨m, hn, _⟩ := I6.loc
      have hn : s6.heap.Ns ce.locals m := hn
      rw [loc0] at hn
      obtain ⟨g0, g1, g2, g3, g4, g5⟩ := IB.fpOk (Nat.le_refl _) offC
      exact ⟨m, hn, fun h'' sb => ⟨.ref D, H5, I7.turned (t' := s6.toks) (fun b o hb e => (sb.2 b hb).trans e) g0 g1 g3 g4 g5, rfl, qq⟩⟩
    · refine thnF (T.item (X.blk sB HB scope ce fp) rfl rfl rfl hc i [] s5 _ H5 (fun _ _ => False) I5 (stay I5 o5) t5 more) fun r s6 ⟨u, er, z6⟩ => ?_
      subst er
      refine thnF z6 fun _ s7 ⟨x, H7, I7, r7, y7, t7, o7⟩ => ?_
      refine thnF (rg.run _ s7 _ H7 x u _ (I7.pinned (stay I7 o7) (T.obj _ _ t7)) r7 (step x H7 y7)) fun _ s8 ⟨σ8, H8, I8, e8, q8⟩ => ?_
      refine thnF (rt.run _ s8 σ8 H8 _ I8 q8) fun b s9 ⟨H9, I9, q9⟩ => ?_
      have again : ∀ {s' : Shared} {H' : Hp}, Inv (X.blk sB HB scope ce fp) ([] ++ pinsAt fp s7.heap) σ8 H' s' → Nx H' → ∃ m, m < n ∧ ∃ i H', Inv (X.blk sB HB scope ce fp) [] (wipe σ (own.map (·.2))) H' s' ∧ tn i s'.heap ∧ (∀ b ∈ fp, H' b = none) ∧ Wn i m H' := fun {s' H'} K nx => by
        obtain ⟨m', lt, w'⟩ := less H' nx
        have stood : ∀ b ∈ fp, ∀ o, s7.heap.get? b = some o → s'.heap.get? b = some o ∧ H' b = none := fun b hb o e =>
          (K.pin (b, o) (List.mem_append_right _ (List.mem_append_right _ (mem_pinsAt hb e)))).imp id And.left
        refine ⟨m', lt, i + 1, H', (K.unpinned (pins := [])).weak (by rw [← wipe_length σ8 (own.map (·.2)), e8]) (fun j v z => ?_), T.keep _ _ _ t7 fun b hb o e => (stood b hb o e).1, fun b hb => ?_, w'⟩
        · rw [← e8] at z
          exact (wipe_some z).1
        · obtain ⟨o, e, _⟩ := T.obj _ _ t7 b hb
          exact (stood b hb o e).2
      cases b with
      | false =>
        simp only [Bool.false_eq_true, if_false] at q9 ⊢
        exact again I9 q9
      | true =>
        simp only [if_true] at q9 ⊢
        refine thnF (re.run _ s9 σ8 H9 _ I9 q9) fun z s10 ⟨yv, H10, I10, r10, acc, hD, room, nx⟩ => ?_
        exact app_ok (X := X.blk sB HB scope ce fp) I10 hD room r10 fun s11 I11 => again I11 nx
  exact codeAny_compStart_list loop (T.self X.A 0 _ _ _ tC loop)
end
end Eng
namespace Eng
open PySem PySem.Spec PyProof.Rows L2
/-- a clause: its class, the slot of its name, its suite -/
structure Cla where
  c : Value
  i : Option Nat
  ts : Addr → Value → Option Addr → TS
/-- the suite's ends: the clause's name goes -/
def outA (D : Ends) : Option Nat → Ends
  | none => D
  | some i => ⟨fun σ H => D.nx (σ.set i none) H, D.rt, fun σ H => D.bk (σ.set i none) H, fun σ H => D.ct (σ.set i none) H⟩
def inA (a : Addr) (σ : L2.St) : Option Nat → L2.St
  | none => σ
  | some i => σ.set i (some (.ref a))
/-- what the clauses wish of an error -/
def wCla (K : PySem.W.Frag) (Wout : WX) (D : Ends) : List Cla → WX
  | [] => Wout
  | q :: r => fun cls d σ H => ∃ b, PySem.W.exmOne K cls q.c = some b ∧ (b = true → ∀ a, H a = none → q.ts a cls d (outA D q.i) (inA a σ q.i) H) ∧ (b = false → wCla K Wout D r cls d σ H)
inductive ClaOk (X : Cx) : List ExceptHandler → List Cla → Prop
  | nil : ClaOk X [] []
  | bare {x : Str} {c : Value} {ts : Addr → Value → Option Addr → TS} {b₀ : Stmt} {su : List Stmt} {np hp : Pos} {hds : List ExceptHandler} {l : List Cla} (hc : Names X x c)
      (hsu : ∀ (a : Addr) (oe : Obj) (cls : Value) (d : Option Addr) (pn : List (Addr × Obj)), Zc cls d oe → (∃ vs, oe.data = .fields vs) → PSs (X.suite a ((a, oe) :: pn)) (b₀ :: su) (ts a cls d)) (r : ClaOk X hds l) :
      ClaOk X (.ExceptHandler (some (.Name x np)) none (b₀ :: su) hp :: hds) (⟨c, none, ts⟩ :: l)
  | named {x n : Str} {i : Nat} {c : Value} {ts : Addr → Value → Option Addr → TS} {b₀ : Stmt} {su : List Stmt} {np hp : Pos} {hds : List ExceptHandler} {l : List Cla} (hN : X.N.Nodup) (hi : X.N[i]? = some n) (hln : X.env.kindOf n = some .local) (hc : Names X x c)
      (hsu : ∀ (a : Addr) (oe : Obj) (cls : Value) (d : Option Addr) (pn : List (Addr × Obj)), Zc cls d oe → (∃ vs, oe.data = .fields vs) → PSs (X.suite a ((a, oe) :: pn)) (b₀ :: su) (ts a cls d)) (r : ClaOk X hds l) :
      ClaOk X (.ExceptHandler (some (.Name x np)) (some n) (b₀ :: su) hp :: hds) (⟨c, some i, ts⟩ :: l)
section
variable {X : Cx} {body : List Stmt} {h₀ : ExceptHandler} {hds : List ExceptHandler} {l : List Cla} {pos : Pos} {tb : WX → TS} {Wout : WX}
theorem ps_tryM (hs : X.stack = X.env :: X.outer) (hf : X.env.frame = some X.env.locals) (tk : Takes X Wout)
    (hb : ∀ (W : WX) (pn : List (Addr × Obj)) (xe : Value → Shared → Prop), Takes (X.tr pn xe) W → PassesOwn (model X.prog X.w) X.A X.env xe → PSs (X.tr pn xe) body (tb W))
    (hh : ClaOk X (h₀ :: hds) l) : PS X (.Try body (h₀ :: hds) [] [] pos) (fun D σ H => tb (wCla X.K Wout D l) D σ H) := by
  refine ⟨fun pins s σ H D I h => ?_⟩
  have ok := I.ok
  have fr : X.A.frames = some (X.env :: X.outer) := by rw [ok.frames, hs]
  refine wpAny_Try_except ?_
  have run := (hb (wCla X.K Wout D l) (X.pn ++ pins) (fun e s₁ => wpAny (model X.prog X.w) X.A (noteFrame e X.env) (fun _ s₂ => wpAny (model X.prog X.w) X.A (setFlight e none) (fun _ s₃ => wpAny (model X.prog X.w) X.A (handleBy e X.env (h₀ :: hds)) (SP X pins D) X.xe s₃) X.xe s₂) X.xe s₁) (fun u sF caught => ?_) PassesOwn.looking).run [] s σ H D (I.toTry _) h
  · refine wpAny_mono run (fun f s1 sp => ?_) (fun _ _ z => z)
    cases f with
    | next =>
      obtain ⟨_, _, J, q⟩ := sp
      exact wpAny_execs_nil ⟨_, _, J.ofTry ok, q⟩
    | brk =>
      obtain ⟨_, _, J, q⟩ := sp
      exact ⟨_, _, J.ofTry ok, q⟩
    | cont =>
      obtain ⟨_, _, J, q⟩ := sp
      exact ⟨_, _, J.ofTry ok, q⟩
    | ret u =>
      obtain ⟨_, _, _, J, r, q⟩ := sp
      exact ⟨_, _, _, J.ofTry ok, r, q⟩
  obtain ⟨a, B, sI, _, σF, HF, cls, d, rfl, JF, below, up0, sky, noA, same, bare, wish⟩ := caught
  have J : Inv X pins σF HF sI := JF.ofTry ok
  rw [hs] at sky
  show wpAny (model X.prog X.w) X.A (noteFrame (.ref a) X.env) _ _ _
  refine Sky.land Zc.steady fr hf sky fun hL fly up1 => ?_
  have JL : Inv X pins σF HF { sF with heap := hL } := J.landed below fly.1 (up0.trans up1) same bare
  obtain ⟨oL, vL, atL, zL, dL⟩ := fly.there
  have out : a ∉ frs (X.env :: X.outer) := fun hm => by
    obtain ⟨_, o, e, no⟩ := fly.2.2.1.mem hm
    rw [atL] at e
    cases e
    exact no _ dL
  have nL : a ≠ X.env.locals := fun z => out (List.mem_filterMap.mpr ⟨X.env, List.mem_cons_self, by rw [hf, z]⟩)
  have nF : a ∉ X.fs := fun hm => (List.mem_filterMap.mp hm).elim fun e z => out (List.mem_filterMap.mpr ⟨e, List.mem_cons_of_mem _ z.1, z.2⟩)
  have SL := JL.suite atL dL noA nL nF
  have ty : PySem.W.Looks (model X.prog X.w) hL (typeOf (.ref a)) cls := fun _ _ _ _ k q => wpAny_typeOf_ref (k _ _ atL) (by rw [zL.1]; exact q)
  have name : ∀ {x : Str} {c : Value} {np : Pos}, Names X x c → ∀ {Q : Value → Shared → Prop} {E : Value → Shared → Prop}, Q c { sF with heap := hL } → wpAny (model X.prog X.w) (X.A.mark (some (.ref a))) (eval (.Name x np) X.env) Q E { sF with heap := hL } := fun {x c np} hc {Q E} q => by
    obtain ⟨hg, hdbg, hm | ⟨hm, hv, hnn⟩⟩ := hc
    · exact ld_glob (X := X.suite a ((a, oL) :: (X.pn ++ pins))) SL hg hm q hdbg
    · exact ld_blt (X := X.suite a ((a, oL) :: (X.pn ++ pins))) SL hg hm hv q hnn hdbg
  have chain : ∀ {hs' : List ExceptHandler} {l' : List Cla}, ClaOk X hs' l' → wCla X.K Wout D l' cls d σF HF → wpAny (model X.prog X.w) X.A (handleBy (.ref a) X.env hs') (SP X pins D) X.xe { sF with heap := hL } := by
    intro hs' l' all
    induction all with
    | nil =>
      intro w
      refine wpAny_handleBy_nil ?_
      obtain ⟨k1, k2, k3, oe, vs, T, oT, ts', he, hz, hd, h1, hr⟩ := id fly
      unfold PySem.passOn
      refine wpAny_bind (wpAny_field he hd h1 ?_)
      rw [if_neg (show ¬ ((Value.ref T == Value.none) = true) from by simp)]
      have on : wpAny (model X.prog X.w) X.A (setFlight (.ref a) X.env.frame) (fun _ s4 => wpAny (model X.prog X.w) X.A (throw (.ref a) : Sem Flow) (SP X pins D) X.xe s4) X.xe { sF with heap := hL } := by
        rw [hf]
        exact HandSPX.setFlight_upZ fly fun h4 fly4 up4 => wpAny_throw (tk _ _ ⟨a, B, sI, pins, σF, HF, cls, d, rfl, J, below, (up0.trans up1).trans up4, .inr (.inr (by rw [hs]; exact fly4)), noA, same, bare, w⟩)
      first
        | exact wpAny_bind (wpAny_pure (wpAny_bind on))
        | exact wpAny_bind on
    | bare hc hsu r ih =>
      intro w
      obtain ⟨b, eb, yes, no⟩ := w
      refine wpAny_handleBy_cons (codeAny_handlers_test ?_) (by intro q; cases q)
      refine name hc ((PySem.W.exm_one (M := model X.prog X.w) JL.kIn ty eb).here ?_)
      cases b with
      | false => exact ih (no rfl)
      | true =>
        refine codeAny_handlers_suite ?_
        refine HandSPX.lands_againZ fly fun h4 fly4 up4 => ?_
        obtain ⟨o4, v4, at4, z4, d4⟩ := fly4.there
        have J4 : Inv X pins σF HF { sF with heap := h4 } := J.landed below fly4.1 ((up0.trans up1).trans up4) same bare
        have S4 := J4.suite at4 d4 noA nL nF
        refine wpAny_mono ((hsu a o4 cls d (X.pn ++ pins) z4 ⟨_, d4⟩).run [] _ _ HF _ S4 (yes rfl a noA)) (fun f s6 sp => ?_) (fun _ _ z => False.elim z)
        cases f with
        | next => obtain ⟨_, _, S6, q⟩ := sp; exact ⟨_, _, S6.unsuite ok, q⟩
        | brk => obtain ⟨_, _, S6, q⟩ := sp; exact ⟨_, _, S6.unsuite ok, q⟩
        | cont => obtain ⟨_, _, S6, q⟩ := sp; exact ⟨_, _, S6.unsuite ok, q⟩
        | ret u => obtain ⟨_, _, _, S6, r6, q⟩ := sp; exact ⟨_, _, _, S6.unsuite ok, r6, q⟩
    | @named x n i c ts b₀ su np hp hds l hN hi hln hc hsu r ih =>
      intro w
      obtain ⟨b, eb, yes, no⟩ := w
      refine wpAny_handleBy_cons (codeAny_handlers_test ?_) (by intro q; cases q)
      refine name hc ((PySem.W.exm_one (M := model X.prog X.w) JL.kIn ty eb).here ?_)
      cases b with
      | false => exact ih (no rfl)
      | true =>
        refine codeAny_handlers_suite_as ?_
        refine HandSPX.lands_againZ fly fun h4 fly4 up4 => ?_
        obtain ⟨o4, v4, at4, z4, d4⟩ := fly4.there
        have J4 : Inv X pins σF HF { sF with heap := h4 } := J.landed below fly4.1 ((up0.trans up1).trans up4) same bare
        have S4 := J4.suite at4 d4 noA nL nF
        refine store_ok (X := X.suite a ((a, o4) :: (X.pn ++ pins))) (v := .ref a) S4 hN hi (.inl hln) rfl (fun s5 S5 => ?_) (.inr hln)
        refine wpAny_mono ((hsu a o4 cls d (X.pn ++ pins) z4 ⟨_, d4⟩).run [] s5 _ HF _ S5 (yes rfl a noA)) (fun f s6 sp => ?_) (fun _ _ z => False.elim z)
        have gone : ∀ {σ6 : L2.St} {H6 : Hp} {R : Shared → Prop}, Inv (X.suite a ((a, o4) :: (X.pn ++ pins))) [] σ6 H6 s6 → (∀ s7, Inv X pins (σ6.set i none) H6 s7 → R s7) →
            wpAny (model X.prog X.w) X.A (do bindName X.env n .none; unbindBehindTheSuite X.env n hp) (fun _ s7 => R s7) X.xe s6 := fun S6 hq => gone_ok (S6.unsuite ok) hN hi hln hq
        cases f with
        | next => obtain ⟨_, _, S6, q⟩ := sp; exact gone S6 fun s7 J7 => ⟨_, _, J7, q⟩
        | brk => obtain ⟨_, _, S6, q⟩ := sp; exact gone S6 fun s7 J7 => ⟨_, _, J7, q⟩
        | cont => obtain ⟨_, _, S6, q⟩ := sp; exact gone S6 fun s7 J7 => ⟨_, _, J7, q⟩
        | ret u => obtain ⟨_, _, _, S6, r6, q⟩ := sp; exact gone S6 fun s7 J7 => ⟨_, _, _, J7, r6, q⟩
  exact chain hh wish
end
end Eng
namespace Eng
open PySem PySem.Spec PyProof.Rows L2
end Eng
namespace Eng
open PySem PySem.Spec PyProof.Rows L2
def IntEs : List DictEntry → List (Int × Int) → Prop
  | [], [] => True
  | e :: es, p :: ps => (∃ t u, e = ⟨hashInt p.1, .int p.1 t, .int p.2 u⟩) ∧ IntEs es ps
  | _, _ => False
theorem IntEs.keys : ∀ {es : List DictEntry} {ps : List (Int × Int)}, IntEs es ps → ∀ e ∈ es, ∃ k t, e.key = .int k t ∧ e.hash = hashInt k
  | e :: es, p :: ps, h, d, hd => by
    rcases List.mem_cons.mp hd with rfl | z
    · obtain ⟨t, u, rfl⟩ := h.1
      exact ⟨_, _, rfl, rfl⟩
    · exact h.2.keys d z
  | [], _, _, _, hd => nomatch hd
/-- the dict at a -/
structure CidAt (K : PySem.W.Frag) (a : Addr) (es : Array DictEntry) (n : Nat) (ps : List (Int × Int)) : Prop where
  at_ : K.lookup a = some ⟨.type "dict", none, .dict es n, #[]⟩
  low : (a == sysModules) = false
  ent : IntEs es.toList ps
section
variable {X : Cx} {a : Addr} {es : Array DictEntry} {n : Nat} {ps : List (Int × Int)}
theorem CidAt.map {K : PySem.W.Frag} {prog : Program} {w : World} {h : Heap} (D : CidAt K a es n ps) (I : K.In h) : h.MapOf (intKind prog w) a (fun k => findBy (intKind prog w).is es k) :=
  ⟨_, es, n, I _ _ D.at_, ⟨rfl, rfl, rfl⟩, rfl, fun e he => by
    obtain ⟨k, t, e1, e2⟩ := D.ent.keys e (Array.mem_toList_iff.mpr he)
    exact ⟨k, by rw [e1]; exact intKind_is prog w k t, e2⟩, fun _ => rfl⟩
end
end Eng
namespace Eng
open PySem PySem.Spec PySem.Calls PyProof.Rows L2 PySem.W
end Eng
namespace Eng
open PySem PySem.Spec PyProof.Rows L2
end Eng
namespace Eng
open PySem PySem.Spec PySem.Calls PyProof.Rows L2 PySem.W
end Eng
namespace Pu
open PySem L2 Eng
/-- what never changes (G); the machines (object, counts, walk); the sources of draws -/
structure Gh where
  G : Hp
  ms : List (Addr × Addr × Addr)
  ss : List Addr
  os : List Addr
  ts : List (Addr × Str)
structure Gh.le (g g' : Gh) : Prop where
  G : ∀ a o, g.G a = some o → g'.G a = some o
  ms : ∀ (i : Nat) q, g.ms[i]? = some q → g'.ms[i]? = some q
  ss : ∀ (i : Nat) q, g.ss[i]? = some q → g'.ss[i]? = some q
  os : ∀ (i : Nat) q, g.os[i]? = some q → g'.os[i]? = some q
  ts : g'.ts = g.ts
theorem Gh.le.refl (g : Gh) : g.le g := ⟨fun _ _ h => h, fun _ _ h => h, fun _ _ h => h, fun _ _ h => h, rfl⟩
theorem Gh.le.trans {a b d : Gh} (h : a.le b) (k : b.le d) : a.le d := ⟨fun x o z => k.G x o (h.G x o z), fun x o z => k.ms x o (h.ms x o z), fun x o z => k.ss x o (h.ss x o z), fun x o z => k.os x o (h.os x o z), k.ts.trans h.ts⟩
/-- data -/
inductive Dat where
  | non | bl (b : Bool) | int (n : Int) | str (s : Str) | tup (l : List Dat) | lst (l : List Dat) | cst (l : List Dat)
  | big (b : Nat) (n : Int) | mach (i : Nat) | src (i : Nat) | opq (v : V) | dic (l : List (Str × Int)) | ob (j : Nat) | fn (f : Addr) (g : Gh) | fnc (j : Nat)
/-- a list or a dict that may be changed, wherever it is held -/
inductive Obj where
  | lst (l : List Dat) | dic (l : List (Str × Int))
/-- a name's slot: nothing known, a value, a list that this name alone holds (made here, or the caller's) -/
inductive Slot where
  | no | val (d : Dat) | own (f : Bool) (l : List Dat)
  | ownT (l : List Dat) (r : List Dat)
abbrev Env := List Slot
structure Mach where
  b : Nat
  cut : Int
  ns : List Int
  walk : List (Str × Int × Int)
structure Wld where
  ms : List Mach
  ss : Nat
  os : List Obj
abbrev PQ := Dat → Env → Wld → Prop
abbrev PE := Env → Wld → PQ → Prop
abbrev PF := Env → Wld → (List Dat → Env → Wld → Prop) → Prop
abbrev PT := Env → Wld → (Bool → Env → Wld → Prop) → Prop
abbrev PA := Env → Wld → (List Dat → Env → Wld → Prop) → Prop
abbrev PO := Env → Wld → (Option Int → Env → Wld → Prop) → Prop
abbrev PG := Dat → Env → Wld → (Env → Wld → Prop) → Prop
abbrev PSp := List Dat → Wld → (Dat → Wld → Prop) → Prop
/-- with a list of the caller's that may be changed: the other arguments, the list -/
abbrev PSpO := List Dat → List Dat → Wld → (Dat → List Dat → Wld → Prop) → Prop
abbrev Q1 := Dat → (Dat → Prop) → Prop
abbrev Q2 := Dat → Dat → (Dat → Prop) → Prop
abbrev QL := List Dat → (Dat → Prop) → Prop
structure PEnds where
  nx : Env → Wld → Prop
  rt : PQ
  bk : Env → Wld → Prop
  ct : Env → Wld → Prop
abbrev PS := PEnds → Env → Wld → Prop
def pVar (i : Nat) : PE := fun e w k => match e[i]? with | some (.val d) => k d e w | _ => False
def pC (d : Dat) : PE := fun e w k => k d e w
def pOp (q : Q2) (a b : PE) : PE := fun e w k => a e w fun x e w => b e w fun y e w => q x y fun z => k z e w
def pUn (q : Q1) (a : PE) : PE := fun e w k => a e w fun x e w => q x fun z => k z e w
def isB : Dat → (Bool → Prop) → Prop
  | .bl b, k => k b
  | _, _ => False
def pTest (a : PE) : PT := fun e w k => a e w fun x e w => isB x fun b => k b e w
def pNot (a : PT) : PT := fun e w k => a e w fun b e w => k (!b) e w
def pAnd (a b : PT) : PT := fun e w k => a e w fun c e w => if c = true then b e w k else k false e w
def pOr (a b : PT) : PT := fun e w k => a e w fun c e w => if c = true then k true e w else b e w k
def pAndV (a b : PE) : PE := fun e w k => a e w fun x e w => isB x fun c => if c = true then b e w k else k (.bl false) e w
def pOrV (a b : PE) : PE := fun e w k => a e w fun x e w => isB x fun c => if c = true then k (.bl true) e w else b e w k
def pNotV (a : PE) : PE := fun e w k => a e w fun x e w => isB x fun c => k (.bl (!c)) e w
def pIf (c : PT) (a b : PE) : PE := fun e w k => c e w fun t e w => if t = true then a e w k else b e w k
def pChain (q q' : Q2) (a b c : PE) : PE := fun e w k => a e w fun x e w => b e w fun y e w => q x y fun z => isB z fun t => if t = true then c e w fun v e w => q' y v fun z => k z e w else k (.bl false) e w
def pNil : PA := fun e w k => k [] e w
def pCons (a : PE) (r : PA) : PA := fun e w k => a e w fun x e w => r e w fun xs e w => k (x :: xs) e w
def pCall (P : PSp) (a : PA) : PE := fun e w k => a e w fun ds e w => P ds w fun d w => k d e w
def pCallD (P : PSp) (dv : List Dat) (a : PA) : PE := fun e w k => a e w fun ds e w => P (ds ++ dv) w fun d w => k d e w
def pKw (n : Nat) (P : PSp) (ix : List Nat) (a : PA) : PE := fun e w k => a e w fun ds e w => ds.length = n ∧ P (ix.map fun i => ds.getD i .non) w fun d w => k d e w
def pTup (a : PA) : PE := fun e w k => a e w fun ds e w => ds.length ≤ sizeLine ∧ k (.tup ds) e w
def pCB (q : QL) (a : PA) : PE := fun e w k => a e w fun ds e w => q ds fun z => k z e w
def pLst (a : PA) : PF := fun e w k => a e w fun ds e w => ds.length ≤ sizeLine ∧ k ds e w
def pFz (a : PF) : PE := fun e w k => a e w fun ds e w => k (.lst ds) e w
/-- a list from one or two values -/
def pOpF (q : Dat → Dat → (List Dat → Prop) → Prop) (a b : PE) : PF := fun e w k => a e w fun x e w => b e w fun y e w => q x y fun z => k z e w
def pCBF (q : List Dat → (List Dat → Prop) → Prop) (a : PA) : PF := fun e w k => a e w fun ds e w => q ds fun z => k z e w
def ownAt (e : Env) (i : Nat) (k : Bool → List Dat → Prop) : Prop := match e[i]? with | some (.own f l) => k f l | _ => False
def pOpO (q : Q2) (i : Nat) (b : PE) : PE := fun e w k => ownAt e i fun _ _ => b e w fun y e w => ownAt e i fun f l => q (.lst l) y fun z => k z e w
def pCBO (q : QL) (i : Nat) : PE := fun e w k => ownAt e i fun f l => q [.lst l] fun z => k z e w
def pSeq (a b : PS) : PS := fun D e w => a { D with nx := b D } e w
def pNext : PS := fun D e w => D.nx e w
def pBreak : PS := fun D e w => D.bk e w
def pCont : PS := fun D e w => D.ct e w
def pNever : PS := fun _ _ _ => False
def pAsg (a : PE) (i : Nat) : PS := fun D e w => a e w fun d e w => D.nx (e.set i (.val d)) w
def pAsgO (a : PF) (i : Nat) : PS := fun D e w => a e w fun l e w => D.nx (e.set i (.own true l)) w
def setAll : Env → List Nat → List Dat → Option Env
  | e, [], [] => some e
  | e, i :: is, d :: ds => setAll (e.set i (.val d)) is ds
  | _, _, _ => none
def onSome {α : Type} (o : Option α) (k : α → Prop) : Prop := match o with | some x => k x | none => False
def tupOf : Dat → (List Dat → Prop) → Prop
  | .tup l, k => k l
  | _, _ => False
def lstOf : Dat → (List Dat → Prop) → Prop
  | .lst l, k => k l
  | .cst l, k => k l
  | _, _ => False
/-- a list or a tuple -/
def seqOf : Dat → (List Dat → Prop) → Prop
  | .lst l, k => k l
  | .cst l, k => k l
  | .tup l, k => k l
  | _, _ => False
def intOf : Dat → (Int → Prop) → Prop
  | .int n, k => k n
  | _, _ => False
def pgName (i : Nat) : PG := fun d e w k => k (e.set i (.val d)) w
def pgTup (is : List Nat) : PG := fun d e w k => tupOf d fun ds => onSome (setAll e is ds) fun e => k e w
def pAsgG (a : PE) (g : PG) : PS := fun D e w => a e w fun d e w => g d e w D.nx
def pPar (is : List Nat) (a : PA) : PS := fun D e w => a e w fun ds e w => onSome (setAll e is ds) fun e => D.nx e w
def pRet (a : PE) : PS := fun D e w => a e w D.rt
def pRetN : PS := fun D e w => D.rt .non e w
def pDrop (a : PE) : PS := fun D e w => a e w fun _ e w => D.nx e w
def pIfS (c : PT) (a b : PS) : PS := fun D e w => c e w fun t e w => if t = true then a D e w else b D e w
def pAppend (i : Nat) (a : PE) : PS := fun D e w => ownAt e i fun _ _ => a e w fun d e w => ownAt e i fun f l => l.length < sizeLine ∧ D.nx (e.set i (.own f (l ++ [d]))) w
def pSetI (i : Nat) (ix v : PE) : PS := fun D e w => v e w fun d e w => ownAt e i fun _ _ => ix e w fun x e w => intOf x fun n => ownAt e i fun f l => onSome (ixN l.length n) fun j => D.nx (e.set i (.own f (l.set j d))) w
def fz : Slot → Slot
  | .own true l => .val (.lst l)
  | s => s
/-- from here on the names is hold their lists no more alone -/
def frz (e : Env) : List Nat → Env
  | [] => e
  | i :: is => frz (match e[i]? with | some s => e.set i (fz s) | none => e) is
def pFrz (is : List Nat) (a : PS) : PS := fun D e w => a D (frz e is) w
def whl (c : PT) (b : PS) (D : PEnds) : Nat → Env → Wld → Prop
  | 0, _, _ => False
  | n + 1, e, w => c e w fun t e w => if t = true then b ⟨whl c b D n, D.rt, D.nx, whl c b D n⟩ e w else D.nx e w
def pWhile (c : PT) (b : PS) : PS := fun D e w => ∃ n, whl c b D n e w
def lp (g : PG) (b : PS) (D : PEnds) : List Dat → Env → Wld → Prop
  | [], e, w => D.nx e w
  | d :: ds, e, w => g d e w fun e w => b ⟨lp g b D ds, D.rt, D.nx, lp g b D ds⟩ e w
def pFor (s : PA) (g : PG) (b : PS) : PS := fun D e w => s e w fun ds e w => lp g b D ds e w
def wip (e : Env) : List Nat → Env
  | [] => e
  | i :: is => wip (e.set i .no) is
def lcp (g : PG) (t : PT) (a : PE) (vs : List Nat) (k : List Dat → Env → Wld → Prop) : List Dat → List Dat → Env → Wld → Prop
  | [], acc, e, w => k acc e w
  | d :: ds, acc, e, w => g d e w fun e w => t e w fun b e w => if b = true then a e w fun y e w => acc.length < sizeLine ∧ lcp g t a vs k ds (acc ++ [y]) (wip e vs) w else lcp g t a vs k ds acc (wip e vs) w
def pLc (s : PA) (g : PG) (t : PT) (a : PE) (vs : List Nat) : PF := fun e w k => s e w fun ds e w => lcp g t a vs k ds [] (wip e vs) w
def pYes : PT := fun e w k => k true e w
/-- what is walked -/
def pIL (a : PE) : PA := fun e w k => a e w fun d e w => lstOf d fun l => k l e w
def pIT (a : PE) : PA := fun e w k => a e w fun d e w => tupOf d fun l => k l e w
def rng (lo : Int) : Nat → List Dat
  | 0 => []
  | n + 1 => .int lo :: rng (lo + 1) n
def pIR1 (a : PE) : PA := fun e w k => a e w fun d e w => intOf d fun n => (-(2 ^ 62) ≤ n ∧ n < 2 ^ 62) ∧ k (rng 0 n.toNat) e w
def pIR2 (a b : PE) : PA := fun e w k => a e w fun d e w => b e w fun d' e w => intOf d fun n => intOf d' fun m => (-(2 ^ 62) ≤ n ∧ n < 2 ^ 62 ∧ -(2 ^ 62) ≤ m ∧ m < 2 ^ 62) ∧ k (rng n (m - n).toNat) e w
def enm (i : Nat) : List Dat → List Dat
  | [] => []
  | d :: ds => .tup [.int (i : Int), d] :: enm (i + 1) ds
def pIEnum (a : PE) : PA := fun e w k => a e w fun d e w => seqOf d fun l => k (enm 0 l) e w
end Pu
namespace Pu
open PySem L2 Eng
/-- the objects that may be changed, the tables of code -/
def Gh.ot (g : Gh) : List Addr := g.os ++ g.ts.map (·.1)
def Gh.mu (g : Gh) : List Addr := g.ms.map (·.2.1) ++ (g.ms.map (·.2.2) ++ (g.ss ++ g.ot))
/-- a dict of texts and integers -/
def dKs (l : List (Str × Int)) : List (Key × V) := l.map fun p => ((Sum.inr p.1 : Key), V.int p.2)
section
variable (K : PySem.W.Frag) (c : Pc)
mutual
inductive Rep (g : Gh) : V → Dat → Prop
  | non : Rep g .non .non
  | bl (b : Bool) : Rep g (.bl b) (.bl b)
  | int (n : Int) : Rep g (.int n) (.int n)
  | str (s : Str) : Rep g (.str s) (.str s)
  | tup {a : Addr} {vs : List V} {ds : List Dat} : g.G a = some (.tup vs) → Reps g vs ds → Rep g (.ref a) (.tup ds)
  | lst {a : Addr} {vs : List V} {ds : List Dat} : g.G a = some (.lst vs) → Reps g vs ds → Rep g (.ref a) (.lst ds)
  | cst {a : Addr} {vs : List V} {ds : List Dat} : SqL K g.G a vs → Reps g vs ds → Rep g (.ref a) (.cst ds)
  | big {a : Addr} {b : Nat} {n : Int} : BigAt c g.G a b n → Rep g (.ref a) (.big b n)
  | mach {i : Nat} {q : Addr × Addr × Addr} : g.ms[i]? = some q → Rep g (.ref q.1) (.mach i)
  | src {i : Nat} {a : Addr} : g.ss[i]? = some a → Rep g (.ref a) (.src i)
  | opq (v : V) : Rep g v (.opq v)
  | dic {a : Addr} {l : List (Str × Int)} : g.G a = some (.dK (dKs l)) → Rep g (.ref a) (.dic l)
  | ob {j : Nat} {a : Addr} : g.os[j]? = some a → Rep g (.ref a) (.ob j)
  | fn {f : Addr} {g0 : Gh} : g0.le g → Rep g (.ref f) (.fn f g0)
  | fnc (j : Nat) : Rep g (.ref (c.fs.getD j 0)) (.fnc j)
inductive Reps (g : Gh) : List V → List Dat → Prop
  | nil : Reps g [] []
  | cons {v : V} {vs : List V} {d : Dat} {ds : List Dat} : Rep g v d → Reps g vs ds → Reps g (v :: vs) (d :: ds)
end
end
section
variable {K : PySem.W.Frag} {c : Pc} {g g' : Gh}
theorem sqT_mono {G G' : Hp} (h : ∀ a o, G a = some o → G' a = some o) {a : Addr} {vs : List V} (s : SqT K G a vs) : SqT K G' a vs := by
  rcases s with (s | ⟨o, s⟩) | s
  · exact .inl (.inl (h _ _ s))
  · exact .inl (.inr ⟨o, h _ _ s⟩)
  · exact .inr s
theorem sqL_mono {G G' : Hp} (h : ∀ a o, G a = some o → G' a = some o) {a : Addr} {vs : List V} (s : SqL K G a vs) : SqL K G' a vs := by
  rcases s with (s | ⟨o, s⟩) | s
  · exact .inl (.inl (h _ _ s))
  · exact .inl (.inr ⟨o, h _ _ s⟩)
  · exact .inr s
theorem bigAt_mono {G G' : Hp} (h : ∀ a o, G a = some o → G' a = some o) {a : Addr} {b : Nat} {n : Int} (s : BigAt c G a b n) : BigAt c G' a b n := s.same h
mutual
theorem Rep.mono (le : g.le g') : ∀ {d : Dat} {v : V}, Rep K c g v d → Rep K c g' v d
  | .non, _, .non => .non
  | .bl _, _, .bl _ => .bl _
  | .int _, _, .int _ => .int _
  | .str _, _, .str _ => .str _
  | .tup _, _, .tup s r => .tup (le.G _ _ s) (Reps.mono le r)
  | .lst _, _, .lst s r => .lst (le.G _ _ s) (Reps.mono le r)
  | .cst _, _, .cst s r => .cst (sqL_mono le.G s) (Reps.mono le r)
  | .big _ _, _, .big h => .big (bigAt_mono le.G h)
  | .mach _, _, .mach h => .mach (le.ms _ _ h)
  | .src _, _, .src h => .src (le.ss _ _ h)
  | .opq _, _, .opq _ => .opq _
  | .dic _, _, .dic h => .dic (le.G _ _ h)
  | .ob _, _, .ob h => .ob (le.os _ _ h)
  | .fn _ _, _, .fn h => .fn (h.trans le)
  | .fnc _, _, .fnc _ => .fnc _
theorem Reps.mono (le : g.le g') : ∀ {ds : List Dat} {vs : List V}, Reps K c g vs ds → Reps K c g' vs ds
  | [], _, .nil => .nil
  | _ :: _, _, .cons h t => .cons (Rep.mono le h) (Reps.mono le t)
end
theorem Reps.length : ∀ {vs : List V} {ds : List Dat}, Reps K c g vs ds → vs.length = ds.length
  | _, _, .nil => rfl
  | _, _, .cons _ t => congrArg (· + 1) t.length
theorem Reps.get : ∀ {vs : List V} {ds : List Dat} {i : Nat} {d : Dat}, Reps K c g vs ds → ds[i]? = some d → ∃ v, vs[i]? = some v ∧ Rep K c g v d
  | _, _, 0, _, .cons h _, e => ⟨_, rfl, by cases e; exact h⟩
  | _, _, i + 1, _, .cons _ t, e => t.get (i := i) e
theorem Reps.getV : ∀ {vs : List V} {ds : List Dat} {i : Nat} {v : V}, Reps K c g vs ds → vs[i]? = some v → ∃ d, ds[i]? = some d ∧ Rep K c g v d
  | _, _, 0, _, .cons h _, e => ⟨_, rfl, by cases e; exact h⟩
  | _, _, i + 1, _, .cons _ t, e => t.getV (i := i) e
theorem Reps.app : ∀ {vs : List V} {ds : List Dat} {vs' : List V} {ds' : List Dat}, Reps K c g vs ds → Reps K c g vs' ds' → Reps K c g (vs ++ vs') (ds ++ ds')
  | _, _, _, _, .nil, h => h
  | _, _, _, _, .cons a t, h => .cons a (t.app h)
theorem Reps.set {v : V} {d : Dat} (h : Rep K c g v d) : ∀ {vs : List V} {ds : List Dat} (i : Nat), Reps K c g vs ds → Reps K c g (vs.set i v) (ds.set i d)
  | _, _, _, .nil => .nil
  | _, _, 0, .cons _ t => .cons h t
  | _, _, i + 1, .cons a t => .cons a (t.set h i)
theorem Reps.drop : ∀ {vs : List V} {ds : List Dat} (i : Nat), Reps K c g vs ds → Reps K c g (vs.drop i) (ds.drop i)
  | _, _, 0, h => h
  | _, _, _ + 1, .nil => .nil
  | _, _, i + 1, .cons _ t => t.drop i
theorem Reps.take : ∀ {vs : List V} {ds : List Dat} (i : Nat), Reps K c g vs ds → Reps K c g (vs.take i) (ds.take i)
  | _, _, 0, _ => .nil
  | _, _, _ + 1, .nil => .nil
  | _, _, i + 1, .cons h t => .cons h (t.take i)
theorem Reps.rep {vs : List V} {ds : List Dat} (h : Reps K c g vs ds) : ∀ (n : Nat), Reps K c g (List.replicate n vs).flatten (List.replicate n ds).flatten
  | 0 => .nil
  | n + 1 => by
    rw [List.replicate_succ, List.replicate_succ, List.flatten_cons, List.flatten_cons]
    exact h.app (h.rep n)
theorem Rep.intI {v : V} {n : Int} (h : Rep K c g v (.int n)) : v = .int n := by cases h; rfl
theorem Rep.blI {v : V} {b : Bool} (h : Rep K c g v (.bl b)) : v = .bl b := by cases h; rfl
theorem Rep.strI {v : V} {b : Str} (h : Rep K c g v (.str b)) : v = .str b := by cases h; rfl
theorem Rep.nonI {v : V} (h : Rep K c g v .non) : v = .non := by cases h; rfl
theorem Reps.ofInts : ∀ (ns : List Int), Reps K c g (ns.map V.int) (ns.map Dat.int)
  | [] => .nil
  | n :: ns => .cons (.int n) (Reps.ofInts ns)
end
/-- what a walk's entry is -/
def dW (x : Str × Int × Int) : Dat := .tup [.str x.1, .int x.2.1, .int x.2.2]
structure MRep (K : PySem.W.Frag) (c : Pc) (g : Gh) (H : Hp) (q : Addr × Addr × Addr) (m : Mach) : Prop where
  ins : ∃ dx, g.G q.1 = some (.ins c.CMachine dx (mF m.b m.cut q.2.1 q.2.2))
  cnt : H q.2.1 = some (.dK (cK m.ns))
  ten : m.ns.length = 10
  wlk : ∃ vs, H q.2.2 = some (.lst vs) ∧ Reps K c g vs (m.walk.map dW)
  few : m.walk.length ≤ 1000
/-- how an object stands -/
def ORep (K : PySem.W.Frag) (c : Pc) (g : Gh) (H : Hp) (a : Addr) : Obj → Prop
  | .lst l => ∃ vs, H a = some (.lst vs) ∧ Reps K c g vs l
  | .dic l => H a = some (.dK (dKs l))
theorem ORep.mono {K : PySem.W.Frag} {c : Pc} {g g' : Gh} {H H' : Hp} {a : Addr} {o : Obj} (h : ORep K c g H a o) (le : g.le g') (e : H' a = H a) : ORep K c g' H' a o := by
  cases o with
  | lst l => obtain ⟨vs, h1, h2⟩ := h; exact ⟨vs, e.trans h1, h2.mono le⟩
  | dic l => exact e.trans h
/-- no code object -/
def NoC (o : HO) : Prop := ∀ c q, o ≠ LamX.CodeO c q
theorem noC_lst {vs : List V} : NoC (.lst vs) := fun _ _ z => by unfold LamX.CodeO at z; cases z
/-- code objects stay -/
def CKeep (H H' : Hp) : Prop := ∀ a c q, H a = some (LamX.CodeO c q) → H' a = some (LamX.CodeO c q)
theorem CKeep.refl (H : Hp) : CKeep H H := fun _ _ _ h => h
theorem CKeep.updN {H : Hp} {p : Addr} {o : HO} (h : H p = none) : CKeep H (upd H p o) := fun a c q e => by rw [upd_ne (ne_of_none e h)]; exact e
theorem CKeep.upd {H : Hp} {p : Addr} {o u : HO} (h : H p = some u) (hu : NoC u) : CKeep H (upd H p o) := fun a c q e => by
  rw [upd_ne (fun z => by rw [z, h] at e; exact hu c q (Option.some.inj e))]; exact e
/-- a table of code: its code objects never change -/
def TabG (g : Gh) (H : Hp) (p : Addr × Str) : Prop := ∃ ps : Array Value, H p.1 = some (.tbl ps) ∧ TriplesOk ps.toList ∧ ∀ (pos : Pos) (cv : Value), codeAmong pos ps.toList = some cv → ∃ c, cv = .ref c ∧ g.G c = some (LamX.CodeO c p.2)
theorem tabs_mono {T : List (Addr × Str)} {g g' : Gh} {H H' : Hp} (h : ∀ p ∈ T, TabG g H p) (le : ∀ a o, g.G a = some o → g'.G a = some o) (e : ∀ p ∈ T, H' p.1 = H p.1) : ∀ p ∈ T, TabG g' H' p := fun p hp => by
  obtain ⟨ps, h1, h2, h3⟩ := h p hp
  refine ⟨ps, (e p hp).trans h1, h2, fun pos cv hc => ?_⟩
  obtain ⟨c, e1, e2⟩ := h3 pos cv hc
  exact ⟨c, e1, le _ _ e2⟩
/-- the world in the heap -/
structure Wr (K : PySem.W.Frag) (c : Pc) (g : Gh) (H : Hp) (w : Wld) : Prop where
  sub : ∀ a o, g.G a = some o → H a = some o
  nd : g.mu.Nodup
  off : ∀ a ∈ g.mu, g.G a = none
  mlen : g.ms.length = w.ms.length
  mach : ∀ (i : Nat) q m, g.ms[i]? = some q → w.ms[i]? = some m → MRep K c g H q m
  srcs : ∀ a ∈ g.ss, ∃ o, H a = some o ∧ SrcO o
  nss : g.ss.length = w.ss
  olen : g.os.length = w.os.length
  objs : ∀ (i : Nat) a o, g.os[i]? = some a → w.os[i]? = some o → ORep K c g H a o
  tabs : ∀ p ∈ g.ts, TabG g H p
  hts : g.ts = c.ts
/-- what a call leaves -/
structure Aft (g : Gh) (H : Hp) (g' : Gh) (H' : Hp) : Prop where
  le : g.le g'
  keep : ∀ a o, H a = some o → a ∉ g.mu → H' a = some o
  frz : ∀ a o, H a = some o → g'.G a = g.G a
  new : ∀ a ∈ g'.mu, a ∈ g.mu ∨ H a = none
  dom : ∀ a o, H a = some o → ∃ o', H' a = some o'
theorem Aft.refl (g : Gh) (H : Hp) : Aft g H g H := ⟨Gh.le.refl g, fun _ _ h _ => h, fun _ _ _ => rfl, fun _ h => .inl h, fun _ o h => ⟨o, h⟩⟩
theorem Aft.trans {g g' g'' : Gh} {H H' H'' : Hp} (h : Aft g H g' H') (k : Aft g' H' g'' H'') : Aft g H g'' H'' where
  le := h.le.trans k.le
  keep := fun a o e n => k.keep a o (h.keep a o e n) fun z => by
    rcases h.new a z with z | z
    · exact n z
    · rw [z] at e; cases e
  frz := fun a o e => by
    obtain ⟨o', e'⟩ := h.dom a o e
    rw [k.frz a o' e', h.frz a o e]
  new := fun a z => by
    rcases k.new a z with z | z
    · exact h.new a z
    · refine .inr ?_
      cases e : H a with
      | none => rfl
      | some o => obtain ⟨o', e'⟩ := h.dom a o e; rw [e'] at z; cases z
  dom := fun a o e => by
    obtain ⟨o', e'⟩ := h.dom a o e
    exact k.dom a o' e'
/-- a promise over the heap keeps one over data -/
def SndP (K : PySem.W.Frag) (c : Pc) (sp : Sp) (P : PSp) : Prop := ∀ (g : Gh) (H : Hp) (w : Wld) (vs : List V) (ds : List Dat) (k : Dat → Wld → Prop) (Q : VK) (E : XK), Wr K c g H w → Reps K c g vs ds → P ds w k →
  (∀ v d g' H' w', Aft g H g' H' → Wr K c g' H' w' → Rep K c g' v d → k d w' → Q v H') → sp vs H Q E
/-- a promise over data, as one over the heap -/
def lif (K : PySem.W.Frag) (c : Pc) (P : PSp) : Sp := fun vs H Q _ => ∃ (g : Gh) (w : Wld) (ds : List Dat) (k : Dat → Wld → Prop), Wr K c g H w ∧ Reps K c g vs ds ∧ P ds w k ∧ ∀ v d g' H' w', Aft g H g' H' → Wr K c g' H' w' → Rep K c g' v d → k d w' → Q v H'
theorem SndP.lif {K : PySem.W.Frag} {c : Pc} {P : PSp} : SndP K c (lif K c P) P := fun g _ w _ ds k _ _ h1 h2 h3 h4 => ⟨g, w, ds, k, h1, h2, h3, h4⟩
/-- the entry: heap, what was known, the lists of the caller's that may be changed -/
structure En where
  H : Hp
  g : Gh
  M : List Addr
structure Cf where
  g : Gh
  H : Hp
  e : Env
  w : Wld
  os : List (Nat × Addr)
def Cf.mu (s : Cf) (F : List (Addr × HO)) : List Addr := s.g.mu ++ (s.os.map (·.2) ++ F.map (·.1))
/-- a name's list: new, or one of the caller's -/
def OwnF (X : En) (f : Bool) (a : Addr) : Prop := (f = true → X.H a = none) ∧ (f = false → a ∈ X.M)
def RSl (K : PySem.W.Frag) (c : Pc) (X : En) (s : Cf) (i : Nat) (o : Option (Option V)) : Slot → Prop
  | .no => True
  | .val d => ∃ v, o = some (some v) ∧ Rep K c s.g v d
  | .own f ds => ∃ a vs, o = some (some (.ref a)) ∧ (i, a) ∈ s.os ∧ s.H a = some (.lst vs) ∧ Reps K c s.g vs ds ∧ OwnF X f a
  | .ownT l r => ∃ p a us vs, o = some (some (.ref p)) ∧ (i, a) ∈ s.os ∧ s.g.G p = some (.tup (.ref a :: us)) ∧ Reps K c s.g us r ∧ s.H a = some (.lst vs) ∧ Reps K c s.g vs l ∧ X.H a = none
structure In (K : PySem.W.Frag) (c : Pc) (X : En) (F : List (Addr × HO)) (σ : L2.St) (s : Cf) : Prop where
  wr : Wr K c s.g s.H s.w
  nd : (s.mu F).Nodup
  off : ∀ a ∈ s.mu F, s.g.G a = none
  len : s.e.length = σ.length
  env : ∀ (i : Nat) z, s.e[i]? = some z → RSl K c X s i σ[i]? z
  held : ∀ q ∈ F, s.H q.1 = some q.2
  oal : ∀ q ∈ s.os, ∃ vs, s.H q.2 = some (.lst vs)
  le : X.g.le s.g
  keep : ∀ a o, X.H a = some o → a ∉ X.g.mu → a ∉ X.M → s.H a = some o
  frz : ∀ a o, X.H a = some o → s.g.G a = X.g.G a
  new : ∀ a ∈ s.mu F, a ∈ X.g.mu ∨ a ∈ X.M ∨ X.H a = none
  dom : ∀ a o, X.H a = some o → ∃ o', s.H a = some o'
section
variable {K : PySem.W.Frag} {c : Pc} {X : En} {F : List (Addr × HO)} {σ : L2.St} {s : Cf}
theorem In.fresh (I : In K c X F σ s) {p : Addr} (h : s.H p = none) : X.H p = none := by
  cases e : X.H p with
  | none => rfl
  | some o => obtain ⟨o', e'⟩ := I.dom p o e; rw [e'] at h; cases h
theorem In.offG (I : In K c X F σ s) {p : Addr} (h : s.H p = none) : s.g.G p = none := by
  cases e : s.g.G p with
  | none => rfl
  | some o => rw [I.wr.sub p o e] at h; cases h
/-- all that is meant to change stands -/
theorem Wr.muAt {g : Gh} {H : Hp} {w : Wld} (W : Wr K c g H w) {a : Addr} (h : a ∈ g.mu) : ∃ o, H a = some o := by
  rcases List.mem_append.mp h with h | h
  · obtain ⟨q, hq, rfl⟩ := List.mem_map.mp h
    obtain ⟨i, hi⟩ := List.mem_iff_getElem?.mp hq
    have hl : i < w.ms.length := by rw [← W.mlen]; exact (List.getElem?_eq_some_iff.mp hi).1
    exact ⟨_, (W.mach i q _ hi (List.getElem?_eq_getElem hl)).cnt⟩
  · rcases List.mem_append.mp h with h | h
    · obtain ⟨q, hq, rfl⟩ := List.mem_map.mp h
      obtain ⟨i, hi⟩ := List.mem_iff_getElem?.mp hq
      have hl : i < w.ms.length := by rw [← W.mlen]; exact (List.getElem?_eq_some_iff.mp hi).1
      obtain ⟨vs, h1, _⟩ := (W.mach i q _ hi (List.getElem?_eq_getElem hl)).wlk
      exact ⟨_, h1⟩
    · rcases List.mem_append.mp h with h | h
      · obtain ⟨o, h1, _⟩ := W.srcs a h
        exact ⟨o, h1⟩
      · rcases List.mem_append.mp h with h | h
        · obtain ⟨i, hi⟩ := List.mem_iff_getElem?.mp h
          have hl : i < w.os.length := by rw [← W.olen]; exact (List.getElem?_eq_some_iff.mp hi).1
          have ho := W.objs i a _ hi (List.getElem?_eq_getElem hl)
          cases e : w.os[i] with
          | lst l => rw [e] at ho; obtain ⟨vs, h1, _⟩ := ho; exact ⟨_, h1⟩
          | dic l => rw [e] at ho; exact ⟨_, ho⟩
        · obtain ⟨p, hp, rfl⟩ := List.mem_map.mp h
          obtain ⟨ps, h1, _⟩ := W.tabs p hp
          exact ⟨_, h1⟩
end
end Pu
namespace Pu
open PySem L2 Eng
section
variable {K : PySem.W.Frag} {c : Pc} {X : En} {F : List (Addr × HO)} {σ : L2.St} {s : Cf} {p : Addr} {o : HO} {vs : List V}
theorem In.al (I : In K c X F σ s) {a : Addr} (h : a ∈ s.mu F) : ∃ o, s.H a = some o := by
  rcases List.mem_append.mp h with h | h
  · exact I.wr.muAt h
  · rcases List.mem_append.mp h with h | h
    · obtain ⟨q, hq, rfl⟩ := List.mem_map.mp h
      obtain ⟨vs, e⟩ := I.oal q hq
      exact ⟨_, e⟩
    · obtain ⟨q, hq, rfl⟩ := List.mem_map.mp h
      exact ⟨_, I.held q hq⟩
theorem In.notMu (I : In K c X F σ s) (h : s.H p = none) : p ∉ s.mu F := fun z => by
  obtain ⟨o, e⟩ := I.al z
  rw [h] at e; cases e
theorem MRep.mono {g g' : Gh} {H H' : Hp} {q : Addr × Addr × Addr} {m : Mach} (h : MRep K c g H q m) (le : g.le g') (h1 : H' q.2.1 = H q.2.1) (h2 : H' q.2.2 = H q.2.2) : MRep K c g' H' q m := by
  obtain ⟨dx, a⟩ := h.ins
  obtain ⟨vs, b1, b2⟩ := h.wlk
  exact ⟨⟨dx, le.G _ _ a⟩, by rw [h1]; exact h.cnt, h.ten, ⟨vs, by rw [h2]; exact b1, b2.mono le⟩, h.few⟩
theorem mem_mu1 {g : Gh} {i : Nat} {q : Addr × Addr × Addr} (h : g.ms[i]? = some q) : q.2.1 ∈ g.mu := List.mem_append_left _ (List.mem_map.mpr ⟨q, List.mem_of_getElem? h, rfl⟩)
theorem mem_mu2 {g : Gh} {i : Nat} {q : Addr × Addr × Addr} (h : g.ms[i]? = some q) : q.2.2 ∈ g.mu := List.mem_append_right _ (List.mem_append_left _ (List.mem_map.mpr ⟨q, List.mem_of_getElem? h, rfl⟩))
theorem mem_mu3 {g : Gh} {a : Addr} (h : a ∈ g.ss) : a ∈ g.mu := List.mem_append_right _ (List.mem_append_right _ (List.mem_append_left _ h))
theorem mem_mu4 {g : Gh} {a : Addr} (h : a ∈ g.os) : a ∈ g.mu := List.mem_append_right _ (List.mem_append_right _ (List.mem_append_right _ (List.mem_append_left _ h)))
theorem mem_mu5 {g : Gh} {p : Addr × Str} (h : p ∈ g.ts) : p.1 ∈ g.mu := List.mem_append_right _ (List.mem_append_right _ (List.mem_append_right _ (List.mem_append_right _ (List.mem_map.mpr ⟨p, h, rfl⟩))))
/-- the world stays while its own places do -/
theorem Wr.mono {g g' : Gh} {H H' : Hp} {w : Wld} (W : Wr K c g H w) (le : g.le g') (hm : g'.ms = g.ms) (hs : g'.ss = g.ss) (hos : g'.os = g.os) (ck : CKeep H H') (sub : ∀ a o, g'.G a = some o → H' a = some o) (off : ∀ a ∈ g.mu, g'.G a = none) (h : ∀ a ∈ g.mu, H' a = H a) : Wr K c g' H' w := by
  have e : g'.mu = g.mu := by unfold Gh.mu Gh.ot; rw [hm, hs, hos, le.ts]
  refine ⟨sub, by rw [e]; exact W.nd, by rw [e]; exact off, by rw [hm]; exact W.mlen, fun i q m h1 h2 => ?_, fun a ha => ?_, by rw [hs]; exact W.nss, by rw [hos]; exact W.olen, fun i a o h1 h2 => (W.objs i a o (by rw [hos] at h1; exact h1) h2).mono le (h a (mem_mu4 (List.mem_of_getElem? (by rw [hos] at h1; exact h1)))), by rw [le.ts]; exact tabs_mono W.tabs le.G fun p hp => h p.1 (mem_mu5 hp), le.ts.trans W.hts⟩
  · rw [hm] at h1
    exact (W.mach i q m h1 h2).mono le (h _ (mem_mu1 h1)) (h _ (mem_mu2 h1))
  · rw [hs] at ha
    obtain ⟨o, h1, h2⟩ := W.srcs a ha
    exact ⟨o, by rw [h a (mem_mu3 ha)]; exact h1, h2⟩
theorem RSl.mono {s s' : Cf} {i : Nat} {o : Option (Option V)} {z : Slot} (h : RSl K c X s i o z) (le : s.g.le s'.g) (ho : ∀ q ∈ s.os, q ∈ s'.os) (hH : ∀ q ∈ s.os, s'.H q.2 = s.H q.2) : RSl K c X s' i o z := by
  cases z with
  | no => trivial
  | val d => obtain ⟨v, h1, h2⟩ := h; exact ⟨v, h1, h2.mono le⟩
  | own f ds => obtain ⟨a, vs, h1, h2, h3, h4, h5⟩ := h; exact ⟨a, vs, h1, ho _ h2, by rw [hH _ h2]; exact h3, h4.mono le, h5⟩
  | ownT l r => obtain ⟨p, a, us, vs, h1, h2, h3, h4, h5, h6, h7⟩ := h; exact ⟨p, a, us, vs, h1, ho _ h2, le.G _ _ h3, h4.mono le, by rw [hH _ h2]; exact h5, h6.mono le, h7⟩
def gUpd (g : Gh) (p : Addr) (o : HO) : Gh := ⟨upd g.G p o, g.ms, g.ss, g.os, g.ts⟩
theorem gUpd_le {g : Gh} (h : g.G p = none) : g.le (gUpd g p o) := ⟨fun a u e => by
  show upd g.G p o a = some u
  rw [upd_ne (ne_of_none e h)]; exact e, fun _ _ h => h, fun _ _ h => h, fun _ _ h => h, rfl⟩
/-- a new thing that never changes -/
theorem In.newG (I : In K c X F σ s) (h : s.H p = none) : In K c X F σ ⟨gUpd s.g p o, upd s.H p o, s.e, s.w, s.os⟩ := by
  have hg := I.offG h
  have hn := I.notMu h
  have ne : ∀ a ∈ s.mu F, a ≠ p := fun a ha e => hn (e ▸ ha)
  have hle := gUpd_le (o := o) hg
  have hsub : ∀ a ∈ s.g.mu, a ∈ s.mu F := fun a ha => List.mem_append_left _ ha
  refine ⟨I.wr.mono hle rfl rfl rfl (CKeep.updN h) (fun a u e => ?_) (fun a ha => ?_) (fun a ha => upd_ne (ne a (hsub a ha))), I.nd, fun a ha => ?_, I.len, fun i z hz => ?_, fun q hq => ?_, fun q hq => ?_, I.le.trans hle, fun a u e n1 n2 => ?_, fun a u e => ?_, I.new, fun a u e => ?_⟩
  · show upd s.H p o a = some u
    have e : upd s.g.G p o a = some u := e
    by_cases ha : a = p
    · subst ha; rw [upd_same] at e ⊢; exact e
    · rw [upd_ne ha] at e ⊢; exact I.wr.sub a u e
  · show upd s.g.G p o a = none
    rw [upd_ne (ne a (hsub a ha))]; exact I.off a (hsub a ha)
  · show upd s.g.G p o a = none
    rw [upd_ne (ne a ha)]; exact I.off a ha
  · refine (I.env i z hz).mono hle (fun q hq => hq) fun q hq => upd_ne (ne _ ?_)
    exact List.mem_append_right _ (List.mem_append_left _ (List.mem_map.mpr ⟨q, hq, rfl⟩))
  · show upd s.H p o q.1 = some q.2
    rw [upd_ne (ne_of_none (I.held q hq) h)]; exact I.held q hq
  · obtain ⟨u, e⟩ := I.oal q hq
    exact ⟨u, by show upd s.H p o q.2 = _; rw [upd_ne (ne_of_none e h)]; exact e⟩
  · have e' := I.keep a u e n1 n2
    show upd s.H p o a = some u
    rw [upd_ne (ne_of_none e' h)]; exact e'
  · have hx : X.H p = none := I.fresh h
    show upd s.g.G p o a = _
    rw [upd_ne (ne_of_none e hx)]; exact I.frz a u e
  · obtain ⟨u', e'⟩ := I.dom a u e
    exact ⟨u', by show upd s.H p o a = _; rw [upd_ne (ne_of_none e' h)]; exact e'⟩
/-- a new thing that is held -/
theorem In.newF (I : In K c X F σ s) (h : s.H p = none) : In K c X ((p, o) :: F) σ ⟨s.g, upd s.H p o, s.e, s.w, s.os⟩ := by
  have hg := I.offG h
  have hn := I.notMu h
  have ne : ∀ a ∈ s.mu F, a ≠ p := fun a ha e => hn (e ▸ ha)
  have hsub : ∀ a ∈ s.g.mu, a ∈ s.mu F := fun a ha => List.mem_append_left _ ha
  have hmu : (⟨s.g, upd s.H p o, s.e, s.w, s.os⟩ : Cf).mu ((p, o) :: F) = s.g.mu ++ (s.os.map (·.2) ++ (p :: F.map (·.1))) := rfl
  have hp : (s.g.mu ++ (s.os.map (·.2) ++ (p :: F.map (·.1)))).Perm (p :: s.mu F) := by
    unfold Cf.mu
    rw [← List.append_assoc, ← List.append_assoc]
    exact List.perm_middle
  have hmem : ∀ a, a ∈ (⟨s.g, upd s.H p o, s.e, s.w, s.os⟩ : Cf).mu ((p, o) :: F) → a = p ∨ a ∈ s.mu F := fun a ha => by
    rw [hmu] at ha
    exact List.mem_cons.mp (hp.mem_iff.mp ha)
  refine ⟨I.wr.mono (Gh.le.refl _) rfl rfl rfl (CKeep.updN h) (fun a u e => ?_) (fun a ha => I.wr.off a ha) (fun a ha => upd_ne (ne a (hsub a ha))), ?_, fun a ha => ?_, I.len, fun i z hz => ?_, fun q hq => ?_, fun q hq => ?_, I.le, fun a u e n1 n2 => ?_, I.frz, fun a ha => ?_, fun a u e => ?_⟩
  · have e' := I.wr.sub a u e
    show upd s.H p o a = some u
    rw [upd_ne (ne_of_none e' h)]; exact e'
  · rw [hmu]
    exact hp.nodup_iff.mpr (List.nodup_cons.mpr ⟨hn, I.nd⟩)
  · rcases hmem a ha with rfl | ha
    · exact hg
    · exact I.off a ha
  · refine (I.env i z hz).mono (Gh.le.refl _) (fun q hq => hq) fun q hq => upd_ne (ne _ ?_)
    exact List.mem_append_right _ (List.mem_append_left _ (List.mem_map.mpr ⟨q, hq, rfl⟩))
  · show upd s.H p o q.1 = some q.2
    rcases List.mem_cons.mp hq with rfl | hq
    · exact upd_same
    · rw [upd_ne (ne_of_none (I.held q hq) h)]; exact I.held q hq
  · obtain ⟨u, e⟩ := I.oal q hq
    exact ⟨u, by show upd s.H p o q.2 = _; rw [upd_ne (ne_of_none e h)]; exact e⟩
  · have e' := I.keep a u e n1 n2
    show upd s.H p o a = some u
    rw [upd_ne (ne_of_none e' h)]; exact e'
  · rcases hmem a ha with rfl | ha
    · exact .inr (.inr (I.fresh h))
    · exact I.new a ha
  · obtain ⟨u', e'⟩ := I.dom a u e
    exact ⟨u', by show upd s.H p o a = _; rw [upd_ne (ne_of_none e' h)]; exact e'⟩
theorem mu_cons (s : Cf) (q : Addr × HO) (F : List (Addr × HO)) : (s.mu (q :: F)).Perm (q.1 :: s.mu F) := by
  unfold Cf.mu
  rw [← List.append_assoc, ← List.append_assoc]
  exact List.perm_middle
/-- what is held becomes one that never changes -/
theorem In.frzF (I : In K c X ((p, o) :: F) σ s) (hx : X.H p = none) : In K c X F σ ⟨gUpd s.g p o, s.H, s.e, s.w, s.os⟩ := by
  have hp := mu_cons s (p, o) F
  have hm : ∀ a, a ∈ s.mu F → a ∈ s.mu ((p, o) :: F) := fun a ha => hp.mem_iff.mpr (List.mem_cons_of_mem _ ha)
  have hpm : p ∈ s.mu ((p, o) :: F) := hp.mem_iff.mpr List.mem_cons_self
  have hnd := List.nodup_cons.mp (hp.nodup_iff.mp I.nd)
  have ne : ∀ a ∈ s.mu F, a ≠ p := fun a ha e => hnd.1 (e ▸ ha)
  have hg : s.g.G p = none := I.off p hpm
  have hle := gUpd_le (o := o) hg
  have hsub : ∀ a ∈ s.g.mu, a ∈ s.mu F := fun a ha => List.mem_append_left _ ha
  refine ⟨I.wr.mono hle rfl rfl rfl (CKeep.refl _) (fun a u e => ?_) (fun a ha => ?_) (fun _ _ => rfl), hnd.2, fun a ha => ?_, I.len, fun i z hz => ?_, fun q hq => I.held q (List.mem_cons_of_mem _ hq), I.oal, I.le.trans hle, I.keep, fun a u e => ?_, fun a ha => I.new a (hm a ha), I.dom⟩
  · have e : upd s.g.G p o a = some u := e
    by_cases ha : a = p
    · subst ha; rw [upd_same] at e; rw [← e]; exact I.held _ List.mem_cons_self
    · rw [upd_ne ha] at e; exact I.wr.sub a u e
  · show upd s.g.G p o a = none
    rw [upd_ne (ne a (hsub a ha))]; exact I.wr.off a ha
  · show upd s.g.G p o a = none
    rw [upd_ne (ne a ha)]; exact I.off a (hm a ha)
  · exact (I.env i z hz).mono hle (fun q hq => hq) fun _ _ => rfl
  · show upd s.g.G p o a = _
    rw [upd_ne (ne_of_none e hx)]; exact I.frz a u e
theorem set_get {α : Type} {l : List α} {i j : Nat} {x y : α} (h : (l.set i x)[j]? = some y) : (j = i ∧ y = x) ∨ (j ≠ i ∧ l[j]? = some y) := by
  by_cases e : j = i
  · subst e
    have : j < l.length := by
      have := (List.getElem?_eq_some_iff.mp h).1
      rwa [List.length_set] at this
    rw [List.getElem?_set_self this] at h
    exact .inl ⟨rfl, (Option.some.inj h).symm⟩
  · rw [List.getElem?_set_ne (Ne.symm e)] at h
    exact .inr ⟨e, h⟩
theorem set_len {l : L2.St} {e : Env} {i : Nat} {x : Slot} {y : Slot} (hl : e.length = l.length) (h : (e.set i x)[i]? = some y) (v : Option V) : (l.set i v)[i]? = some v := by
  have : i < l.length := by
    have := (List.getElem?_eq_some_iff.mp h).1
    rw [List.length_set] at this; omega
  rw [List.getElem?_set_self this]
/-- a name gets a value -/
theorem In.setV (I : In K c X F σ s) {i : Nat} {v : V} {d : Dat} (h : Rep K c s.g v d) : In K c X F (σ.set i (some v)) ⟨s.g, s.H, s.e.set i (.val d), s.w, s.os⟩ :=
  ⟨I.wr, I.nd, I.off, by simp only [List.length_set]; exact I.len, fun j z hz => by
    rcases set_get hz with ⟨rfl, rfl⟩ | ⟨ne, hz'⟩
    · exact ⟨v, set_len I.len hz _, h⟩
    · rw [List.getElem?_set_ne (Ne.symm ne)]
      exact I.env j z hz', I.held, I.oal, I.le, I.keep, I.frz, I.new, I.dom⟩
/-- a name is forgotten -/
theorem In.setN (I : In K c X F σ s) (i : Nat) : In K c X F σ ⟨s.g, s.H, s.e.set i .no, s.w, s.os⟩ :=
  ⟨I.wr, I.nd, I.off, by show (s.e.set i _).length = _; rw [List.length_set]; exact I.len, fun j z hz => by
    rcases set_get hz with ⟨rfl, rfl⟩ | ⟨ne, hz'⟩
    · trivial
    · exact I.env j z hz', I.held, I.oal, I.le, I.keep, I.frz, I.new, I.dom⟩
/-- a name of which nothing is known may be anything -/
theorem In.setS (I : In K c X F σ s) {i : Nat} (h : s.e[i]? = some .no) (v : Option V) : In K c X F (σ.set i v) s :=
  ⟨I.wr, I.nd, I.off, by rw [List.length_set]; exact I.len, fun j z hz => by
    by_cases e : j = i
    · subst e; rw [h] at hz; cases hz; trivial
    · rw [List.getElem?_set_ne (Ne.symm e)]
      exact I.env j z hz, I.held, I.oal, I.le, I.keep, I.frz, I.new, I.dom⟩
/-- a name gets a list of its own -/
theorem In.setO (I : In K c X ((p, .lst vs) :: F) σ s) {i : Nat} {ds : List Dat} (h : Reps K c s.g vs ds) (hx : X.H p = none) : In K c X F (σ.set i (some (.ref p))) ⟨s.g, s.H, s.e.set i (.own true ds), s.w, (i, p) :: s.os⟩ := by
  have hp := mu_cons s (p, .lst vs) F
  have hmu : (⟨s.g, s.H, s.e.set i (.own true ds), s.w, (i, p) :: s.os⟩ : Cf).mu F = s.g.mu ++ (p :: (s.os.map (·.2) ++ F.map (·.1))) := rfl
  have hp2 : (s.g.mu ++ (p :: (s.os.map (·.2) ++ F.map (·.1)))).Perm (s.mu ((p, .lst vs) :: F)) := (List.perm_middle).trans hp.symm
  refine ⟨I.wr, by rw [hmu]; exact hp2.nodup_iff.mpr I.nd, fun a ha => I.off a (hp2.mem_iff.mp ha), by simp only [List.length_set]; exact I.len, fun j z hz => ?_, fun q hq => I.held q (List.mem_cons_of_mem _ hq), fun q hq => ?_, I.le, I.keep, I.frz, fun a ha => I.new a (hp2.mem_iff.mp ha), I.dom⟩
  · rcases set_get hz with ⟨rfl, rfl⟩ | ⟨ne, hz'⟩
    · exact ⟨p, vs, set_len I.len hz _, List.mem_cons_self, I.held _ List.mem_cons_self, h, fun _ => hx, fun z => nomatch z⟩
    · rw [List.getElem?_set_ne (Ne.symm ne)]
      exact (I.env j z hz').mono (Gh.le.refl _) (fun q hq => List.mem_cons_of_mem _ hq) fun _ _ => rfl
  · rcases List.mem_cons.mp hq with rfl | hq
    · exact ⟨_, I.held _ List.mem_cons_self⟩
    · exact I.oal q hq
theorem os_inj {os : List (Nat × Addr)} (h : (os.map (·.2)).Nodup) {i j : Nat} {a : Addr} (h1 : (i, a) ∈ os) (h2 : (j, a) ∈ os) : i = j := by
  induction os with
  | nil => cases h1
  | cons q os ih =>
    have hn := List.nodup_cons.mp (show (q.2 :: os.map (·.2)).Nodup from h)
    rcases List.mem_cons.mp h1 with rfl | h1
    · rcases List.mem_cons.mp h2 with e | h2
      · exact (congrArg Prod.fst e).symm
      · exact absurd (List.mem_map.mpr ⟨_, h2, rfl⟩) hn.1
    · rcases List.mem_cons.mp h2 with e | h2'
      · refine absurd ?_ hn.1
        rw [← e]
        exact List.mem_map.mpr ⟨(i, a), h1, rfl⟩
      · exact ih hn.2 h1 h2'
theorem In.osNd (I : In K c X F σ s) : (s.os.map (·.2)).Nodup := (List.nodup_append.mp (List.nodup_append.mp I.nd).2.1).1
theorem In.osMu (I : In K c X F σ s) {q : Nat × Addr} (h : q ∈ s.os) : q.2 ∈ s.mu F := List.mem_append_right _ (List.mem_append_left _ (List.mem_map.mpr ⟨q, h, rfl⟩))
theorem In.osG (I : In K c X F σ s) {q : Nat × Addr} (h : q ∈ s.os) : q.2 ∉ s.g.mu := fun z =>
  (List.nodup_append.mp I.nd).2.2 _ z _ (List.mem_append_left _ (List.mem_map.mpr ⟨q, h, rfl⟩)) rfl
/-- a name's own list is changed -/
theorem In.ownPut (I : In K c X F σ s) {i : Nat} {f : Bool} {a : Addr} {vs : List V} {ds : List Dat} (hs : σ[i]? = some (some (.ref a))) (ha : (i, a) ∈ s.os) (h : Reps K c s.g vs ds) (hf : OwnF X f a) : In K c X F σ ⟨s.g, upd s.H a (.lst vs), s.e.set i (.own f ds), s.w, s.os⟩ := by
  have hm := I.osMu ha
  have hg : s.g.G a = none := I.off a hm
  have ng := I.osG ha
  have nF : ∀ q ∈ F, q.1 ≠ a := fun q hq e =>
    (List.nodup_append.mp (List.nodup_append.mp I.nd).2.1).2.2 a (List.mem_map.mpr ⟨_, ha, rfl⟩) q.1 (List.mem_map.mpr ⟨q, hq, rfl⟩) e.symm
  refine ⟨I.wr.mono (Gh.le.refl _) rfl rfl rfl (by obtain ⟨vs0, e0⟩ := I.oal _ ha; exact CKeep.upd e0 noC_lst) (fun b u e => ?_) (fun b hb => I.wr.off b hb) (fun b hb => upd_ne (fun e => ng (e ▸ hb))), I.nd, I.off, by show (s.e.set i _).length = _; rw [List.length_set]; exact I.len, fun j z hz => ?_, fun q hq => ?_, fun q hq => ?_, I.le, fun b u e n1 n2 => ?_, I.frz, I.new, fun b u e => ?_⟩
  · have e' := I.wr.sub b u e
    show upd s.H a _ b = some u
    rw [upd_ne (fun z => by subst z; rw [hg] at e; cases e)]; exact e'
  · rcases set_get hz with ⟨rfl, rfl⟩ | ⟨ne, hz'⟩
    · exact ⟨a, vs, hs, ha, upd_same, h, hf⟩
    · have h' := I.env j z hz'
      cases z with
      | no => trivial
      | val d => exact h'
      | own f' dl =>
        obtain ⟨b, ws, h1, h2, h3, h4, h5⟩ := h'
        refine ⟨b, ws, h1, h2, ?_, h4, h5⟩
        show upd s.H a _ b = _
        rw [upd_ne (fun (e : b = a) => ne (os_inj I.osNd (by rw [← e]; exact h2) ha))]; exact h3
      | ownT dl dr =>
        obtain ⟨p, b, us, ws, h1, h2, h3, h4, h5, h6, h7⟩ := h'
        refine ⟨p, b, us, ws, h1, h2, h3, h4, ?_, h6, h7⟩
        show upd s.H a _ b = _
        rw [upd_ne (fun (e : b = a) => ne (os_inj I.osNd (by rw [← e]; exact h2) ha))]; exact h5
  · show upd s.H a _ q.1 = _
    rw [upd_ne (nF q hq)]; exact I.held q hq
  · by_cases e : q.2 = a
    · exact ⟨_, by show upd s.H a _ q.2 = _; rw [e]; exact upd_same⟩
    · obtain ⟨u, hu⟩ := I.oal q hq
      exact ⟨u, by show upd s.H a _ q.2 = _; rw [upd_ne e]; exact hu⟩
  · have e' := I.keep b u e n1 n2
    show upd s.H a _ b = some u
    rw [upd_ne (fun z => by
      subst z
      rcases I.new b hm with z | z | z
      · exact n1 z
      · exact n2 z
      · rw [z] at e; cases e)]
    exact e'
  · by_cases z : b = a
    · exact ⟨_, by show upd s.H a _ b = _; rw [z]; exact upd_same⟩
    · obtain ⟨u', e'⟩ := I.dom b u e
      exact ⟨u', by show upd s.H a _ b = _; rw [upd_ne z]; exact e'⟩
/-- what is held is changed -/
theorem In.heldPut {o' : HO} (I : In K c X ((p, o) :: F) σ s) (hx : X.H p = none) (hno : NoC o) : In K c X ((p, o') :: F) σ ⟨s.g, upd s.H p o', s.e, s.w, s.os⟩ := by
  have hpm := mu_cons s (p, o) F
  have hm : p ∈ s.mu ((p, o) :: F) := hpm.mem_iff.mpr List.mem_cons_self
  have hnd := List.nodup_cons.mp (hpm.nodup_iff.mp I.nd)
  have hg : s.g.G p = none := I.off p hm
  have ne : ∀ a ∈ s.mu F, a ≠ p := fun a ha e => hnd.1 (e ▸ ha)
  refine ⟨I.wr.mono (Gh.le.refl _) rfl rfl rfl (CKeep.upd (I.held _ List.mem_cons_self) hno) (fun b u e => ?_) (fun b hb => I.wr.off b hb) (fun b hb => upd_ne (ne b (List.mem_append_left _ hb))), I.nd, I.off, I.len, fun j z hz => (I.env j z hz).mono (Gh.le.refl _) (fun _ h => h) (fun q hq => upd_ne (ne _ (List.mem_append_right _ (List.mem_append_left _ (List.mem_map.mpr ⟨q, hq, rfl⟩))))), fun q hq => ?_, fun q hq => ?_, I.le, fun b u e n1 n2 => ?_, I.frz, I.new, fun b u e => ?_⟩
  · have e' := I.wr.sub b u e
    show upd s.H p _ b = some u
    rw [upd_ne (fun z => by subst z; rw [hg] at e; cases e)]; exact e'
  · show upd s.H p _ q.1 = _
    rcases List.mem_cons.mp hq with rfl | hq
    · exact upd_same
    · rw [upd_ne (ne _ (List.mem_append_right _ (List.mem_append_right _ (List.mem_map.mpr ⟨q, hq, rfl⟩))))]; exact I.held q (List.mem_cons_of_mem _ hq)
  · obtain ⟨u, hu⟩ := I.oal q hq
    exact ⟨u, by show upd s.H p _ q.2 = _; rw [upd_ne (ne _ (List.mem_append_right _ (List.mem_append_left _ (List.mem_map.mpr ⟨q, hq, rfl⟩))))]; exact hu⟩
  · have e' := I.keep b u e n1 n2
    show upd s.H p _ b = some u
    rw [upd_ne (ne_of_none e hx)]; exact e'
  · obtain ⟨u', e'⟩ := I.dom b u e
    exact ⟨u', by show upd s.H p _ b = _; rw [upd_ne (ne_of_none e hx)]; exact e'⟩
/-- behind a call -/
theorem In.call (I : In K c X F σ s) {g' : Gh} {H' : Hp} {w' : Wld} (A : Aft s.g s.H g' H') (W : Wr K c g' H' w') : In K c X F σ ⟨g', H', s.e, w', s.os⟩ := by
  have hk : ∀ a ∈ s.os.map (·.2) ++ F.map (·.1), ∀ o, s.H a = some o → H' a = some o := fun a ha o e => A.keep a o e fun z => (List.nodup_append.mp I.nd).2.2 a z a ha rfl
  have ho : ∀ q ∈ s.os, H' q.2 = s.H q.2 := fun q hq => by
    obtain ⟨o, e⟩ := I.oal q hq
    rw [e]; exact hk _ (List.mem_append_left _ (List.mem_map.mpr ⟨q, hq, rfl⟩)) _ e
  have hal : ∀ a ∈ s.os.map (·.2) ++ F.map (·.1), ∃ o, s.H a = some o := fun a ha => I.al (List.mem_append_right _ ha)
  refine ⟨W, ?_, fun a ha => ?_, I.len, fun i z hz => (I.env i z hz).mono A.le (fun q hq => hq) ho, fun q hq => ?_, fun q hq => ?_, I.le.trans A.le, fun a u e n1 n2 => ?_, fun a u e => ?_, fun a ha => ?_, fun a u e => ?_⟩
  · refine List.nodup_append.mpr ⟨W.nd, (List.nodup_append.mp I.nd).2.1, fun x hx y hy e => ?_⟩
    subst e
    rcases A.new x hx with z | z
    · exact (List.nodup_append.mp I.nd).2.2 x z x hy rfl
    · obtain ⟨o, e⟩ := hal x hy
      rw [z] at e; cases e
  · rcases List.mem_append.mp ha with ha | ha
    · exact W.off a ha
    · obtain ⟨o, e⟩ := hal a ha
      show g'.G a = none
      rw [A.frz a o e]
      exact I.off a (List.mem_append_right _ ha)
  · exact hk _ (List.mem_append_right _ (List.mem_map.mpr ⟨q, hq, rfl⟩)) _ (I.held q hq)
  · obtain ⟨o, e⟩ := I.oal q hq
    exact ⟨o, (ho q hq).trans e⟩
  · refine A.keep a u (I.keep a u e n1 n2) fun z => ?_
    rcases I.new a (List.mem_append_left _ z) with z | z | z
    · exact n1 z
    · exact n2 z
    · rw [z] at e; cases e
  · obtain ⟨u', e'⟩ := I.dom a u e
    show g'.G a = _
    rw [A.frz a u' e', I.frz a u e]
  · rcases List.mem_append.mp ha with ha | ha
    · rcases A.new a ha with z | z
      · exact I.new a (List.mem_append_left _ z)
      · exact .inr (.inr (I.fresh z))
    · exact I.new a (List.mem_append_right _ ha)
  · obtain ⟨u', e'⟩ := I.dom a u e
    exact A.dom a u' e'
end
end Pu
namespace Pu
open PySem L2 Eng
section
variable (K : PySem.W.Frag) (c : Pc)
def SndE (t : TE) (p : PE) : Prop := ∀ (X : En) (F : List (Addr × HO)) (σ : L2.St) (s : Cf) (k : PQ) (Q : VK), In K c X F σ s → p s.e s.w k → (∀ v d s', s.g.le s'.g → In K c X F σ s' → Rep K c s'.g v d → k d s'.e s'.w → Q v s'.H) → t σ s.H Q
def SndF (t : TE) (p : PF) : Prop := ∀ (X : En) (F : List (Addr × HO)) (σ : L2.St) (s : Cf) (k : List Dat → Env → Wld → Prop) (Q : VK), In K c X F σ s → p s.e s.w k → (∀ a vs ds s', s.g.le s'.g → X.H a = none → In K c X ((a, .lst vs) :: F) σ s' → Reps K c s'.g vs ds → k ds s'.e s'.w → Q (.ref a) s'.H) → t σ s.H Q
def SndT (t : TT) (p : PT) : Prop := ∀ (X : En) (F : List (Addr × HO)) (σ : L2.St) (s : Cf) (k : Bool → Env → Wld → Prop) (Q : Bool → Hp → Prop), In K c X F σ s → p s.e s.w k → (∀ b s', s.g.le s'.g → In K c X F σ s' → k b s'.e s'.w → Q b s'.H) → t σ s.H Q
def SndA (t : TA) (p : PA) : Prop := ∀ (X : En) (F : List (Addr × HO)) (σ : L2.St) (s : Cf) (k : List Dat → Env → Wld → Prop) (Q : List V → Hp → Prop), In K c X F σ s → p s.e s.w k → (∀ vs ds s', s.g.le s'.g → In K c X F σ s' → Reps K c s'.g vs ds → k ds s'.e s'.w → Q vs s'.H) → t σ s.H Q
def SndO (t : TO) (p : PO) : Prop := ∀ (X : En) (F : List (Addr × HO)) (σ : L2.St) (s : Cf) (k : Option Int → Env → Wld → Prop) (Q : Option Int → Hp → Prop), In K c X F σ s → p s.e s.w k → (∀ b s', s.g.le s'.g → In K c X F σ s' → k b s'.e s'.w → Q b s'.H) → t σ s.H Q
def SndG (t : TG) (p : PG) : Prop := ∀ (X : En) (F : List (Addr × HO)) (σ : L2.St) (s : Cf) (v : V) (d : Dat) (k : Env → Wld → Prop) (Q : L2.St → Hp → Prop), In K c X F σ s → Rep K c s.g v d → p d s.e s.w k → (∀ σ' s', s.g.le s'.g → In K c X F σ' s' → k s'.e s'.w → Q σ' s'.H) → t v σ s.H Q
structure SEnds (X : En) (F : List (Addr × HO)) (g : Gh) (D : Ends) (Dp : PEnds) : Prop where
  nx : ∀ σ s, g.le s.g → In K c X F σ s → Dp.nx s.e s.w → D.nx σ s.H
  rt : ∀ σ s v d, g.le s.g → In K c X F σ s → Rep K c s.g v d → Dp.rt d s.e s.w → D.rt v s.H
  bk : ∀ σ s, g.le s.g → In K c X F σ s → Dp.bk s.e s.w → D.bk σ s.H
  ct : ∀ σ s, g.le s.g → In K c X F σ s → Dp.ct s.e s.w → D.ct σ s.H
def SndS (t : TS) (p : PS) : Prop := ∀ (X : En) (F : List (Addr × HO)) (σ : L2.St) (s : Cf) (D : Ends) (Dp : PEnds), In K c X F σ s → p Dp s.e s.w → SEnds K c X F s.g D Dp → t D σ s.H
/-- an operand: data, or a list that a name holds -/
def RepW (s : Cf) (v : V) (d : Dat) : Prop := Rep K c s.g v d ∨ ∃ a vs ds, v = .ref a ∧ d = .lst ds ∧ s.H a = some (.lst vs) ∧ Reps K c s.g vs ds
def SndR2 (r : R2) (q : Q2) : Prop := ∀ (X : En) (F : List (Addr × HO)) (σ : L2.St) (s : Cf) (x y : V) (dx dy : Dat) (k : Dat → Prop) (Q : VK), In K c X F σ s → RepW K c s x dx → RepW K c s y dy → q dx dy k → (∀ v d s', s.g.le s'.g → In K c X F σ s' → s'.e = s.e → s'.w = s.w → Rep K c s'.g v d → k d → Q v s'.H) → r x y s.H Q
def SndR2F (r : R2) (q : Dat → Dat → (List Dat → Prop) → Prop) : Prop := ∀ (X : En) (F : List (Addr × HO)) (σ : L2.St) (s : Cf) (x y : V) (dx dy : Dat) (k : List Dat → Prop) (Q : VK), In K c X F σ s → RepW K c s x dx → RepW K c s y dy → q dx dy k → (∀ a vs ds s', s.g.le s'.g → X.H a = none → In K c X ((a, .lst vs) :: F) σ s' → s'.e = s.e → s'.w = s.w → Reps K c s'.g vs ds → k ds → Q (.ref a) s'.H) → r x y s.H Q
def SndRL (r : List V → Hp → VK → Prop) (q : QL) : Prop := ∀ (X : En) (F : List (Addr × HO)) (σ : L2.St) (s : Cf) (vs : List V) (ds : List Dat) (k : Dat → Prop) (Q : VK), In K c X F σ s → Paired (RepW K c s) vs ds → q ds k → (∀ v d s', s.g.le s'.g → In K c X F σ s' → s'.e = s.e → s'.w = s.w → Rep K c s'.g v d → k d → Q v s'.H) → r vs s.H Q
end
section
variable {K : PySem.W.Frag} {c : Pc} {X : En} {F : List (Addr × HO)} {σ : L2.St} {s : Cf} {ta tb tc te : TE} {pa pb pc' pe : PE} {tT tU : TT} {pT pU : PT} {tr : TA} {pr : PA} {ts tu : TS} {ps pu : PS} {r r' : R2} {q q' : Q2} {P : PSp} {sp : Sp} {E : XK} {i : Nat}
theorem RepW.int {v : V} {n : Int} (h : RepW K c s v (.int n)) : v = .int n := by
  rcases h with h | ⟨_, _, _, _, e, _⟩
  · exact h.intI
  · cases e
theorem RepW.bl {v : V} {n : Bool} (h : RepW K c s v (.bl n)) : v = .bl n := by
  rcases h with h | ⟨_, _, _, _, e, _⟩
  · exact h.blI
  · cases e
theorem RepW.str {v : V} {n : Str} (h : RepW K c s v (.str n)) : v = .str n := by
  rcases h with h | ⟨_, _, _, _, e, _⟩
  · exact h.strI
  · cases e
theorem RepW.non {v : V} (h : RepW K c s v .non) : v = .non := by
  rcases h with h | ⟨_, _, _, _, e, _⟩
  · exact h.nonI
  · cases e
theorem RepW.lst {v : V} {ds : List Dat} (h : RepW K c s v (.lst ds)) (I : In K c X F σ s) : ∃ a vs, v = .ref a ∧ s.H a = some (.lst vs) ∧ Reps K c s.g vs ds := by
  rcases h with h | ⟨a, vs, ds', e, e2, h1, h2⟩
  · cases h with
    | lst h1 h2 => exact ⟨_, _, rfl, I.wr.sub _ _ h1, h2⟩
  · cases e2
    exact ⟨a, vs, e, h1, h2⟩
theorem RepW.cst {v : V} {ds : List Dat} (h : RepW K c s v (.cst ds)) (I : In K c X F σ s) : ∃ a vs, v = .ref a ∧ SqL K s.H a vs ∧ Reps K c s.g vs ds := by
  rcases h with h | ⟨a, vs, ds', e, e2, h1, h2⟩
  · cases h with
    | cst h1 h2 => exact ⟨_, _, rfl, sqL_mono I.wr.sub h1, h2⟩
  · cases e2
theorem RepW.tup {v : V} {ds : List Dat} (h : RepW K c s v (.tup ds)) (I : In K c X F σ s) : ∃ a vs, v = .ref a ∧ SqT K s.H a vs ∧ Reps K c s.g vs ds := by
  rcases h with h | ⟨a, vs, ds', e, e2, h1, h2⟩
  · cases h with
    | tup h1 h2 => exact ⟨_, _, rfl, SqT.of (I.wr.sub _ _ h1), h2⟩
  · cases e2
theorem RepW.big {v : V} {b : Nat} {n : Int} (h : RepW K c s v (.big b n)) (I : In K c X F σ s) : ∃ a, v = .ref a ∧ BigAt c s.H a b n := by
  rcases h with h | ⟨a, vs, ds', e, e2, h1, h2⟩
  · cases h with
    | big h1 => exact ⟨_, rfl, bigAt_mono I.wr.sub h1⟩
  · cases e2
theorem snd_var : SndE K c (tVar i) (pVar i) := by
  intro X F σ s k Q I h hQ
  unfold pVar at h
  cases e : s.e[i]? with
  | none => rw [e] at h; exact h.elim
  | some z =>
    rw [e] at h
    cases z with
    | no => exact h.elim
    | own f l => exact h.elim
    | ownT l r => exact h.elim
    | val d =>
      obtain ⟨v, h1, h2⟩ := I.env i _ e
      exact ⟨v, h1, hQ v d s (Gh.le.refl _) I h2 h⟩
theorem snd_c {v : V} {d : Dat} (h : ∀ g : Gh, Rep K c g v d) : SndE K c (tC v) (pC d) := fun X F σ s k Q I hp hQ => hQ v d s (Gh.le.refl _) I (h s.g) hp
theorem snd_int (n : Int) : SndE K c (tC (.int n)) (pC (.int n)) := snd_c fun _ => .int n
theorem snd_str (n : Str) : SndE K c (tC (.str n)) (pC (.str n)) := snd_c fun _ => .str n
theorem snd_bl (n : Bool) : SndE K c (tC (.bl n)) (pC (.bl n)) := snd_c fun _ => .bl n
theorem snd_non : SndE K c (tC .non) (pC .non) := snd_c fun _ => .non
theorem snd_opq (v : V) : SndE K c (tC v) (pC (.opq v)) := snd_c fun _ => .opq v
theorem snd_op (hr : SndR2 K c r q) (ha : SndE K c ta pa) (hb : SndE K c tb pb) : SndE K c (tOp r ta tb) (pOp q pa pb) := by
  intro X F σ s k Q I h hQ
  refine ha X F σ s _ _ I h fun x dx s1 l1 I1 r1 h1 => ?_
  refine hb X F σ s1 _ _ I1 h1 fun y dy s2 l2 I2 r2 h2 => ?_
  refine hr X F σ s2 x y dx dy _ _ I2 (.inl (r1.mono l2)) (.inl r2) h2 fun v d s3 l3 I3 e3 w3 r3 h3 => ?_
  refine hQ v d s3 ((l1.trans l2).trans l3) I3 r3 ?_
  rw [e3, w3]; exact h3
theorem snd_opF {q : Dat → Dat → (List Dat → Prop) → Prop} (hr : SndR2F K c r q) (ha : SndE K c ta pa) (hb : SndE K c tb pb) : SndF K c (tOp r ta tb) (pOpF q pa pb) := by
  intro X F σ s k Q I h hQ
  refine ha X F σ s _ _ I h fun x dx s1 l1 I1 r1 h1 => ?_
  refine hb X F σ s1 _ _ I1 h1 fun y dy s2 l2 I2 r2 h2 => ?_
  refine hr X F σ s2 x y dx dy _ _ I2 (.inl (r1.mono l2)) (.inl r2) h2 fun a vs ds s3 l3 hx I3 e3 w3 r3 h3 => ?_
  refine hQ a vs ds s3 ((l1.trans l2).trans l3) hx I3 r3 ?_
  rw [e3, w3]; exact h3
theorem ownAt_of {e : Env} {i : Nat} {k : Bool → List Dat → Prop} (h : ownAt e i k) : ∃ f l, e[i]? = some (.own f l) ∧ k f l := by
  unfold ownAt at h
  cases z : e[i]? with
  | none => rw [z] at h; exact h.elim
  | some y =>
    rw [z] at h
    cases y with
    | no => exact h.elim
    | val d => exact h.elim
    | ownT l r => exact h.elim
    | own f l => exact ⟨f, l, rfl, h⟩
theorem In.own (I : In K c X F σ s) {f : Bool} {l : List Dat} (h : s.e[i]? = some (.own f l)) : ∃ a vs, σ[i]? = some (some (.ref a)) ∧ (i, a) ∈ s.os ∧ s.H a = some (.lst vs) ∧ Reps K c s.g vs l ∧ OwnF X f a := I.env i _ h
theorem snd_un {ru : V → Hp → VK → Prop} {q : Q1} (hr : ∀ (s : Cf) x d, Rep K c s.g x d → ∀ (k : Dat → Prop) (Q : VK), q d k → (∀ v d', Rep K c s.g v d' → k d' → Q v s.H) → ru x s.H Q) (ha : SndE K c ta pa) : SndE K c (tUn ru ta) (pUn q pa) := by
  intro X F σ s k Q I h hQ
  refine ha X F σ s _ _ I h fun x dx s1 l1 I1 r1 h1 => ?_
  exact hr s1 x dx r1 _ _ h1 fun v d' r2 h2 => hQ v d' s1 l1 I1 r2 h2
theorem isB_of {d : Dat} {k : Bool → Prop} (h : isB d k) : ∃ b, d = .bl b ∧ k b := by
  cases d with
  | bl b => exact ⟨b, rfl, h⟩
  | _ => exact h.elim
theorem snd_test (ha : SndE K c ta pa) : SndT K c (tTest ta) (pTest pa) := by
  intro X F σ s k Q I h hQ
  refine ha X F σ s _ _ I h fun x dx s1 l1 I1 r1 h1 => ?_
  replace h1 := isB_of h1
  obtain ⟨b, rfl, h1⟩ := h1
  exact ⟨b, r1.blI, hQ b s1 l1 I1 h1⟩
theorem snd_tB (ha : SndE K c ta pa) : SndT K c (L2.tB ta) (pTest pa) := snd_test ha
theorem snd_not (ha : SndT K c tT pT) : SndT K c (tNot tT) (pNot pT) := fun X F σ s k Q I h hQ => ha X F σ s _ _ I h fun b s1 l1 I1 h1 => hQ _ s1 l1 I1 h1
theorem snd_or (ha : SndT K c tT pT) (hb : SndT K c tU pU) : SndT K c (tOr tT tU) (pOr pT pU) := by
  intro X F σ s k Q I h hQ
  refine ha X F σ s _ _ I h fun b s1 l1 I1 h1 => ?_
  by_cases hb' : b = true
  · rw [if_pos hb'] at h1 ⊢
    exact hQ _ s1 l1 I1 h1
  · rw [if_neg hb'] at h1 ⊢
    exact hb X F σ s1 _ _ I1 h1 fun b s2 l2 I2 h2 => hQ b s2 (l1.trans l2) I2 h2
theorem snd_andV (ha : SndE K c ta pa) (hb : SndE K c tb pb) : SndE K c (tAndV ta tb) (pAndV pa pb) := by
  intro X F σ s k Q I h hQ
  refine ha X F σ s _ _ I h fun x dx s1 l1 I1 r1 h1 => ?_
  replace h1 := isB_of h1
  obtain ⟨b, rfl, h1⟩ := h1
  refine ⟨b, r1.blI, ?_⟩
  by_cases hb' : b = true
  · rw [if_pos hb'] at h1 ⊢
    exact hb X F σ s1 _ _ I1 h1 fun v d s2 l2 I2 r2 h2 => hQ v d s2 (l1.trans l2) I2 r2 h2
  · rw [if_neg hb'] at h1 ⊢
    exact hQ _ _ s1 l1 I1 (.bl _) h1
theorem snd_orV (ha : SndE K c ta pa) (hb : SndE K c tb pb) : SndE K c (tOrV ta tb) (pOrV pa pb) := by
  intro X F σ s k Q I h hQ
  refine ha X F σ s _ _ I h fun x dx s1 l1 I1 r1 h1 => ?_
  replace h1 := isB_of h1
  obtain ⟨b, rfl, h1⟩ := h1
  refine ⟨b, r1.blI, ?_⟩
  by_cases hb' : b = true
  · rw [if_pos hb'] at h1 ⊢
    exact hQ _ _ s1 l1 I1 (.bl _) h1
  · rw [if_neg hb'] at h1 ⊢
    exact hb X F σ s1 _ _ I1 h1 fun v d s2 l2 I2 r2 h2 => hQ v d s2 (l1.trans l2) I2 r2 h2
theorem snd_if (hc : SndT K c tT pT) (ha : SndE K c ta pa) (hb : SndE K c tb pb) : SndE K c (tIf tT ta tb) (pIf pT pa pb) := by
  intro X F σ s k Q I h hQ
  refine hc X F σ s _ _ I h fun b s1 l1 I1 h1 => ?_
  by_cases hb' : b = true
  · rw [if_pos hb'] at h1 ⊢
    exact ha X F σ s1 _ _ I1 h1 fun v d s2 l2 I2 r2 h2 => hQ v d s2 (l1.trans l2) I2 r2 h2
  · rw [if_neg hb'] at h1 ⊢
    exact hb X F σ s1 _ _ I1 h1 fun v d s2 l2 I2 r2 h2 => hQ v d s2 (l1.trans l2) I2 r2 h2
theorem snd_chain (hr : SndR2 K c r q) (hr' : SndR2 K c r' q') (ha : SndE K c ta pa) (hb : SndE K c tb pb) (hc : SndE K c tc pc') : SndE K c (tChain r r' ta tb tc) (pChain q q' pa pb pc') := by
  intro X F σ s k Q I h hQ
  refine ha X F σ s _ _ I h fun x dx s1 l1 I1 r1 h1 => ?_
  refine hb X F σ s1 _ _ I1 h1 fun y dy s2 l2 I2 r2 h2 => ?_
  refine hr X F σ s2 x y dx dy _ _ I2 (.inl (r1.mono l2)) (.inl r2) h2 fun v d s3 l3 I3 e3 w3 r3 h3 => ?_
  replace h3 := isB_of h3
  obtain ⟨b, rfl, h3⟩ := h3
  refine ⟨b, r3.blI, ?_⟩
  by_cases hb' : b = true
  · rw [if_pos hb'] at h3 ⊢
    rw [← e3, ← w3] at h3
    refine hc X F σ s3 _ _ I3 h3 fun z dz s4 l4 I4 r4 h4 => ?_
    refine hr' X F σ s4 y z dy dz _ _ I4 (.inl ((r2.mono l3).mono l4)) (.inl r4) h4 fun v d s5 l5 I5 e5 w5 r5 h5 => ?_
    refine hQ v d s5 ((((l1.trans l2).trans l3).trans l4).trans l5) I5 r5 ?_
    rw [e5, w5]; exact h5
  · rw [if_neg hb'] at h3 ⊢
    refine hQ _ _ s3 ((l1.trans l2).trans l3) I3 (.bl _) ?_
    rw [e3, w3]; exact h3
theorem snd_nil : SndA K c tNil pNil := fun X F σ s k Q I h hQ => hQ [] [] s (Gh.le.refl _) I .nil h
theorem snd_cons (ha : SndE K c ta pa) (hr : SndA K c tr pr) : SndA K c (tCons ta tr) (pCons pa pr) := by
  intro X F σ s k Q I h hQ
  refine ha X F σ s _ _ I h fun x dx s1 l1 I1 r1 h1 => ?_
  refine hr X F σ s1 _ _ I1 h1 fun vs ds s2 l2 I2 r2 h2 => ?_
  exact hQ _ _ s2 (l1.trans l2) I2 (.cons (r1.mono l2) r2) h2
theorem snd_call (hp : SndP K c sp P) (hr : SndA K c tr pr) : SndE K c (tCall sp [] E tr) (pCall P pr) := by
  intro X F σ s k Q I h hQ
  refine hr X F σ s _ _ I h fun vs ds s1 l1 I1 r1 h1 => ?_
  rw [List.append_nil]
  refine hp s1.g s1.H s1.w vs ds _ _ E I1.wr r1 h1 fun v d g' H' w' A W r2 h2 => ?_
  exact hQ v d ⟨g', H', s1.e, w', s1.os⟩ (l1.trans A.le) (I1.call A W) r2 h2
theorem reps_getD {g : Gh} {vs : List V} {ds : List Dat} (h : Reps K c g vs ds) (i : Nat) : Rep K c g (vs.getD i .non) (ds.getD i .non) := by
  rw [List.getD_eq_getElem?_getD, List.getD_eq_getElem?_getD]
  cases e : ds[i]? with
  | none =>
    have : vs[i]? = none := List.getElem?_eq_none_iff.mpr (by rw [h.length]; exact List.getElem?_eq_none_iff.mp e)
    rw [this]; exact .non
  | some d =>
    obtain ⟨v, e2, r⟩ := h.get e
    rw [e2]; exact r
theorem reps_perm {g : Gh} {vs : List V} {ds : List Dat} (h : Reps K c g vs ds) : ∀ (ix : List Nat), Reps K c g (perm ix vs) (ix.map fun i => ds.getD i .non)
  | [] => .nil
  | i :: ix => .cons (reps_getD h i) (reps_perm h ix)
theorem snd_kw {n : Nat} {ix : List Nat} (hp : SndP K c sp P) (hr : SndA K c tr pr) : SndE K c (tKw n sp (perm ix) E tr) (pKw n P ix pr) := by
  intro X F σ s k Q I h hQ
  refine hr X F σ s _ _ I h fun vs ds s1 l1 I1 r1 h1 => ?_
  refine ⟨r1.length.trans h1.1, ?_⟩
  refine hp s1.g s1.H s1.w _ _ _ _ E I1.wr (reps_perm r1 ix) h1.2 fun v d g' H' w' A W r2 h2 => ?_
  exact hQ v d ⟨g', H', s1.e, w', s1.os⟩ (l1.trans A.le) (I1.call A W) r2 h2
def pMethM (P : PSp) (a : PE) (r : PA) : PE := fun e w k => a e w fun x e w => match x with | .mach i => r e w fun ds e w => P (.mach i :: ds) w fun d w => k d e w | _ => False
def pMethB (P : PSp) (a : PE) (r : PA) : PE := fun e w k => a e w fun x e w => match x with | .big b n => r e w fun ds e w => P (.big b n :: ds) w fun d w => k d e w | _ => False
theorem Wr.ins {g : Gh} {H : Hp} {w : Wld} (W : Wr K c g H w) {i : Nat} {v : V} (h : Rep K c g v (.mach i)) : ∃ q m dx, g.ms[i]? = some q ∧ w.ms[i]? = some m ∧ v = .ref q.1 ∧ H q.1 = some (.ins c.CMachine dx (mF m.b m.cut q.2.1 q.2.2)) ∧ MRep K c g H q m := by
  cases h with
  | mach h =>
    rename_i q
    have hl : i < w.ms.length := by rw [← W.mlen]; exact (List.getElem?_eq_some_iff.mp h).1
    have hm := W.mach i q _ h (List.getElem?_eq_getElem hl)
    obtain ⟨dx, e⟩ := hm.ins
    exact ⟨q, _, dx, h, List.getElem?_eq_getElem hl, rfl, W.sub _ _ e, hm⟩
theorem snd_methM {f : Str} (hf : (f == "entered" || f == "counts" || f == "base" || f == "limit_of_rows" || f == "width") = false) (hp : SndP K c sp P) (ha : SndE K c ta pa) (hr : SndA K c tr pr) : SndE K c (tMeth c.CMachine f sp [] E ta tr) (pMethM P pa pr) := by
  intro X F σ s k Q I h hQ
  refine ha X F σ s _ _ I h fun x dx s1 l1 I1 r1 h1 => ?_
  cases dx with
  | mach i =>
    obtain ⟨q, m, dx, _, _, e, hi, _⟩ := I1.wr.ins r1
    subst e
    refine ⟨q.1, dx, _, rfl, hi, mF_meth' hf, ?_⟩
    refine hr X F σ s1 _ _ I1 h1 fun vs ds s2 l2 I2 r2 h2 => ?_
    rw [List.append_nil]
    refine hp s2.g s2.H s2.w _ _ _ _ E I2.wr (.cons (r1.mono l2) r2) h2 fun v d g' H' w' A W r3 h3 => ?_
    exact hQ v d ⟨g', H', s2.e, w', s2.os⟩ ((l1.trans l2).trans A.le) (I2.call A W) r3 h3
  | _ => exact h1.elim
theorem snd_tup (hr : SndA K c tr pr) : SndE K c (tTup tr) (pTup pr) := by
  intro X F σ s k Q I h hQ
  refine hr X F σ s _ _ I h fun vs ds s1 l1 I1 r1 h1 => ?_
  refine ⟨by rw [r1.length]; exact h1.1, fun p hp => ?_⟩
  have hg := I1.offG hp
  have le := gUpd_le (o := .tup vs) hg
  exact hQ _ _ ⟨gUpd s1.g p (.tup vs), upd s1.H p (.tup vs), s1.e, s1.w, s1.os⟩ (l1.trans le) (I1.newG hp) (.tup (show upd s1.g.G p _ p = _ from upd_same) (r1.mono le)) h1.2
theorem snd_lst (hr : SndA K c tr pr) : SndF K c (tLst tr) (pLst pr) := by
  intro X F σ s k Q I h hQ
  refine hr X F σ s _ _ I h fun vs ds s1 l1 I1 r1 h1 => ?_
  refine ⟨by rw [r1.length]; exact h1.1, fun p hp => ?_⟩
  exact hQ p vs ds ⟨s1.g, upd s1.H p (.lst vs), s1.e, s1.w, s1.os⟩ l1 (I1.fresh hp) (I1.newF hp) r1 h1.2
theorem snd_fz {pf : PF} (ha : SndF K c ta pf) : SndE K c ta (pFz pf) := by
  intro X F σ s k Q I h hQ
  refine ha X F σ s _ _ I h fun a vs ds s1 l1 hx I1 r1 h1 => ?_
  have hm : a ∈ s1.mu ((a, .lst vs) :: F) := (mu_cons s1 (a, .lst vs) F).mem_iff.mpr List.mem_cons_self
  have le := gUpd_le (o := .lst vs) (I1.off a hm)
  exact hQ _ _ ⟨gUpd s1.g a (.lst vs), s1.H, s1.e, s1.w, s1.os⟩ (l1.trans le) (I1.frzF hx) (.lst (show upd s1.g.G a _ a = _ from upd_same) (r1.mono le)) h1
theorem pairW {s : Cf} : ∀ {vs : List V} {ds : List Dat}, Reps K c s.g vs ds → Paired (RepW K c s) vs ds
  | _, _, .nil => .nil
  | _, _, .cons h t => .cons (.inl h) (pairW t)
theorem snd_cb {rl : List V → Hp → VK → Prop} {ql : QL} (h' : SndRL K c rl ql) (hr : SndA K c tr pr) : SndE K c (tCB rl tr) (pCB ql pr) := by
  intro X F σ s k Q I h hQ
  refine hr X F σ s _ _ I h fun vs ds s1 l1 I1 r1 h1 => ?_
  refine h' X F σ s1 vs ds _ _ I1 (pairW r1) h1 fun v d s2 l2 I2 e2 w2 r2 h2 => ?_
  refine hQ v d s2 (l1.trans l2) I2 r2 ?_
  rw [e2, w2]; exact h2
theorem snd_cbO {rl : List V → Hp → VK → Prop} {ql : QL} (h' : SndRL K c rl ql) : SndE K c (tCB rl (tCons (tVar i) tNil)) (pCBO ql i) := by
  intro X F σ s k Q I h hQ
  obtain ⟨f, l, e, h⟩ := ownAt_of h
  obtain ⟨a, vs, hs, _, hH, hR, _⟩ := I.own e
  refine ⟨.ref a, hs, ?_⟩
  refine h' X F σ s [.ref a] [.lst l] _ _ I (.cons (.inr ⟨a, vs, l, rfl, rfl, hH, hR⟩) .nil) h fun v d s2 l2 I2 e2 w2 r2 h2 => ?_
  refine hQ v d s2 l2 I2 r2 ?_
  rw [e2, w2]; exact h2
theorem SEnds.mono {D : Ends} {Dp : PEnds} {g g' : Gh} (h : SEnds K c X F g D Dp) (le : g.le g') : SEnds K c X F g' D Dp :=
  ⟨fun σ s l => h.nx σ s (le.trans l), fun σ s v d l => h.rt σ s v d (le.trans l), fun σ s l => h.bk σ s (le.trans l), fun σ s l => h.ct σ s (le.trans l)⟩
theorem snd_seq (ha : SndS K c ts ps) (hb : SndS K c tu pu) : SndS K c (tSeq ts tu) (pSeq ps pu) := by
  intro X F σ s D Dp I h hE
  exact ha X F σ s _ _ I h ⟨fun σ' s' l I' h' => hb X F σ' s' D Dp I' h' (hE.mono l), hE.rt, hE.bk, hE.ct⟩
theorem snd_next : SndS K c tNext pNext := fun X F σ s D Dp I h hE => hE.nx σ s (Gh.le.refl _) I h
theorem snd_break : SndS K c tBreak pBreak := fun X F σ s D Dp I h hE => hE.bk σ s (Gh.le.refl _) I h
theorem snd_never : SndS K c tNever pNever := fun X F σ s D Dp I h hE => h
theorem snd_asg (ha : SndE K c ta pa) : SndS K c (tAsg ta (gName i)) (pAsg pa i) := by
  intro X F σ s D Dp I h hE
  refine ha X F σ s _ _ I h fun x dx s1 l1 I1 r1 h1 => ?_
  exact hE.nx _ ⟨s1.g, s1.H, s1.e.set i (.val dx), s1.w, s1.os⟩ l1 (I1.setV r1) h1
theorem snd_asgO {pf : PF} (ha : SndF K c ta pf) : SndS K c (tAsg ta (gName i)) (pAsgO pf i) := by
  intro X F σ s D Dp I h hE
  refine ha X F σ s _ _ I h fun a vs ds s1 l1 hx I1 r1 h1 => ?_
  exact hE.nx _ ⟨s1.g, s1.H, s1.e.set i (.own true ds), s1.w, (i, a) :: s1.os⟩ l1 (I1.setO r1 hx) h1
theorem snd_asgG {tg : TG} {pg : PG} (ha : SndE K c ta pa) (hg : SndG K c tg pg) : SndS K c (tAsg ta tg) (pAsgG pa pg) := by
  intro X F σ s D Dp I h hE
  refine ha X F σ s _ _ I h fun x dx s1 l1 I1 r1 h1 => ?_
  exact hg X F σ s1 x dx _ _ I1 r1 h1 fun σ' s' l' I' h' => hE.nx σ' s' (l1.trans l') I' h'
theorem snd_gName : SndG K c (gName i) (pgName i) := fun X F σ s v d k Q I r h hQ => hQ _ ⟨s.g, s.H, s.e.set i (.val d), s.w, s.os⟩ (Gh.le.refl _) (I.setV r) h
theorem onSome_of {α : Type} {o : Option α} {k : α → Prop} (h : onSome o k) : ∃ x, o = some x ∧ k x := by
  cases o with
  | none => exact h.elim
  | some x => exact ⟨x, rfl, h⟩
theorem tupOf_of {d : Dat} {k : List Dat → Prop} (h : tupOf d k) : ∃ l, d = .tup l ∧ k l := by
  cases d with
  | tup l => exact ⟨l, rfl, h⟩
  | _ => exact h.elim
theorem intOf_of {d : Dat} {k : Int → Prop} (h : intOf d k) : ∃ l, d = .int l ∧ k l := by
  cases d with
  | int l => exact ⟨l, rfl, h⟩
  | _ => exact h.elim
/-- targets of a tuple, one behind the other -/
def gNames : List Nat → TGs
  | [] => gNil
  | i :: is => gCons (gName i) (gNames is)
theorem In.setAll : ∀ {is : List Nat} {vs : List V} {ds : List Dat} {σ : L2.St} {s : Cf} {e : Env} (I : In K c X F σ s) (r : Reps K c s.g vs ds) (h : setAll s.e is ds = some e) {Q : L2.St → Hp → Prop}, (∀ σ', In K c X F σ' ⟨s.g, s.H, e, s.w, s.os⟩ → Q σ' s.H) → gNames is vs σ s.H Q
  | [], _, _, σ, s, e, I, .nil, h, Q, hQ => by
    simp only [Pu.setAll, Option.some.injEq] at h
    subst h
    exact ⟨rfl, hQ σ I⟩
  | i :: is, _, _, σ, s, e, I, .cons r t, h, Q, hQ => by
    simp only [Pu.setAll] at h
    exact ⟨_, _, rfl, In.setAll (s := ⟨s.g, s.H, s.e.set i (.val _), s.w, s.os⟩) (I.setV r) t h hQ⟩
  | [], _, _, _, _, _, _, .cons _ _, h, _, _ => by simp [Pu.setAll] at h
  | _ :: _, _, _, _, _, _, _, .nil, h, _, _ => by simp [Pu.setAll] at h
theorem setAll_len : ∀ {is : List Nat} {ds : List Dat} {e e' : Env}, setAll e is ds = some e' → ds.length = is.length
  | [], [], _, _, _ => rfl
  | _ :: is, _ :: ds, _, _, h => by simp only [Pu.setAll] at h; simp only [List.length_cons, setAll_len h]
  | [], _ :: _, _, _, h => by simp [Pu.setAll] at h
  | _ :: _, [], _, _, h => by simp [Pu.setAll] at h
theorem snd_gTup {is : List Nat} {n : Nat} (hn : is.length = n) : SndG K c (gTup K n (gNames is)) (pgTup is) := by
  intro X F σ s v d k Q I r h hQ
  replace h := tupOf_of h
  obtain ⟨ds, rfl, h⟩ := h
  obtain ⟨e, he, h⟩ := onSome_of h
  obtain ⟨a, vs, e1, hs, hr⟩ := RepW.tup (.inl r) I
  subst e1
  refine ⟨a, vs, rfl, hs, by rw [hr.length, setAll_len he]; exact hn, ?_⟩
  exact In.setAll I hr he fun σ' I' => hQ σ' ⟨s.g, s.H, e, s.w, s.os⟩ (Gh.le.refl _) I' h
theorem snd_par {j : Nat} (hr : SndA K c tr pr) : SndS K c (tPar i j tr) (pPar [i, j] pr) := by
  intro X F σ s D Dp I h hE
  refine hr X F σ s _ _ I h fun vs ds s1 l1 I1 r1 h1 => ?_
  obtain ⟨e, he, h1⟩ := onSome_of h1
  have := In.setAll (Q := D.nx) I1 r1 he fun σ' I' => hE.nx σ' ⟨s1.g, s1.H, e, s1.w, s1.os⟩ l1 I' h1
  obtain ⟨v, _, rfl, v', _, rfl, rfl, q⟩ := this
  exact ⟨v, v', rfl, q⟩
theorem snd_ret (ha : SndE K c ta pa) : SndS K c (tRet ta) (pRet pa) := by
  intro X F σ s D Dp I h hE
  exact ha X F σ s _ _ I h fun x dx s1 l1 I1 r1 h1 => hE.rt σ s1 x dx l1 I1 r1 h1
theorem snd_drop (ha : SndE K c ta pa) : SndS K c (tDrop ta) (pDrop pa) := by
  intro X F σ s D Dp I h hE
  exact ha X F σ s _ _ I h fun x dx s1 l1 I1 r1 h1 => hE.nx σ s1 l1 I1 h1
theorem snd_ifS (hc : SndT K c tT pT) (ha : SndS K c ts ps) (hb : SndS K c tu pu) : SndS K c (tIfS tT ts tu) (pIfS pT ps pu) := by
  intro X F σ s D Dp I h hE
  refine hc X F σ s _ _ I h fun b s1 l1 I1 h1 => ?_
  by_cases hb' : b = true
  · rw [if_pos hb'] at h1 ⊢
    exact ha X F σ s1 D Dp I1 h1 (hE.mono l1)
  · rw [if_neg hb'] at h1 ⊢
    exact hb X F σ s1 D Dp I1 h1 (hE.mono l1)
theorem snd_append (ha : SndE K c ta pa) : SndS K c (tDrop (tBM K "list" rAppend (tVar i) (tCons ta tNil))) (pAppend i pa) := by
  intro X F σ s D Dp I h hE
  obtain ⟨f0, l0, e0, h⟩ := ownAt_of h
  obtain ⟨a, vs0, hs, ho, hH0, _, _⟩ := I.own e0
  refine ⟨.ref a, hs, .inl ⟨rfl, _, SqL.of hH0⟩, ?_⟩
  refine ha X F σ s _ _ I h fun y dy s2 l2 I2 r2 h2 => ?_
  obtain ⟨f, l, e1, hz, h2⟩ := ownAt_of h2
  obtain ⟨a', vs, hs', ho', hH, hR, hf⟩ := I2.own e1
  rw [hs] at hs'; cases hs'
  exact ⟨a, vs, y, rfl, rfl, hH, by rw [hR.length]; exact hz, hE.nx σ ⟨s2.g, upd s2.H a _, s2.e.set i (.own f (l ++ [dy])), s2.w, s2.os⟩ l2 (I2.ownPut hs ho' (hR.app (.cons r2 .nil)) hf) h2⟩
/-- names whose lists are no more theirs alone -/
theorem In.frz1 (I : In K c X F σ s) : ∃ g', s.g.le g' ∧ ∃ os', (∀ q ∈ os', q ∈ s.os) ∧ In K c X F σ ⟨g', s.H, (match s.e[i]? with | some z => s.e.set i (fz z) | none => s.e), s.w, os'⟩ := by
  cases hz : s.e[i]? with
  | none => exact ⟨s.g, Gh.le.refl _, s.os, fun _ h => h, I⟩
  | some z =>
    have hset : ∀ y, s.e[i]? = some y → s.e.set i y = s.e := fun y hy => by
      obtain ⟨h1, h2⟩ := List.getElem?_eq_some_iff.mp hy
      rw [← h2]; exact List.set_getElem_self h1
    cases z with
    | no => exact ⟨s.g, Gh.le.refl _, s.os, fun _ h => h, by show In K c X F σ ⟨s.g, s.H, s.e.set i .no, s.w, s.os⟩; rw [hset _ hz]; exact I⟩
    | val d => exact ⟨s.g, Gh.le.refl _, s.os, fun _ h => h, by show In K c X F σ ⟨s.g, s.H, s.e.set i (.val d), s.w, s.os⟩; rw [hset _ hz]; exact I⟩
    | ownT l r => exact ⟨s.g, Gh.le.refl _, s.os, fun _ h => h, by show In K c X F σ ⟨s.g, s.H, s.e.set i (.ownT l r), s.w, s.os⟩; rw [hset _ hz]; exact I⟩
    | own f ds =>
     cases f with
     | false => exact ⟨s.g, Gh.le.refl _, s.os, fun _ h => h, by show In K c X F σ ⟨s.g, s.H, s.e.set i (.own false ds), s.w, s.os⟩; rw [hset _ hz]; exact I⟩
     | true =>
      obtain ⟨a, vs, hs, ho, hH, hR, hf⟩ := I.own hz
      have hx : X.H a = none := hf.1 rfl
      -- the name's place moves from the names' lists to what is held, then to what never changes
      have hsp : ∃ l1 l2, s.os = l1 ++ (i, a) :: l2 := List.append_of_mem ho
      obtain ⟨l1, l2, hos⟩ := hsp
      have hp : (s.mu F).Perm (((⟨s.g, s.H, s.e.set i .no, s.w, l1 ++ l2⟩ : Cf)).mu ((a, .lst vs) :: F)) := by
        unfold Cf.mu
        rw [hos]
        refine List.Perm.append_left _ ?_
        simp only [List.map_append, List.map_cons, List.append_assoc, List.cons_append]
        refine List.Perm.append_left _ ?_
        exact (List.perm_middle (l₁ := l2.map (·.2))).symm
      have hsub : ∀ q ∈ l1 ++ l2, q ∈ s.os := fun q hq => by
        rw [hos]
        rcases List.mem_append.mp hq with z | z
        · exact List.mem_append_left _ z
        · exact List.mem_append_right _ (List.mem_cons_of_mem _ z)
      have I1 : In K c X ((a, .lst vs) :: F) σ ⟨s.g, s.H, s.e.set i .no, s.w, l1 ++ l2⟩ := by
        refine ⟨I.wr, hp.nodup_iff.mp I.nd, fun b hb => I.off b (hp.mem_iff.mpr hb), by show (s.e.set i _).length = _; rw [List.length_set]; exact I.len, fun j z hz' => ?_, fun q hq => ?_, fun q hq => I.oal q (hsub q hq), I.le, I.keep, I.frz, fun b hb => I.new b (hp.mem_iff.mpr hb), I.dom⟩
        · rcases set_get hz' with ⟨rfl, rfl⟩ | ⟨ne, hz''⟩
          · trivial
          · have h' := I.env j z hz''
            cases z with
            | no => trivial
            | val d => exact h'
            | own f' dl =>
              obtain ⟨b, ws, h1, h2, h3, h4, h5⟩ := h'
              refine ⟨b, ws, h1, ?_, h3, h4, h5⟩
              show (j, b) ∈ l1 ++ l2
              rw [hos] at h2
              rcases List.mem_append.mp h2 with z | z
              · exact List.mem_append_left _ z
              · rcases List.mem_cons.mp z with z | z
                · exact absurd (congrArg Prod.fst z) ne
                · exact List.mem_append_right _ z
            | ownT dl dr =>
              obtain ⟨p, b, us, ws, h1, h2, h3, h4, h5, h6, h7⟩ := h'
              refine ⟨p, b, us, ws, h1, ?_, h3, h4, h5, h6, h7⟩
              show (j, b) ∈ l1 ++ l2
              rw [hos] at h2
              rcases List.mem_append.mp h2 with z | z
              · exact List.mem_append_left _ z
              · rcases List.mem_cons.mp z with z | z
                · exact absurd (congrArg Prod.fst z) ne
                · exact List.mem_append_right _ z
        · rcases List.mem_cons.mp hq with rfl | hq
          · exact hH
          · exact I.held q hq
      have le := gUpd_le (o := .lst vs) (I.off a (I.osMu ho))
      have I2 := I1.frzF hx
      have hval : Rep K c (gUpd s.g a (.lst vs)) (.ref a) (.lst ds) := .lst (show upd s.g.G a _ a = _ from upd_same) (hR.mono le)
      have I3 := I2.setV (i := i) hval
      have hσ : σ.set i (some (.ref a)) = σ := by
        obtain ⟨h1, h2⟩ := List.getElem?_eq_some_iff.mp hs
        rw [← h2]; exact List.set_getElem_self h1
      rw [hσ] at I3
      refine ⟨gUpd s.g a (.lst vs), le, l1 ++ l2, hsub, ?_⟩
      have e2 : (s.e.set i .no).set i (.val (.lst ds)) = s.e.set i (fz (.own true ds)) := by rw [List.set_set]; rfl
      have I3' : In K c X F σ ⟨gUpd s.g a (.lst vs), s.H, (s.e.set i .no).set i (.val (.lst ds)), s.w, l1 ++ l2⟩ := I3
      rw [e2] at I3'
      exact I3'
theorem In.frzs : ∀ {is : List Nat} {s : Cf} (I : In K c X F σ s), ∃ g', s.g.le g' ∧ ∃ os', (∀ q ∈ os', q ∈ s.os) ∧ In K c X F σ ⟨g', s.H, Pu.frz s.e is, s.w, os'⟩
  | [], s, I => ⟨s.g, Gh.le.refl _, s.os, fun _ h => h, I⟩
  | i :: is, s, I => by
    obtain ⟨g1, l1, os1, hs1, I1⟩ := I.frz1 (i := i)
    obtain ⟨g2, l2, os2, hs2, I2⟩ := In.frzs (is := is) I1
    exact ⟨g2, l1.trans l2, os2, fun q hq => hs1 q (hs2 q hq), I2⟩
theorem snd_frz {is : List Nat} (ha : SndS K c ts ps) : SndS K c ts (pFrz is ps) := by
  intro X F σ s D Dp I h hE
  obtain ⟨g', l', os', _, I'⟩ := I.frzs (is := is)
  exact ha X F σ ⟨g', s.H, Pu.frz s.e is, s.w, os'⟩ D Dp I' h (hE.mono l')
theorem snd_while (hc : SndT K c tT pT) (hb : SndS K c ts ps) : SndS K c (tWhile tT ts) (pWhile pT ps) := by
  intro X F σ s D Dp I h hE
  obtain ⟨n, h⟩ := h
  refine ⟨fun m σ' H' => ∃ s' : Cf, s'.H = H' ∧ s.g.le s'.g ∧ In K c X F σ' s' ∧ whl pT ps Dp m s'.e s'.w, ⟨n, s, rfl, Gh.le.refl _, I, h⟩, ?_⟩
  rintro m σ1 H1 ⟨s1, rfl, l1, I1, h1⟩
  cases m with
  | zero => exact h1.elim
  | succ m =>
    refine hc X F σ1 s1 _ _ I1 h1 fun b s2 l2 I2 h2 => ?_
    by_cases hb' : b = true
    · rw [if_pos hb'] at h2 ⊢
      refine ⟨fun σ' H' => ∃ s' : Cf, s'.H = H' ∧ s.g.le s'.g ∧ In K c X F σ' s' ∧ whl pT ps Dp m s'.e s'.w, fun σ' H' ⟨s', e, l, I', h'⟩ => ⟨m, Nat.lt_succ_self m, s', e, l, I', h'⟩, ?_⟩
      refine hb X F σ1 s2 _ _ I2 h2 ⟨fun σ' s' l I' h' => ⟨s', rfl, (l1.trans l2).trans l, I', h'⟩, fun σ' s' v d l => hE.rt σ' s' v d ((l1.trans l2).trans l), fun σ' s' l => hE.nx σ' s' ((l1.trans l2).trans l), fun σ' s' l I' h' => ⟨s', rfl, (l1.trans l2).trans l, I', h'⟩⟩
    · rw [if_neg hb'] at h2 ⊢
      exact hE.nx σ1 s2 (l1.trans l2) I2 h2
/-- an iterator gives these data -/
structure ItD (K : PySem.W.Frag) (c : Pc) (J : It) (g : Gh) (ds : List Dat) : Prop where
  go : ∀ (X : En) (F : List (Addr × HO)) (σ : L2.St) (s : Cf) (i : Nat) (d : Dat), g.le s.g → In K c X F σ s → ds[i]? = some d → J.go i s.H ∧ ∀ x H', J.yld i s.H x H' → ∃ s' : Cf, s'.H = H' ∧ s.g.le s'.g ∧ In K c X F σ s' ∧ s'.e = s.e ∧ s'.w = s.w ∧ Rep K c s'.g x d
  stop : ∀ (X : En) (F : List (Addr × HO)) (σ : L2.St) (s : Cf), g.le s.g → In K c X F σ s → J.stop ds.length s.H
def SndI (K : PySem.W.Frag) (c : Pc) (wi : TI) (p : PA) : Prop := ∀ (X : En) (F : List (Addr × HO)) (σ : L2.St) (s : Cf) (k : List Dat → Env → Wld → Prop) (R : It → Hp → Prop), In K c X F σ s → p s.e s.w k → (∀ J ds s', s.g.le s'.g → In K c X F σ s' → ItD K c J s'.g ds → k ds s'.e s'.w → R J s'.H) → wi σ s.H R
theorem lp_drop {pg : PG} {ps : PS} {Dp : PEnds} {ds : List Dat} {i : Nat} {d : Dat} (h : ds[i]? = some d) : ds.drop i = d :: ds.drop (i + 1) := by
  obtain ⟨h1, h2⟩ := List.getElem?_eq_some_iff.mp h
  rw [← h2]; exact List.drop_eq_getElem_cons h1
theorem snd_for {wi : TI} {pi : PA} {tg : TG} {pg : PG} (hi : SndI K c wi pi) (hg : SndG K c tg pg) (hb : SndS K c ts ps) : SndS K c (tFor wi tg ts) (pFor pi pg ps) := by
  intro X F σ s D Dp I h hE
  refine hi X F σ s _ _ I h fun J ds s1 l1 I1 hJ h1 => ?_
  refine ⟨fun i m σ' H' => m + i = ds.length ∧ ∃ s' : Cf, s'.H = H' ∧ s1.g.le s'.g ∧ In K c X F σ' s' ∧ lp pg ps Dp (ds.drop i) s'.e s'.w, ⟨ds.length, rfl, s1, rfl, Gh.le.refl _, I1, h1⟩, ?_⟩
  rintro i m σ2 H2 ⟨hm, s2, rfl, l2, I2, h2⟩
  by_cases hlt : i < ds.length
  · have hd : ds[i]? = some (ds[i]'hlt) := List.getElem?_eq_getElem _
    rw [lp_drop (pg := pg) (ps := ps) (Dp := Dp) hd] at h2
    obtain ⟨hgo, hy⟩ := hJ.go X F σ2 s2 i _ l2 I2 hd
    refine .inr ⟨hgo, fun σ' H' => m ≠ 0 ∧ ∃ s' : Cf, s'.H = H' ∧ s1.g.le s'.g ∧ In K c X F σ' s' ∧ lp pg ps Dp (ds.drop (i + 1)) s'.e s'.w, fun σ' H' ⟨hm0, z⟩ => ⟨m - 1, by omega, by omega, z⟩, fun x H' hyl => ?_⟩
    obtain ⟨s3, rfl, l3, I3, e3, w3, r3⟩ := hy x H' hyl
    have h3 : pg (ds[i]'hlt) s3.e s3.w fun e w => ps ⟨lp pg ps Dp (ds.drop (i + 1)), Dp.rt, Dp.nx, lp pg ps Dp (ds.drop (i + 1))⟩ e w := by rw [e3, w3]; exact h2
    refine hg X F σ2 s3 x _ _ _ I3 r3 h3 fun σ4 s4 l4 I4 h4 => ?_
    have L : s1.g.le s4.g := (l2.trans l3).trans l4
    exact hb X F σ4 s4 _ _ I4 h4 ⟨fun σ' s' l I' h' => ⟨by omega, s', rfl, L.trans l, I', h'⟩, fun σ' s' v d l => hE.rt σ' s' v d ((l1.trans L).trans l), fun σ' s' l => hE.nx σ' s' ((l1.trans L).trans l), fun σ' s' l I' h' => ⟨by omega, s', rfl, L.trans l, I', h'⟩⟩
  · have hi' : i = ds.length := by omega
    subst hi'
    rw [List.drop_length] at h2
    exact .inl ⟨hJ.stop X F σ2 s2 l2 I2, hE.nx σ2 s2 (l1.trans l2) I2 h2⟩
theorem ItD.list {g : Gh} {a : Addr} {vs : List V} {ds : List Dat} (h : SqL K g.G a vs) (r : Reps K c g vs ds) : ItD K c (Itl K a) g ds where
  go := fun X F σ s i d le I hd => by
    obtain ⟨v, hv, rv⟩ := r.get hd
    have hs : SqL K s.H a vs := sqL_mono I.wr.sub (sqL_mono le.G h)
    refine ⟨⟨vs, v, hs, hv⟩, fun x H' ⟨e, hx⟩ => ?_⟩
    have := hx vs hs
    rw [hv] at this; cases this
    exact ⟨s, e.symm, Gh.le.refl _, I, rfl, rfl, rv.mono le⟩
  stop := fun X F σ s le I => ⟨vs, sqL_mono I.wr.sub (sqL_mono le.G h), by rw [r.length]; exact Nat.le_refl _⟩
theorem ItD.tup {g : Gh} {a : Addr} {vs : List V} {ds : List Dat} (h : SqT K g.G a vs) (r : Reps K c g vs ds) : ItD K c (Itt K a) g ds where
  go := fun X F σ s i d le I hd => by
    obtain ⟨v, hv, rv⟩ := r.get hd
    have hs : SqT K s.H a vs := sqT_mono I.wr.sub (sqT_mono le.G h)
    refine ⟨⟨vs, v, hs, hv⟩, fun x H' ⟨e, hx⟩ => ?_⟩
    have := hx vs hs
    rw [hv] at this; cases this
    exact ⟨s, e.symm, Gh.le.refl _, I, rfl, rfl, rv.mono le⟩
  stop := fun X F σ s le I => ⟨vs, sqT_mono I.wr.sub (sqT_mono le.G h), by rw [r.length]; exact Nat.le_refl _⟩
theorem rng_len : ∀ (n : Nat) (lo : Int), (rng lo n).length = n
  | 0, _ => rfl
  | n + 1, lo => by simp only [rng, List.length_cons, rng_len n]
theorem rng_get : ∀ {n : Nat} {lo : Int} {i : Nat} {d : Dat}, (rng lo n)[i]? = some d → i < n ∧ d = .int (lo + i)
  | 0, _, _, _, h => by simp [rng] at h
  | n + 1, lo, 0, d, h => by
    simp only [rng, List.getElem?_cons_zero, Option.some.injEq] at h
    exact ⟨Nat.succ_pos _, by rw [← h]; simp⟩
  | n + 1, lo, i + 1, d, h => by
    simp only [rng, List.getElem?_cons_succ] at h
    obtain ⟨h1, h2⟩ := rng_get h
    exact ⟨Nat.succ_lt_succ h1, by rw [h2]; congr 1; omega⟩
theorem ItD.range {g : Gh} (lo : Int) (n : Nat) : ItD K c (Itr lo n) g (rng lo n) where
  go := fun X F σ s i d le I hd => by
    obtain ⟨h1, rfl⟩ := rng_get hd
    exact ⟨h1, fun x H' ⟨e, hx⟩ => ⟨s, e.symm, Gh.le.refl _, I, rfl, rfl, by rw [hx]; exact .int _⟩⟩
  stop := fun X F σ s le I => by rw [rng_len]; exact Nat.le_refl n
theorem snd_iList (ha : SndE K c ta pa) : SndI K c (iList K ta) (pIL pa) := by
  intro X F σ s k R I h hR
  refine ha X F σ s _ _ I h fun x dx s1 l1 I1 r1 h1 => ?_
  cases r1 with
  | lst h2 r2 => exact ⟨_, rfl, ⟨_, SqL.of (I1.wr.sub _ _ h2)⟩, hR _ _ s1 l1 I1 (ItD.list (SqL.of h2) r2) h1⟩
  | cst h2 r2 => exact ⟨_, rfl, ⟨_, sqL_mono I1.wr.sub h2⟩, hR _ _ s1 l1 I1 (ItD.list h2 r2) h1⟩
  | _ => exact h1.elim
theorem snd_iTup (ha : SndE K c ta pa) : SndI K c (iTup K ta) (pIT pa) := by
  intro X F σ s k R I h hR
  refine ha X F σ s _ _ I h fun x dx s1 l1 I1 r1 h1 => ?_
  cases r1 with
  | tup h2 r2 => exact ⟨_, rfl, ⟨_, SqT.of (I1.wr.sub _ _ h2)⟩, hR _ _ s1 l1 I1 (ItD.tup (SqT.of h2) r2) h1⟩
  | _ => exact h1.elim
theorem snd_iR1 (ha : SndE K c ta pa) : SndI K c (iRng1 (tCons ta tNil)) (pIR1 pa) := by
  intro X F σ s k R I h hR
  refine ha X F σ s _ _ I h fun x dx s1 l1 I1 r1 h1 => ?_
  replace h1 := intOf_of h1
  obtain ⟨n, rfl, hb, h1⟩ := h1
  exact ⟨n, by rw [r1.intI], hb.1, hb.2, hR _ _ s1 l1 I1 (ItD.range 0 n.toNat) h1⟩
theorem In.wip : ∀ {vs : List Nat} {s : Cf} (I : In K c X F σ s), In K c X F σ ⟨s.g, s.H, Pu.wip s.e vs, s.w, s.os⟩
  | [], s, I => I
  | i :: vs, s, I => In.wip (vs := vs) (I.setN i)
theorem wip_len (e : Env) : ∀ (vs : List Nat), (wip e vs).length = e.length
  | [] => rfl
  | i :: vs => by unfold Pu.wip; rw [wip_len _ vs, List.length_set]
theorem wip_at : ∀ {vs : List Nat} {e : Env} {j : Nat}, j ∈ vs → j < e.length → (wip e vs)[j]? = some .no
  | i :: vs, e, j, h, hl => by
    unfold Pu.wip
    by_cases hj : j ∈ vs
    · exact wip_at hj (by rw [List.length_set]; exact hl)
    · rcases List.mem_cons.mp h with rfl | h
      · have : ∀ (vs : List Nat) (e : Env), j ∉ vs → (wip e vs)[j]? = e[j]? := by
          intro vs
          induction vs with
          | nil => intro e _; rfl
          | cons a vs ih =>
            intro e hn
            unfold Pu.wip
            rw [ih _ (fun z => hn (List.mem_cons_of_mem _ z)), List.getElem?_set_ne (fun z => hn (by rw [z]; exact List.mem_cons_self))]
        rw [this vs _ hj, List.getElem?_set_self hl]
      · exact absurd h hj
theorem wip_not : ∀ {vs : List Nat} {e : Env} {j : Nat}, j ∉ vs → (wip e vs)[j]? = e[j]?
  | [], _, _, _ => rfl
  | a :: vs, e, j, hn => by
    unfold Pu.wip
    rw [wip_not (fun z => hn (List.mem_cons_of_mem _ z)), List.getElem?_set_ne (fun z => hn (by rw [z]; exact List.mem_cons_self))]
theorem wipe_not : ∀ {vs : List Nat} {σ : L2.St} {j : Nat}, j ∉ vs → (wipe σ vs)[j]? = σ[j]?
  | [], _, _, _ => rfl
  | a :: vs, σ, j, hn => by
    unfold wipe
    rw [List.getElem?_set_ne (fun z => hn (by rw [z]; exact List.mem_cons_self)), wipe_not (fun z => hn (List.mem_cons_of_mem _ z))]
/-- over names that are forgotten the slots may be wiped or not -/
theorem In.alike {vs : List Nat} {σ' : L2.St} (I : In K c X F σ s) (hl : σ'.length = σ.length) (h : ∀ j, j ∉ vs → σ'[j]? = σ[j]?) : In K c X F σ' ⟨s.g, s.H, Pu.wip s.e vs, s.w, s.os⟩ := by
  have I1 := I.wip (vs := vs)
  refine ⟨I1.wr, I1.nd, I1.off, by rw [hl]; exact I1.len, fun j z hz => ?_, I1.held, I1.oal, I1.le, I1.keep, I1.frz, I1.new, I1.dom⟩
  by_cases hj : j ∈ vs
  · have hz : (Pu.wip s.e vs)[j]? = some z := hz
    have hlt : j < s.e.length := by
      have := (List.getElem?_eq_some_iff.mp hz).1
      rwa [wip_len] at this
    rw [wip_at hj hlt] at hz
    cases hz; trivial
  · rw [h j hj]
    exact I1.env j z hz
theorem wipe_alike {σ σ' : L2.St} {vs : List Nat} (h : wipe σ' vs = wipe σ vs) : σ'.length = σ.length ∧ ∀ j, j ∉ vs → σ'[j]? = σ[j]? := by
  refine ⟨?_, fun j hj => ?_⟩
  · have := congrArg List.length h
    rwa [wipe_length, wipe_length] at this
  · have := congrArg (·[j]?) h
    simpa [wipe_not hj] using this
/-- a target writes its names alone -/
def Tgt (g : TG) (vs : List Nat) : Prop := ∀ (v : V) (σ σ0 : L2.St) (H : Hp) (Q : L2.St → Hp → Prop), wipe σ vs = wipe σ0 vs → (g v σ H fun σ' H' => wipe σ' vs = wipe σ0 vs → Q σ' H') → g v σ H fun σ' H' => wipe σ' vs = wipe σ0 vs ∧ Q σ' H'
theorem snd_lc {wi : TI} {pi : PA} {tg : TG} {pg : PG} {vs : List Nat} (hi : SndI K c wi pi) (hg : SndG K c tg pg) (hw : Tgt tg vs) (ht : SndT K c tT pT) (ha : SndE K c ta pa) : SndF K c (tLc wi tg tT ta vs) (pLc pi pg pT pa vs) := by
  intro X F σ s k Q I h hQ
  refine hi X F σ s _ _ I h fun J ds s1 l1 I1 hJ h1 D hD => ?_
  have hI0 : In K c X ((D, .lst []) :: F) σ ⟨s1.g, upd s1.H D (.lst []), Pu.wip s1.e vs, s1.w, s1.os⟩ := In.wip (I1.newF hD)
  have hxD := I1.fresh hD
  refine ⟨fun i m H' => m + i = ds.length ∧ ∃ (s' : Cf) (ys : List V) (acc : List Dat), s'.H = H' ∧ s1.g.le s'.g ∧ In K c X ((D, .lst ys) :: F) σ s' ∧ Reps K c s'.g ys acc ∧ (∀ j, j ∈ vs → j < s'.e.length → s'.e[j]? = some .no) ∧ lcp pg pT pa vs k (ds.drop i) acc s'.e s'.w, ⟨ds.length, rfl, ⟨s1.g, upd s1.H D (.lst []), Pu.wip s1.e vs, s1.w, s1.os⟩, [], [], rfl, Gh.le.refl _, hI0, .nil, fun j hj hl => wip_at hj (by rw [← wip_len]; exact hl), h1⟩, ?_⟩
  rintro i m H2 ⟨hm, s2, ys, acc, rfl, l2, I2, rA, hno, h2⟩
  by_cases hlt : i < ds.length
  · have hd : ds[i]? = some (ds[i]'hlt) := List.getElem?_eq_getElem _
    rw [lp_drop (pg := pg) (ps := pNext) (Dp := ⟨fun _ _ => True, fun _ _ _ => True, fun _ _ => True, fun _ _ => True⟩) hd] at h2
    obtain ⟨hgo, hy⟩ := hJ.go X _ σ s2 i _ l2 I2 hd
    refine .inr ⟨hgo, fun H' => m ≠ 0 ∧ ∃ (s' : Cf) (ys : List V) (acc : List Dat), s'.H = H' ∧ s1.g.le s'.g ∧ In K c X ((D, .lst ys) :: F) σ s' ∧ Reps K c s'.g ys acc ∧ (∀ j, j ∈ vs → j < s'.e.length → s'.e[j]? = some .no) ∧ lcp pg pT pa vs k (ds.drop (i + 1)) acc s'.e s'.w, fun H' ⟨hm0, z⟩ => ⟨m - 1, by omega, by omega, z⟩, fun x H' hyl => ?_⟩
    obtain ⟨s3, rfl, l3, I3, e3, w3, r3⟩ := hy x H' hyl
    have I3' : In K c X ((D, .lst ys) :: F) (wipe σ vs) s3 := by
      have I4 := I3.alike (vs := vs) (σ' := wipe σ vs) (wipe_length σ vs) (fun j hj => wipe_not hj)
      have e4 : Pu.wip s3.e vs = s3.e := by
        apply List.ext_getElem?
        intro j
        by_cases hj : j ∈ vs
        · by_cases hl : j < s3.e.length
          · rw [wip_at hj hl, e3, hno j hj (by rw [← e3]; exact hl)]
          · rw [List.getElem?_eq_none_iff.mpr (show (Pu.wip s3.e vs).length ≤ j by rw [wip_len]; omega), List.getElem?_eq_none_iff.mpr (show s3.e.length ≤ j by omega)]
        · exact wip_not hj
      rw [e4] at I4
      exact I4
    have h3 : pg (ds[i]'hlt) s3.e s3.w fun e w => pT e w fun b e w => if b = true then pa e w fun y e w => acc.length < sizeLine ∧ lcp pg pT pa vs k (ds.drop (i + 1)) (acc ++ [y]) (Pu.wip e vs) w else lcp pg pT pa vs k (ds.drop (i + 1)) acc (Pu.wip e vs) w := by rw [e3, w3]; exact h2
    have hw0 : wipe (wipe σ vs) vs = wipe σ vs := by
      apply List.ext_getElem?
      intro j
      by_cases hj : j ∈ vs
      · have : ∀ (vs : List Nat) (σ : L2.St), j ∈ vs → (wipe σ vs)[j]? = if j < σ.length then some none else none := by
          intro vs
          induction vs with
          | nil => intro σ h; cases h
          | cons a vs ih =>
            intro σ h
            unfold wipe
            by_cases ha : a = j
            · subst ha
              by_cases hl : a < σ.length
              · rw [if_pos hl, List.getElem?_set_self (by rw [wipe_length]; exact hl)]
              · rw [if_neg hl]; exact List.getElem?_eq_none_iff.mpr (by rw [List.length_set, wipe_length]; omega)
            · rcases List.mem_cons.mp h with h | h
              · exact absurd h.symm ha
              · rw [List.getElem?_set_ne ha]; exact ih σ h
        rw [this vs _ hj, this vs _ hj, wipe_length]
      · exact wipe_not hj
    refine hw x (wipe σ vs) σ s3.H _ hw0 ?_
    refine hg X _ (wipe σ vs) s3 x _ _ _ I3' r3 h3 fun σ4 s4 l4 I4 h4 hw4 => ?_
    obtain ⟨hl4, hv4⟩ := wipe_alike hw4
    have L4 := (l2.trans l3).trans l4
    have hnoW : ∀ e : Env, ∀ j, j ∈ vs → j < (Pu.wip e vs).length → (Pu.wip e vs)[j]? = some .no := fun e j hj hl => wip_at hj (by rw [← wip_len]; exact hl)
    refine ht X _ σ4 s4 _ _ I4 h4 fun b s5 l5 I5 h5 => ?_
    by_cases hb' : b = true
    · rw [if_pos hb'] at h5 ⊢
      refine ha X _ σ4 s5 _ _ I5 h5 fun y dy s6 l6 I6 r6 h6 => ?_
      refine ⟨ys, I6.held _ List.mem_cons_self, by rw [rA.length]; exact h6.1, by omega, ⟨s6.g, upd s6.H D (.lst (ys ++ [y])), Pu.wip s6.e vs, s6.w, s6.os⟩, ys ++ [y], acc ++ [dy], rfl, (L4.trans l5).trans l6, ?_, (rA.mono (((l3.trans l4).trans l5).trans l6)).app (.cons r6 .nil), hnoW _, h6.2⟩
      exact In.alike (I6.heldPut hxD noC_lst) hl4.symm fun j hj => (hv4 j hj).symm
    · rw [if_neg hb'] at h5 ⊢
      exact ⟨by omega, ⟨s5.g, s5.H, Pu.wip s5.e vs, s5.w, s5.os⟩, ys, acc, rfl, L4.trans l5, In.alike I5 hl4.symm fun j hj => (hv4 j hj).symm, rA.mono ((l3.trans l4).trans l5), hnoW _, h5⟩
  · have hi' : i = ds.length := by omega
    subst hi'
    rw [List.drop_length] at h2
    exact .inl ⟨hJ.stop X _ σ s2 l2 I2, hQ D ys acc s2 (l1.trans l2) hxD I2 rA h2⟩
theorem snd_yes : SndT K c tYes pYes := fun X F σ s k Q I h hQ => hQ true s (Gh.le.refl _) I h
theorem tgt_name (j : Nat) : Tgt (gName j) [j] := fun v σ σ0 H Q hw h => by
  have e : wipe (σ.set j (some v)) [j] = wipe σ [j] := by simp [wipe]
  exact ⟨e.trans hw, h (e.trans hw)⟩
end
end Pu
namespace Pu
open PySem L2 Eng
def qI (C : Int → Int → Prop) (g : Int → Int → Dat) : Q2
  | .int i, .int j, k => C i j ∧ k (g i j)
  | _, _, _ => False
def qI0 (g : Int → Int → Dat) : Q2
  | .int i, .int j, k => k (g i j)
  | _, _, _ => False
def qAdd : Q2 := qI0 fun i j => .int (i + j)
def qSub : Q2 := qI0 fun i j => .int (i - j)
def qMul : Q2 := qI IntMulOk fun i j => .int (i * j)
def qDiv : Q2 := qI oDiv fun i j => .int (i / j)
def qMod : Q2 := qI (fun _ j => 0 < j) fun i j => .int (i % j)
def qPow : Q2 := qI oPow fun i j => .int (i ^ j.toNat)
def qShl : Q2 := qI CShl fun i j => .int (i * 2 ^ j.toNat)
def qShr : Q2 := qI (fun _ j => 0 ≤ j) fun i j => .int (i / 2 ^ j.toNat)
def qAnd : Q2 := qI0 fun i j => .int (Builtin.bitAnd i j)
def qOr : Q2 := qI0 fun i j => .int (Builtin.bitOr i j)
def qXor : Q2 := qI0 fun i j => .int (Builtin.bitXor i j)
def qLt : Q2 := qI0 fun i j => .bl (decide (i < j))
def qLe : Q2 := qI0 fun i j => .bl (decide (i ≤ j))
def qGt : Q2 := qI0 fun i j => .bl (decide (j < i))
def qGe : Q2 := qI0 fun i j => .bl (decide (j ≤ i))
def qNeg : Q1
  | .int i, k => k (.int (-i))
  | _, _ => False
def qEq : Q2
  | .int i, .int j, k => k (.bl (decide (i = j)))
  | .str i, .str j, k => k (.bl (decide (i = j)))
  | .bl i, .bl j, k => k (.bl (decide (i = j)))
  | _, _, _ => False
def qNe : Q2
  | .int i, .int j, k => k (.bl (!decide (i = j)))
  | .str i, .str j, k => k (.bl (!decide (i = j)))
  | .bl i, .bl j, k => k (.bl (!decide (i = j)))
  | _, _, _ => False
def qIx : Q2
  | .lst l, .int n, k => onSome (atI l n) k
  | .cst l, .int n, k => onSome (atI l n) k
  | .tup l, .int n, k => onSome (atI l n) k
  | _, _, _ => False
def qCat : Dat → Dat → (List Dat → Prop) → Prop
  | .lst l, .lst m, k => l.length + m.length ≤ sizeLine ∧ k (l ++ m)
  | _, _, _ => False
def qRep : Dat → Dat → (List Dat → Prop) → Prop
  | .lst l, .int n, k => (-(2 ^ 63) ≤ n ∧ n < 2 ^ 63 ∧ l.length * n.toNat ≤ sizeLine) ∧ k (List.replicate n.toNat l).flatten
  | _, _, _ => False
def qLen : QL
  | [.lst l], k => k (.int (l.length : Nat))
  | [.cst l], k => k (.int (l.length : Nat))
  | [.tup l], k => k (.int (l.length : Nat))
  | _, _ => False
def qAbs : QL
  | [.int n], k => k (.int (if n < 0 then -n else n))
  | _, _ => False
def qInt : QL
  | [.int n], k => k (.int n)
  | [.bl b], k => k (.int (if b then 1 else 0))
  | _, _ => False
def qMax2 : QL
  | [.int i, .int j], k => k (.int (if j > i then j else i))
  | _, _ => False
def qMin2 : QL
  | [.int i, .int j], k => k (.int (if j < i then j else i))
  | _, _ => False
def qList : List Dat → (List Dat → Prop) → Prop
  | [.lst l], k => k l
  | [.cst l], k => k l
  | [.tup l], k => k l
  | _, _ => False
def qTupL : QL
  | [.lst l], k => k (.tup l)
  | _, _ => False
section
variable {K : PySem.W.Frag} {c : Pc} {X : En} {F : List (Addr × HO)} {σ : L2.St} {s : Cf} {ta tb tc te : TE} {pa pb pc' pe : PE} {tr : TA} {pr : PA} {P : PSp} {sp : Sp} {E : XK} {i : Nat}
theorem snd_rI {C : Int → Int → Prop} {gv : Int → Int → V} {gd : Int → Int → Dat} (hg : ∀ i j (g : Gh), Rep K c g (gv i j) (gd i j)) : SndR2 K c (rI C gv) (qI C gd) := by
  intro X F σ s x y dx dy k Q I rx ry h hQ
  cases dx with
  | int i =>
    cases dy with
    | int j => exact ⟨i, j, rx.int, ry.int, h.1, hQ _ _ s (Gh.le.refl _) I rfl rfl (hg i j _) h.2⟩
    | _ => exact h.elim
  | _ => exact h.elim
theorem snd_rI0 {gv : Int → Int → V} {gd : Int → Int → Dat} (hg : ∀ i j (g : Gh), Rep K c g (gv i j) (gd i j)) : SndR2 K c (rI0 gv) (qI0 gd) := by
  intro X F σ s x y dx dy k Q I rx ry h hQ
  cases dx with
  | int i =>
    cases dy with
    | int j => exact ⟨i, j, rx.int, ry.int, hQ _ _ s (Gh.le.refl _) I rfl rfl (hg i j _) h⟩
    | _ => exact h.elim
  | _ => exact h.elim
theorem s_add : SndR2 K c Eng.rAdd qAdd := snd_rI0 fun _ _ _ => .int _
theorem s_sub : SndR2 K c Eng.rSub qSub := snd_rI0 fun _ _ _ => .int _
theorem s_mul : SndR2 K c Eng.rMul qMul := snd_rI fun _ _ _ => .int _
theorem s_div : SndR2 K c Eng.rDiv qDiv := snd_rI fun _ _ _ => .int _
theorem s_mod : SndR2 K c Eng.rMod qMod := snd_rI fun _ _ _ => .int _
theorem s_shl : SndR2 K c Eng.rShl qShl := snd_rI fun _ _ _ => .int _
theorem s_shr : SndR2 K c Eng.rShr qShr := snd_rI fun _ _ _ => .int _
theorem s_and : SndR2 K c Eng.rAnd qAnd := snd_rI0 fun _ _ _ => .int _
theorem s_or : SndR2 K c Eng.rOr qOr := snd_rI0 fun _ _ _ => .int _
theorem s_lt : SndR2 K c Eng.rLt qLt := snd_rI0 fun _ _ _ => .bl _
theorem s_le : SndR2 K c Eng.rLe qLe := snd_rI0 fun _ _ _ => .bl _
theorem s_gt : SndR2 K c Eng.rGt qGt := snd_rI0 fun _ _ _ => .bl _
theorem snd_neg (ha : SndE K c ta pa) : SndE K c (tUn Eng.rNeg ta) (pUn qNeg pa) := snd_un (fun s x d r k Q h hQ => by
  cases d with
  | int n => exact ⟨n, r.intI, hQ _ _ (.int _) h⟩
  | _ => exact h.elim) ha
theorem s_eq : SndR2 K c rEq qEq := by
  intro X F σ s x y dx dy k Q I rx ry h hQ
  cases dx with
  | int i =>
    cases dy with
    | int j => rw [rx.int, ry.int]; exact rd_eqI (hQ _ _ s (Gh.le.refl _) I rfl rfl (.bl _) h)
    | _ => exact h.elim
  | str i =>
    cases dy with
    | str j => rw [rx.str, ry.str]; exact rd_eqS (hQ _ _ s (Gh.le.refl _) I rfl rfl (.bl _) h)
    | _ => exact h.elim
  | bl i =>
    cases dy with
    | bl j => rw [rx.bl, ry.bl]; exact rd_eqB (hQ _ _ s (Gh.le.refl _) I rfl rfl (.bl _) h)
    | _ => exact h.elim
  | _ => exact h.elim
theorem s_ne : SndR2 K c rNe qNe := by
  intro X F σ s x y dx dy k Q I rx ry h hQ
  cases dx with
  | int i =>
    cases dy with
    | int j => rw [rx.int, ry.int]; exact rd_neI (hQ _ _ s (Gh.le.refl _) I rfl rfl (.bl _) h)
    | _ => exact h.elim
  | str i =>
    cases dy with
    | str j => rw [rx.str, ry.str]; exact rd_neS (hQ _ _ s (Gh.le.refl _) I rfl rfl (.bl _) h)
    | _ => exact h.elim
  | bl i =>
    cases dy with
    | bl j => rw [rx.bl, ry.bl]; exact rd_neB (hQ _ _ s (Gh.le.refl _) I rfl rfl (.bl _) h)
    | _ => exact h.elim
  | _ => exact h.elim
theorem reps_at {g : Gh} {vs : List V} {ds : List Dat} {n : Int} {d : Dat} (r : Reps K c g vs ds) (h : atI ds n = some d) : ∃ v, atI vs n = some v ∧ Rep K c g v d := by
  unfold atI at h ⊢
  rw [r.length]
  cases e : ixN ds.length n with
  | none => rw [e] at h; cases h
  | some j => rw [e] at h; exact r.get h
def qIxT : Q2
  | .tup l, .int n, k => onSome (atI l n) k
  | _, _, _ => False
def qIxL : Q2
  | .lst l, .int n, k => onSome (atI l n) k
  | .cst l, .int n, k => onSome (atI l n) k
  | _, _, _ => False
theorem s_ixL : SndR2 K c (rIxL K) qIxL := by
  intro X F σ s x y dx dy k Q I rx ry h hQ
  cases dx with
  | lst l =>
    cases dy with
    | int n =>
      obtain ⟨d, hd, h⟩ := onSome_of h
      obtain ⟨a, vs, rfl, hH, hR⟩ := rx.lst I
      obtain ⟨v, hv, rv⟩ := reps_at hR hd
      exact ⟨a, vs, n, v, rfl, ry.int, SqL.of hH, hv, hQ v d s (Gh.le.refl _) I rfl rfl rv h⟩
    | _ => exact h.elim
  | cst l =>
    cases dy with
    | int n =>
      obtain ⟨d, hd, h⟩ := onSome_of h
      obtain ⟨a, vs, rfl, hH, hR⟩ := rx.cst I
      obtain ⟨v, hv, rv⟩ := reps_at hR hd
      exact ⟨a, vs, n, v, rfl, ry.int, hH, hv, hQ v d s (Gh.le.refl _) I rfl rfl rv h⟩
    | _ => exact h.elim
  | _ => exact h.elim
theorem s_ixT : SndR2 K c (rIxT K) qIxT := by
  intro X F σ s x y dx dy k Q I rx ry h hQ
  cases dx with
  | tup l =>
    cases dy with
    | int n =>
      obtain ⟨d, hd, h⟩ := onSome_of h
      obtain ⟨a, vs, rfl, hH, hR⟩ := rx.tup I
      obtain ⟨v, hv, rv⟩ := reps_at hR hd
      exact ⟨a, vs, n, v, rfl, ry.int, hH, hv, hQ v d s (Gh.le.refl _) I rfl rfl rv h⟩
    | _ => exact h.elim
  | _ => exact h.elim
theorem s_cat : SndR2F K c rCat qCat := by
  intro X F σ s x y dx dy k Q I rx ry h hQ
  cases dx with
  | lst l =>
    cases dy with
    | lst m =>
      obtain ⟨a, vs, rfl, hH, hR⟩ := rx.lst I
      obtain ⟨b, ws, rfl, hH', hR'⟩ := ry.lst I
      refine ⟨a, b, vs, ws, rfl, rfl, hH, hH', by rw [hR.length, hR'.length]; exact h.1, fun p hp => ?_⟩
      exact hQ p _ _ ⟨s.g, upd s.H p (.lst (vs ++ ws)), s.e, s.w, s.os⟩ (Gh.le.refl _) (I.fresh hp) (I.newF hp) rfl rfl (hR.app hR') h.2
    | _ => exact h.elim
  | _ => exact h.elim
theorem s_rep : SndR2F K c rRep qRep := by
  intro X F σ s x y dx dy k Q I rx ry h hQ
  cases dx with
  | lst l =>
    cases dy with
    | int n =>
      obtain ⟨a, vs, rfl, hH, hR⟩ := rx.lst I
      refine ⟨a, n, vs, rfl, ry.int, hH, h.1.1, h.1.2.1, by rw [hR.length]; exact h.1.2.2, fun p hp => ?_⟩
      exact hQ p _ _ ⟨s.g, upd s.H p (.lst _), s.e, s.w, s.os⟩ (Gh.le.refl _) (I.fresh hp) (I.newF hp) rfl rfl (hR.rep n.toNat) h.2
    | _ => exact h.elim
  | _ => exact h.elim
theorem one_of {s : Cf} {vs : List V} {d : Dat} (r : Paired (RepW K c s) vs [d]) : ∃ v, vs = [v] ∧ RepW K c s v d := by
  cases r with
  | cons r t => cases t; exact ⟨_, rfl, r⟩
theorem s_len : SndRL K c (Eng.rLen K) qLen := by
  intro X F σ s vs ds k Q I r h hQ
  unfold qLen at h
  split at h
  · replace r := one_of r
    obtain ⟨v, rfl, r⟩ := r
    obtain ⟨a, vs, rfl, hH, hR⟩ := r.lst I
    exact ⟨a, vs, rfl, .inl (SqL.of hH), by rw [hR.length]; exact hQ _ _ s (Gh.le.refl _) I rfl rfl (.int _) h⟩
  · replace r := one_of r
    obtain ⟨v, rfl, r⟩ := r
    obtain ⟨a, vs, rfl, hH, hR⟩ := r.cst I
    exact ⟨a, vs, rfl, .inl hH, by rw [hR.length]; exact hQ _ _ s (Gh.le.refl _) I rfl rfl (.int _) h⟩
  · replace r := one_of r
    obtain ⟨v, rfl, r⟩ := r
    obtain ⟨a, vs, rfl, hH, hR⟩ := r.tup I
    exact ⟨a, vs, rfl, .inr hH, by rw [hR.length]; exact hQ _ _ s (Gh.le.refl _) I rfl rfl (.int _) h⟩
  · exact h.elim
theorem s_abs : SndRL K c rAbs qAbs := by
  intro X F σ s vs ds k Q I r h hQ
  unfold qAbs at h
  split at h
  · replace r := one_of r
    obtain ⟨v, rfl, r⟩ := r
    exact ⟨_, by rw [r.int], hQ _ _ s (Gh.le.refl _) I rfl rfl (.int _) h⟩
  · exact h.elim
theorem s_int : SndRL K c rInt qInt := by
  intro X F σ s vs ds k Q I r h hQ
  unfold qInt at h
  split at h
  · replace r := one_of r
    obtain ⟨v, rfl, r⟩ := r
    exact .inl ⟨_, by rw [r.int], hQ _ _ s (Gh.le.refl _) I rfl rfl (.int _) h⟩
  · replace r := one_of r
    obtain ⟨v, rfl, r⟩ := r
    exact .inr ⟨_, by rw [r.bl], hQ _ _ s (Gh.le.refl _) I rfl rfl (.int _) h⟩
  · exact h.elim
theorem two_of {s : Cf} {vs : List V} {ds : List Dat} (r : Paired (RepW K c s) vs ds) {i j : Int} (h : ds = [.int i, .int j]) : vs = [.int i, .int j] := by
  subst h
  cases r with
  | cons r t =>
    cases t with
    | cons r' t' =>
      cases t'
      rw [r.int, r'.int]
theorem s_max2 : SndRL K c rMax2 qMax2 := by
  intro X F σ s vs ds k Q I r h hQ
  unfold qMax2 at h
  split at h
  · rename_i i j
    exact ⟨i, j, two_of r rfl, hQ _ _ s (Gh.le.refl _) I rfl rfl (.int _) h⟩
  · exact h.elim
def pNoPart : PO := fun e w k => k none e w
def pPart (a : PE) : PO := fun e w k => a e w fun x e w => intOf x fun n => k (some n) e w
def cutD (ds : List Dat) (lo hi : Option Int) : List Dat := (ds.drop (HT.sIx ds.length 0 lo)).take (HT.sIx ds.length ds.length hi - HT.sIx ds.length 0 lo)
def pSlL (a : PE) (lo hi : PO) : PF := fun e w k => a e w fun x e w => lo e w fun l e w => hi e w fun u e w => lstOf x fun ds => k (cutD ds l u) e w
theorem snd_noPart : SndO K c tNoPart pNoPart := fun X F σ s k Q I h hQ => hQ none s (Gh.le.refl _) I h
theorem snd_part (ha : SndE K c ta pa) : SndO K c (tPart ta) (pPart pa) := by
  intro X F σ s k Q I h hQ
  refine ha X F σ s _ _ I h fun x dx s1 l1 I1 r1 h1 => ?_
  replace h1 := intOf_of h1
  obtain ⟨n, rfl, h1⟩ := h1
  exact ⟨n, r1.intI, hQ _ s1 l1 I1 h1⟩
theorem lstOf_of {d : Dat} {k : List Dat → Prop} (h : lstOf d k) : ∃ l, (d = .lst l ∨ d = .cst l) ∧ k l := by
  cases d with
  | lst l => exact ⟨l, .inl rfl, h⟩
  | cst l => exact ⟨l, .inr rfl, h⟩
  | _ => exact h.elim
theorem Rep.sqL {v : V} {d : Dat} {l : List Dat} (r : Rep K c s.g v d) (I : In K c X F σ s) (h : d = .lst l ∨ d = .cst l) : ∃ a vs, v = .ref a ∧ SqL K s.H a vs ∧ Reps K c s.g vs l := by
  rcases h with rfl | rfl
  · obtain ⟨a, vs, e, h1, h2⟩ := RepW.lst (.inl r) I
    exact ⟨a, vs, e, SqL.of h1, h2⟩
  · exact RepW.cst (.inl r) I
theorem reps_cut {g : Gh} {vs : List V} {ds : List Dat} (r : Reps K c g vs ds) (lo hi : Option Int) : Reps K c g (cutV vs lo hi) (cutD ds lo hi) := by
  unfold cutV cutD
  rw [r.length]
  exact (r.drop _).take _
theorem snd_slL {tlo thi : TO} {plo phi : PO} (ha : SndE K c ta pa) (h1 : SndO K c tlo plo) (h2 : SndO K c thi phi) : SndF K c (tSl (rSlL K) ta tlo thi) (pSlL pa plo phi) := by
  intro X F σ s k Q I h hQ
  refine ha X F σ s _ _ I h fun x dx s1 l1 I1 r1 h' => ?_
  refine h1 X F σ s1 _ _ I1 h' fun l s2 l2 I2 h' => ?_
  refine h2 X F σ s2 _ _ I2 h' fun u s3 l3 I3 h' => ?_
  obtain ⟨ds, hd, h'⟩ := lstOf_of h'
  obtain ⟨a, vs, rfl, hH, hR⟩ := ((r1.mono l2).mono l3).sqL I3 hd
  exact ⟨a, vs, rfl, hH, fun p hp => hQ p _ _ ⟨s3.g, upd s3.H p (.lst _), s3.e, s3.w, s3.os⟩ ((l1.trans l2).trans l3) (I3.fresh hp) (I3.newF hp) (reps_cut hR l u) h'⟩
def pRevL (a : PE) : PF := fun e w k => a e w fun x e w => lstOf x fun ds => k ds.reverse e w
def pRevT (a : PE) : PE := fun e w k => a e w fun x e w => tupOf x fun ds => k (.tup ds.reverse) e w
def dN (ds : List Nat) : List Dat := ds.map fun (d : Nat) => Dat.int (d : Int)
theorem reps_dN {g : Gh} : ∀ (ds : List Nat), Reps K c g (iN ds) (dN ds)
  | [] => .nil
  | d :: ds => .cons (.int _) (reps_dN ds)
def pWidthB (a : PE) : PE := fun e w k => a e w fun x e w => match x with | .big b _ => k (.int (b : Int)) e w | _ => False
def pSide (a : PE) : PE := fun e w k => a e w fun x e w => match x with | .big _ n => k (.int (sgn n)) e w | _ => False
def pRow (a : PE) : PE := fun e w k => a e w fun x e w => match x with | .big b n => k (.tup (dN (digs b n.natAbs))) e w | _ => False
def onM (w : Wld) (i : Nat) (k : Mach → Prop) : Prop := match w.ms[i]? with | some m => k m | none => False
theorem onM_of {w : Wld} {i : Nat} {k : Mach → Prop} (h : onM w i k) : ∃ m, w.ms[i]? = some m ∧ k m := by
  unfold onM at h
  cases e : w.ms[i]? with
  | none => rw [e] at h; exact h.elim
  | some m => rw [e] at h; exact ⟨m, rfl, h⟩
def pWidthM (a : PE) : PE := fun e w k => a e w fun x e w => match x with | .mach i => onM w i fun m => k (.int (m.b : Int)) e w | _ => False
def pCut (a : PE) : PE := fun e w k => a e w fun x e w => match x with | .mach i => onM w i fun m => k (.int m.cut) e w | _ => False
def pBase (a : PE) : PE := fun e w k => a e w fun x e w => match x with | .mach i => onM w i fun m => k (.int (2 ^ m.b)) e w | _ => False
theorem snd_side (PB : PB K c) (ha : SndE K c ta pa) : SndE K c (tFld K ta "side") (pSide pa) := by
  intro X F σ s k Q I h hQ
  refine ha X F σ s _ _ I h fun x dx s1 l1 I1 r1 h' => ?_
  cases dx with
  | big b n =>
    obtain ⟨a, rfl, hb⟩ := RepW.big (.inl r1) I1
    obtain ⟨dx, r, h1, h2⟩ := hb.at_
    exact rd_Bside PB h1 (hQ _ _ s1 l1 I1 (.int _) h')
  | _ => exact h'.elim
theorem snd_widthB (PB : PB K c) (ha : SndE K c ta pa) : SndE K c (tFld K ta "width") (pWidthB pa) := by
  intro X F σ s k Q I h hQ
  refine ha X F σ s _ _ I h fun x dx s1 l1 I1 r1 h' => ?_
  cases dx with
  | big b n =>
    obtain ⟨a, rfl, hb⟩ := RepW.big (.inl r1) I1
    obtain ⟨dx, r, h1, h2⟩ := hb.at_
    exact rd_Bwidth PB h1 (hQ _ _ s1 l1 I1 (.int _) h')
  | _ => exact h'.elim
theorem snd_row (PB : PB K c) (ha : SndE K c ta pa) : SndE K c (tFld K ta "row") (pRow pa) := by
  intro X F σ s k Q I h hQ
  refine ha X F σ s _ _ I h fun x dx s1 l1 I1 r1 h' => ?_
  cases r1 with
  | big hb =>
    obtain ⟨dx, r, h1, h2⟩ := hb.at_
    exact rd_Brow PB (I1.wr.sub _ _ h1) (hQ _ _ s1 l1 I1 (.tup h2 (reps_dN _)) h')
  | _ => exact h'.elim
end
def pen (k : Dat → Wld → Prop) : PEnds := ⟨fun _ w => k .non w, fun d _ w => k d w, fun _ _ => False, fun _ _ => False⟩
def env0 (n : Nat) (ds : List Dat) : Env := ds.map Slot.val ++ List.replicate (n - ds.length) .no
section
variable {K : PySem.W.Frag} {c : Pc} {P : PSp} {vs : List V} {H : Hp} {Q : VK} {E : XK} {n : Nat} {t : TS} {p : PS}
theorem reps_env {X : En} {s : Cf} : ∀ {vs : List V} {ds : List Dat} {m : Nat} (r : Reps K c s.g vs ds) (i : Nat) (z : Slot), (ds.map Slot.val ++ List.replicate m .no)[i]? = some z → RSl K c X s i ((vs.map some ++ List.replicate m none : L2.St)[i]?) z
  | _, _, m, .nil, i, z, h => by
    simp only [List.map_nil, List.nil_append] at h ⊢
    have : z = .no := (List.mem_replicate.mp (List.mem_of_getElem? h)).2
    rw [this]; trivial
  | _, _, m, .cons r t, 0, z, h => by
    simp only [List.map_cons, List.cons_append, List.getElem?_cons_zero, Option.some.injEq] at h ⊢
    subst h
    exact ⟨_, rfl, r⟩
  | _, _, m, .cons r t, i + 1, z, h => by
    simp only [List.map_cons, List.cons_append, List.getElem?_cons_succ] at h ⊢
    have := reps_env (X := X) t i z h
    cases z with
    | no => trivial
    | val d => exact this
    | own f l =>
      exfalso
      have := List.mem_of_getElem? h
      rcases List.mem_append.mp this with q | q
      · obtain ⟨d, _, e⟩ := List.mem_map.mp q; cases e
      · exact nomatch (List.mem_replicate.mp q).2
    | ownT l r =>
      exfalso
      have := List.mem_of_getElem? h
      rcases List.mem_append.mp this with q | q
      · obtain ⟨d, _, e⟩ := List.mem_map.mp q; cases e
      · exact nomatch (List.mem_replicate.mp q).2
theorem In.start {g : Gh} {w : Wld} {ds : List Dat} (W : Wr K c g H w) (r : Reps K c g vs ds) : In K c ⟨H, g, []⟩ [] (st0 n vs) ⟨g, H, env0 n ds, w, []⟩ := by
  have e : (⟨g, H, env0 n ds, w, []⟩ : Cf).mu [] = g.mu := by unfold Cf.mu; simp
  refine ⟨W, by rw [e]; exact W.nd, by rw [e]; exact W.off, ?_, fun i z hz => ?_, (fun q h => nomatch h), (fun q h => nomatch h), Gh.le.refl _, fun _ _ h _ _ => h, fun _ _ _ => rfl, by rw [e]; exact fun a ha => .inl ha, fun a o h => ⟨o, h⟩⟩
  · show (env0 n ds).length = (st0 n vs).length
    unfold env0 st0
    simp only [List.length_append, List.length_map, List.length_replicate, r.length]
  · have hz : (env0 n ds)[i]? = some z := hz
    unfold env0 at hz
    unfold st0
    rw [r.length]
    exact reps_env (s := ⟨g, H, env0 n ds, w, []⟩) r i z hz
theorem In.aft {g : Gh} {σ : L2.St} {s : Cf} (I : In K c ⟨H, g, []⟩ [] σ s) : Aft g H s.g s.H :=
  ⟨I.le, fun a o h n => I.keep a o h n (fun z => nomatch z), I.frz, fun a ha => by
    rcases I.new a (List.mem_append_left _ ha) with z | z | z
    · exact .inl z
    · cases z
    · exact .inr z, I.dom⟩
/-- a def keeps its promise -/
theorem def_ok (hs : SndS K c t p) (hP : ∀ ds w k, P ds w k → p (pen k) (env0 n ds) w) (h : lif K c P vs H Q E) : t (en0 Q) (st0 n vs) H := by
  obtain ⟨g, w, ds, k, W, r, hp, hq⟩ := h
  refine hs ⟨H, g, []⟩ [] (st0 n vs) ⟨g, H, env0 n ds, w, []⟩ _ _ (In.start W r) (hP ds w k hp) ⟨fun σ s l I h => ?_, fun σ s v d l I r h => ?_, fun _ _ _ _ h => h.elim, fun _ _ _ _ h => h.elim⟩
  · exact hq .non .non s.g s.H s.w I.aft I.wr .non h
  · exact hq v d s.g s.H s.w I.aft I.wr r h
end
end Pu
namespace Pu
open PySem L2 Eng
def gAdd (g : Gh) : List (Addr × HO) → Gh
  | [] => g
  | q :: ns => gUpd (gAdd g ns) q.1 q.2
theorem gAdd_ms (g : Gh) : ∀ ns, (gAdd g ns).ms = g.ms ∧ (gAdd g ns).ss = g.ss
  | [] => ⟨rfl, rfl⟩
  | _ :: ns => gAdd_ms g ns
theorem gAdd_os (g : Gh) : ∀ ns, (gAdd g ns).os = g.os ∧ (gAdd g ns).ts = g.ts
  | [] => ⟨rfl, rfl⟩
  | _ :: ns => gAdd_os g ns
theorem gAdd_mu (g : Gh) (ns : List (Addr × HO)) : (gAdd g ns).mu = g.mu := by unfold Gh.mu Gh.ot; rw [(gAdd_ms g ns).1, (gAdd_ms g ns).2, (gAdd_os g ns).1, (gAdd_os g ns).2]
theorem gAdd_get {g : Gh} : ∀ {ns : List (Addr × HO)} {a : Addr} {o : HO}, (gAdd g ns).G a = some o → (a, o) ∈ ns ∨ g.G a = some o
  | [], _, _, h => .inr h
  | q :: ns, a, o, h => by
    have h : upd (gAdd g ns).G q.1 q.2 a = some o := h
    by_cases e : a = q.1
    · subst e; rw [upd_same] at h; cases h; exact .inl List.mem_cons_self
    · rw [upd_ne e] at h
      rcases gAdd_get h with z | z
      · exact .inl (List.mem_cons_of_mem _ z)
      · exact .inr z
theorem gAdd_out {g : Gh} : ∀ {ns : List (Addr × HO)} {a : Addr}, a ∉ ns.map (·.1) → (gAdd g ns).G a = g.G a
  | [], _, _ => rfl
  | q :: ns, a, h => by
    show upd (gAdd g ns).G q.1 q.2 a = _
    rw [upd_ne (fun e => h (by rw [e]; exact List.mem_cons_self)), gAdd_out fun z => h (List.mem_cons_of_mem _ z)]
theorem gAdd_in {g : Gh} : ∀ {ns : List (Addr × HO)} {q : Addr × HO}, (ns.map (·.1)).Nodup → q ∈ ns → (gAdd g ns).G q.1 = some q.2
  | p :: ns, q, hn, h => by
    show upd (gAdd g ns).G p.1 p.2 q.1 = _
    have hp := List.nodup_cons.mp (show (p.1 :: ns.map (·.1)).Nodup from hn)
    rcases List.mem_cons.mp h with rfl | h
    · exact upd_same
    · rw [upd_ne (fun (e : q.1 = p.1) => hp.1 (by rw [← e]; exact List.mem_map.mpr ⟨q, h, rfl⟩))]
      exact gAdd_in hp.2 h
section
variable {K : PySem.W.Frag} {c : Pc} {g : Gh} {H H' : Hp} {w w' : Wld} {cs ns fr : List (Addr × HO)} {i j : Nat}
theorem gAdd_le (h : ∀ q ∈ fr, g.G q.1 = none) : g.le (gAdd g fr) := by
  refine ⟨fun a o e => ?_, fun i q e => by rw [(gAdd_ms g fr).1]; exact e, fun i q e => by rw [(gAdd_ms g fr).2]; exact e, fun i q e => by rw [(gAdd_os g fr).1]; exact e, (gAdd_os g fr).2⟩
  rw [gAdd_out]
  · exact e
  · intro z
    obtain ⟨q, hq, rfl⟩ := List.mem_map.mp z
    rw [h q hq] at e; cases e
theorem Wr.noG (W : Wr K c g H w) {a : Addr} (h : H a = none) : g.G a = none := by
  cases e : g.G a with
  | none => rfl
  | some o => rw [W.sub a o e] at h; cases h
theorem Wr.go (W : Wr K c g H w) (ch : Chg H H' cs ns) (hcs : ∀ a ∈ cs.map (·.1), a ∈ g.mu) (hal : ∀ q ∈ cs, ∃ o, H' q.1 = some o) (hfr : ∀ q ∈ fr, q ∈ ns) (hl : w'.ms.length = w.ms.length) (hss : w'.ss = w.ss)
    (hm : g.le (gAdd g fr) → ∀ (i : Nat) q m', g.ms[i]? = some q → w'.ms[i]? = some m' → MRep K c (gAdd g fr) H' q m') (hs : ∀ a ∈ g.ss, ∃ o, H' a = some o ∧ SrcO o) (hol : w'.os.length = w.os.length) (ho : g.le (gAdd g fr) → ∀ (i : Nat) a o, g.os[i]? = some a → w'.os[i]? = some o → ORep K c (gAdd g fr) H' a o) (hts : ∀ p ∈ g.ts, p.1 ∉ cs.map (·.1)) : Wr K c (gAdd g fr) H' w' ∧ Aft g H (gAdd g fr) H' := by
  have hnew : ∀ q ∈ fr, H q.1 = none := fun q hq => (ch.new (a := q.1) (o := q.2) (hfr q hq)).1
  have le := gAdd_le (g := g) fun q hq => W.noG (hnew q hq)
  have hG : ∀ a ∈ g.mu, g.G a = none := W.off
  have hout : ∀ a o, H a = some o → a ∉ fr.map (·.1) := fun a o e z => by
    obtain ⟨q, hq, rfl⟩ := List.mem_map.mp z
    rw [hnew q hq] at e; cases e
  have hnd := W.nd
  refine ⟨⟨fun a o e => ?_, by rw [gAdd_mu]; exact W.nd, fun a ha => ?_, by rw [(gAdd_ms g fr).1, hl]; exact W.mlen, fun i q m' h1 h2 => hm le i q m' (by rw [(gAdd_ms g fr).1] at h1; exact h1) h2, fun a ha => hs a (by rw [(gAdd_ms g fr).2] at ha; exact ha), by rw [(gAdd_ms g fr).2, hss]; exact W.nss, by rw [(gAdd_os g fr).1, hol]; exact W.olen, fun i a o h1 h2 => ho le i a o (by rw [(gAdd_os g fr).1] at h1; exact h1) h2, by rw [(gAdd_os g fr).2]; exact tabs_mono W.tabs le.G fun p hp => by obtain ⟨ps, e, _⟩ := W.tabs p hp; rw [e]; exact ch.keep _ _ e (hts p hp), by rw [(gAdd_os g fr).2]; exact W.hts⟩, le, fun a o e n => ?_, fun a o e => gAdd_out (hout a o e), fun a ha => by rw [gAdd_mu] at ha; exact .inl ha, fun a o e => ?_⟩
  · rcases gAdd_get e with z | z
    · exact (ch.new (hfr _ z)).2
    · refine ch.keep a o (W.sub a o z) fun q => ?_
      rw [hG a (hcs a q)] at z; cases z
  · rw [gAdd_mu] at ha
    obtain ⟨o, e⟩ := W.muAt ha
    rw [gAdd_out (hout a o e)]; exact hG a ha
  · exact ch.keep a o e fun q => n (hcs a q)
  · by_cases q : a ∈ cs.map (·.1)
    · obtain ⟨p, hp, rfl⟩ := List.mem_map.mp q
      exact hal p hp
    · exact ⟨o, ch.keep a o e q⟩
theorem Wr.oKeep (W : Wr K c g H w) (ch : Chg H H' cs ns) {g' : Gh} (le : g.le g') {i : Nat} {a : Addr} {o : Obj} (h1 : g.os[i]? = some a) (h2 : w.os[i]? = some o) (hn : a ∉ cs.map (·.1)) : ORep K c g' H' a o := by
  have h := W.objs i a o h1 h2
  obtain ⟨u, e⟩ := W.muAt (mem_mu4 (List.mem_of_getElem? h1))
  exact h.mono le ((ch.keep a u e hn).trans e.symm)
/-- only new things -/
theorem Wr.go0 (W : Wr K c g H w) (ch : Chg H H' [] ns) : Wr K c (gAdd g ns) H' w ∧ Aft g H (gAdd g ns) H' := by
  refine W.go ch (fun a h => nomatch h) (fun q h => nomatch h) (fun q h => h) rfl rfl (fun le i q m' h1 h2 => ?_) (fun a ha => ?_) rfl ?_ ?_
  · have h := W.mach i q m' h1 h2
    obtain ⟨vs, h3, _⟩ := h.wlk
    exact h.mono le (by rw [h.cnt]; exact ch.keep _ _ h.cnt (fun z => nomatch z)) (by rw [h3]; exact ch.keep _ _ h3 (fun z => nomatch z))
  · obtain ⟨o, h1, h2⟩ := W.srcs a ha
    exact ⟨o, ch.keep _ _ h1 (fun z => nomatch z), h2⟩
  · exact fun le i a o h1 h2 => W.oKeep ch le h1 h2 (fun z => nomatch z)
  · exact fun p hp z => nomatch z
theorem Wr.goS (W : Wr K c g H w) (s : Same H H') : Wr K c g H' w ∧ Aft g H g H' := W.go0 (Chg.of_same s)
theorem nd_map {α : Type} {f : α → Addr} : ∀ {l : List α} {i j : Nat} {x y : α}, (l.map f).Nodup → l[i]? = some x → l[j]? = some y → f x = f y → i = j
  | l, i, j, x, y, hn, h1, h2, e => by
    have g1 : (l.map f)[i]? = some (f x) := by rw [List.getElem?_map, h1]; rfl
    have g2 : (l.map f)[j]? = some (f x) := by rw [List.getElem?_map, h2, e]; rfl
    have hi : i < (l.map f).length := (List.getElem?_eq_some_iff.mp g1).1
    exact (List.getElem?_inj hi hn).mp (g1.trans g2.symm)
theorem Wr.dne (W : Wr K c g H w) {q p : Addr × Addr × Addr} (h1 : g.ms[i]? = some q) (h2 : g.ms[j]? = some p) (ne : i ≠ j) : q.2.1 ≠ p.2.1 := fun e => ne (nd_map (f := fun q : Addr × Addr × Addr => q.2.1) (List.nodup_append.mp W.nd).1 h1 h2 e)
theorem Wr.ene (W : Wr K c g H w) {q p : Addr × Addr × Addr} (h1 : g.ms[i]? = some q) (h2 : g.ms[j]? = some p) (ne : i ≠ j) : q.2.2 ≠ p.2.2 := fun e => ne (nd_map (f := fun q : Addr × Addr × Addr => q.2.2) (List.nodup_append.mp (List.nodup_append.mp W.nd).2.1).1 h1 h2 e)
theorem Wr.de (W : Wr K c g H w) {q p : Addr × Addr × Addr} (h1 : g.ms[i]? = some q) (h2 : g.ms[j]? = some p) : q.2.1 ≠ p.2.2 := fun e => (List.nodup_append.mp W.nd).2.2 q.2.1 (List.mem_map.mpr ⟨q, List.mem_of_getElem? h1, rfl⟩) p.2.2 (List.mem_append_left _ (List.mem_map.mpr ⟨p, List.mem_of_getElem? h2, rfl⟩)) e
theorem Wr.ds (W : Wr K c g H w) {q : Addr × Addr × Addr} {a : Addr} (h1 : g.ms[i]? = some q) (h2 : a ∈ g.ss) : q.2.1 ≠ a := fun e => (List.nodup_append.mp W.nd).2.2 q.2.1 (List.mem_map.mpr ⟨q, List.mem_of_getElem? h1, rfl⟩) a (List.mem_append_right _ (List.mem_append_left _ h2)) e
theorem Wr.es (W : Wr K c g H w) {q : Addr × Addr × Addr} {a : Addr} (h1 : g.ms[i]? = some q) (h2 : a ∈ g.ss) : q.2.2 ≠ a := fun e => (List.nodup_append.mp (List.nodup_append.mp W.nd).2.1).2.2 q.2.2 (List.mem_map.mpr ⟨q, List.mem_of_getElem? h1, rfl⟩) a (List.mem_append_left _ h2) e
theorem Wr.dot (W : Wr K c g H w) {q : Addr × Addr × Addr} {a : Addr} (h1 : g.ms[i]? = some q) (h2 : a ∈ g.ot) : q.2.1 ≠ a := fun e => (List.nodup_append.mp W.nd).2.2 q.2.1 (List.mem_map.mpr ⟨q, List.mem_of_getElem? h1, rfl⟩) a (List.mem_append_right _ (List.mem_append_right _ h2)) e
theorem Wr.eot (W : Wr K c g H w) {q : Addr × Addr × Addr} {a : Addr} (h1 : g.ms[i]? = some q) (h2 : a ∈ g.ot) : q.2.2 ≠ a := fun e => (List.nodup_append.mp (List.nodup_append.mp W.nd).2.1).2.2 q.2.2 (List.mem_map.mpr ⟨q, List.mem_of_getElem? h1, rfl⟩) a (List.mem_append_right _ h2) e
theorem Wr.sot (W : Wr K c g H w) {b a : Addr} (h1 : b ∈ g.ss) (h2 : a ∈ g.ot) : b ≠ a := fun e => (List.nodup_append.mp (List.nodup_append.mp (List.nodup_append.mp W.nd).2.1).2.1).2.2 b h1 a h2 e
theorem mem_ot1 {a : Addr} (h : a ∈ g.os) : a ∈ g.ot := List.mem_append_left _ h
theorem mem_ot2 {p : Addr × Str} (h : p ∈ g.ts) : p.1 ∈ g.ot := List.mem_append_right _ (List.mem_map.mpr ⟨p, h, rfl⟩)
/-- machine i is now m -/
def Wld.put (w : Wld) (i : Nat) (m : Mach) : Wld := ⟨w.ms.set i m, w.ss, w.os⟩
/-- what is changed lies at machine i -/
theorem Wr.goM (W : Wr K c g H w) {q : Addr × Addr × Addr} {m : Mach} (hi : g.ms[i]? = some q) (ch : Chg H H' cs ns) (hcs : ∀ a ∈ cs.map (·.1), a = q.2.1 ∨ a = q.2.2) (hal : ∀ q ∈ cs, ∃ o, H' q.1 = some o) (hfr : ∀ q ∈ fr, q ∈ ns) (hm : g.le (gAdd g fr) → MRep K c (gAdd g fr) H' q m) : Wr K c (gAdd g fr) H' (w.put i m) ∧ Aft g H (gAdd g fr) H' := by
  refine W.go ch (fun a ha => ?_) hal hfr (by show (w.ms.set i m).length = _; rw [List.length_set]) rfl (fun le j p m' h1 h2 => ?_) (fun a ha => ?_) rfl (fun le j a o h1 h2 => W.oKeep ch le h1 h2 fun z => ?_) fun p hp z => ?_
  · rcases hcs a ha with rfl | rfl
    · exact mem_mu1 hi
    · exact mem_mu2 hi
  · rcases set_get (show (w.ms.set i m)[j]? = some m' from h2) with ⟨rfl, rfl⟩ | ⟨ne, h2'⟩
    · rw [hi] at h1; cases h1; exact hm le
    · have h := W.mach j p m' h1 h2'
      obtain ⟨vs, h3, _⟩ := h.wlk
      refine h.mono le ?_ ?_
      · rw [h.cnt]
        refine ch.keep _ _ h.cnt fun z => ?_
        rcases hcs _ z with e | e
        · exact W.dne h1 hi ne e
        · exact W.de h1 hi e
      · rw [h3]
        refine ch.keep _ _ h3 fun z => ?_
        rcases hcs _ z with e | e
        · exact W.de hi h1 e.symm
        · exact W.ene h1 hi ne e
  · obtain ⟨o, h1, h2⟩ := W.srcs a ha
    refine ⟨o, ch.keep _ _ h1 fun z => ?_, h2⟩
    rcases hcs _ z with e | e
    · exact W.ds hi ha e.symm
    · exact W.es hi ha e.symm
  · rcases hcs _ z with e | e
    · exact W.dot hi (mem_ot1 (List.mem_of_getElem? h1)) e.symm
    · exact W.eot hi (mem_ot1 (List.mem_of_getElem? h1)) e.symm
  · rcases hcs _ z with e | e
    · exact W.dot hi (mem_ot2 hp) e.symm
    · exact W.eot hi (mem_ot2 hp) e.symm
/-- a source's draws -/
theorem Wr.goR (W : Wr K c g H w) {a : Addr} {o : HO} (hi : g.ss[i]? = some a) (ch : Chg H H' [(a, o)] ns) (ho : SrcO o) (hfr : ∀ q ∈ fr, q ∈ ns) : Wr K c (gAdd g fr) H' w ∧ Aft g H (gAdd g fr) H' := by
  have hm := List.mem_of_getElem? hi
  refine W.go ch (fun b hb => ?_) (fun q hq => ?_) hfr rfl rfl (fun le j p m' h1 h2 => ?_) (fun b hb => ?_) rfl (fun le j b o h1 h2 => W.oKeep ch le h1 h2 fun z => W.sot hm (mem_ot1 (List.mem_of_getElem? h1)) (List.mem_singleton.mp z).symm) fun p hp z => W.sot hm (mem_ot2 hp) (List.mem_singleton.mp z).symm
  · rw [List.mem_singleton.mp hb]; exact mem_mu3 hm
  · rw [List.mem_singleton.mp hq]; exact ⟨o, ch.chg List.mem_cons_self⟩
  · have h := W.mach j p m' h1 h2
    obtain ⟨vs, h3, _⟩ := h.wlk
    refine h.mono le ?_ ?_
    · rw [h.cnt]; exact ch.keep _ _ h.cnt fun z => W.ds h1 hm (List.mem_singleton.mp z)
    · rw [h3]; exact ch.keep _ _ h3 fun z => W.es h1 hm (List.mem_singleton.mp z)
  · by_cases e : b = a
    · subst e; exact ⟨o, ch.chg List.mem_cons_self, ho⟩
    · obtain ⟨o', h1, h2⟩ := W.srcs b hb
      exact ⟨o', ch.keep _ _ h1 fun z => e (List.mem_singleton.mp z), h2⟩
/-- a further machine -/
theorem Wr.addM (W : Wr K c g H w) {x dx d e : Addr} {b : Nat} {cut : Int} (hx : g.G x = some (.ins c.CMachine dx (mF b cut d e))) (hd : H d = some (.dK (cK zeros))) (he : H e = some (.lst [])) (nd : d ∉ g.mu) (ne : e ∉ g.mu) (gd : g.G d = none) (ge : g.G e = none) : Wr K c ⟨g.G, g.ms ++ [(x, d, e)], g.ss, g.os, g.ts⟩ H ⟨w.ms ++ [⟨b, cut, zeros, []⟩], w.ss, w.os⟩ := by
  have de : d ≠ e := fun z => by rw [z, he] at hd; cases hd
  have le : g.le ⟨g.G, g.ms ++ [(x, d, e)], g.ss, g.os, g.ts⟩ := ⟨fun _ _ h => h, fun i q h => by
    show (g.ms ++ [(x, d, e)])[i]? = some q
    rw [List.getElem?_append_left (List.getElem?_eq_some_iff.mp h).1]; exact h, fun _ _ h => h, fun _ _ h => h, rfl⟩
  have hmu : (⟨g.G, g.ms ++ [(x, d, e)], g.ss, g.os, g.ts⟩ : Gh).mu.Perm (d :: e :: g.mu) := by
    unfold Gh.mu
    simp only [List.map_append, List.map_cons, List.map_nil, List.append_assoc, List.cons_append, List.nil_append]
    refine List.perm_middle.trans (List.Perm.cons _ ?_)
    rw [← List.append_assoc]
    refine List.perm_middle.trans (List.Perm.cons _ ?_)
    rw [List.append_assoc]
    exact List.Perm.refl _
  refine ⟨W.sub, hmu.nodup_iff.mpr (List.nodup_cons.mpr ⟨fun z => ?_, List.nodup_cons.mpr ⟨ne, W.nd⟩⟩), fun a ha => ?_, by show (g.ms ++ [(x, d, e)]).length = (w.ms ++ [_]).length; simp only [List.length_append, W.mlen]; rfl, fun i q m h1 h2 => ?_, W.srcs, W.nss, W.olen, fun i a o h1 h2 => (W.objs i a o h1 h2).mono le rfl, W.tabs, W.hts⟩
  · rcases List.mem_cons.mp z with z | z
    · exact de z
    · exact nd z
  · rcases List.mem_cons.mp (hmu.mem_iff.mp ha) with rfl | z
    · exact gd
    · rcases List.mem_cons.mp z with rfl | z
      · exact ge
      · exact W.off a z
  · by_cases hi : i < g.ms.length
    · have h1 : (g.ms ++ [(x, d, e)])[i]? = some q := h1
      have h2 : (w.ms ++ [_])[i]? = some m := h2
      rw [List.getElem?_append_left hi] at h1
      rw [List.getElem?_append_left (by rw [← W.mlen]; exact hi)] at h2
      exact (W.mach i q m h1 h2).mono le rfl rfl
    · have h1 : (g.ms ++ [(x, d, e)])[i]? = some q := h1
      have h2 : (w.ms ++ [_])[i]? = some m := h2
      have hlt := (List.getElem?_eq_some_iff.mp h1).1
      simp only [List.length_append, List.length_cons, List.length_nil] at hlt
      have hi' : i = g.ms.length := by omega
      subst hi'
      rw [List.getElem?_concat_length] at h1
      rw [W.mlen, List.getElem?_concat_length] at h2
      cases h1; cases h2
      exact ⟨⟨dx, hx⟩, hd, rfl, ⟨[], he, .nil⟩, Nat.zero_le _⟩
/-- a further source -/
theorem Wr.addS (W : Wr K c g H w) {a : Addr} {o : HO} (ha : H a = some o) (ho : SrcO o) (na : a ∉ g.mu) (ga : g.G a = none) : Wr K c ⟨g.G, g.ms, g.ss ++ [a], g.os, g.ts⟩ H ⟨w.ms, w.ss + 1, w.os⟩ := by
  have le : g.le ⟨g.G, g.ms, g.ss ++ [a], g.os, g.ts⟩ := ⟨fun _ _ h => h, fun _ _ h => h, fun i q h => by
    show (g.ss ++ [a])[i]? = some q
    rw [List.getElem?_append_left (List.getElem?_eq_some_iff.mp h).1]; exact h, fun _ _ h => h, rfl⟩
  have hmu : (⟨g.G, g.ms, g.ss ++ [a], g.os, g.ts⟩ : Gh).mu.Perm (a :: g.mu) := by
    unfold Gh.mu
    show (g.ms.map (·.2.1) ++ (g.ms.map (·.2.2) ++ ((g.ss ++ [a]) ++ g.ot))).Perm (a :: (g.ms.map (·.2.1) ++ (g.ms.map (·.2.2) ++ (g.ss ++ g.ot))))
    rw [List.append_assoc, List.singleton_append, ← List.append_assoc, ← List.append_assoc, ← List.append_assoc, ← List.append_assoc]
    exact List.perm_middle
  refine ⟨W.sub, hmu.nodup_iff.mpr (List.nodup_cons.mpr ⟨na, W.nd⟩), fun b hb => ?_, W.mlen, fun i q m h1 h2 => (W.mach i q m h1 h2).mono le rfl rfl, fun b hb => ?_, by show (g.ss ++ [a]).length = _; rw [List.length_append, W.nss]; rfl, W.olen, fun i a o h1 h2 => (W.objs i a o h1 h2).mono le rfl, W.tabs, W.hts⟩
  · rcases List.mem_cons.mp (hmu.mem_iff.mp hb) with rfl | z
    · exact ga
    · exact W.off b z
  · rcases List.mem_append.mp hb with z | z
    · exact W.srcs b z
    · rw [List.mem_singleton.mp z]; exact ⟨o, ha, ho⟩
end
end Pu
namespace Pu
open PySem L2 Eng
def Mach.cnt (m : Mach) (j : Nat) (v : Int) : Mach := { m with ns := m.ns.modify j (· + v) }
def Mach.ent (m : Mach) (s : Str) (a b : Int) : Mach := { m with walk := if m.walk.length < 1000 then m.walk ++ [(s, a, b)] else m.walk }
def Mach.rst (m : Mach) : Mach := { m with ns := zeros, walk := [] }
def P_Machine_count : PSp := fun ds w k => match ds with
  | [.mach i, .str s, .int v] => onM w i fun m => ∃ j, words[j]? = some s ∧ k .non (w.put i (m.cnt j v))
  | _ => False
def P_Machine_reset : PSp := fun ds w k => match ds with
  | [.mach i] => onM w i fun m => k .non (w.put i m.rst)
  | _ => False
def P_Machine_parts : PSp := fun ds w k => match ds with
  | [.mach i] => onM w i fun m => k (.tup [.int (m.b : Int), .int m.cut]) w
  | _ => False
def P_Machine_walk : PSp := fun ds w k => match ds with
  | [.mach i] => onM w i fun m => k (.lst (m.walk.map dW)) w
  | _ => False
def dRows (ns : List Int) : List Dat := List.zipWith (fun (s : Str) n => Dat.tup [.str s, .int n]) words ns
def P_Machine_tally : PSp := fun ds w k => match ds with
  | [.mach i] => onM w i fun m => k (.lst (dRows m.ns)) w
  | _ => False
def P_check_machine : PSp := fun ds w k => match ds with
  | [.mach i] => onM w i fun _ => k .non w
  | _ => False
section
variable {K : PySem.W.Frag} {c : Pc}
theorem modify_set {ns : List Int} {j : Nat} {v : Int} (h : j < ns.length) : ns.set j (ns[j] + v) = ns.modify j (· + v) := by
  apply List.ext_getElem?
  intro i
  rw [List.getElem?_modify, List.getElem?_set]
  by_cases e : j = i
  · subst e; simp [h]
  · simp [e]
theorem one_arg {g : Gh} {vs : List V} {d : Dat} (r : Reps K c g vs [d]) : ∃ v, vs = [v] ∧ Rep K c g v d := by
  cases r with
  | cons r t => cases t; exact ⟨_, rfl, r⟩
theorem two_arg {g : Gh} {vs : List V} {d e : Dat} (r : Reps K c g vs [d, e]) : ∃ v v', vs = [v, v'] ∧ Rep K c g v d ∧ Rep K c g v' e := by
  cases r with
  | cons r t =>
    obtain ⟨v, rfl, h⟩ := one_arg t
    exact ⟨_, _, rfl, r, h⟩
theorem three_arg {g : Gh} {vs : List V} {d e f : Dat} (r : Reps K c g vs [d, e, f]) : ∃ v v' v'', vs = [v, v', v''] ∧ Rep K c g v d ∧ Rep K c g v' e ∧ Rep K c g v'' f := by
  cases r with
  | cons r t =>
    obtain ⟨v, v', rfl, h, h'⟩ := two_arg t
    exact ⟨_, _, _, rfl, r, h, h'⟩
theorem u_Machine_count : SndP K c (sp_Machine_count K c) P_Machine_count := by
  intro g H w vs ds k Q E W r h hQ
  unfold P_Machine_count at h
  split at h
  · rename_i i s v
    obtain ⟨m, hm, j, hj, h⟩ := onM_of h
    obtain ⟨a, b, d, rfl, r1, r2, r3⟩ := three_arg r
    obtain ⟨q, m', dx, hq, hm', rfl, hi, M⟩ := W.ins r1
    rw [hm] at hm'; cases hm'
    have hlt : j < m.ns.length := by rw [M.ten]; exact (List.getElem?_eq_some_iff.mp hj).1
    refine ⟨q.1, dx, m.b, m.cut, q.2.1, q.2.2, m.ns, s, j, m.ns[j]'hlt, v, by rw [r2.strI, r3.intI], hi, M.cnt, M.ten, hj, List.getElem?_eq_getElem hlt, fun H' ch => ?_⟩
    have e : m.ns.set j (m.ns[j]'hlt + v) = m.ns.modify j (· + v) := modify_set hlt
    rw [e] at ch
    obtain ⟨vs, hw1, hw2⟩ := M.wlk
    obtain ⟨W', A⟩ := W.goM (fr := []) (m := m.cnt j v) hq ch (fun a ha => .inl (List.mem_singleton.mp ha)) (fun q hq => by rw [List.mem_singleton.mp hq]; exact ⟨_, ch.chg List.mem_cons_self⟩) (fun _ z => nomatch z) fun _ => ⟨M.ins, ch.chg List.mem_cons_self, by show (m.ns.modify j _).length = 10; rw [List.length_modify]; exact M.ten, ⟨vs, ch.keep _ _ hw1 fun z => W.de hq hq (List.mem_singleton.mp z).symm, hw2⟩, M.few⟩
    exact hQ .non .non g H' _ A W' .non h
  · exact h.elim
theorem u_Machine_reset : SndP K c (sp_Machine_reset K c) P_Machine_reset := by
  intro g H w vs ds k Q E W r h hQ
  unfold P_Machine_reset at h
  split at h
  · rename_i i
    obtain ⟨m, hm, h⟩ := onM_of h
    obtain ⟨a, rfl, r1⟩ := one_arg r
    obtain ⟨q, m', dx, hq, hm', rfl, hi, M⟩ := W.ins r1
    rw [hm] at hm'; cases hm'
    obtain ⟨vs, hw1, hw2⟩ := M.wlk
    refine ⟨q.1, dx, m.b, m.cut, q.2.1, q.2.2, m.ns, vs, rfl, hi, M.cnt, M.ten, hw1, fun H' ch => ?_⟩
    obtain ⟨W', A⟩ := W.goM (fr := []) (m := m.rst) hq ch (fun a ha => by
      simp only [List.map_cons, List.map_nil, List.mem_cons, List.not_mem_nil, or_false] at ha
      exact ha) (fun q hq => ⟨q.2, ch.chg hq⟩) (fun _ z => nomatch z) fun _ => ⟨M.ins, ch.chg List.mem_cons_self, rfl, ⟨[], ch.chg (List.mem_cons_of_mem _ List.mem_cons_self), .nil⟩, Nat.zero_le _⟩
    exact hQ .non .non g H' _ A W' .non h
  · exact h.elim
theorem u_Machine_parts : SndP K c (sp_Machine_parts K c) P_Machine_parts := by
  intro g H w vs ds k Q E W r h hQ
  unfold P_Machine_parts at h
  split at h
  · rename_i i
    obtain ⟨m, hm, h⟩ := onM_of h
    obtain ⟨a, rfl, r1⟩ := one_arg r
    obtain ⟨q, m', dx, hq, hm', rfl, hi, M⟩ := W.ins r1
    rw [hm] at hm'; cases hm'
    refine ⟨q.1, dx, m.b, m.cut, q.2.1, q.2.2, rfl, hi, fun p H' ch => ?_⟩
    obtain ⟨W', A⟩ := W.go0 ch
    exact hQ _ _ _ H' w A W' (.tup (gAdd_in (q := (p, _)) ch.nd List.mem_cons_self) (.cons (.int _) (.cons (.int _) .nil))) h
  · exact h.elim
theorem u_Machine_walk : SndP K c (sp_Machine_walk K c) P_Machine_walk := by
  intro g H w vs ds k Q E W r h hQ
  unfold P_Machine_walk at h
  split at h
  · rename_i i
    obtain ⟨m, hm, h⟩ := onM_of h
    obtain ⟨a, rfl, r1⟩ := one_arg r
    obtain ⟨q, m', dx, hq, hm', rfl, hi, M⟩ := W.ins r1
    rw [hm] at hm'; cases hm'
    obtain ⟨vs, hw1, hw2⟩ := M.wlk
    refine ⟨q.1, dx, m.b, m.cut, q.2.1, q.2.2, vs, rfl, hi, hw1, fun p H' ch => ?_⟩
    obtain ⟨W', A⟩ := W.go0 ch
    exact hQ _ _ _ H' w A W' (.lst (gAdd_in (q := (p, _)) ch.nd List.mem_cons_self) (hw2.mono A.le)) h
  · exact h.elim
theorem reps_rows {g : Gh} : ∀ {ws : List Str} {ns : List Int} {ps : List Addr} {n : Nat}, ws.length = n → ns.length = n → ps.length = n → (∀ (i : Nat) p t, ps[i]? = some p → (List.zipWith (fun (w : Str) n => [V.str w, V.int n]) ws ns)[i]? = some t → g.G p = some (.tup t)) → Reps K c g (ps.map V.ref) (List.zipWith (fun (s : Str) n => Dat.tup [.str s, .int n]) ws ns)
  | [], [], [], _, _, _, _, _ => .nil
  | s :: ws, m :: ns, p :: ps, n + 1, h1, h2, h3, h => .cons (.tup (h 0 p _ rfl rfl) (.cons (.str _) (.cons (.int _) .nil))) (reps_rows (n := n) (by simpa using h1) (by simpa using h2) (by simpa using h3) fun i q t e1 e2 => h (i + 1) q t e1 e2)
  | [], _ :: _, _, 0, _, h, _, _ => by simp at h
  | [], [], _ :: _, 0, _, _, h, _ => by simp at h
  | _ :: _, _, _, 0, h, _, _, _ => by simp at h
  | [], _, _, _ + 1, h, _, _, _ => by simp at h
  | _ :: _, [], _, _ + 1, _, h, _, _ => by simp at h
  | _ :: _, _ :: _, [], _ + 1, _, _, h, _ => by simp at h
theorem u_Machine_tally : SndP K c (sp_Machine_tally K c) P_Machine_tally := by
  intro g H w vs ds k Q E W r h hQ
  unfold P_Machine_tally at h
  split at h
  · rename_i i
    obtain ⟨m, hm, h⟩ := onM_of h
    obtain ⟨a, rfl, r1⟩ := one_arg r
    obtain ⟨q, m', dx, hq, hm', rfl, hi, M⟩ := W.ins r1
    rw [hm] at hm'; cases hm'
    refine ⟨q.1, dx, m.b, m.cut, q.2.1, q.2.2, m.ns, rfl, hi, M.cnt, M.ten, fun p ps H' hl ch => ?_⟩
    obtain ⟨W', A⟩ := W.go0 ch
    refine hQ _ _ _ H' w A W' (.lst (gAdd_in (q := (p, _)) ch.nd List.mem_cons_self) ?_) h
    refine reps_rows (n := 10) rfl M.ten hl fun i p' t e1 e2 => ?_
    exact gAdd_in (q := (p', HO.tup t)) ch.nd (List.mem_cons_of_mem _ (tl2_mem e1 e2))
  · exact h.elim
variable {ta : TE} {pa : PE} {tr : TA} {pr : PA} {E : XK}
theorem snd_widthM (PM : PM K c) (ha : SndE K c ta pa) : SndE K c (tFld K ta "width") (pWidthM pa) := by
  intro X F σ s k Q I h hQ
  refine ha X F σ s _ _ I h fun x dx s1 l1 I1 r1 h' => ?_
  cases dx with
  | mach i =>
    obtain ⟨m, hm, h'⟩ := onM_of h'
    obtain ⟨q, m', dx, hq, hm', rfl, hi, M⟩ := I1.wr.ins r1
    rw [hm] at hm'; cases hm'
    exact rd_Mwidth PM hi (hQ _ _ s1 l1 I1 (.int _) h')
  | _ => exact h'.elim
def P_Machine : PSp := fun ds w k => match ds with
  | [.int b, .int cut] => (8 ≤ b ∧ b ≤ 30 ∧ 2 ≤ cut ∧ cut ≤ 1000) ∧ k (.mach w.ms.length) ⟨w.ms ++ [⟨b.toNat, cut, zeros, []⟩], w.ss, w.os⟩
  | _ => False
theorem snd_mkM {dv : List V} {dd : List Dat} (hd : ∀ g : Gh, Reps K c g dv dd) (hr : SndA K c tr pr) : SndE K c (tMake c.CMachine (sp_Machine_init K c) dv E tr) (pCallD P_Machine dd pr) := by
  intro X F σ s k Q I h hQ
  refine hr X F σ s _ _ I h fun vs ds s1 l1 I1 r1 h1 => ?_
  intro x dx nx ndx nex
  have r2 := r1.app (hd s1.g)
  generalize hvs : vs ++ dv = us at r2
  generalize hds : ds ++ dd = es at r2 h1
  unfold P_Machine at h1
  split at h1
  · rename_i b cut
    obtain ⟨⟨b1, b2, c1, c2⟩, h1⟩ := h1
    obtain ⟨v, v', rfl, e1, e2⟩ := two_arg r2
    obtain ⟨b', rfl⟩ : ∃ b' : Nat, b = (b' : Int) := ⟨b.toNat, by omega⟩
    refine ⟨x, dx, b', cut, by rw [e1.intI, e2.intI], by omega, by omega, c1, c2, upd_same, fun d e H' ch => ⟨rfl, ?_⟩⟩
    have W := I1.wr
    have hnx : dx ≠ x := nex
    -- what is new: the object, its counts, its walk
    have hx' : H' x = some (.ins c.CMachine dx (mF b' cut d e)) := ch.chg List.mem_cons_self
    have hd0 := ch.new (a := d) (o := .dK (cK zeros)) List.mem_cons_self
    have he0 := ch.new (a := e) (o := .lst []) (List.mem_cons_of_mem _ List.mem_cons_self)
    have hdx : d ≠ x := fun z => by rw [z, upd_same] at hd0; cases hd0.1
    have hex : e ≠ x := fun z => by rw [z, upd_same] at he0; cases he0.1
    have hddx : d ≠ dx := fun z => by rw [z, upd_ne hnx, upd_same] at hd0; cases hd0.1
    have hedx : e ≠ dx := fun z => by rw [z, upd_ne hnx, upd_same] at he0; cases he0.1
    have hd1 : s1.H d = none := by have := hd0.1; rwa [upd_ne hdx, upd_ne hddx] at this
    have he1 : s1.H e = none := by have := he0.1; rwa [upd_ne hex, upd_ne hedx] at this
    have kp : ∀ a o, s1.H a = some o → H' a = some o := fun a o z => by
      have n1 : a ≠ x := fun y => by rw [y, nx] at z; cases z
      have n2 : a ≠ dx := fun y => by rw [y, ndx] at z; cases z
      refine ch.keep a o (by rw [upd_ne n1, upd_ne n2]; exact z) fun y => n1 (List.mem_singleton.mp y)
    have ch' : Chg s1.H H' [] [(x, .ins c.CMachine dx (mF b' cut d e))] := ⟨(fun z => nomatch z), fun z => by cases List.mem_singleton.mp z; exact ⟨nx, hx'⟩, by simp, fun a o z _ => kp a o z⟩
    obtain ⟨W1, A1⟩ := W.go0 ch'
    have hgx : (gAdd s1.g [(x, HO.ins c.CMachine dx (mF b' cut d e))]).G x = some (.ins c.CMachine dx (mF b' cut d e)) := gAdd_in (q := (x, _)) ch'.nd List.mem_cons_self
    have hmu : (gAdd s1.g [(x, HO.ins c.CMachine dx (mF b' cut d e))]).mu = s1.g.mu := gAdd_mu _ _
    have W2 := W1.addM hgx hd0.2 he0.2 (by rw [hmu]; exact fun z => by obtain ⟨o, e⟩ := W.muAt z; rw [hd1] at e; cases e) (by rw [hmu]; exact fun z => by obtain ⟨o, e⟩ := W.muAt z; rw [he1] at e; cases e) (by
      rw [gAdd_out (by simp only [List.map_cons, List.map_nil, List.mem_singleton]; exact hdx)]; exact W.noG hd1) (by
      rw [gAdd_out (by simp only [List.map_cons, List.map_nil, List.mem_singleton]; exact hex)]; exact W.noG he1)
    have le2 : (gAdd s1.g [(x, HO.ins c.CMachine dx (mF b' cut d e))]).le ⟨(gAdd s1.g [(x, HO.ins c.CMachine dx (mF b' cut d e))]).G, (gAdd s1.g [(x, HO.ins c.CMachine dx (mF b' cut d e))]).ms ++ [(x, d, e)], (gAdd s1.g [(x, HO.ins c.CMachine dx (mF b' cut d e))]).ss, (gAdd s1.g [(x, HO.ins c.CMachine dx (mF b' cut d e))]).os, (gAdd s1.g [(x, HO.ins c.CMachine dx (mF b' cut d e))]).ts⟩ := ⟨fun _ _ h => h, fun i q h => by
      show (_ ++ [(x, d, e)])[i]? = some q
      rw [List.getElem?_append_left (List.getElem?_eq_some_iff.mp h).1]; exact h, fun _ _ h => h, fun _ _ h => h, rfl⟩
    have A2 : Aft s1.g s1.H ⟨(gAdd s1.g [(x, HO.ins c.CMachine dx (mF b' cut d e))]).G, (gAdd s1.g [(x, HO.ins c.CMachine dx (mF b' cut d e))]).ms ++ [(x, d, e)], (gAdd s1.g [(x, HO.ins c.CMachine dx (mF b' cut d e))]).ss, (gAdd s1.g [(x, HO.ins c.CMachine dx (mF b' cut d e))]).os, (gAdd s1.g [(x, HO.ins c.CMachine dx (mF b' cut d e))]).ts⟩ H' := by
      refine ⟨A1.le.trans le2, A1.keep, A1.frz, fun a ha => ?_, A1.dom⟩
      unfold Gh.mu at ha
      simp only [List.map_append, List.map_cons, List.map_nil, List.mem_append, List.mem_singleton] at ha
      have hin : a ∈ (gAdd s1.g [(x, HO.ins c.CMachine dx (mF b' cut d e))]).mu ∨ a = d ∨ a = e := by
        unfold Gh.mu
        simp only [List.mem_append]
        rcases ha with (z | z) | (z | z) | z
        · exact .inl (.inl z)
        · exact .inr (.inl z)
        · exact .inl (.inr (.inl z))
        · exact .inr (.inr z)
        · exact .inl (.inr (.inr z))
      rcases hin with z | rfl | rfl
      · exact A1.new a z
      · exact .inr hd1
      · exact .inr he1
    have hlen : (gAdd s1.g [(x, HO.ins c.CMachine dx (mF b' cut d e))]).ms.length = s1.w.ms.length := W1.mlen
    refine hQ (.ref x) (.mach s1.w.ms.length) ⟨_, H', s1.e, _, s1.os⟩ (l1.trans A2.le) (I1.call A2 W2) ?_ (by
      have e3 : ((b' : Int)).toNat = b' := by omega
      rw [e3] at h1; exact h1)
    exact Rep.mach (q := (x, d, e)) (by
      show ((gAdd s1.g [(x, HO.ins c.CMachine dx (mF b' cut d e))]).ms ++ [(x, d, e)])[s1.w.ms.length]? = _
      rw [← hlen, List.getElem?_concat_length])
  · exact h1.elim
end
end Pu
namespace Pu
open PySem L2 Eng
def P_made : PSp := fun ds w k => match ds with
  | [.mach i, .int s, .lst l] => onM w i fun m => ∃ es : List Nat, l = dN es ∧ m.b ≠ 0 ∧ Digs m.b es ∧ es.length < 2 ^ 23 ∧ sgnOk s (val m.b es) ∧ k (.big m.b (s * (val m.b es : Nat))) w
  | _ => False
def P_big_of : PSp := fun ds w k => match ds with
  | [.mach i, .int n] => onM w i fun m => m.b ≠ 0 ∧ (digs m.b n.natAbs).length < 2 ^ 23 ∧ k (.big m.b n) w
  | _ => False
def P_value_of : PSp := fun ds w k => match ds with
  | [.big b n] => bigL b n ∧ k (.int n) w
  | _ => False
def P_check_any : PSp := fun ds w k => match ds with
  | [.big _ _] => k .non w
  | _ => False
def P_check_big : PSp := fun ds w k => match ds with
  | [.mach i, .str _, .big b _] => onM w i fun m => m.b = b ∧ k .non w
  | _ => False
def P_check_bigs : PSp := fun ds w k => match ds with
  | [.mach i, .big b _, .big b' _] => onM w i fun m => m.b = b ∧ m.b = b' ∧ k .non w
  | _ => False
def P_is_compact : PSp := fun ds w k => match ds with
  | [.big b n] => k (.bl (decide ((digs b n.natAbs).length ≤ 1))) w
  | _ => False
def P_Big_sign : PSp := fun ds w k => match ds with
  | [.big _ n] => k (.int (sgn n)) w
  | _ => False
def P_Big_bits : PSp := fun ds w k => match ds with
  | [.big b _] => k (.int (b : Int)) w
  | _ => False
def P_Big_digits : PSp := fun ds w k => match ds with
  | [.big b n] => k (.lst (dN (digs b n.natAbs))) w
  | _ => False
def P_bit_length : PSp := fun ds w k => match ds with
  | [.big b n] => bigL b n ∧ k (.int (Builtin.Int.intBits n : Nat)) w
  | _ => False
def P_is_digits : PSp := fun ds w k => match ds with
  | [.mach i, .lst l] => onM w i fun m => ∃ es : List Nat, l = dN es ∧ Digs m.b es ∧ es.length < 2 ^ 23 ∧ k (.bl true) w
  | _ => False
section
variable {K : PySem.W.Frag} {c : Pc} {tr : TA} {pr : PA} {E : XK} {ta : TE} {pa : PE}
theorem Wr.bigAt {g : Gh} {H : Hp} {w : Wld} (W : Wr K c g H w) {v : V} {b : Nat} {n : Int} (h : Rep K c g v (.big b n)) : ∃ a, v = .ref a ∧ BigAt c H a b n := by
  cases h with
  | big h => exact ⟨_, rfl, bigAt_mono W.sub h⟩
theorem newBig_rep {g : Gh} {H H' : Hp} {x dx r : Addr} {b : Nat} {n : Int} {s : Int} {ds : List Nat} (ch : Chg H H' [] [(x, .ins c.CBig dx (bF b s r)), (r, .tup (iN ds))]) (hs : s = sgn n) (hd : ds = digs b n.natAbs) : Rep K c (gAdd g [(x, HO.ins c.CBig dx (bF b s r)), (r, .tup (iN ds))]) (.ref x) (.big b n) := by
  subst hs; subst hd
  exact .big ⟨dx, r, gAdd_in (q := (x, _)) ch.nd List.mem_cons_self, gAdd_in (q := (r, _)) ch.nd (List.mem_cons_of_mem _ List.mem_cons_self)⟩
theorem sgn_mul {s : Int} {v : Nat} {ds : List Nat} {b : Nat} (hb : b ≠ 0) (hd : Digs b ds) (hs : sgnOk s (val b ds)) : (if strip ds = [] then 0 else s) = sgn (s * (val b ds : Nat)) ∧ strip ds = digs b (s * (val b ds : Nat)).natAbs := by
  have e3 : (s * (val b ds : Nat)).natAbs = val b ds := by
    rcases hs with rfl | rfl | ⟨rfl, z⟩ <;> omega
  have e4 : digs b (val b ds) = strip ds := by rw [← val_strip b ds, digs_val hb (fun d z => hd d (strip_mem z)) (strip_norm ds)]
  refine ⟨?_, by rw [e3, e4]⟩
  by_cases h0 : strip ds = []
  · rw [if_pos h0]
    have : val b ds = 0 := by rw [← val_strip, h0]; rfl
    rw [this]; simp [sgn]
  · rw [if_neg h0]
    have hv : val b ds ≠ 0 := fun z => h0 (by rw [← e4, z]; unfold digs; simp)
    unfold sgn
    rcases hs with rfl | rfl | ⟨rfl, z⟩
    · rw [if_neg (by omega), if_neg (by omega)]
    · rw [if_pos (by omega)]
    · exact absurd z hv
theorem u_big_of : SndP K c (sp_big_of K c) P_big_of := by
  intro g H w vs ds k Q E W r h hQ
  unfold P_big_of at h
  split at h
  · rename_i i n
    obtain ⟨m, hm, hb, hl, h⟩ := onM_of h
    obtain ⟨a, b, rfl, r1, r2⟩ := two_arg r
    obtain ⟨q, m', dx, hq, hm', rfl, hi, M⟩ := W.ins r1
    rw [hm] at hm'; cases hm'
    refine ⟨q.1, dx, m.b, m.cut, q.2.1, q.2.2, n, by rw [r2.intI], hi, hb, hl, fun x dx' r H' ch => ?_⟩
    obtain ⟨W', A⟩ := W.go0 ch
    exact hQ _ _ _ H' w A W' (newBig_rep ch rfl rfl) h
  · exact h.elim
def P_big : PSp := P_big_of
theorem u_big : SndP K c (sp_big K c) P_big := u_big_of
theorem u_value_of : SndP K c (sp_value_of K c) P_value_of := by
  intro g H w vs ds k Q E W r h hQ
  unfold P_value_of at h
  split at h
  · rename_i b n
    obtain ⟨v, rfl, r1⟩ := one_arg r
    obtain ⟨a, rfl, hB⟩ := W.bigAt r1
    exact ⟨a, b, n, rfl, hB, h.1, fun H' s => hQ _ _ g H' w (W.goS s).2 (W.goS s).1 (.int _) h.2⟩
  · exact h.elim
def P_plain : PSp := P_value_of
theorem u_check_bigs : SndP K c (sp_check_bigs K c) P_check_bigs := by
  intro g H w vs ds k Q E W r h hQ
  unfold P_check_bigs at h
  split at h
  · rename_i i b n b' n'
    replace h := onM_of h
    obtain ⟨m, hm, rfl, rfl, h⟩ := h
    obtain ⟨a, v', d, rfl, r1, r2, r3⟩ := three_arg r
    obtain ⟨q, m', dx, hq, hm', rfl, hi, M⟩ := W.ins r1
    rw [hm] at hm'; cases hm'
    obtain ⟨a, rfl, hB⟩ := W.bigAt r2
    obtain ⟨a', rfl, hB'⟩ := W.bigAt r3
    exact ⟨q.1, dx, m.b, m.cut, q.2.1, q.2.2, a, a', n, n', rfl, hi, hB, hB', hQ _ _ g H w (Aft.refl _ _) W .non h⟩
  · exact h.elim
def P_Big : PSp := fun ds w k => match ds with
  | [.int b, .int s, .tup row] => ∃ (b' : Nat) (n : Int), b = (b' : Int) ∧ s = sgn n ∧ row = dN (digs b' n.natAbs) ∧ k (.big b' n) w
  | _ => False
def qEqB : Q2
  | .big b n, .big b' n', k => (b ≠ 0 ∧ b' ≠ 0) ∧ k (.bl (decide (b = b' ∧ n = n')))
  | _, _, _ => False
def qNeB : Q2
  | .big b n, .big b' n', k => (b ≠ 0 ∧ b' ≠ 0) ∧ k (.bl (!decide (b = b' ∧ n = n')))
  | _, _, _ => False
theorem In.same {X : En} {F : List (Addr × HO)} {σ : L2.St} {s : Cf} (I : In K c X F σ s) {H' : Hp} (h : Same s.H H') : In K c X F σ ⟨s.g, H', s.e, s.w, s.os⟩ := I.call (I.wr.goS h).2 (I.wr.goS h).1
def P_law_source_of : PSp := fun ds w k => match ds with
  | [.int _] => k (.src w.ss) ⟨w.ms, w.ss + 1, w.os⟩
  | _ => False
def P_law_next : PSp := fun ds w k => match ds with
  | [.src j, .int n] => j < w.ss ∧ (0 < n ∧ NxtB n) ∧ ∀ r, 0 ≤ r → r < n → k (.int r) w
  | _ => False
def P_law_one : PSp := fun ds w k => match ds with
  | [.src j, .lst l] => j < w.ss ∧ (l ≠ [] ∧ l.length ≤ 1000) ∧ ∀ d ∈ l, k d w
  | _ => False
theorem Wr.srcAt {g : Gh} {H : Hp} {w : Wld} (W : Wr K c g H w) {v : V} {j : Nat} (h : Rep K c g v (.src j)) : ∃ a o, v = .ref a ∧ g.ss[j]? = some a ∧ H a = some o ∧ SrcO o := by
  cases h with
  | src h =>
    obtain ⟨o, h1, h2⟩ := W.srcs _ (List.mem_of_getElem? h)
    exact ⟨_, o, rfl, h, h1, h2⟩
theorem u_law_source_of : SndP K c (sp_law_source_of K c) P_law_source_of := by
  intro g H w vs ds k Q E W r h hQ
  unfold P_law_source_of at h
  split at h
  · rename_i n
    obtain ⟨v, rfl, r1⟩ := one_arg r
    refine ⟨n, by rw [r1.intI], fun p o H' ho ch => ?_⟩
    have hp := ch.new (a := p) (o := o) List.mem_cons_self
    have ch' : Chg H H' [] [] := ⟨(fun z => nomatch z), (fun z => nomatch z), List.nodup_nil, ch.keep⟩
    obtain ⟨W1, A1⟩ := W.go0 ch'
    have W2 := W1.addS hp.2 ho (fun z => by obtain ⟨o, e⟩ := W.muAt z; rw [hp.1] at e; cases e) (W.noG hp.1)
    refine hQ _ _ _ H' _ ?_ W2 (Rep.src (a := p) (i := w.ss) ?_) h
    · refine ⟨⟨fun _ _ h => h, fun _ _ h => h, fun i q h => by
        show (g.ss ++ [p])[i]? = some q
        rw [List.getElem?_append_left (List.getElem?_eq_some_iff.mp h).1]; exact h, fun _ _ h => h, rfl⟩, A1.keep, A1.frz, fun a ha => ?_, A1.dom⟩
      have ha : a ∈ g.ms.map (·.2.1) ++ (g.ms.map (·.2.2) ++ ((g.ss ++ [p]) ++ g.ot)) := ha
      simp only [List.mem_append, List.mem_singleton] at ha
      unfold Gh.mu
      simp only [List.mem_append]
      rcases ha with z | z | (z | z) | z
      · exact .inl (.inl z)
      · exact .inl (.inr (.inl z))
      · exact .inl (.inr (.inr (.inl z)))
      · rw [z]; exact .inr hp.1
      · exact .inl (.inr (.inr (.inr z)))
    · show (g.ss ++ [p])[w.ss]? = some p
      rw [← W.nss, List.getElem?_concat_length]
  · exact h.elim
theorem u_law_next : SndP K c (sp_law_next K c) P_law_next := by
  intro g H w vs ds k Q E W r h hQ
  unfold P_law_next at h
  split at h
  · rename_i j n
    obtain ⟨v, v', rfl, r1, r2⟩ := two_arg r
    obtain ⟨a, o, rfl, hi, hH, ho⟩ := W.srcAt r1
    refine ⟨a, o, n, by rw [r2.intI], hH, ho, h.2.1.1, h.2.1.2, fun z o' H' z1 z2 ho' ch => ?_⟩
    obtain ⟨W', A⟩ := W.goR (fr := []) hi ch ho' (fun _ z => nomatch z)
    exact hQ _ _ g H' w A W' (.int _) (h.2.2 z z1 z2)
  · exact h.elim
theorem u_law_one : SndP K c (sp_law_one K c) P_law_one := by
  intro g H w vs ds k Q E W r h hQ
  unfold P_law_one at h
  split at h
  · rename_i j l
    obtain ⟨v, v', rfl, r1, r2⟩ := two_arg r
    obtain ⟨a, o, rfl, hi, hH, ho⟩ := W.srcAt r1
    cases r2 with
    | lst hl hR =>
      rename_i b ws
      have hb := W.sub _ _ hl
      refine ⟨a, o, b, ws, rfl, hH, ho, hb, fun z => ?_, by rw [hR.length]; exact h.2.1.2, fun z => ?_, fun x o' H' hx ho' ch => ?_⟩
      · subst z; cases hR; exact h.2.1.1 rfl
      · subst z; rw [W.off _ (mem_mu3 (List.mem_of_getElem? hi))] at hl; cases hl
      · obtain ⟨W', A⟩ := W.goR (fr := []) hi ch ho' (fun _ z => nomatch z)
        obtain ⟨i, hi'⟩ := List.mem_iff_getElem?.mp hx
        obtain ⟨d, hd, rd⟩ := hR.getV hi'
        exact hQ _ _ g H' w A W' rd (h.2.2 d (List.mem_of_getElem? hd))
  · exact h.elim
def P_law_cell_at : PSp := fun ds w k => match ds with
  | [.cst l, .int _] => ∃ ns : List Int, l = ns.map Dat.int ∧ ns.length ≤ 1000 ∧ ∀ n, k (.int n) w
  | _ => False
end
end Pu
namespace Pu
open PySem L2 Eng
/-- x, y, .. = a new list, values -/
def pParO (i : Nat) (is : List Nat) (f : PF) (r : PA) : PS := fun D e w => f e w fun l e w => r e w fun ds e w => onSome (setAll (e.set i (.own true l)) is ds) fun e => D.nx e w
def zipD : List Dat → List Dat → List Dat
  | x :: xs, y :: ys => .tup [x, y] :: zipD xs ys
  | _, _ => []
def pIZip (a b : PE) : PA := fun e w k => a e w fun x e w => b e w fun y e w => lstOf x fun l => lstOf y fun m => k (zipD l m) e w
mutual
def py : Dat → PyData
  | .non => .none
  | .bl b => .bool b
  | .int n => .int n
  | .str s => .str s
  | .tup l => .tuple (pys l)
  | .lst l => .list (pys l)
  | _ => .none
def pys : List Dat → List PyData
  | [] => []
  | d :: ds => py d :: pys ds
end
def plF : Nat → Dat → Bool
  | _, .non => true
  | _, .bl _ => true
  | _, .int _ => true
  | _, .str s => PyData.strOk s
  | n + 1, .tup l => l.all (plF n)
  | n + 1, .lst l => l.all (plF n)
  | _, _ => false
/-- plain data -/
def pl (d : Dat) : Prop := plF 9 d = true
/-- without truths -/
def nbF : Nat → Dat → Bool
  | _, .bl _ => false
  | n + 1, .tup l => l.all (nbF n)
  | n + 1, .lst l => l.all (nbF n)
  | 0, .tup _ => false
  | 0, .lst _ => false
  | _, _ => true
def qEqD : Q2 := fun x y k => (pl x ∧ pl y) ∧ ∀ b : Bool, (x = y → b = true) → (x ≠ y → nbF 9 x = true → nbF 9 y = true → b = false) → k (.bl b)
def qNeD : Q2 := fun x y k => (pl x ∧ pl y) ∧ ∀ b : Bool, (x = y → b = false) → (x ≠ y → nbF 9 x = true → nbF 9 y = true → b = true) → k (.bl b)
section
variable {K : PySem.W.Frag} {c : Pc} {X : En} {F : List (Addr × HO)} {σ : L2.St} {s : Cf} {ta tb te : TE} {pa pb pe : PE} {tr : TA} {pr : PA} {E : XK} {i j : Nat}
theorem all_cons {n : Nat} {d : Dat} {ds : List Dat} (h : (d :: ds).all (plF n) = true) : plF n d = true ∧ ds.all (plF n) = true := by simpa using h
mutual
theorem dp_of : ∀ {n : Nat} {d : Dat} {v : V}, plF n d = true → Rep K c s.g v d → (∀ a o, s.g.G a = some o → s.H a = some o) → Dp K s.H v (py d)
  | n, .non, _, _, .non, _ => .non
  | n, .bl b, _, _, .bl _, _ => .bl b
  | n, .int b, _, _, .int _, _ => .int b
  | n, .str b, _, _, .str _, _ => .str b
  | n + 1, .tup l, _, h, .tup h1 h2, hs => by
    rw [py]
    exact .tup (SqT.of (hs _ _ h1)) (dps_of (by simpa [plF] using h) h2 hs)
  | n + 1, .lst l, _, h, .lst h1 h2, hs => by
    rw [py]
    exact .lst (SqL.of (hs _ _ h1)) (dps_of (by simpa [plF] using h) h2 hs)
  | 0, .tup _, _, h, _, _ => by simp [plF] at h
  | 0, .lst _, _, h, _, _ => by simp [plF] at h
  | n, .cst _, _, h, _, _ => by cases n <;> simp [plF] at h
  | n, .big _ _, _, h, _, _ => by cases n <;> simp [plF] at h
  | n, .mach _, _, h, _, _ => by cases n <;> simp [plF] at h
  | n, .src _, _, h, _, _ => by cases n <;> simp [plF] at h
  | n, .opq _, _, h, _, _ => by cases n <;> simp [plF] at h
  | n, .dic _, _, h, _, _ => by cases n <;> simp [plF] at h
  | n, .ob _, _, h, _, _ => by cases n <;> simp [plF] at h
  | n, .fn _ _, _, h, _, _ => by cases n <;> simp [plF] at h
  | n, .fnc _, _, h, _, _ => by cases n <;> simp [plF] at h
theorem dps_of : ∀ {n : Nat} {ds : List Dat} {vs : List V}, (∀ x ∈ ds, plF n x = true) → Reps K c s.g vs ds → (∀ a o, s.g.G a = some o → s.H a = some o) → DpAll K s.H vs (pys ds)
  | n, [], _, _, .nil, _ => by rw [pys]; exact .nil
  | n, d :: ds, _, h, .cons r t, hs => by
    rw [pys]
    exact .cons (dp_of (h d List.mem_cons_self) r hs) (dps_of (fun x hx => h x (List.mem_cons_of_mem _ hx)) t hs)
end
theorem dpW {n : Nat} {d : Dat} {v : V} (h : plF n d = true) (r : RepW K c s v d) (hs : ∀ a o, s.g.G a = some o → s.H a = some o) : Dp K s.H v (py d) := by
  rcases r with r | ⟨a, vs, ds, rfl, rfl, h1, h2⟩
  · exact dp_of h r hs
  · cases n with
    | zero => simp [plF] at h
    | succ n =>
      rw [py]
      exact .lst (SqL.of h1) (dps_of (by simpa [plF] using h) h2 hs)
mutual
theorem py_shape : ∀ {n : Nat} {d : Dat}, plF n d = true → (py d).canLay0 = true ∧ (py d).depth ≤ n
  | n, .non, _ => by simp [py, PyData.canLay0, PyData.depth]
  | n, .bl b, _ => by simp [py, PyData.canLay0, PyData.depth]
  | n, .int b, _ => by simp [py, PyData.canLay0, PyData.depth]
  | n, .str b, h => by
    have h : PyData.strOk b = true := by cases n <;> exact h
    simp [py, PyData.canLay0, PyData.depth, h]
  | n + 1, .tup l, h => by
    have := pys_shape (n := n) (ds := l) (by simpa [plF] using h)
    simp only [py, PyData.canLay0, PyData.depth]
    exact ⟨this.1, by omega⟩
  | n + 1, .lst l, h => by
    have := pys_shape (n := n) (ds := l) (by simpa [plF] using h)
    simp only [py, PyData.canLay0, PyData.depth]
    exact ⟨this.1, by omega⟩
  | 0, .tup _, h => by simp [plF] at h
  | 0, .lst _, h => by simp [plF] at h
  | n, .cst _, h => by cases n <;> simp [plF] at h
  | n, .big _ _, h => by cases n <;> simp [plF] at h
  | n, .mach _, h => by cases n <;> simp [plF] at h
  | n, .src _, h => by cases n <;> simp [plF] at h
  | n, .opq _, h => by cases n <;> simp [plF] at h
  | n, .dic _, h => by cases n <;> simp [plF] at h
  | n, .ob _, h => by cases n <;> simp [plF] at h
  | n, .fn _ _, h => by cases n <;> simp [plF] at h
  | n, .fnc _, h => by cases n <;> simp [plF] at h
theorem pys_shape : ∀ {n : Nat} {ds : List Dat}, (∀ x ∈ ds, plF n x = true) → PyData.canLayAll0 (pys ds) = true ∧ PyData.depthAll (pys ds) ≤ n
  | n, [], _ => by simp [pys, PyData.canLayAll0, PyData.depthAll]
  | n, d :: ds, h => by
    have h1 := py_shape (h d List.mem_cons_self)
    have h2 := pys_shape (n := n) (ds := ds) fun x hx => h x (List.mem_cons_of_mem _ hx)
    simp only [pys, PyData.canLayAll0, PyData.depthAll]
    exact ⟨by rw [h1.1, h2.1]; rfl, by omega⟩
end
mutual
theorem py_inj : ∀ {n : Nat} {d e : Dat}, plF n d = true → plF n e = true → nbF n d = true → nbF n e = true → PyData.eqv (py d) (py e) = true → d = e
  | n, .non, e, _, he, _, hb, h => by
    cases e with
    | non => rfl
    | bl b => cases n <;> simp [nbF] at hb
    | tup l => cases n <;> simp [py, PyData.eqv] at h
    | lst l => cases n <;> simp [py, PyData.eqv] at h
    | int i => simp [py, PyData.eqv] at h
    | str i => simp [py, PyData.eqv] at h
    | _ => cases n <;> simp [plF] at he
  | n, .int i, e, _, he, _, hb, h => by
    cases e with
    | int j => simp [py, PyData.eqv] at h; rw [h]
    | bl b => cases n <;> simp [nbF] at hb
    | non => simp [py, PyData.eqv] at h
    | str j => simp [py, PyData.eqv] at h
    | tup l => simp [py, PyData.eqv] at h
    | lst l => simp [py, PyData.eqv] at h
    | _ => cases n <;> simp [plF] at he
  | n, .str i, e, _, he, _, hb, h => by
    cases e with
    | str j => simp [py, PyData.eqv] at h; rw [h]
    | bl b => cases n <;> simp [nbF] at hb
    | non => simp [py, PyData.eqv] at h
    | int j => simp [py, PyData.eqv] at h
    | tup l => simp [py, PyData.eqv] at h
    | lst l => simp [py, PyData.eqv] at h
    | _ => cases n <;> simp [plF] at he
  | n + 1, .tup l, e, hd, he, hn, hb, h => by
    cases e with
    | tup m => simp only [py, PyData.eqv] at h; rw [pys_inj (n := n) (by simpa [plF] using hd) (by simpa [plF] using he) (by simpa [nbF] using hn) (by simpa [nbF] using hb) h]
    | bl b => simp [nbF] at hb
    | non => simp [py, PyData.eqv] at h
    | int j => simp [py, PyData.eqv] at h
    | str j => simp [py, PyData.eqv] at h
    | lst l => simp [py, PyData.eqv] at h
    | _ => simp [plF] at he
  | n + 1, .lst l, e, hd, he, hn, hb, h => by
    cases e with
    | lst m => simp only [py, PyData.eqv] at h; rw [pys_inj (n := n) (by simpa [plF] using hd) (by simpa [plF] using he) (by simpa [nbF] using hn) (by simpa [nbF] using hb) h]
    | bl b => simp [nbF] at hb
    | non => simp [py, PyData.eqv] at h
    | int j => simp [py, PyData.eqv] at h
    | str j => simp [py, PyData.eqv] at h
    | tup l => simp [py, PyData.eqv] at h
    | _ => simp [plF] at he
  | n, .bl _, _, _, _, h, _, _ => by cases n <;> simp [nbF] at h
  | 0, .tup _, _, h, _, _, _, _ => by simp [plF] at h
  | 0, .lst _, _, h, _, _, _, _ => by simp [plF] at h
  | n, .cst _, _, h, _, _, _, _ => by cases n <;> simp [plF] at h
  | n, .big _ _, _, h, _, _, _, _ => by cases n <;> simp [plF] at h
  | n, .mach _, _, h, _, _, _, _ => by cases n <;> simp [plF] at h
  | n, .src _, _, h, _, _, _, _ => by cases n <;> simp [plF] at h
  | n, .opq _, _, h, _, _, _, _ => by cases n <;> simp [plF] at h
  | n, .dic _, _, h, _, _, _, _ => by cases n <;> simp [plF] at h
  | n, .ob _, _, h, _, _, _, _ => by cases n <;> simp [plF] at h
  | n, .fn _ _, _, h, _, _, _, _ => by cases n <;> simp [plF] at h
  | n, .fnc _, _, h, _, _, _, _ => by cases n <;> simp [plF] at h
theorem pys_inj : ∀ {n : Nat} {ds es : List Dat}, (∀ x ∈ ds, plF n x = true) → (∀ x ∈ es, plF n x = true) → (∀ x ∈ ds, nbF n x = true) → (∀ x ∈ es, nbF n x = true) → PyData.eqvAll (pys ds) (pys es) = true → ds = es
  | n, [], [], _, _, _, _, _ => rfl
  | n, d :: ds, e :: es, h1, h2, h3, h4, h => by
    simp only [pys, PyData.eqvAll, Bool.and_eq_true] at h
    rw [py_inj (h1 d List.mem_cons_self) (h2 e List.mem_cons_self) (h3 d List.mem_cons_self) (h4 e List.mem_cons_self) h.1,
      pys_inj (n := n) (fun x hx => h1 x (List.mem_cons_of_mem _ hx)) (fun x hx => h2 x (List.mem_cons_of_mem _ hx)) (fun x hx => h3 x (List.mem_cons_of_mem _ hx)) (fun x hx => h4 x (List.mem_cons_of_mem _ hx)) h.2]
  | n, [], _ :: _, _, _, _, _, h => by simp [pys, PyData.eqvAll] at h
  | n, _ :: _, [], _, _, _, _, h => by simp [pys, PyData.eqvAll] at h
end
theorem py_shaped {d : Dat} (h : pl d) : SeqAt.shaped (py d) = true := by
  obtain ⟨h1, h2⟩ := py_shape h
  unfold SeqAt.shaped
  rw [h1, decide_eq_true (Nat.le_trans h2 (by decide))]; rfl
theorem s_eqD : SndR2 K c (rEqD K) qEqD := by
  intro X F σ s x y dx dy k Q I rx ry h hQ
  refine ⟨py dx, py dy, dpW h.1.1 rx I.wr.sub, dpW h.1.2 ry I.wr.sub, py_shaped h.1.1, py_shaped h.1.2, hQ _ _ s (Gh.le.refl _) I rfl rfl (.bl _) (h.2 _ (fun e => ?_) fun ne n1 n2 => ?_)⟩
  · rw [e]; exact SeqAt.eqv_refl _ (py_shape h.1.2).1
  · cases e : PyData.eqv (py dx) (py dy) with
    | false => rfl
    | true => exact absurd (py_inj h.1.1 h.1.2 n1 n2 e) ne
theorem s_neD : SndR2 K c (rNeD K) qNeD := by
  intro X F σ s x y dx dy k Q I rx ry h hQ
  refine ⟨py dx, py dy, dpW h.1.1 rx I.wr.sub, dpW h.1.2 ry I.wr.sub, py_shaped h.1.1, py_shaped h.1.2, hQ _ _ s (Gh.le.refl _) I rfl rfl (.bl _) (h.2 _ (fun e => ?_) fun ne n1 n2 => ?_)⟩
  · rw [e, SeqAt.eqv_refl _ (py_shape h.1.2).1]; rfl
  · cases e : PyData.eqv (py dx) (py dy) with
    | false => rfl
    | true => exact absurd (py_inj h.1.1 h.1.2 n1 n2 e) ne
def pParO2 (i j : Nat) (a : PE) (f : PF) : PS := fun D e w => a e w fun d e w => f e w fun l e w => D.nx ((e.set i (.val d)).set j (.own true l)) w
theorem zipD_get : ∀ {l m : List Dat} {i : Nat} {d : Dat}, (zipD l m)[i]? = some d → ∃ x y, l[i]? = some x ∧ m[i]? = some y ∧ d = .tup [x, y]
  | x :: l, y :: m, 0, d, h => by simp only [zipD, List.getElem?_cons_zero, Option.some.injEq] at h; exact ⟨x, y, rfl, rfl, h.symm⟩
  | x :: l, y :: m, i + 1, d, h => by simp only [zipD, List.getElem?_cons_succ] at h ⊢; exact zipD_get h
  | [], _, _, _, h => by simp [zipD] at h
  | _ :: _, [], _, _, h => by simp [zipD] at h
theorem zipD_len : ∀ (l m : List Dat), (zipD l m).length = min l.length m.length
  | x :: l, y :: m => by simp only [zipD, List.length_cons, zipD_len l m]; omega
  | [], _ => by simp [zipD]
  | _ :: _, [] => by simp [zipD]
theorem ItD.zip {g : Gh} {a b : Addr} {vs ws : List V} {l m : List Dat} (h : SqL K g.G a vs) (r : Reps K c g vs l) (h' : SqL K g.G b ws) (r' : Reps K c g ws m) : ItD K c (Itz K a b) g (zipD l m) where
  go := fun X F σ s i d le I hd => by
    obtain ⟨x, y, hx, hy, rfl⟩ := zipD_get hd
    obtain ⟨v, hv, rv⟩ := r.get hx
    obtain ⟨v', hv', rv'⟩ := r'.get hy
    have hs : SqL K s.H a vs := sqL_mono I.wr.sub (sqL_mono le.G h)
    have hs' : SqL K s.H b ws := sqL_mono I.wr.sub (sqL_mono le.G h')
    refine ⟨⟨vs, ws, v, v', hs, hs', hv, hv'⟩, fun z H' ⟨T, z1, z2, e, hT, e2, q1, q2⟩ => ?_⟩
    have e3 := q1 vs hs
    have e4 := q2 ws hs'
    rw [hv] at e3; rw [hv'] at e4
    cases e3; cases e4
    have le2 := gUpd_le (o := .tup [v, v']) (I.offG hT)
    exact ⟨⟨gUpd s.g T (.tup [v, v']), upd s.H T (.tup [v, v']), s.e, s.w, s.os⟩, e2.symm, le2, I.newG hT, rfl, rfl, by rw [e]; exact .tup (show upd s.g.G T _ T = _ from upd_same) (.cons ((rv.mono le).mono le2) (.cons ((rv'.mono le).mono le2) .nil))⟩
  stop := fun X F σ s le I => ⟨vs, ws, sqL_mono I.wr.sub (sqL_mono le.G h), sqL_mono I.wr.sub (sqL_mono le.G h'), by rw [r.length, r'.length, zipD_len]; omega⟩
def dVals : List (Str × PE) → Env → Wld → (List (Str × Int) → Env → Wld → Prop) → Prop
  | [], e, w, k => k [] e w
  | (s, a) :: r, e, w, k => a e w fun x e w => intOf x fun n => dVals r e w fun l e w => k ((s, n) :: l) e w
def pDisp (l : List (Str × PE)) : PE := fun e w k => ((l.map (·.1)).Nodup ∧ l.length ≤ 15) ∧ dVals l e w fun m e w => k (.dic m) e w
def pDNew : PE := fun e w k => k (.dic []) e w
end
end Pu
namespace Pu
open PySem L2 Eng
/-- l tells the counts ns: each word's number, 0 where it has none -/
structure Due (l : List (Str × Int)) (ns : List Int) : Prop where
  nd : (l.map (·.1)).Nodup
  few : l.length < 100
  inw : ∀ p ∈ l, p.1 ∈ words
  at_ : ∀ (j : Nat) (s : Str), words[j]? = some s → ns[j]? = some ((l.lookup s).getD 0)
def P_law_counted : PSp := fun ds w k => match ds with
  | [.mach i, .dic l] => onM w i fun m => Due l m.ns ∧ k (.bl true) (w.put i m.rst)
  | _ => False
theorem mem_of_lookup {l : List (Str × Int)} {s : Str} {n : Int} (h : l.lookup s = some n) : (s, n) ∈ l := by
  induction l with
  | nil => cases h
  | cons q l ih =>
    rw [List.lookup_cons] at h
    by_cases e : s = q.1
    · subst e
      simp at h
      rw [← h]; exact List.mem_cons_self
    · have : (s == q.1) = false := by simpa using e
      rw [this] at h
      exact List.mem_cons_of_mem _ (ih h)
end Pu
namespace Pu
open PySem L2 Eng
section
variable {i j n m : Int} {a b : Bool} {s t : Str} {l l' : List Dat} {k : Dat → Prop} {kl : List Dat → Prop} {kb : Bool → Prop} {ki : Int → Prop} {e : Env} {w : Wld} {kq : PQ}
theorem eAdd : qAdd (.int i) (.int j) k = k (.int (i + j)) := rfl
theorem eSub : qSub (.int i) (.int j) k = k (.int (i - j)) := rfl
theorem eAnd : qAnd (.int i) (.int j) k = k (.int (Builtin.bitAnd i j)) := rfl
theorem eOr : qOr (.int i) (.int j) k = k (.int (Builtin.bitOr i j)) := rfl
theorem eXor : qXor (.int i) (.int j) k = k (.int (Builtin.bitXor i j)) := rfl
theorem eLt : qLt (.int i) (.int j) k = k (.bl (decide (i < j))) := rfl
theorem eLe : qLe (.int i) (.int j) k = k (.bl (decide (i ≤ j))) := rfl
theorem eGt : qGt (.int i) (.int j) k = k (.bl (decide (j < i))) := rfl
theorem eGe : qGe (.int i) (.int j) k = k (.bl (decide (j ≤ i))) := rfl
theorem eMul : qMul (.int i) (.int j) k = (IntMulOk i j ∧ k (.int (i * j))) := rfl
theorem eDiv : qDiv (.int i) (.int j) k = (oDiv i j ∧ k (.int (i / j))) := rfl
theorem eMod : qMod (.int i) (.int j) k = ((0 < j) ∧ k (.int (i % j))) := rfl
theorem ePow : qPow (.int i) (.int j) k = (oPow i j ∧ k (.int (i ^ j.toNat))) := rfl
theorem eShl : qShl (.int i) (.int j) k = (CShl i j ∧ k (.int (i * 2 ^ j.toNat))) := rfl
theorem eShr : qShr (.int i) (.int j) k = ((0 ≤ j) ∧ k (.int (i / 2 ^ j.toNat))) := rfl
theorem eNeg : qNeg (.int i) k = k (.int (-i)) := rfl
theorem eEqI : qEq (.int i) (.int j) k = k (.bl (decide (i = j))) := rfl
theorem eEqS : qEq (.str s) (.str t) k = k (.bl (decide (s = t))) := rfl
theorem eEqL : qEq (.bl a) (.bl b) k = k (.bl (decide (a = b))) := rfl
theorem eNeI : qNe (.int i) (.int j) k = k (.bl (!decide (i = j))) := rfl
theorem eNeS : qNe (.str s) (.str t) k = k (.bl (!decide (s = t))) := rfl
theorem eNeL : qNe (.bl a) (.bl b) k = k (.bl (!decide (a = b))) := rfl
theorem eIx1 : qIx (.lst l) (.int n) k = onSome (atI l n) k := rfl
theorem eIx2 : qIx (.tup l) (.int n) k = onSome (atI l n) k := rfl
theorem eIx3 : qIx (.cst l) (.int n) k = onSome (atI l n) k := rfl
theorem eIxL : qIxL (.lst l) (.int n) k = onSome (atI l n) k := rfl
theorem eIxC : qIxL (.cst l) (.int n) k = onSome (atI l n) k := rfl
theorem eIxT : qIxT (.tup l) (.int n) k = onSome (atI l n) k := rfl
theorem eCat : qCat (.lst l) (.lst l') kl = (l.length + l'.length ≤ sizeLine ∧ kl (l ++ l')) := rfl
theorem eRep : qRep (.lst l) (.int n) kl = ((-(2 ^ 63) ≤ n ∧ n < 2 ^ 63 ∧ l.length * n.toNat ≤ sizeLine) ∧ kl (List.replicate n.toNat l).flatten) := rfl
theorem eLen1 : qLen [.lst l] k = k (.int (l.length : Nat)) := rfl
theorem eLen2 : qLen [.tup l] k = k (.int (l.length : Nat)) := rfl
theorem eLen3 : qLen [.cst l] k = k (.int (l.length : Nat)) := rfl
theorem eAbs : qAbs [.int n] k = k (.int (if n < 0 then -n else n)) := rfl
theorem eInt1 : qInt [.int n] k = k (.int n) := rfl
theorem eInt2 : qInt [.bl b] k = k (.int (if b then 1 else 0)) := rfl
theorem eMax : qMax2 [.int i, .int j] k = k (.int (if j > i then j else i)) := rfl
theorem eMin : qMin2 [.int i, .int j] k = k (.int (if j < i then j else i)) := rfl
theorem eList1 : qList [.lst l] kl = kl l := rfl
theorem eList2 : qList [.tup l] kl = kl l := rfl
theorem eList3 : qList [.cst l] kl = kl l := rfl
theorem eTupL : qTupL [.lst l] k = k (.tup l) := rfl
theorem eEqB {x y : Nat} : qEqB (.big x i) (.big y j) k = ((x ≠ 0 ∧ y ≠ 0) ∧ k (.bl (decide (x = y ∧ i = j)))) := rfl
theorem eNeB {x y : Nat} : qNeB (.big x i) (.big y j) k = ((x ≠ 0 ∧ y ≠ 0) ∧ k (.bl (!decide (x = y ∧ i = j)))) := rfl
theorem eIsB : isB (.bl b) kb = kb b := rfl
theorem eTup : tupOf (.tup l) kl = kl l := rfl
theorem eLst1 : lstOf (.lst l) kl = kl l := rfl
theorem eLst2 : lstOf (.cst l) kl = kl l := rfl
theorem eIntO : intOf (.int n) ki = ki n := rfl
theorem eSeq1 : seqOf (.lst l) kl = kl l := rfl
theorem eSeq2 : seqOf (.tup l) kl = kl l := rfl
theorem eSeq3 : seqOf (.cst l) kl = kl l := rfl
theorem eSome {α : Type} {x : α} {f : α → Prop} : onSome (some x) f = f x := rfl
theorem at_nat {α : Type} {l : List α} {n : Nat} {x : α} (h : l[n]? = some x) : atI l (n : Int) = some x := by
  unfold atI ixN
  have hl := (List.getElem?_eq_some_iff.mp h).1
  rw [if_pos (by omega), if_pos (by omega)]
  show l[((n : Nat) : Int).toNat]? = some x
  rw [show ((n : Nat) : Int).toNat = n by omega]; exact h
theorem eAt0 {α : Type} {x : α} {r : List α} : atI (x :: r) 0 = some x := at_nat (n := 0) rfl
theorem eAt1 {α : Type} {x y : α} {r : List α} : atI (x :: y :: r) 1 = some y := at_nat (n := 1) rfl
theorem eAt2 {α : Type} {x y z : α} {r : List α} : atI (x :: y :: z :: r) 2 = some z := at_nat (n := 2) rfl
theorem eAt3 {α : Type} {x y z u : α} {r : List α} : atI (x :: y :: z :: u :: r) 3 = some u := at_nat (n := 3) rfl
def vOf (o : Option Slot) (k : Dat → Prop) : Prop := match o with | some (.val d) => k d | _ => False
def oOf (o : Option Slot) (k : Bool → List Dat → Prop) : Prop := match o with | some (.own f l) => k f l | _ => False
theorem eVar {x : Nat} : pVar x e w kq = vOf e[x]? fun d => kq d e w := by
  unfold pVar vOf
  cases e[x]? with
  | none => rfl
  | some z => cases z <;> rfl
theorem eVal {d : Dat} : vOf (some (.val d)) k = k d := rfl
theorem eOwnAt {x : Nat} {ko : Bool → List Dat → Prop} : ownAt e x ko = oOf e[x]? ko := rfl
theorem eOwn {f : Bool} {ko : Bool → List Dat → Prop} : oOf (some (.own f l)) ko = ko f l := rfl
def sideOf (d : Dat) (k : Dat → Prop) : Prop := match d with | .big _ n => k (.int (sgn n)) | _ => False
def rowOf (d : Dat) (k : Dat → Prop) : Prop := match d with | .big b n => k (.tup (dN (digs b n.natAbs))) | _ => False
def bitsOf (d : Dat) (k : Dat → Prop) : Prop := match d with | .big b _ => k (.int (b : Int)) | _ => False
def machOf (d : Dat) (k : Nat → Prop) : Prop := match d with | .mach i => k i | _ => False
def bigOf (d : Dat) (k : Nat → Int → Prop) : Prop := match d with | .big b n => k b n | _ => False
theorem eSide {p : PE} : pSide p e w kq = p e w fun x e w => sideOf x fun d => kq d e w := by
  unfold pSide; congr 1
theorem eRow {p : PE} : pRow p e w kq = p e w fun x e w => rowOf x fun d => kq d e w := by
  unfold pRow; congr 1
theorem eWidB {p : PE} : pWidthB p e w kq = p e w fun x e w => bitsOf x fun d => kq d e w := by
  unfold pWidthB; congr 1
theorem eWidM {p : PE} : pWidthM p e w kq = p e w fun x e w => machOf x fun i => onM w i fun m => kq (.int (m.b : Int)) e w := by
  unfold pWidthM; congr 1
theorem eCut {p : PE} : pCut p e w kq = p e w fun x e w => machOf x fun i => onM w i fun m => kq (.int m.cut) e w := by
  unfold pCut; congr 1
theorem eBase {p : PE} : pBase p e w kq = p e w fun x e w => machOf x fun i => onM w i fun m => kq (.int (2 ^ m.b)) e w := by
  unfold pBase; congr 1
theorem eMethM {P : PSp} {p : PE} {r : PA} : pMethM P p r e w kq = p e w fun x e w => machOf x fun i => r e w fun ds e w => P (.mach i :: ds) w fun d w => kq d e w := by
  unfold pMethM; congr 1
theorem eMethB {P : PSp} {p : PE} {r : PA} : pMethB P p r e w kq = p e w fun x e w => bigOf x fun b n => r e w fun ds e w => P (.big b n :: ds) w fun d w => kq d e w := by
  unfold pMethB; congr 1
theorem eSideB {x : Nat} : sideOf (.big x i) k = k (.int (sgn i)) := rfl
theorem eRowB {x : Nat} : rowOf (.big x i) k = k (.tup (dN (digs x i.natAbs))) := rfl
theorem eBitsB {x : Nat} : bitsOf (.big x i) k = k (.int (x : Int)) := rfl
theorem eMachO {x : Nat} {km : Nat → Prop} : machOf (.mach x) km = km x := rfl
theorem eBigO {x : Nat} {km : Nat → Int → Prop} : bigOf (.big x i) km = km x i := rfl
variable {x y : Nat} {kw : Dat → Wld → Prop} {cut : Int}
theorem e_count {v : Int} : P_Machine_count [.mach x, .str s, .int v] w kw = onM w x fun m => ∃ j, words[j]? = some s ∧ kw .non (w.put x (m.cnt j v)) := rfl
theorem e_reset : P_Machine_reset [.mach x] w kw = onM w x fun m => kw .non (w.put x m.rst) := rfl
theorem e_parts : P_Machine_parts [.mach x] w kw = onM w x fun m => kw (.tup [.int (m.b : Int), .int m.cut]) w := rfl
theorem e_walk : P_Machine_walk [.mach x] w kw = onM w x fun m => kw (.lst (m.walk.map dW)) w := rfl
theorem e_tally : P_Machine_tally [.mach x] w kw = onM w x fun m => kw (.lst (dRows m.ns)) w := rfl
theorem e_check_machine : P_check_machine [.mach x] w kw = onM w x fun _ => kw .non w := rfl
theorem e_Machine : P_Machine [.int n, .int cut] w kw = ((8 ≤ n ∧ n ≤ 30 ∧ 2 ≤ cut ∧ cut ≤ 1000) ∧ kw (.mach w.ms.length) ⟨w.ms ++ [⟨n.toNat, cut, zeros, []⟩], w.ss, w.os⟩) := rfl
theorem e_made : P_made [.mach x, .int i, .lst l] w kw = onM w x fun m => ∃ es : List Nat, l = dN es ∧ m.b ≠ 0 ∧ Digs m.b es ∧ es.length < 2 ^ 23 ∧ sgnOk i (val m.b es) ∧ kw (.big m.b (i * (val m.b es : Nat))) w := rfl
theorem e_big_of : P_big_of [.mach x, .int n] w kw = onM w x fun m => m.b ≠ 0 ∧ (digs m.b n.natAbs).length < 2 ^ 23 ∧ kw (.big m.b n) w := rfl
theorem e_big : P_big [.mach x, .int n] w kw = onM w x fun m => m.b ≠ 0 ∧ (digs m.b n.natAbs).length < 2 ^ 23 ∧ kw (.big m.b n) w := rfl
theorem e_value_of : P_value_of [.big x n] w kw = (bigL x n ∧ kw (.int n) w) := rfl
theorem e_plain : P_plain [.big x n] w kw = (bigL x n ∧ kw (.int n) w) := rfl
theorem e_check_any : P_check_any [.big x n] w kw = kw .non w := rfl
theorem e_check_big : P_check_big [.mach x, .str s, .big y n] w kw = onM w x fun m => m.b = y ∧ kw .non w := rfl
theorem e_check_bigs {y' : Nat} : P_check_bigs [.mach x, .big y n, .big y' i] w kw = onM w x fun m => m.b = y ∧ m.b = y' ∧ kw .non w := rfl
theorem e_is_compact : P_is_compact [.big x n] w kw = kw (.bl (decide ((digs x n.natAbs).length ≤ 1))) w := rfl
theorem e_sign : P_Big_sign [.big x n] w kw = kw (.int (sgn n)) w := rfl
theorem e_bits : P_Big_bits [.big x n] w kw = kw (.int (x : Int)) w := rfl
theorem e_digits : P_Big_digits [.big x n] w kw = kw (.lst (dN (digs x n.natAbs))) w := rfl
theorem e_bit_length : P_bit_length [.big x n] w kw = (bigL x n ∧ kw (.int (Builtin.Int.intBits n : Nat)) w) := rfl
theorem e_is_digits : P_is_digits [.mach x, .lst l] w kw = onM w x fun m => ∃ es : List Nat, l = dN es ∧ Digs m.b es ∧ es.length < 2 ^ 23 ∧ kw (.bl true) w := rfl
theorem e_Big : P_Big [.int n, .int i, .tup l] w kw = ∃ (b' : Nat) (z : Int), n = (b' : Int) ∧ i = sgn z ∧ l = dN (digs b' z.natAbs) ∧ kw (.big b' z) w := rfl
theorem e_source_of : P_law_source_of [.int n] w kw = kw (.src w.ss) ⟨w.ms, w.ss + 1, w.os⟩ := rfl
theorem e_next : P_law_next [.src x, .int n] w kw = (x < w.ss ∧ (0 < n ∧ NxtB n) ∧ ∀ r, 0 ≤ r → r < n → kw (.int r) w) := rfl
theorem e_one : P_law_one [.src x, .lst l] w kw = (x < w.ss ∧ (l ≠ [] ∧ l.length ≤ 1000) ∧ ∀ d ∈ l, kw d w) := rfl
theorem e_cell_at : P_law_cell_at [.cst l, .int i] w kw = ∃ ns : List Int, l = ns.map Dat.int ∧ ns.length ≤ 1000 ∧ ∀ n, kw (.int n) w := rfl
theorem e_counted {d : List (Str × Int)} : P_law_counted [.mach x, .dic d] w kw = onM w x fun m => Due d m.ns ∧ kw (.bl true) (w.put x m.rst) := rfl
theorem e_cnt {v : Int} {j : Nat} (hj : words[j]? = some s) : P_Machine_count [.mach x, .str s, .int v] w kw = onM w x fun m => kw .non (w.put x (m.cnt j v)) := by
  rw [e_count]
  congr 1
  funext m
  refine propext ⟨fun ⟨j', h1, h2⟩ => ?_, fun h => ⟨j, hj, h⟩⟩
  have hi : j < words.length := (List.getElem?_eq_some_iff.mp hj).1
  have : j = j' := (List.getElem?_inj hi (by decide +kernel)).mp (hj.trans h1.symm)
  rw [this]; exact h2
theorem e_cnt0 {v : Int} : P_Machine_count [.mach x, .str "short", .int v] w kw = onM w x fun m => kw .non (w.put x (m.cnt 0 v)) := e_cnt rfl
theorem e_cnt1 {v : Int} : P_Machine_count [.mach x, .str "sum", .int v] w kw = onM w x fun m => kw .non (w.put x (m.cnt 1 v)) := e_cnt rfl
theorem e_cnt2 {v : Int} : P_Machine_count [.mach x, .str "product", .int v] w kw = onM w x fun m => kw .non (w.put x (m.cnt 2 v)) := e_cnt rfl
theorem e_cnt3 {v : Int} : P_Machine_count [.mach x, .str "quotient", .int v] w kw = onM w x fun m => kw .non (w.put x (m.cnt 3 v)) := e_cnt rfl
theorem e_cnt4 {v : Int} : P_Machine_count [.mach x, .str "corrected", .int v] w kw = onM w x fun m => kw .non (w.put x (m.cnt 4 v)) := e_cnt rfl
theorem e_cnt5 {v : Int} : P_Machine_count [.mach x, .str "restored", .int v] w kw = onM w x fun m => kw .non (w.put x (m.cnt 5 v)) := e_cnt rfl
theorem e_cnt6 {v : Int} : P_Machine_count [.mach x, .str "shifted", .int v] w kw = onM w x fun m => kw .non (w.put x (m.cnt 6 v)) := e_cnt rfl
theorem e_cnt7 {v : Int} : P_Machine_count [.mach x, .str "combined", .int v] w kw = onM w x fun m => kw .non (w.put x (m.cnt 7 v)) := e_cnt rfl
theorem e_cnt8 {v : Int} : P_Machine_count [.mach x, .str "complemented", .int v] w kw = onM w x fun m => kw .non (w.put x (m.cnt 8 v)) := e_cnt rfl
theorem e_cnt9 {v : Int} : P_Machine_count [.mach x, .str "looked", .int v] w kw = onM w x fun m => kw .non (w.put x (m.cnt 9 v)) := e_cnt rfl
theorem onM_is {m : Mach} {km : Mach → Prop} (h : w.ms[x]? = some m) : onM w x km = km m := by unfold onM; rw [h]
theorem put_at {m m' : Mach} (h : w.ms[x]? = some m) : (w.put x m').ms[x]? = some m' := by
  show (w.ms.set x m')[x]? = _
  exact List.getElem?_set_self (List.getElem?_eq_some_iff.mp h).1
theorem put_put {m m' : Mach} : (w.put x m).put x m' = w.put x m' := by
  unfold Wld.put; simp
theorem put_self {m : Mach} (h : w.ms[x]? = some m) : w.put x m = w := by
  unfold Wld.put
  obtain ⟨h1, h2⟩ := List.getElem?_eq_some_iff.mp h
  have : w.ms.set x m = w.ms := by rw [← h2]; exact List.set_getElem_self h1
  rw [this]
theorem onM_put {m m' : Mach} {km : Mach → Prop} (h : w.ms[x]? = some m) : onM (w.put x m') x km = km m' := onM_is (put_at h)
end
theorem ite_2 {p A B : Prop} [Decidable p] (ha : p → A) (hb : ¬ p → B) : if p then A else B := by
  by_cases h1 : p
  · rw [if_pos h1]; exact ha h1
  · rw [if_neg h1]; exact hb h1
theorem lp_ind {g : PG} {b : PS} {D : PEnds} {ds : List Dat} {e : Env} {w : Wld} (Iv : Nat → Env → Wld → Prop) (h0 : Iv 0 e w)
    (hs : ∀ (i : Nat) (d : Dat) (e : Env) (w : Wld) (nx : Env → Wld → Prop), ds[i]? = some d → Iv i e w → (∀ e w, Iv (i + 1) e w → nx e w) → g d e w fun e w => b ⟨nx, D.rt, D.nx, nx⟩ e w)
    (hd : ∀ e w, Iv ds.length e w → D.nx e w) : lp g b D ds e w := by
  have key : ∀ n i e w, n + i = ds.length → Iv i e w → lp g b D (ds.drop i) e w := by
    intro n
    induction n with
    | zero =>
      intro i e w hi hI
      have : i = ds.length := by omega
      subst this
      rw [List.drop_length]
      exact hd e w hI
    | succ n ih =>
      intro i e w hi hI
      have hlt : i < ds.length := by omega
      rw [List.drop_eq_getElem_cons hlt]
      exact hs i _ e w _ (List.getElem?_eq_getElem hlt) hI fun e w h => ih (i + 1) e w (by omega) h
  exact key ds.length 0 e w rfl h0
theorem whl_ind {c : PT} {b : PS} {D : PEnds} {e : Env} {w : Wld} (Iv : Nat → Env → Wld → Prop) (m : Nat) (h0 : Iv m e w)
    (hs : ∀ (m : Nat) (e : Env) (w : Wld) (nx : Env → Wld → Prop), Iv m e w → (∀ m' e w, m' < m → Iv m' e w → nx e w) → c e w fun t e w => if t = true then b ⟨nx, D.rt, D.nx, nx⟩ e w else D.nx e w) : pWhile c b D e w := by
  have key : ∀ n m e w, m < n → Iv m e w → whl c b D n e w := by
    intro n
    induction n with
    | zero => intro m e w h _; omega
    | succ n ih => intro m e w h hI; exact hs m e w _ hI fun m' e w hm h' => ih m' e w (by omega) h'
  exact ⟨m + 1, key (m + 1) m e w (Nat.lt_succ_self m) h0⟩
theorem lif_len {K : PySem.W.Frag} {c : Pc} {P : PSp} {n : Nat} {vs : List V} {H : Hp} {Q : VK} {E : XK} (hP : ∀ ds w k, P ds w k → ds.length = n) (h : lif K c P vs H Q E) : vs.length = n := by
  obtain ⟨g, w, ds, k, _, r, hp, _⟩ := h
  rw [r.length]; exact hP ds w k hp
end Pu
namespace Pu
open PySem L2 Eng
def Mo (p : PE) : Prop := ∀ (e : Env) (w : Wld) (k k' : PQ), (∀ d e w, k d e w → k' d e w) → p e w k → p e w k'
def MoF (p : PF) : Prop := ∀ (e : Env) (w : Wld) (k k' : List Dat → Env → Wld → Prop), (∀ d e w, k d e w → k' d e w) → p e w k → p e w k'
def MoT (p : PT) : Prop := ∀ (e : Env) (w : Wld) (k k' : Bool → Env → Wld → Prop), (∀ d e w, k d e w → k' d e w) → p e w k → p e w k'
def MoA (p : PA) : Prop := ∀ (e : Env) (w : Wld) (k k' : List Dat → Env → Wld → Prop), (∀ d e w, k d e w → k' d e w) → p e w k → p e w k'
def MoQ (q : Q2) : Prop := ∀ (x y : Dat) (k k' : Dat → Prop), (∀ d, k d → k' d) → q x y k → q x y k'
section
variable {a b : PE} {c d : PT} {r : PA} {q : Q2} {i : Nat} {x : Dat} {P : PSp}
theorem mo_var : Mo (pVar i) := fun e w k k' h hp => by
  rw [eVar] at hp ⊢
  unfold vOf at hp ⊢
  split
  · rename_i z
    rw [z] at hp; exact h _ _ _ hp
  · rename_i z
    split at hp
    · rename_i z'; exact (z _ z').elim
    · exact hp
theorem mo_c : Mo (pC x) := fun e w k k' h hp => h _ _ _ hp
theorem mo_op (hq : MoQ q) (ha : Mo a) (hb : Mo b) : Mo (pOp q a b) := fun e w k k' h hp => ha _ _ _ _ (fun x e w hx => hb _ _ _ _ (fun y e w hy => hq _ _ _ _ (fun z hz => h _ _ _ hz) hy) hx) hp
theorem mo_neg (ha : Mo a) : Mo (pUn qNeg a) := fun e w k k' h hp => ha _ _ _ _ (fun x e w hx => by
  cases x with
  | int n => exact h _ _ _ hx
  | _ => exact hx.elim) hp
theorem mo_test (ha : Mo a) : MoT (pTest a) := fun e w k k' h hp => ha _ _ _ _ (fun x e w hx => by
  cases x with
  | bl n => exact h _ _ _ hx
  | _ => exact hx.elim) hp
theorem mo_not (hc : MoT c) : MoT (pNot c) := fun e w k k' h hp => hc _ _ _ _ (fun x e w hx => h _ _ _ hx) hp
theorem mo_and (hc : MoT c) (hd : MoT d) : MoT (pAnd c d) := fun e w k k' h hp => hc _ _ _ _ (fun x e w hx => by
  split
  · rename_i z; rw [if_pos z] at hx; exact hd _ _ _ _ h hx
  · rename_i z; rw [if_neg z] at hx; exact h _ _ _ hx) hp
theorem mo_or (hc : MoT c) (hd : MoT d) : MoT (pOr c d) := fun e w k k' h hp => hc _ _ _ _ (fun x e w hx => by
  split
  · rename_i z; rw [if_pos z] at hx; exact h _ _ _ hx
  · rename_i z; rw [if_neg z] at hx; exact hd _ _ _ _ h hx) hp
theorem mo_if (hc : MoT c) (ha : Mo a) (hb : Mo b) : Mo (pIf c a b) := fun e w k k' h hp => hc _ _ _ _ (fun x e w hx => by
  split
  · rename_i z; rw [if_pos z] at hx; exact ha _ _ _ _ h hx
  · rename_i z; rw [if_neg z] at hx; exact hb _ _ _ _ h hx) hp
theorem mo_nil : MoA pNil := fun e w k k' h hp => h _ _ _ hp
theorem mo_cons (ha : Mo a) (hr : MoA r) : MoA (pCons a r) := fun e w k k' h hp => ha _ _ _ _ (fun x e w hx => hr _ _ _ _ (fun y e w hy => h _ _ _ hy) hx) hp
theorem mo_tup (hr : MoA r) : Mo (pTup r) := fun e w k k' h hp => hr _ _ _ _ (fun x e w hx => ⟨hx.1, h _ _ _ hx.2⟩) hp
theorem mo_fz {f : PF} (hf : MoF f) : Mo (pFz f) := fun e w k k' h hp => hf _ _ _ _ (fun x e w hx => h _ _ _ hx) hp
theorem mo_lst (hr : MoA r) : MoF (pLst r) := fun e w k k' h hp => hr _ _ _ _ (fun x e w hx => ⟨hx.1, h _ _ _ hx.2⟩) hp
theorem moq_I {C : Int → Int → Prop} {g : Int → Int → Dat} : MoQ (qI C g) := fun x y k k' h hq => by
  cases x with
  | int i =>
    cases y with
    | int j => exact ⟨hq.1, h _ hq.2⟩
    | _ => exact hq.elim
  | _ => exact hq.elim
theorem moq_I0 {g : Int → Int → Dat} : MoQ (qI0 g) := fun x y k k' h hq => by
  cases x with
  | int i =>
    cases y with
    | int j => exact h _ hq
    | _ => exact hq.elim
  | _ => exact hq.elim
theorem moq_eq : MoQ qEq := fun x y k k' h hq => by
  cases x <;> cases y <;> first | exact h _ hq | exact hq.elim
theorem moq_ne : MoQ qNe := fun x y k k' h hq => by
  cases x <;> cases y <;> first | exact h _ hq | exact hq.elim
end
def P_law0 : PSp := fun ds w k => match ds with
  | [.cst l] => ∃ ns : List Int, l = ns.map Dat.int ∧ ns.length ≤ 63 ∧ ∀ w', k (.bl true) w'
  | _ => False
theorem cut_all {P : Dat → Prop} {l : List Dat} (h : ∀ d ∈ l, P d) (lo hi : Option Int) : ∀ d ∈ cutD l lo hi, P d := fun d hd => h d (List.mem_of_mem_drop (List.mem_of_mem_take hd))
end Pu
namespace Pu
open PySem L2 Eng
def P_Machine_enter : PSp := fun ds w k => match ds with
  | [.mach i, .str s, .int m, .int n] => onM w i fun M => k .non (w.put i (M.ent s m n))
  | _ => False
theorem e_enter {x : Nat} {s : Str} {m n : Int} {w : Wld} {kw : Dat → Wld → Prop} : P_Machine_enter [.mach x, .str s, .int m, .int n] w kw = onM w x fun M => kw .non (w.put x (M.ent s m n)) := rfl
def pSlT (a : PE) (lo hi : PO) : PE := fun e w k => a e w fun x e w => lo e w fun l e w => hi e w fun u e w => tupOf x fun ds => k (.tup (cutD ds l u)) e w
end Pu
namespace Pu
open PySem L2 Eng
def qDivmod : QL
  | [.int i, .int j], k => oDiv i j ∧ k (.tup [.int (i / j), .int (i % j)])
  | _, _ => False
def qAnyT : QL
  | [.tup l], k => ∃ ns : List Int, l = ns.map Dat.int ∧ k (.bl (ns.any fun n => n != 0))
  | _, _ => False
def pExtend (i : Nat) (a : PE) : PS := fun D e w => ownAt e i fun _ _ => a e w fun d e w => match d with
  | .lst zs => ownAt e i fun f l => l.length + zs.length ≤ sizeLine ∧ D.nx (e.set i (.own f (l ++ zs))) w
  | _ => False
def pIA (a : PE) : PA := fun e w k => a e w fun d e w => seqOf d fun l => k l e w
def dP (p : Str × Int) : Dat := .tup [.str p.1, .int p.2]
def qDict : QL
  | [.lst l], k => ∃ prs : List (Str × Int), l = prs.map dP ∧ (prs.map (·.1)).Nodup ∧ k (.dic prs)
  | _, _ => False
/-- the same pairs -/
def EqDs (l l' : List (Str × Int)) : Prop := l.length = l'.length ∧ (l'.map (·.1)).Nodup ∧ ∀ p ∈ l, p ∈ l'
def qEqDA : Q2
  | .dic l, .dic l', k => EqDs l l' ∧ k (.bl true)
  | _, _, _ => False
def pos (l : List (Str × Int)) : List (Str × Int) := l.filter fun p => decide (0 < p.2)
def pPosD : PE := fun e w k => match e with
  | [_, .val (.dic l), _, _, _, _, _, _] => ((l.map (·.1)).Nodup ∧ l.length < 100) ∧ k (.dic (pos l)) e w
  | _ => False
section
variable {K : PySem.W.Frag} {c : Pc}
theorem ints_rep {g : Gh} : ∀ {ns : List Int} {ws : List V}, Reps K c g ws (ns.map Dat.int) → ws = ns.map V.int
  | [], _, .nil => rfl
  | n :: ns, _, .cons r rs => by
    rw [ints_rep rs]
    cases r
    rfl
theorem RepW.dic {s : Cf} {v : V} {l : List (Str × Int)} {X : En} {F : List (Addr × HO)} {σ : L2.St} (I : In K c X F σ s) (h : RepW K c s v (.dic l)) : ∃ a, v = .ref a ∧ s.H a = some (.dK (dKs l)) := by
  rcases h with h | ⟨_, _, _, _, e, _⟩
  · cases h with
    | dic h => exact ⟨_, rfl, I.wr.sub _ _ h⟩
  · cases e
def P_is_integer : PSp := fun ds w k => match ds with
  | [.int _] => k (.bl true) w
  | _ => False
end
theorem e_is_integer {n : Int} {w : Wld} {k : Dat → Wld → Prop} : P_is_integer [.int n] w k = k (.bl true) w := rfl
section
variable {kd : Dat → Prop} {kq : PQ} {w : Wld}
theorem eDivmod {i j : Int} : qDivmod [.int i, .int j] kd = (oDiv i j ∧ kd (.tup [.int (i / j), .int (i % j)])) := rfl
theorem eAnyT {l : List Dat} : qAnyT [.tup l] kd = ∃ ns : List Int, l = ns.map Dat.int ∧ kd (.bl (ns.any fun n => n != 0)) := rfl
theorem eDict {l : List Dat} : qDict [.lst l] kd = ∃ prs : List (Str × Int), l = prs.map dP ∧ (prs.map (·.1)).Nodup ∧ kd (.dic prs) := rfl
theorem eEqDA {l l' : List (Str × Int)} : qEqDA (.dic l) (.dic l') kd = (EqDs l l' ∧ kd (.bl true)) := rfl
theorem ePosD {x0 x2 x3 x4 x5 x6 x7 : Slot} {l : List (Str × Int)} : pPosD [x0, .val (.dic l), x2, x3, x4, x5, x6, x7] w kq = (((l.map (·.1)).Nodup ∧ l.length < 100) ∧ kq (.dic (pos l)) [x0, .val (.dic l), x2, x3, x4, x5, x6, x7] w) := rfl
end
end Pu
namespace Pu
open PySem L2 Eng
/-- free of lists -/
def lf : Dat → Prop
  | .int _ => True
  | .bl _ => True
  | .str _ => True
  | .non => True
  | _ => False
def noOwn : Env → Prop
  | [] => True
  | .no :: e => noOwn e
  | .val _ :: e => noOwn e
  | _ :: _ => False
theorem noOwn_get : ∀ {e : Env} {j : Nat} {z : Slot}, noOwn e → e[j]? = some z → z = .no ∨ ∃ d, z = .val d
  | .no :: _, 0, _, _, h => .inl (Option.some.inj h).symm
  | .val d :: _, 0, _, _, h => .inr ⟨d, (Option.some.inj h).symm⟩
  | .no :: e, j + 1, _, hn, h => noOwn_get (e := e) (j := j) hn h
  | .val _ :: e, j + 1, _, hn, h => noOwn_get (e := e) (j := j) hn h
  | .own _ _ :: _, _, _, hn, _ => hn.elim
  | .ownT _ _ :: _, _, _, hn, _ => hn.elim
  | [], _, _, _, h => by simp at h
/-- what a name with a list of its own is, looked at -/
def bview (e : Env) (i : Nat) (k : Dat → Prop) : Prop := match e[i]? with
  | some (.own true l) => k (.lst l)
  | some (.ownT l r) => k (.tup (.lst l :: r))
  | _ => False
def pBor (i : Nat) (p : PE) : PE := fun e w k => noOwn (e.set i .no) ∧ bview e i fun d => p (e.set i (.val d)) w fun v e' w' => lf v ∧ e' = e.set i (.val d) ∧ w'.os = [] ∧ k v e w'
def pBorT (i : Nat) (p : PT) : PT := fun e w k => noOwn (e.set i .no) ∧ bview e i fun d => p (e.set i (.val d)) w fun v e' w' => e' = e.set i (.val d) ∧ w'.os = [] ∧ k v e w'
def gDel (g : Gh) (a : Addr) : Gh := ⟨fun x => if x = a then none else g.G x, g.ms, g.ss, g.os, g.ts⟩
section
variable {K : PySem.W.Frag} {c : Pc} {X : En} {F : List (Addr × HO)} {σ : L2.St} {s s1 : Cf} {g g1 : Gh} {H : Hp} {w : Wld} {a : Addr} {vs : List V} {i : Nat} {ta tb : TE} {pa pb : PE} {tT : TT} {pT : PT} {tr : TA} {pr : PA} {sp : Sp} {P : PSp} {E : XK} {ts tu : TS} {ps pu : PS}
theorem le_del (h : g.le g1) (hn : g.G a = none) : g.le (gDel g1 a) := ⟨fun x o e => by
  show (if x = a then none else g1.G x) = some o
  rw [if_neg (fun z => by rw [z, hn] at e; cases e)]; exact h.G x o e, h.ms, h.ss, h.os, h.ts⟩
theorem walk_del (ha : g.G a = some (.lst vs)) : ∀ {l : List (Str × Int × Int)} {us : List V}, Reps K c g us (l.map dW) → Reps K c (gDel g a) us (l.map dW)
  | [], _, .nil => .nil
  | x :: l, _, .cons r t => by
    refine .cons ?_ (walk_del ha t)
    unfold dW at r ⊢
    cases r with
    | tup h1 h2 =>
      have h1' : (gDel g a).G _ = some (HO.tup _) := (if_neg (fun z => by rw [z, ha] at h1; cases h1)).trans h1
      refine .tup h1' ?_
      cases h2 with
      | cons q1 h3 =>
        cases h3 with
        | cons q2 h4 =>
          cases h4 with
          | cons q3 h5 =>
            cases h5
            cases q1
            cases q2
            cases q3
            exact .cons (.str _) (.cons (.int _) (.cons (.int _) .nil))
theorem tabs_codes {T : List (Addr × Str)} (h : ∀ p ∈ T, TabG g H p) (ha : g.G a = some (.lst vs)) : ∀ p ∈ T, TabG (gDel g a) H p := fun p hp => by
  obtain ⟨ps, h1, h2, h3⟩ := h p hp
  refine ⟨ps, h1, h2, fun pos cv hc => ?_⟩
  obtain ⟨c, e1, e2⟩ := h3 pos cv hc
  exact ⟨c, e1, (if_neg (fun z => by rw [z, ha] at e2; exact noC_lst _ p.2 (Option.some.inj e2))).trans e2⟩
theorem Wr.del (W : Wr K c g H w) (hno : w.os = []) (ha : g.G a = some (.lst vs)) : Wr K c (gDel g a) H w := by
  refine ⟨fun x o e => ?_, W.nd, fun x hx => ?_, W.mlen, fun i q m h1 h2 => ?_, W.srcs, W.nss, W.olen, (fun i b o h1 h2 => by rw [hno] at h2; simp at h2), tabs_codes W.tabs ha, W.hts⟩
  · have e : (if x = a then none else g.G x) = some o := e
    by_cases z : x = a
    · rw [if_pos z] at e; cases e
    · rw [if_neg z] at e; exact W.sub x o e
  · show (if x = a then none else g.G x) = none
    split
    · rfl
    · exact W.off x hx
  · have M := W.mach i q m h1 h2
    obtain ⟨dx, e⟩ := M.ins
    obtain ⟨us, u1, u2⟩ := M.wlk
    refine ⟨⟨dx, ?_⟩, M.cnt, M.ten, ⟨us, u1, walk_del ha u2⟩, M.few⟩
    show (if q.1 = a then none else g.G q.1) = _
    rw [if_neg (fun z => by rw [z, ha] at e; cases e)]; exact e
/-- a name's list, held -/
theorem In.toF (I : In K c X F σ s) (ho : (i, a) ∈ s.os) (hH : s.H a = some (.lst vs)) (hno : noOwn (s.e.set i .no)) : In K c X ((a, .lst vs) :: F) σ ⟨s.g, s.H, s.e.set i .no, s.w, []⟩ := by
  have hsub : List.Sublist ((⟨s.g, s.H, s.e.set i .no, s.w, []⟩ : Cf).mu ((a, .lst vs) :: F)) (s.mu F) := by
    unfold Cf.mu
    refine List.Sublist.append (List.Sublist.refl _) ?_
    show List.Sublist ([a] ++ F.map (·.1)) (s.os.map (·.2) ++ F.map (·.1))
    refine List.Sublist.append (List.singleton_sublist.mpr (List.mem_map.mpr ⟨_, ho, rfl⟩)) (List.Sublist.refl _)
  refine ⟨I.wr, I.nd.sublist hsub, fun b hb => I.off b (hsub.subset hb), by show (s.e.set i _).length = _; rw [List.length_set]; exact I.len, fun j z hz => ?_, fun q hq => ?_, (fun _ z => nomatch z), I.le, I.keep, I.frz, fun b hb => I.new b (hsub.subset hb), I.dom⟩
  · have hz' : (s.e.set i .no)[j]? = some z := hz
    rcases noOwn_get hno hz' with rfl | ⟨d, rfl⟩
    · trivial
    · rcases set_get hz' with ⟨_, e⟩ | ⟨ne, hz''⟩
      · cases e
      · exact I.env j _ hz''
  · rcases List.mem_cons.mp hq with rfl | hq
    · exact hH
    · exact I.held q hq
/-- looked at -/
theorem In.lend {v : V} {d : Dat} (I : In K c X F σ s) (ho : (i, a) ∈ s.os) (hH : s.H a = some (.lst vs)) (hx : X.H a = none) (hno : noOwn (s.e.set i .no)) (hs : σ[i]? = some (some v)) (hr : Rep K c (gUpd s.g a (.lst vs)) v d) : In K c X F σ ⟨gUpd s.g a (.lst vs), s.H, s.e.set i (.val d), s.w, []⟩ := by
  have I1 := ((I.toF ho hH hno).frzF hx).setV (i := i) hr
  have hσ : σ.set i (some v) = σ := by
    obtain ⟨h1, h2⟩ := List.getElem?_eq_some_iff.mp hs
    rw [← h2]; exact List.set_getElem_self h1
  rw [hσ] at I1
  have I2 : In K c X F σ ⟨gUpd s.g a (.lst vs), s.H, (s.e.set i .no).set i (.val d), s.w, []⟩ := I1
  rw [List.set_set] at I2
  exact I2
/-- given back -/
theorem In.back (I : In K c X F σ s) (ho : (i, a) ∈ s.os) (hx : X.H a = none) (hno : noOwn (s.e.set i .no)) (I1 : In K c X F σ s1) (hnos : s1.w.os = []) (hle : (gUpd s.g a (.lst vs)).le s1.g)
    (hz : ∀ s' : Cf, s.g.le s'.g → (i, a) ∈ s'.os → s'.H a = some (.lst vs) → ∀ z, s.e[i]? = some z → RSl K c X s' i σ[i]? z) : In K c X F σ ⟨gDel s1.g a, s1.H, s.e, s1.w, (i, a) :: s1.os⟩ ∧ s.g.le (gDel s1.g a) := by
  have hg0 : s.g.G a = none := I.off a (I.osMu ho)
  have hg1 : s1.g.G a = some (.lst vs) := hle.G a _ (show upd s.g.G a _ a = _ from upd_same)
  have le := le_del ((gUpd_le (o := .lst vs) hg0).trans hle) hg0
  have hna : a ∉ s1.mu F := fun z => by rw [I1.off a z] at hg1; cases hg1
  have hp : ((⟨gDel s1.g a, s1.H, s.e, s1.w, (i, a) :: s1.os⟩ : Cf).mu F).Perm (a :: s1.mu F) := by
    show (s1.g.mu ++ (a :: (s1.os.map (·.2) ++ F.map (·.1)))).Perm _
    exact List.perm_middle
  have hHa := I1.wr.sub a _ hg1
  refine ⟨⟨I1.wr.del hnos hg1, hp.nodup_iff.mpr (List.nodup_cons.mpr ⟨hna, I1.nd⟩), fun b hb => ?_, I.len, fun j z hj => ?_, I1.held, fun q hq => ?_, I.le.trans le, I1.keep, fun b o e => ?_, fun b hb => ?_, I1.dom⟩, le⟩
  · show (if b = a then none else s1.g.G b) = none
    split
    · rfl
    · rename_i ne
      rcases List.mem_cons.mp (hp.mem_iff.mp hb) with z | z
      · exact absurd z ne
      · exact I1.off b z
  · by_cases e : j = i
    · subst e
      exact hz ⟨gDel s1.g a, s1.H, s.e, s1.w, (j, a) :: s1.os⟩ le List.mem_cons_self hHa z hj
    · have hj' : (s.e.set i .no)[j]? = some z := by rw [List.getElem?_set_ne (Ne.symm e)]; exact hj
      rcases noOwn_get hno hj' with rfl | ⟨d, rfl⟩
      · trivial
      · obtain ⟨v, h1, h2⟩ := I.env j _ hj
        exact ⟨v, h1, h2.mono le⟩
  · rcases List.mem_cons.mp hq with rfl | hq
    · exact ⟨_, hHa⟩
    · exact I1.oal q hq
  · show (if b = a then none else s1.g.G b) = _
    rw [if_neg (fun z => by rw [z, hx] at e; cases e)]
    exact I1.frz b o e
  · rcases List.mem_cons.mp (hp.mem_iff.mp hb) with z | z
    · rw [z]; exact .inr (.inr hx)
    · exact I1.new b z
/-- what a borrowed name is -/
theorem In.view (I : In K c X F σ s) {k : Dat → Prop} (h : bview s.e i k) : ∃ a vs v d, (i, a) ∈ s.os ∧ s.H a = some (.lst vs) ∧ X.H a = none ∧ σ[i]? = some (some v) ∧ Rep K c (gUpd s.g a (.lst vs)) v d ∧ k d ∧
    ∀ s' : Cf, s.g.le s'.g → (i, a) ∈ s'.os → s'.H a = some (.lst vs) → ∀ z, s.e[i]? = some z → RSl K c X s' i σ[i]? z := by
  unfold bview at h
  split at h
  · rename_i l e
    obtain ⟨a, vs, h1, h2, h3, h4, h5⟩ := I.env i _ e
    have le := gUpd_le (o := .lst vs) (I.off a (I.osMu h2))
    refine ⟨a, vs, .ref a, .lst l, h2, h3, h5.1 rfl, h1, .lst (show upd s.g.G a _ a = _ from upd_same) (h4.mono le), h, fun s' le' ho' hH' z hz => ?_⟩
    rw [e] at hz
    cases hz
    exact ⟨a, vs, h1, ho', hH', h4.mono le', h5⟩
  · rename_i l r e
    obtain ⟨p, a, us, vs, h1, h2, h3, h4, h5, h6, h7⟩ := I.env i _ e
    have le := gUpd_le (o := .lst vs) (I.off a (I.osMu h2))
    refine ⟨a, vs, .ref p, .tup (.lst l :: r), h2, h5, h7, h1, .tup (le.G _ _ h3) (.cons (.lst (show upd s.g.G a _ a = _ from upd_same) (h6.mono le)) (h4.mono le)), h, fun s' le' ho' hH' z hz => ?_⟩
    rw [e] at hz
    cases hz
    exact ⟨p, a, us, vs, h1, ho', le'.G _ _ h3, h4.mono le', hH', h6.mono le', h7⟩
  · exact h.elim
theorem snd_borT (ha : SndT K c tT pT) : SndT K c tT (pBorT i pT) := by
  intro X F σ s k Q I h hQ
  obtain ⟨hno, h⟩ := h
  obtain ⟨a, vs, v, d, ho, hH, hx, hs, hr, h, hz⟩ := I.view h
  refine ha X F σ ⟨gUpd s.g a (.lst vs), s.H, s.e.set i (.val d), s.w, []⟩ _ _ (I.lend ho hH hx hno hs hr) h fun u s1 l1 I1 h1 => ?_
  obtain ⟨_, hnos, h1⟩ := h1
  obtain ⟨I2, le⟩ := I.back ho hx hno I1 hnos l1 hz
  exact hQ u ⟨gDel s1.g a, s1.H, s.e, s1.w, (i, a) :: s1.os⟩ le I2 h1
def ownTAt (e : Env) (i : Nat) (k : List Dat → List Dat → Prop) : Prop := match e[i]? with | some (.ownT l r) => k l r | _ => False
theorem ownTAt_of {e : Env} {k : List Dat → List Dat → Prop} (h : ownTAt e i k) : ∃ l r, e[i]? = some (.ownT l r) ∧ k l r := by
  unfold ownTAt at h
  split at h
  · exact ⟨_, _, by assumption, h⟩
  · exact h.elim
/-- a name's own list is changed; the name stands as z -/
theorem In.ownPutZ (I : In K c X F σ s) {z : Slot} (ha : (i, a) ∈ s.os) (hz : RSl K c X ⟨s.g, upd s.H a (.lst vs), s.e.set i z, s.w, s.os⟩ i σ[i]? z) : In K c X F σ ⟨s.g, upd s.H a (.lst vs), s.e.set i z, s.w, s.os⟩ := by
  have hm := I.osMu ha
  have hg : s.g.G a = none := I.off a hm
  have ng := I.osG ha
  have nF : ∀ q ∈ F, q.1 ≠ a := fun q hq e =>
    (List.nodup_append.mp (List.nodup_append.mp I.nd).2.1).2.2 a (List.mem_map.mpr ⟨_, ha, rfl⟩) q.1 (List.mem_map.mpr ⟨q, hq, rfl⟩) e.symm
  refine ⟨I.wr.mono (Gh.le.refl _) rfl rfl rfl (by obtain ⟨vs0, e0⟩ := I.oal _ ha; exact CKeep.upd e0 noC_lst) (fun b u e => ?_) (fun b hb => I.wr.off b hb) (fun b hb => upd_ne (fun e => ng (e ▸ hb))), I.nd, I.off, by show (s.e.set i _).length = _; rw [List.length_set]; exact I.len, fun j y hj => ?_, fun q hq => ?_, fun q hq => ?_, I.le, fun b u e n1 n2 => ?_, I.frz, I.new, fun b u e => ?_⟩
  · have e' := I.wr.sub b u e
    show upd s.H a _ b = some u
    rw [upd_ne (fun z => by subst z; rw [hg] at e; cases e)]; exact e'
  · rcases set_get hj with ⟨rfl, rfl⟩ | ⟨ne, hj'⟩
    · exact hz
    · have h' := I.env j y hj'
      cases y with
      | no => trivial
      | val d => exact h'
      | own f' dl =>
        obtain ⟨b, ws, h1, h2, h3, h4, h5⟩ := h'
        refine ⟨b, ws, h1, h2, ?_, h4, h5⟩
        show upd s.H a _ b = _
        rw [upd_ne (fun (e : b = a) => ne (os_inj I.osNd (by rw [← e]; exact h2) ha))]; exact h3
      | ownT dl dr =>
        obtain ⟨p, b, us, ws, h1, h2, h3, h4, h5, h6, h7⟩ := h'
        refine ⟨p, b, us, ws, h1, h2, h3, h4, ?_, h6, h7⟩
        show upd s.H a _ b = _
        rw [upd_ne (fun (e : b = a) => ne (os_inj I.osNd (by rw [← e]; exact h2) ha))]; exact h5
  · show upd s.H a _ q.1 = _
    rw [upd_ne (nF q hq)]; exact I.held q hq
  · by_cases e : q.2 = a
    · exact ⟨_, by show upd s.H a _ q.2 = _; rw [e]; exact upd_same⟩
    · obtain ⟨u, hu⟩ := I.oal q hq
      exact ⟨u, by show upd s.H a _ q.2 = _; rw [upd_ne e]; exact hu⟩
  · have e' := I.keep b u e n1 n2
    show upd s.H a _ b = some u
    rw [upd_ne (fun z => by
      subst z
      rcases I.new b hm with z | z | z
      · exact n1 z
      · exact n2 z
      · rw [z] at e; cases e)]
    exact e'
  · by_cases z : b = a
    · exact ⟨_, by show upd s.H a _ b = _; rw [z]; exact upd_same⟩
    · obtain ⟨u', e'⟩ := I.dom b u e
      exact ⟨u', by show upd s.H a _ b = _; rw [upd_ne z]; exact e'⟩
/-- x[0].append(y) of a told tuple x -/
def pAppT (i : Nat) (a : PE) : PS := fun D e w => ownTAt e i fun _ _ => a e w fun d e w => ownTAt e i fun l r => l.length < sizeLine ∧ D.nx (e.set i (.ownT (l ++ [d]) r)) w
theorem snd_appT (ha : SndE K c ta pa) : SndS K c (tDrop (tBM K "list" rAppend (tOp (rIxT K) (tVar i) (tC (.int 0))) (tCons ta tNil))) (pAppT i pa) := by
  intro X F σ s D Dp I h hE
  obtain ⟨l0, r0, e0, h⟩ := ownTAt_of h
  obtain ⟨p, a, us, vs0, hs, ho, hp, hu, hH0, hv0, hx⟩ := I.env i _ e0
  refine ⟨.ref p, hs, p, .ref a :: us, 0, .ref a, rfl, rfl, SqT.of (I.wr.sub _ _ hp), eAt0, .inl ⟨rfl, _, SqL.of hH0⟩, ?_⟩
  refine ha X F σ s _ _ I h fun y dy s2 l2 I2 r2 h2 => ?_
  obtain ⟨l, r, e1, hz, h2⟩ := ownTAt_of h2
  obtain ⟨p', a', us', vs, hs', ho', hp', hu', hH, hv, hx'⟩ := I2.env i _ e1
  rw [hs] at hs'; cases hs'
  have hpe := l2.G _ _ hp
  rw [hpe] at hp'
  cases hp'
  refine ⟨a, vs, y, rfl, rfl, hH, by rw [hv.length]; exact hz, hE.nx σ ⟨s2.g, upd s2.H a _, s2.e.set i (.ownT (l ++ [dy]) r), s2.w, s2.os⟩ l2 (I2.ownPutZ ho' ?_) h2⟩
  exact ⟨p, a, us, vs ++ [y], hs, ho', hpe, hu', upd_same, hv.app (.cons r2 .nil), hx⟩
/-- a promise that tells a new tuple whose first thing is a new list -/
def SndPS (K : PySem.W.Frag) (c : Pc) (sp : Sp) (P : PSp) : Prop := ∀ (g : Gh) (H : Hp) (w : Wld) (vs : List V) (ds : List Dat) (k : Dat → Wld → Prop) (Q : VK) (E : XK), Wr K c g H w → Reps K c g vs ds → P ds w k →
  (∀ p a us ws l r g' H' w', Aft g H g' H' → Wr K c g' H' w' → H a = none → g'.G a = none → a ∉ g'.mu → H' a = some (.lst ws) → Reps K c g' ws l → g'.G p = some (.tup (.ref a :: us)) → Reps K c g' us r → k (.tup (.lst l :: r)) w' → Q (.ref p) H') → sp vs H Q E
def lifS (K : PySem.W.Frag) (c : Pc) (P : PSp) : Sp := fun vs H Q _ => ∃ (g : Gh) (w : Wld) (ds : List Dat) (k : Dat → Wld → Prop), Wr K c g H w ∧ Reps K c g vs ds ∧ P ds w k ∧
  ∀ p a us ws l r g' H' w', Aft g H g' H' → Wr K c g' H' w' → H a = none → g'.G a = none → a ∉ g'.mu → H' a = some (.lst ws) → Reps K c g' ws l → g'.G p = some (.tup (.ref a :: us)) → Reps K c g' us r → k (.tup (.lst l :: r)) w' → Q (.ref p) H'
theorem SndPS.lif : SndPS K c (lifS K c P) P := fun g _ w _ ds k _ _ h1 h2 h3 h4 => ⟨g, w, ds, k, h1, h2, h3, h4⟩
/-- what is told, frozen -/
theorem SndP.lifS : SndP K c (lifS K c P) P := fun g H w vs ds k Q E W r h hQ => ⟨g, w, ds, k, W, r, h, fun p a us ws l r' g' H' w' A W' ha hg hm hH hw hp hu hk => by
  have le := gUpd_le (o := .lst ws) hg
  have W2 : Wr K c (gUpd g' a (.lst ws)) H' w' := W'.mono le rfl rfl rfl (CKeep.refl _) (fun x o e => by
    have e : upd g'.G a (.lst ws) x = some o := e
    by_cases z : x = a
    · subst z; rw [upd_same] at e; rw [← e]; exact hH
    · rw [upd_ne z] at e; exact W'.sub x o e) (fun x hx => by
    have ne : x ≠ a := fun z => hm (by rw [← z]; exact hx)
    show upd g'.G a _ x = none
    rw [upd_ne ne]; exact W'.off x hx) (fun _ _ => rfl)
  have A2 : Aft g H (gUpd g' a (.lst ws)) H' := ⟨A.le.trans le, A.keep, fun x o e => by
    show upd g'.G a _ x = _
    rw [upd_ne (fun z => by rw [z, ha] at e; cases e)]; exact A.frz x o e, A.new, A.dom⟩
  exact hQ (.ref p) _ _ H' w' A2 W2 (.tup (le.G _ _ hp) (.cons (.lst (show upd g'.G a _ a = _ from upd_same) (hw.mono le)) (hu.mono le))) hk⟩
/-- behind a call that tells a list -/
theorem In.callH (I : In K c X F σ s) {g' : Gh} {H' : Hp} {w' : Wld} {ws : List V} (A : Aft s.g s.H g' H') (W : Wr K c g' H' w') (ha : s.H a = none) (hg : g'.G a = none) (hm : a ∉ g'.mu) (hH : H' a = some (.lst ws)) : In K c X ((a, .lst ws) :: F) σ ⟨g', H', s.e, w', s.os⟩ := by
  have I1 := I.call A W
  have hn : a ∉ (⟨g', H', s.e, w', s.os⟩ : Cf).mu F := fun z => by
    rcases List.mem_append.mp z with z | z
    · exact hm z
    · obtain ⟨o, e⟩ := I.al (List.mem_append_right _ z)
      rw [ha] at e; cases e
  have hp := mu_cons (⟨g', H', s.e, w', s.os⟩ : Cf) (a, .lst ws) F
  refine ⟨W, hp.nodup_iff.mpr (List.nodup_cons.mpr ⟨hn, I1.nd⟩), fun b hb => ?_, I1.len, I1.env, fun q hq => ?_, I1.oal, I1.le, I1.keep, I1.frz, fun b hb => ?_, I1.dom⟩
  · rcases List.mem_cons.mp (hp.mem_iff.mp hb) with z | z
    · rw [z]; exact hg
    · exact I1.off b z
  · rcases List.mem_cons.mp hq with rfl | hq
    · exact hH
    · exact I1.held q hq
  · rcases List.mem_cons.mp (hp.mem_iff.mp hb) with z | z
    · rw [z]; exact .inr (.inr (I.fresh ha))
    · exact I1.new b z
/-- a name gets a told tuple -/
theorem In.setT {p : Addr} {us : List V} {l r : List Dat} (I : In K c X ((a, .lst vs) :: F) σ s) (hx : X.H a = none) (hp : s.g.G p = some (.tup (.ref a :: us))) (hu : Reps K c s.g us r) (hv : Reps K c s.g vs l) : In K c X F (σ.set i (some (.ref p))) ⟨s.g, s.H, s.e.set i (.ownT l r), s.w, (i, a) :: s.os⟩ := by
  have hpm := mu_cons s (a, .lst vs) F
  have hp2 : ((⟨s.g, s.H, s.e.set i (.ownT l r), s.w, (i, a) :: s.os⟩ : Cf).mu F).Perm (s.mu ((a, .lst vs) :: F)) := (List.perm_middle).trans hpm.symm
  refine ⟨I.wr, hp2.nodup_iff.mpr I.nd, fun b hb => I.off b (hp2.mem_iff.mp hb), by simp only [List.length_set]; exact I.len, fun j z hz => ?_, fun q hq => I.held q (List.mem_cons_of_mem _ hq), fun q hq => ?_, I.le, I.keep, I.frz, fun b hb => I.new b (hp2.mem_iff.mp hb), I.dom⟩
  · rcases set_get hz with ⟨rfl, rfl⟩ | ⟨ne, hz'⟩
    · exact ⟨p, a, us, vs, set_len I.len hz _, List.mem_cons_self, hp, hu, I.held _ List.mem_cons_self, hv, hx⟩
    · rw [List.getElem?_set_ne (Ne.symm ne)]
      exact (I.env j z hz').mono (Gh.le.refl _) (fun q hq => List.mem_cons_of_mem _ hq) fun _ _ => rfl
  · rcases List.mem_cons.mp hq with rfl | hq
    · exact ⟨_, I.held _ List.mem_cons_self⟩
    · exact I.oal q hq
def tldOf : Dat → (List Dat → List Dat → Prop) → Prop
  | .tup (.lst l :: r), k => k l r
  | _, _ => False
/-- x = f(..), told -/
def pAsgT (P : PSp) (a : PA) (i : Nat) : PS := fun D e w => a e w fun ds e w => P ds w fun d w => tldOf d fun l r => D.nx (e.set i (.ownT l r)) w
theorem snd_asgT (hp : SndPS K c sp P) (hr : SndA K c tr pr) : SndS K c (tAsg (tCall sp [] E tr) (gName i)) (pAsgT P pr i) := by
  intro X F σ s D Dp I h hE
  refine hr X F σ s _ _ I h fun vs ds s1 l1 I1 r1 h1 => ?_
  rw [List.append_nil]
  refine hp s1.g s1.H s1.w vs ds _ _ E I1.wr r1 h1 fun p a us ws l r g' H' w' A W ha hg hm hH hw hpp hu hk => ?_
  exact hE.nx _ ⟨g', H', s1.e.set i (.ownT l r), w', (i, a) :: s1.os⟩ (l1.trans A.le) ((I1.callH A W ha hg hm hH).setT (I1.fresh ha) hpp hu hw) hk
/-- x, y = f(..), z -/
def pParT (P : PSp) (a : PA) (b : PE) (i j : Nat) : PS := fun D e w => a e w fun ds e w => P ds w fun d w => tldOf d fun l r => b e w fun d2 e w => D.nx ((e.set i (.ownT l r)).set j (.val d2)) w
/-- x, y = z, z told -/
def pTake (i x y : Nat) : PS := fun D e w => noOwn (e.set i .no) ∧ ownTAt e i fun l r => match r with
  | [d] => D.nx (((e.set i .no).set x (.own true l)).set y (.val d)) w
  | _ => False
structure SEndsS (K : PySem.W.Frag) (c : Pc) (X : En) (F : List (Addr × HO)) (g : Gh) (D : Ends) (Dp : PEnds) : Prop where
  rt : ∀ σ s p a us ws l r, g.le s.g → In K c X ((a, .lst ws) :: F) σ s → X.H a = none → s.g.G p = some (.tup (.ref a :: us)) → Reps K c s.g us r → Reps K c s.g ws l → Dp.rt (.tup (.lst l :: r)) s.e s.w → D.rt (.ref p) s.H
theorem SEndsS.mono {D : Ends} {Dp : PEnds} {g' : Gh} (h : SEndsS K c X F g D Dp) (le : g.le g') : SEndsS K c X F g' D Dp := ⟨fun σ s p a us ws l r l' => h.rt σ s p a us ws l r (le.trans l')⟩
def SndSS (K : PySem.W.Frag) (c : Pc) (t : TS) (p : PS) : Prop := ∀ (X : En) (F : List (Addr × HO)) (σ : L2.St) (s : Cf) (D : Ends) (Dp : PEnds), In K c X F σ s → p Dp s.e s.w → SEndsS K c X F s.g D Dp → t D σ s.H
def pSeqN (a b : PS) : PS := fun D e w => a ⟨b D, fun _ _ _ => False, fun _ _ => False, fun _ _ => False⟩ e w
theorem snd_seqN (ha : SndS K c ts ps) (hb : SndSS K c tu pu) : SndSS K c (tSeq ts tu) (pSeqN ps pu) := by
  intro X F σ s D Dp I h hE
  exact ha X F σ s _ _ I h ⟨fun σ' s' l I' h' => hb X F σ' s' D Dp I' h' (hE.mono l), (fun _ _ _ _ _ _ _ z => z.elim), (fun _ _ _ _ z => z.elim), fun _ _ _ _ z => z.elim⟩
def pRetT (f : PF) (b : PE) : PS := fun D e w => f e w fun l e w => b e w fun d e w => 2 ≤ sizeLine ∧ D.rt (.tup [.lst l, d]) e w
def pRetO (i : Nat) (b : PE) : PS := fun D e w => ownAt e i fun _ _ => b e w fun d e w => ownAt e i fun f l => (f = true ∧ noOwn (e.set i .no)) ∧ 2 ≤ sizeLine ∧ D.rt (.tup [.lst l, d]) (e.set i .no) w
theorem snd_retO (hb : SndE K c tb pb) : SndSS K c (tRet (tTup (tCons (tVar i) (tCons tb tNil)))) (pRetO i pb) := by
  intro X F σ s D Dp I h hE
  obtain ⟨f0, l0, e0, h⟩ := ownAt_of h
  obtain ⟨a, vs0, hs, _, _, _, _⟩ := I.own e0
  refine ⟨.ref a, hs, ?_⟩
  refine hb X F σ s _ _ I h fun v d s2 l2 I2 r2 h2 => ?_
  obtain ⟨f, l, e1, ⟨hf, hno⟩, hz, h2⟩ := ownAt_of h2
  obtain ⟨a', vs, hs', ho, hH, hR, hfx⟩ := I2.own e1
  rw [hs] at hs'; cases hs'
  refine ⟨hz, fun p hp => ?_⟩
  have hx := hfx.1 hf
  have I3 := (I2.toF ho hH hno).newG (o := .tup [.ref a, v]) hp
  have le := gUpd_le (o := .tup [.ref a, v]) (I2.offG hp)
  exact hE.rt σ _ p a [v] vs l [d] (l2.trans le) I3 hx (show upd s2.g.G p _ p = _ from upd_same) (.cons (r2.mono le) .nil) (hR.mono le) h2
def pRetC (P : PSp) (a : PA) : PS := fun D e w => a e w fun ds e w => P ds w fun d w => tldOf d fun l r => D.rt (.tup (.lst l :: r)) e w
theorem snd_retC (hp : SndPS K c sp P) (hr : SndA K c tr pr) : SndSS K c (tRet (tCall sp [] E tr)) (pRetC P pr) := by
  intro X F σ s D Dp I h hE
  refine hr X F σ s _ _ I h fun vs ds s1 l1 I1 r1 h1 => ?_
  rw [List.append_nil]
  refine hp s1.g s1.H s1.w vs ds _ _ E I1.wr r1 h1 fun p a us ws l r g' H' w' A W ha hg hm hH hw hpp hu hk => ?_
  exact hE.rt σ ⟨g', H', s1.e, w', s1.os⟩ p a us ws l r (l1.trans A.le) (I1.callH A W ha hg hm hH) (I1.fresh ha) hpp hu hw hk
theorem def_okS {n : Nat} {t : TS} {p : PS} {Q : VK} {us : List V} (hs : SndSS K c t p) (hP : ∀ ds w k, P ds w k → p (pen k) (env0 n ds) w) (h : lifS K c P us H Q E) : t (en0 Q) (st0 n us) H := by
  obtain ⟨g, w, ds, k, W, r, hp, hq⟩ := h
  refine hs ⟨H, g, []⟩ [] (st0 n us) ⟨g, H, env0 n ds, w, []⟩ _ _ (In.start W r) (hP ds w k hp) ⟨fun σ s p a us ws l r le I hx hpp hu hw hk => ?_⟩
  have hpm := mu_cons s (a, .lst ws) []
  have hin : a ∈ s.mu [(a, .lst ws)] := hpm.mem_iff.mpr List.mem_cons_self
  have hn : a ∉ s.g.mu := fun z => (List.nodup_cons.mp (hpm.nodup_iff.mp I.nd)).1 (List.mem_append_left _ z)
  refine hq p a us ws l r s.g s.H s.w ⟨I.le, fun b o e n => I.keep b o e n (fun z => nomatch z), I.frz, fun b hb => ?_, I.dom⟩ I.wr hx (I.off a hin) hn (I.held _ List.mem_cons_self) hw hpp hu hk
  rcases I.new b (List.mem_append_left _ hb) with z | z | z
  · exact .inl z
  · cases z
  · exact .inr z
theorem lifS_len {n : Nat} {us : List V} {Q : VK} (hP : ∀ ds w k, P ds w k → ds.length = n) (h : lifS K c P us H Q E) : us.length = n := by
  obtain ⟨g, w, ds, k, _, r, hp, _⟩ := h
  rw [r.length]; exact hP ds w k hp
/-- of a plain thing: the name of its type -/
def tyN : Dat → Option String
  | .int _ => some "int"
  | .bl _ => some "bool"
  | .str _ => some "str"
  | .lst _ => some "list"
  | .tup _ => some "tuple"
  | _ => none
def qIsi : QL
  | [d, .opq (.ty t)], k => ∃ a b, tyN d = some a ∧ kitB a t = some b ∧ k (.bl b)
  | _, _ => False
theorem s_isi : SndRL K c (rIsi K) qIsi := by
  intro X F σ s vs ds k Q I r h hQ
  unfold qIsi at h
  split at h
  · rename_i d t
    obtain ⟨v, v', rfl, r1, r2⟩ : ∃ v v', vs = [v, v'] ∧ RepW K c s v d ∧ RepW K c s v' (.opq (.ty t)) := by
      cases r with
      | cons q1 q =>
        cases q with
        | cons q2 q' =>
          cases q'
          exact ⟨_, _, rfl, q1, q2⟩
    obtain ⟨a, b, ht, hk, h⟩ := h
    have e2 : v' = .ty t := by
      rcases r2 with r2 | ⟨_, _, _, _, e, _⟩
      · cases r2; rfl
      · cases e
    subst e2
    have ty : TyX K s.H v (.type a) := by
      cases d with
      | int n => cases ht; rw [r1.int]; exact .base (.int n)
      | bl n => cases ht; rw [r1.bl]; exact .base (.bl n)
      | str n => cases ht; rw [r1.str]; exact .base (.str n)
      | lst l =>
        cases ht
        obtain ⟨x, ws, rfl, hH, _⟩ := r1.lst I
        exact .base (.lst hH)
      | tup l =>
        cases ht
        rcases r1 with r1 | ⟨_, _, _, _, e, _⟩
        · cases r1 with
          | tup h1 _ => exact .base (.tup (I.wr.sub _ _ h1))
        · cases e
      | _ => cases ht
    exact isi_ty ty hk (hQ _ _ s (Gh.le.refl _) I rfl rfl (.bl _) h)
  · exact h.elim
def bvO (o : Option Slot) (k : Dat → Prop) : Prop := match o with
  | some (.own true l) => k (.lst l)
  | some (.ownT l r) => k (.tup (.lst l :: r))
  | _ => False
variable {l r : List Dat} {k : Dat → Prop} {kk : List Dat → List Dat → Prop} {e : Env} {d : Dat} {n : Int} {b : Bool}
theorem eBv : bview e i k = bvO e[i]? k := rfl
theorem eBv1 : bvO (some (.own true l)) k = k (.lst l) := rfl
theorem eBv2 : bvO (some (.ownT l r)) k = k (.tup (.lst l :: r)) := rfl
def otO (o : Option Slot) (k : List Dat → List Dat → Prop) : Prop := match o with | some (.ownT l r) => k l r | _ => False
theorem eOt : ownTAt e i kk = otO e[i]? kk := rfl
theorem eOt1 : otO (some (.ownT l r)) kk = kk l r := rfl
theorem eNo0 : noOwn [] = True := rfl
theorem eNo1 : noOwn (.no :: e) = noOwn e := rfl
theorem eNo2 : noOwn (.val d :: e) = noOwn e := rfl
theorem eTld : tldOf (.tup (.lst l :: r)) kk = kk l r := rfl
theorem eIsi {t : String} : qIsi [d, .opq (.ty t)] k = ∃ a b, tyN d = some a ∧ kitB a t = some b ∧ k (.bl b) := rfl
theorem eLf1 : lf (.int n) = True := rfl
theorem eLf2 : lf (.bl b) = True := rfl
end
end Pu
namespace Pu
open PySem L2 Eng
/-- what a call leaves that may change the list at a -/
structure AftO (a : Addr) (g : Gh) (H : Hp) (g' : Gh) (H' : Hp) : Prop where
  le : g.le g'
  keep : ∀ x o, H x = some o → x ∉ g.mu → x ≠ a → H' x = some o
  frz : ∀ x o, H x = some o → g'.G x = g.G x
  new : ∀ x ∈ g'.mu, x ∈ g.mu ∨ H x = none
  dom : ∀ x o, H x = some o → ∃ o', H' x = some o'
def lifO (K : PySem.W.Frag) (c : Pc) (P : PSpO) : Sp := fun us H Q _ => ∃ (g : Gh) (w : Wld) (a : Addr) (ws : List V) (l : List Dat) (vs : List V) (ds : List Dat) (k : Dat → List Dat → Wld → Prop), us = .ref a :: vs ∧
  Wr K c g H w ∧ H a = some (.lst ws) ∧ g.G a = none ∧ a ∉ g.mu ∧ Reps K c g ws l ∧ Reps K c g vs ds ∧ P ds l w k ∧
  ∀ v d ws' l' g' H' w', AftO a g H g' H' → Wr K c g' H' w' → H' a = some (.lst ws') → Reps K c g' ws' l' → Rep K c g' v d → k d l' w' → Q v H'
section
variable {K : PySem.W.Frag} {c : Pc} {X : En} {F : List (Addr × HO)} {σ : L2.St} {s s1 : Cf} {g g1 : Gh} {H : Hp} {w : Wld} {a : Addr} {vs ws : List V} {i : Nat} {ta tb : TE} {pa pb : PE} {tr : TA} {pr : PA} {sp : Sp} {P : PSp} {O : PSpO} {E : XK} {Q : VK} {l : List Dat}
/-- f(x, ..), x a name with a list of its own, which f may change -/
def pCallO (P : PSpO) (i : Nat) (a : PA) : PE := fun e w k => ownAt e i fun _ _ => a e w fun ds e w => ownAt e i fun f l => P ds l w fun d l' w => k d (e.set i (.own f l')) w
def env0O (n : Nat) (l : List Dat) (ds : List Dat) : Env := .own false l :: (ds.map Slot.val ++ List.replicate (n - 1 - ds.length) .no)
def penF (k : Dat → List Dat → Wld → Prop) : PEnds := ⟨fun e w => ownAt e 0 fun f l => f = false ∧ k .non l w, fun d e w => ownAt e 0 fun f l => f = false ∧ k d l w, fun _ _ => False, fun _ _ => False⟩
theorem lifO_len {n : Nat} {us : List V} (hO : ∀ ds l w k, O ds l w k → ds.length + 1 = n) (h : lifO K c O us H Q E) : us.length = n := by
  obtain ⟨g, w, a, ws, l, vs, ds, k, rfl, _, _, _, _, _, r, hp, _⟩ := h
  rw [List.length_cons, r.length]; exact hO ds l w k hp
end
end Pu
namespace Eng
open PySem PySem.Spec PyProof.Rows L2
end Eng
namespace Pu
open PySem L2 Eng
def pCallN (n m : Nat) (P : PSp) (a r : PA) : PE := fun e w k => a e w fun ds e w => r e w fun zs e w => ds.length = n ∧ zs.length = m ∧ P (ds ++ zs) w fun d w => k d e w
section
variable {K : PySem.W.Frag} {c : Pc} {sp : Sp} {P : PSp} {E : XK} {tr tl : TA} {pr pl : PA} {n m : Nat}
/-- x, y, .. = [..], e, ..  (four names or more: by a tuple) -/
def pTupO (x : Nat) (is : List Nat) (f : PF) (r : PA) : PS := fun D e w => f e w fun l e w => r e w fun ds e w => ds.length + 1 ≤ sizeLine ∧ onSome (setAll (e.set x (.own true l)) is ds) fun e => D.nx e w
def fl : Dat → Option V
  | .non => some .non
  | .bl b => some (.bl b)
  | .int n => some (.int n)
  | .str t => some (.str t)
  | _ => none
def qAll : QL
  | [.lst l], k => ∃ bs : List Bool, l = bs.map Dat.bl ∧ k (.bl (bs.all id))
  | _, _ => False
theorem eAll {l : List Dat} {k : Dat → Prop} : qAll [.lst l] k = ∃ bs : List Bool, l = bs.map Dat.bl ∧ k (.bl (bs.all id)) := rfl
end
end Pu
namespace Eng
open PySem PySem.Spec PyProof.Rows L2
end Eng
namespace Pu
open PySem L2 Eng
section
variable {K : PySem.W.Frag} {c : Pc} {X : En} {F : List (Addr × HO)} {σ : L2.St} {s s1 : Cf} {g g1 : Gh} {H : Hp} {w : Wld} {a : Addr} {vs ws : List V} {i : Nat} {ta tb : TE} {pa pb : PE} {tr : TA} {pr : PA} {ts tu : TS} {ps pu : PS} {sp : Sp} {P : PSp} {E : XK} {Q : VK} {l : List Dat}
def lifL (K : PySem.W.Frag) (c : Pc) (P : PSp) : Sp := fun vs H Q _ => ∃ (g : Gh) (w : Wld) (ds : List Dat) (k : Dat → Wld → Prop), Wr K c g H w ∧ Reps K c g vs ds ∧ P ds w k ∧
  ∀ a ws l g' H' w', Aft g H g' H' → Wr K c g' H' w' → H a = none → g'.G a = none → a ∉ g'.mu → H' a = some (.lst ws) → Reps K c g' ws l → k (.lst l) w' → Q (.ref a) H'
def lsOf : Dat → (List Dat → Prop) → Prop
  | .lst l, k => k l
  | _, _ => False
/-- f(..), told -/
def pCallL (P : PSp) (a : PA) : PF := fun e w k => a e w fun ds e w => P ds w fun d w => lsOf d fun l => k l e w
structure SEndsL (K : PySem.W.Frag) (c : Pc) (X : En) (F : List (Addr × HO)) (g : Gh) (D : Ends) (Dp : PEnds) : Prop where
  rt : ∀ σ s a ws l, g.le s.g → In K c X ((a, .lst ws) :: F) σ s → X.H a = none → Reps K c s.g ws l → Dp.rt (.lst l) s.e s.w → D.rt (.ref a) s.H
theorem SEndsL.mono {D : Ends} {Dp : PEnds} {g' : Gh} (h : SEndsL K c X F g D Dp) (le : g.le g') : SEndsL K c X F g' D Dp := ⟨fun σ s a ws l l' => h.rt σ s a ws l (le.trans l')⟩
def pRetL (f : PF) : PS := fun D e w => f e w fun l e w => D.rt (.lst l) e w
theorem lifL_len {n : Nat} {us : List V} (hP : ∀ ds w k, P ds w k → ds.length = n) (h : lifL K c P us H Q E) : us.length = n := by
  obtain ⟨g, w, ds, k, _, r, hp, _⟩ := h
  rw [r.length]; exact hP ds w k hp
def qTD (r : Bool) : Q2
  | .tup [.dic l, d], .tup [.dic l', d'], k => EqDs l l' ∧ d = d' ∧ pl d ∧ k (.bl r)
  | _, _, _ => False
def qEqTD : Q2 := qTD true
def qNeTD : Q2 := qTD false
theorem eEqTD {l l' : List (Str × Int)} {d d' : Dat} {k : Dat → Prop} : qEqTD (.tup [.dic l, d]) (.tup [.dic l', d']) k = (EqDs l l' ∧ d = d' ∧ pl d ∧ k (.bl true)) := rfl
theorem eNeTD {l l' : List (Str × Int)} {d d' : Dat} {k : Dat → Prop} : qNeTD (.tup [.dic l, d]) (.tup [.dic l', d']) k = (EqDs l l' ∧ d = d' ∧ pl d ∧ k (.bl false)) := rfl
def dicOf : Dat → (List (Str × Int) → Prop) → Prop
  | .dic l, k => k l
  | _, _ => False
def gtOf (l : List (Str × Int)) : Dat → Dat → (Dat → Prop) → Prop
  | .str t, .int n, k => k (.int ((l.lookup t).getD n))
  | _, _, _ => False
def pDGet2 (d y x : PE) : PE := fun e w k => d e w fun v e w => dicOf v fun l => y e w fun u e w => x e w fun z e w => gtOf l u z fun r => k r e w
theorem eDicOf {l : List (Str × Int)} {k : List (Str × Int) → Prop} : dicOf (.dic l) k = k l := rfl
theorem eGtOf {l : List (Str × Int)} {t : Str} {n : Int} {k : Dat → Prop} : gtOf l (.str t) (.int n) k = k (.int ((l.lookup t).getD n)) := rfl
theorem eLsOf {l : List Dat} {k : List Dat → Prop} : lsOf (.lst l) k = k l := rfl
end
end Pu
namespace Eng
open PySem L2 Pu
def pgUnl (is : List Nat) : PG := fun d e w k => lstOf d fun ds => onSome (setAll e is ds) fun e => k e w
theorem snd_gUnl {K : PySem.W.Frag} {c : Pc} {is : List Nat} {n : Nat} (hn : is.length = n) : SndG K c (gUnl K n (gNames is)) (pgUnl is) := by
  intro X F σ s v d k Q I r h hQ
  cases r with
  | lst hs hr =>
    obtain ⟨e, he, h⟩ := onSome_of h
    refine ⟨_, _, rfl, SqL.of (I.wr.sub _ _ hs), by rw [hr.length, setAll_len he]; exact hn, ?_⟩
    exact In.setAll I hr he fun σ' I' => hQ σ' ⟨s.g, s.H, e, s.w, s.os⟩ (Gh.le.refl _) I' h
  | cst hs hr =>
    obtain ⟨e, he, h⟩ := onSome_of h
    refine ⟨_, _, rfl, sqL_mono I.wr.sub hs, by rw [hr.length, setAll_len he]; exact hn, ?_⟩
    exact In.setAll I hr he fun σ' I' => hQ σ' ⟨s.g, s.H, e, s.w, s.os⟩ (Gh.le.refl _) I' h
  | _ => exact h.elim
end Eng
namespace Pu
open PySem L2 Eng
def Wld.putO (w : Wld) (j : Nat) (o : Obj) : Wld := ⟨w.ms, w.ss, w.os.set j o⟩
def Wld.addO (w : Wld) (o : Obj) : Wld := ⟨w.ms, w.ss, w.os ++ [o]⟩
def lsAt (w : Wld) (j : Nat) (k : List Dat → Prop) : Prop := match w.os[j]? with | some (.lst l) => k l | _ => False
def dcAt (w : Wld) (j : Nat) (k : List (Str × Int) → Prop) : Prop := match w.os[j]? with | some (.dic l) => k l | _ => False
def obOf : Dat → (Nat → Prop) → Prop
  | .ob j, k => k j
  | _, _ => False
/-- an operand as it stands now -/
def vw (w : Wld) : Dat → (Dat → Prop) → Prop
  | .ob j, k => lsAt w j fun l => k (.lst l)
  | d, k => k d
def vws (w : Wld) : List Dat → (List Dat → Prop) → Prop
  | [], k => k []
  | d :: ds, k => vw w d fun x => vws w ds fun xs => k (x :: xs)
def pOpW (q : Q2) (a b : PE) : PE := fun e w k => a e w fun x e w => b e w fun y e w => vw w x fun x => vw w y fun y => q x y fun z => k z e w
def pCBW (q : QL) (a : PA) : PE := fun e w k => a e w fun ds e w => vws w ds fun ds => q ds fun z => k z e w
def pOpFW (q : Dat → Dat → (List Dat → Prop) → Prop) (a b : PE) : PF := fun e w k => a e w fun x e w => b e w fun y e w => vw w x fun x => vw w y fun y => q x y fun z => k z e w
def pCBFW (q : List Dat → (List Dat → Prop) → Prop) (a : PA) : PF := fun e w k => a e w fun ds e w => vws w ds fun ds => q ds fun z => k z e w
/-- a new list that may be changed -/
def pObj (f : PF) : PE := fun e w k => f e w fun l e w => k (.ob w.os.length) e (w.addO (.lst l))
def pSlW (a : PE) (lo hi : PO) : PF := fun e w k => a e w fun x e w => lo e w fun l e w => hi e w fun u e w => vw w x fun x => lstOf x fun ds => k (cutD ds l u) e w
/-- x[i] = v -/
def pSetO (o ix v : PE) : PS := fun D e w => v e w fun d e w => o e w fun x e w => ix e w fun y e w => obOf x fun j => intOf y fun n => lsAt w j fun l => onSome (ixN l.length n) fun q => D.nx e (w.putO j (.lst (l.set q d)))
/-- x.append(v) -/
def pAppO (o v : PE) : PS := fun D e w => o e w fun x e w => obOf x fun j => lsAt w j fun _ => v e w fun d e w => lsAt w j fun l => l.length < sizeLine ∧ D.nx e (w.putO j (.lst (l ++ [d])))
section
variable {i j n m : Int} {a b : Bool} {s t : Str} {l l' : List Dat} {k : Dat → Prop} {kl : List Dat → Prop} {w : Wld} {o : Obj} {x y : Nat} {d : Dat} {mm : Mach}
theorem vw_int : vw w (.int n) k = k (.int n) := rfl
theorem vw_bl : vw w (.bl a) k = k (.bl a) := rfl
theorem vw_str : vw w (.str s) k = k (.str s) := rfl
theorem vw_tup : vw w (.tup l) k = k (.tup l) := rfl
theorem vw_lst : vw w (.lst l) k = k (.lst l) := rfl
theorem vw_cst : vw w (.cst l) k = k (.cst l) := rfl
theorem vw_big {bb : Nat} : vw w (.big bb n) k = k (.big bb n) := rfl
theorem vw_non : vw w .non k = k .non := rfl
theorem vw_dic {dl : List (Str × Int)} : vw w (.dic dl) k = k (.dic dl) := rfl
theorem vw_ob : vw w (.ob x) k = lsAt w x fun l => k (.lst l) := rfl
theorem vws_nil : vws w [] kl = kl [] := rfl
theorem vws_cons {ds : List Dat} : vws w (d :: ds) kl = vw w d fun x => vws w ds fun xs => kl (x :: xs) := rfl
theorem obOf_ob {kn : Nat → Prop} : obOf (.ob x) kn = kn x := rfl
theorem lsAt_put : lsAt (w.put y mm) x kl = lsAt w x kl := rfl
theorem onM_putO {km : Mach → Prop} : onM (w.putO y o) x km = onM w x km := rfl
theorem onM_addO {km : Mach → Prop} : onM (w.addO o) x km = onM w x km := rfl
theorem addO_at : (w.addO o).os[w.os.length]? = some o := by
  show (w.os ++ [o])[w.os.length]? = _
  exact List.getElem?_concat_length
end
end Pu
namespace Eng
open PySem L2
/-- j is not 0, and the division does not go by the library's own way for great numbers -/
def oDivF (i j : Int) : Prop := j ≠ 0 ∧ Builtin.divisionGoesByPylong i j = false
end Eng
namespace Pu
open PySem L2 Eng
def qModF : Q2 := qI (fun _ j => j ≠ 0) fun i j => .int (i.fmod j)
def qDivF : Q2 := qI oDivF fun i j => .int (i.fdiv j)
def qDivmodF : QL
  | [.int i, .int j], k => oDivF i j ∧ k (.tup [.int (i.fdiv j), .int (i.fmod j)])
  | _, _ => False
def rngC (lo c : Int) : Nat → List Dat
  | 0 => []
  | n + 1 => .int lo :: rngC (lo + c) c n
def pIR3 (a b c : PE) : PA := fun e w k => a e w fun x e w => b e w fun y e w => c e w fun z e w => intOf x fun i => intOf y fun j => intOf z fun q => ∃ n, RgC i j q n ∧ k (rngC i q n) e w
/-- x[i] = .., as a part of a target -/
def pgSetI (i : Nat) (ix : PE) : PG := fun d e w k => ownAt e i fun _ _ => ix e w fun x e w => intOf x fun n => ownAt e i fun f l => onSome (ixN l.length n) fun j => k (e.set i (.own f (l.set j d))) w
def pgSetO (o ix : PE) : PG := fun d e w k => o e w fun x e w => ix e w fun y e w => obOf x fun j => intOf y fun n => lsAt w j fun l => onSome (ixN l.length n) fun q => k e (w.putO j (.lst (l.set q d)))
def two {α : Type} : List α → (α → α → Prop) → Prop
  | [x, y], k => k x y
  | _, _ => False
def pgTup2 (g h : PG) : PG := fun d e w k => tupOf d fun ds => two ds fun x y => g x e w fun e w => h y e w k
def lone {α : Type} : List α → (α → Prop) → Prop
  | [x], k => k x
  | _, _ => False
/-- x, y = f(..), told; x is then an object -/
def pTellO (P : PSp) (a : PA) (x y : Nat) : PS := fun D e w => a e w fun ds e w => P ds w fun d w => tldOf d fun l r => lone r fun d2 => D.nx ((e.set x (.val (.ob w.os.length))).set y (.val d2)) (w.addO (.lst l))
section
variable {i j n m : Int} {k : Dat → Prop} {kl : List Dat → Prop} {e : Env} {w : Wld} {D : PEnds} {ke : Env → Wld → Prop}
theorem eModF : qModF (.int i) (.int j) k = (j ≠ 0 ∧ k (.int (i.fmod j))) := rfl
theorem eDivF : qDivF (.int i) (.int j) k = (oDivF i j ∧ k (.int (i.fdiv j))) := rfl
theorem eDivmodF : qDivmodF [.int i, .int j] k = (oDivF i j ∧ k (.tup [.int (i.fdiv j), .int (i.fmod j)])) := rfl
theorem eLone {α : Type} {x : α} {k : α → Prop} : lone [x] k = k x := rfl
theorem eTwo {α : Type} {x y : α} {k : α → α → Prop} : two [x, y] k = k x y := rfl
end
end Pu
namespace Pu
open PySem L2 Eng
mutual
/-- data that holds only the first n objects -/
def lowOb (n : Nat) : Dat → Prop
  | .tup l => lowObs n l
  | .lst l => lowObs n l
  | .cst l => lowObs n l
  | .ob j => j < n
  | .fn _ g => g.os.length ≤ n
  | _ => True
def lowObs (n : Nat) : List Dat → Prop
  | [] => True
  | d :: ds => lowOb n d ∧ lowObs n ds
end
def gCut (g : Gh) (n : Nat) : Gh := ⟨g.G, g.ms, g.ss, g.os.take n, g.ts⟩
def Wld.cut (w : Wld) (os : List Obj) : Wld := ⟨w.ms, w.ss, os⟩
section
variable {K : PySem.W.Frag} {c : Pc} {g : Gh}
mutual
theorem Rep.cutO {n : Nat} : ∀ {d : Dat} {v : V}, lowOb n d → Rep K c g v d → Rep K c (gCut g n) v d
  | .non, _, _, .non => .non
  | .bl _, _, _, .bl _ => .bl _
  | .int _, _, _, .int _ => .int _
  | .str _, _, _, .str _ => .str _
  | .tup _, _, h, .tup s r => .tup s (Reps.cutO (by rw [lowOb] at h; exact h) r)
  | .lst _, _, h, .lst s r => .lst s (Reps.cutO (by rw [lowOb] at h; exact h) r)
  | .cst _, _, h, .cst s r => .cst s (Reps.cutO (by rw [lowOb] at h; exact h) r)
  | .big _ _, _, _, .big h => .big h
  | .mach _, _, _, .mach h => .mach h
  | .src _, _, _, .src h => .src h
  | .opq _, _, _, .opq _ => .opq _
  | .dic _, _, _, .dic h => .dic h
  | .ob _, _, h, .ob e => .ob (by rw [lowOb] at h; show (g.os.take n)[_]? = _; rw [List.getElem?_take_of_lt h]; exact e)
  | .fn _ g0, _, h, .fn e => .fn ⟨e.G, e.ms, e.ss, fun i q z => by rw [lowOb] at h; show (g.os.take n)[i]? = _; rw [List.getElem?_take_of_lt (Nat.lt_of_lt_of_le (List.getElem?_eq_some_iff.mp z).1 h)]; exact e.os i q z, e.ts⟩
  | .fnc _, _, _, .fnc _ => .fnc _
theorem Reps.cutO {n : Nat} : ∀ {ds : List Dat} {vs : List V}, lowObs n ds → Reps K c g vs ds → Reps K c (gCut g n) vs ds
  | [], _, _, .nil => .nil
  | _ :: _, _, h, .cons r t => .cons (Rep.cutO (by rw [lowObs] at h; exact h.1) r) (Reps.cutO (by rw [lowObs] at h; exact h.2) t)
end
def lowObj (n : Nat) : Obj → Prop
  | .lst l => lowObs n l
  | .dic _ => True
theorem ORep.cutO {H : Hp} {a : Addr} {o : Obj} {n : Nat} (hl : lowObj n o) (h : ORep K c g H a o) : ORep K c (gCut g n) H a o := by
  cases o with
  | lst l => obtain ⟨vs, e, r⟩ := h; exact ⟨vs, e, r.cutO hl⟩
  | dic l => exact h
theorem lowObs_mem {n : Nat} : ∀ {ds : List Dat}, (∀ d ∈ ds, lowOb n d) → lowObs n ds
  | [], _ => by rw [lowObs]; trivial
  | d :: ds, h => by rw [lowObs]; exact ⟨h d List.mem_cons_self, lowObs_mem fun x hx => h x (List.mem_cons_of_mem _ hx)⟩
theorem low_int {n : Nat} {i : Int} : lowOb n (.int i) = True := by rw [lowOb]; all_goals (intros; trivial)
theorem low_bl {n : Nat} {i : Bool} : lowOb n (.bl i) = True := by rw [lowOb]; all_goals (intros; trivial)
theorem low_str {n : Nat} {i : Str} : lowOb n (.str i) = True := by rw [lowOb]; all_goals (intros; trivial)
theorem low_non {n : Nat} : lowOb n .non = True := by rw [lowOb]; all_goals (intros; trivial)
theorem low_big {n b : Nat} {i : Int} : lowOb n (.big b i) = True := by rw [lowOb]; all_goals (intros; trivial)
theorem low_mach {n i : Nat} : lowOb n (.mach i) = True := by rw [lowOb]; all_goals (intros; trivial)
theorem low_src {n i : Nat} : lowOb n (.src i) = True := by rw [lowOb]; all_goals (intros; trivial)
theorem low_dic {n : Nat} {l : List (Str × Int)} : lowOb n (.dic l) = True := by rw [lowOb]; all_goals (intros; trivial)
theorem low_tup {n : Nat} {l : List Dat} : lowOb n (.tup l) = lowObs n l := by rw [lowOb]
theorem low_lst {n : Nat} {l : List Dat} : lowOb n (.lst l) = lowObs n l := by rw [lowOb]
theorem low_nil {n : Nat} : lowObs n [] = True := by rw [lowObs]
theorem low_cons {n : Nat} {d : Dat} {ds : List Dat} : lowObs n (d :: ds) = (lowOb n d ∧ lowObs n ds) := by rw [lowObs]
/-- at the end of a def: its own objects are forgotten, those that were there are as they were -/
def penD (os : List Obj) (k : Dat → Wld → Prop) : PEnds := ⟨fun _ w => w.os.take os.length = os ∧ k .non (w.cut os), fun d _ w => lowOb os.length d ∧ w.os.take os.length = os ∧ k d (w.cut os), fun _ _ => False, fun _ _ => False⟩
variable {P : PSp} {vs : List V} {H : Hp} {Q : VK} {E : XK} {n : Nat} {t : TS} {p : PS}
theorem gCut_mu (g : Gh) (n : Nat) : List.Sublist (gCut g n).mu g.mu := by
  unfold Gh.mu Gh.ot
  refine List.Sublist.append (List.Sublist.refl _) (List.Sublist.append (List.Sublist.refl _) (List.Sublist.append (List.Sublist.refl _) (List.Sublist.append (List.take_sublist _ _) (List.Sublist.refl _))))
theorem Wr.cut {w : Wld} {os : List Obj} (W : Wr K c g H w) (e : w.os.take os.length = os) (low : ∀ o ∈ os, lowObj os.length o) (hle : os.length ≤ g.os.length) : Wr K c (gCut g os.length) H (w.cut os) := by
  have hs := gCut_mu g os.length
  refine ⟨W.sub, W.nd.sublist hs, fun a ha => W.off a (hs.subset ha), W.mlen, fun i q m h1 h2 => ?_, W.srcs, W.nss, ?_, fun i a o h1 h2 => ?_, W.tabs, W.hts⟩
  · have M := W.mach i q m h1 h2
    obtain ⟨us, u1, u2⟩ := M.wlk
    refine ⟨M.ins, M.cnt, M.ten, ⟨us, u1, u2.cutO (lowObs_mem fun d hd => ?_)⟩, M.few⟩
    obtain ⟨x, _, rfl⟩ := List.mem_map.mp hd
    unfold dW
    simp only [low_tup, low_cons, low_str, low_int, low_nil, and_self]
  · show (g.os.take os.length).length = os.length
    rw [List.length_take]; omega
  · have h1 : (g.os.take os.length)[i]? = some a := h1
    have h2 : os[i]? = some o := h2
    have hi : i < os.length := (List.getElem?_eq_some_iff.mp h2).1
    rw [List.getElem?_take_of_lt hi] at h1
    have h2' : w.os[i]? = some o := by
      rw [← e, List.getElem?_take_of_lt hi] at h2; exact h2
    exact (W.objs i a o h1 h2').cutO (low o (List.mem_of_getElem? h2))
/-- n.bit_length() -/
def pBits (a : PE) : PE := fun e w k => a e w fun x e w => intOf x fun n => k (.int (Builtin.Int.intBits n : Nat)) e w
theorem snd_bits {ta : TE} {pa : PE} (ha : SndE K c ta pa) : SndE K c (tBits ta) (pBits pa) := by
  intro X F σ s k Q I h hQ
  refine ha X F σ s _ _ I h fun x dx s1 l1 I1 r1 h1 => ?_
  replace h1 := intOf_of h1
  obtain ⟨n, rfl, h1⟩ := h1
  exact ⟨n, r1.intI, hQ _ _ s1 l1 I1 (.int _) h1⟩
theorem take_self {os : List Obj} : os.take os.length = os := List.take_of_length_le (Nat.le_refl _)
end
end Pu
namespace Pu
open PySem L2 Eng
section
variable {K : PySem.W.Frag} {c : Pc}
def P_d_source : PSp := P_law_source_of
def P_d_draw : PSp := P_law_next
def P_d_pick : PSp := P_law_one
variable {x : Nat} {n : Int} {l : List Dat} {w : Wld} {kw : Dat → Wld → Prop}
theorem e_d_source : P_d_source [.int n] w kw = kw (.src w.ss) ⟨w.ms, w.ss + 1, w.os⟩ := rfl
theorem e_d_draw : P_d_draw [.src x, .int n] w kw = (x < w.ss ∧ (0 < n ∧ NxtB n) ∧ ∀ r, 0 ≤ r → r < n → kw (.int r) w) := rfl
theorem e_d_pick : P_d_pick [.src x, .lst l] w kw = (x < w.ss ∧ (l ≠ [] ∧ l.length ≤ 1000) ∧ ∀ d ∈ l, kw d w) := rfl
end
end Pu
namespace Eng
open PySem L2
def rCatQ (K : PySem.W.Frag) : R2 := fun x y H Q => ∃ l b xs zs, x = .ref l ∧ y = .ref b ∧ SqL K H l xs ∧ H b = some (.lst zs) ∧ xs.length + zs.length ≤ sizeLine ∧ ∀ p, H p = none → Q (.ref p) (upd H p (.lst (xs ++ zs)))
open PyProof.Rows in
theorem o_catQ {X : Cx} : OpR X (binaryOp .Add) (rCatQ X.K) := by
  intro pins s σ H x y v u Q I rx ry h
  obtain ⟨l, b, xs, zs, rfl, rfl, hH, hB, hz, q⟩ := h
  cases rx
  cases ry
  obtain ⟨its, rv, ⟨⟨cl, dc, dt, sl⟩, n, ho, hc, hdn, hd⟩, hsz⟩ := I.list hH
  obtain ⟨z2, its2, n2, r2, hl2, e2⟩ := I.lstM hB
  cases hc
  cases hdn
  cases hd
  have hlen := rv.length
  have meets := list_addW l b its.toArray its2.toArray n n2 none none sl #[] (by simp only [List.size_toArray]; omega)
  refine concat_meets ⟨_, ho, rfl⟩ ⟨_, e2, rfl⟩ noFill_list_add seq_list_add PySem.F.slot_list_add PySem.F.entry_list_add (PySem.F.args_list_add_2 (.ref l) (.ref b)) meets
    ⟨ho, e2, ?_⟩
  have ea : its.toArray ++ its2.toArray = (its ++ its2).toArray := by simp
  rw [ea]
  exact ⟨.ref _, _, I.lnew (t' := s.toks) (rv.append r2) (by rw [List.length_append]; omega), rfl, q _ I.fresh⟩
end Eng
namespace Pu
open PySem L2 Eng
def qCatQ : Dat → Dat → (List Dat → Prop) → Prop
  | .cst l, .lst m, k => l.length + m.length ≤ sizeLine ∧ k (l ++ m)
  | _, _, _ => False
theorem s_catQ {K : PySem.W.Frag} {c : Pc} : SndR2F K c (rCatQ K) qCatQ := by
  intro X F σ s x y dx dy k Q I rx ry h hQ
  cases dx with
  | cst l =>
    cases dy with
    | lst m =>
      obtain ⟨a, vs, rfl, hH, hR⟩ := rx.cst I
      obtain ⟨b, ws, rfl, hH', hR'⟩ := ry.lst I
      refine ⟨a, b, vs, ws, rfl, rfl, hH, hH', by rw [hR.length, hR'.length]; exact h.1, fun p hp => ?_⟩
      exact hQ p _ _ ⟨s.g, upd s.H p (.lst (vs ++ ws)), s.e, s.w, s.os⟩ (Gh.le.refl _) (I.fresh hp) (I.newF hp) rfl rfl (hR.app hR') h.2
    | _ => exact h.elim
  | _ => exact h.elim
theorem eCatQ {l m : List Dat} {k : List Dat → Prop} : qCatQ (.cst l) (.lst m) k = (l.length + m.length ≤ sizeLine ∧ k (l ++ m)) := rfl
end Pu
namespace Pu
open PySem L2 Eng
/-- what a call of a lambda does -/
abbrev Ask := Wld → (Dat → Wld → Prop) → Prop
def noS : Slot → Slot
  | .val d => .val d
  | _ => .no
/-- the names that a lambda may read -/
def noO (e : Env) : Env := e.map noS
/-- P(a, lambda: b) -/
def pLam2 (P : Ask → PSp) (a b : PE) : PE := fun e w k => a e w fun d e w => P (fun w k => b (noO e) w fun d _ w => k d w) [d] w fun d w => k d e w
section
variable {K : PySem.W.Frag} {c : Pc} {g : Gh} {H : Hp} {w : Wld}
theorem Wr.tsNd (W : Wr K c g H w) : (g.ts.map (·.1)).Nodup := (List.nodup_append.mp (List.nodup_append.mp (List.nodup_append.mp (List.nodup_append.mp W.nd).2.1).2.1).2.1).2.1
theorem Wr.lam (W : Wr K c g H w) {P : Addr} {q : Str} (hp : (P, q) ∈ c.ts) : ∃ ps, H P = some (.tbl ps) ∧ TriplesOk ps.toList ∧ (∀ (pos : Pos) (cv : Value), codeAmong pos ps.toList = some cv → ∃ c', cv = .ref c' ∧ H c' = some (LamX.CodeO c' q)) ∧
    ∀ c' H1, LamStep H P ps q c' H1 → ∃ g', Aft g H g' H1 ∧ Wr K c g' H1 w ∧ g'.G c' = some (LamX.CodeO c' q) := by
  rw [← W.hts] at hp
  obtain ⟨ps, h1, h2, h3⟩ := W.tabs _ hp
  refine ⟨ps, h1, h2, fun pos cv h => ?_, fun c' H1 st => ?_⟩
  · obtain ⟨c1, e1, e2⟩ := h3 pos cv h
    exact ⟨c1, e1, W.sub _ _ e2⟩
  rcases st with ⟨rfl, pos, hit⟩ | ⟨new, more, rfl, tok, hm⟩
  · obtain ⟨c1, e1, e2⟩ := h3 pos _ hit
    cases e1
    exact ⟨g, Aft.refl _ _, W, e2⟩
  · have hPm : P ∈ g.mu := mem_mu5 hp
    have nPc : P ≠ c' := fun z => by rw [← z, h1] at new; cases new
    have gc : g.G c' = none := W.noG new
    have le := gUpd_le (o := LamX.CodeO c' q) gc
    have ncm : ∀ a ∈ g.mu, a ≠ c' := fun a ha z => by
      obtain ⟨o, e⟩ := W.muAt ha
      rw [z, new] at e; cases e
    have hG : ∀ a ∈ g.mu, a ≠ P → upd (upd H P (.tbl (ps ++ more))) c' (LamX.CodeO c' q) a = H a := fun a ha ne => by
      rw [upd_ne (ncm a ha), upd_ne ne]
    have ndW := W.nd
    have hPot : P ∈ g.ot := mem_ot2 hp
    have nms1 : ∀ (i : Nat) r, g.ms[i]? = some r → r.2.1 ≠ P := fun i r h => W.dot h hPot
    have nms2 : ∀ (i : Nat) r, g.ms[i]? = some r → r.2.2 ≠ P := fun i r h => W.eot h hPot
    have nss : ∀ a ∈ g.ss, a ≠ P := fun a h => W.sot h hPot
    have nos : ∀ a ∈ g.os, a ≠ P := fun a h z => (List.nodup_append.mp (List.nodup_append.mp (List.nodup_append.mp (List.nodup_append.mp W.nd).2.1).2.1).2.1).2.2 a h P (List.mem_map.mpr ⟨_, hp, rfl⟩) z
    refine ⟨gUpd g c' (LamX.CodeO c' q), ⟨le, fun a o e n => ?_, fun a o e => ?_, fun a ha => .inl ha, fun a o e => ?_⟩, ⟨fun a o e => ?_, W.nd, fun a ha => ?_, W.mlen, fun i r m e1 e2 => ?_, fun a ha => ?_, W.nss, W.olen, fun i a o e1 e2 => ?_, fun p hp' => ?_, W.hts⟩, upd_same⟩
    · have n1 : a ≠ c' := ne_of_none e new
      have n2 : a ≠ P := fun z => n (z ▸ hPm)
      rw [upd_ne n1, upd_ne n2]; exact e
    · show upd g.G c' _ a = _
      rw [upd_ne (ne_of_none e new)]
    · by_cases z : a = P
      · subst z
        exact ⟨_, by rw [upd_ne nPc]; exact upd_same⟩
      · exact ⟨o, by rw [upd_ne (ne_of_none e new), upd_ne z]; exact e⟩
    · have e : upd g.G c' (LamX.CodeO c' q) a = some o := e
      by_cases z : a = c'
      · subst z; rw [upd_same] at e ⊢; exact e
      · rw [upd_ne z] at e
        have n2 : a ≠ P := fun z => by rw [z, W.off P hPm] at e; cases e
        rw [upd_ne z, upd_ne n2]; exact W.sub _ _ e
    · show upd g.G c' _ a = none
      rw [upd_ne (ncm a ha)]; exact W.off a ha
    · exact (W.mach i r m e1 e2).mono le (hG _ (mem_mu1 e1) (nms1 i r e1)) (hG _ (mem_mu2 e1) (nms2 i r e1))
    · obtain ⟨o, h1, h2⟩ := W.srcs a ha
      exact ⟨o, by rw [hG a (mem_mu3 ha) (nss a ha)]; exact h1, h2⟩
    · have ha := List.mem_of_getElem? e1
      exact (W.objs i a o e1 e2).mono le (hG a (mem_mu4 ha) (nos a ha))
    · have hp' : p ∈ g.ts := hp'
      by_cases z : p.1 = P
      · obtain ⟨i, hi⟩ := List.mem_iff_getElem?.mp hp'
        obtain ⟨j, hj⟩ := List.mem_iff_getElem?.mp hp
        have ij := nd_map W.tsNd hi hj z
        subst ij
        rw [hi] at hj; cases hj
        refine ⟨ps ++ more, by show upd _ _ _ _ = _; rw [upd_ne nPc]; exact upd_same, tok, fun pos cv hc => ?_⟩
        rcases hm pos cv hc with hc | rfl
        · obtain ⟨c1, e1, e2⟩ := h3 pos cv hc
          exact ⟨c1, e1, le.G _ _ e2⟩
        · exact ⟨c', rfl, upd_same⟩
      · obtain ⟨ps', e1, e2, e3⟩ := W.tabs p hp'
        refine ⟨ps', by rw [hG p.1 (mem_mu5 hp') z]; exact e1, e2, fun pos cv hc => ?_⟩
        obtain ⟨c1, f1, f2⟩ := e3 pos cv hc
        exact ⟨c1, f1, le.G _ _ f2⟩
theorem noO_get {e : Env} {i : Nat} {z : Slot} (h : (noO e)[i]? = some z) : z = .no ∨ ∃ d, z = .val d ∧ e[i]? = some (.val d) := by
  unfold noO at h
  rw [List.getElem?_map] at h
  cases e1 : e[i]? with
  | none => rw [e1] at h; cases h
  | some y =>
    rw [e1] at h
    cases y with
    | val d => cases h; exact .inr ⟨d, rfl, rfl⟩
    | no => cases h; exact .inl rfl
    | own f l => cases h; exact .inl rfl
    | ownT l r => cases h; exact .inl rfl
end
end Pu
namespace Pu
open PySem L2 Eng
end Pu
namespace Eng
open PySem PySem.Spec PyProof.Rows L2
end Eng
namespace Pu
open PySem L2 Eng
def putS (l : List (Str × Int)) (s : Str) (n : Int) : List (Str × Int) := if (l.any fun p => decide (p.1 = s)) = true then l.map (fun p => if p.1 = s then (p.1, n) else p) else l ++ [(s, n)]
def strOf : Dat → (Str → Prop) → Prop
  | .str s, k => k s
  | _, _ => False
/-- a new dict that may be changed -/
def pDispO (l : List (Str × PE)) : PE := fun e w k => ((l.map (·.1)).Nodup ∧ l.length ≤ 15) ∧ dVals l e w fun m e w => k (.ob w.os.length) e (w.addO (.dic m))
def pDNewO : PE := fun e w k => k (.ob w.os.length) e (w.addO (.dic []))
/-- d[s] = n -/
def pgPutO (o ix : PE) : PG := fun d e w k => o e w fun x e w => ix e w fun y e w => obOf x fun j => strOf y fun s => intOf d fun n => dcAt w j fun l => l.length < sizeLine ∧ k e (w.putO j (.dic (putS l s n)))
def qNeDA : Q2
  | .dic l, .dic l', k => EqDs l l' ∧ k (.bl false)
  | _, _, _ => False
/-- a value as it leaves a def that has made the objects from n on -/
def thw1 (n : Nat) (w : Wld) : Dat → (Dat → Prop) → Prop
  | .ob j, k => if j < n then k (.ob j) else match w.os[j]? with | some (.dic l) => k (.dic l) | some (.lst l) => lowObs n l ∧ k (.lst l) | none => False
  | d, k => lowOb n d ∧ k d
def thws (n : Nat) (w : Wld) : List Dat → (List Dat → Prop) → Prop
  | [], k => k []
  | d :: ds, k => thw1 n w d fun x => thws n w ds fun xs => k (x :: xs)
def thw (n : Nat) (w : Wld) : Dat → (Dat → Prop) → Prop
  | .tup l, k => thws n w l fun l => k (.tup l)
  | d, k => thw1 n w d k
def penT (os : List Obj) (k : Dat → Wld → Prop) : PEnds := ⟨fun _ w => w.os.take os.length = os ∧ k .non (w.cut os), fun d _ w => w.os.take os.length = os ∧ thw os.length w d fun d => k d (w.cut os), fun _ _ => False, fun _ _ => False⟩
section
variable {K : PySem.W.Frag} {c : Pc} {X : En} {F : List (Addr × HO)} {σ : L2.St} {s s1 : Cf} {g g1 : Gh} {H : Hp} {w : Wld} {a p : Addr} {vs ws : List V} {i j n : Nat} {ta tb tc : TE} {pa pb pc' : PE} {t : TS} {pp : PS} {sp : Sp} {P : PSp} {E : XK} {Q : VK} {l : List Dat}
def alk1 : Dat → Dat → Prop
  | .big b n, .big b' n' => b ≠ 0 ∧ b = b' ∧ n = n'
  | .dic l, .dic l' => EqDs l l'
  | d, d' => d = d' ∧ pl d
def alks : List Dat → List Dat → Prop
  | [], [] => True
  | d :: ds, d' :: ds' => alk1 d d' ∧ alks ds ds'
  | _, _ => False
def qEqMX : Q2
  | .tup l, .tup l', k => alks l l' ∧ k (.bl true)
  | _, _, _ => False
def qNeMX : Q2
  | .tup l, .tup l', k => alks l l' ∧ k (.bl false)
  | _, _, _ => False
end
section
variable {n m : Int} {b : Bool} {s : Str} {l l' : List Dat} {k : Dat → Prop} {kl : List Dat → Prop} {w : Wld} {o : Obj} {x y : Nat} {d d' : Dat} {dl dl' : List (Str × Int)} {kd : List (Str × Int) → Prop}
theorem eStrO {ks : Str → Prop} : strOf (.str s) ks = ks s := rfl
theorem eNeDA : qNeDA (.dic dl) (.dic dl') k = (EqDs dl dl' ∧ k (.bl false)) := rfl
theorem eEqMX : qEqMX (.tup l) (.tup l') k = (alks l l' ∧ k (.bl true)) := rfl
theorem eNeMX : qNeMX (.tup l) (.tup l') k = (alks l l' ∧ k (.bl false)) := rfl
theorem dcAt_is (h : w.os[x]? = some (.dic dl)) : dcAt w x kd = kd dl := by unfold dcAt; rw [h]
theorem dcAt_add : dcAt (w.addO (.dic dl)) w.os.length kd = kd dl := dcAt_is addO_at
theorem thw_tup : thw x w (.tup l) k = thws x w l fun l => k (.tup l) := rfl
theorem thws_nil : thws x w [] kl = kl [] := rfl
theorem thws_cons : thws x w (d :: l) kl = thw1 x w d fun y => thws x w l fun ys => kl (y :: ys) := rfl
theorem thw1_dic (h : w.os[y]? = some (.dic dl)) (hx : x ≤ y) : thw1 x w (.ob y) k = k (.dic dl) := by
  unfold thw1
  simp only [h, Nat.not_lt.mpr hx, if_false]
theorem thw1_new : thw1 w.os.length (w.addO (.dic dl)) (.ob w.os.length) k = k (.dic dl) := thw1_dic addO_at (Nat.le_refl _)
theorem thw1_L : thw1 x w (.lst l) k = (lowObs x l ∧ k (.lst l)) := by
  show (lowOb x (.lst l) ∧ _) = _
  rw [low_lst]
theorem thw1_D : thw1 x w (.dic dl) k = k (.dic dl) := by
  show (lowOb x (.dic dl) ∧ _) = _
  rw [low_dic, true_and]
end
end Pu
namespace Pu
open PySem L2 Eng
def alkW (w : Wld) : Dat → Dat → Prop
  | .dic l, .ob j => dcAt w j fun l' => EqDs l l'
  | .lst l, .ob j => lsAt w j fun l' => l = l' ∧ pl (.lst l)
  | d, d' => alk1 d d'
def alksW (w : Wld) : List Dat → List Dat → Prop
  | [], [] => True
  | d :: ds, d' :: ds' => alkW w d d' ∧ alksW w ds ds'
  | _, _ => False
def pEqMW (r : Bool) (a b : PE) : PE := fun e w k => a e w fun x e w => b e w fun y e w => tupOf x fun l => tupOf y fun l' => alksW w l l' ∧ k (.bl r) e w
theorem noO_nil : noO [] = [] := rfl
theorem noO_cons {z : Slot} {e : Pu.Env} : noO (z :: e) = noS z :: noO e := rfl
theorem noS_val {d : Dat} : noS (.val d) = .val d := rfl
theorem noS_no : noS .no = .no := rfl
theorem noS_own {f : Bool} {l : List Dat} : noS (.own f l) = .no := rfl
end Pu
namespace Eng
open PySem L2
end Eng
namespace Pu
open PySem L2 Eng
def pDictCO (a : PE) : PE := fun e w k => a e w fun d e w => dicOf d fun l => k (.ob w.os.length) e (w.addO (.dic l))
def lsOf1 : Dat → (List Dat → Prop) → Prop
  | .lst l, k => k l
  | _, _ => False
def pExtO (o v : PE) : PS := fun D e w => o e w fun x e w => obOf x fun j => lsAt w j fun _ => v e w fun d e w => lsOf1 d fun m => lsAt w j fun l => l.length + m.length ≤ sizeLine ∧ D.nx e (w.putO j (.lst (l ++ m)))
section
variable {K : PySem.W.Frag} {c : Pc} {X : En} {F : List (Addr × HO)} {σ : L2.St} {s : Cf} {ta tb tc : TE} {pa pb pc' : PE} {i1 i2 x : Nat}
theorem eLsOf1 {l : List Dat} {k : List Dat → Prop} : lsOf1 (.lst l) k = k l := rfl
end
end Pu
namespace Pu
open PySem L2 Eng
end Pu
namespace Eng
open PySem PySem.Spec PyProof.Rows L2
end Eng
namespace Pu
open PySem L2 Eng
def qMaxL : QL
  | [.lst l], k => ∃ (ns : List Int) (m : Int), l = ns.map Dat.int ∧ m ∈ ns ∧ (∀ y ∈ ns, y ≤ m) ∧ k (.int m)
  | _, _ => False
theorem s_maxL {K : PySem.W.Frag} {c : Pc} : SndRL K c (rMax K) qMaxL := by
  intro X F σ s vs ds k Q I r h hQ
  unfold qMaxL at h
  split at h
  · replace r := one_of r
    obtain ⟨v, rfl, r⟩ := r
    obtain ⟨ns, m, rfl, hm, hle, h⟩ := h
    obtain ⟨a, ws, rfl, hH, hR⟩ := r.lst I
    rw [ints_rep hR] at hH
    refine ⟨a, ns, rfl, SqL.of hH, List.length_pos_of_mem hm, fun m' hm' hle' => ?_⟩
    have e : m' = m := by
      have h1 := hle m' hm'
      have h2 := hle' m hm
      omega
    subst e
    exact hQ _ _ s (Gh.le.refl _) I rfl rfl (.int _) h
  · exact h.elim
theorem eMaxL {l : List Dat} {k : Dat → Prop} : qMaxL [.lst l] k = ∃ (ns : List Int) (m : Int), l = ns.map Dat.int ∧ m ∈ ns ∧ (∀ y ∈ ns, y ≤ m) ∧ k (.int m) := rfl
end Pu
namespace Eng
open PySem PySem.Spec PyProof.Rows L2 GQ
end Eng
namespace Pu
open PySem L2 Eng
end Pu
namespace Pu
open PySem L2 Eng
/-- an error: its class by its place in c.xs, its field if it has one -/
structure XD where
  j : Nat
  f : Option (Str × Dat)
abbrev PX := XD → Wld → Prop
abbrev PSpX := List Dat → Wld → (Dat → Wld → Prop) → PX → Prop
/-- the error x comes out over H -/
def XOut (K : PySem.W.Frag) (c : Pc) (g : Gh) (H : Hp) (E : XK) (x : XD) : Prop := match x.f with
  | none => E (.ref (c.xs.getD x.j 0)) none H
  | some (n, d) => ∀ v p, Rep K c g v d → H p = none → E (.ref (c.xs.getD x.j 0)) (some p) (upd H p (.xd [(n, v)]))
def SndPX (K : PySem.W.Frag) (c : Pc) (sp : Sp) (P : PSpX) : Prop := ∀ (g : Gh) (H : Hp) (w : Wld) (vs : List V) (ds : List Dat) (k : Dat → Wld → Prop) (kx : PX) (Q : VK) (E : XK), Wr K c g H w → Reps K c g vs ds → P ds w k kx →
  (∀ v d g' H' w', Aft g H g' H' → Wr K c g' H' w' → Rep K c g' v d → k d w' → Q v H') → (∀ x g' H' w', Aft g H g' H' → Wr K c g' H' w' → kx x w' → XOut K c g' H' E x) → sp vs H Q E
def lifX (K : PySem.W.Frag) (c : Pc) (P : PSpX) : Sp := fun vs H Q E => ∃ (g : Gh) (w : Wld) (ds : List Dat) (k : Dat → Wld → Prop) (kx : PX), Wr K c g H w ∧ Reps K c g vs ds ∧ P ds w k kx ∧
  (∀ v d g' H' w', Aft g H g' H' → Wr K c g' H' w' → Rep K c g' v d → k d w' → Q v H') ∧ ∀ x g' H' w', Aft g H g' H' → Wr K c g' H' w' → kx x w' → XOut K c g' H' E x
theorem SndPX.lif {K : PySem.W.Frag} {c : Pc} {P : PSpX} : SndPX K c (lifX K c P) P := fun g _ w _ ds k kx _ _ h1 h2 h3 h4 h5 => ⟨g, w, ds, k, kx, h1, h2, h3, h4, h5⟩
theorem lifX_len {K : PySem.W.Frag} {c : Pc} {P : PSpX} {n : Nat} (hn : ∀ ds w k kx, P ds w k kx → ds.length = n) {vs : List V} {H : Hp} {Q : VK} {E : XK} (h : lifX K c P vs H Q E) : vs.length = n := by
  obtain ⟨g, w, ds, k, kx, W, r, hp, _⟩ := h
  rw [r.length]; exact hn _ _ _ _ hp
section
variable (K : PySem.W.Frag) (c : Pc)
def ROk (X : En) (E : XK) (kx : PX) : Prop := ∀ F σ s x, In K c X F σ s → kx x s.w → XOut K c s.g s.H E x
def SndSX (t : XK → TS) (p : PX → PS) : Prop := ∀ (X : En) (F : List (Addr × HO)) (σ : L2.St) (s : Cf) (D : Ends) (Dp : PEnds) (E : XK) (kx : PX), In K c X F σ s → p kx Dp s.e s.w → SEnds K c X F s.g D Dp → ROk K c X E kx → t E D σ s.H
end
section
variable {K : PySem.W.Frag} {c : Pc} {X : En} {F : List (Addr × HO)} {σ : L2.St} {s : Cf} {tr : TA} {pr : PA} {ts : TS} {ps : PS} {tx ux : XK → TS} {px qx : PX → PS} {tT : TT} {pT : PT} {P : PSpX} {sp : Sp} {i j : Nat}
theorem sx_lift (h : SndS K c ts ps) : SndSX K c (fun _ => ts) (fun _ => ps) := fun X F σ s D Dp _ _ I hp hE _ => h X F σ s D Dp I hp hE
theorem sx_seq (ha : SndSX K c tx px) (hb : SndSX K c ux qx) : SndSX K c (fun E => tSeq (tx E) (ux E)) (fun kx => pSeq (px kx) (qx kx)) := by
  intro X F σ s D Dp E kx I h hE hX
  exact ha X F σ s _ _ E kx I h ⟨fun σ' s' l I' h' => hb X F σ' s' D Dp E kx I' h' (hE.mono l) hX, hE.rt, hE.bk, hE.ct⟩ hX
theorem sx_ifS (hc : SndT K c tT pT) (ha : SndSX K c tx px) (hb : SndSX K c ux qx) : SndSX K c (fun E => tIfS tT (tx E) (ux E)) (fun kx => pIfS pT (px kx) (qx kx)) := by
  intro X F σ s D Dp E kx I h hE hX
  refine hc X F σ s _ _ I h fun b s1 l1 I1 h1 => ?_
  by_cases hb' : b = true
  · rw [if_pos hb'] at h1 ⊢
    exact ha X F σ s1 D Dp E kx I1 h1 (hE.mono l1) hX
  · rw [if_neg hb'] at h1 ⊢
    exact hb X F σ s1 D Dp E kx I1 h1 (hE.mono l1) hX
theorem In.aftF {g : Gh} {H : Hp} (I : In K c ⟨H, g, []⟩ F σ s) : Aft g H s.g s.H :=
  ⟨I.le, fun a o e n => I.keep a o e n (by simp), I.frz, fun a ha => by
    rcases I.new a (List.mem_append_left _ ha) with z | z | z
    · exact .inl z
    · exact absurd z (by simp)
    · exact .inr z, I.dom⟩
theorem def_okX {n : Nat} {vs : List V} {H : Hp} {Q : VK} {E : XK} (hs : SndSX K c tx px) (hP : ∀ ds w k kx, P ds w k kx → px kx (pen k) (env0 n ds) w) (h : lifX K c P vs H Q E) : tx E (en0 Q) (st0 n vs) H := by
  obtain ⟨g, w, ds, k, kx, W, r, hp, hq, hx⟩ := h
  refine hs ⟨H, g, []⟩ [] (st0 n vs) ⟨g, H, env0 n ds, w, []⟩ _ _ E kx (In.start W r) (hP ds w k kx hp) ⟨fun σ s l I h => ?_, fun σ s v d l I r h => ?_, fun _ _ _ _ h => h.elim, fun _ _ _ _ h => h.elim⟩ fun F σ s x I h => ?_
  · exact hq .non .non s.g s.H s.w I.aft I.wr .non h
  · exact hq v d s.g s.H s.w I.aft I.wr r h
  · exact hx x s.g s.H s.w I.aftF I.wr h
def gAsg (i : Nat) (d : Dat) : PS := fun D e w => D.nx (e.set i (.val d)) w
def gRet (d : Dat) : PS := fun D e w => D.rt d e w
def gDrop (_ : Dat) : PS := fun D e w => D.nx e w
end
end Pu
namespace Pu
open PySem L2 Eng
section
variable {K : PySem.W.Frag} {c : Pc} {X : En} {F : List (Addr × HO)} {σ : L2.St} {s : Cf} {te : TE} {pe : PE} {ta : TA} {pa : PA} {sp : Sp} {P : PSpX} {i j : Nat} {f : Str}
def pRaiseF (kx : PX) (j : Nat) (f : Str) (a : PE) : PS := fun _ e w => a e w fun d _ w => kx ⟨j, some (f, d)⟩ w
theorem sx_raiseF (he : SndE K c te pe) : SndSX K c (fun E => tRaiseF (c.xs.getD j 0) f te E) (fun kx => pRaiseF kx j f pe) := by
  intro X F σ s D Dp E kx I h hE hX
  refine he X F σ s _ _ I h fun v d s1 l1 I1 r1 h1 => ?_
  exact fun p hp => hX F σ s1 ⟨j, some (f, d)⟩ I1 h1 v p r1 hp
end
section
variable (K : PySem.W.Frag) (c : Pc)
def SndEX (te : XK → TE) (pe : PX → PE) : Prop := ∀ (X : En) (F : List (Addr × HO)) (σ : L2.St) (s : Cf) (k : PQ) (Q : VK) (E : XK) (kx : PX), In K c X F σ s → pe kx s.e s.w k → (∀ v d s', s.g.le s'.g → In K c X F σ s' → Rep K c s'.g v d → k d s'.e s'.w → Q v s'.H) → ROk K c X E kx → te E σ s.H Q
end
def pCallE (P : PSpX) (a : PA) (kx : PX) : PE := fun e w k => a e w fun ds e w => P ds w (fun d w => k d e w) kx
section
variable {K : PySem.W.Frag} {c : Pc} {te tf : XK → TE} {pe pf : PX → PE} {tb : TE} {pb : PE} {ta : TA} {pa : PA} {sp : Sp} {P : PSpX} {r : R2} {q : Q2} {i : Nat} {tg : TG} {pg : PG}
theorem ex_call (hp : SndPX K c sp P) (hr : SndA K c ta pa) : SndEX K c (fun E => tCall sp [] E ta) (fun kx => pCallE P pa kx) := by
  intro X F σ s k Q E kx I h hQ hX
  refine hr X F σ s _ _ I h fun vs ds s1 l1 I1 r1 h1 => ?_
  show sp (vs ++ []) _ _ _
  rw [List.append_nil]
  exact hp s1.g s1.H s1.w vs ds _ kx _ E I1.wr r1 h1 (fun v d g' H' w' A W r2 h2 => hQ v d ⟨g', H', s1.e, w', s1.os⟩ (l1.trans A.le) (I1.call A W) r2 h2) fun x g' H' w' A W h2 => hX F σ ⟨g', H', s1.e, w', s1.os⟩ x (I1.call A W) h2
theorem sx_drop (he : SndEX K c te pe) : SndSX K c (fun E => tDrop (te E)) (fun kx => pDrop (pe kx)) := fun X F σ s D Dp E kx I h hE hX =>
  he X F σ s _ _ E kx I h (fun v d s' l I' r h' => hE.nx σ s' l I' h') hX
end
abbrev AskX := Wld → (Dat → Wld → Prop) → PX → Prop
abbrev AsksP := Addr → Gh → AskX
abbrev PSpA := AsksP → PSp
def Posts (K : PySem.W.Frag) (c : Pc) (g : Gh) (H : Hp) (k : Dat → Wld → Prop) (kx : PX) (Q : VK) (E : XK) : Prop :=
  (∀ v d g' H' w', Aft g H g' H' → Wr K c g' H' w' → Rep K c g' v d → k d w' → Q v H') ∧ ∀ x g' H' w', Aft g H g' H' → Wr K c g' H' w' → kx x w' → XOut K c g' H' E x
def hAsk (K : PySem.W.Frag) (c : Pc) (A : AsksP) : Asks := fun f E H Q => ∃ (g0 g : Gh) (w : Wld) (k : Dat → Wld → Prop) (kx : PX), g0.le g ∧ Wr K c g H w ∧ A f g0 w k kx ∧ Posts K c g H k kx Q E
def Tells (K : PySem.W.Frag) (c : Pc) (A : AsksP) (asks : Asks) : Prop := ∀ f E H Q, hAsk K c A f E H Q → asks f E H Q
def lifA (K : PySem.W.Frag) (c : Pc) (P : PSpA) : Asks → Sp := fun asks vs H Q E => ∃ A, Tells K c A asks ∧ lif K c (P A) vs H Q E
section
variable {K : PySem.W.Frag} {c : Pc}
theorem lifA_len {P : PSpA} {n : Nat} (hn : ∀ A ds w k, P A ds w k → ds.length = n) {asks : Asks} {vs : List V} {H : Hp} {Q : VK} {E : XK} (h : lifA K c P asks vs H Q E) : vs.length = n := by
  obtain ⟨A, _, h⟩ := h
  exact lif_len (hn A) h
theorem def_okA {P : PSpA} {t : Asks → TS} {p : AsksP → PS} {n : Nat} {asks : Asks} {vs : List V} {H : Hp} {Q : VK} {E : XK} (hs : ∀ A, Tells K c A asks → SndS K c (t asks) (p A)) (hP : ∀ A ds w k, P A ds w k → p A (pen k) (env0 n ds) w) (h : lifA K c P asks vs H Q E) : t asks (en0 Q) (st0 n vs) H := by
  obtain ⟨A, hA, h⟩ := h
  exact def_ok (hs A hA) (hP A) h
end
structure PCl where
  j : Nat
  i : Option Nat
  ps : Addr → Gh → XD → PS
def noP (D : PEnds) (i : Nat) : PEnds := ⟨fun e w => D.nx (e.set i .no) w, D.rt, fun e w => D.bk (e.set i .no) w, fun e w => D.ct (e.set i .no) w⟩
def pSu (q : PCl) (x : XD) (D : PEnds) (e : Env) (w : Wld) : Prop := match q.i with
  | none => ∀ a g0, q.ps a g0 x D e w
  | some i => ∀ a g0, q.ps a g0 x (noP D i) (e.set i (.val (.fn a g0))) w
def pCla (x : XD) (D : PEnds) (e : Env) (w : Wld) : List PCl → Prop
  | [] => False
  | q :: r => if x.j = q.j ∨ q.j = 0 then pSu q x D e w else pCla x D e w r
def askAt (e : Env) (i : Nat) (k : Addr → Gh → Prop) : Prop := match e[i]? with
  | some (.val (.fn f g0)) => k f g0
  | _ => False
def pTryA (S : List Nat) (A : AsksP) (i : Nat) (g : Dat → PS) (cl : List PCl) : PS := fun D e w => askAt e i fun f g0 => A f g0 w (fun d w => g d D e w) fun x w => x.j ∈ S ∧ pCla x D e w cl
/-- the field of the error at hand -/
def pXf (x : XD) (a : Addr) (g0 : Gh) (i : Nat) (f : Str) : PE := fun e w k => e[i]? = some (.val (.fn a g0)) ∧ ∃ d, x.f = some (f, d) ∧ k d e w
section
variable {K : PySem.W.Frag} {c : Pc} {X : En} {F : List (Addr × HO)} {σ : L2.St} {s : Cf}
def XKnow (K : PySem.W.Frag) (c : Pc) (g0 : Gh) (x : XD) (cls : Value) (d : Option Addr) : Prop := cls = .ref (c.xs.getD x.j 0) ∧ ∀ n d', x.f = some (n, d') → ∃ dd v, d = some dd ∧ g0.G dd = some (.xd [(n, v)]) ∧ Rep K c g0 v d'
theorem snd_xf {a : Addr} {cls : Value} {d : Option Addr} {g0 : Gh} {x : XD} {i j : Nat} {f : Str} (h : XKnow K c g0 x cls d) (hj : x.j = j ∨ j = 0) (h0 : j ≠ 0) : SndE K c (tXf a cls d (c.xs.getD j 0) f (tVar i)) (pXf x a g0 i f) := by
  intro X F σ s k Q I hp hQ
  obtain ⟨hi, d', hx, hk⟩ := hp
  obtain ⟨hc, hf⟩ := h
  obtain ⟨dd, v, rfl, hG, hr⟩ := hf _ _ hx
  obtain ⟨v0, e1, r1⟩ := I.env i _ hi
  cases r1 with
  | fn le =>
    have ej : x.j = j := hj.resolve_right h0
    exact ⟨_, e1, rfl, by rw [hc, ej], dd, _, v, rfl, I.wr.sub _ _ (le.G _ _ hG), by simp [List.lookup], hQ v d' s (Gh.le.refl _) I (hr.mono le) hk⟩
/-- which classes the clauses take -/
def XM (K : PySem.W.Frag) (c : Pc) (S : List Nat) : Prop := ∀ j jc, j ∈ S → (jc = 0 ∨ jc ∈ S) → PySem.W.exmOne K (.ref (c.xs.getD j 0)) (.ref (c.xs.getD jc 0)) = some (decide (j = jc ∨ jc = 0))
inductive ClaS (K : PySem.W.Frag) (c : Pc) (N : List Nat) : List Cla → List PCl → Prop
  | nil : ClaS K c N [] []
  | cons {j : Nat} {i : Option Nat} {ts : Addr → Value → Option Addr → TS} {ps : Addr → Gh → XD → PS} {l : List Cla} {l' : List PCl} (hj : j = 0 ∨ j ∈ N) (hs : ∀ a cls d g0 x, XKnow K c g0 x cls d → (x.j = j ∨ j = 0) → SndS K c (ts a cls d) (ps a g0 x)) (r : ClaS K c N l l') :
      ClaS K c N (⟨.ref (c.xs.getD j 0), i, ts⟩ :: l) (⟨j, i, ps⟩ :: l')
theorem In.setNone (I : In K c X F σ s) (i : Nat) : In K c X F (σ.set i none) ⟨s.g, s.H, s.e.set i .no, s.w, s.os⟩ := by
  by_cases h : i < s.e.length
  · exact (I.setN i).setS (by show (s.e.set i .no)[i]? = _; rw [List.getElem?_set_self h]) none
  · have h2 : σ.length ≤ i := by rw [← I.len]; omega
    rw [List.set_eq_of_length_le h2]
    exact I.setN i
theorem cla_ok {N : List Nat} {x : XD} {cls : Value} {d : Option Addr} {D : Ends} {Dp : PEnds} (M : XM K c N) (hx : x.j ∈ N) (I : In K c X F σ s) (hk : XKnow K c s.g x cls d) (hE : SEnds K c X F s.g D Dp) {l : List Cla} {l' : List PCl} (hc : ClaS K c N l l') (h : pCla x Dp s.e s.w l') :
    wCla K (fun _ _ _ _ => False) D l cls d σ s.H := by
  induction hc with
  | nil => exact h
  | @cons j i ts ps l l' hj hs r ih =>
    unfold pCla at h
    refine ⟨_, by rw [hk.1]; exact M x.j j hx hj, fun hb a ha => ?_, fun hb => ih (by rw [if_neg (of_decide_eq_false hb)] at h; exact h)⟩
    have hcond := of_decide_eq_true hb
    rw [if_pos hcond] at h
    unfold pSu at h
    cases i with
    | none => exact hs a cls d s.g x hk hcond X F σ s D Dp I (h a s.g) hE
    | some i =>
      refine hs a cls d s.g x hk hcond X F _ ⟨s.g, s.H, s.e.set i (.val (.fn a s.g)), s.w, s.os⟩ _ _ (I.setV (.fn (Gh.le.refl _))) (h a s.g) ⟨fun σ' s' l' I' h' => ?_, hE.rt, fun σ' s' l' I' h' => ?_, fun σ' s' l' I' h' => ?_⟩
      · exact hE.nx _ ⟨s'.g, s'.H, s'.e.set i .no, s'.w, s'.os⟩ l' (I'.setNone i) h'
      · exact hE.bk _ ⟨s'.g, s'.H, s'.e.set i .no, s'.w, s'.os⟩ l' (I'.setNone i) h'
      · exact hE.ct _ ⟨s'.g, s'.H, s'.e.set i .no, s'.w, s'.os⟩ l' (I'.setNone i) h'
theorem askAt_of {e : Env} {i : Nat} {k : Addr → Gh → Prop} (h : askAt e i k) : ∃ f g0, e[i]? = some (.val (.fn f g0)) ∧ k f g0 := by
  unfold askAt at h
  split at h
  · rename_i f g0 e1
    exact ⟨f, g0, e1, h⟩
  · exact h.elim
/-- try: .., with the reading of its body by what the clauses wish -/
def tTryM (K : PySem.W.Frag) (tb : WX → TS) (l : List Cla) : TS := fun D σ H => tb (wCla K (fun _ _ _ _ => False) D l) D σ H
theorem tryM_core {N : List Nat} {i : Nat} {A : AsksP} {asks : Asks} {g : Dat → PS} {l : List Cla} {l' : List PCl} {D : Ends} {Dp : PEnds} {Q : VK} (hA : Tells K c A asks) (M : XM K c N) (hc : ClaS K c N l l') (I : In K c X F σ s) (h : pTryA N A i g l' Dp s.e s.w) (hE : SEnds K c X F s.g D Dp)
    (hk : ∀ v d s', s.g.le s'.g → In K c X F σ s' → Rep K c s'.g v d → g d Dp s'.e s'.w → Q v s'.H) : tAsk asks (wCla K (fun _ _ _ _ => False) D l) i σ s.H Q := by
  obtain ⟨f, g0, hi, h⟩ := askAt_of h
  obtain ⟨v0, e1, r1⟩ := I.env i _ hi
  cases r1 with
  | fn le =>
    refine ⟨_, e1, hA _ _ _ _ ⟨g0, s.g, s.w, _, _, le, I.wr, h, fun v d g' H' w' A W r hk' => hk v d ⟨g', H', s.e, w', s.os⟩ A.le (I.call A W) r hk', fun x g' H' w' A W hx => ?_⟩⟩
    have I1 := I.call A W
    unfold XOut
    cases hf : x.f with
    | none => exact cla_ok (s := ⟨g', H', s.e, w', s.os⟩) M hx.1 I1 ⟨rfl, fun n d' e => by rw [hf] at e; cases e⟩ (hE.mono A.le) hc hx.2
    | some q =>
      obtain ⟨n, d⟩ := q
      intro v p r hp
      have I2 := I1.newG (o := .xd [(n, v)]) hp
      have le2 := gUpd_le (o := .xd [(n, v)]) (I1.offG hp)
      refine cla_ok (s := ⟨gUpd g' p (.xd [(n, v)]), upd H' p (.xd [(n, v)]), s.e, w', s.os⟩) M hx.1 I2 ⟨rfl, fun n' d' e => ?_⟩ (hE.mono (A.le.trans le2)) hc hx.2
      rw [hf] at e
      cases e
      exact ⟨p, v, rfl, upd_same, r.mono le2⟩
section
variable {N : List Nat} {i j : Nat} {A : AsksP} {asks : Asks} {l : List Cla} {l' : List PCl}
theorem snd_tryMD (hA : Tells K c A asks) (M : XM K c N) (hc : ClaS K c N l l') : SndS K c (tTryM K (fun W => tDrop (tAsk asks W i)) l) (pTryA N A i gDrop l') := fun X F σ s D Dp I h hE => tryM_core hA M hc I h hE fun v d s' le I' r h' => hE.nx σ s' le I' h'
end
end
abbrev ICl := Addr → Gh → Nat → Prop
/-- the closure at f is the j-th of the lambdas bs, its cells are cl's -/
def IsC (cl : List (Str × Addr)) (bs : List (Lmb × (XK → TE))) : ICl := fun f g0 j => ∃ L tb, bs[j]? = some (L, tb) ∧ IsClo g0.G f L (cloFrom cl L.scope.names [])
/-- lambda: .. -/
def pMkL (IC : ICl) (j : Nat) : PE := fun e w k => ∀ f g0, IC f g0 j → k (.fn f g0) e w
def rfr1 (gs : Gh) : Dat → Dat
  | .fn f _ => .fn f gs
  | d => d
def rfr (gs : Gh) : Dat → Dat
  | .fn f _ => .fn f gs
  | .lst l => .lst (l.map (rfr1 gs))
  | d => d
def InClo (ds : List Dat) (f : Addr) (g0 : Gh) : Prop := .fn f g0 ∈ ds ∨ ∃ l, .lst l ∈ ds ∧ .fn f g0 ∈ l
abbrev PBd := Env → AskX
def askM (IC : ICl) (pB : List PBd) (gs : Gh) (e : Env) : AsksP := fun f g0 w k kx => g0 = gs ∧ ∃ j pb, pB[j]? = some pb ∧ IC f g0 j ∧ pb (noO e) w k kx
def pCloM (IC : ICl) (pB : List PBd) (P : PSpA) (a : PA) : PE := fun e w k => a e w fun ds e w => ∀ gs, (∀ f g0 j, InClo ds f g0 → IC f g0 j → IC f gs j) → P (askM IC pB gs e) (ds.map (rfr gs)) w fun d w => k d e w
def pLam1 (pb : PBd) (P : PSpA) : PE := fun e w k => ∀ f gs, P (fun f' g0 w k kx => f' = f ∧ g0 = gs ∧ pb (noO e) w k kx) [.fn f gs] w fun d w => k d e w
/-- bodies: a call that may raise, a call that does not, any value -/
def bdX (a : PA) (P : PSpX) : PBd := fun e w k kx => a e w fun ds _ w => P ds w k kx
def bdE (a : PE) : PBd := fun e w k _ => a e w fun d _ w => k d w
def SndB (K : PySem.W.Frag) (c : Pc) (tb : XK → TE) (pb : PBd) : Prop := ∀ (σ : L2.St) (g : Gh) (H : Hp) (e : Env) (w : Wld) (k : Dat → Wld → Prop) (kx : PX) (Q : VK) (E : XK), In K c ⟨H, g, []⟩ [] σ ⟨g, H, e, w, []⟩ → pb e w k kx → Posts K c g H k kx Q E → tb E σ H Q
section
variable {K : PySem.W.Frag} {c : Pc} {X : En} {F : List (Addr × HO)} {σ : L2.St} {s : Cf} {ta : TA} {pa : PA} {te : TE} {pe : PE} {sp : Sp}
theorem snd_bdX {P : PSpX} (hp : SndPX K c sp P) (ha : SndA K c ta pa) : SndB K c (fun E => tCall sp [] E ta) (bdX pa P) := by
  intro σ g H e w k kx Q E I h hq
  refine ha ⟨H, g, []⟩ [] σ ⟨g, H, e, w, []⟩ _ _ I h fun vs ds s1 l1 I1 r1 h1 => ?_
  show sp (vs ++ []) _ _ _
  rw [List.append_nil]
  exact hp s1.g s1.H s1.w vs ds k kx Q E I1.wr r1 h1 (fun v d g' H' w' A W r hk => hq.1 v d g' H' w' (I1.aft.trans A) W r hk) fun x g' H' w' A W hk => hq.2 x g' H' w' (I1.aft.trans A) W hk
/-- the state in which a closure's body runs -/
theorem In.body (I : In K c X F σ s) {g : Gh} {H : Hp} {w : Wld} (le : s.g.le g) (W : Wr K c g H w) : In K c ⟨H, g, []⟩ [] σ ⟨g, H, noO s.e, w, []⟩ := by
  have mu0 : ∀ a, a ∈ (⟨g, H, noO s.e, w, []⟩ : Cf).mu [] → a ∈ g.mu := fun a ha => by
    have ha : a ∈ g.mu ++ ([] ++ []) := ha
    rwa [List.append_nil, List.append_nil] at ha
  refine ⟨W, ?_, fun a ha => W.off a (mu0 a ha), by show (noO s.e).length = _; unfold noO; rw [List.length_map]; exact I.len, fun j z hz => ?_, fun q hq => (nomatch hq), fun q hq => (nomatch hq), Gh.le.refl _, fun a o e _ _ => e, fun _ _ _ => rfl, fun a ha => .inl (mu0 a ha), fun a o e => ⟨o, e⟩⟩
  · show (g.mu ++ ([] ++ [])).Nodup
    rw [List.append_nil, List.append_nil]; exact W.nd
  · rcases noO_get hz with rfl | ⟨d, rfl, hz2⟩
    · trivial
    · obtain ⟨v, e1, r⟩ := I.env j _ hz2
      exact ⟨v, e1, r.mono le⟩
/-- a closure is made -/
theorem In.mkL (I : In K c X F σ s) {P : Addr} {q : Str} {L : Lmb} {cl : List (Str × Addr)} (hp : (P, q) ∈ c.ts) (hq : L.q = q) : ∃ ps, TabAt s.H P ps L.q ∧ ∀ f H1, MkStep s.H P ps L cl f H1 → ∃ s', s.g.le s'.g ∧ s'.H = H1 ∧ s'.e = s.e ∧ s'.w = s.w ∧ In K c X F σ s' ∧ IsClo s'.g.G f L cl := by
  subst hq
  obtain ⟨ps, h1, h2, h3, h4⟩ := I.wr.lam hp
  refine ⟨ps, ⟨h1, h2, h3⟩, fun f H1 st => ?_⟩
  rcases st with ⟨c', H2, nd, st, hc, hf, rfl⟩ | ⟨c', T, H2, nd, hT, nTP, st, hT2, hc, hf, rfl⟩
  · obtain ⟨g', A, W, hg⟩ := h4 c' H2 st
    have I2 := I.call A W
    have I3 := I2.newG (o := CloO f L cl c') hf
    have le := gUpd_le (o := CloO f L cl c') (I2.offG hf)
    exact ⟨⟨gUpd g' f (CloO f L cl c'), upd H2 f (CloO f L cl c'), s.e, s.w, s.os⟩, A.le.trans le, rfl, rfl, rfl, I3, .plain nd upd_same (le.G _ _ hg)⟩
  · have I1 := I.newG (o := TupD T) hT
    have le1 := gUpd_le (o := TupD T) (I.offG hT)
    obtain ⟨ps', h1', _, _, h4'⟩ := I1.wr.lam hp
    have e : ps' = ps := by
      have z : upd s.H T (TupD T) P = some (.tbl ps') := h1'
      rw [upd_ne (Ne.symm nTP), h1] at z
      cases z
      rfl
    subst e
    obtain ⟨g', A, W, hg⟩ := h4' c' H2 st
    have I2 := I1.call A W
    have I3 := I2.newG (o := CloD f L cl c' T) hf
    have le := gUpd_le (o := CloD f L cl c' T) (I2.offG hf)
    exact ⟨⟨gUpd g' f (CloD f L cl c' T), upd H2 f (CloD f L cl c' T), s.e, s.w, s.os⟩, (le1.trans A.le).trans le, rfl, rfl, rfl, I3, .dflt nd upd_same (le.G _ _ (A.le.G _ _ upd_same)) (le.G _ _ hg)⟩
theorem snd_mkL {P : Addr} {q : Str} {L : Lmb} {cl : List (Str × Addr)} {bs : List (Lmb × (XK → TE))} {tb : XK → TE} {j : Nat} (hp : (P, q) ∈ c.ts) (hq : L.q = q) (hj : bs[j]? = some (L, tb)) : SndE K c (tMkL P L cl) (pMkL (IsC cl bs) j) := by
  intro X F σ s k Q I h hQ
  obtain ⟨ps, T, go⟩ := I.mkL (cl := cloFrom cl L.scope.names []) hp hq
  refine ⟨ps, T, fun f H1 st => ?_⟩
  obtain ⟨s', le, rfl, e1, e2, I', hc⟩ := go f H1 st
  exact hQ _ (.fn f s'.g) s' le I' (.fn (Gh.le.refl _)) (by rw [e1, e2]; exact h f s'.g ⟨L, tb, hj, hc⟩)
theorem rep_rfr1 {g : Gh} : ∀ {d : Dat} {v : V}, Rep K c g v d → Rep K c g v (rfr1 g d) := fun {d v} h => by
  cases d with
  | fn f g0 => cases h; exact .fn (Gh.le.refl _)
  | _ => exact h
theorem reps_rfr1 {g : Gh} : ∀ {ds : List Dat} {vs : List V}, Reps K c g vs ds → Reps K c g vs (ds.map (rfr1 g))
  | _, _, .nil => .nil
  | _, _, .cons h t => .cons (rep_rfr1 h) (reps_rfr1 t)
theorem rep_rfr {g : Gh} : ∀ {d : Dat} {v : V}, Rep K c g v d → Rep K c g v (rfr g d) := fun {d v} h => by
  cases d with
  | fn f g0 => cases h; exact .fn (Gh.le.refl _)
  | lst l => cases h with
    | lst h1 h2 => exact .lst h1 (reps_rfr1 h2)
  | _ => exact h
theorem reps_rfr {g : Gh} : ∀ {ds : List Dat} {vs : List V}, Reps K c g vs ds → Reps K c g vs (ds.map (rfr g))
  | _, _, .nil => .nil
  | _, _, .cons h t => .cons (rep_rfr h) (reps_rfr t)
theorem reps_fn {g g0 : Gh} {f : Addr} : ∀ {ds : List Dat} {vs : List V}, Reps K c g vs ds → .fn f g0 ∈ ds → g0.le g
  | _, _, .nil, h => nomatch h
  | d :: _, _, .cons h t, m => by
    rcases List.mem_cons.mp m with e | m
    · subst e
      cases h with
      | fn le => exact le
    · exact reps_fn t m
theorem reps_lst {g : Gh} {l : List Dat} : ∀ {ds : List Dat} {vs : List V}, Reps K c g vs ds → .lst l ∈ ds → ∃ us, Reps K c g us l
  | _, _, .nil, h => nomatch h
  | d :: _, _, .cons h t, m => by
    rcases List.mem_cons.mp m with e | m
    · subst e
      cases h with
      | lst _ h2 => exact ⟨_, h2⟩
    · exact reps_lst t m
theorem isC_up {cl : List (Str × Addr)} {bs : List (Lmb × (XK → TE))} {g : Gh} {ds : List Dat} {vs : List V} (r : Reps K c g vs ds) : ∀ f g0 j, InClo ds f g0 → IsC cl bs f g0 j → IsC cl bs f g j := fun f g0 j m ⟨L, tb, hj, hc⟩ => by
  have le : g0.le g := by
    rcases m with m | ⟨l, m, m2⟩
    · exact reps_fn r m
    · obtain ⟨us, r2⟩ := reps_lst r m
      exact reps_fn r2 m2
  exact ⟨L, tb, hj, hc.mono le.G⟩
/-- the lambdas' readings and their meanings -/
inductive BdS (K : PySem.W.Frag) (c : Pc) : List (Lmb × (XK → TE)) → List PBd → Prop
  | nil : BdS K c [] []
  | cons {L : Lmb} {tb : XK → TE} {pb : PBd} {bs : List (Lmb × (XK → TE))} {pB : List PBd} : SndB K c tb pb → BdS K c bs pB → BdS K c ((L, tb) :: bs) (pb :: pB)
theorem BdS.at : ∀ {bs : List (Lmb × (XK → TE))} {pB : List PBd}, BdS K c bs pB → ∀ {j : Nat} {L : Lmb} {tb : XK → TE} {pb : PBd}, bs[j]? = some (L, tb) → pB[j]? = some pb → SndB K c tb pb
  | _, _, .nil, _, _, _, _, h, _ => by simp at h
  | _, _, .cons h t, 0, _, _, _, h1, h2 => by cases h1; cases h2; exact h
  | _, _, .cons h t, j + 1, _, _, _, h1, h2 => BdS.at t (j := j) (by simpa using h1) (by simpa using h2)
theorem snd_cloM {P : PSpA} {cl : List (Str × Addr)} {bs : List (Lmb × (XK → TE))} {pB : List PBd} (hb : BdS K c bs pB) (ha : SndA K c ta pa) : SndE K c (tCloM (lifA K c P) cl bs ta) (pCloM (IsC cl bs) pB P pa) := by
  intro X F σ s k Q I h hQ
  refine ha X F σ s _ _ I h fun vs ds s1 l1 I1 r1 h1 => ?_
  refine ⟨askM (IsC cl bs) pB s1.g s1.e, fun f E H' Q' z => ?_, s1.g, s1.w, _, _, I1.wr, reps_rfr r1, h1 s1.g (isC_up r1), fun v d g' H' w' A W r hk => ?_⟩
  · obtain ⟨g0, g, w, k', kx, le0, W, ⟨rfl, j, pb, hj, ⟨L, tb, hL, hc⟩, hp⟩, hq⟩ := z
    exact ⟨j, L, tb, hL, hc.mono fun a o e => W.sub _ _ (le0.G _ _ e), hb.at hL hj σ g H' _ w k' kx Q' E (I1.body le0 W) hp hq⟩
  · exact hQ v d ⟨g', H', s1.e, w', s1.os⟩ (l1.trans A.le) (I1.call A W) r hk
/-- in a comprehension: the list that is walked is told anew, so that its closures are of the entry -/
def lstV (e : Env) (i : Nat) (k : List Dat → Prop) : Prop := match e[i]? with
  | some (.val (.lst l)) => k l
  | _ => False
def pRfr (IC : ICl) (i : Nat) (p : Gh → Env → PF) : PF := fun e w k => lstV e i fun l => ∀ gs, (∀ f g0 j, .fn f g0 ∈ l → IC f g0 j → IC f gs j) → p gs e (e.set i (.val (.lst (l.map (rfr1 gs))))) w k
def pCloB (IC : ICl) (pB : List PBd) (gs : Gh) (e0 : Env) (P : PSpA) (a : PA) : PE := fun e w k => a e w fun ds e w => (∃ f, .fn f gs ∈ ds) ∧ P (askM IC pB gs e0) ds w fun d w => k d e w
theorem snd_cloB {P : PSpA} {cl : List (Str × Addr)} {bs : List (Lmb × (XK → TE))} {pB : List PBd} {X0 : En} {F0 : List (Addr × HO)} {σ0 : L2.St} {s0 : Cf} (hb : BdS K c bs pB) (I0 : In K c X0 F0 σ0 s0) (ha : SndA K c ta pa) :
    SndE K c (tCall (lifA K c P (asksX cl bs σ0)) [] E0 ta) (pCloB (IsC cl bs) pB s0.g s0.e P pa) := by
  intro X F σ s k Q I h hQ
  refine ha X F σ s _ _ I h fun vs ds s1 l1 I1 r1 h1 => ?_
  obtain ⟨⟨f0, hf0⟩, h1⟩ := h1
  have le : s0.g.le s1.g := reps_fn r1 hf0
  show lifA K c P (asksX cl bs σ0) (vs ++ []) s1.H Q E0
  rw [List.append_nil]
  refine ⟨askM (IsC cl bs) pB s0.g s0.e, fun f E H' Q' z => ?_, s1.g, s1.w, _, _, I1.wr, r1, h1, fun v d g' H' w' A W r hk => hQ v d ⟨g', H', s1.e, w', s1.os⟩ (l1.trans A.le) (I1.call A W) r hk⟩
  obtain ⟨g0, g, w, k', kx, le0, W, ⟨rfl, j, pb, hj, ⟨L, tb, hL, hc⟩, hp⟩, hq⟩ := z
  exact ⟨j, L, tb, hL, hc.mono fun a o e => W.sub _ _ (le0.G _ _ e), hb.at hL hj σ0 g H' _ w k' kx Q' E (I0.body le0 W) hp hq⟩
theorem snd_rfr {cl : List (Str × Addr)} {bs : List (Lmb × (XK → TE))} {wi : TI} {g : TG} {tt : L2.St → TT} {te : L2.St → TE} {vs : List Nat} {i : Nat} {p : Gh → Env → PF}
    (h : ∀ (X0 : En) (F0 : List (Addr × HO)) (σ0 : L2.St) (s0 : Cf), In K c X0 F0 σ0 s0 → SndF K c (tLc wi g (tt σ0) (te σ0) vs) (p s0.g s0.e)) : SndF K c (tLcE wi g tt te vs) (pRfr (IsC cl bs) i p) := by
  intro X F σ s k Q I hp hQ
  unfold pRfr lstV at hp
  split at hp
  · rename_i l e1
    obtain ⟨v, e2, r⟩ := I.env i _ e1
    have r2 : Rep K c s.g v (.lst (l.map (rfr1 s.g))) := by
      cases r with
      | lst h1 h2 => exact .lst h1 (reps_rfr1 h2)
    have us : ∃ us, Reps K c s.g us l := by
      cases r with
      | lst h1 h2 => exact ⟨_, h2⟩
    obtain ⟨us, r3⟩ := us
    have I2 := I.setV (i := i) r2
    have e3 : σ.set i (some v) = σ := by
      refine List.ext_getElem? fun n => ?_
      by_cases hn : n = i
      · subst hn
        have : n < σ.length := (List.getElem?_eq_some_iff.mp e2).1
        rw [List.getElem?_set_self this, e2]
      · rw [List.getElem?_set_ne (Ne.symm hn)]
    rw [e3] at I2
    exact h X F σ s I X F σ ⟨s.g, s.H, s.e.set i (.val (.lst (l.map (rfr1 s.g)))), s.w, s.os⟩ k Q I2 (hp s.g fun f g0 j m => isC_up r3 f g0 j (.inl m)) hQ
  · exact hp.elim
end
end Pu
namespace Pu
open PySem L2 Eng
/-- the program's classes and what is built in have nothing to do with each other -/
structure IsiK (K : PySem.W.Frag) (c : Pc) : Prop where
  im : C8.InsC K c.CMachine
  ib : C8.InsC K c.CBig
  nm : NoSub K c.CMachine
  nb : NoSub K c.CBig
  ne : c.CMachine ≠ c.CBig
  mb : PySem.W.subIn K (.ref c.CMachine) (.ref c.CBig) = some false
  bm : PySem.W.subIn K (.ref c.CBig) (.ref c.CMachine) = some false
  mt : ∀ b ∈ (["int", "list", "str", "bool", "tuple", "dict"] : List String), PySem.W.subIn K (.ref c.CMachine) (.type b) = some false
  bt : ∀ b ∈ (["int", "list", "str", "bool", "tuple", "dict"] : List String), PySem.W.subIn K (.ref c.CBig) (.type b) = some false
/-- what a thing is: 1 a machine, 2 a Big, 0 neither -/
def isDk : Option HO → Option Nat
  | some (.dK _) => some 0
  | _ => none
theorem isDk_of {o : Option HO} {q : Nat} (h : isDk o = some q) : q = 0 ∧ ∃ kv, o = some (.dK kv) := by
  unfold isDk at h
  split at h
  · rename_i kv
    exact ⟨by cases h; rfl, kv, rfl⟩
  · cases h
def kindD : Dat → Option Nat
  | .non | .bl _ | .int _ | .str _ | .tup _ | .lst _ | .dic _ => some 0
  | .mach _ => some 1
  | .big _ _ => some 2
  | .fn f g => isDk (g.G f)
  | _ => none
def pIsO (n : Nat) (a : PE) : PE := fun e w k => a e w fun d e w => onSome (kindD d) fun q => k (.bl (decide (q = n))) e w
section
variable {K : PySem.W.Frag} {c : Pc}
theorem sub_kit {C D : Addr} (h : NoSub K D) (ne : C ≠ D) (hs : PySem.W.subIn K (.ref C) (.ref D) = some false) : PySem.W.kitOne K (.ref C) (.ref D) = some false := by
  unfold PySem.W.kitOne
  have e1 : (Value.ref C == Value.ref D) = false := by simpa using ne
  rw [e1, if_neg Bool.false_ne_true]
  unfold PySem.W.kitCls
  have e2 : ((PySem.W.clsIn K D).isSome && PySem.W.typeIn K (.ref D) == some (.type "type")) = true := by
    have h2 : (PySem.W.clsIn K D).isSome = true := h.ic
    rw [h2, h.ty]
    rfl
  show (if ((PySem.W.clsIn K D).isSome && PySem.W.typeIn K (.ref D) == some (.type "type")) = true then PySem.W.subIn K (.ref C) (.ref D) else none) = some false
  rw [if_pos e2]
  exact hs
/-- a thing's class -/
theorem kind_ty (IS : IsiK K c) {g : Gh} {H : Hp} {w : Wld} (W : Wr K c g H w) {v : V} {d : Dat} {q : Nat} (r : Rep K c g v d) (h : kindD d = some q) :
    ∃ t, TyX K H v t ∧ (q = 1 → t = .ref c.CMachine) ∧ (q = 2 → t = .ref c.CBig) ∧ (q = 0 → ∃ b ∈ (["int", "list", "str", "NoneType", "bool", "tuple", "dict"] : List String), t = .type b) := by
  have no : ∀ {P : Prop} {a b : Nat}, a ≠ b → a = b → P := fun ne e => absurd e ne
  cases d with
  | non => cases r; cases h; exact ⟨_, .base .non, no (by decide), no (by decide), fun _ => ⟨_, by decide, rfl⟩⟩
  | bl b => cases r; cases h; exact ⟨_, .base (.bl _), no (by decide), no (by decide), fun _ => ⟨_, by decide, rfl⟩⟩
  | int b => cases r; cases h; exact ⟨_, .base (.int _), no (by decide), no (by decide), fun _ => ⟨_, by decide, rfl⟩⟩
  | str b => cases r; cases h; exact ⟨_, .base (.str _), no (by decide), no (by decide), fun _ => ⟨_, by decide, rfl⟩⟩
  | tup l => cases r with | tup h1 _ => cases h; exact ⟨_, .base (.tup (W.sub _ _ h1)), no (by decide), no (by decide), fun _ => ⟨_, by decide, rfl⟩⟩
  | lst l => cases r with | lst h1 _ => cases h; exact ⟨_, .base (.lst (W.sub _ _ h1)), no (by decide), no (by decide), fun _ => ⟨_, by decide, rfl⟩⟩
  | dic l => cases r with | dic h1 => cases h; exact ⟨_, .base (.dK (W.sub _ _ h1)), no (by decide), no (by decide), fun _ => ⟨_, by decide, rfl⟩⟩
  | mach i => cases r with
    | mach h1 =>
      cases h
      have hl : i < w.ms.length := by rw [← W.mlen]; exact (List.getElem?_eq_some_iff.mp h1).1
      obtain ⟨dx, hi⟩ := (W.mach i _ _ h1 (List.getElem?_eq_getElem hl)).ins
      exact ⟨_, .base (.ins (W.sub _ _ hi) IS.im.cl IS.im.ha IS.im.hn IS.im.htk IS.im.hm), fun _ => rfl, no (by decide), no (by decide)⟩
  | big b n => cases r with
    | big h1 =>
      cases h
      obtain ⟨dx, rr, hi, _⟩ := h1.at_
      exact ⟨_, .base (.ins (W.sub _ _ hi) IS.ib.cl IS.ib.ha IS.ib.hn IS.ib.htk IS.ib.hm), no (by decide), fun _ => rfl, no (by decide)⟩
  | fn f g0 => cases r with
    | fn le =>
      obtain ⟨rfl, kv, e⟩ := isDk_of (show isDk (g0.G f) = some q from h)
      exact ⟨_, .base (.dK (W.sub _ _ (le.G _ _ e))), no (by decide), no (by decide), fun _ => ⟨_, by decide, rfl⟩⟩
  | _ => cases h
theorem kind_le {d : Dat} {q : Nat} (h : kindD d = some q) : q = 0 ∨ q = 1 ∨ q = 2 := by
  cases d <;> first | (cases h; decide) | cases h | exact .inl (isDk_of h).1
theorem snd_isM (IS : IsiK K c) {ta : TE} {pa : PE} (ha : SndE K c ta pa) : SndE K c (tCB (rIsi K) (tCons ta (tCons (tC (.ref c.CMachine)) tNil))) (pIsO 1 pa) := by
  intro X F σ s k Q I h hQ
  refine ha X F σ s _ _ I h fun v d s1 l1 I1 r1 h1 => ?_
  replace h1 := onSome_of h1
  obtain ⟨q, hq, h1⟩ := h1
  obtain ⟨t, ty, t1, t2, t0⟩ := kind_ty IS I1.wr r1 hq
  refine ⟨v, .ref c.CMachine, t, .ref c.CMachine, decide (q = 1), rfl, .own _, ty, ?_, hQ _ _ s1 l1 I1 (.bl _) h1⟩
  rcases kind_le hq with rfl | rfl | rfl
  · obtain ⟨b, hb, rfl⟩ := t0 rfl
    exact IS.nm.kit hb
  · rw [t1 rfl]; exact IS.im.me
  · rw [t2 rfl]; exact sub_kit IS.nm (Ne.symm IS.ne) IS.bm
theorem snd_isB (IS : IsiK K c) {ta : TE} {pa : PE} (ha : SndE K c ta pa) : SndE K c (tCB (rIsi K) (tCons ta (tCons (tC (.ref c.CBig)) tNil))) (pIsO 2 pa) := by
  intro X F σ s k Q I h hQ
  refine ha X F σ s _ _ I h fun v d s1 l1 I1 r1 h1 => ?_
  replace h1 := onSome_of h1
  obtain ⟨q, hq, h1⟩ := h1
  obtain ⟨t, ty, t1, t2, t0⟩ := kind_ty IS I1.wr r1 hq
  refine ⟨v, .ref c.CBig, t, .ref c.CBig, decide (q = 2), rfl, .own _, ty, ?_, hQ _ _ s1 l1 I1 (.bl _) h1⟩
  rcases kind_le hq with rfl | rfl | rfl
  · obtain ⟨b, hb, rfl⟩ := t0 rfl
    exact IS.nb.kit hb
  · rw [t1 rfl]; exact sub_kit IS.nb IS.ne IS.mb
  · rw [t2 rfl]; exact IS.ib.me
theorem lcp_cons {g : PG} {t : PT} {a : PE} {vs : List Nat} {k : List Dat → Env → Wld → Prop} {d : Dat} {ds acc : List Dat} {e : Env} {w : Wld} :
    lcp g t a vs k (d :: ds) acc e w = g d e w fun e w => t e w fun b e w => if b = true then a e w fun y e w => acc.length < sizeLine ∧ lcp g t a vs k ds (acc ++ [y]) (wip e vs) w else lcp g t a vs k ds acc (wip e vs) w := rfl
theorem lcp_nil {g : PG} {t : PT} {a : PE} {vs : List Nat} {k : List Dat → Env → Wld → Prop} {acc : List Dat} {e : Env} {w : Wld} : lcp g t a vs k [] acc e w = k acc e w := rfl
theorem eBl {b : Bool} {k : Bool → Prop} : isB (.bl b) k = k b := rfl
theorem eKd0 {k : Nat → Prop} : onSome (kindD .non) k = k 0 := rfl
theorem eKd1 {b : Bool} {k : Nat → Prop} : onSome (kindD (.bl b)) k = k 0 := rfl
theorem eKd2 {n : Int} {k : Nat → Prop} : onSome (kindD (.int n)) k = k 0 := rfl
theorem eKd3 {s : Str} {k : Nat → Prop} : onSome (kindD (.str s)) k = k 0 := rfl
theorem eKd4 {l : List Dat} {k : Nat → Prop} : onSome (kindD (.tup l)) k = k 0 := rfl
theorem eKd5 {l : List Dat} {k : Nat → Prop} : onSome (kindD (.lst l)) k = k 0 := rfl
theorem eKd6 {l : List (Str × Int)} {k : Nat → Prop} : onSome (kindD (.dic l)) k = k 0 := rfl
theorem eKd7 {i : Nat} {k : Nat → Prop} : onSome (kindD (.mach i)) k = k 1 := rfl
theorem eKd8 {b : Nat} {n : Int} {k : Nat → Prop} : onSome (kindD (.big b n)) k = k 2 := rfl
end
end Pu
namespace Pu
open PySem L2 Eng
end Pu
namespace Pu
open PySem L2 Eng
/-- the promises over the heap and over data go together -/
inductive FLs (K : PySem.W.Frag) (c : Pc) : List (Nat × Sp) → List (Nat × PSp) → Prop
  | nil : FLs K c [] []
  | cons {j : Nat} {sp : Sp} {P : PSp} {ls : List (Nat × Sp)} {l : List (Nat × PSp)} : SndP K c sp P → FLs K c ls l → FLs K c ((j, sp) :: ls) ((j, P) :: l)
section
variable {K : PySem.W.Frag} {c : Pc} {ls : List (Nat × Sp)} {l : List (Nat × PSp)} {tr : TA} {pr : PA} {i n : Nat}
theorem FLs.get (h : FLs K c ls l) {j : Nat} {P : PSp} (e : l.lookup j = some P) : ∃ sp, (j, sp) ∈ ls ∧ SndP K c sp P := by
  induction h with
  | nil => cases e
  | @cons q sp Q ls l hs t ih =>
    rw [List.lookup_cons] at e
    by_cases z : j = q
    · subst z
      rw [beq_self_eq_true] at e
      cases e
      exact ⟨sp, List.mem_cons_self, hs⟩
    · rw [show (j == q) = false by simpa using z] at e
      obtain ⟨sp', h1, h2⟩ := ih e
      exact ⟨sp', List.mem_cons_of_mem _ h1, h2⟩
end
end Pu
namespace Pu
open PySem L2 Eng
end Pu
namespace Pu
open PySem L2 Eng
end Pu
namespace Pu
open PySem L2 Eng
end Pu
namespace Pu
open PySem L2 Eng
end Pu
namespace Pu
open PySem L2 Eng
end Pu
namespace Pu
open PySem L2 Eng
end Pu
namespace Pu
open PySem L2 Eng
def pIfL (c : PT) (a b : PS) : PS := fun D e w => c e w fun t e w => if t = true then a D e w else b D e w
end Pu
namespace Pu
open PySem L2 Eng
section
variable {K : PySem.W.Frag} {c : Pc}
def pTupL4 (i j k l x : Nat) (a b d f : PE) (g : PF) : PS := fun D e w => a e w fun d1 e w => b e w fun d2 e w => d e w fun d3 e w => f e w fun d4 e w => g e w fun u e w => 5 ≤ sizeLine ∧ D.nx (((((e.set i (.val d1)).set j (.val d2)).set k (.val d3)).set l (.val d4)).set x (.own true u)) w
theorem snd_tupL4 {i j k l x : Nat} {ta tb td tf tg : TE} {a b d f : PE} {pf : PF} (ha : SndE K c ta a) (hb : SndE K c tb b) (hd : SndE K c td d) (hf : SndE K c tf f) (hg : SndF K c tg pf) :
    SndS K c (tAsg (tTup (tCons ta (tCons tb (tCons td (tCons tf (tCons tg tNil)))))) (gTup K 5 (gNames [i, j, k, l, x]))) (pTupL4 i j k l x a b d f pf) := by
  intro X F σ s D Dp I h hE
  refine ha X F σ s _ _ I h fun x1 d1 s1 l1 I1 r1 h1 => ?_
  refine hb X F σ s1 _ _ I1 h1 fun x2 d2 s2 l2 I2 r2 h2 => ?_
  refine hd X F σ s2 _ _ I2 h2 fun x3 d3 s3 l3 I3 r3 h3 => ?_
  refine hf X F σ s3 _ _ I3 h3 fun x4 d4 s4 l4 I4 r4 h4 => ?_
  refine hg X F σ s4 _ _ I4 h4 fun y vs ds s5 l5 hx I5 r5 h5 => ?_
  obtain ⟨hz, h5⟩ := h5
  refine ⟨hz, fun p hp => ?_⟩
  have le := gUpd_le (o := .tup [x1, x2, x3, x4, .ref y]) (I5.offG hp)
  have J : In K c X ((y, .lst vs) :: F) σ ⟨gUpd s5.g p (.tup [x1, x2, x3, x4, .ref y]), upd s5.H p (.tup [x1, x2, x3, x4, .ref y]), s5.e, s5.w, s5.os⟩ := I5.newG (o := .tup [x1, x2, x3, x4, .ref y]) hp
  have J1 : In K c X ((y, .lst vs) :: F) (σ.set i (some x1)) ⟨gUpd s5.g p (.tup [x1, x2, x3, x4, .ref y]), upd s5.H p (.tup [x1, x2, x3, x4, .ref y]), s5.e.set i (.val d1), s5.w, s5.os⟩ := J.setV (i := i) (((((r1.mono l2).mono l3).mono l4).mono l5).mono le)
  have J2 : In K c X ((y, .lst vs) :: F) ((σ.set i (some x1)).set j (some x2)) ⟨gUpd s5.g p (.tup [x1, x2, x3, x4, .ref y]), upd s5.H p (.tup [x1, x2, x3, x4, .ref y]), (s5.e.set i (.val d1)).set j (.val d2), s5.w, s5.os⟩ := J1.setV (i := j) ((((r2.mono l3).mono l4).mono l5).mono le)
  have J3 : In K c X ((y, .lst vs) :: F) (((σ.set i (some x1)).set j (some x2)).set k (some x3)) ⟨gUpd s5.g p (.tup [x1, x2, x3, x4, .ref y]), upd s5.H p (.tup [x1, x2, x3, x4, .ref y]), ((s5.e.set i (.val d1)).set j (.val d2)).set k (.val d3), s5.w, s5.os⟩ := J2.setV (i := k) (((r3.mono l4).mono l5).mono le)
  have J4 : In K c X ((y, .lst vs) :: F) ((((σ.set i (some x1)).set j (some x2)).set k (some x3)).set l (some x4)) ⟨gUpd s5.g p (.tup [x1, x2, x3, x4, .ref y]), upd s5.H p (.tup [x1, x2, x3, x4, .ref y]), (((s5.e.set i (.val d1)).set j (.val d2)).set k (.val d3)).set l (.val d4), s5.w, s5.os⟩ := J3.setV (i := l) ((r4.mono l5).mono le)
  have J5 : In K c X F (((((σ.set i (some x1)).set j (some x2)).set k (some x3)).set l (some x4)).set x (some (.ref y))) ⟨gUpd s5.g p (.tup [x1, x2, x3, x4, .ref y]), upd s5.H p (.tup [x1, x2, x3, x4, .ref y]), ((((s5.e.set i (.val d1)).set j (.val d2)).set k (.val d3)).set l (.val d4)).set x (.own true ds), s5.w, (x, y) :: s5.os⟩ := J4.setO (i := x) (r5.mono le) hx
  refine ⟨p, [x1, x2, x3, x4, .ref y], rfl, SqT.of upd_same, rfl, x1, _, rfl, x2, _, rfl, x3, _, rfl, x4, _, rfl, .ref y, _, rfl, ?_⟩
  exact ⟨rfl, hE.nx _ ⟨gUpd s5.g p (.tup [x1, x2, x3, x4, .ref y]), upd s5.H p (.tup [x1, x2, x3, x4, .ref y]), _, s5.w, _⟩ (((((l1.trans l2).trans l3).trans l4).trans l5).trans le) J5 h5⟩
end
end Pu
namespace Pu
open PySem L2 Eng
section
variable {K : PySem.W.Frag} {c : Pc}
def P_x_source : PSp := P_law_source_of
def P_x_draw : PSp := P_law_next
def P_x_one : PSp := P_law_one
theorem u_x_source : SndP K c (sp_x_source K c) P_x_source := u_law_source_of
theorem u_x_draw : SndP K c (sp_x_draw K c) P_x_draw := u_law_next
theorem u_x_one : SndP K c (sp_x_one K c) P_x_one := u_law_one
variable {x : Nat} {n : Int} {l : List Dat} {w : Wld} {kw : Dat → Wld → Prop}
theorem e_x_source : P_x_source [.int n] w kw = kw (.src w.ss) ⟨w.ms, w.ss + 1, w.os⟩ := rfl
theorem e_x_draw : P_x_draw [.src x, .int n] w kw = (x < w.ss ∧ (0 < n ∧ NxtB n) ∧ ∀ r, 0 ≤ r → r < n → kw (.int r) w) := rfl
theorem e_x_one : P_x_one [.src x, .lst l] w kw = (x < w.ss ∧ (l ≠ [] ∧ l.length ≤ 1000) ∧ ∀ d ∈ l, kw d w) := rfl
end
end Pu
namespace Pu
open PySem L2 Eng
section
variable {K : PySem.W.Frag} {c : Pc} {tc : TT} {pc : PT} {tt tu : TS} {pa pb : PS}
theorem snd_ifSS (hc : SndT K c tc pc) (ha : SndSS K c tt pa) (hb : SndSS K c tu pb) : SndSS K c (tSeq (tIfS tc tt tNext) tu) (pIfL pc pa pb) := by
  intro X F σ s D Dp I h hE
  refine hc X F σ s _ _ I h fun b s1 l1 I1 h1 => ?_
  cases b with
  | true =>
    rw [if_pos rfl] at h1
    show (if true = true then _ else _)
    rw [if_pos rfl]
    exact ha X F σ s1 _ Dp I1 h1 ⟨(hE.mono l1).rt⟩
  | false =>
    rw [if_neg (by decide)] at h1
    show (if false = true then _ else _)
    rw [if_neg (by decide)]
    exact hb X F σ s1 D Dp I1 h1 (hE.mono l1)
end
section
variable {K : PySem.W.Frag} {c : Pc}
def pTupL3 (i j k x : Nat) (a b d : PE) (g : PF) : PS := fun D e w => a e w fun d1 e w => b e w fun d2 e w => d e w fun d3 e w => g e w fun u e w => 4 ≤ sizeLine ∧ D.nx ((((e.set i (.val d1)).set j (.val d2)).set k (.val d3)).set x (.own true u)) w
theorem snd_tupL3 {i j k x : Nat} {ta tb td tg : TE} {a b d : PE} {pf : PF} (ha : SndE K c ta a) (hb : SndE K c tb b) (hd : SndE K c td d) (hg : SndF K c tg pf) :
    SndS K c (tAsg (tTup (tCons ta (tCons tb (tCons td (tCons tg tNil))))) (gTup K 4 (gNames [i, j, k, x]))) (pTupL3 i j k x a b d pf) := by
  intro X F σ s D Dp I h hE
  refine ha X F σ s _ _ I h fun x1 d1 s1 l1 I1 r1 h1 => ?_
  refine hb X F σ s1 _ _ I1 h1 fun x2 d2 s2 l2 I2 r2 h2 => ?_
  refine hd X F σ s2 _ _ I2 h2 fun x3 d3 s3 l3 I3 r3 h3 => ?_
  refine hg X F σ s3 _ _ I3 h3 fun y vs ds s5 l5 hx I5 r5 h5 => ?_
  obtain ⟨hz, h5⟩ := h5
  refine ⟨hz, fun p hp => ?_⟩
  have le := gUpd_le (o := .tup [x1, x2, x3, .ref y]) (I5.offG hp)
  have J : In K c X ((y, .lst vs) :: F) σ ⟨gUpd s5.g p (.tup [x1, x2, x3, .ref y]), upd s5.H p (.tup [x1, x2, x3, .ref y]), s5.e, s5.w, s5.os⟩ := I5.newG (o := .tup [x1, x2, x3, .ref y]) hp
  have J1 : In K c X ((y, .lst vs) :: F) (σ.set i (some x1)) ⟨gUpd s5.g p (.tup [x1, x2, x3, .ref y]), upd s5.H p (.tup [x1, x2, x3, .ref y]), s5.e.set i (.val d1), s5.w, s5.os⟩ := J.setV (i := i) ((((r1.mono l2).mono l3).mono l5).mono le)
  have J2 : In K c X ((y, .lst vs) :: F) ((σ.set i (some x1)).set j (some x2)) ⟨gUpd s5.g p (.tup [x1, x2, x3, .ref y]), upd s5.H p (.tup [x1, x2, x3, .ref y]), (s5.e.set i (.val d1)).set j (.val d2), s5.w, s5.os⟩ := J1.setV (i := j) (((r2.mono l3).mono l5).mono le)
  have J3 : In K c X ((y, .lst vs) :: F) (((σ.set i (some x1)).set j (some x2)).set k (some x3)) ⟨gUpd s5.g p (.tup [x1, x2, x3, .ref y]), upd s5.H p (.tup [x1, x2, x3, .ref y]), ((s5.e.set i (.val d1)).set j (.val d2)).set k (.val d3), s5.w, s5.os⟩ := J2.setV (i := k) ((r3.mono l5).mono le)
  have J5 : In K c X F ((((σ.set i (some x1)).set j (some x2)).set k (some x3)).set x (some (.ref y))) ⟨gUpd s5.g p (.tup [x1, x2, x3, .ref y]), upd s5.H p (.tup [x1, x2, x3, .ref y]), (((s5.e.set i (.val d1)).set j (.val d2)).set k (.val d3)).set x (.own true ds), s5.w, (x, y) :: s5.os⟩ := J3.setO (i := x) (r5.mono le) hx
  refine ⟨p, [x1, x2, x3, .ref y], rfl, SqT.of upd_same, rfl, x1, _, rfl, x2, _, rfl, x3, _, rfl, .ref y, _, rfl, ?_⟩
  exact ⟨rfl, hE.nx _ ⟨gUpd s5.g p (.tup [x1, x2, x3, .ref y]), upd s5.H p (.tup [x1, x2, x3, .ref y]), _, s5.w, _⟩ ((((l1.trans l2).trans l3).trans l5).trans le) J5 h5⟩
end
def P_lawO : PSp := fun ds w k => w.os = [] ∧ P_law0 ds w k
theorem law_lifTO {K : PySem.W.Frag} {c : Pc} {vs : List V} {H : Hp} {Q : VK} {E : XK} (ND : (c.ts.map (·.1)).Nodup) (h : sp_lawT K c vs H Q E) : lif K c P_lawO vs H Q E := by
  obtain ⟨ht, a, ns, rfl, hs, hl, hq⟩ := h
  have hmu : ∀ G : Hp, (⟨G, [], [], [], c.ts⟩ : Gh).mu = c.ts.map (·.1) := fun _ => rfl
  have hs' : SqL K (fun b => if b ∈ c.ts.map (·.1) then none else H b) a (ns.map V.int) := by
    rcases hs with (s | ⟨o, s⟩) | s
    · refine .inl (.inl ?_)
      show (if a ∈ c.ts.map (·.1) then none else H a) = _
      rw [if_neg]
      · exact s
      · intro z
        obtain ⟨p, hp, e⟩ := List.mem_map.mp z
        have := ht p hp
        rw [e, s] at this; cases this
    · refine .inl (.inr ⟨o, ?_⟩)
      show (if a ∈ c.ts.map (·.1) then none else H a) = _
      rw [if_neg]
      · exact s
      · intro z
        obtain ⟨p, hp, e⟩ := List.mem_map.mp z
        have := ht p hp
        rw [e, s] at this; cases this
    · exact .inr s
  refine ⟨⟨fun b => if b ∈ c.ts.map (·.1) then none else H b, [], [], [], c.ts⟩, ⟨[], 0, []⟩, [.cst (ns.map Dat.int)], fun d _ => d = .bl true, ⟨fun b o h => ?_, by rw [hmu]; exact ND, fun b hb => ?_, rfl, (fun i q m h => by simp at h), (fun _ h => nomatch h), rfl, rfl, (fun i q m h => by simp at h), fun p hp => ?_, rfl⟩, .cons (.cst hs' (Reps.ofInts ns)) .nil, ⟨rfl, ns, rfl, hl, fun _ => rfl⟩, fun v d g' H' w' _ _ r hd => ?_⟩
  · have h : (if b ∈ c.ts.map (·.1) then none else H b) = some o := h
    by_cases z : b ∈ c.ts.map (·.1)
    · rw [if_pos z] at h; cases h
    · rw [if_neg z] at h; exact h
  · rw [hmu] at hb
    show (if b ∈ c.ts.map (·.1) then none else H b) = none
    rw [if_pos hb]
  · exact ⟨#[], ht p hp, trivial, fun pos cv hc => by cases hc⟩
  · subst hd
    rw [r.blI]
    exact hq H'
end Pu
namespace Eng
open PySem L2 Pu
local macro_rules | `(tactic| walk_at "pu") => `(tactic| try simp only [pDictCO, pExtO, eLsOf1, pEqMW, pLam2, noO_nil, noO_cons, noS_val, noS_no, noS_own, pDispO, pDNewO, pgPutO, penT, eStrO, eNeDA, eEqMX, eNeMX, dcAt_add, thw_tup, thws_nil, thws_cons, thw1_L, thw1_D, thw1_new, pOpW, pCBW, pOpFW, pCBFW, pObj, pSlW, pSetO, pAppO, pIR3, pgSetI, pgSetO, pgTup2, pTellO, vw_int, vw_bl, vw_str, vw_tup, vw_lst, vw_cst, vw_big, vw_non, vw_dic, vw_ob, vws_nil, vws_cons, obOf_ob, lsAt_put, onM_putO, onM_addO, eModF, eDivF, eDivmodF, eTwo, eLone, eCatQ, pBits, penD, low_int, low_bl, low_str, low_non, low_big, low_mach, low_src, low_dic, low_tup, low_lst, low_nil, low_cons, and_self, take_self, pSeq, pNext, pBreak, pCont, pAsg, pAsgO, pAsgG, pPar, pParO, pParO2, pRet, pRetN, pDrop, pIfS, pAppend, pSetI, pFrz, pFor, pC, pOp, pUn, pTest, pNot, pAnd, pOr, pAndV, pOrV, pNotV, pIf, pChain, pNil, pCons, pCall, pCallD, pKw, pTup, pCB, pLst, pFz, pOpF, pCBF, pOpO, pCBO, pgName, pgTup, pLc, pYes, pIL, pIT, pIR1, pIR2, pIEnum, pIZip, pNoPart, pPart, pSlL, pSlT, pRevL, pRevT, pDisp, dVals, pDNew, setAll, wip, env0, pen, frz, fz,
  eAdd, eSub, eAnd, eOr, eXor, eLt, eLe, eGt, eGe, eMul, eDiv, eMod, ePow, eShr, eNeg, eEqI, eEqS, eEqL, eNeI, eNeS, eNeL, eIx1, eIx2, eIx3, eIxL, eIxC, eIxT, eCat, eRep, eLen1, eLen2, eLen3, eAbs, eInt1, eInt2, eMax, eMin, eDivmod, eAnyT, pExtend, pIA, e_is_integer, eDict, eEqDA, ePosD, eList1, eList2, eList3, eTupL, eEqB, eNeB, eIsB, qEqD, qNeD, eTup, eLst1, eLst2, eIntO, eSeq1, eSeq2, eSeq3, eSome, eAt0, eAt1, eAt2, eAt3, eVar, eVal, eOwnAt, eOwn, eSide, eRow, eWidB, eWidM, eCut, eBase, eMethM, eMethB, eSideB, eRowB, eBitsB, eMachO, eBigO,
  pCallN, pTupO, eAll, pCallO, pCallL, pRetL, pgUnl, pDGet2, eDicOf, eGtOf, eLsOf, eEqTD, eNeTD, penF, env0O, pBor, pBorT, pAppT, pAsgT, pParT, pTake, pSeqN, pRetT, pRetO, pRetC, eBv, eBv1, eBv2, eOt, eOt1, eNo0, eNo1, eNo2, eTld, eLf1, eLf2, eIsi, eq_self,
  e_cnt0, e_cnt1, e_cnt2, e_cnt3, e_cnt4, e_cnt5, e_cnt6, e_cnt7, e_cnt8, e_cnt9, e_enter, e_reset, e_parts, e_walk, e_tally, e_check_machine, e_Machine, e_made, e_big_of, e_big, e_value_of, e_plain, e_check_any, e_check_big, e_check_bigs, e_is_compact, e_sign, e_bits, e_digits, e_bit_length, e_is_digits, e_Big, e_source_of, e_next, e_one, e_d_source, e_d_draw, e_d_pick, e_cell_at, e_counted,
  List.map_cons, List.map_nil, List.length_cons, List.length_nil, List.cons_append, List.nil_append, List.append_nil, List.replicate_succ, List.replicate_zero, List.set_cons_zero, List.set_cons_succ, List.getElem?_cons_zero, List.getElem?_cons_succ, List.getD_cons_zero, List.getD_cons_succ, Nat.reduceSub, Nat.reduceAdd, Bool.not_true, Bool.not_false, Bool.false_eq_true, reduceIte, reduceCtorEq, true_and, and_true, decide_eq_true_eq, Bool.not_eq_true, Bool.not_eq_eq_eq_not, decide_eq_false_iff_not, Bool.not_not])
local macro_rules | `(tactic| walk_at "mo") => `(tactic| repeat (first | exact mo_var | exact mo_c | exact moq_I | exact moq_I0 | exact moq_eq | exact moq_ne | exact mo_nil | refine mo_op ?_ ?_ ?_ | refine mo_neg ?_ | refine mo_test ?_ | refine mo_not ?_ | refine mo_and ?_ ?_ | refine mo_or ?_ ?_ | refine mo_if ?_ ?_ ?_ | refine mo_cons ?_ ?_ | refine mo_tup ?_ | refine mo_fz ?_ | refine mo_lst ?_))
local macro_rules | `(tactic| walk_at "px") => `(tactic| (walk_at "pu"; (try simp only [eBl, pIsO, pCallE, pRaiseF, pMkL, pCloM, pCloB, pLam1, pRfr, lstV, lcp_cons, lcp_nil, pTryA, askAt, pCla, pSu, pXf, noP, bdX, bdE, gDrop, gRet, gAsg, eKd0, eKd1, eKd2, eKd3, eKd4, eKd5, eKd6, eKd7, eKd8, rfr, rfr1]); walk_at "pu"))
theorem dN_len (ds : List Nat) : (dN ds).length = ds.length := by unfold dN; rw [List.length_map]
theorem dN_at {ds : List Nat} {n : Nat} {i : Int} {d : Nat} (hi : i = (n : Int)) (h : ds[n]? = some d) : atI (dN ds) i = some (.int (d : Int)) := by
  subst hi
  refine at_nat ?_
  unfold dN
  rw [List.getElem?_map, h]; rfl
theorem val_take (b : Nat) (ds : List Nat) (i : Nat) : val b (ds.take (i + 1)) = val b (ds.take i) + 2 ^ (b * i) * ds.getD i 0 := by
  rw [List.take_succ, val_app]
  by_cases h : i < ds.length
  · rw [List.getElem?_eq_getElem h, List.length_take, Nat.min_eq_left (Nat.le_of_lt h), List.getD_eq_getElem?_getD, List.getElem?_eq_getElem h]
    simp [val]
  · rw [List.getElem?_eq_none_iff.mpr (by omega), List.getD_eq_getElem?_getD, List.getElem?_eq_none_iff.mpr (by omega)]
    simp [val]
theorem val_snoc (b : Nat) (es : List Nat) (d : Nat) : val b (es ++ [d]) = val b es + 2 ^ (b * es.length) * d := by
  rw [val_app]; simp [val]
theorem Digs.snoc {b : Nat} {es : List Nat} {d : Nat} (h : Digs b es) (hd : d < 2 ^ b) : Digs b (es ++ [d]) := fun x hx => by
  rcases List.mem_append.mp hx with z | z
  · exact h x z
  · rw [List.mem_singleton.mp z]; exact hd
theorem Digs.getD {b : Nat} {ds : List Nat} (h : Digs b ds) (i : Nat) : ds.getD i 0 < 2 ^ b := by
  rw [List.getD_eq_getElem?_getD]
  cases e : ds[i]? with
  | none => exact Nat.two_pow_pos b
  | some d => exact h d (List.mem_of_getElem? e)
/-- a list or a tuple of digits -/
def IsRow (d : Dat) (xs : List Nat) : Prop := d = .tup (dN xs) ∨ d = .lst (dN xs)
theorem IsRow.len {d : Dat} {xs : List Nat} (h : IsRow d xs) {k : Dat → Prop} : qLen [d] k = k (.int (xs.length : Nat)) := by
  rcases h with rfl | rfl
  · rw [eLen2, dN_len]
  · rw [eLen1, dN_len]
theorem IsRow.seq {d : Dat} {xs : List Nat} (h : IsRow d xs) {k : List Dat → Prop} : seqOf d k = k (dN xs) := by
  rcases h with rfl | rfl <;> rfl
/-- a tally as pairs -/
def tal (ns : List Int) : List (Str × Int) := List.zipWith Prod.mk words ns
theorem dRows_tal (ns : List Int) : dRows ns = (tal ns).map dP := by
  unfold dRows tal
  rw [List.map_zipWith]
  rfl
theorem tal_len {ns : List Int} : (tal ns).length ≤ 10 := by
  unfold tal
  rw [List.length_zipWith]
  have : words.length = 10 := by decide +kernel
  omega
/-- how far the digits of a shifted number are found: es, and what goes over -/
structure ShlS (b low : Nat) (xs es : List Nat) (r i : Nat) : Prop where
  len : es.length = i
  dig : Digs b es
  lt : r < 2 ^ low
  eq : val b es + 2 ^ (b * i) * r = 2 ^ low * val b (xs.take i)
theorem ShlS.zero (b low : Nat) (xs : List Nat) : ShlS b low xs [] 0 0 := ⟨rfl, (fun _ z => nomatch z), Nat.two_pow_pos _, by simp [val]⟩
theorem ShlS.step {b low : Nat} {xs es : List Nat} {r i : Nat} (h : ShlS b low xs es r i) (hx : Digs b xs) : ShlS b low xs (es ++ [(r + xs.getD i 0 * 2 ^ low) % 2 ^ b]) ((r + xs.getD i 0 * 2 ^ low) / 2 ^ b) (i + 1) := by
  have h1 := hx.getD i
  have hp := Nat.two_pow_pos b
  have hr := h.lt
  refine ⟨by rw [List.length_append, h.len]; rfl, h.dig.snoc (Nat.mod_lt _ hp), ?_, ?_⟩
  · apply Nat.div_lt_of_lt_mul
    have : (xs.getD i 0 + 1) * 2 ^ low ≤ 2 ^ b * 2 ^ low := Nat.mul_le_mul_right _ h1
    rw [Nat.add_mul] at this
    omega
  · rw [val_snoc, val_take, h.len, Nat.mul_add (2 ^ low), ← h.eq]
    have e2 := Nat.mod_add_div (r + xs.getD i 0 * 2 ^ low) (2 ^ b)
    generalize (r + xs.getD i 0 * 2 ^ low) % 2 ^ b = q at e2
    generalize (r + xs.getD i 0 * 2 ^ low) / 2 ^ b = p at e2
    rw [Nat.mul_succ, Nat.pow_add, Nat.mul_assoc]
    have e3 : 2 ^ (b * i) * q + 2 ^ (b * i) * (2 ^ b * p) = 2 ^ (b * i) * r + 2 ^ (b * i) * (xs.getD i 0 * 2 ^ low) := by
      rw [← Nat.mul_add, e2, Nat.mul_add]
    have e4 : 2 ^ low * (2 ^ (b * i) * xs.getD i 0) = 2 ^ (b * i) * (xs.getD i 0 * 2 ^ low) := by
      rw [Nat.mul_left_comm, Nat.mul_comm (2 ^ low)]
    omega
/-- how far the digits of a shifted number are found: es, and what goes over -/
structure ShrS (b hi r0 : Nat) (xs es : List Nat) (r i : Nat) : Prop where
  len : es.length = i
  dig : Digs b es
  lt : r < 2 ^ b
  eq : val b es + 2 ^ (b * i) * r = r0 + 2 ^ hi * val b (xs.take i)
theorem ShrS.zero {b hi r0 : Nat} {xs : List Nat} (h : r0 < 2 ^ b) : ShrS b hi r0 xs [] r0 0 := ⟨rfl, (fun _ z => nomatch z), h, by simp [val]⟩
theorem ShrS.step {b hi r0 : Nat} {xs es : List Nat} {r i : Nat} (h : ShrS b hi r0 xs es r i) (hx : Digs b xs) (hh : hi ≤ b) : ShrS b hi r0 xs (es ++ [(r + xs.getD i 0 * 2 ^ hi) % 2 ^ b]) ((r + xs.getD i 0 * 2 ^ hi) / 2 ^ b) (i + 1) := by
  have h1 := hx.getD i
  have hp := Nat.two_pow_pos b
  have hr := h.lt
  refine ⟨by rw [List.length_append, h.len]; rfl, h.dig.snoc (Nat.mod_lt _ hp), ?_, ?_⟩
  · apply Nat.div_lt_of_lt_mul
    have h2 : xs.getD i 0 * 2 ^ hi ≤ xs.getD i 0 * 2 ^ b := Nat.mul_le_mul_left _ (Nat.pow_le_pow_right (by decide) hh)
    have h3 : (xs.getD i 0 + 1) * 2 ^ b ≤ 2 ^ b * 2 ^ b := Nat.mul_le_mul_right _ h1
    rw [Nat.add_mul] at h3
    omega
  · rw [val_snoc, val_take, h.len, Nat.mul_add (2 ^ hi), ← Nat.add_assoc, ← h.eq]
    have e2 := Nat.mod_add_div (r + xs.getD i 0 * 2 ^ hi) (2 ^ b)
    generalize (r + xs.getD i 0 * 2 ^ hi) % 2 ^ b = q at e2
    generalize (r + xs.getD i 0 * 2 ^ hi) / 2 ^ b = p at e2
    rw [Nat.mul_succ, Nat.pow_add, Nat.mul_assoc]
    have e3 : 2 ^ (b * i) * q + 2 ^ (b * i) * (2 ^ b * p) = 2 ^ (b * i) * r + 2 ^ (b * i) * (xs.getD i 0 * 2 ^ hi) := by
      rw [← Nat.mul_add, e2, Nat.mul_add]
    have e4 : 2 ^ hi * (2 ^ (b * i) * xs.getD i 0) = 2 ^ (b * i) * (xs.getD i 0 * 2 ^ hi) := by
      rw [Nat.mul_left_comm, Nat.mul_comm (2 ^ hi)]
    omega
theorem LD.uniq {ds es : List Nat} {p q : Nat} (h1 : LD ds es p) (h2 : LD ds es q) : p = q := by
  rcases Nat.lt_trichotomy p q with h | h | h
  · rcases h2.differ with z | z
    · omega
    · exact absurd (h1.alike (q - 1) (by omega)) z
  · exact h
  · rcases h1.differ with z | z
    · omega
    · exact absurd (h2.alike (p - 1) (by omega)) z
/-- how far the digits of a sum are found: es, and what goes over -/
structure AddS (b : Nat) (xs ys es : List Nat) (c i : Nat) : Prop where
  len : es.length = i
  dig : Digs b es
  le : c ≤ 1
  eq : val b es + 2 ^ (b * i) * c = val b (xs.take i) + val b (ys.take i)
theorem AddS.zero (b : Nat) (xs ys : List Nat) : AddS b xs ys [] 0 0 := ⟨rfl, (fun _ z => nomatch z), Nat.zero_le _, by simp [val]⟩
theorem AddS.step {b : Nat} {xs ys es : List Nat} {c i : Nat} (h : AddS b xs ys es c i) (hx : Digs b xs) (hy : Digs b ys) : AddS b xs ys (es ++ [(c + xs.getD i 0 + ys.getD i 0) % 2 ^ b]) ((c + xs.getD i 0 + ys.getD i 0) / 2 ^ b) (i + 1) := by
  have h1 := hx.getD i
  have h2 := hy.getD i
  have hp := Nat.two_pow_pos b
  have hc := h.le
  refine ⟨by rw [List.length_append, h.len]; rfl, h.dig.snoc (Nat.mod_lt _ hp), ?_, ?_⟩
  · have : c + xs.getD i 0 + ys.getD i 0 < 2 * 2 ^ b := by omega
    have := Nat.div_lt_of_lt_mul (show c + xs.getD i 0 + ys.getD i 0 < 2 ^ b * 2 by omega)
    omega
  · rw [val_snoc, val_take, val_take, h.len]
    have e1 := h.eq
    have e2 := Nat.mod_add_div (c + xs.getD i 0 + ys.getD i 0) (2 ^ b)
    generalize (c + xs.getD i 0 + ys.getD i 0) % 2 ^ b = r at e2
    generalize (c + xs.getD i 0 + ys.getD i 0) / 2 ^ b = q at e2
    rw [Nat.mul_succ, Nat.pow_add, Nat.mul_assoc]
    have e3 : 2 ^ (b * i) * r + 2 ^ (b * i) * (2 ^ b * q) = 2 ^ (b * i) * c + 2 ^ (b * i) * xs.getD i 0 + 2 ^ (b * i) * ys.getD i 0 := by
      rw [← Nat.mul_add, e2, Nat.mul_add, Nat.mul_add]
    omega
structure SubS (b : Nat) (xs ys es : List Nat) (c i : Nat) : Prop where
  len : es.length = i
  dig : Digs b es
  le : c ≤ 1
  eq : val b es + val b (ys.take i) = val b (xs.take i) + 2 ^ (b * i) * c
theorem SubS.zero (b : Nat) (xs ys : List Nat) : SubS b xs ys [] 0 0 := ⟨rfl, (fun _ z => nomatch z), Nat.zero_le _, by simp [val]⟩
theorem SubS.step {b : Nat} {xs ys es : List Nat} {c i : Nat} {z : Int} (h : SubS b xs ys es c i) (hx : Digs b xs) (hy : Digs b ys) (hz : z = (xs.getD i 0 : Nat) - (ys.getD i 0 : Nat) - (c : Nat)) :
    ∃ r : Nat, z % ((2 ^ b : Nat) : Int) = (r : Int) ∧ SubS b xs ys (es ++ [r]) (if z < 0 then 1 else 0) (i + 1) := by
  have h1 := hx.getD i
  have h2 := hy.getD i
  have hp := Nat.two_pow_pos b
  have hc := h.le
  have m0 : 0 ≤ z % ((2 ^ b : Nat) : Int) := Int.emod_nonneg _ (by omega)
  have m1 : z % ((2 ^ b : Nat) : Int) < ((2 ^ b : Nat) : Int) := Int.emod_lt_of_pos _ (by omega)
  have m2 : z % ((2 ^ b : Nat) : Int) = z + (if z < 0 then ((2 ^ b : Nat) : Int) else 0) := by
    by_cases hz0 : z < 0
    · rw [if_pos hz0]
      have : z % ((2 ^ b : Nat) : Int) = (z + ((2 ^ b : Nat) : Int)) % ((2 ^ b : Nat) : Int) := by rw [Int.add_emod_right]
      rw [this]
      exact Int.emod_eq_of_lt (by omega) (by omega)
    · rw [if_neg hz0, Int.add_zero]
      exact Int.emod_eq_of_lt (by omega) (by omega)
  refine ⟨(z % ((2 ^ b : Nat) : Int)).toNat, by omega, ⟨by rw [List.length_append, h.len]; rfl, h.dig.snoc (by omega), by split <;> omega, ?_⟩⟩
  rw [val_snoc, val_take, val_take, h.len]
  have e1 := h.eq
  have e2 : (z % ((2 ^ b : Nat) : Int)).toNat + ys.getD i 0 + c = xs.getD i 0 + 2 ^ b * (if z < 0 then 1 else 0) := by
    by_cases hz0 : z < 0
    · rw [if_pos hz0] at m2 ⊢; omega
    · rw [if_neg hz0] at m2 ⊢; omega
  generalize (z % ((2 ^ b : Nat) : Int)).toNat = r at e2
  generalize (if z < 0 then 1 else 0) = q at e2
  rw [Nat.mul_succ, Nat.pow_add, Nat.mul_assoc]
  have e3 : 2 ^ (b * i) * r + 2 ^ (b * i) * ys.getD i 0 + 2 ^ (b * i) * c = 2 ^ (b * i) * xs.getD i 0 + 2 ^ (b * i) * (2 ^ b * q) := by
    rw [← Nat.mul_add, ← Nat.mul_add, e2, Nat.mul_add]
  omega
/-- what taking counts -/
def takeM (m : Mach) (xs ys : List Nat) (p : Nat) : Mach :=
  if xs.length = ys.length then
    (if p = 0 then (m.ent "take" xs.length ys.length).cnt 9 ((xs.length : Int) - (if p = 0 then 0 else (p : Int) - 1))
     else ((m.ent "take" xs.length ys.length).cnt 9 ((xs.length : Int) - (if p = 0 then 0 else (p : Int) - 1))).cnt 1 (p : Int))
  else (m.ent "take" xs.length ys.length).cnt 1 (max xs.length ys.length : Nat)
theorem LD.symm {ds es : List Nat} {p : Nat} (h : LD ds es p) (hl : ds.length = es.length) : LD es ds p := ⟨by rw [← hl]; exact h.le, fun i hi => (h.alike i hi).symm, by
  rcases h.differ with z | z
  · exact .inl z
  · exact .inr fun q => z q.symm⟩
/-- what a sum (or a difference) counts -/
def sumM (m : Mach) (isSum : Bool) (n n' : Int) (p : Nat) : Mach :=
  if (digs m.b n.natAbs).length ≤ 1 ∧ (digs m.b n'.natAbs).length ≤ 1 then m.cnt 0 1
  else if (decide (n < 0) == decide (n' < 0)) = isSum then (m.ent "add" (digs m.b n.natAbs).length (digs m.b n'.natAbs).length).cnt 1 (max (digs m.b n.natAbs).length (digs m.b n'.natAbs).length : Nat)
  else if n < 0 then takeM m (digs m.b n'.natAbs) (digs m.b n.natAbs) p else takeM m (digs m.b n.natAbs) (digs m.b n'.natAbs) p
theorem p_ex (ds es : List Nat) : ∃ p, ds.length = es.length → LD ds es p := by
  by_cases e : ds.length = es.length
  · obtain ⟨p, hp⟩ := LD.ex _ _ e
    exact ⟨p, fun _ => hp⟩
  · exact ⟨0, fun z => absurd z e⟩
/-- where two rows of one length begin to differ, from above -/
noncomputable def ldP (xs ys : List Nat) : Nat := Classical.choose (p_ex xs ys)
noncomputable def sumX (m : Mach) (isSum : Bool) (n n' : Int) : Mach := sumM m isSum n n' (ldP (digs m.b n.natAbs) (digs m.b n'.natAbs))
/-- a row lifted by low bits: its digits, and what goes over -/
structure Lift (b low : Nat) (xs es : List Nat) (r : Nat) : Prop where
  len : es.length = xs.length
  dig : Digs b es
  lt : r < 2 ^ low
  eq : val b es + 2 ^ (b * xs.length) * r = 2 ^ low * val b xs
/-- a row lowered by low bits: its digits, and the remainder -/
structure Lower (b low : Nat) (xs es : List Nat) (r : Nat) : Prop where
  len : es.length = xs.length
  dig : Digs b es
  lt : r < 2 ^ low
  eq : 2 ^ low * val b es + r = val b xs
/-- how far a row is lowered -/
structure LowS (b low : Nat) (ys fs : List Nat) (r i : Nat) : Prop where
  len : fs.length = i
  dig : Digs b fs
  lt : r < 2 ^ low
  eq : 2 ^ low * val b fs.reverse + r = val b (ys.take i).reverse
theorem LowS.zero (b low : Nat) (ys : List Nat) : LowS b low ys [] 0 0 := ⟨rfl, (fun _ z => nomatch z), Nat.two_pow_pos _, by simp [val]⟩
theorem LowS.step {b low : Nat} {ys fs : List Nat} {r i d : Nat} (h : LowS b low ys fs r i) (hd : d < 2 ^ b) (hi : ys[i]? = some d) : LowS b low ys (fs ++ [(r * 2 ^ b + d) / 2 ^ low]) ((r * 2 ^ b + d) % 2 ^ low) (i + 1) := by
  have hr := h.lt
  have hp := Nat.two_pow_pos low
  refine ⟨by rw [List.length_append, h.len]; rfl, h.dig.snoc ?_, Nat.mod_lt _ hp, ?_⟩
  · apply Nat.div_lt_of_lt_mul
    have : (r + 1) * 2 ^ b ≤ 2 ^ low * 2 ^ b := Nat.mul_le_mul_right _ hr
    rw [Nat.add_mul] at this
    omega
  · rw [List.take_succ, hi]
    simp only [Option.toList, List.reverse_append, List.reverse_cons, List.reverse_nil, List.nil_append, List.cons_append]
    rw [val_cons, val_cons, ← h.eq]
    have e2 := Nat.mod_add_div (r * 2 ^ b + d) (2 ^ low)
    generalize (r * 2 ^ b + d) % 2 ^ low = q at e2
    generalize (r * 2 ^ b + d) / 2 ^ low = p at e2
    rw [Nat.mul_add, Nat.mul_add, Nat.mul_left_comm (2 ^ b) (2 ^ low), Nat.mul_comm (2 ^ b) r]
    omega
/-- the world w, with the machine i at any counts -/
def Up (w : Wld) (i b : Nat) (W : Wld) : Prop := (∃ m0, w.ms[i]? = some m0) ∧ ∃ m, m.b = b ∧ W = w.put i m
theorem Up.refl {w : Wld} {i : Nat} {m : Mach} (h : w.ms[i]? = some m) : Up w i m.b w := ⟨⟨m, h⟩, m, rfl, (put_self h).symm⟩
theorem Up.go {w W : Wld} {i b : Nat} {m : Mach} (h : Up w i b W) (hb : m.b = b) : Up w i b (W.put i m) := by
  obtain ⟨h0, m1, h1, rfl⟩ := h
  exact ⟨h0, m, hb, by rw [put_put]⟩
theorem Up.trans {w W W' : Wld} {i b : Nat} (h : Up w i b W) (h' : Up W i b W') : Up w i b W' := by
  obtain ⟨_, m, hb, rfl⟩ := h'
  exact h.go hb
theorem Up.ss {w W : Wld} {i b : Nat} (h : Up w i b W) : W.ss = w.ss := by
  obtain ⟨_, m, _, rfl⟩ := h
  rfl
theorem val_inj {b : Nat} : ∀ {xs ys : List Nat}, Digs b xs → Digs b ys → xs.length = ys.length → val b xs = val b ys → xs = ys
  | [], [], _, _, _, _ => rfl
  | x :: xs, y :: ys, hx, hy, hl, hv => by
    rw [val_cons, val_cons] at hv
    have h1 := hx x List.mem_cons_self
    have h2 := hy y List.mem_cons_self
    have hp := Nat.two_pow_pos b
    have e1 : x = y := by
      have := congrArg (· % 2 ^ b) hv
      simp only [Nat.add_mul_mod_self_left] at this
      rwa [Nat.mod_eq_of_lt h1, Nat.mod_eq_of_lt h2] at this
    subst e1
    have e2 : val b xs = val b ys := Nat.eq_of_mul_eq_mul_left hp (by omega)
    rw [val_inj (fun d h => hx d (List.mem_cons_of_mem _ h)) (fun d h => hy d (List.mem_cons_of_mem _ h)) (by simpa using hl) e2]
theorem Lift.all {b low N : Nat} {es : List Nat} {r : Nat} (hb : b ≠ 0) (hlo : low ≤ b) (h : Lift b low (digs b N) es r) : es ++ (if 0 < r then [r] else []) = digs b (N * 2 ^ low) := by
  have hv := val_digs hb N
  have he := h.eq
  rw [hv] at he
  have hlen := h.len
  have hrb : r < 2 ^ b := Nat.lt_of_lt_of_le h.lt (Nat.pow_le_pow_right (by decide) hlo)
  have key : Digs b (es ++ (if 0 < r then [r] else [])) ∧ Norm (es ++ (if 0 < r then [r] else [])) ∧ val b (es ++ (if 0 < r then [r] else [])) = N * 2 ^ low := by
    by_cases hr : 0 < r
    · rw [if_pos hr]
      refine ⟨h.dig.snoc hrb, strip_app_ne es (by omega), ?_⟩
      rw [val_snoc, hlen, he, Nat.mul_comm]
    · rw [if_neg hr, List.append_nil]
      have hr0 : r = 0 := by omega
      rw [hr0, Nat.mul_zero, Nat.add_zero] at he
      refine ⟨h.dig, ?_, by rw [he, Nat.mul_comm]⟩
      rcases List.eq_nil_or_concat es with z | ⟨es', d, z⟩
      · rw [z]; rfl
      · rw [List.concat_eq_append] at z
        subst z
        rw [List.length_append, List.length_cons, List.length_nil] at hlen
        refine strip_app_ne es' fun d0 => ?_
        have hlow := digs_lower (l := es'.length) (n := N) hb (by omega)
        have hd' : Digs b es' := fun x hx => h.dig x (List.mem_append_left _ hx)
        have hlt := val_lt hd'
        rw [val_snoc, d0, Nat.mul_zero, Nat.add_zero] at he
        have : 1 * N ≤ 2 ^ low * N := Nat.mul_le_mul_right _ (Nat.two_pow_pos low)
        omega
  rw [← key.2.2, digs_val hb key.1 key.2.1]
theorem Lift.back {b low N : Nat} {es fs : List Nat} {r r2 : Nat} (hb : b ≠ 0) (hlo : low ≤ b) (h : Lift b low (digs b N) es r) (h2 : Lower b low (es ++ [r]) fs r2) : fs = digs b N ++ [0] ∧ r2 = 0 := by
  have he := h.eq
  have he2 := h2.eq
  rw [val_snoc, h.len, he] at he2
  have hp := Nat.two_pow_pos low
  have r0 : r2 = 0 := by
    have := congrArg (· % 2 ^ low) he2
    simp only [Nat.mul_add_mod, Nat.mul_mod_right] at this
    rwa [Nat.mod_eq_of_lt h2.lt] at this
  refine ⟨val_inj h2.dig ((digs_lt hb N).snoc (Nat.two_pow_pos b)) ?_ ?_, r0⟩
  · rw [h2.len, List.length_append, List.length_append, h.len]; rfl
  · rw [val_snoc, Nat.mul_zero, Nat.add_zero]
    exact Nat.eq_of_mul_eq_mul_left hp (by omega)
theorem Lift.none {b : Nat} {xs es : List Nat} {r : Nat} (h : Lift b 0 xs es r) (hx : Digs b xs) : es = xs ∧ r = 0 := by
  have h1 := h.lt
  have r0 : r = 0 := by simp at h1; exact h1
  have he := h.eq
  rw [r0] at he
  simp at he
  exact ⟨val_inj h.dig hx h.len he, r0⟩
theorem val_div {b : Nat} {ds : List Nat} (h : Digs b ds) (i : Nat) : val b ds / 2 ^ (b * i) = val b (ds.drop i) := by
  by_cases hi : i ≤ ds.length
  · have e := val_app b (ds.take i) (ds.drop i)
    rw [List.take_append_drop, List.length_take, Nat.min_eq_left hi] at e
    have hl : val b (ds.take i) < 2 ^ (b * i) := by
      have := val_lt (b := b) (ds := ds.take i) (fun d hd => h d (List.mem_of_mem_take hd))
      rw [List.length_take, Nat.min_eq_left hi] at this
      exact this
    rw [e, Nat.add_mul_div_left _ _ (Nat.two_pow_pos _), Nat.div_eq_of_lt hl, Nat.zero_add]
  · rw [List.drop_eq_nil_of_le (by omega), val_nil]
    refine Nat.div_eq_of_lt (Nat.lt_of_lt_of_le (val_lt h) (Nat.pow_le_pow_right (by decide) (Nat.mul_le_mul_left _ (by omega))))
theorem val_dig {b : Nat} {ds : List Nat} (h : Digs b ds) (i : Nat) : ds.getD i 0 = val b ds / 2 ^ (b * i) % 2 ^ b := by
  rw [val_div h]
  by_cases hi : i < ds.length
  · rw [List.drop_eq_getElem_cons hi, val_cons, Nat.add_mul_mod_self_left, List.getD_eq_getElem?_getD, List.getElem?_eq_getElem hi]
    exact (Nat.mod_eq_of_lt (h _ (List.getElem_mem hi))).symm
  · rw [List.drop_eq_nil_of_le (by omega), val_nil, Nat.zero_mod, List.getD_eq_getElem?_getD, List.getElem?_eq_none_iff.mpr (by omega)]
    rfl
theorem kn_init {X D h two P q : Nat} (hD : h * P ≤ D) (hX : X < (two + 1) * P) (hq : q * D ≤ X) : q * h ≤ two := by
  have h1 : q * h * P ≤ q * D := by rw [Nat.mul_assoc]; exact Nat.mul_le_mul_left _ hD
  have h2 : q * h * P < (two + 1) * P := by omega
  have := Nat.lt_of_mul_lt_mul_right h2
  omega
theorem kn_step {X D h s two t P B g left : Nat} (hD : (h * B + s) * P ≤ D) (hX : X < (two * B + t + 1) * P) (hl : left + g * h = two) (hc : left * B + t < s * g) : ¬ g * D ≤ X := fun hq => by
  have h1 : g * (h * B + s) * P ≤ g * D := by rw [Nat.mul_assoc]; exact Nat.mul_le_mul_left _ hD
  have h2 : g * (h * B + s) * P < (two * B + t + 1) * P := by omega
  have h3 := Nat.lt_of_mul_lt_mul_right h2
  rw [← hl, Nat.add_mul, Nat.mul_add, ← Nat.mul_assoc, Nat.mul_comm g s] at h3
  omega
theorem kn_end1 {X D D0 h s two t P B g left : Nat} (hD : D = (h * B + s) * P + D0) (hX : (two * B + t) * P ≤ X) (hl : left + g * h = two) (hc : s * g ≤ left * B + t) : g * D ≤ X + g * D0 := by
  have h1 : g * (h * B + s) ≤ two * B + t := by
    rw [← hl, Nat.add_mul, Nat.mul_add, ← Nat.mul_assoc, Nat.mul_comm g s]
    omega
  have h2 : g * (h * B + s) * P ≤ (two * B + t) * P := Nat.mul_le_mul_right _ h1
  rw [hD, Nat.mul_add, ← Nat.mul_assoc]
  omega
theorem kn_end2 {X D h two P B g left : Nat} (hD : D ≤ (h + 1) * P) (hX : two * P ≤ X) (hl : left + g * h = two) (hg : g ≤ B) (hc : B ≤ left) : g * D ≤ X := by
  have h1 : g * D ≤ g * ((h + 1) * P) := Nat.mul_le_mul_left _ hD
  have h2 : g * ((h + 1) * P) = (g * h + g) * P := by rw [← Nat.mul_assoc, Nat.mul_add, Nat.mul_one]
  have h3 : (g * h + g) * P ≤ two * P := Nat.mul_le_mul_right _ (by omega)
  omega
/-- the divisor's last two digits -/
def hiD (b n D : Nat) : Nat := D / 2 ^ (b * (n - 1))
def seD (b n D : Nat) : Nat := D / 2 ^ (b * (n - 2)) % 2 ^ b
/-- what is left, its two last digits together, the third one -/
def twD (b n R st : Nat) : Nat := R / 2 ^ (b * (st + n - 1))
def thD (b n R st : Nat) : Nat := R / 2 ^ (b * (st + n - 2)) % 2 ^ b
def gsD (b n D R st : Nat) : Nat := twD b n R st / hiD b n D
def lfD (b n D R st : Nat) : Nat := twD b n R st % hiD b n D
/-- a guess that is too great by the third digit, corrected c times -/
def tooD (b n D R st c : Nat) : Prop := lfD b n D R st + c * hiD b n D < 2 ^ b ∧ (lfD b n D R st + c * hiD b n D) * 2 ^ b + thD b n R st < seD b n D * (gsD b n D R st - c)
instance (b n D R st c : Nat) : Decidable (tooD b n D R st c) := by unfold tooD; infer_instance
def coD (b n D R st : Nat) : Nat := if tooD b n D R st 0 then (if tooD b n D R st 1 then 2 else 1) else 0
def qD (b D R st : Nat) : Nat := R / (D * 2 ^ (b * st))
def bkD (b n D R st : Nat) : Bool := decide (qD b D R st < gsD b n D R st - coD b n D R st)
/-- what a divisor and a dividend keep -/
structure Kn (b n D R st : Nat) : Prop where
  b8 : 8 ≤ b
  n2 : 2 ≤ n
  d1 : 2 ^ (b * n) ≤ 2 * D
  d2 : D < 2 ^ (b * n)
  r : R < D * 2 ^ (b * (st + 1))
section
variable {b n D R st : Nat}
theorem pow_split (b i j : Nat) : 2 ^ (b * (i + j)) = 2 ^ (b * i) * 2 ^ (b * j) := by rw [Nat.mul_add, Nat.pow_add]
theorem Kn.pn (K : Kn b n D R st) : 2 ^ (b * n) = 2 ^ (b * (n - 1)) * 2 ^ b := by
  have := pow_split b (n - 1) 1
  rw [Nat.mul_one, show n - 1 + 1 = n by have := K.n2; omega] at this
  exact this
theorem Kn.pn2 (K : Kn b n D R st) : 2 ^ (b * (n - 1)) = 2 ^ b * 2 ^ (b * (n - 2)) := by
  have := pow_split b 1 (n - 2)
  rw [Nat.mul_one, show 1 + (n - 2) = n - 1 by have := K.n2; omega] at this
  exact this
theorem Kn.h1 (K : Kn b n D R st) : 2 ^ b ≤ 2 * hiD b n D := by
  have h := K.d1
  rw [K.pn, Nat.mul_comm _ (2 ^ b)] at h
  have hp := Nat.two_pow_pos (b * (n - 1))
  have e : 2 ^ b = 2 * 2 ^ (b - 1) := by
    rw [← Nat.pow_succ', show (b - 1).succ = b by have := K.b8; omega]
  rw [e, Nat.mul_assoc] at h
  unfold hiD
  have := (Nat.le_div_iff_mul_le hp (x := 2 ^ (b - 1)) (y := D)).mpr (by omega)
  omega
theorem Kn.h2 (K : Kn b n D R st) : hiD b n D < 2 ^ b := by
  have h := K.d2
  rw [K.pn] at h
  unfold hiD
  exact Nat.div_lt_of_lt_mul h
theorem Kn.b256 (K : Kn b n D R st) : 256 ≤ 2 ^ b := by
  have : 2 ^ 8 ≤ 2 ^ b := Nat.pow_le_pow_right (by decide) K.b8
  omega
/-- the divisor by its parts -/
theorem Kn.dEq (K : Kn b n D R st) : D = (hiD b n D * 2 ^ b + seD b n D) * 2 ^ (b * (n - 2)) + D % 2 ^ (b * (n - 2)) := by
  have e1 := Nat.div_add_mod D (2 ^ (b * (n - 2)))
  have e2 := Nat.div_add_mod (D / 2 ^ (b * (n - 2))) (2 ^ b)
  have e3 : D / 2 ^ (b * (n - 2)) / 2 ^ b = hiD b n D := by
    unfold hiD
    rw [Nat.div_div_eq_div_mul, K.pn2, Nat.mul_comm (2 ^ b)]
  unfold seD
  rw [e3, Nat.mul_comm (2 ^ b)] at e2
  rw [e2, Nat.mul_comm _ (2 ^ (b * (n - 2)))]
  exact e1.symm
theorem Kn.dP (K : Kn b n D R st) : hiD b n D * 2 ^ (b * (n - 1)) ≤ D ∧ D < (hiD b n D + 1) * 2 ^ (b * (n - 1)) := by
  have e1 := Nat.div_add_mod D (2 ^ (b * (n - 1)))
  have hm := Nat.mod_lt D (Nat.two_pow_pos (b * (n - 1)))
  unfold hiD
  rw [Nat.mul_comm] at e1
  rw [Nat.add_mul]
  omega
/-- what is left, from its place on -/
theorem Kn.X (K : Kn b n D R st) : R / 2 ^ (b * st) < D * 2 ^ b ∧ twD b n R st * 2 ^ (b * (n - 1)) ≤ R / 2 ^ (b * st) ∧ R / 2 ^ (b * st) < (twD b n R st + 1) * 2 ^ (b * (n - 1))
    ∧ (twD b n R st * 2 ^ b + thD b n R st) * 2 ^ (b * (n - 2)) ≤ R / 2 ^ (b * st) ∧ R / 2 ^ (b * st) < (twD b n R st * 2 ^ b + thD b n R st + 1) * 2 ^ (b * (n - 2)) := by
  have hn := K.n2
  have t1 : twD b n R st = R / 2 ^ (b * st) / 2 ^ (b * (n - 1)) := by
    unfold twD
    rw [Nat.div_div_eq_div_mul, ← pow_split, show st + (n - 1) = st + n - 1 by omega]
  have t2 : R / 2 ^ (b * (st + n - 2)) = R / 2 ^ (b * st) / 2 ^ (b * (n - 2)) := by
    rw [Nat.div_div_eq_div_mul, ← pow_split, show st + (n - 2) = st + n - 2 by omega]
  have t3 : R / 2 ^ (b * (st + n - 2)) / 2 ^ b = twD b n R st := by
    rw [t2, Nat.div_div_eq_div_mul, Nat.mul_comm _ (2 ^ b), ← K.pn2, t1]
  have t4 : twD b n R st * 2 ^ b + thD b n R st = R / 2 ^ (b * st) / 2 ^ (b * (n - 2)) := by
    rw [← t2, ← t3]
    unfold thD
    have := Nat.div_add_mod (R / 2 ^ (b * (st + n - 2))) (2 ^ b)
    rw [Nat.mul_comm] at this
    exact this
  refine ⟨?_, ?_, ?_, ?_, ?_⟩
  · have h := K.r
    rw [pow_split, Nat.mul_one] at h
    refine Nat.div_lt_of_lt_mul ?_
    rw [Nat.mul_left_comm]
    exact h
  · rw [t1]; exact Nat.div_mul_le_self _ _
  · rw [t1]
    have e := Nat.div_add_mod (R / 2 ^ (b * st)) (2 ^ (b * (n - 1)))
    have hm := Nat.mod_lt (R / 2 ^ (b * st)) (Nat.two_pow_pos (b * (n - 1)))
    rw [Nat.add_mul, Nat.mul_comm (R / 2 ^ (b * st) / 2 ^ (b * (n - 1)))]
    omega
  · rw [t4]; exact Nat.div_mul_le_self _ _
  · rw [t4]
    have e := Nat.div_add_mod (R / 2 ^ (b * st)) (2 ^ (b * (n - 2)))
    have hm := Nat.mod_lt (R / 2 ^ (b * st)) (Nat.two_pow_pos (b * (n - 2)))
    rw [Nat.add_mul, Nat.mul_comm (R / 2 ^ (b * st) / 2 ^ (b * (n - 2)))]
    omega
theorem Kn.hp (K : Kn b n D R st) : 0 < hiD b n D := by
  have := K.h1
  have := K.b256
  omega
theorem Kn.D0 (K : Kn b n D R st) : 0 < D := by
  have := K.d1
  have := Nat.two_pow_pos (b * n)
  omega
theorem Kn.q (K : Kn b n D R st) : qD b D R st = R / 2 ^ (b * st) / D := by
  unfold qD
  rw [Nat.div_div_eq_div_mul, Nat.mul_comm]
theorem Kn.left (K : Kn b n D R st) (c : Nat) (hc : c ≤ gsD b n D R st) : lfD b n D R st + c * hiD b n D + (gsD b n D R st - c) * hiD b n D = twD b n R st := by
  have e := Nat.div_add_mod (twD b n R st) (hiD b n D)
  unfold lfD gsD at *
  rw [Nat.add_assoc, ← Nat.add_mul, show c + (twD b n R st / hiD b n D - c) = twD b n R st / hiD b n D by omega, Nat.mul_comm _ (hiD b n D)]
  omega
/-- a guess is never too small -/
theorem Kn.ge (K : Kn b n D R st) (c : Nat) (h : ∀ c' < c, tooD b n D R st c') : qD b D R st + c ≤ gsD b n D R st := by
  have hX := K.X
  have hqX : qD b D R st * D ≤ R / 2 ^ (b * st) := by rw [K.q]; exact Nat.div_mul_le_self _ _
  induction c with
  | zero =>
    unfold gsD
    rw [Nat.add_zero, Nat.le_div_iff_mul_le K.hp]
    exact kn_init K.dP.1 hX.2.2.1 hqX
  | succ c ih =>
    have ih := ih fun c' hc' => h c' (by omega)
    have ht := h c (by omega)
    have hl := K.left c (by omega)
    have hne : ¬ (gsD b n D R st - c) * D ≤ R / 2 ^ (b * st) := kn_step (h := hiD b n D) (s := seD b n D) (two := twD b n R st) (t := thD b n R st) (B := 2 ^ b) (P := 2 ^ (b * (n - 2))) (by have := K.dEq; omega) hX.2.2.2.2 hl ht.2
    have : qD b D R st ≠ gsD b n D R st - c := fun z => hne (z ▸ hqX)
    omega
theorem Kn.tw (K : Kn b n D R st) : gsD b n D R st ≤ 2 ^ b + 1 := by
  have hX := K.X
  have h1 : twD b n R st * 2 ^ (b * (n - 1)) < (hiD b n D + 1) * 2 ^ b * 2 ^ (b * (n - 1)) := by
    have h2 : D * 2 ^ b ≤ (hiD b n D + 1) * 2 ^ (b * (n - 1)) * 2 ^ b := Nat.mul_le_mul_right _ (Nat.le_of_lt K.dP.2)
    have h3 : (hiD b n D + 1) * 2 ^ (b * (n - 1)) * 2 ^ b = (hiD b n D + 1) * 2 ^ b * 2 ^ (b * (n - 1)) := by rw [Nat.mul_assoc, Nat.mul_comm (2 ^ (b * (n - 1))), Nat.mul_assoc]
    omega
  have h4 := Nat.lt_of_mul_lt_mul_right h1
  unfold gsD
  have hh := K.h1
  have hb := K.b256
  have h5 : twD b n R st < hiD b n D * (2 ^ b + 2) := by
    have : (hiD b n D + 1) * 2 ^ b ≤ hiD b n D * (2 ^ b + 2) := by
      rw [Nat.add_mul, Nat.mul_add]
      omega
    omega
  have := Nat.div_lt_of_lt_mul h5
  omega
/-- no further correction -/
theorem Kn.stop (K : Kn b n D R st) : (∀ c < coD b n D R st, tooD b n D R st c) ∧ ¬ tooD b n D R st (coD b n D R st) := by
  unfold coD
  by_cases h0 : tooD b n D R st 0
  · rw [if_pos h0]
    by_cases h1 : tooD b n D R st 1
    · rw [if_pos h1]
      refine ⟨fun c hc => ?_, fun z => ?_⟩
      · match c, hc with
        | 0, _ => exact h0
        | 1, _ => exact h1
      · have := z.1
        have := K.h1
        have := K.b256
        omega
    · rw [if_neg h1]
      refine ⟨fun c hc => ?_, h1⟩
      match c, hc with
      | 0, _ => exact h0
  · rw [if_neg h0]
    exact ⟨(fun c hc => by omega), h0⟩
theorem Kn.main (K : Kn b n D R st) : coD b n D R st ≤ gsD b n D R st ∧ qD b D R st ≤ gsD b n D R st - coD b n D R st ∧ gsD b n D R st - coD b n D R st ≤ qD b D R st + 1 ∧ (n = 2 → gsD b n D R st - coD b n D R st = qD b D R st) := by
  have hge := K.ge _ K.stop.1
  have hX := K.X
  have hD0 := K.D0
  have hb := K.b256
  have hl := K.left (coD b n D R st) (by omega)
  have htw := K.tw
  have hq := K.q
  have hqd : R / 2 ^ (b * st) < (qD b D R st + 1) * D := by
    rw [hq]
    have e := Nat.div_add_mod (R / 2 ^ (b * st)) D
    have hm := Nat.mod_lt (R / 2 ^ (b * st)) hD0
    rw [Nat.add_mul, Nat.mul_comm (R / 2 ^ (b * st) / D)]
    omega
  have fin : ∀ g : Nat, g * D ≤ R / 2 ^ (b * st) → g ≤ qD b D R st := fun g hg => by
    have := Nat.lt_of_mul_lt_mul_right (Nat.lt_of_le_of_lt hg hqd)
    omega
  rcases Decidable.not_and_iff_or_not.mp K.stop.2 with h | h
  · have hco : coD b n D R st ≠ 0 := fun z => by
      rw [z, Nat.zero_mul, Nat.add_zero] at h
      have h1 : lfD b n D R st < hiD b n D := Nat.mod_lt _ K.hp
      have h2 := K.h2
      omega
    have := fin _ (kn_end2 (B := 2 ^ b) (Nat.le_of_lt K.dP.2) hX.2.1 hl (by omega) (by omega))
    exact ⟨by omega, by omega, by omega, fun _ => by omega⟩
  · have h1 := kn_end1 K.dEq hX.2.2.2.1 hl (by omega)
    have hP := Nat.two_pow_pos (b * (n - 2))
    have hm := Nat.mod_lt D hP
    have h2 : (gsD b n D R st - coD b n D R st) * (D % 2 ^ (b * (n - 2))) ≤ D := by
      have hg : gsD b n D R st - coD b n D R st ≤ hiD b n D * 2 ^ b := by
        have h3 : 128 * 2 ^ b ≤ hiD b n D * 2 ^ b := Nat.mul_le_mul_right _ (by have := K.h1; omega)
        omega
      have h4 : (gsD b n D R st - coD b n D R st) * (D % 2 ^ (b * (n - 2))) ≤ hiD b n D * 2 ^ b * 2 ^ (b * (n - 2)) := Nat.mul_le_mul hg (Nat.le_of_lt hm)
      have h5 : hiD b n D * 2 ^ b * 2 ^ (b * (n - 2)) ≤ D := by
        have := K.dEq
        rw [Nat.add_mul] at this
        omega
      omega
    refine ⟨by omega, by omega, ?_, fun e => ?_⟩
    · have h6 : (gsD b n D R st - coD b n D R st - 1) * D ≤ R / 2 ^ (b * st) := by
        rw [Nat.sub_mul, Nat.one_mul]
        omega
      have := fin _ h6
      omega
    · have h7 : D % 2 ^ (b * (n - 2)) = 0 := by
        rw [e]
        show D % 2 ^ (b * 0) = 0
        rw [Nat.mul_zero, Nat.pow_zero, Nat.mod_one]
      rw [h7, Nat.mul_zero, Nat.add_zero] at h1
      have := fin _ h1
      omega
structure TkS (b : Nat) (rs bs : List Nat) (st : Nat) (e : Int) (rs' : List Nat) (c : Int) (p : Nat) : Prop where
  len : rs'.length = rs.length
  dig : Digs b rs'
  up : ∀ i, st + p ≤ i → rs'.getD i 0 = rs.getD i 0
  eq : ((val b (rs'.take (st + p)) : Nat) : Int) + c * ((2 ^ (b * (st + p)) : Nat) : Int) = ((val b (rs.take (st + p)) : Nat) : Int) + e * ((val b (bs.take p) * 2 ^ (b * st) : Nat) : Int)
theorem TkS.zero {rs bs : List Nat} {e : Int} (h : Digs b rs) : TkS b rs bs st e rs 0 0 := ⟨rfl, h, fun _ _ => rfl, by simp [val]⟩
theorem getD_set_self {ds : List Nat} {i x : Nat} (h : i < ds.length) : (ds.set i x).getD i 0 = x := by
  rw [List.getD_eq_getElem?_getD, List.getElem?_set_self h]; rfl
theorem getD_set_ne {ds : List Nat} {i j x : Nat} (h : i ≠ j) : (ds.set i x).getD j 0 = ds.getD j 0 := by
  rw [List.getD_eq_getElem?_getD, List.getElem?_set_ne h, ← List.getD_eq_getElem?_getD]
theorem Digs.set {ds : List Nat} {i x : Nat} (h : Digs b ds) (hx : x < 2 ^ b) : Digs b (ds.set i x) := fun d hd => by
  rcases List.mem_or_eq_of_mem_set hd with z | z
  · exact h d z
  · rw [z]; exact hx
theorem TkS.step {rs bs rs' : List Nat} {e c : Int} {p : Nat} (h : TkS b rs bs st e rs' c p) (hp : st + p < rs.length) :
    TkS b rs bs st e (rs'.set (st + p) ((((rs.getD (st + p) 0 : Nat) : Int) + c + e * ((bs.getD p 0 : Nat) : Int)) % ((2 ^ b : Nat) : Int)).toNat) ((((rs.getD (st + p) 0 : Nat) : Int) + c + e * ((bs.getD p 0 : Nat) : Int)) / ((2 ^ b : Nat) : Int)) (p + 1) := by
  have hB := Nat.two_pow_pos b
  generalize ht : (((rs.getD (st + p) 0 : Nat) : Int) + c + e * ((bs.getD p 0 : Nat) : Int)) = t
  have h0 := Int.emod_nonneg t (b := ((2 ^ b : Nat) : Int)) (by omega)
  have h1 := Int.emod_lt_of_pos t (b := ((2 ^ b : Nat) : Int)) (by omega)
  have h2 := Int.mul_ediv_add_emod t ((2 ^ b : Nat) : Int)
  have hl := h.len
  refine ⟨by rw [List.length_set]; exact hl, h.dig.set (by omega), fun i hi => ?_, ?_⟩
  · rw [getD_set_ne (by omega)]
    exact h.up i (by omega)
  · have e1 : (rs'.set (st + p) (t % ((2 ^ b : Nat) : Int)).toNat).take (st + p) = rs'.take (st + p) := List.take_set_of_le (Nat.le_refl _)
    rw [show st + (p + 1) = st + p + 1 by omega, val_take, val_take, e1, getD_set_self (by omega), val_take, pow_split b (st + p) 1, Nat.mul_one]
    have hE := h.eq
    have e2 : 2 ^ (b * (st + p)) = 2 ^ (b * p) * 2 ^ (b * st) := by rw [Nat.add_comm st p, pow_split]
    generalize hM : t % ((2 ^ b : Nat) : Int) = M at *
    generalize t / ((2 ^ b : Nat) : Int) = q at *
    generalize rs.getD (st + p) 0 = r at *
    generalize bs.getD p 0 = x at *
    generalize val b (rs'.take (st + p)) = A at *
    generalize val b (rs.take (st + p)) = A' at *
    generalize val b (bs.take p) = Y at *
    obtain ⟨m, rfl⟩ := Int.eq_ofNat_of_zero_le h0
    rw [Int.toNat_natCast]
    have e3 : (Y + 2 ^ (b * p) * x) * 2 ^ (b * st) = Y * 2 ^ (b * st) + 2 ^ (b * (st + p)) * x := by rw [Nat.add_mul, e2, Nat.mul_assoc, Nat.mul_assoc, Nat.mul_comm x]
    rw [e3]
    generalize Y * 2 ^ (b * st) = Y' at *
    generalize 2 ^ (b * (st + p)) = P at *
    generalize 2 ^ b = B at *
    simp only [Int.natCast_add, Int.natCast_mul, Int.mul_add] at *
    have e4 : (P : Int) * (m : Int) + q * ((P : Int) * (B : Int)) = (P : Int) * t := by
      rw [← h2, Int.mul_add, Int.mul_left_comm q, Int.mul_comm q]; omega
    have e5 : (P : Int) * t = (P : Int) * (r : Int) + c * (P : Int) + e * ((P : Int) * (x : Int)) := by
      rw [← ht, Int.mul_add, Int.mul_add, Int.mul_comm c, Int.mul_left_comm e]
    omega
end
/-- divided from the last digit down -/
structure ShS (b : Nat) (xs : List Nat) (d : Nat) (gs : List Nat) (r j : Nat) : Prop where
  len : gs.length = j
  dig : Digs b gs
  lt : r < d
  eq : val b (xs.drop (xs.length - j)) = d * val b gs + r
theorem ShS.step {b : Nat} {xs gs : List Nat} {d r j x : Nat} (h : ShS b xs d gs r j) (hd : Digs b xs) (hj : j < xs.length) (hx : x = xs.getD (xs.length - 1 - j) 0) : ShS b xs d ((r * 2 ^ b + x) / d :: gs) ((r * 2 ^ b + x) % d) (j + 1) := by
  have hr := h.lt
  have hx2 : x < 2 ^ b := by rw [hx]; exact hd.getD _
  refine ⟨by rw [List.length_cons, h.len], fun y hy => ?_, Nat.mod_lt _ (by omega), ?_⟩
  · rcases List.mem_cons.mp hy with rfl | hy
    · apply Nat.div_lt_of_lt_mul
      have : (r + 1) * 2 ^ b ≤ d * 2 ^ b := Nat.mul_le_mul_right _ hr
      rw [Nat.add_mul] at this
      omega
    · exact h.dig y hy
  · have hi : xs.length - 1 - j < xs.length := by omega
    rw [show xs.length - (j + 1) = xs.length - 1 - j by omega, List.drop_eq_getElem_cons hi, val_cons, show xs.length - 1 - j + 1 = xs.length - j by omega, h.eq, val_cons]
    have ex : xs[xs.length - 1 - j] = x := by rw [hx, List.getD_eq_getElem?_getD, List.getElem?_eq_getElem hi]; rfl
    rw [ex]
    have e := Nat.div_add_mod (r * 2 ^ b + x) d
    generalize (r * 2 ^ b + x) / d = q at *
    generalize (r * 2 ^ b + x) % d = s at *
    rw [Nat.mul_add, Nat.mul_add, Nat.mul_left_comm (2 ^ b) d, Nat.mul_comm (2 ^ b) r]
    omega
/-- a place in the room -/
structure Rm (b : Nat) (rs bs : List Nat) (st : Nat) : Prop where
  dr : Digs b rs
  db : Digs b bs
  hl : st + bs.length < rs.length
  kn : Kn b bs.length (val b bs) (val b (rs.take (st + bs.length + 1))) st
  b30 : b ≤ 30
  len : rs.length < 2 ^ 23
section
variable {b st : Nat} {rs bs : List Nat}
theorem Rm.dt (K : Rm b rs bs st) : Digs b (rs.take (st + bs.length + 1)) := fun d hd => K.dr d (List.mem_of_mem_take hd)
theorem getD_take {ds : List Nat} {i n : Nat} (h : i < n) : (ds.take n).getD i 0 = ds.getD i 0 := by
  rw [List.getD_eq_getElem?_getD, List.getElem?_take_of_lt h, ← List.getD_eq_getElem?_getD]
theorem Rm.tw (K : Rm b rs bs st) : rs.getD (st + bs.length) 0 * 2 ^ b + rs.getD (st + bs.length - 1) 0 = twD b bs.length (val b (rs.take (st + bs.length + 1))) st := by
  have hn := K.kn.n2
  have hl := K.hl
  unfold twD
  rw [val_div K.dt]
  have hL : (rs.take (st + bs.length + 1)).length = st + bs.length + 1 := by rw [List.length_take]; omega
  rw [List.drop_eq_getElem_cons (by omega), List.drop_eq_getElem_cons (by omega), List.drop_eq_nil_of_le (by omega), val_cons, val_cons, val_nil]
  have e1 : (rs.take (st + bs.length + 1))[st + bs.length - 1]'(by omega) = rs.getD (st + bs.length - 1) 0 := by
    rw [← getD_take (n := st + bs.length + 1) (by omega), List.getD_eq_getElem?_getD, List.getElem?_eq_getElem (by omega)]; rfl
  have e2 : (rs.take (st + bs.length + 1))[st + bs.length - 1 + 1]'(by omega) = rs.getD (st + bs.length) 0 := by
    rw [← getD_take (n := st + bs.length + 1) (by omega), List.getD_eq_getElem?_getD, List.getElem?_eq_getElem (by omega)]
    simp only [show st + bs.length - 1 + 1 = st + bs.length by omega]; rfl
  rw [e1, e2, Nat.mul_zero, Nat.add_zero, Nat.mul_comm]
  omega
end
def stpM (m : Mach) (n D R st : Nat) : Mach := if bkD m.b n D R st = true then ((((m.cnt 3 1).cnt 4 (coD m.b n D R st : Nat)).cnt 2 (n : Nat)).cnt 1 (n : Nat)).cnt 5 1 else ((m.cnt 3 1).cnt 4 (coD m.b n D R st : Nat)).cnt 2 (n : Nat)
theorem bits_low {n : Nat} (h : n ≠ 0) : 2 ^ (Builtin.Int.intBits (n : Int) - 1) ≤ n ∧ n < 2 ^ Builtin.Int.intBits (n : Int) ∧ 1 ≤ Builtin.Int.intBits (n : Int) := by
  have h1 := intBits_le_iff.mp (Nat.le_refl (Builtin.Int.intBits (n : Int)))
  rw [Int.natAbs_natCast] at h1
  have h2 : 1 ≤ Builtin.Int.intBits (n : Int) := by
    rcases Nat.eq_zero_or_pos (Builtin.Int.intBits (n : Int)) with z | z
    · rw [z] at h1; omega
    · exact z
  refine ⟨?_, h1, h2⟩
  rcases Nat.lt_or_ge n (2 ^ (Builtin.Int.intBits (n : Int) - 1)) with z | z
  · have := intBits_le_iff.mpr (show (n : Int).natAbs < 2 ^ (Builtin.Int.intBits (n : Int) - 1) by rw [Int.natAbs_natCast]; exact z)
    omega
  · exact z
/-- by how many bits the divisor is lifted -/
def cntD (b y : Nat) : Nat := b * (digs b y).length - Builtin.Int.intBits (y : Int)
theorem top_dig {b y : Nat} (hb : b ≠ 0) (hn : 1 ≤ (digs b y).length) : (digs b y).getD ((digs b y).length - 1) 0 ≠ 0 ∧ (digs b y).getD ((digs b y).length - 1) 0 < 2 ^ b ∧ (digs b y).getD ((digs b y).length - 1) 0 = y / 2 ^ (b * ((digs b y).length - 1)) := by
  have hd := digs_lt hb y
  have hN := digs_norm hb y
  obtain ⟨es, d, e, hd0⟩ := hN.last (fun z => by rw [z] at hn; simp at hn)
  have h3 : (digs b y).getD ((digs b y).length - 1) 0 = d := by
    rw [e, List.length_append, List.length_singleton, Nat.add_sub_cancel, List.getD_eq_getElem?_getD, List.getElem?_concat_length]; rfl
  have h4 := hd.getD ((digs b y).length - 1)
  have h5 := val_dig hd ((digs b y).length - 1)
  rw [val_digs hb, Nat.mod_eq_of_lt] at h5
  · exact ⟨by rw [h3]; exact hd0, h4, h5⟩
  · apply Nat.div_lt_of_lt_mul
    have := val_lt hd
    rw [val_digs hb] at this
    rw [← Nat.pow_add, show b * ((digs b y).length - 1) + b = b * (digs b y).length by
      have := Nat.mul_succ b ((digs b y).length - 1)
      rw [show ((digs b y).length - 1).succ = (digs b y).length by omega] at this
      omega]
    exact this
theorem cnt_top {b y : Nat} (hb : b ≠ 0) (hn : 1 ≤ (digs b y).length) : (b : Int) - (Builtin.Int.intBits (((digs b y).getD ((digs b y).length - 1) 0 : Nat) : Int) : Nat) = (cntD b y : Int) ∧ cntD b y < b ∧ y * 2 ^ cntD b y < 2 ^ (b * (digs b y).length) ∧ 2 ^ (b * (digs b y).length) ≤ 2 * (y * 2 ^ cntD b y) := by
  obtain ⟨h0, h1, h2⟩ := top_dig hb hn
  generalize ht : (digs b y).getD ((digs b y).length - 1) 0 = t at *
  obtain ⟨l1, l2, l3⟩ := bits_low h0
  have hy0 : y ≠ 0 := fun z => by rw [z, Nat.zero_div] at h2; exact h0 h2
  obtain ⟨y1, y2, y3⟩ := bits_low hy0
  have hLb : Builtin.Int.intBits (t : Int) ≤ b := intBits_le_iff.mpr (by rw [Int.natAbs_natCast]; exact h1)
  have hn1 : b * (digs b y).length = b * ((digs b y).length - 1) + b := by
    have := Nat.mul_succ b ((digs b y).length - 1)
    rw [show ((digs b y).length - 1).succ = (digs b y).length by omega] at this
    omega
  have hP := Nat.two_pow_pos (b * ((digs b y).length - 1))
  have e := Nat.div_add_mod y (2 ^ (b * ((digs b y).length - 1)))
  have hm := Nat.mod_lt y hP
  rw [← h2] at e
  have hy : Builtin.Int.intBits (y : Int) = b * ((digs b y).length - 1) + Builtin.Int.intBits (t : Int) := by
    apply Nat.le_antisymm
    · refine intBits_le_iff.mpr ?_
      rw [Int.natAbs_natCast, Nat.pow_add]
      have : 2 ^ (b * ((digs b y).length - 1)) * (t + 1) ≤ 2 ^ (b * ((digs b y).length - 1)) * 2 ^ Builtin.Int.intBits (t : Int) := Nat.mul_le_mul_left _ l2
      rw [Nat.mul_add, Nat.mul_one] at this
      omega
    · rcases Nat.lt_or_ge (Builtin.Int.intBits (y : Int)) (b * ((digs b y).length - 1) + Builtin.Int.intBits (t : Int)) with z | z
      · exfalso
        have h5 : 2 ^ Builtin.Int.intBits (y : Int) ≤ 2 ^ (b * ((digs b y).length - 1) + (Builtin.Int.intBits (t : Int) - 1)) := Nat.pow_le_pow_right (by decide) (by omega)
        rw [Nat.pow_add] at h5
        have h6 : 2 ^ (b * ((digs b y).length - 1)) * 2 ^ (Builtin.Int.intBits (t : Int) - 1) ≤ 2 ^ (b * ((digs b y).length - 1)) * t := Nat.mul_le_mul_left _ l1
        omega
      · exact z
  have hc : cntD b y + Builtin.Int.intBits (y : Int) = b * (digs b y).length := by unfold cntD; omega
  refine ⟨by omega, by omega, ?_, ?_⟩
  · rw [← hc, Nat.add_comm, Nat.pow_add]
    exact Nat.mul_lt_mul_of_pos_right y2 (Nat.two_pow_pos _)
  · rw [← hc, Nat.add_comm, Nat.pow_add, ← Nat.mul_assoc]
    refine Nat.mul_le_mul_right _ ?_
    have : 2 ^ Builtin.Int.intBits (y : Int) = 2 * 2 ^ (Builtin.Int.intBits (y : Int) - 1) := by rw [← Nat.pow_succ']; congr 1; omega
    omega
structure LongC (b x y : Nat) : Prop where
  b8 : 8 ≤ b
  b30 : b ≤ 30
  n2 : 2 ≤ (digs b y).length
  mn : (digs b y).length ≤ (digs b x).length
  len : (digs b x).length < 2 ^ 21
/-- divisor and dividend, lifted; one more digit; how many places -/
def dvD (b y : Nat) : Nat := y * 2 ^ cntD b y
def dvR (b x y : Nat) : Nat := x * 2 ^ cntD b y
def wdD (b x y : Nat) : Nat := if hiD b (digs b y).length (dvD b y) ≤ dvR b x y / 2 ^ (b * ((digs b x).length - 1)) then 1 else 0
def plD (b x y : Nat) : Nat := (digs b x).length + wdD b x y - (digs b y).length
section
variable {b x y : Nat}
theorem LongC.b0 (C : LongC b x y) : b ≠ 0 := by have := C.b8; omega
theorem LongC.kn (C : LongC b x y) {R st : Nat} (h : R < dvD b y * 2 ^ (b * (st + 1))) : Kn b (digs b y).length (dvD b y) R st := by
  have := cnt_top C.b0 (y := y) (by have := C.n2; omega)
  exact ⟨C.b8, C.n2, this.2.2.2, this.2.2.1, h⟩
end
def stepsM (n D : Nat) : Nat → Nat → Mach → Mach
  | 0, _, m => m
  | p + 1, R, m => stepsM n D p (R % (D * 2 ^ (m.b * p))) (stpM m n D R p)
def longM (m : Mach) (x y : Nat) : Mach := ((stepsM (digs m.b y).length (dvD m.b y) (plD m.b x y) (dvR m.b x y) ((((((m.ent "divide long" (digs m.b x).length (digs m.b y).length).ent "lift" (digs m.b y).length (cntD m.b y : Nat)).cnt 6 (digs m.b y).length).ent "lift" (digs m.b x).length (cntD m.b y : Nat)).cnt 6 (digs m.b x).length))).ent "lower" (digs m.b y).length (cntD m.b y : Nat)).cnt 6 (digs m.b y).length
def blwL (xs ys : List Nat) : Prop := xs.length < ys.length ∨ xs.length = ys.length ∧ xs.getD (xs.length - 1) 0 < ys.getD (ys.length - 1) 0
instance (xs ys : List Nat) : Decidable (blwL xs ys) := by unfold blwL; infer_instance
def blwD (b x y : Nat) : Prop := blwL (digs b x) (digs b y)
instance (b x y : Nat) : Decidable (blwD b x y) := by unfold blwD; infer_instance
theorem dig_bounds {b x : Nat} (hb : b ≠ 0) (hx : x ≠ 0) : 2 ^ (b * ((digs b x).length - 1)) ≤ x ∧ x < 2 ^ (b * (digs b x).length) ∧ 1 ≤ (digs b x).length := by
  have hn : 1 ≤ (digs b x).length := by
    rcases Nat.eq_zero_or_pos (digs b x).length with z | z
    · exact absurd ((digs_eq_nil hb).mp (List.length_eq_zero_iff.mp z)) hx
    · exact z
  obtain ⟨h0, h1, h2⟩ := top_dig hb hn
  refine ⟨?_, ?_, hn⟩
  · rw [h2] at h0
    have e := Nat.div_add_mod x (2 ^ (b * ((digs b x).length - 1)))
    have : 2 ^ (b * ((digs b x).length - 1)) * 1 ≤ 2 ^ (b * ((digs b x).length - 1)) * (x / 2 ^ (b * ((digs b x).length - 1))) := Nat.mul_le_mul_left _ (by omega)
    omega
  · have := val_lt (digs_lt hb x)
    rw [val_digs hb] at this
    exact this
/-- a number that may be divided, or by which -/
structure DvL (b : Nat) (n : Int) : Prop where
  b8 : 8 ≤ b
  b30 : b ≤ 30
  len : (digs b n.natAbs).length < 2 ^ 21
theorem DvL.b0 {b : Nat} {n : Int} (h : DvL b n) : b ≠ 0 := by have := h.b8; omega
theorem DvL.big {b : Nat} {n : Int} (h : DvL b n) : bigL b n := ⟨h.b0, h.b30, by have := h.len; omega⟩
theorem digs_mono {b x y : Nat} (hb : b ≠ 0) (h : x ≤ y) : (digs b x).length ≤ (digs b y).length := by
  refine digs_length_le hb _ ?_
  have := val_lt (digs_lt hb y)
  rw [val_digs hb] at this
  omega
theorem DvL.le {b : Nat} {n n' : Int} (h : DvL b n) (e : n'.natAbs ≤ n.natAbs) : DvL b n' := ⟨h.b8, h.b30, Nat.lt_of_le_of_lt (digs_mono h.b0 e) h.len⟩
/-- the quotient rounded to 0 is one too great -/
def offD (n n' : Int) : Prop := sgn (n.tmod n') * sgn n' < 0
instance (n n' : Int) : Decidable (offD n n') := by unfold offD; infer_instance
def restM (m : Mach) (n n' : Int) : Mach := if blwD m.b n.natAbs n'.natAbs then m else if (digs m.b n'.natAbs).length = 1 then (m.ent "rest short" (digs m.b n.natAbs).length 1).cnt 3 (digs m.b n.natAbs).length else longM m n.natAbs n'.natAbs
noncomputable def modM (m : Mach) (n n' : Int) : Mach := if (digs m.b n.natAbs).length = 1 ∧ (digs m.b n'.natAbs).length = 1 then m.cnt 0 1 else if offD n n' then sumX (restM m n n') true (n.tmod n') n' else restM m n n'
/-- all words of the walk are such as are told -/
def WOk (m : Mach) : Prop := (∀ e ∈ m.walk, PyData.strOk e.1 = true) ∧ m.walk.length ≤ 1000
theorem WOk.ent {m : Mach} {s : Str} {a b : Int} (h : WOk m) (hs : PyData.strOk s = true) : WOk (m.ent s a b) := by
  unfold WOk Mach.ent
  dsimp only
  split
  · refine ⟨fun e he => ?_, by rw [List.length_append]; simp only [List.length_cons, List.length_nil]; omega⟩
    rcases List.mem_append.mp he with z | z
    · exact h.1 e z
    · rw [List.mem_singleton.mp z]; exact hs
  · exact h
theorem WOk.cnt {m : Mach} {j : Nat} {v : Int} (h : WOk m) : WOk (m.cnt j v) := h
section
variable {m : Mach}
theorem WOk.take (h : WOk m) (xs ys : List Nat) (p : Nat) : WOk (takeM m xs ys p) := by
  unfold takeM
  split
  · split
    · exact WOk.cnt (h.ent (by decide +kernel))
    · exact WOk.cnt (WOk.cnt (h.ent (by decide +kernel)))
  · exact WOk.cnt (h.ent (by decide +kernel))
theorem WOk.sum (h : WOk m) (s : Bool) (n n' : Int) : WOk (sumX m s n n') := by
  unfold sumX sumM
  split
  · exact h
  · split
    · exact WOk.cnt (h.ent (by decide +kernel))
    · split
      · exact h.take _ _ _
      · exact h.take _ _ _
theorem WOk.stp (h : WOk m) (n D R st : Nat) : WOk (stpM m n D R st) := by
  unfold stpM
  split <;> exact h
theorem WOk.steps (n D : Nat) : ∀ (p R : Nat) {m : Mach}, WOk m → WOk (stepsM n D p R m)
  | 0, R, m, h => h
  | p + 1, R, m, h => by
    unfold stepsM
    exact WOk.steps n D p _ (h.stp _ _ _ _)
theorem WOk.long (h : WOk m) (x y : Nat) : WOk (longM m x y) := by
  unfold longM
  refine WOk.cnt (WOk.ent (WOk.steps _ _ _ _ (WOk.cnt (WOk.ent (WOk.cnt (WOk.ent (h.ent ?_) ?_)) ?_))) ?_)
  · decide +kernel
  · decide +kernel
  · decide +kernel
  · decide +kernel
theorem WOk.rest (h : WOk m) (n n' : Int) : WOk (restM m n n') := by
  unfold restM
  split
  · exact h
  · split
    · exact WOk.cnt (h.ent (by decide +kernel))
    · exact h.long _ _
theorem WOk.mod (h : WOk m) (n n' : Int) : WOk (modM m n n') := by
  unfold modM
  split
  · exact h
  · split
    · exact (h.rest _ _).sum _ _ _
    · exact h.rest _ _
end
structure Lh where
  (m n a b c d : Nat)
def Lh.q (s : Lh) : Nat := (s.m + s.a - 1) / (s.n - s.c)
def Lh.go (s : Lh) : Lh := ⟨s.n, s.m - s.q * s.n, s.d, s.c, s.b + s.q * s.d, s.a + s.q * s.c⟩
def Lh.brk (s : Lh) : Bool := decide (s.m < s.b + s.q * s.d + s.q * s.n)
def Lh.run : Nat → Lh → List Nat → Nat → List Nat × Lh × Nat
  | 0, s, l, c => (l, s, c)
  | f + 1, s, l, c => if s.n = s.c then (l, s, c) else if s.brk then (l, s, c + 1) else Lh.run f s.go (l ++ [s.q]) (c + 1)
structure LhI (S B X Y Xo Yo u v P Q : Nat) (s : Lh) : Prop where
  hX : X + s.b * v = S * s.m + s.a * u
  hY : Y + s.c * u = S * s.n + s.d * v
  hu : u < S
  hv : v < S
  a1 : 1 ≤ s.a
  d1 : 1 ≤ s.d
  cn : s.c ≤ s.n
  m1 : 1 ≤ s.m
  hP : s.d * s.m + s.b * s.n = P
  hQ : s.c * s.m + s.a * s.n = Q
  PB : P ≤ B
  QB : Q ≤ B
  aB : s.a ≤ B
  bB : s.b ≤ B
  dt : s.a * s.d = s.b * s.c + 1
  hXo : X + s.b * Yo = s.a * Xo
  hYo : Y + s.c * Xo = s.d * Yo
theorem LhI.dB {S B X Y Xo Yo u v P Q : Nat} {s : Lh} (h : LhI S B X Y Xo Yo u v P Q s) : s.d ≤ B ∧ s.c ≤ B := by
  have h1 := Nat.mul_le_mul_left s.d h.m1
  have h2 := Nat.mul_le_mul_left s.c h.m1
  have := h.hP; have := h.hQ; have := h.PB; have := h.QB
  omega
theorem LhI.step {S B X Y Xo Yo u v P Q : Nat} {s : Lh} (h : LhI S B X Y Xo Yo u v P Q s) (hn : s.n ≠ s.c) (hb : s.brk = false) :
    LhI S B Y (X % Y) Yo Xo v u Q P s.go ∧ X / Y = s.q ∧ s.go.n < s.n ∧ 0 < Y := by
  have hb' : s.b + s.q * s.d + s.q * s.n ≤ s.m := Nat.le_of_not_lt (of_decide_eq_false hb)
  obtain ⟨e, he⟩ : ∃ e, s.n = s.c + e := ⟨s.n - s.c, by have := h.cn; omega⟩
  have he1 : 1 ≤ e := by have := h.cn; omega
  have hq1 : s.m + s.a ≤ e * (s.q + 1) := by
    have := Nat.lt_mul_div_succ (s.m + s.a - 1) (show 0 < e by omega)
    have e2 : s.q = (s.m + s.a - 1) / e := by unfold Lh.q; rw [show s.n - s.c = e by omega]
    rw [← e2] at this
    omega
  have dd := h.dB
  obtain ⟨hX, hY, hu, hv, a1, d1, cn, m1, hP, hQ, PB, QB, aB, bB, dt, hXo, hYo⟩ := h
  unfold Lh.go
  generalize s.q = q at *
  obtain ⟨m, n, a, b, c, d⟩ := s
  dsimp only at *
  -- products
  have E1 : q * Y + q * c * u = S * (q * n) + q * d * v := by
    have h1 : q * (Y + c * u) = q * (S * n + d * v) := by rw [hY]
    rw [Nat.mul_add, Nat.mul_add, Nat.mul_left_comm q S n, ← Nat.mul_assoc q c u, ← Nat.mul_assoc q d v] at h1
    exact h1
  have hqn : q * n ≤ m := by omega
  obtain ⟨r, hr⟩ : ∃ r, m = q * n + r := ⟨m - q * n, by omega⟩
  have hrm : m - q * n = r := by omega
  have E2 : S * m = S * (q * n) + S * r := by rw [hr, Nat.mul_add]
  have hr2 : b + q * d ≤ r := by omega
  have E3 : b * v + q * d * v ≤ S * r := by
    have h1 : (b + q * d) * v ≤ (b + q * d) * S := Nat.mul_le_mul_left _ (by omega)
    have h2 : (b + q * d) * S ≤ r * S := Nat.mul_le_mul_right _ hr2
    rw [Nat.add_mul] at h1
    rw [Nat.mul_comm S r]
    omega
  have E4 : (a + q * c) * u = a * u + q * c * u := Nat.add_mul _ _ _
  have E5 : (b + q * d) * v = b * v + q * d * v := Nat.add_mul _ _ _
  have hle : q * Y ≤ X := by omega
  have F1 : S * n = S * c + S * e := by rw [he, Nat.mul_add]
  have F2 : c * u ≤ S * c := by rw [Nat.mul_comm S c]; exact Nat.mul_le_mul_left _ (by omega)
  have F3 : S ≤ S * e := by have := Nat.mul_le_mul_left S he1; omega
  have hYe : S * e ≤ Y := by omega
  have hY0 : 0 < Y := by omega
  have G1 : a * u < S * a := by rw [Nat.mul_comm S a]; exact Nat.mul_lt_mul_of_pos_left hu (by omega)
  have G2 : S * m + S * a ≤ (q + 1) * Y := by
    have h1 : S * (m + a) ≤ S * (e * (q + 1)) := Nat.mul_le_mul_left _ hq1
    have h2 : (q + 1) * (S * e) ≤ (q + 1) * Y := Nat.mul_le_mul_left _ hYe
    rw [Nat.mul_add] at h1
    rw [show S * (e * (q + 1)) = (q + 1) * (S * e) by rw [← Nat.mul_assoc, Nat.mul_comm]] at h1
    omega
  have hlt : X < (q + 1) * Y := by omega
  have hdiv : X / Y = q := Nat.div_eq_of_lt_le hle hlt
  have hmod : X % Y = X - q * Y := by
    have := Nat.div_add_mod X Y
    rw [hdiv, Nat.mul_comm] at this
    omega
  rw [hmod, hrm]
  have E6 : q * (Y + c * Xo) = q * (d * Yo) := by rw [hYo]
  rw [Nat.mul_add, ← Nat.mul_assoc, ← Nat.mul_assoc] at E6
  have E7 : (a + q * c) * Xo = a * Xo + q * c * Xo := Nat.add_mul _ _ _
  have E8 : (b + q * d) * Yo = b * Yo + q * d * Yo := Nat.add_mul _ _ _
  have M1 : (a + q * c) * n = a * n + c * (q * n) := by rw [Nat.add_mul, Nat.mul_comm q c, Nat.mul_assoc]
  have M2 : (b + q * d) * n = b * n + d * (q * n) := by rw [Nat.add_mul, Nat.mul_comm q d, Nat.mul_assoc]
  have M3 : c * m = c * (q * n) + c * r := by rw [hr, Nat.mul_add]
  have M4 : d * m = d * (q * n) + d * r := by rw [hr, Nat.mul_add]
  have D1 : d * (a + q * c) = a * d + q * c * d := by rw [Nat.mul_add, Nat.mul_comm d a, Nat.mul_comm d (q * c)]
  have D2 : c * (b + q * d) = b * c + q * c * d := by rw [Nat.mul_add, Nat.mul_comm c b, Nat.mul_left_comm c q d, Nat.mul_assoc q c d]
  refine ⟨⟨hY, by show X - q * Y + (b + q * d) * v = S * r + (a + q * c) * u; omega, hv, hu, d1, by show 1 ≤ a + q * c; omega, hr2, by show 1 ≤ n; omega, by show (a + q * c) * n + c * r = Q; omega, by show (b + q * d) * n + d * r = P; omega, QB, PB, dd.1, dd.2, by show d * (a + q * c) = c * (b + q * d) + 1; omega, hYo, by show X - q * Y + (b + q * d) * Yo = (a + q * c) * Xo; omega⟩, hdiv, ?_, hY0⟩
  show r < n
  have h1 : e * (q + 1) ≤ n * (q + 1) := Nat.mul_le_mul_right _ (by omega)
  rw [Nat.mul_add n, Nat.mul_comm n q] at h1
  omega
/-- steps of Euclid's, by their quotients -/
def Euc : Nat → Nat → List Nat → Nat → Nat → Prop
  | X, Y, [], X', Y' => X' = X ∧ Y' = Y
  | X, Y, q :: L, X', Y' => Y ≠ 0 ∧ X / Y = q ∧ Euc Y (X % Y) L X' Y'
theorem Euc.snoc : ∀ {L : List Nat} {X Y X' Y' : Nat}, Euc X Y L X' Y' → Y' ≠ 0 → Euc X Y (L ++ [X' / Y']) Y' (X' % Y')
  | [], X, Y, X', Y', h, h0 => by obtain ⟨rfl, rfl⟩ := h; exact ⟨h0, rfl, rfl, rfl⟩
  | q :: L, X, Y, X', Y', h, h0 => ⟨h.1, h.2.1, h.2.2.snoc h0⟩
theorem Euc.le : ∀ {L : List Nat} {X Y X' Y' : Nat}, Euc X Y L X' Y' → (L = [] ∧ X' = X ∧ Y' = Y) ∨ (L ≠ [] ∧ X' ≤ Y ∧ Y' < Y ∧ Y' < X')
  | [], X, Y, X', Y', h => .inl ⟨rfl, h.1, h.2⟩
  | q :: L, X, Y, X', Y', h => by
    have hl := Nat.mod_lt X (Nat.pos_of_ne_zero h.1)
    rcases h.2.2.le with ⟨_, e1, e2⟩ | ⟨_, e1, e2, e3⟩
    · exact .inr ⟨by simp, by omega, by omega, by omega⟩
    · exact .inr ⟨by simp, by omega, by omega, by omega⟩
/-- what a run of steps ends at -/
structure LhE (S B X Y X0 Y0 : Nat) (l : List Nat) (s : Lh) : Prop where
  euc : Euc X0 Y0 l X Y
  inv : ∃ u v P Q, LhI S B X Y (if l.length % 2 = 0 then X0 else Y0) (if l.length % 2 = 0 then Y0 else X0) u v P Q s
theorem LhE.step {S B X Y X0 Y0 : Nat} {l : List Nat} {s : Lh} (h : LhE S B X Y X0 Y0 l s) (hn : s.n ≠ s.c) (hb : s.brk = false) : LhE S B Y (X % Y) X0 Y0 (l ++ [s.q]) s.go ∧ s.go.n < s.n := by
  obtain ⟨he, u, v, P, Q, hI⟩ := h
  obtain ⟨h1, h2, h3, h4⟩ := hI.step hn hb
  refine ⟨⟨by rw [← h2]; exact he.snoc (by omega), v, u, Q, P, ?_⟩, h3⟩
  have el : (l ++ [s.q]).length = l.length + 1 := by simp
  rw [el]
  rcases Nat.mod_two_eq_zero_or_one l.length with z | z
  · rw [if_pos z, if_pos z] at h1
    rw [if_neg (by omega), if_neg (by omega)]
    exact h1
  · rw [if_neg (by omega), if_neg (by omega)] at h1
    rw [if_pos (by omega), if_pos (by omega)]
    exact h1
theorem LhE.half {S B X Y X0 Y0 : Nat} {l : List Nat} {s : Lh} (h : LhE S B X Y X0 Y0 l s) (h0 : Y0 ≤ X0) (hn : s.n ≠ s.c) (hb : s.brk = false) : 2 * (s.go.m * s.go.n) ≤ s.m * s.n ∧ 1 ≤ s.m ∧ 1 ≤ s.n := by
  obtain ⟨h1, h2⟩ := h.step hn hb
  obtain ⟨he, u, v, P, Q, hI⟩ := h
  obtain ⟨_, h3, _, h4⟩ := hI.step hn hb
  have hb' : s.b + s.q * s.d + s.q * s.n ≤ s.m := Nat.le_of_not_lt (of_decide_eq_false hb)
  have hYX : Y ≤ X := by rcases he.le with ⟨_, e1, e2⟩ | ⟨_, e1, e2, e3⟩ <;> omega
  have hq : 1 ≤ s.q := by rw [← h3]; exact (Nat.le_div_iff_mul_le h4).mpr (by omega)
  have e1 : s.n ≤ s.q * s.n := by have := Nat.mul_le_mul_right s.n hq; omega
  have e2 : s.go.n = s.m - s.q * s.n := rfl
  have e3 : s.go.m = s.n := rfl
  have e4 : s.n * (s.go.n + s.go.n) ≤ s.n * s.m := Nat.mul_le_mul_left _ (by omega)
  rw [Nat.mul_add, Nat.mul_comm s.n s.m] at e4
  rw [e3]
  exact ⟨by omega, hI.m1, by have := hI.cn; omega⟩
theorem Lh.run_ok {S B X0 Y0 : Nat} : ∀ (f : Nat) {s : Lh} {l : List Nat} {c X Y : Nat}, LhE S B X Y X0 Y0 l s → s.n < f → ∃ X' Y', LhE S B X' Y' X0 Y0 (Lh.run f s l c).1 (Lh.run f s l c).2.1
  | 0, s, l, c, X, Y, h, hf => absurd hf (Nat.not_lt_zero _)
  | f + 1, s, l, c, X, Y, h, hf => by
    unfold Lh.run
    split
    · exact ⟨X, Y, h⟩
    · rename_i hn
      split
      · exact ⟨X, Y, h⟩
      · rename_i hb
        obtain ⟨h1, h2⟩ := h.step hn (by simpa using hb)
        exact Lh.run_ok f h1 (by omega)
/-- where the top bits of a number end -/
def lhT (b N : Nat) : Nat := Builtin.Int.intBits (N : Int) - 2 * b
def lhS (b N M : Nat) : Lh := ⟨N / 2 ^ lhT b N, M / 2 ^ lhT b N, 1, 0, 0, 1⟩
def lhR (b N M : Nat) : List Nat × Lh × Nat := Lh.run (M / 2 ^ lhT b N + 1) (lhS b N M) [] 0
theorem lhT_pos {b N : Nat} (hb : 1 ≤ b) (hN : 2 ^ (2 * b) ≤ N) : 2 ^ lhT b N ≤ N ∧ N < 2 ^ (2 * b) * 2 ^ lhT b N ∧ Builtin.Int.intBits (N : Int) = lhT b N + 2 * b := by
  have h0 : ¬ Builtin.Int.intBits (N : Int) ≤ 2 * b := fun z => by
    have h1 : N < 2 ^ (2 * b) := intBits_le_iff (x := (N : Int)).mp z
    omega
  have h1 : N < 2 ^ Builtin.Int.intBits (N : Int) := intBits_le_iff (x := (N : Int)).mp (Nat.le_refl _)
  have h2 : 2 ^ (Builtin.Int.intBits (N : Int) - 1) ≤ N := by
    rcases Nat.lt_or_ge N (2 ^ (Builtin.Int.intBits (N : Int) - 1)) with z | z
    · have : Builtin.Int.intBits (N : Int) ≤ Builtin.Int.intBits (N : Int) - 1 := intBits_le_iff.mpr z
      omega
    · exact z
  have h3 : Builtin.Int.intBits (N : Int) = lhT b N + 2 * b := by unfold lhT; omega
  refine ⟨Nat.le_trans (Nat.pow_le_pow_right (by decide) (by omega)) h2, ?_, h3⟩
  rw [← Nat.pow_add, Nat.add_comm, ← h3]
  exact h1
theorem lh_start {b N M : Nat} (hb : 1 ≤ b) (hN : 2 ^ (2 * b) ≤ N) (hM : M ≤ N) : LhE (2 ^ lhT b N) (2 ^ (2 * b)) N M N M [] (lhS b N M) := by
  obtain ⟨h1, h2, _⟩ := lhT_pos hb hN
  have hp : 1 ≤ 2 ^ (2 * b) := Nat.one_le_two_pow
  unfold lhS
  generalize hS : 2 ^ lhT b N = S at *
  have hS0 : 0 < S := by rw [← hS]; exact Nat.two_pow_pos _
  have a1 := Nat.div_add_mod N S
  have a2 := Nat.div_add_mod M S
  have a3 : N / S < 2 ^ (2 * b) := Nat.div_lt_of_lt_mul (by rw [Nat.mul_comm]; exact h2)
  have a4 : M / S ≤ N / S := Nat.div_le_div_right hM
  have a5 : 1 ≤ N / S := (Nat.le_div_iff_mul_le hS0).mpr (by omega)
  refine ⟨⟨rfl, rfl⟩, N % S, M % S, N / S, M / S, ?_⟩
  change LhI S (2 ^ (2 * b)) N M N M _ _ _ _ _
  exact ⟨by dsimp only; omega, by dsimp only; omega, Nat.mod_lt _ hS0, Nat.mod_lt _ hS0, Nat.le_refl _, Nat.le_refl _, Nat.zero_le _, a5, by dsimp only; omega, by dsimp only; omega, by omega, by omega, hp, Nat.zero_le _, rfl, by dsimp only; omega, by dsimp only; omega⟩
theorem lh_prod {b N M : Nat} (hb : 1 ≤ b) (hN : 2 ^ (2 * b) ≤ N) (hM : M ≤ N) : N / 2 ^ lhT b N * (M / 2 ^ lhT b N) ≤ 2 ^ (4 * b) := by
  obtain ⟨h1, h2, _⟩ := lhT_pos hb hN
  have a3 : N / 2 ^ lhT b N < 2 ^ (2 * b) := Nat.div_lt_of_lt_mul (by rw [Nat.mul_comm]; exact h2)
  have a4 : M / 2 ^ lhT b N ≤ N / 2 ^ lhT b N := Nat.div_le_div_right hM
  have := Nat.mul_le_mul (Nat.le_of_lt a3) (Nat.le_trans a4 (Nat.le_of_lt a3))
  rw [← Nat.pow_add, show 2 * b + 2 * b = 4 * b by omega] at this
  exact this
/-- the four numbers of a step's sums -/
def lhF (r : List Nat × Lh × Nat) : Int × Int × Int × Int := if r.1.length % 2 = 0 then (r.2.1.a, -r.2.1.b, -r.2.1.c, r.2.1.d) else (-r.2.1.b, r.2.1.a, r.2.1.d, -r.2.1.c)
theorem lhR_ok {b N M : Nat} (hb : 1 ≤ b) (hN : 2 ^ (2 * b) ≤ N) (hM : M ≤ N) : ∃ X Y : Nat, Euc N M (lhR b N M).1 X Y ∧
    (lhF (lhR b N M)).1 * N + (lhF (lhR b N M)).2.1 * M = X ∧ (lhF (lhR b N M)).2.2.1 * N + (lhF (lhR b N M)).2.2.2 * M = Y ∧
    ((lhF (lhR b N M)).1.natAbs ≤ 2 ^ (2 * b) ∧ (lhF (lhR b N M)).2.1.natAbs ≤ 2 ^ (2 * b)) ∧ ((lhF (lhR b N M)).2.2.1.natAbs ≤ 2 ^ (2 * b) ∧ (lhF (lhR b N M)).2.2.2.natAbs ≤ 2 ^ (2 * b)) := by
  obtain ⟨X, Y, he, u, v, P, Q, hI⟩ := Lh.run_ok (M / 2 ^ lhT b N + 1) (c := 0) (lh_start hb hN hM) (Nat.lt_succ_self _)
  refine ⟨X, Y, he, ?_⟩
  have dd := hI.dB
  have h1 := hI.hXo
  have h2 := hI.hYo
  have h3 := hI.aB
  have h4 := hI.bB
  change X + (lhR b N M).2.1.b * _ = (lhR b N M).2.1.a * _ at h1
  change Y + (lhR b N M).2.1.c * _ = (lhR b N M).2.1.d * _ at h2
  change (lhR b N M).2.1.d ≤ _ ∧ (lhR b N M).2.1.c ≤ _ at dd
  change (lhR b N M).2.1.a ≤ _ at h3
  change (lhR b N M).2.1.b ≤ _ at h4
  change X + (lhR b N M).2.1.b * (if (lhR b N M).1.length % 2 = 0 then M else N) = (lhR b N M).2.1.a * (if (lhR b N M).1.length % 2 = 0 then N else M) at h1
  change Y + (lhR b N M).2.1.c * (if (lhR b N M).1.length % 2 = 0 then N else M) = (lhR b N M).2.1.d * (if (lhR b N M).1.length % 2 = 0 then M else N) at h2
  clear hI he
  generalize lhR b N M = r at *
  obtain ⟨l, ⟨m, n, a, b', c, d⟩, cc⟩ := r
  unfold lhF
  dsimp only at *
  have hp : ∀ z : Nat, ((-(z : Int)).natAbs) = z := fun z => by omega
  have hq : ∀ z : Nat, (((z : Int)).natAbs) = z := fun z => by omega
  by_cases z : l.length % 2 = 0
  · rw [if_pos z, if_pos z] at h1 h2
    rw [if_pos z]
    dsimp only
    rw [hp, hp, hq, hq, Int.neg_mul, Int.neg_mul]
    have e1 : ((X + b' * M : Nat) : Int) = ((a * N : Nat) : Int) := by rw [h1]
    have e2 : ((Y + c * N : Nat) : Int) = ((d * M : Nat) : Int) := by rw [h2]
    rw [Int.natCast_add, Int.natCast_mul, Int.natCast_mul] at e1 e2
    exact ⟨by omega, by omega, ⟨by omega, by omega⟩, by omega, by omega⟩
  · rw [if_neg z, if_neg z] at h1 h2
    rw [if_neg z]
    dsimp only
    rw [hp, hp, hq, hq, Int.neg_mul, Int.neg_mul]
    have e1 : ((X + b' * N : Nat) : Int) = ((a * M : Nat) : Int) := by rw [h1]
    have e2 : ((Y + c * M : Nat) : Int) = ((d * N : Nat) : Int) := by rw [h2]
    rw [Int.natCast_add, Int.natCast_mul, Int.natCast_mul] at e1 e2
    exact ⟨by omega, by omega, ⟨by omega, by omega⟩, by omega, by omega⟩
theorem cnt_nil (m : Mach) (j : Nat) : m.cnt j 0 = m := by
  unfold Mach.cnt
  have e : (m.ns.modify j fun x => x + 0) = m.ns := by
    have : (fun x : Int => x + 0) = id := by funext x; simp
    rw [this, List.modify_id]
  rw [e]
theorem cnt_cnt (m : Mach) (j : Nat) (x y : Int) : (m.cnt j x).cnt j y = m.cnt j (x + y) := by
  unfold Mach.cnt
  have e : (m.ns.modify j fun z => z + x).modify j (fun z => z + y) = m.ns.modify j fun z => z + (x + y) := by
    rw [List.modify_modify_eq]
    congr 1
    funext z
    show z + x + y = _
    omega
  show ({ m with ns := _ } : Mach) = _
  rw [← e]
theorem at_lastG {ys : List Nat} (h : ys ≠ []) : atI (dN ys) (-1) = some (.int (ys.getD (ys.length - 1) 0 : Nat)) := by
  have hl := List.length_pos_iff.mpr h
  unfold atI ixN
  rw [if_neg (by decide), dN_len, if_pos (by omega)]
  show (dN ys)[((ys.length : Int) + -1).toNat]? = _
  rw [show ((ys.length : Int) + -1).toNat = ys.length - 1 by omega, dN, List.getElem?_map, List.getD_eq_getElem?_getD, List.getElem?_eq_getElem (by omega)]
  rfl
theorem digs_getDG {b n p : Nat} (hb : b ≠ 0) : (digs b n).getD p 0 = n / 2 ^ (b * p) % 2 ^ b := by
  have h1 := val_div (digs_lt hb n) p
  rw [val_digs hb] at h1
  rw [h1, List.getD_eq_getElem?_getD]
  have e : (digs b n)[p]? = ((digs b n).drop p)[0]? := by rw [List.getElem?_drop, Nat.add_zero]
  rw [e]
  have hd : Digs b ((digs b n).drop p) := fun d hd => digs_lt hb n d (List.mem_of_mem_drop hd)
  cases hl : (digs b n).drop p with
  | nil => simp [val]
  | cons a l =>
    rw [hl] at hd
    rw [val_cons, Nat.add_mul_mod_self_left, Nat.mod_eq_of_lt (hd a List.mem_cons_self)]
    rfl
theorem shl_natG {z c : Nat} {K : Dat → Prop} (hz : z < 2 ^ 60) (hc : c ≤ 90) (h : K (.int ((z * 2 ^ c : Nat) : Int))) : qShl (.int (z : Int)) (.int (c : Int)) K := by
  rw [eShl]
  refine ⟨shl_ok (n := 60) (by rw [Int.natAbs_natCast]; exact hz) (by omega), ?_⟩
  rw [Int.toNat_natCast]
  rw [Int.natCast_mul, Int.natCast_pow] at h
  exact h
theorem or_natG {x k r : Nat} (hr : r < 2 ^ k) : Builtin.bitOr ((x * 2 ^ k : Nat) : Int) (r : Int) = ((x * 2 ^ k + r : Nat) : Int) := by
  have e : ((2 : Int) ^ k) = ((2 ^ k : Nat) : Int) := by rw [Int.natCast_pow]; rfl
  have := or_low (q := (x : Int)) (r := (r : Int)) (k := k) (by omega) (by omega) (by rw [e]; omega)
  rw [Int.natCast_add, Int.natCast_mul, ← e]
  exact this
theorem first_sum {b N sz t : Nat} (ht : t ≤ b) (hs : 3 ≤ sz) (hN : N < 2 ^ (b * sz)) : (N / 2 ^ (b * (sz - 1)) % 2 ^ b * 2 ^ b + N / 2 ^ (b * (sz - 2)) % 2 ^ b) * 2 ^ (b - t) + N / 2 ^ (b * (sz - 3)) % 2 ^ b / 2 ^ t = N / 2 ^ (b * (sz - 3) + t) := by
  have e1 : b * (sz - 1) = b * (sz - 3) + b + b := by rw [show sz - 1 = sz - 3 + 1 + 1 by omega, Nat.mul_add, Nat.mul_add, Nat.mul_one]
  have e2 : b * (sz - 2) = b * (sz - 3) + b := by rw [show sz - 2 = sz - 3 + 1 by omega, Nat.mul_add, Nat.mul_one]
  have e3 : b * sz = b * (sz - 3) + b + b + b := by
    obtain ⟨r, hr⟩ : ∃ r, sz = r + 3 := ⟨sz - 3, by omega⟩
    rw [hr, Nat.add_sub_cancel, Nat.mul_add]
    omega
  rw [e1, e2, Nat.pow_add, Nat.pow_add, Nat.pow_add _ _ t, ← Nat.div_div_eq_div_mul, ← Nat.div_div_eq_div_mul, ← Nat.div_div_eq_div_mul]
  have hX : N / 2 ^ (b * (sz - 3)) < 2 ^ b * (2 ^ b * 2 ^ b) := by
    refine Nat.div_lt_of_lt_mul ?_
    rw [e3, Nat.pow_add, Nat.pow_add, Nat.pow_add] at hN
    rw [← Nat.mul_assoc, ← Nat.mul_assoc]
    exact hN
  generalize N / 2 ^ (b * (sz - 3)) = X at *
  have hd : X / 2 ^ b / 2 ^ b % 2 ^ b = X / 2 ^ b / 2 ^ b := Nat.mod_eq_of_lt (Nat.div_lt_of_lt_mul (Nat.div_lt_of_lt_mul hX))
  rw [hd]
  have h1 := Nat.div_add_mod (X / 2 ^ b) (2 ^ b)
  have h2 := Nat.div_add_mod X (2 ^ b)
  have h3 : X / 2 ^ b / 2 ^ b * 2 ^ b + X / 2 ^ b % 2 ^ b = X / 2 ^ b := by rw [Nat.mul_comm]; exact h1
  rw [h3]
  have h4 : X = X % 2 ^ b + 2 ^ t * (X / 2 ^ b * 2 ^ (b - t)) := by
    have : 2 ^ b = 2 ^ t * 2 ^ (b - t) := by rw [← Nat.pow_add, Nat.add_sub_cancel' ht]
    rw [show 2 ^ t * (X / 2 ^ b * 2 ^ (b - t)) = (2 ^ t * 2 ^ (b - t)) * (X / 2 ^ b) by rw [Nat.mul_comm (X / 2 ^ b), Nat.mul_assoc], ← this]
    omega
  conv => rhs; rw [h4]
  rw [Nat.add_mul_div_left _ _ (Nat.two_pow_pos t), Nat.add_comm]
/-- the digit at a place, or 0 -/
theorem first_dig {b N p : Nat} (hb : b ≠ 0) {K : Dat → Prop} (h : K (.int (N / 2 ^ (b * p) % 2 ^ b : Nat))) : if (p : Int) < ((dN (digs b N)).length : Int) then onSome (atI (dN (digs b N)) (p : Int)) K else K (.int 0) := by
  rw [← digs_getDG hb] at h
  rw [dN_len]
  split
  · rename_i c
    rw [dN_at (n := p) rfl (show (digs b N)[p]? = some ((digs b N).getD p 0) by rw [List.getD_eq_getElem?_getD, List.getElem?_eq_getElem (by omega)]; rfl)]
    exact h
  · rename_i c
    rw [List.getD_eq_getElem?_getD, List.getElem?_eq_none (by omega)] at h
    exact h
def P_g_first : PSp := fun ds w k => match ds with
  | [.tup l, .int s, .int wd, .int bs] => ∃ (b N sz t : Nat), l = dN (digs b N) ∧ s = (sz : Int) ∧ wd = (b : Int) ∧ bs = (t : Int) ∧ (1 ≤ b ∧ b ≤ 30 ∧ t ≤ b ∧ 3 ≤ sz) ∧ ((digs b N).length ≤ sz) ∧ k (.int ((N / 2 ^ (b * (sz - 3) + t) : Nat) : Int)) w
  | _ => False
theorem n_g_first : ∀ ds w k, P_g_first ds w k → ds.length = 4 := fun ds w k h => by
  unfold P_g_first at h
  split at h
  · rfl
  · exact h.elim
theorem e_g_first {l : List Dat} {s wd bs : Int} {w : Wld} {k : Dat → Wld → Prop} : P_g_first [.tup l, .int s, .int wd, .int bs] w k = (∃ (b N sz t : Nat), l = dN (digs b N) ∧ s = (sz : Int) ∧ wd = (b : Int) ∧ bs = (t : Int) ∧ (1 ≤ b ∧ b ≤ 30 ∧ t ≤ b ∧ 3 ≤ sz) ∧ ((digs b N).length ≤ sz) ∧ k (.int ((N / 2 ^ (b * (sz - 3) + t) : Nat) : Int)) w) := rfl
def sp_g_first (K : PySem.W.Frag) (c : Pc) : Sp := lif K c P_g_first
theorem u_g_first {K : PySem.W.Frag} {c : Pc} : SndP K c (sp_g_first K c) P_g_first := SndP.lif
/-- 0:row 1:size 2:width 3:bits 4:one 5:other 6:third 7:place -/
def t_g_first (K : PySem.W.Frag) (c : Pc) : TS :=
  (tSeq (tAsg (tLc (iTup K (tTup (tCons (tOp rSub (tVar 1) (tC (.int 1))) (tCons (tOp rSub (tVar 1) (tC (.int 2))) (tCons (tOp rSub (tVar 1) (tC (.int 3))) tNil))))) (gName 7) tYes (tIf (tTest (tOp rLt (tVar 7) (tCB (rLen K) (tCons (tVar 0) tNil)))) (tOp (rIxT K) (tVar 0) (tVar 7)) (tC (.int 0))) [7]) (gUnl K 3 (gCons (gName 4) (gCons (gName 5) (gCons (gName 6) gNil)))))
  (tRet (tOp rOr (tOp rOr (tOp rShl (tVar 4) (tOp rSub (tOp rMul (tC (.int 2)) (tVar 2)) (tVar 3))) (tOp rShl (tVar 5) (tOp rSub (tVar 2) (tVar 3)))) (tOp rShr (tVar 6) (tVar 3)))))
def p_g_first : PS :=
  (pSeq (pAsgG (pFz (pLc (pIT (pTup (pCons (pOp qSub (pVar 1) (pC (.int 1))) (pCons (pOp qSub (pVar 1) (pC (.int 2))) (pCons (pOp qSub (pVar 1) (pC (.int 3))) pNil))))) (pgName 7) pYes (pIf (pTest (pOp qLt (pVar 7) (pCB qLen (pCons (pVar 0) pNil)))) (pOp qIxT (pVar 0) (pVar 7)) (pC (.int 0))) [7])) (pgUnl [4, 5, 6]))
  (pRet (pOp qOr (pOp qOr (pOp qShl (pVar 4) (pOp qSub (pOp qMul (pC (.int 2)) (pVar 2)) (pVar 3))) (pOp qShl (pVar 5) (pOp qSub (pVar 2) (pVar 3)))) (pOp qShr (pVar 6) (pVar 3)))))
theorem sn_g_first {K : PySem.W.Frag} {c : Pc} {α : Prop} (PM : PM K c) (PB : α) : SndS K c (t_g_first K c) p_g_first :=
  (snd_seq (snd_asgG (snd_fz (snd_lc (snd_iTup (snd_tup (snd_cons (snd_op s_sub snd_var (snd_int 1)) (snd_cons (snd_op s_sub snd_var (snd_int 2)) (snd_cons (snd_op s_sub snd_var (snd_int 3)) snd_nil))))) snd_gName (tgt_name _) snd_yes (snd_if (snd_test (snd_op s_lt snd_var (snd_cb s_len (snd_cons snd_var snd_nil)))) (snd_op s_ixT snd_var snd_var) (snd_int 0)))) (snd_gUnl (is := [4, 5, 6]) rfl))
  (snd_ret (snd_op s_or (snd_op s_or (snd_op s_shl snd_var (snd_op s_sub (snd_op s_mul (snd_int 2) snd_var) snd_var)) (snd_op s_shl snd_var (snd_op s_sub snd_var snd_var))) (snd_op s_shr snd_var snd_var))))
theorem w_g_first : ∀ ds w k, P_g_first ds w k → p_g_first (pen k) (env0 8 ds) w := by
  intro ds w k h
  unfold P_g_first at h
  split at h
  · rename_i l s wd bs
    obtain ⟨b, N, sz, t, rfl, rfl, rfl, rfl, ⟨hb1, hb30, ht, hs⟩, hl, h⟩ := h
    have hz := sizeLine_eq
    unfold p_g_first
    walk_at "pu"
    refine ⟨by omega, ?_⟩
    have e1 : (sz : Int) - 1 = ((sz - 1 : Nat) : Int) := by omega
    have e2 : (sz : Int) - 2 = ((sz - 2 : Nat) : Int) := by omega
    have e3 : (sz : Int) - 3 = ((sz - 3 : Nat) : Int) := by omega
    rw [e1, e2, e3, lcp_cons]
    walk_at "pu"
    refine first_dig (by omega) ?_
    walk_at "pu"
    refine ⟨by omega, ?_⟩
    rw [lcp_cons]
    walk_at "pu"
    refine first_dig (by omega) ?_
    walk_at "pu"
    refine ⟨by omega, ?_⟩
    rw [lcp_cons]
    walk_at "pu"
    refine first_dig (by omega) ?_
    walk_at "pu"
    refine ⟨by omega, ?_⟩
    rw [lcp_nil]
    walk_at "pu"
    refine ⟨mul_okL (by decide) (by decide), ?_⟩
    have hp : 2 ^ b ≤ 2 ^ 30 := Nat.pow_le_pow_right (by decide) hb30
    have hd : ∀ z : Nat, z % 2 ^ b < 2 ^ b := fun z => Nat.mod_lt _ (Nat.two_pow_pos b)
    have f1 := hd (N / 2 ^ (b * (sz - 1)))
    have f2 := hd (N / 2 ^ (b * (sz - 2)))
    have f3 := hd (N / 2 ^ (b * (sz - 3)))
    have hN : N < 2 ^ (b * sz) := by
      have := val_lt (digs_lt (b := b) (by omega) N)
      rw [val_digs (by omega)] at this
      exact Nat.lt_of_lt_of_le this (Nat.pow_le_pow_right (by decide) (Nat.mul_le_mul_left _ hl))
    rw [← first_sum ht hs hN] at h
    generalize N / 2 ^ (b * (sz - 1)) % 2 ^ b = d1 at *
    generalize N / 2 ^ (b * (sz - 2)) % 2 ^ b = d2 at *
    generalize N / 2 ^ (b * (sz - 3)) % 2 ^ b = d3 at *
    rw [show 2 * (b : Int) - (t : Int) = ((b + (b - t) : Nat) : Int) by omega, show (b : Int) - (t : Int) = ((b - t : Nat) : Int) by omega]
    refine shl_natG (by omega) (by omega) ?_
    refine shl_natG (by omega) (by omega) ?_
    walk_at "pu"
    have eP : ((2 : Int) ^ t) = ((2 ^ t : Nat) : Int) := by rw [Int.natCast_pow]; rfl
    have g1 : d2 * 2 ^ (b - t) < 2 ^ (b + (b - t)) := by
      rw [Nat.pow_add]
      exact Nat.mul_lt_mul_of_pos_right f2 (Nat.two_pow_pos _)
    have g2 : d3 / 2 ^ t < 2 ^ (b - t) := by
      refine Nat.div_lt_of_lt_mul ?_
      rw [← Nat.pow_add, Nat.add_sub_cancel' ht]
      exact f3
    rw [Int.toNat_natCast, eP, ← Int.natCast_ediv, or_natG g1, show d1 * 2 ^ (b + (b - t)) + d2 * 2 ^ (b - t) = (d1 * 2 ^ b + d2) * 2 ^ (b - t) by rw [Nat.pow_add, Nat.add_mul, Nat.mul_assoc], or_natG g2]
    exact ⟨by omega, h⟩
  · exact h.elim
theorem b_g_first {K : PySem.W.Frag} {c : Pc} {vs : List V} {H : Hp} {Q : VK} {E : XK} {α : Prop} (PM : PM K c) (PB : α) (h : sp_g_first K c vs H Q E) : t_g_first K c (en0 Q) (st0 8 vs) H := def_ok (sn_g_first PM PB) w_g_first h
theorem digs_len_mono {b x y : Nat} (hb : b ≠ 0) (h : x ≤ y) : (digs b x).length ≤ (digs b y).length := by
  refine digs_length_le hb _ (Nat.lt_of_le_of_lt h ?_)
  have := val_lt (digs_lt hb y)
  rwa [val_digs hb] at this
theorem top_bits {b N : Nat} (hb : 1 ≤ b) (hl : 3 ≤ (digs b N).length) : lhT b N = b * ((digs b N).length - 3) + Builtin.Int.intBits (((digs b N).getD ((digs b N).length - 1) 0 : Nat) : Int) ∧ Builtin.Int.intBits (((digs b N).getD ((digs b N).length - 1) 0 : Nat) : Int) ≤ b ∧ 2 ^ (2 * b) ≤ N := by
  obtain ⟨h1, h2, h3, h4⟩ := cnt_top (b := b) (y := N) (by omega) (by omega)
  have hN0 : N ≠ 0 := fun z => by rw [z, digs_zero] at hl; simp at hl
  obtain ⟨d1, d2, d3⟩ := dig_bounds (b := b) (by omega) hN0
  have hpos : 1 ≤ (digs b N).length := by omega
  have e1 : Builtin.Int.intBits (N : Int) = b * (digs b N).length - cntD b N := by
    obtain ⟨k1, k2, k3⟩ := bits_low hN0
    have hle : cntD b N ≤ b * (digs b N).length := by
      have := Nat.mul_le_mul_left b hpos
      omega
    have ep : 2 ^ (b * (digs b N).length) = 2 ^ (b * (digs b N).length - cntD b N) * 2 ^ cntD b N := by rw [← Nat.pow_add, Nat.sub_add_cancel hle]
    rw [ep] at h3 h4
    have u1 : N < 2 ^ (b * (digs b N).length - cntD b N) := Nat.lt_of_mul_lt_mul_right h3
    have u2 : 2 ^ (b * (digs b N).length - cntD b N) ≤ 2 * N := by
      rw [← Nat.mul_assoc] at h4
      exact Nat.le_of_mul_le_mul_right h4 (Nat.two_pow_pos _)
    have v1 : Builtin.Int.intBits (N : Int) ≤ b * (digs b N).length - cntD b N := intBits_le_iff.mpr u1
    rcases Nat.lt_or_ge (Builtin.Int.intBits (N : Int)) (b * (digs b N).length - cntD b N) with z | z
    · exfalso
      have : 2 ^ (Builtin.Int.intBits (N : Int) + 1) ≤ 2 ^ (b * (digs b N).length - cntD b N) := Nat.pow_le_pow_right (by decide) z
      rw [Nat.pow_succ] at this
      omega
    · omega
  have e2 : b * (digs b N).length = b * ((digs b N).length - 3) + 3 * b := by
    obtain ⟨r, hr⟩ : ∃ r, (digs b N).length = r + 3 := ⟨(digs b N).length - 3, by omega⟩
    rw [hr, Nat.add_sub_cancel, Nat.mul_add]
    omega
  refine ⟨?_, by omega, Nat.le_trans (Nat.pow_le_pow_right (by decide) ?_) d1⟩
  · unfold lhT
    rw [e1, e2]
    generalize Builtin.Int.intBits (((digs b N).getD ((digs b N).length - 1) 0 : Nat) : Int) = B at *
    omega
  · have : (digs b N).length - 1 = (digs b N).length - 3 + 2 := by omega
    rw [this, Nat.mul_add, Nat.mul_comm b 2]
    omega
theorem pl_natsG (l : List Nat) : pl (.lst (l.map fun (z : Nat) => Dat.int (z : Int))) := by
  show (l.map fun (z : Nat) => Dat.int (z : Int)).all (plF 8) = true
  rw [List.all_eq_true]
  intro d hd
  obtain ⟨z, _, rfl⟩ := List.mem_map.mp hd
  rfl
theorem nb_natsG (l : List Nat) (n : Nat) : nbF (n + 2) (.lst (l.map fun (z : Nat) => Dat.int (z : Int))) = true := by
  show (l.map fun (z : Nat) => Dat.int (z : Int)).all (nbF (n + 1)) = true
  rw [List.all_eq_true]
  intro d hd
  obtain ⟨z, _, rfl⟩ := List.mem_map.mp hd
  rfl
theorem pow_ge_of_len {b N : Nat} (hb : 1 ≤ b) (h : 3 ≤ (digs b N).length) : 2 ^ (2 * b) ≤ N := (top_bits hb h).2.2
theorem shl1X {b : Nat} {k : Dat → Prop} (h : b ≤ 1000) : qShl (.int 1) (.int (b : Int)) k = k (.int ((2 ^ b : Nat) : Int)) := by
  rw [eShl]
  have e : (1 : Int) * 2 ^ ((b : Int)).toNat = ((2 ^ b : Nat) : Int) := by rw [Int.one_mul, Int.toNat_natCast, pwN]
  rw [e]
  exact propext ⟨fun z => z.2, fun z => ⟨shl_one (by omega), z⟩⟩
theorem digs_step {b f d : Nat} (hb : b ≠ 0) (hd : d < 2 ^ b) (h : f ≠ 0 ∨ d ≠ 0) : (digs b (f * 2 ^ b + d)).length = (digs b f).length + 1 := by
  have hp := Nat.two_pow_pos b
  have hn : f * 2 ^ b + d ≠ 0 := by
    rcases h with z | z
    · have := Nat.mul_pos (Nat.pos_of_ne_zero z) hp
      omega
    · omega
  rw [digs_pos hb hn, show (f * 2 ^ b + d) / 2 ^ b = f by rw [Nat.add_comm, Nat.add_mul_div_right _ _ hp, Nat.div_eq_of_lt hd, Nat.zero_add], List.length_cons]
def P_x_engines : PSp := fun ds w k => match ds with
  | [.src j] => j < w.ss ∧ ∀ (b : Nat) (cut : Int), 8 ≤ b → b ≤ 30 → 2 ≤ cut → cut ≤ 1000 → k (.lst [.mach w.ms.length, .mach (w.ms.length + 1)]) ⟨w.ms ++ [⟨b, cut, zeros, []⟩, ⟨b, cut, zeros, []⟩], w.ss, w.os⟩
  | _ => False
theorem n_x_engines : ∀ ds w k, P_x_engines ds w k → ds.length = 1 := fun ds w k h => by
  unfold P_x_engines at h
  split at h
  · rfl
  · exact h.elim
theorem e_x_engines {j : Nat} {w : Wld} {k : Dat → Wld → Prop} : P_x_engines [.src j] w k = (j < w.ss ∧ ∀ (b : Nat) (cut : Int), 8 ≤ b → b ≤ 30 → 2 ≤ cut → cut ≤ 1000 → k (.lst [.mach w.ms.length, .mach (w.ms.length + 1)]) ⟨w.ms ++ [⟨b, cut, zeros, []⟩, ⟨b, cut, zeros, []⟩], w.ss, w.os⟩) := rfl
def sp_x_engines (K : PySem.W.Frag) (c : Pc) : Sp := lif K c P_x_engines
theorem u_x_engines {K : PySem.W.Frag} {c : Pc} : SndP K c (sp_x_engines K c) P_x_engines := SndP.lif
/-- 0:_law_source_here 1:_law_width 2:_law_edge 3:_law_k -/
def t_x_engines (K : PySem.W.Frag) (c : Pc) : TS :=
  (tSeq (tAsg (tCall (sp_x_one K c) [] E0 (tCons (tVar 0) (tCons (tLst (tCons (tC (.int 8)) (tCons (tC (.int 8)) (tCons (tC (.int 8)) (tCons (tC (.int 9)) (tCons (tC (.int 13)) (tCons (tC (.int 15)) (tCons (tC (.int 30)) (tCons (tOp rAdd (tC (.int 8)) (tCall (sp_x_draw K c) [] E0 (tCons (tVar 0) (tCons (tC (.int 23)) tNil)))) (tCons (tOp rAdd (tC (.int 8)) (tCall (sp_x_draw K c) [] E0 (tCons (tVar 0) (tCons (tC (.int 23)) tNil)))) tNil)))))))))) tNil))) (gName 1))
  (tSeq (tAsg (tCall (sp_x_one K c) [] E0 (tCons (tVar 0) (tCons (tLst (tCons (tC (.int 2)) (tCons (tC (.int 3)) (tCons (tC (.int 4)) (tCons (tC (.int 7)) (tCons (tOp rAdd (tC (.int 2)) (tCall (sp_x_draw K c) [] E0 (tCons (tVar 0) (tCons (tC (.int 9)) tNil)))) tNil)))))) tNil))) (gName 2))
  (tRet (tLc (iRng1 (tCons (tC (.int 2)) tNil)) (gName 3) tYes (tMake c.CMachine (sp_Machine_init K c) [] E0 (tCons (tVar 1) (tCons (tVar 2) tNil))) [3]))))
def p_x_engines : PS :=
  (pSeq (pAsg (pCall P_x_one (pCons (pVar 0) (pCons (pFz (pLst (pCons (pC (.int 8)) (pCons (pC (.int 8)) (pCons (pC (.int 8)) (pCons (pC (.int 9)) (pCons (pC (.int 13)) (pCons (pC (.int 15)) (pCons (pC (.int 30)) (pCons (pOp qAdd (pC (.int 8)) (pCall P_x_draw (pCons (pVar 0) (pCons (pC (.int 23)) pNil)))) (pCons (pOp qAdd (pC (.int 8)) (pCall P_x_draw (pCons (pVar 0) (pCons (pC (.int 23)) pNil)))) pNil))))))))))) pNil))) 1)
  (pSeq (pAsg (pCall P_x_one (pCons (pVar 0) (pCons (pFz (pLst (pCons (pC (.int 2)) (pCons (pC (.int 3)) (pCons (pC (.int 4)) (pCons (pC (.int 7)) (pCons (pOp qAdd (pC (.int 2)) (pCall P_x_draw (pCons (pVar 0) (pCons (pC (.int 9)) pNil)))) pNil))))))) pNil))) 2)
  (pRet (pFz (pLc (pIR1 (pC (.int 2))) (pgName 3) pYes (pCallD P_Machine [] (pCons (pVar 1) (pCons (pVar 2) pNil))) [3])))))
theorem sn_x_engines {K : PySem.W.Frag} {c : Pc} {α : Prop} (PM : PM K c) (PB : α) : SndS K c (t_x_engines K c) p_x_engines :=
  (snd_seq (snd_asg (snd_call u_x_one (snd_cons snd_var (snd_cons (snd_fz (snd_lst (snd_cons (snd_int 8) (snd_cons (snd_int 8) (snd_cons (snd_int 8) (snd_cons (snd_int 9) (snd_cons (snd_int 13) (snd_cons (snd_int 15) (snd_cons (snd_int 30) (snd_cons (snd_op s_add (snd_int 8) (snd_call u_x_draw (snd_cons snd_var (snd_cons (snd_int 23) snd_nil)))) (snd_cons (snd_op s_add (snd_int 8) (snd_call u_x_draw (snd_cons snd_var (snd_cons (snd_int 23) snd_nil)))) snd_nil))))))))))) snd_nil))))
  (snd_seq (snd_asg (snd_call u_x_one (snd_cons snd_var (snd_cons (snd_fz (snd_lst (snd_cons (snd_int 2) (snd_cons (snd_int 3) (snd_cons (snd_int 4) (snd_cons (snd_int 7) (snd_cons (snd_op s_add (snd_int 2) (snd_call u_x_draw (snd_cons snd_var (snd_cons (snd_int 9) snd_nil)))) snd_nil))))))) snd_nil))))
  (snd_ret (snd_fz (snd_lc (snd_iR1 (snd_int 2)) snd_gName (tgt_name _) snd_yes (snd_mkM (fun _ => .nil) (snd_cons snd_var (snd_cons snd_var snd_nil))))))))
theorem w_x_engines : ∀ ds w k, P_x_engines ds w k → p_x_engines (pen k) (env0 4 ds) w := by
  intro ds w k h
  unfold P_x_engines at h
  split at h
  · rename_i j
    obtain ⟨hj, h⟩ := h
    have hz := sizeLine_eq
    unfold p_x_engines
    walk_at "pu"
    simp only [e_x_draw, e_x_one]
    refine ⟨hj, nxOk (by decide) (by decide), fun r hr0 hr => ?_⟩
    walk_at "pu"
    refine ⟨hj, nxOk (by decide) (by decide), fun q hq0 hq => ?_⟩
    walk_at "pu"
    refine ⟨by omega, hj, ⟨by simp, by simp⟩, fun d hd => ?_⟩
    obtain ⟨b, rfl, hb1, hb2⟩ : ∃ b : Nat, d = .int (b : Int) ∧ 8 ≤ b ∧ b ≤ 30 := by
      simp only [List.mem_cons, List.not_mem_nil, or_false] at hd
      rcases hd with rfl | rfl | rfl | rfl | rfl | rfl | rfl | rfl | rfl
      · exact ⟨8, rfl, by omega, by omega⟩
      · exact ⟨8, rfl, by omega, by omega⟩
      · exact ⟨8, rfl, by omega, by omega⟩
      · exact ⟨9, rfl, by omega, by omega⟩
      · exact ⟨13, rfl, by omega, by omega⟩
      · exact ⟨15, rfl, by omega, by omega⟩
      · exact ⟨30, rfl, by omega, by omega⟩
      · exact ⟨(8 + r).toNat, by rw [Int.toNat_of_nonneg (by omega)], by omega, by omega⟩
      · exact ⟨(8 + q).toNat, by rw [Int.toNat_of_nonneg (by omega)], by omega, by omega⟩
    clear hd
    refine ⟨hj, nxOk (by decide) (by decide), fun u hu0 hu => ?_⟩
    walk_at "pu"
    refine ⟨by omega, hj, ⟨by simp, by simp⟩, fun d hd => ?_⟩
    obtain ⟨cut, rfl, hc1, hc2⟩ : ∃ cut : Int, d = .int cut ∧ 2 ≤ cut ∧ cut ≤ 1000 := by
      simp only [List.mem_cons, List.not_mem_nil, or_false] at hd
      rcases hd with rfl | rfl | rfl | rfl | rfl
      · exact ⟨_, rfl, by omega, by omega⟩
      · exact ⟨_, rfl, by omega, by omega⟩
      · exact ⟨_, rfl, by omega, by omega⟩
      · exact ⟨_, rfl, by omega, by omega⟩
      · exact ⟨_, rfl, by omega, by omega⟩
    clear hd
    refine ⟨⟨by decide, by decide⟩, ?_⟩
    rw [show rng 0 (Int.toNat 2) = [.int 0, .int 1] from rfl, lcp_cons]
    walk_at "pu"
    refine ⟨⟨by omega, by omega, hc1, hc2⟩, by omega, ?_⟩
    rw [lcp_cons]
    walk_at "pu"
    refine ⟨⟨by omega, by omega, hc1, hc2⟩, by omega, ?_⟩
    rw [lcp_nil]
    have := h b cut hb1 hb2 hc1 hc2
    rw [Int.toNat_natCast, List.append_assoc, List.length_append]
    exact this
  · exact h.elim
theorem b_x_engines {K : PySem.W.Frag} {c : Pc} {vs : List V} {H : Hp} {Q : VK} {E : XK} {α : Prop} (PM : PM K c) (PB : α) (h : sp_x_engines K c vs H Q E) : t_x_engines K c (en0 Q) (st0 4 vs) H := def_ok (sn_x_engines PM PB) w_x_engines h
def P_x_count : PSp := fun ds w k => match ds with
  | [.src j, .int wd, .int sz] => ∃ b s : Nat, wd = (b : Int) ∧ sz = (s : Int) ∧ j < w.ss ∧ (8 ≤ b ∧ b ≤ 30) ∧ s ≤ 100 ∧ ∀ x : Nat, (digs b x).length = s → k (.int (x : Int)) w
  | _ => False
theorem n_x_count : ∀ ds w k, P_x_count ds w k → ds.length = 3 := fun ds w k h => by
  unfold P_x_count at h
  split at h
  · rfl
  · exact h.elim
theorem e_x_count {j : Nat} {wd sz : Int} {w : Wld} {k : Dat → Wld → Prop} : P_x_count [.src j, .int wd, .int sz] w k = (∃ b s : Nat, wd = (b : Int) ∧ sz = (s : Int) ∧ j < w.ss ∧ (8 ≤ b ∧ b ≤ 30) ∧ s ≤ 100 ∧ ∀ x : Nat, (digs b x).length = s → k (.int (x : Int)) w) := rfl
def sp_x_count (K : PySem.W.Frag) (c : Pc) : Sp := lif K c P_x_count
theorem u_x_count {K : PySem.W.Frag} {c : Pc} : SndP K c (sp_x_count K c) P_x_count := SndP.lif
/-- 0:_law_source_here 1:_law_width 2:_law_size 3:_law_found 4:_law_k 5:_law_some 6:_law_digit -/
def t_x_count (K : PySem.W.Frag) (c : Pc) : TS :=
  (tSeq (tAsg (tC (.int 0)) (gName 3))
  (tSeq (tFor (iRng1 (tCons (tVar 2) tNil)) (gName 4) (tSeq (tAsg (tLst (tCons (tCall (sp_x_draw K c) [] E0 (tCons (tVar 0) (tCons (tOp rShl (tC (.int 1)) (tVar 1)) tNil))) (tCons (tCall (sp_x_draw K c) [] E0 (tCons (tVar 0) (tCons (tOp rShl (tC (.int 1)) (tVar 1)) tNil))) (tCons (tC (.int 0)) (tCons (tOp rSub (tOp rShl (tC (.int 1)) (tVar 1)) (tC (.int 1))) (tCons (tC (.int 1)) tNil)))))) (gName 5))
  (tSeq (tAsg (tCall (sp_x_one K c) [] E0 (tCons (tVar 0) (tCons (tVar 5) tNil))) (gName 6))
  (tAsg (tOp rAdd (tOp rShl (tVar 3) (tVar 1)) (tIf (tTest (tOp rEq (tVar 4) (tC (.int 0)))) (tCB rMax2 (tCons (tC (.int 1)) (tCons (tVar 6) tNil))) (tVar 6))) (gName 3)))))
  (tRet (tVar 3))))
def b1_x_count : PS :=
  (pSeq (pAsg (pFz (pLst (pCons (pCall P_x_draw (pCons (pVar 0) (pCons (pOp qShl (pC (.int 1)) (pVar 1)) pNil))) (pCons (pCall P_x_draw (pCons (pVar 0) (pCons (pOp qShl (pC (.int 1)) (pVar 1)) pNil))) (pCons (pC (.int 0)) (pCons (pOp qSub (pOp qShl (pC (.int 1)) (pVar 1)) (pC (.int 1))) (pCons (pC (.int 1)) pNil))))))) 5)
  (pSeq (pAsg (pCall P_x_one (pCons (pVar 0) (pCons (pVar 5) pNil))) 6)
  (pAsg (pOp qAdd (pOp qShl (pVar 3) (pVar 1)) (pIf (pTest (pOp qEq (pVar 4) (pC (.int 0)))) (pCB qMax2 (pCons (pC (.int 1)) (pCons (pVar 6) pNil))) (pVar 6))) 3)))
def p_x_count : PS :=
  (pSeq (pAsg (pC (.int 0)) 3)
  (pSeq (pFor (pIR1 (pVar 2)) (pgName 4) b1_x_count)
  (pRet (pVar 3))))
theorem sn_x_count {K : PySem.W.Frag} {c : Pc} {α : Prop} (PM : PM K c) (PB : α) : SndS K c (t_x_count K c) p_x_count :=
  (snd_seq (snd_asg (snd_int 0))
  (snd_seq (snd_for (snd_iR1 snd_var) snd_gName (snd_seq (snd_asg (snd_fz (snd_lst (snd_cons (snd_call u_x_draw (snd_cons snd_var (snd_cons (snd_op s_shl (snd_int 1) snd_var) snd_nil))) (snd_cons (snd_call u_x_draw (snd_cons snd_var (snd_cons (snd_op s_shl (snd_int 1) snd_var) snd_nil))) (snd_cons (snd_int 0) (snd_cons (snd_op s_sub (snd_op s_shl (snd_int 1) snd_var) (snd_int 1)) (snd_cons (snd_int 1) snd_nil))))))))
  (snd_seq (snd_asg (snd_call u_x_one (snd_cons snd_var (snd_cons snd_var snd_nil))))
  (snd_asg (snd_op s_add (snd_op s_shl snd_var snd_var) (snd_if (snd_test (snd_op s_eq snd_var (snd_int 0))) (snd_cb s_max2 (snd_cons (snd_int 1) (snd_cons snd_var snd_nil))) snd_var))))))
  (snd_ret snd_var)))
theorem w_x_count : ∀ ds w k, P_x_count ds w k → p_x_count (pen k) (env0 7 ds) w := by
  intro ds w k h
  unfold P_x_count at h
  split at h
  · rename_i j wd sz
    obtain ⟨b, s, rfl, rfl, hj, ⟨hb8, hb30⟩, hs, h⟩ := h
    have hz := sizeLine_eq
    unfold p_x_count
    walk_at "pu"
    have hp30 : 2 ^ b ≤ 2 ^ 30 := Nat.pow_le_pow_right (by decide) hb30
    have hp8 : 2 ^ 8 ≤ 2 ^ b := Nat.pow_le_pow_right (by decide) hb8
    refine ⟨⟨by omega, by omega⟩, ?_⟩
    rw [Int.toNat_natCast]
    refine lp_ind (fun t e w' => w' = w ∧ ∃ (f : Nat) (y4 y5 y6 : Slot), (digs b f).length = t ∧ e = [.val (.src j), .val (.int (b : Int)), .val (.int (s : Int)), .val (.int (f : Int)), y4, y5, y6]) ⟨rfl, 0, _, _, _, by rw [digs_zero]; rfl, rfl⟩ ?_ ?_
    · rintro t d e w' nx hd ⟨rfl, f, y4, y5, y6, hf, rfl⟩ hn
      obtain ⟨ht, rfl⟩ := rng_get hd
      unfold b1_x_count
      walk_at "pu"
      simp only [shl1X (show b ≤ 1000 by omega), e_x_draw, e_x_one]
      refine ⟨hj, nxOk (by omega) (by omega), fun r hr0 hr => ⟨hj, nxOk (by omega) (by omega), fun q hq0 hq => ?_⟩⟩
      walk_at "pu"
      refine ⟨by omega, hj, ⟨by simp, by simp⟩, fun d hd => ?_⟩
      obtain ⟨g, rfl, hg⟩ : ∃ g : Nat, d = .int (g : Int) ∧ g < 2 ^ b := by
        simp only [List.mem_cons, List.not_mem_nil, or_false] at hd
        rcases hd with rfl | rfl | rfl | rfl | rfl
        · exact ⟨r.toNat, by rw [Int.toNat_of_nonneg hr0], by omega⟩
        · exact ⟨q.toNat, by rw [Int.toNat_of_nonneg hq0], by omega⟩
        · exact ⟨0, rfl, by omega⟩
        · exact ⟨2 ^ b - 1, by rw [show ((2 ^ b - 1 : Nat) : Int) = ((2 ^ b : Nat) : Int) - 1 by omega], by omega⟩
        · exact ⟨1, rfl, by omega⟩
      clear hd
      walk_at "pu"
      have hfl : f < 2 ^ 3000 := by
        have := val_lt (digs_lt (b := b) (by omega) f)
        rw [val_digs (by omega), hf] at this
        exact Nat.lt_of_lt_of_le this (Nat.pow_le_pow_right (by decide) (Nat.le_trans (Nat.mul_le_mul hb30 (show t ≤ 100 by omega)) (by decide)))
      have hsh : ∀ K : Dat → Prop, K (.int ((f * 2 ^ b : Nat) : Int)) → qShl (.int (f : Int)) (.int (b : Int)) K := fun K hK => by
        rw [eShl]
        refine ⟨shl_ok (n := 3000) (by rw [Int.natAbs_natCast]; exact hfl) (by clear hfl; omega), ?_⟩
        rw [Int.toNat_natCast]
        rw [Int.natCast_mul, Int.natCast_pow] at hK
        exact hK
      clear hfl
      refine hsh _ ?_
      walk_at "pu"
      refine ite_2 (fun c => ?_) fun c => ?_
      · have ht0 : t = 0 := by omega
        subst ht0
        have f0 : f = 0 := Decidable.byContradiction fun z => by
          have := (digs_pos (b := b) (by omega) z) ▸ hf
          simp at this
        have eg : (if (g : Int) > 1 then (g : Int) else 1) = ((max 1 g : Nat) : Int) := by split <;> omega
        rw [eg, ← Int.natCast_add]
        exact hn _ _ ⟨rfl, _, _, _, _, by rw [digs_step (by omega) (by omega) (.inr (by omega)), hf], rfl⟩
      · have f0 : f ≠ 0 := fun z => by
          rw [z, digs_zero] at hf
          exact c (by rw [← hf]; rfl)
        rw [← Int.natCast_add]
        exact hn _ _ ⟨rfl, _, _, _, _, by rw [digs_step (by omega) hg (.inl f0), hf], rfl⟩
    · rintro e w' ⟨rfl, f, y4, y5, y6, hf, rfl⟩
      rw [rng_len] at hf
      walk_at "pu"
      exact h f hf
  · exact h.elim
theorem b_x_count {K : PySem.W.Frag} {c : Pc} {vs : List V} {H : Hp} {Q : VK} {E : XK} {α : Prop} (PM : PM K c) (PB : α) (h : sp_x_count K c vs H Q E) : t_x_count K c (en0 Q) (st0 7 vs) H := def_ok (sn_x_count PM PB) w_x_count h
def P_x_number : PSp := fun ds w k => match ds with
  | [.src j, .int wd, .int most] => ∃ b s : Nat, wd = (b : Int) ∧ most = (s : Int) ∧ j < w.ss ∧ (8 ≤ b ∧ b ≤ 30) ∧ s ≤ 100 ∧ ∀ x : Int, (digs b x.natAbs).length ≤ s → k (.int x) w
  | _ => False
theorem n_x_number : ∀ ds w k, P_x_number ds w k → ds.length = 3 := fun ds w k h => by
  unfold P_x_number at h
  split at h
  · rfl
  · exact h.elim
theorem e_x_number {j : Nat} {wd most : Int} {w : Wld} {k : Dat → Wld → Prop} : P_x_number [.src j, .int wd, .int most] w k = (∃ b s : Nat, wd = (b : Int) ∧ most = (s : Int) ∧ j < w.ss ∧ (8 ≤ b ∧ b ≤ 30) ∧ s ≤ 100 ∧ ∀ x : Int, (digs b x.natAbs).length ≤ s → k (.int x) w) := rfl
def sp_x_number (K : PySem.W.Frag) (c : Pc) : Sp := lif K c P_x_number
theorem u_x_number {K : PySem.W.Frag} {c : Pc} : SndP K c (sp_x_number K c) P_x_number := SndP.lif
/-- 0:_law_source_here 1:_law_width 2:_law_most 3:_law_size -/
def t_x_number (K : PySem.W.Frag) (c : Pc) : TS :=
  (tSeq (tAsg (tCall (sp_x_draw K c) [] E0 (tCons (tVar 0) (tCons (tOp rAdd (tVar 2) (tC (.int 1))) tNil))) (gName 3))
  (tRet (tOp rMul (tCall (sp_x_count K c) [] E0 (tCons (tVar 0) (tCons (tVar 1) (tCons (tVar 3) tNil)))) (tCall (sp_x_one K c) [] E0 (tCons (tVar 0) (tCons (tLst (tCons (tC (.int 1)) (tCons (tC (.int 1)) (tCons (tUn rNeg (tC (.int 1))) tNil)))) tNil))))))
def p_x_number : PS :=
  (pSeq (pAsg (pCall P_x_draw (pCons (pVar 0) (pCons (pOp qAdd (pVar 2) (pC (.int 1))) pNil))) 3)
  (pRet (pOp qMul (pCall P_x_count (pCons (pVar 0) (pCons (pVar 1) (pCons (pVar 3) pNil)))) (pCall P_x_one (pCons (pVar 0) (pCons (pFz (pLst (pCons (pC (.int 1)) (pCons (pC (.int 1)) (pCons (pUn qNeg (pC (.int 1))) pNil))))) pNil))))))
theorem sn_x_number {K : PySem.W.Frag} {c : Pc} {α : Prop} (PM : PM K c) (PB : α) : SndS K c (t_x_number K c) p_x_number :=
  (snd_seq (snd_asg (snd_call u_x_draw (snd_cons snd_var (snd_cons (snd_op s_add snd_var (snd_int 1)) snd_nil))))
  (snd_ret (snd_op s_mul (snd_call u_x_count (snd_cons snd_var (snd_cons snd_var (snd_cons snd_var snd_nil)))) (snd_call u_x_one (snd_cons snd_var (snd_cons (snd_fz (snd_lst (snd_cons (snd_int 1) (snd_cons (snd_int 1) (snd_cons (snd_neg (snd_int 1)) snd_nil))))) snd_nil))))))
theorem w_x_number : ∀ ds w k, P_x_number ds w k → p_x_number (pen k) (env0 4 ds) w := by
  intro ds w k h
  unfold P_x_number at h
  split at h
  · rename_i j wd most
    obtain ⟨b, s, rfl, rfl, hj, ⟨hb8, hb30⟩, hs, h⟩ := h
    have hz := sizeLine_eq
    unfold p_x_number
    walk_at "pu"
    rw [e_x_draw]
    refine ⟨hj, nxOk (by omega) (by omega), fun r hr0 hr => ?_⟩
    rw [e_x_count]
    refine ⟨b, r.toNat, rfl, by rw [Int.toNat_of_nonneg hr0], hj, ⟨hb8, hb30⟩, by omega, fun x hx => ?_⟩
    rw [e_x_one]
    refine ⟨by omega, hj, ⟨by simp, by simp⟩, fun d hd => ?_⟩
    have hd : d = .int 1 ∨ d = .int (-1) := by
      simp only [List.mem_cons, List.not_mem_nil, or_false] at hd
      rcases hd with rfl | rfl | rfl <;> simp
    rcases hd with rfl | rfl
    · walk_at "pu"
      refine ⟨mul_okR (by decide) (by decide), h _ ?_⟩
      rw [show ((x : Int) * 1).natAbs = x by omega]
      omega
    · walk_at "pu"
      refine ⟨mul_okR (by decide) (by decide), h _ ?_⟩
      rw [show ((x : Int) * -1).natAbs = x by omega]
      omega
  · exact h.elim
theorem b_x_number {K : PySem.W.Frag} {c : Pc} {vs : List V} {H : Hp} {Q : VK} {E : XK} {α : Prop} (PM : PM K c) (PB : α) (h : sp_x_number K c vs H Q E) : t_x_number K c (en0 Q) (st0 4 vs) H := def_ok (sn_x_number PM PB) w_x_number h
theorem lt_digsX {b x k : Nat} (hb : b ≠ 0) (h : (digs b x).length ≤ k) : x < 2 ^ (b * k) := by
  have := val_lt (digs_lt (b := b) hb x)
  rw [val_digs hb] at this
  exact Nat.lt_of_lt_of_le this (Nat.pow_le_pow_right (by decide) (Nat.mul_le_mul_left _ h))
theorem size_bits {b x : Nat} (hb : 1 ≤ b) : (Builtin.Int.intBits (x : Int) + b - 1) / b = (digs b x).length := by
  by_cases h0 : x = 0
  · subst h0
    rw [digs_zero]
    have : Builtin.Int.intBits ((0 : Nat) : Int) ≤ 0 := intBits_le_iff.mpr (by decide)
    exact Nat.div_eq_of_lt (by omega)
  · obtain ⟨d1, d2, d3⟩ := dig_bounds (b := b) (by omega) h0
    have h1 : Builtin.Int.intBits (x : Int) ≤ b * (digs b x).length := intBits_le_iff.mpr d2
    have h2 : b * ((digs b x).length - 1) + 1 ≤ Builtin.Int.intBits (x : Int) := by
      rcases Nat.lt_or_ge (b * ((digs b x).length - 1)) (Builtin.Int.intBits (x : Int)) with z | z
      · exact z
      · have h3 : x < 2 ^ (b * ((digs b x).length - 1)) := intBits_le_iff (x := (x : Int)).mp z
        omega
    obtain ⟨l, hl⟩ : ∃ l, (digs b x).length = l + 1 := ⟨(digs b x).length - 1, by omega⟩
    rw [hl] at h1 h2 ⊢
    rw [Nat.add_sub_cancel] at h2
    rw [Nat.mul_add, Nat.mul_one] at h1
    generalize Builtin.Int.intBits (x : Int) = B at *
    refine Nat.div_eq_of_lt_le ?_ ?_
    · rw [Nat.add_mul, Nat.mul_comm l b]; omega
    · rw [show l + 1 + 1 = l + 2 by omega, Nat.add_mul, Nat.mul_comm l b]; omega
def P_y_size : PSp := fun ds w k => match ds with
  | [.int n, .int wd] => ∃ b : Nat, wd = (b : Int) ∧ (1 ≤ b ∧ b ≤ 30) ∧ k (.int ((digs b n.natAbs).length : Int)) w
  | _ => False
theorem n_y_size : ∀ ds w k, P_y_size ds w k → ds.length = 2 := fun ds w k h => by
  unfold P_y_size at h
  split at h
  · rfl
  · exact h.elim
theorem e_y_size {n wd : Int} {w : Wld} {k : Dat → Wld → Prop} : P_y_size [.int n, .int wd] w k = (∃ b : Nat, wd = (b : Int) ∧ (1 ≤ b ∧ b ≤ 30) ∧ k (.int ((digs b n.natAbs).length : Int)) w) := rfl
def sp_y_size (K : PySem.W.Frag) (c : Pc) : Sp := lif K c P_y_size
theorem u_y_size {K : PySem.W.Frag} {c : Pc} : SndP K c (sp_y_size K c) P_y_size := SndP.lif
/-- 0:_law_n 1:_law_width -/
def t_y_size (K : PySem.W.Frag) (c : Pc) : TS :=
  (tRet (tOp rDiv (tOp rSub (tOp rAdd (tBits (tCB rAbs (tCons (tVar 0) tNil))) (tVar 1)) (tC (.int 1))) (tVar 1)))
def p_y_size : PS :=
  (pRet (pOp qDiv (pOp qSub (pOp qAdd (pBits (pCB qAbs (pCons (pVar 0) pNil))) (pVar 1)) (pC (.int 1))) (pVar 1)))
theorem sn_y_size {K : PySem.W.Frag} {c : Pc} {α : Prop} (PM : PM K c) (PB : α) : SndS K c (t_y_size K c) p_y_size :=
  (snd_ret (snd_op s_div (snd_op s_sub (snd_op s_add (snd_bits (snd_cb s_abs (snd_cons snd_var snd_nil))) snd_var) (snd_int 1)) snd_var))
theorem w_y_size : ∀ ds w k, P_y_size ds w k → p_y_size (pen k) (env0 2 ds) w := by
  intro ds w k h
  unfold P_y_size at h
  split at h
  · rename_i n wd
    obtain ⟨b, rfl, ⟨hb1, hb30⟩, h⟩ := h
    have hz := sizeLine_eq
    unfold p_y_size
    walk_at "pu"
    refine ⟨div_ok (k := 30) (by omega) (by rw [Int.natAbs_natCast]; exact Nat.lt_of_le_of_lt hb30 (by decide)) (by decide) (by decide), ?_⟩
    rw [show (if n < 0 then -n else n) = (n.natAbs : Int) by split <;> omega]
    have e : ((Builtin.Int.intBits (n.natAbs : Int) : Int) + (b : Int) - 1) / (b : Int) = ((digs b n.natAbs).length : Int) := by
      rw [show (Builtin.Int.intBits (n.natAbs : Int) : Int) + (b : Int) - 1 = ((Builtin.Int.intBits (n.natAbs : Int) + b - 1 : Nat) : Int) by omega, ← Int.natCast_ediv, size_bits (by omega)]
    rw [e]
    exact h
  · exact h.elim
theorem b_y_size {K : PySem.W.Frag} {c : Pc} {vs : List V} {H : Hp} {Q : VK} {E : XK} {α : Prop} (PM : PM K c) (PB : α) (h : sp_y_size K c vs H Q E) : t_y_size K c (en0 Q) (st0 2 vs) H := def_ok (sn_y_size PM PB) w_y_size h
def fibP : Nat → Nat × Nat
  | 0 => (1, 1)
  | n + 1 => ((fibP n).2, (fibP n).1 + (fibP n).2)
def P_y_fibs : PSp := fun ds w k => match ds with
  | [.int n] => ∃ t : Nat, n = (t : Int) ∧ 1 ≤ t ∧ t ≤ 1000 ∧ k (.tup [.int ((fibP (t - 1)).1 : Nat), .int ((fibP (t - 1)).2 : Nat)]) w
  | _ => False
theorem n_y_fibs : ∀ ds w k, P_y_fibs ds w k → ds.length = 1 := fun ds w k h => by
  unfold P_y_fibs at h
  split at h
  · rfl
  · exact h.elim
theorem e_y_fibs {n : Int} {w : Wld} {k : Dat → Wld → Prop} : P_y_fibs [.int n] w k = (∃ t : Nat, n = (t : Int) ∧ 1 ≤ t ∧ t ≤ 1000 ∧ k (.tup [.int ((fibP (t - 1)).1 : Nat), .int ((fibP (t - 1)).2 : Nat)]) w) := rfl
def sp_y_fibs (K : PySem.W.Frag) (c : Pc) : Sp := lif K c P_y_fibs
theorem u_y_fibs {K : PySem.W.Frag} {c : Pc} : SndP K c (sp_y_fibs K c) P_y_fibs := SndP.lif
/-- 0:_law_k 1:_law_one_here 2:_law_other 3:_law_turn -/
def t_y_fibs (K : PySem.W.Frag) (c : Pc) : TS :=
  (tSeq (tAsg (tTup (tCons (tC (.int 1)) (tCons (tC (.int 1)) tNil))) (gTup K 2 (gCons (gName 1) (gCons (gName 2) gNil))))
  (tSeq (tFor (iRng1 (tCons (tOp rSub (tVar 0) (tC (.int 1))) tNil)) (gName 3) (tPar 1 2 (tCons (tVar 2) (tCons (tOp rAdd (tVar 1) (tVar 2)) tNil))))
  (tRet (tTup (tCons (tVar 1) (tCons (tVar 2) tNil))))))
def b1_y_fibs : PS :=
  (pPar [1, 2] (pCons (pVar 2) (pCons (pOp qAdd (pVar 1) (pVar 2)) pNil)))
def p_y_fibs : PS :=
  (pSeq (pAsgG (pTup (pCons (pC (.int 1)) (pCons (pC (.int 1)) pNil))) (pgTup [1, 2]))
  (pSeq (pFor (pIR1 (pOp qSub (pVar 0) (pC (.int 1)))) (pgName 3) b1_y_fibs)
  (pRet (pTup (pCons (pVar 1) (pCons (pVar 2) pNil))))))
theorem sn_y_fibs {K : PySem.W.Frag} {c : Pc} {α : Prop} (PM : PM K c) (PB : α) : SndS K c (t_y_fibs K c) p_y_fibs :=
  (snd_seq (snd_asgG (snd_tup (snd_cons (snd_int 1) (snd_cons (snd_int 1) snd_nil))) (snd_gTup (is := [1, 2]) rfl))
  (snd_seq (snd_for (snd_iR1 (snd_op s_sub snd_var (snd_int 1))) snd_gName (snd_par (snd_cons snd_var (snd_cons (snd_op s_add snd_var snd_var) snd_nil))))
  (snd_ret (snd_tup (snd_cons snd_var (snd_cons snd_var snd_nil))))))
theorem w_y_fibs : ∀ ds w k, P_y_fibs ds w k → p_y_fibs (pen k) (env0 4 ds) w := by
  intro ds w k h
  unfold P_y_fibs at h
  split at h
  · rename_i n
    obtain ⟨t, rfl, ht1, ht2, h⟩ := h
    have hz := sizeLine_eq
    unfold p_y_fibs
    walk_at "pu"
    refine ⟨by omega, ⟨by omega, by omega⟩, ?_⟩
    rw [show ((t : Int) - 1).toNat = t - 1 by omega]
    refine lp_ind (fun q e w' => w' = w ∧ ∃ y3, e = [.val (.int (t : Int)), .val (.int ((fibP q).1 : Nat)), .val (.int ((fibP q).2 : Nat)), y3]) ⟨rfl, _, rfl⟩ ?_ ?_
    · rintro q d e w' nx hd ⟨rfl, y3, rfl⟩ hn
      obtain ⟨hq, rfl⟩ := rng_get hd
      unfold b1_y_fibs
      walk_at "pu"
      rw [← Int.natCast_add]
      exact hn _ _ ⟨rfl, _, rfl⟩
    · rintro e w' ⟨rfl, y3, rfl⟩
      rw [rng_len]
      walk_at "pu"
      exact ⟨by omega, h⟩
  · exact h.elim
theorem b_y_fibs {K : PySem.W.Frag} {c : Pc} {vs : List V} {H : Hp} {Q : VK} {E : XK} {α : Prop} (PM : PM K c) (PB : α) (h : sp_y_fibs K c vs H Q E) : t_y_fibs K c (en0 Q) (st0 4 vs) H := def_ok (sn_y_fibs PM PB) w_y_fibs h
theorem fibP_lt : ∀ n : Nat, 1 ≤ (fibP n).1 ∧ (fibP n).1 ≤ (fibP n).2 ∧ (1 ≤ n → (fibP n).1 < (fibP n).2) ∧ (2 ≤ n → (fibP n).2 + 1 ≤ 2 ^ n)
  | 0 => by decide
  | 1 => by decide
  | 2 => by decide
  | n + 3 => by
    obtain ⟨h1, h2, h3, h4⟩ := fibP_lt (n + 2)
    have h3 := h3 (by omega)
    have h4 := h4 (by omega)
    have e1 : (fibP (n + 3)).1 = (fibP (n + 2)).2 := rfl
    have e2 : (fibP (n + 3)).2 = (fibP (n + 2)).1 + (fibP (n + 2)).2 := rfl
    have e3 : 2 ^ (n + 3) = 2 ^ (n + 2) * 2 := Nat.pow_succ ..
    rw [e1, e2, e3]
    refine ⟨by omega, by omega, fun _ => by omega, fun _ => by omega⟩
/-- a Big of so many bits -/
def isBW (b : Nat) : Dat → Bool
  | .big b' _ => decide (b' = b)
  | _ => false
/-- the kinds are known -/
def kn (d : Dat) : Prop := (kindD d).isSome = true
abbrev bnd (s : Str) : XD := ⟨1, some ("argument", .str s)⟩
theorem kn_of {d : Dat} (h : kn d) {k : Nat → Prop} (h0 : kindD d = some 0 → k 0) (h1 : ∀ i, d = .mach i → k 1) (h2 : ∀ b n, d = .big b n → k 2) : onSome (kindD d) k := by
  unfold kn at h
  cases d with
  | mach i => exact h1 i rfl
  | big b n => exact h2 b n rfl
  | fn f g =>
    cases e : kindD (.fn f g) with
    | none => rw [e] at h; cases h
    | some q =>
      obtain ⟨rfl, _⟩ := isDk_of (show isDk (g.G f) = some q from e)
      exact h0 e
  | _ => first | exact h0 rfl | cases h
/-- what is no machine, as a name of its own -/
def isMch : Dat → Bool
  | .mach _ => true
  | _ => false
def P_check_machine_X : PSpX := fun ds w k kx => match ds with
  | [d] => kn d ∧ if isMch d = true then k .non w else kx (bnd "machine") w
  | _ => False
theorem n_check_machine_X : ∀ ds w k kx, P_check_machine_X ds w k kx → ds.length = 1 := fun ds w k kx h => by
  unfold P_check_machine_X at h
  split at h
  · rfl
  · exact h.elim
theorem e_check_machine_X {d : Dat} {w : Wld} {k : Dat → Wld → Prop} {kx : PX} : P_check_machine_X [d] w k kx = (kn d ∧ if isMch d = true then k .non w else kx (bnd "machine") w) := rfl
def sp_check_machine_X (K : PySem.W.Frag) (c : Pc) : Sp := lifX K c P_check_machine_X
theorem u_check_machine_X {K : PySem.W.Frag} {c : Pc} : SndPX K c (sp_check_machine_X K c) P_check_machine_X := SndPX.lif
/-- 0:value -/
def t_check_machine_X (K : PySem.W.Frag) (c : Pc) (E : XK) : TS :=
  (tIfS (tNot (L2.tB (tCB (rIsi K) (tCons (tVar 0) (tCons (tC (.ref c.CMachine)) tNil))))) (tRaiseF (c.xs.getD 1 0) "argument" (tC (.str "machine")) E) tNext)
def p_check_machine_X (kx : PX) : PS :=
  (pIfS (pNot (pTest (pIsO 1 (pVar 0)))) (pRaiseF kx 1 "argument" (pC (.str "machine"))) pNext)
theorem sn_check_machine_X {K : PySem.W.Frag} {c : Pc} {α : Prop} (PM : PM K c) (PB : α) (IS : IsiK K c) : SndSX K c (t_check_machine_X K c) p_check_machine_X :=
  show SndSX K c (fun E => (tIfS (tNot (L2.tB (tCB (rIsi K) (tCons (tVar 0) (tCons (tC (.ref c.CMachine)) tNil))))) (tRaiseF (c.xs.getD 1 0) "argument" (tC (.str "machine")) E) tNext)) (fun kx => (pIfS (pNot (pTest (pIsO 1 (pVar 0)))) (pRaiseF kx 1 "argument" (pC (.str "machine"))) pNext)) from (sx_ifS (snd_not (snd_tB (snd_isM IS snd_var))) (sx_raiseF (snd_str "machine")) (sx_lift snd_next))
theorem w_check_machine_X : ∀ ds w k kx, P_check_machine_X ds w k kx → p_check_machine_X kx (pen k) (env0 1 ds) w := by
  intro ds w k kx h
  unfold P_check_machine_X at h
  split at h
  · rename_i d
    obtain ⟨hk, h⟩ := h
    unfold p_check_machine_X
    walk_at "px"
    refine kn_of hk (fun e => ?_) (fun i e => ?_) fun b n e => ?_
    · walk_at "px"
      cases d <;> first | exact h | cases e
    · subst e; walk_at "px"; exact h
    · subst e; walk_at "px"; exact h
  · exact h.elim
theorem b_check_machine_X {K : PySem.W.Frag} {c : Pc} {vs : List V} {H : Hp} {Q : VK} {E : XK} {α : Prop} (PM : PM K c) (PB : α) (IS : IsiK K c) (h : sp_check_machine_X K c vs H Q E) : t_check_machine_X K c E (en0 Q) (st0 1 vs) H := def_okX (sn_check_machine_X PM PB IS) w_check_machine_X h
def P_check_big_X : PSpX := fun ds w k kx => match ds with
  | [.mach i, .str a, d] => kn d ∧ onM w i fun m => if isBW m.b d = true then k .non w else kx (bnd a) w
  | _ => False
theorem n_check_big_X : ∀ ds w k kx, P_check_big_X ds w k kx → ds.length = 3 := fun ds w k kx h => by
  unfold P_check_big_X at h
  split at h
  · rfl
  · exact h.elim
theorem e_check_big_X {i : Nat} {a : Str} {d : Dat} {w : Wld} {k : Dat → Wld → Prop} {kx : PX} : P_check_big_X [.mach i, .str a, d] w k kx = (kn d ∧ onM w i fun m => if isBW m.b d = true then k .non w else kx (bnd a) w) := rfl
def sp_check_big_X (K : PySem.W.Frag) (c : Pc) : Sp := lifX K c P_check_big_X
theorem u_check_big_X {K : PySem.W.Frag} {c : Pc} : SndPX K c (sp_check_big_X K c) P_check_big_X := SndPX.lif
/-- 0:machine 1:argument 2:value -/
def t_check_big_X (K : PySem.W.Frag) (c : Pc) (E : XK) : TS :=
  (tIfS (tOr (tNot (L2.tB (tCB (rIsi K) (tCons (tVar 2) (tCons (tC (.ref c.CBig)) tNil))))) (tTest (tOp rNe (tFld K (tVar 2) "width") (tFld K (tVar 0) "width")))) (tRaiseF (c.xs.getD 1 0) "argument" (tVar 1) E) tNext)
def p_check_big_X (kx : PX) : PS :=
  (pIfS (pOr (pNot (pTest (pIsO 2 (pVar 2)))) (pTest (pOp qNe (pWidthB (pVar 2)) (pWidthM (pVar 0))))) (pRaiseF kx 1 "argument" (pVar 1)) pNext)
theorem sn_check_big_X {K : PySem.W.Frag} {c : Pc} (PM : PM K c) (PB : PB K c) (IS : IsiK K c) : SndSX K c (t_check_big_X K c) p_check_big_X :=
  show SndSX K c (fun E => (tIfS (tOr (tNot (L2.tB (tCB (rIsi K) (tCons (tVar 2) (tCons (tC (.ref c.CBig)) tNil))))) (tTest (tOp rNe (tFld K (tVar 2) "width") (tFld K (tVar 0) "width")))) (tRaiseF (c.xs.getD 1 0) "argument" (tVar 1) E) tNext)) (fun kx => (pIfS (pOr (pNot (pTest (pIsO 2 (pVar 2)))) (pTest (pOp qNe (pWidthB (pVar 2)) (pWidthM (pVar 0))))) (pRaiseF kx 1 "argument" (pVar 1)) pNext)) from (sx_ifS (snd_or (snd_not (snd_tB (snd_isB IS snd_var))) (snd_test (snd_op s_ne (snd_widthB PB snd_var) (snd_widthM PM snd_var)))) (sx_raiseF snd_var) (sx_lift snd_next))
theorem w_check_big_X : ∀ ds w k kx, P_check_big_X ds w k kx → p_check_big_X kx (pen k) (env0 3 ds) w := by
  intro ds w k kx h
  unfold P_check_big_X at h
  split at h
  · rename_i i a d
    obtain ⟨hk, h⟩ := h
    replace h := onM_of h
    obtain ⟨m, hm, h⟩ := h
    unfold p_check_big_X
    walk_at "px"
    refine kn_of hk (fun e => ?_) (fun j e => ?_) fun b n e => ?_
    · cases d <;> first | (walk_at "px"; exact h) | cases e
    · subst e; walk_at "px"; exact h
    · subst e
      walk_at "px"
      rw [onM_is hm]
      rw [if_neg (by simp)]
      refine ite_2 (fun c1 => ?_) fun c1 => ?_
      · rw [if_neg (by unfold isBW; simp; omega)] at h
        exact h
      · rw [if_pos (by unfold isBW; simp; omega)] at h
        exact h
  · exact h.elim
theorem b_check_big_X {K : PySem.W.Frag} {c : Pc} {vs : List V} {H : Hp} {Q : VK} {E : XK} (PM : PM K c) (PB : PB K c) (IS : IsiK K c) (h : sp_check_big_X K c vs H Q E) : t_check_big_X K c E (en0 Q) (st0 3 vs) H := def_okX (sn_check_big_X PM PB IS) w_check_big_X h
/-- the first of a machine and two of its Bigs that is wrong -/
def wrong2 (w : Wld) (d0 d1 d2 : Dat) (ok : Prop) (bad : Str → Prop) : Prop := kn d0 ∧ kn d1 ∧ kn d2 ∧ match d0 with
  | .mach i => onM w i fun m => if isBW m.b d1 = true then if isBW m.b d2 = true then ok else bad "y" else bad "x"
  | _ => bad "machine"
theorem isBW_big {b : Nat} {d : Dat} (h : isBW b d = true) : ∃ n, d = .big b n := by
  cases d with
  | big b' n => exact ⟨n, by rw [of_decide_eq_true h]⟩
  | _ => cases h
theorem wrong2_imp {w : Wld} {d0 d1 d2 : Dat} {p p' : Prop} {q q' : Str → Prop} (h : wrong2 w d0 d1 d2 p q) (hp : ∀ i m n n', w.ms[i]? = some m → d0 = .mach i → d1 = .big m.b n → d2 = .big m.b n' → p → p') (hq : ∀ s, q s → q' s) : wrong2 w d0 d1 d2 p' q' := by
  obtain ⟨h0, h1, h2, h⟩ := h
  refine ⟨h0, h1, h2, ?_⟩
  cases d0 with
  | mach i =>
    replace h := onM_of h
    obtain ⟨m, hm, h⟩ := h
    show onM w i _
    rw [onM_is hm]
    by_cases c1 : isBW m.b d1 = true
    · rw [if_pos c1] at h ⊢
      by_cases c2 : isBW m.b d2 = true
      · rw [if_pos c2] at h ⊢
        obtain ⟨n, e1⟩ := isBW_big c1
        obtain ⟨n', e2⟩ := isBW_big c2
        exact hp i m n n' hm rfl e1 e2 h
      · rw [if_neg c2] at h ⊢; exact hq _ h
    · rw [if_neg c1] at h ⊢; exact hq _ h
  | _ => exact hq _ h
/-- .. all in order -/
theorem wrong2_ok {w : Wld} {i : Nat} {m : Mach} {n n' : Int} {p : Prop} {q : Str → Prop} (hm : w.ms[i]? = some m) (h : p) : wrong2 w (.mach i) (.big m.b n) (.big m.b n') p q := by
  refine ⟨rfl, rfl, rfl, ?_⟩
  show onM w i _
  rw [onM_is hm, if_pos (by simp [isBW]), if_pos (by simp [isBW])]
  exact h
theorem wrong2_m {w : Wld} {d0 d1 d2 : Dat} {p : Prop} {q : Str → Prop} (h0 : kn d0) (h1 : kn d1) (h2 : kn d2) (hm : isMch d0 = false) (h : q "machine") : wrong2 w d0 d1 d2 p q := by
  refine ⟨h0, h1, h2, ?_⟩
  cases d0 with
  | mach i => cases hm
  | _ => exact h
theorem wrong2_x {w : Wld} {i : Nat} {m : Mach} {d1 d2 : Dat} {p : Prop} {q : Str → Prop} (hm : w.ms[i]? = some m) (h1 : kn d1) (h2 : kn d2) (hb : isBW m.b d1 = false) (h : q "x") : wrong2 w (.mach i) d1 d2 p q := by
  refine ⟨rfl, h1, h2, ?_⟩
  show onM w i _
  rw [onM_is hm, if_neg (by rw [hb]; decide)]
  exact h
theorem wrong2_y {w : Wld} {i : Nat} {m : Mach} {n : Int} {d2 : Dat} {p : Prop} {q : Str → Prop} (hm : w.ms[i]? = some m) (h2 : kn d2) (hb : isBW m.b d2 = false) (h : q "y") : wrong2 w (.mach i) (.big m.b n) d2 p q := by
  refine ⟨rfl, rfl, h2, ?_⟩
  show onM w i _
  rw [onM_is hm, if_pos (by simp [isBW]), if_neg (by rw [hb]; decide)]
  exact h
def P_check_bigs_X : PSpX := fun ds w k kx => match ds with
  | [d0, d1, d2] => wrong2 w d0 d1 d2 (k .non w) fun s => kx (bnd s) w
  | _ => False
theorem n_check_bigs_X : ∀ ds w k kx, P_check_bigs_X ds w k kx → ds.length = 3 := fun ds w k kx h => by
  unfold P_check_bigs_X at h
  split at h
  · rfl
  · exact h.elim
theorem e_check_bigs_X {d0 d1 d2 : Dat} {w : Wld} {k : Dat → Wld → Prop} {kx : PX} : P_check_bigs_X [d0, d1, d2] w k kx = (wrong2 w d0 d1 d2 (k .non w) fun s => kx (bnd s) w) := rfl
def sp_check_bigs_X (K : PySem.W.Frag) (c : Pc) : Sp := lifX K c P_check_bigs_X
theorem u_check_bigs_X {K : PySem.W.Frag} {c : Pc} : SndPX K c (sp_check_bigs_X K c) P_check_bigs_X := SndPX.lif
/-- 0:machine 1:x 2:y -/
def t_check_bigs_X (K : PySem.W.Frag) (c : Pc) (E : XK) : TS :=
  (tSeq (tDrop (tCall (sp_check_machine_X K c) [] E (tCons (tVar 0) tNil)))
  (tSeq (tDrop (tCall (sp_check_big_X K c) [] E (tCons (tVar 0) (tCons (tC (.str "x")) (tCons (tVar 1) tNil)))))
  (tDrop (tCall (sp_check_big_X K c) [] E (tCons (tVar 0) (tCons (tC (.str "y")) (tCons (tVar 2) tNil)))))))
def p_check_bigs_X (kx : PX) : PS :=
  (pSeq (pDrop (pCallE P_check_machine_X (pCons (pVar 0) pNil) kx)) (pSeq (pDrop (pCallE P_check_big_X (pCons (pVar 0) (pCons (pC (.str "x")) (pCons (pVar 1) pNil))) kx)) (pDrop (pCallE P_check_big_X (pCons (pVar 0) (pCons (pC (.str "y")) (pCons (pVar 2) pNil))) kx))))
theorem sn_check_bigs_X {K : PySem.W.Frag} {c : Pc} {α : Prop} (PM : PM K c) (PB : α) : SndSX K c (t_check_bigs_X K c) p_check_bigs_X :=
  show SndSX K c (fun E => (tSeq (tDrop (tCall (sp_check_machine_X K c) [] E (tCons (tVar 0) tNil)))
  (tSeq (tDrop (tCall (sp_check_big_X K c) [] E (tCons (tVar 0) (tCons (tC (.str "x")) (tCons (tVar 1) tNil)))))
  (tDrop (tCall (sp_check_big_X K c) [] E (tCons (tVar 0) (tCons (tC (.str "y")) (tCons (tVar 2) tNil)))))))) (fun kx => (pSeq (pDrop (pCallE P_check_machine_X (pCons (pVar 0) pNil) kx)) (pSeq (pDrop (pCallE P_check_big_X (pCons (pVar 0) (pCons (pC (.str "x")) (pCons (pVar 1) pNil))) kx)) (pDrop (pCallE P_check_big_X (pCons (pVar 0) (pCons (pC (.str "y")) (pCons (pVar 2) pNil))) kx))))) from (sx_seq (sx_drop (ex_call u_check_machine_X (snd_cons snd_var snd_nil))) (sx_seq (sx_drop (ex_call u_check_big_X (snd_cons snd_var (snd_cons (snd_str "x") (snd_cons snd_var snd_nil))))) (sx_drop (ex_call u_check_big_X (snd_cons snd_var (snd_cons (snd_str "y") (snd_cons snd_var snd_nil)))))))
theorem w_check_bigs_X : ∀ ds w k kx, P_check_bigs_X ds w k kx → p_check_bigs_X kx (pen k) (env0 3 ds) w := by
  intro ds w k kx h
  unfold P_check_bigs_X at h
  split at h
  · rename_i d0 d1 d2
    obtain ⟨h0, h1, h2, h⟩ := h
    unfold p_check_bigs_X
    walk_at "px"
    rw [e_check_machine_X]
    refine ⟨h0, ?_⟩
    cases d0 with
    | mach i =>
      replace h := onM_of h
      obtain ⟨m, hm, h⟩ := h
      rw [if_pos (show isMch (.mach i) = true from rfl)]
      rw [e_check_big_X, onM_is hm]
      refine ⟨h1, ?_⟩
      by_cases c1 : isBW m.b d1 = true
      · rw [if_pos c1] at h ⊢
        rw [e_check_big_X, onM_is hm]
        refine ⟨h2, ?_⟩
        by_cases c2 : isBW m.b d2 = true
        · rw [if_pos c2] at h ⊢; exact h
        · rw [if_neg c2] at h ⊢; exact h
      · rw [if_neg c1] at h ⊢; exact h
    | _ => exact h
  · exact h.elim
theorem b_check_bigs_X {K : PySem.W.Frag} {c : Pc} {vs : List V} {H : Hp} {Q : VK} {E : XK} {α : Prop} (PM : PM K c) (PB : α) (h : sp_check_bigs_X K c vs H Q E) : t_check_bigs_X K c E (en0 Q) (st0 3 vs) H := def_okX (sn_check_bigs_X PM PB) w_check_bigs_X h
/-- a thing with a known kind that is neither a machine nor a Big -/
theorem isBW_other {b : Nat} {d : Dat} (h : kindD d = some 0) : isBW b d = false := by cases d <;> first | rfl | cases h
/-- what the laws make of an error: the argument that is refused, or a word by the error's class -/
def errK (S : List Nat) (t : Nat → Dat) (k : Dat → Wld → Prop) : PX := fun x w => x.j ∈ S ∧ if x.j = 1 then ∃ d, x.f = some (Str.ofString "argument", d) ∧ k d w else k (t x.j) w
theorem errK_b {S : List Nat} {t : Nat → Dat} {k : Dat → Wld → Prop} {s : Str} {w : Wld} (hS : 1 ∈ S) (h : k (.str s) w) : errK S t k (bnd s) w := ⟨hS, by rw [if_pos rfl]; exact ⟨_, rfl, h⟩⟩
/-- a closure may be asked for what is the same -/
theorem ask_eq {A : AsksP} {f : Addr} {g : Gh} {w : Wld} {k k' : Dat → Wld → Prop} {kx kx' : PX} (h : A f g w k kx) (e0 : ∀ d w, k' d w ↔ k d w) (e : ∀ x w, kx' x w ↔ kx x w) : A f g w k' kx' := by
  have e1 : k' = k := funext fun d => funext fun w => propext (e0 d w)
  have e2 : kx' = kx := funext fun x => funext fun w => propext (e x w)
  rw [e1, e2]; exact h
theorem all_ag {P : Prop} : (∀ (_ : Addr) (_ : Gh), P) ↔ P := ⟨fun h => h 0 ⟨fun _ => none, [], [], [], []⟩, fun h _ _ => h⟩
theorem bd3 {a b c : Nat} {P : PSpX} {e : Pu.Env} {w : Wld} {k : Dat → Wld → Prop} {kx : PX} {d0 d1 d2 : Dat} (h0 : e[a]? = some (.val d0)) (h1 : e[b]? = some (.val d1)) (h2 : e[c]? = some (.val d2)) (h : P [d0, d1, d2] w k kx) : bdX (pCons (pVar a) (pCons (pVar b) (pCons (pVar c) pNil))) P e w k kx := by
  unfold bdX pCons pNil pVar
  simp only [h0, h1, h2]
  exact h
theorem kn0 {d : Dat} (h : kindD d = some 0) : kn d := by unfold kn; rw [h]; rfl
/-- which argument is refused -/
def tSd (_ : Nat) : Dat := .str (Str.ofString "other")
def P_s_deep : PSp := fun ds w k => match ds with
  | [.bl b] => ∀ d, kindD d = some 0 → (isMch d = false ∧ (b = true → ∃ l, d = .lst l) ∧ (b = false → ∃ l, d = .tup l)) → k d w
  | _ => False
theorem n_s_deep : ∀ ds w k, P_s_deep ds w k → ds.length = 1 := fun ds w k h => by
  unfold P_s_deep at h
  split at h
  · rfl
  · exact h.elim
theorem e_s_deep {b : Bool} {w : Wld} {k : Dat → Wld → Prop} : P_s_deep [.bl b] w k = (∀ d, kindD d = some 0 → (isMch d = false ∧ (b = true → ∃ l, d = .lst l) ∧ (b = false → ∃ l, d = .tup l)) → k d w) := rfl
def sp_s_deep (K : PySem.W.Frag) (c : Pc) : Sp := lif K c P_s_deep
theorem u_s_deep {K : PySem.W.Frag} {c : Pc} : SndP K c (sp_s_deep K c) P_s_deep := SndP.lif
/-- 0:_law_is_list 1:_law_found 2:_law_turn -/
def t_s_deep (K : PySem.W.Frag) (c : Pc) : TS :=
  (tSeq (tAsg (tTup tNil) (gName 1))
  (tSeq (tFor (iRng1 (tCons (tC (.int 1998)) tNil)) (gName 2) (tAsg (tIf (L2.tB (tVar 0)) (tLst (tCons (tVar 1) tNil)) (tTup (tCons (tVar 1) tNil))) (gName 1)))
  (tRet (tVar 1))))
def b1_s_deep : PS :=
  (pAsg (pIf (pTest (pVar 0)) (pFz (pLst (pCons (pVar 1) pNil))) (pTup (pCons (pVar 1) pNil))) 1)
def p_s_deep : PS :=
  (pSeq (pAsg (pTup pNil) 1)
  (pSeq (pFor (pIR1 (pC (.int 1998))) (pgName 2) b1_s_deep)
  (pRet (pVar 1))))
theorem sn_s_deep {K : PySem.W.Frag} {c : Pc} {α : Prop} (PM : PM K c) (PB : α) : SndS K c (t_s_deep K c) p_s_deep :=
  (snd_seq (snd_asg (snd_tup snd_nil))
  (snd_seq (snd_for (snd_iR1 (snd_int 1998)) snd_gName (snd_asg (snd_if (snd_tB snd_var) (snd_fz (snd_lst (snd_cons snd_var snd_nil))) (snd_tup (snd_cons snd_var snd_nil)))))
  (snd_ret snd_var)))
theorem w_s_deep : ∀ ds w k, P_s_deep ds w k → p_s_deep (pen k) (env0 3 ds) w := by
  intro ds w k h
  unfold P_s_deep at h
  split at h
  · rename_i b
    have hz := sizeLine_eq
    unfold p_s_deep
    walk_at "px"
    refine ⟨by omega, ⟨by decide, by decide⟩, ?_⟩
    refine lp_ind (fun q e w' => w' = w ∧ ∃ d y, kindD d = some 0 ∧ (1 ≤ q → (isMch d = false ∧ (b = true → ∃ l, d = .lst l) ∧ (b = false → ∃ l, d = .tup l))) ∧ e = [.val (.bl b), .val d, y]) ⟨rfl, .tup [], _, rfl, (fun z => absurd z (by omega)), rfl⟩ ?_ ?_
    · rintro q d e w' nx hd ⟨rfl, d1, y, h1, h2, rfl⟩ hn
      unfold b1_s_deep
      walk_at "px"
      refine ite_2 (fun c => ?_) fun c => ?_
      · exact ⟨by omega, hn _ _ ⟨rfl, _, _, rfl, fun _ => ⟨rfl, fun _ => ⟨_, rfl⟩, fun z => absurd (z.symm.trans c) (by decide)⟩, rfl⟩⟩
      · exact ⟨by omega, hn _ _ ⟨rfl, _, _, rfl, fun _ => ⟨rfl, fun z => absurd z c, fun _ => ⟨_, rfl⟩⟩, rfl⟩⟩
    · rintro e w' ⟨rfl, d1, y, h1, h2, rfl⟩
      walk_at "px"
      exact h d1 h1 (h2 (by decide))
  · exact h.elim
theorem b_s_deep {K : PySem.W.Frag} {c : Pc} {vs : List V} {H : Hp} {Q : VK} {E : XK} {α : Prop} (PM : PM K c) (PB : α) (h : sp_s_deep K c vs H Q E) : t_s_deep K c (en0 Q) (st0 3 vs) H := def_ok (sn_s_deep PM PB) w_s_deep h
structure LhB (W : Nat) (s : Lh) : Prop where
  a : s.a < W
  b : s.b < W
  c : s.c < W
  d : s.d < W
theorem LhB.step {S B X Y Xo Yo u v P Q W : Nat} {s : Lh} (h : LhI S B X Y Xo Yo u v P Q s) (hW : LhB W s) (hB : B < W * W) (hn : s.n ≠ s.c) (hb : s.brk = false) : LhB W s.go := by
  obtain ⟨h', _⟩ := h.step hn hb
  have hb' : s.b + s.q * s.d + s.q * s.n ≤ s.m := Nat.le_of_not_lt (of_decide_eq_false hb)
  obtain ⟨e, he⟩ : ∃ e, s.n = s.c + e := ⟨s.n - s.c, by have := h.cn; omega⟩
  have he1 : 1 ≤ e := by have := h.cn; omega
  have hq1 : s.m + s.a ≤ e * (s.q + 1) := by
    have := Nat.lt_mul_div_succ (s.m + s.a - 1) (show 0 < e by omega)
    have e2 : s.q = (s.m + s.a - 1) / e := by unfold Lh.q; rw [show s.n - s.c = e by omega]
    rw [← e2] at this
    omega
  have m1 : s.go.m = s.n := rfl
  have n1 : s.go.n = s.m - s.q * s.n := rfl
  have c1 : s.go.c = s.b + s.q * s.d := rfl
  have d1 : s.go.d = s.a + s.q * s.c := rfl
  have key : s.go.n + s.go.d ≤ s.go.m := by
    rw [m1, n1, d1]
    rw [he, Nat.mul_add] at hb' ⊢
    rw [Nat.mul_add, Nat.mul_one, Nat.mul_comm e] at hq1
    omega
  have p1 := h'.hP
  have q1 := h'.hQ
  have p2 := h'.PB
  have q2 := h'.QB
  have cn := h'.cn
  refine ⟨hW.d, hW.c, ?_, ?_⟩
  · rcases Nat.lt_or_ge s.go.c W with z | z
    · exact z
    · have w1 := Nat.mul_le_mul z (Nat.le_trans z (show s.go.c ≤ s.go.m by omega))
      omega
  · rcases Nat.lt_or_ge s.go.d W with z | z
    · exact z
    · have w1 := Nat.mul_le_mul z (Nat.le_trans z (show s.go.d ≤ s.go.m by omega))
      omega
theorem Lh.run_B {S B X0 Y0 W : Nat} (hB : B < W * W) : ∀ (f : Nat) {s : Lh} {l : List Nat} {c X Y : Nat}, LhE S B X Y X0 Y0 l s → LhB W s → s.n < f → LhB W (Lh.run f s l c).2.1
  | 0, s, l, c, X, Y, h, hW, hf => absurd hf (Nat.not_lt_zero _)
  | f + 1, s, l, c, X, Y, h, hW, hf => by
    unfold Lh.run
    split
    · exact hW
    · rename_i hn
      split
      · exact hW
      · rename_i hb
        obtain ⟨h1, h2⟩ := h.step hn (by simpa using hb)
        obtain ⟨_, u, v, P, Q, hI⟩ := h
        exact Lh.run_B hB f h1 (hW.step hI hB hn (by simpa using hb)) (by omega)
theorem lh_startB {b N M : Nat} (hb : 1 ≤ b) (hN : 2 ^ (2 * b) ≤ N) (hM : M ≤ N) : LhE (2 ^ lhT b N) (2 ^ (2 * b) - 1) N M N M [] (lhS b N M) := by
  obtain ⟨h1, h2, _⟩ := lhT_pos hb hN
  have hp : 2 ≤ 2 ^ (2 * b) := Nat.le_trans (by decide : 2 ≤ 2 ^ 1) (Nat.pow_le_pow_right (by decide) (by omega))
  unfold lhS
  generalize hS : 2 ^ lhT b N = S at *
  have hS0 : 0 < S := by rw [← hS]; exact Nat.two_pow_pos _
  have a1 := Nat.div_add_mod N S
  have a2 := Nat.div_add_mod M S
  have a3 : N / S < 2 ^ (2 * b) := Nat.div_lt_of_lt_mul (by rw [Nat.mul_comm]; exact h2)
  have a4 : M / S ≤ N / S := Nat.div_le_div_right hM
  have a5 : 1 ≤ N / S := (Nat.le_div_iff_mul_le hS0).mpr (by omega)
  refine ⟨⟨rfl, rfl⟩, N % S, M % S, N / S, M / S, ?_⟩
  change LhI S (2 ^ (2 * b) - 1) N M N M _ _ _ _ _
  exact ⟨by dsimp only; omega, by dsimp only; omega, Nat.mod_lt _ hS0, Nat.mod_lt _ hS0, Nat.le_refl _, Nat.le_refl _, Nat.zero_le _, a5, by dsimp only; omega, by dsimp only; omega, by omega, by omega, (by show 1 ≤ _; omega), Nat.zero_le _, rfl, by dsimp only; omega, by dsimp only; omega⟩
/-- the four numbers: below the base, and their determinant -/
theorem lhF_ok {b N M : Nat} (hb : 1 ≤ b) (hN : 2 ^ (2 * b) ≤ N) (hM : M ≤ N) :
    ((lhF (lhR b N M)).1.natAbs < 2 ^ b ∧ (lhF (lhR b N M)).2.1.natAbs < 2 ^ b ∧ (lhF (lhR b N M)).2.2.1.natAbs < 2 ^ b ∧ (lhF (lhR b N M)).2.2.2.natAbs < 2 ^ b) ∧
    (lhF (lhR b N M)).1 * (lhF (lhR b N M)).2.2.2 - (lhF (lhR b N M)).2.1 * (lhF (lhR b N M)).2.2.1 = if (lhR b N M).1.length % 2 = 0 then 1 else -1 := by
  have hp : 2 ≤ 2 ^ b := Nat.le_trans (by decide : 2 ≤ 2 ^ 1) (Nat.pow_le_pow_right (by decide) hb)
  have hBW : 2 ^ (2 * b) - 1 < 2 ^ b * 2 ^ b := by
    rw [← Nat.pow_add, show b + b = 2 * b by omega]
    have := Nat.two_pow_pos (2 * b)
    omega
  have h0 := lh_startB hb hN hM
  obtain ⟨X, Y, he, u, v, P, Q, hI⟩ := Lh.run_ok (M / 2 ^ lhT b N + 1) (c := 0) h0 (Nat.lt_succ_self _)
  have hW := Lh.run_B hBW (M / 2 ^ lhT b N + 1) (c := 0) h0 ⟨(by show 1 < _; omega), (by show 0 < _; omega), (by show 0 < _; omega), (by show 1 < _; omega)⟩ (Nat.lt_succ_self _)
  have hdt := hI.dt
  change LhB (2 ^ b) (lhR b N M).2.1 at hW
  change (lhR b N M).2.1.a * (lhR b N M).2.1.d = (lhR b N M).2.1.b * (lhR b N M).2.1.c + 1 at hdt
  obtain ⟨wa, wb, wc, wd⟩ := hW
  clear hI he h0
  generalize lhR b N M = r at *
  obtain ⟨l, ⟨m, n, a, b', c, d⟩, cc⟩ := r
  unfold lhF
  dsimp only at *
  have hdi : (a : Int) * (d : Int) = (b' : Int) * (c : Int) + 1 := by
    have : ((a * d : Nat) : Int) = ((b' * c + 1 : Nat) : Int) := by rw [hdt]
    rw [Int.natCast_mul, Int.natCast_add, Int.natCast_mul] at this
    exact this
  by_cases z : l.length % 2 = 0
  · rw [if_pos z, if_pos z]
    dsimp only
    refine ⟨⟨by omega, by omega, by omega, by omega⟩, ?_⟩
    rw [Int.neg_mul_neg]
    omega
  · rw [if_neg z, if_neg z]
    dsimp only
    refine ⟨⟨by omega, by omega, by omega, by omega⟩, ?_⟩
    rw [Int.neg_mul_neg]
    omega
def P_g_stepT : PSp := fun ds w k => match ds with
  | [.mach i, .big b n, .big b' n'] => onM w i fun m => ∃ N M : Nat, (n = (N : Int) ∧ n' = (M : Int)) ∧ (m.b = b ∧ m.b = b') ∧ (1 ≤ m.b ∧ m.b ≤ 30) ∧ M ≤ N ∧ (3 ≤ (digs m.b N).length ∧ (digs m.b N).length ≤ 3000) ∧
    k (.tup [.lst ((lhR m.b N M).1.map fun (z : Nat) => .int (z : Int)), .tup [.int (lhF (lhR m.b N M)).1, .int (lhF (lhR m.b N M)).2.1, .int (lhF (lhR m.b N M)).2.2.1, .int (lhF (lhR m.b N M)).2.2.2]]) (w.put i (m.cnt 3 (lhR m.b N M).2.2))
  | _ => False
theorem n_g_stepT : ∀ ds w k, P_g_stepT ds w k → ds.length = 3 := fun ds w k h => by
  unfold P_g_stepT at h
  split at h
  · rfl
  · exact h.elim
theorem e_g_stepT {i b b' : Nat} {n n' : Int} {w : Wld} {k : Dat → Wld → Prop} : P_g_stepT [.mach i, .big b n, .big b' n'] w k = (onM w i fun m => ∃ N M : Nat, (n = (N : Int) ∧ n' = (M : Int)) ∧ (m.b = b ∧ m.b = b') ∧ (1 ≤ m.b ∧ m.b ≤ 30) ∧ M ≤ N ∧ (3 ≤ (digs m.b N).length ∧ (digs m.b N).length ≤ 3000) ∧
    k (.tup [.lst ((lhR m.b N M).1.map fun (z : Nat) => .int (z : Int)), .tup [.int (lhF (lhR m.b N M)).1, .int (lhF (lhR m.b N M)).2.1, .int (lhF (lhR m.b N M)).2.2.1, .int (lhF (lhR m.b N M)).2.2.2]]) (w.put i (m.cnt 3 (lhR m.b N M).2.2))) := rfl
def sp_g_stepT (K : PySem.W.Frag) (c : Pc) : Sp := lifS K c P_g_stepT
theorem u_g_stepT {K : PySem.W.Frag} {c : Pc} : SndP K c (sp_g_stepT K c) P_g_stepT := SndP.lifS
theorem us_g_stepT {K : PySem.W.Frag} {c : Pc} : SndPS K c (sp_g_stepT K c) P_g_stepT := SndPS.lif
/-- 0:machine 1:x 2:y 3:size 4:bits 5:m 6:n 7:row 8:a 9:b 10:c 11:d 12:found 13:quotient -/
def t_g_stepT (K : PySem.W.Frag) (c : Pc) : TS :=
  (tSeq (tAsg (tTup (tCons (tCB (rLen K) (tCons (tFld K (tVar 1) "row") tNil)) (tCons (tBits (tOp (rIxT K) (tFld K (tVar 1) "row") (tUn rNeg (tC (.int 1))))) tNil))) (gTup K 2 (gCons (gName 3) (gCons (gName 4) gNil))))
  (tSeq (tAsg (tLc (iTup K (tTup (tCons (tFld K (tVar 1) "row") (tCons (tFld K (tVar 2) "row") tNil)))) (gName 7) tYes (tCall (sp_g_first K c) [] E0 (tCons (tVar 7) (tCons (tVar 3) (tCons (tFld K (tVar 0) "width") (tCons (tVar 4) tNil))))) [7]) (gUnl K 2 (gCons (gName 5) (gCons (gName 6) gNil))))
  (tSeq (tAsg (tTup (tCons (tC (.int 1)) (tCons (tC (.int 0)) (tCons (tC (.int 0)) (tCons (tC (.int 1)) (tCons (tLst tNil) tNil)))))) (gTup K 5 (gCons (gName 8) (gCons (gName 9) (gCons (gName 10) (gCons (gName 11) (gCons (gName 12) gNil)))))))
  (tSeq (tWhile (tTest (tOp rNe (tVar 6) (tVar 10))) (tSeq (tAsg (tOp rDiv (tOp rSub (tOp rAdd (tVar 5) (tVar 8)) (tC (.int 1))) (tOp rSub (tVar 6) (tVar 10))) (gName 13))
  (tSeq (tDrop (tMeth c.CMachine "count" (sp_Machine_count K c) [] E0 (tVar 0) (tCons (tC (.str "quotient")) (tCons (tC (.int 1)) tNil))))
  (tSeq (tIfS (tTest (tOp rGt (tOp rAdd (tVar 9) (tOp rMul (tVar 13) (tVar 11))) (tOp rSub (tVar 5) (tOp rMul (tVar 13) (tVar 6))))) tBreak tNext)
  (tSeq (tPar 5 6 (tCons (tVar 6) (tCons (tOp rSub (tVar 5) (tOp rMul (tVar 13) (tVar 6))) tNil)))
  (tSeq (tAsg (tTup (tCons (tVar 11) (tCons (tVar 10) (tCons (tOp rAdd (tVar 9) (tOp rMul (tVar 13) (tVar 11))) (tCons (tOp rAdd (tVar 8) (tOp rMul (tVar 13) (tVar 10))) tNil))))) (gTup K 4 (gCons (gName 8) (gCons (gName 9) (gCons (gName 10) (gCons (gName 11) gNil))))))
  (tDrop (tBM K "list" rAppend (tVar 12) (tCons (tVar 13) tNil)))))))))
  (tSeq (tIfS (tTest (tOp rEq (tOp rMod (tCB (rLen K) (tCons (tVar 12) tNil)) (tC (.int 2))) (tC (.int 0)))) (tRet (tTup (tCons (tVar 12) (tCons (tTup (tCons (tVar 8) (tCons (tUn rNeg (tVar 9)) (tCons (tUn rNeg (tVar 10)) (tCons (tVar 11) tNil))))) tNil)))) tNext)
  (tRet (tTup (tCons (tVar 12) (tCons (tTup (tCons (tUn rNeg (tVar 9)) (tCons (tVar 8) (tCons (tVar 11) (tCons (tUn rNeg (tVar 10)) tNil))))) tNil)))))))))
def b1_g_stepT : PS :=
  (pSeq (pAsg (pOp qDiv (pOp qSub (pOp qAdd (pVar 5) (pVar 8)) (pC (.int 1))) (pOp qSub (pVar 6) (pVar 10))) 13)
  (pSeq (pDrop (pMethM P_Machine_count (pVar 0) (pCons (pC (.str "quotient")) (pCons (pC (.int 1)) pNil))))
  (pSeq (pIfS (pTest (pOp qGt (pOp qAdd (pVar 9) (pOp qMul (pVar 13) (pVar 11))) (pOp qSub (pVar 5) (pOp qMul (pVar 13) (pVar 6))))) pBreak pNext)
  (pSeq (pPar [5, 6] (pCons (pVar 6) (pCons (pOp qSub (pVar 5) (pOp qMul (pVar 13) (pVar 6))) pNil)))
  (pSeq (pAsgG (pTup (pCons (pVar 11) (pCons (pVar 10) (pCons (pOp qAdd (pVar 9) (pOp qMul (pVar 13) (pVar 11))) (pCons (pOp qAdd (pVar 8) (pOp qMul (pVar 13) (pVar 10))) pNil))))) (pgTup [8, 9, 10, 11]))
  (pAppend 12 (pVar 13)))))))
def p_g_stepT : PS :=
  (pSeqN (pAsgG (pTup (pCons (pCB qLen (pCons (pRow (pVar 1)) pNil)) (pCons (pBits (pOp qIxT (pRow (pVar 1)) (pUn qNeg (pC (.int 1))))) pNil))) (pgTup [3, 4]))
  (pSeqN (pAsgG (pFz (pLc (pIT (pTup (pCons (pRow (pVar 1)) (pCons (pRow (pVar 2)) pNil)))) (pgName 7) pYes (pCall P_g_first (pCons (pVar 7) (pCons (pVar 3) (pCons (pWidthM (pVar 0)) (pCons (pVar 4) pNil))))) [7])) (pgUnl [5, 6]))
  (pSeqN (pTupL4 8 9 10 11 12 (pC (.int 1)) (pC (.int 0)) (pC (.int 0)) (pC (.int 1)) (pLst pNil))
  (pSeqN (pWhile (pTest (pOp qNe (pVar 6) (pVar 10))) b1_g_stepT)
  (pIfL (pTest (pOp qEq (pOp qMod (pCBO qLen 12) (pC (.int 2))) (pC (.int 0)))) (pRetO 12 (pTup (pCons (pVar 8) (pCons (pUn qNeg (pVar 9)) (pCons (pUn qNeg (pVar 10)) (pCons (pVar 11) pNil))))))
  (pRetO 12 (pTup (pCons (pUn qNeg (pVar 9)) (pCons (pVar 8) (pCons (pVar 11) (pCons (pUn qNeg (pVar 10)) pNil)))))))))))
theorem sn_g_stepT {K : PySem.W.Frag} {c : Pc} (PM : PM K c) (PB : PB K c) : SndSS K c (t_g_stepT K c) p_g_stepT :=
  (snd_seqN (snd_asgG (snd_tup (snd_cons (snd_cb s_len (snd_cons (snd_row PB snd_var) snd_nil)) (snd_cons (snd_bits (snd_op s_ixT (snd_row PB snd_var) (snd_neg (snd_int 1)))) snd_nil))) (snd_gTup (is := [3, 4]) rfl))
  (snd_seqN (snd_asgG (snd_fz (snd_lc (snd_iTup (snd_tup (snd_cons (snd_row PB snd_var) (snd_cons (snd_row PB snd_var) snd_nil)))) snd_gName (tgt_name _) snd_yes (snd_call u_g_first (snd_cons snd_var (snd_cons snd_var (snd_cons (snd_widthM PM snd_var) (snd_cons snd_var snd_nil))))))) (snd_gUnl (is := [5, 6]) rfl))
  (snd_seqN (snd_tupL4 (snd_int 1) (snd_int 0) (snd_int 0) (snd_int 1) (snd_lst snd_nil))
  (snd_seqN (snd_while (snd_test (snd_op s_ne snd_var snd_var)) (snd_seq (snd_asg (snd_op s_div (snd_op s_sub (snd_op s_add snd_var snd_var) (snd_int 1)) (snd_op s_sub snd_var snd_var)))
  (snd_seq (snd_drop (snd_methM (by decide) u_Machine_count snd_var (snd_cons (snd_str "quotient") (snd_cons (snd_int 1) snd_nil))))
  (snd_seq (snd_ifS (snd_test (snd_op s_gt (snd_op s_add snd_var (snd_op s_mul snd_var snd_var)) (snd_op s_sub snd_var (snd_op s_mul snd_var snd_var)))) snd_break snd_next)
  (snd_seq (snd_par (snd_cons snd_var (snd_cons (snd_op s_sub snd_var (snd_op s_mul snd_var snd_var)) snd_nil)))
  (snd_seq (snd_asgG (snd_tup (snd_cons snd_var (snd_cons snd_var (snd_cons (snd_op s_add snd_var (snd_op s_mul snd_var snd_var)) (snd_cons (snd_op s_add snd_var (snd_op s_mul snd_var snd_var)) snd_nil))))) (snd_gTup (is := [8, 9, 10, 11]) rfl))
  (snd_append snd_var)))))))
  (snd_ifSS (snd_test (snd_op s_eq (snd_op s_mod (snd_cbO s_len) (snd_int 2)) (snd_int 0))) (snd_retO (snd_tup (snd_cons snd_var (snd_cons (snd_neg snd_var) (snd_cons (snd_neg snd_var) (snd_cons snd_var snd_nil))))))
  (snd_retO (snd_tup (snd_cons (snd_neg snd_var) (snd_cons snd_var (snd_cons snd_var (snd_cons (snd_neg snd_var) snd_nil)))))))))))
theorem w_g_stepT : ∀ ds w k, P_g_stepT ds w k → p_g_stepT (pen k) (env0 14 ds) w := by
  intro ds w k h
  unfold P_g_stepT at h
  split at h
  · rename_i i b n b' n'
    replace h := onM_of h
    obtain ⟨m, hm, N, M, ⟨rfl, rfl⟩, ⟨rfl, rfl⟩, ⟨hb1, hb30⟩, hMN, ⟨hl3, hl4⟩, h⟩ := h
    have hz := sizeLine_eq
    have eN : ((N : Int)).natAbs = N := rfl
    have eM : ((M : Int)).natAbs = M := rfl
    unfold p_g_stepT
    walk_at "pu"
    rw [eN, at_lastG (by intro z; rw [z] at hl3; simp at hl3), eSome]
    walk_at "pu"
    refine ⟨by omega, by omega, ?_⟩
    rw [lcp_cons]
    walk_at "pu"
    rw [onM_is hm, dN_len, e_g_first]
    obtain ⟨c1, c2, c3⟩ := top_bits hb1 hl3
    refine ⟨m.b, N, (digs m.b N).length, _, rfl, rfl, rfl, rfl, ⟨hb1, hb30, c2, hl3⟩, Nat.le_refl _, ?_⟩
    walk_at "pu"
    refine ⟨by omega, ?_⟩
    rw [lcp_cons]
    walk_at "pu"
    rw [onM_is hm, e_g_first, eM]
    refine ⟨m.b, M, (digs m.b N).length, _, rfl, rfl, rfl, rfl, ⟨hb1, hb30, c2, hl3⟩, digs_len_mono (by omega) hMN, ?_⟩
    walk_at "pu"
    refine ⟨by omega, ?_⟩
    rw [lcp_nil]
    walk_at "pu"
    rw [← c1]
    simp only [pTupL4]
    walk_at "pu"
    refine ⟨by omega, by omega, ?_⟩
    have hpl := lh_prod hb1 c3 hMN
    have h0 := lh_start hb1 c3 hMN
    have hr : Lh.run (M / 2 ^ lhT m.b N + 1) (lhS m.b N M) [] 0 = lhR m.b N M := rfl
    have hp60 : 2 ^ (2 * m.b) ≤ 2 ^ 60 := Nat.pow_le_pow_right (by decide) (by omega)
    generalize lhR m.b N M = R at *
    refine whl_ind (fun mm e w' => ∃ (f : Nat) (s : Lh) (l : List Nat) (c X Y : Nat) (y13 : Slot), noOwn [y13] ∧ w' = w.put i (m.cnt 3 c) ∧ mm = s.n ∧ LhE (2 ^ lhT m.b N) (2 ^ (2 * m.b)) X Y N M l s ∧ Lh.run f s l c = R ∧ s.n < f ∧ s.m * s.n * 2 ^ l.length ≤ 2 ^ 120 ∧ e = [.val (.mach i), .val (.big m.b (N : Int)), .val (.big m.b (M : Int)), .val (.int ((digs m.b N).length : Int)), .val (.int (Builtin.Int.intBits (((digs m.b N).getD ((digs m.b N).length - 1) 0 : Nat) : Int) : Nat)), .val (.int (s.m : Int)), .val (.int (s.n : Int)), .no, .val (.int (s.a : Int)), .val (.int (s.b : Int)), .val (.int (s.c : Int)), .val (.int (s.d : Int)), .own true (l.map fun (z : Nat) => .int (z : Int)), y13]) (M / 2 ^ lhT m.b N) ⟨_, _, _, 0, _, _, .no, trivial, by rw [show ((0 : Nat) : Int) = 0 from rfl, cnt_nil, put_self hm], rfl, h0, hr, Nat.lt_succ_self _, by show N / 2 ^ lhT m.b N * (M / 2 ^ lhT m.b N) * 2 ^ 0 ≤ _; rw [Nat.pow_zero, Nat.mul_one]; exact Nat.le_trans hpl (Nat.pow_le_pow_right (by decide) (by omega)), rfl⟩ ?_
    rintro mm e w' nx ⟨f, s, l, c, X, Y, y13, hy13, rfl, rfl, hE, hrun, hf, hc, rfl⟩ hnx
    obtain ⟨u, v, P, Q, hI⟩ := hE.inv
    have dB := hI.dB
    have aB := hI.aB
    have bB := hI.bB
    have cn := hI.cn
    have a1 := hI.a1
    have mB : s.m ≤ 2 ^ (2 * m.b) := by
      have h1 := hI.hP; have h2 := hI.PB; have h3 := Nat.mul_le_mul_right s.m hI.d1
      omega
    have nB : s.n ≤ 2 ^ (2 * m.b) := by
      have h1 := hI.hQ; have h2 := hI.QB; have h3 := Nat.mul_le_mul_right s.n hI.a1
      omega
    have hll : ((l.map fun (z : Nat) => Dat.int (z : Int)).length : Int) % 2 = 0 ↔ l.length % 2 = 0 := by rw [List.length_map]; omega
    have fin : ∀ c' : Nat, (l, s, c') = R → if ((l.map fun (z : Nat) => Dat.int (z : Int)).length : Int) % 2 = 0 then 4 ≤ sizeLine ∧ 2 ≤ sizeLine ∧ k (.tup [.lst (l.map fun (z : Nat) => .int (z : Int)), .tup [.int (s.a : Int), .int (-(s.b : Int)), .int (-(s.c : Int)), .int (s.d : Int)]]) (w.put i (m.cnt 3 c')) else 4 ≤ sizeLine ∧ 2 ≤ sizeLine ∧ k (.tup [.lst (l.map fun (z : Nat) => .int (z : Int)), .tup [.int (-(s.b : Int)), .int (s.a : Int), .int (s.d : Int), .int (-(s.c : Int))]]) (w.put i (m.cnt 3 c')) := fun c' hR => by
      rw [← hR] at h
      unfold lhF at h
      by_cases z : l.length % 2 = 0
      · rw [if_pos (hll.mpr z)]
        rw [if_pos z] at h
        exact ⟨by omega, by omega, h⟩
      · rw [if_neg (fun q => z (hll.mp q))]
        rw [if_neg z] at h
        exact ⟨by omega, by omega, h⟩
    obtain ⟨f', rfl⟩ : ∃ f', f = f' + 1 := ⟨f - 1, by omega⟩
    unfold Lh.run at hrun
    walk_at "pu"
    refine ite_2 (fun z => ?_) fun z => ?_
    · have hnc : s.n ≠ s.c := by omega
      rw [if_neg hnc] at hrun
      unfold b1_g_stepT
      walk_at "pu"
      have eq : ((s.m : Int) + (s.a : Int) - 1) / ((s.n : Int) - (s.c : Int)) = (s.q : Int) := by
        unfold Lh.q
        rw [show (s.m : Int) + (s.a : Int) - 1 = ((s.m + s.a - 1 : Nat) : Int) by omega, show (s.n : Int) - (s.c : Int) = ((s.n - s.c : Nat) : Int) by omega, ← Int.natCast_ediv]
      have qB : s.q < 2 ^ 62 := by
        have : s.q ≤ s.m + s.a - 1 := Nat.div_le_self _ _
        omega
      rw [eq, onM_put hm, put_put, cnt_cnt]
      have q64 : -(2 ^ 64) < (s.q : Int) ∧ (s.q : Int) < 2 ^ 64 := ⟨by omega, by omega⟩
      refine ⟨?_, mul_okL q64.1 q64.2, mul_okL q64.1 q64.2, ?_⟩
      · rw [show (s.n : Int) - (s.c : Int) = ((s.n - s.c : Nat) : Int) by omega]
        exact div_ok (k := 61) (by omega) (by rw [Int.natAbs_natCast]; omega) (by decide) (by decide)
      have e1 : (s.q : Int) * (s.n : Int) = ((s.q * s.n : Nat) : Int) := (Int.natCast_mul _ _).symm
      have e2 : (s.q : Int) * (s.d : Int) = ((s.q * s.d : Nat) : Int) := (Int.natCast_mul _ _).symm
      have e3 : (s.q : Int) * (s.c : Int) = ((s.q * s.c : Nat) : Int) := (Int.natCast_mul _ _).symm
      refine ite_2 (fun z2 => ?_) fun z2 => ?_
      · have hb : s.brk = true := decide_eq_true (by rw [e1, e2] at z2; omega)
        rw [if_pos hb] at hrun
        refine ⟨by omega, ?_⟩
        have := fin (c + 1) hrun
        rw [Int.natCast_add] at this
        walk_at "pu"
        by_cases z : ((l.map fun (z : Nat) => Dat.int (z : Int)).length : Int) % 2 = 0
        · rw [if_pos z] at this ⊢
          exact ⟨by omega, this.2⟩
        · rw [if_neg z] at this ⊢
          exact ⟨by omega, this.2⟩
      · have hb0 : ¬ s.m < s.b + s.q * s.d + s.q * s.n := by rw [e1, e2] at z2; omega
        have hb : s.brk = false := decide_eq_false hb0
        rw [if_neg (by rw [hb]; decide)] at hrun
        obtain ⟨hs1, hs2⟩ := hE.step hnc hb
        obtain ⟨hs3, hs4, hs5⟩ := hE.half hMN hnc hb
        have hl60 : l.length ≤ 120 := by
          rcases Nat.lt_or_ge 120 l.length with z3 | z3
          · exfalso
            have w1 : 2 ^ 121 ≤ 2 ^ l.length := Nat.pow_le_pow_right (by decide) z3
            have w2 : 1 * 1 ≤ s.m * s.n := Nat.mul_le_mul hs4 hs5
            have w3 := Nat.mul_le_mul w2 w1
            omega
          · exact z3
        refine ⟨mul_okL q64.1 q64.2, mul_okL q64.1 q64.2, mul_okL q64.1 q64.2, by omega, by rw [List.length_map]; omega, ?_⟩
        refine hnx _ _ _ hs2 ⟨f', s.go, l ++ [s.q], c + 1, Y, X % Y, .val (.int (s.q : Int)), trivial, by rw [Int.natCast_add]; rfl, rfl, hs1, hrun, by omega, ?_, ?_⟩
        · rw [show (l ++ [s.q]).length = l.length + 1 by simp, Nat.pow_succ]
          have w1 := Nat.mul_le_mul_right (2 ^ l.length) hs3
          have w2 : s.go.m * s.go.n * (2 ^ l.length * 2) = 2 * (s.go.m * s.go.n) * 2 ^ l.length := by
            rw [Nat.mul_comm (2 ^ l.length) 2, ← Nat.mul_assoc, Nat.mul_comm _ 2]
          rw [w2]
          exact Nat.le_trans w1 hc
        · rw [List.map_append, e1, e2, e3, show (s.m : Int) - ((s.q * s.n : Nat) : Int) = ((s.m - s.q * s.n : Nat) : Int) by omega]
          rfl
    · have hnc : s.n = s.c := by omega
      rw [if_pos hnc] at hrun
      have := fin c hrun
      walk_at "pu"
      simp only [pIfL]
      walk_at "pu"
      refine ⟨by omega, ?_⟩
      by_cases z : ((l.map fun (z : Nat) => Dat.int (z : Int)).length : Int) % 2 = 0
      · rw [if_pos z] at this ⊢
        exact ⟨by omega, hy13, this.2⟩
      · rw [if_neg z] at this ⊢
        exact ⟨by omega, hy13, this.2⟩
  · exact h.elim
theorem b_g_stepT {K : PySem.W.Frag} {c : Pc} {vs : List V} {H : Hp} {Q : VK} {E : XK} (PM : PM K c) (PB : PB K c) (h : sp_g_stepT K c vs H Q E) : t_g_stepT K c (en0 Q) (st0 14 vs) H := def_okS (sn_g_stepT PM PB) w_g_stepT h
def P_g_lehmer : PSp := fun ds w k => match ds with
  | [.mach i, .big b n, .big b' n'] => onM w i fun m => ∃ N M : Nat, (n = (N : Int) ∧ n' = (M : Int)) ∧ (m.b = b ∧ m.b = b') ∧ (1 ≤ m.b ∧ m.b ≤ 30) ∧ M ≤ N ∧ (3 ≤ (digs m.b N).length ∧ (digs m.b N).length ≤ 3000) ∧
    k (.tup [.lst ((lhR m.b N M).1.map fun (z : Nat) => .int (z : Int)), .tup [.int (lhF (lhR m.b N M)).1, .int (lhF (lhR m.b N M)).2.1, .int (lhF (lhR m.b N M)).2.2.1, .int (lhF (lhR m.b N M)).2.2.2]]) (w.put i (m.cnt 3 (lhR m.b N M).2.2))
  | _ => False
theorem n_g_lehmer : ∀ ds w k, P_g_lehmer ds w k → ds.length = 3 := fun ds w k h => by
  unfold P_g_lehmer at h
  split at h
  · rfl
  · exact h.elim
theorem e_g_lehmer {i b b' : Nat} {n n' : Int} {w : Wld} {k : Dat → Wld → Prop} : P_g_lehmer [.mach i, .big b n, .big b' n'] w k = (onM w i fun m => ∃ N M : Nat, (n = (N : Int) ∧ n' = (M : Int)) ∧ (m.b = b ∧ m.b = b') ∧ (1 ≤ m.b ∧ m.b ≤ 30) ∧ M ≤ N ∧ (3 ≤ (digs m.b N).length ∧ (digs m.b N).length ≤ 3000) ∧
    k (.tup [.lst ((lhR m.b N M).1.map fun (z : Nat) => .int (z : Int)), .tup [.int (lhF (lhR m.b N M)).1, .int (lhF (lhR m.b N M)).2.1, .int (lhF (lhR m.b N M)).2.2.1, .int (lhF (lhR m.b N M)).2.2.2]]) (w.put i (m.cnt 3 (lhR m.b N M).2.2))) := rfl
def sp_g_lehmer (K : PySem.W.Frag) (c : Pc) : Sp := lifS K c P_g_lehmer
theorem u_g_lehmer {K : PySem.W.Frag} {c : Pc} : SndP K c (sp_g_lehmer K c) P_g_lehmer := SndP.lifS
theorem us_g_lehmer {K : PySem.W.Frag} {c : Pc} : SndPS K c (sp_g_lehmer K c) P_g_lehmer := SndPS.lif
/-- 0:machine 1:x 2:y -/
def t_g_lehmer (K : PySem.W.Frag) (c : Pc) : TS :=
  (tSeq (tDrop (tCall (sp_check_bigs K c) [] E0 (tCons (tVar 0) (tCons (tVar 1) (tCons (tVar 2) tNil)))))
  (tSeq (tIfS (tOr (tTest (tOp rLt (tFld K (tVar 1) "side") (tC (.int 0)))) (tTest (tOp rLe (tCB (rLen K) (tCons (tFld K (tVar 1) "row") tNil)) (tC (.int 2))))) tNever tNext)
  (tSeq (tIfS (tOr (tTest (tOp rLt (tFld K (tVar 2) "side") (tC (.int 0)))) (tTest (tOp rGt (tCall (sp_value_of K c) [] E0 (tCons (tVar 2) tNil)) (tCall (sp_value_of K c) [] E0 (tCons (tVar 1) tNil))))) tNever tNext)
  (tRet (tCall (sp_g_stepT K c) [] E0 (tCons (tVar 0) (tCons (tVar 1) (tCons (tVar 2) tNil))))))))
def p_g_lehmer : PS :=
  (pSeqN (pDrop (pCall P_check_bigs (pCons (pVar 0) (pCons (pVar 1) (pCons (pVar 2) pNil)))))
  (pSeqN (pIfS (pOr (pTest (pOp qLt (pSide (pVar 1)) (pC (.int 0)))) (pTest (pOp qLe (pCB qLen (pCons (pRow (pVar 1)) pNil)) (pC (.int 2))))) pNever pNext)
  (pSeqN (pIfS (pOr (pTest (pOp qLt (pSide (pVar 2)) (pC (.int 0)))) (pTest (pOp qGt (pCall P_value_of (pCons (pVar 2) pNil)) (pCall P_value_of (pCons (pVar 1) pNil))))) pNever pNext)
  (pRetC P_g_stepT (pCons (pVar 0) (pCons (pVar 1) (pCons (pVar 2) pNil)))))))
theorem sn_g_lehmer {K : PySem.W.Frag} {c : Pc} (PM : PM K c) (PB : PB K c) : SndSS K c (t_g_lehmer K c) p_g_lehmer :=
  (snd_seqN (snd_drop (snd_call u_check_bigs (snd_cons snd_var (snd_cons snd_var (snd_cons snd_var snd_nil)))))
  (snd_seqN (snd_ifS (snd_or (snd_test (snd_op s_lt (snd_side PB snd_var) (snd_int 0))) (snd_test (snd_op s_le (snd_cb s_len (snd_cons (snd_row PB snd_var) snd_nil)) (snd_int 2)))) snd_never snd_next)
  (snd_seqN (snd_ifS (snd_or (snd_test (snd_op s_lt (snd_side PB snd_var) (snd_int 0))) (snd_test (snd_op s_gt (snd_call u_value_of (snd_cons snd_var snd_nil)) (snd_call u_value_of (snd_cons snd_var snd_nil))))) snd_never snd_next)
  (snd_retC us_g_stepT (snd_cons snd_var (snd_cons snd_var (snd_cons snd_var snd_nil)))))))
theorem w_g_lehmer : ∀ ds w k, P_g_lehmer ds w k → p_g_lehmer (pen k) (env0 3 ds) w := by
  intro ds w k h
  unfold P_g_lehmer at h
  split at h
  · rename_i i b n b' n'
    have h0 := h
    replace h := onM_of h
    obtain ⟨m, hm, N, M, ⟨rfl, rfl⟩, ⟨rfl, rfl⟩, ⟨hb1, hb30⟩, hMN, ⟨hl3, hl4⟩, h⟩ := h
    have hz := sizeLine_eq
    unfold p_g_lehmer
    walk_at "pu"
    rw [onM_is hm]
    have eN : ((N : Int)).natAbs = N := rfl
    have s1 : ∀ z : Nat, ¬ sgn (z : Int) < 0 := fun z => by unfold sgn; split <;> (try split) <;> omega
    rw [dN_len, eN, if_neg (s1 N), if_neg (by omega), if_neg (s1 M), if_neg (by omega)]
    have lM : (digs m.b M).length ≤ (digs m.b N).length := digs_len_mono (by omega) hMN
    refine ⟨rfl, rfl, ⟨by omega, hb30, by show (digs m.b M).length < _; omega⟩, ⟨by omega, hb30, by show (digs m.b N).length < _; omega⟩, ?_⟩
    rw [e_g_stepT, onM_is hm]
    exact ⟨N, M, ⟨rfl, rfl⟩, ⟨rfl, rfl⟩, ⟨hb1, hb30⟩, hMN, ⟨hl3, hl4⟩, h⟩
  · exact h.elim
theorem b_g_lehmer {K : PySem.W.Frag} {c : Pc} {vs : List V} {H : Hp} {Q : VK} {E : XK} (PM : PM K c) (PB : PB K c) (h : sp_g_lehmer K c vs H Q E) : t_g_lehmer K c (en0 Q) (st0 3 vs) H := def_okS (sn_g_lehmer PM PB) w_g_lehmer h
/-- what is refused behind the first checks -/
def lehBad (b : Nat) (n n' : Int) (q : Str → Prop) : Prop := (bigL b n ∧ bigL b n') ∧ if n < 0 ∨ (digs b n.natAbs).length ≤ 2 then q "x" else (n' < 0 ∨ n < n') ∧ q "y"
def P_g_lehmer_X : PSpX := fun ds w k kx => match ds with
  | [d0, d1, d2] => wrong2 w d0 d1 d2 (∃ b n n', d1 = .big b n ∧ d2 = .big b n' ∧ lehBad b n n' fun s => kx (bnd s) w) fun s => kx (bnd s) w
  | _ => False
theorem n_g_lehmer_X : ∀ ds w k kx, P_g_lehmer_X ds w k kx → ds.length = 3 := fun ds w k kx h => by
  unfold P_g_lehmer_X at h
  split at h
  · rfl
  · exact h.elim
theorem e_g_lehmer_X {d0 d1 d2 : Dat} {w : Wld} {k : Dat → Wld → Prop} {kx : PX} : P_g_lehmer_X [d0, d1, d2] w k kx = (wrong2 w d0 d1 d2 (∃ b n n', d1 = .big b n ∧ d2 = .big b n' ∧ lehBad b n n' fun s => kx (bnd s) w) fun s => kx (bnd s) w) := rfl
def sp_g_lehmer_X (K : PySem.W.Frag) (c : Pc) : Sp := lifX K c P_g_lehmer_X
theorem u_g_lehmer_X {K : PySem.W.Frag} {c : Pc} : SndPX K c (sp_g_lehmer_X K c) P_g_lehmer_X := SndPX.lif
/-- 0:machine 1:x 2:y -/
def t_g_lehmer_X (K : PySem.W.Frag) (c : Pc) (E : XK) : TS :=
  (tSeq (tDrop (tCall (sp_check_bigs_X K c) [] E (tCons (tVar 0) (tCons (tVar 1) (tCons (tVar 2) tNil)))))
  (tSeq (tIfS (tOr (tTest (tOp rLt (tFld K (tVar 1) "side") (tC (.int 0)))) (tTest (tOp rLe (tCB (rLen K) (tCons (tFld K (tVar 1) "row") tNil)) (tC (.int 2))))) (tRaiseF (c.xs.getD 1 0) "argument" (tC (.str "x")) E) tNext)
  (tSeq (tIfS (tOr (tTest (tOp rLt (tFld K (tVar 2) "side") (tC (.int 0)))) (tTest (tOp rGt (tCall (sp_value_of K c) [] E0 (tCons (tVar 2) tNil)) (tCall (sp_value_of K c) [] E0 (tCons (tVar 1) tNil))))) (tRaiseF (c.xs.getD 1 0) "argument" (tC (.str "y")) E) tNext)
  (tRet (tCall (sp_g_stepT K c) [] E0 (tCons (tVar 0) (tCons (tVar 1) (tCons (tVar 2) tNil))))))))
def p_g_lehmer_X (kx : PX) : PS :=
  (pSeq (pDrop (pCallE P_check_bigs_X (pCons (pVar 0) (pCons (pVar 1) (pCons (pVar 2) pNil))) kx)) (pSeq (pIfS (pOr (pTest (pOp qLt (pSide (pVar 1)) (pC (.int 0)))) (pTest (pOp qLe (pCB qLen (pCons (pRow (pVar 1)) pNil)) (pC (.int 2))))) (pRaiseF kx 1 "argument" (pC (.str "x"))) pNext) (pSeq (pIfS (pOr (pTest (pOp qLt (pSide (pVar 2)) (pC (.int 0)))) (pTest (pOp qGt (pCall P_value_of (pCons (pVar 2) pNil)) (pCall P_value_of (pCons (pVar 1) pNil))))) (pRaiseF kx 1 "argument" (pC (.str "y"))) pNext) (pRet (pCall P_g_stepT (pCons (pVar 0) (pCons (pVar 1) (pCons (pVar 2) pNil))))))))
theorem sn_g_lehmer_X {K : PySem.W.Frag} {c : Pc} (PM : PM K c) (PB : PB K c) : SndSX K c (t_g_lehmer_X K c) p_g_lehmer_X :=
  show SndSX K c (fun E => (tSeq (tDrop (tCall (sp_check_bigs_X K c) [] E (tCons (tVar 0) (tCons (tVar 1) (tCons (tVar 2) tNil)))))
  (tSeq (tIfS (tOr (tTest (tOp rLt (tFld K (tVar 1) "side") (tC (.int 0)))) (tTest (tOp rLe (tCB (rLen K) (tCons (tFld K (tVar 1) "row") tNil)) (tC (.int 2))))) (tRaiseF (c.xs.getD 1 0) "argument" (tC (.str "x")) E) tNext)
  (tSeq (tIfS (tOr (tTest (tOp rLt (tFld K (tVar 2) "side") (tC (.int 0)))) (tTest (tOp rGt (tCall (sp_value_of K c) [] E0 (tCons (tVar 2) tNil)) (tCall (sp_value_of K c) [] E0 (tCons (tVar 1) tNil))))) (tRaiseF (c.xs.getD 1 0) "argument" (tC (.str "y")) E) tNext)
  (tRet (tCall (sp_g_stepT K c) [] E0 (tCons (tVar 0) (tCons (tVar 1) (tCons (tVar 2) tNil))))))))) (fun kx => (pSeq (pDrop (pCallE P_check_bigs_X (pCons (pVar 0) (pCons (pVar 1) (pCons (pVar 2) pNil))) kx)) (pSeq (pIfS (pOr (pTest (pOp qLt (pSide (pVar 1)) (pC (.int 0)))) (pTest (pOp qLe (pCB qLen (pCons (pRow (pVar 1)) pNil)) (pC (.int 2))))) (pRaiseF kx 1 "argument" (pC (.str "x"))) pNext) (pSeq (pIfS (pOr (pTest (pOp qLt (pSide (pVar 2)) (pC (.int 0)))) (pTest (pOp qGt (pCall P_value_of (pCons (pVar 2) pNil)) (pCall P_value_of (pCons (pVar 1) pNil))))) (pRaiseF kx 1 "argument" (pC (.str "y"))) pNext) (pRet (pCall P_g_stepT (pCons (pVar 0) (pCons (pVar 1) (pCons (pVar 2) pNil))))))))) from (sx_seq (sx_drop (ex_call u_check_bigs_X (snd_cons snd_var (snd_cons snd_var (snd_cons snd_var snd_nil))))) (sx_seq (sx_ifS (snd_or (snd_test (snd_op s_lt (snd_side PB snd_var) (snd_int 0))) (snd_test (snd_op s_le (snd_cb s_len (snd_cons (snd_row PB snd_var) snd_nil)) (snd_int 2)))) (sx_raiseF (snd_str "x")) (sx_lift snd_next)) (sx_seq (sx_ifS (snd_or (snd_test (snd_op s_lt (snd_side PB snd_var) (snd_int 0))) (snd_test (snd_op s_gt (snd_call u_value_of (snd_cons snd_var snd_nil)) (snd_call u_value_of (snd_cons snd_var snd_nil))))) (sx_raiseF (snd_str "y")) (sx_lift snd_next)) (sx_lift (snd_ret (snd_call u_g_stepT (snd_cons snd_var (snd_cons snd_var (snd_cons snd_var snd_nil)))))))))
theorem w_g_lehmer_X : ∀ ds w k kx, P_g_lehmer_X ds w k kx → p_g_lehmer_X kx (pen k) (env0 3 ds) w := by
  intro ds w k kx h
  unfold P_g_lehmer_X at h
  split at h
  · rename_i d0 d1 d2
    unfold p_g_lehmer_X
    walk_at "px"
    rw [e_check_bigs_X]
    refine wrong2_imp h (fun i m n n' hm e0 e1 e2 hz => ?_) fun s hs => hs
    subst e0; subst e1; subst e2
    obtain ⟨b, n1, n2, h1, h2, ⟨l1, l2⟩, hz⟩ := hz
    cases h1; cases h2
    walk_at "px"
    have sg : ∀ z : Int, sgn z < 0 ↔ z < 0 := fun z => by unfold sgn; split <;> (try split) <;> omega
    simp only [sg]
    rw [dN_len]
    by_cases c1 : n < 0 ∨ (digs m.b n.natAbs).length ≤ 2
    · rw [if_pos c1] at hz
      rcases c1 with c | c
      · rw [if_pos c]; exact hz
      · refine ite_2 (fun _ => hz) fun _ => ?_
        rw [if_pos (by omega)]
        exact hz
    · rw [if_neg c1] at hz
      rw [if_neg (fun z => c1 (.inl z)), if_neg (fun z => c1 (.inr (by omega)))]
      refine ite_2 (fun _ => hz.2) fun c => ⟨l2, l1, ?_⟩
      rw [if_pos (by omega)]
      exact hz.2
  · exact h.elim
theorem b_g_lehmer_X {K : PySem.W.Frag} {c : Pc} {vs : List V} {H : Hp} {Q : VK} {E : XK} (PM : PM K c) (PB : PB K c) (h : sp_g_lehmer_X K c vs H Q E) : t_g_lehmer_X K c E (en0 Q) (st0 3 vs) H := def_okX (sn_g_lehmer_X PM PB) w_g_lehmer_X h
def P_k54_step : PSp := fun ds w k => match ds with
  | [.int n, .int n', .int wd] => ∃ N M b : Nat, (n = (N : Int) ∧ n' = (M : Int)) ∧ wd = (b : Int) ∧ (1 ≤ b ∧ b ≤ 30) ∧ M ≤ N ∧ 2 ^ (2 * b) ≤ N ∧
    k (.tup [.lst ((lhR b N M).1.map fun (z : Nat) => .int (z : Int)), .tup [.int (lhF (lhR b N M)).1, .int (lhF (lhR b N M)).2.1, .int (lhF (lhR b N M)).2.2.1, .int (lhF (lhR b N M)).2.2.2], .int ((lhR b N M).2.2 : Nat)]) w
  | _ => False
theorem n_k54_step : ∀ ds w k, P_k54_step ds w k → ds.length = 3 := fun ds w k h => by
  unfold P_k54_step at h
  split at h
  · rfl
  · exact h.elim
theorem e_k54_step {n n' wd : Int} {w : Wld} {k : Dat → Wld → Prop} : P_k54_step [.int n, .int n', .int wd] w k = (∃ N M b : Nat, (n = (N : Int) ∧ n' = (M : Int)) ∧ wd = (b : Int) ∧ (1 ≤ b ∧ b ≤ 30) ∧ M ≤ N ∧ 2 ^ (2 * b) ≤ N ∧
    k (.tup [.lst ((lhR b N M).1.map fun (z : Nat) => .int (z : Int)), .tup [.int (lhF (lhR b N M)).1, .int (lhF (lhR b N M)).2.1, .int (lhF (lhR b N M)).2.2.1, .int (lhF (lhR b N M)).2.2.2], .int ((lhR b N M).2.2 : Nat)]) w) := rfl
def sp_k54_step (K : PySem.W.Frag) (c : Pc) : Sp := lif K c P_k54_step
theorem u_k54_step {K : PySem.W.Frag} {c : Pc} : SndP K c (sp_k54_step K c) P_k54_step := SndP.lif
/-- 0:_law_xx 1:_law_yy 2:_law_width 3:_law_cut 4:_law_m 5:_law_n 6:_law_asked 7:_law_found 8:_law_a 9:_law_b 10:_law_c 11:_law_d 12:_law_guess -/
def t_k54_step (K : PySem.W.Frag) (c : Pc) : TS :=
  (tSeq (tAsg (tOp rSub (tBits (tVar 0)) (tOp rMul (tC (.int 2)) (tVar 2))) (gName 3))
  (tSeq (tAsg (tTup (tCons (tOp rShr (tVar 0) (tVar 3)) (tCons (tOp rShr (tVar 1) (tVar 3)) (tCons (tC (.int 0)) (tCons (tLst tNil) tNil))))) (gTup K 4 (gCons (gName 4) (gCons (gName 5) (gCons (gName 6) (gCons (gName 7) gNil))))))
  (tSeq (tAsg (tTup (tCons (tC (.int 1)) (tCons (tC (.int 0)) (tCons (tC (.int 0)) (tCons (tC (.int 1)) tNil))))) (gTup K 4 (gCons (gName 8) (gCons (gName 9) (gCons (gName 10) (gCons (gName 11) gNil))))))
  (tSeq (tWhile (tTest (tOp rNe (tVar 5) (tVar 10))) (tSeq (tPar 12 6 (tCons (tOp rDiv (tOp rSub (tOp rAdd (tVar 4) (tVar 8)) (tC (.int 1))) (tOp rSub (tVar 5) (tVar 10))) (tCons (tOp rAdd (tVar 6) (tC (.int 1))) tNil)))
  (tSeq (tIfS (tTest (tOp rGt (tOp rAdd (tVar 9) (tOp rMul (tVar 12) (tVar 11))) (tOp rSub (tVar 4) (tOp rMul (tVar 12) (tVar 5))))) tBreak tNext)
  (tSeq (tPar 4 5 (tCons (tVar 5) (tCons (tOp rSub (tVar 4) (tOp rMul (tVar 12) (tVar 5))) tNil)))
  (tSeq (tAsg (tTup (tCons (tVar 11) (tCons (tVar 10) (tCons (tOp rAdd (tVar 9) (tOp rMul (tVar 12) (tVar 11))) (tCons (tOp rAdd (tVar 8) (tOp rMul (tVar 12) (tVar 10))) tNil))))) (gTup K 4 (gCons (gName 8) (gCons (gName 9) (gCons (gName 10) (gCons (gName 11) gNil))))))
  (tDrop (tBM K "list" rAppend (tVar 7) (tCons (tVar 12) tNil))))))))
  (tRet (tTup (tCons (tVar 7) (tCons (tIf (tTest (tOp rEq (tOp rAnd (tCB (rLen K) (tCons (tVar 7) tNil)) (tC (.int 1))) (tC (.int 0)))) (tTup (tCons (tVar 8) (tCons (tUn rNeg (tVar 9)) (tCons (tUn rNeg (tVar 10)) (tCons (tVar 11) tNil))))) (tTup (tCons (tUn rNeg (tVar 9)) (tCons (tVar 8) (tCons (tVar 11) (tCons (tUn rNeg (tVar 10)) tNil)))))) (tCons (tVar 6) tNil)))))))))
def b1_k54_step : PS :=
  (pSeq (pPar [12, 6] (pCons (pOp qDiv (pOp qSub (pOp qAdd (pVar 4) (pVar 8)) (pC (.int 1))) (pOp qSub (pVar 5) (pVar 10))) (pCons (pOp qAdd (pVar 6) (pC (.int 1))) pNil)))
  (pSeq (pIfS (pTest (pOp qGt (pOp qAdd (pVar 9) (pOp qMul (pVar 12) (pVar 11))) (pOp qSub (pVar 4) (pOp qMul (pVar 12) (pVar 5))))) pBreak pNext)
  (pSeq (pPar [4, 5] (pCons (pVar 5) (pCons (pOp qSub (pVar 4) (pOp qMul (pVar 12) (pVar 5))) pNil)))
  (pSeq (pAsgG (pTup (pCons (pVar 11) (pCons (pVar 10) (pCons (pOp qAdd (pVar 9) (pOp qMul (pVar 12) (pVar 11))) (pCons (pOp qAdd (pVar 8) (pOp qMul (pVar 12) (pVar 10))) pNil))))) (pgTup [8, 9, 10, 11]))
  (pAppend 7 (pVar 12))))))
def p_k54_step : PS :=
  (pSeq (pAsg (pOp qSub (pBits (pVar 0)) (pOp qMul (pC (.int 2)) (pVar 2))) 3)
  (pSeq (pTupL3 4 5 6 7 (pOp qShr (pVar 0) (pVar 3)) (pOp qShr (pVar 1) (pVar 3)) (pC (.int 0)) (pLst pNil))
  (pSeq (pAsgG (pTup (pCons (pC (.int 1)) (pCons (pC (.int 0)) (pCons (pC (.int 0)) (pCons (pC (.int 1)) pNil))))) (pgTup [8, 9, 10, 11]))
  (pSeq (pWhile (pTest (pOp qNe (pVar 5) (pVar 10))) b1_k54_step)
  (pFrz [7] (pRet (pTup (pCons (pVar 7) (pCons (pIf (pTest (pOp qEq (pOp qAnd (pCB qLen (pCons (pVar 7) pNil)) (pC (.int 1))) (pC (.int 0)))) (pTup (pCons (pVar 8) (pCons (pUn qNeg (pVar 9)) (pCons (pUn qNeg (pVar 10)) (pCons (pVar 11) pNil))))) (pTup (pCons (pUn qNeg (pVar 9)) (pCons (pVar 8) (pCons (pVar 11) (pCons (pUn qNeg (pVar 10)) pNil)))))) (pCons (pVar 6) pNil))))))))))
theorem sn_k54_step {K : PySem.W.Frag} {c : Pc} {α : Prop} (PM : PM K c) (PB : α) : SndS K c (t_k54_step K c) p_k54_step :=
  (snd_seq (snd_asg (snd_op s_sub (snd_bits snd_var) (snd_op s_mul (snd_int 2) snd_var)))
  (snd_seq (snd_tupL3 (snd_op s_shr snd_var snd_var) (snd_op s_shr snd_var snd_var) (snd_int 0) (snd_lst snd_nil))
  (snd_seq (snd_asgG (snd_tup (snd_cons (snd_int 1) (snd_cons (snd_int 0) (snd_cons (snd_int 0) (snd_cons (snd_int 1) snd_nil))))) (snd_gTup (is := [8, 9, 10, 11]) rfl))
  (snd_seq (snd_while (snd_test (snd_op s_ne snd_var snd_var)) (snd_seq (snd_par (snd_cons (snd_op s_div (snd_op s_sub (snd_op s_add snd_var snd_var) (snd_int 1)) (snd_op s_sub snd_var snd_var)) (snd_cons (snd_op s_add snd_var (snd_int 1)) snd_nil)))
  (snd_seq (snd_ifS (snd_test (snd_op s_gt (snd_op s_add snd_var (snd_op s_mul snd_var snd_var)) (snd_op s_sub snd_var (snd_op s_mul snd_var snd_var)))) snd_break snd_next)
  (snd_seq (snd_par (snd_cons snd_var (snd_cons (snd_op s_sub snd_var (snd_op s_mul snd_var snd_var)) snd_nil)))
  (snd_seq (snd_asgG (snd_tup (snd_cons snd_var (snd_cons snd_var (snd_cons (snd_op s_add snd_var (snd_op s_mul snd_var snd_var)) (snd_cons (snd_op s_add snd_var (snd_op s_mul snd_var snd_var)) snd_nil))))) (snd_gTup (is := [8, 9, 10, 11]) rfl))
  (snd_append snd_var))))))
  (snd_frz (snd_ret (snd_tup (snd_cons snd_var (snd_cons (snd_if (snd_test (snd_op s_eq (snd_op s_and (snd_cb s_len (snd_cons snd_var snd_nil)) (snd_int 1)) (snd_int 0))) (snd_tup (snd_cons snd_var (snd_cons (snd_neg snd_var) (snd_cons (snd_neg snd_var) (snd_cons snd_var snd_nil))))) (snd_tup (snd_cons (snd_neg snd_var) (snd_cons snd_var (snd_cons snd_var (snd_cons (snd_neg snd_var) snd_nil)))))) (snd_cons snd_var snd_nil))))))))))
theorem and_1 (n : Nat) : Builtin.bitAnd (n : Int) 1 = 0 ↔ n % 2 = 0 := by
  have : Builtin.bitAnd (n : Int) 1 = ((n &&& 1 : Nat) : Int) := rfl
  rw [this, Nat.and_one_is_mod]
  omega
theorem w_k54_step : ∀ ds w k, P_k54_step ds w k → p_k54_step (pen k) (env0 13 ds) w := by
  intro ds w k h
  unfold P_k54_step at h
  split at h
  · rename_i n n' wd
    obtain ⟨N, M, b, ⟨rfl, rfl⟩, rfl, ⟨hb1, hb30⟩, hMN, hl3, h⟩ := h
    have hz := sizeLine_eq
    unfold p_k54_step
    walk_at "pu"
    simp only [pTupL3]
    walk_at "pu"
    obtain ⟨t1, t2, t3⟩ := lhT_pos hb1 hl3
    have et : (Builtin.Int.intBits (N : Int) : Int) - 2 * (b : Int) = ((lhT b N : Nat) : Int) := by omega
    rw [et, Int.toNat_natCast]
    have eN : (N : Int) / 2 ^ lhT b N = ((N / 2 ^ lhT b N : Nat) : Int) := by rw [Int.natCast_ediv, Int.natCast_pow]; rfl
    have eM : (M : Int) / 2 ^ lhT b N = ((M / 2 ^ lhT b N : Nat) : Int) := by rw [Int.natCast_ediv, Int.natCast_pow]; rfl
    rw [eN, eM]
    refine ⟨mul_okL (by decide) (by decide), by omega, by omega, by omega, by omega, by omega, ?_⟩
    have hpl := lh_prod hb1 hl3 hMN
    have h0 := lh_start hb1 hl3 hMN
    have hr : Lh.run (M / 2 ^ lhT b N + 1) (lhS b N M) [] 0 = lhR b N M := rfl
    have hp60 : 2 ^ (2 * b) ≤ 2 ^ 60 := Nat.pow_le_pow_right (by decide) (by omega)
    generalize lhR b N M = R at *
    refine whl_ind (fun mm e w' => ∃ (f : Nat) (s : Lh) (l : List Nat) (c X Y : Nat) (y12 : Slot), w' = w ∧ mm = s.n ∧ LhE (2 ^ lhT b N) (2 ^ (2 * b)) X Y N M l s ∧ Lh.run f s l c = R ∧ s.n < f ∧ s.m * s.n * 2 ^ l.length ≤ 2 ^ 120 ∧ e = [.val (.int (N : Int)), .val (.int (M : Int)), .val (.int (b : Int)), .val (.int ((lhT b N : Nat) : Int)), .val (.int (s.m : Int)), .val (.int (s.n : Int)), .val (.int (c : Int)), .own true (l.map fun (z : Nat) => .int (z : Int)), .val (.int (s.a : Int)), .val (.int (s.b : Int)), .val (.int (s.c : Int)), .val (.int (s.d : Int)), y12]) (M / 2 ^ lhT b N) ⟨_, _, _, 0, _, _, .no, rfl, rfl, h0, hr, Nat.lt_succ_self _, by show N / 2 ^ lhT b N * (M / 2 ^ lhT b N) * 2 ^ 0 ≤ _; rw [Nat.pow_zero, Nat.mul_one]; exact Nat.le_trans hpl (Nat.pow_le_pow_right (by decide) (by omega)), rfl⟩ ?_
    rintro mm e w' nx ⟨f, s, l, c, X, Y, y12, rfl, rfl, hE, hrun, hf, hc, rfl⟩ hnx
    obtain ⟨u, v, P, Q, hI⟩ := hE.inv
    have dB := hI.dB
    have aB := hI.aB
    have bB := hI.bB
    have cn := hI.cn
    have a1 := hI.a1
    have mB : s.m ≤ 2 ^ (2 * b) := by
      have h1 := hI.hP; have h2 := hI.PB; have h3 := Nat.mul_le_mul_right s.m hI.d1
      omega
    have nB : s.n ≤ 2 ^ (2 * b) := by
      have h1 := hI.hQ; have h2 := hI.QB; have h3 := Nat.mul_le_mul_right s.n hI.a1
      omega
    have hll : Builtin.bitAnd ((l.map fun (z : Nat) => Dat.int (z : Int)).length : Int) 1 = 0 ↔ l.length % 2 = 0 := by rw [List.length_map]; exact and_1 _
    have fin : ∀ c' : Nat, (l, s, c') = R → if Builtin.bitAnd ((l.map fun (z : Nat) => Dat.int (z : Int)).length : Int) 1 = 0 then 4 ≤ sizeLine ∧ 3 ≤ sizeLine ∧ k (.tup [.lst (l.map fun (z : Nat) => .int (z : Int)), .tup [.int (s.a : Int), .int (-(s.b : Int)), .int (-(s.c : Int)), .int (s.d : Int)], .int (c' : Int)]) w' else 4 ≤ sizeLine ∧ 3 ≤ sizeLine ∧ k (.tup [.lst (l.map fun (z : Nat) => .int (z : Int)), .tup [.int (-(s.b : Int)), .int (s.a : Int), .int (s.d : Int), .int (-(s.c : Int))], .int (c' : Int)]) w' := fun c' hR => by
      rw [← hR] at h
      unfold lhF at h
      by_cases z : l.length % 2 = 0
      · rw [if_pos (hll.mpr z)]
        rw [if_pos z] at h
        exact ⟨by omega, by omega, h⟩
      · rw [if_neg (fun q => z (hll.mp q))]
        rw [if_neg z] at h
        exact ⟨by omega, by omega, h⟩
    obtain ⟨f', rfl⟩ : ∃ f', f = f' + 1 := ⟨f - 1, by omega⟩
    unfold Lh.run at hrun
    walk_at "pu"
    refine ite_2 (fun z => ?_) fun z => ?_
    · have hnc : s.n ≠ s.c := by omega
      rw [if_neg hnc] at hrun
      unfold b1_k54_step
      walk_at "pu"
      have eq : ((s.m : Int) + (s.a : Int) - 1) / ((s.n : Int) - (s.c : Int)) = (s.q : Int) := by
        unfold Lh.q
        rw [show (s.m : Int) + (s.a : Int) - 1 = ((s.m + s.a - 1 : Nat) : Int) by omega, show (s.n : Int) - (s.c : Int) = ((s.n - s.c : Nat) : Int) by omega, ← Int.natCast_ediv]
      have qB : s.q < 2 ^ 62 := by
        have : s.q ≤ s.m + s.a - 1 := Nat.div_le_self _ _
        omega
      rw [eq]
      have q64 : -(2 ^ 64) < (s.q : Int) ∧ (s.q : Int) < 2 ^ 64 := ⟨by omega, by omega⟩
      refine ⟨?_, mul_okL q64.1 q64.2, mul_okL q64.1 q64.2, ?_⟩
      · rw [show (s.n : Int) - (s.c : Int) = ((s.n - s.c : Nat) : Int) by omega]
        exact div_ok (k := 61) (by omega) (by rw [Int.natAbs_natCast]; omega) (by decide) (by decide)
      have e1 : (s.q : Int) * (s.n : Int) = ((s.q * s.n : Nat) : Int) := (Int.natCast_mul _ _).symm
      have e2 : (s.q : Int) * (s.d : Int) = ((s.q * s.d : Nat) : Int) := (Int.natCast_mul _ _).symm
      have e3 : (s.q : Int) * (s.c : Int) = ((s.q * s.c : Nat) : Int) := (Int.natCast_mul _ _).symm
      refine ite_2 (fun z2 => ?_) fun z2 => ?_
      · have hb : s.brk = true := decide_eq_true (by rw [e1, e2] at z2; omega)
        rw [if_pos hb] at hrun
        have := fin (c + 1) hrun
        rw [Int.natCast_add] at this
        exact this
      · have hb0 : ¬ s.m < s.b + s.q * s.d + s.q * s.n := by rw [e1, e2] at z2; omega
        have hb : s.brk = false := decide_eq_false hb0
        rw [if_neg (by rw [hb]; decide)] at hrun
        obtain ⟨hs1, hs2⟩ := hE.step hnc hb
        obtain ⟨hs3, hs4, hs5⟩ := hE.half hMN hnc hb
        have hl60 : l.length ≤ 120 := by
          rcases Nat.lt_or_ge 120 l.length with z3 | z3
          · exfalso
            have w1 : 2 ^ 121 ≤ 2 ^ l.length := Nat.pow_le_pow_right (by decide) z3
            have w2 : 1 * 1 ≤ s.m * s.n := Nat.mul_le_mul hs4 hs5
            have w3 := Nat.mul_le_mul w2 w1
            omega
          · exact z3
        refine ⟨mul_okL q64.1 q64.2, mul_okL q64.1 q64.2, mul_okL q64.1 q64.2, by omega, by rw [List.length_map]; omega, ?_⟩
        refine hnx _ _ _ hs2 ⟨f', s.go, l ++ [s.q], c + 1, Y, X % Y, .val (.int (s.q : Int)), rfl, rfl, hs1, hrun, by omega, ?_, ?_⟩
        · rw [show (l ++ [s.q]).length = l.length + 1 by simp, Nat.pow_succ]
          have w1 := Nat.mul_le_mul_right (2 ^ l.length) hs3
          have w2 : s.go.m * s.go.n * (2 ^ l.length * 2) = 2 * (s.go.m * s.go.n) * 2 ^ l.length := by
            rw [Nat.mul_comm (2 ^ l.length) 2, ← Nat.mul_assoc, Nat.mul_comm _ 2]
          rw [w2]
          exact Nat.le_trans w1 hc
        · rw [List.map_append, e1, e2, e3, show (s.m : Int) - ((s.q * s.n : Nat) : Int) = ((s.m - s.q * s.n : Nat) : Int) by omega]
          rfl
    · have hnc : s.n = s.c := by omega
      rw [if_pos hnc] at hrun
      exact fin c hrun
  · exact h.elim
theorem b_k54_step {K : PySem.W.Frag} {c : Pc} {vs : List V} {H : Hp} {Q : VK} {E : XK} {α : Prop} (PM : PM K c) (PB : α) (h : sp_k54_step K c vs H Q E) : t_k54_step K c (en0 Q) (st0 13 vs) H := def_ok (sn_k54_step PM PB) w_k54_step h
theorem max4 (a b c d : Int) : ∃ m ∈ [a, b, c, d], ∀ y ∈ [a, b, c, d], y ≤ m := by
  have key : ∀ m : Int, m ∈ [a, b, c, d] → a ≤ m → b ≤ m → c ≤ m → d ≤ m → ∃ m ∈ [a, b, c, d], ∀ y ∈ [a, b, c, d], y ≤ m := fun m h1 h2 h3 h4 h5 => ⟨m, h1, fun y hy => by
    simp only [List.mem_cons, List.not_mem_nil, or_false] at hy
    rcases hy with rfl | rfl | rfl | rfl <;> assumption⟩
  by_cases z1 : a ≤ d ∧ b ≤ d ∧ c ≤ d
  · exact key d (by simp) z1.1 z1.2.1 z1.2.2 (Int.le_refl _)
  · by_cases z2 : a ≤ c ∧ b ≤ c ∧ d ≤ c
    · exact key c (by simp) z2.1 z2.2.1 (Int.le_refl _) z2.2.2
    · by_cases z3 : a ≤ b ∧ c ≤ b ∧ d ≤ b
      · exact key b (by simp) z3.1 (Int.le_refl _) z3.2.1 z3.2.2
      · exact key a (by simp) (Int.le_refl _) (by omega) (by omega) (by omega)
def P_k54_facts : PSp := fun ds w k => match ds with
  | [.int n, .int n', .lst qs, .tup fs, .int bs] => ∃ N M b : Nat, (n = (N : Int) ∧ n' = (M : Int)) ∧ bs = ((2 ^ b : Nat) : Int) ∧ (1 ≤ b ∧ b ≤ 30) ∧ M ≤ N ∧ 2 ^ (2 * b) ≤ N ∧ N < 2 ^ 8000 ∧
    (qs = (lhR b N M).1.map fun (z : Nat) => .int (z : Int)) ∧ fs = [.int (lhF (lhR b N M)).1, .int (lhF (lhR b N M)).2.1, .int (lhF (lhR b N M)).2.2.1, .int (lhF (lhR b N M)).2.2.2] ∧ k (.bl true) w
  | _ => False
theorem n_k54_facts : ∀ ds w k, P_k54_facts ds w k → ds.length = 5 := fun ds w k h => by
  unfold P_k54_facts at h
  split at h
  · rfl
  · exact h.elim
theorem e_k54_facts {n n' bs : Int} {qs fs : List Dat} {w : Wld} {k : Dat → Wld → Prop} : P_k54_facts [.int n, .int n', .lst qs, .tup fs, .int bs] w k = (∃ N M b : Nat, (n = (N : Int) ∧ n' = (M : Int)) ∧ bs = ((2 ^ b : Nat) : Int) ∧ (1 ≤ b ∧ b ≤ 30) ∧ M ≤ N ∧ 2 ^ (2 * b) ≤ N ∧ N < 2 ^ 8000 ∧
    (qs = (lhR b N M).1.map fun (z : Nat) => .int (z : Int)) ∧ fs = [.int (lhF (lhR b N M)).1, .int (lhF (lhR b N M)).2.1, .int (lhF (lhR b N M)).2.2.1, .int (lhF (lhR b N M)).2.2.2] ∧ k (.bl true) w) := rfl
def sp_k54_facts (K : PySem.W.Frag) (c : Pc) : Sp := lif K c P_k54_facts
theorem u_k54_facts {K : PySem.W.Frag} {c : Pc} : SndP K c (sp_k54_facts K c) P_k54_facts := SndP.lif
/-- 0:_law_xx 1:_law_yy 2:_law_quotients 3:_law_four 4:_law_base 5:_law_m 6:_law_n 7:_law_guess 8:_law_p 9:_law_q 10:_law_r 11:_law_s 12:_law_one_here -/
def t_k54_facts (K : PySem.W.Frag) (c : Pc) : TS :=
  (tSeq (tPar 5 6 (tCons (tVar 0) (tCons (tVar 1) tNil)))
  (tSeq (tFor (iList K (tVar 2)) (gName 7) (tSeq (tIfS (tOr (tTest (tOp rEq (tVar 6) (tC (.int 0)))) (tTest (tOp rNe (tOp rDiv (tVar 5) (tVar 6)) (tVar 7)))) (tRet (tC (.bl false))) tNext)
  (tPar 5 6 (tCons (tVar 6) (tCons (tOp rMod (tCB rInt (tCons (tVar 5) tNil)) (tVar 6)) tNil)))))
  (tSeq (tAsg (tVar 3) (gTup K 4 (gCons (gName 8) (gCons (gName 9) (gCons (gName 10) (gCons (gName 11) gNil))))))
  (tSeq (tIfS (tOr (tTest (tOp (rNeD K) (tTup (tCons (tOp rAdd (tOp rMul (tVar 8) (tVar 0)) (tOp rMul (tVar 9) (tVar 1))) (tCons (tOp rAdd (tOp rMul (tVar 10) (tVar 0)) (tOp rMul (tVar 11) (tVar 1))) tNil))) (tTup (tCons (tVar 5) (tCons (tVar 6) tNil))))) (tTest (tOp rNe (tOp rSub (tOp rMul (tVar 8) (tVar 11)) (tOp rMul (tVar 9) (tVar 10))) (tIf (tTest (tOp rEq (tOp rAnd (tCB (rLen K) (tCons (tVar 2) tNil)) (tC (.int 1))) (tC (.int 0)))) (tC (.int 1)) (tUn rNeg (tC (.int 1))))))) (tRet (tC (.bl false))) tNext)
  (tRet (tAndV (tOp rLt (tCB (rMax K) (tCons (tLc (iTup K (tVar 3)) (gName 12) tYes (tCB rAbs (tCons (tVar 12) tNil)) [12]) tNil)) (tVar 4)) (tOrV (tOp (rEqD K) (tVar 2) (tLst tNil)) (tChain rLe rLt (tC (.int 0)) (tVar 6) (tVar 5)))))))))
def b1_k54_facts : PS :=
  (pSeq (pIfS (pOr (pTest (pOp qEq (pVar 6) (pC (.int 0)))) (pTest (pOp qNe (pOp qDiv (pVar 5) (pVar 6)) (pVar 7)))) (pRet (pC (.bl false))) pNext)
  (pPar [5, 6] (pCons (pVar 6) (pCons (pOp qMod (pCB qInt (pCons (pVar 5) pNil)) (pVar 6)) pNil))))
def p_k54_facts : PS :=
  (pSeq (pPar [5, 6] (pCons (pVar 0) (pCons (pVar 1) pNil)))
  (pSeq (pFor (pIL (pVar 2)) (pgName 7) b1_k54_facts)
  (pSeq (pAsgG (pVar 3) (pgTup [8, 9, 10, 11]))
  (pSeq (pIfS (pOr (pTest (pOp qNeD (pTup (pCons (pOp qAdd (pOp qMul (pVar 8) (pVar 0)) (pOp qMul (pVar 9) (pVar 1))) (pCons (pOp qAdd (pOp qMul (pVar 10) (pVar 0)) (pOp qMul (pVar 11) (pVar 1))) pNil))) (pTup (pCons (pVar 5) (pCons (pVar 6) pNil))))) (pTest (pOp qNe (pOp qSub (pOp qMul (pVar 8) (pVar 11)) (pOp qMul (pVar 9) (pVar 10))) (pIf (pTest (pOp qEq (pOp qAnd (pCB qLen (pCons (pVar 2) pNil)) (pC (.int 1))) (pC (.int 0)))) (pC (.int 1)) (pUn qNeg (pC (.int 1))))))) (pRet (pC (.bl false))) pNext)
  (pRet (pAndV (pOp qLt (pCB qMaxL (pCons (pFz (pLc (pIT (pVar 3)) (pgName 12) pYes (pCB qAbs (pCons (pVar 12) pNil)) [12])) pNil)) (pVar 4)) (pOrV (pOp qEqD (pVar 2) (pFz (pLst pNil))) (pChain qLe qLt (pC (.int 0)) (pVar 6) (pVar 5)))))))))
theorem sn_k54_facts {K : PySem.W.Frag} {c : Pc} {α : Prop} (PM : PM K c) (PB : α) : SndS K c (t_k54_facts K c) p_k54_facts :=
  (snd_seq (snd_par (snd_cons snd_var (snd_cons snd_var snd_nil)))
  (snd_seq (snd_for (snd_iList snd_var) snd_gName (snd_seq (snd_ifS (snd_or (snd_test (snd_op s_eq snd_var (snd_int 0))) (snd_test (snd_op s_ne (snd_op s_div snd_var snd_var) snd_var))) (snd_ret (snd_bl false)) snd_next)
  (snd_par (snd_cons snd_var (snd_cons (snd_op s_mod (snd_cb s_int (snd_cons snd_var snd_nil)) snd_var) snd_nil)))))
  (snd_seq (snd_asgG snd_var (snd_gTup (is := [8, 9, 10, 11]) rfl))
  (snd_seq (snd_ifS (snd_or (snd_test (snd_op s_neD (snd_tup (snd_cons (snd_op s_add (snd_op s_mul snd_var snd_var) (snd_op s_mul snd_var snd_var)) (snd_cons (snd_op s_add (snd_op s_mul snd_var snd_var) (snd_op s_mul snd_var snd_var)) snd_nil))) (snd_tup (snd_cons snd_var (snd_cons snd_var snd_nil))))) (snd_test (snd_op s_ne (snd_op s_sub (snd_op s_mul snd_var snd_var) (snd_op s_mul snd_var snd_var)) (snd_if (snd_test (snd_op s_eq (snd_op s_and (snd_cb s_len (snd_cons snd_var snd_nil)) (snd_int 1)) (snd_int 0))) (snd_int 1) (snd_neg (snd_int 1)))))) (snd_ret (snd_bl false)) snd_next)
  (snd_ret (snd_andV (snd_op s_lt (snd_cb s_maxL (snd_cons (snd_fz (snd_lc (snd_iTup snd_var) snd_gName (tgt_name _) snd_yes (snd_cb s_abs (snd_cons snd_var snd_nil)))) snd_nil)) snd_var) (snd_orV (snd_op s_eqD snd_var (snd_fz (snd_lst snd_nil))) (snd_chain s_le s_lt (snd_int 0) snd_var snd_var))))))))
theorem w_k54_facts : ∀ ds w k, P_k54_facts ds w k → p_k54_facts (pen k) (env0 13 ds) w := by
  intro ds w k h
  unfold P_k54_facts at h
  split at h
  · rename_i n n' qs fs bs
    obtain ⟨N, M, b, ⟨rfl, rfl⟩, rfl, ⟨hb1, hb30⟩, hMN, hN, hN6, rfl, rfl, h⟩ := h
    have hz := sizeLine_eq
    obtain ⟨X, Y, hE, hX, hY, _, _⟩ := lhR_ok hb1 hN hMN
    obtain ⟨⟨f1, f2, f3, f4⟩, hdet⟩ := lhF_ok hb1 hN hMN
    generalize (lhR b N M).1 = L at *
    generalize lhF (lhR b N M) = F at *
    obtain ⟨p, q, r, s⟩ := F
    dsimp only at *
    unfold p_k54_facts
    walk_at "pu"
    refine lp_ind (fun t e w' => w' = w ∧ ∃ (x y : Nat) (y7 : Slot), (x ≤ N ∧ y ≤ N) ∧ Euc x y (L.drop t) X Y ∧ e = [.val (.int (N : Int)), .val (.int (M : Int)), .val (.lst (L.map fun (z : Nat) => .int (z : Int))), .val (.tup [.int p, .int q, .int r, .int s]), .val (.int ((2 ^ b : Nat) : Int)), .val (.int (x : Int)), .val (.int (y : Int)), y7, .no, .no, .no, .no, .no]) ⟨rfl, N, M, _, ⟨Nat.le_refl _, hMN⟩, hE, rfl⟩ ?_ ?_
    · rintro t d e w' nx hd ⟨rfl, x, y, y7, ⟨hxN, hyN⟩, hEt, rfl⟩ hn
      obtain ⟨g, hg, rfl⟩ : ∃ g, L[t]? = some g ∧ d = .int (g : Int) := by
        rw [List.getElem?_map] at hd
        cases hq : L[t]? with
        | none => rw [hq] at hd; cases hd
        | some g => rw [hq] at hd; cases hd; exact ⟨g, rfl, rfl⟩
      have hdrop : L.drop t = g :: L.drop (t + 1) := by
        rw [List.drop_eq_getElem_cons (List.getElem?_eq_some_iff.mp hg).1, (List.getElem?_eq_some_iff.mp hg).2]
      rw [hdrop] at hEt
      obtain ⟨h1, h2, h3⟩ := hEt
      have hy8 : (y : Int).natAbs < 2 ^ 8000 := Nat.lt_of_le_of_lt hyN hN6
      have hml : x % y < y := Nat.mod_lt _ (by clear hN6 hy8; omega)
      unfold b1_k54_facts
      walk_at "pu"
      rw [if_neg (by clear hN6 hy8; omega)]
      refine ⟨div_ok (k := 8000) (by clear hN6 hy8; omega) hy8 (by decide) (by decide), ?_⟩
      clear hN6 hy8
      rw [← Int.natCast_ediv, h2, if_neg (fun z => z rfl)]
      refine ⟨by omega, ?_⟩
      rw [← Int.natCast_emod]
      exact hn _ _ ⟨rfl, y, x % y, _, ⟨hyN, by omega⟩, h3, rfl⟩
    · rintro e w' ⟨rfl, x, y, y7, _, hEt, rfl⟩
      rw [List.length_map, List.drop_length] at hEt
      obtain ⟨rfl, rfl⟩ := hEt
      walk_at "pu"
      have hpb : 2 ^ b ≤ 2 ^ 30 := Nat.pow_le_pow_right (by decide) hb30
      clear hN6
      have ok : ∀ u v : Int, u.natAbs < 2 ^ b → IntMulOk u v := fun u v hu => mul_okL (by omega) (by omega)
      refine ⟨ok _ _ f1, ok _ _ f2, ok _ _ f3, ok _ _ f4, by omega, by omega, ⟨rfl, rfl⟩, fun t4 e4 _ => ?_⟩
      rw [e4 (by rw [hX, hY]), if_neg (by decide)]
      refine ⟨ok _ _ f1, ok _ _ f2, ?_⟩
      rw [List.length_map]
      have fin : lcp (pgName 12) pYes (pCB qAbs (pCons (pVar 12) pNil)) [12]
          (fun ds e w => qMaxL [Dat.lst ds] fun z => vOf e[4]? fun d => qLt z d fun z => isB z fun c => if c = true then vOf e[2]? fun d => 0 ≤ sizeLine ∧ (pl d ∧ pl (Dat.lst [])) ∧ ∀ (b : Bool), (d = Dat.lst [] → b = true) → (d ≠ Dat.lst [] → nbF 9 d = true → nbF 9 (Dat.lst []) = true → b = false) →
            if b = true then k (Dat.bl true) w else vOf e[6]? fun d => qLe (Dat.int 0) d fun z => isB z fun t => if t = true then vOf e[5]? fun d_1 => qLt d d_1 fun z => k z w else k (Dat.bl false) w else k (Dat.bl false) w)
          [Dat.int p, Dat.int q, Dat.int r, Dat.int s] [] [Slot.val (Dat.int (N : Int)), Slot.val (Dat.int (M : Int)), Slot.val (Dat.lst (L.map fun (z : Nat) => .int (z : Int))), Slot.val (Dat.tup [Dat.int p, Dat.int q, Dat.int r, Dat.int s]), Slot.val (Dat.int ((2 ^ b : Nat) : Int)), Slot.val (Dat.int (X : Int)), Slot.val (Dat.int (Y : Int)), y7, Slot.val (Dat.int p), Slot.val (Dat.int q), Slot.val (Dat.int r), Slot.val (Dat.int s), Slot.no] w' := by
        rw [lcp_cons]
        walk_at "pu"
        refine ⟨by omega, ?_⟩
        rw [lcp_cons]
        walk_at "pu"
        refine ⟨by omega, ?_⟩
        rw [lcp_cons]
        walk_at "pu"
        refine ⟨by omega, ?_⟩
        rw [lcp_cons]
        walk_at "pu"
        refine ⟨by omega, ?_⟩
        rw [lcp_nil]
        have ea : ∀ z : Int, (if z < 0 then -z else z) = (z.natAbs : Int) := fun z => by split <;> omega
        rw [ea, ea, ea, ea, eMaxL]
        obtain ⟨mx, hm1, hm2⟩ := max4 (p.natAbs : Int) (q.natAbs : Int) (r.natAbs : Int) (s.natAbs : Int)
        refine ⟨[(p.natAbs : Int), (q.natAbs : Int), (r.natAbs : Int), (s.natAbs : Int)], mx, rfl, hm1, hm2, ?_⟩
        have hmx : mx < ((2 ^ b : Nat) : Int) := by
          simp only [List.mem_cons, List.not_mem_nil, or_false] at hm1
          omega
        walk_at "pu"
        rw [if_pos hmx]
        refine ⟨by omega, ⟨pl_natsG L, rfl⟩, fun t5 e5 e6 => ?_⟩
        by_cases hL : L = []
        · rw [e5 (by rw [hL]; rfl), if_pos rfl]
          exact h
        · rw [e6 (fun c => hL (by
            have c := Dat.lst.inj c
            exact List.map_eq_nil_iff.mp c)) (nb_natsG L 7) rfl, if_neg (by decide)]
          obtain ⟨_, l1, l2, l3⟩ := hE.le.resolve_left (fun c => hL c.1)
          walk_at "pu"
          rw [if_pos (by omega), decide_eq_true (by omega)]
          exact h
      by_cases z : L.length % 2 = 0
      · rw [if_pos ((and_1 _).mpr z)]
        rw [if_pos z] at hdet
        rw [if_neg (fun c => c hdet)]
        exact fin
      · rw [if_neg (fun c => z ((and_1 _).mp c))]
        rw [if_neg z] at hdet
        rw [if_neg (fun c => c hdet)]
        exact fin
  · exact h.elim
theorem b_k54_facts {K : PySem.W.Frag} {c : Pc} {vs : List V} {H : Hp} {Q : VK} {E : XK} {α : Prop} (PM : PM K c) (PB : α) (h : sp_k54_facts K c vs H Q E) : t_k54_facts K c (en0 Q) (st0 13 vs) H := def_ok (sn_k54_facts PM PB) w_k54_facts h
def P_k54_pair : PSp := fun ds w k => match ds with
  | [.src j, .int wd] => ∃ b : Nat, wd = (b : Int) ∧ j < w.ss ∧ (8 ≤ b ∧ b ≤ 30) ∧ ∀ N M : Nat, M ≤ N → 3 ≤ (digs b N).length → (digs b N).length ≤ 20 → k (.tup [.int (N : Int), .int (M : Int)]) w
  | _ => False
theorem n_k54_pair : ∀ ds w k, P_k54_pair ds w k → ds.length = 2 := fun ds w k h => by
  unfold P_k54_pair at h
  split at h
  · rfl
  · exact h.elim
theorem e_k54_pair {j : Nat} {wd : Int} {w : Wld} {k : Dat → Wld → Prop} : P_k54_pair [.src j, .int wd] w k = (∃ b : Nat, wd = (b : Int) ∧ j < w.ss ∧ (8 ≤ b ∧ b ≤ 30) ∧ ∀ N M : Nat, M ≤ N → 3 ≤ (digs b N).length → (digs b N).length ≤ 20 → k (.tup [.int (N : Int), .int (M : Int)]) w) := rfl
def sp_k54_pair (K : PySem.W.Frag) (c : Pc) : Sp := lif K c P_k54_pair
theorem u_k54_pair {K : PySem.W.Frag} {c : Pc} : SndP K c (sp_k54_pair K c) P_k54_pair := SndP.lif
/-- 0:_law_source_here 1:_law_width 2:_law_size_here 3:_law_xx 4:_law_some 5:_law_yy -/
def t_k54_pair (K : PySem.W.Frag) (c : Pc) : TS :=
  (tSeq (tAsg (tOp rAdd (tC (.int 3)) (tCall (sp_x_draw K c) [] E0 (tCons (tVar 0) (tCons (tC (.int 6)) tNil)))) (gName 2))
  (tSeq (tAsg (tCall (sp_x_count K c) [] E0 (tCons (tVar 0) (tCons (tVar 1) (tCons (tVar 2) tNil)))) (gName 3))
  (tSeq (tAsg (tLst (tCons (tVar 3) (tCons (tOp rSub (tVar 3) (tCall (sp_x_draw K c) [] E0 (tCons (tVar 0) (tCons (tOp rShl (tC (.int 1)) (tC (.int 30))) tNil)))) (tCons (tOp rDiv (tVar 3) (tOp rAdd (tC (.int 2)) (tCall (sp_x_draw K c) [] E0 (tCons (tVar 0) (tCons (tC (.int 9)) tNil))))) (tCons (tCall (sp_x_number K c) [] E0 (tCons (tVar 0) (tCons (tVar 1) (tCons (tVar 2) tNil)))) (tCons (tC (.int 0)) tNil)))))) (gName 4))
  (tSeq (tAsg (tCB rAbs (tCons (tCall (sp_x_one K c) [] E0 (tCons (tVar 0) (tCons (tOp rCat (tVar 4) (tLst (tCons (tOp rShr (tVar 3) (tCall (sp_x_draw K c) [] E0 (tCons (tVar 0) (tCons (tVar 1) tNil)))) (tCons (tOp rSub (tVar 3) (tC (.int 1))) tNil)))) tNil))) tNil)) (gName 5))
  (tRet (tIf (tTest (tOp rLe (tVar 5) (tVar 3))) (tTup (tCons (tVar 3) (tCons (tVar 5) tNil))) (tIf (tTest (tOp rGt (tCall (sp_y_size K c) [] E0 (tCons (tVar 3) (tCons (tVar 1) tNil))) (tC (.int 2)))) (tTup (tCons (tVar 5) (tCons (tVar 3) tNil))) (tTup (tCons (tVar 3) (tCons (tC (.int 0)) tNil))))))))))
def p_k54_pair : PS :=
  (pSeq (pAsg (pOp qAdd (pC (.int 3)) (pCall P_x_draw (pCons (pVar 0) (pCons (pC (.int 6)) pNil)))) 2)
  (pSeq (pAsg (pCall P_x_count (pCons (pVar 0) (pCons (pVar 1) (pCons (pVar 2) pNil)))) 3)
  (pSeq (pAsg (pFz (pLst (pCons (pVar 3) (pCons (pOp qSub (pVar 3) (pCall P_x_draw (pCons (pVar 0) (pCons (pOp qShl (pC (.int 1)) (pC (.int 30))) pNil)))) (pCons (pOp qDiv (pVar 3) (pOp qAdd (pC (.int 2)) (pCall P_x_draw (pCons (pVar 0) (pCons (pC (.int 9)) pNil))))) (pCons (pCall P_x_number (pCons (pVar 0) (pCons (pVar 1) (pCons (pVar 2) pNil)))) (pCons (pC (.int 0)) pNil))))))) 4)
  (pSeq (pAsg (pCB qAbs (pCons (pCall P_x_one (pCons (pVar 0) (pCons (pFz (pOpF qCat (pVar 4) (pFz (pLst (pCons (pOp qShr (pVar 3) (pCall P_x_draw (pCons (pVar 0) (pCons (pVar 1) pNil)))) (pCons (pOp qSub (pVar 3) (pC (.int 1))) pNil)))))) pNil))) pNil)) 5)
  (pRet (pIf (pTest (pOp qLe (pVar 5) (pVar 3))) (pTup (pCons (pVar 3) (pCons (pVar 5) pNil))) (pIf (pTest (pOp qGt (pCall P_y_size (pCons (pVar 3) (pCons (pVar 1) pNil))) (pC (.int 2)))) (pTup (pCons (pVar 5) (pCons (pVar 3) pNil))) (pTup (pCons (pVar 3) (pCons (pC (.int 0)) pNil))))))))))
theorem sn_k54_pair {K : PySem.W.Frag} {c : Pc} {α : Prop} (PM : PM K c) (PB : α) : SndS K c (t_k54_pair K c) p_k54_pair :=
  (snd_seq (snd_asg (snd_op s_add (snd_int 3) (snd_call u_x_draw (snd_cons snd_var (snd_cons (snd_int 6) snd_nil)))))
  (snd_seq (snd_asg (snd_call u_x_count (snd_cons snd_var (snd_cons snd_var (snd_cons snd_var snd_nil)))))
  (snd_seq (snd_asg (snd_fz (snd_lst (snd_cons snd_var (snd_cons (snd_op s_sub snd_var (snd_call u_x_draw (snd_cons snd_var (snd_cons (snd_op s_shl (snd_int 1) (snd_int 30)) snd_nil)))) (snd_cons (snd_op s_div snd_var (snd_op s_add (snd_int 2) (snd_call u_x_draw (snd_cons snd_var (snd_cons (snd_int 9) snd_nil))))) (snd_cons (snd_call u_x_number (snd_cons snd_var (snd_cons snd_var (snd_cons snd_var snd_nil)))) (snd_cons (snd_int 0) snd_nil))))))))
  (snd_seq (snd_asg (snd_cb s_abs (snd_cons (snd_call u_x_one (snd_cons snd_var (snd_cons (snd_fz (snd_opF s_cat snd_var (snd_fz (snd_lst (snd_cons (snd_op s_shr snd_var (snd_call u_x_draw (snd_cons snd_var (snd_cons snd_var snd_nil)))) (snd_cons (snd_op s_sub snd_var (snd_int 1)) snd_nil)))))) snd_nil))) snd_nil)))
  (snd_ret (snd_if (snd_test (snd_op s_le snd_var snd_var)) (snd_tup (snd_cons snd_var (snd_cons snd_var snd_nil))) (snd_if (snd_test (snd_op s_gt (snd_call u_y_size (snd_cons snd_var (snd_cons snd_var snd_nil))) (snd_int 2))) (snd_tup (snd_cons snd_var (snd_cons snd_var snd_nil))) (snd_tup (snd_cons snd_var (snd_cons (snd_int 0) snd_nil))))))))))
theorem w_k54_pair : ∀ ds w k, P_k54_pair ds w k → p_k54_pair (pen k) (env0 6 ds) w := by
  intro ds w k h
  unfold P_k54_pair at h
  split at h
  · rename_i j wd
    obtain ⟨b, rfl, hj, ⟨hb1, hb2⟩, h⟩ := h
    have hz := sizeLine_eq
    unfold p_k54_pair
    walk_at "pu"
    rw [e_x_draw]
    refine ⟨hj, nxOk (by decide) (by decide), fun r hr0 hr => ?_⟩
    walk_at "pu"
    obtain ⟨s, hs⟩ : ∃ s : Nat, 3 + r = (s : Int) := ⟨(3 + r).toNat, by omega⟩
    have hs3 : 3 ≤ s ∧ s ≤ 8 := by omega
    rw [hs]
    rw [e_x_count]
    refine ⟨b, s, rfl, rfl, hj, ⟨hb1, hb2⟩, by omega, fun x hx => ?_⟩
    show qShl (Dat.int 1) (Dat.int ((30 : Nat) : Int)) _
    rw [shl1X (b := 30) (by omega), e_x_draw]
    refine ⟨hj, nxOk (by decide) (by decide), fun r2 hr2 hr3 => ?_⟩
    walk_at "pu"
    rw [e_x_draw]
    refine ⟨hj, nxOk (by decide) (by decide), fun r4 hr4 hr5 => ?_⟩
    walk_at "pu"
    refine ⟨div_ok64 (by omega) (by omega), ?_⟩
    rw [e_x_number]
    refine ⟨b, s, rfl, rfl, hj, ⟨hb1, hb2⟩, by omega, fun y hy => ?_⟩
    rw [e_x_draw]
    refine ⟨by omega, hj, nxOk (by omega) (by omega), fun r6 hr6 hr7 => ?_⟩
    walk_at "pu"
    refine ⟨by omega, by omega, by omega, ?_⟩
    rw [e_x_one]
    refine ⟨hj, ⟨by simp, by simp⟩, fun d hd => ?_⟩
    have hx16 : 2 ^ 16 ≤ x := Nat.le_trans (Nat.pow_le_pow_right (by decide) (by omega : 16 ≤ 2 * b)) (pow_ge_of_len (by omega) (by omega))
    have lx := lt_digsX (b := b) (by omega) (show (digs b x).length ≤ 8 by omega)
    obtain ⟨u, rfl, hu⟩ : ∃ u : Int, d = .int u ∧ (digs b u.natAbs).length ≤ 12 := by
      have small : ∀ u : Int, u.natAbs ≤ x + 2 ^ 30 → (digs b u.natAbs).length ≤ 12 := fun u hu => by
        refine digs_length_le (by omega) _ ?_
        have h1 : 2 ^ (b * 8) + 2 ^ (b * 8) ≤ 2 ^ (b * 12) := by
          have := Nat.pow_le_pow_right (n := 2) (by decide) (show b * 8 + 1 ≤ b * 12 by omega)
          rw [Nat.pow_succ] at this
          omega
        have h2 : 2 ^ 30 ≤ 2 ^ (b * 8) := Nat.pow_le_pow_right (by decide) (by omega)
        omega
      simp only [List.mem_cons, List.not_mem_nil, or_false] at hd
      rcases hd with rfl | rfl | rfl | rfl | rfl | rfl | rfl
      · exact ⟨_, rfl, small _ (by omega)⟩
      · exact ⟨_, rfl, small _ (by omega)⟩
      · exact ⟨_, rfl, small _ (by
          have h1 : 0 ≤ (x : Int) / (2 + r4) := Int.ediv_nonneg (by omega) (by omega)
          have h2 : (x : Int) / (2 + r4) ≤ x := Int.ediv_le_self _ (by omega)
          omega)⟩
      · exact ⟨_, rfl, by omega⟩
      · exact ⟨_, rfl, small _ (by omega)⟩
      · exact ⟨_, rfl, small _ (by
          have h1 : 0 ≤ (x : Int) / 2 ^ r6.toNat := Int.ediv_nonneg (by omega) (Int.le_of_lt (Int.pow_pos (by decide)))
          have h2 : (x : Int) / 2 ^ r6.toNat ≤ x := Int.ediv_le_self _ (by omega)
          omega)⟩
      · exact ⟨_, rfl, small _ (by omega)⟩
    walk_at "pu"
    rw [show (if u < 0 then -u else u) = (u.natAbs : Int) by split <;> omega]
    refine ite_2 (fun c => ?_) fun c => ?_
    · exact ⟨by omega, h x u.natAbs (by omega) (by omega) (by omega)⟩
    · rw [e_y_size]
      refine ⟨b, rfl, ⟨by omega, hb2⟩, ?_⟩
      walk_at "pu"
      have eX : ((x : Int)).natAbs = x := rfl
      rw [eX, if_pos (by omega)]
      have := digs_len_mono (b := b) (by omega) (show x ≤ u.natAbs by omega)
      exact ⟨by omega, h u.natAbs x (by omega) (by omega) (by omega)⟩
  · exact h.elim
theorem b_k54_pair {K : PySem.W.Frag} {c : Pc} {vs : List V} {H : Hp} {Q : VK} {E : XK} {α : Prop} (PM : PM K c) (PB : α) (h : sp_k54_pair K c vs H Q E) : t_k54_pair K c (en0 Q) (st0 6 vs) H := def_ok (sn_k54_pair PM PB) w_k54_pair h
theorem Euc.len : ∀ (k : Nat) {L : List Nat} {X Y X' Y' : Nat}, Euc X Y L X' Y' → Y < 2 ^ k → L.length ≤ 2 * k
  | 0, [], _, _, _, _, _, _ => Nat.le_refl _
  | 0, q :: L, X, Y, _, _, h, hY => absurd (by rw [Nat.pow_zero] at hY; omega) h.1
  | k + 1, [], _, _, _, _, _, _ => Nat.zero_le _
  | k + 1, [q], _, _, _, _, _, _ => by simp only [List.length_cons, List.length_nil]; omega
  | k + 1, q :: q2 :: L, X, Y, X', Y', h, hY => by
    obtain ⟨h0, _, h1, _, h2⟩ := h
    have hl := Nat.mod_lt X (Nat.pos_of_ne_zero h0)
    generalize X % Y = r at *
    have h3 : Y % r < 2 ^ k := by
      have e := Nat.div_add_mod Y r
      have l := Nat.mod_lt Y (Nat.pos_of_ne_zero h1)
      have q : 1 ≤ Y / r := (Nat.le_div_iff_mul_le (Nat.pos_of_ne_zero h1)).mpr (by omega)
      have := Nat.mul_le_mul_left r q
      rw [Nat.pow_succ] at hY
      omega
    have := Euc.len k h2 h3
    simp only [List.length_cons]
    omega
/-- the pairs that are not 0 -/
def nzP (l : List (Str × Int)) : List (Str × Int) := l.filter fun p => !decide (p.2 = 0)
theorem lcp_nz {x : Nat} {K : List Dat → Pu.Env → Wld → Prop} : ∀ (prs : List (Str × Int)) (acc : List Dat) (e : Pu.Env) (w : Wld), e[x]? = some .no → prs.length + acc.length ≤ 100 → K (acc ++ (nzP prs).map dP) e w →
    lcp (pgName x) (pTest (pOp qNe (pOp qIxT (pVar x) (pC (.int 1))) (pC (.int 0)))) (pVar x) [x] K (prs.map dP) acc e w
  | [], acc, e, w, _, _, h => by
    rw [show nzP [] = [] from rfl, List.map_nil, List.append_nil] at h
    exact h
  | (s, n) :: prs, acc, e, w, he, hl, h => by
    have hz := sizeLine_eq
    have hx := (List.getElem?_eq_some_iff.mp he).1
    have hw : ∀ d : Dat, wip (e.set x (.val d)) [x] = e := fun d => by
      show (e.set x (.val d)).set x .no = e
      rw [List.set_set]
      obtain ⟨h1, h2⟩ := List.getElem?_eq_some_iff.mp he
      rw [← h2]; exact List.set_getElem_self h1
    rw [List.length_cons] at hl
    rw [List.map_cons, lcp_cons]
    show (pTest (pOp qNe (pOp qIxT (pVar x) (pC (.int 1))) (pC (.int 0)))) (e.set x (.val (dP (s, n)))) w _
    have hv : (e.set x (.val (dP (s, n))))[x]? = some (.val (dP (s, n))) := List.getElem?_set_self hx
    unfold pTest pOp
    simp only [pC, eVar, hv, eVal]
    unfold dP
    walk_at "pu"
    have hw2 : (e.set x (.val (.tup [.str s, .int n]))).set x .no = e := hw _
    by_cases hn : n = 0
    · rw [if_neg (fun z => z hn)]
      have e1 : nzP ((s, n) :: prs) = nzP prs := by
        unfold nzP
        rw [List.filter_cons, if_neg (by simp [hn])]
      rw [e1] at h
      try rw [hw2]
      exact lcp_nz prs acc e w he (by omega) h
    · rw [if_pos hn]
      have e1 : nzP ((s, n) :: prs) = (s, n) :: nzP prs := by
        unfold nzP
        rw [List.filter_cons, if_pos (by simp [hn])]
      rw [e1, List.map_cons] at h
      have hv2 : (e.set x (.val (.tup [.str s, .int n])))[x]? = some (.val (.tup [.str s, .int n])) := hv
      try simp only [hv2, eVal]
      try rw [hw2]
      refine ⟨by omega, lcp_nz prs _ e w he (by rw [List.length_append]; simp only [List.length_cons, List.length_nil]; omega) ?_⟩
      rw [List.append_assoc]
      exact h
def P_k54_right : PSp := fun ds w k => match ds with
  | [.mach i, .int n, .int n', .int wd] => w.os = [] ∧ onM w i fun m => ∃ (N M : Nat) (b : Nat) (cut : Int), (n = (N : Int) ∧ n' = (M : Int)) ∧ wd = (b : Int) ∧ m = ⟨b, cut, zeros, []⟩ ∧ (8 ≤ b ∧ b ≤ 30) ∧ M ≤ N ∧ (3 ≤ (digs b N).length ∧ (digs b N).length ≤ 200) ∧ k (.bl true) w
  | _ => False
theorem n_k54_right : ∀ ds w k, P_k54_right ds w k → ds.length = 4 := fun ds w k h => by
  unfold P_k54_right at h
  split at h
  · rfl
  · exact h.elim
theorem e_k54_right {i : Nat} {n n' wd : Int} {w : Wld} {k : Dat → Wld → Prop} : P_k54_right [.mach i, .int n, .int n', .int wd] w k = (w.os = [] ∧ onM w i fun m => ∃ (N M : Nat) (b : Nat) (cut : Int), (n = (N : Int) ∧ n' = (M : Int)) ∧ wd = (b : Int) ∧ m = ⟨b, cut, zeros, []⟩ ∧ (8 ≤ b ∧ b ≤ 30) ∧ M ≤ N ∧ (3 ≤ (digs b N).length ∧ (digs b N).length ≤ 200) ∧ k (.bl true) w) := rfl
def sp_k54_right (K : PySem.W.Frag) (c : Pc) : Sp := lif K c P_k54_right
theorem u_k54_right {K : PySem.W.Frag} {c : Pc} : SndP K c (sp_k54_right K c) P_k54_right := SndP.lif
/-- 0:_law_engine 1:_law_xx 2:_law_yy 3:_law_width 4:_law_held 5:_law_quotients 6:_law_four 7:_law_asked 8:_law_row -/
def t_k54_right (K : PySem.W.Frag) (c : Pc) : TS :=
  (tSeq (tAsg (tCall (sp_g_lehmer K c) [] E0 (tCons (tVar 0) (tCons (tCall (sp_big K c) [] E0 (tCons (tVar 0) (tCons (tVar 1) tNil))) (tCons (tCall (sp_big K c) [] E0 (tCons (tVar 0) (tCons (tVar 2) tNil))) tNil)))) (gName 4))
  (tSeq (tAsg (tCall (sp_k54_step K c) [] E0 (tCons (tVar 1) (tCons (tVar 2) (tCons (tVar 3) tNil)))) (gTup K 3 (gCons (gName 5) (gCons (gName 6) (gCons (gName 7) gNil)))))
  (tSeq (tIfS (tOr (tTest (tOp (rNeD K) (tVar 4) (tTup (tCons (tVar 5) (tCons (tVar 6) tNil))))) (tOr (tNot (L2.tB (tCB (rIsi K) (tCons (tOp (rIxT K) (tVar 4) (tC (.int 0))) (tCons (tC (.ty "list")) tNil))))) (tTest (tOp (rNeD K) (tMeth c.CMachine "walk" (sp_Machine_walk K c) [] E0 (tVar 0) tNil) (tLst tNil))))) (tRet (tC (.bl false))) tNext)
  (tSeq (tIfS (tTest (tOp (rNeD K) (tLc (iList K (tMeth c.CMachine "tally" (sp_Machine_tally K c) [] E0 (tVar 0) tNil)) (gName 8) (tTest (tOp rNe (tOp (rIxT K) (tVar 8) (tC (.int 1))) (tC (.int 0)))) (tVar 8) [8]) (tOp rRep (tLst (tCons (tTup (tCons (tC (.str "quotient")) (tCons (tVar 7) tNil))) tNil)) (tCB rInt (tCons (tOp rGt (tVar 7) (tC (.int 0))) tNil))))) (tRet (tC (.bl false))) tNext)
  (tSeq (tDrop (tMeth c.CMachine "reset" (sp_Machine_reset K c) [] E0 (tVar 0) tNil))
  (tSeq (tDrop (tBM K "list" rAppend (tOp (rIxT K) (tVar 4) (tC (.int 0))) (tCons (tC .non) tNil)))
  (tSeq (tIfS (tTest (tOp (rNeD K) (tKw 3 (sp_g_lehmer K c) (perm [2, 1, 0]) E0 (tCons (tCall (sp_big K c) [] E0 (tCons (tVar 0) (tCons (tVar 2) tNil))) (tCons (tCall (sp_big K c) [] E0 (tCons (tVar 0) (tCons (tVar 1) tNil))) (tCons (tVar 0) tNil)))) (tTup (tCons (tVar 5) (tCons (tVar 6) tNil))))) (tRet (tC (.bl false))) tNext)
  (tSeq (tDrop (tMeth c.CMachine "reset" (sp_Machine_reset K c) [] E0 (tVar 0) tNil))
  (tRet (tCall (sp_k54_facts K c) [] E0 (tCons (tVar 1) (tCons (tVar 2) (tCons (tVar 5) (tCons (tVar 6) (tCons (tOp rShl (tC (.int 1)) (tVar 3)) tNil)))))))))))))))
def r8_k54_right : PS :=
  (pRet (pCall P_k54_facts (pCons (pVar 1) (pCons (pVar 2) (pCons (pVar 5) (pCons (pVar 6) (pCons (pOp qShl (pC (.int 1)) (pVar 3)) pNil)))))))
def r7_k54_right : PS :=
  (pSeq (pDrop (pMethM P_Machine_reset (pVar 0) pNil))
  r8_k54_right)
def r6_k54_right : PS :=
  (pSeq (pIfS (pTest (pOp qNeD (pKw 3 P_g_lehmer [2, 1, 0] (pCons (pCall P_big (pCons (pVar 0) (pCons (pVar 2) pNil))) (pCons (pCall P_big (pCons (pVar 0) (pCons (pVar 1) pNil))) (pCons (pVar 0) pNil)))) (pTup (pCons (pVar 5) (pCons (pVar 6) pNil))))) (pRet (pC (.bl false))) pNext)
  r7_k54_right)
def r5_k54_right : PS :=
  (pSeq (pAppT 4 (pC .non))
  r6_k54_right)
def r4_k54_right : PS :=
  (pSeq (pDrop (pMethM P_Machine_reset (pVar 0) pNil))
  r5_k54_right)
def r3_k54_right : PS :=
  (pSeq (pIfS (pTest (pOp qNeD (pFz (pLc (pIL (pMethM P_Machine_tally (pVar 0) pNil)) (pgName 8) (pTest (pOp qNe (pOp qIxT (pVar 8) (pC (.int 1))) (pC (.int 0)))) (pVar 8) [8])) (pFz (pOpF qRep (pFz (pLst (pCons (pTup (pCons (pC (.str "quotient")) (pCons (pVar 7) pNil))) pNil))) (pCB qInt (pCons (pOp qGt (pVar 7) (pC (.int 0))) pNil)))))) (pRet (pC (.bl false))) pNext)
  r4_k54_right)
def r2_k54_right : PS :=
  (pSeq (pIfS (pBorT 4 (pOr (pTest (pOp qNeD (pVar 4) (pTup (pCons (pVar 5) (pCons (pVar 6) pNil))))) (pOr (pNot (pTest (pCB qIsi (pCons (pOp qIxT (pVar 4) (pC (.int 0))) (pCons (pC (.opq (.ty "list"))) pNil))))) (pTest (pOp qNeD (pMethM P_Machine_walk (pVar 0) pNil) (pFz (pLst pNil))))))) (pRet (pC (.bl false))) pNext)
  r3_k54_right)
def r1_k54_right : PS :=
  (pSeq (pAsgG (pCall P_k54_step (pCons (pVar 1) (pCons (pVar 2) (pCons (pVar 3) pNil)))) (pgTup [5, 6, 7]))
  r2_k54_right)
def p_k54_right : PS :=
  (pSeq (pAsgT P_g_lehmer (pCons (pVar 0) (pCons (pCall P_big (pCons (pVar 0) (pCons (pVar 1) pNil))) (pCons (pCall P_big (pCons (pVar 0) (pCons (pVar 2) pNil))) pNil))) 4)
  r1_k54_right)
theorem sn_k54_right {K : PySem.W.Frag} {c : Pc} {α : Prop} (PM : PM K c) (PB : α) : SndS K c (t_k54_right K c) p_k54_right :=
  (snd_seq (snd_asgT us_g_lehmer (snd_cons snd_var (snd_cons (snd_call u_big (snd_cons snd_var (snd_cons snd_var snd_nil))) (snd_cons (snd_call u_big (snd_cons snd_var (snd_cons snd_var snd_nil))) snd_nil))))
  (snd_seq (snd_asgG (snd_call u_k54_step (snd_cons snd_var (snd_cons snd_var (snd_cons snd_var snd_nil)))) (snd_gTup (is := [5, 6, 7]) rfl))
  (snd_seq (snd_ifS (snd_borT (snd_or (snd_test (snd_op s_neD snd_var (snd_tup (snd_cons snd_var (snd_cons snd_var snd_nil))))) (snd_or (snd_not (snd_tB (snd_cb s_isi (snd_cons (snd_op s_ixT snd_var (snd_int 0)) (snd_cons (snd_opq (.ty "list")) snd_nil))))) (snd_test (snd_op s_neD (snd_methM (by decide) u_Machine_walk snd_var snd_nil) (snd_fz (snd_lst snd_nil))))))) (snd_ret (snd_bl false)) snd_next)
  (snd_seq (snd_ifS (snd_test (snd_op s_neD (snd_fz (snd_lc (snd_iList (snd_methM (by decide) u_Machine_tally snd_var snd_nil)) snd_gName (tgt_name _) (snd_test (snd_op s_ne (snd_op s_ixT snd_var (snd_int 1)) (snd_int 0))) snd_var)) (snd_fz (snd_opF s_rep (snd_fz (snd_lst (snd_cons (snd_tup (snd_cons (snd_str "quotient") (snd_cons snd_var snd_nil))) snd_nil))) (snd_cb s_int (snd_cons (snd_op s_gt snd_var (snd_int 0)) snd_nil)))))) (snd_ret (snd_bl false)) snd_next)
  (snd_seq (snd_drop (snd_methM (by decide) u_Machine_reset snd_var snd_nil))
  (snd_seq (snd_appT snd_non)
  (snd_seq (snd_ifS (snd_test (snd_op s_neD (snd_kw u_g_lehmer (snd_cons (snd_call u_big (snd_cons snd_var (snd_cons snd_var snd_nil))) (snd_cons (snd_call u_big (snd_cons snd_var (snd_cons snd_var snd_nil))) (snd_cons snd_var snd_nil)))) (snd_tup (snd_cons snd_var (snd_cons snd_var snd_nil))))) (snd_ret (snd_bl false)) snd_next)
  (snd_seq (snd_drop (snd_methM (by decide) u_Machine_reset snd_var snd_nil))
  (snd_ret (snd_call u_k54_facts (snd_cons snd_var (snd_cons snd_var (snd_cons snd_var (snd_cons snd_var (snd_cons (snd_op s_shl (snd_int 1) snd_var) snd_nil)))))))))))))))
theorem w_k54_right : ∀ ds w k, P_k54_right ds w k → p_k54_right (pen k) (env0 9 ds) w := by
  intro ds w k h
  unfold P_k54_right at h
  split at h
  · rename_i i n n' wd
    obtain ⟨hos, h⟩ := h
    replace h := onM_of h
    obtain ⟨m, hm, N, M, b, cut, ⟨rfl, rfl⟩, rfl, hm0, ⟨hb1, hb2⟩, hMN, ⟨hl1, hl2⟩, h⟩ := h
    rw [hm0] at hm
    have hz := sizeLine_eq
    unfold p_k54_right
    walk_at "pu"
    have eN : ((N : Int)).natAbs = N := rfl
    have eM : ((M : Int)).natAbs = M := rfl
    have lM : (digs b M).length ≤ (digs b N).length := digs_len_mono (by omega) hMN
    simp only [onM_is hm]
    rw [eN, eM]
    refine ⟨by omega, by omega, by omega, by omega, ?_⟩
    have leh : ∀ (K : Dat → Wld → Prop), K (.tup [.lst ((lhR b N M).1.map fun (z : Nat) => .int (z : Int)), .tup [.int (lhF (lhR b N M)).1, .int (lhF (lhR b N M)).2.1, .int (lhF (lhR b N M)).2.2.1, .int (lhF (lhR b N M)).2.2.2]]) (w.put i ((⟨b, cut, zeros, []⟩ : Mach).cnt 3 ((lhR b N M).2.2 : Nat))) → P_g_lehmer [.mach i, .big b (N : Int), .big b (M : Int)] w K := fun K hK => by
      rw [e_g_lehmer, onM_is hm]
      exact ⟨N, M, ⟨rfl, rfl⟩, ⟨rfl, rfl⟩, ⟨by show 1 ≤ b; omega, hb2⟩, hMN, ⟨hl1, by show (digs b N).length ≤ _; omega⟩, hK⟩
    refine leh _ ?_
    walk_at "pu"
    unfold r1_k54_right
    walk_at "pu"
    rw [e_k54_step]
    have hN2 := pow_ge_of_len (b := b) (N := N) (by omega) hl1
    refine ⟨N, M, b, ⟨rfl, rfl⟩, rfl, ⟨by omega, hb2⟩, hMN, hN2, ?_⟩
    walk_at "pu"
    unfold r2_k54_right
    walk_at "pu"
    have f1 := lhF_ok (b := b) (by omega) hN2 hMN
    have hbb : (⟨b, cut, zeros, []⟩ : Mach).b = b := rfl
    obtain ⟨L, F, cn, hL, hF, hcn⟩ : ∃ L F cn, L = (lhR b N M).1 ∧ F = lhF (lhR b N M) ∧ cn = (lhR b N M).2.2 := ⟨_, _, _, rfl, rfl, rfl⟩
    rw [← hL, ← hF, ← hcn]
    rw [← hL, ← hF, ← hcn] at leh
    have hpl : pl (Dat.tup [Dat.lst (L.map fun (z : Nat) => Dat.int (z : Int)), Dat.tup [Dat.int F.1, Dat.int F.2.1, Dat.int F.2.2.1, Dat.int F.2.2.2]]) := by
      have e1 : plF 8 (Dat.lst (L.map fun (z : Nat) => Dat.int (z : Int))) = true := by
        show (L.map fun (z : Nat) => Dat.int (z : Int)).all (plF 7) = true
        rw [List.all_eq_true]
        intro d hd
        obtain ⟨z, _, rfl⟩ := List.mem_map.mp hd
        rfl
      show ([Dat.lst (L.map fun (z : Nat) => Dat.int (z : Int)), Dat.tup [Dat.int F.1, Dat.int F.2.1, Dat.int F.2.2.1, Dat.int F.2.2.2]].all (plF 8)) = true
      simp only [List.all_cons, List.all_nil, e1, Bool.true_and]
      rfl
    refine ⟨by omega, hpl, fun t1 e1 _ => ?_⟩
    rw [e1 trivial, if_neg (by decide)]
    refine ⟨_, true, rfl, by decide +kernel, ?_⟩
    rw [if_neg (by decide), onM_put hm]
    refine ⟨by omega, ⟨rfl, rfl⟩, fun t2 e2 _ => ⟨hos, ?_⟩⟩
    rw [e2 rfl, if_neg (by decide)]
    unfold r3_k54_right
    walk_at "pu"
    rw [onM_put hm, dRows_tal]
    refine lcp_nz _ _ _ _ rfl (by have := tal_len (ns := ((⟨b, cut, zeros, []⟩ : Mach).cnt 3 (cn : Int)).ns); simp only [List.length_nil]; omega) ?_
    have hnz : nzP (tal ((⟨b, cut, zeros, []⟩ : Mach).cnt 3 (cn : Int)).ns) = if cn = 0 then [] else [(Str.ofString "quotient", (cn : Int))] := by
      show nzP [(Str.ofString "short", 0), (Str.ofString "sum", 0), (Str.ofString "product", 0), (Str.ofString "quotient", 0 + (cn : Int)), (Str.ofString "corrected", 0), (Str.ofString "restored", 0), (Str.ofString "shifted", 0), (Str.ofString "combined", 0), (Str.ofString "complemented", 0), (Str.ofString "looked", 0)] = _
      rw [Int.zero_add]
      unfold nzP
      by_cases c : cn = 0
      · subst c; rfl
      · rw [if_neg c]
        have : ¬ ((cn : Int) = 0) := by omega
        simp [List.filter_cons, c]
    rw [hnz]
    walk_at "pu"
    have hrep : (List.replicate (if 0 < (cn : Int) then (1 : Int) else 0).toNat [Dat.tup [Dat.str (Str.ofString "quotient"), Dat.int (cn : Int)]]).flatten = List.map dP (if cn = 0 then [] else [(Str.ofString "quotient", (cn : Int))]) := by
      by_cases c : cn = 0
      · subst c; rfl
      · rw [if_neg c, if_pos (by omega)]; rfl
    have hplq : pl (Dat.lst (List.map dP (if cn = 0 then [] else [(Str.ofString "quotient", (cn : Int))]))) := by
      by_cases c : cn = 0
      · subst c; rfl
      · rw [if_neg c]
        have okq : PyData.strOk (Str.ofString "quotient") = true := by decide +kernel
        show ([Dat.tup [.str (Str.ofString "quotient"), .int (cn : Int)]].all (plF 8)) = true
        simp only [List.all_cons, List.all_nil, plF, okq, Bool.and_self]
    rw [hrep]
    refine ⟨by omega, by omega, ⟨by split <;> decide, by split <;> decide, ?_⟩, ⟨hplq, hplq⟩, fun t3 e3 _ => ?_⟩
    · have : (if 0 < (cn : Int) then (1 : Int) else 0).toNat ≤ 1 := by split <;> decide
      omega
    rw [e3 rfl, if_neg (by decide)]
    have hrst : ((⟨b, cut, zeros, []⟩ : Mach).cnt 3 (cn : Int)).rst = ⟨b, cut, zeros, []⟩ := rfl
    clear hnz hrep hplq
    unfold r4_k54_right
    walk_at "pu"
    rw [onM_put hm, put_put, hrst, put_self hm]
    unfold r5_k54_right
    walk_at "pu"
    have hLl : L.length ≤ 12000 := by
      obtain ⟨X, Y, hE, _⟩ := lhR_ok (b := b) (by omega) hN2 hMN
      rw [← hL] at hE
      exact Euc.len 6000 hE (Nat.lt_of_lt_of_le (lt_digsX (by omega) (show (digs b M).length ≤ 200 by omega)) (Nat.pow_le_pow_right (by decide) (Nat.mul_le_mul hb2 (Nat.le_refl 200))))
    refine ⟨by rw [List.length_map]; omega, ?_⟩
    unfold r6_k54_right
    walk_at "pu"
    simp only [onM_is hm]
    rw [eN, eM]
    refine ⟨by omega, by omega, by omega, by omega, ?_⟩
    refine leh _ ?_
    walk_at "pu"
    refine ⟨by omega, hpl, fun t4 e4 _ => ?_⟩
    rw [e4 trivial, if_neg (by decide)]
    unfold r7_k54_right
    walk_at "pu"
    rw [onM_put hm, put_put, hrst, put_self hm]
    unfold r8_k54_right
    walk_at "pu"
    rw [shl1X (by omega)]
    rw [e_k54_facts]
    exact ⟨N, M, b, ⟨rfl, rfl⟩, rfl, ⟨by omega, hb2⟩, hMN, hN2, Nat.lt_of_lt_of_le (lt_digsX (by omega) hl2) (Nat.pow_le_pow_right (by decide) (Nat.le_trans (Nat.mul_le_mul hb2 (Nat.le_refl 200)) (by decide))), by rw [hL], by rw [hF], h⟩
  · exact h.elim
theorem b_k54_right {K : PySem.W.Frag} {c : Pc} {vs : List V} {H : Hp} {Q : VK} {E : XK} {α : Prop} (PM : PM K c) (PB : α) (h : sp_k54_right K c vs H Q E) : t_k54_right K c (en0 Q) (st0 9 vs) H := def_ok (sn_k54_right PM PB) w_k54_right h
def P_said54 : PSpA := fun A ds w k => match ds with
  | [.fn f g] => A f g w (fun _ w => k (.str (Str.ofString "nothing")) w) (errK [1, 5] tSd k)
  | _ => False
theorem n_said54 : ∀ A ds w k, P_said54 A ds w k → ds.length = 1 := fun A ds w k h => by
  unfold P_said54 at h
  split at h
  · rfl
  · exact h.elim
theorem e_said54 {f : Addr} {g : Gh} {A : AsksP} {w : Wld} {k : Dat → Wld → Prop} : P_said54 A [.fn f g] w k = (A f g w (fun _ w => k (.str (Str.ofString "nothing")) w) (errK [1, 5] tSd k)) := rfl
def sp_said54 (K : PySem.W.Frag) (c : Pc) : Asks → Sp := lifA K c P_said54
/-- 0:_law_ask 1:e -/
def t_said54 (K : PySem.W.Frag) (c : Pc) (asks : Asks) : TS :=
  (tSeq (tTryM K (fun W => (tDrop (tAsk asks W 0))) [⟨.ref (c.xs.getD 1 0), some 1, fun a cls d => (tRet (tXf a cls d (c.xs.getD 1 0) "argument" (tVar 1)))⟩, ⟨.ref (c.xs.getD 0 0), none, fun a cls d => (tRet (tC (.str "other")))⟩])
  (tRet (tC (.str "nothing"))))
def p_said54 (A : AsksP) : PS :=
  (pSeq (pTryA [1, 5] A 0 gDrop [⟨1, (some 1), fun a g0 x => (pRet (pXf x a g0 1 "argument"))⟩, ⟨0, none, fun a g0 x => (pRet (pC (.str "other")))⟩])
  (pRet (pC (.str "nothing"))))
theorem sn_said54 {K : PySem.W.Frag} {c : Pc} {α : Prop} (PM : PM K c) (PB : α) (XMf : XM K c [1, 5]) {asks : Asks} (A : AsksP) (hA : Tells K c A asks) : SndS K c (t_said54 K c asks) (p_said54 A) :=
  (snd_seq (snd_tryMD hA XMf (.cons (by decide) (fun a cls d g0 x hk hj => (snd_ret (snd_xf hk hj (by decide)))) (.cons (by decide) (fun a cls d g0 x hk hj => (snd_ret (snd_str "other"))) .nil)))
  (snd_ret (snd_str "nothing")))
theorem w_said54 : ∀ A ds w k, P_said54 A ds w k → p_said54 A (pen k) (env0 2 ds) w := by
  intro A ds w k h
  unfold P_said54 at h
  split at h
  · rename_i f g
    unfold p_said54
    walk_at "px"
    refine ask_eq h (fun d w => Iff.rfl) fun x w => ?_
    unfold errK tSd
    refine and_congr_right fun hj => ?_
    by_cases c1 : x.j = 1
    · rw [if_pos (.inl c1), if_pos c1]
      exact ⟨fun z => (z 0 ⟨fun _ => none, [], [], [], []⟩).2, fun z a g0 => ⟨rfl, z⟩⟩
    · rw [if_neg (by simp [c1]), if_pos (.inr trivial), if_neg c1]; exact all_ag
  · exact h.elim
theorem b_said54 {K : PySem.W.Frag} {c : Pc} {asks : Asks} {vs : List V} {H : Hp} {Q : VK} {E : XK} {α : Prop} (PM : PM K c) (PB : α) (XMf : XM K c [1, 5]) (h : sp_said54 K c asks vs H Q E) : t_said54 K c asks (en0 Q) (st0 2 vs) H := def_okA (t := t_said54 K c) (sn_said54 PM PB XMf) w_said54 h
def P_k54_refused : PSp := fun ds w k => match ds with
  | [.mach i, .int wd] => ∃ (b : Nat) (cut : Int), wd = (b : Int) ∧ (8 ≤ b ∧ b ≤ 30) ∧ w.ms[i]? = some ⟨b, cut, zeros, []⟩ ∧ ∀ w', w'.os = w.os → k (.bl true) w'
  | _ => False
theorem n_k54_refused : ∀ ds w k, P_k54_refused ds w k → ds.length = 2 := fun ds w k h => by
  unfold P_k54_refused at h
  split at h
  · rfl
  · exact h.elim
theorem e_k54_refused {i : Nat} {wd : Int} {w : Wld} {k : Dat → Wld → Prop} : P_k54_refused [.mach i, .int wd] w k = (∃ (b : Nat) (cut : Int), wd = (b : Int) ∧ (8 ≤ b ∧ b ≤ 30) ∧ w.ms[i]? = some ⟨b, cut, zeros, []⟩ ∧ ∀ w', w'.os = w.os → k (.bl true) w') := rfl
def sp_k54_refused (K : PySem.W.Frag) (c : Pc) : Sp := lif K c P_k54_refused
theorem u_k54_refused {K : PySem.W.Frag} {c : Pc} : SndP K c (sp_k54_refused K c) P_k54_refused := SndP.lif
/-- 0:_law_engine 1:_law_width 2:_law_xx 3:_law_odd 4:_law_yy 5:_law_asks 6:_law_ask 7:_law_row -/
def bs_k54_refused (K : PySem.W.Frag) (c : Pc) (Lm0 Lm1 Lm2 Lm3 Lm4 : Lmb) : List (Lmb × (XK → TE)) := [(Lm0, fun E => (tCall (sp_g_lehmer_X K c) [] E (tCons (tVar 0) (tCons (tVar 4) (tCons (tVar 4) tNil))))), (Lm1, fun E => (tCall (sp_g_lehmer_X K c) [] E (tCons (tVar 4) (tCons (tVar 4) (tCons (tVar 4) tNil))))), (Lm2, fun E => (tCall (sp_g_lehmer_X K c) [] E (tCons (tVar 0) (tCons (tVar 2) (tCons (tVar 4) tNil))))), (Lm3, fun E => (tCall (sp_g_lehmer_X K c) [] E (tCons (tVar 0) (tCons (tCall (sp_big K c) [] E0 (tCons (tVar 0) (tCons (tVar 4) tNil))) (tCons (tCall (sp_big K c) [] E0 (tCons (tVar 0) (tCons (tUn rNeg (tC (.int 1))) tNil))) tNil))))), (Lm4, fun E => (tCall (sp_g_lehmer_X K c) [] E (tCons (tVar 0) (tCons (tVar 2) (tCons (tCall (sp_big K c) [] E0 (tCons (tVar 0) (tCons (tVar 4) tNil))) tNil)))))]
def t_k54_refused (K : PySem.W.Frag) (c : Pc) (cl : List (Str × Addr)) (Lm0 Lm1 Lm2 Lm3 Lm4 : Lmb) : TS :=
  (tSeq (tAsg (tTup (tCons (tCall (sp_big K c) [] E0 (tCons (tVar 0) (tCons (tOp rShl (tC (.int 1)) (tOp rMul (tC (.int 2)) (tVar 1))) tNil))) (tCons (tCall (sp_big K c) [] E0 (tCons (tMake c.CMachine (sp_Machine_init K c) [] E0 (tCons (tOp rAdd (tC (.int 9)) (tCB rInt (tCons (tOp rEq (tVar 1) (tC (.int 9))) tNil))) (tCons (tC (.int 2)) tNil))) (tCons (tOp rShl (tC (.int 1)) (tC (.int 60))) tNil))) tNil))) (gTup K 2 (gCons (gName 2) (gCons (gName 3) gNil))))
  (tSeq (tFor (iList K (tLst (tCons (tC .non) (tCons (tC (.int 5)) (tCons (tC (.bl true)) (tCons (tC (.str "5")) (tCons (tLst (tCons (tC (.int 5)) tNil)) (tCons (tVar 3) (tCons (tCall (sp_s_deep K c) [] E0 (tCons (tC (.bl true)) tNil)) (tCons (tCall (sp_s_deep K c) [] E0 (tCons (tC (.bl false)) tNil)) tNil)))))))))) (gName 4) (tSeq (tAsg (tLst (tCons (tMkL (tabP c 0) Lm1 cl) (tCons (tMkL (tabP c 0) Lm0 cl) tNil))) (gName 5))
  (tSeq (tDrop (tBM K "list" rAppend (tVar 5) (tCons (tMkL (tabP c 0) Lm2 cl) tNil)))
  (tIfS (tTest (tOp (rNeD K) (tLcE (iList K (tVar 5)) (gName 6) (fun σ0 => tYes) (fun σ0 => (tCall (sp_said54 K c (asksX cl (bs_k54_refused K c Lm0 Lm1 Lm2 Lm3 Lm4) σ0)) [] E0 (tCons (tVar 6) tNil))) [6]) (tLst (tCons (tC (.str "machine")) (tCons (tC (.str "x")) (tCons (tC (.str "y")) tNil)))))) (tRet (tC (.bl false))) tNext))))
  (tSeq (tFor (iList K (tLst (tCons (tC (.int 0)) (tCons (tC (.int 5)) (tCons (tOp rSub (tOp rShl (tC (.int 1)) (tOp rMul (tC (.int 2)) (tVar 1))) (tC (.int 1))) (tCons (tOp rSub (tC (.int 0)) (tOp rShl (tC (.int 1)) (tOp rMul (tC (.int 2)) (tVar 1)))) tNil)))))) (gName 4) (tIfS (tTest (tOp rNe (tCloM (sp_said54 K c) cl (bs_k54_refused K c Lm0 Lm1 Lm2 Lm3 Lm4) (tCons (tMkL (tabP c 0) Lm3 cl) tNil)) (tC (.str "x")))) (tRet (tC (.bl false))) tNext))
  (tSeq (tFor (iList K (tLst (tCons (tUn rNeg (tC (.int 1))) (tCons (tOp rAdd (tOp rShl (tC (.int 1)) (tOp rMul (tC (.int 2)) (tVar 1))) (tC (.int 1))) (tCons (tOp rShl (tC (.int 1)) (tOp rMul (tC (.int 9)) (tVar 1))) tNil))))) (gName 4) (tIfS (tTest (tOp rNe (tCloM (sp_said54 K c) cl (bs_k54_refused K c Lm0 Lm1 Lm2 Lm3 Lm4) (tCons (tMkL (tabP c 0) Lm4 cl) tNil)) (tC (.str "y")))) (tRet (tC (.bl false))) tNext))
  (tRet (tAndV (tOp (rEqD K) (tMeth c.CMachine "walk" (sp_Machine_walk K c) [] E0 (tVar 0) tNil) (tLst tNil)) (tOp (rEqD K) (tLc (iList K (tMeth c.CMachine "tally" (sp_Machine_tally K c) [] E0 (tVar 0) tNil)) (gName 7) (tTest (tOp rNe (tOp (rIxT K) (tVar 7) (tC (.int 1))) (tC (.int 0)))) (tVar 7) [7]) (tLst tNil))))))))
def pB_k54_refused : List PBd := [bdX (pCons (pVar 0) (pCons (pVar 4) (pCons (pVar 4) pNil))) P_g_lehmer_X, bdX (pCons (pVar 4) (pCons (pVar 4) (pCons (pVar 4) pNil))) P_g_lehmer_X, bdX (pCons (pVar 0) (pCons (pVar 2) (pCons (pVar 4) pNil))) P_g_lehmer_X, bdX (pCons (pVar 0) (pCons (pCall P_big (pCons (pVar 0) (pCons (pVar 4) pNil))) (pCons (pCall P_big (pCons (pVar 0) (pCons (pUn qNeg (pC (.int 1))) pNil))) pNil))) P_g_lehmer_X, bdX (pCons (pVar 0) (pCons (pVar 2) (pCons (pCall P_big (pCons (pVar 0) (pCons (pVar 4) pNil))) pNil))) P_g_lehmer_X]
def q1_k54_refused (IC : ICl) : PS :=
  (pSeq (pAppend 5 (pMkL IC 2))
  (pFrz [5] (pIfS (pTest (pOp qNeD (pFz (pRfr IC 5 (fun gs e0 => (pLc (pIL (pVar 5)) (pgName 6) pYes (pCloB IC pB_k54_refused gs e0 P_said54 (pCons (pVar 6) pNil)) [6])))) (pFz (pLst (pCons (pC (.str "machine")) (pCons (pC (.str "x")) (pCons (pC (.str "y")) pNil))))))) (pRet (pC (.bl false))) pNext)))
def b1_k54_refused (IC : ICl) : PS :=
  (pSeq (pAsgO (pLst (pCons (pMkL IC 1) (pCons (pMkL IC 0) pNil))) 5)
  (q1_k54_refused IC))
def b2_k54_refused (IC : ICl) : PS :=
  (pIfS (pTest (pOp qNe (pCloM IC pB_k54_refused P_said54 (pCons (pMkL IC 3) pNil)) (pC (.str "x")))) (pRet (pC (.bl false))) pNext)
def b3_k54_refused (IC : ICl) : PS :=
  (pIfS (pTest (pOp qNe (pCloM IC pB_k54_refused P_said54 (pCons (pMkL IC 4) pNil)) (pC (.str "y")))) (pRet (pC (.bl false))) pNext)
def r3_k54_refused (IC : ICl) : PS :=
  (pSeq (pFor (pIL (pFz (pLst (pCons (pUn qNeg (pC (.int 1))) (pCons (pOp qAdd (pOp qShl (pC (.int 1)) (pOp qMul (pC (.int 2)) (pVar 1))) (pC (.int 1))) (pCons (pOp qShl (pC (.int 1)) (pOp qMul (pC (.int 9)) (pVar 1))) pNil)))))) (pgName 4) (b3_k54_refused IC))
  (pRet (pAndV (pOp qEqD (pMethM P_Machine_walk (pVar 0) pNil) (pFz (pLst pNil))) (pOp qEqD (pFz (pLc (pIL (pMethM P_Machine_tally (pVar 0) pNil)) (pgName 7) (pTest (pOp qNe (pOp qIxT (pVar 7) (pC (.int 1))) (pC (.int 0)))) (pVar 7) [7])) (pFz (pLst pNil))))))
def r2_k54_refused (IC : ICl) : PS :=
  (pSeq (pFor (pIL (pFz (pLst (pCons (pC (.int 0)) (pCons (pC (.int 5)) (pCons (pOp qSub (pOp qShl (pC (.int 1)) (pOp qMul (pC (.int 2)) (pVar 1))) (pC (.int 1))) (pCons (pOp qSub (pC (.int 0)) (pOp qShl (pC (.int 1)) (pOp qMul (pC (.int 2)) (pVar 1)))) pNil))))))) (pgName 4) (b2_k54_refused IC))
  (r3_k54_refused IC))
def r1_k54_refused (IC : ICl) : PS :=
  (pSeq (pFor (pIL (pFz (pLst (pCons (pC .non) (pCons (pC (.int 5)) (pCons (pC (.bl true)) (pCons (pC (.str "5")) (pCons (pFz (pLst (pCons (pC (.int 5)) pNil))) (pCons (pVar 3) (pCons (pCall P_s_deep (pCons (pC (.bl true)) pNil)) (pCons (pCall P_s_deep (pCons (pC (.bl false)) pNil)) pNil))))))))))) (pgName 4) (b1_k54_refused IC))
  (r2_k54_refused IC))
def p_k54_refused (IC : ICl) : PS :=
  (pSeq (pAsgG (pTup (pCons (pCall P_big (pCons (pVar 0) (pCons (pOp qShl (pC (.int 1)) (pOp qMul (pC (.int 2)) (pVar 1))) pNil))) (pCons (pCall P_big (pCons (pCallD P_Machine [] (pCons (pOp qAdd (pC (.int 9)) (pCB qInt (pCons (pOp qEq (pVar 1) (pC (.int 9))) pNil))) (pCons (pC (.int 2)) pNil))) (pCons (pOp qShl (pC (.int 1)) (pC (.int 60))) pNil))) pNil))) (pgTup [2, 3]))
  (r1_k54_refused IC))
theorem sn_k54_refused {K : PySem.W.Frag} {c : Pc} {α : Prop} (PM : PM K c) (PB : α) (TS : c.ts.map (·.2) = [lamQ "_law_refused_right"]) {cl : List (Str × Addr)} {Lm0 Lm1 Lm2 Lm3 Lm4 : Lmb} (q0 : Lm0.q = lamQ "_law_refused_right") (q1 : Lm1.q = lamQ "_law_refused_right") (q2 : Lm2.q = lamQ "_law_refused_right") (q3 : Lm3.q = lamQ "_law_refused_right") (q4 : Lm4.q = lamQ "_law_refused_right") : SndS K c (t_k54_refused K c cl Lm0 Lm1 Lm2 Lm3 Lm4) (p_k54_refused (IsC cl (bs_k54_refused K c Lm0 Lm1 Lm2 Lm3 Lm4))) :=
  (snd_seq (snd_asgG (snd_tup (snd_cons (snd_call u_big (snd_cons snd_var (snd_cons (snd_op s_shl (snd_int 1) (snd_op s_mul (snd_int 2) snd_var)) snd_nil))) (snd_cons (snd_call u_big (snd_cons (snd_mkM (fun _ => .nil) (snd_cons (snd_op s_add (snd_int 9) (snd_cb s_int (snd_cons (snd_op s_eq snd_var (snd_int 9)) snd_nil))) (snd_cons (snd_int 2) snd_nil))) (snd_cons (snd_op s_shl (snd_int 1) (snd_int 60)) snd_nil))) snd_nil))) (snd_gTup (is := [2, 3]) rfl))
  (snd_seq (snd_for (snd_iList (snd_fz (snd_lst (snd_cons snd_non (snd_cons (snd_int 5) (snd_cons (snd_bl true) (snd_cons (snd_str "5") (snd_cons (snd_fz (snd_lst (snd_cons (snd_int 5) snd_nil))) (snd_cons snd_var (snd_cons (snd_call u_s_deep (snd_cons (snd_bl true) snd_nil)) (snd_cons (snd_call u_s_deep (snd_cons (snd_bl false) snd_nil)) snd_nil))))))))))) snd_gName (snd_seq (snd_asgO (snd_lst (snd_cons (snd_mkL (tab_mem TS 0 rfl) q1 rfl) (snd_cons (snd_mkL (tab_mem TS 0 rfl) q0 rfl) snd_nil))))
  (snd_seq (snd_append (snd_mkL (tab_mem TS 0 rfl) q2 rfl))
  (snd_frz (snd_ifS (snd_test (snd_op s_neD (snd_fz (snd_rfr (fun X0 F0 σ0 s0 I0 => (snd_lc (snd_iList snd_var) snd_gName (tgt_name _) snd_yes (snd_cloB (.cons (snd_bdX u_g_lehmer_X (snd_cons snd_var (snd_cons snd_var (snd_cons snd_var snd_nil)))) (.cons (snd_bdX u_g_lehmer_X (snd_cons snd_var (snd_cons snd_var (snd_cons snd_var snd_nil)))) (.cons (snd_bdX u_g_lehmer_X (snd_cons snd_var (snd_cons snd_var (snd_cons snd_var snd_nil)))) (.cons (snd_bdX u_g_lehmer_X (snd_cons snd_var (snd_cons (snd_call u_big (snd_cons snd_var (snd_cons snd_var snd_nil))) (snd_cons (snd_call u_big (snd_cons snd_var (snd_cons (snd_neg (snd_int 1)) snd_nil))) snd_nil)))) (.cons (snd_bdX u_g_lehmer_X (snd_cons snd_var (snd_cons snd_var (snd_cons (snd_call u_big (snd_cons snd_var (snd_cons snd_var snd_nil))) snd_nil)))) .nil))))) I0 (snd_cons snd_var snd_nil)))))) (snd_fz (snd_lst (snd_cons (snd_str "machine") (snd_cons (snd_str "x") (snd_cons (snd_str "y") snd_nil))))))) (snd_ret (snd_bl false)) snd_next)))))
  (snd_seq (snd_for (snd_iList (snd_fz (snd_lst (snd_cons (snd_int 0) (snd_cons (snd_int 5) (snd_cons (snd_op s_sub (snd_op s_shl (snd_int 1) (snd_op s_mul (snd_int 2) snd_var)) (snd_int 1)) (snd_cons (snd_op s_sub (snd_int 0) (snd_op s_shl (snd_int 1) (snd_op s_mul (snd_int 2) snd_var))) snd_nil))))))) snd_gName (snd_ifS (snd_test (snd_op s_ne (snd_cloM (.cons (snd_bdX u_g_lehmer_X (snd_cons snd_var (snd_cons snd_var (snd_cons snd_var snd_nil)))) (.cons (snd_bdX u_g_lehmer_X (snd_cons snd_var (snd_cons snd_var (snd_cons snd_var snd_nil)))) (.cons (snd_bdX u_g_lehmer_X (snd_cons snd_var (snd_cons snd_var (snd_cons snd_var snd_nil)))) (.cons (snd_bdX u_g_lehmer_X (snd_cons snd_var (snd_cons (snd_call u_big (snd_cons snd_var (snd_cons snd_var snd_nil))) (snd_cons (snd_call u_big (snd_cons snd_var (snd_cons (snd_neg (snd_int 1)) snd_nil))) snd_nil)))) (.cons (snd_bdX u_g_lehmer_X (snd_cons snd_var (snd_cons snd_var (snd_cons (snd_call u_big (snd_cons snd_var (snd_cons snd_var snd_nil))) snd_nil)))) .nil))))) (snd_cons (snd_mkL (tab_mem TS 0 rfl) q3 rfl) snd_nil)) (snd_str "x"))) (snd_ret (snd_bl false)) snd_next))
  (snd_seq (snd_for (snd_iList (snd_fz (snd_lst (snd_cons (snd_neg (snd_int 1)) (snd_cons (snd_op s_add (snd_op s_shl (snd_int 1) (snd_op s_mul (snd_int 2) snd_var)) (snd_int 1)) (snd_cons (snd_op s_shl (snd_int 1) (snd_op s_mul (snd_int 9) snd_var)) snd_nil)))))) snd_gName (snd_ifS (snd_test (snd_op s_ne (snd_cloM (.cons (snd_bdX u_g_lehmer_X (snd_cons snd_var (snd_cons snd_var (snd_cons snd_var snd_nil)))) (.cons (snd_bdX u_g_lehmer_X (snd_cons snd_var (snd_cons snd_var (snd_cons snd_var snd_nil)))) (.cons (snd_bdX u_g_lehmer_X (snd_cons snd_var (snd_cons snd_var (snd_cons snd_var snd_nil)))) (.cons (snd_bdX u_g_lehmer_X (snd_cons snd_var (snd_cons (snd_call u_big (snd_cons snd_var (snd_cons snd_var snd_nil))) (snd_cons (snd_call u_big (snd_cons snd_var (snd_cons (snd_neg (snd_int 1)) snd_nil))) snd_nil)))) (.cons (snd_bdX u_g_lehmer_X (snd_cons snd_var (snd_cons snd_var (snd_cons (snd_call u_big (snd_cons snd_var (snd_cons snd_var snd_nil))) snd_nil)))) .nil))))) (snd_cons (snd_mkL (tab_mem TS 0 rfl) q4 rfl) snd_nil)) (snd_str "y"))) (snd_ret (snd_bl false)) snd_next))
  (snd_ret (snd_andV (snd_op s_eqD (snd_methM (by decide) u_Machine_walk snd_var snd_nil) (snd_fz (snd_lst snd_nil))) (snd_op s_eqD (snd_fz (snd_lc (snd_iList (snd_methM (by decide) u_Machine_tally snd_var snd_nil)) snd_gName (tgt_name _) (snd_test (snd_op s_ne (snd_op s_ixT snd_var (snd_int 1)) (snd_int 0))) snd_var)) (snd_fz (snd_lst snd_nil)))))))))
theorem k54_ask {IC : ICl} {gs : Gh} {f : Addr} {j a b c : Nat} {e0 : Pu.Env} {w : Wld} {K : Dat → Wld → Prop} {d0 d1 d2 : Dat} (hj : pB_k54_refused[j]? = some (bdX (pCons (pVar a) (pCons (pVar b) (pCons (pVar c) pNil))) P_g_lehmer_X)) (hi : IC f gs j)
    (h0 : (noO e0)[a]? = some (.val d0)) (h1 : (noO e0)[b]? = some (.val d1)) (h2 : (noO e0)[c]? = some (.val d2)) (h : wrong2 w d0 d1 d2 False fun s => K (.str s) w) :
    P_said54 (askM IC pB_k54_refused gs e0) [.fn f gs] w K := by
  rw [e_said54]
  refine ⟨rfl, j, _, hj, hi, bd3 h0 h1 h2 ?_⟩
  rw [e_g_lehmer_X]
  exact wrong2_imp h (fun i m n n' hm e0 e1 e2 hz => hz.elim) fun s hs => errK_b (by decide) hs
theorem pl_mxy54 : pl (.lst [.str (Str.ofString "machine"), .str (Str.ofString "x"), .str (Str.ofString "y")]) := by
  show ([Dat.str (Str.ofString "machine"), .str (Str.ofString "x"), .str (Str.ofString "y")].all (plF 8)) = true
  decide +kernel
theorem k54_big {b : Nat} {x : Int} (h8 : 8 ≤ b) (h30 : b ≤ 30) (hx : x.natAbs < 2 ^ (b * 10)) : b ≠ 0 ∧ (digs b x.natAbs).length < 2 ^ 23 ∧ bigL b x := by
  have h1 : (digs b x.natAbs).length ≤ 10 := digs_length_le (by omega) _ hx
  exact ⟨by omega, Nat.lt_of_le_of_lt h1 (by decide), by omega, h30, by omega⟩
theorem shl2X {b c : Nat} {k : Dat → Prop} (hb : b ≤ 30) (hc : c ≤ 30) (h : k (.int ((2 ^ (c * b) : Nat) : Int))) : IntMulOk (c : Int) (b : Int) ∧ qShl (.int 1) (.int ((c : Int) * (b : Int))) k := by
  refine ⟨mul_okL (by omega) (by omega), ?_⟩
  have h1 : c * b ≤ 30 * 30 := Nat.mul_le_mul hc hb
  rw [← Int.natCast_mul, shl1X (by omega)]
  exact h
theorem k54_r3 {IC : ICl} {w : Wld} {k : Dat → Wld → Prop} {i b : Nat} {cut : Int} {y3 y4 y5 y6 : Slot} (hm : w.ms[i]? = some ⟨b, cut, zeros, []⟩) (h8 : 8 ≤ b) (h30 : b ≤ 30) (h : k (.bl true) w) :
    r3_k54_refused IC (pen k) [.val (.mach i), .val (.int (b : Int)), .val (.big b ((2 ^ (2 * b) : Nat) : Int)), y3, y4, y5, y6, .no] w := by
  have hz := sizeLine_eq
  unfold r3_k54_refused
  walk_at "px"
  refine shl2X (c := 2) h30 (by decide) ?_
  walk_at "px"
  refine shl2X (c := 9) h30 (by decide) ?_
  refine ⟨by omega, ?_⟩
  have hp2 : 2 ^ (2 * b) + 2 ^ (2 * b) ≤ 2 ^ (9 * b) := by
    have := Nat.pow_le_pow_right (n := 2) (by decide) (show 2 * b + 1 ≤ 9 * b by omega)
    rw [Nat.pow_succ] at this
    omega
  have hp9 : 2 ^ (9 * b) < 2 ^ (b * 10) := Nat.pow_lt_pow_right (by decide) (by omega)
  have hp0 := Nat.two_pow_pos (2 * b)
  have hl3 : ¬ (digs b ((2 ^ (2 * b) : Nat) : Int).natAbs).length ≤ 2 := fun c => by
    have := lt_digsX (b := b) (x := 2 ^ (2 * b)) (by omega) c
    rw [Nat.mul_comm b 2] at this
    omega
  generalize 2 ^ (2 * b) = Q at *
  refine lp_ind (fun _ e w' => w' = w ∧ ∃ y, e = [.val (.mach i), .val (.int (b : Int)), .val (.big b (Q : Int)), y3, y, y5, y6, .no]) ⟨rfl, _, rfl⟩ ?_ ?_
  · rintro q d e w' nx hd ⟨rfl, y, rfl⟩ hn
    obtain ⟨x, rfl, hx, hx2⟩ : ∃ x : Int, d = .int x ∧ (x < 0 ∨ (Q : Int) < x) ∧ x.natAbs < 2 ^ (b * 10) := by
      have hd := List.mem_of_getElem? hd
      simp only [List.mem_cons, List.not_mem_nil, or_false] at hd
      rcases hd with rfl | rfl | rfl
      · exact ⟨_, rfl, by omega, by omega⟩
      · exact ⟨_, rfl, by omega, by omega⟩
      · exact ⟨_, rfl, by omega, by omega⟩
    obtain ⟨z1, z2, z3⟩ := k54_big h8 h30 hx2
    obtain ⟨u1, u2, u3⟩ := k54_big (x := (Q : Int)) h8 h30 (by omega)
    clear hx2 hp9 hp2
    unfold b3_k54_refused
    walk_at "px"
    intro f g0 hi gs up
    show P_said54 _ [.fn f gs] _ _
    rw [e_said54]
    refine ⟨rfl, 4, _, rfl, up f g0 4 (.inl (by simp)) hi, ?_⟩
    unfold bdX
    walk_at "px"
    simp only [onM_is hm]
    refine ⟨z1, z2, ?_⟩
    rw [e_g_lehmer_X]
    refine wrong2_ok hm ⟨_, _, _, rfl, rfl, ⟨u3, z3⟩, ?_⟩
    rw [if_neg (fun c => c.elim (fun c => by omega) hl3)]
    refine ⟨hx, errK_b (by decide) ?_⟩
    walk_at "px"
    exact hn _ _ ⟨rfl, _, rfl⟩
  · rintro e w' ⟨rfl, y, rfl⟩
    walk_at "px"
    rw [onM_is hm]
    refine ⟨by omega, ⟨rfl, rfl⟩, fun bb e1 _ => ?_⟩
    rw [e1 rfl, if_pos rfl, onM_is hm]
    dsimp only
    rw [dRows_tal]
    have htl : (tal zeros).length + ([] : List Dat).length ≤ 100 := by have := tal_len (ns := zeros); simp only [List.length_nil]; omega
    have hnz : nzP (tal zeros) = [] := by decide +kernel
    generalize tal zeros = TZ at *
    refine lcp_nz TZ [] _ _ rfl htl ?_
    rw [hnz]
    refine ⟨by omega, ⟨rfl, rfl⟩, fun b2 e2 _ => ?_⟩
    rw [e2 rfl]
    exact h
theorem k54_r2 {IC : ICl} {w : Wld} {k : Dat → Wld → Prop} {i b : Nat} {cut : Int} {y3 y4 y5 y6 : Slot} (hm : w.ms[i]? = some ⟨b, cut, zeros, []⟩) (h8 : 8 ≤ b) (h30 : b ≤ 30) (h : k (.bl true) w) :
    r2_k54_refused IC (pen k) [.val (.mach i), .val (.int (b : Int)), .val (.big b ((2 ^ (2 * b) : Nat) : Int)), y3, y4, y5, y6, .no] w := by
  have hz := sizeLine_eq
  unfold r2_k54_refused
  walk_at "px"
  refine shl2X (c := 2) h30 (by decide) ?_
  walk_at "px"
  refine shl2X (c := 2) h30 (by decide) ?_
  refine ⟨by omega, ?_⟩
  have hp2 : 2 ^ (2 * b) < 2 ^ (b * 10) := Nat.pow_lt_pow_right (by decide) (by omega)
  have hp0 : 2 ^ 16 ≤ 2 ^ (2 * b) := Nat.pow_le_pow_right (by decide) (by omega)
  have few : ∀ x : Nat, x < 2 ^ (2 * b) → (digs b x).length ≤ 2 := fun x hx => digs_length_le (by omega) _ (by rw [Nat.mul_comm b 2]; exact hx)
  have h3 := fun y4 => k54_r3 (IC := IC) (i := i) (cut := cut) (y3 := y3) (y4 := y4) (y5 := y5) (y6 := y6) hm h8 h30 h
  generalize 2 ^ (2 * b) = Q at *
  refine lp_ind (fun _ e w' => w' = w ∧ ∃ y, e = [.val (.mach i), .val (.int (b : Int)), .val (.big b (Q : Int)), y3, y, y5, y6, .no]) ⟨rfl, _, rfl⟩ ?_ ?_
  · rintro q d e w' nx hd ⟨rfl, y, rfl⟩ hn
    obtain ⟨x, rfl, hx, hx2⟩ : ∃ x : Int, d = .int x ∧ (x < 0 ∨ (digs b x.natAbs).length ≤ 2) ∧ x.natAbs < 2 ^ (b * 10) := by
      have hd := List.mem_of_getElem? hd
      simp only [List.mem_cons, List.not_mem_nil, or_false] at hd
      rcases hd with rfl | rfl | rfl | rfl
      · exact ⟨_, rfl, .inr (few _ (by omega)), by omega⟩
      · exact ⟨_, rfl, .inr (few _ (by omega)), by omega⟩
      · exact ⟨_, rfl, .inr (few _ (by omega)), by omega⟩
      · exact ⟨_, rfl, .inl (by omega), by omega⟩
    obtain ⟨z1, z2, z3⟩ := k54_big h8 h30 hx2
    obtain ⟨u1, u2, u3⟩ := k54_big (x := -1) h8 h30 (by omega)
    clear hx2 hp2 few
    unfold b2_k54_refused
    walk_at "px"
    intro f g0 hi gs up
    show P_said54 _ [.fn f gs] _ _
    rw [e_said54]
    refine ⟨rfl, 3, _, rfl, up f g0 3 (.inl (by simp)) hi, ?_⟩
    unfold bdX
    walk_at "px"
    simp only [onM_is hm]
    refine ⟨z1, z2, u1, u2, ?_⟩
    rw [e_g_lehmer_X]
    refine wrong2_ok hm ⟨_, _, _, rfl, rfl, ⟨z3, u3⟩, ?_⟩
    rw [if_pos hx]
    refine errK_b (by decide) ?_
    walk_at "px"
    exact hn _ _ ⟨rfl, _, rfl⟩
  · rintro e w' ⟨rfl, y, rfl⟩
    exact h3 y
theorem k54_r1 {IC : ICl} {w : Wld} {k : Dat → Wld → Prop} {i b b' : Nat} {cut x : Int} (hm : w.ms[i]? = some ⟨b, cut, zeros, []⟩) (h8 : 8 ≤ b) (h30 : b ≤ 30) (hne : b' ≠ b) (h : k (.bl true) w) :
    r1_k54_refused IC (pen k) [.val (.mach i), .val (.int (b : Int)), .val (.big b ((2 ^ (2 * b) : Nat) : Int)), .val (.big b' x), .no, .no, .no, .no] w := by
  have hz := sizeLine_eq
  unfold r1_k54_refused
  walk_at "px"
  refine ⟨by omega, ?_⟩
  rw [e_s_deep]
  intro d1 k1 ⟨t1, _, _⟩
  rw [e_s_deep]
  intro d2 k2 ⟨t2, _, _⟩
  refine ⟨by omega, ?_⟩
  have h2 := fun y4 y5 y6 => k54_r2 (IC := IC) (i := i) (cut := cut) (y3 := .val (.big b' x)) (y4 := y4) (y5 := y5) (y6 := y6) hm h8 h30 h
  generalize 2 ^ (2 * b) = Q at *
  refine lp_ind (fun _ e w' => w' = w ∧ ∃ y4 y5 y6, e = [.val (.mach i), .val (.int (b : Int)), .val (.big b (Q : Int)), .val (.big b' x), y4, y5, y6, .no]) ⟨rfl, _, _, _, rfl⟩ ?_ ?_
  · rintro q d e w' nx hd ⟨rfl, y4, y5, y6, rfl⟩ hn
    obtain ⟨hk, q1, q2⟩ : kn d ∧ isMch d = false ∧ isBW b d = false := by
      have hd := List.mem_of_getElem? hd
      simp only [List.mem_cons, List.not_mem_nil, or_false] at hd
      rcases hd with rfl | rfl | rfl | rfl | rfl | rfl | rfl | rfl
      · exact ⟨rfl, rfl, rfl⟩
      · exact ⟨rfl, rfl, rfl⟩
      · exact ⟨rfl, rfl, rfl⟩
      · exact ⟨rfl, rfl, rfl⟩
      · exact ⟨rfl, rfl, rfl⟩
      · exact ⟨rfl, rfl, decide_eq_false hne⟩
      · exact ⟨kn0 k1, t1, isBW_other k1⟩
      · exact ⟨kn0 k2, t2, isBW_other k2⟩
    unfold b1_k54_refused
    walk_at "px"
    intro f0 g0 i0 f1 g1 i1
    refine ⟨by omega, ?_⟩
    unfold q1_k54_refused
    walk_at "px"
    intro f2 g2 i2
    walk_at "px"
    refine ⟨by omega, ?_⟩
    intro gs up
    have u0 := up f0 g0 1 (by simp) i0
    have u1 := up f1 g1 0 (by simp) i1
    have u2 := up f2 g2 2 (by simp) i2
    walk_at "px"
    refine ⟨⟨f0, by simp⟩, k54_ask (j := 1) rfl u0 rfl rfl rfl (wrong2_m hk hk hk q1 ?_)⟩
    refine ⟨by omega, ⟨f1, by simp⟩, k54_ask (j := 0) rfl u1 rfl rfl rfl (wrong2_x hm hk hk q2 ?_)⟩
    refine ⟨by omega, ⟨f2, by simp⟩, k54_ask (j := 2) rfl u2 rfl rfl rfl (wrong2_y hm hk q2 ?_)⟩
    refine ⟨by omega, by omega, ⟨pl_mxy54, pl_mxy54⟩, fun bb e1 _ => ?_⟩
    rw [e1 rfl, if_neg (by decide)]
    exact hn _ _ ⟨rfl, _, _, _, rfl⟩
  · rintro e w' ⟨rfl, y4, y5, y6, rfl⟩
    exact h2 y4 y5 y6
theorem pg2 {i j : Nat} {a c : Dat} {e : Pu.Env} {w : Wld} {K : Pu.Env → Wld → Prop} (h : K ((e.set i (.val a)).set j (.val c)) w) : pgTup [i, j] (.tup [a, c]) e w K := h
theorem k54_p {IC : ICl} {w : Wld} {k : Dat → Wld → Prop} {i b : Nat} {cut : Int} (hm : w.ms[i]? = some ⟨b, cut, zeros, []⟩) (h8 : 8 ≤ b) (h30 : b ≤ 30) (h : ∀ w', w'.os = w.os → k (.bl true) w') :
    p_k54_refused IC (pen k) [.val (.mach i), .val (.int (b : Int)), .no, .no, .no, .no, .no, .no] w := by
  have hz := sizeLine_eq
  unfold p_k54_refused
  simp only [pSeq, pAsgG, pTup, pCons, pNil]
  simp only [pCall, pCons, pNil, pOp, pC, eVar, List.getElem?_cons_succ, List.getElem?_cons_zero, eVal, eMul]
  refine shl2X (c := 2) h30 (by decide) ?_
  have hQb : ((2 ^ (2 * b) : Nat) : Int).natAbs < 2 ^ (b * 10) := by rw [Int.natAbs_natCast]; exact Nat.pow_lt_pow_right (by decide) (by omega)
  obtain ⟨z1, z2, _⟩ := k54_big h8 h30 hQb
  clear hQb
  rw [e_big, onM_is hm]
  refine ⟨z1, z2, ?_⟩
  simp only [pCallD, pCB, pCons, pNil, pOp, pC, eVar, List.getElem?_cons_succ, List.getElem?_cons_zero, eVal, eEqI, eInt2, eAdd]
  obtain ⟨B, hB, hB1, hB2, hB3⟩ : ∃ B : Nat, (9 + if decide ((b : Int) = 9) = true then (1 : Int) else 0) = (B : Int) ∧ 8 ≤ B ∧ B ≤ 30 ∧ B ≠ b := by
    by_cases c : (b : Int) = 9
    · exact ⟨10, by rw [decide_eq_true c, if_pos rfl]; rfl, by omega, by omega, by omega⟩
    · exact ⟨9, by rw [decide_eq_false c, if_neg (by decide)]; rfl, by omega, by omega, by omega⟩
  rw [hB]
  clear z2
  have h60 : ∀ K : Dat → Prop, K (.int ((2 ^ 60 : Nat) : Int)) → qShl (Dat.int 1) (Dat.int 60) K := fun K hK => by
    show qShl (Dat.int 1) (Dat.int ((60 : Nat) : Int)) K
    rw [shl1X (by omega)]
    exact hK
  show P_Machine [Dat.int (B : Int), Dat.int 2] w _
  rw [e_Machine, Int.toNat_natCast]
  refine ⟨⟨by omega, by omega, by omega, by omega⟩, ?_⟩
  refine h60 _ ?_
  have hm' : (⟨w.ms ++ [⟨B, 2, zeros, []⟩], w.ss, w.os⟩ : Wld).ms[w.ms.length]? = some ⟨B, 2, zeros, []⟩ := List.getElem?_concat_length
  have hm2 : (⟨w.ms ++ [⟨B, 2, zeros, []⟩], w.ss, w.os⟩ : Wld).ms[i]? = some ⟨b, cut, zeros, []⟩ := by
    show (w.ms ++ [_])[i]? = _
    rw [List.getElem?_append_left (List.getElem?_eq_some_iff.mp hm).1]
    exact hm
  have hk := h ⟨w.ms ++ [⟨B, 2, zeros, []⟩], w.ss, w.os⟩ rfl
  generalize (⟨w.ms ++ [⟨B, 2, zeros, []⟩], w.ss, w.os⟩ : Wld) = W at hm' hm2 hk ⊢
  generalize w.ms.length = i' at hm' ⊢
  have h60b : ((2 ^ 60 : Nat) : Int).natAbs < 2 ^ (B * 10) := by rw [Int.natAbs_natCast]; exact Nat.pow_lt_pow_right (by decide) (by omega)
  obtain ⟨u1, u2, _⟩ := k54_big hB1 hB2 h60b
  clear h60b
  generalize ((2 ^ 60 : Nat) : Int) = X60 at *
  rw [e_big, onM_is hm']
  refine ⟨u1, u2, by simp only [List.length_cons, List.length_nil]; omega, ?_⟩
  refine pg2 ?_
  exact k54_r1 (IC := IC) hm2 h8 h30 hB3 hk
theorem w_k54_refused : ∀ IC ds w k, P_k54_refused ds w k → p_k54_refused IC (pen k) (env0 8 ds) w := by
  intro IC ds w k h
  unfold P_k54_refused at h
  split at h
  · rename_i i wd
    obtain ⟨b, cut, rfl, ⟨h8, h30⟩, hm, h⟩ := h
    have hz := sizeLine_eq
    exact k54_p (IC := IC) hm h8 h30 h
  · exact h.elim
theorem b_k54_refused {K : PySem.W.Frag} {c : Pc} {vs : List V} {H : Hp} {Q : VK} {E : XK} {α : Prop} (PM : PM K c) (PB : α) (TS : c.ts.map (·.2) = [lamQ "_law_refused_right"]) {cl : List (Str × Addr)} {Lm0 Lm1 Lm2 Lm3 Lm4 : Lmb} (q0 : Lm0.q = lamQ "_law_refused_right") (q1 : Lm1.q = lamQ "_law_refused_right") (q2 : Lm2.q = lamQ "_law_refused_right") (q3 : Lm3.q = lamQ "_law_refused_right") (q4 : Lm4.q = lamQ "_law_refused_right") (h : sp_k54_refused K c vs H Q E) : t_k54_refused K c cl Lm0 Lm1 Lm2 Lm3 Lm4 (en0 Q) (st0 8 vs) H := def_ok (sn_k54_refused PM PB TS q0 q1 q2 q3 q4) (w_k54_refused _) h
theorem fib_mono {m n : Nat} (h : m ≤ n) : (fibP m).2 ≤ (fibP n).2 := by
  induction h with
  | refl => exact Nat.le_refl _
  | step _ ih =>
    rename_i n _
    have e2 : (fibP (n + 1)).2 = (fibP n).1 + (fibP n).2 := rfl
    rw [Nat.succ_eq_add_one, e2]
    omega
theorem fib_ge : ∀ n : Nat, 2 ^ n ≤ (fibP (2 * n)).2
  | 0 => Nat.le_refl _
  | n + 1 => by
    have := fib_ge n
    have e1 : (fibP (2 * (n + 1))).2 = (fibP (2 * n + 1)).1 + (fibP (2 * n + 1)).2 := rfl
    have e2 : (fibP (2 * n + 1)).1 = (fibP (2 * n)).2 := rfl
    have e3 : (fibP (2 * n + 1)).2 = (fibP (2 * n)).1 + (fibP (2 * n)).2 := rfl
    rw [e1, e2, e3, Nat.pow_succ]
    omega
def P_k54_law : PSp := P_lawO
def sp_k54_law (K : PySem.W.Frag) (c : Pc) : Sp := sp_lawT K c
/-- 0:_law_script 1:_law_cell 2:_law_source_here 3:_law_engine 4:_law_width 5:_law_turn 6:_law_xx 7:_law_yy 8:_law_tiny -/
def t_k54_law (K : PySem.W.Frag) (c : Pc) : TS :=
  (tSeq (tFor (iList K (tSl (rSlL K) (tOp (rCatQ K) (tVar 0) (tLst (tCons (tC (.int 0)) tNil))) tNoPart (tPart (tC (.int 5))))) (gName 1) (tSeq (tAsg (tCall (sp_x_source K c) [] E0 (tCons (tVar 1) tNil)) (gName 2))
  (tSeq (tAsg (tOp (rIxL K) (tCall (sp_x_engines K c) [] E0 (tCons (tVar 2) tNil)) (tC (.int 0))) (gName 3))
  (tSeq (tAsg (tOp (rIxT K) (tMeth c.CMachine "parts" (sp_Machine_parts K c) [] E0 (tVar 3) tNil) (tC (.int 0))) (gName 4))
  (tSeq (tFor (iRng1 (tCons (tC (.int 6)) tNil)) (gName 5) (tSeq (tAsg (tCall (sp_k54_pair K c) [] E0 (tCons (tVar 2) (tCons (tVar 4) tNil))) (gTup K 2 (gCons (gName 6) (gCons (gName 7) gNil))))
  (tIfS (tNot (L2.tB (tCall (sp_k54_right K c) [] E0 (tCons (tVar 3) (tCons (tVar 6) (tCons (tVar 7) (tCons (tVar 4) tNil))))))) (tRet (tC (.bl false))) tNext)))
  (tSeq (tAsg (tCall (sp_y_fibs K c) [] E0 (tCons (tOp rAdd (tOp rMul (tC (.int 5)) (tVar 4)) (tCall (sp_x_draw K c) [] E0 (tCons (tVar 2) (tCons (tC (.int 40)) tNil)))) tNil)) (gTup K 2 (gCons (gName 7) (gCons (gName 6) gNil))))
  (tIfS (tOr (tNot (L2.tB (tCall (sp_k54_right K c) [] E0 (tCons (tVar 3) (tCons (tVar 6) (tCons (tVar 7) (tCons (tVar 4) tNil))))))) (tNot (L2.tB (tCall (sp_k54_refused K c) [] E0 (tCons (tVar 3) (tCons (tVar 4) tNil)))))) (tRet (tC (.bl false))) tNext)))))))
  (tSeq (tAsg (tMake c.CMachine (sp_Machine_init K c) [] E0 (tCons (tC (.int 8)) (tCons (tC (.int 4)) tNil))) (gName 8))
  (tRet (tOp (rEqD K) (tCall (sp_g_lehmer K c) [] E0 (tCons (tVar 8) (tCons (tCall (sp_big K c) [] E0 (tCons (tVar 8) (tCons (tOp rShl (tC (.int 1)) (tC (.int 23))) tNil))) (tCons (tCall (sp_big K c) [] E0 (tCons (tVar 8) (tCons (tC (.int 5000000)) tNil))) tNil)))) (tTup (tCons (tLst (tCons (tC (.int 1)) (tCons (tC (.int 1)) (tCons (tC (.int 2)) (tCons (tC (.int 9)) (tCons (tC (.int 1)) tNil)))))) (tCons (tTup (tCons (tUn rNeg (tC (.int 28))) (tCons (tC (.int 47)) (tCons (tC (.int 31)) (tCons (tUn rNeg (tC (.int 52))) tNil))))) tNil)))))))
def b1_k54_law : PS :=
  (pSeq (pAsgG (pCall P_k54_pair (pCons (pVar 2) (pCons (pVar 4) pNil))) (pgTup [6, 7]))
  (pIfS (pNot (pTest (pCall P_k54_right (pCons (pVar 3) (pCons (pVar 6) (pCons (pVar 7) (pCons (pVar 4) pNil))))))) (pRet (pC (.bl false))) pNext))
def q1_k54_law : PS :=
  (pSeq (pAsg (pOp qIxL (pCall P_x_engines (pCons (pVar 2) pNil)) (pC (.int 0))) 3)
  (pSeq (pAsg (pOp qIxT (pMethM P_Machine_parts (pVar 3) pNil) (pC (.int 0))) 4)
  (pSeq (pFor (pIR1 (pC (.int 6))) (pgName 5) b1_k54_law)
  (pSeq (pAsgG (pCall P_y_fibs (pCons (pOp qAdd (pOp qMul (pC (.int 5)) (pVar 4)) (pCall P_x_draw (pCons (pVar 2) (pCons (pC (.int 40)) pNil)))) pNil)) (pgTup [7, 6]))
  (pIfS (pOr (pNot (pTest (pCall P_k54_right (pCons (pVar 3) (pCons (pVar 6) (pCons (pVar 7) (pCons (pVar 4) pNil))))))) (pNot (pTest (pCall P_k54_refused (pCons (pVar 3) (pCons (pVar 4) pNil)))))) (pRet (pC (.bl false))) pNext)))))
def b2_k54_law : PS :=
  (pSeq (pAsg (pCall P_x_source (pCons (pVar 1) pNil)) 2)
  q1_k54_law)
def r1_k54_law : PS :=
  (pSeq (pAsg (pCallD P_Machine [] (pCons (pC (.int 8)) (pCons (pC (.int 4)) pNil))) 8)
  (pRet (pOp qEqD (pCall P_g_lehmer (pCons (pVar 8) (pCons (pCall P_big (pCons (pVar 8) (pCons (pOp qShl (pC (.int 1)) (pC (.int 23))) pNil))) (pCons (pCall P_big (pCons (pVar 8) (pCons (pC (.int 5000000)) pNil))) pNil)))) (pTup (pCons (pFz (pLst (pCons (pC (.int 1)) (pCons (pC (.int 1)) (pCons (pC (.int 2)) (pCons (pC (.int 9)) (pCons (pC (.int 1)) pNil))))))) (pCons (pTup (pCons (pUn qNeg (pC (.int 28))) (pCons (pC (.int 47)) (pCons (pC (.int 31)) (pCons (pUn qNeg (pC (.int 52))) pNil))))) pNil))))))
def p_k54_law : PS :=
  (pSeq (pFor (pIL (pFz (pSlL (pFz (pOpF qCatQ (pVar 0) (pFz (pLst (pCons (pC (.int 0)) pNil))))) pNoPart (pPart (pC (.int 5)))))) (pgName 1) b2_k54_law)
  r1_k54_law)
theorem sn_k54_law {K : PySem.W.Frag} {c : Pc} {α : Prop} (PM : PM K c) (PB : α) : SndS K c (t_k54_law K c) p_k54_law :=
  (snd_seq (snd_for (snd_iList (snd_fz (snd_slL (snd_fz (snd_opF s_catQ snd_var (snd_fz (snd_lst (snd_cons (snd_int 0) snd_nil))))) snd_noPart (snd_part (snd_int 5))))) snd_gName (snd_seq (snd_asg (snd_call u_x_source (snd_cons snd_var snd_nil)))
  (snd_seq (snd_asg (snd_op s_ixL (snd_call u_x_engines (snd_cons snd_var snd_nil)) (snd_int 0)))
  (snd_seq (snd_asg (snd_op s_ixT (snd_methM (by decide) u_Machine_parts snd_var snd_nil) (snd_int 0)))
  (snd_seq (snd_for (snd_iR1 (snd_int 6)) snd_gName (snd_seq (snd_asgG (snd_call u_k54_pair (snd_cons snd_var (snd_cons snd_var snd_nil))) (snd_gTup (is := [6, 7]) rfl))
  (snd_ifS (snd_not (snd_tB (snd_call u_k54_right (snd_cons snd_var (snd_cons snd_var (snd_cons snd_var (snd_cons snd_var snd_nil))))))) (snd_ret (snd_bl false)) snd_next)))
  (snd_seq (snd_asgG (snd_call u_y_fibs (snd_cons (snd_op s_add (snd_op s_mul (snd_int 5) snd_var) (snd_call u_x_draw (snd_cons snd_var (snd_cons (snd_int 40) snd_nil)))) snd_nil)) (snd_gTup (is := [7, 6]) rfl))
  (snd_ifS (snd_or (snd_not (snd_tB (snd_call u_k54_right (snd_cons snd_var (snd_cons snd_var (snd_cons snd_var (snd_cons snd_var snd_nil))))))) (snd_not (snd_tB (snd_call u_k54_refused (snd_cons snd_var (snd_cons snd_var snd_nil)))))) (snd_ret (snd_bl false)) snd_next)))))))
  (snd_seq (snd_asg (snd_mkM (fun _ => .nil) (snd_cons (snd_int 8) (snd_cons (snd_int 4) snd_nil))))
  (snd_ret (snd_op s_eqD (snd_call u_g_lehmer (snd_cons snd_var (snd_cons (snd_call u_big (snd_cons snd_var (snd_cons (snd_op s_shl (snd_int 1) (snd_int 23)) snd_nil))) (snd_cons (snd_call u_big (snd_cons snd_var (snd_cons (snd_int 5000000) snd_nil))) snd_nil)))) (snd_tup (snd_cons (snd_fz (snd_lst (snd_cons (snd_int 1) (snd_cons (snd_int 1) (snd_cons (snd_int 2) (snd_cons (snd_int 9) (snd_cons (snd_int 1) snd_nil))))))) (snd_cons (snd_tup (snd_cons (snd_neg (snd_int 28)) (snd_cons (snd_int 47) (snd_cons (snd_int 31) (snd_cons (snd_neg (snd_int 52)) snd_nil))))) snd_nil)))))))
theorem w_k54_law : ∀ ds w k, P_k54_law ds w k → p_k54_law (pen k) (env0 9 ds) w := by
  intro ds w k h
  unfold P_k54_law P_lawO P_law0 at h
  obtain ⟨hos, h⟩ := h
  split at h
  · rename_i l
    obtain ⟨ns, rfl, hl, h⟩ := h
    have hz := sizeLine_eq
    unfold p_k54_law
    walk_at "pu"
    refine ⟨by omega, by rw [List.length_map]; omega, ?_⟩
    have hall : ∀ d ∈ cutD (ns.map Dat.int ++ [Dat.int 0]) none (some 5), ∃ z : Int, d = .int z := cut_all (P := fun d => ∃ z, d = .int z) (fun d hd => by
      rcases List.mem_append.mp hd with y | y
      · obtain ⟨z, _, rfl⟩ := List.mem_map.mp y; exact ⟨z, rfl⟩
      · exact ⟨0, List.mem_singleton.mp y⟩) _ _
    refine lp_ind (fun _ e w' => w'.os = [] ∧ ∃ y1 y2 y3 y4 y5 y6 y7 y8, e = [.val (.cst (ns.map Dat.int)), y1, y2, y3, y4, y5, y6, y7, y8]) ⟨hos, _, _, _, _, _, _, _, _, rfl⟩ ?_ ?_
    · rintro q d e w nx hd ⟨hos, y1, y2, y3, y4, y5, y6, y7, y8, rfl⟩ hn
      obtain ⟨z, rfl⟩ := hall d (List.mem_of_getElem? hd)
      unfold b2_k54_law
      walk_at "pu"
      rw [e_x_source]
      unfold q1_k54_law
      walk_at "pu"
      rw [e_x_engines]
      refine ⟨Nat.lt_succ_self _, fun b cut hb1 hb2 hc1 hc2 => ?_⟩
      dsimp only
      obtain ⟨W, hW⟩ : ∃ W : Wld, W = ⟨w.ms ++ [⟨b, cut, zeros, []⟩, ⟨b, cut, zeros, []⟩], w.ss + 1, w.os⟩ := ⟨_, rfl⟩
      rw [← hW]
      have hm : W.ms[w.ms.length]? = some ⟨b, cut, zeros, []⟩ := by
        rw [hW]
        show (w.ms ++ [_, _])[w.ms.length]? = _
        rw [List.getElem?_append_right (Nat.le_refl _), Nat.sub_self]; rfl
      have hs : w.ss < W.ss := by rw [hW]; exact Nat.lt_succ_self _
      have hos' : W.os = [] := by rw [hW]; exact hos
      clear hW
      generalize w.ms.length = i at hm ⊢
      generalize w.ss = j at hs ⊢
      walk_at "pu"
      rw [onM_is hm]
      refine ⟨⟨by decide, by decide⟩, ?_⟩
      have right : ∀ (N M : Nat) (K : Dat → Wld → Prop), M ≤ N → 3 ≤ (digs b N).length → (digs b N).length ≤ 200 → K (.bl true) W → P_k54_right [.mach i, .int (N : Int), .int (M : Int), .int (b : Int)] W K := fun N M K h1 h2 h3 h4 => by
        rw [e_k54_right, onM_is hm]
        exact ⟨hos', N, M, b, cut, ⟨rfl, rfl⟩, rfl, rfl, ⟨hb1, hb2⟩, h1, ⟨h2, h3⟩, h4⟩
      refine lp_ind (fun _ e w' => w' = W ∧ ∃ y5 y6 y7, e = [.val (.cst (ns.map Dat.int)), .val (.int z), .val (.src j), .val (.mach i), .val (.int (b : Int)), y5, y6, y7, y8]) ⟨rfl, _, _, _, rfl⟩ ?_ ?_
      · rintro t d e w' nx2 hd2 ⟨rfl, y5, y6, y7, rfl⟩ hn2
        obtain ⟨ht2, rfl⟩ := rng_get hd2
        unfold b1_k54_law
        walk_at "pu"
        rw [e_k54_pair]
        refine ⟨b, rfl, hs, ⟨hb1, hb2⟩, fun N M h1 h2 h3 => ?_⟩
        walk_at "pu"
        refine right N M _ h1 h2 (by omega) ?_
        walk_at "pu"
        exact hn2 _ _ ⟨rfl, _, _, _, rfl⟩
      · rintro e w' ⟨rfl, y5, y6, y7, rfl⟩
        walk_at "pu"
        rw [e_x_draw]
        refine ⟨mul_okL (by decide) (by decide), hs, nxOk (by decide) (by decide), fun r hr0 hr => ?_⟩
        walk_at "pu"
        obtain ⟨t, ht⟩ : ∃ t : Nat, 5 * (b : Int) + r = ((t + 1 : Nat) : Int) := ⟨(5 * (b : Int) + r).toNat - 1, by omega⟩
        rw [ht, e_y_fibs]
        refine ⟨t + 1, rfl, by omega, by omega, ?_⟩
        rw [Nat.add_sub_cancel]
        walk_at "pu"
        obtain ⟨f1, f2, f3, f4⟩ := fibP_lt t
        have hge : 2 ^ (2 * b) ≤ (fibP t).2 := Nat.le_trans (fib_ge (2 * b)) (fib_mono (show 2 * (2 * b) ≤ t by omega))
        have hlt : (fibP t).2 < 2 ^ (b * 200) := Nat.lt_of_lt_of_le (Nat.lt_of_succ_le (f4 (by omega))) (Nat.pow_le_pow_right (by decide) (by omega))
        have l3 : ¬ (digs b (fibP t).2).length ≤ 2 := fun c => by
          have := lt_digsX (b := b) (by omega) c
          rw [Nat.mul_comm b 2] at this
          omega
        have l200 : (digs b (fibP t).2).length ≤ 200 := digs_length_le (by omega) _ hlt
        clear hge hlt f4
        generalize (fibP t).1 = p at *
        generalize (fibP t).2 = q at *
        refine right q p _ f2 (by omega) l200 ?_
        walk_at "pu"
        rw [e_k54_refused]
        refine ⟨b, cut, rfl, ⟨hb1, hb2⟩, hm, fun w3 h3 => ?_⟩
        walk_at "pu"
        exact hn _ _ ⟨h3.trans hos', _, _, _, _, _, _, _, _, rfl⟩
    · rintro e w ⟨hos, y1, y2, y3, y4, y5, y6, y7, y8, rfl⟩
      unfold r1_k54_law
      walk_at "pu"
      refine ⟨⟨by decide, by decide, by decide, by decide⟩, ?_⟩
      have hm : (⟨w.ms ++ [⟨Int.toNat 8, 4, zeros, []⟩], w.ss, w.os⟩ : Wld).ms[w.ms.length]? = some ⟨8, 4, zeros, []⟩ := List.getElem?_concat_length
      generalize (⟨w.ms ++ [⟨Int.toNat 8, 4, zeros, []⟩], w.ss, w.os⟩ : Wld) = W at hm ⊢
      generalize w.ms.length = i at hm ⊢
      have h23 : ∀ K : Dat → Prop, K (.int 8388608) → qShl (Dat.int 1) (Dat.int 23) K := fun K hK => by
        rw [eShl]
        exact ⟨shl_one (b := 23) (by omega), hK⟩
      refine h23 _ ?_
      have d1 : digs 8 8388608 = [0, 0, 128] := by simp [digs]
      have d2 : digs 8 5000000 = [64, 75, 76] := by simp [digs]
      have n1 : Int.natAbs 8388608 = 8388608 := rfl
      have n2 : Int.natAbs 5000000 = 5000000 := rfl
      walk_at "pu"
      simp only [onM_is hm]
      rw [n1, n2, d1, d2]
      refine ⟨by decide, by simp, by decide, by simp, ?_⟩
      rw [e_g_lehmer, onM_is hm]
      have x1 : (lhR 8 8388608 5000000).1 = [1, 1, 2, 9, 1] := by decide +kernel
      have x2 : lhF (lhR 8 8388608 5000000) = (-28, 47, 31, -52) := by decide +kernel
      refine ⟨8388608, 5000000, ⟨rfl, rfl⟩, ⟨rfl, rfl⟩, by decide, by decide, ⟨by show 3 ≤ (digs 8 8388608).length; rw [d1]; decide, by show (digs 8 8388608).length ≤ 3000; rw [d1]; decide⟩, ?_⟩
      show 5 ≤ sizeLine ∧ _
      have hb : (⟨8, 4, zeros, []⟩ : Mach).b = 8 := rfl
      rw [hb, x1, x2]
      refine ⟨by omega, by omega, by omega, ⟨rfl, rfl⟩, fun b e1 _ => ?_⟩
      rw [e1 rfl]
      exact h _
  · exact h.elim
theorem b_k54_law {K : PySem.W.Frag} {c : Pc} {vs : List V} {H : Hp} {Q : VK} {E : XK} {α : Prop} (PM : PM K c) (PB : α) (ND : (c.ts.map (·.1)).Nodup) (h : sp_k54_law K c vs H Q E) : t_k54_law K c (en0 Q) (st0 9 vs) H := def_ok (sn_k54_law PM PB) w_k54_law (law_lifTO ND h)
end Eng
namespace Law
open PySem PySem.Spec PyProof.Rows L2 Eng
def top (i : Nat) : Stmt := PySem.Challenge.pw_thirtybits_k54_whole_steps_of_lehmer.main.body.getD i (.Pass ⟨0, 0, 0, 0⟩)
abbrev s_InvalidBound_init : Stmt := inClass (top 4) 0
abbrev N_InvalidBound_init : List Str := ["self", "argument"]
theorem sc_InvalidBound_init : FnScope N_InvalidBound_init ["self", "argument"] (defScope s_InvalidBound_init) := ⟨rfl, rfl, rfl, by decide +kernel, rfl, by decide +kernel, by decide +kernel⟩
abbrev s_is_integer : Stmt := top 6
abbrev N_is_integer : List Str := ["value"]
theorem sc_is_integer : FnScope N_is_integer ["value"] (defScope s_is_integer) := ⟨rfl, rfl, rfl, by decide +kernel, rfl, by decide +kernel, by decide +kernel⟩
abbrev s_is_between : Stmt := top 7
abbrev N_is_between : List Str := ["value", "low", "high"]
theorem sc_is_between : FnScope N_is_between ["value", "low", "high"] (defScope s_is_between) := ⟨rfl, rfl, rfl, by decide +kernel, rfl, by decide +kernel, by decide +kernel⟩
abbrev s_check_integer : Stmt := top 8
abbrev N_check_integer : List Str := ["argument", "value"]
theorem sc_check_integer : FnScope N_check_integer ["argument", "value"] (defScope s_check_integer) := ⟨rfl, rfl, rfl, by decide +kernel, rfl, by decide +kernel, by decide +kernel⟩
abbrev s_Machine_init : Stmt := inClass (top 15) 0
abbrev N_Machine_init : List Str := ["self", "bits", "cutoff", "word"]
theorem sc_Machine_init : FnScope N_Machine_init ["self", "bits", "cutoff"] (defScope s_Machine_init) := ⟨rfl, rfl, rfl, by decide +kernel, rfl, by decide +kernel, by decide +kernel⟩
abbrev s_Machine_parts : Stmt := inClass (top 15) 2
abbrev N_Machine_parts : List Str := ["self"]
theorem sc_Machine_parts : FnScope N_Machine_parts ["self"] (defScope s_Machine_parts) := ⟨rfl, rfl, rfl, by decide +kernel, rfl, by decide +kernel, by decide +kernel⟩
abbrev s_Machine_tally : Stmt := inClass (top 15) 3
abbrev N_Machine_tally : List Str := ["self", "word"]
theorem sc_Machine_tally : FnScope N_Machine_tally ["self"] (defScope s_Machine_tally) := ⟨rfl, rfl, rfl, by decide +kernel, rfl, by decide +kernel, by decide +kernel⟩
abbrev s_Machine_walk : Stmt := inClass (top 15) 4
abbrev N_Machine_walk : List Str := ["self"]
theorem sc_Machine_walk : FnScope N_Machine_walk ["self"] (defScope s_Machine_walk) := ⟨rfl, rfl, rfl, by decide +kernel, rfl, by decide +kernel, by decide +kernel⟩
abbrev s_Machine_reset : Stmt := inClass (top 15) 5
abbrev N_Machine_reset : List Str := ["self", "word"]
theorem sc_Machine_reset : FnScope N_Machine_reset ["self"] (defScope s_Machine_reset) := ⟨rfl, rfl, rfl, by decide +kernel, rfl, by decide +kernel, by decide +kernel⟩
abbrev s_Machine_count : Stmt := inClass (top 15) 6
abbrev N_Machine_count : List Str := ["self", "word", "number"]
theorem sc_Machine_count : FnScope N_Machine_count ["self", "word", "number"] (defScope s_Machine_count) := ⟨rfl, rfl, rfl, by decide +kernel, rfl, by decide +kernel, by decide +kernel⟩
abbrev s_check_machine : Stmt := top 16
abbrev N_check_machine : List Str := ["value"]
theorem sc_check_machine : FnScope N_check_machine ["value"] (defScope s_check_machine) := ⟨rfl, rfl, rfl, by decide +kernel, rfl, by decide +kernel, by decide +kernel⟩
abbrev s_Big_init : Stmt := inClass (top 18) 0
abbrev N_Big_init : List Str := ["self", "width", "side", "row"]
theorem sc_Big_init : FnScope N_Big_init ["self", "width", "side", "row"] (defScope s_Big_init) := ⟨rfl, rfl, rfl, by decide +kernel, rfl, by decide +kernel, by decide +kernel⟩
abbrev s_made : Stmt := top 19
abbrev N_made : List Str := ["machine", "side", "digits", "size"]
theorem sc_made : FnScope N_made ["machine", "side", "digits"] (defScope s_made) := ⟨rfl, rfl, rfl, by decide +kernel, rfl, by decide +kernel, by decide +kernel⟩
abbrev s_digits_of : Stmt := top 20
abbrev N_digits_of : List Str := ["machine", "n", "found"]
theorem sc_digits_of : FnScope N_digits_of ["machine", "n"] (defScope s_digits_of) := ⟨rfl, rfl, rfl, by decide +kernel, rfl, by decide +kernel, by decide +kernel⟩
abbrev s_big_of : Stmt := top 21
abbrev N_big_of : List Str := ["machine", "n"]
theorem sc_big_of : FnScope N_big_of ["machine", "n"] (defScope s_big_of) := ⟨rfl, rfl, rfl, by decide +kernel, rfl, by decide +kernel, by decide +kernel⟩
abbrev s_value_of : Stmt := top 22
abbrev N_value_of : List Str := ["x", "found", "digit"]
theorem sc_value_of : FnScope N_value_of ["x"] (defScope s_value_of) := ⟨rfl, rfl, rfl, by decide +kernel, rfl, by decide +kernel, by decide +kernel⟩
abbrev s_check_big : Stmt := top 23
abbrev N_check_big : List Str := ["machine", "argument", "value"]
theorem sc_check_big : FnScope N_check_big ["machine", "argument", "value"] (defScope s_check_big) := ⟨rfl, rfl, rfl, by decide +kernel, rfl, by decide +kernel, by decide +kernel⟩
abbrev s_check_bigs : Stmt := top 24
abbrev N_check_bigs : List Str := ["machine", "x", "y"]
theorem sc_check_bigs : FnScope N_check_bigs ["machine", "x", "y"] (defScope s_check_bigs) := ⟨rfl, rfl, rfl, by decide +kernel, rfl, by decide +kernel, by decide +kernel⟩
abbrev s_big : Stmt := top 25
abbrev N_big : List Str := ["machine", "n"]
theorem sc_big : FnScope N_big ["machine", "n"] (defScope s_big) := ⟨rfl, rfl, rfl, by decide +kernel, rfl, by decide +kernel, by decide +kernel⟩
abbrev s_first_bits : Stmt := top 28
abbrev N_first_bits : List Str := ["row", "size", "width", "bits", "one", "other", "third", "place"]
theorem sc_first_bits : FnScope N_first_bits ["row", "size", "width", "bits"] (defScope s_first_bits) := ⟨rfl, rfl, rfl, by decide +kernel, rfl, by decide +kernel, by decide +kernel⟩
abbrev s_step_of : Stmt := top 29
abbrev N_step_of : List Str := ["machine", "x", "y", "size", "bits", "m", "n", "row", "a", "b", "c", "d", "found", "quotient"]
theorem sc_step_of : FnScope N_step_of ["machine", "x", "y"] (defScope s_step_of) := ⟨rfl, rfl, rfl, by decide +kernel, rfl, by decide +kernel, by decide +kernel⟩
abbrev s_lehmer_step : Stmt := top 30
abbrev N_lehmer_step : List Str := ["machine", "x", "y"]
theorem sc_lehmer_step : FnScope N_lehmer_step ["machine", "x", "y"] (defScope s_lehmer_step) := ⟨rfl, rfl, rfl, by decide +kernel, rfl, by decide +kernel, by decide +kernel⟩
abbrev s_law_mixed : Stmt := top 32
abbrev N_law_mixed : List Str := ["_law_cell", "_law_turn", "_law_figure"]
theorem sc_law_mixed : FnScope N_law_mixed ["_law_cell", "_law_turn"] (defScope s_law_mixed) := ⟨rfl, rfl, rfl, by decide +kernel, rfl, by decide +kernel, by decide +kernel⟩
abbrev s_law_source : Stmt := top 33
abbrev N_law_source : List Str := ["_law_cell"]
theorem sc_law_source : FnScope N_law_source ["_law_cell"] (defScope s_law_source) := ⟨rfl, rfl, rfl, by decide +kernel, rfl, by decide +kernel, by decide +kernel⟩
abbrev s_law_draw : Stmt := top 34
abbrev N_law_draw : List Str := ["_law_source_here", "_law_bound", "_law_drawn"]
theorem sc_law_draw : FnScope N_law_draw ["_law_source_here", "_law_bound"] (defScope s_law_draw) := ⟨rfl, rfl, rfl, by decide +kernel, rfl, by decide +kernel, by decide +kernel⟩
abbrev s_law_one : Stmt := top 35
abbrev N_law_one : List Str := ["_law_source_here", "_law_some"]
theorem sc_law_one : FnScope N_law_one ["_law_source_here", "_law_some"] (defScope s_law_one) := ⟨rfl, rfl, rfl, by decide +kernel, rfl, by decide +kernel, by decide +kernel⟩
abbrev s_law_engines : Stmt := top 36
abbrev N_law_engines : List Str := ["_law_source_here", "_law_width", "_law_edge", "_law_k"]
theorem sc_law_engines : FnScope N_law_engines ["_law_source_here"] (defScope s_law_engines) := ⟨rfl, rfl, rfl, by decide +kernel, rfl, by decide +kernel, by decide +kernel⟩
abbrev s_law_count_of : Stmt := top 37
abbrev N_law_count_of : List Str := ["_law_source_here", "_law_width", "_law_size_here", "_law_found", "_law_k", "_law_some", "_law_digit"]
theorem sc_law_count_of : FnScope N_law_count_of ["_law_source_here", "_law_width", "_law_size_here"] (defScope s_law_count_of) := ⟨rfl, rfl, rfl, by decide +kernel, rfl, by decide +kernel, by decide +kernel⟩
abbrev s_law_number : Stmt := top 38
abbrev N_law_number : List Str := ["_law_source_here", "_law_width", "_law_most", "_law_size_here"]
theorem sc_law_number : FnScope N_law_number ["_law_source_here", "_law_width", "_law_most"] (defScope s_law_number) := ⟨rfl, rfl, rfl, by decide +kernel, rfl, by decide +kernel, by decide +kernel⟩
abbrev s_law_size : Stmt := top 39
abbrev N_law_size : List Str := ["_law_n", "_law_width"]
theorem sc_law_size : FnScope N_law_size ["_law_n", "_law_width"] (defScope s_law_size) := ⟨rfl, rfl, rfl, by decide +kernel, rfl, by decide +kernel, by decide +kernel⟩
abbrev s_law_fibs : Stmt := top 40
abbrev N_law_fibs : List Str := ["_law_k", "_law_one_here", "_law_other", "_law_turn"]
theorem sc_law_fibs : FnScope N_law_fibs ["_law_k"] (defScope s_law_fibs) := ⟨rfl, rfl, rfl, by decide +kernel, rfl, by decide +kernel, by decide +kernel⟩
abbrev s_law_step : Stmt := top 41
abbrev N_law_step : List Str := ["_law_xx", "_law_yy", "_law_width", "_law_cut", "_law_m", "_law_n", "_law_asked", "_law_found", "_law_a", "_law_b", "_law_c", "_law_d", "_law_guess"]
theorem sc_law_step : FnScope N_law_step ["_law_xx", "_law_yy", "_law_width"] (defScope s_law_step) := ⟨rfl, rfl, rfl, by decide +kernel, rfl, by decide +kernel, by decide +kernel⟩
abbrev s_law_pair : Stmt := top 42
abbrev N_law_pair : List Str := ["_law_source_here", "_law_width", "_law_size_here", "_law_xx", "_law_some", "_law_yy"]
theorem sc_law_pair : FnScope N_law_pair ["_law_source_here", "_law_width"] (defScope s_law_pair) := ⟨rfl, rfl, rfl, by decide +kernel, rfl, by decide +kernel, by decide +kernel⟩
abbrev s_law_facts_right : Stmt := top 43
abbrev N_law_facts_right : List Str := ["_law_xx", "_law_yy", "_law_quotients", "_law_four", "_law_base", "_law_m", "_law_n", "_law_guess", "_law_p", "_law_q", "_law_r", "_law_s", "_law_one_here"]
theorem sc_law_facts_right : FnScope N_law_facts_right ["_law_xx", "_law_yy", "_law_quotients", "_law_four", "_law_base"] (defScope s_law_facts_right) := ⟨rfl, rfl, rfl, by decide +kernel, rfl, by decide +kernel, by decide +kernel⟩
abbrev s_law_right : Stmt := top 44
abbrev N_law_right : List Str := ["_law_engine", "_law_xx", "_law_yy", "_law_width", "_law_held", "_law_quotients", "_law_four", "_law_asked", "_law_row"]
theorem sc_law_right : FnScope N_law_right ["_law_engine", "_law_xx", "_law_yy", "_law_width"] (defScope s_law_right) := ⟨rfl, rfl, rfl, by decide +kernel, rfl, by decide +kernel, by decide +kernel⟩
abbrev s_law_said : Stmt := top 45
abbrev N_law_said : List Str := ["_law_ask", "e"]
theorem sc_law_said : FnScope N_law_said ["_law_ask"] (defScope s_law_said) := ⟨rfl, rfl, rfl, by decide +kernel, rfl, by decide +kernel, by decide +kernel⟩
abbrev s_law_deep : Stmt := top 46
abbrev N_law_deep : List Str := ["_law_is_list", "_law_found", "_law_turn"]
theorem sc_law_deep : FnScope N_law_deep ["_law_is_list"] (defScope s_law_deep) := ⟨rfl, rfl, rfl, by decide +kernel, rfl, by decide +kernel, by decide +kernel⟩
abbrev s_law_refused_right : Stmt := top 47
abbrev N_law_refused_right : List Str := ["_law_engine", "_law_width", "_law_xx", "_law_odd", "_law_yy", "_law_asks", "_law_ask", "_law_row"]
theorem sc_law_refused_right : FnScope N_law_refused_right ["_law_engine", "_law_width"] (defScope s_law_refused_right) := ⟨rfl, rfl, rfl, by decide +kernel, rfl, by decide +kernel, by decide +kernel⟩
abbrev s_law : Stmt := top 48
abbrev N_law : List Str := ["_law_script", "_law_cell", "_law_source_here", "_law_engine", "_law_width", "_law_turn", "_law_xx", "_law_yy", "_law_tiny"]
theorem sc_law : FnScope N_law ["_law_script"] (defScope s_law) := ⟨rfl, rfl, rfl, by decide +kernel, rfl, by decide +kernel, by decide +kernel⟩
/-- where all stands -/
structure Ad where
  c : Pc
  f_InvalidBound_init : Addr
  fd_InvalidBound_init : FuncData
  f_is_integer : Addr
  fd_is_integer : FuncData
  f_is_between : Addr
  fd_is_between : FuncData
  f_check_integer : Addr
  fd_check_integer : FuncData
  f_Machine_init : Addr
  fd_Machine_init : FuncData
  f_Machine_parts : Addr
  fd_Machine_parts : FuncData
  f_Machine_tally : Addr
  fd_Machine_tally : FuncData
  f_Machine_walk : Addr
  fd_Machine_walk : FuncData
  f_Machine_reset : Addr
  fd_Machine_reset : FuncData
  f_Machine_count : Addr
  fd_Machine_count : FuncData
  f_check_machine : Addr
  fd_check_machine : FuncData
  f_Big_init : Addr
  fd_Big_init : FuncData
  f_made : Addr
  fd_made : FuncData
  f_digits_of : Addr
  fd_digits_of : FuncData
  f_big_of : Addr
  fd_big_of : FuncData
  f_value_of : Addr
  fd_value_of : FuncData
  f_check_big : Addr
  fd_check_big : FuncData
  f_check_bigs : Addr
  fd_check_bigs : FuncData
  f_big : Addr
  fd_big : FuncData
  f_first_bits : Addr
  fd_first_bits : FuncData
  f_step_of : Addr
  fd_step_of : FuncData
  f_lehmer_step : Addr
  fd_lehmer_step : FuncData
  f_law_mixed : Addr
  fd_law_mixed : FuncData
  f_law_source : Addr
  fd_law_source : FuncData
  f_law_draw : Addr
  fd_law_draw : FuncData
  f_law_one : Addr
  fd_law_one : FuncData
  f_law_engines : Addr
  fd_law_engines : FuncData
  f_law_count_of : Addr
  fd_law_count_of : FuncData
  f_law_number : Addr
  fd_law_number : FuncData
  f_law_size : Addr
  fd_law_size : FuncData
  f_law_fibs : Addr
  fd_law_fibs : FuncData
  f_law_step : Addr
  fd_law_step : FuncData
  f_law_pair : Addr
  fd_law_pair : FuncData
  f_law_facts_right : Addr
  fd_law_facts_right : FuncData
  f_law_right : Addr
  fd_law_right : FuncData
  f_law_said : Addr
  fd_law_said : FuncData
  f_law_deep : Addr
  fd_law_deep : FuncData
  f_law_refused_right : Addr
  fd_law_refused_right : FuncData
  f_law : Addr
  fd_law : FuncData
  cc_law_refused_right : Addr
/-- what the top has left -/
structure Txt (K : PySem.W.Frag) (mg : Str → Option Value) (a : Ad) : Prop where
  TS : a.c.ts.map (·.2) = [lamQ "_law_refused_right"]
  ND : (a.c.ts.map (·.1)).Nodup
  C_law_refused_right : FunC K "_law_refused_right" "_law_refused_right" s_law_refused_right a.f_law_refused_right a.fd_law_refused_right a.cc_law_refused_right
  xb : AexB K (a.c.xs.getD 0 0)
  gx_BitsError : mg "BitsError" = some (.ref (a.c.xs.getD 0 0))
  XMf : Pu.XM K a.c [1, 5]
  xf_InvalidBound : XfC K (a.c.xs.getD 1 0)
  xn_InvalidBound : PySem.W.findIn K (.ref (a.c.xs.getD 1 0)) "argument" = some none
  IS : Pu.IsiK K a.c
  ax_InvalidBound : AexC K (a.c.xs.getD 1 0)
  ai_InvalidBound : PySem.W.findIn K (.ref (a.c.xs.getD 1 0)) "__init__" = some (some (.ref a.f_InvalidBound_init))
  at_InvalidBound : PySem.W.typeIn K (.ref a.f_InvalidBound_init) = some (.type "function")
  gx_InvalidBound : mg "InvalidBound" = some (.ref (a.c.xs.getD 1 0))
  axf_InvalidBound : AexF K (a.c.xs.getD 1 0) "argument"
  PM : Eng.PM K a.c
  PB : Eng.PB K a.c
  g_Machine : mg "Machine" = some (.ref a.c.CMachine)
  cl_Machine : Cls K a.c.CMachine
  mk_Machine : Mk K a.c.CMachine a.f_Machine_init
  g_Big : mg "Big" = some (.ref a.c.CBig)
  cl_Big : Cls K a.c.CBig
  mk_Big : Mk K a.c.CBig a.f_Big_init
  g_FEW_DIGITS : ∃ u, mg "FEW_DIGITS" = some u ∧ RelV (.int 2) u
  g_LEAST_BITS : ∃ u, mg "LEAST_BITS" = some u ∧ RelV (.int 8) u
  g_MOST_BITS : ∃ u, mg "MOST_BITS" = some u ∧ RelV (.int 30) u
  g_MOST_CUTOFF : ∃ u, mg "MOST_CUTOFF" = some u ∧ RelV (.int 1000) u
  g_WORDS : mg "WORDS" = some (.ref a.c.aWORDS)
  F_InvalidBound_init : Fun K "__init__" "InvalidBound.__init__" s_InvalidBound_init a.f_InvalidBound_init a.fd_InvalidBound_init
  b_InvalidBound_init : Binds K a.fd_InvalidBound_init ["self", "argument"] []
  F_is_integer : Fun K "is_integer" "is_integer" s_is_integer a.f_is_integer a.fd_is_integer
  m_is_integer : mg "is_integer" = some (.ref a.f_is_integer)
  b_is_integer : Binds K a.fd_is_integer ["value"] []
  F_is_between : Fun K "is_between" "is_between" s_is_between a.f_is_between a.fd_is_between
  m_is_between : mg "is_between" = some (.ref a.f_is_between)
  b_is_between : Binds K a.fd_is_between ["value", "low", "high"] []
  F_check_integer : Fun K "check_integer" "check_integer" s_check_integer a.f_check_integer a.fd_check_integer
  m_check_integer : mg "check_integer" = some (.ref a.f_check_integer)
  b_check_integer : Binds K a.fd_check_integer ["argument", "value"] []
  F_Machine_init : FunD K "__init__" "Machine.__init__" (defArgs s_Machine_init) (defBody s_Machine_init) (defScope s_Machine_init) [(.int 30), (.int 70)] [] a.f_Machine_init a.fd_Machine_init
  b_Machine_init : Binds K a.fd_Machine_init ["self", "bits", "cutoff"] []
  F_Machine_parts : Fun K "parts" "Machine.parts" s_Machine_parts a.f_Machine_parts a.fd_Machine_parts
  me_Machine_parts : Meth K a.c.CMachine "parts" a.f_Machine_parts
  b_Machine_parts : Binds K a.fd_Machine_parts ["self"] []
  F_Machine_tally : Fun K "tally" "Machine.tally" s_Machine_tally a.f_Machine_tally a.fd_Machine_tally
  me_Machine_tally : Meth K a.c.CMachine "tally" a.f_Machine_tally
  b_Machine_tally : Binds K a.fd_Machine_tally ["self"] []
  F_Machine_walk : Fun K "walk" "Machine.walk" s_Machine_walk a.f_Machine_walk a.fd_Machine_walk
  me_Machine_walk : Meth K a.c.CMachine "walk" a.f_Machine_walk
  b_Machine_walk : Binds K a.fd_Machine_walk ["self"] []
  F_Machine_reset : Fun K "reset" "Machine.reset" s_Machine_reset a.f_Machine_reset a.fd_Machine_reset
  me_Machine_reset : Meth K a.c.CMachine "reset" a.f_Machine_reset
  b_Machine_reset : Binds K a.fd_Machine_reset ["self"] []
  F_Machine_count : Fun K "count" "Machine.count" s_Machine_count a.f_Machine_count a.fd_Machine_count
  me_Machine_count : Meth K a.c.CMachine "count" a.f_Machine_count
  b_Machine_count : Binds K a.fd_Machine_count ["self", "word", "number"] []
  F_check_machine : Fun K "check_machine" "check_machine" s_check_machine a.f_check_machine a.fd_check_machine
  m_check_machine : mg "check_machine" = some (.ref a.f_check_machine)
  b_check_machine : Binds K a.fd_check_machine ["value"] []
  F_Big_init : Fun K "__init__" "Big.__init__" s_Big_init a.f_Big_init a.fd_Big_init
  b_Big_init : Binds K a.fd_Big_init ["self", "width", "side", "row"] []
  F_made : Fun K "made" "made" s_made a.f_made a.fd_made
  m_made : mg "made" = some (.ref a.f_made)
  b_made : Binds K a.fd_made ["machine", "side", "digits"] []
  F_digits_of : Fun K "digits_of" "digits_of" s_digits_of a.f_digits_of a.fd_digits_of
  m_digits_of : mg "digits_of" = some (.ref a.f_digits_of)
  b_digits_of : Binds K a.fd_digits_of ["machine", "n"] []
  F_big_of : Fun K "big_of" "big_of" s_big_of a.f_big_of a.fd_big_of
  m_big_of : mg "big_of" = some (.ref a.f_big_of)
  b_big_of : Binds K a.fd_big_of ["machine", "n"] []
  F_value_of : Fun K "value_of" "value_of" s_value_of a.f_value_of a.fd_value_of
  m_value_of : mg "value_of" = some (.ref a.f_value_of)
  b_value_of : Binds K a.fd_value_of ["x"] []
  F_check_big : Fun K "check_big" "check_big" s_check_big a.f_check_big a.fd_check_big
  m_check_big : mg "check_big" = some (.ref a.f_check_big)
  b_check_big : Binds K a.fd_check_big ["machine", "argument", "value"] []
  F_check_bigs : Fun K "check_bigs" "check_bigs" s_check_bigs a.f_check_bigs a.fd_check_bigs
  m_check_bigs : mg "check_bigs" = some (.ref a.f_check_bigs)
  b_check_bigs : Binds K a.fd_check_bigs ["machine", "x", "y"] []
  F_big : Fun K "big" "big" s_big a.f_big a.fd_big
  m_big : mg "big" = some (.ref a.f_big)
  b_big : Binds K a.fd_big ["machine", "n"] []
  F_first_bits : Fun K "first_bits" "first_bits" s_first_bits a.f_first_bits a.fd_first_bits
  m_first_bits : mg "first_bits" = some (.ref a.f_first_bits)
  b_first_bits : Binds K a.fd_first_bits ["row", "size", "width", "bits"] []
  F_step_of : Fun K "step_of" "step_of" s_step_of a.f_step_of a.fd_step_of
  m_step_of : mg "step_of" = some (.ref a.f_step_of)
  b_step_of : Binds K a.fd_step_of ["machine", "x", "y"] []
  F_lehmer_step : Fun K "lehmer_step" "lehmer_step" s_lehmer_step a.f_lehmer_step a.fd_lehmer_step
  m_lehmer_step : mg "lehmer_step" = some (.ref a.f_lehmer_step)
  b_lehmer_step : Binds K a.fd_lehmer_step ["machine", "x", "y"] []
  F_law_mixed : Fun K "_law_mixed" "_law_mixed" s_law_mixed a.f_law_mixed a.fd_law_mixed
  m_law_mixed : mg "_law_mixed" = some (.ref a.f_law_mixed)
  b_law_mixed : Binds K a.fd_law_mixed ["_law_cell", "_law_turn"] []
  F_law_source : Fun K "_law_source" "_law_source" s_law_source a.f_law_source a.fd_law_source
  m_law_source : mg "_law_source" = some (.ref a.f_law_source)
  b_law_source : Binds K a.fd_law_source ["_law_cell"] []
  F_law_draw : Fun K "_law_draw" "_law_draw" s_law_draw a.f_law_draw a.fd_law_draw
  m_law_draw : mg "_law_draw" = some (.ref a.f_law_draw)
  b_law_draw : Binds K a.fd_law_draw ["_law_source_here", "_law_bound"] []
  F_law_one : Fun K "_law_one" "_law_one" s_law_one a.f_law_one a.fd_law_one
  m_law_one : mg "_law_one" = some (.ref a.f_law_one)
  b_law_one : Binds K a.fd_law_one ["_law_source_here", "_law_some"] []
  F_law_engines : Fun K "_law_engines" "_law_engines" s_law_engines a.f_law_engines a.fd_law_engines
  m_law_engines : mg "_law_engines" = some (.ref a.f_law_engines)
  b_law_engines : Binds K a.fd_law_engines ["_law_source_here"] []
  F_law_count_of : Fun K "_law_count_of" "_law_count_of" s_law_count_of a.f_law_count_of a.fd_law_count_of
  m_law_count_of : mg "_law_count_of" = some (.ref a.f_law_count_of)
  b_law_count_of : Binds K a.fd_law_count_of ["_law_source_here", "_law_width", "_law_size_here"] []
  F_law_number : Fun K "_law_number" "_law_number" s_law_number a.f_law_number a.fd_law_number
  m_law_number : mg "_law_number" = some (.ref a.f_law_number)
  b_law_number : Binds K a.fd_law_number ["_law_source_here", "_law_width", "_law_most"] []
  F_law_size : Fun K "_law_size" "_law_size" s_law_size a.f_law_size a.fd_law_size
  m_law_size : mg "_law_size" = some (.ref a.f_law_size)
  b_law_size : Binds K a.fd_law_size ["_law_n", "_law_width"] []
  F_law_fibs : Fun K "_law_fibs" "_law_fibs" s_law_fibs a.f_law_fibs a.fd_law_fibs
  m_law_fibs : mg "_law_fibs" = some (.ref a.f_law_fibs)
  b_law_fibs : Binds K a.fd_law_fibs ["_law_k"] []
  F_law_step : Fun K "_law_step" "_law_step" s_law_step a.f_law_step a.fd_law_step
  m_law_step : mg "_law_step" = some (.ref a.f_law_step)
  b_law_step : Binds K a.fd_law_step ["_law_xx", "_law_yy", "_law_width"] []
  F_law_pair : Fun K "_law_pair" "_law_pair" s_law_pair a.f_law_pair a.fd_law_pair
  m_law_pair : mg "_law_pair" = some (.ref a.f_law_pair)
  b_law_pair : Binds K a.fd_law_pair ["_law_source_here", "_law_width"] []
  F_law_facts_right : Fun K "_law_facts_right" "_law_facts_right" s_law_facts_right a.f_law_facts_right a.fd_law_facts_right
  m_law_facts_right : mg "_law_facts_right" = some (.ref a.f_law_facts_right)
  b_law_facts_right : Binds K a.fd_law_facts_right ["_law_xx", "_law_yy", "_law_quotients", "_law_four", "_law_base"] []
  F_law_right : Fun K "_law_right" "_law_right" s_law_right a.f_law_right a.fd_law_right
  m_law_right : mg "_law_right" = some (.ref a.f_law_right)
  b_law_right : Binds K a.fd_law_right ["_law_engine", "_law_xx", "_law_yy", "_law_width"] []
  F_law_said : Fun K "_law_said" "_law_said" s_law_said a.f_law_said a.fd_law_said
  m_law_said : mg "_law_said" = some (.ref a.f_law_said)
  b_law_said : Binds K a.fd_law_said ["_law_ask"] []
  F_law_deep : Fun K "_law_deep" "_law_deep" s_law_deep a.f_law_deep a.fd_law_deep
  m_law_deep : mg "_law_deep" = some (.ref a.f_law_deep)
  b_law_deep : Binds K a.fd_law_deep ["_law_is_list"] []
  F_law_refused_right : Fun K "_law_refused_right" "_law_refused_right" s_law_refused_right a.f_law_refused_right a.fd_law_refused_right
  m_law_refused_right : mg "_law_refused_right" = some (.ref a.f_law_refused_right)
  b_law_refused_right : Binds K a.fd_law_refused_right ["_law_engine", "_law_width"] []
  F_law : Fun K "law" "law" s_law a.f_law a.fd_law
  m_law : mg "law" = some (.ref a.f_law)
  b_law : Binds K a.fd_law ["_law_script"] []
  kb_lehmer_step_y_x_machine : KB0 K a.fd_lehmer_step ["machine", "x", "y"] ["y", "x", "machine"] (permV [2, 1, 0]) (perm [2, 1, 0])
  n_abs : mg "abs" = none
  n_bool : mg "bool" = none
  n_dict : mg "dict" = none
  n_int : mg "int" = none
  n_isinstance : mg "isinstance" = none
  n_len : mg "len" = none
  n_list : mg "list" = none
  n_max : mg "max" = none
  n_range : mg "range" = none
  n_tuple : mg "tuple" = none
/-- the tables of code, at the base -/
structure Tb (base : Heap) (mg : Str → Option Value) (a : Ad) : Prop where
  t_law_refused_right : LamX.TabB base mg a.cc_law_refused_right (tabP a.c 0)
section
variable {P : Program} {w : World} {K : PySem.W.Frag} {mg : Str → Option Value} {base : Heap} {a : Ad}
theorem ok_InvalidBound_init (T : Txt K mg a) (B : Tb base mg a) : FnOk P w K mg base CX0 1 a.f_InvalidBound_init a.fd_InvalidBound_init ["self", "argument"] (spInF K "argument") := by
  refine T.F_InvalidBound_init.ok sc_InvalidBound_init (fun vs H Q E h => ?_) (fun cdv A outer s H vs Q E hr h => ⟨tInF K "invalid bound" "argument", ?_, b_inF h⟩)
  · obtain ⟨_, _, _, rfl, _⟩ := h; rfl
  · exact (pss_cons (ps_expr (pe_baseinit T.xb rfl T.gx_BitsError (pa_cons (pv 0) (pa_cons pe_str pa_nil))))
      (pss_one (ps_setF (pv 0) (pv 1))))
theorem dv_is_integer {cdv : Value} {A : Around} {outer : List Env} {s : Shared} {H : Hp} {E : XK} (T : Txt K mg a) (B : Tb base mg a) (hr : Room 0 (A.deeper (envOfC "is_integer" (defScope s_is_integer) s.heap.objs.size a.f_is_integer cdv))) :
    PSs (cxOf CX0 P w K mg base N_is_integer "is_integer" (defScope s_is_integer) a.f_is_integer cdv A outer s H E).nox (defBody s_is_integer) (t_is_integer K a.c) := by
  unfold t_is_integer
  exact (pss_one (ps_ret (pe_and (pe_callB call_isi (by rfl) T.n_isinstance (by decide +kernel) (pa_cons (pv 0) (pa_cons (pe_bltn (v := .ty "int") (by rfl) T.n_int (by decide +kernel) rfl) pa_nil))) (pe_one (pe_not (pe_callB call_isi (by rfl) T.n_isinstance (by decide +kernel) (pa_cons (pv 0) (pa_cons (pe_bltn (v := .ty "bool") (by rfl) T.n_bool (by decide +kernel) rfl) pa_nil))))))))
theorem ok_is_integer (T : Txt K mg a) (B : Tb base mg a) : FnOk P w K mg base CX0 1 a.f_is_integer a.fd_is_integer ["value"] (sp_is_integer K a.c) := by
  refine T.F_is_integer.ok sc_is_integer (fun vs H Q E h => ?_) (fun cdv A outer s H vs Q E hr h => ⟨_, dv_is_integer T B hr, b_is_integer h⟩)
  (repeat (obtain ⟨_, h⟩ := h)); all_goals (subst_vars; rfl)
theorem dv_Machine_parts {cdv : Value} {A : Around} {outer : List Env} {s : Shared} {H : Hp} {E : XK} (T : Txt K mg a) (B : Tb base mg a) (hr : Room 0 (A.deeper (envOfC "Machine.parts" (defScope s_Machine_parts) s.heap.objs.size a.f_Machine_parts cdv))) :
    PSs (cxOf CX0 P w K mg base N_Machine_parts "Machine.parts" (defScope s_Machine_parts) a.f_Machine_parts cdv A outer s H E).nox (defBody s_Machine_parts) (t_Machine_parts K a.c) := by
  unfold t_Machine_parts
  exact (pss_one (ps_ret (pe_tup (pa_cons (pe_fld (pv 0) rfl) (pa_cons (pe_fld (pv 0) rfl) pa_nil)))))
theorem ok_Machine_parts (T : Txt K mg a) (B : Tb base mg a) : FnOk P w K mg base CX0 1 a.f_Machine_parts a.fd_Machine_parts ["self"] (sp_Machine_parts K a.c) := by
  refine T.F_Machine_parts.ok sc_Machine_parts (fun vs H Q E h => ?_) (fun cdv A outer s H vs Q E hr h => ⟨_, dv_Machine_parts T B hr, b_Machine_parts T.PM h⟩)
  (repeat (obtain ⟨_, h⟩ := h)); all_goals (subst_vars; rfl)
theorem dv_Machine_tally {cdv : Value} {A : Around} {outer : List Env} {s : Shared} {H : Hp} {E : XK} (T : Txt K mg a) (B : Tb base mg a) (hr : Room 0 (A.deeper (envOfC "Machine.tally" (defScope s_Machine_tally) s.heap.objs.size a.f_Machine_tally cdv))) :
    PSs (cxOf CX0 P w K mg base N_Machine_tally "Machine.tally" (defScope s_Machine_tally) a.f_Machine_tally cdv A outer s H E).nox (defBody s_Machine_tally) (t_Machine_tally K a.c) := by
  unfold t_Machine_tally
  exact (pss_one (ps_ret (pe_lc (own := [("word", 1)]) (g := (gName 1)) rfl sc_Machine_tally.nd (pi_tup (pe_glob rfl T.g_WORDS rfl)) (blkOk_by (own := [("word", 1)]) (N := N_Machine_tally) (sc := defScope s_Machine_tally) (by decide +kernel)) (fun _ _ _ _ _ => (pg_name (i := 1) sc_Machine_tally.nd rfl (by first | exact Or.inl rfl | exact Or.inr rfl))) (fun _ _ _ _ _ => pts_nil) (fun _ _ _ _ _ => (pe_tup (pa_cons (pv 1) (pa_cons (pe_dget (hu_of hr) (pe_fld (pv 0) rfl) (pv 1) (fun _ _ => rfl)) pa_nil)))))))
theorem ok_Machine_tally (T : Txt K mg a) (B : Tb base mg a) : FnOk P w K mg base CX0 1 a.f_Machine_tally a.fd_Machine_tally ["self"] (sp_Machine_tally K a.c) := by
  refine T.F_Machine_tally.ok sc_Machine_tally (fun vs H Q E h => ?_) (fun cdv A outer s H vs Q E hr h => ⟨_, dv_Machine_tally T B hr, b_Machine_tally T.PM h⟩)
  (repeat (obtain ⟨_, h⟩ := h)); all_goals (subst_vars; rfl)
theorem dv_Machine_walk {cdv : Value} {A : Around} {outer : List Env} {s : Shared} {H : Hp} {E : XK} (T : Txt K mg a) (B : Tb base mg a) (hr : Room 0 (A.deeper (envOfC "Machine.walk" (defScope s_Machine_walk) s.heap.objs.size a.f_Machine_walk cdv))) :
    PSs (cxOf CX0 P w K mg base N_Machine_walk "Machine.walk" (defScope s_Machine_walk) a.f_Machine_walk cdv A outer s H E).nox (defBody s_Machine_walk) (t_Machine_walk K a.c) := by
  unfold t_Machine_walk
  exact (pss_one (ps_ret (pe_callTy c_list (by rfl) T.n_list (by decide +kernel) (pa_cons (pe_fld (pv 0) rfl) pa_nil))))
theorem ok_Machine_walk (T : Txt K mg a) (B : Tb base mg a) : FnOk P w K mg base CX0 1 a.f_Machine_walk a.fd_Machine_walk ["self"] (sp_Machine_walk K a.c) := by
  refine T.F_Machine_walk.ok sc_Machine_walk (fun vs H Q E h => ?_) (fun cdv A outer s H vs Q E hr h => ⟨_, dv_Machine_walk T B hr, b_Machine_walk T.PM h⟩)
  (repeat (obtain ⟨_, h⟩ := h)); all_goals (subst_vars; rfl)
theorem dv_Machine_reset {cdv : Value} {A : Around} {outer : List Env} {s : Shared} {H : Hp} {E : XK} (T : Txt K mg a) (B : Tb base mg a) (hr : Room 0 (A.deeper (envOfC "Machine.reset" (defScope s_Machine_reset) s.heap.objs.size a.f_Machine_reset cdv))) :
    PSs (cxOf CX0 P w K mg base N_Machine_reset "Machine.reset" (defScope s_Machine_reset) a.f_Machine_reset cdv A outer s H E).nox (defBody s_Machine_reset) (t_Machine_reset K a.c) := by
  unfold t_Machine_reset
  exact (pss_cons (ps_for PassesOwn.never rfl (pi_tup (pe_glob rfl T.g_WORDS rfl)) (pg_name (i := 1) sc_Machine_reset.nd rfl (by first | exact Or.inl rfl | exact Or.inr rfl)) (pss_one (ps_dput (hu_of hr) (pe_fld (pv 0) rfl) (pv 1) pe_int rfl)))
      (pss_one (ps_expr (pe_bm0 PySem.F.plainAttrs_list PySem.F.slot_list_clear PySem.F.type_list_clear mt_clear (pe_fld (pv 0) rfl)))))
theorem ok_Machine_reset (T : Txt K mg a) (B : Tb base mg a) : FnOk P w K mg base CX0 1 a.f_Machine_reset a.fd_Machine_reset ["self"] (sp_Machine_reset K a.c) := by
  refine T.F_Machine_reset.ok sc_Machine_reset (fun vs H Q E h => ?_) (fun cdv A outer s H vs Q E hr h => ⟨_, dv_Machine_reset T B hr, b_Machine_reset T.PM h⟩)
  (repeat (obtain ⟨_, h⟩ := h)); all_goals (subst_vars; rfl)
theorem dv_Machine_count {cdv : Value} {A : Around} {outer : List Env} {s : Shared} {H : Hp} {E : XK} (T : Txt K mg a) (B : Tb base mg a) (hr : Room 0 (A.deeper (envOfC "Machine.count" (defScope s_Machine_count) s.heap.objs.size a.f_Machine_count cdv))) :
    PSs (cxOf CX0 P w K mg base N_Machine_count "Machine.count" (defScope s_Machine_count) a.f_Machine_count cdv A outer s H E).nox (defBody s_Machine_count) (t_Machine_count K a.c) := by
  unfold t_Machine_count
  exact (pss_one (ps_dput (hu_of hr) (pe_fld (pv 0) rfl) (pv 1) (pe_op o_add (pe_dget (hu_of hr) (pe_fld (pv 0) rfl) (pv 1) (fun _ _ => rfl)) (pv 2)) rfl))
theorem ok_Machine_count (T : Txt K mg a) (B : Tb base mg a) : FnOk P w K mg base CX0 1 a.f_Machine_count a.fd_Machine_count ["self", "word", "number"] (sp_Machine_count K a.c) := by
  refine T.F_Machine_count.ok sc_Machine_count (fun vs H Q E h => ?_) (fun cdv A outer s H vs Q E hr h => ⟨_, dv_Machine_count T B hr, b_Machine_count T.PM h⟩)
  (repeat (obtain ⟨_, h⟩ := h)); all_goals (subst_vars; rfl)
theorem dv_check_machine {cdv : Value} {A : Around} {outer : List Env} {s : Shared} {H : Hp} {E : XK} (T : Txt K mg a) (B : Tb base mg a) (hr : Room 0 (A.deeper (envOfC "check_machine" (defScope s_check_machine) s.heap.objs.size a.f_check_machine cdv))) :
    PSs (cxOf CX0 P w K mg base N_check_machine "check_machine" (defScope s_check_machine) a.f_check_machine cdv A outer s H E).nox (defBody s_check_machine) (t_check_machine K a.c) := by
  unfold t_check_machine
  exact (pss_one (ps_if (pt_not (pt_val (pe_callB call_isi (by rfl) T.n_isinstance (by decide +kernel) (pa_cons (pv 0) (pa_cons (pe_glob rfl T.g_Machine rfl) pa_nil))))) (pss_one ps_never) pss_nil))
theorem ok_check_machine (T : Txt K mg a) (B : Tb base mg a) : FnOk P w K mg base CX0 1 a.f_check_machine a.fd_check_machine ["value"] (sp_check_machine K a.c) := by
  refine T.F_check_machine.ok sc_check_machine (fun vs H Q E h => ?_) (fun cdv A outer s H vs Q E hr h => ⟨_, dv_check_machine T B hr, b_check_machine T.PM h⟩)
  (repeat (obtain ⟨_, h⟩ := h)); all_goals (subst_vars; rfl)
theorem dv_Big_init {cdv : Value} {A : Around} {outer : List Env} {s : Shared} {H : Hp} {E : XK} (T : Txt K mg a) (B : Tb base mg a) (hr : Room 0 (A.deeper (envOfC "Big.__init__" (defScope s_Big_init) s.heap.objs.size a.f_Big_init cdv))) :
    PSs (cxOf CX0 P w K mg base N_Big_init "Big.__init__" (defScope s_Big_init) a.f_Big_init cdv A outer s H E).nox (defBody s_Big_init) (t_Big_init K a.c) := by
  unfold t_Big_init
  exact (pss_cons (ps_fld (pv 0) (pv 1) rfl)
      (pss_cons (ps_fld (pv 0) (pv 2) rfl)
      (pss_one (ps_fld (pv 0) (pv 3) rfl))))
theorem ok_Big_init (T : Txt K mg a) (B : Tb base mg a) : FnOk P w K mg base CX0 1 a.f_Big_init a.fd_Big_init ["self", "width", "side", "row"] (sp_Big_init K a.c) := by
  refine T.F_Big_init.ok sc_Big_init (fun vs H Q E h => ?_) (fun cdv A outer s H vs Q E hr h => ⟨_, dv_Big_init T B hr, b_Big_init T.PB h⟩)
  (repeat (obtain ⟨_, h⟩ := h)); all_goals (subst_vars; rfl)
theorem dv_digits_of {cdv : Value} {A : Around} {outer : List Env} {s : Shared} {H : Hp} {E : XK} (T : Txt K mg a) (B : Tb base mg a) (hr : Room 0 (A.deeper (envOfC "digits_of" (defScope s_digits_of) s.heap.objs.size a.f_digits_of cdv))) :
    PSs (cxOf CX0 P w K mg base N_digits_of "digits_of" (defScope s_digits_of) a.f_digits_of cdv A outer s H E).nox (defBody s_digits_of) (t_digits_of K a.c) := by
  unfold t_digits_of
  exact (pss_cons (ps_set (i := 2) sc_digits_of.nd rfl (by first | exact Or.inl rfl | exact Or.inr rfl) (pe_lst pa_nil))
      (pss_cons (ps_while PassesOwn.never (pt_cmpR o_gt (pv 1) pe_int (nomark _)) (pss_cons (ps_expr (pe_bm PySem.F.plainAttrs_list PySem.F.slot_list_append PySem.F.type_list_append mt_append (pv 2) (pa_cons (pe_op o_mod (pv 1) (pe_fld (pv 0) rfl)) pa_nil)))
      (pss_one (ps_set (i := 1) sc_digits_of.nd rfl (by first | exact Or.inl rfl | exact Or.inr rfl) (pe_op o_shr (pv 1) (pe_fld (pv 0) rfl))))))
      (pss_one (ps_ret (pv 2)))))
theorem ok_digits_of (T : Txt K mg a) (B : Tb base mg a) : FnOk P w K mg base CX0 1 a.f_digits_of a.fd_digits_of ["machine", "n"] (sp_digits_of K a.c) := by
  refine T.F_digits_of.ok sc_digits_of (fun vs H Q E h => ?_) (fun cdv A outer s H vs Q E hr h => ⟨_, dv_digits_of T B hr, b_digits_of T.PM h⟩)
  (repeat (obtain ⟨_, h⟩ := h)); all_goals (subst_vars; rfl)
theorem dv_value_of {cdv : Value} {A : Around} {outer : List Env} {s : Shared} {H : Hp} {E : XK} (T : Txt K mg a) (B : Tb base mg a) (hr : Room 0 (A.deeper (envOfC "value_of" (defScope s_value_of) s.heap.objs.size a.f_value_of cdv))) :
    PSs (cxOf CX0 P w K mg base N_value_of "value_of" (defScope s_value_of) a.f_value_of cdv A outer s H E).nox (defBody s_value_of) (t_value_of K a.c) := by
  unfold t_value_of
  exact (pss_cons (ps_set (i := 1) sc_value_of.nd rfl (by first | exact Or.inl rfl | exact Or.inr rfl) pe_int)
      (pss_cons (ps_for PassesOwn.never rfl (pi_tup (pe_revT (pe_fld (pv 0) rfl))) (pg_name (i := 2) sc_value_of.nd rfl (by first | exact Or.inl rfl | exact Or.inr rfl)) (pss_one (ps_set (i := 1) sc_value_of.nd rfl (by first | exact Or.inl rfl | exact Or.inr rfl) (pe_op o_or (pe_op o_shl (pv 1) (pe_fld (pv 0) rfl)) (pv 2)))))
      (pss_one (ps_ret (pe_op o_mul (pe_fld (pv 0) rfl) (pv 1))))))
theorem ok_value_of (T : Txt K mg a) (B : Tb base mg a) : FnOk P w K mg base CX0 1 a.f_value_of a.fd_value_of ["x"] (sp_value_of K a.c) := by
  refine T.F_value_of.ok sc_value_of (fun vs H Q E h => ?_) (fun cdv A outer s H vs Q E hr h => ⟨_, dv_value_of T B hr, b_value_of T.PB h⟩)
  (repeat (obtain ⟨_, h⟩ := h)); all_goals (subst_vars; rfl)
theorem dv_check_big {cdv : Value} {A : Around} {outer : List Env} {s : Shared} {H : Hp} {E : XK} (T : Txt K mg a) (B : Tb base mg a) (hr : Room 0 (A.deeper (envOfC "check_big" (defScope s_check_big) s.heap.objs.size a.f_check_big cdv))) :
    PSs (cxOf CX0 P w K mg base N_check_big "check_big" (defScope s_check_big) a.f_check_big cdv A outer s H E).nox (defBody s_check_big) (t_check_big K a.c) := by
  unfold t_check_big
  exact (pss_one (ps_if (PW.pt (pw_or (pt_not (pt_val (pe_callB call_isi (by rfl) T.n_isinstance (by decide +kernel) (pa_cons (pv 2) (pa_cons (pe_glob rfl T.g_Big rfl) pa_nil))))) (pw_or1 (pt_cmpR op_ne (pe_fld (pv 2) rfl) (pe_fld (pv 0) rfl) (nomark _))))) (pss_one ps_never) pss_nil))
theorem ok_check_big (T : Txt K mg a) (B : Tb base mg a) : FnOk P w K mg base CX0 1 a.f_check_big a.fd_check_big ["machine", "argument", "value"] (sp_check_big K a.c) := by
  refine T.F_check_big.ok sc_check_big (fun vs H Q E h => ?_) (fun cdv A outer s H vs Q E hr h => ⟨_, dv_check_big T B hr, b_check_big T.PM T.PB h⟩)
  (repeat (obtain ⟨_, h⟩ := h)); all_goals (subst_vars; rfl)
theorem dv_first_bits {cdv : Value} {A : Around} {outer : List Env} {s : Shared} {H : Hp} {E : XK} (T : Txt K mg a) (B : Tb base mg a) (hr : Room 0 (A.deeper (envOfC "first_bits" (defScope s_first_bits) s.heap.objs.size a.f_first_bits cdv))) :
    PSs (cxOf CX0 P w K mg base N_first_bits "first_bits" (defScope s_first_bits) a.f_first_bits cdv A outer s H E).nox (defBody s_first_bits) (t_g_first K a.c) := by
  unfold t_g_first
  exact (pss_cons (ps_asg (pe_lc (own := [("place", 7)]) (g := (gName 7)) rfl sc_first_bits.nd (pi_tup (pe_tup (pa_cons (pe_op o_sub (pv 1) pe_int) (pa_cons (pe_op o_sub (pv 1) pe_int) (pa_cons (pe_op o_sub (pv 1) pe_int) pa_nil))))) (blkOk_by (own := [("place", 7)]) (N := N_first_bits) (sc := defScope s_first_bits) (by decide +kernel)) (fun _ _ _ _ _ => (pg_name (i := 7) sc_first_bits.nd rfl (by first | exact Or.inl rfl | exact Or.inr rfl))) (fun _ _ _ _ _ => pts_nil) (fun _ _ _ _ _ => (pe_ifExp (pt_cmpR o_lt (pv 7) (pe_callB c_len (by rfl) T.n_len (by decide +kernel) (pa_cons (pv 0) pa_nil)) (nomark _)) (pe_ix ix_tup (pv 0) (pv 7) (fun _ _ => rfl)) pe_int))) (pg_unl rfl (pgs_cons (pg_name (i := 4) sc_first_bits.nd rfl (by first | exact Or.inl rfl | exact Or.inr rfl)) (pgs_cons (pg_name (i := 5) sc_first_bits.nd rfl (by first | exact Or.inl rfl | exact Or.inr rfl)) (pgs_cons (pg_name (i := 6) sc_first_bits.nd rfl (by first | exact Or.inl rfl | exact Or.inr rfl)) pgs_nil)))))
      (pss_one (ps_ret (pe_op o_or (pe_op o_or (pe_op o_shl (pv 4) (pe_op o_sub (pe_op o_mul pe_int (pv 2)) (pv 3))) (pe_op o_shl (pv 5) (pe_op o_sub (pv 2) (pv 3)))) (pe_op o_shr (pv 6) (pv 3))))))
theorem ok_first_bits (T : Txt K mg a) (B : Tb base mg a) : FnOk P w K mg base CX0 1 a.f_first_bits a.fd_first_bits ["row", "size", "width", "bits"] (sp_g_first K a.c) := by
  refine T.F_first_bits.ok sc_first_bits (fun vs H Q E h => ?_) (fun cdv A outer s H vs Q E hr h => ⟨_, dv_first_bits T B hr, b_g_first T.PM T.PB h⟩)
  first | exact Pu.lif_len n_g_first h | exact Pu.lifS_len n_g_first h | exact Pu.lifL_len n_g_first h | exact Pu.lifO_len n_g_first h
theorem dv_law_mixed {cdv : Value} {A : Around} {outer : List Env} {s : Shared} {H : Hp} {E : XK} (T : Txt K mg a) (B : Tb base mg a) (hr : Room 0 (A.deeper (envOfC "_law_mixed" (defScope s_law_mixed) s.heap.objs.size a.f_law_mixed cdv))) :
    PSs (cxOf CX0 P w K mg base N_law_mixed "_law_mixed" (defScope s_law_mixed) a.f_law_mixed cdv A outer s H E).nox (defBody s_law_mixed) (t_x_mixed K a.c) := by
  unfold t_x_mixed
  exact (pss_cons (ps_set (i := 2) sc_law_mixed.nd rfl (by first | exact Or.inl rfl | exact Or.inr rfl) (pe_op o_mod (pe_callTy c_int (by rfl) T.n_int (by decide +kernel) (pa_cons (pe_op o_mul (pe_op o_add (pe_op o_mod (pe_callTy c_int (by rfl) T.n_int (by decide +kernel) (pa_cons (pv 0) pa_nil)) pe_int) pe_int) (pe_op o_add (pe_op o_mul (pv 1) pe_int) pe_int)) pa_nil)) pe_int))
      (pss_cons (ps_set (i := 2) sc_law_mixed.nd rfl (by first | exact Or.inl rfl | exact Or.inr rfl) (pe_op o_mod (pe_callTy c_int (by rfl) T.n_int (by decide +kernel) (pa_cons (pe_op o_mul (pe_op o_add (pv 2) (pe_op o_mul (pe_op o_mod (pe_callTy c_int (by rfl) T.n_int (by decide +kernel) (pa_cons (pe_op o_div (pv 0) pe_int) pa_nil)) pe_int) (pe_op o_add (pv 1) pe_int))) pe_int) pa_nil)) pe_int))
      (pss_cons (ps_set (i := 2) sc_law_mixed.nd rfl (by first | exact Or.inl rfl | exact Or.inr rfl) (pe_op o_mod (pe_callTy c_int (by rfl) T.n_int (by decide +kernel) (pa_cons (pe_op o_mul (pv 2) (pe_op o_add (pe_op o_add (pe_op o_div (pv 2) pe_int) pe_int) (pv 1))) pa_nil)) pe_int))
      (pss_one (ps_ret (pe_op o_mod (pe_callTy c_int (by rfl) T.n_int (by decide +kernel) (pa_cons (pe_op o_mul (pv 2) (pe_op o_add (pe_op o_div (pv 2) pe_int) pe_int)) pa_nil)) pe_int))))))
theorem ok_law_mixed (T : Txt K mg a) (B : Tb base mg a) : FnOk P w K mg base CX0 1 a.f_law_mixed a.fd_law_mixed ["_law_cell", "_law_turn"] (sp_x_mixed K a.c) := by
  refine T.F_law_mixed.ok sc_law_mixed (fun vs H Q E h => ?_) (fun cdv A outer s H vs Q E hr h => ⟨_, dv_law_mixed T B hr, b_x_mixed h⟩)
  (repeat (obtain ⟨_, h⟩ := h)); all_goals (subst_vars; rfl)
theorem dv_law_source {cdv : Value} {A : Around} {outer : List Env} {s : Shared} {H : Hp} {E : XK} (T : Txt K mg a) (B : Tb base mg a) (hr : Room 0 (A.deeper (envOfC "_law_source" (defScope s_law_source) s.heap.objs.size a.f_law_source cdv))) :
    PSs (cxOf CX0 P w K mg base N_law_source "_law_source" (defScope s_law_source) a.f_law_source cdv A outer s H E).nox (defBody s_law_source) (t_x_source K a.c) := by
  unfold t_x_source
  exact (pss_one (ps_ret (pe_lst (pa_cons (pe_op o_mul (pv 0) (pe_callTy c_int (by rfl) T.n_int (by decide +kernel) (pa_cons (pe_cmpR o_ge (pv 0) (pe_op o_pow pe_int pe_int) (nomark _)) pa_nil))) (pa_cons (pv 0) (pa_cons pe_int pa_nil))))))
theorem ok_law_source (T : Txt K mg a) (B : Tb base mg a) : FnOk P w K mg base CX0 1 a.f_law_source a.fd_law_source ["_law_cell"] (sp_x_source K a.c) := by
  refine T.F_law_source.ok sc_law_source (fun vs H Q E h => ?_) (fun cdv A outer s H vs Q E hr h => ⟨_, dv_law_source T B hr, b_x_source h⟩)
  (repeat (obtain ⟨_, h⟩ := h)); all_goals (subst_vars; rfl)
theorem dv_law_size {cdv : Value} {A : Around} {outer : List Env} {s : Shared} {H : Hp} {E : XK} (T : Txt K mg a) (B : Tb base mg a) (hr : Room 0 (A.deeper (envOfC "_law_size" (defScope s_law_size) s.heap.objs.size a.f_law_size cdv))) :
    PSs (cxOf CX0 P w K mg base N_law_size "_law_size" (defScope s_law_size) a.f_law_size cdv A outer s H E).nox (defBody s_law_size) (t_y_size K a.c) := by
  unfold t_y_size
  exact (pss_one (ps_ret (pe_op o_div (pe_op o_sub (pe_op o_add (pe_bits (pe_callB c_abs (by rfl) T.n_abs (by decide +kernel) (pa_cons (pv 0) pa_nil))) (pv 1)) pe_int) (pv 1))))
theorem ok_law_size (T : Txt K mg a) (B : Tb base mg a) : FnOk P w K mg base CX0 1 a.f_law_size a.fd_law_size ["_law_n", "_law_width"] (sp_y_size K a.c) := by
  refine T.F_law_size.ok sc_law_size (fun vs H Q E h => ?_) (fun cdv A outer s H vs Q E hr h => ⟨_, dv_law_size T B hr, b_y_size T.PM T.PB h⟩)
  first | exact Pu.lif_len n_y_size h | exact Pu.lifS_len n_y_size h | exact Pu.lifL_len n_y_size h | exact Pu.lifO_len n_y_size h
theorem dv_law_fibs {cdv : Value} {A : Around} {outer : List Env} {s : Shared} {H : Hp} {E : XK} (T : Txt K mg a) (B : Tb base mg a) (hr : Room 0 (A.deeper (envOfC "_law_fibs" (defScope s_law_fibs) s.heap.objs.size a.f_law_fibs cdv))) :
    PSs (cxOf CX0 P w K mg base N_law_fibs "_law_fibs" (defScope s_law_fibs) a.f_law_fibs cdv A outer s H E).nox (defBody s_law_fibs) (t_y_fibs K a.c) := by
  unfold t_y_fibs
  exact (pss_cons (ps_asg (pe_tup (pa_cons pe_int (pa_cons pe_int pa_nil))) (pg_tup rfl (pgs_cons (pg_name (i := 1) sc_law_fibs.nd rfl (by first | exact Or.inl rfl | exact Or.inr rfl)) (pgs_cons (pg_name (i := 2) sc_law_fibs.nd rfl (by first | exact Or.inl rfl | exact Or.inr rfl)) pgs_nil))))
      (pss_cons (ps_for PassesOwn.never rfl (pi_range1 rfl T.n_range (pa_cons (pe_op o_sub (pv 0) pe_int) pa_nil)) (pg_name (i := 3) sc_law_fibs.nd rfl (by first | exact Or.inl rfl | exact Or.inr rfl)) (pss_one (ps_par rfl sc_law_fibs.nd rfl rfl (by decide) rfl rfl (pa_cons (pv 2) (pa_cons (pe_op o_add (pv 1) (pv 2)) pa_nil)) (by rfl))))
      (pss_one (ps_ret (pe_tup (pa_cons (pv 1) (pa_cons (pv 2) pa_nil)))))))
theorem ok_law_fibs (T : Txt K mg a) (B : Tb base mg a) : FnOk P w K mg base CX0 1 a.f_law_fibs a.fd_law_fibs ["_law_k"] (sp_y_fibs K a.c) := by
  refine T.F_law_fibs.ok sc_law_fibs (fun vs H Q E h => ?_) (fun cdv A outer s H vs Q E hr h => ⟨_, dv_law_fibs T B hr, b_y_fibs T.PM T.PB h⟩)
  first | exact Pu.lif_len n_y_fibs h | exact Pu.lifS_len n_y_fibs h | exact Pu.lifL_len n_y_fibs h | exact Pu.lifO_len n_y_fibs h
theorem dv_law_step {cdv : Value} {A : Around} {outer : List Env} {s : Shared} {H : Hp} {E : XK} (T : Txt K mg a) (B : Tb base mg a) (hr : Room 0 (A.deeper (envOfC "_law_step" (defScope s_law_step) s.heap.objs.size a.f_law_step cdv))) :
    PSs (cxOf CX0 P w K mg base N_law_step "_law_step" (defScope s_law_step) a.f_law_step cdv A outer s H E).nox (defBody s_law_step) (t_k54_step K a.c) := by
  unfold t_k54_step
  exact (pss_cons (ps_set (i := 3) sc_law_step.nd rfl (by first | exact Or.inl rfl | exact Or.inr rfl) (pe_op o_sub (pe_bits (pv 0)) (pe_op o_mul pe_int (pv 2))))
      (pss_cons (ps_asg (pe_tup (pa_cons (pe_op o_shr (pv 0) (pv 3)) (pa_cons (pe_op o_shr (pv 1) (pv 3)) (pa_cons pe_int (pa_cons (pe_lst pa_nil) pa_nil))))) (pg_tup rfl (pgs_cons (pg_name (i := 4) sc_law_step.nd rfl (by first | exact Or.inl rfl | exact Or.inr rfl)) (pgs_cons (pg_name (i := 5) sc_law_step.nd rfl (by first | exact Or.inl rfl | exact Or.inr rfl)) (pgs_cons (pg_name (i := 6) sc_law_step.nd rfl (by first | exact Or.inl rfl | exact Or.inr rfl)) (pgs_cons (pg_name (i := 7) sc_law_step.nd rfl (by first | exact Or.inl rfl | exact Or.inr rfl)) pgs_nil))))))
      (pss_cons (ps_asg (pe_tup (pa_cons pe_int (pa_cons pe_int (pa_cons pe_int (pa_cons pe_int pa_nil))))) (pg_tup rfl (pgs_cons (pg_name (i := 8) sc_law_step.nd rfl (by first | exact Or.inl rfl | exact Or.inr rfl)) (pgs_cons (pg_name (i := 9) sc_law_step.nd rfl (by first | exact Or.inl rfl | exact Or.inr rfl)) (pgs_cons (pg_name (i := 10) sc_law_step.nd rfl (by first | exact Or.inl rfl | exact Or.inr rfl)) (pgs_cons (pg_name (i := 11) sc_law_step.nd rfl (by first | exact Or.inl rfl | exact Or.inr rfl)) pgs_nil))))))
      (pss_cons (ps_while PassesOwn.never (pt_cmpR op_ne (pv 5) (pv 10) (nomark _)) (pss_cons (ps_par rfl sc_law_step.nd rfl rfl (by decide) rfl rfl (pa_cons (pe_op o_div (pe_op o_sub (pe_op o_add (pv 4) (pv 8)) pe_int) (pe_op o_sub (pv 5) (pv 10))) (pa_cons (pe_op o_add (pv 6) pe_int) pa_nil)) (by rfl))
      (pss_cons (ps_if (pt_cmpR o_gt (pe_op o_add (pv 9) (pe_op o_mul (pv 12) (pv 11))) (pe_op o_sub (pv 4) (pe_op o_mul (pv 12) (pv 5))) (nomark _)) (pss_one ps_break) pss_nil)
      (pss_cons (ps_par rfl sc_law_step.nd rfl rfl (by decide) rfl rfl (pa_cons (pv 5) (pa_cons (pe_op o_sub (pv 4) (pe_op o_mul (pv 12) (pv 5))) pa_nil)) (by rfl))
      (pss_cons (ps_asg (pe_tup (pa_cons (pv 11) (pa_cons (pv 10) (pa_cons (pe_op o_add (pv 9) (pe_op o_mul (pv 12) (pv 11))) (pa_cons (pe_op o_add (pv 8) (pe_op o_mul (pv 12) (pv 10))) pa_nil))))) (pg_tup rfl (pgs_cons (pg_name (i := 8) sc_law_step.nd rfl (by first | exact Or.inl rfl | exact Or.inr rfl)) (pgs_cons (pg_name (i := 9) sc_law_step.nd rfl (by first | exact Or.inl rfl | exact Or.inr rfl)) (pgs_cons (pg_name (i := 10) sc_law_step.nd rfl (by first | exact Or.inl rfl | exact Or.inr rfl)) (pgs_cons (pg_name (i := 11) sc_law_step.nd rfl (by first | exact Or.inl rfl | exact Or.inr rfl)) pgs_nil))))))
      (pss_one (ps_expr (pe_bm PySem.F.plainAttrs_list PySem.F.slot_list_append PySem.F.type_list_append mt_append (pv 7) (pa_cons (pv 12) pa_nil)))))))))
      (pss_one (ps_ret (pe_tup (pa_cons (pv 7) (pa_cons (pe_ifExp (pt_cmpR op_eq (pe_op o_and (pe_callB c_len (by rfl) T.n_len (by decide +kernel) (pa_cons (pv 7) pa_nil)) pe_int) pe_int (nomark _)) (pe_tup (pa_cons (pv 8) (pa_cons (pe_un o_neg (pv 9)) (pa_cons (pe_un o_neg (pv 10)) (pa_cons (pv 11) pa_nil))))) (pe_tup (pa_cons (pe_un o_neg (pv 9)) (pa_cons (pv 8) (pa_cons (pv 11) (pa_cons (pe_un o_neg (pv 10)) pa_nil)))))) (pa_cons (pv 6) pa_nil))))))))))
theorem ok_law_step (T : Txt K mg a) (B : Tb base mg a) : FnOk P w K mg base CX0 1 a.f_law_step a.fd_law_step ["_law_xx", "_law_yy", "_law_width"] (sp_k54_step K a.c) := by
  refine T.F_law_step.ok sc_law_step (fun vs H Q E h => ?_) (fun cdv A outer s H vs Q E hr h => ⟨_, dv_law_step T B hr, b_k54_step T.PM T.PB h⟩)
  first | exact Pu.lif_len n_k54_step h | exact Pu.lifS_len n_k54_step h | exact Pu.lifL_len n_k54_step h | exact Pu.lifO_len n_k54_step h
theorem dv_law_facts_right {cdv : Value} {A : Around} {outer : List Env} {s : Shared} {H : Hp} {E : XK} (T : Txt K mg a) (B : Tb base mg a) (hr : Room 0 (A.deeper (envOfC "_law_facts_right" (defScope s_law_facts_right) s.heap.objs.size a.f_law_facts_right cdv))) :
    PSs (cxOf CX0 P w K mg base N_law_facts_right "_law_facts_right" (defScope s_law_facts_right) a.f_law_facts_right cdv A outer s H E).nox (defBody s_law_facts_right) (t_k54_facts K a.c) := by
  unfold t_k54_facts
  exact (pss_cons (ps_par rfl sc_law_facts_right.nd rfl rfl (by decide) rfl rfl (pa_cons (pv 0) (pa_cons (pv 1) pa_nil)) (by rfl))
      (pss_cons (ps_for PassesOwn.never rfl (pi_list (pv 2)) (pg_name (i := 7) sc_law_facts_right.nd rfl (by first | exact Or.inl rfl | exact Or.inr rfl)) (pss_cons (ps_if (PW.pt (pw_or (pt_cmpR op_eq (pv 6) pe_int (nomark _)) (pw_or1 (pt_cmpR op_ne (pe_op o_div (pv 5) (pv 6)) (pv 7) (nomark _))))) (pss_one (ps_ret pe_bl)) pss_nil)
      (pss_one (ps_par rfl sc_law_facts_right.nd rfl rfl (by decide) rfl rfl (pa_cons (pv 6) (pa_cons (pe_op o_mod (pe_callTy c_int (by rfl) T.n_int (by decide +kernel) (pa_cons (pv 5) pa_nil)) (pv 6)) pa_nil)) (by rfl)))))
      (pss_cons (ps_asg (pv 3) (pg_tup rfl (pgs_cons (pg_name (i := 8) sc_law_facts_right.nd rfl (by first | exact Or.inl rfl | exact Or.inr rfl)) (pgs_cons (pg_name (i := 9) sc_law_facts_right.nd rfl (by first | exact Or.inl rfl | exact Or.inr rfl)) (pgs_cons (pg_name (i := 10) sc_law_facts_right.nd rfl (by first | exact Or.inl rfl | exact Or.inr rfl)) (pgs_cons (pg_name (i := 11) sc_law_facts_right.nd rfl (by first | exact Or.inl rfl | exact Or.inr rfl)) pgs_nil))))))
      (pss_cons (ps_if (PW.pt (pw_or (pt_cmpR (op_neD hr.units) (pe_tup (pa_cons (pe_op o_add (pe_op o_mul (pv 8) (pv 0)) (pe_op o_mul (pv 9) (pv 1))) (pa_cons (pe_op o_add (pe_op o_mul (pv 10) (pv 0)) (pe_op o_mul (pv 11) (pv 1))) pa_nil))) (pe_tup (pa_cons (pv 5) (pa_cons (pv 6) pa_nil))) (nomark _)) (pw_or1 (pt_cmpR op_ne (pe_op o_sub (pe_op o_mul (pv 8) (pv 11)) (pe_op o_mul (pv 9) (pv 10))) (pe_ifExp (pt_cmpR op_eq (pe_op o_and (pe_callB c_len (by rfl) T.n_len (by decide +kernel) (pa_cons (pv 2) pa_nil)) pe_int) pe_int (nomark _)) pe_int (pe_un o_neg pe_int)) (nomark _))))) (pss_one (ps_ret pe_bl)) pss_nil)
      (pss_one (ps_ret (pe_and (pe_cmpR o_lt (pe_callB (cr_max rfl) (by rfl) T.n_max (by decide +kernel) (pa_cons (pe_lc (own := [("_law_one_here", 12)]) (g := (gName 12)) rfl sc_law_facts_right.nd (pi_tup (pv 3)) (blkOk_by (own := [("_law_one_here", 12)]) (N := N_law_facts_right) (sc := defScope s_law_facts_right) (by decide +kernel)) (fun _ _ _ _ _ => (pg_name (i := 12) sc_law_facts_right.nd rfl (by first | exact Or.inl rfl | exact Or.inr rfl))) (fun _ _ _ _ _ => pts_nil) (fun _ _ _ _ _ => (pe_callB c_abs (by rfl) T.n_abs (by decide +kernel) (pa_cons (pv 12) pa_nil)))) pa_nil)) (pv 4) (nomark _)) (pe_one (pe_or (pe_cmpR (op_eqD hr.units) (pv 2) (pe_lst pa_nil) (nomark _)) (pe_one (pe_chain o_le o_lt pe_int (pv 6) (pv 5))))))))))))
theorem ok_law_facts_right (T : Txt K mg a) (B : Tb base mg a) : FnOk P w K mg base CX0 1 a.f_law_facts_right a.fd_law_facts_right ["_law_xx", "_law_yy", "_law_quotients", "_law_four", "_law_base"] (sp_k54_facts K a.c) := by
  refine T.F_law_facts_right.ok sc_law_facts_right (fun vs H Q E h => ?_) (fun cdv A outer s H vs Q E hr h => ⟨_, dv_law_facts_right T B hr, b_k54_facts T.PM T.PB h⟩)
  first | exact Pu.lif_len n_k54_facts h | exact Pu.lifS_len n_k54_facts h | exact Pu.lifL_len n_k54_facts h | exact Pu.lifO_len n_k54_facts h
theorem ok_law_said {kA : Nat} (T : Txt K mg a) (B : Tb base mg a) : FnA P w K mg base (kA + 1) kA a.f_law_said a.fd_law_said ["_law_ask"] (sp_said54 K a.c) := by
  refine FnA.of (k := kA + 0) (N := N_law_said) T.F_law_said sc_law_said (fun asks vs H Q E h => Pu.lifA_len n_said54 h) (fun cdv θ asks A outer s H vs Q E AO BB hr h => ⟨_, ?_, b_said54 T.PM T.PB T.XMf h⟩)
  unfold t_said54
  exact (pss_cons (ps_tryM (tb := fun W => (tDrop (tAsk asks W 0))) rfl rfl LamX.takes0 (fun W pn xe tk _ => pss_one (ps_expr (by exact (pe_ask AO BB (hr.mono (by omega)) tk rfl (by first | exact Or.inl rfl | exact Or.inr (Or.inl rfl) | exact Or.inr (Or.inr rfl)))))) (.named (i := 1) sc_law_said.nd rfl rfl ⟨rfl, by decide, .inl T.gx_InvalidBound⟩ (fun a oe cls d pn hz hf => (pss_one (ps_ret (pe_xf T.xf_InvalidBound T.xn_InvalidBound hz hf (pv 1))))) (.bare ⟨rfl, by decide, .inl T.gx_BitsError⟩ (fun a oe cls d pn hz hf => (pss_one (ps_ret pe_str))) .nil)))
      (pss_one (ps_ret pe_str)))
theorem dv_law_deep {cdv : Value} {A : Around} {outer : List Env} {s : Shared} {H : Hp} {E : XK} (T : Txt K mg a) (B : Tb base mg a) (hr : Room 0 (A.deeper (envOfC "_law_deep" (defScope s_law_deep) s.heap.objs.size a.f_law_deep cdv))) :
    PSs (cxOf CX0 P w K mg base N_law_deep "_law_deep" (defScope s_law_deep) a.f_law_deep cdv A outer s H E).nox (defBody s_law_deep) (t_s_deep K a.c) := by
  unfold t_s_deep
  exact (pss_cons (ps_set (i := 1) sc_law_deep.nd rfl (by first | exact Or.inl rfl | exact Or.inr rfl) (pe_tup pa_nil))
      (pss_cons (ps_for PassesOwn.never rfl (pi_range1 rfl T.n_range (pa_cons pe_int pa_nil)) (pg_name (i := 2) sc_law_deep.nd rfl (by first | exact Or.inl rfl | exact Or.inr rfl)) (pss_one (ps_set (i := 1) sc_law_deep.nd rfl (by first | exact Or.inl rfl | exact Or.inr rfl) (pe_ifExp (pt_val (pv 0)) (pe_lst (pa_cons (pv 1) pa_nil)) (pe_tup (pa_cons (pv 1) pa_nil))))))
      (pss_one (ps_ret (pv 1)))))
theorem ok_law_deep (T : Txt K mg a) (B : Tb base mg a) : FnOk P w K mg base CX0 1 a.f_law_deep a.fd_law_deep ["_law_is_list"] (sp_s_deep K a.c) := by
  refine T.F_law_deep.ok sc_law_deep (fun vs H Q E h => ?_) (fun cdv A outer s H vs Q E hr h => ⟨_, dv_law_deep T B hr, b_s_deep T.PM T.PB h⟩)
  first | exact Pu.lif_len n_s_deep h | exact Pu.lifS_len n_s_deep h | exact Pu.lifL_len n_s_deep h | exact Pu.lifO_len n_s_deep h
theorem dv_is_between {cdv : Value} {A : Around} {outer : List Env} {s : Shared} {H : Hp} {E : XK} (T : Txt K mg a) (B : Tb base mg a) (hr : Room 1 (A.deeper (envOfC "is_between" (defScope s_is_between) s.heap.objs.size a.f_is_between cdv))) :
    PSs (cxOf CX0 P w K mg base N_is_between "is_between" (defScope s_is_between) a.f_is_between cdv A outer s H E).nox (defBody s_is_between) (t_is_between K a.c) := by
  unfold t_is_between
  exact (pss_one (ps_ret (pe_and (pe_call (ok_is_integer T B) (hr.mono (by decide)) rfl T.m_is_integer T.F_is_integer.kp T.b_is_integer .nil pass0 (pa_cons (pv 0) pa_nil)) (pe_one (pe_chain o_le o_le (pv 1) (pv 0) (pv 2))))))
theorem ok_is_between (T : Txt K mg a) (B : Tb base mg a) : FnOk P w K mg base CX0 2 a.f_is_between a.fd_is_between ["value", "low", "high"] (sp_is_between K a.c) := by
  refine T.F_is_between.ok sc_is_between (fun vs H Q E h => ?_) (fun cdv A outer s H vs Q E hr h => ⟨_, dv_is_between T B hr, b_is_between h⟩)
  (repeat (obtain ⟨_, h⟩ := h)); all_goals (subst_vars; rfl)
theorem dv_check_integer {cdv : Value} {A : Around} {outer : List Env} {s : Shared} {H : Hp} {E : XK} (T : Txt K mg a) (B : Tb base mg a) (hr : Room 1 (A.deeper (envOfC "check_integer" (defScope s_check_integer) s.heap.objs.size a.f_check_integer cdv))) :
    PSs (cxOf CX0 P w K mg base N_check_integer "check_integer" (defScope s_check_integer) a.f_check_integer cdv A outer s H E).nox (defBody s_check_integer) (t_check_integer K a.c) := by
  unfold t_check_integer
  exact (pss_one (ps_if (pt_not (pt_val (pe_call (ok_is_integer T B) (hr.mono (by decide)) rfl T.m_is_integer T.F_is_integer.kp T.b_is_integer .nil pass0 (pa_cons (pv 1) pa_nil)))) (pss_one ps_never) pss_nil))
theorem ok_check_integer (T : Txt K mg a) (B : Tb base mg a) : FnOk P w K mg base CX0 2 a.f_check_integer a.fd_check_integer ["argument", "value"] (sp_check_integer K a.c) := by
  refine T.F_check_integer.ok sc_check_integer (fun vs H Q E h => ?_) (fun cdv A outer s H vs Q E hr h => ⟨_, dv_check_integer T B hr, b_check_integer h⟩)
  (repeat (obtain ⟨_, h⟩ := h)); all_goals (subst_vars; rfl)
theorem dv_check_bigs {cdv : Value} {A : Around} {outer : List Env} {s : Shared} {H : Hp} {E : XK} (T : Txt K mg a) (B : Tb base mg a) (hr : Room 1 (A.deeper (envOfC "check_bigs" (defScope s_check_bigs) s.heap.objs.size a.f_check_bigs cdv))) :
    PSs (cxOf CX0 P w K mg base N_check_bigs "check_bigs" (defScope s_check_bigs) a.f_check_bigs cdv A outer s H E).nox (defBody s_check_bigs) (t_check_bigs K a.c) := by
  unfold t_check_bigs
  exact (pss_cons (ps_expr (pe_call (ok_check_machine T B) (hr.mono (by decide)) rfl T.m_check_machine T.F_check_machine.kp T.b_check_machine .nil pass0 (pa_cons (pv 0) pa_nil)))
      (pss_cons (ps_expr (pe_call (ok_check_big T B) (hr.mono (by decide)) rfl T.m_check_big T.F_check_big.kp T.b_check_big .nil pass0 (pa_cons (pv 0) (pa_cons pe_str (pa_cons (pv 1) pa_nil)))))
      (pss_one (ps_expr (pe_call (ok_check_big T B) (hr.mono (by decide)) rfl T.m_check_big T.F_check_big.kp T.b_check_big .nil pass0 (pa_cons (pv 0) (pa_cons pe_str (pa_cons (pv 2) pa_nil))))))))
theorem ok_check_bigs (T : Txt K mg a) (B : Tb base mg a) : FnOk P w K mg base CX0 2 a.f_check_bigs a.fd_check_bigs ["machine", "x", "y"] (sp_check_bigs K a.c) := by
  refine T.F_check_bigs.ok sc_check_bigs (fun vs H Q E h => ?_) (fun cdv A outer s H vs Q E hr h => ⟨_, dv_check_bigs T B hr, b_check_bigs h⟩)
  (repeat (obtain ⟨_, h⟩ := h)); all_goals (subst_vars; rfl)
theorem dv_step_of {cdv : Value} {A : Around} {outer : List Env} {s : Shared} {H : Hp} {E : XK} (T : Txt K mg a) (B : Tb base mg a) (hr : Room 1 (A.deeper (envOfC "step_of" (defScope s_step_of) s.heap.objs.size a.f_step_of cdv))) :
    PSs (cxOf CX0 P w K mg base N_step_of "step_of" (defScope s_step_of) a.f_step_of cdv A outer s H E).nox (defBody s_step_of) (t_g_stepT K a.c) := by
  unfold t_g_stepT
  exact (pss_cons (ps_asg (pe_tup (pa_cons (pe_callB c_len (by rfl) T.n_len (by decide +kernel) (pa_cons (pe_fld (pv 1) rfl) pa_nil)) (pa_cons (pe_bits (pe_ix ix_tup (pe_fld (pv 1) rfl) (pe_un o_neg pe_int) (fun _ _ => rfl))) pa_nil))) (pg_tup rfl (pgs_cons (pg_name (i := 3) sc_step_of.nd rfl (by first | exact Or.inl rfl | exact Or.inr rfl)) (pgs_cons (pg_name (i := 4) sc_step_of.nd rfl (by first | exact Or.inl rfl | exact Or.inr rfl)) pgs_nil))))
      (pss_cons (ps_asg (pe_lc (own := [("row", 7)]) (g := (gName 7)) rfl sc_step_of.nd (pi_tup (pe_tup (pa_cons (pe_fld (pv 1) rfl) (pa_cons (pe_fld (pv 2) rfl) pa_nil)))) (blkOk_by (own := [("row", 7)]) (N := N_step_of) (sc := defScope s_step_of) (by decide +kernel)) (fun _ _ _ _ _ => (pg_name (i := 7) sc_step_of.nd rfl (by first | exact Or.inl rfl | exact Or.inr rfl))) (fun _ _ _ _ _ => pts_nil) (fun _ _ _ _ _ => (pe_call (ok_first_bits T B) (hr.mono (by decide)) rfl T.m_first_bits T.F_first_bits.kp T.b_first_bits .nil pass0 (pa_cons (pv 7) (pa_cons (pv 3) (pa_cons (pe_fld (pv 0) rfl) (pa_cons (pv 4) pa_nil))))))) (pg_unl rfl (pgs_cons (pg_name (i := 5) sc_step_of.nd rfl (by first | exact Or.inl rfl | exact Or.inr rfl)) (pgs_cons (pg_name (i := 6) sc_step_of.nd rfl (by first | exact Or.inl rfl | exact Or.inr rfl)) pgs_nil))))
      (pss_cons (ps_asg (pe_tup (pa_cons pe_int (pa_cons pe_int (pa_cons pe_int (pa_cons pe_int (pa_cons (pe_lst pa_nil) pa_nil)))))) (pg_tup rfl (pgs_cons (pg_name (i := 8) sc_step_of.nd rfl (by first | exact Or.inl rfl | exact Or.inr rfl)) (pgs_cons (pg_name (i := 9) sc_step_of.nd rfl (by first | exact Or.inl rfl | exact Or.inr rfl)) (pgs_cons (pg_name (i := 10) sc_step_of.nd rfl (by first | exact Or.inl rfl | exact Or.inr rfl)) (pgs_cons (pg_name (i := 11) sc_step_of.nd rfl (by first | exact Or.inl rfl | exact Or.inr rfl)) (pgs_cons (pg_name (i := 12) sc_step_of.nd rfl (by first | exact Or.inl rfl | exact Or.inr rfl)) pgs_nil)))))))
      (pss_cons (ps_while PassesOwn.never (pt_cmpR op_ne (pv 6) (pv 10) (nomark _)) (pss_cons (ps_set (i := 13) sc_step_of.nd rfl (by first | exact Or.inl rfl | exact Or.inr rfl) (pe_op o_div (pe_op o_sub (pe_op o_add (pv 5) (pv 8)) pe_int) (pe_op o_sub (pv 6) (pv 10))))
      (pss_cons (ps_expr (pe_meth (pv 0) T.cl_Machine T.me_Machine_count (ok_Machine_count T B) (hr.mono (by decide)) T.b_Machine_count .nil pass0 (pa_cons pe_str (pa_cons pe_int pa_nil))))
      (pss_cons (ps_if (pt_cmpR o_gt (pe_op o_add (pv 9) (pe_op o_mul (pv 13) (pv 11))) (pe_op o_sub (pv 5) (pe_op o_mul (pv 13) (pv 6))) (nomark _)) (pss_one ps_break) pss_nil)
      (pss_cons (ps_par rfl sc_step_of.nd rfl rfl (by decide) rfl rfl (pa_cons (pv 6) (pa_cons (pe_op o_sub (pv 5) (pe_op o_mul (pv 13) (pv 6))) pa_nil)) (by rfl))
      (pss_cons (ps_asg (pe_tup (pa_cons (pv 11) (pa_cons (pv 10) (pa_cons (pe_op o_add (pv 9) (pe_op o_mul (pv 13) (pv 11))) (pa_cons (pe_op o_add (pv 8) (pe_op o_mul (pv 13) (pv 10))) pa_nil))))) (pg_tup rfl (pgs_cons (pg_name (i := 8) sc_step_of.nd rfl (by first | exact Or.inl rfl | exact Or.inr rfl)) (pgs_cons (pg_name (i := 9) sc_step_of.nd rfl (by first | exact Or.inl rfl | exact Or.inr rfl)) (pgs_cons (pg_name (i := 10) sc_step_of.nd rfl (by first | exact Or.inl rfl | exact Or.inr rfl)) (pgs_cons (pg_name (i := 11) sc_step_of.nd rfl (by first | exact Or.inl rfl | exact Or.inr rfl)) pgs_nil))))))
      (pss_one (ps_expr (pe_bm PySem.F.plainAttrs_list PySem.F.slot_list_append PySem.F.type_list_append mt_append (pv 12) (pa_cons (pv 13) pa_nil))))))))))
      (pss_cons (ps_if (pt_cmpR op_eq (pe_op o_mod (pe_callB c_len (by rfl) T.n_len (by decide +kernel) (pa_cons (pv 12) pa_nil)) pe_int) pe_int (nomark _)) (pss_one (ps_ret (pe_tup (pa_cons (pv 12) (pa_cons (pe_tup (pa_cons (pv 8) (pa_cons (pe_un o_neg (pv 9)) (pa_cons (pe_un o_neg (pv 10)) (pa_cons (pv 11) pa_nil))))) pa_nil))))) pss_nil)
      (pss_one (ps_ret (pe_tup (pa_cons (pv 12) (pa_cons (pe_tup (pa_cons (pe_un o_neg (pv 9)) (pa_cons (pv 8) (pa_cons (pv 11) (pa_cons (pe_un o_neg (pv 10)) pa_nil))))) pa_nil))))))))))
theorem ok_step_of (T : Txt K mg a) (B : Tb base mg a) : FnOk P w K mg base CX0 2 a.f_step_of a.fd_step_of ["machine", "x", "y"] (sp_g_stepT K a.c) := by
  refine T.F_step_of.ok sc_step_of (fun vs H Q E h => ?_) (fun cdv A outer s H vs Q E hr h => ⟨_, dv_step_of T B hr, b_g_stepT T.PM T.PB h⟩)
  first | exact Pu.lif_len n_g_stepT h | exact Pu.lifS_len n_g_stepT h | exact Pu.lifL_len n_g_stepT h | exact Pu.lifO_len n_g_stepT h
theorem dv_law_draw {cdv : Value} {A : Around} {outer : List Env} {s : Shared} {H : Hp} {E : XK} (T : Txt K mg a) (B : Tb base mg a) (hr : Room 1 (A.deeper (envOfC "_law_draw" (defScope s_law_draw) s.heap.objs.size a.f_law_draw cdv))) :
    PSs (cxOf CX0 P w K mg base N_law_draw "_law_draw" (defScope s_law_draw) a.f_law_draw cdv A outer s H E).nox (defBody s_law_draw) (t_x_draw K a.c) := by
  unfold t_x_draw
  exact (pss_cons (ps_if (pt_cmpR o_gt (pe_ix ix_list (pv 0) pe_int (fun _ _ => rfl)) pe_int (nomark _)) (pss_cons (ps_set (i := 2) sc_law_draw.nd rfl (by first | exact Or.inl rfl | exact Or.inr rfl) (pe_op o_mod (pe_callTy c_int (by rfl) T.n_int (by decide +kernel) (pa_cons (pe_ix ix_list (pv 0) pe_int (fun _ _ => rfl)) pa_nil)) (pv 1)))
      (pss_cons (ps_asg (pe_op o_div (pe_ix ix_list (pv 0) pe_int (fun _ _ => rfl)) (pv 1)) (pg_sub (pv 0) pe_int set_list))
      (pss_one (ps_ret (pv 2))))) pss_nil)
      (pss_cons (ps_asg (pe_op o_add (pe_ix ix_list (pv 0) pe_int (fun _ _ => rfl)) pe_int) (pg_sub (pv 0) pe_int set_list))
      (pss_one (ps_ret (pe_op o_mod (pe_callTy c_int (by rfl) T.n_int (by decide +kernel) (pa_cons (pe_call (ok_law_mixed T B) (hr.mono (by decide)) rfl T.m_law_mixed T.F_law_mixed.kp T.b_law_mixed .nil pass0 (pa_cons (pe_ix ix_list (pv 0) pe_int (fun _ _ => rfl)) (pa_cons (pe_ix ix_list (pv 0) pe_int (fun _ _ => rfl)) pa_nil))) pa_nil)) (pv 1))))))
theorem ok_law_draw (T : Txt K mg a) (B : Tb base mg a) : FnOk P w K mg base CX0 2 a.f_law_draw a.fd_law_draw ["_law_source_here", "_law_bound"] (sp_x_draw K a.c) := by
  refine T.F_law_draw.ok sc_law_draw (fun vs H Q E h => ?_) (fun cdv A outer s H vs Q E hr h => ⟨_, dv_law_draw T B hr, b_x_draw h⟩)
  (repeat (obtain ⟨_, h⟩ := h)); all_goals (subst_vars; rfl)
theorem dv_Machine_init {cdv : Value} {A : Around} {outer : List Env} {s : Shared} {H : Hp} {E : XK} (T : Txt K mg a) (B : Tb base mg a) (hr : Room 2 (A.deeper (envOfC "Machine.__init__" (defScope s_Machine_init) s.heap.objs.size a.f_Machine_init cdv))) :
    PSs (cxOf CX0 P w K mg base N_Machine_init "Machine.__init__" (defScope s_Machine_init) a.f_Machine_init cdv A outer s H E).nox (defBody s_Machine_init) (t_Machine_init K a.c) := by
  unfold t_Machine_init
  exact (pss_cons (ps_if (pt_not (pt_val (pe_call (ok_is_between T B) (hr.mono (by decide)) rfl T.m_is_between T.F_is_between.kp T.b_is_between .nil pass0 (pa_cons (pv 1) (pa_cons (C8.pe_gc rfl T.g_LEAST_BITS) (pa_cons (C8.pe_gc rfl T.g_MOST_BITS) pa_nil)))))) (pss_one ps_never) pss_nil)
      (pss_cons (ps_if (pt_not (pt_val (pe_call (ok_is_between T B) (hr.mono (by decide)) rfl T.m_is_between T.F_is_between.kp T.b_is_between .nil pass0 (pa_cons (pv 2) (pa_cons pe_int (pa_cons (C8.pe_gc rfl T.g_MOST_CUTOFF) pa_nil)))))) (pss_one ps_never) pss_nil)
      (pss_cons (ps_fld (pv 0) (pv 1) rfl)
      (pss_cons (ps_fld (pv 0) (pv 2) rfl)
      (pss_cons (ps_fld (pv 0) (pe_op o_shl pe_int (pv 1)) rfl)
      (pss_cons (ps_fld (pv 0) (pe_callTy (c_dict rfl) (by rfl) T.n_dict (by decide +kernel) (pa_cons (pe_lc (own := [("word", 3)]) (g := (gName 3)) rfl sc_Machine_init.nd (pi_tup (pe_glob rfl T.g_WORDS rfl)) (blkOk_by (own := [("word", 3)]) (N := N_Machine_init) (sc := defScope s_Machine_init) (by decide +kernel)) (fun _ _ _ _ _ => (pg_name (i := 3) sc_Machine_init.nd rfl (by first | exact Or.inl rfl | exact Or.inr rfl))) (fun _ _ _ _ _ => pts_nil) (fun _ _ _ _ _ => (pe_tup (pa_cons (pv 3) (pa_cons pe_int pa_nil))))) pa_nil)) rfl)
      (pss_one (ps_fld (pv 0) (pe_lst pa_nil) rfl))))))))
theorem ok_Machine_init (T : Txt K mg a) (B : Tb base mg a) : FnOk P w K mg base CX0 3 a.f_Machine_init a.fd_Machine_init ["self", "bits", "cutoff"] (sp_Machine_init K a.c) := by
  refine FunD.ok T.F_Machine_init sc_Machine_init (fun vs H Q E h => ?_) (fun cdv A outer s H vs Q E hr h => ⟨_, (dv_Machine_init T B hr).nox, b_Machine_init T.PM h⟩)
  (repeat (obtain ⟨_, h⟩ := h)); all_goals (subst_vars; rfl)
theorem dv_made {cdv : Value} {A : Around} {outer : List Env} {s : Shared} {H : Hp} {E : XK} (T : Txt K mg a) (B : Tb base mg a) (hr : Room 2 (A.deeper (envOfC "made" (defScope s_made) s.heap.objs.size a.f_made cdv))) :
    PSs (cxOf CX0 P w K mg base N_made "made" (defScope s_made) a.f_made cdv A outer s H E).nox (defBody s_made) (t_made K a.c) := by
  unfold t_made
  exact (pss_cons (ps_set (i := 3) sc_made.nd rfl (by first | exact Or.inl rfl | exact Or.inr rfl) (pe_callB c_len (by rfl) T.n_len (by decide +kernel) (pa_cons (pv 2) pa_nil)))
      (pss_cons (ps_while PassesOwn.never (PW.pt (pw_and (pt_cmpR o_gt (pv 3) pe_int (nomark _)) (pw_and1 (pt_cmpR op_eq (pe_ix ix_list (pv 2) (pe_op o_sub (pv 3) pe_int) (fun _ _ => rfl)) pe_int (nomark _))))) (pss_one (ps_set (i := 3) sc_made.nd rfl (by first | exact Or.inl rfl | exact Or.inr rfl) (pe_op o_sub (pv 3) pe_int))))
      (pss_one (ps_ret (pe_make T.mk_Big (ok_Big_init T B) (hr.mono (by decide)) rfl T.g_Big T.b_Big_init .nil pass0 (pa_cons (pe_fld (pv 0) rfl) (pa_cons (pe_ifExp (pt_cmpR o_gt (pv 3) pe_int (nomark _)) (pv 1) pe_int) (pa_cons (pe_callTy c_tupL (by rfl) T.n_tuple (by decide +kernel) (pa_cons (pe_slice sl_list (pv 2) po_none (po_some (pv 3))) pa_nil)) pa_nil))))))))
theorem ok_made (T : Txt K mg a) (B : Tb base mg a) : FnOk P w K mg base CX0 3 a.f_made a.fd_made ["machine", "side", "digits"] (sp_made K a.c) := by
  refine T.F_made.ok sc_made (fun vs H Q E h => ?_) (fun cdv A outer s H vs Q E hr h => ⟨_, dv_made T B hr, b_made T.PM T.PB h⟩)
  (repeat (obtain ⟨_, h⟩ := h)); all_goals (subst_vars; rfl)
theorem dv_lehmer_step {cdv : Value} {A : Around} {outer : List Env} {s : Shared} {H : Hp} {E : XK} (T : Txt K mg a) (B : Tb base mg a) (hr : Room 2 (A.deeper (envOfC "lehmer_step" (defScope s_lehmer_step) s.heap.objs.size a.f_lehmer_step cdv))) :
    PSs (cxOf CX0 P w K mg base N_lehmer_step "lehmer_step" (defScope s_lehmer_step) a.f_lehmer_step cdv A outer s H E).nox (defBody s_lehmer_step) (t_g_lehmer K a.c) := by
  unfold t_g_lehmer
  exact (pss_cons (ps_expr (pe_call (ok_check_bigs T B) (hr.mono (by decide)) rfl T.m_check_bigs T.F_check_bigs.kp T.b_check_bigs .nil pass0 (pa_cons (pv 0) (pa_cons (pv 1) (pa_cons (pv 2) pa_nil)))))
      (pss_cons (ps_if (PW.pt (pw_or (pt_cmpR o_lt (pe_fld (pv 1) rfl) pe_int (nomark _)) (pw_or1 (pt_cmpR o_le (pe_callB c_len (by rfl) T.n_len (by decide +kernel) (pa_cons (pe_fld (pv 1) rfl) pa_nil)) (C8.pe_gc rfl T.g_FEW_DIGITS) (nomark _))))) (pss_one ps_never) pss_nil)
      (pss_cons (ps_if (PW.pt (pw_or (pt_cmpR o_lt (pe_fld (pv 2) rfl) pe_int (nomark _)) (pw_or1 (pt_cmpR o_gt (pe_call (ok_value_of T B) (hr.mono (by decide)) rfl T.m_value_of T.F_value_of.kp T.b_value_of .nil pass0 (pa_cons (pv 2) pa_nil)) (pe_call (ok_value_of T B) (hr.mono (by decide)) rfl T.m_value_of T.F_value_of.kp T.b_value_of .nil pass0 (pa_cons (pv 1) pa_nil)) (nomark _))))) (pss_one ps_never) pss_nil)
      (pss_one (ps_ret (pe_call (ok_step_of T B) (hr.mono (by decide)) rfl T.m_step_of T.F_step_of.kp T.b_step_of .nil pass0 (pa_cons (pv 0) (pa_cons (pv 1) (pa_cons (pv 2) pa_nil)))))))))
theorem ok_lehmer_step (T : Txt K mg a) (B : Tb base mg a) : FnOk P w K mg base CX0 3 a.f_lehmer_step a.fd_lehmer_step ["machine", "x", "y"] (sp_g_lehmer K a.c) := by
  refine T.F_lehmer_step.ok sc_lehmer_step (fun vs H Q E h => ?_) (fun cdv A outer s H vs Q E hr h => ⟨_, dv_lehmer_step T B hr, b_g_lehmer T.PM T.PB h⟩)
  first | exact Pu.lif_len n_g_lehmer h | exact Pu.lifS_len n_g_lehmer h | exact Pu.lifL_len n_g_lehmer h | exact Pu.lifO_len n_g_lehmer h
theorem dv_law_one {cdv : Value} {A : Around} {outer : List Env} {s : Shared} {H : Hp} {E : XK} (T : Txt K mg a) (B : Tb base mg a) (hr : Room 2 (A.deeper (envOfC "_law_one" (defScope s_law_one) s.heap.objs.size a.f_law_one cdv))) :
    PSs (cxOf CX0 P w K mg base N_law_one "_law_one" (defScope s_law_one) a.f_law_one cdv A outer s H E).nox (defBody s_law_one) (t_x_one K a.c) := by
  unfold t_x_one
  exact (pss_one (ps_ret (pe_ix ix_list (pv 1) (pe_call (ok_law_draw T B) (hr.mono (by decide)) rfl T.m_law_draw T.F_law_draw.kp T.b_law_draw .nil pass0 (pa_cons (pv 0) (pa_cons (pe_callB c_len (by rfl) T.n_len (by decide +kernel) (pa_cons (pv 1) pa_nil)) pa_nil))) (fun _ _ => rfl))))
theorem ok_law_one (T : Txt K mg a) (B : Tb base mg a) : FnOk P w K mg base CX0 3 a.f_law_one a.fd_law_one ["_law_source_here", "_law_some"] (sp_x_one K a.c) := by
  refine T.F_law_one.ok sc_law_one (fun vs H Q E h => ?_) (fun cdv A outer s H vs Q E hr h => ⟨_, dv_law_one T B hr, b_x_one h⟩)
  (repeat (obtain ⟨_, h⟩ := h)); all_goals (subst_vars; rfl)
theorem dv_check_big_X {cdv : Value} {A : Around} {outer : List Env} {s : Shared} {H : Hp} {E : XK} (T : Txt K mg a) (B : Tb base mg a) (hr : Room 2 (A.deeper (envOfC "check_big" (defScope s_check_big) s.heap.objs.size a.f_check_big cdv))) :
    PSs (cxOf (L2.CX P w) P w K mg base N_check_big "check_big" (defScope s_check_big) a.f_check_big cdv A outer s H E) (defBody s_check_big) (t_check_big_X K a.c E) := by
  unfold t_check_big_X
  exact (pss_one (ps_if (PW.pt (pw_or (pt_not (pt_val (pe_callB call_isi (by rfl) T.n_isinstance (by decide +kernel) (pa_cons (pv 2) (pa_cons (pe_glob rfl T.g_Big rfl) pa_nil))))) (pw_or1 (pt_cmpR op_ne (pe_fld (pv 2) rfl) (pe_fld (pv 0) rfl) (nomark _))))) (pss_one (ps_raiseF rfl (takes_of rfl rfl rfl rfl) (pmk_aexF T.axf_InvalidBound T.ai_InvalidBound T.at_InvalidBound (ok_InvalidBound_init T B) (hr.mono (by decide)) T.b_InvalidBound_init pass0 rfl T.gx_InvalidBound (by exact pa_cons (pv 1) pa_nil)))) pss_nil))
theorem ok_check_big_X (T : Txt K mg a) (B : Tb base mg a) : FnOk P w K mg base (L2.CX P w) 3 a.f_check_big a.fd_check_big ["machine", "argument", "value"] (sp_check_big_X K a.c) := by
  refine T.F_check_big.okX sc_check_big (fun vs H Q E h => ?_) (fun cdv A outer s H vs Q E hr h => ⟨_, dv_check_big_X T B hr, b_check_big_X T.PM T.PB T.IS h⟩)
  exact Pu.lifX_len n_check_big_X h
theorem dv_check_machine_X {cdv : Value} {A : Around} {outer : List Env} {s : Shared} {H : Hp} {E : XK} (T : Txt K mg a) (B : Tb base mg a) (hr : Room 2 (A.deeper (envOfC "check_machine" (defScope s_check_machine) s.heap.objs.size a.f_check_machine cdv))) :
    PSs (cxOf (L2.CX P w) P w K mg base N_check_machine "check_machine" (defScope s_check_machine) a.f_check_machine cdv A outer s H E) (defBody s_check_machine) (t_check_machine_X K a.c E) := by
  unfold t_check_machine_X
  exact (pss_one (ps_if (pt_not (pt_val (pe_callB call_isi (by rfl) T.n_isinstance (by decide +kernel) (pa_cons (pv 0) (pa_cons (pe_glob rfl T.g_Machine rfl) pa_nil))))) (pss_one (ps_raiseF rfl (takes_of rfl rfl rfl rfl) (pmk_aexF T.axf_InvalidBound T.ai_InvalidBound T.at_InvalidBound (ok_InvalidBound_init T B) (hr.mono (by decide)) T.b_InvalidBound_init pass0 rfl T.gx_InvalidBound (by exact pa_cons pe_str pa_nil)))) pss_nil))
theorem ok_check_machine_X (T : Txt K mg a) (B : Tb base mg a) : FnOk P w K mg base (L2.CX P w) 3 a.f_check_machine a.fd_check_machine ["value"] (sp_check_machine_X K a.c) := by
  refine T.F_check_machine.okX sc_check_machine (fun vs H Q E h => ?_) (fun cdv A outer s H vs Q E hr h => ⟨_, dv_check_machine_X T B hr, b_check_machine_X T.PM T.PB T.IS h⟩)
  exact Pu.lifX_len n_check_machine_X h
theorem dv_big_of {cdv : Value} {A : Around} {outer : List Env} {s : Shared} {H : Hp} {E : XK} (T : Txt K mg a) (B : Tb base mg a) (hr : Room 3 (A.deeper (envOfC "big_of" (defScope s_big_of) s.heap.objs.size a.f_big_of cdv))) :
    PSs (cxOf CX0 P w K mg base N_big_of "big_of" (defScope s_big_of) a.f_big_of cdv A outer s H E).nox (defBody s_big_of) (t_big_of K a.c) := by
  unfold t_big_of
  exact (pss_one (ps_ret (pe_call (ok_made T B) (hr.mono (by decide)) rfl T.m_made T.F_made.kp T.b_made .nil pass0 (pa_cons (pv 0) (pa_cons (pe_ifExp (pt_cmpR o_lt (pv 1) pe_int (nomark _)) (pe_un o_neg pe_int) pe_int) (pa_cons (pe_call (ok_digits_of T B) (hr.mono (by decide)) rfl T.m_digits_of T.F_digits_of.kp T.b_digits_of .nil pass0 (pa_cons (pv 0) (pa_cons (pe_callB c_abs (by rfl) T.n_abs (by decide +kernel) (pa_cons (pv 1) pa_nil)) pa_nil))) pa_nil))))))
theorem ok_big_of (T : Txt K mg a) (B : Tb base mg a) : FnOk P w K mg base CX0 4 a.f_big_of a.fd_big_of ["machine", "n"] (sp_big_of K a.c) := by
  refine T.F_big_of.ok sc_big_of (fun vs H Q E h => ?_) (fun cdv A outer s H vs Q E hr h => ⟨_, dv_big_of T B hr, b_big_of T.PM h⟩)
  (repeat (obtain ⟨_, h⟩ := h)); all_goals (subst_vars; rfl)
theorem dv_law_count_of {cdv : Value} {A : Around} {outer : List Env} {s : Shared} {H : Hp} {E : XK} (T : Txt K mg a) (B : Tb base mg a) (hr : Room 3 (A.deeper (envOfC "_law_count_of" (defScope s_law_count_of) s.heap.objs.size a.f_law_count_of cdv))) :
    PSs (cxOf CX0 P w K mg base N_law_count_of "_law_count_of" (defScope s_law_count_of) a.f_law_count_of cdv A outer s H E).nox (defBody s_law_count_of) (t_x_count K a.c) := by
  unfold t_x_count
  exact (pss_cons (ps_set (i := 3) sc_law_count_of.nd rfl (by first | exact Or.inl rfl | exact Or.inr rfl) pe_int)
      (pss_cons (ps_for PassesOwn.never rfl (pi_range1 rfl T.n_range (pa_cons (pv 2) pa_nil)) (pg_name (i := 4) sc_law_count_of.nd rfl (by first | exact Or.inl rfl | exact Or.inr rfl)) (pss_cons (ps_set (i := 5) sc_law_count_of.nd rfl (by first | exact Or.inl rfl | exact Or.inr rfl) (pe_lst (pa_cons (pe_call (ok_law_draw T B) (hr.mono (by decide)) rfl T.m_law_draw T.F_law_draw.kp T.b_law_draw .nil pass0 (pa_cons (pv 0) (pa_cons (pe_op o_shl pe_int (pv 1)) pa_nil))) (pa_cons (pe_call (ok_law_draw T B) (hr.mono (by decide)) rfl T.m_law_draw T.F_law_draw.kp T.b_law_draw .nil pass0 (pa_cons (pv 0) (pa_cons (pe_op o_shl pe_int (pv 1)) pa_nil))) (pa_cons pe_int (pa_cons (pe_op o_sub (pe_op o_shl pe_int (pv 1)) pe_int) (pa_cons pe_int pa_nil)))))))
      (pss_cons (ps_set (i := 6) sc_law_count_of.nd rfl (by first | exact Or.inl rfl | exact Or.inr rfl) (pe_call (ok_law_one T B) (hr.mono (by decide)) rfl T.m_law_one T.F_law_one.kp T.b_law_one .nil pass0 (pa_cons (pv 0) (pa_cons (pv 5) pa_nil))))
      (pss_one (ps_set (i := 3) sc_law_count_of.nd rfl (by first | exact Or.inl rfl | exact Or.inr rfl) (pe_op o_add (pe_op o_shl (pv 3) (pv 1)) (pe_ifExp (pt_cmpR op_eq (pv 4) pe_int (nomark _)) (pe_callB (c_max rfl) (by rfl) T.n_max (by decide +kernel) (pa_cons pe_int (pa_cons (pv 6) pa_nil))) (pv 6))))))))
      (pss_one (ps_ret (pv 3)))))
theorem ok_law_count_of (T : Txt K mg a) (B : Tb base mg a) : FnOk P w K mg base CX0 4 a.f_law_count_of a.fd_law_count_of ["_law_source_here", "_law_width", "_law_size_here"] (sp_x_count K a.c) := by
  refine T.F_law_count_of.ok sc_law_count_of (fun vs H Q E h => ?_) (fun cdv A outer s H vs Q E hr h => ⟨_, dv_law_count_of T B hr, b_x_count T.PM T.PB h⟩)
  first | exact Pu.lif_len n_x_count h | exact Pu.lifS_len n_x_count h | exact Pu.lifL_len n_x_count h | exact Pu.lifO_len n_x_count h
theorem dv_check_bigs_X {cdv : Value} {A : Around} {outer : List Env} {s : Shared} {H : Hp} {E : XK} (T : Txt K mg a) (B : Tb base mg a) (hr : Room 3 (A.deeper (envOfC "check_bigs" (defScope s_check_bigs) s.heap.objs.size a.f_check_bigs cdv))) :
    PSs (cxOf (L2.CX P w) P w K mg base N_check_bigs "check_bigs" (defScope s_check_bigs) a.f_check_bigs cdv A outer s H E) (defBody s_check_bigs) (t_check_bigs_X K a.c E) := by
  unfold t_check_bigs_X
  exact (pss_cons (ps_expr (pe_call (ok_check_machine_X T B) (hr.mono (by decide)) rfl T.m_check_machine T.F_check_machine.kp T.b_check_machine .nil (passes_call (takes_of rfl rfl rfl rfl) (fun _ _ _ _ h => h)) (pa_cons (pv 0) pa_nil)))
      (pss_cons (ps_expr (pe_call (ok_check_big_X T B) (hr.mono (by decide)) rfl T.m_check_big T.F_check_big.kp T.b_check_big .nil (passes_call (takes_of rfl rfl rfl rfl) (fun _ _ _ _ h => h)) (pa_cons (pv 0) (pa_cons pe_str (pa_cons (pv 1) pa_nil)))))
      (pss_one (ps_expr (pe_call (ok_check_big_X T B) (hr.mono (by decide)) rfl T.m_check_big T.F_check_big.kp T.b_check_big .nil (passes_call (takes_of rfl rfl rfl rfl) (fun _ _ _ _ h => h)) (pa_cons (pv 0) (pa_cons pe_str (pa_cons (pv 2) pa_nil))))))))
theorem ok_check_bigs_X (T : Txt K mg a) (B : Tb base mg a) : FnOk P w K mg base (L2.CX P w) 4 a.f_check_bigs a.fd_check_bigs ["machine", "x", "y"] (sp_check_bigs_X K a.c) := by
  refine T.F_check_bigs.okX sc_check_bigs (fun vs H Q E h => ?_) (fun cdv A outer s H vs Q E hr h => ⟨_, dv_check_bigs_X T B hr, b_check_bigs_X T.PM T.PB h⟩)
  exact Pu.lifX_len n_check_bigs_X h
theorem dv_big {cdv : Value} {A : Around} {outer : List Env} {s : Shared} {H : Hp} {E : XK} (T : Txt K mg a) (B : Tb base mg a) (hr : Room 4 (A.deeper (envOfC "big" (defScope s_big) s.heap.objs.size a.f_big cdv))) :
    PSs (cxOf CX0 P w K mg base N_big "big" (defScope s_big) a.f_big cdv A outer s H E).nox (defBody s_big) (t_big K a.c) := by
  unfold t_big
  exact (pss_cons (ps_expr (pe_call (ok_check_machine T B) (hr.mono (by decide)) rfl T.m_check_machine T.F_check_machine.kp T.b_check_machine .nil pass0 (pa_cons (pv 0) pa_nil)))
      (pss_cons (ps_expr (pe_call (ok_check_integer T B) (hr.mono (by decide)) rfl T.m_check_integer T.F_check_integer.kp T.b_check_integer .nil pass0 (pa_cons pe_str (pa_cons (pv 1) pa_nil))))
      (pss_one (ps_ret (pe_call (ok_big_of T B) (hr.mono (by decide)) rfl T.m_big_of T.F_big_of.kp T.b_big_of .nil pass0 (pa_cons (pv 0) (pa_cons (pv 1) pa_nil)))))))
theorem ok_big (T : Txt K mg a) (B : Tb base mg a) : FnOk P w K mg base CX0 5 a.f_big a.fd_big ["machine", "n"] (sp_big K a.c) := by
  refine T.F_big.ok sc_big (fun vs H Q E h => ?_) (fun cdv A outer s H vs Q E hr h => ⟨_, dv_big T B hr, b_big h⟩)
  (repeat (obtain ⟨_, h⟩ := h)); all_goals (subst_vars; rfl)
theorem dv_law_engines {cdv : Value} {A : Around} {outer : List Env} {s : Shared} {H : Hp} {E : XK} (T : Txt K mg a) (B : Tb base mg a) (hr : Room 4 (A.deeper (envOfC "_law_engines" (defScope s_law_engines) s.heap.objs.size a.f_law_engines cdv))) :
    PSs (cxOf CX0 P w K mg base N_law_engines "_law_engines" (defScope s_law_engines) a.f_law_engines cdv A outer s H E).nox (defBody s_law_engines) (t_x_engines K a.c) := by
  unfold t_x_engines
  exact (pss_cons (ps_set (i := 1) sc_law_engines.nd rfl (by first | exact Or.inl rfl | exact Or.inr rfl) (pe_call (ok_law_one T B) (hr.mono (by decide)) rfl T.m_law_one T.F_law_one.kp T.b_law_one .nil pass0 (pa_cons (pv 0) (pa_cons (pe_lst (pa_cons pe_int (pa_cons pe_int (pa_cons pe_int (pa_cons pe_int (pa_cons pe_int (pa_cons pe_int (pa_cons pe_int (pa_cons (pe_op o_add pe_int (pe_call (ok_law_draw T B) (hr.mono (by decide)) rfl T.m_law_draw T.F_law_draw.kp T.b_law_draw .nil pass0 (pa_cons (pv 0) (pa_cons pe_int pa_nil)))) (pa_cons (pe_op o_add pe_int (pe_call (ok_law_draw T B) (hr.mono (by decide)) rfl T.m_law_draw T.F_law_draw.kp T.b_law_draw .nil pass0 (pa_cons (pv 0) (pa_cons pe_int pa_nil)))) pa_nil)))))))))) pa_nil))))
      (pss_cons (ps_set (i := 2) sc_law_engines.nd rfl (by first | exact Or.inl rfl | exact Or.inr rfl) (pe_call (ok_law_one T B) (hr.mono (by decide)) rfl T.m_law_one T.F_law_one.kp T.b_law_one .nil pass0 (pa_cons (pv 0) (pa_cons (pe_lst (pa_cons pe_int (pa_cons pe_int (pa_cons pe_int (pa_cons pe_int (pa_cons (pe_op o_add pe_int (pe_call (ok_law_draw T B) (hr.mono (by decide)) rfl T.m_law_draw T.F_law_draw.kp T.b_law_draw .nil pass0 (pa_cons (pv 0) (pa_cons pe_int pa_nil)))) pa_nil)))))) pa_nil))))
      (pss_one (ps_ret (pe_lc (own := [("_law_k", 3)]) (g := (gName 3)) rfl sc_law_engines.nd (pi_range1 rfl T.n_range (pa_cons pe_int pa_nil)) (blkOk_by (own := [("_law_k", 3)]) (N := N_law_engines) (sc := defScope s_law_engines) (by decide +kernel)) (fun _ _ _ _ _ => (pg_name (i := 3) sc_law_engines.nd rfl (by first | exact Or.inl rfl | exact Or.inr rfl))) (fun _ _ _ _ _ => pts_nil) (fun _ _ _ _ _ => (pe_make T.mk_Machine (ok_Machine_init T B) (hr.mono (by decide)) rfl T.g_Machine T.b_Machine_init .nil pass0 (pa_cons (pv 1) (pa_cons (pv 2) pa_nil)))))))))
theorem ok_law_engines (T : Txt K mg a) (B : Tb base mg a) : FnOk P w K mg base CX0 5 a.f_law_engines a.fd_law_engines ["_law_source_here"] (sp_x_engines K a.c) := by
  refine T.F_law_engines.ok sc_law_engines (fun vs H Q E h => ?_) (fun cdv A outer s H vs Q E hr h => ⟨_, dv_law_engines T B hr, b_x_engines T.PM T.PB h⟩)
  first | exact Pu.lif_len n_x_engines h | exact Pu.lifS_len n_x_engines h | exact Pu.lifL_len n_x_engines h | exact Pu.lifO_len n_x_engines h
theorem dv_law_number {cdv : Value} {A : Around} {outer : List Env} {s : Shared} {H : Hp} {E : XK} (T : Txt K mg a) (B : Tb base mg a) (hr : Room 4 (A.deeper (envOfC "_law_number" (defScope s_law_number) s.heap.objs.size a.f_law_number cdv))) :
    PSs (cxOf CX0 P w K mg base N_law_number "_law_number" (defScope s_law_number) a.f_law_number cdv A outer s H E).nox (defBody s_law_number) (t_x_number K a.c) := by
  unfold t_x_number
  exact (pss_cons (ps_set (i := 3) sc_law_number.nd rfl (by first | exact Or.inl rfl | exact Or.inr rfl) (pe_call (ok_law_draw T B) (hr.mono (by decide)) rfl T.m_law_draw T.F_law_draw.kp T.b_law_draw .nil pass0 (pa_cons (pv 0) (pa_cons (pe_op o_add (pv 2) pe_int) pa_nil))))
      (pss_one (ps_ret (pe_op o_mul (pe_call (ok_law_count_of T B) (hr.mono (by decide)) rfl T.m_law_count_of T.F_law_count_of.kp T.b_law_count_of .nil pass0 (pa_cons (pv 0) (pa_cons (pv 1) (pa_cons (pv 3) pa_nil)))) (pe_call (ok_law_one T B) (hr.mono (by decide)) rfl T.m_law_one T.F_law_one.kp T.b_law_one .nil pass0 (pa_cons (pv 0) (pa_cons (pe_lst (pa_cons pe_int (pa_cons pe_int (pa_cons (pe_un o_neg pe_int) pa_nil)))) pa_nil)))))))
theorem ok_law_number (T : Txt K mg a) (B : Tb base mg a) : FnOk P w K mg base CX0 5 a.f_law_number a.fd_law_number ["_law_source_here", "_law_width", "_law_most"] (sp_x_number K a.c) := by
  refine T.F_law_number.ok sc_law_number (fun vs H Q E h => ?_) (fun cdv A outer s H vs Q E hr h => ⟨_, dv_law_number T B hr, b_x_number T.PM T.PB h⟩)
  first | exact Pu.lif_len n_x_number h | exact Pu.lifS_len n_x_number h | exact Pu.lifL_len n_x_number h | exact Pu.lifO_len n_x_number h
theorem dv_lehmer_step_X {cdv : Value} {A : Around} {outer : List Env} {s : Shared} {H : Hp} {E : XK} (T : Txt K mg a) (B : Tb base mg a) (hr : Room 4 (A.deeper (envOfC "lehmer_step" (defScope s_lehmer_step) s.heap.objs.size a.f_lehmer_step cdv))) :
    PSs (cxOf (L2.CX P w) P w K mg base N_lehmer_step "lehmer_step" (defScope s_lehmer_step) a.f_lehmer_step cdv A outer s H E) (defBody s_lehmer_step) (t_g_lehmer_X K a.c E) := by
  unfold t_g_lehmer_X
  exact (pss_cons (ps_expr (pe_call (ok_check_bigs_X T B) (hr.mono (by decide)) rfl T.m_check_bigs T.F_check_bigs.kp T.b_check_bigs .nil (passes_call (takes_of rfl rfl rfl rfl) (fun _ _ _ _ h => h)) (pa_cons (pv 0) (pa_cons (pv 1) (pa_cons (pv 2) pa_nil)))))
      (pss_cons (ps_if (PW.pt (pw_or (pt_cmpR o_lt (pe_fld (pv 1) rfl) pe_int (nomark _)) (pw_or1 (pt_cmpR o_le (pe_callB c_len (by rfl) T.n_len (by decide +kernel) (pa_cons (pe_fld (pv 1) rfl) pa_nil)) (C8.pe_gc rfl T.g_FEW_DIGITS) (nomark _))))) (pss_one (ps_raiseF rfl (takes_of rfl rfl rfl rfl) (pmk_aexF T.axf_InvalidBound T.ai_InvalidBound T.at_InvalidBound (ok_InvalidBound_init T B) (hr.mono (by decide)) T.b_InvalidBound_init pass0 rfl T.gx_InvalidBound (by exact pa_cons pe_str pa_nil)))) pss_nil)
      (pss_cons (ps_if (PW.pt (pw_or (pt_cmpR o_lt (pe_fld (pv 2) rfl) pe_int (nomark _)) (pw_or1 (pt_cmpR o_gt (pe_call (ok_value_of T B) (hr.mono (by decide)) rfl T.m_value_of T.F_value_of.kp T.b_value_of .nil pass0 (pa_cons (pv 2) pa_nil)) (pe_call (ok_value_of T B) (hr.mono (by decide)) rfl T.m_value_of T.F_value_of.kp T.b_value_of .nil pass0 (pa_cons (pv 1) pa_nil)) (nomark _))))) (pss_one (ps_raiseF rfl (takes_of rfl rfl rfl rfl) (pmk_aexF T.axf_InvalidBound T.ai_InvalidBound T.at_InvalidBound (ok_InvalidBound_init T B) (hr.mono (by decide)) T.b_InvalidBound_init pass0 rfl T.gx_InvalidBound (by exact pa_cons pe_str pa_nil)))) pss_nil)
      (pss_one (ps_ret (pe_call (ok_step_of T B) (hr.mono (by decide)) rfl T.m_step_of T.F_step_of.kp T.b_step_of .nil pass0 (pa_cons (pv 0) (pa_cons (pv 1) (pa_cons (pv 2) pa_nil)))))))))
theorem ok_lehmer_step_X (T : Txt K mg a) (B : Tb base mg a) : FnOk P w K mg base (L2.CX P w) 5 a.f_lehmer_step a.fd_lehmer_step ["machine", "x", "y"] (sp_g_lehmer_X K a.c) := by
  refine T.F_lehmer_step.okX sc_lehmer_step (fun vs H Q E h => ?_) (fun cdv A outer s H vs Q E hr h => ⟨_, dv_lehmer_step_X T B hr, b_g_lehmer_X T.PM T.PB h⟩)
  exact Pu.lifX_len n_g_lehmer_X h
theorem dv_law_pair {cdv : Value} {A : Around} {outer : List Env} {s : Shared} {H : Hp} {E : XK} (T : Txt K mg a) (B : Tb base mg a) (hr : Room 5 (A.deeper (envOfC "_law_pair" (defScope s_law_pair) s.heap.objs.size a.f_law_pair cdv))) :
    PSs (cxOf CX0 P w K mg base N_law_pair "_law_pair" (defScope s_law_pair) a.f_law_pair cdv A outer s H E).nox (defBody s_law_pair) (t_k54_pair K a.c) := by
  unfold t_k54_pair
  exact (pss_cons (ps_set (i := 2) sc_law_pair.nd rfl (by first | exact Or.inl rfl | exact Or.inr rfl) (pe_op o_add pe_int (pe_call (ok_law_draw T B) (hr.mono (by decide)) rfl T.m_law_draw T.F_law_draw.kp T.b_law_draw .nil pass0 (pa_cons (pv 0) (pa_cons pe_int pa_nil)))))
      (pss_cons (ps_set (i := 3) sc_law_pair.nd rfl (by first | exact Or.inl rfl | exact Or.inr rfl) (pe_call (ok_law_count_of T B) (hr.mono (by decide)) rfl T.m_law_count_of T.F_law_count_of.kp T.b_law_count_of .nil pass0 (pa_cons (pv 0) (pa_cons (pv 1) (pa_cons (pv 2) pa_nil)))))
      (pss_cons (ps_set (i := 4) sc_law_pair.nd rfl (by first | exact Or.inl rfl | exact Or.inr rfl) (pe_lst (pa_cons (pv 3) (pa_cons (pe_op o_sub (pv 3) (pe_call (ok_law_draw T B) (hr.mono (by decide)) rfl T.m_law_draw T.F_law_draw.kp T.b_law_draw .nil pass0 (pa_cons (pv 0) (pa_cons (pe_op o_shl pe_int pe_int) pa_nil)))) (pa_cons (pe_op o_div (pv 3) (pe_op o_add pe_int (pe_call (ok_law_draw T B) (hr.mono (by decide)) rfl T.m_law_draw T.F_law_draw.kp T.b_law_draw .nil pass0 (pa_cons (pv 0) (pa_cons pe_int pa_nil))))) (pa_cons (pe_call (ok_law_number T B) (hr.mono (by decide)) rfl T.m_law_number T.F_law_number.kp T.b_law_number .nil pass0 (pa_cons (pv 0) (pa_cons (pv 1) (pa_cons (pv 2) pa_nil)))) (pa_cons pe_int pa_nil)))))))
      (pss_cons (ps_set (i := 5) sc_law_pair.nd rfl (by first | exact Or.inl rfl | exact Or.inr rfl) (pe_callB c_abs (by rfl) T.n_abs (by decide +kernel) (pa_cons (pe_call (ok_law_one T B) (hr.mono (by decide)) rfl T.m_law_one T.F_law_one.kp T.b_law_one .nil pass0 (pa_cons (pv 0) (pa_cons (pe_op op_cat (pv 4) (pe_lst (pa_cons (pe_op o_shr (pv 3) (pe_call (ok_law_draw T B) (hr.mono (by decide)) rfl T.m_law_draw T.F_law_draw.kp T.b_law_draw .nil pass0 (pa_cons (pv 0) (pa_cons (pv 1) pa_nil)))) (pa_cons (pe_op o_sub (pv 3) pe_int) pa_nil)))) pa_nil))) pa_nil)))
      (pss_one (ps_ret (pe_ifExp (pt_cmpR o_le (pv 5) (pv 3) (nomark _)) (pe_tup (pa_cons (pv 3) (pa_cons (pv 5) pa_nil))) (pe_ifExp (pt_cmpR o_gt (pe_call (ok_law_size T B) (hr.mono (by decide)) rfl T.m_law_size T.F_law_size.kp T.b_law_size .nil pass0 (pa_cons (pv 3) (pa_cons (pv 1) pa_nil))) pe_int (nomark _)) (pe_tup (pa_cons (pv 5) (pa_cons (pv 3) pa_nil))) (pe_tup (pa_cons (pv 3) (pa_cons pe_int pa_nil)))))))))))
theorem ok_law_pair (T : Txt K mg a) (B : Tb base mg a) : FnOk P w K mg base CX0 6 a.f_law_pair a.fd_law_pair ["_law_source_here", "_law_width"] (sp_k54_pair K a.c) := by
  refine T.F_law_pair.ok sc_law_pair (fun vs H Q E h => ?_) (fun cdv A outer s H vs Q E hr h => ⟨_, dv_law_pair T B hr, b_k54_pair T.PM T.PB h⟩)
  first | exact Pu.lif_len n_k54_pair h | exact Pu.lifS_len n_k54_pair h | exact Pu.lifL_len n_k54_pair h | exact Pu.lifO_len n_k54_pair h
theorem dv_law_right {cdv : Value} {A : Around} {outer : List Env} {s : Shared} {H : Hp} {E : XK} (T : Txt K mg a) (B : Tb base mg a) (hr : Room 5 (A.deeper (envOfC "_law_right" (defScope s_law_right) s.heap.objs.size a.f_law_right cdv))) :
    PSs (cxOf CX0 P w K mg base N_law_right "_law_right" (defScope s_law_right) a.f_law_right cdv A outer s H E).nox (defBody s_law_right) (t_k54_right K a.c) := by
  unfold t_k54_right
  exact (pss_cons (ps_set (i := 4) sc_law_right.nd rfl (by first | exact Or.inl rfl | exact Or.inr rfl) (pe_call (ok_lehmer_step T B) (hr.mono (by decide)) rfl T.m_lehmer_step T.F_lehmer_step.kp T.b_lehmer_step .nil pass0 (pa_cons (pv 0) (pa_cons (pe_call (ok_big T B) (hr.mono (by decide)) rfl T.m_big T.F_big.kp T.b_big .nil pass0 (pa_cons (pv 0) (pa_cons (pv 1) pa_nil))) (pa_cons (pe_call (ok_big T B) (hr.mono (by decide)) rfl T.m_big T.F_big.kp T.b_big .nil pass0 (pa_cons (pv 0) (pa_cons (pv 2) pa_nil))) pa_nil)))))
      (pss_cons (ps_asg (pe_call (ok_law_step T B) (hr.mono (by decide)) rfl T.m_law_step T.F_law_step.kp T.b_law_step .nil pass0 (pa_cons (pv 1) (pa_cons (pv 2) (pa_cons (pv 3) pa_nil)))) (pg_tup rfl (pgs_cons (pg_name (i := 5) sc_law_right.nd rfl (by first | exact Or.inl rfl | exact Or.inr rfl)) (pgs_cons (pg_name (i := 6) sc_law_right.nd rfl (by first | exact Or.inl rfl | exact Or.inr rfl)) (pgs_cons (pg_name (i := 7) sc_law_right.nd rfl (by first | exact Or.inl rfl | exact Or.inr rfl)) pgs_nil)))))
      (pss_cons (ps_if (PW.pt (pw_or (pt_cmpR (op_neD hr.units) (pv 4) (pe_tup (pa_cons (pv 5) (pa_cons (pv 6) pa_nil))) (nomark _)) (pw_or (pt_not (pt_val (pe_callB call_isi (by rfl) T.n_isinstance (by decide +kernel) (pa_cons (pe_ix ix_tup (pv 4) pe_int (fun _ _ => rfl)) (pa_cons (pe_bltn (v := .ty "list") (by rfl) T.n_list (by decide +kernel) rfl) pa_nil))))) (pw_or1 (pt_cmpR (op_neD hr.units) (pe_meth0 (pv 0) T.cl_Machine T.me_Machine_walk (ok_Machine_walk T B) (hr.mono (by decide)) T.b_Machine_walk .nil pass0) (pe_lst pa_nil) (nomark _)))))) (pss_one (ps_ret pe_bl)) pss_nil)
      (pss_cons (ps_if (pt_cmpR (op_neD hr.units) (pe_lc (own := [("_law_row", 8)]) (g := (gName 8)) rfl sc_law_right.nd (pi_list (pe_meth0 (pv 0) T.cl_Machine T.me_Machine_tally (ok_Machine_tally T B) (hr.mono (by decide)) T.b_Machine_tally .nil pass0)) (blkOk_by (own := [("_law_row", 8)]) (N := N_law_right) (sc := defScope s_law_right) (by decide +kernel)) (fun _ _ _ _ _ => (pg_name (i := 8) sc_law_right.nd rfl (by first | exact Or.inl rfl | exact Or.inr rfl))) (fun _ _ _ _ _ => pts_one (pt_cmpR op_ne (pe_ix ix_tup (pv 8) pe_int (fun _ _ => rfl)) pe_int (nomark _))) (fun _ _ _ _ _ => (pv 8))) (pe_op op_rep (pe_lst (pa_cons (pe_tup (pa_cons pe_str (pa_cons (pv 7) pa_nil))) pa_nil)) (pe_callTy c_int (by rfl) T.n_int (by decide +kernel) (pa_cons (pe_cmpR o_gt (pv 7) pe_int (nomark _)) pa_nil))) (nomark _)) (pss_one (ps_ret pe_bl)) pss_nil)
      (pss_cons (ps_expr (pe_meth0 (pv 0) T.cl_Machine T.me_Machine_reset (ok_Machine_reset T B) (hr.mono (by decide)) T.b_Machine_reset .nil pass0))
      (pss_cons (ps_expr (pe_bm PySem.F.plainAttrs_list PySem.F.slot_list_append PySem.F.type_list_append mt_append (pe_ix ix_tup (pv 4) pe_int (fun _ _ => rfl)) (pa_cons pe_non pa_nil)))
      (pss_cons (ps_if (pt_cmpR (op_neD hr.units) (pe_kw (ok_lehmer_step T B) (hr.mono (by decide)) rfl T.m_lehmer_step T.F_lehmer_step.kp T.kb_lehmer_step_y_x_machine pass0 (pk_cons (pe_call (ok_big T B) (hr.mono (by decide)) rfl T.m_big T.F_big.kp T.b_big .nil pass0 (pa_cons (pv 0) (pa_cons (pv 2) pa_nil))) (pk_cons (pe_call (ok_big T B) (hr.mono (by decide)) rfl T.m_big T.F_big.kp T.b_big .nil pass0 (pa_cons (pv 0) (pa_cons (pv 1) pa_nil))) (pk_cons (pv 0) pk_nil)))) (pe_tup (pa_cons (pv 5) (pa_cons (pv 6) pa_nil))) (nomark _)) (pss_one (ps_ret pe_bl)) pss_nil)
      (pss_cons (ps_expr (pe_meth0 (pv 0) T.cl_Machine T.me_Machine_reset (ok_Machine_reset T B) (hr.mono (by decide)) T.b_Machine_reset .nil pass0))
      (pss_one (ps_ret (pe_call (ok_law_facts_right T B) (hr.mono (by decide)) rfl T.m_law_facts_right T.F_law_facts_right.kp T.b_law_facts_right .nil pass0 (pa_cons (pv 1) (pa_cons (pv 2) (pa_cons (pv 5) (pa_cons (pv 6) (pa_cons (pe_op o_shl pe_int (pv 3)) pa_nil))))))))))))))))
theorem ok_law_right (T : Txt K mg a) (B : Tb base mg a) : FnOk P w K mg base CX0 6 a.f_law_right a.fd_law_right ["_law_engine", "_law_xx", "_law_yy", "_law_width"] (sp_k54_right K a.c) := by
  refine T.F_law_right.ok sc_law_right (fun vs H Q E h => ?_) (fun cdv A outer s H vs Q E hr h => ⟨_, dv_law_right T B hr, b_k54_right T.PM T.PB h⟩)
  first | exact Pu.lif_len n_k54_right h | exact Pu.lifS_len n_k54_right h | exact Pu.lifL_len n_k54_right h | exact Pu.lifO_len n_k54_right h
theorem dv_law_refused_right {A : Around} {outer : List Env} {s : Shared} {H : Hp} {E : XK} (T : Txt K mg a) (B : Tb base mg a) (hr : Room 7 (A.deeper (envOfC "_law_refused_right" (defScope s_law_refused_right) s.heap.objs.size a.f_law_refused_right (.ref a.cc_law_refused_right)))) :
    ∃ Lm0 Lm1 Lm2 Lm3 Lm4 : Lmb, Lm0.q = lamQ "_law_refused_right" ∧ Lm1.q = lamQ "_law_refused_right" ∧ Lm2.q = lamQ "_law_refused_right" ∧ Lm3.q = lamQ "_law_refused_right" ∧ Lm4.q = lamQ "_law_refused_right" ∧ PSs (cxOf CX0 P w K mg base N_law_refused_right "_law_refused_right" (defScope s_law_refused_right) a.f_law_refused_right (.ref a.cc_law_refused_right) A outer s H E).nox (defBody s_law_refused_right) (t_k54_refused K a.c (cellsFrom (s.heap.objs.size + 1) (defScope s_law_refused_right).names []) Lm0 Lm1 Lm2 Lm3 Lm4) := ⟨⟨lamQ "_law_refused_right", _, _, _⟩, ⟨lamQ "_law_refused_right", _, _, _⟩, ⟨lamQ "_law_refused_right", _, _, _⟩, ⟨lamQ "_law_refused_right", _, _, _⟩, ⟨lamQ "_law_refused_right", _, _, _⟩, rfl, rfl, rfl, rfl, rfl, by
  unfold t_k54_refused
  refine (pss_cons (ps_asg (pe_tup (pa_cons (pe_call (ok_big T B) (hr.mono (by decide)) rfl T.m_big T.F_big.kp T.b_big .nil pass0 (pa_cons (pv 0) (pa_cons (pe_op o_shl pe_int (pe_op o_mul pe_int (pv 1))) pa_nil))) (pa_cons (pe_call (ok_big T B) (hr.mono (by decide)) rfl T.m_big T.F_big.kp T.b_big .nil pass0 (pa_cons (pe_make T.mk_Machine (ok_Machine_init T B) (hr.mono (by decide)) rfl T.g_Machine T.b_Machine_init .nil pass0 (pa_cons (pe_op o_add pe_int (pe_callTy c_int (by rfl) T.n_int (by decide +kernel) (pa_cons (pe_cmpR op_eq (pv 1) pe_int (nomark _)) pa_nil))) (pa_cons pe_int pa_nil))) (pa_cons (pe_op o_shl pe_int pe_int) pa_nil))) pa_nil))) (pg_tup rfl (pgs_cons (pg_name (i := 2) sc_law_refused_right.nd rfl (by first | exact Or.inl rfl | exact Or.inr rfl)) (pgs_cons (pg_name (i := 3) sc_law_refused_right.nd rfl (by first | exact Or.inl rfl | exact Or.inr rfl)) pgs_nil))))
      (pss_cons (ps_for PassesOwn.never rfl (pi_list (pe_lst (pa_cons pe_non (pa_cons pe_int (pa_cons pe_bl (pa_cons pe_str (pa_cons (pe_lst (pa_cons pe_int pa_nil)) (pa_cons (pv 3) (pa_cons (pe_call (ok_law_deep T B) (hr.mono (by decide)) rfl T.m_law_deep T.F_law_deep.kp T.b_law_deep .nil pass0 (pa_cons pe_bl pa_nil)) (pa_cons (pe_call (ok_law_deep T B) (hr.mono (by decide)) rfl T.m_law_deep T.F_law_deep.kp T.b_law_deep .nil pass0 (pa_cons pe_bl pa_nil)) pa_nil)))))))))) (pg_name (i := 4) sc_law_refused_right.nd rfl (by first | exact Or.inl rfl | exact Or.inr rfl)) (pss_cons (ps_set (i := 5) sc_law_refused_right.nd rfl (by first | exact Or.inl rfl | exact Or.inr rfl) (pe_lst (pa_cons (pe_mkL (L := ⟨lamQ "_law_refused_right", _, _, _⟩) B.t_law_refused_right rfl rfl (.plain (LamX.lamS_by (sc := defScope s_law_refused_right) (by decide +kernel)) (by exact fun _ _ _ _ _ => rfl) (by exact fun _ => rfl) (by rfl))) (pa_cons (pe_mkL (L := ⟨lamQ "_law_refused_right", _, _, _⟩) B.t_law_refused_right rfl rfl (.dflt (ya := "_law_of") (lamD_by (N := ["_law_engine", "_law_width", "_law_xx", "_law_odd", "_law_yy", "_law_asks", "_law_ask", "_law_row"]) (ya := "_law_of") (sc := defScope s_law_refused_right) (by decide +kernel)) (by exact fun _ _ _ _ _ _ _ _ => ⟨_, rfl, rfl⟩) (by rfl) (by rfl))) pa_nil))))
      (pss_cons (ps_expr (pe_bm PySem.F.plainAttrs_list PySem.F.slot_list_append PySem.F.type_list_append mt_append (pv 5) (pa_cons (pe_mkL (L := ⟨lamQ "_law_refused_right", _, _, _⟩) B.t_law_refused_right rfl rfl (.plain (LamX.lamS_by (sc := defScope s_law_refused_right) (by decide +kernel)) (by exact fun _ _ _ _ _ => rfl) (by exact fun _ => rfl) (by rfl))) pa_nil)))
      (pss_one (ps_if (pt_cmpR (op_neD hr.units) (pe_lcE (own := [("_law_ask", 6)]) (g := (gName 6)) rfl sc_law_refused_right.nd (pi_list (pv 5)) (blkOk_by (own := [("_law_ask", 6)]) (N := N_law_refused_right) (sc := defScope s_law_refused_right) (by decide +kernel)) (fun _ _ _ _ _ => (pg_name (i := 6) sc_law_refused_right.nd rfl (by first | exact Or.inl rfl | exact Or.inr rfl))) (fun _ σ0 _ _ _ _ _ I hF => pts_nil) (fun _ σ0 _ _ _ _ _ I hF => (pe_cloA (ok_law_said T B) (acts_X (k := 5) I.ok I.len (by exact (lbs_cons rfl (.dflt (ya := "_law_of") (lamD_by (N := ["_law_engine", "_law_width", "_law_xx", "_law_odd", "_law_yy", "_law_asks", "_law_ask", "_law_row"]) (ya := "_law_of") (sc := defScope s_law_refused_right) (by decide +kernel)) (by exact fun _ _ _ _ _ _ _ _ => ⟨_, rfl, rfl⟩) (by rfl) (by rfl)) (fun A outer s H E f c' hr => (pe_call (ok_lehmer_step_X T B) (hr.mono (by decide)) rfl T.m_lehmer_step T.F_lehmer_step.kp T.b_lehmer_step .nil (passes_call (takes_of rfl rfl rfl rfl) (fun _ _ _ _ h => h)) (pa_cons (pv 0) (pa_cons (pv 4) (pa_cons (pv 4) pa_nil))))) (lbs_cons rfl (.plain (LamX.lamS_by (sc := defScope s_law_refused_right) (by decide +kernel)) (by exact fun _ _ _ _ _ => rfl) (by exact fun _ => rfl) (by rfl)) (fun A outer s H E f c' hr => (pe_call (ok_lehmer_step_X T B) (hr.mono (by decide)) rfl T.m_lehmer_step T.F_lehmer_step.kp T.b_lehmer_step .nil (passes_call (takes_of rfl rfl rfl rfl) (fun _ _ _ _ h => h)) (pa_cons (pv 4) (pa_cons (pv 4) (pa_cons (pv 4) pa_nil))))) (lbs_cons rfl (.plain (LamX.lamS_by (sc := defScope s_law_refused_right) (by decide +kernel)) (by exact fun _ _ _ _ _ => rfl) (by exact fun _ => rfl) (by rfl)) (fun A outer s H E f c' hr => (pe_call (ok_lehmer_step_X T B) (hr.mono (by decide)) rfl T.m_lehmer_step T.F_lehmer_step.kp T.b_lehmer_step .nil (passes_call (takes_of rfl rfl rfl rfl) (fun _ _ _ _ h => h)) (pa_cons (pv 0) (pa_cons (pv 2) (pa_cons (pv 4) pa_nil))))) (lbs_cons rfl (.plain (LamX.lamS_by (sc := defScope s_law_refused_right) (by decide +kernel)) (by exact fun _ _ _ _ _ => rfl) (by exact fun _ => rfl) (by rfl)) (fun A outer s H E f c' hr => (pe_call (ok_lehmer_step_X T B) (hr.mono (by decide)) rfl T.m_lehmer_step T.F_lehmer_step.kp T.b_lehmer_step .nil (passes_call (takes_of rfl rfl rfl rfl) (fun _ _ _ _ h => h)) (pa_cons (pv 0) (pa_cons (pe_call (ok_big T B) (hr.mono (by decide)) rfl T.m_big T.F_big.kp T.b_big .nil pass0 (pa_cons (pv 0) (pa_cons (pv 4) pa_nil))) (pa_cons (pe_call (ok_big T B) (hr.mono (by decide)) rfl T.m_big T.F_big.kp T.b_big .nil pass0 (pa_cons (pv 0) (pa_cons (pe_un o_neg pe_int) pa_nil))) pa_nil))))) (lbs_cons rfl (.plain (LamX.lamS_by (sc := defScope s_law_refused_right) (by decide +kernel)) (by exact fun _ _ _ _ _ => rfl) (by exact fun _ => rfl) (by rfl)) (fun A outer s H E f c' hr => (pe_call (ok_lehmer_step_X T B) (hr.mono (by decide)) rfl T.m_lehmer_step T.F_lehmer_step.kp T.b_lehmer_step .nil (passes_call (takes_of rfl rfl rfl rfl) (fun _ _ _ _ h => h)) (pa_cons (pv 0) (pa_cons (pv 2) (pa_cons (pe_call (ok_big T B) (hr.mono (by decide)) rfl T.m_big T.F_big.kp T.b_big .nil pass0 (pa_cons (pv 0) (pa_cons (pv 4) pa_nil))) pa_nil))))) lbs_nil))))))) (bears_own I hF) (hr.mono (by decide)) rfl T.m_law_said T.F_law_said.kp T.b_law_said (pa_cons (pv 6) pa_nil)))) (pe_lst (pa_cons pe_str (pa_cons pe_str (pa_cons pe_str pa_nil)))) (nomark _)) (pss_one (ps_ret pe_bl)) pss_nil)))))
      (pss_cons (ps_for PassesOwn.never rfl (pi_list (pe_lst (pa_cons pe_int (pa_cons pe_int (pa_cons (pe_op o_sub (pe_op o_shl pe_int (pe_op o_mul pe_int (pv 1))) pe_int) (pa_cons (pe_op o_sub pe_int (pe_op o_shl pe_int (pe_op o_mul pe_int (pv 1)))) pa_nil)))))) (pg_name (i := 4) sc_law_refused_right.nd rfl (by first | exact Or.inl rfl | exact Or.inr rfl)) (pss_one (ps_if (pt_cmpR op_ne (pe_cloM (kb := 5) (ok_law_said T B) ?lb (hr.mono (by decide)) rfl T.m_law_said T.F_law_said.kp T.b_law_said (pa_cons (pe_mkL (L := ⟨lamQ "_law_refused_right", _, _, _⟩) B.t_law_refused_right rfl rfl (.plain (LamX.lamS_by (sc := defScope s_law_refused_right) (by decide +kernel)) (by exact fun _ _ _ _ _ => rfl) (by exact fun _ => rfl) (by rfl))) pa_nil)) pe_str (nomark _)) (pss_one (ps_ret pe_bl)) pss_nil)))
      (pss_cons (ps_for PassesOwn.never rfl (pi_list (pe_lst (pa_cons (pe_un o_neg pe_int) (pa_cons (pe_op o_add (pe_op o_shl pe_int (pe_op o_mul pe_int (pv 1))) pe_int) (pa_cons (pe_op o_shl pe_int (pe_op o_mul pe_int (pv 1))) pa_nil))))) (pg_name (i := 4) sc_law_refused_right.nd rfl (by first | exact Or.inl rfl | exact Or.inr rfl)) (pss_one (ps_if (pt_cmpR op_ne (pe_cloM (kb := 5) (ok_law_said T B) ?lb (hr.mono (by decide)) rfl T.m_law_said T.F_law_said.kp T.b_law_said (pa_cons (pe_mkL (L := ⟨lamQ "_law_refused_right", _, _, _⟩) B.t_law_refused_right rfl rfl (.plain (LamX.lamS_by (sc := defScope s_law_refused_right) (by decide +kernel)) (by exact fun _ _ _ _ _ => rfl) (by exact fun _ => rfl) (by rfl))) pa_nil)) pe_str (nomark _)) (pss_one (ps_ret pe_bl)) pss_nil)))
      (pss_one (ps_ret (pe_and (pe_cmpR (op_eqD hr.units) (pe_meth0 (pv 0) T.cl_Machine T.me_Machine_walk (ok_Machine_walk T B) (hr.mono (by decide)) T.b_Machine_walk .nil pass0) (pe_lst pa_nil) (nomark _)) (pe_one (pe_cmpR (op_eqD hr.units) (pe_lc (own := [("_law_row", 7)]) (g := (gName 7)) rfl sc_law_refused_right.nd (pi_list (pe_meth0 (pv 0) T.cl_Machine T.me_Machine_tally (ok_Machine_tally T B) (hr.mono (by decide)) T.b_Machine_tally .nil pass0)) (blkOk_by (own := [("_law_row", 7)]) (N := N_law_refused_right) (sc := defScope s_law_refused_right) (by decide +kernel)) (fun _ _ _ _ _ => (pg_name (i := 7) sc_law_refused_right.nd rfl (by first | exact Or.inl rfl | exact Or.inr rfl))) (fun _ _ _ _ _ => pts_one (pt_cmpR op_ne (pe_ix ix_tup (pv 7) pe_int (fun _ _ => rfl)) pe_int (nomark _))) (fun _ _ _ _ _ => (pv 7))) (pe_lst pa_nil) (nomark _))))))))))
  exact (lbs_cons rfl (.dflt (ya := "_law_of") (lamD_by (N := ["_law_engine", "_law_width", "_law_xx", "_law_odd", "_law_yy", "_law_asks", "_law_ask", "_law_row"]) (ya := "_law_of") (sc := defScope s_law_refused_right) (by decide +kernel)) (by exact fun _ _ _ _ _ _ _ _ => ⟨_, rfl, rfl⟩) (by rfl) (by rfl)) (fun A outer s H E f c' hr => (pe_call (ok_lehmer_step_X T B) (hr.mono (by decide)) rfl T.m_lehmer_step T.F_lehmer_step.kp T.b_lehmer_step .nil (passes_call (takes_of rfl rfl rfl rfl) (fun _ _ _ _ h => h)) (pa_cons (pv 0) (pa_cons (pv 4) (pa_cons (pv 4) pa_nil))))) (lbs_cons rfl (.plain (LamX.lamS_by (sc := defScope s_law_refused_right) (by decide +kernel)) (by exact fun _ _ _ _ _ => rfl) (by exact fun _ => rfl) (by rfl)) (fun A outer s H E f c' hr => (pe_call (ok_lehmer_step_X T B) (hr.mono (by decide)) rfl T.m_lehmer_step T.F_lehmer_step.kp T.b_lehmer_step .nil (passes_call (takes_of rfl rfl rfl rfl) (fun _ _ _ _ h => h)) (pa_cons (pv 4) (pa_cons (pv 4) (pa_cons (pv 4) pa_nil))))) (lbs_cons rfl (.plain (LamX.lamS_by (sc := defScope s_law_refused_right) (by decide +kernel)) (by exact fun _ _ _ _ _ => rfl) (by exact fun _ => rfl) (by rfl)) (fun A outer s H E f c' hr => (pe_call (ok_lehmer_step_X T B) (hr.mono (by decide)) rfl T.m_lehmer_step T.F_lehmer_step.kp T.b_lehmer_step .nil (passes_call (takes_of rfl rfl rfl rfl) (fun _ _ _ _ h => h)) (pa_cons (pv 0) (pa_cons (pv 2) (pa_cons (pv 4) pa_nil))))) (lbs_cons rfl (.plain (LamX.lamS_by (sc := defScope s_law_refused_right) (by decide +kernel)) (by exact fun _ _ _ _ _ => rfl) (by exact fun _ => rfl) (by rfl)) (fun A outer s H E f c' hr => (pe_call (ok_lehmer_step_X T B) (hr.mono (by decide)) rfl T.m_lehmer_step T.F_lehmer_step.kp T.b_lehmer_step .nil (passes_call (takes_of rfl rfl rfl rfl) (fun _ _ _ _ h => h)) (pa_cons (pv 0) (pa_cons (pe_call (ok_big T B) (hr.mono (by decide)) rfl T.m_big T.F_big.kp T.b_big .nil pass0 (pa_cons (pv 0) (pa_cons (pv 4) pa_nil))) (pa_cons (pe_call (ok_big T B) (hr.mono (by decide)) rfl T.m_big T.F_big.kp T.b_big .nil pass0 (pa_cons (pv 0) (pa_cons (pe_un o_neg pe_int) pa_nil))) pa_nil))))) (lbs_cons rfl (.plain (LamX.lamS_by (sc := defScope s_law_refused_right) (by decide +kernel)) (by exact fun _ _ _ _ _ => rfl) (by exact fun _ => rfl) (by rfl)) (fun A outer s H E f c' hr => (pe_call (ok_lehmer_step_X T B) (hr.mono (by decide)) rfl T.m_lehmer_step T.F_lehmer_step.kp T.b_lehmer_step .nil (passes_call (takes_of rfl rfl rfl rfl) (fun _ _ _ _ h => h)) (pa_cons (pv 0) (pa_cons (pv 2) (pa_cons (pe_call (ok_big T B) (hr.mono (by decide)) rfl T.m_big T.F_big.kp T.b_big .nil pass0 (pa_cons (pv 0) (pa_cons (pv 4) pa_nil))) pa_nil))))) lbs_nil)))))⟩
theorem ok_law_refused_right (T : Txt K mg a) (B : Tb base mg a) : FnOk P w K mg base CX0 8 a.f_law_refused_right a.fd_law_refused_right ["_law_engine", "_law_width"] (sp_k54_refused K a.c) := by
  refine T.C_law_refused_right.ok sc_law_refused_right (fun vs H Q E h => ?_) (fun A outer s H vs Q E hr h => by
    obtain ⟨Lm0, Lm1, Lm2, Lm3, Lm4, q0, q1, q2, q3, q4, dd⟩ := dv_law_refused_right T B hr
    exact ⟨_, dd, b_k54_refused T.PM T.PB T.TS q0 q1 q2 q3 q4 h⟩)
  first | exact Pu.lif_len n_k54_refused h | exact Pu.lifS_len n_k54_refused h | exact Pu.lifO_len n_k54_refused h
theorem dv_law {cdv : Value} {A : Around} {outer : List Env} {s : Shared} {H : Hp} {E : XK} (T : Txt K mg a) (B : Tb base mg a) (hr : Room 8 (A.deeper (envOfC "law" (defScope s_law) s.heap.objs.size a.f_law cdv))) :
    PSs (cxOf CX0 P w K mg base N_law "law" (defScope s_law) a.f_law cdv A outer s H E).nox (defBody s_law) (t_k54_law K a.c) := by
  unfold t_k54_law
  exact (pss_cons (ps_for PassesOwn.never rfl (pi_list (pe_slice sl_list (pe_op o_catQ (pv 0) (pe_lst (pa_cons pe_int pa_nil))) po_none (po_some pe_int))) (pg_name (i := 1) sc_law.nd rfl (by first | exact Or.inl rfl | exact Or.inr rfl)) (pss_cons (ps_set (i := 2) sc_law.nd rfl (by first | exact Or.inl rfl | exact Or.inr rfl) (pe_call (ok_law_source T B) (hr.mono (by decide)) rfl T.m_law_source T.F_law_source.kp T.b_law_source .nil pass0 (pa_cons (pv 1) pa_nil)))
      (pss_cons (ps_set (i := 3) sc_law.nd rfl (by first | exact Or.inl rfl | exact Or.inr rfl) (pe_ix ix_list (pe_call (ok_law_engines T B) (hr.mono (by decide)) rfl T.m_law_engines T.F_law_engines.kp T.b_law_engines .nil pass0 (pa_cons (pv 2) pa_nil)) pe_int (fun _ _ => rfl)))
      (pss_cons (ps_set (i := 4) sc_law.nd rfl (by first | exact Or.inl rfl | exact Or.inr rfl) (pe_ix ix_tup (pe_meth0 (pv 3) T.cl_Machine T.me_Machine_parts (ok_Machine_parts T B) (hr.mono (by decide)) T.b_Machine_parts .nil pass0) pe_int (fun _ _ => rfl)))
      (pss_cons (ps_for PassesOwn.never rfl (pi_range1 rfl T.n_range (pa_cons pe_int pa_nil)) (pg_name (i := 5) sc_law.nd rfl (by first | exact Or.inl rfl | exact Or.inr rfl)) (pss_cons (ps_asg (pe_call (ok_law_pair T B) (hr.mono (by decide)) rfl T.m_law_pair T.F_law_pair.kp T.b_law_pair .nil pass0 (pa_cons (pv 2) (pa_cons (pv 4) pa_nil))) (pg_tup rfl (pgs_cons (pg_name (i := 6) sc_law.nd rfl (by first | exact Or.inl rfl | exact Or.inr rfl)) (pgs_cons (pg_name (i := 7) sc_law.nd rfl (by first | exact Or.inl rfl | exact Or.inr rfl)) pgs_nil))))
      (pss_one (ps_if (pt_not (pt_val (pe_call (ok_law_right T B) (hr.mono (by decide)) rfl T.m_law_right T.F_law_right.kp T.b_law_right .nil pass0 (pa_cons (pv 3) (pa_cons (pv 6) (pa_cons (pv 7) (pa_cons (pv 4) pa_nil))))))) (pss_one (ps_ret pe_bl)) pss_nil))))
      (pss_cons (ps_asg (pe_call (ok_law_fibs T B) (hr.mono (by decide)) rfl T.m_law_fibs T.F_law_fibs.kp T.b_law_fibs .nil pass0 (pa_cons (pe_op o_add (pe_op o_mul pe_int (pv 4)) (pe_call (ok_law_draw T B) (hr.mono (by decide)) rfl T.m_law_draw T.F_law_draw.kp T.b_law_draw .nil pass0 (pa_cons (pv 2) (pa_cons pe_int pa_nil)))) pa_nil)) (pg_tup rfl (pgs_cons (pg_name (i := 7) sc_law.nd rfl (by first | exact Or.inl rfl | exact Or.inr rfl)) (pgs_cons (pg_name (i := 6) sc_law.nd rfl (by first | exact Or.inl rfl | exact Or.inr rfl)) pgs_nil))))
      (pss_one (ps_if (PW.pt (pw_or (pt_not (pt_val (pe_call (ok_law_right T B) (hr.mono (by decide)) rfl T.m_law_right T.F_law_right.kp T.b_law_right .nil pass0 (pa_cons (pv 3) (pa_cons (pv 6) (pa_cons (pv 7) (pa_cons (pv 4) pa_nil))))))) (pw_or1 (pt_not (pt_val (pe_call (ok_law_refused_right T B) (hr.mono (by decide)) rfl T.m_law_refused_right T.F_law_refused_right.kp T.b_law_refused_right .nil pass0 (pa_cons (pv 3) (pa_cons (pv 4) pa_nil)))))))) (pss_one (ps_ret pe_bl)) pss_nil))))))))
      (pss_cons (ps_set (i := 8) sc_law.nd rfl (by first | exact Or.inl rfl | exact Or.inr rfl) (pe_make T.mk_Machine (ok_Machine_init T B) (hr.mono (by decide)) rfl T.g_Machine T.b_Machine_init .nil pass0 (pa_cons pe_int (pa_cons pe_int pa_nil))))
      (pss_one (ps_ret (pe_cmpR (op_eqD hr.units) (pe_call (ok_lehmer_step T B) (hr.mono (by decide)) rfl T.m_lehmer_step T.F_lehmer_step.kp T.b_lehmer_step .nil pass0 (pa_cons (pv 8) (pa_cons (pe_call (ok_big T B) (hr.mono (by decide)) rfl T.m_big T.F_big.kp T.b_big .nil pass0 (pa_cons (pv 8) (pa_cons (pe_op o_shl pe_int pe_int) pa_nil))) (pa_cons (pe_call (ok_big T B) (hr.mono (by decide)) rfl T.m_big T.F_big.kp T.b_big .nil pass0 (pa_cons (pv 8) (pa_cons pe_int pa_nil))) pa_nil)))) (pe_tup (pa_cons (pe_lst (pa_cons pe_int (pa_cons pe_int (pa_cons pe_int (pa_cons pe_int (pa_cons pe_int pa_nil)))))) (pa_cons (pe_tup (pa_cons (pe_un o_neg pe_int) (pa_cons pe_int (pa_cons pe_int (pa_cons (pe_un o_neg pe_int) pa_nil))))) pa_nil))) (nomark _))))))
theorem ok_law (T : Txt K mg a) (B : Tb base mg a) : FnOk P w K mg base CX0 9 a.f_law a.fd_law ["_law_script"] (sp_k54_law K a.c) := by
  refine T.F_law.ok sc_law (fun vs H Q E h => ?_) (fun cdv A outer s H vs Q E hr h => ⟨_, dv_law T B hr, b_k54_law T.PM T.PB T.ND h⟩)
  (repeat (obtain ⟨_, h⟩ := h)); all_goals (subst_vars; rfl)
end
theorem all_mk {l : PySem.W.OpenLaw} {w : World} {K : PySem.W.Frag} {h : Heap} {mg : Str → Option Value} {fa : Addr} {CMachine : Addr} {CBig : Addr} {CBitsError : Addr} {CInvalidBound : Addr} {CInvalidMachine : Addr} {nmInvalidBound qInvalidBound : Str} {NInvalidBound : Addr} {bsInvalidBound : List Value} {hdctInvalidBound : Bool} {snInvalidBound : List Str} {subInvalidBound : List Value} {abInvalidBound : Bool} {colInvalidBound : Option Bool} {ddInvalidBound : Option Addr} {k0InvalidBound k1InvalidBound k2InvalidBound k3InvalidBound k5InvalidBound : Option Value} {t_FEW_DIGITS : Tok} {t_LEAST_BITS : Tok} {t_MOST_BITS : Tok} {t_MOST_CUTOFF : Tok} {aWORDS : Addr} {oW1 : Option Addr} {itW : Array Value} {nW : Nat} {slW : Array (Option Value)} {f_InvalidBound_init : Addr} {oc_InvalidBound_init kV_InvalidBound_init dc_InvalidBound_init pm_InvalidBound_init cd_InvalidBound_init ct_InvalidBound_init : Value} {od_InvalidBound_init an_InvalidBound_init : Option Addr} {sl_InvalidBound_init : Array (Option Value)} {f_is_integer : Addr} {oc_is_integer kV_is_integer dc_is_integer pm_is_integer cd_is_integer ct_is_integer : Value} {od_is_integer an_is_integer : Option Addr} {sl_is_integer : Array (Option Value)} {f_is_between : Addr} {oc_is_between kV_is_between dc_is_between pm_is_between cd_is_between ct_is_between : Value} {od_is_between an_is_between : Option Addr} {sl_is_between : Array (Option Value)} {f_check_integer : Addr} {oc_check_integer kV_check_integer dc_check_integer pm_check_integer cd_check_integer ct_check_integer : Value} {od_check_integer an_check_integer : Option Addr} {sl_check_integer : Array (Option Value)} {f_Machine_init : Addr} {oc_Machine_init kV_Machine_init dc_Machine_init pm_Machine_init cd_Machine_init ct_Machine_init : Value} {od_Machine_init an_Machine_init : Option Addr} {sl_Machine_init : Array (Option Value)} {dT_Machine_init : Addr} {ocT_Machine_init : Value} {odT_Machine_init : Option Addr} {nT_Machine_init : Nat} {slT_Machine_init : Array (Option Value)} {itT_Machine_init : Array Value} {f_Machine_parts : Addr} {oc_Machine_parts kV_Machine_parts dc_Machine_parts pm_Machine_parts cd_Machine_parts ct_Machine_parts : Value} {od_Machine_parts an_Machine_parts : Option Addr} {sl_Machine_parts : Array (Option Value)} {f_Machine_tally : Addr} {oc_Machine_tally kV_Machine_tally dc_Machine_tally pm_Machine_tally cd_Machine_tally ct_Machine_tally : Value} {od_Machine_tally an_Machine_tally : Option Addr} {sl_Machine_tally : Array (Option Value)} {f_Machine_walk : Addr} {oc_Machine_walk kV_Machine_walk dc_Machine_walk pm_Machine_walk cd_Machine_walk ct_Machine_walk : Value} {od_Machine_walk an_Machine_walk : Option Addr} {sl_Machine_walk : Array (Option Value)} {f_Machine_reset : Addr} {oc_Machine_reset kV_Machine_reset dc_Machine_reset pm_Machine_reset cd_Machine_reset ct_Machine_reset : Value} {od_Machine_reset an_Machine_reset : Option Addr} {sl_Machine_reset : Array (Option Value)} {f_Machine_count : Addr} {oc_Machine_count kV_Machine_count dc_Machine_count pm_Machine_count cd_Machine_count ct_Machine_count : Value} {od_Machine_count an_Machine_count : Option Addr} {sl_Machine_count : Array (Option Value)} {f_check_machine : Addr} {oc_check_machine kV_check_machine dc_check_machine pm_check_machine cd_check_machine ct_check_machine : Value} {od_check_machine an_check_machine : Option Addr} {sl_check_machine : Array (Option Value)} {f_Big_init : Addr} {oc_Big_init kV_Big_init dc_Big_init pm_Big_init cd_Big_init ct_Big_init : Value} {od_Big_init an_Big_init : Option Addr} {sl_Big_init : Array (Option Value)} {f_made : Addr} {oc_made kV_made dc_made pm_made cd_made ct_made : Value} {od_made an_made : Option Addr} {sl_made : Array (Option Value)} {f_digits_of : Addr} {oc_digits_of kV_digits_of dc_digits_of pm_digits_of cd_digits_of ct_digits_of : Value} {od_digits_of an_digits_of : Option Addr} {sl_digits_of : Array (Option Value)} {f_big_of : Addr} {oc_big_of kV_big_of dc_big_of pm_big_of cd_big_of ct_big_of : Value} {od_big_of an_big_of : Option Addr} {sl_big_of : Array (Option Value)} {f_value_of : Addr} {oc_value_of kV_value_of dc_value_of pm_value_of cd_value_of ct_value_of : Value} {od_value_of an_value_of : Option Addr} {sl_value_of : Array (Option Value)} {f_check_big : Addr} {oc_check_big kV_check_big dc_check_big pm_check_big cd_check_big ct_check_big : Value} {od_check_big an_check_big : Option Addr} {sl_check_big : Array (Option Value)} {f_check_bigs : Addr} {oc_check_bigs kV_check_bigs dc_check_bigs pm_check_bigs cd_check_bigs ct_check_bigs : Value} {od_check_bigs an_check_bigs : Option Addr} {sl_check_bigs : Array (Option Value)} {f_big : Addr} {oc_big kV_big dc_big pm_big cd_big ct_big : Value} {od_big an_big : Option Addr} {sl_big : Array (Option Value)} {f_first_bits : Addr} {oc_first_bits kV_first_bits dc_first_bits pm_first_bits cd_first_bits ct_first_bits : Value} {od_first_bits an_first_bits : Option Addr} {sl_first_bits : Array (Option Value)} {f_step_of : Addr} {oc_step_of kV_step_of dc_step_of pm_step_of cd_step_of ct_step_of : Value} {od_step_of an_step_of : Option Addr} {sl_step_of : Array (Option Value)} {f_lehmer_step : Addr} {oc_lehmer_step kV_lehmer_step dc_lehmer_step pm_lehmer_step cd_lehmer_step ct_lehmer_step : Value} {od_lehmer_step an_lehmer_step : Option Addr} {sl_lehmer_step : Array (Option Value)} {f_law_mixed : Addr} {oc_law_mixed kV_law_mixed dc_law_mixed pm_law_mixed cd_law_mixed ct_law_mixed : Value} {od_law_mixed an_law_mixed : Option Addr} {sl_law_mixed : Array (Option Value)} {f_law_source : Addr} {oc_law_source kV_law_source dc_law_source pm_law_source cd_law_source ct_law_source : Value} {od_law_source an_law_source : Option Addr} {sl_law_source : Array (Option Value)} {f_law_draw : Addr} {oc_law_draw kV_law_draw dc_law_draw pm_law_draw cd_law_draw ct_law_draw : Value} {od_law_draw an_law_draw : Option Addr} {sl_law_draw : Array (Option Value)} {f_law_one : Addr} {oc_law_one kV_law_one dc_law_one pm_law_one cd_law_one ct_law_one : Value} {od_law_one an_law_one : Option Addr} {sl_law_one : Array (Option Value)} {f_law_engines : Addr} {oc_law_engines kV_law_engines dc_law_engines pm_law_engines cd_law_engines ct_law_engines : Value} {od_law_engines an_law_engines : Option Addr} {sl_law_engines : Array (Option Value)} {f_law_count_of : Addr} {oc_law_count_of kV_law_count_of dc_law_count_of pm_law_count_of cd_law_count_of ct_law_count_of : Value} {od_law_count_of an_law_count_of : Option Addr} {sl_law_count_of : Array (Option Value)} {f_law_number : Addr} {oc_law_number kV_law_number dc_law_number pm_law_number cd_law_number ct_law_number : Value} {od_law_number an_law_number : Option Addr} {sl_law_number : Array (Option Value)} {f_law_size : Addr} {oc_law_size kV_law_size dc_law_size pm_law_size cd_law_size ct_law_size : Value} {od_law_size an_law_size : Option Addr} {sl_law_size : Array (Option Value)} {f_law_fibs : Addr} {oc_law_fibs kV_law_fibs dc_law_fibs pm_law_fibs cd_law_fibs ct_law_fibs : Value} {od_law_fibs an_law_fibs : Option Addr} {sl_law_fibs : Array (Option Value)} {f_law_step : Addr} {oc_law_step kV_law_step dc_law_step pm_law_step cd_law_step ct_law_step : Value} {od_law_step an_law_step : Option Addr} {sl_law_step : Array (Option Value)} {f_law_pair : Addr} {oc_law_pair kV_law_pair dc_law_pair pm_law_pair cd_law_pair ct_law_pair : Value} {od_law_pair an_law_pair : Option Addr} {sl_law_pair : Array (Option Value)} {f_law_facts_right : Addr} {oc_law_facts_right kV_law_facts_right dc_law_facts_right pm_law_facts_right cd_law_facts_right ct_law_facts_right : Value} {od_law_facts_right an_law_facts_right : Option Addr} {sl_law_facts_right : Array (Option Value)} {f_law_right : Addr} {oc_law_right kV_law_right dc_law_right pm_law_right cd_law_right ct_law_right : Value} {od_law_right an_law_right : Option Addr} {sl_law_right : Array (Option Value)} {f_law_said : Addr} {oc_law_said kV_law_said dc_law_said pm_law_said cd_law_said ct_law_said : Value} {od_law_said an_law_said : Option Addr} {sl_law_said : Array (Option Value)} {f_law_deep : Addr} {oc_law_deep kV_law_deep dc_law_deep pm_law_deep cd_law_deep ct_law_deep : Value} {od_law_deep an_law_deep : Option Addr} {sl_law_deep : Array (Option Value)} {f_law_refused_right : Addr} {oc_law_refused_right kV_law_refused_right dc_law_refused_right pm_law_refused_right cd_law_refused_right ct_law_refused_right : Value} {od_law_refused_right an_law_refused_right : Option Addr} {sl_law_refused_right : Array (Option Value)} {cc_law_refused_right pp_law_refused_right : Addr} {odc_law_refused_right : Option Addr} {vsc_law_refused_right : Array Value} {slc_law_refused_right : Array (Option Value)} {f_law : Addr} {oc_law kV_law dc_law pm_law cd_law ct_law : Value} {od_law an_law : Option Addr} {sl_law : Array (Option Value)} (X : K.In h) (G : h.Ns mainGlobals mg) (hfa : mg "law" = some (.ref fa))
    (aMachine : PySem.W.nsIn K mainGlobals "Machine" = some (some (.ref CMachine)))
    (pgMachine : PySem.W.plainGet K CMachine Str.empty = true)
    (hdMachine : PySem.W.hasDictIn K CMachine = true)
    (poMachine : PySem.W.plainOver K CMachine = true)
    (saMachine : PySem.W.findIn K (.ref CMachine) "__setattr__" = some (some (.builtin "object.__setattr__")))
    (mkMachine : PySem.W.makesIn K CMachine = true)
    (kcMachine : PySem.W.keepIn K (.ref CMachine) = true)
    (haMachine : PySem.W.findIn K (.ref CMachine) "__class__" = some (some (.builtin "object.__class__")))
    (hmMachine : PySem.W.mroIn K CMachine (.type "object") = some true)
    (nfMachine_entered : PySem.W.findIn K (.ref CMachine) "entered" = some none)
    (nfMachine_counts : PySem.W.findIn K (.ref CMachine) "counts" = some none)
    (nfMachine_base : PySem.W.findIn K (.ref CMachine) "base" = some none)
    (nfMachine_limit_of_rows : PySem.W.findIn K (.ref CMachine) "limit_of_rows" = some none)
    (nfMachine_width : PySem.W.findIn K (.ref CMachine) "width" = some none)
    (aBig : PySem.W.nsIn K mainGlobals "Big" = some (some (.ref CBig)))
    (pgBig : PySem.W.plainGet K CBig Str.empty = true)
    (hdBig : PySem.W.hasDictIn K CBig = true)
    (poBig : PySem.W.plainOver K CBig = true)
    (saBig : PySem.W.findIn K (.ref CBig) "__setattr__" = some (some (.builtin "object.__setattr__")))
    (mkBig : PySem.W.makesIn K CBig = true)
    (kcBig : PySem.W.keepIn K (.ref CBig) = true)
    (haBig : PySem.W.findIn K (.ref CBig) "__class__" = some (some (.builtin "object.__class__")))
    (hmBig : PySem.W.mroIn K CBig (.type "object") = some true)
    (nfBig_row : PySem.W.findIn K (.ref CBig) "row" = some none)
    (nfBig_side : PySem.W.findIn K (.ref CBig) "side" = some none)
    (nfBig_width : PySem.W.findIn K (.ref CBig) "width" = some none)
    (xa_BitsError : PySem.W.nsIn K mainGlobals "BitsError" = some (some (.ref CBitsError)))
    (xa_InvalidBound : PySem.W.nsIn K mainGlobals "InvalidBound" = some (some (.ref CInvalidBound)))
    (xa_InvalidMachine : PySem.W.nsIn K mainGlobals "InvalidMachine" = some (some (.ref CInvalidMachine)))
    (xr_B : PySem.W.readsIn K CBitsError (.type "type") = true)
    (xg_B : PySem.W.specialIn K (.ref CBitsError) "__getattribute__" = some (some (.builtin "type.__getattribute__")))
    (xi_B : PySem.W.findCls K (.ref CBitsError) (.type "type") "__init__" = some (.val (.builtin "ArithmeticError.__init__")))
    (xe_BitsError : PySem.W.subIn K (.ref CBitsError) (.type "BaseException") = some true)
    (xy_BitsError : PySem.W.typeIn K (.ref CBitsError) = some (.type "type"))
    (xh_BitsError : PySem.W.hasDictIn K CBitsError = true)
    (xe_InvalidBound : PySem.W.subIn K (.ref CInvalidBound) (.type "BaseException") = some true)
    (xy_InvalidBound : PySem.W.typeIn K (.ref CInvalidBound) = some (.type "type"))
    (xh_InvalidBound : PySem.W.hasDictIn K CInvalidBound = true)
    (xe_InvalidMachine : PySem.W.subIn K (.ref CInvalidMachine) (.type "BaseException") = some true)
    (xy_InvalidMachine : PySem.W.typeIn K (.ref CInvalidMachine) = some (.type "type"))
    (xh_InvalidMachine : PySem.W.hasDictIn K CInvalidMachine = true)
    (xl_InvalidBound : K.lookup CInvalidBound = some (excClassObj nmInvalidBound qInvalidBound CInvalidBound NInvalidBound bsInvalidBound [.ref CBitsError, .type "ArithmeticError", .type "Exception", .type "BaseException", .type "object"] hdctInvalidBound snInvalidBound subInvalidBound abInvalidBound colInvalidBound ddInvalidBound k0InvalidBound k1InvalidBound k2InvalidBound k3InvalidBound k5InvalidBound "ArithmeticError.__new__"))
    (xk_InvalidBound : PySem.W.keepIn K (.ref CInvalidBound) = true)
    (xw_InvalidBound : PySem.W.findIn K (.ref CInvalidBound) "__setattr__" = some (some (.builtin "object.__setattr__")))
    (xn_InvalidBound : PySem.W.findIn K (.ref CInvalidBound) "argument" = some none)
    (xga_InvalidBound : PySem.W.findIn K (.ref CInvalidBound) "__getattribute__" = some (some (.builtin "BaseException.__getattribute__")))
    (xgg_InvalidBound : PySem.W.findIn K (.ref CInvalidBound) "__getattr__" = some none)
    (xs_1_0 : PySem.W.subIn K (.ref CInvalidBound) (.ref CBitsError) = some true)
    (xs_1_1 : PySem.W.subIn K (.ref CInvalidBound) (.ref CInvalidBound) = some true)
    (xs_1_5 : PySem.W.subIn K (.ref CInvalidBound) (.ref CInvalidMachine) = some false)
    (xs_5_0 : PySem.W.subIn K (.ref CInvalidMachine) (.ref CBitsError) = some true)
    (xs_5_1 : PySem.W.subIn K (.ref CInvalidMachine) (.ref CInvalidBound) = some false)
    (xs_5_5 : PySem.W.subIn K (.ref CInvalidMachine) (.ref CInvalidMachine) = some true)
    (hsp : PySem.W.specialIn K (.builtin "object.__class__") "__get__" = some (some (.builtin "getset_descriptor.__get__")))
    (htk : PySem.W.takesIn K (.builtin "object.__class__") = some true)
    (g_FEW_DIGITS : PySem.W.nsIn K mainGlobals "FEW_DIGITS" = some (some (.int 2 t_FEW_DIGITS)))
    (g_LEAST_BITS : PySem.W.nsIn K mainGlobals "LEAST_BITS" = some (some (.int 8 t_LEAST_BITS)))
    (g_MOST_BITS : PySem.W.nsIn K mainGlobals "MOST_BITS" = some (some (.int 30 t_MOST_BITS)))
    (g_MOST_CUTOFF : PySem.W.nsIn K mainGlobals "MOST_CUTOFF" = some (some (.int 1000 t_MOST_CUTOFF)))
    (g_WORDS : PySem.W.nsIn K mainGlobals "WORDS" = some (some (.ref aWORDS)))
    (l_WORDS : K.lookup aWORDS = some ⟨.type "tuple", oW1, .seq itW nW, slW⟩)
    (z_WORDS : itW.size ≤ sizeLine)
    (v_WORDS : Vals (words.map V.str) itW.toList)
    (a_InvalidBound_init : PySem.W.findIn K (.ref CInvalidBound) "__init__" = some (some (.ref f_InvalidBound_init)))
    (i_InvalidBound_init : PySem.W.isFn K (.ref f_InvalidBound_init) = true)
    (l_InvalidBound_init : K.lookup f_InvalidBound_init = some ⟨oc_InvalidBound_init, od_InvalidBound_init, .func (PySem.W.fnOf "__init__" "InvalidBound.__init__" (defArgs s_InvalidBound_init) (defBody s_InvalidBound_init) (defScope s_InvalidBound_init) .none kV_InvalidBound_init dc_InvalidBound_init pm_InvalidBound_init an_InvalidBound_init cd_InvalidBound_init ct_InvalidBound_init), sl_InvalidBound_init⟩)
    (c_InvalidBound_init : PySem.W.codeIn K cd_InvalidBound_init "InvalidBound.__init__" = true)
    (k_InvalidBound_init : PySem.W.keepIn K (.ref f_InvalidBound_init) = true)
    (a_is_integer : PySem.W.nsIn K mainGlobals "is_integer" = some (some (.ref f_is_integer)))
    (l_is_integer : K.lookup f_is_integer = some ⟨oc_is_integer, od_is_integer, .func (PySem.W.fnOf "is_integer" "is_integer" (defArgs s_is_integer) (defBody s_is_integer) (defScope s_is_integer) .none kV_is_integer dc_is_integer pm_is_integer an_is_integer cd_is_integer ct_is_integer), sl_is_integer⟩)
    (c_is_integer : PySem.W.codeIn K cd_is_integer "is_integer" = true)
    (k_is_integer : PySem.W.keepIn K (.ref f_is_integer) = true)
    (a_is_between : PySem.W.nsIn K mainGlobals "is_between" = some (some (.ref f_is_between)))
    (l_is_between : K.lookup f_is_between = some ⟨oc_is_between, od_is_between, .func (PySem.W.fnOf "is_between" "is_between" (defArgs s_is_between) (defBody s_is_between) (defScope s_is_between) .none kV_is_between dc_is_between pm_is_between an_is_between cd_is_between ct_is_between), sl_is_between⟩)
    (c_is_between : PySem.W.codeIn K cd_is_between "is_between" = true)
    (k_is_between : PySem.W.keepIn K (.ref f_is_between) = true)
    (a_check_integer : PySem.W.nsIn K mainGlobals "check_integer" = some (some (.ref f_check_integer)))
    (l_check_integer : K.lookup f_check_integer = some ⟨oc_check_integer, od_check_integer, .func (PySem.W.fnOf "check_integer" "check_integer" (defArgs s_check_integer) (defBody s_check_integer) (defScope s_check_integer) .none kV_check_integer dc_check_integer pm_check_integer an_check_integer cd_check_integer ct_check_integer), sl_check_integer⟩)
    (c_check_integer : PySem.W.codeIn K cd_check_integer "check_integer" = true)
    (k_check_integer : PySem.W.keepIn K (.ref f_check_integer) = true)
    (a_Machine_init : PySem.W.findIn K (.ref CMachine) "__init__" = some (some (.ref f_Machine_init)))
    (i_Machine_init : PySem.W.isFn K (.ref f_Machine_init) = true)
    (l_Machine_init : K.lookup f_Machine_init = some ⟨oc_Machine_init, od_Machine_init, .func (PySem.W.fnOf "__init__" "Machine.__init__" (defArgs s_Machine_init) (defBody s_Machine_init) (defScope s_Machine_init) (.ref dT_Machine_init) kV_Machine_init dc_Machine_init pm_Machine_init an_Machine_init cd_Machine_init ct_Machine_init), sl_Machine_init⟩)
    (c_Machine_init : PySem.W.codeIn K cd_Machine_init "Machine.__init__" = true)
    (k_Machine_init : PySem.W.keepIn K (.ref f_Machine_init) = true)
    (lT_Machine_init : K.lookup dT_Machine_init = some ⟨ocT_Machine_init, odT_Machine_init, .seq itT_Machine_init nT_Machine_init, slT_Machine_init⟩)
    (vT_Machine_init : Vals [(.int 30), (.int 70)] itT_Machine_init.toList)
    (a_Machine_parts : PySem.W.findIn K (.ref CMachine) "parts" = some (some (.ref f_Machine_parts)))
    (i_Machine_parts : PySem.W.isFn K (.ref f_Machine_parts) = true)
    (l_Machine_parts : K.lookup f_Machine_parts = some ⟨oc_Machine_parts, od_Machine_parts, .func (PySem.W.fnOf "parts" "Machine.parts" (defArgs s_Machine_parts) (defBody s_Machine_parts) (defScope s_Machine_parts) .none kV_Machine_parts dc_Machine_parts pm_Machine_parts an_Machine_parts cd_Machine_parts ct_Machine_parts), sl_Machine_parts⟩)
    (c_Machine_parts : PySem.W.codeIn K cd_Machine_parts "Machine.parts" = true)
    (k_Machine_parts : PySem.W.keepIn K (.ref f_Machine_parts) = true)
    (a_Machine_tally : PySem.W.findIn K (.ref CMachine) "tally" = some (some (.ref f_Machine_tally)))
    (i_Machine_tally : PySem.W.isFn K (.ref f_Machine_tally) = true)
    (l_Machine_tally : K.lookup f_Machine_tally = some ⟨oc_Machine_tally, od_Machine_tally, .func (PySem.W.fnOf "tally" "Machine.tally" (defArgs s_Machine_tally) (defBody s_Machine_tally) (defScope s_Machine_tally) .none kV_Machine_tally dc_Machine_tally pm_Machine_tally an_Machine_tally cd_Machine_tally ct_Machine_tally), sl_Machine_tally⟩)
    (c_Machine_tally : PySem.W.codeIn K cd_Machine_tally "Machine.tally" = true)
    (k_Machine_tally : PySem.W.keepIn K (.ref f_Machine_tally) = true)
    (a_Machine_walk : PySem.W.findIn K (.ref CMachine) "walk" = some (some (.ref f_Machine_walk)))
    (i_Machine_walk : PySem.W.isFn K (.ref f_Machine_walk) = true)
    (l_Machine_walk : K.lookup f_Machine_walk = some ⟨oc_Machine_walk, od_Machine_walk, .func (PySem.W.fnOf "walk" "Machine.walk" (defArgs s_Machine_walk) (defBody s_Machine_walk) (defScope s_Machine_walk) .none kV_Machine_walk dc_Machine_walk pm_Machine_walk an_Machine_walk cd_Machine_walk ct_Machine_walk), sl_Machine_walk⟩)
    (c_Machine_walk : PySem.W.codeIn K cd_Machine_walk "Machine.walk" = true)
    (k_Machine_walk : PySem.W.keepIn K (.ref f_Machine_walk) = true)
    (a_Machine_reset : PySem.W.findIn K (.ref CMachine) "reset" = some (some (.ref f_Machine_reset)))
    (i_Machine_reset : PySem.W.isFn K (.ref f_Machine_reset) = true)
    (l_Machine_reset : K.lookup f_Machine_reset = some ⟨oc_Machine_reset, od_Machine_reset, .func (PySem.W.fnOf "reset" "Machine.reset" (defArgs s_Machine_reset) (defBody s_Machine_reset) (defScope s_Machine_reset) .none kV_Machine_reset dc_Machine_reset pm_Machine_reset an_Machine_reset cd_Machine_reset ct_Machine_reset), sl_Machine_reset⟩)
    (c_Machine_reset : PySem.W.codeIn K cd_Machine_reset "Machine.reset" = true)
    (k_Machine_reset : PySem.W.keepIn K (.ref f_Machine_reset) = true)
    (a_Machine_count : PySem.W.findIn K (.ref CMachine) "count" = some (some (.ref f_Machine_count)))
    (i_Machine_count : PySem.W.isFn K (.ref f_Machine_count) = true)
    (l_Machine_count : K.lookup f_Machine_count = some ⟨oc_Machine_count, od_Machine_count, .func (PySem.W.fnOf "count" "Machine.count" (defArgs s_Machine_count) (defBody s_Machine_count) (defScope s_Machine_count) .none kV_Machine_count dc_Machine_count pm_Machine_count an_Machine_count cd_Machine_count ct_Machine_count), sl_Machine_count⟩)
    (c_Machine_count : PySem.W.codeIn K cd_Machine_count "Machine.count" = true)
    (k_Machine_count : PySem.W.keepIn K (.ref f_Machine_count) = true)
    (a_check_machine : PySem.W.nsIn K mainGlobals "check_machine" = some (some (.ref f_check_machine)))
    (l_check_machine : K.lookup f_check_machine = some ⟨oc_check_machine, od_check_machine, .func (PySem.W.fnOf "check_machine" "check_machine" (defArgs s_check_machine) (defBody s_check_machine) (defScope s_check_machine) .none kV_check_machine dc_check_machine pm_check_machine an_check_machine cd_check_machine ct_check_machine), sl_check_machine⟩)
    (c_check_machine : PySem.W.codeIn K cd_check_machine "check_machine" = true)
    (k_check_machine : PySem.W.keepIn K (.ref f_check_machine) = true)
    (a_Big_init : PySem.W.findIn K (.ref CBig) "__init__" = some (some (.ref f_Big_init)))
    (i_Big_init : PySem.W.isFn K (.ref f_Big_init) = true)
    (l_Big_init : K.lookup f_Big_init = some ⟨oc_Big_init, od_Big_init, .func (PySem.W.fnOf "__init__" "Big.__init__" (defArgs s_Big_init) (defBody s_Big_init) (defScope s_Big_init) .none kV_Big_init dc_Big_init pm_Big_init an_Big_init cd_Big_init ct_Big_init), sl_Big_init⟩)
    (c_Big_init : PySem.W.codeIn K cd_Big_init "Big.__init__" = true)
    (k_Big_init : PySem.W.keepIn K (.ref f_Big_init) = true)
    (a_made : PySem.W.nsIn K mainGlobals "made" = some (some (.ref f_made)))
    (l_made : K.lookup f_made = some ⟨oc_made, od_made, .func (PySem.W.fnOf "made" "made" (defArgs s_made) (defBody s_made) (defScope s_made) .none kV_made dc_made pm_made an_made cd_made ct_made), sl_made⟩)
    (c_made : PySem.W.codeIn K cd_made "made" = true)
    (k_made : PySem.W.keepIn K (.ref f_made) = true)
    (a_digits_of : PySem.W.nsIn K mainGlobals "digits_of" = some (some (.ref f_digits_of)))
    (l_digits_of : K.lookup f_digits_of = some ⟨oc_digits_of, od_digits_of, .func (PySem.W.fnOf "digits_of" "digits_of" (defArgs s_digits_of) (defBody s_digits_of) (defScope s_digits_of) .none kV_digits_of dc_digits_of pm_digits_of an_digits_of cd_digits_of ct_digits_of), sl_digits_of⟩)
    (c_digits_of : PySem.W.codeIn K cd_digits_of "digits_of" = true)
    (k_digits_of : PySem.W.keepIn K (.ref f_digits_of) = true)
    (a_big_of : PySem.W.nsIn K mainGlobals "big_of" = some (some (.ref f_big_of)))
    (l_big_of : K.lookup f_big_of = some ⟨oc_big_of, od_big_of, .func (PySem.W.fnOf "big_of" "big_of" (defArgs s_big_of) (defBody s_big_of) (defScope s_big_of) .none kV_big_of dc_big_of pm_big_of an_big_of cd_big_of ct_big_of), sl_big_of⟩)
    (c_big_of : PySem.W.codeIn K cd_big_of "big_of" = true)
    (k_big_of : PySem.W.keepIn K (.ref f_big_of) = true)
    (a_value_of : PySem.W.nsIn K mainGlobals "value_of" = some (some (.ref f_value_of)))
    (l_value_of : K.lookup f_value_of = some ⟨oc_value_of, od_value_of, .func (PySem.W.fnOf "value_of" "value_of" (defArgs s_value_of) (defBody s_value_of) (defScope s_value_of) .none kV_value_of dc_value_of pm_value_of an_value_of cd_value_of ct_value_of), sl_value_of⟩)
    (c_value_of : PySem.W.codeIn K cd_value_of "value_of" = true)
    (k_value_of : PySem.W.keepIn K (.ref f_value_of) = true)
    (a_check_big : PySem.W.nsIn K mainGlobals "check_big" = some (some (.ref f_check_big)))
    (l_check_big : K.lookup f_check_big = some ⟨oc_check_big, od_check_big, .func (PySem.W.fnOf "check_big" "check_big" (defArgs s_check_big) (defBody s_check_big) (defScope s_check_big) .none kV_check_big dc_check_big pm_check_big an_check_big cd_check_big ct_check_big), sl_check_big⟩)
    (c_check_big : PySem.W.codeIn K cd_check_big "check_big" = true)
    (k_check_big : PySem.W.keepIn K (.ref f_check_big) = true)
    (a_check_bigs : PySem.W.nsIn K mainGlobals "check_bigs" = some (some (.ref f_check_bigs)))
    (l_check_bigs : K.lookup f_check_bigs = some ⟨oc_check_bigs, od_check_bigs, .func (PySem.W.fnOf "check_bigs" "check_bigs" (defArgs s_check_bigs) (defBody s_check_bigs) (defScope s_check_bigs) .none kV_check_bigs dc_check_bigs pm_check_bigs an_check_bigs cd_check_bigs ct_check_bigs), sl_check_bigs⟩)
    (c_check_bigs : PySem.W.codeIn K cd_check_bigs "check_bigs" = true)
    (k_check_bigs : PySem.W.keepIn K (.ref f_check_bigs) = true)
    (a_big : PySem.W.nsIn K mainGlobals "big" = some (some (.ref f_big)))
    (l_big : K.lookup f_big = some ⟨oc_big, od_big, .func (PySem.W.fnOf "big" "big" (defArgs s_big) (defBody s_big) (defScope s_big) .none kV_big dc_big pm_big an_big cd_big ct_big), sl_big⟩)
    (c_big : PySem.W.codeIn K cd_big "big" = true)
    (k_big : PySem.W.keepIn K (.ref f_big) = true)
    (a_first_bits : PySem.W.nsIn K mainGlobals "first_bits" = some (some (.ref f_first_bits)))
    (l_first_bits : K.lookup f_first_bits = some ⟨oc_first_bits, od_first_bits, .func (PySem.W.fnOf "first_bits" "first_bits" (defArgs s_first_bits) (defBody s_first_bits) (defScope s_first_bits) .none kV_first_bits dc_first_bits pm_first_bits an_first_bits cd_first_bits ct_first_bits), sl_first_bits⟩)
    (c_first_bits : PySem.W.codeIn K cd_first_bits "first_bits" = true)
    (k_first_bits : PySem.W.keepIn K (.ref f_first_bits) = true)
    (a_step_of : PySem.W.nsIn K mainGlobals "step_of" = some (some (.ref f_step_of)))
    (l_step_of : K.lookup f_step_of = some ⟨oc_step_of, od_step_of, .func (PySem.W.fnOf "step_of" "step_of" (defArgs s_step_of) (defBody s_step_of) (defScope s_step_of) .none kV_step_of dc_step_of pm_step_of an_step_of cd_step_of ct_step_of), sl_step_of⟩)
    (c_step_of : PySem.W.codeIn K cd_step_of "step_of" = true)
    (k_step_of : PySem.W.keepIn K (.ref f_step_of) = true)
    (a_lehmer_step : PySem.W.nsIn K mainGlobals "lehmer_step" = some (some (.ref f_lehmer_step)))
    (l_lehmer_step : K.lookup f_lehmer_step = some ⟨oc_lehmer_step, od_lehmer_step, .func (PySem.W.fnOf "lehmer_step" "lehmer_step" (defArgs s_lehmer_step) (defBody s_lehmer_step) (defScope s_lehmer_step) .none kV_lehmer_step dc_lehmer_step pm_lehmer_step an_lehmer_step cd_lehmer_step ct_lehmer_step), sl_lehmer_step⟩)
    (c_lehmer_step : PySem.W.codeIn K cd_lehmer_step "lehmer_step" = true)
    (k_lehmer_step : PySem.W.keepIn K (.ref f_lehmer_step) = true)
    (a_law_mixed : PySem.W.nsIn K mainGlobals "_law_mixed" = some (some (.ref f_law_mixed)))
    (l_law_mixed : K.lookup f_law_mixed = some ⟨oc_law_mixed, od_law_mixed, .func (PySem.W.fnOf "_law_mixed" "_law_mixed" (defArgs s_law_mixed) (defBody s_law_mixed) (defScope s_law_mixed) .none kV_law_mixed dc_law_mixed pm_law_mixed an_law_mixed cd_law_mixed ct_law_mixed), sl_law_mixed⟩)
    (c_law_mixed : PySem.W.codeIn K cd_law_mixed "_law_mixed" = true)
    (k_law_mixed : PySem.W.keepIn K (.ref f_law_mixed) = true)
    (a_law_source : PySem.W.nsIn K mainGlobals "_law_source" = some (some (.ref f_law_source)))
    (l_law_source : K.lookup f_law_source = some ⟨oc_law_source, od_law_source, .func (PySem.W.fnOf "_law_source" "_law_source" (defArgs s_law_source) (defBody s_law_source) (defScope s_law_source) .none kV_law_source dc_law_source pm_law_source an_law_source cd_law_source ct_law_source), sl_law_source⟩)
    (c_law_source : PySem.W.codeIn K cd_law_source "_law_source" = true)
    (k_law_source : PySem.W.keepIn K (.ref f_law_source) = true)
    (a_law_draw : PySem.W.nsIn K mainGlobals "_law_draw" = some (some (.ref f_law_draw)))
    (l_law_draw : K.lookup f_law_draw = some ⟨oc_law_draw, od_law_draw, .func (PySem.W.fnOf "_law_draw" "_law_draw" (defArgs s_law_draw) (defBody s_law_draw) (defScope s_law_draw) .none kV_law_draw dc_law_draw pm_law_draw an_law_draw cd_law_draw ct_law_draw), sl_law_draw⟩)
    (c_law_draw : PySem.W.codeIn K cd_law_draw "_law_draw" = true)
    (k_law_draw : PySem.W.keepIn K (.ref f_law_draw) = true)
    (a_law_one : PySem.W.nsIn K mainGlobals "_law_one" = some (some (.ref f_law_one)))
    (l_law_one : K.lookup f_law_one = some ⟨oc_law_one, od_law_one, .func (PySem.W.fnOf "_law_one" "_law_one" (defArgs s_law_one) (defBody s_law_one) (defScope s_law_one) .none kV_law_one dc_law_one pm_law_one an_law_one cd_law_one ct_law_one), sl_law_one⟩)
    (c_law_one : PySem.W.codeIn K cd_law_one "_law_one" = true)
    (k_law_one : PySem.W.keepIn K (.ref f_law_one) = true)
    (a_law_engines : PySem.W.nsIn K mainGlobals "_law_engines" = some (some (.ref f_law_engines)))
    (l_law_engines : K.lookup f_law_engines = some ⟨oc_law_engines, od_law_engines, .func (PySem.W.fnOf "_law_engines" "_law_engines" (defArgs s_law_engines) (defBody s_law_engines) (defScope s_law_engines) .none kV_law_engines dc_law_engines pm_law_engines an_law_engines cd_law_engines ct_law_engines), sl_law_engines⟩)
    (c_law_engines : PySem.W.codeIn K cd_law_engines "_law_engines" = true)
    (k_law_engines : PySem.W.keepIn K (.ref f_law_engines) = true)
    (a_law_count_of : PySem.W.nsIn K mainGlobals "_law_count_of" = some (some (.ref f_law_count_of)))
    (l_law_count_of : K.lookup f_law_count_of = some ⟨oc_law_count_of, od_law_count_of, .func (PySem.W.fnOf "_law_count_of" "_law_count_of" (defArgs s_law_count_of) (defBody s_law_count_of) (defScope s_law_count_of) .none kV_law_count_of dc_law_count_of pm_law_count_of an_law_count_of cd_law_count_of ct_law_count_of), sl_law_count_of⟩)
    (c_law_count_of : PySem.W.codeIn K cd_law_count_of "_law_count_of" = true)
    (k_law_count_of : PySem.W.keepIn K (.ref f_law_count_of) = true)
    (a_law_number : PySem.W.nsIn K mainGlobals "_law_number" = some (some (.ref f_law_number)))
    (l_law_number : K.lookup f_law_number = some ⟨oc_law_number, od_law_number, .func (PySem.W.fnOf "_law_number" "_law_number" (defArgs s_law_number) (defBody s_law_number) (defScope s_law_number) .none kV_law_number dc_law_number pm_law_number an_law_number cd_law_number ct_law_number), sl_law_number⟩)
    (c_law_number : PySem.W.codeIn K cd_law_number "_law_number" = true)
    (k_law_number : PySem.W.keepIn K (.ref f_law_number) = true)
    (a_law_size : PySem.W.nsIn K mainGlobals "_law_size" = some (some (.ref f_law_size)))
    (l_law_size : K.lookup f_law_size = some ⟨oc_law_size, od_law_size, .func (PySem.W.fnOf "_law_size" "_law_size" (defArgs s_law_size) (defBody s_law_size) (defScope s_law_size) .none kV_law_size dc_law_size pm_law_size an_law_size cd_law_size ct_law_size), sl_law_size⟩)
    (c_law_size : PySem.W.codeIn K cd_law_size "_law_size" = true)
    (k_law_size : PySem.W.keepIn K (.ref f_law_size) = true)
    (a_law_fibs : PySem.W.nsIn K mainGlobals "_law_fibs" = some (some (.ref f_law_fibs)))
    (l_law_fibs : K.lookup f_law_fibs = some ⟨oc_law_fibs, od_law_fibs, .func (PySem.W.fnOf "_law_fibs" "_law_fibs" (defArgs s_law_fibs) (defBody s_law_fibs) (defScope s_law_fibs) .none kV_law_fibs dc_law_fibs pm_law_fibs an_law_fibs cd_law_fibs ct_law_fibs), sl_law_fibs⟩)
    (c_law_fibs : PySem.W.codeIn K cd_law_fibs "_law_fibs" = true)
    (k_law_fibs : PySem.W.keepIn K (.ref f_law_fibs) = true)
    (a_law_step : PySem.W.nsIn K mainGlobals "_law_step" = some (some (.ref f_law_step)))
    (l_law_step : K.lookup f_law_step = some ⟨oc_law_step, od_law_step, .func (PySem.W.fnOf "_law_step" "_law_step" (defArgs s_law_step) (defBody s_law_step) (defScope s_law_step) .none kV_law_step dc_law_step pm_law_step an_law_step cd_law_step ct_law_step), sl_law_step⟩)
    (c_law_step : PySem.W.codeIn K cd_law_step "_law_step" = true)
    (k_law_step : PySem.W.keepIn K (.ref f_law_step) = true)
    (a_law_pair : PySem.W.nsIn K mainGlobals "_law_pair" = some (some (.ref f_law_pair)))
    (l_law_pair : K.lookup f_law_pair = some ⟨oc_law_pair, od_law_pair, .func (PySem.W.fnOf "_law_pair" "_law_pair" (defArgs s_law_pair) (defBody s_law_pair) (defScope s_law_pair) .none kV_law_pair dc_law_pair pm_law_pair an_law_pair cd_law_pair ct_law_pair), sl_law_pair⟩)
    (c_law_pair : PySem.W.codeIn K cd_law_pair "_law_pair" = true)
    (k_law_pair : PySem.W.keepIn K (.ref f_law_pair) = true)
    (a_law_facts_right : PySem.W.nsIn K mainGlobals "_law_facts_right" = some (some (.ref f_law_facts_right)))
    (l_law_facts_right : K.lookup f_law_facts_right = some ⟨oc_law_facts_right, od_law_facts_right, .func (PySem.W.fnOf "_law_facts_right" "_law_facts_right" (defArgs s_law_facts_right) (defBody s_law_facts_right) (defScope s_law_facts_right) .none kV_law_facts_right dc_law_facts_right pm_law_facts_right an_law_facts_right cd_law_facts_right ct_law_facts_right), sl_law_facts_right⟩)
    (c_law_facts_right : PySem.W.codeIn K cd_law_facts_right "_law_facts_right" = true)
    (k_law_facts_right : PySem.W.keepIn K (.ref f_law_facts_right) = true)
    (a_law_right : PySem.W.nsIn K mainGlobals "_law_right" = some (some (.ref f_law_right)))
    (l_law_right : K.lookup f_law_right = some ⟨oc_law_right, od_law_right, .func (PySem.W.fnOf "_law_right" "_law_right" (defArgs s_law_right) (defBody s_law_right) (defScope s_law_right) .none kV_law_right dc_law_right pm_law_right an_law_right cd_law_right ct_law_right), sl_law_right⟩)
    (c_law_right : PySem.W.codeIn K cd_law_right "_law_right" = true)
    (k_law_right : PySem.W.keepIn K (.ref f_law_right) = true)
    (a_law_said : PySem.W.nsIn K mainGlobals "_law_said" = some (some (.ref f_law_said)))
    (l_law_said : K.lookup f_law_said = some ⟨oc_law_said, od_law_said, .func (PySem.W.fnOf "_law_said" "_law_said" (defArgs s_law_said) (defBody s_law_said) (defScope s_law_said) .none kV_law_said dc_law_said pm_law_said an_law_said cd_law_said ct_law_said), sl_law_said⟩)
    (c_law_said : PySem.W.codeIn K cd_law_said "_law_said" = true)
    (k_law_said : PySem.W.keepIn K (.ref f_law_said) = true)
    (a_law_deep : PySem.W.nsIn K mainGlobals "_law_deep" = some (some (.ref f_law_deep)))
    (l_law_deep : K.lookup f_law_deep = some ⟨oc_law_deep, od_law_deep, .func (PySem.W.fnOf "_law_deep" "_law_deep" (defArgs s_law_deep) (defBody s_law_deep) (defScope s_law_deep) .none kV_law_deep dc_law_deep pm_law_deep an_law_deep cd_law_deep ct_law_deep), sl_law_deep⟩)
    (c_law_deep : PySem.W.codeIn K cd_law_deep "_law_deep" = true)
    (k_law_deep : PySem.W.keepIn K (.ref f_law_deep) = true)
    (a_law_refused_right : PySem.W.nsIn K mainGlobals "_law_refused_right" = some (some (.ref f_law_refused_right)))
    (l_law_refused_right : K.lookup f_law_refused_right = some ⟨oc_law_refused_right, od_law_refused_right, .func (PySem.W.fnOf "_law_refused_right" "_law_refused_right" (defArgs s_law_refused_right) (defBody s_law_refused_right) (defScope s_law_refused_right) .none kV_law_refused_right dc_law_refused_right pm_law_refused_right an_law_refused_right cd_law_refused_right ct_law_refused_right), sl_law_refused_right⟩)
    (c_law_refused_right : PySem.W.codeIn K cd_law_refused_right "_law_refused_right" = true)
    (k_law_refused_right : PySem.W.keepIn K (.ref f_law_refused_right) = true)
    (ce_law_refused_right : cd_law_refused_right = .ref cc_law_refused_right)
    (cl_law_refused_right : K.lookup cc_law_refused_right = some ⟨.type "code", odc_law_refused_right, .fields vsc_law_refused_right, slc_law_refused_right⟩)
    (cp_law_refused_right : vsc_law_refused_right[11]? = some (.ref pp_law_refused_right))
    (ch_law_refused_right : PySem.W.codeHdIn K cc_law_refused_right pp_law_refused_right = true)
    (cn_law_refused_right : K.lookup pp_law_refused_right = none)
    (th_law_refused_right : h.get? pp_law_refused_right = some (PySem.W.tabObj #[]))
    (a_law : PySem.W.nsIn K mainGlobals "law" = some (some (.ref f_law)))
    (l_law : K.lookup f_law = some ⟨oc_law, od_law, .func (PySem.W.fnOf "law" "law" (defArgs s_law) (defBody s_law) (defScope s_law) .none kV_law dc_law pm_law an_law cd_law ct_law), sl_law⟩)
    (c_law : PySem.W.codeIn K cd_law "law" = true)
    (k_law : PySem.W.keepIn K (.ref f_law) = true)
    (icMachine : PySem.W.isClsIn K CMachine = true)
    (tyMachine : PySem.W.typeIn K (.ref CMachine) = some (.type "type"))
    (sbMachine_int : PySem.W.subIn K (.type "int") (.ref CMachine) = some false)
    (sbMachine_list : PySem.W.subIn K (.type "list") (.ref CMachine) = some false)
    (sbMachine_str : PySem.W.subIn K (.type "str") (.ref CMachine) = some false)
    (sbMachine_NoneType : PySem.W.subIn K (.type "NoneType") (.ref CMachine) = some false)
    (sbMachine_bool : PySem.W.subIn K (.type "bool") (.ref CMachine) = some false)
    (sbMachine_tuple : PySem.W.subIn K (.type "tuple") (.ref CMachine) = some false)
    (sbMachine_dict : PySem.W.subIn K (.type "dict") (.ref CMachine) = some false)
    (icBig : PySem.W.isClsIn K CBig = true)
    (tyBig : PySem.W.typeIn K (.ref CBig) = some (.type "type"))
    (sbBig_int : PySem.W.subIn K (.type "int") (.ref CBig) = some false)
    (sbBig_list : PySem.W.subIn K (.type "list") (.ref CBig) = some false)
    (sbBig_str : PySem.W.subIn K (.type "str") (.ref CBig) = some false)
    (sbBig_NoneType : PySem.W.subIn K (.type "NoneType") (.ref CBig) = some false)
    (sbBig_bool : PySem.W.subIn K (.type "bool") (.ref CBig) = some false)
    (sbBig_tuple : PySem.W.subIn K (.type "tuple") (.ref CBig) = some false)
    (sbBig_dict : PySem.W.subIn K (.type "dict") (.ref CBig) = some false)
    (cxne : CMachine ≠ CBig)
    (cxMB : PySem.W.subIn K (.ref CMachine) (.ref CBig) = some false)
    (cxBM : PySem.W.subIn K (.ref CBig) (.ref CMachine) = some false)
    (cxMachine_int : PySem.W.subIn K (.ref CMachine) (.type "int") = some false)
    (cxMachine_list : PySem.W.subIn K (.ref CMachine) (.type "list") = some false)
    (cxMachine_str : PySem.W.subIn K (.ref CMachine) (.type "str") = some false)
    (cxMachine_bool : PySem.W.subIn K (.ref CMachine) (.type "bool") = some false)
    (cxMachine_tuple : PySem.W.subIn K (.ref CMachine) (.type "tuple") = some false)
    (cxMachine_dict : PySem.W.subIn K (.ref CMachine) (.type "dict") = some false)
    (cxBig_int : PySem.W.subIn K (.ref CBig) (.type "int") = some false)
    (cxBig_list : PySem.W.subIn K (.ref CBig) (.type "list") = some false)
    (cxBig_str : PySem.W.subIn K (.ref CBig) (.type "str") = some false)
    (cxBig_bool : PySem.W.subIn K (.ref CBig) (.type "bool") = some false)
    (cxBig_tuple : PySem.W.subIn K (.ref CBig) (.type "tuple") = some false)
    (cxBig_dict : PySem.W.subIn K (.ref CBig) (.type "dict") = some false)
    (xt_InvalidBound : PySem.W.typeIn K (.ref f_InvalidBound_init) = some (.type "function"))
    (z_abs : PySem.W.nsIn K mainGlobals "abs" = some none)
    (z_bool : PySem.W.nsIn K mainGlobals "bool" = some none)
    (z_dict : PySem.W.nsIn K mainGlobals "dict" = some none)
    (z_int : PySem.W.nsIn K mainGlobals "int" = some none)
    (z_isinstance : PySem.W.nsIn K mainGlobals "isinstance" = some none)
    (z_len : PySem.W.nsIn K mainGlobals "len" = some none)
    (z_list : PySem.W.nsIn K mainGlobals "list" = some none)
    (z_max : PySem.W.nsIn K mainGlobals "max" = some none)
    (z_range : PySem.W.nsIn K mainGlobals "range" = some none)
    (z_tuple : PySem.W.nsIn K mainGlobals "tuple" = some none)
    (tnd : [pp_law_refused_right].Nodup)
    : LamX.LawAtS l w K CX0 9 63 "_law_script" mg fa h := by
  have e : f_law = fa := by
    have q := (PySem.W.mg_of X G a_law).symm.trans hfa
    exact Value.ref.inj (Option.some.inj q)
  subst e
  subst ce_law_refused_right
  have F_InvalidBound_init := fun_mk (st := s_InvalidBound_init) l_InvalidBound_init c_InvalidBound_init k_InvalidBound_init
  have b_InvalidBound_init := F_InvalidBound_init.binds (ps := ["self", "argument"]) fun _ _ _ _ _ _ us hl => match us, hl with | [_, _], _ => rfl
  have F_is_integer := fun_mk (st := s_is_integer) l_is_integer c_is_integer k_is_integer
  have b_is_integer := F_is_integer.binds (ps := ["value"]) fun _ _ _ _ _ _ us hl => match us, hl with | [_], _ => rfl
  have F_is_between := fun_mk (st := s_is_between) l_is_between c_is_between k_is_between
  have b_is_between := F_is_between.binds (ps := ["value", "low", "high"]) fun _ _ _ _ _ _ us hl => match us, hl with | [_, _, _], _ => rfl
  have F_check_integer := fun_mk (st := s_check_integer) l_check_integer c_check_integer k_check_integer
  have b_check_integer := F_check_integer.binds (ps := ["argument", "value"]) fun _ _ _ _ _ _ us hl => match us, hl with | [_, _], _ => rfl
  have F_Machine_init : FunD K "__init__" "Machine.__init__" (defArgs s_Machine_init) (defBody s_Machine_init) (defScope s_Machine_init) [(.int 30), (.int 70)] [] f_Machine_init _ := ⟨⟨_, _, _, _, _, _, _, _, _, _, rfl, l_Machine_init, c_Machine_init, .inr ⟨by simp, dT_Machine_init, _, itT_Machine_init.toList, nT_Machine_init, rfl, lT_Machine_init, by simp, vT_Machine_init⟩, .inl rfl⟩, k_Machine_init⟩
  obtain ⟨dsf_Machine_init, vf_Machine_init, b_Machine_init⟩ := F_Machine_init.binds1 (ps := ["self", "bits", "cutoff"]) 3 2 (by simp) (by decide) (fun _ _ _ _ _ _ _ us its h1 h2 => match us, its, h1, h2 with | [_, _, _], [_, _], _, _ => ⟨_, rfl, rfl⟩)
  cases vf_Machine_init
  have F_Machine_parts := fun_mk (st := s_Machine_parts) l_Machine_parts c_Machine_parts k_Machine_parts
  have b_Machine_parts := F_Machine_parts.binds (ps := ["self"]) fun _ _ _ _ _ _ us hl => match us, hl with | [_], _ => rfl
  have F_Machine_tally := fun_mk (st := s_Machine_tally) l_Machine_tally c_Machine_tally k_Machine_tally
  have b_Machine_tally := F_Machine_tally.binds (ps := ["self"]) fun _ _ _ _ _ _ us hl => match us, hl with | [_], _ => rfl
  have F_Machine_walk := fun_mk (st := s_Machine_walk) l_Machine_walk c_Machine_walk k_Machine_walk
  have b_Machine_walk := F_Machine_walk.binds (ps := ["self"]) fun _ _ _ _ _ _ us hl => match us, hl with | [_], _ => rfl
  have F_Machine_reset := fun_mk (st := s_Machine_reset) l_Machine_reset c_Machine_reset k_Machine_reset
  have b_Machine_reset := F_Machine_reset.binds (ps := ["self"]) fun _ _ _ _ _ _ us hl => match us, hl with | [_], _ => rfl
  have F_Machine_count := fun_mk (st := s_Machine_count) l_Machine_count c_Machine_count k_Machine_count
  have b_Machine_count := F_Machine_count.binds (ps := ["self", "word", "number"]) fun _ _ _ _ _ _ us hl => match us, hl with | [_, _, _], _ => rfl
  have F_check_machine := fun_mk (st := s_check_machine) l_check_machine c_check_machine k_check_machine
  have b_check_machine := F_check_machine.binds (ps := ["value"]) fun _ _ _ _ _ _ us hl => match us, hl with | [_], _ => rfl
  have F_Big_init := fun_mk (st := s_Big_init) l_Big_init c_Big_init k_Big_init
  have b_Big_init := F_Big_init.binds (ps := ["self", "width", "side", "row"]) fun _ _ _ _ _ _ us hl => match us, hl with | [_, _, _, _], _ => rfl
  have F_made := fun_mk (st := s_made) l_made c_made k_made
  have b_made := F_made.binds (ps := ["machine", "side", "digits"]) fun _ _ _ _ _ _ us hl => match us, hl with | [_, _, _], _ => rfl
  have F_digits_of := fun_mk (st := s_digits_of) l_digits_of c_digits_of k_digits_of
  have b_digits_of := F_digits_of.binds (ps := ["machine", "n"]) fun _ _ _ _ _ _ us hl => match us, hl with | [_, _], _ => rfl
  have F_big_of := fun_mk (st := s_big_of) l_big_of c_big_of k_big_of
  have b_big_of := F_big_of.binds (ps := ["machine", "n"]) fun _ _ _ _ _ _ us hl => match us, hl with | [_, _], _ => rfl
  have F_value_of := fun_mk (st := s_value_of) l_value_of c_value_of k_value_of
  have b_value_of := F_value_of.binds (ps := ["x"]) fun _ _ _ _ _ _ us hl => match us, hl with | [_], _ => rfl
  have F_check_big := fun_mk (st := s_check_big) l_check_big c_check_big k_check_big
  have b_check_big := F_check_big.binds (ps := ["machine", "argument", "value"]) fun _ _ _ _ _ _ us hl => match us, hl with | [_, _, _], _ => rfl
  have F_check_bigs := fun_mk (st := s_check_bigs) l_check_bigs c_check_bigs k_check_bigs
  have b_check_bigs := F_check_bigs.binds (ps := ["machine", "x", "y"]) fun _ _ _ _ _ _ us hl => match us, hl with | [_, _, _], _ => rfl
  have F_big := fun_mk (st := s_big) l_big c_big k_big
  have b_big := F_big.binds (ps := ["machine", "n"]) fun _ _ _ _ _ _ us hl => match us, hl with | [_, _], _ => rfl
  have F_first_bits := fun_mk (st := s_first_bits) l_first_bits c_first_bits k_first_bits
  have b_first_bits := F_first_bits.binds (ps := ["row", "size", "width", "bits"]) fun _ _ _ _ _ _ us hl => match us, hl with | [_, _, _, _], _ => rfl
  have F_step_of := fun_mk (st := s_step_of) l_step_of c_step_of k_step_of
  have b_step_of := F_step_of.binds (ps := ["machine", "x", "y"]) fun _ _ _ _ _ _ us hl => match us, hl with | [_, _, _], _ => rfl
  have F_lehmer_step := fun_mk (st := s_lehmer_step) l_lehmer_step c_lehmer_step k_lehmer_step
  have b_lehmer_step := F_lehmer_step.binds (ps := ["machine", "x", "y"]) fun _ _ _ _ _ _ us hl => match us, hl with | [_, _, _], _ => rfl
  have F_law_mixed := fun_mk (st := s_law_mixed) l_law_mixed c_law_mixed k_law_mixed
  have b_law_mixed := F_law_mixed.binds (ps := ["_law_cell", "_law_turn"]) fun _ _ _ _ _ _ us hl => match us, hl with | [_, _], _ => rfl
  have F_law_source := fun_mk (st := s_law_source) l_law_source c_law_source k_law_source
  have b_law_source := F_law_source.binds (ps := ["_law_cell"]) fun _ _ _ _ _ _ us hl => match us, hl with | [_], _ => rfl
  have F_law_draw := fun_mk (st := s_law_draw) l_law_draw c_law_draw k_law_draw
  have b_law_draw := F_law_draw.binds (ps := ["_law_source_here", "_law_bound"]) fun _ _ _ _ _ _ us hl => match us, hl with | [_, _], _ => rfl
  have F_law_one := fun_mk (st := s_law_one) l_law_one c_law_one k_law_one
  have b_law_one := F_law_one.binds (ps := ["_law_source_here", "_law_some"]) fun _ _ _ _ _ _ us hl => match us, hl with | [_, _], _ => rfl
  have F_law_engines := fun_mk (st := s_law_engines) l_law_engines c_law_engines k_law_engines
  have b_law_engines := F_law_engines.binds (ps := ["_law_source_here"]) fun _ _ _ _ _ _ us hl => match us, hl with | [_], _ => rfl
  have F_law_count_of := fun_mk (st := s_law_count_of) l_law_count_of c_law_count_of k_law_count_of
  have b_law_count_of := F_law_count_of.binds (ps := ["_law_source_here", "_law_width", "_law_size_here"]) fun _ _ _ _ _ _ us hl => match us, hl with | [_, _, _], _ => rfl
  have F_law_number := fun_mk (st := s_law_number) l_law_number c_law_number k_law_number
  have b_law_number := F_law_number.binds (ps := ["_law_source_here", "_law_width", "_law_most"]) fun _ _ _ _ _ _ us hl => match us, hl with | [_, _, _], _ => rfl
  have F_law_size := fun_mk (st := s_law_size) l_law_size c_law_size k_law_size
  have b_law_size := F_law_size.binds (ps := ["_law_n", "_law_width"]) fun _ _ _ _ _ _ us hl => match us, hl with | [_, _], _ => rfl
  have F_law_fibs := fun_mk (st := s_law_fibs) l_law_fibs c_law_fibs k_law_fibs
  have b_law_fibs := F_law_fibs.binds (ps := ["_law_k"]) fun _ _ _ _ _ _ us hl => match us, hl with | [_], _ => rfl
  have F_law_step := fun_mk (st := s_law_step) l_law_step c_law_step k_law_step
  have b_law_step := F_law_step.binds (ps := ["_law_xx", "_law_yy", "_law_width"]) fun _ _ _ _ _ _ us hl => match us, hl with | [_, _, _], _ => rfl
  have F_law_pair := fun_mk (st := s_law_pair) l_law_pair c_law_pair k_law_pair
  have b_law_pair := F_law_pair.binds (ps := ["_law_source_here", "_law_width"]) fun _ _ _ _ _ _ us hl => match us, hl with | [_, _], _ => rfl
  have F_law_facts_right := fun_mk (st := s_law_facts_right) l_law_facts_right c_law_facts_right k_law_facts_right
  have b_law_facts_right := F_law_facts_right.binds (ps := ["_law_xx", "_law_yy", "_law_quotients", "_law_four", "_law_base"]) fun _ _ _ _ _ _ us hl => match us, hl with | [_, _, _, _, _], _ => rfl
  have F_law_right := fun_mk (st := s_law_right) l_law_right c_law_right k_law_right
  have b_law_right := F_law_right.binds (ps := ["_law_engine", "_law_xx", "_law_yy", "_law_width"]) fun _ _ _ _ _ _ us hl => match us, hl with | [_, _, _, _], _ => rfl
  have F_law_said := fun_mk (st := s_law_said) l_law_said c_law_said k_law_said
  have b_law_said := F_law_said.binds (ps := ["_law_ask"]) fun _ _ _ _ _ _ us hl => match us, hl with | [_], _ => rfl
  have F_law_deep := fun_mk (st := s_law_deep) l_law_deep c_law_deep k_law_deep
  have b_law_deep := F_law_deep.binds (ps := ["_law_is_list"]) fun _ _ _ _ _ _ us hl => match us, hl with | [_], _ => rfl
  have F_law_refused_right := fun_mk (st := s_law_refused_right) l_law_refused_right c_law_refused_right k_law_refused_right
  have b_law_refused_right := F_law_refused_right.binds (ps := ["_law_engine", "_law_width"]) fun _ _ _ _ _ _ us hl => match us, hl with | [_, _], _ => rfl
  have F_law := fun_mk (st := s_law) l_law c_law k_law
  have b_law := F_law.binds (ps := ["_law_script"]) fun _ _ _ _ _ _ us hl => match us, hl with | [_], _ => rfl
  have kb_lehmer_step_y_x_machine : KB0 K _ ["machine", "x", "y"] ["y", "x", "machine"] (permV [2, 1, 0]) (perm [2, 1, 0]) := kb_of F_lehmer_step fun _ _ _ _ _ _ ws hl => match ws, hl with | [_, _, _], _ => rfl
  let c : Pc := ⟨CMachine, CBig, 0, aWORDS, 0, [(pp_law_refused_right, lamQ "_law_refused_right")], [CBitsError, CInvalidBound, 0, 0, 0, CInvalidMachine, 0, 0], []⟩
  let a : Ad := ⟨c, f_InvalidBound_init, (PySem.W.fnOf "__init__" "InvalidBound.__init__" (defArgs s_InvalidBound_init) (defBody s_InvalidBound_init) (defScope s_InvalidBound_init) .none kV_InvalidBound_init dc_InvalidBound_init pm_InvalidBound_init an_InvalidBound_init cd_InvalidBound_init ct_InvalidBound_init), f_is_integer, (PySem.W.fnOf "is_integer" "is_integer" (defArgs s_is_integer) (defBody s_is_integer) (defScope s_is_integer) .none kV_is_integer dc_is_integer pm_is_integer an_is_integer cd_is_integer ct_is_integer), f_is_between, (PySem.W.fnOf "is_between" "is_between" (defArgs s_is_between) (defBody s_is_between) (defScope s_is_between) .none kV_is_between dc_is_between pm_is_between an_is_between cd_is_between ct_is_between), f_check_integer, (PySem.W.fnOf "check_integer" "check_integer" (defArgs s_check_integer) (defBody s_check_integer) (defScope s_check_integer) .none kV_check_integer dc_check_integer pm_check_integer an_check_integer cd_check_integer ct_check_integer), f_Machine_init, (PySem.W.fnOf "__init__" "Machine.__init__" (defArgs s_Machine_init) (defBody s_Machine_init) (defScope s_Machine_init) (.ref dT_Machine_init) kV_Machine_init dc_Machine_init pm_Machine_init an_Machine_init cd_Machine_init ct_Machine_init), f_Machine_parts, (PySem.W.fnOf "parts" "Machine.parts" (defArgs s_Machine_parts) (defBody s_Machine_parts) (defScope s_Machine_parts) .none kV_Machine_parts dc_Machine_parts pm_Machine_parts an_Machine_parts cd_Machine_parts ct_Machine_parts), f_Machine_tally, (PySem.W.fnOf "tally" "Machine.tally" (defArgs s_Machine_tally) (defBody s_Machine_tally) (defScope s_Machine_tally) .none kV_Machine_tally dc_Machine_tally pm_Machine_tally an_Machine_tally cd_Machine_tally ct_Machine_tally), f_Machine_walk, (PySem.W.fnOf "walk" "Machine.walk" (defArgs s_Machine_walk) (defBody s_Machine_walk) (defScope s_Machine_walk) .none kV_Machine_walk dc_Machine_walk pm_Machine_walk an_Machine_walk cd_Machine_walk ct_Machine_walk), f_Machine_reset, (PySem.W.fnOf "reset" "Machine.reset" (defArgs s_Machine_reset) (defBody s_Machine_reset) (defScope s_Machine_reset) .none kV_Machine_reset dc_Machine_reset pm_Machine_reset an_Machine_reset cd_Machine_reset ct_Machine_reset), f_Machine_count, (PySem.W.fnOf "count" "Machine.count" (defArgs s_Machine_count) (defBody s_Machine_count) (defScope s_Machine_count) .none kV_Machine_count dc_Machine_count pm_Machine_count an_Machine_count cd_Machine_count ct_Machine_count), f_check_machine, (PySem.W.fnOf "check_machine" "check_machine" (defArgs s_check_machine) (defBody s_check_machine) (defScope s_check_machine) .none kV_check_machine dc_check_machine pm_check_machine an_check_machine cd_check_machine ct_check_machine), f_Big_init, (PySem.W.fnOf "__init__" "Big.__init__" (defArgs s_Big_init) (defBody s_Big_init) (defScope s_Big_init) .none kV_Big_init dc_Big_init pm_Big_init an_Big_init cd_Big_init ct_Big_init), f_made, (PySem.W.fnOf "made" "made" (defArgs s_made) (defBody s_made) (defScope s_made) .none kV_made dc_made pm_made an_made cd_made ct_made), f_digits_of, (PySem.W.fnOf "digits_of" "digits_of" (defArgs s_digits_of) (defBody s_digits_of) (defScope s_digits_of) .none kV_digits_of dc_digits_of pm_digits_of an_digits_of cd_digits_of ct_digits_of), f_big_of, (PySem.W.fnOf "big_of" "big_of" (defArgs s_big_of) (defBody s_big_of) (defScope s_big_of) .none kV_big_of dc_big_of pm_big_of an_big_of cd_big_of ct_big_of), f_value_of, (PySem.W.fnOf "value_of" "value_of" (defArgs s_value_of) (defBody s_value_of) (defScope s_value_of) .none kV_value_of dc_value_of pm_value_of an_value_of cd_value_of ct_value_of), f_check_big, (PySem.W.fnOf "check_big" "check_big" (defArgs s_check_big) (defBody s_check_big) (defScope s_check_big) .none kV_check_big dc_check_big pm_check_big an_check_big cd_check_big ct_check_big), f_check_bigs, (PySem.W.fnOf "check_bigs" "check_bigs" (defArgs s_check_bigs) (defBody s_check_bigs) (defScope s_check_bigs) .none kV_check_bigs dc_check_bigs pm_check_bigs an_check_bigs cd_check_bigs ct_check_bigs), f_big, (PySem.W.fnOf "big" "big" (defArgs s_big) (defBody s_big) (defScope s_big) .none kV_big dc_big pm_big an_big cd_big ct_big), f_first_bits, (PySem.W.fnOf "first_bits" "first_bits" (defArgs s_first_bits) (defBody s_first_bits) (defScope s_first_bits) .none kV_first_bits dc_first_bits pm_first_bits an_first_bits cd_first_bits ct_first_bits), f_step_of, (PySem.W.fnOf "step_of" "step_of" (defArgs s_step_of) (defBody s_step_of) (defScope s_step_of) .none kV_step_of dc_step_of pm_step_of an_step_of cd_step_of ct_step_of), f_lehmer_step, (PySem.W.fnOf "lehmer_step" "lehmer_step" (defArgs s_lehmer_step) (defBody s_lehmer_step) (defScope s_lehmer_step) .none kV_lehmer_step dc_lehmer_step pm_lehmer_step an_lehmer_step cd_lehmer_step ct_lehmer_step), f_law_mixed, (PySem.W.fnOf "_law_mixed" "_law_mixed" (defArgs s_law_mixed) (defBody s_law_mixed) (defScope s_law_mixed) .none kV_law_mixed dc_law_mixed pm_law_mixed an_law_mixed cd_law_mixed ct_law_mixed), f_law_source, (PySem.W.fnOf "_law_source" "_law_source" (defArgs s_law_source) (defBody s_law_source) (defScope s_law_source) .none kV_law_source dc_law_source pm_law_source an_law_source cd_law_source ct_law_source), f_law_draw, (PySem.W.fnOf "_law_draw" "_law_draw" (defArgs s_law_draw) (defBody s_law_draw) (defScope s_law_draw) .none kV_law_draw dc_law_draw pm_law_draw an_law_draw cd_law_draw ct_law_draw), f_law_one, (PySem.W.fnOf "_law_one" "_law_one" (defArgs s_law_one) (defBody s_law_one) (defScope s_law_one) .none kV_law_one dc_law_one pm_law_one an_law_one cd_law_one ct_law_one), f_law_engines, (PySem.W.fnOf "_law_engines" "_law_engines" (defArgs s_law_engines) (defBody s_law_engines) (defScope s_law_engines) .none kV_law_engines dc_law_engines pm_law_engines an_law_engines cd_law_engines ct_law_engines), f_law_count_of, (PySem.W.fnOf "_law_count_of" "_law_count_of" (defArgs s_law_count_of) (defBody s_law_count_of) (defScope s_law_count_of) .none kV_law_count_of dc_law_count_of pm_law_count_of an_law_count_of cd_law_count_of ct_law_count_of), f_law_number, (PySem.W.fnOf "_law_number" "_law_number" (defArgs s_law_number) (defBody s_law_number) (defScope s_law_number) .none kV_law_number dc_law_number pm_law_number an_law_number cd_law_number ct_law_number), f_law_size, (PySem.W.fnOf "_law_size" "_law_size" (defArgs s_law_size) (defBody s_law_size) (defScope s_law_size) .none kV_law_size dc_law_size pm_law_size an_law_size cd_law_size ct_law_size), f_law_fibs, (PySem.W.fnOf "_law_fibs" "_law_fibs" (defArgs s_law_fibs) (defBody s_law_fibs) (defScope s_law_fibs) .none kV_law_fibs dc_law_fibs pm_law_fibs an_law_fibs cd_law_fibs ct_law_fibs), f_law_step, (PySem.W.fnOf "_law_step" "_law_step" (defArgs s_law_step) (defBody s_law_step) (defScope s_law_step) .none kV_law_step dc_law_step pm_law_step an_law_step cd_law_step ct_law_step), f_law_pair, (PySem.W.fnOf "_law_pair" "_law_pair" (defArgs s_law_pair) (defBody s_law_pair) (defScope s_law_pair) .none kV_law_pair dc_law_pair pm_law_pair an_law_pair cd_law_pair ct_law_pair), f_law_facts_right, (PySem.W.fnOf "_law_facts_right" "_law_facts_right" (defArgs s_law_facts_right) (defBody s_law_facts_right) (defScope s_law_facts_right) .none kV_law_facts_right dc_law_facts_right pm_law_facts_right an_law_facts_right cd_law_facts_right ct_law_facts_right), f_law_right, (PySem.W.fnOf "_law_right" "_law_right" (defArgs s_law_right) (defBody s_law_right) (defScope s_law_right) .none kV_law_right dc_law_right pm_law_right an_law_right cd_law_right ct_law_right), f_law_said, (PySem.W.fnOf "_law_said" "_law_said" (defArgs s_law_said) (defBody s_law_said) (defScope s_law_said) .none kV_law_said dc_law_said pm_law_said an_law_said cd_law_said ct_law_said), f_law_deep, (PySem.W.fnOf "_law_deep" "_law_deep" (defArgs s_law_deep) (defBody s_law_deep) (defScope s_law_deep) .none kV_law_deep dc_law_deep pm_law_deep an_law_deep cd_law_deep ct_law_deep), f_law_refused_right, (PySem.W.fnOf "_law_refused_right" "_law_refused_right" (defArgs s_law_refused_right) (defBody s_law_refused_right) (defScope s_law_refused_right) .none kV_law_refused_right dc_law_refused_right pm_law_refused_right an_law_refused_right (.ref cc_law_refused_right) ct_law_refused_right), f_law, (PySem.W.fnOf "law" "law" (defArgs s_law) (defBody s_law) (defScope s_law) .none kV_law dc_law pm_law an_law cd_law ct_law), cc_law_refused_right⟩
  have xm : Pu.XM K c [1, 5] := fun j jc hj hc => by
    simp only [List.mem_cons, List.not_mem_nil, or_false] at hj hc
    rcases hj with rfl | rfl
    · rcases hc with rfl | rfl | rfl
      · exact PySem.W.exm_ref xe_BitsError xh_BitsError xy_BitsError xs_1_0
      · exact PySem.W.exm_ref xe_InvalidBound xh_InvalidBound xy_InvalidBound xs_1_1
      · exact PySem.W.exm_ref xe_InvalidMachine xh_InvalidMachine xy_InvalidMachine xs_1_5
    · rcases hc with rfl | rfl | rfl
      · exact PySem.W.exm_ref xe_BitsError xh_BitsError xy_BitsError xs_5_0
      · exact PySem.W.exm_ref xe_InvalidBound xh_InvalidBound xy_InvalidBound xs_5_1
      · exact PySem.W.exm_ref xe_InvalidMachine xh_InvalidMachine xy_InvalidMachine xs_5_5
  have cl_Machine : Cls K CMachine := ⟨pgMachine, hdMachine, poMachine, saMachine⟩
  have ic_Machine : C8.InsC K CMachine := ⟨cl_Machine, haMachine, hsp, htk, hmMachine, kit_self K CMachine⟩
  have cl_Big : Cls K CBig := ⟨pgBig, hdBig, poBig, saBig⟩
  have ic_Big : C8.InsC K CBig := ⟨cl_Big, haBig, hsp, htk, hmBig, kit_self K CBig⟩
  have pm : Eng.PM K c := ⟨ic_Machine, nfMachine_entered, nfMachine_counts, nfMachine_base, nfMachine_limit_of_rows, nfMachine_width, fun H => .inr ⟨_, itW, nW, l_WORDS, rfl, rfl, z_WORDS, v_WORDS⟩⟩
  have pb : Eng.PB K c := ⟨ic_Big, nfBig_row, nfBig_side, nfBig_width⟩
  have ns_Machine : Eng.NoSub K CMachine := nosub_mk icMachine tyMachine sbMachine_int sbMachine_list sbMachine_str sbMachine_NoneType sbMachine_bool sbMachine_tuple sbMachine_dict
  have it_Machine : ∀ b ∈ (["int", "list", "str", "bool", "tuple", "dict"] : List String), PySem.W.subIn K (.ref CMachine) (.type b) = some false := fun b hb => by
    simp only [List.mem_cons, List.not_mem_nil, or_false] at hb
    rcases hb with rfl | rfl | rfl | rfl | rfl | rfl <;> assumption
  have ns_Big : Eng.NoSub K CBig := nosub_mk icBig tyBig sbBig_int sbBig_list sbBig_str sbBig_NoneType sbBig_bool sbBig_tuple sbBig_dict
  have it_Big : ∀ b ∈ (["int", "list", "str", "bool", "tuple", "dict"] : List String), PySem.W.subIn K (.ref CBig) (.type b) = some false := fun b hb => by
    simp only [List.mem_cons, List.not_mem_nil, or_false] at hb
    rcases hb with rfl | rfl | rfl | rfl | rfl | rfl <;> assumption
  have T : Txt K mg a := {
      TS := rfl,
      ND := tnd,
      C_law_refused_right := ⟨_, _, _, _, _, _, _, _, rfl, l_law_refused_right, c_law_refused_right⟩,
      xb := ⟨xr_B, xg_B, xi_B⟩,
      gx_BitsError := PySem.W.mg_of X G xa_BitsError,
      XMf := xm,
      xf_InvalidBound := ⟨xga_InvalidBound, xgg_InvalidBound, xe_InvalidBound, xh_InvalidBound⟩,
      xn_InvalidBound := xn_InvalidBound,
      ax_InvalidBound := ⟨⟨_, _, _, _, _, _, _, _, _, _, _, _, _, _, _, _, xl_InvalidBound, by show (aeTail == aeTail) = true; exact beq_self_eq_true _⟩, xe_InvalidBound, xy_InvalidBound, xk_InvalidBound⟩,
      ai_InvalidBound := a_InvalidBound_init,
      at_InvalidBound := xt_InvalidBound,
      gx_InvalidBound := PySem.W.mg_of X G xa_InvalidBound,
      axf_InvalidBound := ⟨⟨⟨_, _, _, _, _, _, _, _, _, _, _, _, _, _, _, _, xl_InvalidBound, by show (aeTail == aeTail) = true; exact beq_self_eq_true _⟩, xe_InvalidBound, xy_InvalidBound, xk_InvalidBound⟩, xh_InvalidBound, xw_InvalidBound, xn_InvalidBound⟩,
      PM := pm,
      PB := pb,
      IS := ⟨ic_Machine, ic_Big, ns_Machine, ns_Big, cxne, cxMB, cxBM, it_Machine, it_Big⟩,
      g_Machine := PySem.W.mg_of X G aMachine,
      cl_Machine := cl_Machine,
      mk_Machine := ⟨mkMachine, a_Machine_init, i_Machine_init, kcMachine⟩,
      g_Big := PySem.W.mg_of X G aBig,
      cl_Big := cl_Big,
      mk_Big := ⟨mkBig, a_Big_init, i_Big_init, kcBig⟩,
      g_FEW_DIGITS := ⟨_, PySem.W.mg_of X G g_FEW_DIGITS, ⟨_, rfl⟩⟩,
      g_LEAST_BITS := ⟨_, PySem.W.mg_of X G g_LEAST_BITS, ⟨_, rfl⟩⟩,
      g_MOST_BITS := ⟨_, PySem.W.mg_of X G g_MOST_BITS, ⟨_, rfl⟩⟩,
      g_MOST_CUTOFF := ⟨_, PySem.W.mg_of X G g_MOST_CUTOFF, ⟨_, rfl⟩⟩,
      g_WORDS := PySem.W.mg_of X G g_WORDS,
      F_InvalidBound_init := F_InvalidBound_init,
      b_InvalidBound_init := b_InvalidBound_init,
      F_is_integer := F_is_integer,
      m_is_integer := PySem.W.mg_of X G a_is_integer,
      b_is_integer := b_is_integer,
      F_is_between := F_is_between,
      m_is_between := PySem.W.mg_of X G a_is_between,
      b_is_between := b_is_between,
      F_check_integer := F_check_integer,
      m_check_integer := PySem.W.mg_of X G a_check_integer,
      b_check_integer := b_check_integer,
      F_Machine_init := F_Machine_init,
      b_Machine_init := b_Machine_init,
      F_Machine_parts := F_Machine_parts,
      me_Machine_parts := ⟨a_Machine_parts, i_Machine_parts, k_Machine_parts⟩,
      b_Machine_parts := b_Machine_parts,
      F_Machine_tally := F_Machine_tally,
      me_Machine_tally := ⟨a_Machine_tally, i_Machine_tally, k_Machine_tally⟩,
      b_Machine_tally := b_Machine_tally,
      F_Machine_walk := F_Machine_walk,
      me_Machine_walk := ⟨a_Machine_walk, i_Machine_walk, k_Machine_walk⟩,
      b_Machine_walk := b_Machine_walk,
      F_Machine_reset := F_Machine_reset,
      me_Machine_reset := ⟨a_Machine_reset, i_Machine_reset, k_Machine_reset⟩,
      b_Machine_reset := b_Machine_reset,
      F_Machine_count := F_Machine_count,
      me_Machine_count := ⟨a_Machine_count, i_Machine_count, k_Machine_count⟩,
      b_Machine_count := b_Machine_count,
      F_check_machine := F_check_machine,
      m_check_machine := PySem.W.mg_of X G a_check_machine,
      b_check_machine := b_check_machine,
      F_Big_init := F_Big_init,
      b_Big_init := b_Big_init,
      F_made := F_made,
      m_made := PySem.W.mg_of X G a_made,
      b_made := b_made,
      F_digits_of := F_digits_of,
      m_digits_of := PySem.W.mg_of X G a_digits_of,
      b_digits_of := b_digits_of,
      F_big_of := F_big_of,
      m_big_of := PySem.W.mg_of X G a_big_of,
      b_big_of := b_big_of,
      F_value_of := F_value_of,
      m_value_of := PySem.W.mg_of X G a_value_of,
      b_value_of := b_value_of,
      F_check_big := F_check_big,
      m_check_big := PySem.W.mg_of X G a_check_big,
      b_check_big := b_check_big,
      F_check_bigs := F_check_bigs,
      m_check_bigs := PySem.W.mg_of X G a_check_bigs,
      b_check_bigs := b_check_bigs,
      F_big := F_big,
      m_big := PySem.W.mg_of X G a_big,
      b_big := b_big,
      F_first_bits := F_first_bits,
      m_first_bits := PySem.W.mg_of X G a_first_bits,
      b_first_bits := b_first_bits,
      F_step_of := F_step_of,
      m_step_of := PySem.W.mg_of X G a_step_of,
      b_step_of := b_step_of,
      F_lehmer_step := F_lehmer_step,
      m_lehmer_step := PySem.W.mg_of X G a_lehmer_step,
      b_lehmer_step := b_lehmer_step,
      F_law_mixed := F_law_mixed,
      m_law_mixed := PySem.W.mg_of X G a_law_mixed,
      b_law_mixed := b_law_mixed,
      F_law_source := F_law_source,
      m_law_source := PySem.W.mg_of X G a_law_source,
      b_law_source := b_law_source,
      F_law_draw := F_law_draw,
      m_law_draw := PySem.W.mg_of X G a_law_draw,
      b_law_draw := b_law_draw,
      F_law_one := F_law_one,
      m_law_one := PySem.W.mg_of X G a_law_one,
      b_law_one := b_law_one,
      F_law_engines := F_law_engines,
      m_law_engines := PySem.W.mg_of X G a_law_engines,
      b_law_engines := b_law_engines,
      F_law_count_of := F_law_count_of,
      m_law_count_of := PySem.W.mg_of X G a_law_count_of,
      b_law_count_of := b_law_count_of,
      F_law_number := F_law_number,
      m_law_number := PySem.W.mg_of X G a_law_number,
      b_law_number := b_law_number,
      F_law_size := F_law_size,
      m_law_size := PySem.W.mg_of X G a_law_size,
      b_law_size := b_law_size,
      F_law_fibs := F_law_fibs,
      m_law_fibs := PySem.W.mg_of X G a_law_fibs,
      b_law_fibs := b_law_fibs,
      F_law_step := F_law_step,
      m_law_step := PySem.W.mg_of X G a_law_step,
      b_law_step := b_law_step,
      F_law_pair := F_law_pair,
      m_law_pair := PySem.W.mg_of X G a_law_pair,
      b_law_pair := b_law_pair,
      F_law_facts_right := F_law_facts_right,
      m_law_facts_right := PySem.W.mg_of X G a_law_facts_right,
      b_law_facts_right := b_law_facts_right,
      F_law_right := F_law_right,
      m_law_right := PySem.W.mg_of X G a_law_right,
      b_law_right := b_law_right,
      F_law_said := F_law_said,
      m_law_said := PySem.W.mg_of X G a_law_said,
      b_law_said := b_law_said,
      F_law_deep := F_law_deep,
      m_law_deep := PySem.W.mg_of X G a_law_deep,
      b_law_deep := b_law_deep,
      F_law_refused_right := F_law_refused_right,
      m_law_refused_right := PySem.W.mg_of X G a_law_refused_right,
      b_law_refused_right := b_law_refused_right,
      F_law := F_law,
      m_law := PySem.W.mg_of X G a_law,
      b_law := b_law,
      kb_lehmer_step_y_x_machine := kb_lehmer_step_y_x_machine,
      n_abs := PySem.W.mg_none_of X G z_abs,
      n_bool := PySem.W.mg_none_of X G z_bool,
      n_dict := PySem.W.mg_none_of X G z_dict,
      n_int := PySem.W.mg_none_of X G z_int,
      n_isinstance := PySem.W.mg_none_of X G z_isinstance,
      n_len := PySem.W.mg_none_of X G z_len,
      n_list := PySem.W.mg_none_of X G z_list,
      n_max := PySem.W.mg_none_of X G z_max,
      n_range := PySem.W.mg_none_of X G z_range,
      n_tuple := PySem.W.mg_none_of X G z_tuple }
  have cases_ : ∀ {Z : Addr × Addr → Prop}, Z (cc_law_refused_right, pp_law_refused_right) → ∀ p ∈ [(cc_law_refused_right, pp_law_refused_right)], Z p := fun z0 p hp => by
    simp only [List.mem_cons, List.not_mem_nil, or_false] at hp
    rcases hp with rfl
    · exact z0
  have casesT : ∀ {Z : Addr × Str → Prop}, Z (pp_law_refused_right, lamQ "_law_refused_right") → ∀ p ∈ c.ts, Z p := fun z0 p hp => by
    simp only [c, List.mem_cons, List.not_mem_nil, or_false] at hp
    rcases hp with rfl
    · exact z0
  refine ⟨_, [(cc_law_refused_right, pp_law_refused_right)], sp_k54_law K c, cases_ th_law_refused_right, cases_ cn_law_refused_right, cases_ (PySem.W.codeHd_of_K X ch_law_refused_right), fun s v => .of_eq rfl, fun H a ns hl _ hH hS => ⟨casesT (hH _ List.mem_cons_self), a, ns, rfl, hS, hl, fun _ => rfl⟩, fun base _ _ TB => ok_law (a := a) T ⟨TB _ List.mem_cons_self⟩⟩
theorem walk {l : PySem.W.OpenLaw} {q : Program} {loose : List Str} {XP : (Str → Option Value) → Heap → Prop} {YP : World → Heap → Prop} {d : DefRec} (hn : l.most = some 63) (hdf : d.params.defaults = [])
    (F : ∀ (w : World) (mg : Str → Option Value) (fa : Addr) (h : Heap), YP w h → h.Ns mainGlobals mg → mg d.name = some (.ref fa) → ∃ K : PySem.W.Frag, K.In h ∧ LamX.LawAtS l w K CX0 9 63 "_law_script" mg fa h) :
    PySem.W.WalkO q loose XP YP l.row.toRowW d [] (fun f vs => PySem.call f vs) :=
  LamX.walk_ofTsE (n := 63) (k := 9) (x := "_law_script") (CX := fun _ => CX0) hn (by decide) hdf ⟨rfl, by decide, by decide⟩ F fun _ _ _ _ _ z => z
end Law
open PySem PySem.W PyProof.Rows
set_option maxRecDepth 100000 in
set_option maxHeartbeats 0 in
theorem PySem.Challenge.cw_thirtybits_k54_whole_steps_of_lehmer_holds : PySem.Challenge.rw_thirtybits_k54_whole_steps_of_lehmer.Holds := by
  w_on; o_law; k_head; (case hw => w_witness2)
  k_fill
  refine Law.walk (l := PySem.Challenge.rw_thirtybits_k54_whole_steps_of_lehmer) rfl rfl ?F
  case F =>
    intro w mg fa h Y G hmg
    have KX := PySem.W.km_in_of Y
    refine ⟨_, KX, ?_⟩
    refine' Law.all_mk KX G hmg ?aMachine ?pgMachine ?hdMachine ?poMachine ?saMachine ?mkMachine ?kcMachine ?haMachine ?hmMachine ?nfMachine_entered ?nfMachine_counts ?nfMachine_base ?nfMachine_limit_of_rows ?nfMachine_width ?aBig ?pgBig ?hdBig ?poBig ?saBig ?mkBig ?kcBig ?haBig ?hmBig ?nfBig_row ?nfBig_side ?nfBig_width ?xa_BitsError ?xa_InvalidBound ?xa_InvalidMachine ?xr_B ?xg_B ?xi_B ?xe_BitsError ?xy_BitsError ?xh_BitsError ?xe_InvalidBound ?xy_InvalidBound ?xh_InvalidBound ?xe_InvalidMachine ?xy_InvalidMachine ?xh_InvalidMachine ?xl_InvalidBound ?xk_InvalidBound ?xw_InvalidBound ?xn_InvalidBound ?xga_InvalidBound ?xgg_InvalidBound ?xs_1_0 ?xs_1_1 ?xs_1_5 ?xs_5_0 ?xs_5_1 ?xs_5_5 ?hsp ?htk ?g_FEW_DIGITS ?g_LEAST_BITS ?g_MOST_BITS ?g_MOST_CUTOFF ?g_WORDS ?l_WORDS ?z_WORDS ?v_WORDS ?a_InvalidBound_init ?i_InvalidBound_init ?l_InvalidBound_init ?c_InvalidBound_init ?k_InvalidBound_init ?a_is_integer ?l_is_integer ?c_is_integer ?k_is_integer ?a_is_between ?l_is_between ?c_is_between ?k_is_between ?a_check_integer ?l_check_integer ?c_check_integer ?k_check_integer ?a_Machine_init ?i_Machine_init ?l_Machine_init ?c_Machine_init ?k_Machine_init ?lT_Machine_init ?vT_Machine_init ?a_Machine_parts ?i_Machine_parts ?l_Machine_parts ?c_Machine_parts ?k_Machine_parts ?a_Machine_tally ?i_Machine_tally ?l_Machine_tally ?c_Machine_tally ?k_Machine_tally ?a_Machine_walk ?i_Machine_walk ?l_Machine_walk ?c_Machine_walk ?k_Machine_walk ?a_Machine_reset ?i_Machine_reset ?l_Machine_reset ?c_Machine_reset ?k_Machine_reset ?a_Machine_count ?i_Machine_count ?l_Machine_count ?c_Machine_count ?k_Machine_count ?a_check_machine ?l_check_machine ?c_check_machine ?k_check_machine ?a_Big_init ?i_Big_init ?l_Big_init ?c_Big_init ?k_Big_init ?a_made ?l_made ?c_made ?k_made ?a_digits_of ?l_digits_of ?c_digits_of ?k_digits_of ?a_big_of ?l_big_of ?c_big_of ?k_big_of ?a_value_of ?l_value_of ?c_value_of ?k_value_of ?a_check_big ?l_check_big ?c_check_big ?k_check_big ?a_check_bigs ?l_check_bigs ?c_check_bigs ?k_check_bigs ?a_big ?l_big ?c_big ?k_big ?a_first_bits ?l_first_bits ?c_first_bits ?k_first_bits ?a_step_of ?l_step_of ?c_step_of ?k_step_of ?a_lehmer_step ?l_lehmer_step ?c_lehmer_step ?k_lehmer_step ?a_law_mixed ?l_law_mixed ?c_law_mixed ?k_law_mixed ?a_law_source ?l_law_source ?c_law_source ?k_law_source ?a_law_draw ?l_law_draw ?c_law_draw ?k_law_draw ?a_law_one ?l_law_one ?c_law_one ?k_law_one ?a_law_engines ?l_law_engines ?c_law_engines ?k_law_engines ?a_law_count_of ?l_law_count_of ?c_law_count_of ?k_law_count_of ?a_law_number ?l_law_number ?c_law_number ?k_law_number ?a_law_size ?l_law_size ?c_law_size ?k_law_size ?a_law_fibs ?l_law_fibs ?c_law_fibs ?k_law_fibs ?a_law_step ?l_law_step ?c_law_step ?k_law_step ?a_law_pair ?l_law_pair ?c_law_pair ?k_law_pair ?a_law_facts_right ?l_law_facts_right ?c_law_facts_right ?k_law_facts_right ?a_law_right ?l_law_right ?c_law_right ?k_law_right ?a_law_said ?l_law_said ?c_law_said ?k_law_said ?a_law_deep ?l_law_deep ?c_law_deep ?k_law_deep ?a_law_refused_right ?l_law_refused_right ?c_law_refused_right ?k_law_refused_right ?ce_law_refused_right ?cl_law_refused_right ?cp_law_refused_right ?ch_law_refused_right ?cn_law_refused_right ?th_law_refused_right ?a_law ?l_law ?c_law ?k_law ?icMachine ?tyMachine ?sbMachine_int ?sbMachine_list ?sbMachine_str ?sbMachine_NoneType ?sbMachine_bool ?sbMachine_tuple ?sbMachine_dict ?icBig ?tyBig ?sbBig_int ?sbBig_list ?sbBig_str ?sbBig_NoneType ?sbBig_bool ?sbBig_tuple ?sbBig_dict ?cxne ?cxMB ?cxBM ?cxMachine_int ?cxMachine_list ?cxMachine_str ?cxMachine_bool ?cxMachine_tuple ?cxMachine_dict ?cxBig_int ?cxBig_list ?cxBig_str ?cxBig_bool ?cxBig_tuple ?cxBig_dict ?xt_InvalidBound ?z_abs ?z_bool ?z_dict ?z_int ?z_isinstance ?z_len ?z_list ?z_max ?z_range ?z_tuple ?tnd
    (case aMachine => k_is)
    (case pgMachine => k_is)
    (case hdMachine => k_is)
    (case poMachine => k_is)
    (case saMachine => k_is)
    (case mkMachine => k_is)
    (case kcMachine => k_is)
    (case haMachine => k_is)
    (case hmMachine => k_is)
    (case nfMachine_entered => k_is)
    (case nfMachine_counts => k_is)
    (case nfMachine_base => k_is)
    (case nfMachine_limit_of_rows => k_is)
    (case nfMachine_width => k_is)
    (case aBig => k_is)
    (case pgBig => k_is)
    (case hdBig => k_is)
    (case poBig => k_is)
    (case saBig => k_is)
    (case mkBig => k_is)
    (case kcBig => k_is)
    (case haBig => k_is)
    (case hmBig => k_is)
    (case nfBig_row => k_is)
    (case nfBig_side => k_is)
    (case nfBig_width => k_is)
    (case xa_BitsError => k_is)
    (case xa_InvalidBound => k_is)
    (case xa_InvalidMachine => k_is)
    (case xr_B => k_is)
    (case xg_B => k_is)
    (case xi_B => k_is)
    (case xe_BitsError => k_is)
    (case xy_BitsError => k_is)
    (case xh_BitsError => k_is)
    (case xe_InvalidBound => k_is)
    (case xy_InvalidBound => k_is)
    (case xh_InvalidBound => k_is)
    (case xe_InvalidMachine => k_is)
    (case xy_InvalidMachine => k_is)
    (case xh_InvalidMachine => k_is)
    (case xl_InvalidBound => k_is)
    (case xk_InvalidBound => k_is)
    (case xw_InvalidBound => k_is)
    (case xn_InvalidBound => k_is)
    (case xga_InvalidBound => k_is)
    (case xgg_InvalidBound => k_is)
    (case xs_1_0 => first | rfl | k_is)
    (case xs_1_1 => first | rfl | k_is)
    (case xs_1_5 => first | rfl | k_is)
    (case xs_5_0 => first | rfl | k_is)
    (case xs_5_1 => first | rfl | k_is)
    (case xs_5_5 => first | rfl | k_is)
    (case hsp => k_is)
    (case htk => k_is)
    (case g_FEW_DIGITS => k_is)
    (case g_LEAST_BITS => k_is)
    (case g_MOST_BITS => k_is)
    (case g_MOST_CUTOFF => k_is)
    (case g_WORDS => k_is)
    (case l_WORDS => k_is)
    (case z_WORDS => decide)
    (case v_WORDS => exact .cons ⟨_, rfl⟩ (.cons ⟨_, rfl⟩ (.cons ⟨_, rfl⟩ (.cons ⟨_, rfl⟩ (.cons ⟨_, rfl⟩ (.cons ⟨_, rfl⟩ (.cons ⟨_, rfl⟩ (.cons ⟨_, rfl⟩ (.cons ⟨_, rfl⟩ (.cons ⟨_, rfl⟩ .nil))))))))))
    (case a_InvalidBound_init => k_is)
    (case i_InvalidBound_init => k_is)
    (case l_InvalidBound_init => k_is)
    (case c_InvalidBound_init => k_is)
    (case k_InvalidBound_init => k_is)
    (case a_is_integer => k_is)
    (case l_is_integer => k_is)
    (case c_is_integer => k_is)
    (case k_is_integer => k_is)
    (case a_is_between => k_is)
    (case l_is_between => k_is)
    (case c_is_between => k_is)
    (case k_is_between => k_is)
    (case a_check_integer => k_is)
    (case l_check_integer => k_is)
    (case c_check_integer => k_is)
    (case k_check_integer => k_is)
    (case a_Machine_init => k_is)
    (case i_Machine_init => k_is)
    (case l_Machine_init => k_is)
    (case c_Machine_init => k_is)
    (case k_Machine_init => k_is)
    (case lT_Machine_init => k_is)
    (case vT_Machine_init => exact (.cons ⟨_, rfl⟩ (.cons ⟨_, rfl⟩ .nil)))
    (case a_Machine_parts => k_is)
    (case i_Machine_parts => k_is)
    (case l_Machine_parts => k_is)
    (case c_Machine_parts => k_is)
    (case k_Machine_parts => k_is)
    (case a_Machine_tally => k_is)
    (case i_Machine_tally => k_is)
    (case l_Machine_tally => k_is)
    (case c_Machine_tally => k_is)
    (case k_Machine_tally => k_is)
    (case a_Machine_walk => k_is)
    (case i_Machine_walk => k_is)
    (case l_Machine_walk => k_is)
    (case c_Machine_walk => k_is)
    (case k_Machine_walk => k_is)
    (case a_Machine_reset => k_is)
    (case i_Machine_reset => k_is)
    (case l_Machine_reset => k_is)
    (case c_Machine_reset => k_is)
    (case k_Machine_reset => k_is)
    (case a_Machine_count => k_is)
    (case i_Machine_count => k_is)
    (case l_Machine_count => k_is)
    (case c_Machine_count => k_is)
    (case k_Machine_count => k_is)
    (case a_check_machine => k_is)
    (case l_check_machine => k_is)
    (case c_check_machine => k_is)
    (case k_check_machine => k_is)
    (case a_Big_init => k_is)
    (case i_Big_init => k_is)
    (case l_Big_init => k_is)
    (case c_Big_init => k_is)
    (case k_Big_init => k_is)
    (case a_made => k_is)
    (case l_made => k_is)
    (case c_made => k_is)
    (case k_made => k_is)
    (case a_digits_of => k_is)
    (case l_digits_of => k_is)
    (case c_digits_of => k_is)
    (case k_digits_of => k_is)
    (case a_big_of => k_is)
    (case l_big_of => k_is)
    (case c_big_of => k_is)
    (case k_big_of => k_is)
    (case a_value_of => k_is)
    (case l_value_of => k_is)
    (case c_value_of => k_is)
    (case k_value_of => k_is)
    (case a_check_big => k_is)
    (case l_check_big => k_is)
    (case c_check_big => k_is)
    (case k_check_big => k_is)
    (case a_check_bigs => k_is)
    (case l_check_bigs => k_is)
    (case c_check_bigs => k_is)
    (case k_check_bigs => k_is)
    (case a_big => k_is)
    (case l_big => k_is)
    (case c_big => k_is)
    (case k_big => k_is)
    (case a_first_bits => k_is)
    (case l_first_bits => k_is)
    (case c_first_bits => k_is)
    (case k_first_bits => k_is)
    (case a_step_of => k_is)
    (case l_step_of => k_is)
    (case c_step_of => k_is)
    (case k_step_of => k_is)
    (case a_lehmer_step => k_is)
    (case l_lehmer_step => k_is)
    (case c_lehmer_step => k_is)
    (case k_lehmer_step => k_is)
    (case a_law_mixed => k_is)
    (case l_law_mixed => k_is)
    (case c_law_mixed => k_is)
    (case k_law_mixed => k_is)
    (case a_law_source => k_is)
    (case l_law_source => k_is)
    (case c_law_source => k_is)
    (case k_law_source => k_is)
    (case a_law_draw => k_is)
    (case l_law_draw => k_is)
    (case c_law_draw => k_is)
    (case k_law_draw => k_is)
    (case a_law_one => k_is)
    (case l_law_one => k_is)
    (case c_law_one => k_is)
    (case k_law_one => k_is)
    (case a_law_engines => k_is)
    (case l_law_engines => k_is)
    (case c_law_engines => k_is)
    (case k_law_engines => k_is)
    (case a_law_count_of => k_is)
    (case l_law_count_of => k_is)
    (case c_law_count_of => k_is)
    (case k_law_count_of => k_is)
    (case a_law_number => k_is)
    (case l_law_number => k_is)
    (case c_law_number => k_is)
    (case k_law_number => k_is)
    (case a_law_size => k_is)
    (case l_law_size => k_is)
    (case c_law_size => k_is)
    (case k_law_size => k_is)
    (case a_law_fibs => k_is)
    (case l_law_fibs => k_is)
    (case c_law_fibs => k_is)
    (case k_law_fibs => k_is)
    (case a_law_step => k_is)
    (case l_law_step => k_is)
    (case c_law_step => k_is)
    (case k_law_step => k_is)
    (case a_law_pair => k_is)
    (case l_law_pair => k_is)
    (case c_law_pair => k_is)
    (case k_law_pair => k_is)
    (case a_law_facts_right => k_is)
    (case l_law_facts_right => k_is)
    (case c_law_facts_right => k_is)
    (case k_law_facts_right => k_is)
    (case a_law_right => k_is)
    (case l_law_right => k_is)
    (case c_law_right => k_is)
    (case k_law_right => k_is)
    (case a_law_said => k_is)
    (case l_law_said => k_is)
    (case c_law_said => k_is)
    (case k_law_said => k_is)
    (case a_law_deep => k_is)
    (case l_law_deep => k_is)
    (case c_law_deep => k_is)
    (case k_law_deep => k_is)
    (case a_law_refused_right => k_is)
    (case l_law_refused_right => k_is)
    (case c_law_refused_right => k_is)
    (case k_law_refused_right => k_is)
    (case ce_law_refused_right => exact rfl)
    (case cl_law_refused_right => k_is)
    (case cp_law_refused_right => exact rfl)
    (case ch_law_refused_right => first | exact rfl | decide +kernel)
    (case cn_law_refused_right => first | exact rfl | decide +kernel)
    (case th_law_refused_right => exact PySem.W.km_tabs_of Y _ (by decide))
    (case a_law => k_is)
    (case l_law => k_is)
    (case c_law => k_is)
    (case k_law => k_is)
    (case icMachine => k_is)
    (case tyMachine => k_is)
    (case sbMachine_int => k_is)
    (case sbMachine_list => k_is)
    (case sbMachine_str => k_is)
    (case sbMachine_NoneType => k_is)
    (case sbMachine_bool => k_is)
    (case sbMachine_tuple => k_is)
    (case sbMachine_dict => k_is)
    (case icBig => k_is)
    (case tyBig => k_is)
    (case sbBig_int => k_is)
    (case sbBig_list => k_is)
    (case sbBig_str => k_is)
    (case sbBig_NoneType => k_is)
    (case sbBig_bool => k_is)
    (case sbBig_tuple => k_is)
    (case sbBig_dict => k_is)
    (case cxne => decide)
    (case cxMB => k_is)
    (case cxBM => k_is)
    (case cxMachine_int => k_is)
    (case cxMachine_list => k_is)
    (case cxMachine_str => k_is)
    (case cxMachine_bool => k_is)
    (case cxMachine_tuple => k_is)
    (case cxMachine_dict => k_is)
    (case cxBig_int => k_is)
    (case cxBig_list => k_is)
    (case cxBig_str => k_is)
    (case cxBig_bool => k_is)
    (case cxBig_tuple => k_is)
    (case cxBig_dict => k_is)
    (case xt_InvalidBound => k_is)
    (case z_abs => k_is)
    (case z_bool => k_is)
    (case z_dict => k_is)
    (case z_int => k_is)
    (case z_isinstance => k_is)
    (case z_len => k_is)
    (case z_list => k_is)
    (case z_max => k_is)
    (case z_range => k_is)
    (case z_tuple => k_is)
    (case tnd => decide)
