import PyProof.Rows.All
import Wide.All
import OpenK.AllK
import Wide.FinOn
import HandS.ForMost
import HandS.WideBits
import HandS.Style
import HandS.Defaults
import HandS.IsInst
import HandS.Codes
import HandS.Evl
import HandS.Flow
import HandS.OwnEq
import KE.IntBitsLaws
import PyProof.Rows.RuleB_pow
import PyProof.InstNe
import KE.GoesMore
import KE.GoesEnum
import HandS.Iter
import HandS.DictComp
import HandS.Lambda
import HandS.HeadWalk
import HandS.Small
import KE.KDflt
import HandS.ExcInit
import HandS.ExcOwn
import HandS.TryOnly
import HandS.WordsExc
import HandS.ClsMeth
import HandS.TryMany
import HandS.ExcField
import HandS.ExcIs
import KE.KExcInit
import HandS.CallLocal
import HandS.More
import HandS.TupAny
import KE.KEqNest
import PyProof.NeKinds
import HandS.NoneIn
import HandS.MakeKwOnly
import PySem.Challenge.RW_thirtybits_k04_machines
set_option Elab.async false
set_option linter.all false
set_option maxRecDepth 100000
set_option maxHeartbeats 4000000
namespace Eng
open PySem L2
/-- H0 the heap at the entry, H now; M: what of H0 may change; L: what is known, each place once -/
structure Wd (H0 H : Hp) (M : List Addr) (L : List (Addr × HO)) : Prop where
  get : ∀ {a : Addr} {o : HO}, (a, o) ∈ L → H a = some o
  nd : (L.map (·.1)).Nodup
  keep : ∀ b o, H0 b = some o → b ∉ M → H b = some o
  sub : ∀ a ∈ M, a ∈ L.map (·.1)
/-- L' is L with the thing at a turned from o to u -/
inductive Rp (a : Addr) (o u : HO) : List (Addr × HO) → List (Addr × HO) → Prop where
  | here {L} : Rp a o u ((a, o) :: L) ((a, u) :: L)
  | there {q L L'} : Rp a o u L L' → Rp a o u (q :: L) (q :: L')
theorem Rp.app {a : Addr} {o u : HO} {L L' : List (Addr × HO)} (r : Rp a o u L L') : ∀ {N : List (Addr × HO)}, Rp a o u (N ++ L) (N ++ L')
  | [] => r
  | _ :: _ => .there r.app
theorem Rp.mem {a : Addr} {o u : HO} : ∀ {L L' : List (Addr × HO)}, Rp a o u L L' → (a, o) ∈ L
  | _, _, .here => List.mem_cons_self
  | _, _, .there r => List.mem_cons_of_mem _ r.mem
theorem Rp.keys {a : Addr} {o u : HO} : ∀ {L L' : List (Addr × HO)}, Rp a o u L L' → L'.map (·.1) = L.map (·.1)
  | _, _, .here => rfl
  | _, _, .there (q := q) (L := L) (L' := L') r => by
    show q.1 :: L'.map (·.1) = q.1 :: L.map (·.1)
    rw [r.keys]
theorem Rp.get {a : Addr} {o u : HO} : ∀ {L L' : List (Addr × HO)}, Rp a o u L L' → (L.map (·.1)).Nodup → ∀ {b : Addr} {v : HO}, (b, v) ∈ L' → (b = a ∧ v = u) ∨ (b ≠ a ∧ (b, v) ∈ L)
  | _, _, .here (L := L), hn, b, v, hm => by
    rcases List.mem_cons.mp hm with e | hm
    · cases e
      exact .inl ⟨rfl, rfl⟩
    · refine .inr ⟨fun e => ?_, List.mem_cons_of_mem _ hm⟩
      have h1 : a ∉ L.map (·.1) := (List.nodup_cons.mp (show (a :: L.map (·.1)).Nodup from hn)).1
      exact h1 (e ▸ List.mem_map.mpr ⟨(b, v), hm, rfl⟩)
  | _, _, .there (q := q) (L := L) (L' := L') r, hn, b, v, hm => by
    have hq := List.nodup_cons.mp (show (q.1 :: L.map (·.1)).Nodup from hn)
    rcases List.mem_cons.mp hm with e | hm
    · refine .inr ⟨fun e2 => ?_, by rw [← e]; exact List.mem_cons_self⟩
      have h2 : q.1 = a := by rw [← e]; exact e2
      exact hq.1 (h2 ▸ List.mem_map.mpr ⟨(a, o), r.mem, rfl⟩)
    · rcases r.get hq.2 hm with z | ⟨z1, z2⟩
      · exact .inl z
      · exact .inr ⟨z1, List.mem_cons_of_mem _ z2⟩
section
variable {H0 H H' : Hp} {M : List Addr} {L L' : List (Addr × HO)} {a p : Addr} {o u : HO}
theorem Wd.start (h : ∀ {a : Addr} {o : HO}, (a, o) ∈ L → H a = some o) (nd : (L.map (·.1)).Nodup) (sub : ∀ a ∈ M, a ∈ L.map (·.1)) : Wd H H M L := ⟨h, nd, fun _ _ e _ => e, sub⟩
theorem Wd.nil (H : Hp) : Wd H H [] [] := ⟨(fun h => nomatch h), List.nodup_nil, fun _ _ e _ => e, (fun _ h => nomatch h)⟩
/-- a further thing that stands in the entry's heap -/
theorem Wd.old (W : Wd H0 H M L) (h : H a = some o) (ha : a ∉ L.map (·.1)) : Wd H0 H M ((a, o) :: L) where
  get := fun hm => by
    rcases List.mem_cons.mp hm with e | hm
    · cases e; exact h
    · exact W.get hm
  nd := List.nodup_cons.mpr ⟨ha, W.nd⟩
  keep := W.keep
  sub := fun a h => List.mem_cons_of_mem _ (W.sub a h)
theorem Wd.one (h : H a = some o) : Wd H H [] [(a, o)] := (Wd.nil H).old h (fun z => nomatch z)
theorem Wd.may (W : Wd H0 H M L) (h : a ∈ L.map (·.1)) : Wd H0 H (a :: M) L where
  get := W.get
  nd := W.nd
  keep := fun b o e hb => W.keep b o e fun z => hb (List.mem_cons_of_mem _ z)
  sub := fun b hb => by
    rcases List.mem_cons.mp hb with e | hb
    · rw [e]; exact h
    · exact W.sub b hb
theorem Wd.there (W : Wd H0 H M L) (h : p ∈ L.map (·.1)) : ∃ o, H p = some o := by
  obtain ⟨⟨b, v⟩, hm, rfl⟩ := List.mem_map.mp h
  exact ⟨v, W.get hm⟩
theorem Wd.out (W : Wd H0 H M L) (h : H p = none) : p ∉ L.map (·.1) := fun z => by
  obtain ⟨o, e⟩ := W.there z
  rw [h] at e
  cases e
theorem Wd.fresh (W : Wd H0 H M L) (h : H p = none) : H0 p = none := by
  cases e : H0 p with
  | none => rfl
  | some o =>
    by_cases hm : p ∈ M
    · exact absurd (W.sub p hm) (W.out h)
    · rw [W.keep p o e hm] at h
      cases h
theorem Wd.new (W : Wd H0 H M L) (h : H p = none) : Wd H0 (upd H p o) M ((p, o) :: L) where
  get := fun {a v} hm => by
    rcases List.mem_cons.mp hm with e | hm
    · cases e; exact upd_same
    · rw [upd_ne (ne_of_none (W.get hm) h)]
      exact W.get hm
  nd := List.nodup_cons.mpr ⟨W.out h, W.nd⟩
  keep := fun b v e hb => by
    rw [upd_ne (ne_of_none (W.keep b v e hb) h)]
    exact W.keep b v e hb
  sub := fun a h => List.mem_cons_of_mem _ (W.sub a h)
theorem Wd.put (W : Wd H0 H M L) (r : Rp a o u L L') (h : H0 a = none ∨ a ∈ M) : Wd H0 (upd H a u) M L' where
  get := fun {b v} hm => by
    rcases r.get W.nd hm with ⟨e1, e2⟩ | ⟨e1, e2⟩
    · rw [e1, e2]; exact upd_same
    · rw [upd_ne e1]; exact W.get e2
  nd := by rw [r.keys]; exact W.nd
  keep := fun b v e hb => by
    have ne : b ≠ a := fun z => by
      subst z
      rcases h with h | h
      · rw [h] at e; cases e
      · exact hb h
    rw [upd_ne ne]
    exact W.keep b v e hb
  sub := fun b hb => by rw [r.keys]; exact W.sub b hb
theorem Wd.same (W : Wd H0 H M L) (s : Same H H') : Wd H0 H' M L := ⟨fun hm => s _ _ (W.get hm), W.nd, fun b o e hb => s _ _ (W.keep b o e hb), W.sub⟩
/-- a shorter list -/
theorem Wd.drop (W : Wd H0 H [] L) (hs : L'.Sublist L) : Wd H0 H [] L' := ⟨fun hm => W.get (hs.subset hm), (hs.map _).nodup W.nd, W.keep, (fun _ h => nomatch h)⟩
theorem Wd.drop1 {q : Addr × HO} (W : Wd H0 H M (q :: L)) (h : q.1 ∉ M) : Wd H0 H M L := ⟨fun hm => W.get (List.mem_cons_of_mem _ hm), (List.nodup_cons.mp (show (q.1 :: L.map (·.1)).Nodup from W.nd)).2, W.keep, fun a ha => by
  rcases List.mem_cons.mp (show a ∈ q.1 :: L.map (·.1) from W.sub a ha) with e | z
  · exact absurd (e ▸ ha) h
  · exact z⟩
theorem Wd.perm (W : Wd H0 H M L) (h : L.Perm L') : Wd H0 H M L' := ⟨fun hm => W.get (h.mem_iff.mpr hm), (h.map _).nodup_iff.mp W.nd, W.keep, fun a ha => (h.map _).mem_iff.mp (W.sub a ha)⟩
/-- the first to the end -/
theorem Wd.move {q : Addr × HO} {A B : List (Addr × HO)} (W : Wd H0 H M (q :: (A ++ B))) : Wd H0 H M (A ++ (B ++ [q])) := W.perm (by
  rw [← List.append_assoc]
  exact (List.perm_append_singleton q (A ++ B)).symm)
theorem Wd.toSame (W : Wd H0 H [] L) : Same H0 H := fun b o e => W.keep b o e (fun h => nomatch h)
end
structure Chg (H H' : Hp) (cs ns : List (Addr × HO)) : Prop where
  chg : ∀ {a : Addr} {o : HO}, (a, o) ∈ cs → H' a = some o
  new : ∀ {a : Addr} {o : HO}, (a, o) ∈ ns → H a = none ∧ H' a = some o
  nd : (ns.map (·.1)).Nodup
  keep : ∀ b o, H b = some o → b ∉ cs.map (·.1) → H' b = some o
section
variable {H0 H H' : Hp} {M : List Addr} {L L' L'' cs ns : List (Addr × HO)} {a b : Addr} {o u o2 u2 : HO}
theorem Wd.chg0 (W : Wd H0 H M L) (c : Chg H H' [] ns) : Wd H0 H' M (ns ++ L) where
  get := fun hm => by
    rcases List.mem_append.mp hm with h | h
    · exact (c.new h).2
    · exact c.keep _ _ (W.get h) (fun z => nomatch z)
  nd := by
    rw [List.map_append]
    refine List.nodup_append.mpr ⟨c.nd, W.nd, fun x hx y hy e => ?_⟩
    subst e
    obtain ⟨⟨p, v⟩, hm, rfl⟩ := List.mem_map.mp hx
    exact W.out (c.new hm).1 hy
  keep := fun b v e hb => c.keep _ _ (W.keep b v e hb) (fun z => nomatch z)
  sub := fun a h => by rw [List.map_append]; exact List.mem_append_right _ (W.sub a h)
theorem Wd.chg1 (W : Wd H0 H M L) (r : Rp a o u L L') (c : Chg H H' [(a, u)] ns) (h : H0 a = none ∨ a ∈ M) : Wd H0 H' M (ns ++ L') where
  get := fun {b v} hm => by
    rcases List.mem_append.mp hm with z | z
    · exact (c.new z).2
    · rcases r.get W.nd z with ⟨e1, e2⟩ | ⟨e1, e2⟩
      · rw [e1, e2]; exact c.chg List.mem_cons_self
      · exact c.keep _ _ (W.get e2) (fun z => by rcases List.mem_cons.mp z with q | q; exact e1 q; exact nomatch q)
  nd := by
    rw [List.map_append, r.keys]
    refine List.nodup_append.mpr ⟨c.nd, W.nd, fun x hx y hy e => ?_⟩
    subst e
    obtain ⟨⟨p, v⟩, hm, rfl⟩ := List.mem_map.mp hx
    exact W.out (c.new hm).1 hy
  keep := fun b v e hb => by
    have ne : b ≠ a := fun z => by
      subst z
      rcases h with h | h
      · rw [h] at e; cases e
      · exact hb h
    exact c.keep _ _ (W.keep b v e hb) (fun z => by rcases List.mem_cons.mp z with q | q; exact ne q; exact nomatch q)
  sub := fun a h => by rw [List.map_append, r.keys]; exact List.mem_append_right _ (W.sub a h)
theorem Chg.of_same (s : Same H H') : Chg H H' [] [] := ⟨(fun h => nomatch h), (fun h => nomatch h), List.nodup_nil, fun b o e _ => s b o e⟩
/-- what a def has done, told to its caller -/
theorem Wd.done (W : Wd H H' M L) (hc : ∀ q ∈ cs, q ∈ L) (hM : ∀ a ∈ M, a ∈ cs.map (·.1)) (hn : ∀ q ∈ ns, q ∈ L ∧ H q.1 = none) (nd : (ns.map (·.1)).Nodup) : Chg H H' cs ns :=
  ⟨fun h => W.get (hc _ h), fun h => ⟨(hn _ h).2, W.get (hn _ h).1⟩, nd, fun b o e hb => W.keep b o e fun z => hb (hM b z)⟩
end
end Eng
namespace Eng
open PySem L2
def kB (Q : Bool → Hp → Prop) : VK := fun x H => ∃ k, x = .bl k ∧ Q k H
def kIf (A B : Hp → Prop) : Bool → Hp → Prop := fun b H => if b = true then A H else B H
def kFld (K : PySem.W.Frag) (f : Str) (Q : VK) : VK := fun x H => ∃ a C dx fs v, x = .ref a ∧ H a = some (.ins C dx fs) ∧ Cls K C ∧ NoAttr K C f ∧ fs.lookup f = some v ∧ Q v H
def kMeth (C : Addr) (m : Str) (sp : Sp) (dvs : List V) (E : XK) (t : TA) (σ : L2.St) (Q : VK) : VK := fun x H1 => ∃ a dx fs, x = .ref a ∧ H1 a = some (.ins C dx fs) ∧ fs.lookup m = none ∧ t σ H1 fun vs H2 => sp (x :: (vs ++ dvs)) H2 Q E
def kBM (K : PySem.W.Frag) (T : String) (r : V → List V → Hp → VK → Prop) (t : TA) (σ : L2.St) (Q : VK) : VK := fun x H1 => tyV K T x H1 ∧ t σ H1 fun xs H2 => r x xs H2 Q
def kIL (K : PySem.W.Frag) (R : It → Hp → Prop) : VK := fun x H1 => ∃ a, x = .ref a ∧ (∃ xs, SqL K H1 a xs) ∧ R (Itl K a) H1
def kIT (K : PySem.W.Frag) (R : It → Hp → Prop) : VK := fun x H1 => ∃ a, x = .ref a ∧ (∃ xs, SqT K H1 a xs) ∧ R (Itt K a) H1
def kR1 (R : It → Hp → Prop) : List V → Hp → Prop := fun vs H1 => ∃ j : Int, vs = [.int j] ∧ -(2 ^ 62) ≤ j ∧ j < 2 ^ 62 ∧ R (Itr 0 j.toNat) H1
def kR2 (R : It → Hp → Prop) : List V → Hp → Prop := fun vs H1 => ∃ i j : Int, vs = [.int i, .int j] ∧ (-(2 ^ 62) ≤ i ∧ i < 2 ^ 62 ∧ -(2 ^ 62) ≤ j ∧ j < 2 ^ 62) ∧ R (Itr i (j - i).toNat) H1
def kFor (g : TG) (tb : TS) (D : Ends) (σ : L2.St) : It → Hp → Prop := fun J H1 => ∃ W : Nat → Nat → L2.St → Hp → Prop, (∃ m, W 0 m σ H1) ∧ ∀ i m σ H, W i m σ H →
  (J.stop i H ∧ D.nx σ H) ∨ (J.go i H ∧ ∃ N : L2.St → Hp → Prop, (∀ σ' H', N σ' H' → ∃ m', m' < m ∧ W (i + 1) m' σ' H') ∧ ∀ x H', J.yld i H x H' → g x σ H' fun σ2 H2 => tb { D with nx := N, ct := N, bk := D.nx } σ2 H2)
def kWh (W : Nat → L2.St → Hp → Prop) (m : Nat) (tb : TS) (nx : L2.St → Hp → Prop) (rt : VK) (σ : L2.St) : Bool → Hp → Prop := fun b H1 =>
  if b = true then ∃ N : L2.St → Hp → Prop, (∀ σ' H', N σ' H' → ∃ m', m' < m ∧ W m' σ' H') ∧ tb ⟨N, rt, nx, N⟩ σ H1 else nx σ H1
def kLc (g : TG) (tt : TT) (te : TE) (vs : List Nat) (σ : L2.St) (Q : VK) : It → Hp → Prop := fun J H1 => ∀ D, H1 D = none → ∃ W : Nat → Nat → Hp → Prop, (∃ m, W 0 m (upd H1 D (.lst []))) ∧ ∀ i m H, W i m H →
  (J.stop i H ∧ Q (.ref D) H) ∨ (J.go i H ∧ ∃ Nx : Hp → Prop, (∀ H', Nx H' → ∃ m', m' < m ∧ W (i + 1) m' H') ∧ ∀ x H', J.yld i H x H' → g x (wipe σ vs) H' fun σ2 H2 => wipe σ2 vs = wipe σ vs ∧ tt σ2 H2 fun b H3 =>
    if b = true then te σ2 H3 fun y H4 => ∃ acc, H4 D = some (.lst acc) ∧ acc.length < sizeLine ∧ Nx (upd H4 D (.lst (acc ++ [y]))) else Nx H3)
/-- what stands behind a turn of a comprehension -/
def kAcc (D : Addr) (Nx : Hp → Prop) : VK := fun y H4 => ∃ acc, H4 D = some (.lst acc) ∧ acc.length < sizeLine ∧ Nx (upd H4 D (.lst (acc ++ [y])))
def kPar (i j : Nat) (σ : L2.St) (nx : L2.St → Hp → Prop) : List V → Hp → Prop := fun vs H1 => ∃ v w, vs = [v, w] ∧ nx ((σ.set i (some v)).set j (some w)) H1
def kPar3 (i j l : Nat) (σ : L2.St) (nx : L2.St → Hp → Prop) : List V → Hp → Prop := fun vs H1 => ∃ u v w, vs = [u, v, w] ∧ nx (((σ.set i (some u)).set j (some v)).set l (some w)) H1
def kTup (Q : VK) : List V → Hp → Prop := fun xs H1 => xs.length ≤ sizeLine ∧ ∀ p, H1 p = none → Q (.ref p) (upd H1 p (.tup xs))
def kLst (Q : VK) : List V → Hp → Prop := fun xs H1 => xs.length ≤ sizeLine ∧ ∀ p, H1 p = none → Q (.ref p) (upd H1 p (.lst xs))
def kMake (C : Addr) (sp : Sp) (dvs : List V) (E : XK) (Q : VK) : List V → Hp → Prop := fun vs H1 => ∀ x dx, H1 x = none → H1 dx = none → dx ≠ x →
  sp (.ref x :: (vs ++ dvs)) (upd (upd H1 dx (.own x)) x (.ins C dx [])) (fun v H2 => v = .non ∧ Q (.ref x) H2) E
def kPart (Q : Option Int → Hp → Prop) : VK := fun x H1 => ∃ i, x = .int i ∧ Q (some i) H1
def kSFld (K : PySem.W.Frag) (f : Str) (y : V) (nx : L2.St → Hp → Prop) (σ : L2.St) : VK := fun x H2 => ∃ a C dx fs, x = .ref a ∧ H2 a = some (.ins C dx fs) ∧ Cls K C ∧ NoAttr K C f ∧ fs.length < 1000 ∧ nx σ (upd H2 a (.ins C dx (putF f y fs)))
def kDG (Q : VK) : V → V → Hp → Prop := fun x y H2 => ∃ a v, x = .ref a ∧ DGet H2 a y (some v) ∧ Q v H2
def kDP (nx : L2.St → Hp → Prop) (σ : L2.St) (v : V) : V → V → Hp → Prop := fun x y H3 => ∃ a H4, x = .ref a ∧ DPut H3 a y v H4 ∧ nx σ H4
def kBits (Q : VK) : VK := fun x H1 => ∃ i, x = .int i ∧ Q (.int (Builtin.Int.intBits i : Nat)) H1
def kCh (r' : R2) (y : V) (tc : TE) (σ : L2.St) (Q : VK) : VK := fun z H3 => ∃ k, z = .bl k ∧ (if k = true then tc σ H3 fun w' H4 => r' y w' H4 Q else Q (.bl false) H3)
def kRev (K : PySem.W.Frag) (Q : VK) : VK := fun x H1 => ∃ a xs, x = .ref a ∧ SqL K H1 a xs ∧ ∀ p, H1 p = none → Q (.ref p) (upd H1 p (.lst xs.reverse))
/-- the slot i holds v from here on -/
inductive Sets (v : Option V) : L2.St → Nat → L2.St → Prop where
  | here {a l} : Sets v (a :: l) 0 (v :: l)
  | there {a l i l'} : Sets v l i l' → Sets v (a :: l) (i + 1) (a :: l')
theorem Sets.eq {v : Option V} : ∀ {σ : L2.St} {i : Nat} {σ' : L2.St}, Sets v σ i σ' → σ.set i v = σ'
  | _, _, _, .here => rfl
  | _, _, _, .there r => congrArg (List.cons _) r.eq
section
variable {K : PySem.W.Frag} {σ σ' σ1 σ2 : L2.St} {H H' H0 : Hp} {Q : VK} {QB : Bool → Hp → Prop} {QA : List V → Hp → Prop} {nx bk ct : L2.St → Hp → Prop} {rt : VK} {D : Ends} {M : List Addr} {L L' : List (Addr × HO)}
  {ta tb tc te : TE} {tA tB' tT tU : TT} {ts tu : TS} {tr tl : TA} {v w x y : V} {i j : Nat} {n m : Int} {b c : Bool} {A B : Hp → Prop} {a l p C dx : Addr} {fs : List (Str × V)} {f : Str} {xs ys : List V} {r : R2} {o u : HO}
theorem rd_seq (q : ts ⟨tu ⟨nx, rt, bk, ct⟩, rt, bk, ct⟩ σ H) : tSeq ts tu ⟨nx, rt, bk, ct⟩ σ H := q
theorem rd_next (q : nx σ H) : tNext ⟨nx, rt, bk, ct⟩ σ H := q
theorem rd_asg {g : TG} (q : te σ H fun x H1 => g x σ H1 nx) : tAsg te g ⟨nx, rt, bk, ct⟩ σ H := q
theorem rd_name {k : L2.St → Hp → Prop} (hs : Sets (some v) σ i σ') (q : k σ' H) : gName i v σ H k := by unfold gName; rw [hs.eq]; exact q
theorem rd_ret (q : te σ H rt) : tRet te ⟨nx, rt, bk, ct⟩ σ H := q
theorem rd_retN (q : rt .non H) : tRetN ⟨nx, rt, bk, ct⟩ σ H := q
theorem rd_drop (q : te σ H fun _ H1 => nx σ H1) : tDrop te ⟨nx, rt, bk, ct⟩ σ H := q
theorem rd_ifS (q : tT σ H (kIf (fun H1 => ts D σ H1) (fun H1 => tu D σ H1))) : tIfS tT ts tu D σ H := q
theorem rd_T (h : b = true) (q : A H) : kIf A B b H := by unfold kIf; rw [if_pos h]; exact q
theorem rd_F (h : b = false) (q : B H) : kIf A B b H := by unfold kIf; rw [h, if_neg Bool.false_ne_true]; exact q
theorem rd_2 (h : b = true → A H) (k : b = false → B H) : kIf A B b H := by
  cases b with
  | true => exact rd_T rfl (h rfl)
  | false => exact rd_F rfl (k rfl)
theorem rd_Td {P : Prop} [Decidable P] (h : P) (q : A H) : kIf A B (decide P) H := rd_T (decide_eq_true h) q
theorem rd_Fd {P : Prop} [Decidable P] (h : ¬ P) (q : B H) : kIf A B (decide P) H := rd_F (decide_eq_false h) q
theorem rd_2d {P : Prop} [Decidable P] (h : P → A H) (k : ¬ P → B H) : kIf A B (decide P) H := rd_2 (fun e => h (of_decide_eq_true e)) (fun e => k (of_decide_eq_false e))
theorem rd_Tn {P : Prop} [Decidable P] (h : ¬ P) (q : A H) : kIf A B (!decide P) H := rd_T (by rw [decide_eq_false h]; rfl) q
theorem rd_Fn {P : Prop} [Decidable P] (h : P) (q : B H) : kIf A B (!decide P) H := rd_F (by rw [decide_eq_true h]; rfl) q
theorem rd_par (q : tr σ H (kPar i j σ nx)) : tPar i j tr ⟨nx, rt, bk, ct⟩ σ H := q
theorem rd_kPar (h1 : Sets (some v) σ i σ1) (h2 : Sets (some w) σ1 j σ') (q : nx σ' H) : kPar i j σ nx [v, w] H := ⟨v, w, rfl, by rw [h1.eq, h2.eq]; exact q⟩
theorem rd_par3 {k : Nat} (q : tr σ H (kPar3 i j k σ nx)) : tPar3 i j k tr ⟨nx, rt, bk, ct⟩ σ H := q
theorem rd_kPar3 {k : Nat} (h1 : Sets (some v) σ i σ1) (h2 : Sets (some w) σ1 j σ2) (h3 : Sets (some x) σ2 k σ') (q : nx σ' H) : kPar3 i j k σ nx [v, w, x] H := ⟨v, w, x, rfl, by rw [h1.eq, h2.eq, h3.eq]; exact q⟩
theorem rd_sFld (q : te σ H fun y H1 => ta σ H1 (kSFld K f y nx σ)) : sFld K ta te f ⟨nx, rt, bk, ct⟩ σ H := q
theorem rd_sDPut {td ty tv : TE} (q : tv σ H fun v H1 => td σ H1 fun x H2 => ty σ H2 fun y H3 => kDP nx σ v x y H3) : sDPut td ty tv ⟨nx, rt, bk, ct⟩ σ H := q
theorem rd_for {wi : TI} {g : TG} (q : wi σ H (kFor g ts D σ)) : tFor wi g ts D σ H := q
theorem rd_while (W : Nat → L2.St → Hp → Prop) (m0 : Nat) (h0 : W m0 σ H) (q : ∀ m σ H, W m σ H → tT σ H (kWh W m ts nx rt σ)) : tWhile tT ts ⟨nx, rt, bk, ct⟩ σ H := ⟨W, ⟨m0, h0⟩, q⟩
theorem rd_whT {W : Nat → L2.St → Hp → Prop} {m : Nat} (h : b = true) (q : ts ⟨fun σ' H' => ∃ m', m' < m ∧ W m' σ' H', rt, nx, fun σ' H' => ∃ m', m' < m ∧ W m' σ' H'⟩ σ H) : kWh W m ts nx rt σ b H := by
  unfold kWh; rw [if_pos h]; exact ⟨_, fun _ _ z => z, q⟩
theorem rd_whF {W : Nat → L2.St → Hp → Prop} {m : Nat} (h : b = false) (q : nx σ H) : kWh W m ts nx rt σ b H := by
  unfold kWh; rw [h, if_neg Bool.false_ne_true]; exact q
theorem rd_wh2 {W : Nat → L2.St → Hp → Prop} {m : Nat} {P : Prop} [Decidable P] (q : P → ts ⟨fun σ' H' => ∃ m', m' < m ∧ W m' σ' H', rt, nx, fun σ' H' => ∃ m', m' < m ∧ W m' σ' H'⟩ σ H) (q' : ¬ P → nx σ H) : kWh W m ts nx rt σ (decide P) H := by
  by_cases h : P
  · exact rd_whT (decide_eq_true h) (q h)
  · exact rd_whF (decide_eq_false h) (q' h)
theorem rd_var (h : σ[i]? = some (some v)) (q : Q v H) : tVar i σ H Q := ⟨v, h, q⟩
theorem rd_c (q : Q v H) : tC v σ H Q := q
theorem rd_op (q : ta σ H fun x H1 => tb σ H1 fun y H2 => r x y H2 Q) : tOp r ta tb σ H Q := q
theorem rd_un {ru : V → Hp → VK → Prop} (q : ta σ H fun x H1 => ru x H1 Q) : tUn ru ta σ H Q := q
theorem dec_int : decide (V.int n = V.int m) = decide (n = m) := by simp
theorem dec_str {s t : Str} : decide (V.str s = V.str t) = decide (s = t) := by simp
theorem dec_bl : decide (V.bl b = V.bl c) = decide (b = c) := by simp
theorem rd_eqI (q : Q (.bl (decide (n = m))) H) : rEq (.int n) (.int m) H Q := ⟨rfl, by rw [dec_int]; exact q⟩
theorem rd_neI (q : Q (.bl (!decide (n = m))) H) : rNe (.int n) (.int m) H Q := ⟨rfl, by rw [dec_int]; exact q⟩
theorem rd_eqS {s t : Str} (q : Q (.bl (decide (s = t))) H) : rEq (.str s) (.str t) H Q := ⟨rfl, by rw [dec_str]; exact q⟩
theorem rd_neS {s t : Str} (q : Q (.bl (!decide (s = t))) H) : rNe (.str s) (.str t) H Q := ⟨rfl, by rw [dec_str]; exact q⟩
theorem rd_eqB (q : Q (.bl (decide (b = c))) H) : rEq (.bl b) (.bl c) H Q := ⟨rfl, by rw [dec_bl]; exact q⟩
theorem rd_neB (q : Q (.bl (!decide (b = c))) H) : rNe (.bl b) (.bl c) H Q := ⟨rfl, by rw [dec_bl]; exact q⟩
theorem rd_test (q : te σ H (kB QB)) : tTest te σ H QB := q
theorem rd_tB (q : te σ H (kB QB)) : L2.tB te σ H QB := q
theorem rd_kB (q : QB b H) : kB QB (.bl b) H := ⟨b, rfl, q⟩
theorem rd_and (q : tT σ H (kIf (fun H1 => tU σ H1 QB) (fun H1 => QB false H1))) : tAnd tT tU σ H QB := q
theorem rd_or (q : tT σ H (kIf (fun H1 => QB true H1) (fun H1 => tU σ H1 QB))) : tOr tT tU σ H QB := q
theorem rd_not (q : tT σ H fun c H1 => QB (!c) H1) : tNot tT σ H QB := q
theorem rd_andV (q : ta σ H (kB (kIf (fun H1 => tb σ H1 Q) (fun H1 => Q (.bl false) H1)))) : tAndV ta tb σ H Q := q
theorem rd_orV (q : ta σ H (kB (kIf (fun H1 => Q (.bl true) H1) (fun H1 => tb σ H1 Q)))) : tOrV ta tb σ H Q := q
theorem rd_notV (q : ta σ H (kB fun c H1 => Q (.bl (!c)) H1)) : tNotV ta σ H Q := q
theorem rd_ifE (q : tT σ H (kIf (fun H1 => ta σ H1 Q) (fun H1 => tb σ H1 Q))) : tIf tT ta tb σ H Q := q
theorem rd_chain {r' : R2} (q : ta σ H fun x H1 => tb σ H1 fun y H2 => r x y H2 (kCh r' y tc σ Q)) : tChain r r' ta tb tc σ H Q := q
theorem rd_kChT {r' : R2} (h : b = true) (q : tc σ H fun w' H4 => r' y w' H4 Q) : kCh r' y tc σ Q (.bl b) H := ⟨b, rfl, by rw [if_pos h]; exact q⟩
theorem rd_kChF {r' : R2} (h : b = false) (q : Q (.bl false) H) : kCh r' y tc σ Q (.bl b) H := ⟨b, rfl, by rw [h, if_neg Bool.false_ne_true]; exact q⟩
theorem rd_bits (q : ta σ H (kBits Q)) : tBits ta σ H Q := q
theorem rd_kBits (q : Q (.int (Builtin.Int.intBits n : Nat)) H) : kBits Q (.int n) H := ⟨n, rfl, q⟩
theorem rd_nil (q : QA [] H) : tNil σ H QA := q
theorem rd_cons (q : ta σ H fun x H1 => tr σ H1 fun xs H2 => QA (x :: xs) H2) : tCons ta tr σ H QA := q
theorem rd_call {sp : Sp} {E : XK} (q : tr σ H fun vs H1 => sp vs H1 Q E) : tCall sp [] E tr σ H Q := by
  unfold tCall
  simp only [List.append_nil]
  exact q
theorem rd_cb {rc : List V → Hp → VK → Prop} (q : tr σ H fun vs H1 => rc vs H1 Q) : tCB rc tr σ H Q := q
theorem rd_meth {sp : Sp} {E : XK} {dvs : List V} (q : ta σ H (kMeth C f sp dvs E tr σ Q)) : tMeth C f sp dvs E ta tr σ H Q := q
theorem rd_kMeth {sp : Sp} {E : XK} (h : H a = some (.ins C dx fs)) (hl : fs.lookup f = none) (q : tr σ H fun vs H2 => sp (.ref a :: vs) H2 Q E) : kMeth C f sp [] E tr σ Q (.ref a) H := by
  refine ⟨a, dx, fs, rfl, h, hl, ?_⟩
  simp only [List.append_nil]
  exact q
theorem rd_make {sp : Sp} {E : XK} {dvs : List V} (q : tr σ H (kMake C sp dvs E Q)) : tMake C sp dvs E tr σ H Q := q
theorem rd_bm {T : String} {rm : V → List V → Hp → VK → Prop} (q : ta σ H (kBM K T rm tr σ Q)) : tBM K T rm ta tr σ H Q := q
theorem rd_bm0 {T : String} {rm : V → List V → Hp → VK → Prop} (q : ta σ H fun x H1 => tyV K T x H1 ∧ rm x [] H1 Q) : tBM0 K T rm ta σ H Q := q
theorem rd_kBMl {rm : V → List V → Hp → VK → Prop} (h : H l = some (.lst xs)) (q : tr σ H fun ys H2 => rm (.ref l) ys H2 Q) : kBM K "list" rm tr σ Q (.ref l) H := ⟨.inl ⟨rfl, _, SqL.of h⟩, q⟩
theorem rd_append (W : Wd H0 H M L) (r : Rp l (.lst xs) (.lst (xs ++ [y])) L L') (hm : H0 l = none ∨ l ∈ M) (hl : xs.length < sizeLine) (q : ∀ H', Wd H0 H' M L' → Q .non H') : rAppend (.ref l) [y] H Q :=
  ⟨l, xs, y, rfl, rfl, W.get r.mem, hl, q _ (W.put r hm)⟩
theorem rd_fld (q : ta σ H (kFld K f Q)) : tFld K ta f σ H Q := q
theorem rd_kFld (c : Cls K C) (n : NoAttr K C f) (h : H a = some (.ins C dx fs)) (hl : fs.lookup f = some v) (q : Q v H) : kFld K f Q (.ref a) H := ⟨a, C, dx, fs, v, rfl, h, c, n, hl, q⟩
theorem rd_kSFld (W : Wd H0 H M L) (c : Cls K C) (n : NoAttr K C f) (r : Rp a (.ins C dx fs) (.ins C dx (putF f y fs)) L L') (hm : H0 a = none ∨ a ∈ M) (hl : fs.length < 1000) (q : ∀ H', Wd H0 H' M L' → nx σ H') : kSFld K f y nx σ (.ref a) H :=
  ⟨a, C, dx, fs, rfl, W.get r.mem, c, n, hl, q _ (W.put r hm)⟩
theorem rd_tup (q : tr σ H (kTup Q)) : tTup tr σ H Q := q
theorem rd_lst (q : tr σ H (kLst Q)) : tLst tr σ H Q := q
theorem rd_kTup (W : Wd H0 H M L) (hl : xs.length ≤ sizeLine) (q : ∀ p H', H0 p = none → Wd H0 H' M ((p, .tup xs) :: L) → Q (.ref p) H') : kTup Q xs H := ⟨hl, fun p hp => q p _ (W.fresh hp) (W.new hp)⟩
theorem rd_kLst (W : Wd H0 H M L) (hl : xs.length ≤ sizeLine) (q : ∀ p H', H0 p = none → Wd H0 H' M ((p, .lst xs) :: L) → Q (.ref p) H') : kLst Q xs H := ⟨hl, fun p hp => q p _ (W.fresh hp) (W.new hp)⟩
theorem rd_ixL (h : SqL K H p xs) (hv : atI xs n = some v) (q : Q v H) : rIxL K (.ref p) (.int n) H Q := ⟨p, xs, n, v, rfl, rfl, h, hv, q⟩
theorem rd_ixT (h : SqT K H p xs) (hv : atI xs n = some v) (q : Q v H) : rIxT K (.ref p) (.int n) H Q := ⟨p, xs, n, v, rfl, rfl, h, hv, q⟩
theorem rd_sub {tS : TSet} {k : L2.St → Hp → Prop} (q : ta σ H fun o H1 => tb σ H1 fun i H2 => tS o i v H2 fun H3 => k σ H3) : gSub ta tb tS v σ H k := q
theorem rd_setL {k : Hp → Prop} (W : Wd H0 H M L) (hj : ixN xs.length n = some j) (r : Rp p (.lst xs) (.lst (xs.set j v)) L L') (hm : H0 p = none ∨ p ∈ M) (q : ∀ H', Wd H0 H' M L' → k H') : rSetL (.ref p) (.int n) v H k :=
  ⟨p, xs, n, j, rfl, rfl, W.get r.mem, hj, q _ (W.put r hm)⟩
theorem rd_sl {rs : V → Option Int → Option Int → Hp → VK → Prop} {to1 to2 : TO} (q : te σ H fun x H1 => to1 σ H1 fun l H2 => to2 σ H2 fun u H3 => rs x l u H3 Q) : tSl rs te to1 to2 σ H Q := q
theorem rd_noPart {QO : Option Int → Hp → Prop} (q : QO none H) : tNoPart σ H QO := q
theorem rd_part {QO : Option Int → Hp → Prop} (q : te σ H (kPart QO)) : tPart te σ H QO := q
theorem rd_kPart {QO : Option Int → Hp → Prop} (q : QO (some n) H) : kPart QO (.int n) H := ⟨n, rfl, q⟩
theorem rd_slL {lo hi : Option Int} (W : Wd H0 H M L) (h : SqL K H a xs) (hc : cutV xs lo hi = ys) (q : ∀ p H', H0 p = none → Wd H0 H' M ((p, .lst ys) :: L) → Q (.ref p) H') : rSlL K (.ref a) lo hi H Q :=
  ⟨a, xs, rfl, h, fun p hp => by subst hc; exact q p _ (W.fresh hp) (W.new hp)⟩
theorem rd_cat (W : Wd H0 H M L) (h1 : H a = some (.lst xs)) (h2 : H l = some (.lst ys)) (hl : xs.length + ys.length ≤ sizeLine) (q : ∀ p H', H0 p = none → Wd H0 H' M ((p, .lst (xs ++ ys)) :: L) → Q (.ref p) H') : rCat (.ref a) (.ref l) H Q :=
  ⟨a, l, xs, ys, rfl, rfl, h1, h2, hl, fun p hp => q p _ (W.fresh hp) (W.new hp)⟩
theorem rd_revL (q : te σ H (kRev K Q)) : tRevL K te σ H Q := q
theorem rd_gTup {k : Nat} {gs : TGs} {kk : L2.St → Hp → Prop} (h : SqT K H a xs) (hl : xs.length = k) (q : gs xs σ H kk) : gTup K k gs (.ref a) σ H kk := ⟨a, xs, rfl, h, hl, q⟩
theorem rd_gCons {g : TG} {gs : TGs} {kk : L2.St → Hp → Prop} (q : g v σ H fun σ' H' => gs xs σ' H' kk) : gCons g gs (v :: xs) σ H kk := ⟨v, xs, rfl, q⟩
theorem rd_gNil {kk : L2.St → Hp → Prop} (q : kk σ H) : gNil [] σ H kk := ⟨rfl, q⟩
theorem rd_dget {td ty : TE} (q : td σ H fun x H1 => ty σ H1 fun y H2 => kDG Q x y H2) : tDGet td ty σ H Q := q
theorem rd_kDGs {kvs : List (Key × V)} {s : Str} (h : H a = some (.dK kvs)) (hv : valV kvs (Sum.inr s : Key) = some v) (q : Q v H) : kDG Q (.ref a) (.str s) H := ⟨a, v, rfl, hv ▸ DGet.k (k := Sum.inr s) h, q⟩
theorem rd_kDPs {kvs : List (Key × V)} {s : Str} (W : Wd H0 H M L) (r : Rp a (.dK kvs) (.dK (putK kvs (Sum.inr s : Key) v)) L L') (hm : H0 a = none ∨ a ∈ M) (hl : kvs.length < sizeLine) (q : ∀ H', Wd H0 H' M L' → nx σ H') : kDP nx σ v (.ref a) (.str s) H :=
  ⟨a, _, rfl, DPut.k (k := Sum.inr s) (W.get r.mem) hl, q _ (W.put r hm)⟩
theorem rd_iList {R : It → Hp → Prop} (q : te σ H (kIL K R)) : iList K te σ H R := q
theorem rd_kIL {R : It → Hp → Prop} (h : SqL K H a xs) (q : R (Itl K a) H) : kIL K R (.ref a) H := ⟨a, rfl, ⟨_, h⟩, q⟩
theorem rd_iTup {R : It → Hp → Prop} (q : te σ H (kIT K R)) : iTup K te σ H R := q
theorem rd_kIT {R : It → Hp → Prop} (h : SqT K H a xs) (q : R (Itt K a) H) : kIT K R (.ref a) H := ⟨a, rfl, ⟨_, h⟩, q⟩
theorem rd_iR1 {R : It → Hp → Prop} (q : tr σ H (kR1 R)) : iRng1 tr σ H R := q
theorem rd_iR2 {R : It → Hp → Prop} (q : tr σ H (kR2 R)) : iRng2 tr σ H R := q
theorem rd_forT {g : TG} (Pv : Nat → L2.St → Hp → Prop) (h0 : Pv 0 σ H) (hl : ∀ i σ H, i ≤ xs.length → Pv i σ H → SqT K H a xs)
    (hs : ∀ i x σ H, xs[i]? = some x → Pv i σ H → g x σ H fun σ2 H2 => ts ⟨Pv (i + 1), rt, nx, Pv (i + 1)⟩ σ2 H2) (hd : ∀ σ H, Pv xs.length σ H → nx σ H) : kFor g ts ⟨nx, rt, bk, ct⟩ σ (Itt K a) H :=
  for_tup (D := ⟨nx, rt, bk, ct⟩) Pv h0 hl hs hd
theorem rd_lc {wi : TI} {g : TG} {vs : List Nat} (q : wi σ H (kLc g tT te vs σ Q)) : tLc wi g tT te vs σ H Q := q
theorem rd_yes (q : QB true H) : tYes σ H QB := q
/-- over a list: Pv (items taken, heap); D the list that grows -/
theorem rd_lcL {g : TG} {vs : List Nat} (hq : ∀ D, H D = none → ∃ Pv : Nat → Hp → Prop, Pv 0 (upd H D (.lst [])) ∧ (∀ i H, i ≤ xs.length → Pv i H → SqL K H a xs) ∧
    (∀ i x H, xs[i]? = some x → Pv i H → g x (wipe σ vs) H fun σ2 H2 => wipe σ2 vs = wipe σ vs ∧ tT σ2 H2 (kIf (fun H3 => te σ2 H3 (kAcc D (Pv (i + 1)))) (fun H3 => Pv (i + 1) H3))) ∧ ∀ H, Pv xs.length H → Q (.ref D) H) : kLc g tT te vs σ Q (Itl K a) H := fun D hD => by
  obtain ⟨Pv, h0, hl, hs, hd⟩ := hq D hD
  exact lc_list Pv h0 hl hs hd
theorem rd_lcT {g : TG} {vs : List Nat} (hq : ∀ D, H D = none → ∃ Pv : Nat → Hp → Prop, Pv 0 (upd H D (.lst [])) ∧ (∀ i H, i ≤ xs.length → Pv i H → SqT K H a xs) ∧
    (∀ i x H, xs[i]? = some x → Pv i H → g x (wipe σ vs) H fun σ2 H2 => wipe σ2 vs = wipe σ vs ∧ tT σ2 H2 (kIf (fun H3 => te σ2 H3 (kAcc D (Pv (i + 1)))) (fun H3 => Pv (i + 1) H3))) ∧ ∀ H, Pv xs.length H → Q (.ref D) H) : kLc g tT te vs σ Q (Itt K a) H := fun D hD => by
  obtain ⟨Pv, h0, hl, hs, hd⟩ := hq D hD
  exact lc_tup Pv h0 hl hs hd
theorem rd_kAcc {Nx : Hp → Prop} (W : Wd H0 H M L) (r : Rp l (.lst xs) (.lst (xs ++ [y])) L L') (hm : H0 l = none ∨ l ∈ M) (hl : xs.length < sizeLine) (q : ∀ H', Wd H0 H' M L' → Nx H') : kAcc l Nx y H :=
  ⟨xs, W.get r.mem, hl, q _ (W.put r hm)⟩
def rAbs : List V → Hp → VK → Prop := fun xs H Q => ∃ i, xs = [.int i] ∧ Q (.int (if i < 0 then -i else i)) H
def rInt : List V → Hp → VK → Prop := fun xs H Q => (∃ i, xs = [.int i] ∧ Q (.int i) H) ∨ ∃ k, xs = [.bl k] ∧ Q (.int (if k then 1 else 0)) H
def rLen (K : PySem.W.Frag) : List V → Hp → VK → Prop := fun xs H Q => ∃ p ys, xs = [.ref p] ∧ (SqL K H p ys ∨ SqT K H p ys) ∧ Q (.int ys.length) H
def rList (K : PySem.W.Frag) : List V → Hp → VK → Prop := fun xs H Q => ∃ p ys, xs = [.ref p] ∧ (SqL K H p ys ∨ SqT K H p ys) ∧ ∀ l, H l = none → Q (.ref l) (upd H l (.lst ys))
def rTupL (K : PySem.W.Frag) : List V → Hp → VK → Prop := fun xs H Q => ∃ p ys, xs = [.ref p] ∧ SqL K H p ys ∧ ∀ l, H l = none → Q (.ref l) (upd H l (.tup ys))
def rDict (K : PySem.W.Frag) : List V → Hp → VK → Prop := fun xs H Q => ∃ (a : Addr) (ps : List Addr) (kvs : List (Key × V)), xs = [.ref a] ∧ SqL K H a (ps.map V.ref) ∧ Paired (fun p kv => SqT K H p [kV kv.1, kv.2]) ps kvs ∧ ∀ p, H p = none → Q (.ref p) (upd H p (.dK (mergeK [] kvs)))
theorem rd_abs (q : Q (.int (if n < 0 then -n else n)) H) : rAbs [.int n] H Q := ⟨n, rfl, q⟩
theorem rd_int (q : Q (.int n) H) : rInt [.int n] H Q := .inl ⟨n, rfl, q⟩
theorem rd_intB (q : Q (.int (if b then 1 else 0)) H) : rInt [.bl b] H Q := .inr ⟨b, rfl, q⟩
theorem rd_lenL (h : SqL K H p xs) (q : Q (.int xs.length) H) : rLen K [.ref p] H Q := ⟨p, xs, rfl, .inl h, q⟩
theorem rd_lenT (h : SqT K H p xs) (q : Q (.int xs.length) H) : rLen K [.ref p] H Q := ⟨p, xs, rfl, .inr h, q⟩
theorem rd_list (W : Wd H0 H M L) (h : SqL K H a xs ∨ SqT K H a xs) (q : ∀ p H', H0 p = none → Wd H0 H' M ((p, .lst xs) :: L) → Q (.ref p) H') : rList K [.ref a] H Q := ⟨a, xs, rfl, h, fun p hp => q p _ (W.fresh hp) (W.new hp)⟩
theorem rd_tupL (W : Wd H0 H M L) (h : SqL K H a xs) (q : ∀ p H', H0 p = none → Wd H0 H' M ((p, .tup xs) :: L) → Q (.ref p) H') : rTupL K [.ref a] H Q := ⟨a, xs, rfl, h, fun p hp => q p _ (W.fresh hp) (W.new hp)⟩
end
section
variable {X : Cx}
theorem c_abs : CallR X (.builtin "abs") rAbs := call_abs
theorem c_int : CallR X (.type "int") rInt := call_int1
theorem c_len : CallR X (.builtin "len") (rLen X.K) := call_len_seq
theorem c_list : CallR X (.type "list") (rList X.K) := call_list_of
theorem c_tupL : CallR X (.type "tuple") (rTupL X.K) := fun pins s σ H xs us Q I r h => by
  obtain ⟨p, ys, e, h1, q⟩ := h
  exact call_tuple_of pins s σ H xs us Q I r ⟨p, ys, e, .inl ⟨h1, q⟩⟩
theorem c_dict (h : X.calm = true) : CallR X (.type "dict") (rDict X.K) := call_dictP h
end
end Eng
namespace Eng
open PySem L2
def oDiv (i j : Int) : Prop := 0 < j ∧ Builtin.divisionGoesByPylong i j = false
def oPow (i j : Int) : Prop := 0 ≤ j ∧ (Builtin.Int.intBits i : Int) * j ≤ 2 ^ 27
def rAdd : R2 := rI0 fun i j => .int (i + j)
def rSub : R2 := rI0 fun i j => .int (i - j)
def rMul : R2 := rI IntMulOk fun i j => .int (i * j)
def rDiv : R2 := rI oDiv fun i j => .int (i / j)
def rMod : R2 := rI (fun _ j => 0 < j) fun i j => .int (i % j)
def rPow : R2 := rI oPow fun i j => .int (i ^ j.toNat)
def rShl : R2 := rI CShl fun i j => .int (i * 2 ^ j.toNat)
def rShr : R2 := rI (fun _ j => 0 ≤ j) fun i j => .int (i / 2 ^ j.toNat)
def rAnd : R2 := rI0 fun i j => .int (Builtin.bitAnd i j)
def rOr : R2 := rI0 fun i j => .int (Builtin.bitOr i j)
def rXor : R2 := rI0 fun i j => .int (Builtin.bitXor i j)
def rLt : R2 := rI0 fun i j => .bl (decide (i < j))
def rLe : R2 := rI0 fun i j => .bl (decide (i ≤ j))
def rGt : R2 := rI0 fun i j => .bl (decide (j < i))
def rGe : R2 := rI0 fun i j => .bl (decide (j ≤ i))
def rNeg : V → Hp → VK → Prop := rU fun i => .int (-i)
section
variable {X : Cx}
theorem o_add : OpR X (binaryOp .Add) rAdd := op_add
theorem o_sub : OpR X (binaryOp .Sub) rSub := op_sub
theorem o_mul : OpR X (binaryOp .Mult) rMul := opI fun _ _ _ _ _ _ _ hc q => PyProof.Rows.mul_int q hc
theorem o_div : OpR X (binaryOp .FloorDiv) rDiv := opI fun i j _ _ _ _ _ hc q => by
  have h1 : (0 : Int) < j := hc.1
  exact PyProof.Rows.floordiv_int (by omega) (by rw [Int.fdiv_eq_ediv_of_nonneg i (by omega)]; exact q) (.inl hc.2)
theorem o_mod : OpR X (binaryOp .Mod) rMod := op_mod
theorem o_pow : OpR X (binaryOp .Pow) rPow := opI fun _ _ _ _ _ _ _ hc q => PyProof.Rows.pow_int hc.1 hc.2 q
theorem o_shl : OpR X (binaryOp .LShift) rShl := op_shlW
theorem o_shr : OpR X (binaryOp .RShift) rShr := op_shr
theorem o_or : OpR X (binaryOp .BitOr) rOr := op_or
theorem o_lt : OpR X (compareOp .Lt) rLt := op_lt
theorem o_le : OpR X (compareOp .LtE) rLe := op_le
theorem o_gt : OpR X (compareOp .Gt) rGt := op_gt
theorem o_ge : OpR X (compareOp .GtE) rGe := op_ge
theorem o_neg : UnR X (unaryOp .USub) rNeg := un_neg
end
section
variable {H : Hp} {Q : VK} {n m : Int}
theorem rd_add (q : Q (.int (n + m)) H) : rAdd (.int n) (.int m) H Q := ⟨n, m, rfl, rfl, q⟩
theorem rd_subI (q : Q (.int (n - m)) H) : rSub (.int n) (.int m) H Q := ⟨n, m, rfl, rfl, q⟩
theorem rd_mul (h : IntMulOk n m) (q : Q (.int (n * m)) H) : rMul (.int n) (.int m) H Q := ⟨n, m, rfl, rfl, h, q⟩
theorem rd_div (h : oDiv n m) (q : Q (.int (n / m)) H) : rDiv (.int n) (.int m) H Q := ⟨n, m, rfl, rfl, h, q⟩
theorem rd_mod (h : 0 < m) (q : Q (.int (n % m)) H) : rMod (.int n) (.int m) H Q := ⟨n, m, rfl, rfl, h, q⟩
theorem rd_pow (h : oPow n m) (q : Q (.int (n ^ m.toNat)) H) : rPow (.int n) (.int m) H Q := ⟨n, m, rfl, rfl, h, q⟩
theorem rd_shl (h : CShl n m) (q : Q (.int (n * 2 ^ m.toNat)) H) : rShl (.int n) (.int m) H Q := ⟨n, m, rfl, rfl, h, q⟩
theorem rd_shr (h : 0 ≤ m) (q : Q (.int (n / 2 ^ m.toNat)) H) : rShr (.int n) (.int m) H Q := ⟨n, m, rfl, rfl, h, q⟩
theorem rd_andI (q : Q (.int (Builtin.bitAnd n m)) H) : rAnd (.int n) (.int m) H Q := ⟨n, m, rfl, rfl, q⟩
theorem rd_orI (q : Q (.int (Builtin.bitOr n m)) H) : rOr (.int n) (.int m) H Q := ⟨n, m, rfl, rfl, q⟩
theorem rd_xorI (q : Q (.int (Builtin.bitXor n m)) H) : rXor (.int n) (.int m) H Q := ⟨n, m, rfl, rfl, q⟩
theorem rd_lt (q : Q (.bl (decide (n < m))) H) : rLt (.int n) (.int m) H Q := ⟨n, m, rfl, rfl, q⟩
theorem rd_le (q : Q (.bl (decide (n ≤ m))) H) : rLe (.int n) (.int m) H Q := ⟨n, m, rfl, rfl, q⟩
theorem rd_gt (q : Q (.bl (decide (m < n))) H) : rGt (.int n) (.int m) H Q := ⟨n, m, rfl, rfl, q⟩
theorem rd_ge (q : Q (.bl (decide (m ≤ n))) H) : rGe (.int n) (.int m) H Q := ⟨n, m, rfl, rfl, q⟩
theorem rd_neg (q : Q (.int (-n)) H) : rNeg (.int n) H Q := ⟨n, rfl, q⟩
end
theorem mul_okL {n m : Int} (h1 : -(2 ^ 64) < n) (h2 : n < 2 ^ 64) : IntMulOk n m := .of_left (intBits_le_64 h1 h2)
theorem mul_okR {n m : Int} (h1 : -(2 ^ 64) < m) (h2 : m < 2 ^ 64) : IntMulOk n m := .of_right (intBits_le_64 h1 h2)
theorem div_ok {n m : Int} {k : Nat} (h : 0 < m) (hm : m.natAbs < 2 ^ k) (hk : k ≤ 9000) (hp : 0 < k) : oDiv n m := ⟨h, PyProof.noPylong_of_log2 (Nat.lt_of_lt_of_le (PySem.Flt.log2_lt_of hp hm) hk)⟩
theorem div_ok64 {n m : Int} (h : 0 < m) (hm : m < 2 ^ 64) : oDiv n m := div_ok (k := 64) h (by omega) (by decide) (by decide)
end Eng
namespace Eng
open PySem PySem.Spec PyProof.Rows L2
section
variable {X : Cx} {CX : CXT} {k : Nat} {f : Addr} {fd : FuncData} {ps ks : List Str} {sp : Sp} {E : XK} {x : Str} {p pos : Pos} {kws : List Keyword} {tk : TA} {g : List Value → List Value} {gV : List V → List V} {n : Nat}
def tKw (n : Nat) (sp : Sp) (gV : List V → List V) (E : XK) (tk : TA) : TE := fun σ H Q => tk σ H fun zs H1 => zs.length = n ∧ sp (gV zs) H1 Q E
end
theorem adj_rev (n : Nat) : Builtin.Slice.sliceAdjust none none (-1) (n : Int) = ((n : Int) - 1, -1) := by
  unfold Builtin.Slice.sliceAdjust
  simp
theorem places_rev (n : Nat) : Builtin.Slice.slicePlaces ((n : Int) - 1) (-1) (-1) = n := by
  unfold Builtin.Slice.slicePlaces
  have h1 : ¬ ((-1 : Int) > 0) := by omega
  simp only [h1, if_false]
  have e : (-(-1) : Int) = 1 := by decide
  rw [e, Int.ediv_one]
  split <;> omega
theorem fm_congr {α β : Type} {f g : α → Option β} : ∀ {l : List α}, (∀ m ∈ l, f m = g m) → l.filterMap f = l.filterMap g
  | [], _ => rfl
  | a :: l, h => by
    rw [List.filterMap_cons, List.filterMap_cons, h a List.mem_cons_self, fm_congr fun m hm => h m (List.mem_cons_of_mem _ hm)]
theorem fm_all {α : Type} : ∀ (ys : List α), List.filterMap (fun m => ys[m]?) (List.range ys.length) = ys
  | [] => rfl
  | y :: ys => by
    rw [List.length_cons, List.range_succ_eq_map, List.filterMap_cons]
    have e : (y :: ys)[0]? = some y := rfl
    rw [e, List.filterMap_map]
    have e2 : ((fun m => (y :: ys)[m]?) ∘ Nat.succ) = fun m => ys[m]? := by funext m; simp
    show y :: List.filterMap ((fun m => (y :: ys)[m]?) ∘ Nat.succ) (List.range ys.length) = y :: ys
    rw [e2, fm_all ys]
theorem getElem?_rev (xs : List Value) (m : Nat) (h : m < xs.length) : xs[xs.length - 1 - m]? = xs.reverse[m]? := by
  rw [List.getElem?_reverse h]
theorem pick_rev (xs : Array Value) : ((List.range xs.size).filterMap fun (m : Nat) => xs[(((xs.size : Int) - 1) + (m : Int) * (-1)).toNat]?).toArray = xs.toList.reverse.toArray := by
  congr 1
  have e : ∀ m ∈ List.range xs.size, (fun (m : Nat) => xs[(((xs.size : Int) - 1) + (m : Int) * (-1)).toNat]?) m = (fun m => xs.toList.reverse[m]?) m := fun m hm => by
    have hm' : m < xs.size := List.mem_range.mp hm
    have e1 : (((xs.size : Int) - 1) + (m : Int) * (-1)).toNat = xs.toList.length - 1 - m := by rw [Array.length_toList]; omega
    show xs[(((xs.size : Int) - 1) + (m : Int) * (-1)).toNat]? = xs.toList.reverse[m]?
    rw [e1, ← getElem?_rev xs.toList m (by rw [Array.length_toList]; exact hm')]
    simp
  rw [fm_congr e]
  have hl : xs.size = xs.toList.reverse.length := by rw [List.length_reverse, Array.length_toList]
  rw [hl]
  exact fm_all _
section
variable {prog : Program} {w : World} {A : Around} {E : Value → Shared → Prop} {s : Shared}
theorem sliceApplied_rev {sl : Addr} {vs : Value} {n : Nat} {Q : Int × Int × Nat → Shared → Prop} (hs : s.heap.IsSliceOf sl .none .none vs) (ps : IsPart vs (some (-1)))
    (h : Q ((n : Int) - 1, -1, n) s) : wpAny (model prog w) A (Builtin.Slice.sliceApplied (.ref sl) (pure (n : Int))) Q E s := by
  obtain ⟨os, hos, hcs, hds⟩ := id hs
  unfold Builtin.Slice.sliceApplied Builtin.Slice.sliceFields
  refine wpAny_bind (wpAny_bind (wpAny_field hos hds (x := .none) rfl (wpAny_bind (wpAny_field hos hds (x := .none) rfl (wpAny_bind (wpAny_field hos hds (x := vs) rfl (wpAny_pure ?_)))))))
  refine wpAny_bind (HT.slicePart_ ps ?_)
  show wpAny _ _ (if ((-1 : Int) == 0) = true then _ else _) _ _ s
  rw [if_neg (by decide)]
  refine wpAny_bind (HT.slicePart_ .none (wpAny_bind (HT.slicePart_ .none (wpAny_bind (wpAny_pure ?_)))))
  show wpAny _ _ (match Builtin.Slice.sliceAdjust none none (-1) (n : Int) with | (lo, hi) => pure (lo, (-1 : Int), Builtin.Slice.slicePlaces lo hi (-1))) _ _ s
  rw [adj_rev n]
  show wpAny _ _ (pure ((n : Int) - 1, (-1 : Int), Builtin.Slice.slicePlaces ((n : Int) - 1) (-1) (-1))) _ _ s
  rw [places_rev]
  exact wpAny_pure h
theorem getItem_tuple_rev {t sl : Addr} {items : Array Value} {vs : Value} {Q : Value → Shared → Prop} (ht : IsTup s.heap t items) (hs : s.heap.IsSliceOf sl .none .none vs) (ps : IsPart vs (some (-1)))
    (h : Q (.ref s.heap.objs.size) { s with heap := s.heap.push { cls := .type "tuple", data := .seq items.toList.reverse.toArray } }) (hsz : items.size ≤ sizeLine) : wpAny (model prog w) A (getItem (.ref t) (.ref sl)) Q E s := by
  have htake : sizeOk (.seq items.toList.reverse.toArray) := by
    show items.toList.reverse.toArray.size ≤ sizeLine
    rw [List.size_toArray, List.length_reverse, Array.length_toList]
    exact hsz
  obtain ⟨os, hos, hcs, hds⟩ := id hs
  have hTs : s.TypeIs (.ref sl) "slice" := ⟨os, hos, hcs⟩
  unfold getItem
  try with_reducible refine wpAny_holding ?_
  first | refine wpAny_bind (wpAny_pure ?_) | skip
  refine wpAny_bind (wpAny_sequenceKey ht.typeIs (by decide) ?_)
  refine wpAny_bind (wpAny_callSpecial?_slot (name := Str.ofString "__getitem__") ht.typeIs PyProof.Rows.slot_tuple_getitem
    (wpAny_call_entry PyProof.Rows.slot_tuple_getitem ht.typeIs entry_tuple_getitem ?_ (args_tuple_getitem _ _)))
  show wpAny _ _ (Builtin.Tuple.tupleItemsOf (.ref t) >>= _) _ _ s
  refine wpAny_bind (tupleItemsOf_ ht ?_)
  refine wpAny_bind (wpAny_typeOf hTs ?_)
  rw [if_pos (by decide)]
  refine wpAny_bind (sliceApplied_rev hs ps ?_)
  have hno : ¬ ((((items.size : Int) - 1) == 0 && (-1 : Int) == 1 && items.size == items.size) = true) := by simp
  show wpAny _ _ (if (((items.size : Int) - 1) == 0 && (-1 : Int) == 1 && items.size == items.size) = true then _ else _) _ _ s
  rw [if_neg hno, pick_rev]
  first
    | exact wpAny_bind (m := Builtin.Tuple.tupleExact _) (wpAny_newObj_type (wpAny_pure ⟨_, rfl, wpAny_pure h⟩) htake)
    | exact wpAny_bind (m := Builtin.Tuple.tupleExact _) (wpAny_newObj_type (wpAny_bind (wpAny_pure (wpAny_pure ⟨_, rfl, wpAny_pure h⟩))) htake)
    | exact wpAny_bind (wpAny_bind (m := Builtin.Tuple.tupleExact _) (wpAny_newObj_type (wpAny_pure (wpAny_pure ⟨_, rfl, wpAny_pure h⟩)) htake))
    | exact wpAny_bind (wpAny_bind (m := Builtin.Tuple.tupleExact _) (wpAny_newObj_type (wpAny_pure ⟨_, rfl, wpAny_pure h⟩) htake))
end
section
variable {X : Cx}
def kRevT (K : PySem.W.Frag) (Q : VK) : VK := fun x H1 => ∃ a xs, x = .ref a ∧ SqT K H1 a xs ∧ ∀ p, H1 p = none → Q (.ref p) (upd H1 p (.tup xs.reverse))
def tRevT (K : PySem.W.Frag) (te : TE) : TE := fun σ H Q => te σ H (kRevT K Q)
theorem pe_revT {e : Expr} {te : TE} {k : Nat} {p1 p2 p3 pos : Pos} (he : PE X e te) : PE X (.Subscript e (.Slice none none (some (.UnaryOp .USub (.Constant (.int 1) k p1) p2)) p3) pos) (tRevT X.K te) := by
  refine ⟨fun pins s σ H Q I h => ?_⟩
  refine Subscript_ (thn (he.run pins s σ H _ I h) fun v s1 ⟨x, H1, I1, r1, q1⟩ => ?_)
  obtain ⟨a, xs, ex, hx, q⟩ := q1
  subst ex
  cases r1
  have hst : PO X (some (.UnaryOp .USub (.Constant (.int 1) k p1) p2)) (tPart (tUn (rU fun i => .int (-i)) (tC (.int 1)))) := po_some (pe_un un_neg pe_int)
  refine wpAny_Slice ?_
  rw [evalPart_none]
  refine wpAny_pure ?_
  refine wpAny_pure ?_
  refine thn (hst.run pins s1 σ H1 (fun o H4 => o = some (-1) ∧ H4 = H1) I1 ⟨1, rfl, -1, rfl, rfl, rfl⟩) fun vs s4 ⟨o, H4, I4, ps, eo, e4⟩ => ?_
  subst eo e4
  have I5 : Inv X pins σ H4 { s4 with heap := s4.heap.push { cls := .type "slice", data := .fields #[.none, .none, vs] } } := I4.kept (t' := s4.toks) fun b ob q => Heap.get?_push_of_some _ q
  obtain ⟨its, r, ht, hz⟩ := I5.tuple hx
  have hlen := r.length
  show wpAny (model X.prog X.w) X.A (subscriptTail e (.Slice none none (some (.UnaryOp .USub (.Constant (.int 1) k p1) p2)) p3) (.ref a) (.ref s4.heap.objs.size)) (EP X pins σ Q) X.xe { s4 with heap := s4.heap.push { cls := .type "slice", data := .fields #[.none, .none, vs] } }
  refine tail_any (ops := [.ref a, .ref s4.heap.objs.size]) ht.typeIs (PyProof.Rows.slot_tuple_getitem.lookup) ?_ (by with_unfolding_all rfl)
  refine getItem_tuple_rev ht (Heap.IsSliceOf.new _ .none .none vs) ps ?_ (by rw [List.size_toArray]; omega)
  refine ⟨.ref _, _, I5.laid (t' := s4.toks) (o := .tup xs.reverse) (fun b ob q => Heap.get?_push_of_some _ q) (Nat.le_refl _) ?_, rfl, q _ (I5.hok.fresh (Nat.le_refl _))⟩
  exact ⟨by rw [List.length_reverse]; exact hz, _, r.reverse, IsTup.new _ _⟩
end
section
variable {K : PySem.W.Frag} {σ : L2.St} {H H0 : Hp} {Q : VK} {te : TE} {a : Addr} {xs : List V} {M : List Addr} {L : List (Addr × HO)} {tl : TA} {n : Nat} {sp : Sp} {gV : List V → List V} {E : XK}
theorem rd_revT (q : te σ H (kRevT K Q)) : tRevT K te σ H Q := q
theorem rd_kRevT (W : Wd H0 H M L) (h : SqT K H a xs) (q : ∀ p H', H0 p = none → Wd H0 H' M ((p, .tup xs.reverse) :: L) → Q (.ref p) H') : kRevT K Q (.ref a) H :=
  ⟨a, xs, rfl, h, fun p hp => q p _ (W.fresh hp) (W.new hp)⟩
theorem rd_kw (q : tl σ H fun zs H1 => zs.length = n ∧ sp (gV zs) H1 Q E) : tKw n sp gV E tl σ H Q := q
end
end Eng
namespace Eng
open PySem PySem.Spec PyProof.Rows L2
/-- x == y by the promise sp of the class's own __eq__ -/
def rOwnEq (K : PySem.W.Frag) (C : Addr) (sp : Sp) (E : XK) : R2 := fun x y H Q => ∃ a dx fs tb, x = .ref a ∧ H a = some (.ins C dx fs) ∧ TyX K H y tb ∧ PySem.W.notFirst K C tb = true ∧ sp [x, y] H (fun v H' => ∃ b, v = .bl b ∧ Q (.bl b) H') E
/-- x != y of two of the class -/
def rOwnNe (K : PySem.W.Frag) (C : Addr) (sp : Sp) (E : XK) : R2 := fun x y H Q => ∃ a dx fs a' dx' fs', x = .ref a ∧ y = .ref a' ∧ H a = some (.ins C dx fs) ∧ H a' = some (.ins C dx' fs') ∧ sp [x, y] H (fun v H' => ∃ b, v = .bl b ∧ Q (.bl (!b)) H') E
/-- what the top tells of a class with an own __eq__ and no __ne__ -/
structure NeTxt (K : PySem.W.Frag) (C f : Addr) : Prop where
  ex : ∃ (nm q : Str) (N : Addr) (bs : List Value) (hdct : Bool) (sn : List Str) (sub : List Value) (ab : Bool) (col : Option Bool) (dd : Option Addr) (k0 k1 k2 k3 k5 : Option Value) (newId : String) (oN : Obj) (es : Array DictEntry) (ep : Nat),
    K.lookup C = some (excClassObj nm q C N bs [.type "object"] hdct sn sub ab col dd k0 k1 k2 k3 k5 newId) ∧ K.lookup N = some oN ∧ oN.data = .dict es ep ∧ StrKeys es ∧ nsFind es "__eq__" = some (.ref f) ∧ nsFind es "__ne__" = none
  fn : ∃ fo, K.lookup f = some fo ∧ fo.cls = .type "function"
section
variable {X : Cx} {CX : CXT} {n : Nat} {C f : Addr} {fd : FuncData} {ps : List Str} {sp : Sp} {E : XK} {pins : List (Addr × Obj)} {σ : L2.St} {H : Hp} {s : Shared}
theorem run_own {A : Around} {x y : V} {u v : Value} {Q : VK} (F : FnOk X.prog X.w X.K X.mg X.base CX n f fd ps sp) (sb : Sub X n A) (hb : Binds X.K fd ps []) (hx : Passes CX X E) (I : Inv X pins σ H s) (rx : RelV x u) (ry : RelV y v)
    (h : sp [x, y] H Q E) : wpAny (model X.prog X.w) A (call (.ref f) [u, v]) (fun z s' => EP X pins σ Q z s') X.xe s := by
  have e0 : Env0 X.prog X.w X.K X.mg X.base A X.stack s H := by
    have e := I.env0
    exact ⟨by rw [sb.fr]; exact e.frames, e.mod, e.bs, e.bsz, e.funs, e.frf, e.hok, e.bare⟩
  have hl := F.len _ _ _ _ h
  have r2 : Vals [x, y] [u, v] := .cons rx (.cons ry .nil)
  refine wpAny_call (codeAny_mono (F.run A X.stack s H ⟨[u, v], []⟩ [u, v] [x, y] _ E sb.room e0 (by
    have := hb s [u, v] I.kIn (by simpa using hl)
    simpa using this) r2 h) fun r s' hq => ?_)
  cases r with
  | error e => exact hx pins σ H s e s' I hq
  | ok fl =>
    cases fl with
    | ret w => exact I.after hq
    | next => exact False.elim hq
    | brk => exact False.elim hq
    | cont => exact False.elim hq
theorem o_ownEq (F : FnOk X.prog X.w X.K X.mg X.base CX n f fd ps sp) (hr : Room n X.A) (hs : PySem.W.findIn X.K (.ref C) "__eq__" = some (some (.ref f))) (hf : PySem.W.isFn X.K (.ref f) = true) (hb : Binds X.K fd ps []) (hx : Passes CX X E) :
    OpR X (compareOp .Eq) (rOwnEq X.K C sp E) := by
  intro pins s σ H x y u v Q I rx ry h
  obtain ⟨a, dx, fs, tb, rfl, ha, ty, hn, h⟩ := h
  cases rx
  obtain ⟨P, Z, p, _⟩ := kit_of I ry ty
  obtain ⟨mA, J, _⟩ := ins_get I.hok ha
  obtain ⟨od, J, _⟩ := J.look
  obtain ⟨m, hF⟩ := I.fr
  show wpAny (model X.prog X.w) X.A (richCompare .Eq (.ref a) v) (EP X pins σ Q) X.xe s
  refine PySem.W.cmp_K (op := .Eq) (tb := tb) hr.units0 hF I.ok.mod.kin J (Z.ty _ _ I.kIn p) hn hs hf ?_
  refine wpAny_mono (run_own F ⟨hr, rfl⟩ hb hx I (x := .ref a) rfl ry h) (fun z s' hz => ?_) fun _ _ e => e
  obtain ⟨zv, H', I', rz, b, rfl, q⟩ := hz
  cases rz
  exact ⟨.bl b, H', I', rfl, q⟩
theorem o_ownNe (T : NeTxt X.K C f) (F : FnOk X.prog X.w X.K X.mg X.base CX n f fd ps sp) (hr : Room (n + 1) X.A) (hb : Binds X.K fd ps []) (hx : Passes CX X E) :
    OpR X (compareOp .NotEq) (rOwnNe X.K C sp E) := by
  intro pins s σ H x y u v Q I rx ry h
  obtain ⟨a, dx, fs, a', dx', fs', rfl, rfl, ha, ha', h⟩ := h
  cases rx
  cases ry
  obtain ⟨_, _, _, e1, _⟩ := (show ObjOk X.prog X.w H s.heap a (.ins C dx fs) from I.hok a _ ha)
  obtain ⟨_, _, _, e2, _⟩ := (show ObjOk X.prog X.w H s.heap a' (.ins C dx' fs') from I.hok a' _ ha')
  obtain ⟨nm, q, N, bs, hdct, sn, sub, ab, col, dd, k0, k1, k2, k3, k5, newId, oN, es, ep, lC, lN, hd, hk, h1, h2⟩ := T.ex
  obtain ⟨fo, lf, hfo⟩ := T.fn
  have XX : s.heap.OwnEqNoNe a C f "object" [.type "object"] :=
    ⟨_, fo, nm, q, N, bs, hdct, sn, sub, ab, col, dd, k0, k1, k2, k3, k5, newId, nsFind es, some (.builtin "object.__eq__"), e1, rfl, I.kIn _ _ lC, ⟨oN, es, ep, I.kIn _ _ lN, hd, hk, fun _ => rfl⟩, h1, I.kIn _ _ lf, hfo, PySem.F.cmp_object.mro, PySem.F.cmp_object.eq.lookup, h2⟩
  obtain ⟨hp, g, d, t, os⟩ := s
  have hu : X.A.units + 1 < cLine := hu_of hr
  refine compareOp_ne_ownEq PySem.F.cmp_object XX e2 rfl hu ?_
  refine wpAny_mono (run_own F ⟨hr.in1, rfl⟩ hb hx I (x := .ref a) (y := .ref a') rfl rfl h) (fun z s' hz => ?_) fun _ _ e => e
  obtain ⟨zv, H', I', rz, b, rfl, q⟩ := hz
  cases rz
  exact ⟨b, rfl, .bl (!b), H', I', rfl, q⟩
end
section
variable {K : PySem.W.Frag} {C a a' dx dx' : Addr} {fs fs' : List (Str × V)} {sp : Sp} {E : XK} {H : Hp} {Q : VK} {y : V} {tb : Value}
theorem rd_ownEq (h : H a = some (.ins C dx fs)) (ty : TyX K H y tb) (hn : PySem.W.notFirst K C tb = true) (q : sp [.ref a, y] H (fun v H' => ∃ b, v = .bl b ∧ Q (.bl b) H') E) : rOwnEq K C sp E (.ref a) y H Q := ⟨a, dx, fs, tb, rfl, h, ty, hn, q⟩
theorem rd_ownNe (h : H a = some (.ins C dx fs)) (h' : H a' = some (.ins C dx' fs')) (q : sp [.ref a, .ref a'] H (fun v H' => ∃ b, v = .bl b ∧ Q (.bl (!b)) H') E) : rOwnNe K C sp E (.ref a) (.ref a') H Q := ⟨a, dx, fs, a', dx', fs', rfl, rfl, h, h', q⟩
end
def rAnyI (K : PySem.W.Frag) : List V → Hp → VK → Prop := fun vs H Q => ∃ (a : Addr) (ns : List Int), vs = [V.ref a] ∧ SqL K H a (ns.map V.int) ∧ Q (.bl (ns.any fun n => n != 0)) H
def rMax2 : List V → Hp → VK → Prop := fun xs H Q => ∃ i j, xs = [.int i, .int j] ∧ Q (.int (if j > i then j else i)) H
def rMin2 : List V → Hp → VK → Prop := fun xs H Q => ∃ i j, xs = [.int i, .int j] ∧ Q (.int (if j < i then j else i)) H
section
variable {X : Cx}
theorem c_max (hc : X.calm = true) : CallR X (.builtin "max") rMax2 := call_max2 hc
theorem c_min (hc : X.calm = true) : CallR X (.builtin "min") rMin2 := call_min2 hc
end
section
variable {K : PySem.W.Frag} {H H0 : Hp} {Q : VK} {a : Addr} {ns : List Int} {bs : List Bool} {n m : Int} {M : List Addr} {L : List (Addr × HO)} {xs : List V}
theorem rd_anyI (h : SqL K H a (ns.map V.int)) (q : Q (.bl (ns.any fun n => n != 0)) H) : rAnyI K [.ref a] H Q := ⟨a, ns, rfl, h, q⟩
theorem rd_max (q : Q (.int (if m > n then m else n)) H) : rMax2 [.int n, .int m] H Q := ⟨n, m, rfl, q⟩
theorem rd_min (q : Q (.int (if m < n then m else n)) H) : rMin2 [.int n, .int m] H Q := ⟨n, m, rfl, q⟩
end
end Eng
namespace Eng
open PySem PySem.Spec PyProof.Rows L2
set_option maxHeartbeats 1000000 in
theorem meets_enum1 {v : Value} {o : Obj} {H : Heap → Prop} (B : Begins v o H) :
    Meets (Builtin.«enumerate.__new__» ⟨[.type "enumerate", v], []⟩) (fun _ R s => H s.heap ∧
      R (.ok (.ret (.ref (s.heap.push o).objs.size))) { s with heap := (s.heap.push o).push { cls := .type "enumerate", data := .fields #[.none, .bool false, .ref s.heap.objs.size, rawInt 0, .none, .none] } }) :=
  .of_wp fun prog w A R s h => by
    obtain ⟨hp, g, d, tk, os⟩ := s; obtain ⟨h1, h⟩ := h
    have hsub := sub_enumerate
    have q1 : ∀ {A' : Around} {E : Value → Shared → Prop} {Q : Value → Shared → Prop}, Q (.ref hp.objs.size) ⟨hp.push o, g, d, tk, os⟩ → wpAny (model prog w) A' (pyIter v) Q E ⟨hp, g, d, tk, os⟩ :=
      fun q => B.iter prog w _ _ ⟨hp, g, d, tk, os⟩ _ h1 q
    wp_walk using q1
    refine wpAny_stack_any fun st => wpAny_pure ?_
    split
    · rename_i c _ _ _ _ _
      cases (c == Value.type "enumerate")
      · wp_walk using q1
        exact ⟨_, rfl, h⟩
      · wp_walk using q1
        exact ⟨_, rfl, h⟩
    · wp_walk using q1
      exact ⟨_, rfl, h⟩
theorem enum_begins1 {prog : Program} {w : World} {A : Around} {E : Value → Shared → Prop} {s : Shared} {v : Value} {o : Obj} {H : Heap → Prop} {Q : Value → Shared → Prop} (B : Begins v o H) (h1 : H s.heap)
    (h : ∀ h', IsEnum h' (s.heap.objs.size + 1) s.heap.objs.size 0 .none → h'.get? s.heap.objs.size = some o → h'.objs.size = s.heap.objs.size + 2 →
      (∀ b o, s.heap.get? b = some o → h'.get? b = some o) → Q (.ref (s.heap.objs.size + 1)) { s with heap := h' }) :
    wpAny (model prog w) A (call (.type "enumerate") [v]) Q E s := by
  refine callType_new F.called_enumerate (by decide) (F.typeCall_enumerate_1 _) (F.newCall_enumerate_1 _) (fun obj => F.args_object_init_2 obj _) F.entry_enumerate_new
    (meets_enum1 B) ⟨h1, ?_⟩
  have hz : (s.heap.push o).objs.size = s.heap.objs.size + 1 := Heap.size_push ..
  show _ ∧ _
  rw [hz]
  have he : IsEnum ((s.heap.push o).push { cls := .type "enumerate", data := .fields #[.none, .bool false, .ref s.heap.objs.size, rawInt 0, .none, .none] }) (s.heap.objs.size + 1) s.heap.objs.size 0 .none := by
    have := Heap.get?_push_size (s.heap.push o) (o := { cls := .type "enumerate", data := .fields #[.none, .bool false, .ref s.heap.objs.size, rawInt 0, .none, .none] }) rfl
    rw [hz] at this; exact this
  refine ⟨⟨_, he, rfl⟩, h _ he (Heap.get?_push_of_some _ (Heap.get?_push_size _ B.free)) (by rw [Heap.size_push, hz]) fun b o x => Heap.get?_push_of_some _ (Heap.get?_push_of_some _ x)⟩
/-- the tuple at a, each item in a new pair -/
def IteT (K : PySem.W.Frag) (a : Addr) : It :=
  ⟨fun i H => ∃ (xs : List V) (x : V), SqT K H a xs ∧ xs[i]? = some x, fun i H v H' => ∃ T x, v = .ref T ∧ H T = none ∧ H' = upd H T (.tup [.int (i : Nat), x]) ∧ ∀ xs, SqT K H a xs → xs[i]? = some x, fun i H => ∃ xs : List V, SqT K H a xs ∧ xs.length ≤ i⟩
/-- at the end a tuple's iterator draws no more -/
theorem draws_end {prog : Program} {w : World} {A : Around} (hh : A.handled = none) (it t : Addr) (items : Array Value) (i : Nat) (hx : items[i]? = none) :
    Draws prog w A it [it, t] i (fun _ _ => True) (fun j h => j = i ∧ h.IsTupleIter it t i ∧ h.IsTuple t items) where
  live := fun _ _ st => let ⟨o, ho, _⟩ := st.2.1; ⟨o, ho⟩
  frame := fun _ _ _ st hk => ⟨st.1, st.2.1.at fun o e => hk it (by simp) o e, st.2.2.at fun o e => hk t (by simp) o e⟩
  item := fun j s Q E hj st _ => absurd st.1 (Nat.ne_of_lt hj)
  done := fun s Q E st hE => wpAny_nextOf_tuple_end hh st.2.1 st.2.2 hx hE
theorem turn_enumT {P : Program} {w : World} {K : PySem.W.Frag} {elts : List Expr} {kk : Nat} {tpos : Pos} (a e it : Addr) :
    Turn P w K (.Tuple elts kk tpos) (IteT K a) [e, it] e (fun i h => (∃ old, IsEnum h e it ((i : Nat) : Int) old) ∧ h.IsTupleIter it a i ∧ e ≠ it) where
  mem := by simp
  obj := fun i h st b hb => by
    obtain ⟨⟨old, he⟩, ⟨o, ho, hc, hd⟩, _⟩ := st
    have e' : b = e ∨ b = it := by simpa using hb
    rcases e' with z | z
    · rw [z]; exact ⟨_, he, fun v q => nomatch q⟩
    · rw [z]; exact ⟨o, ho, fun v q => by rw [hd] at q; cases q⟩
  keep := fun i h h' st k => let ⟨⟨old, he⟩, hi, hne⟩ := st; ⟨⟨old, k e (by simp) _ he⟩, hi.at fun o q => k it (by simp) o q, hne⟩
  item := by
    intro X hP hw hK hc i pins s σ H E I hf st hg
    subst hP hw hK
    obtain ⟨⟨old, he⟩, hit, hne⟩ := st
    obtain ⟨xs, x, hq, hx⟩ := hg
    obtain ⟨its, rv, p, hz⟩ := I.tuple hq
    have p' : s.heap.IsTuple a its.toArray := p
    obtain ⟨u, hu, ru⟩ := rv.get hx
    have hel : e < s.heap.objs.size := Heap.lt_size he
    have hil : it < s.heap.objs.size := by obtain ⟨_, q, _⟩ := hit; exact Heap.lt_size q
    obtain ⟨oa, ha1, ha2, na, ha3⟩ := id p'
    have nae : a ≠ e := fun z => by
      have he' : s.heap.get? e = some _ := he
      rw [← z, ha1] at he'
      have := congrArg Obj.cls (Option.some.inj he')
      rw [ha2] at this
      injection this with q
      exact absurd q (by decide)
    have nai : a ≠ it := fun z => by
      obtain ⟨oi, hi1, hi2, hi3⟩ := hit
      rw [← z, ha1] at hi1
      have := congrArg Obj.cls (Option.some.inj hi1)
      rw [ha2, hi2] at this
      injection this with q
      exact absurd q (by decide)
    have hs : i < its.toArray.size := by
      have := (List.getElem?_eq_some_iff.mp hu).1
      simpa using this
    refine wpAny_pyNext_enum_itemD (Draws.tuple (A := X.A.in1) (show X.A.in1.handled = none from I.ok.hd hc) it a nai its.toArray) he ⟨hit, p'⟩ hs hne (by simp; exact ⟨hne, fun z => nae z.symm⟩) fun x' h' tk hP ho hst' hT hsz hk => ?_
    have hxu : x' = u := by
      have h1 : its.toArray[i]? = some x' := hP
      have h2 : its.toArray[i]? = some u := by simpa using hu
      rw [h1] at h2; exact Option.some.inj h2
    subst hxu
    refine ⟨_, rfl, wpAny_letOwnedTupleGo_enum (s := { s with heap := h', toks := tk + 1 }) ho fun h'' he' sb => ?_⟩
    have hT2 : h''.get? s.heap.objs.size = some { cls := .type "tuple", data := .seq #[.int i tk, x'] } := (sb.2 _ (Nat.ne_of_gt hel)).trans hT
    have new : ObjOk X.prog X.w (upd H s.heap.objs.size (.tup [.int (i : Nat), x])) h'' s.heap.objs.size (.tup [.int (i : Nat), x]) :=
      ⟨by show 2 ≤ sizeLine; decide, [.int i tk, x'], .cons ⟨_, rfl⟩ (.cons ru .nil), ⟨_, hT2, rfl, _, rfl⟩⟩
    have I1 : Inv X pins σ (upd H s.heap.objs.size (.tup [.int (i : Nat), x])) { s with heap := h'', toks := tk + 1 } :=
      I.turnedNew (ch := [e, it]) (fun b ob hb q => (sb.2 b (fun z => hb (by simp [z]))).trans (hk b ob (fun z => hb (by simp [z])) (fun z => hb (by simp [z])) q)) hf (Nat.le_refl _) new
    refine ⟨.ref s.heap.objs.size, _, I1, rfl, ⟨_, x, rfl, I.hok.fresh (Nat.le_refl _), rfl, fun ys hy => by rw [I.tuple_inj hy hq]; exact hx⟩, ⟨⟨x', ?_⟩, hst'.1.at fun o q => (sb.2 it (Ne.symm hne)).trans q, hne⟩, fun b hb => ?_⟩
    · have e1 : ((i + 1 : Nat) : Int) = (i : Int) + 1 := by omega
      rw [e1]; exact he'
    · have hb' : b < s.heap.objs.size := by
        have e' : b = e ∨ b = it := by simpa using hb
        rcases e' with z | z
        · rw [z]; exact hel
        · rw [z]; exact hil
      rw [upd_ne (Nat.ne_of_lt hb')]
      exact (hf b hb).1
  done := by
    intro X hP hw hK hc i pins s σ H E I hf st hg
    subst hP hw hK
    obtain ⟨⟨old, he⟩, hit, hne⟩ := st
    obtain ⟨xs, hq, hx⟩ := hg
    obtain ⟨its, rv, p, hz⟩ := I.tuple hq
    have p' : s.heap.IsTuple a its.toArray := p
    obtain ⟨f0, f1, f2, f3, f4, f5⟩ := hf it (by simp)
    have hl := rv.length
    have hn : its.toArray[i]? = none := by simp; omega
    exact wpAny_pyNext_enum_endD (draws_end (A := X.A.in1) (show X.A.in1.handled = none from I.ok.hd hc) it a its.toArray i hn) he ⟨rfl, hit, p'⟩ fun h' eb => ⟨rfl, I.turned (t' := s.toks) (fun b o hb q => eb b o hb q) f0 f1 f3 f4 f5⟩
  self := fun A i s Q E st h => let ⟨⟨_, he⟩, _⟩ := st; wpAny_pyIter_enum he h
def iEnumA (K : PySem.W.Frag) (ta : TA) : TI := fun σ H R => ta σ H fun vs H1 => ∃ a xs, vs = [.ref a] ∧ ((SqL K H1 a xs ∧ R (Ite K a) H1) ∨ (SqT K H1 a xs ∧ R (IteT K a) H1))
theorem pi_enumA {X : Cx} {e : Expr} {ta : TA} {p pos tpos : Pos} {elts : List Expr} {kk : Nat} (hg : Gl X "enumerate") (hm : X.mg "enumerate" = none) (ha : PA X [e] ta) (hs : starEach [e] X.env = [(false, eval e X.env)] := by rfl) :
    PI X (.Tuple elts kk tpos) (.Call (.Name "enumerate" p) [e] [] pos) (iEnumA X.K ta) := by
  refine ⟨fun pins s σ H R I h => ?_⟩
  refine Call_ (ld_blt I hg hm boot_enumerate (PyProof.Rows.callWith_type1 (thn (ha.run pos pins s σ H _ I h) fun us s1 ⟨vs, H1, I1, r1, q1⟩ => ?_) hs rfl))
  obtain ⟨a, xs, ex, hq⟩ := q1
  subst ex
  cases r1 with
  | cons r rr =>
    cases rr
    cases r
    have fpo : ∀ b ∈ [s1.heap.objs.size + 1, s1.heap.objs.size], FpOk X pins H1 b := fun b hb => by
      have e' : b = s1.heap.objs.size + 1 ∨ b = s1.heap.objs.size := by simpa using hb
      have hle : s1.heap.objs.size ≤ b := by
        rcases e' with z | z
        · rw [z]; exact Nat.le_add_right _ _
        · rw [z]; exact Nat.le_refl _
      exact I1.fpOk hle (I1.hok.fresh hle)
    rcases hq with ⟨hq, q⟩ | ⟨hq, q⟩
    · obtain ⟨its, rv, p', hz⟩ := I1.list hq
      refine call_enumerate_list p'.isList fun h' he hit hsz hk => wpAny_pyIter_enum he ?_
      have I2 : Inv X pins σ H1 { s1 with heap := h' } := I1.kept (t' := s1.toks) hk
      exact ⟨s1.heap.objs.size + 1, [s1.heap.objs.size + 1, s1.heap.objs.size], _, _, H1, rfl, I2, turn_enum a (s1.heap.objs.size + 1) s1.heap.objs.size, ⟨⟨.none, he⟩, hit, Nat.succ_ne_self _⟩, fpo, q⟩
    · obtain ⟨its, rv, p', hz⟩ := I1.tuple hq
      refine enum_begins1 (begins_tuple a its.toArray) p' fun h' he hit hsz hk => wpAny_pyIter_enum he ?_
      have I2 : Inv X pins σ H1 { s1 with heap := h' } := I1.kept (t' := s1.toks) hk
      exact ⟨s1.heap.objs.size + 1, [s1.heap.objs.size + 1, s1.heap.objs.size], _, _, H1, rfl, I2, turn_enumT a (s1.heap.objs.size + 1) s1.heap.objs.size, ⟨⟨.none, he⟩, ⟨_, hit, rfl, rfl⟩, Nat.succ_ne_self _⟩, fpo, q⟩
def rIxA (K : PySem.W.Frag) : R2 := fun x y H Q => rIxL K x y H Q ∨ rIxT K x y H Q
theorem ix_any {X : Cx} : IxR X (rIxA X.K) := ix_list.or ix_tup
end Eng
namespace Eng
/-- without zeros at the end -/
def strip : List Nat → List Nat
  | [] => []
  | d :: ds => match strip ds with
    | [] => if d = 0 then [] else [d]
    | e :: es => d :: e :: es
theorem strip_nil : strip [] = [] := rfl
theorem strip_cons (d : Nat) (ds : List Nat) : strip (d :: ds) = if strip ds = [] then (if d = 0 then [] else [d]) else d :: strip ds := by
  show (match strip ds with | [] => if d = 0 then [] else [d] | e :: es => d :: e :: es) = _
  cases h : strip ds with
  | nil => simp
  | cons e es => simp
theorem strip_zeros : ∀ {ds : List Nat}, (∀ d ∈ ds, d = 0) → strip ds = []
  | [], _ => rfl
  | d :: ds, h => by
    rw [strip_cons, strip_zeros (fun x hx => h x (List.mem_cons_of_mem _ hx)), if_pos rfl, if_pos (h d List.mem_cons_self)]
theorem strip_app_zeros : ∀ (ds : List Nat) {zs : List Nat}, (∀ d ∈ zs, d = 0) → strip (ds ++ zs) = strip ds
  | [], zs, h => by rw [List.nil_append, strip_zeros h]; rfl
  | d :: ds, zs, h => by rw [List.cons_append, strip_cons, strip_cons, strip_app_zeros ds h]
theorem strip_app_ne : ∀ (ds : List Nat) {d : Nat}, d ≠ 0 → strip (ds ++ [d]) = ds ++ [d]
  | [], d, h => by rw [List.nil_append, strip_cons, strip_nil, if_pos rfl, if_neg h]
  | e :: ds, d, h => by rw [List.cons_append, strip_cons, strip_app_ne ds h, if_neg (by simp)]
theorem strip_length : ∀ ds : List Nat, (strip ds).length ≤ ds.length
  | [] => Nat.le_refl _
  | d :: ds => by
    have ih := strip_length ds
    rw [strip_cons]
    split
    · split <;> simp
    · simp; exact ih
theorem strip_mem : ∀ {ds : List Nat} {d : Nat}, d ∈ strip ds → d ∈ ds
  | [], _, h => h
  | e :: ds, d, h => by
    rw [strip_cons] at h
    split at h
    · split at h
      · cases h
      · rw [List.mem_singleton.mp h]; exact List.mem_cons_self
    · rcases List.mem_cons.mp h with z | z
      · rw [z]; exact List.mem_cons_self
      · exact List.mem_cons_of_mem _ (strip_mem z)
/-- in normal form -/
def Norm (ds : List Nat) : Prop := strip ds = ds
theorem strip_norm : ∀ ds : List Nat, Norm (strip ds)
  | [] => rfl
  | d :: ds => by
    unfold Norm
    have ih : strip (strip ds) = strip ds := strip_norm ds
    rw [strip_cons]
    by_cases h : strip ds = []
    · rw [if_pos h]
      by_cases h0 : d = 0
      · rw [if_pos h0]; rfl
      · rw [if_neg h0, strip_cons, strip_nil, if_pos rfl, if_neg h0]
    · rw [if_neg h, strip_cons, ih, if_neg h]
theorem Norm.tail {d : Nat} {ds : List Nat} (h : Norm (d :: ds)) : Norm ds := by
  unfold Norm at *
  rw [strip_cons] at h
  by_cases h1 : strip ds = []
  · rw [if_pos h1] at h
    by_cases h0 : d = 0
    · rw [if_pos h0] at h; cases h
    · rw [if_neg h0] at h
      have : ds = [] := by simpa using h.symm
      rw [this]; rfl
  · rw [if_neg h1] at h
    exact (List.cons.inj h).2
theorem Norm.last {ds : List Nat} (h : Norm ds) (hn : ds ≠ []) : ∃ es d, ds = es ++ [d] ∧ d ≠ 0 := by
  have e : ds = ds.dropLast ++ [ds.getLast hn] := (List.dropLast_concat_getLast hn).symm
  refine ⟨ds.dropLast, ds.getLast hn, e, fun z => ?_⟩
  unfold Norm at h
  have h2 : strip (ds.dropLast ++ [ds.getLast hn]) = ds := by rw [← e]; exact h
  rw [z, strip_app_zeros _ (by simp)] at h2
  have l := strip_length ds.dropLast
  rw [h2, List.length_dropLast] at l
  have : 0 < ds.length := List.length_pos_iff.mpr hn
  omega
/-- the value of a row of digits of b bits -/
def val (b : Nat) : List Nat → Nat
  | [] => 0
  | d :: ds => d + 2 ^ b * val b ds
theorem val_nil (b : Nat) : val b [] = 0 := rfl
theorem val_cons (b d : Nat) (ds : List Nat) : val b (d :: ds) = d + 2 ^ b * val b ds := rfl
theorem val_app (b : Nat) : ∀ (ds es : List Nat), val b (ds ++ es) = val b ds + 2 ^ (b * ds.length) * val b es
  | [], es => by simp [val]
  | d :: ds, es => by
    rw [List.cons_append, val_cons, val_cons, val_app b ds es, List.length_cons, Nat.mul_add, Nat.mul_add, Nat.mul_one, Nat.pow_add, Nat.add_assoc, Nat.mul_comm (2 ^ (b * ds.length)) (2 ^ b), Nat.mul_assoc]
theorem val_zeros (b : Nat) : ∀ {ds : List Nat}, (∀ d ∈ ds, d = 0) → val b ds = 0
  | [], _ => rfl
  | d :: ds, h => by rw [val_cons, val_zeros b (fun x hx => h x (List.mem_cons_of_mem _ hx)), h d List.mem_cons_self]; rfl
theorem val_strip (b : Nat) : ∀ ds : List Nat, val b (strip ds) = val b ds
  | [] => rfl
  | d :: ds => by
    have ih := val_strip b ds
    rw [strip_cons, val_cons]
    by_cases h : strip ds = []
    · rw [if_pos h]
      rw [h] at ih
      rw [← ih]
      by_cases h0 : d = 0
      · rw [if_pos h0, h0]; rfl
      · rw [if_neg h0]; rfl
    · rw [if_neg h, val_cons, ih]
/-- all below 2 ^ b -/
def Digs (b : Nat) (ds : List Nat) : Prop := ∀ d ∈ ds, d < 2 ^ b
theorem val_lt {b : Nat} : ∀ {ds : List Nat}, Digs b ds → val b ds < 2 ^ (b * ds.length)
  | [], _ => by simp [val]
  | d :: ds, h => by
    have ih := val_lt (b := b) (ds := ds) fun x hx => h x (List.mem_cons_of_mem _ hx)
    have hd := h d List.mem_cons_self
    rw [val_cons, List.length_cons, Nat.mul_add, Nat.mul_one, Nat.pow_add]
    have h1 : 2 ^ b * (val b ds + 1) ≤ 2 ^ b * 2 ^ (b * ds.length) := Nat.mul_le_mul_left _ ih
    rw [Nat.mul_add, Nat.mul_one] at h1
    rw [Nat.mul_comm (2 ^ (b * ds.length))]
    omega
/-- the digits of n -/
def digs (b n : Nat) : List Nat := if h : n = 0 ∨ b = 0 then [] else n % 2 ^ b :: digs b (n / 2 ^ b)
termination_by n
decreasing_by
  have hn : 0 < n := Nat.pos_of_ne_zero fun z => h (.inl z)
  have hb : 1 < 2 ^ b := Nat.one_lt_two_pow fun z => h (.inr z)
  exact Nat.div_lt_self hn hb
theorem digs_zero (b : Nat) : digs b 0 = [] := by rw [digs, dif_pos (.inl rfl)]
theorem digs_pos {b n : Nat} (hb : b ≠ 0) (hn : n ≠ 0) : digs b n = n % 2 ^ b :: digs b (n / 2 ^ b) := by
  rw [digs, dif_neg (fun z => z.elim hn hb)]
theorem digs_ind {b : Nat} (hb : b ≠ 0) {P : Nat → Prop} (h0 : P 0) (hs : ∀ n, n ≠ 0 → P (n / 2 ^ b) → P n) (n : Nat) : P n := by
  induction n using Nat.strongRecOn with
  | _ n ih =>
    by_cases hn : n = 0
    · rw [hn]; exact h0
    · exact hs n hn (ih _ (Nat.div_lt_self (Nat.pos_of_ne_zero hn) (Nat.one_lt_two_pow hb)))
theorem val_digs {b : Nat} (hb : b ≠ 0) (n : Nat) : val b (digs b n) = n := by
  refine digs_ind hb (P := fun n => val b (digs b n) = n) ?_ (fun n hn ih => ?_) n
  · rw [digs_zero]; rfl
  · rw [digs_pos hb hn, val_cons, ih]
    exact Nat.mod_add_div n (2 ^ b)
theorem digs_lt {b : Nat} (hb : b ≠ 0) (n : Nat) : Digs b (digs b n) := by
  refine digs_ind hb (P := fun n => Digs b (digs b n)) ?_ (fun n hn ih => ?_) n
  · rw [digs_zero]; intro d h; cases h
  · rw [digs_pos hb hn]
    intro d h
    rcases List.mem_cons.mp h with z | z
    · rw [z]; exact Nat.mod_lt _ (Nat.two_pow_pos b)
    · exact ih d z
theorem digs_norm {b : Nat} (hb : b ≠ 0) (n : Nat) : Norm (digs b n) := by
  refine digs_ind hb (P := fun n => Norm (digs b n)) ?_ (fun n hn ih => ?_) n
  · rw [digs_zero]; rfl
  · rw [digs_pos hb hn]
    unfold Norm at *
    rw [strip_cons, ih]
    by_cases h : digs b (n / 2 ^ b) = []
    · rw [if_pos h, h]
      have hv := val_digs hb (n / 2 ^ b)
      rw [h] at hv
      have hm := Nat.mod_add_div n (2 ^ b)
      rw [← hv, val_nil, Nat.mul_zero, Nat.add_zero] at hm
      rw [if_neg (by rw [hm]; exact hn)]
    · rw [if_neg h]
theorem digs_eq_nil {b n : Nat} (hb : b ≠ 0) : digs b n = [] ↔ n = 0 := by
  constructor
  · intro h
    have hv := val_digs hb n
    rw [h] at hv
    exact hv.symm
  · intro h; rw [h, digs_zero]
/-- rows in normal form are the digits of their value -/
theorem digs_val {b : Nat} (hb : b ≠ 0) : ∀ {ds : List Nat}, Digs b ds → Norm ds → digs b (val b ds) = ds
  | [], _, _ => by rw [val_nil, digs_zero]
  | d :: ds, hd, hn => by
    have h1 : d < 2 ^ b := hd d List.mem_cons_self
    have h2 : Digs b ds := fun x hx => hd x (List.mem_cons_of_mem _ hx)
    have ih := digs_val hb h2 hn.tail
    have hz : val b (d :: ds) ≠ 0 := fun z => by
      have e := (val_strip b (d :: ds)).symm
      obtain ⟨es, x, e1, e2⟩ := hn.last (by simp)
      rw [e1, val_app] at z
      have := Nat.two_pow_pos (b * es.length)
      have : 2 ^ (b * es.length) * val b [x] = 0 := by omega
      rcases Nat.mul_eq_zero.mp this with q | q
      · omega
      · rw [val_cons, val_nil, Nat.mul_zero, Nat.add_zero] at q
        exact e2 q
    rw [digs_pos hb hz]
    have e1 : val b (d :: ds) % 2 ^ b = d := by rw [val_cons, Nat.add_mul_mod_self_left, Nat.mod_eq_of_lt h1]
    have e2 : val b (d :: ds) / 2 ^ b = val b ds := by
      rw [val_cons, Nat.add_mul_div_left _ _ (Nat.two_pow_pos b), Nat.div_eq_of_lt h1, Nat.zero_add]
    rw [e1, e2, ih]
/-- the sign of an integer -/
def sgn (n : Int) : Int := if n < 0 then -1 else if n = 0 then 0 else 1
theorem sgn_mul (n : Int) : sgn n * (n.natAbs : Int) = n := by
  unfold sgn
  split
  · omega
  · split <;> omega
theorem digs_length_le {b : Nat} (hb : b ≠ 0) (n : Nat) {k : Nat} (h : n < 2 ^ (b * k)) : (digs b n).length ≤ k := by
  have key : ∀ (k n : Nat), n < 2 ^ (b * k) → (digs b n).length ≤ k := by
    intro k
    induction k with
    | zero =>
      intro n h
      rw [Nat.mul_zero, Nat.pow_zero] at h
      have : n = 0 := by omega
      rw [this, digs_zero]; exact Nat.le_refl _
    | succ k ih =>
      intro n h
      by_cases hn : n = 0
      · rw [hn, digs_zero]; exact Nat.zero_le _
      · rw [digs_pos hb hn, List.length_cons]
        refine Nat.succ_le_succ (ih _ ?_)
        rw [Nat.mul_add, Nat.mul_one, Nat.pow_add] at h
        exact Nat.div_lt_of_lt_mul (by rw [Nat.mul_comm]; exact h)
  exact key k n h
end Eng
namespace Eng
theorem digs_lower {b n l : Nat} (hb : b ≠ 0) (h : l < (digs b n).length) : 2 ^ (b * l) ≤ n := by
  rcases Nat.lt_or_ge n (2 ^ (b * l)) with z | z
  · have := digs_length_le hb n z
    omega
  · exact z
theorem digs_upper {b n : Nat} (hb : b ≠ 0) : n < 2 ^ (b * (digs b n).length) := by
  have := val_lt (digs_lt hb n)
  rwa [val_digs hb] at this
theorem len_lt {b n m : Nat} (hb : b ≠ 0) (h : (digs b n).length < (digs b m).length) : n < m := Nat.lt_of_lt_of_le (digs_upper hb) (digs_lower hb h)
theorem val_split {b : Nat} {ds : List Nat} {i d : Nat} (h : ds[i]? = some d) : val b ds = val b (ds.take i) + 2 ^ (b * i) * (d + 2 ^ b * val b (ds.drop (i + 1))) := by
  have hi : i < ds.length := (List.getElem?_eq_some_iff.mp h).1
  have e : ds = ds.take i ++ (d :: ds.drop (i + 1)) := by
    have h1 := List.take_append_drop i ds
    rw [List.drop_eq_getElem_cons hi, (List.getElem?_eq_some_iff.mp h).2] at h1
    exact h1.symm
  have := val_app b (ds.take i) (d :: ds.drop (i + 1))
  rw [← e, List.length_take, Nat.min_eq_left (by omega), val_cons] at this
  exact this
theorem top_lt {b : Nat} {ds es : List Nat} {i d e : Nat} (hd : Digs b ds) (h1 : ds[i]? = some d) (h2 : es[i]? = some e) (hal : ds.drop (i + 1) = es.drop (i + 1)) (h : d < e) : val b ds < val b es := by
  rw [val_split h1, val_split h2, hal]
  have hl : val b (ds.take i) < 2 ^ (b * i) := by
    have hi : i < ds.length := (List.getElem?_eq_some_iff.mp h1).1
    have := val_lt (b := b) (ds := ds.take i) (fun y hy => hd y (List.mem_of_mem_take hy))
    rwa [List.length_take, Nat.min_eq_left (by omega)] at this
  generalize 2 ^ b * val b (es.drop (i + 1)) = T
  have h3 : 2 ^ (b * i) * (d + T + 1) ≤ 2 ^ (b * i) * (e + T) := Nat.mul_le_mul_left _ (by omega)
  rw [Nat.mul_add, Nat.mul_one] at h3
  omega
/-- from p on the rows are alike, and at p - 1 they differ -/
structure LD (ds es : List Nat) (p : Nat) : Prop where
  le : p ≤ ds.length
  alike : ∀ i, p ≤ i → ds[i]? = es[i]?
  differ : p = 0 ∨ ds[p - 1]? ≠ es[p - 1]?
theorem LD.zero {ds es : List Nat} (h : LD ds es 0) : ds = es := List.ext_getElem? fun i => h.alike i (Nat.zero_le _)
theorem LD.drop {ds es : List Nat} {p : Nat} (h : LD ds es p) : ds.drop p = es.drop p := List.ext_getElem? fun i => by
  rw [List.getElem?_drop, List.getElem?_drop]
  exact h.alike _ (by omega)
theorem LD.ex : ∀ (ds es : List Nat), ds.length = es.length → ∃ p, LD ds es p
  | [], [], _ => ⟨0, Nat.le_refl _, fun _ _ => rfl, .inl rfl⟩
  | d :: ds, e :: es, h => by
    obtain ⟨p, hp⟩ := LD.ex ds es (by simpa using h)
    by_cases h0 : p = 0
    · subst h0
      by_cases hd : d = e
      · subst hd
        exact ⟨0, Nat.zero_le _, fun i _ => by rw [hp.zero], .inl rfl⟩
      · refine ⟨1, by simp, fun i hi => ?_, .inr (by simpa using hd)⟩
        obtain ⟨i', rfl⟩ : ∃ i', i = i' + 1 := ⟨i - 1, by omega⟩
        simp only [List.getElem?_cons_succ]
        exact hp.alike i' (Nat.zero_le _)
    · refine ⟨p + 1, by simp only [List.length_cons]; have := hp.le; omega, fun i hi => ?_, .inr ?_⟩
      · obtain ⟨i', rfl⟩ : ∃ i', i = i' + 1 := ⟨i - 1, by omega⟩
        simp only [List.getElem?_cons_succ]
        exact hp.alike i' (by omega)
      · obtain ⟨p', rfl⟩ : ∃ p', p = p' + 1 := ⟨p - 1, by omega⟩
        rcases hp.differ with z | z
        · omega
        · simpa using z
  | [], _ :: _, h => by simp at h
  | _ :: _, [], h => by simp at h
end Eng
namespace Eng
open PySem L2
local macro_rules | `(tactic| walk_at "len") => `(tactic| first | decide | (simp only [List.length_cons, List.length_nil, List.length_append]; decide))
local macro_rules | `(tactic| walk_at "mem") => `(tactic| repeat (first | exact List.mem_cons_self | refine List.mem_cons_of_mem _ ?_ | refine List.mem_append_right _ ?_))
local macro_rules | `(tactic| walk_at "own") => `(tactic| first | assumption | (refine Wd.get (by assumption) ?_; walk_at "mem"))
local macro_rules | `(tactic| walk_at "rp") => `(tactic| repeat (first | exact Rp.here | apply Rp.there | apply Rp.app))
local macro_rules | `(tactic| walk_at "may") => `(tactic| first | exact Or.inl (by assumption) | exact Or.inr (by walk_at "mem"))
local macro_rules | `(tactic| walk_at "sq") => `(tactic| first | assumption | exact SqL.of (by walk_at "own") | exact SqT.of (by walk_at "own"))
local macro_rules | `(tactic| walk_at "ari") => `(tactic| first | assumption | omega | decide)
local macro_rules | `(tactic| walk_at "set") => `(tactic| repeat (first | exact Sets.here | apply Sets.there))
local macro_rules | `(tactic| walk_at "rd1") => `(tactic| first
  | with_reducible refine' rd_seq ?_
  | with_reducible refine' rd_asg ?_
  | ((with_reducible refine' rd_var ?h ?_); case h => exact rfl)
  | with_reducible refine' rd_c ?_
  | with_reducible refine' rd_op ?_
  | ((with_reducible refine' rd_name ?h ?_); case h => walk_at "set")
  | with_reducible refine' rd_cons ?_
  | with_reducible refine' rd_nil ?_
  | with_reducible refine' rd_add ?_
  | with_reducible refine' rd_subI ?_
  | ((with_reducible refine' rd_mod ?h ?_); case h => walk_at "ari")
  | with_reducible refine' rd_lt ?_
  | with_reducible refine' rd_le ?_
  | with_reducible refine' rd_gt ?_
  | with_reducible refine' rd_ge ?_
  | with_reducible refine' rd_eqI ?_
  | with_reducible refine' rd_neI ?_
  | with_reducible refine' rd_test ?_
  | with_reducible refine' rd_tB ?_
  | with_reducible refine' rd_kB ?_
  | with_reducible refine' rd_ret ?_
  | with_reducible refine' rd_retN ?_
  | with_reducible refine' rd_next ?_
  | with_reducible refine' rd_drop ?_
  | with_reducible refine' rd_ifS ?_
  | with_reducible refine' rd_ifE ?_
  | with_reducible refine' rd_call ?_
  | with_reducible refine' rd_cb ?_
  | with_reducible refine' rd_not ?_
  | with_reducible refine' rd_and ?_
  | with_reducible refine' rd_or ?_
  | with_reducible refine' rd_andV ?_
  | with_reducible refine' rd_orV ?_
  | with_reducible refine' rd_notV ?_
  | with_reducible refine' rd_un ?_
  | with_reducible refine' rd_neg ?_
  | with_reducible refine' rd_fld ?_
  | with_reducible refine' rd_tup ?_
  | with_reducible refine' rd_lst ?_
  | with_reducible refine' rd_bm ?_
  | ((with_reducible refine' rd_kBMl ?h ?_); case h => walk_at "own")
  | with_reducible refine' rd_meth ?_
  | with_reducible refine' rd_make ?_
  | with_reducible refine' rd_chain ?_
  | with_reducible refine' rd_int ?_
  | with_reducible refine' rd_intB ?_
  | with_reducible refine' rd_abs ?_
  | ((with_reducible refine' rd_lenL ?h ?_); case h => walk_at "sq")
  | ((with_reducible refine' rd_lenT ?h ?_); case h => walk_at "sq")
  | with_reducible refine' rd_sub ?_
  | with_reducible refine' rd_sl ?_
  | with_reducible refine' rd_noPart ?_
  | with_reducible refine' rd_part ?_
  | with_reducible refine' rd_kPart ?_
  | with_reducible refine' rd_for ?_
  | with_reducible refine' rd_iList ?_
  | with_reducible refine' rd_iTup ?_
  | with_reducible refine' rd_iR1 ?_
  | with_reducible refine' rd_iR2 ?_
  | ((with_reducible refine' rd_kIL ?h ?_); case h => walk_at "sq")
  | ((with_reducible refine' rd_kIT ?h ?_); case h => walk_at "sq")
  | with_reducible refine' rd_revL ?_
  | with_reducible refine' rd_revT ?_
  | with_reducible refine' rd_par ?_
  | ((with_reducible refine' rd_kPar ?h ?k ?_); (case h => walk_at "set"); case k => walk_at "set")
  | with_reducible refine' rd_par3 ?_
  | ((with_reducible refine' rd_kPar3 ?h ?k ?l ?_); (case h => walk_at "set"); (case k => walk_at "set"); case l => walk_at "set")
  | with_reducible refine' rd_lc ?_
  | with_reducible refine' rd_yes ?_
  | with_reducible refine' rd_sFld ?_
  | with_reducible refine' rd_dget ?_
  | with_reducible refine' rd_sDPut ?_
  | with_reducible refine' rd_gCons ?_
  | with_reducible refine' rd_gNil ?_
  | with_reducible refine' rd_kw ?_
  | with_reducible refine' rd_bits ?_
  | with_reducible refine' rd_kBits ?_
  | ((with_reducible refine' rd_anyI ?h ?_); case h => walk_at "sq")
  | with_reducible refine' rd_max ?_
  | with_reducible refine' rd_min ?_
  | with_reducible refine' rd_bm0 ?_
  | with_reducible refine' rd_andI ?_
  | with_reducible refine' rd_orI ?_
  | with_reducible refine' rd_xorI ?_)
local macro_rules | `(tactic| walk_at "rd") => `(tactic| repeat (walk_at "rd1"))
/-- the program's places -/
structure Pc where
  CMachine : Addr
  CBig : Addr
  CDesk : Addr
  aWORDS : Addr
  aBITS_OF_BASES : Addr
  ts : List (Addr × Str)
  xs : List Addr
  fs : List Addr
/-- a def's first slots -/
abbrev st0 (n : Nat) (vs : List V) : L2.St := vs.map some ++ List.replicate (n - vs.length) none
abbrev en0 (Q : VK) : Ends := ⟨fun _ H' => Q .non H', Q, fun _ _ => False, fun _ _ => False⟩
/-- the keywords' values by the parameters' order -/
def perm (ix : List Nat) (zs : List V) : List V := ix.map fun i => zs.getD i .non
def permV (ix : List Nat) (ws : List Value) : List Value := ix.map fun i => ws.getD i .none
theorem vals_getD {zs : List V} {ws : List Value} (r : Vals zs ws) (i : Nat) : RelV (zs.getD i .non) (ws.getD i .none) := by
  rw [List.getD_eq_getElem?_getD, List.getD_eq_getElem?_getD]
  cases e : zs[i]? with
  | none => rw [r.none_of e]; rfl
  | some v =>
    obtain ⟨u, e2, r2⟩ := r.get e
    rw [e2]
    exact r2
theorem perm_rel (ix : List Nat) {zs : List V} {ws : List Value} (r : Vals zs ws) : Vals (perm ix zs) (permV ix ws) := by
  unfold perm permV
  induction ix with
  | nil => exact .nil
  | cons i ix ih => exact .cons (vals_getD r i) ih
theorem kit_self (K : PySem.W.Frag) (C : Addr) : PySem.W.kitOne K (.ref C) (.ref C) = some true := by
  unfold PySem.W.kitOne
  simp
def strKeysB (es : Array DictEntry) : Bool := es.toList.all fun e => match e.key with | .str _ _ => true | _ => false
theorem strKeys_of {es : Array DictEntry} (h : strKeysB es = true) : StrKeys es := by
  intro e he
  unfold strKeysB at h
  have := List.all_eq_true.mp h e (Array.mem_toList_iff.mpr he)
  cases hk : e.key <;> rw [hk] at this <;> first | exact ⟨_, _, rfl⟩ | cases this
/-- what is built in is none of the class -/
structure NoSub (K : PySem.W.Frag) (C : Addr) : Prop where
  ic : PySem.W.isClsIn K C = true
  ty : PySem.W.typeIn K (.ref C) = some (.type "type")
  sb : ∀ b ∈ (["int", "list", "str", "NoneType", "bool", "tuple", "dict"] : List String), PySem.W.subIn K (.type b) (.ref C) = some false
theorem NoSub.kit {K : PySem.W.Frag} {C : Addr} (h : NoSub K C) {b : String} (hb : b ∈ (["int", "list", "str", "NoneType", "bool", "tuple", "dict"] : List String)) : PySem.W.kitOne K (.type b) (.ref C) = some false := by
  unfold PySem.W.kitOne
  have e : (Value.type b == Value.ref C) = false := rfl
  rw [e, if_neg Bool.false_ne_true]
  unfold PySem.W.kitCls
  have e2 : ((PySem.W.clsIn K C).isSome && PySem.W.typeIn K (.ref C) == some (.type "type")) = true := by
    have h2 : (PySem.W.clsIn K C).isSome = true := h.ic
    rw [h2, h.ty]
    rfl
  show (if ((PySem.W.clsIn K C).isSome && PySem.W.typeIn K (.ref C) == some (.type "type")) = true then PySem.W.subIn K (.type b) (.ref C) else none) = some false
  rw [if_pos e2]
  exact h.sb b hb
theorem NoSub.nf {K : PySem.W.Frag} {C : Addr} (h : NoSub K C) {b : String} (hb : b ∈ (["int", "list", "str", "NoneType", "bool", "tuple", "dict"] : List String)) : PySem.W.notFirst K C (.type b) = true := by
  unfold PySem.W.notFirst
  rw [h.sb b hb]
  simp
theorem nf_self (K : PySem.W.Frag) (C : Addr) : PySem.W.notFirst K C (.ref C) = true := by
  unfold PySem.W.notFirst
  simp
def IsI (K : PySem.W.Frag) (H : Hp) (x : V) (b : Bool) : Prop := (∃ i, x = .int i ∧ b = true) ∨ (b = false ∧ ((∃ k, x = .bl k) ∨ ∃ t, TyX K H x t ∧ PySem.W.kitOne K t (.type "int") = some false))
def sp_is_integer (K : PySem.W.Frag) (c : Pc) : Sp := fun vs H Q _ => ∃ x b, vs = [x] ∧ IsI K H x b ∧ Q (.bl b) H
def t_is_integer (K : PySem.W.Frag) (c : Pc) : TS :=
  (tRet (tAndV (tCB (rIsi K) (tCons (tVar 0) (tCons (tC (.ty "int")) tNil))) (tNotV (tCB (rIsi K) (tCons (tVar 0) (tCons (tC (.ty "bool")) tNil))))))
section
variable {K : PySem.W.Frag} {c : Pc} {vs : List V} {H H0 : Hp} {Q : VK} {E : XK} {M : List Addr} {L : List (Addr × HO)} {x : V} {i lo hi : Int}
theorem isi_ty {a b : String} {r : Bool} (ty : TyX K H x (.type a)) (h : kitB a b = some r) (q : Q (.bl r) H) : rIsi K [x, .ty b] H Q := ⟨x, .ty b, _, _, r, rfl, .ty b, ty, kit_ty h, q⟩
theorem b_is_integer (h : sp_is_integer K c vs H Q E) : t_is_integer K c (en0 Q) (st0 1 vs) H := by
  obtain ⟨x, b, rfl, hx, q⟩ := h
  unfold t_is_integer
  walk_at "rd"
  rcases hx with ⟨i, rfl, rfl⟩ | ⟨rfl, ⟨k, rfl⟩ | ⟨t, ty, e⟩⟩
  · refine isi_ty (.base (.int i)) (by decide +kernel : kitB "int" "int" = some true) ?_
    walk_at "rd"
    refine rd_T rfl ?_
    walk_at "rd"
    refine isi_ty (.base (.int i)) (by decide +kernel : kitB "int" "bool" = some false) ?_
    walk_at "rd"
    exact q
  · refine isi_ty (.base (.bl k)) (by decide +kernel : kitB "bool" "int" = some true) ?_
    walk_at "rd"
    refine rd_T rfl ?_
    walk_at "rd"
    refine isi_ty (.base (.bl k)) (by decide +kernel : kitB "bool" "bool" = some true) ?_
    walk_at "rd"
    exact q
  · refine (show rIsi K [x, .ty "int"] H _ from ⟨x, _, t, _, false, rfl, .ty _, ty, e, ?_⟩)
    walk_at "rd"
    refine rd_F rfl ?_
    exact q
def Btw (K : PySem.W.Frag) (H : Hp) (x : V) (lo hi : Int) (r : Bool) : Prop := (∃ i, x = .int i ∧ r = (decide (lo ≤ i) && decide (i ≤ hi))) ∨ (IsI K H x false ∧ r = false)
def sp_is_between (K : PySem.W.Frag) (c : Pc) : Sp := fun vs H Q _ => ∃ x lo hi r, vs = [x, .int lo, .int hi] ∧ Btw K H x lo hi r ∧ Q (.bl r) H
def t_is_between (K : PySem.W.Frag) (c : Pc) : TS :=
  (tRet (tAndV (tCall (sp_is_integer K c) [] E0 (tCons (tVar 0) tNil)) (tChain rLe rLe (tVar 1) (tVar 0) (tVar 2))))
theorem b_is_between (h : sp_is_between K c vs H Q E) : t_is_between K c (en0 Q) (st0 3 vs) H := by
  obtain ⟨x, lo, hi, r, rfl, hx, q⟩ := h
  unfold t_is_between
  walk_at "rd"
  rcases hx with ⟨i, rfl, rfl⟩ | ⟨hx, rfl⟩
  · refine ⟨_, true, rfl, .inl ⟨i, rfl, rfl⟩, ?_⟩
    walk_at "rd"
    refine rd_T rfl ?_
    walk_at "rd"
    by_cases h1 : lo ≤ i
    · rw [decide_eq_true h1] at q ⊢
      refine rd_kChT rfl ?_
      walk_at "rd"
      exact q
    · rw [decide_eq_false h1] at q ⊢
      refine rd_kChF rfl ?_
      exact q
  · refine ⟨_, false, rfl, hx, ?_⟩
    walk_at "rd"
    refine rd_F rfl ?_
    exact q
theorem u_between (h1 : lo ≤ i) (h2 : i ≤ hi) (q : Q (.bl true) H) : sp_is_between K c [.int i, .int lo, .int hi] H Q E :=
  ⟨_, lo, hi, true, rfl, .inl ⟨i, rfl, by rw [decide_eq_true h1, decide_eq_true h2]; rfl⟩, q⟩
theorem u_integer (q : Q (.bl true) H) : sp_is_integer K c [.int i] H Q E := ⟨_, true, rfl, .inl ⟨i, rfl, rfl⟩, q⟩
def sp_check_integer (K : PySem.W.Frag) (c : Pc) : Sp := fun vs H Q _ => ∃ a i, vs = [.str a, .int i] ∧ Q .non H
def t_check_integer (K : PySem.W.Frag) (c : Pc) : TS :=
  (tIfS (tNot (L2.tB (tCall (sp_is_integer K c) [] E0 (tCons (tVar 1) tNil)))) tNever tNext)
theorem b_check_integer (h : sp_check_integer K c vs H Q E) : t_check_integer K c (en0 Q) (st0 2 vs) H := by
  obtain ⟨a, i, rfl, q⟩ := h
  unfold t_check_integer
  walk_at "rd"
  refine u_integer ?_
  walk_at "rd"
  refine rd_F rfl ?_
  walk_at "rd"
  exact q
end
def words : List Str := ["short", "sum", "product", "quotient", "corrected", "restored", "shifted", "combined", "complemented", "looked"]
/-- a machine's attributes: bits, cutoff, the places of its counts and of its walk -/
def mF (b : Nat) (cut : Int) (d e : Addr) : List (Str × V) := putF "entered" (.ref e) (putF "counts" (.ref d) (putF "base" (.int (2 ^ b)) (putF "limit_of_rows" (.int cut) (putF "width" (.int (b : Int)) []))))
section
variable {b : Nat} {cut : Int} {d e : Addr}
theorem mF_entered : (mF b cut d e).lookup ("entered" : Str) = some (.ref e) := by
  unfold mF
  rw [lookup_putF, if_pos rfl]
theorem mF_counts : (mF b cut d e).lookup ("counts" : Str) = some (.ref d) := by
  unfold mF
  rw [lookup_putF, if_neg (by decide +kernel), lookup_putF, if_pos rfl]
theorem mF_base : (mF b cut d e).lookup ("base" : Str) = some (.int (2 ^ b)) := by
  unfold mF
  rw [lookup_putF, if_neg (by decide +kernel), lookup_putF, if_neg (by decide +kernel), lookup_putF, if_pos rfl]
theorem mF_limit : (mF b cut d e).lookup ("limit_of_rows" : Str) = some (.int cut) := by
  unfold mF
  rw [lookup_putF, if_neg (by decide +kernel), lookup_putF, if_neg (by decide +kernel), lookup_putF, if_neg (by decide +kernel), lookup_putF, if_pos rfl]
theorem mF_width : (mF b cut d e).lookup ("width" : Str) = some (.int (b : Int)) := by
  unfold mF
  rw [lookup_putF, if_neg (by decide +kernel), lookup_putF, if_neg (by decide +kernel), lookup_putF, if_neg (by decide +kernel), lookup_putF, if_neg (by decide +kernel), lookup_putF, if_pos rfl]
theorem mF_none {m : Str} (h1 : ¬ m = "entered") (h2 : ¬ m = "counts") (h3 : ¬ m = "base") (h4 : ¬ m = "limit_of_rows") (h5 : ¬ m = "width") : (mF b cut d e).lookup m = none := by
  unfold mF
  rw [lookup_putF, if_neg h1, lookup_putF, if_neg h2, lookup_putF, if_neg h3, lookup_putF, if_neg h4, lookup_putF, if_neg h5]
  rfl
end
/-- the counts -/
def cK (ns : List Int) : List (Key × V) := List.zipWith (fun (w : Str) n => ((Sum.inr w : Key), V.int n)) words ns
def zeros : List Int := [0, 0, 0, 0, 0, 0, 0, 0, 0, 0]
/-- what the top tells of machines -/
structure PM (K : PySem.W.Frag) (c : Pc) : Prop where
  isc : C8.InsC K c.CMachine
  nE : NoAttr K c.CMachine "entered"
  nC : NoAttr K c.CMachine "counts"
  nB : NoAttr K c.CMachine "base"
  nL : NoAttr K c.CMachine "limit_of_rows"
  nW : NoAttr K c.CMachine "width"
  words : ∀ H : Hp, SqT K H c.aWORDS (words.map V.str)
section
variable {K : PySem.W.Frag} {c : Pc} {vs : List V} {H H0 : Hp} {Q : VK} {E : XK} {M : List Addr} {L : List (Addr × HO)} {b : Nat} {cut : Int} {a m d e dx : Addr}
theorem rd_Mwidth (P : PM K c) (h : H a = some (.ins c.CMachine dx (mF b cut d e))) (q : Q (.int (b : Int)) H) : kFld K "width" Q (.ref a) H := rd_kFld P.isc.cl P.nW h mF_width q
theorem rd_Mbase (P : PM K c) (h : H a = some (.ins c.CMachine dx (mF b cut d e))) (q : Q (.int (2 ^ b)) H) : kFld K "base" Q (.ref a) H := rd_kFld P.isc.cl P.nB h mF_base q
theorem rd_Mlimit (P : PM K c) (h : H a = some (.ins c.CMachine dx (mF b cut d e))) (q : Q (.int cut) H) : kFld K "limit_of_rows" Q (.ref a) H := rd_kFld P.isc.cl P.nL h mF_limit q
theorem rd_Mcounts (P : PM K c) (h : H a = some (.ins c.CMachine dx (mF b cut d e))) (q : Q (.ref d) H) : kFld K "counts" Q (.ref a) H := rd_kFld P.isc.cl P.nC h mF_counts q
theorem rd_Mentered (P : PM K c) (h : H a = some (.ins c.CMachine dx (mF b cut d e))) (q : Q (.ref e) H) : kFld K "entered" Q (.ref a) H := rd_kFld P.isc.cl P.nE h mF_entered q
theorem isi_own {C x : Addr} {fs : List (Str × V)} (I : C8.InsC K C) (h : H x = some (.ins C dx fs)) (q : Q (.bl true) H) : rIsi K [.ref x, .ref C] H Q :=
  ⟨.ref x, .ref C, _, _, true, rfl, .own C, .base (.ins h I.cl I.ha I.hn I.htk I.hm), I.me, q⟩
def sp_check_machine (K : PySem.W.Frag) (c : Pc) : Sp := fun vs H Q _ => ∃ a dx fs, vs = [.ref a] ∧ H a = some (.ins c.CMachine dx fs) ∧ Q .non H
def t_check_machine (K : PySem.W.Frag) (c : Pc) : TS :=
  (tIfS (tNot (L2.tB (tCB (rIsi K) (tCons (tVar 0) (tCons (tC (.ref c.CMachine)) tNil))))) tNever tNext)
theorem b_check_machine (P : PM K c) (h : sp_check_machine K c vs H Q E) : t_check_machine K c (en0 Q) (st0 1 vs) H := by
  obtain ⟨a, dx, fs, rfl, ha, q⟩ := h
  unfold t_check_machine
  walk_at "rd"
  refine isi_own P.isc ha ?_
  walk_at "rd"
  refine rd_F rfl ?_
  walk_at "rd"
  exact q
def tl2 (ps : List Addr) (ts : List (List V)) : List (Addr × HO) := List.zipWith (fun p t => (p, HO.tup t)) ps ts
theorem tl2_snoc {ps : List Addr} {ts : List (List V)} {p : Addr} {t : List V} (h : ps.length = ts.length) : tl2 (ps ++ [p]) (ts ++ [t]) = tl2 ps ts ++ [(p, .tup t)] := by
  unfold tl2
  rw [List.zipWith_append h]
  rfl
def rowsOf (ns : List Int) : List (List V) := List.zipWith (fun (w : Str) n => [V.str w, V.int n]) words ns
theorem take_snoc {α : Type} {l : List α} {i : Nat} {x : α} (h : l[i]? = some x) : l.take (i + 1) = l.take i ++ [x] := by
  rw [List.take_succ, h]
  rfl
theorem rows_get {ns : List Int} {i : Nat} {w : Str} {n : Int} (h1 : words[i]? = some w) (h2 : ns[i]? = some n) : (rowsOf ns)[i]? = some [.str w, .int n] := by
  unfold rowsOf
  rw [List.getElem?_zipWith, h1, h2]
theorem str_of_words {i : Nat} {x : V} (h : (words.map V.str)[i]? = some x) : ∃ w, words[i]? = some w ∧ x = .str w ∧ i < 10 := by
  rw [List.getElem?_map] at h
  cases e : words[i]? with
  | none => rw [e] at h; cases h
  | some w =>
    rw [e] at h
    refine ⟨w, rfl, (Option.some.inj h).symm, ?_⟩
    have := (List.getElem?_eq_some_iff.mp e).1
    exact this
theorem cK_val {ns : List Int} {i : Nat} {w : Str} {n : Int} (h1 : words[i]? = some w) (h2 : ns[i]? = some n) : valV (cK ns) (Sum.inr w : Key) = some (.int n) := by
  have hi : i < 10 := (List.getElem?_eq_some_iff.mp h1).1
  have hn : i < ns.length := (List.getElem?_eq_some_iff.mp h2).1
  have key : ∀ (ws : List Str) (ms : List Int) (j : Nat), ws.Nodup → ws[j]? = some w → ms[j]? = some n → valV (List.zipWith (fun (w : Str) n => ((Sum.inr w : Key), V.int n)) ws ms) (Sum.inr w : Key) = some (.int n) := by
    intro ws
    induction ws with
    | nil => intro ms j _ h _; simp at h
    | cons u ws ih =>
      intro ms j nd h h'
      cases ms with
      | nil => simp at h'
      | cons z ms =>
        cases j with
        | zero =>
          have e1 : u = w := by simpa using h
          have e2 : z = n := by simpa using h'
          subst e1 e2
          exact valV_pos rfl
        | succ j =>
          have hw : w ∈ ws := List.mem_of_getElem? (by simpa using h)
          have ne : ¬ (Sum.inr u : Key) = Sum.inr w := fun z => by
            have z' := Sum.inr.inj z
            subst z'
            exact (List.nodup_cons.mp nd).1 hw
          rw [List.zipWith_cons_cons, valV_neg (p := ((Sum.inr u : Key), V.int z)) ne]
          exact ih ms j (List.nodup_cons.mp nd).2 (by simpa using h) (by simpa using h')
  exact key words ns i (by decide +kernel) h1 h2
def sp_Machine_tally (K : PySem.W.Frag) (c : Pc) : Sp := fun vs H Q _ => ∃ a dx b cut d e ns, vs = [.ref a] ∧ H a = some (.ins c.CMachine dx (mF b cut d e)) ∧ H d = some (.dK (cK ns)) ∧ ns.length = 10 ∧
  ∀ p ps H', ps.length = 10 → Chg H H' [] ((p, .lst (ps.map V.ref)) :: tl2 ps (rowsOf ns)) → Q (.ref p) H'
def t_Machine_tally (K : PySem.W.Frag) (c : Pc) : TS :=
  (tRet (tLc (iTup K (tC (.ref c.aWORDS))) (gName 1) tYes (tTup (tCons (tVar 1) (tCons (tDGet (tFld K (tVar 0) "counts") (tVar 1)) tNil))) [1]))
theorem b_Machine_tally (P : PM K c) (h : sp_Machine_tally K c vs H Q E) : t_Machine_tally K c (en0 Q) (st0 2 vs) H := by
  obtain ⟨a, dx, b, cut, d, e, ns, rfl, ha, hd, hn, k⟩ := h
  have nad : a ≠ d := ne_of ha hd (by intro z; cases z)
  have W : Wd H H [] [(a, .ins c.CMachine dx (mF b cut d e)), (d, .dK (cK ns))] := (Wd.one hd).old ha (by simpa using nad)
  have hr : (rowsOf ns).length = 10 := by unfold rowsOf; rw [List.length_zipWith, hn]; rfl
  unfold t_Machine_tally
  walk_at "rd"
  refine rd_kIT (P.words H) ?_
  refine rd_lcT (xs := words.map V.str) fun D hD => ⟨fun i H' => ∃ ps : List Addr, ps.length = i ∧ (∀ p ∈ ps, H p = none) ∧ Wd H H' [] ([(D, .lst (ps.map V.ref)), (a, .ins c.CMachine dx (mF b cut d e)), (d, .dK (cK ns))] ++ tl2 ps ((rowsOf ns).take i)), ?_, ?_, ?_, ?_⟩
  · exact ⟨[], rfl, (fun _ z => nomatch z), W.new hD⟩
  · intro i H' _ _
    exact P.words H'
  · rintro i x H1 hx ⟨ps, hps, hfr, W1⟩
    obtain ⟨w, hw, rfl, hi⟩ := str_of_words hx
    have hD0 : H D = none := hD
    obtain ⟨n, hni⟩ : ∃ n, ns[i]? = some n := ⟨ns[i]'(by omega), List.getElem?_eq_getElem _⟩
    have hrow := rows_get hw hni
    walk_at "rd"
    refine ⟨rfl, ?_⟩
    walk_at "rd"
    refine rd_T rfl ?_
    walk_at "rd"
    refine rd_Mcounts P (W1.get (by walk_at "mem")) ?_
    walk_at "rd"
    refine rd_kDGs (W1.get (by walk_at "mem")) (cK_val hw hni) ?_
    walk_at "rd"
    refine rd_kTup W1 (by show 2 ≤ sizeLine; decide) fun p H2 hp W2 => ?_
    refine rd_kAcc W2 (by walk_at "rp") (.inl hD0) (by rw [List.length_map, hps]; exact small1000 (by omega)) fun H3 W3 => ?_
    refine ⟨ps ++ [p], by rw [List.length_append, hps]; rfl, fun q hq => ?_, ?_⟩
    · rcases List.mem_append.mp hq with z | z
      · exact hfr q z
      · rw [List.mem_singleton.mp z]; exact hp
    · rw [take_snoc hrow, tl2_snoc (by rw [hps, List.length_take, hr]; omega), List.map_append]
      exact W3.move (A := [_, _, _])
  · rintro H1 ⟨ps, hps, hfr, W1⟩
    have hl : ps.length = 10 := hps
    have e10 : (rowsOf ns).take (words.map V.str).length = rowsOf ns := List.take_of_length_le (by rw [hr]; decide)
    rw [e10] at W1
    refine k D ps H1 hl ?_
    have nd := W1.nd
    refine W1.done (fun q z => nomatch z) (fun q z => nomatch z) (fun q hq => ?_) ?_
    · rcases List.mem_cons.mp hq with z | z
      · rw [z]; exact ⟨List.mem_cons_self, hD⟩
      · refine ⟨List.mem_append_right _ z, ?_⟩
        unfold tl2 at z
        obtain ⟨i, hi⟩ := List.mem_iff_getElem?.mp z
        rw [List.getElem?_zipWith] at hi
        cases e1 : ps[i]? with
        | none => rw [e1] at hi; cases hi
        | some p =>
          cases e2 : (rowsOf ns)[i]? with
          | none => rw [e1, e2] at hi; cases hi
          | some t =>
            rw [e1, e2] at hi
            have := Option.some.inj hi
            rw [← this]
            exact hfr p (List.mem_of_getElem? e1)
    · refine nd.sublist (List.Sublist.map _ ?_)
      exact (List.Sublist.cons _ (List.Sublist.cons _ (List.Sublist.refl _))).cons₂ _
theorem tl2_mem {ps : List Addr} {ts : List (List V)} {i : Nat} {p : Addr} {t : List V} (h1 : ps[i]? = some p) (h2 : ts[i]? = some t) : (p, HO.tup t) ∈ tl2 ps ts := by
  unfold tl2
  refine List.mem_iff_getElem?.mpr ⟨i, ?_⟩
  rw [List.getElem?_zipWith, h1, h2]
theorem paired_of {α β : Type} {R : α → β → Prop} : ∀ {l : List α} {k : List β}, l.length = k.length → (∀ (i : Nat) x y, l[i]? = some x → k[i]? = some y → R x y) → Paired R l k
  | [], [], _, _ => .nil
  | [], _ :: _, h, _ => by simp at h
  | _ :: _, [], h, _ => by simp at h
  | x :: l, y :: k, h, f => .cons (f 0 x y rfl rfl) (paired_of (by simpa using h) fun i a b h1 h2 => f (i + 1) a b (by simpa using h1) (by simpa using h2))
theorem rd_dict {ps : List Addr} {kvs kvs' : List (Key × V)} (W : Wd H0 H M L) (h : H a = some (.lst (ps.map V.ref))) (hp : Paired (fun p kv => SqT K H p [kV kv.1, kv.2]) ps kvs) (he : mergeK [] kvs = kvs')
    (q : ∀ p H', H0 p = none → Wd H0 H' M ((p, .dK kvs') :: L) → Q (.ref p) H') : rDict K [.ref a] H Q :=
  ⟨a, ps, kvs, rfl, SqL.of h, hp, fun p hp => by subst he; exact q p _ (W.fresh hp) (W.new hp)⟩
theorem cK_get {ns : List Int} {i : Nat} {w : Str} {n : Int} (h1 : words[i]? = some w) (h2 : ns[i]? = some n) : (cK ns)[i]? = some (Sum.inr w, .int n) := by
  unfold cK
  rw [List.getElem?_zipWith, h1, h2]
theorem rows_cK {ns : List Int} (hn : ns.length = 10) {i : Nat} {t : List V} {kv : Key × V} (h1 : (rowsOf ns)[i]? = some t) (h2 : (cK ns)[i]? = some kv) : t = [kV kv.1, kv.2] := by
  have hi : i < 10 := by
    have := (List.getElem?_eq_some_iff.mp h1).1
    unfold rowsOf at this
    rw [List.length_zipWith, hn] at this
    exact Nat.lt_of_lt_of_le this (by decide)
  have hw : words[i]? = some (words[i]'hi) := List.getElem?_eq_getElem _
  have hz : ns[i]? = some (ns[i]'(by omega)) := List.getElem?_eq_getElem _
  rw [rows_get hw hz] at h1
  rw [cK_get hw hz] at h2
  cases h1
  cases h2
  rfl
theorem len_putF (f : Str) (v : V) : ∀ fs : List (Str × V), (putF f v fs).length ≤ fs.length + 1
  | [] => Nat.le_refl _
  | (g, x) :: r => by
    show (if g = f then (g, v) :: r else (g, x) :: putF f v r).length ≤ _
    by_cases h : g = f
    · rw [if_pos h]; exact Nat.le_succ _
    · rw [if_neg h]; exact Nat.succ_le_succ (len_putF f v r)
def sp_Machine_init (K : PySem.W.Frag) (c : Pc) : Sp := fun vs H Q _ => ∃ (x dx : Addr) (b : Nat) (cut : Int), vs = [.ref x, .int (b : Int), .int cut] ∧ 8 ≤ b ∧ b ≤ 30 ∧ 2 ≤ cut ∧ cut ≤ 1000 ∧ H x = some (.ins c.CMachine dx []) ∧
  ∀ d e H', Chg H H' [(x, .ins c.CMachine dx (mF b cut d e))] [(d, .dK (cK zeros)), (e, .lst [])] → Q .non H'
def t_Machine_init (K : PySem.W.Frag) (c : Pc) : TS :=
  (tSeq (tIfS (tNot (L2.tB (tCall (sp_is_between K c) [] E0 (tCons (tVar 1) (tCons (tC (.int 8)) (tCons (tC (.int 30)) tNil)))))) tNever tNext)
  (tSeq (tIfS (tNot (L2.tB (tCall (sp_is_between K c) [] E0 (tCons (tVar 2) (tCons (tC (.int 2)) (tCons (tC (.int 1000)) tNil)))))) tNever tNext)
  (tSeq (sFld K (tVar 0) (tVar 1) "width")
  (tSeq (sFld K (tVar 0) (tVar 2) "limit_of_rows")
  (tSeq (sFld K (tVar 0) (tOp rShl (tC (.int 1)) (tVar 1)) "base")
  (tSeq (sFld K (tVar 0) (tCB (rDict K) (tCons (tLc (iTup K (tC (.ref c.aWORDS))) (gName 3) tYes (tTup (tCons (tVar 3) (tCons (tC (.int 0)) tNil))) [3]) tNil)) "counts")
  (sFld K (tVar 0) (tLst tNil) "entered")))))))
theorem zero_get {i : Nat} (h : i < 10) : zeros[i]? = some 0 := by
  have : ∀ i : Fin 10, zeros[i.val]? = some 0 := by decide
  exact this ⟨i, h⟩
theorem shl_one {b : Nat} (h : b ≤ 1000) : CShl 1 (b : Int) := shl_ok (n := 1) (by decide) (by omega)
theorem b_Machine_init (P : PM K c) (h : sp_Machine_init K c vs H Q E) : t_Machine_init K c (en0 Q) (st0 4 vs) H := by
  obtain ⟨x, dx, b, cut, rfl, hb1, hb2, hc1, hc2, hx, k⟩ := h
  have W : Wd H H [x] [(x, .ins c.CMachine dx [])] := (Wd.one hx).may List.mem_cons_self
  unfold t_Machine_init
  walk_at "rd"
  refine u_between (by omega) (by omega) ?_
  walk_at "rd"
  refine rd_F rfl ?_
  walk_at "rd"
  refine u_between hc1 hc2 ?_
  walk_at "rd"
  refine rd_F rfl ?_
  walk_at "rd"
  refine rd_kSFld W P.isc.cl P.nW (by walk_at "rp") (by walk_at "may") (by decide) fun H1 W1 => ?_
  walk_at "rd"
  refine rd_kSFld W1 P.isc.cl P.nL (by walk_at "rp") (by walk_at "may") (Nat.lt_of_le_of_lt (len_putF _ _ _) (by decide)) fun H2 W2 => ?_
  walk_at "rd"
  refine rd_shl (shl_one (by omega)) ?_
  rw [Int.toNat_natCast, Int.one_mul]
  walk_at "rd"
  refine rd_kSFld W2 P.isc.cl P.nB (by walk_at "rp") (by walk_at "may") (Nat.lt_of_le_of_lt (len_putF _ _ _) (Nat.lt_of_le_of_lt (Nat.succ_le_succ (len_putF _ _ _)) (by decide))) fun H3 W3 => ?_
  walk_at "rd"
  refine rd_kIT (P.words H3) ?_
  refine rd_lcT (xs := words.map V.str) fun D hD => ⟨fun i H' => ∃ ps : List Addr, ps.length = i ∧ Wd H H' [x] ([(D, .lst (ps.map V.ref)), (x, .ins c.CMachine dx (putF "base" (.int (2 ^ b)) (putF "limit_of_rows" (.int cut) (putF "width" (.int (b : Int)) []))))] ++ tl2 ps ((rowsOf zeros).take i)), ?_, ?_, ?_, ?_⟩
  · exact ⟨[], rfl, W3.new hD⟩
  · intro i H' _ _
    exact P.words H'
  · rintro i y H4 hy ⟨ps, hps, W4⟩
    obtain ⟨w, hw, rfl, hi⟩ := str_of_words hy
    have hrow := rows_get hw (zero_get hi)
    have hD0 : H D = none := W3.fresh hD
    walk_at "rd"
    refine ⟨rfl, ?_⟩
    walk_at "rd"
    refine rd_T rfl ?_
    walk_at "rd"
    refine rd_kTup W4 (by show 2 ≤ sizeLine; decide) fun p H5 hp W5 => ?_
    refine rd_kAcc W5 (by walk_at "rp") (.inl hD0) (by rw [List.length_map, hps]; exact small1000 (by omega)) fun H6 W6 => ?_
    refine ⟨ps ++ [p], by rw [List.length_append, hps]; rfl, ?_⟩
    rw [take_snoc hrow, tl2_snoc (by rw [hps, List.length_take]; show i = min i 10; omega), List.map_append]
    exact W6.move (A := [_, _])
  · rintro H4 ⟨ps, hps, W4⟩
    have hl : ps.length = 10 := hps
    have e10 : (rowsOf zeros).take (words.map V.str).length = rowsOf zeros := List.take_of_length_le (by decide)
    rw [e10] at W4
    have hD0 : H D = none := W3.fresh hD
    walk_at "rd"
    refine rd_dict (kvs := cK zeros) (kvs' := cK zeros) W4 (W4.get List.mem_cons_self) (paired_of (by rw [hl]; decide) fun i p kv h1 h2 => ?_) (by decide +kernel) fun d H5 hd W5 => ?_
    · have hi : i < 10 := by have := (List.getElem?_eq_some_iff.mp h1).1; omega
      have hr : (rowsOf zeros)[i]? = some ((rowsOf zeros)[i]'hi) := List.getElem?_eq_getElem _
      have e := rows_cK (by decide) hr h2
      have := W4.get (List.mem_append_right _ (tl2_mem h1 hr))
      rw [e] at this
      exact SqT.of this
    · walk_at "rd"
      refine rd_kSFld W5 P.isc.cl P.nC (by walk_at "rp") (by walk_at "may") (Nat.lt_of_le_of_lt (len_putF _ _ _) (Nat.lt_of_le_of_lt (Nat.succ_le_succ (Nat.le_trans (len_putF _ _ _) (Nat.succ_le_succ (len_putF _ _ _)))) (by decide))) fun H6 W6 => ?_
      walk_at "rd"
      refine rd_kLst W6 (by decide) fun e H7 he W7 => ?_
      walk_at "rd"
      refine rd_kSFld W7 P.isc.cl P.nE (by walk_at "rp") (by walk_at "may") (Nat.lt_of_le_of_lt (len_putF _ _ _) (Nat.lt_of_le_of_lt (Nat.succ_le_succ (Nat.le_trans (len_putF _ _ _) (Nat.succ_le_succ (Nat.le_trans (len_putF _ _ _) (Nat.succ_le_succ (len_putF _ _ _)))))) (by decide))) fun H8 W8 => ?_
      have nd := W8.nd
      refine k d e H8 (W8.done (fun q hq => ?_) (fun q hq => hq) (fun q hq => ?_) ?_)
      · rw [List.mem_singleton.mp hq]
        walk_at "mem"
      · rcases List.mem_cons.mp hq with z | z
        · rw [z]; exact ⟨by walk_at "mem", hd⟩
        · rw [List.mem_singleton.mp z]; exact ⟨by walk_at "mem", he⟩
      · have ne : e ≠ d := fun z => by
          subst z
          have h1 := (List.nodup_cons.mp nd).1
          exact h1 List.mem_cons_self
        exact List.nodup_cons.mpr ⟨by simpa using Ne.symm ne, by simp⟩
end
/-- a row of digits as values -/
def iN (ds : List Nat) : List V := ds.map fun (d : Nat) => V.int (d : Int)
theorem iN_length (ds : List Nat) : (iN ds).length = ds.length := List.length_map _
theorem iN_get {ds : List Nat} {i d : Nat} (h : ds[i]? = some d) : (iN ds)[i]? = some (.int (d : Int)) := by unfold iN; rw [List.getElem?_map, h]; rfl
theorem iN_of {ds : List Nat} {i : Nat} {x : V} (h : (iN ds)[i]? = some x) : ∃ d, ds[i]? = some d ∧ x = .int (d : Int) := by
  unfold iN at h
  rw [List.getElem?_map] at h
  cases e : ds[i]? with
  | none => rw [e] at h; cases h
  | some d => rw [e] at h; exact ⟨d, rfl, (Option.some.inj h).symm⟩
theorem iN_take (ds : List Nat) (n : Nat) : (iN ds).take n = iN (ds.take n) := by unfold iN; rw [List.map_take]
theorem iN_rev (ds : List Nat) : (iN ds).reverse = iN ds.reverse := by unfold iN; rw [List.map_reverse]
theorem iN_app (ds es : List Nat) : iN ds ++ iN es = iN (ds ++ es) := by unfold iN; rw [List.map_append]
/-- a Big's attributes -/
def bF (b : Nat) (s : Int) (r : Addr) : List (Str × V) := putF "row" (.ref r) (putF "side" (.int s) (putF "width" (.int (b : Int)) []))
section
variable {b : Nat} {s : Int} {r : Addr}
theorem bF_row : (bF b s r).lookup ("row" : Str) = some (.ref r) := by
  unfold bF
  rw [lookup_putF, if_pos rfl]
theorem bF_side : (bF b s r).lookup ("side" : Str) = some (.int s) := by
  unfold bF
  rw [lookup_putF, if_neg (by decide +kernel), lookup_putF, if_pos rfl]
theorem bF_width : (bF b s r).lookup ("width" : Str) = some (.int (b : Int)) := by
  unfold bF
  rw [lookup_putF, if_neg (by decide +kernel), lookup_putF, if_neg (by decide +kernel), lookup_putF, if_pos rfl]
theorem bF_none {m : Str} (h1 : ¬ m = "row") (h2 : ¬ m = "side") (h3 : ¬ m = "width") : (bF b s r).lookup m = none := by
  unfold bF
  rw [lookup_putF, if_neg h1, lookup_putF, if_neg h2, lookup_putF, if_neg h3]
  rfl
end
/-- what the top tells of Bigs -/
structure PB (K : PySem.W.Frag) (c : Pc) : Prop where
  isc : C8.InsC K c.CBig
  nR : NoAttr K c.CBig "row"
  nS : NoAttr K c.CBig "side"
  nW : NoAttr K c.CBig "width"
section
variable {K : PySem.W.Frag} {c : Pc} {vs : List V} {H H0 : Hp} {Q : VK} {E : XK} {M : List Addr} {L : List (Addr × HO)} {b : Nat} {s cut : Int} {a m d e dx r x l : Addr} {ds : List Nat}
theorem rd_Bwidth (P : PB K c) (h : H a = some (.ins c.CBig dx (bF b s r))) (q : Q (.int (b : Int)) H) : kFld K "width" Q (.ref a) H := rd_kFld P.isc.cl P.nW h bF_width q
theorem rd_Bside (P : PB K c) (h : H a = some (.ins c.CBig dx (bF b s r))) (q : Q (.int s) H) : kFld K "side" Q (.ref a) H := rd_kFld P.isc.cl P.nS h bF_side q
theorem rd_Brow (P : PB K c) (h : H a = some (.ins c.CBig dx (bF b s r))) (q : Q (.ref r) H) : kFld K "row" Q (.ref a) H := rd_kFld P.isc.cl P.nR h bF_row q
def sp_Big_init (K : PySem.W.Frag) (c : Pc) : Sp := fun vs H Q _ => ∃ (x dx : Addr) (b : Nat) (s : Int) (r : Addr), vs = [.ref x, .int (b : Int), .int s, .ref r] ∧ H x = some (.ins c.CBig dx []) ∧
  ∀ H', Chg H H' [(x, .ins c.CBig dx (bF b s r))] [] → Q .non H'
def t_Big_init (K : PySem.W.Frag) (c : Pc) : TS :=
  (tSeq (sFld K (tVar 0) (tVar 1) "width")
  (tSeq (sFld K (tVar 0) (tVar 2) "side")
  (sFld K (tVar 0) (tVar 3) "row")))
theorem b_Big_init (P : PB K c) (h : sp_Big_init K c vs H Q E) : t_Big_init K c (en0 Q) (st0 4 vs) H := by
  obtain ⟨x, dx, b, s, r, rfl, hx, k⟩ := h
  have W : Wd H H [x] [(x, .ins c.CBig dx [])] := (Wd.one hx).may List.mem_cons_self
  unfold t_Big_init
  walk_at "rd"
  refine rd_kSFld W P.isc.cl P.nW (by walk_at "rp") (by walk_at "may") (by decide) fun H1 W1 => ?_
  walk_at "rd"
  refine rd_kSFld W1 P.isc.cl P.nS (by walk_at "rp") (by walk_at "may") (Nat.lt_of_le_of_lt (len_putF _ _ _) (by decide)) fun H2 W2 => ?_
  walk_at "rd"
  refine rd_kSFld W2 P.isc.cl P.nR (by walk_at "rp") (by walk_at "may") (Nat.lt_of_le_of_lt (len_putF _ _ _) (Nat.lt_of_le_of_lt (Nat.succ_le_succ (len_putF _ _ _)) (by decide))) fun H3 W3 => ?_
  exact k H3 (W3.done (fun q hq => hq) (fun q hq => hq) (fun q hq => nomatch hq) List.nodup_nil)
/-- Big(b, s, r) -/
theorem rd_mkBig (W : Wd H0 H M L) (q : ∀ x dx H', H0 x = none → Wd H0 H' M ((x, .ins c.CBig dx (bF b s r)) :: L) → Q (.ref x) H') : kMake c.CBig (sp_Big_init K c) [] E Q [.int (b : Int), .int s, .ref r] H := by
  intro x dx hx hdx ne
  have W1 := W.new (o := .own x) hdx
  have hx1 : upd H dx (.own x) x = none := by rw [upd_ne (Ne.symm ne)]; exact hx
  have W2 := W1.new (o := .ins c.CBig dx []) hx1
  refine ⟨x, dx, b, s, r, rfl, upd_same, fun H' ch => ⟨rfl, ?_⟩⟩
  have W3 := W2.chg1 Rp.here ch (.inl (W.fresh hx))
  have hno : dx ∉ M := fun z => W.out hdx (W.sub dx z)
  refine q x dx H' (W.fresh hx) ?_
  have W4 : Wd H0 H' M ((dx, .own x) :: (x, .ins c.CBig dx (bF b s r)) :: L) := W3.perm (List.Perm.swap _ _ _)
  exact W4.drop1 hno
def sp_made (K : PySem.W.Frag) (c : Pc) : Sp := fun vs H Q _ => ∃ (m dx : Addr) (b : Nat) (cut : Int) (d e : Addr) (s : Int) (l : Addr) (ds : List Nat), vs = [.ref m, .int s, .ref l] ∧ H m = some (.ins c.CMachine dx (mF b cut d e)) ∧ H l = some (.lst (iN ds)) ∧ ds.length < 2 ^ 23 ∧
  ∀ x dx r H', Chg H H' [] [(x, .ins c.CBig dx (bF b (if strip ds = [] then 0 else s) r)), (r, .tup (iN (strip ds)))] → Q (.ref x) H'
def t_made (K : PySem.W.Frag) (c : Pc) : TS :=
  (tSeq (tAsg (tCB (rLen K) (tCons (tVar 2) tNil)) (gName 3))
  (tSeq (tWhile (tAnd (tTest (tOp rGt (tVar 3) (tC (.int 0)))) (tTest (tOp rEq (tOp (rIxL K) (tVar 2) (tOp rSub (tVar 3) (tC (.int 1)))) (tC (.int 0))))) (tAsg (tOp rSub (tVar 3) (tC (.int 1))) (gName 3)))
  (tRet (tMake c.CBig (sp_Big_init K c) [] E0 (tCons (tFld K (tVar 0) "width") (tCons (tIf (tTest (tOp rGt (tVar 3) (tC (.int 0)))) (tVar 1) (tC (.int 0))) (tCons (tCB (rTupL K) (tCons (tSl (rSlL K) (tVar 2) tNoPart (tPart (tVar 3))) tNil)) tNil)))))))
theorem strip_take {ds : List Nat} {n : Nat} (hz : ∀ d ∈ ds.drop n, d = 0) (hn : n = 0 ∨ ∃ d, ds[n - 1]? = some d ∧ d ≠ 0) : strip ds = ds.take n := by
  have e : ds = ds.take n ++ ds.drop n := (List.take_append_drop n ds).symm
  rw [e, strip_app_zeros _ hz, ← e]
  rcases hn with h | ⟨d, h1, h2⟩
  · rw [h]; rfl
  · have hl : n - 1 < ds.length := (List.getElem?_eq_some_iff.mp h1).1
    cases n with
    | zero => rfl
    | succ n =>
      have h1' : ds[n]? = some d := by simpa using h1
      rw [take_snoc h1', strip_app_ne _ h2]
theorem b_made (P : PM K c) (PB : PB K c) (h : sp_made K c vs H Q E) : t_made K c (en0 Q) (st0 4 vs) H := by
  obtain ⟨m, dx, b, cut, d, e, s, l, ds, rfl, hm, hl, hlen, k⟩ := h
  have nml : m ≠ l := ne_of hm hl (by intro z; cases z)
  have W : Wd H H [] [(m, .ins c.CMachine dx (mF b cut d e)), (l, .lst (iN ds))] := (Wd.one hl).old hm (by simpa using nml)
  unfold t_made
  walk_at "rd"
  refine rd_while (fun n σ' H' => σ' = [some (.ref m), some (.int s), some (.ref l), some (.int (n : Int))] ∧ H' = H ∧ n ≤ ds.length ∧ ∀ d ∈ ds.drop n, d = 0) ds.length ⟨by rw [iN_length]; rfl, rfl, Nat.le_refl _, by rw [List.drop_length]; intro d z; cases z⟩ ?_
  rintro n σ' H' ⟨rfl, rfl, hn, hz⟩
  have fin : (n = 0 ∨ ∃ d, ds[n - 1]? = some d ∧ d ≠ 0) → tRet (tMake c.CBig (sp_Big_init K c) [] E0 (tCons (tFld K (tVar 0) "width") (tCons (tIf (tTest (tOp rGt (tVar 3) (tC (.int 0)))) (tVar 1) (tC (.int 0))) (tCons (tCB (rTupL K) (tCons (tSl (rSlL K) (tVar 2) tNoPart (tPart (tVar 3))) tNil)) tNil)))) (en0 Q) [some (.ref m), some (.int s), some (.ref l), some (.int (n : Int))] H' := by
    intro hend
    have es := strip_take hz hend
    have hsid : (if strip ds = [] then (0 : Int) else s) = if 0 < n then s else 0 := by
      rw [es]
      rcases Nat.eq_zero_or_pos n with z | z
      · rw [z]; rfl
      · rw [if_neg (fun q => ?_), if_pos z]
        have := congrArg List.length q
        rw [List.length_take] at this
        simp only [List.length_nil] at this
        omega
    walk_at "rd"
    refine rd_Mwidth P (by walk_at "own") ?_
    walk_at "rd"
    have cont : ∀ (s' : Int), s' = (if strip ds = [] then (0 : Int) else s) → tCons (tCB (rTupL K) (tCons (tSl (rSlL K) (tVar 2) tNoPart (tPart (tVar 3))) tNil)) tNil [some (.ref m), some (.int s), some (.ref l), some (.int (n : Int))] H' (fun xs H2 => kMake c.CBig (sp_Big_init K c) [] E0 Q (.int (b : Int) :: .int s' :: xs) H2) := by
      intro s' hs'
      subst hs'
      walk_at "rd"
      refine rd_slL (ys := iN (strip ds)) W (by walk_at "sq") ?_ fun p H1 hp W1 => ?_
      · rw [es, ← iN_take]
        unfold cutV
        rw [HT.sIx_none, HT.sIx_nat, List.drop_zero, Nat.sub_zero, iN_length, Nat.min_eq_left hn]
      walk_at "rd"
      refine rd_tupL W1 (by walk_at "sq") fun r H2 hr W2 => ?_
      walk_at "rd"
      refine rd_mkBig W2 fun x dx' H3 hx W3 => ?_
      refine k x dx' r H3 (W3.done (fun q z => nomatch z) (fun q z => nomatch z) (fun q hq => ?_) ?_)
      · rcases List.mem_cons.mp hq with z | z
        · rw [z]; exact ⟨by walk_at "mem", hx⟩
        · rw [List.mem_singleton.mp z]; exact ⟨by walk_at "mem", hr⟩
      · have nd := W3.nd
        exact nd.sublist (List.Sublist.map _ (List.Sublist.cons₂ _ (List.Sublist.cons₂ _ (List.nil_sublist _))))
    refine rd_2d (fun h1 => ?_) fun h1 => ?_
    · refine rd_var rfl ?_
      exact cont s (by rw [hsid, if_pos (by omega)])
    · refine rd_c ?_
      exact cont 0 (by rw [hsid, if_neg (by omega)])
  walk_at "rd"
  refine rd_2d (fun h1 => ?_) fun h1 => ?_
  · obtain ⟨d1, hd1⟩ : ∃ d1, ds[n - 1]? = some d1 := ⟨ds[n - 1]'(by omega), List.getElem?_eq_getElem _⟩
    walk_at "rd"
    refine rd_ixL (by walk_at "sq") (at_of (j := n - 1) (by omega) (iN_get hd1)) ?_
    walk_at "rd"
    refine rd_wh2 (fun h2 => ?_) fun h2 => ?_
    · walk_at "rd"
      refine ⟨n - 1, by omega, ?_, rfl, by omega, ?_⟩
      · rw [show ((n : Int) - 1) = ((n - 1 : Nat) : Int) by omega]
      · intro x hx
        have e1 : ds.drop (n - 1) = d1 :: ds.drop n := by
          have hlt : n - 1 < ds.length := by omega
          have e2 := List.drop_eq_getElem_cons hlt
          rw [e2]
          have e3 : ds[n - 1]'hlt = d1 := by
            have := (List.getElem?_eq_some_iff.mp hd1).2
            exact this
          rw [e3]
          congr 2
          omega
        rw [e1] at hx
        rcases List.mem_cons.mp hx with z | z
        · rw [z]; omega
        · exact hz x z
    · exact fin (.inr ⟨d1, hd1, by omega⟩)
  · refine rd_whF rfl ?_
    exact fin (.inl (by omega))
theorem pwN (b : Nat) : (2 : Int) ^ b = ((2 ^ b : Nat) : Int) := by simp
theorem pwPos (b : Nat) : (0 : Int) < 2 ^ b := by rw [pwN]; exact Int.ofNat_lt.mpr (Nat.two_pow_pos b)
theorem modN (n b : Nat) : (n : Int) % 2 ^ b = ((n % 2 ^ b : Nat) : Int) := by rw [pwN]; rfl
theorem divN (n b : Nat) : (n : Int) / 2 ^ b = ((n / 2 ^ b : Nat) : Int) := by rw [pwN]; rfl
theorem absN (n : Int) : (if n < 0 then -n else n) = (n.natAbs : Int) := by split <;> omega
theorem two_nd {α : Type} {p q : Addr} {o u : α} {L : List (Addr × α)} (h : (((p, o) :: (q, u) :: L).map (·.1)).Nodup) : ([(p, o), (q, u)].map (·.1)).Nodup := h.sublist (List.Sublist.map _ (List.Sublist.cons₂ _ (List.Sublist.cons₂ _ (List.nil_sublist _))))
def sp_digits_of (K : PySem.W.Frag) (c : Pc) : Sp := fun vs H Q _ => ∃ (m dx : Addr) (b : Nat) (cut : Int) (d e : Addr) (n : Nat), vs = [.ref m, .int (n : Int)] ∧ H m = some (.ins c.CMachine dx (mF b cut d e)) ∧ b ≠ 0 ∧ (digs b n).length < 2 ^ 23 ∧
  ∀ l H', Chg H H' [] [(l, .lst (iN (digs b n)))] → Q (.ref l) H'
def t_digits_of (K : PySem.W.Frag) (c : Pc) : TS :=
  (tSeq (tAsg (tLst tNil) (gName 2))
  (tSeq (tWhile (tTest (tOp rGt (tVar 1) (tC (.int 0)))) (tSeq (tDrop (tBM K "list" rAppend (tVar 2) (tCons (tOp rMod (tVar 1) (tFld K (tVar 0) "base")) tNil)))
  (tAsg (tOp rShr (tVar 1) (tFld K (tVar 0) "width")) (gName 1))))
  (tRet (tVar 2))))
theorem b_digits_of (P : PM K c) (h : sp_digits_of K c vs H Q E) : t_digits_of K c (en0 Q) (st0 3 vs) H := by
  obtain ⟨m, dx, b, cut, d, e, n, rfl, hm, hb, hlen, kq⟩ := h
  have W : Wd H H [] [(m, .ins c.CMachine dx (mF b cut d e))] := Wd.one hm
  unfold t_digits_of
  walk_at "rd"
  refine rd_kLst W (by decide) fun l H1 hl W1 => ?_
  walk_at "rd"
  refine rd_while (fun k σ' H' => ∃ ds, σ' = [some (.ref m), some (.int (k : Int)), some (.ref l)] ∧ Wd H H' [] [(l, .lst (iN ds)), (m, .ins c.CMachine dx (mF b cut d e))] ∧ ds ++ digs b k = digs b n) n ⟨[], rfl, W1, rfl⟩ ?_
  rintro k σ' H' ⟨ds, rfl, W2, hds⟩
  walk_at "rd"
  refine rd_wh2 (fun h1 => ?_) fun h1 => ?_
  · have hk : k ≠ 0 := by omega
    have e1 := digs_pos hb hk
    walk_at "rd"
    refine rd_Mbase P (by walk_at "own") ?_
    refine rd_mod (pwPos b) ?_
    rw [modN]
    walk_at "rd"
    have hdl : ds.length < 2 ^ 23 := by
      have := congrArg List.length hds
      rw [List.length_append] at this
      omega
    refine rd_append W2 (by walk_at "rp") (by walk_at "may") (by rw [iN_length]; exact Nat.lt_of_lt_of_le hdl (by decide)) fun H3 W3 => ?_
    walk_at "rd"
    refine rd_Mwidth P (by walk_at "own") ?_
    refine rd_shr (Int.natCast_nonneg _) ?_
    rw [Int.toNat_natCast, divN]
    walk_at "rd"
    refine ⟨k / 2 ^ b, Nat.div_lt_self (Nat.pos_of_ne_zero hk) (Nat.one_lt_two_pow hb), ds ++ [k % 2 ^ b], rfl, ?_, ?_⟩
    · rw [← iN_app]
      exact W3
    · rw [← hds, e1, List.append_assoc]
      rfl
  · have hk : k = 0 := by omega
    rw [hk, digs_zero, List.append_nil] at hds
    subst hds
    walk_at "rd"
    exact kq l H' (W2.done (fun q z => nomatch z) (fun q z => nomatch z) (fun q hq => by rw [List.mem_singleton.mp hq]; exact ⟨List.mem_cons_self, hl⟩) (by simp))
/-- what a new Big is -/
def NewBig (c : Pc) (Q : VK) (H : Hp) (b : Nat) (s : Int) (ds : List Nat) : Prop := ∀ x dx r H', Chg H H' [] [(x, .ins c.CBig dx (bF b s r)), (r, .tup (iN ds))] → Q (.ref x) H'
def sp_big_of (K : PySem.W.Frag) (c : Pc) : Sp := fun vs H Q _ => ∃ (m dx : Addr) (b : Nat) (cut : Int) (d e : Addr) (n : Int), vs = [.ref m, .int n] ∧ H m = some (.ins c.CMachine dx (mF b cut d e)) ∧ b ≠ 0 ∧ (digs b n.natAbs).length < 2 ^ 23 ∧
  NewBig c Q H b (sgn n) (digs b n.natAbs)
def t_big_of (K : PySem.W.Frag) (c : Pc) : TS :=
  (tRet (tCall (sp_made K c) [] E0 (tCons (tVar 0) (tCons (tIf (tTest (tOp rLt (tVar 1) (tC (.int 0)))) (tUn rNeg (tC (.int 1))) (tC (.int 1))) (tCons (tCall (sp_digits_of K c) [] E0 (tCons (tVar 0) (tCons (tCB rAbs (tCons (tVar 1) tNil)) tNil))) tNil)))))
theorem b_big_of (P : PM K c) (h : sp_big_of K c vs H Q E) : t_big_of K c (en0 Q) (st0 2 vs) H := by
  obtain ⟨m, dx, b, cut, d, e, n, rfl, hm, hb, hlen, k⟩ := h
  have W : Wd H H [] [(m, .ins c.CMachine dx (mF b cut d e))] := Wd.one hm
  unfold t_big_of
  walk_at "rd"
  have cont : ∀ s : Int, (if digs b n.natAbs = [] then 0 else s) = sgn n → tCons (tCall (sp_digits_of K c) [] E0 (tCons (tVar 0) (tCons (tCB rAbs (tCons (tVar 1) tNil)) tNil))) tNil (st0 2 [.ref m, .int n]) H (fun xs H2 => sp_made K c (.ref m :: .int s :: xs) H2 Q E0) := by
    intro s hs
    walk_at "rd"
    rw [absN]
    refine ⟨m, dx, b, cut, d, e, n.natAbs, rfl, hm, hb, hlen, fun l H1 ch => ?_⟩
    have W1 := W.chg0 ch
    walk_at "rd"
    refine ⟨m, dx, b, cut, d, e, s, l, digs b n.natAbs, rfl, W1.get (by walk_at "mem"), W1.get (by walk_at "mem"), hlen, fun x dx r H2 ch2 => ?_⟩
    rw [digs_norm hb, hs] at ch2
    have W2 := W1.chg0 ch2
    refine k x dx r H2 (W2.done (fun q z => nomatch z) (fun q z => nomatch z) (fun q hq => ?_) (two_nd W2.nd))
    have h0 : ∀ {p o}, (p, o) ∈ [(x, HO.ins c.CBig dx (bF b (sgn n) r)), (r, HO.tup (iN (digs b n.natAbs)))] → H p = none := fun hp => W1.fresh (ch2.new hp).1
    exact ⟨List.mem_append_left _ hq, h0 (p := q.1) (o := q.2) hq⟩
  refine rd_2d (fun h1 => ?_) fun h1 => ?_
  · refine rd_un (rd_c (rd_neg ?_))
    refine cont (-1) ?_
    rw [if_neg (fun z => by have := (digs_eq_nil hb).mp z; omega)]
    unfold sgn
    rw [if_pos h1]
  · refine rd_c ?_
    refine cont 1 ?_
    unfold sgn
    rw [if_neg h1]
    by_cases h2 : n = 0
    · rw [if_pos ((digs_eq_nil hb).mpr (by omega)), if_pos h2]
    · rw [if_neg (fun z => by have := (digs_eq_nil hb).mp z; omega), if_neg h2]
def sp_big (K : PySem.W.Frag) (c : Pc) : Sp := sp_big_of K c
def t_big (K : PySem.W.Frag) (c : Pc) : TS :=
  (tSeq (tDrop (tCall (sp_check_machine K c) [] E0 (tCons (tVar 0) tNil)))
  (tSeq (tDrop (tCall (sp_check_integer K c) [] E0 (tCons (tC (.str "n")) (tCons (tVar 1) tNil))))
  (tRet (tCall (sp_big_of K c) [] E0 (tCons (tVar 0) (tCons (tVar 1) tNil))))))
theorem b_big (h : sp_big K c vs H Q E) : t_big K c (en0 Q) (st0 2 vs) H := by
  obtain ⟨m, dx, b, cut, d, e, n, rfl, hm, hb, hlen, k⟩ := h
  unfold t_big
  walk_at "rd"
  refine ⟨m, dx, _, rfl, hm, ?_⟩
  walk_at "rd"
  refine ⟨_, n, rfl, ?_⟩
  walk_at "rd"
  exact ⟨m, dx, b, cut, d, e, n, rfl, hm, hb, hlen, k⟩
/-- the Big of n at x, its row at r -/
structure BigAt (c : Pc) (H : Hp) (x : Addr) (b : Nat) (n : Int) : Prop where
  at_ : ∃ dx r, H x = some (.ins c.CBig dx (bF b (sgn n) r)) ∧ H r = some (.tup (iN (digs b n.natAbs)))
theorem BigAt.same {H' : Hp} {n : Int} (h : BigAt c H x b n) (hs : Same H H') : BigAt c H' x b n := by
  obtain ⟨dx, r, h1, h2⟩ := h.at_
  exact ⟨dx, r, hs _ _ h1, hs _ _ h2⟩
def bigL (b : Nat) (n : Int) : Prop := b ≠ 0 ∧ b ≤ 30 ∧ (digs b n.natAbs).length < 2 ^ 22
theorem sgn_small (n : Int) : -1 ≤ sgn n ∧ sgn n ≤ 1 := by
  unfold sgn
  split
  · omega
  · split <;> omega
end
/-- the state of a source of draws -/
def SrcO (o : HO) : Prop := ∃ z0 z1 z2 : Int, o = .lst [.int z0, .int z1, .int z2]
section
variable {K : PySem.W.Frag} {c : Pc} {vs : List V} {H H0 : Hp} {Q : VK} {E : XK} {M : List Addr} {L : List (Addr × HO)} {L' : HO → List (Addr × HO)} {n : Int} {a p : Addr} {o : HO}
def sp_law_source_of (K : PySem.W.Frag) (c : Pc) : Sp := fun vs H Q _ => ∃ n, vs = [.int n] ∧ ∀ p o H', SrcO o → Chg H H' [] [(p, o)] → Q (.ref p) H'
def t_law_source_of (K : PySem.W.Frag) (c : Pc) : TS :=
  (tSeq (tAsg (tIf (tTest (tOp rGe (tVar 0) (tC (.int 0)))) (tVar 0) (tOp rSub (tOp rSub (tC (.int 0)) (tOp rMul (tC (.int 3)) (tVar 0))) (tC (.int 1)))) (gName 0))
  (tRet (tLst (tCons (tOp rMul (tVar 0) (tCB rInt (tCons (tOp rGe (tVar 0) (tOp rPow (tC (.int 10)) (tC (.int 18)))) tNil))) (tCons (tOp rMod (tCB rInt (tCons (tVar 0) tNil)) (tC (.int 2147483647))) (tCons (tC (.int 0)) tNil))))))
theorem one_nd {α : Type} {p : Addr} {o : α} : ([(p, o)].map (·.1)).Nodup := List.nodup_cons.mpr ⟨by simp, List.nodup_nil⟩
theorem Wd.new1 {H' : Hp} {o : HO} (W : Wd H H' [] ((p, o) :: L)) (hp : H p = none) : Chg H H' [] [(p, o)] :=
  W.done (fun q z => nomatch z) (fun q z => nomatch z) (fun q hq => by rw [List.mem_singleton.mp hq]; exact ⟨List.mem_cons_self, hp⟩) one_nd
theorem pow18 : oPow 10 18 := ⟨by decide, by decide⟩
theorem b_law_source_of (h : sp_law_source_of K c vs H Q E) : t_law_source_of K c (en0 Q) (st0 1 vs) H := by
  obtain ⟨n, rfl, k⟩ := h
  unfold t_law_source_of
  walk_at "rd"
  have cont : ∀ n : Int, tRet (tLst (tCons (tOp rMul (tVar 0) (tCB rInt (tCons (tOp rGe (tVar 0) (tOp rPow (tC (.int 10)) (tC (.int 18)))) tNil))) (tCons (tOp rMod (tCB rInt (tCons (tVar 0) tNil)) (tC (.int 2147483647))) (tCons (tC (.int 0)) tNil)))) (en0 Q) [some (.int n)] H := by
    intro n
    walk_at "rd"
    refine rd_pow pow18 ?_
    walk_at "rd"
    refine rd_mul (mul_okR (by split <;> decide) (by split <;> decide)) ?_
    walk_at "rd"
    refine rd_kLst (Wd.nil H) (by walk_at "len") fun p H1 hp W => ?_
    exact k p _ H1 ⟨_, _, _, rfl⟩ (W.new1 hp)
  refine rd_2d (fun h1 => ?_) fun h1 => ?_
  · refine rd_var rfl ?_
    refine rd_name Sets.here ?_
    exact cont n
  · refine rd_op (rd_op (rd_c (rd_op (rd_c (rd_var rfl (rd_mul (mul_okL (by decide) (by decide)) (rd_subI (rd_c (rd_subI ?_)))))))))
    refine rd_name Sets.here ?_
    exact cont _
def NxtB (n : Int) : Prop := n.natAbs < 2 ^ 8000
theorem nxt_of {n : Int} {k : Nat} (h : n.natAbs < 2 ^ k) (hk : k ≤ 8000) : NxtB n := Nat.lt_of_lt_of_le h (Nat.pow_le_pow_right (by decide) hk)
theorem nxt64 {n : Int} (h0 : 0 < n) (h : n < 2 ^ 64) : NxtB n := nxt_of (k := 64) (by omega) (by decide)
theorem nxOk {n : Int} (h0 : 0 < n) (h : n < 2 ^ 64) : 0 < n ∧ NxtB n := ⟨h0, nxt64 h0 h⟩
def sp_law_next (K : PySem.W.Frag) (c : Pc) : Sp := fun vs H Q _ => ∃ a o n, vs = [.ref a, .int n] ∧ H a = some o ∧ SrcO o ∧ 0 < n ∧ NxtB n ∧ ∀ r o' H', 0 ≤ r → r < n → SrcO o' → Chg H H' [(a, o')] [] → Q (.int r) H'
def t_law_next (K : PySem.W.Frag) (c : Pc) : TS :=
  (tSeq (tIfS (tTest (tOp rGt (tOp (rIxL K) (tVar 0) (tC (.int 0))) (tC (.int 0)))) (tSeq (tAsg (tOp rMod (tCB rInt (tCons (tOp (rIxL K) (tVar 0) (tC (.int 0))) tNil)) (tVar 1)) (gName 2))
  (tSeq (tAsg (tOp rDiv (tOp (rIxL K) (tVar 0) (tC (.int 0))) (tVar 1)) (gSub (tVar 0) (tC (.int 0)) rSetL))
  (tRet (tVar 2)))) tNext)
  (tSeq (tAsg (tOp rAdd (tOp (rIxL K) (tVar 0) (tC (.int 2))) (tC (.int 1))) (gSub (tVar 0) (tC (.int 2)) rSetL))
  (tSeq (tAsg (tC (.int 2147483647)) (gName 3))
  (tSeq (tAsg (tOp rMod (tCB rInt (tCons (tOp rAdd (tOp rAdd (tOp (rIxL K) (tVar 0) (tC (.int 1))) (tOp rMul (tC (.int 104729)) (tOp (rIxL K) (tVar 0) (tC (.int 2))))) (tC (.int 7919))) tNil)) (tVar 3)) (gName 4))
  (tSeq (tAsg (tOp rMod (tCB rInt (tCons (tOp rMul (tVar 4) (tC (.int 48271))) tNil)) (tVar 3)) (gName 4))
  (tSeq (tAsg (tOp rMod (tCB rInt (tCons (tOp rMul (tVar 4) (tOp rAdd (tOp rDiv (tVar 4) (tC (.int 1009))) (tC (.int 69621)))) tNil)) (tVar 3)) (gName 4))
  (tSeq (tAsg (tOp rMod (tCB rInt (tCons (tOp rMul (tVar 4) (tOp rAdd (tOp rDiv (tVar 4) (tC (.int 2003))) (tC (.int 40692)))) tNil)) (tC (.int 2147483399))) (gName 4))
  (tRet (tOp rMod (tCB rInt (tCons (tOp rDiv (tVar 4) (tC (.int 7))) tNil)) (tVar 1))))))))))
theorem Wd.chg_one {H' : Hp} {o : HO} {a : Addr} (W : Wd H H' [a] ((a, o) :: L)) : Chg H H' [(a, o)] [] :=
  W.done (fun q hq => by rw [List.mem_singleton.mp hq]; exact List.mem_cons_self) (fun q hq => hq) (fun q z => nomatch z) List.nodup_nil
theorem b_law_next (h : sp_law_next K c vs H Q E) : t_law_next K c (en0 Q) (st0 5 vs) H := by
  obtain ⟨a, o, n, rfl, ha, ⟨z0, z1, z2, rfl⟩, h0, hn, k⟩ := h
  have W : Wd H H [a] [(a, .lst [.int z0, .int z1, .int z2])] := (Wd.one ha).may List.mem_cons_self
  unfold t_law_next
  walk_at "rd"
  refine rd_ixL (by walk_at "sq") (v := .int z0) rfl ?_
  walk_at "rd"
  refine rd_2d (fun h1 => ?_) fun h1 => ?_
  · walk_at "rd"
    refine rd_ixL (by walk_at "sq") (v := .int z0) rfl ?_
    walk_at "rd"
    refine rd_ixL (by walk_at "sq") (v := .int z0) rfl ?_
    walk_at "rd"
    refine rd_div (div_ok (k := 8000) h0 hn (by decide) (by decide)) ?_
    walk_at "rd"
    refine rd_setL W (j := 0) rfl (by walk_at "rp") (by walk_at "may") fun H1 W1 => ?_
    walk_at "rd"
    exact k _ _ H1 (Int.emod_nonneg _ (by omega)) (Int.emod_lt_of_pos _ h0) ⟨_, _, _, rfl⟩ W1.chg_one
  · walk_at "rd"
    refine rd_ixL (by walk_at "sq") (v := .int z2) rfl ?_
    walk_at "rd"
    refine rd_setL W (j := 2) rfl (by walk_at "rp") (by walk_at "may") fun H1 W1 => ?_
    walk_at "rd"
    refine rd_ixL (by walk_at "sq") (v := .int z1) rfl ?_
    walk_at "rd"
    refine rd_ixL (by walk_at "sq") (v := .int (z2 + 1)) rfl ?_
    refine rd_mul (mul_okL (by decide) (by decide)) ?_
    walk_at "rd"
    generalize h4 : (z1 + 104729 * (z2 + 1) + 7919) % 2147483647 = y1
    have b1 : 0 ≤ y1 ∧ y1 < 2147483647 := by omega
    refine rd_mul (mul_okR (by decide) (by decide)) ?_
    walk_at "rd"
    generalize h5 : y1 * 48271 % 2147483647 = y2
    have b2 : 0 ≤ y2 ∧ y2 < 2147483647 := by omega
    refine rd_div (div_ok64 (by decide) (by decide)) ?_
    walk_at "rd"
    refine rd_mul (mul_okL (by omega) (by omega)) ?_
    walk_at "rd"
    generalize h6 : y2 * (y2 / 1009 + 69621) % 2147483647 = y3
    have b3 : 0 ≤ y3 ∧ y3 < 2147483647 := ⟨by rw [← h6]; exact Int.emod_nonneg _ (by decide), by rw [← h6]; exact Int.emod_lt_of_pos _ (by decide)⟩
    refine rd_div (div_ok64 (by decide) (by decide)) ?_
    walk_at "rd"
    refine rd_mul (mul_okL (by omega) (by omega)) ?_
    walk_at "rd"
    refine rd_div (div_ok64 (by decide) (by decide)) ?_
    walk_at "rd"
    exact k _ _ H1 (Int.emod_nonneg _ (by omega)) (Int.emod_lt_of_pos _ h0) ⟨_, _, _, rfl⟩ W1.chg_one
end
def dI (ns : List Int) : List PyData := ns.map PyData.int
theorem dI_lay : ∀ ns : List Int, PyData.canLayAll0 (dI ns) = true
  | [] => by simp [dI, PyData.canLayAll0]
  | n :: ns => by
    show PyData.canLayAll0 (PyData.int n :: dI ns) = true
    rw [PyData.canLayAll0, dI_lay ns]
    simp [PyData.canLay0]
theorem dI_depth : ∀ ns : List Int, PyData.depthAll (dI ns) = 0
  | [] => by simp [dI, PyData.depthAll]
  | n :: ns => by
    show PyData.depthAll (PyData.int n :: dI ns) = 0
    rw [PyData.depthAll, dI_depth ns]
    simp [PyData.depth]
theorem dI_eqv : ∀ ns ms : List Int, PyData.eqvAll (dI ns) (dI ms) = decide (ns = ms)
  | [], [] => by simp [dI, PyData.eqvAll]
  | [], _ :: _ => by simp [dI, PyData.eqvAll]
  | _ :: _, [] => by simp [dI, PyData.eqvAll]
  | n :: ns, m :: ms => by
    show PyData.eqvAll (PyData.int n :: dI ns) (PyData.int m :: dI ms) = _
    rw [PyData.eqvAll, dI_eqv ns ms, PyData.eqv]
    by_cases h1 : n = m
    · by_cases h2 : ns = ms
      · simp [h1, h2]
      · simp [h1, h2]
    · simp [h1]
theorem shaped_list (ns : List Int) : SeqAt.shaped (.list (dI ns)) = true := by
  unfold SeqAt.shaped
  rw [PyData.canLay0, dI_lay, PyData.depth, dI_depth]
  rfl
theorem dpI {K : PySem.W.Frag} {H : Hp} : ∀ ns : List Int, DpAll K H (ns.map V.int) (dI ns)
  | [] => .nil
  | n :: ns => .cons (.int n) (dpI ns)
section
variable {K : PySem.W.Frag} {c : Pc} {vs : List V} {H H0 : Hp} {Q : VK} {E : XK} {M : List Addr} {L : List (Addr × HO)} {L' : HO → List (Addr × HO)} {n : Int} {a p l : Addr} {o : HO} {ns ms : List Int} {ds : List Nat}
theorem rd_neLI (h1 : SqL K H l (ns.map V.int)) (h2 : SqL K H p (ms.map V.int)) (q : Q (.bl (!decide (ns = ms))) H) : rNeD K (.ref l) (.ref p) H Q :=
  ⟨_, _, .lst h1 (dpI ns), .lst h2 (dpI ms), shaped_list ns, shaped_list ms, by rw [PyData.eqv, dI_eqv]; exact q⟩
theorem rd_eqLI (h1 : SqL K H l (ns.map V.int)) (h2 : SqL K H p (ms.map V.int)) (q : Q (.bl (decide (ns = ms))) H) : rEqD K (.ref l) (.ref p) H Q :=
  ⟨_, _, .lst h1 (dpI ns), .lst h2 (dpI ms), shaped_list ns, shaped_list ms, by rw [PyData.eqv, dI_eqv]; exact q⟩
theorem iN_int (ds : List Nat) : iN ds = (ds.map fun (d : Nat) => (d : Int)).map V.int := by unfold iN; rw [List.map_map]; rfl
def sp_law_cell_at (K : PySem.W.Frag) (c : Pc) : Sp := fun vs H Q _ => ∃ (a : Addr) (ns : List Int) (i : Int), vs = [.ref a, .int i] ∧ SqL K H a (ns.map V.int) ∧ ns.length ≤ 1000 ∧ ∀ n H', Same H H' → Q (.int n) H'
def t_law_cell_at (K : PySem.W.Frag) (c : Pc) : TS :=
  (tRet (tOp (rIxL K) (tOp rCat (tSl (rSlL K) (tVar 0) (tPart (tVar 1)) (tPart (tOp rAdd (tVar 1) (tC (.int 1))))) (tLst (tCons (tC (.int 0)) tNil))) (tC (.int 0))))
theorem cut_ints (ns : List Int) (lo hi : Option Int) : ∃ ms : List Int, cutV (ns.map V.int) lo hi = ms.map V.int ∧ ms.length ≤ ns.length := by
  unfold cutV
  rw [← List.map_drop, ← List.map_take]
  exact ⟨_, rfl, by rw [List.length_take, List.length_drop]; omega⟩
theorem b_law_cell_at (h : sp_law_cell_at K c vs H Q E) : t_law_cell_at K c (en0 Q) (st0 2 vs) H := by
  obtain ⟨a, ns, i, rfl, ha, hl, k⟩ := h
  unfold t_law_cell_at
  walk_at "rd"
  obtain ⟨ms, e, hm⟩ := cut_ints ns (some i) (some (i + 1))
  refine rd_slL (Wd.nil H) ha e fun p H1 hp W1 => ?_
  walk_at "rd"
  refine rd_kLst W1 (by walk_at "len") fun q H2 hq W2 => ?_
  refine rd_cat W2 (by walk_at "own") (by walk_at "own") (by rw [List.length_map]; exact Evl.sz_of (by simp; omega)) fun r H3 hr W3 => ?_
  walk_at "rd"
  cases ms with
  | nil =>
    refine rd_ixL (by walk_at "sq") (v := .int 0) rfl ?_
    exact k _ H3 W3.toSame
  | cons m ms =>
    refine rd_ixL (by walk_at "sq") (v := .int m) (at_of (j := 0) rfl rfl) ?_
    exact k _ H3 W3.toSame
theorem rd_mkMachine {b : Nat} {cut : Int} (W : Wd H0 H M L) (h1 : 8 ≤ b) (h2 : b ≤ 30) (h3 : 2 ≤ cut) (h4 : cut ≤ 1000)
    (q : ∀ x dx d e H', H0 x = none → H0 d = none → H0 e = none → Wd H0 H' M ((d, .dK (cK zeros)) :: (e, .lst []) :: (x, .ins c.CMachine dx (mF b cut d e)) :: L) → Q (.ref x) H') : kMake c.CMachine (sp_Machine_init K c) [] E Q [.int (b : Int), .int cut] H := by
  intro x dx hx hdx ne
  have W1 := W.new (o := .own x) hdx
  have hx1 : upd H dx (.own x) x = none := by rw [upd_ne (Ne.symm ne)]; exact hx
  have W2 := W1.new (o := .ins c.CMachine dx []) hx1
  refine ⟨x, dx, b, cut, rfl, h1, h2, h3, h4, upd_same, fun d e H' ch => ⟨rfl, ?_⟩⟩
  have W3 := W2.chg1 Rp.here ch (.inl (W.fresh hx))
  have hno : dx ∉ M := fun z => W.out hdx (W.sub dx z)
  have hd0 : H0 d = none := W2.fresh (ch.new (o := .dK (cK zeros)) (by walk_at "mem")).1
  have he0 : H0 e = none := W2.fresh (ch.new (o := .lst []) (by walk_at "mem")).1
  refine q x dx d e H' (W.fresh hx) hd0 he0 ?_
  have W4 : Wd H0 H' M ((dx, .own x) :: (d, .dK (cK zeros)) :: (e, .lst []) :: (x, .ins c.CMachine dx (mF b cut d e)) :: L) := W3.perm (List.perm_middle (l₁ := [_, _, _]) (l₂ := L))
  exact W4.drop1 hno
def sp_law_machine (K : PySem.W.Frag) (c : Pc) : Sp := fun vs H Q _ => ∃ a o, vs = [.ref a] ∧ H a = some o ∧ SrcO o ∧
  ∀ (x dx : Addr) (b : Nat) (cut : Int) (d e : Addr) o' H', 8 ≤ b → b ≤ 30 → 2 ≤ cut → cut ≤ 1000 → SrcO o' → Chg H H' [(a, o')] [(d, .dK (cK zeros)), (e, .lst []), (x, .ins c.CMachine dx (mF b cut d e))] → Q (.ref x) H'
end
/-- a thing that calls may change: a list or a dict -/
def Chb (o : HO) : Prop := (∃ xs, o = .lst xs) ∨ ∃ kvs, o = .dK kvs
section
variable {K : PySem.W.Frag} {c : Pc} {vs : List V} {H H0 H' : Hp} {Q : VK} {E : XK} {M : List Addr} {L : List (Addr × HO)} {b : Nat} {s cut n : Int} {a m d e dx r x l p : Addr} {ds : List Nat} {cs ns : List (Addr × HO)}
theorem BigAt.chg (h : BigAt c H x b n) (ch : Chg H H' cs ns) (hc : ∀ q ∈ cs, ∃ o, H q.1 = some o ∧ Chb o) : BigAt c H' x b n := by
  obtain ⟨dx, r, h1, h2⟩ := h.at_
  refine ⟨dx, r, ch.keep _ _ h1 fun z => ?_, ch.keep _ _ h2 fun z => ?_⟩
  · obtain ⟨q, hq, e⟩ := List.mem_map.mp z
    obtain ⟨o, ho, hb⟩ := hc q hq
    rw [e, h1] at ho
    rcases hb with ⟨xs, rfl⟩ | ⟨kvs, rfl⟩ <;> cases ho
  · obtain ⟨q, hq, e⟩ := List.mem_map.mp z
    obtain ⟨o, ho, hb⟩ := hc q hq
    rw [e, h2] at ho
    rcases hb with ⟨xs, rfl⟩ | ⟨kvs, rfl⟩ <;> cases ho
theorem NewBig.at (h : ∀ x H', Chg H H' [] [] → H x = none → BigAt c H' x b n → Q (.ref x) H') : NewBig c Q H b (sgn n) (digs b n.natAbs) := fun x dx r H' ch =>
  h x H' (.of_same fun q o z => ch.keep q o z fun y => nomatch y) (ch.new List.mem_cons_self).1 ⟨dx, r, (ch.new List.mem_cons_self).2, (ch.new (List.mem_cons_of_mem _ List.mem_cons_self)).2⟩
def sp_Machine_parts (K : PySem.W.Frag) (c : Pc) : Sp := fun vs H Q _ => ∃ (a dx : Addr) (b : Nat) (cut : Int) (d e : Addr), vs = [.ref a] ∧ H a = some (.ins c.CMachine dx (mF b cut d e)) ∧ ∀ p H', Chg H H' [] [(p, .tup [.int (b : Int), .int cut])] → Q (.ref p) H'
def t_Machine_parts (K : PySem.W.Frag) (c : Pc) : TS :=
  (tRet (tTup (tCons (tFld K (tVar 0) "width") (tCons (tFld K (tVar 0) "limit_of_rows") tNil))))
theorem b_Machine_parts (P : PM K c) (h : sp_Machine_parts K c vs H Q E) : t_Machine_parts K c (en0 Q) (st0 1 vs) H := by
  obtain ⟨a, dx, b, cut, d, e, rfl, ha, k⟩ := h
  unfold t_Machine_parts
  walk_at "rd"
  refine rd_Mwidth P ha ?_
  walk_at "rd"
  refine rd_Mlimit P ha ?_
  walk_at "rd"
  refine rd_kTup (Wd.nil H) (by walk_at "len") fun p H1 hp W => ?_
  exact k p H1 (W.new1 hp)
def sp_Machine_walk (K : PySem.W.Frag) (c : Pc) : Sp := fun vs H Q _ => ∃ (a dx : Addr) (b : Nat) (cut : Int) (d e : Addr) (xs : List V), vs = [.ref a] ∧ H a = some (.ins c.CMachine dx (mF b cut d e)) ∧ H e = some (.lst xs) ∧ ∀ p H', Chg H H' [] [(p, .lst xs)] → Q (.ref p) H'
def t_Machine_walk (K : PySem.W.Frag) (c : Pc) : TS :=
  (tRet (tCB (rList K) (tCons (tFld K (tVar 0) "entered") tNil)))
theorem b_Machine_walk (P : PM K c) (h : sp_Machine_walk K c vs H Q E) : t_Machine_walk K c (en0 Q) (st0 1 vs) H := by
  obtain ⟨a, dx, b, cut, d, e, xs, rfl, ha, he, k⟩ := h
  unfold t_Machine_walk
  walk_at "rd"
  refine rd_Mentered P ha ?_
  walk_at "rd"
  refine rd_list (Wd.nil H) (.inl (SqL.of he)) fun p H1 hp W => ?_
  exact k p H1 (W.new1 hp)
def sp_Big_sign (K : PySem.W.Frag) (c : Pc) : Sp := fun vs H Q _ => ∃ x b n, vs = [.ref x] ∧ BigAt c H x b n ∧ Q (.int (sgn n)) H
def sp_Big_bits (K : PySem.W.Frag) (c : Pc) : Sp := fun vs H Q _ => ∃ x b n, vs = [.ref x] ∧ BigAt c H x b n ∧ Q (.int (b : Int)) H
def sp_Big_digits (K : PySem.W.Frag) (c : Pc) : Sp := fun vs H Q _ => ∃ x b n, vs = [.ref x] ∧ BigAt c H x b n ∧ ∀ p H', Chg H H' [] [(p, .lst (iN (digs b n.natAbs)))] → Q (.ref p) H'
def sp_Big_eq (K : PySem.W.Frag) (c : Pc) : Sp := fun vs H Q _ => ∃ x b n y, vs = [.ref x, y] ∧ BigAt c H x b n ∧ b ≠ 0 ∧
  ((∃ x' b' n', y = .ref x' ∧ BigAt c H x' b' n' ∧ b' ≠ 0 ∧ ∀ H', Same H H' → Q (.bl (decide (b = b' ∧ n = n'))) H') ∨ (∃ t, TyX K H y t ∧ PySem.W.kitOne K t (.ref c.CBig) = some false ∧ Q (.bl false) H))
def sp_value_of (K : PySem.W.Frag) (c : Pc) : Sp := fun vs H Q _ => ∃ x b n, vs = [.ref x] ∧ BigAt c H x b n ∧ bigL b n ∧ ∀ H', Same H H' → Q (.int n) H'
def t_value_of (K : PySem.W.Frag) (c : Pc) : TS :=
  (tSeq (tAsg (tC (.int 0)) (gName 1))
  (tSeq (tFor (iTup K (tRevT K (tFld K (tVar 0) "row"))) (gName 2) (tAsg (tOp rOr (tOp rShl (tVar 1) (tFld K (tVar 0) "width")) (tVar 2)) (gName 1)))
  (tRet (tOp rMul (tFld K (tVar 0) "side") (tVar 1)))))
theorem fold_val (b : Nat) (ds : List Nat) : ds.reverse.foldl (fun r d => r * 2 ^ b + d) 0 = val b ds := by
  rw [List.foldl_reverse]
  induction ds with
  | nil => rfl
  | cons d ds ih => rw [List.foldr_cons, ih, val_cons, Nat.add_comm, Nat.mul_comm]
theorem fold_lt {b : Nat} : ∀ {ds : List Nat} (k : Nat), Digs b ds → k < 2 ^ 0 → ds.foldl (fun r d => r * 2 ^ b + d) k < 2 ^ (b * ds.length) := by
  have key : ∀ (ds : List Nat) (k j : Nat), Digs b ds → k < 2 ^ j → ds.foldl (fun r d => r * 2 ^ b + d) k < 2 ^ (b * ds.length + j) := by
    intro ds
    induction ds with
    | nil => intro k j _ hk; simpa using hk
    | cons d ds ih =>
      intro k j hd hk
      have h1 := ih (k * 2 ^ b + d) (b + j) (fun y hy => hd y (List.mem_cons_of_mem _ hy)) (by
        have hdl := hd d List.mem_cons_self
        have : (k + 1) * 2 ^ b ≤ 2 ^ j * 2 ^ b := Nat.mul_le_mul_right _ hk
        rw [Nat.add_mul, Nat.one_mul] at this
        rw [Nat.pow_add, Nat.mul_comm (2 ^ b)]
        omega)
      rw [List.foldl_cons, List.length_cons, Nat.mul_add, Nat.mul_one]
      rw [show b * ds.length + b + j = b * ds.length + (b + j) by omega]
      exact h1
  intro ds k hd hk
  have := key ds k 0 hd hk
  simpa using this
theorem b_value_of (P : PB K c) (h : sp_value_of K c vs H Q E) : t_value_of K c (en0 Q) (st0 3 vs) H := by
  obtain ⟨x, b, n, rfl, ⟨dx, r, hx, hr⟩, ⟨hb, hb30, hl⟩, q⟩ := h
  have nxr : x ≠ r := ne_of hx hr (by intro z; cases z)
  have W : Wd H H [] [(x, .ins c.CBig dx (bF b (sgn n) r)), (r, .tup (iN (digs b n.natAbs)))] := (Wd.one hr).old hx (by simpa using nxr)
  have hdg : Digs b (digs b n.natAbs).reverse := fun d hd => digs_lt hb _ d (List.mem_reverse.mp hd)
  unfold t_value_of
  walk_at "rd"
  refine rd_Brow P hx ?_
  refine rd_kRevT W (by walk_at "sq") fun t H1 ht W1 => ?_
  rw [iN_rev] at W1
  walk_at "rd"
  refine rd_forT (xs := iN (digs b n.natAbs).reverse) (fun i σ' H' => ∃ v, σ' = [some (.ref x), some (.int (((digs b n.natAbs).reverse.take i).foldl (fun r d => r * 2 ^ b + d) 0 : Nat)), v] ∧ H' = H1) ⟨none, rfl, rfl⟩ ?_ ?_ ?_
  · rintro i σ' H' _ ⟨v, _, rfl⟩
    walk_at "sq"
  · rintro i y σ' H' hy ⟨v, rfl, rfl⟩
    obtain ⟨d, hd, rfl⟩ := iN_of hy
    have hil : i < (digs b n.natAbs).length := by
      have := (List.getElem?_eq_some_iff.mp hd).1
      rwa [List.length_reverse] at this
    have hR := fold_lt (b := b) (ds := (digs b n.natAbs).reverse.take i) 0 (fun y hy => hdg y (List.mem_of_mem_take hy)) (by decide)
    rw [List.length_take, List.length_reverse, Nat.min_eq_left (by omega)] at hR
    have hdl : d < 2 ^ b := hdg d (List.mem_of_getElem? hd)
    generalize hRR : ((digs b n.natAbs).reverse.take i).foldl (fun r d => r * 2 ^ b + d) 0 = R at hR
    have hbi : b * i ≤ 30 * i := Nat.mul_le_mul_right _ hb30
    walk_at "rd"
    refine rd_Bwidth P (by walk_at "own") ?_
    refine rd_shl (shl_ok (n := b * i) (by simpa using hR) (by omega)) ?_
    walk_at "rd"
    rw [Int.toNat_natCast, or_low (Int.natCast_nonneg _) (Int.natCast_nonneg _) (by rw [pwN]; exact Int.ofNat_lt.mpr hdl)]
    refine ⟨some (.int (d : Int)), ?_, rfl⟩
    rw [take_snoc hd, List.foldl_append, hRR, pwN]
    rfl
  · rintro σ' H' ⟨v, rfl, rfl⟩
    rw [iN_length, List.take_length, fold_val, val_digs hb]
    have hs := sgn_small n
    walk_at "rd"
    refine rd_Bside P (by walk_at "own") ?_
    walk_at "rd"
    refine rd_mul (mul_okL (by omega) (by omega)) ?_
    rw [sgn_mul]
    exact q _ W1.toSame
def sp_plain (K : PySem.W.Frag) (c : Pc) : Sp := sp_value_of K c
def sp_negative (K : PySem.W.Frag) (c : Pc) : Sp := fun vs H Q _ => ∃ x b n, vs = [.ref x] ∧ BigAt c H x b n ∧ ∀ x' H', H x' = none → Chg H H' [] [] → BigAt c H' x' b (-n) → Q (.ref x') H'
theorem sgn_neg (n : Int) : sgn (-n) = 0 - sgn n := by
  unfold sgn
  split <;> split <;> (try split) <;> (try split) <;> omega
def sp_absolute (K : PySem.W.Frag) (c : Pc) : Sp := fun vs H Q _ => ∃ x b n, vs = [.ref x] ∧ BigAt c H x b n ∧ ∀ x' H', H x' = none → Chg H H' [] [] → BigAt c H' x' b (n.natAbs : Int) → Q (.ref x') H'
end
/-- B: the Bigs that stand: place, width, number -/
structure Wb (c : Pc) (H0 H : Hp) (M : List Addr) (L : List (Addr × HO)) (B : List (Addr × Nat × Int)) : Prop where
  wd : Wd H0 H M L
  big : ∀ {x : Addr} {b : Nat} {n : Int}, (x, b, n) ∈ B → BigAt c H x b n ∧ bigL b n
/-- a list of integers -/
def AllI (xs : List V) : Prop := ∃ ns : List Int, xs = ns.map V.int
theorem AllI.nil : AllI [] := ⟨[], rfl⟩
theorem AllI.cons {n : Int} {xs : List V} (h : AllI xs) : AllI (.int n :: xs) := by obtain ⟨ns, rfl⟩ := h; exact ⟨n :: ns, rfl⟩
theorem AllI.n (ds : List Nat) : AllI (iN ds) := ⟨_, iN_int ds⟩
theorem AllI.m (ns : List Int) : AllI (ns.map V.int) := ⟨ns, rfl⟩
theorem AllI.app {xs ys : List V} (h : AllI xs) (k : AllI ys) : AllI (xs ++ ys) := by
  obtain ⟨ns, rfl⟩ := h
  obtain ⟨ms, rfl⟩ := k
  exact ⟨ns ++ ms, by rw [List.map_append]⟩
theorem AllI.rep {n : Nat} {xs : List V} (h : AllI xs) : AllI (List.replicate n xs).flatten := by
  induction n with
  | zero => exact AllI.nil
  | succ n ih => rw [List.replicate_succ, List.flatten_cons]; exact h.app ih
theorem SrcO.chb {o : HO} (h : SrcO o) : Chb o := by obtain ⟨a, b, d, rfl⟩ := h; exact .inl ⟨_, rfl⟩
theorem Chb.lst {xs : List V} : Chb (.lst xs) := .inl ⟨_, rfl⟩
theorem Chb.dK {kvs : List (Key × V)} : Chb (.dK kvs) := .inr ⟨_, rfl⟩
section
variable {K : PySem.W.Frag} {c : Pc} {vs xs ys : List V} {H H0 H' : Hp} {Q : VK} {E : XK} {M : List Addr} {L L' ns cs : List (Addr × HO)} {L1 : HO → List (Addr × HO)} {B : List (Addr × Nat × Int)} {b b' : Nat} {cut n m : Int} {a d e dx r x x' l p : Addr} {o u : HO} {σ : L2.St} {y : V} {tr : TA}
theorem Wb.self (W : Wb c H0 H M L B) : Wd H H [] L := ⟨W.wd.get, W.wd.nd, fun _ _ e _ => e, fun _ h => nomatch h⟩
theorem Wb.get (W : Wb c H0 H M L B) (h : (a, o) ∈ L) : H a = some o := W.wd.get h
theorem Wb.chg0 (W : Wb c H0 H M L B) (ch : Chg H H' [] ns) : Wb c H0 H' M (ns ++ L) B := ⟨W.wd.chg0 ch, fun h => ⟨(W.big h).1.chg ch (fun _ z => nomatch z), (W.big h).2⟩⟩
theorem Wb.chg1 (W : Wb c H0 H M L B) (r : Rp a o u L L') (hb : Chb o) (ch : Chg H H' [(a, u)] ns) (hm : H0 a = none ∨ a ∈ M) : Wb c H0 H' M (ns ++ L') B := ⟨W.wd.chg1 r ch hm, fun h => ⟨(W.big h).1.chg ch (fun q z => by
  rw [List.mem_singleton.mp z]; exact ⟨o, W.wd.get r.mem, hb⟩), (W.big h).2⟩⟩
theorem Wb.same (W : Wb c H0 H M L B) (s : Same H H') : Wb c H0 H' M L B := ⟨W.wd.same s, fun h => ⟨(W.big h).1.same s, (W.big h).2⟩⟩
theorem Wb.add (W : Wb c H0 H M L B) (h : BigAt c H x b n) (l : bigL b n) : Wb c H0 H M L ((x, b, n) :: B) := ⟨W.wd, fun z => by
  rcases List.mem_cons.mp z with z | z
  · cases z; exact ⟨h, l⟩
  · exact W.big z⟩
theorem Wb.new (W : Wb c H0 H M L B) (h : H p = none) : Wb c H0 (upd H p o) M ((p, o) :: L) B :=
  W.chg0 (ns := [(p, o)]) (((Wd.nil H).new h).new1 h)
theorem Wb.put (W : Wb c H0 H M L B) (r : Rp a o u L L') (hb : Chb o) (hm : H0 a = none ∨ a ∈ M) : Wb c H0 (upd H a u) M L' B :=
  W.chg1 (ns := []) r hb (⟨fun z => by cases List.mem_singleton.mp z; exact upd_same, (fun z => nomatch z), List.nodup_nil, fun b o e hb => by rw [upd_ne (fun z => hb (by rw [z]; exact List.mem_cons_self))]; exact e⟩) hm
theorem Wb.toSame (W : Wb c H H' [] L B) : Same H H' := W.wd.toSame
theorem Wb.start (W : Wd H0 H M L) : Wb c H0 H M L [] := ⟨W, fun z => nomatch z⟩
theorem lw_lst (W : Wb c H0 H M L B) (hl : xs.length ≤ sizeLine) (q : ∀ p H', H0 p = none → Wb c H0 H' M ((p, .lst xs) :: L) B → Q (.ref p) H') : kLst Q xs H := ⟨hl, fun p hp => q p _ (W.wd.fresh hp) (W.new hp)⟩
theorem lw_tup (W : Wb c H0 H M L B) (hl : xs.length ≤ sizeLine) (q : ∀ p H', H0 p = none → Wb c H0 H' M ((p, .tup xs) :: L) B → Q (.ref p) H') : kTup Q xs H := ⟨hl, fun p hp => q p _ (W.wd.fresh hp) (W.new hp)⟩
theorem lw_cat (W : Wb c H0 H M L B) (h1 : (a, .lst xs) ∈ L) (h2 : (l, .lst ys) ∈ L) (hl : xs.length + ys.length ≤ sizeLine) (q : ∀ p H', H0 p = none → Wb c H0 H' M ((p, .lst (xs ++ ys)) :: L) B → Q (.ref p) H') : rCat (.ref a) (.ref l) H Q :=
  ⟨a, l, xs, ys, rfl, rfl, W.get h1, W.get h2, hl, fun p hp => q p _ (W.wd.fresh hp) (W.new hp)⟩
theorem lw_rep (W : Wb c H0 H M L B) (h : (a, .lst xs) ∈ L) (h1 : -(2 ^ 63) ≤ n) (h2 : n < 2 ^ 63) (h3 : xs.length * n.toNat ≤ sizeLine) (q : ∀ p H', H0 p = none → Wb c H0 H' M ((p, .lst (List.replicate n.toNat xs).flatten) :: L) B → Q (.ref p) H') : rRep (.ref a) (.int n) H Q :=
  ⟨a, n, xs, rfl, rfl, W.get h, h1, h2, h3, fun p hp => q p _ (W.wd.fresh hp) (W.new hp)⟩
theorem lw_catN {ds es : List Nat} (W : Wb c H0 H M L B) (h1 : (a, .lst (iN ds)) ∈ L) (h2 : (l, .lst (iN es)) ∈ L) (hl : (iN ds).length + (iN es).length ≤ sizeLine) (q : ∀ p H', H0 p = none → Wb c H0 H' M ((p, .lst (iN (ds ++ es))) :: L) B → Q (.ref p) H') : rCat (.ref a) (.ref l) H Q :=
  lw_cat W h1 h2 hl (by rw [iN_app]; exact q)
theorem rep_zero (k : Nat) : (List.replicate k [V.int 0]).flatten = iN (List.replicate k 0) := by
  induction k with
  | zero => rfl
  | succ k ih => rw [List.replicate_succ, List.flatten_cons, ih]; rfl
theorem lw_repZ (W : Wb c H0 H M L B) (h : (a, .lst [.int 0]) ∈ L) (h1 : 0 ≤ n) (h2 : n < 10000) (q : ∀ p H', H0 p = none → Wb c H0 H' M ((p, .lst (iN (List.replicate n.toNat 0))) :: L) B → Q (.ref p) H') : rRep (.ref a) (.int n) H Q :=
  lw_rep W h (by omega) (by omega) (Evl.sz_of (by rw [List.length_singleton]; omega)) (by rw [rep_zero]; exact q)
theorem lw_append (W : Wb c H0 H M L B) (r : Rp l (.lst xs) (.lst (xs ++ [y])) L L') (hm : H0 l = none ∨ l ∈ M) (hl : xs.length < sizeLine) (q : ∀ H', Wb c H0 H' M L' B → Q .non H') : rAppend (.ref l) [y] H Q :=
  ⟨l, xs, y, rfl, rfl, W.get r.mem, hl, q _ (W.put r .lst hm)⟩
theorem lw_slL {lo hi : Option Int} (W : Wb c H0 H M L B) (h : (a, .lst xs) ∈ L) (q : ∀ p H', H0 p = none → Wb c H0 H' M ((p, .lst (cutV xs lo hi)) :: L) B → Q (.ref p) H') : rSlL K (.ref a) lo hi H Q :=
  ⟨a, xs, rfl, SqL.of (W.get h), fun p hp => q p _ (W.wd.fresh hp) (W.new hp)⟩
theorem lw_list (W : Wb c H0 H M L B) (h : (a, .lst xs) ∈ L) (q : ∀ p H', H0 p = none → Wb c H0 H' M ((p, .lst xs) :: L) B → Q (.ref p) H') : rList K [.ref a] H Q := ⟨a, xs, rfl, .inl (SqL.of (W.get h)), fun p hp => q p _ (W.wd.fresh hp) (W.new hp)⟩
theorem lw_ixT (W : Wb c H0 H M L B) (h : (a, .tup xs) ∈ L) (hv : atI xs n = some y) (q : Q y H) : rIxT K (.ref a) (.int n) H Q := rd_ixT (SqT.of (W.get h)) hv q
theorem lw_kBMl {rm : V → List V → Hp → VK → Prop} (W : Wb c H0 H M L B) (h : (l, .lst xs) ∈ L) (q : tr σ H fun ys H2 => rm (.ref l) ys H2 Q) : kBM K "list" rm tr σ Q (.ref l) H := rd_kBMl (W.get h) q
/-- two lists of integers, alike or not -/
theorem mapI_inj : ∀ {ns ms : List Int}, ns.map V.int = ms.map V.int → ns = ms
  | [], [], _ => rfl
  | [], _ :: _, h => by simp at h
  | _ :: _, [], h => by simp at h
  | x :: xs, y :: ys, h => by
    rw [List.map_cons, List.map_cons] at h
    obtain ⟨h1, h2⟩ := List.cons.inj h
    rw [mapI_inj h2, V.int.inj h1]
theorem lw_neL (W : Wb c H0 H M L B) (h1 : (a, .lst xs) ∈ L) (h2 : (l, .lst ys) ∈ L) (a1 : AllI xs) (a2 : AllI ys) (q : ∀ k : Bool, (xs = ys → k = false) → (xs ≠ ys → k = true) → Q (.bl k) H) : rNeD K (.ref a) (.ref l) H Q := by
  obtain ⟨ns, rfl⟩ := a1
  obtain ⟨ms, rfl⟩ := a2
  refine rd_neLI (SqL.of (W.get h1)) (SqL.of (W.get h2)) (q _ (fun z => ?_) (fun z => ?_))
  · rw [mapI_inj z, decide_eq_true rfl]; rfl
  · rw [decide_eq_false (fun e => z (by rw [e]))]; rfl
theorem lw_eqL (W : Wb c H0 H M L B) (h1 : (a, .lst xs) ∈ L) (h2 : (l, .lst ys) ∈ L) (a1 : AllI xs) (a2 : AllI ys) (q : ∀ k : Bool, (xs = ys → k = true) → (xs ≠ ys → k = false) → Q (.bl k) H) : rEqD K (.ref a) (.ref l) H Q := by
  obtain ⟨ns, rfl⟩ := a1
  obtain ⟨ms, rfl⟩ := a2
  refine rd_eqLI (SqL.of (W.get h1)) (SqL.of (W.get h2)) (q _ (fun z => ?_) (fun z => ?_))
  · rw [mapI_inj z, decide_eq_true rfl]
  · rw [decide_eq_false (fun e => z (by rw [e]))]
/-- where they are alike -/
theorem lw_neLF (W : Wb c H0 H M L B) (h1 : (a, .lst xs) ∈ L) (h2 : (l, .lst ys) ∈ L) (e : xs = ys) (a1 : AllI xs) (q : Q (.bl false) H) : rNeD K (.ref a) (.ref l) H Q :=
  lw_neL W h1 h2 a1 (e ▸ a1) fun k z _ => by rw [z e]; exact q
theorem lw_eqLT (W : Wb c H0 H M L B) (h1 : (a, .lst xs) ∈ L) (h2 : (l, .lst ys) ∈ L) (e : xs = ys) (a1 : AllI xs) (q : Q (.bl true) H) : rEqD K (.ref a) (.ref l) H Q :=
  lw_eqL W h1 h2 a1 (e ▸ a1) fun k z _ => by rw [z e]; exact q
theorem lw_source_of (W : Wb c H0 H M L B) (q : ∀ p o H', H0 p = none → SrcO o → Wb c H0 H' M ((p, o) :: L) B → Q (.ref p) H') : sp_law_source_of K c [.int n] H Q E :=
  ⟨n, rfl, fun p o H' ho ch => q p o H' (W.wd.fresh (ch.new List.mem_cons_self).1) ho (W.chg0 ch)⟩
theorem lw_next (W : Wb c H0 H M L B) (hr : ∀ u, Rp a o u L (L1 u)) (ho : SrcO o) (hm : H0 a = none ∨ a ∈ M) (h0 : 0 < n) (hn : n < 2 ^ 64) (q : ∀ r o' H', 0 ≤ r → r < n → SrcO o' → Wb c H0 H' M (L1 o') B → Q (.int r) H') : sp_law_next K c [.ref a, .int n] H Q E :=
  ⟨a, o, n, rfl, W.get (hr o).mem, ho, h0, nxt64 h0 hn, fun r o' H' h1 h2 h3 ch => q r o' H' h1 h2 h3 (W.chg1 (hr o') ho.chb ch hm)⟩
theorem lw_machine (W : Wb c H0 H M L B) (hr : ∀ u, Rp a o u L (L1 u)) (ho : SrcO o) (hm : H0 a = none ∨ a ∈ M)
    (q : ∀ (x dx : Addr) (b : Nat) (cut : Int) (d e : Addr) o' H', 8 ≤ b → b ≤ 30 → 2 ≤ cut → cut ≤ 1000 → H0 x = none → H0 d = none → H0 e = none → SrcO o' → Wb c H0 H' M ((d, .dK (cK zeros)) :: (e, .lst []) :: (x, .ins c.CMachine dx (mF b cut d e)) :: L1 o') B → Q (.ref x) H') : sp_law_machine K c [.ref a] H Q E :=
  ⟨a, o, rfl, W.get (hr o).mem, ho, fun x dx b cut d e o' H' h1 h2 h3 h4 h5 ch => q x dx b cut d e o' H' h1 h2 h3 h4 (W.wd.fresh (ch.new (o := .ins c.CMachine dx (mF b cut d e)) (by walk_at "mem")).1) (W.wd.fresh (ch.new (o := .dK (cK zeros)) (by walk_at "mem")).1) (W.wd.fresh (ch.new (o := .lst []) (by walk_at "mem")).1) h5 (W.chg1 (hr o') ho.chb ch hm)⟩
theorem lw_mkMachine (W : Wb c H0 H M L B) (h1 : 8 ≤ b) (h2 : b ≤ 30) (h3 : 2 ≤ cut) (h4 : cut ≤ 1000)
    (q : ∀ x dx d e H', H0 x = none → H0 d = none → H0 e = none → Wb c H0 H' M ((d, .dK (cK zeros)) :: (e, .lst []) :: (x, .ins c.CMachine dx (mF b cut d e)) :: L) B → Q (.ref x) H') : kMake c.CMachine (sp_Machine_init K c) [] E Q [.int (b : Int), .int cut] H := 
  rd_mkMachine W.self h1 h2 h3 h4 fun x dx d e H' hx hd he S => q x dx d e H' (W.wd.fresh hx) (W.wd.fresh hd) (W.wd.fresh he) ⟨⟨S.get, S.nd, fun b o e hb => S.keep _ _ (W.wd.keep b o e hb) (fun z => nomatch z), fun a h => List.mem_cons_of_mem _ (List.mem_cons_of_mem _ (List.mem_cons_of_mem _ (W.wd.sub a h)))⟩, fun z => ⟨(W.big z).1.same S.toSame, (W.big z).2⟩⟩
theorem lw_shl1 (h : b ≤ 1000) (q : Q (.int ((2 ^ b : Nat) : Int)) H) : rShl (.int 1) (.int (b : Int)) H Q := rd_shl (shl_one h) (by rw [Int.one_mul, Int.toNat_natCast, pwN]; exact q)
theorem lw_kwS {sp : Sp} {i j : Nat} {ix : List Nat} {zs vs : List V} (h : i = j) (e : perm ix zs = vs) (q : sp vs H Q E) : i = j ∧ sp (perm ix zs) H Q E := ⟨h, by rw [e]; exact q⟩
theorem rd_nT {A A' : Hp → Prop} (q : A' H) : kIf A A' (!true) H := rd_F rfl q
theorem rd_nF {A A' : Hp → Prop} (q : A H) : kIf A A' (!false) H := rd_T rfl q
theorem rd_isB {k k' : Bool} (q : Q (.bl (decide (k = k'))) H) : rIsB (.bl k) (.bl k') H Q := ⟨k, k', rfl, rfl, q⟩
theorem bigL_of {b : Nat} {n : Int} (h1 : 8 ≤ b) (h2 : b ≤ 30) (hn : n.natAbs < 2 ^ 4000) : bigL b n := by
  refine ⟨by omega, h2, Nat.lt_of_le_of_lt (digs_length_le (by omega) _ (k := 500) (Nat.lt_of_lt_of_le hn (Nat.pow_le_pow_right (by decide) ?_))) (by decide)⟩
  omega
theorem iN_digs0 : iN (digs b (Int.natAbs 0)) = [] := by rw [Int.natAbs_zero, digs_zero]; rfl
/-- N is L with more ahead of it -/
def Sfx {α : Type} (L N : List α) : Prop := ∃ P, N = P ++ L
theorem Sfx.refl {α : Type} {L : List α} : Sfx L L := ⟨[], rfl⟩
theorem Sfx.cons {α : Type} {L N : List α} {q : α} (h : Sfx L N) : Sfx L (q :: N) := by obtain ⟨P, rfl⟩ := h; exact ⟨q :: P, rfl⟩
theorem Sfx.app {α : Type} {L N P : List α} (h : Sfx L N) : Sfx L (P ++ N) := by obtain ⟨P', rfl⟩ := h; exact ⟨P ++ P', by rw [List.append_assoc]⟩
theorem lw_kIT {R : It → Hp → Prop} (W : Wb c H0 H M L B) (h : (a, .tup xs) ∈ L) (q : R (Itt K a) H) : kIT K R (.ref a) H := rd_kIT (SqT.of (W.get h)) q
theorem lw_kIL {R : It → Hp → Prop} (W : Wb c H0 H M L B) (h : (a, .lst xs) ∈ L) (q : R (Itl K a) H) : kIL K R (.ref a) H := rd_kIL (SqL.of (W.get h)) q
theorem kMake_dvs {C : Addr} {sp : Sp} {dvs : List V} (q : kMake C sp [] E Q (vs ++ dvs) H) : kMake C sp dvs E Q vs H := fun x dx h1 h2 h3 => by
  have := q x dx h1 h2 h3
  rwa [List.append_nil] at this
theorem lw_mkM1 (W : Wb c H0 H M L B) (h1 : 8 ≤ b) (h2 : b ≤ 30) (h3 : 2 ≤ cut) (h4 : cut ≤ 1000)
    (q : ∀ x dx d e H', H0 x = none → H0 d = none → H0 e = none → Wb c H0 H' M ((d, .dK (cK zeros)) :: (e, .lst []) :: (x, .ins c.CMachine dx (mF b cut d e)) :: L) B → Q (.ref x) H') : kMake c.CMachine (sp_Machine_init K c) [.int cut] E Q [.int (b : Int)] H :=
  kMake_dvs (lw_mkMachine W h1 h2 h3 h4 q)
theorem lw_mkM0 (W : Wb c H0 H M L B) 
    (q : ∀ x dx d e H', H0 x = none → H0 d = none → H0 e = none → Wb c H0 H' M ((d, .dK (cK zeros)) :: (e, .lst []) :: (x, .ins c.CMachine dx (mF 30 70 d e)) :: L) B → Q (.ref x) H') : kMake c.CMachine (sp_Machine_init K c) [.int 30, .int 70] E Q [] H :=
  kMake_dvs (lw_mkMachine (b := 30) W (by decide) (by decide) (by decide) (by decide) q)
theorem mF_meth' {m : Str} (h : (m == "entered" || m == "counts" || m == "base" || m == "limit_of_rows" || m == "width") = false) : (mF b cut d e).lookup m = none := by
  simp only [Bool.or_eq_false_iff, beq_eq_false_iff_ne] at h
  exact mF_none h.1.1.1.1 h.1.1.1.2 h.1.1.2 h.1.2 h.2
theorem bF_meth' {s : Int} {m : Str} (h : (m == "row" || m == "side" || m == "width") = false) : (bF b s r).lookup m = none := by
  simp only [Bool.or_eq_false_iff, beq_eq_false_iff_ne] at h
  exact bF_none h.1.1 h.1.2 h.2
theorem lw_methM {sp : Sp} {f : Str} (W : Wb c H0 H M L B) (h : (a, .ins c.CMachine dx (mF b cut d e)) ∈ L) (hl : (f == "entered" || f == "counts" || f == "base" || f == "limit_of_rows" || f == "width") = false) (q : tr σ H fun vs H2 => sp (.ref a :: vs) H2 Q E) : kMeth c.CMachine f sp [] E tr σ Q (.ref a) H :=
  rd_kMeth (W.get h) (mF_meth' hl) q
theorem lw_methB {sp : Sp} {f : Str} (W : Wb c H0 H M L B) (h : (x, b, n) ∈ B) (hl : (f == "row" || f == "side" || f == "width") = false) (q : tr σ H fun vs H2 => sp (.ref x :: vs) H2 Q E) : kMeth c.CBig f sp [] E tr σ Q (.ref x) H := by
  obtain ⟨dx, r, h1, _⟩ := (W.big h).1.at_
  exact rd_kMeth h1 (bF_meth' hl) q
theorem lw_parts (W : Wb c H0 H M L B) (h : (a, .ins c.CMachine dx (mF b cut d e)) ∈ L) (q : ∀ p H', H0 p = none → Wb c H0 H' M ((p, .tup [.int (b : Int), .int cut]) :: L) B → Q (.ref p) H') : sp_Machine_parts K c [.ref a] H Q E :=
  ⟨a, dx, b, cut, d, e, rfl, W.get h, fun p H' ch => q p H' (W.wd.fresh (ch.new List.mem_cons_self).1) (W.chg0 ch)⟩
theorem lw_walk (W : Wb c H0 H M L B) (h : (a, .ins c.CMachine dx (mF b cut d e)) ∈ L) (h2 : (e, .lst xs) ∈ L) (q : ∀ p H', H0 p = none → Wb c H0 H' M ((p, .lst xs) :: L) B → Q (.ref p) H') : sp_Machine_walk K c [.ref a] H Q E :=
  ⟨a, dx, b, cut, d, e, xs, rfl, W.get h, W.get h2, fun p H' ch => q p H' (W.wd.fresh (ch.new List.mem_cons_self).1) (W.chg0 ch)⟩
theorem lw_big (W : Wb c H0 H M L B) (h : (a, .ins c.CMachine dx (mF b cut d e)) ∈ L) (hl : bigL b n) (q : ∀ x H', H0 x = none → Wb c H0 H' M L ((x, b, n) :: B) → Q (.ref x) H') : sp_big K c [.ref a, .int n] H Q E :=
  ⟨a, dx, b, cut, d, e, n, rfl, W.get h, hl.1, Nat.lt_trans hl.2.2 (by decide), NewBig.at fun x H' ch hx hB => q x H' (W.wd.fresh hx) ((W.chg0 ch).add hB hl)⟩
theorem lw_sign (W : Wb c H0 H M L B) (h : (x, b, n) ∈ B) (q : Q (.int (sgn n)) H) : sp_Big_sign K c [.ref x] H Q E := ⟨x, b, n, rfl, (W.big h).1, q⟩
theorem lw_bits (W : Wb c H0 H M L B) (h : (x, b, n) ∈ B) (q : Q (.int (b : Int)) H) : sp_Big_bits K c [.ref x] H Q E := ⟨x, b, n, rfl, (W.big h).1, q⟩
theorem lw_digits (W : Wb c H0 H M L B) (h : (x, b, n) ∈ B) (q : ∀ p H', H0 p = none → Wb c H0 H' M ((p, .lst (iN (digs b n.natAbs))) :: L) B → Q (.ref p) H') : sp_Big_digits K c [.ref x] H Q E :=
  ⟨x, b, n, rfl, (W.big h).1, fun p H' ch => q p H' (W.wd.fresh (ch.new List.mem_cons_self).1) (W.chg0 ch)⟩
theorem lw_plain (W : Wb c H0 H M L B) (h : (x, b, n) ∈ B) (q : ∀ H', Wb c H0 H' M L B → Q (.int n) H') : sp_plain K c [.ref x] H Q E := ⟨x, b, n, rfl, (W.big h).1, (W.big h).2, fun H' s => q H' (W.same s)⟩
theorem bigL_neg (h : bigL b n) : bigL b (-n) := ⟨h.1, h.2.1, by rw [Int.natAbs_neg]; exact h.2.2⟩
theorem bigL_abs (h : bigL b n) : bigL b (n.natAbs : Int) := ⟨h.1, h.2.1, by rw [Int.natAbs_natCast]; exact h.2.2⟩
theorem lw_negative (W : Wb c H0 H M L B) (h : (x, b, n) ∈ B) (q : ∀ x' H', H0 x' = none → Wb c H0 H' M L ((x', b, -n) :: B) → Q (.ref x') H') : sp_negative K c [.ref x] H Q E :=
  ⟨x, b, n, rfl, (W.big h).1, fun x' H' hx ch hB => q x' H' (W.wd.fresh hx) ((W.chg0 ch).add hB (bigL_neg (W.big h).2))⟩
theorem lw_absolute (W : Wb c H0 H M L B) (h : (x, b, n) ∈ B) (q : ∀ x' H', H0 x' = none → Wb c H0 H' M L ((x', b, (n.natAbs : Int)) :: B) → Q (.ref x') H') : sp_absolute K c [.ref x] H Q E :=
  ⟨x, b, n, rfl, (W.big h).1, fun x' H' hx ch hB => q x' H' (W.wd.fresh hx) ((W.chg0 ch).add hB (bigL_abs (W.big h).2))⟩
theorem lw_ownEq (P : PB K c) (W : Wb c H0 H M L B) (h : (x, b, n) ∈ B) (h' : (x', b', m) ∈ B) (q : ∀ H', Wb c H0 H' M L B → Q (.bl (decide (b = b' ∧ n = m))) H') : rOwnEq K c.CBig (sp_Big_eq K c) E (.ref x) (.ref x') H Q := by
  obtain ⟨dx, r, h1, _⟩ := (W.big h).1.at_
  obtain ⟨dx', r', h1', _⟩ := (W.big h').1.at_
  exact rd_ownEq h1 (.base (.ins h1' P.isc.cl P.isc.ha P.isc.hn P.isc.htk P.isc.hm)) (nf_self _ _) ⟨x, b, n, .ref x', rfl, (W.big h).1, (W.big h).2.1, .inl ⟨x', b', m, rfl, (W.big h').1, (W.big h').2.1, fun H' s => ⟨_, rfl, q H' (W.same s)⟩⟩⟩
theorem lw_ownNe (W : Wb c H0 H M L B) (h : (x, b, n) ∈ B) (h' : (x', b', m) ∈ B) (q : ∀ H', Wb c H0 H' M L B → Q (.bl (!decide (b = b' ∧ n = m))) H') : rOwnNe K c.CBig (sp_Big_eq K c) E (.ref x) (.ref x') H Q := by
  obtain ⟨dx, r, h1, _⟩ := (W.big h).1.at_
  obtain ⟨dx', r', h1', _⟩ := (W.big h').1.at_
  exact rd_ownNe h1 h1' ⟨x, b, n, .ref x', rfl, (W.big h).1, (W.big h).2.1, .inl ⟨x', b', m, rfl, (W.big h').1, (W.big h').2.1, fun H' s => ⟨_, rfl, q H' (W.same s)⟩⟩⟩
theorem lw_ownEqI (N : NoSub K c.CBig) (W : Wb c H0 H M L B) (h : (x, b, n) ∈ B) (q : Q (.bl false) H) : rOwnEq K c.CBig (sp_Big_eq K c) E (.ref x) (.int m) H Q := by
  obtain ⟨dx, r, h1, _⟩ := (W.big h).1.at_
  exact rd_ownEq h1 (.base (.int m)) (N.nf (by decide)) ⟨x, b, n, .int m, rfl, (W.big h).1, (W.big h).2.1, .inr ⟨_, .base (.int m), N.kit (by decide), ⟨_, rfl, q⟩⟩⟩
theorem lw_ownEqL (N : NoSub K c.CBig) (W : Wb c H0 H M L B) (h : (x, b, n) ∈ B) (h' : (l, .lst xs) ∈ L) (q : Q (.bl false) H) : rOwnEq K c.CBig (sp_Big_eq K c) E (.ref x) (.ref l) H Q := by
  obtain ⟨dx, r, h1, _⟩ := (W.big h).1.at_
  exact rd_ownEq h1 (.base (.lst (W.get h'))) (N.nf (by decide)) ⟨x, b, n, .ref l, rfl, (W.big h).1, (W.big h).2.1, .inr ⟨_, .base (.lst (W.get h')), N.kit (by decide), ⟨_, rfl, q⟩⟩⟩
/-- a law's promise -/
def sp_law0 (K : PySem.W.Frag) : Sp := fun vs H Q _ => ∃ (a : Addr) (ns : List Int), vs = [.ref a] ∧ SqL K H a (ns.map V.int) ∧ ns.length ≤ 63 ∧ ∀ H', Q (.bl true) H'
theorem Chg.same {H' : Hp} {ns : List (Addr × HO)} (h : Chg H H' [] ns) : Same H H' := fun b o e => h.keep b o e (fun z => nomatch z)
/-- what is left of a tally of zeros: nothing -/
theorem zero_rows {i : Nat} {t : List V} (h : (rowsOf zeros)[i]? = some t) : ∃ w, t = [.str w, .int 0] := by
  have hi : i < 10 := (List.getElem?_eq_some_iff.mp h).1
  have hw : words[i]? = some (words[i]'hi) := List.getElem?_eq_getElem _
  rw [rows_get hw (zero_get hi)] at h
  exact ⟨_, (Option.some.inj h).symm⟩
theorem zero_tups {H1 : Hp} {p : Addr} {ps : List Addr} (hl : ps.length = 10) (ch : Chg H H1 [] ((p, .lst (ps.map V.ref)) :: tl2 ps (rowsOf zeros))) : ∀ q ∈ ps, ∃ w, H1 q = some (.tup [.str w, .int 0]) := fun q hq => by
  obtain ⟨i, hi⟩ := List.mem_iff_getElem?.mp hq
  have hlt : i < 10 := by rw [← hl]; exact (List.getElem?_eq_some_iff.mp hi).1
  have hr : (rowsOf zeros)[i]? = some ((rowsOf zeros)[i]'hlt) := List.getElem?_eq_getElem _
  obtain ⟨w, hw⟩ := zero_rows hr
  have := (ch.new (List.mem_cons_of_mem _ (tl2_mem hi hr))).2
  rw [hw] at this
  exact ⟨w, this⟩
theorem Rp.same : ∀ {L L' : List (Addr × HO)}, Rp a o o L L' → L' = L
  | _, _, .here => rfl
  | _, _, .there r => congrArg (List.cons _) r.same
/-- the tally of a machine that has counted nothing, what of it is not 0 -/
theorem lw_tally0 (W : Wb c H0 H M L B) (h : (a, .ins c.CMachine dx (mF b cut d e)) ∈ L) (h2 : (d, .dK (cK zeros)) ∈ L)
    (q : ∀ p (ps : List Addr) H', ps.length = 10 → H0 p = none → (∀ q ∈ ps, ∃ w, H' q = some (.tup [.str w, .int 0])) → Wb c H0 H' M ((p, .lst (ps.map V.ref)) :: (tl2 ps (rowsOf zeros) ++ L)) B → Q (.ref p) H') : sp_Machine_tally K c [.ref a] H Q E :=
  ⟨a, dx, b, cut, d, e, zeros, rfl, W.get h, W.get h2, rfl, fun p ps H' hl ch => q p ps H' hl (W.wd.fresh (ch.new List.mem_cons_self).1) (zero_tups hl ch) (W.chg0 ch)⟩
theorem lw_lc0 {te : TE} {i j : Nat} {ps : List Addr} (W : Wb c H0 H M L B) (h : (p, .lst (ps.map V.ref)) ∈ L) (hz : ∀ q ∈ ps, ∃ w, H q = some (.tup [.str w, .int 0])) (hw : ∀ v w, wipe (((wipe σ [i, j]).set i (some v)).set j (some w)) [i, j] = wipe σ [i, j])
    (hv : ∀ v w, (((wipe σ [i, j]).set i (some v)).set j (some w))[j]? = some (some w))
    (q : ∀ D H', H0 D = none → Wb c H0 H' M ((D, .lst []) :: L) B → Q (.ref D) H') : kLc (gTup K 2 (gCons (gName i) (gCons (gName j) gNil))) (tTest (tOp rNe (tVar j) (tC (.int 0)))) te [i, j] σ Q (Itl K p) H := by
  refine rd_lcL (xs := ps.map V.ref) fun D hD => ⟨fun i H' => H' = upd H D (.lst []), rfl, ?_, ?_, ?_⟩
  · rintro i H' _ rfl
    have W1 := W.new (o := .lst []) hD
    exact SqL.of (W1.get (List.mem_cons_of_mem _ h))
  · rintro i' x H' hx rfl
    obtain ⟨z, hz1, rfl⟩ := List.mem_map.mp (List.mem_of_getElem? hx)
    obtain ⟨w, hw1⟩ := hz z hz1
    have hne : z ≠ D := fun e => by rw [e, hD] at hw1; cases hw1
    refine rd_gTup (xs := [.str w, .int 0]) (SqT.of (by rw [upd_ne hne]; exact hw1)) rfl ?_
    refine rd_gCons ?_
    unfold gName
    refine rd_gCons ?_
    refine rd_gNil ?_
    refine ⟨hw _ _, ?_⟩
    refine rd_test (rd_op (rd_var (hv _ _) (rd_c ?_)))
    refine rd_neI (rd_kB ?_)
    exact rd_Fn rfl rfl
  · rintro H' rfl
    exact q D _ (W.wd.fresh hD) (W.new hD)
end
local macro_rules | `(tactic| walk_at "sfx") => `(tactic| repeat (first | exact Sfx.refl | with_reducible refine Sfx.cons ?_ | with_reducible refine Sfx.app ?_))
local macro_rules | `(tactic| walk_at "len2") => `(tactic| first | walk_at "len" | exact Nat.le_trans (m := 2 ^ 23) (by simp only [iN_length, List.length_append, List.length_replicate, List.length_cons, List.length_nil, List.length_map]; omega) (by decide) | exact Nat.lt_of_lt_of_le (m := 2 ^ 23) (by simp only [iN_length, List.length_append, List.length_replicate, List.length_cons, List.length_nil, List.length_map]; omega) (by decide))
local macro_rules | `(tactic| walk_at "al") => `(tactic| repeat (first | with_reducible exact AllI.nil | with_reducible exact AllI.n _ | with_reducible exact AllI.m _ | with_reducible refine AllI.app ?_ ?_ | with_reducible refine AllI.cons ?_ | with_reducible refine AllI.rep ?_))
local macro_rules | `(tactic| walk_at "tst") => `(tactic| first | with_reducible exact rfl | assumption | with_reducible exact ⟨rfl, rfl⟩ | omega)
local macro_rules | `(tactic| walk_at "bl") => `(tactic| first | assumption | exact bigL_of (by omega) (by omega) (by first | assumption | decide +kernel))
set_option hygiene false in
local macro_rules | `(tactic| walk_at "lw1") => `(tactic| first
  | walk_at "rd1"
  | ((with_reducible refine' lw_lst (by assumption) ?hh1 ?_); (case hh1 => walk_at "len2"); intro p H' hp W)
  | ((with_reducible refine' lw_tup (by assumption) ?hh1 ?_); (case hh1 => walk_at "len2"); intro p H' hp W)
  | ((with_reducible refine' lw_catN (by assumption) ?hh1 ?hh2 ?hh3 ?_); (case hh1 => walk_at "mem"); (case hh2 => walk_at "mem"); (case hh3 => walk_at "len2"); intro p H' hp W)
  | ((with_reducible refine' lw_repZ (by assumption) ?hh1 ?hh2 ?hh3 ?_); (case hh1 => walk_at "mem"); (case hh2 => omega); (case hh3 => omega); intro p H' hp W)
  | ((with_reducible refine' lw_cat (by assumption) ?hh1 ?hh2 ?hh3 ?_); (case hh1 => walk_at "mem"); (case hh2 => walk_at "mem"); (case hh3 => walk_at "len2"); intro p H' hp W)
  | ((with_reducible refine' lw_append (by assumption) ?hh1 ?hh2 ?hh3 ?_); (case hh1 => walk_at "rp"); (case hh2 => walk_at "may"); (case hh3 => walk_at "len2"); intro H' W)
  | ((with_reducible refine' lw_slL (by assumption) ?hh1 ?_); (case hh1 => walk_at "mem"); intro p H' hp W)
  | ((with_reducible refine' lw_list (by assumption) ?hh1 ?_); (case hh1 => walk_at "mem"); intro p H' hp W)
  | ((with_reducible refine' lw_ixT (by assumption) ?hh1 ?hh2 ?_); (case hh1 => walk_at "mem"); (case hh2 => exact rfl))
  | ((with_reducible refine' rd_mul ?hh1 ?_); (case hh1 => first | exact mul_okR (by omega) (by omega) | exact mul_okL (by omega) (by omega)))
  | ((with_reducible refine' lw_kBMl (by assumption) ?hh1 ?_); (case hh1 => walk_at "mem"))
  | ((with_reducible refine' lw_neLF (by assumption) ?hh1 ?hh2 ?hh6 ?hh3 ?_); (case hh1 => walk_at "mem"); (case hh2 => walk_at "mem"); (case hh6 => first | with_reducible exact rfl | assumption | exact iN_digs0); (case hh3 => walk_at "al"))
  | ((with_reducible refine' lw_eqLT (by assumption) ?hh1 ?hh2 ?hh6 ?hh3 ?_); (case hh1 => walk_at "mem"); (case hh2 => walk_at "mem"); (case hh6 => first | with_reducible exact rfl | assumption | exact iN_digs0); (case hh3 => walk_at "al"))
  | ((with_reducible refine' lw_source_of (by assumption) ?_); intro p o H' hp ho W)
  | ((with_reducible refine' lw_next (by assumption) ?hh1 ?hh2 ?hh3 ?hh4 ?hh5 ?_); (case hh1 => (intro u; walk_at "rp")); (case hh2 => assumption); (case hh3 => walk_at "may"); (case hh4 => walk_at "ari"); (case hh5 => walk_at "ari"); intro r o H' hr0 hr1 ho W)
  | ((with_reducible refine' lw_machine (by assumption) ?hh1 ?hh2 ?hh3 ?_); (case hh1 => (intro u; walk_at "rp")); (case hh2 => assumption); (case hh3 => walk_at "may"); intro x dx b cut d e o H' hb1 hb2 hc1 hc2 hx hd he ho W)
  | ((with_reducible refine' lw_methM (by assumption) ?hh1 ?hh2 ?_); (case hh1 => walk_at "mem"); (case hh2 => decide))
  | ((with_reducible refine' lw_methB (by assumption) ?hh1 ?hh2 ?_); (case hh1 => walk_at "mem"); (case hh2 => decide))
  | ((with_reducible refine' lw_parts (by assumption) ?hh1 ?_); (case hh1 => walk_at "mem"); intro p H' hp W)
  | ((with_reducible refine' lw_walk (by assumption) ?hh1 ?hh2 ?_); (case hh1 => walk_at "mem"); (case hh2 => walk_at "mem"); intro p H' hp W)
  | ((with_reducible refine' lw_big (by assumption) ?hh1 ?hh2 ?_); (case hh1 => walk_at "mem"); (case hh2 => walk_at "bl"); intro x H' hx W)
  | ((with_reducible refine' lw_normalP (by assumption) ?hh1 ?hh2 ?hh3 ?hh4 ?_); (case hh1 => walk_at "mem"); (case hh2 => walk_at "mem"); (case hh3 => walk_at "bl"); (case hh4 => omega); intro x H' hx W)
  | ((with_reducible refine' lw_normalD (by assumption) ?hh1 ?hh2 ?hh3 ?_); (case hh1 => walk_at "mem"); (case hh2 => walk_at "mem"); (case hh3 => walk_at "bl"); intro x H' hx W)
  | ((with_reducible refine' lw_normalN (by assumption) ?hh1 ?hh2 ?hh3 ?_); (case hh1 => walk_at "mem"); (case hh2 => walk_at "mem"); (case hh3 => walk_at "bl"); intro x H' hx W)
  | ((with_reducible refine' lw_normalZ (by assumption) ?hh1 ?hh2 ?hh3 ?hh4 ?hh5 ?hh6 ?_); (case hh1 => walk_at "mem"); (case hh2 => walk_at "mem"); (case hh3 => omega); (case hh4 => omega); (case hh5 => omega); (case hh6 => omega); intro x H' hx W)
  | ((with_reducible refine' lw_normalE (by assumption) ?hh1 ?hh2 ?hh3 ?hh4 ?hh6 ?_); (case hh1 => walk_at "mem"); (case hh2 => walk_at "mem"); (case hh3 => omega); (case hh4 => omega); (case hh6 => omega); intro x H' hx W)
  | ((with_reducible refine' lw_split (by assumption) ?hh1 ?hh2 ?hh3 ?_); (case hh1 => omega); (case hh2 => omega); (case hh3 => omega); intro p H' hp W)
  | ((with_reducible refine' lw_sign (by assumption) ?hh1 ?_); (case hh1 => walk_at "mem"))
  | ((with_reducible refine' lw_bits (by assumption) ?hh1 ?_); (case hh1 => walk_at "mem"))
  | ((with_reducible refine' lw_digits (by assumption) ?hh1 ?_); (case hh1 => walk_at "mem"); intro p H' hp W)
  | ((with_reducible refine' lw_plain (by assumption) ?hh1 ?_); (case hh1 => walk_at "mem"); intro H' W)
  | ((with_reducible refine' lw_negative (by assumption) ?hh1 ?_); (case hh1 => walk_at "mem"); intro x H' hx W)
  | ((with_reducible refine' lw_absolute (by assumption) ?hh1 ?_); (case hh1 => walk_at "mem"); intro x H' hx W)
  | ((with_reducible refine' lw_ownNe (by assumption) ?hh1 ?hh2 ?_); (case hh1 => walk_at "mem"); (case hh2 => walk_at "mem"); intro H' W)
  | ((with_reducible refine' lw_ownEq (by assumption) (by assumption) ?hh1 ?hh2 ?_); (case hh1 => walk_at "mem"); (case hh2 => walk_at "mem"); intro H' W)
  | ((with_reducible refine' lw_ownEqI (by assumption) (by assumption) ?hh1 ?_); (case hh1 => walk_at "mem"))
  | ((with_reducible refine' lw_ownEqL (by assumption) (by assumption) ?hh1 ?hh2 ?_); (case hh1 => walk_at "mem"); (case hh2 => walk_at "mem"))
  | ((with_reducible refine' lw_kIT (by assumption) ?hh1 ?_); (case hh1 => walk_at "mem"))
  | ((with_reducible refine' lw_kIL (by assumption) ?hh1 ?_); (case hh1 => walk_at "mem"))
  | ((with_reducible refine' lw_mkMachine (by assumption) ?hh1 ?hh2 ?hh3 ?hh4 ?_); (case hh1 => omega); (case hh2 => omega); (case hh3 => omega); (case hh4 => omega); intro x dx d e H' hx hd he W)
  | ((with_reducible refine' lw_mkM1 (by assumption) ?hh1 ?hh2 ?hh3 ?hh4 ?_); (case hh1 => omega); (case hh2 => omega); (case hh3 => omega); (case hh4 => omega); intro x dx d e H' hx hd he W)
  | ((with_reducible refine' lw_mkM0 (by assumption) ?_); intro x dx d e H' hx hd he W)
  | ((with_reducible refine' lw_tally0 (by assumption) ?hh1 ?hh2 ?_); (case hh1 => walk_at "mem"); (case hh2 => walk_at "mem"); intro p ps H' hpl hp hz W)
  | ((with_reducible refine' lw_lc0 (by assumption) ?hh1 ?hh2 ?hh3 ?hh4 ?_); (case hh1 => walk_at "mem"); (case hh2 => assumption); (case hh3 => (intro _ _; exact rfl)); (case hh4 => (intro _ _; exact rfl)); intro p H' hp W)
  | ((with_reducible refine' lw_shl1 ?hh1 ?_); (case hh1 => omega))
  | (with_reducible refine' rd_isB ?_)
  | ((with_reducible refine' lw_kwS ?hh1 ?hh2 ?_); (case hh1 => exact rfl); (case hh2 => (simp only [perm, List.map_cons, List.map_nil, List.getD_cons_zero, List.getD_cons_succ]; try rfl)))
  | (with_reducible refine' rd_nT ?_)
  | (with_reducible refine' rd_nF ?_)
  | (with_reducible refine' rd_T rfl ?_)
  | (with_reducible refine' rd_F rfl ?_)
  | ((with_reducible refine' rd_Fn ?hh1 ?_); (case hh1 => walk_at "tst"))
  | ((with_reducible refine' rd_Td ?hh1 ?_); (case hh1 => walk_at "tst"))
  | ((with_reducible refine' rd_Fd ?hh1 ?_); (case hh1 => walk_at "tst"))
  | ((with_reducible refine' rd_Tn ?hh1 ?_); (case hh1 => walk_at "tst")))
local macro_rules | `(tactic| walk_at "lw") => `(tactic| repeat (walk_at "lw1"))
section
variable {K : PySem.W.Frag} {c : Pc} {vs xs ys : List V} {H H0 H' : Hp} {Q : VK} {E : XK} {M : List Addr} {L L' ns cs : List (Addr × HO)} {L1 : HO → List (Addr × HO)} {B : List (Addr × Nat × Int)} {b b' : Nat} {cut n m : Int} {a d e dx r x x' l p : Addr} {o u : HO} {σ : L2.St} {y : V} {tr : TA}
theorem nosub_mk {C : Addr} (h1 : PySem.W.isClsIn K C = true) (h2 : PySem.W.typeIn K (.ref C) = some (.type "type")) (s1 : PySem.W.subIn K (.type "int") (.ref C) = some false) (s2 : PySem.W.subIn K (.type "list") (.ref C) = some false) (s3 : PySem.W.subIn K (.type "str") (.ref C) = some false) (s4 : PySem.W.subIn K (.type "NoneType") (.ref C) = some false) (s5 : PySem.W.subIn K (.type "bool") (.ref C) = some false) (s6 : PySem.W.subIn K (.type "tuple") (.ref C) = some false) (s7 : PySem.W.subIn K (.type "dict") (.ref C) = some false) : NoSub K C :=
  ⟨h1, h2, fun b hb => by
    simp only [List.mem_cons, List.not_mem_nil, or_false] at hb
    rcases hb with rfl | rfl | rfl | rfl | rfl | rfl | rfl
    · exact s1
    · exact s2
    · exact s3
    · exact s4
    · exact s5
    · exact s6
    · exact s7⟩
def sgnOk (s : Int) (v : Nat) : Prop := s = 1 ∨ s = -1 ∨ (s = 0 ∧ v = 0)
def sp_normal (K : PySem.W.Frag) (c : Pc) : Sp := fun vs H Q _ => ∃ (m dx : Addr) (b : Nat) (cut : Int) (d e l : Addr) (s : Int) (ds : List Nat), vs = [.ref m, .int s, .ref l] ∧ H m = some (.ins c.CMachine dx (mF b cut d e)) ∧ H l = some (.lst (iN ds)) ∧ b ≠ 0 ∧ Digs b ds ∧ ds.length < 2 ^ 22 ∧ sgnOk s (val b ds) ∧
  ∀ x H', H x = none → Chg H H' [] [] → BigAt c H' x b (s * (val b ds : Nat)) → Q (.ref x) H'
theorem lw_normal {ds : List Nat} {s : Int} (W : Wb c H0 H M L B) (h : (a, .ins c.CMachine dx (mF b cut d e)) ∈ L) (hl : (l, .lst (iN ds)) ∈ L) (hb : b ≠ 0) (hb' : b ≤ 30) (hd : Digs b ds) (hlen : ds.length < 2 ^ 22) (hs : sgnOk s (val b ds))
    (q : ∀ x H', H0 x = none → Wb c H0 H' M L ((x, b, s * (val b ds : Nat)) :: B) → Q (.ref x) H') : sp_normal K c [.ref a, .int s, .ref l] H Q E :=
  ⟨a, dx, b, cut, d, e, l, s, ds, rfl, W.get h, W.get hl, hb, hd, hlen, hs, fun x H' hx ch hB => q x H' (W.wd.fresh hx) ((W.chg0 ch).add hB ⟨hb, hb', by
    have e3 : (s * (val b ds : Nat)).natAbs = val b ds := by
      rcases hs with rfl | rfl | ⟨rfl, z⟩
      · omega
      · omega
      · omega
    rw [e3, ← val_strip b ds, digs_val hb (fun d z => hd d (strip_mem z)) (strip_norm ds)]
    exact Nat.lt_of_le_of_lt (strip_length ds) hlen⟩)⟩
theorem Digs.pad {ds : List Nat} {k : Nat} (h : Digs b ds) : Digs b (ds ++ List.replicate k 0) := fun d hd => by
  rcases List.mem_append.mp hd with z | z
  · exact h d z
  · rw [(List.mem_replicate.mp z).2]; exact Nat.two_pow_pos b
theorem val_pad (ds : List Nat) (k : Nat) : val b (ds ++ List.replicate k 0) = val b ds := by
  rw [← val_strip, strip_app_zeros _ (fun d z => (List.mem_replicate.mp z).2), val_strip]
theorem sgn_ok (n : Int) : sgnOk (sgn n) n.natAbs := by
  unfold sgnOk sgn
  split
  · exact .inr (.inl rfl)
  · split
    · rename_i h; subst h; exact .inr (.inr ⟨rfl, rfl⟩)
    · exact .inl rfl
theorem lw_normalP {k : Nat} (W : Wb c H0 H M L B) (h : (a, .ins c.CMachine dx (mF b cut d e)) ∈ L) (hl : (l, .lst (iN (digs b n.natAbs ++ List.replicate k 0))) ∈ L) (hL : bigL b n) (hk : (digs b n.natAbs).length + k < 2 ^ 22)
    (q : ∀ x H', H0 x = none → Wb c H0 H' M L ((x, b, n) :: B) → Q (.ref x) H') : sp_normal K c [.ref a, .int (sgn n), .ref l] H Q E :=
  lw_normal W h hl hL.1 hL.2.1 (digs_lt hL.1 _).pad (by rw [List.length_append, List.length_replicate]; exact hk) (by rw [val_pad, val_digs hL.1]; exact sgn_ok n) (by rw [val_pad, val_digs hL.1, sgn_mul]; exact q)
theorem lw_normalD (W : Wb c H0 H M L B) (h : (a, .ins c.CMachine dx (mF b cut d e)) ∈ L) (hl : (l, .lst (iN (digs b n.natAbs))) ∈ L) (hL : bigL b n)
    (q : ∀ x H', H0 x = none → Wb c H0 H' M L ((x, b, n) :: B) → Q (.ref x) H') : sp_normal K c [.ref a, .int (sgn n), .ref l] H Q E :=
  lw_normal W h hl hL.1 hL.2.1 (digs_lt hL.1 _) hL.2.2 (by rw [val_digs hL.1]; exact sgn_ok n) (by rw [val_digs hL.1, sgn_mul]; exact q)
theorem lw_normalN (W : Wb c H0 H M L B) (h : (a, .ins c.CMachine dx (mF b cut d e)) ∈ L) (hl : (l, .lst (iN (digs b n.natAbs))) ∈ L) (hL : bigL b n)
    (q : ∀ x H', H0 x = none → Wb c H0 H' M L ((x, b, -n) :: B) → Q (.ref x) H') : sp_normal K c [.ref a, .int (0 - sgn n), .ref l] H Q E := by
  rw [← sgn_neg]
  refine lw_normalD (n := -n) W h ?_ (bigL_neg hL) q
  rw [Int.natAbs_neg]; exact hl
theorem lw_normalZ {s : Int} {k : Nat} (W : Wb c H0 H M L B) (h : (a, .ins c.CMachine dx (mF b cut d e)) ∈ L) (hl : (l, .lst (iN (List.replicate k 0))) ∈ L) (hb : b ≠ 0) (hb' : b ≤ 30) (hk : k < 2 ^ 22) (hs : -1 ≤ s ∧ s ≤ 1)
    (q : ∀ x H', H0 x = none → Wb c H0 H' M L ((x, b, 0) :: B) → Q (.ref x) H') : sp_normal K c [.ref a, .int s, .ref l] H Q E := by
  have hv : val b (List.replicate k 0) = 0 := val_zeros b fun d z => (List.mem_replicate.mp z).2
  refine lw_normal W h hl hb hb' (fun d z => by rw [(List.mem_replicate.mp z).2]; exact Nat.two_pow_pos b) (by rw [List.length_replicate]; exact hk) (by rw [hv]; unfold sgnOk; omega) ?_
  rw [hv]
  have e : s * ((0 : Nat) : Int) = 0 := by simp
  rw [e]
  exact q
theorem lw_normalE {s : Int} (W : Wb c H0 H M L B) (h : (a, .ins c.CMachine dx (mF b cut d e)) ∈ L) (hl : (l, .lst []) ∈ L) (hb : b ≠ 0) (hb' : b ≤ 30) (hs : -1 ≤ s ∧ s ≤ 1)
    (q : ∀ x H', H0 x = none → Wb c H0 H' M L ((x, b, 0) :: B) → Q (.ref x) H') : sp_normal K c [.ref a, .int s, .ref l] H Q E :=
  lw_normalZ (k := 0) W h hl hb hb' (by decide) hs q
def sp_law_split (K : PySem.W.Frag) (c : Pc) : Sp := fun vs H Q _ => ∃ (n : Int) (b : Nat), vs = [.int n, .int ((2 ^ b : Nat) : Int)] ∧ b ≠ 0 ∧ b ≤ 60 ∧ (digs b n.natAbs).length < 2 ^ 23 ∧ ∀ l H', Chg H H' [] [(l, .lst (iN (digs b n.natAbs)))] → Q (.ref l) H'
theorem lw_split (W : Wb c H0 H M L B) (hb : b ≠ 0) (hb' : b ≤ 60) (hl : (digs b n.natAbs).length < 2 ^ 23) (q : ∀ p H', H0 p = none → Wb c H0 H' M ((p, .lst (iN (digs b n.natAbs))) :: L) B → Q (.ref p) H') : sp_law_split K c [.int n, .int ((2 ^ b : Nat) : Int)] H Q E :=
  ⟨n, b, rfl, hb, hb', hl, fun p H' ch => q p H' (W.wd.fresh (ch.new List.mem_cons_self).1) (W.chg0 ch)⟩
end
section
variable {K : PySem.W.Frag} {c : Pc} {vs xs ys : List V} {H H0 H' : Hp} {Q : VK} {E : XK} {M : List Addr} {L L' cs : List (Addr × HO)} {L1 : HO → List (Addr × HO)} {B : List (Addr × Nat × Int)} {b b' : Nat} {cut n m : Int} {a d e dx r x x' l p : Addr} {o u : HO} {σ : L2.St} {y : V} {tr : TA} {ns : List Int}
theorem cK_put {i : Nat} {w : Str} {n v : Int} (h1 : words[i]? = some w) (h2 : ns[i]? = some n) : putK (cK ns) (Sum.inr w : Key) (.int v) = cK (ns.set i v) := by
  have idm : ∀ (ws : List Str) (ms : List Int), w ∉ ws → (List.zipWith (fun (w : Str) n => ((Sum.inr w : Key), V.int n)) ws ms).map (fun kv => if kv.1 = (Sum.inr w : Key) then (kv.1, V.int v) else kv) = List.zipWith (fun (w : Str) n => ((Sum.inr w : Key), V.int n)) ws ms := by
    intro ws
    induction ws with
    | nil => intro ms _; rfl
    | cons u ws ih =>
      intro ms hw
      cases ms with
      | nil => rfl
      | cons z ms =>
        have ne : ¬ (Sum.inr u : Key) = Sum.inr w := fun z => hw (by rw [Sum.inr.inj z]; exact List.mem_cons_self)
        rw [List.zipWith_cons_cons, List.map_cons, ih ms (fun z => hw (List.mem_cons_of_mem _ z)), if_neg ne]
  have key : ∀ (ws : List Str) (ms : List Int) (j : Nat), ws.Nodup → ws[j]? = some w → (List.zipWith (fun (w : Str) n => ((Sum.inr w : Key), V.int n)) ws ms).map (fun kv => if kv.1 = (Sum.inr w : Key) then (kv.1, V.int v) else kv) = List.zipWith (fun (w : Str) n => ((Sum.inr w : Key), V.int n)) ws (ms.set j v) := by
    intro ws
    induction ws with
    | nil => intro ms j _ h; simp at h
    | cons u ws ih =>
      intro ms j nd h
      cases ms with
      | nil => rfl
      | cons z ms =>
        cases j with
        | zero =>
          have e1 : u = w := by simpa using h
          subst e1
          rw [List.zipWith_cons_cons, List.map_cons, if_pos rfl, idm ws ms (List.nodup_cons.mp nd).1]
          rfl
        | succ j =>
          have hw : w ∈ ws := List.mem_of_getElem? (by simpa using h)
          have ne : ¬ (Sum.inr u : Key) = Sum.inr w := fun z => by
            have z' := Sum.inr.inj z
            subst z'
            exact (List.nodup_cons.mp nd).1 hw
          rw [List.zipWith_cons_cons, List.map_cons, if_neg ne, ih ms j (List.nodup_cons.mp nd).2 (by simpa using h), List.set_cons_succ, List.zipWith_cons_cons]
  unfold putK
  rw [if_pos]
  · exact key words ns i (by decide +kernel) h1
  · rw [List.any_eq_true]
    exact ⟨_, List.mem_of_getElem? (cK_get h1 h2), decide_eq_true rfl⟩
def sp_Machine_count (K : PySem.W.Frag) (c : Pc) : Sp := fun vs H Q _ => ∃ (a dx : Addr) (b : Nat) (cut : Int) (d e : Addr) (ns : List Int) (w : Str) (i : Nat) (n v : Int), vs = [.ref a, .str w, .int v] ∧ H a = some (.ins c.CMachine dx (mF b cut d e)) ∧ H d = some (.dK (cK ns)) ∧ ns.length = 10 ∧ words[i]? = some w ∧ ns[i]? = some n ∧
  ∀ H', Chg H H' [(d, .dK (cK (ns.set i (n + v))))] [] → Q .non H'
def t_Machine_count (K : PySem.W.Frag) (c : Pc) : TS :=
  (sDPut (tFld K (tVar 0) "counts") (tVar 1) (tOp rAdd (tDGet (tFld K (tVar 0) "counts") (tVar 1)) (tVar 2)))
theorem cK_len : (cK ns).length ≤ 10 := by
  unfold cK
  rw [List.length_zipWith]
  exact Nat.min_le_left _ _
theorem b_Machine_count (P : PM K c) (h : sp_Machine_count K c vs H Q E) : t_Machine_count K c (en0 Q) (st0 3 vs) H := by
  obtain ⟨a, dx, b, cut, d, e, ns, w, i, n, v, rfl, ha, hd, hn, hw, hi, k⟩ := h
  have W : Wd H H [d] [(d, .dK (cK ns))] := (Wd.one hd).may List.mem_cons_self
  unfold t_Machine_count
  walk_at "rd"
  refine rd_Mcounts P ha ?_
  walk_at "rd"
  refine rd_kDGs hd (cK_val hw hi) ?_
  walk_at "rd"
  refine rd_Mcounts P ha ?_
  walk_at "rd"
  refine rd_kDPs W (by walk_at "rp") (by walk_at "may") (Nat.lt_of_le_of_lt cK_len (by decide)) fun H1 W1 => ?_
  rw [cK_put hw hi] at W1
  exact k H1 W1.chg_one
def sp_Machine_reset (K : PySem.W.Frag) (c : Pc) : Sp := fun vs H Q _ => ∃ (a dx : Addr) (b : Nat) (cut : Int) (d e : Addr) (ns : List Int) (xs : List V), vs = [.ref a] ∧ H a = some (.ins c.CMachine dx (mF b cut d e)) ∧ H d = some (.dK (cK ns)) ∧ ns.length = 10 ∧ H e = some (.lst xs) ∧
  ∀ H', Chg H H' [(d, .dK (cK zeros)), (e, .lst [])] [] → Q .non H'
def t_Machine_reset (K : PySem.W.Frag) (c : Pc) : TS :=
  (tSeq (tFor (iTup K (tC (.ref c.aWORDS))) (gName 1) (sDPut (tFld K (tVar 0) "counts") (tVar 1) (tC (.int 0))))
  (tDrop (tBM0 K "list" rClear (tFld K (tVar 0) "entered"))))
theorem zero_more {i : Nat} (h1 : i < 10) (h2 : ns.length = 10) : ((zeros.take i) ++ ns.drop i).set i 0 = zeros.take (i + 1) ++ ns.drop (i + 1) := by
  have hz : zeros[i]? = some 0 := zero_get h1
  have hl : (zeros.take i).length = i := by rw [List.length_take]; show min i 10 = i; omega
  rw [List.set_append_right _ _ (by omega), hl, Nat.sub_self, take_snoc hz, List.append_assoc, List.drop_eq_getElem_cons (by omega : i < ns.length)]
  rfl
theorem b_Machine_reset (P : PM K c) (h : sp_Machine_reset K c vs H Q E) : t_Machine_reset K c (en0 Q) (st0 2 vs) H := by
  obtain ⟨a, dx, b, cut, d, e, ns, xs, rfl, ha, hd, hn, he, k⟩ := h
  have nad : a ≠ d := ne_of ha hd (by intro z; cases z)
  have nae : a ≠ e := ne_of ha he (by intro z; cases z)
  have nde : d ≠ e := ne_of hd he (by intro z; cases z)
  have W : Wd H H [d, e] [(a, .ins c.CMachine dx (mF b cut d e)), (d, .dK (cK ns)), (e, .lst xs)] := ((((Wd.one he).old hd (by simpa using nde)).old ha (by simpa using ⟨nad, nae⟩)).may (by simp)).may (by simp)
  unfold t_Machine_reset
  walk_at "rd"
  refine rd_kIT (P.words H) ?_
  refine rd_forT (xs := words.map V.str) (fun i σ' H' => ∃ v, σ' = [some (.ref a), v] ∧ Wd H H' [d, e] [(a, .ins c.CMachine dx (mF b cut d e)), (d, .dK (cK (zeros.take i ++ ns.drop i))), (e, .lst xs)]) ⟨none, rfl, W⟩ ?_ ?_ ?_
  · rintro i σ' H' _ ⟨v, _, W1⟩
    exact P.words H'
  · rintro i y σ' H' hy ⟨v, rfl, W1⟩
    obtain ⟨w, hw, rfl, hi⟩ := str_of_words hy
    walk_at "rd"
    refine rd_Mcounts P (by walk_at "own") ?_
    walk_at "rd"
    refine rd_kDPs W1 (by walk_at "rp") (by walk_at "may") (Nat.lt_of_le_of_lt cK_len (by decide)) fun H1 W2 => ?_
    have hg : (zeros.take i ++ ns.drop i)[i]? = some (ns[i]'(by omega)) := by
      have hl : (zeros.take i).length = i := by rw [List.length_take]; show min i 10 = i; omega
      rw [List.getElem?_append_right (by omega), hl, Nat.sub_self, List.getElem?_drop]
      exact List.getElem?_eq_getElem _
    rw [cK_put hw hg, zero_more hi hn] at W2
    exact ⟨_, rfl, W2⟩
  · rintro σ' H' ⟨v, rfl, W1⟩
    have e1 : zeros.take (words.map V.str).length ++ ns.drop (words.map V.str).length = zeros := by
      rw [List.length_map]
      show zeros.take 10 ++ ns.drop 10 = zeros
      rw [List.drop_eq_nil_of_le (by omega)]
      rfl
    rw [e1] at W1
    walk_at "rd"
    refine rd_Mentered P (by walk_at "own") ?_
    refine ⟨.inl ⟨rfl, _, SqL.of (W1.get (by walk_at "mem"))⟩, e, xs, rfl, rfl, W1.get (by walk_at "mem"), ?_⟩
    have W2 := W1.put (a := e) (o := .lst xs) (u := .lst []) (L' := [(a, .ins c.CMachine dx (mF b cut d e)), (d, .dK (cK zeros)), (e, .lst [])]) (by walk_at "rp") (.inr (by simp))
    refine k _ (W2.done (fun q hq => ?_) (fun q hq => ?_) (fun q hq => nomatch hq) List.nodup_nil)
    · simp only [List.mem_cons, List.not_mem_nil, or_false] at hq
      rcases hq with rfl | rfl
      · walk_at "mem"
      · walk_at "mem"
    · simpa using hq
end
section
variable {K : PySem.W.Frag} {c : Pc} {vs xs ys : List V} {H H0 H' : Hp} {Q : VK} {E : XK} {M : List Addr} {L L' cs : List (Addr × HO)} {a d e dx r x x' l p : Addr} {σ : L2.St} {te : TE} {tT : TT} {kvs : List (Key × V)}
theorem mergeK_app {kvs : List (Key × V)} : ∀ {more : List (Key × V)}, ((kvs ++ more).map (·.1)).Nodup → mergeK kvs more = kvs ++ more := by
  intro more
  induction more generalizing kvs with
  | nil => intro _; simp [mergeK]
  | cons q more ih =>
    intro h
    have e : kvs ++ q :: more = (kvs ++ [q]) ++ more := by simp
    have hn : ¬ (kvs.any fun kv => decide (kv.1 = q.1)) = true := by
      intro z
      obtain ⟨kv, hm, hk⟩ := List.any_eq_true.mp z
      rw [List.map_append, List.map_cons] at h
      exact (List.nodup_append.mp h).2.2 kv.1 (List.mem_map.mpr ⟨kv, hm, rfl⟩) q.1 List.mem_cons_self (of_decide_eq_true hk)
    have hp : putK kvs q.1 q.2 = kvs ++ [q] := by
      unfold putK
      rw [if_neg hn]
    rw [e, ← ih (kvs := kvs ++ [q]) (by rw [← e]; exact h), ← hp]
    rfl
theorem mergeK_nil (h : (kvs.map (·.1)).Nodup) : mergeK [] kvs = kvs := mergeK_app (kvs := []) h
theorem prd_imp {α β : Type} {R S : α → β → Prop} (h : ∀ x y, R x y → S x y) : ∀ {l : List α} {k : List β}, Paired R l k → Paired S l k
  | _, _, .nil => .nil
  | _, _, .cons a t => .cons (h _ _ a) (prd_imp h t)
/-- D holds pairs, each a tuple of its own; all else stands as in Hb -/
def PInv (Hb : Hp) (D : Addr) (kvs : List (Key × V)) (H : Hp) : Prop := Same Hb H ∧ ∃ qs : List Addr, qs.length = kvs.length ∧ H D = some (.lst (qs.map V.ref)) ∧ Paired (fun q kv => H q = some (.tup [kV kv.1, kv.2])) qs kvs
theorem PInv.start {D : Addr} (h : H D = none) : PInv H D [] (upd H D (.lst [])) :=
  ⟨fun b o e => by rw [upd_ne (fun z => by rw [z, h] at e; cases e)]; exact e, [], rfl, upd_same, .nil⟩
theorem PInv.dict {Hb : Hp} {D : Addr} (h : PInv Hb D kvs H) (hn : (kvs.map (·.1)).Nodup) (q : ∀ p, H p = none → Q (.ref p) (upd H p (.dK kvs))) : rDict K [.ref D] H Q := by
  obtain ⟨hs, qs, hq, hd, hp⟩ := h
  refine ⟨D, qs, kvs, rfl, SqL.of hd, prd_imp (fun x y hx => SqT.of hx) hp, fun p hp => ?_⟩
  rw [mergeK_nil hn]
  exact q p hp
end
section
variable {K : PySem.W.Frag} {c : Pc} {vs xs ys : List V} {H H0 H' : Hp} {Q : VK} {E : XK} {M : List Addr} {L L' cs : List (Addr × HO)} {L1 : HO → List (Addr × HO)} {B : List (Addr × Nat × Int)} {b b' : Nat} {cut n m : Int} {a d e dx r x x' l p : Addr} {o u : HO} {σ : L2.St} {y : V} {tr : TA} {ns : List Int}
def sp_is_compact (K : PySem.W.Frag) (c : Pc) : Sp := fun vs H Q _ => ∃ x b n, vs = [.ref x] ∧ BigAt c H x b n ∧ Q (.bl (decide ((digs b n.natAbs).length ≤ 1))) H
def t_is_compact (K : PySem.W.Frag) (c : Pc) : TS :=
  (tRet (tOp rLe (tCB (rLen K) (tCons (tFld K (tVar 0) "row") tNil)) (tC (.int 1))))
theorem b_is_compact (P : PB K c) (h : sp_is_compact K c vs H Q E) : t_is_compact K c (en0 Q) (st0 1 vs) H := by
  obtain ⟨x, b, n, rfl, ⟨dx, r, hx, hr⟩, q⟩ := h
  unfold t_is_compact
  walk_at "rd"
  refine rd_Brow P hx ?_
  walk_at "rd"
  rw [iN_length]
  have e : decide (((digs b n.natAbs).length : Int) ≤ 1) = decide ((digs b n.natAbs).length ≤ 1) := decide_eq_decide.mpr (by omega)
  rw [e]
  exact q
def sp_check_big (K : PySem.W.Frag) (c : Pc) : Sp := fun vs H Q _ => ∃ (m dx : Addr) (b : Nat) (cut : Int) (d e : Addr) (s : Str) (x : Addr) (n : Int), vs = [.ref m, .str s, .ref x] ∧ H m = some (.ins c.CMachine dx (mF b cut d e)) ∧ BigAt c H x b n ∧ Q .non H
def t_check_big (K : PySem.W.Frag) (c : Pc) : TS :=
  (tIfS (tOr (tNot (L2.tB (tCB (rIsi K) (tCons (tVar 2) (tCons (tC (.ref c.CBig)) tNil))))) (tTest (tOp rNe (tFld K (tVar 2) "width") (tFld K (tVar 0) "width")))) tNever tNext)
theorem b_check_big (PM : PM K c) (P : PB K c) (h : sp_check_big K c vs H Q E) : t_check_big K c (en0 Q) (st0 3 vs) H := by
  obtain ⟨m, dx, b, cut, d, e, s, x, n, rfl, hm, ⟨dx', r, hx, hr⟩, q⟩ := h
  unfold t_check_big
  walk_at "rd"
  refine isi_own P.isc hx ?_
  walk_at "rd"
  refine rd_F rfl ?_
  walk_at "rd"
  refine rd_Bwidth P hx ?_
  walk_at "rd"
  refine rd_Mwidth PM hm ?_
  walk_at "rd"
  refine rd_Fn rfl ?_
  walk_at "rd"
  exact q
def sp_check_bigs (K : PySem.W.Frag) (c : Pc) : Sp := fun vs H Q _ => ∃ (m dx : Addr) (b : Nat) (cut : Int) (d e : Addr) (x y : Addr) (n k : Int), vs = [.ref m, .ref x, .ref y] ∧ H m = some (.ins c.CMachine dx (mF b cut d e)) ∧ BigAt c H x b n ∧ BigAt c H y b k ∧ Q .non H
def t_check_bigs (K : PySem.W.Frag) (c : Pc) : TS :=
  (tSeq (tDrop (tCall (sp_check_machine K c) [] E0 (tCons (tVar 0) tNil)))
  (tSeq (tDrop (tCall (sp_check_big K c) [] E0 (tCons (tVar 0) (tCons (tC (.str "x")) (tCons (tVar 1) tNil)))))
  (tDrop (tCall (sp_check_big K c) [] E0 (tCons (tVar 0) (tCons (tC (.str "y")) (tCons (tVar 2) tNil)))))))
theorem b_check_bigs (h : sp_check_bigs K c vs H Q E) : t_check_bigs K c (en0 Q) (st0 3 vs) H := by
  obtain ⟨m, dx, b, cut, d, e, x, y, n, k, rfl, hm, hx, hy, q⟩ := h
  unfold t_check_bigs
  walk_at "rd"
  refine ⟨m, dx, _, rfl, hm, ?_⟩
  walk_at "rd"
  refine ⟨m, dx, b, cut, d, e, _, x, n, rfl, hm, hx, ?_⟩
  walk_at "rd"
  exact ⟨m, dx, b, cut, d, e, _, y, k, rfl, hm, hy, q⟩
def sp_looked_down (K : PySem.W.Frag) (c : Pc) : Sp := fun vs H Q _ => ∃ (m dx : Addr) (b : Nat) (cut : Int) (d e : Addr) (ns : List Int) (n9 : Int) (r1 r2 : Addr) (ds es : List Nat), vs = [.ref m, .ref r1, .ref r2] ∧ H m = some (.ins c.CMachine dx (mF b cut d e)) ∧ H d = some (.dK (cK ns)) ∧ ns.length = 10 ∧ ns[9]? = some n9 ∧
  H r1 = some (.tup (iN ds)) ∧ H r2 = some (.tup (iN es)) ∧ ds.length = es.length ∧ ∀ p H', LD ds es p → Chg H H' [(d, .dK (cK (ns.set 9 (n9 + ((ds.length : Int) - (if p = 0 then 0 else (p : Int) - 1))))))] [] → Q (.int ((p : Int) - 1)) H'
def t_looked_down (K : PySem.W.Frag) (c : Pc) : TS :=
  (tSeq (tAsg (tOp rSub (tCB (rLen K) (tCons (tVar 1) tNil)) (tC (.int 1))) (gName 3))
  (tSeq (tWhile (tAnd (tTest (tOp rGe (tVar 3) (tC (.int 0)))) (tTest (tOp rEq (tOp (rIxT K) (tVar 1) (tVar 3)) (tOp (rIxT K) (tVar 2) (tVar 3))))) (tAsg (tOp rSub (tVar 3) (tC (.int 1))) (gName 3)))
  (tSeq (tDrop (tMeth c.CMachine "count" (sp_Machine_count K c) [] E0 (tVar 0) (tCons (tC (.str "looked")) (tCons (tOp rSub (tCB (rLen K) (tCons (tVar 1) tNil)) (tCB rMax2 (tCons (tVar 3) (tCons (tC (.int 0)) tNil)))) tNil))))
  (tRet (tVar 3)))))
theorem b_looked_down (P : PM K c) (h : sp_looked_down K c vs H Q E) : t_looked_down K c (en0 Q) (st0 4 vs) H := by
  obtain ⟨m, dx, b, cut, d, e, ns, n9, r1, r2, ds, es, rfl, hm, hd, hn, h9, hr1, hr2, hl, k⟩ := h
  unfold t_looked_down
  walk_at "rd"
  rw [iN_length]
  refine rd_while (fun p σ' H' => σ' = [some (.ref m), some (.ref r1), some (.ref r2), some (.int ((p : Int) - 1))] ∧ H' = H ∧ p ≤ ds.length ∧ ∀ i, p ≤ i → ds[i]? = es[i]?) ds.length ⟨rfl, rfl, Nat.le_refl _, fun i hi => ?_⟩ ?_
  · rw [List.getElem?_eq_none hi, List.getElem?_eq_none (by omega)]
  rintro p σ' H' ⟨rfl, rfl, hp, hal⟩
  have fin : (p = 0 ∨ ds[p - 1]? ≠ es[p - 1]?) → tSeq (tDrop (tMeth c.CMachine "count" (sp_Machine_count K c) [] E0 (tVar 0) (tCons (tC (.str "looked")) (tCons (tOp rSub (tCB (rLen K) (tCons (tVar 1) tNil)) (tCB rMax2 (tCons (tVar 3) (tCons (tC (.int 0)) tNil)))) tNil))))
      (tRet (tVar 3)) (en0 Q) [some (.ref m), some (.ref r1), some (.ref r2), some (.int ((p : Int) - 1))] H' := by
    intro hdf
    walk_at "rd"
    refine rd_kMeth hm (mF_meth' (by decide)) ?_
    walk_at "rd"
    refine ⟨m, dx, b, cut, d, e, ns, "looked", 9, n9, _, rfl, hm, hd, hn, rfl, h9, fun H1 ch => ?_⟩
    walk_at "rd"
    have e1 : (if (0 : Int) > (p : Int) - 1 then (0 : Int) else (p : Int) - 1) = (if p = 0 then 0 else (p : Int) - 1) := by
      by_cases h0 : p = 0
      · rw [if_pos h0, if_pos (by omega)]
      · rw [if_neg h0, if_neg (by omega)]
    rw [iN_length, e1] at ch
    exact k p H1 ⟨hp, hal, hdf⟩ ch
  walk_at "rd"
  refine rd_2d (fun h1 => ?_) fun h1 => ?_
  · have h1' : p - 1 < ds.length := by omega
    walk_at "rd"
    refine rd_ixT (SqT.of hr1) (at_of (j := p - 1) (by omega) (iN_get (List.getElem?_eq_getElem h1'))) ?_
    walk_at "rd"
    refine rd_ixT (SqT.of hr2) (at_of (j := p - 1) (by omega) (iN_get (List.getElem?_eq_getElem (by omega : p - 1 < es.length)))) ?_
    walk_at "rd"
    refine rd_wh2 (fun h2 => ?_) fun h2 => ?_
    · walk_at "rd"
      refine ⟨p - 1, by omega, ?_, rfl, by omega, fun i hi => ?_⟩
      · rw [show ((p : Int) - 1 - 1) = (((p - 1 : Nat) : Int) - 1) by omega]
      · by_cases hi' : p ≤ i
        · exact hal i hi'
        · have : i = p - 1 := by omega
          subst this
          rw [List.getElem?_eq_getElem h1', List.getElem?_eq_getElem (by omega : p - 1 < es.length)]
          congr 1
          exact Int.ofNat.inj h2
    · refine fin (.inr ?_)
      rw [List.getElem?_eq_getElem h1', List.getElem?_eq_getElem (by omega : p - 1 < es.length)]
      intro z
      exact h2 (congrArg Int.ofNat (Option.some.inj z))
  · refine rd_whF rfl ?_
    exact fin (.inl (by omega))
end
section
variable {K : PySem.W.Frag} {c : Pc} {vs : List V} {H H0 H' : Hp} {Q : VK} {E : XK}
def sp_Machine_enter (K : PySem.W.Frag) (c : Pc) : Sp := fun vs H Q _ => ∃ (a dx : Addr) (b : Nat) (cut : Int) (d e : Addr) (xs : List V) (w : Str) (m n : Int), vs = [.ref a, .str w, .int m, .int n] ∧ H a = some (.ins c.CMachine dx (mF b cut d e)) ∧ H e = some (.lst xs) ∧ xs.length ≤ 1000 ∧
  (xs.length < 1000 → ∀ p H', Chg H H' [(e, .lst (xs ++ [.ref p]))] [(p, .tup [.str w, .int m, .int n])] → Q .non H') ∧ (¬ xs.length < 1000 → Q .non H)
def t_Machine_enter (K : PySem.W.Frag) (c : Pc) : TS :=
  (tIfS (tTest (tOp rLt (tCB (rLen K) (tCons (tFld K (tVar 0) "entered") tNil)) (tC (.int 1000)))) (tDrop (tBM K "list" rAppend (tFld K (tVar 0) "entered") (tCons (tTup (tCons (tVar 1) (tCons (tVar 2) (tCons (tVar 3) tNil)))) tNil))) tNext)
theorem b_Machine_enter (P : PM K c) (h : sp_Machine_enter K c vs H Q E) : t_Machine_enter K c (en0 Q) (st0 4 vs) H := by
  obtain ⟨a, dx, b, cut, d, e, xs, w, m, n, rfl, ha, he, hl, q1, q2⟩ := h
  unfold t_Machine_enter
  walk_at "rd"
  refine rd_Mentered P ha ?_
  walk_at "rd"
  refine rd_2d (fun h1 => ?_) fun h1 => ?_
  · walk_at "rd"
    refine rd_Mentered P ha ?_
    refine rd_kBMl he ?_
    walk_at "rd"
    refine ⟨by show 3 ≤ sizeLine; decide, fun p hp => ?_⟩
    walk_at "rd"
    have ne : e ≠ p := fun z => by rw [z, hp] at he; cases he
    refine ⟨e, xs, _, rfl, rfl, by rw [upd_ne ne]; exact he, Nat.lt_of_le_of_lt hl (by decide), ?_⟩
    refine q1 (by omega) p _ ⟨fun z => ?_, fun z => ?_, by simp, fun b o z nb => ?_⟩
    · cases List.mem_singleton.mp z; exact upd_same
    · cases List.mem_singleton.mp z; exact ⟨hp, by rw [upd_ne (Ne.symm ne)]; exact upd_same⟩
    · have n1 : b ≠ e := fun y => nb (by rw [y]; exact List.mem_cons_self)
      rw [upd_ne n1, upd_ne (fun y => by rw [y, hp] at z; cases z)]; exact z
  · walk_at "rd"
    exact q2 (by omega)
end
end Eng
namespace Eng
open PySem PySem.Spec PyProof.Rows L2
/-- a def whose code object stands at c -/
def FunC (K : PySem.W.Frag) (x qual : Str) (st : Stmt) (f : Addr) (fd : FuncData) (c : Addr) : Prop :=
  ∃ (oc : Value) (od : Option Addr) (kV doc pm : Value) (an : Option Addr) (ct : Value) (osl : Array (Option Value)), fd = PySem.W.fnOf x qual (defArgs st) (defBody st) (defScope st) .none kV doc pm an (.ref c) ct ∧ K.lookup f = some ⟨oc, od, .func (PySem.W.fnOf x qual (defArgs st) (defBody st) (defScope st) .none kV doc pm an (.ref c) ct), osl⟩ ∧ PySem.W.codeIn K (.ref c) qual = true
theorem FunC.ok {P : Program} {w : World} {K : PySem.W.Frag} {mg : Str → Option Value} {base : Heap} {x qual : Str} {st : Stmt} {f : Addr} {fd : FuncData} {c : Addr} {N ps : List Str} {k : Nat} {sp : Sp} (F : FunC K x qual st f fd c) (S : FnScope N ps (defScope st)) (len : ∀ vs H Q E, sp vs H Q E → vs.length = ps.length)
    (hbody : ∀ (A : Around) (outer : List Env) (s : Shared) (H : Hp) (vs : List V) (Q : VK) (E : XK), Room k (A.deeper (envOfC qual (defScope st) s.heap.objs.size f (.ref c))) → sp vs H Q E →
      ∃ t, PSs (cxOf C8.CX0 P w K mg base N qual (defScope st) f (.ref c) A outer s H E).nox (defBody st) t ∧ t { nx := fun _ H' => Q .non H', rt := Q } (L2.start N vs) H) : FnOk P w K mg base C8.CX0 (k + 1) f fd ps sp := by
  obtain ⟨oc, od, kV, doc, pm, an, ct, osl, rfl, lk, hcd⟩ := F
  refine fn_of lk hcd S len fun A outer s H vs Q E hr hsp => ?_
  obtain ⟨t, h, q⟩ := hbody A outer s H vs Q E hr hsp
  exact ⟨t, h.nox, q⟩
end Eng
namespace Eng
open PySem PySem.Spec PyProof.Rows L2
/-- the names of such a lambda: its parameter ya (no name of the maker), captured ones and globals -/
structure LamD (N : List Str) (ya : Str) (sc scope : Scope) : Prop where
  kind : scope.kind = .function
  co : scope.isCoroutine = false
  gen : scope.isGenerator = false
  nocell : ∀ y ∈ scope.names, y.2 ≠ .cell
  own : ∀ y ∈ scope.names, y.2 = .local → y.1 = ya
  par : scope.names.lookup ya = some .local
  off : ya ∉ N
  free : ∀ y ∈ scope.names, y.2 = .free → sc.names.lookup y.1 = some .cell ∨ sc.names.lookup y.1 = some .free
theorem LamD.has {X : Cx} {ya : Str} {scope : Scope} (L : LamD X.N ya X.env.scope scope) (ok : X.Ok) : ∀ y ∈ scope.names, y.2 = .free → ∃ c, X.env.cells.lookup y.1 = some c := fun y hy e => by
  rcases L.free y hy e with k | k
  · exact ok.has _ (.inl k)
  · exact ok.has _ (.inr k)
section
variable {X : Cx} {pins : List (Addr × Obj)} {σ : L2.St} {H HZ : Hp} {s s1 : Shared}
/-- how the binder makes of no arguments the default's binding -/
def BindD (params : Arguments) (body : Expr) (scope : Scope) (ya : Str) : Prop :=
  ∀ (q : Str) (cl : List (Str × Addr)) (T : Addr) (doc pm cv ctv u : Value), ∃ k, bindArgs (PySem.W.kdv_fn "<lambda>" q params (.expr body) scope cl (.ref T) doc pm cv ctv) ⟨[], []⟩ = seqItems? (.ref T) >>= k ∧ k (some #[u]) = pure [(ya, u)]
end
end Eng
namespace Eng
open PySem PySem.Spec PyProof.Rows L2
end Eng
namespace Eng
open PySem PySem.Spec PyProof.Rows L2
section
variable {X : Cx} {pins : List (Addr × PySem.Obj)} {σ : L2.St} {H : Hp} {s : Shared} {a C : Addr} {f : Str} {y : V} {u : Value}
/-- the heap behind self.f = y -/
def putF (H : Hp) (a C dx : Addr) (f : Str) (y : V) : Hp := upd (upd H dx (exd dx [(f, y)])) a (exo a C (some dx))
end
end Eng
namespace Eng
open PySem PySem.Spec PyProof.Rows L2
/-- which cells, and what they hold -/
structure Th where
  dom : Addr → Prop
  has : Addr → V → Prop
def CellsAt (θ : Th) (H : Hp) (h : Heap) : Prop := ∀ c, θ.dom c → H c = none ∧ ∃ u, h.IsCell c u ∧ ∀ v, θ.has c v → ∃ w, u = some w ∧ RelV v w
section
variable {θ : Th} {fs ex : List Addr} {H H' : Hp} {h h' : Heap} {X : Cx} {pins : List (Addr × Obj)} {σ : L2.St} {s : Shared}
theorem CellsAt.un (C : CellsAt θ H h) (U : Un fs ex H H' h h') (hx : ∀ c, θ.dom c → c ∉ ex) : CellsAt θ H' h' := fun c hc => by
  obtain ⟨n, u, ⟨o, ho, hd⟩, r⟩ := C c hc
  obtain ⟨sl, e⟩ := U.any ho n (hx c hc)
  exact ⟨U.free c o ho n (hx c hc), u, ⟨_, e, hd⟩, r⟩
/-- a context in which they are told -/
def Bears (θ : Th) (Z : Cx) : Prop := CellsAt θ Z.H_0 Z.s_0.heap ∧ ∀ c, θ.dom c → c ∉ Z.ex
theorem Bears.here (B : Bears θ X) (I : Inv X pins σ H s) : CellsAt θ H s.heap := B.1.un I.base B.2
end
/-- a lambda's text -/
structure Lmb where
  q : Str
  params : Arguments
  body : Expr
  scope : Scope
/-- a closure without defaults, with one -/
def CloO (f : Addr) (L : Lmb) (cl : List (Str × Addr)) (c' : Addr) : HO := .ext fun h => ∃ pm ctv, h.get? f = some (PySem.W.kla_obj "<lambda>" L.q L.params L.body L.scope cl pm c' ctv)
def CloD (f : Addr) (L : Lmb) (cl : List (Str × Addr)) (c' T : Addr) : HO := .ext fun h => ∃ doc pm ctv, h.get? f = some (PySem.W.kdv_obj "<lambda>" L.q L.params (.expr L.body) L.scope cl (.ref T) doc pm c' ctv)
def TupD (T : Addr) : HO := .ext fun h => ∃ u, h.get? T = some (PySem.W.kdv_tup [u])
/-- the closure at f -/
inductive IsClo (H : Hp) (f : Addr) (L : Lmb) (cl : List (Str × Addr)) : Prop
  | plain {c' : Addr} : L.params.defaults = [] → H f = some (CloO f L cl c') → H c' = some (LamX.CodeO c' L.q) → IsClo H f L cl
  | dflt {c' T : Addr} : L.params.defaults ≠ [] → H f = some (CloD f L cl c' T) → H T = some (TupD T) → H c' = some (LamX.CodeO c' L.q) → IsClo H f L cl
theorem IsClo.mono {H H' : Hp} {f : Addr} {L : Lmb} {cl : List (Str × Addr)} (h : IsClo H f L cl) (k : ∀ a o, H a = some o → H' a = some o) : IsClo H' f L cl := by
  cases h with
  | plain n a b => exact .plain n (k _ _ a) (k _ _ b)
  | dflt n a b d => exact .dflt n (k _ _ a) (k _ _ b) (k _ _ d)
/-- the names of a lambda: captured ones, globals, a parameter that is no name of the maker's -/
structure LamC (N : List Str) (sc scope : Scope) : Prop where
  kind : scope.kind = .function
  co : scope.isCoroutine = false
  gen : scope.isGenerator = false
  nocell : ∀ y ∈ scope.names, y.2 ≠ .cell
  off : ∀ y ∈ scope.names, y.2 = .local → y.1 ∉ N
  free : ∀ y ∈ scope.names, y.2 = .free → sc.names.lookup y.1 = some .cell ∨ sc.names.lookup y.1 = some .free
theorem LamC.ofS {N : List Str} {sc scope : Scope} (L : LamX.LamS sc scope) : LamC N sc scope := ⟨L.kind, L.co, L.gen, fun y hy => (L.own y hy).2, fun y hy e => absurd e (L.own y hy).1, L.free⟩
theorem LamC.ofD {N : List Str} {ya : Str} {sc scope : Scope} (L : LamD N ya sc scope) : LamC N sc scope := ⟨L.kind, L.co, L.gen, L.nocell, fun y hy e => by rw [L.own y hy e]; exact L.off, L.free⟩
theorem LamC.has {X : Cx} {N : List Str} {scope : Scope} (L : LamC N X.env.scope scope) (ok : X.Ok) : ∀ y ∈ scope.names, y.2 = .free → ∃ c, X.env.cells.lookup y.1 = some c := fun y hy e =>
  (L.free y hy e).elim (fun k => ok.has _ (.inl k)) fun k => ok.has _ (.inr k)
/-- a lambda's kind: no parameter, or one with a default -/
inductive LmbK (N : List Str) (sc : Scope) (L : Lmb) : Prop
  | plain : LamX.LamS sc L.scope → (∀ (q : Str) (cl : List (Str × Addr)) (pm cv ctv : Value), bindArgs (PySem.W.kla_fn "<lambda>" q L.params L.body L.scope cl pm cv ctv) ⟨[], []⟩ = pure []) → (∀ env, defaultsOf L.params env = ([], [])) → L.params.defaults = [] → LmbK N sc L
  | dflt {ya : Str} {i : Int} {j : Nat} {pi : Pos} : LamD N ya sc L.scope → BindD L.params L.body L.scope ya → L.params.defaults = [.Constant (.int i) j pi] → L.params.kw_defaults = [] → LmbK N sc L
theorem LmbK.c {N : List Str} {sc : Scope} {L : Lmb} (h : LmbK N sc L) : LamC N sc L.scope := by
  cases h with
  | plain a _ _ _ => exact .ofS a
  | dflt a _ _ _ => exact .ofD a
abbrev Asks := Addr → XK → Hp → VK → Prop
def ActsOk (P : Program) (w : World) (K : PySem.W.Frag) (mg : Str → Option Value) (base : Heap) (k : Nat) (θ : Th) (asks : Asks) : Prop :=
  ∀ (f : Addr) (E : XK) (H : Hp) (Q : VK) (A : Around) (outer : List Env) (s : Shared), Room k A → Env0 P w K mg base A outer s H → CellsAt θ H s.heap → asks f E H Q →
    PySem.W.FnAt f s.heap ∧ codeAny (model P w) A (.call (.ref f) ⟨[], []⟩) (CR (L2.CX P w) outer P w H s Q E) s
end Eng
namespace Eng
open PySem PySem.Spec PyProof.Rows L2
structure FnA (P : Program) (w : World) (K : PySem.W.Frag) (mg : Str → Option Value) (base : Heap) (k kA : Nat) (f : Addr) (fd : FuncData) (ps : List Str) (sp : Asks → Sp) : Prop where
  len : ∀ asks vs H Q E, sp asks vs H Q E → vs.length = ps.length
  run : ∀ (θ : Th) (asks : Asks), ActsOk P w K mg base kA θ asks → ∀ (A : Around) (outer : List Env) (s : Shared) (H : Hp) (args : Args) (us : List Value) (vs : List V) (Q : VK) (E : XK), Room k A → Env0 P w K mg base A outer s H → CellsAt θ H s.heap → BindsTo s fd args (ps.zip us) → Vals vs us → sp asks vs H Q E →
    codeAny (model P w) A (.call (.ref f) args) (CR CX0 outer P w H s Q E) s
theorem FnA.of {P : Program} {w : World} {K : PySem.W.Frag} {mg : Str → Option Value} {base : Heap} {x qual : Str} {st : Stmt} {f : Addr} {fd : FuncData} {N ps : List Str} {k kA : Nat} {sp : Asks → Sp} (F : Fun K x qual st f fd) (S : FnScope N ps (defScope st)) (len : ∀ asks vs H Q E, sp asks vs H Q E → vs.length = ps.length)
    (hbody : ∀ (cdv : Value) (θ : Th) (asks : Asks) (A : Around) (outer : List Env) (s : Shared) (H : Hp) (vs : List V) (Q : VK) (E : XK), ActsOk P w K mg base kA θ asks → Bears θ (cxOf CX0 P w K mg base N qual (defScope st) f cdv A outer s H E) → Room k (A.deeper (envOfC qual (defScope st) s.heap.objs.size f cdv)) → sp asks vs H Q E →
      ∃ t, PSs (cxOf CX0 P w K mg base N qual (defScope st) f cdv A outer s H E).nox (defBody st) t ∧ t { nx := fun _ H' => Q .non H', rt := Q } (L2.start N vs) H) : FnA P w K mg base (k + 1) kA f fd ps sp := by
  obtain ⟨oc, od, kV, doc, pm, an, cdv, ct, osl, rfl, lk, hcd⟩ := F.ex
  refine ⟨len, fun θ asks AO A outer s H args us vs Q E hr e0 hc hb r h => ?_⟩
  refine LamX.run_ofS lk hcd S hr e0 hb r (len asks _ _ _ _ h) fun hr' => ?_
  obtain ⟨t, ht, hq⟩ := hbody cdv θ asks A outer s H vs Q E AO ⟨hc, fun c _ z => nomatch (show c ∈ ([] : List Addr) from z)⟩ hr' h
  exact ⟨t, ht.nox, hq⟩
theorem FnA.mono {P : Program} {w : World} {K : PySem.W.Frag} {mg : Str → Option Value} {base : Heap} {j k kA : Nat} {f : Addr} {fd : FuncData} {ps : List Str} {sp : Asks → Sp} (F : FnA P w K mg base j kA f fd ps sp) (h : j ≤ k) : FnA P w K mg base k kA f fd ps sp :=
  ⟨F.len, fun θ asks AO A outer s H args us vs Q E hr => F.run θ asks AO A outer s H args us vs Q E (hr.mono h)⟩
end Eng
namespace Eng
open PySem PySem.Spec PyProof.Rows L2
end Eng
namespace Eng
open PySem PySem.Spec PyProof.Rows L2
end Eng
namespace Eng
open PySem PySem.Spec PyProof.Rows L2
def IntEs : List DictEntry → List (Int × Int) → Prop
  | [], [] => True
  | e :: es, p :: ps => (∃ t u, e = ⟨hashInt p.1, .int p.1 t, .int p.2 u⟩) ∧ IntEs es ps
  | _, _ => False
theorem IntEs.keys : ∀ {es : List DictEntry} {ps : List (Int × Int)}, IntEs es ps → ∀ e ∈ es, ∃ k t, e.key = .int k t ∧ e.hash = hashInt k
  | e :: es, p :: ps, h, d, hd => by
    rcases List.mem_cons.mp hd with rfl | z
    · obtain ⟨t, u, rfl⟩ := h.1
      exact ⟨_, _, rfl, rfl⟩
    · exact h.2.keys d z
  | [], _, _, _, hd => nomatch hd
/-- the dict at a -/
structure CidAt (K : PySem.W.Frag) (a : Addr) (es : Array DictEntry) (n : Nat) (ps : List (Int × Int)) : Prop where
  at_ : K.lookup a = some ⟨.type "dict", none, .dict es n, #[]⟩
  low : (a == sysModules) = false
  ent : IntEs es.toList ps
section
variable {X : Cx} {a : Addr} {es : Array DictEntry} {n : Nat} {ps : List (Int × Int)}
theorem CidAt.map {K : PySem.W.Frag} {prog : Program} {w : World} {h : Heap} (D : CidAt K a es n ps) (I : K.In h) : h.MapOf (intKind prog w) a (fun k => findBy (intKind prog w).is es k) :=
  ⟨_, es, n, I _ _ D.at_, ⟨rfl, rfl, rfl⟩, rfl, fun e he => by
    obtain ⟨k, t, e1, e2⟩ := D.ent.keys e (Array.mem_toList_iff.mpr he)
    exact ⟨k, by rw [e1]; exact intKind_is prog w k t, e2⟩, fun _ => rfl⟩
end
end Eng
namespace Eng
open PySem PySem.Spec PySem.Calls PyProof.Rows L2 PySem.W
end Eng
namespace Eng
open PySem PySem.Spec PyProof.Rows L2
end Eng
namespace Eng
open PySem PySem.Spec PySem.Calls PyProof.Rows L2 PySem.W
end Eng
namespace Pu
open PySem L2 Eng
/-- what never changes (G); the machines (object, counts, walk); the sources of draws -/
structure Gh where
  G : Hp
  ms : List (Addr × Addr × Addr)
  ss : List Addr
  os : List Addr
  ts : List (Addr × Str)
structure Gh.le (g g' : Gh) : Prop where
  G : ∀ a o, g.G a = some o → g'.G a = some o
  ms : ∀ (i : Nat) q, g.ms[i]? = some q → g'.ms[i]? = some q
  ss : ∀ (i : Nat) q, g.ss[i]? = some q → g'.ss[i]? = some q
  os : ∀ (i : Nat) q, g.os[i]? = some q → g'.os[i]? = some q
  ts : g'.ts = g.ts
theorem Gh.le.refl (g : Gh) : g.le g := ⟨fun _ _ h => h, fun _ _ h => h, fun _ _ h => h, fun _ _ h => h, rfl⟩
theorem Gh.le.trans {a b d : Gh} (h : a.le b) (k : b.le d) : a.le d := ⟨fun x o z => k.G x o (h.G x o z), fun x o z => k.ms x o (h.ms x o z), fun x o z => k.ss x o (h.ss x o z), fun x o z => k.os x o (h.os x o z), k.ts.trans h.ts⟩
/-- data -/
inductive Dat where
  | non | bl (b : Bool) | int (n : Int) | str (s : Str) | tup (l : List Dat) | lst (l : List Dat) | cst (l : List Dat)
  | big (b : Nat) (n : Int) | mach (i : Nat) | src (i : Nat) | opq (v : V) | dic (l : List (Str × Int)) | ob (j : Nat) | fn (f : Addr) (g : Gh) | fnc (j : Nat)
/-- a list or a dict that may be changed, wherever it is held -/
inductive Obj where
  | lst (l : List Dat) | dic (l : List (Str × Int))
/-- a name's slot: nothing known, a value, a list that this name alone holds (made here, or the caller's) -/
inductive Slot where
  | no | val (d : Dat) | own (f : Bool) (l : List Dat)
  | ownT (l : List Dat) (r : List Dat)
abbrev Env := List Slot
structure Mach where
  b : Nat
  cut : Int
  ns : List Int
  walk : List (Str × Int × Int)
structure Wld where
  ms : List Mach
  ss : Nat
  os : List Obj
abbrev PQ := Dat → Env → Wld → Prop
abbrev PE := Env → Wld → PQ → Prop
abbrev PF := Env → Wld → (List Dat → Env → Wld → Prop) → Prop
abbrev PT := Env → Wld → (Bool → Env → Wld → Prop) → Prop
abbrev PA := Env → Wld → (List Dat → Env → Wld → Prop) → Prop
abbrev PO := Env → Wld → (Option Int → Env → Wld → Prop) → Prop
abbrev PG := Dat → Env → Wld → (Env → Wld → Prop) → Prop
abbrev PSp := List Dat → Wld → (Dat → Wld → Prop) → Prop
/-- with a list of the caller's that may be changed: the other arguments, the list -/
abbrev PSpO := List Dat → List Dat → Wld → (Dat → List Dat → Wld → Prop) → Prop
abbrev Q1 := Dat → (Dat → Prop) → Prop
abbrev Q2 := Dat → Dat → (Dat → Prop) → Prop
abbrev QL := List Dat → (Dat → Prop) → Prop
structure PEnds where
  nx : Env → Wld → Prop
  rt : PQ
  bk : Env → Wld → Prop
  ct : Env → Wld → Prop
abbrev PS := PEnds → Env → Wld → Prop
def pVar (i : Nat) : PE := fun e w k => match e[i]? with | some (.val d) => k d e w | _ => False
def pC (d : Dat) : PE := fun e w k => k d e w
def pOp (q : Q2) (a b : PE) : PE := fun e w k => a e w fun x e w => b e w fun y e w => q x y fun z => k z e w
def pUn (q : Q1) (a : PE) : PE := fun e w k => a e w fun x e w => q x fun z => k z e w
def isB : Dat → (Bool → Prop) → Prop
  | .bl b, k => k b
  | _, _ => False
def pTest (a : PE) : PT := fun e w k => a e w fun x e w => isB x fun b => k b e w
def pNot (a : PT) : PT := fun e w k => a e w fun b e w => k (!b) e w
def pAnd (a b : PT) : PT := fun e w k => a e w fun c e w => if c = true then b e w k else k false e w
def pOr (a b : PT) : PT := fun e w k => a e w fun c e w => if c = true then k true e w else b e w k
def pAndV (a b : PE) : PE := fun e w k => a e w fun x e w => isB x fun c => if c = true then b e w k else k (.bl false) e w
def pOrV (a b : PE) : PE := fun e w k => a e w fun x e w => isB x fun c => if c = true then k (.bl true) e w else b e w k
def pNotV (a : PE) : PE := fun e w k => a e w fun x e w => isB x fun c => k (.bl (!c)) e w
def pIf (c : PT) (a b : PE) : PE := fun e w k => c e w fun t e w => if t = true then a e w k else b e w k
def pChain (q q' : Q2) (a b c : PE) : PE := fun e w k => a e w fun x e w => b e w fun y e w => q x y fun z => isB z fun t => if t = true then c e w fun v e w => q' y v fun z => k z e w else k (.bl false) e w
def pNil : PA := fun e w k => k [] e w
def pCons (a : PE) (r : PA) : PA := fun e w k => a e w fun x e w => r e w fun xs e w => k (x :: xs) e w
def pCall (P : PSp) (a : PA) : PE := fun e w k => a e w fun ds e w => P ds w fun d w => k d e w
def pCallD (P : PSp) (dv : List Dat) (a : PA) : PE := fun e w k => a e w fun ds e w => P (ds ++ dv) w fun d w => k d e w
def pKw (n : Nat) (P : PSp) (ix : List Nat) (a : PA) : PE := fun e w k => a e w fun ds e w => ds.length = n ∧ P (ix.map fun i => ds.getD i .non) w fun d w => k d e w
def pTup (a : PA) : PE := fun e w k => a e w fun ds e w => ds.length ≤ sizeLine ∧ k (.tup ds) e w
def pCB (q : QL) (a : PA) : PE := fun e w k => a e w fun ds e w => q ds fun z => k z e w
def pLst (a : PA) : PF := fun e w k => a e w fun ds e w => ds.length ≤ sizeLine ∧ k ds e w
def pFz (a : PF) : PE := fun e w k => a e w fun ds e w => k (.lst ds) e w
/-- a list from one or two values -/
def pOpF (q : Dat → Dat → (List Dat → Prop) → Prop) (a b : PE) : PF := fun e w k => a e w fun x e w => b e w fun y e w => q x y fun z => k z e w
def pCBF (q : List Dat → (List Dat → Prop) → Prop) (a : PA) : PF := fun e w k => a e w fun ds e w => q ds fun z => k z e w
def ownAt (e : Env) (i : Nat) (k : Bool → List Dat → Prop) : Prop := match e[i]? with | some (.own f l) => k f l | _ => False
def pOpO (q : Q2) (i : Nat) (b : PE) : PE := fun e w k => ownAt e i fun _ _ => b e w fun y e w => ownAt e i fun f l => q (.lst l) y fun z => k z e w
def pCBO (q : QL) (i : Nat) : PE := fun e w k => ownAt e i fun f l => q [.lst l] fun z => k z e w
def pSeq (a b : PS) : PS := fun D e w => a { D with nx := b D } e w
def pNext : PS := fun D e w => D.nx e w
def pBreak : PS := fun D e w => D.bk e w
def pCont : PS := fun D e w => D.ct e w
def pAsg (a : PE) (i : Nat) : PS := fun D e w => a e w fun d e w => D.nx (e.set i (.val d)) w
def pAsgO (a : PF) (i : Nat) : PS := fun D e w => a e w fun l e w => D.nx (e.set i (.own true l)) w
def setAll : Env → List Nat → List Dat → Option Env
  | e, [], [] => some e
  | e, i :: is, d :: ds => setAll (e.set i (.val d)) is ds
  | _, _, _ => none
def onSome {α : Type} (o : Option α) (k : α → Prop) : Prop := match o with | some x => k x | none => False
def tupOf : Dat → (List Dat → Prop) → Prop
  | .tup l, k => k l
  | _, _ => False
def lstOf : Dat → (List Dat → Prop) → Prop
  | .lst l, k => k l
  | .cst l, k => k l
  | _, _ => False
/-- a list or a tuple -/
def seqOf : Dat → (List Dat → Prop) → Prop
  | .lst l, k => k l
  | .cst l, k => k l
  | .tup l, k => k l
  | _, _ => False
def intOf : Dat → (Int → Prop) → Prop
  | .int n, k => k n
  | _, _ => False
def pgName (i : Nat) : PG := fun d e w k => k (e.set i (.val d)) w
def pgTup (is : List Nat) : PG := fun d e w k => tupOf d fun ds => onSome (setAll e is ds) fun e => k e w
def pAsgG (a : PE) (g : PG) : PS := fun D e w => a e w fun d e w => g d e w D.nx
def pPar (is : List Nat) (a : PA) : PS := fun D e w => a e w fun ds e w => onSome (setAll e is ds) fun e => D.nx e w
def pRet (a : PE) : PS := fun D e w => a e w D.rt
def pRetN : PS := fun D e w => D.rt .non e w
def pDrop (a : PE) : PS := fun D e w => a e w fun _ e w => D.nx e w
def pIfS (c : PT) (a b : PS) : PS := fun D e w => c e w fun t e w => if t = true then a D e w else b D e w
def pAppend (i : Nat) (a : PE) : PS := fun D e w => ownAt e i fun _ _ => a e w fun d e w => ownAt e i fun f l => l.length < sizeLine ∧ D.nx (e.set i (.own f (l ++ [d]))) w
def pSetI (i : Nat) (ix v : PE) : PS := fun D e w => v e w fun d e w => ownAt e i fun _ _ => ix e w fun x e w => intOf x fun n => ownAt e i fun f l => onSome (ixN l.length n) fun j => D.nx (e.set i (.own f (l.set j d))) w
def fz : Slot → Slot
  | .own true l => .val (.lst l)
  | s => s
/-- from here on the names is hold their lists no more alone -/
def frz (e : Env) : List Nat → Env
  | [] => e
  | i :: is => frz (match e[i]? with | some s => e.set i (fz s) | none => e) is
def pFrz (is : List Nat) (a : PS) : PS := fun D e w => a D (frz e is) w
def whl (c : PT) (b : PS) (D : PEnds) : Nat → Env → Wld → Prop
  | 0, _, _ => False
  | n + 1, e, w => c e w fun t e w => if t = true then b ⟨whl c b D n, D.rt, D.nx, whl c b D n⟩ e w else D.nx e w
def pWhile (c : PT) (b : PS) : PS := fun D e w => ∃ n, whl c b D n e w
def lp (g : PG) (b : PS) (D : PEnds) : List Dat → Env → Wld → Prop
  | [], e, w => D.nx e w
  | d :: ds, e, w => g d e w fun e w => b ⟨lp g b D ds, D.rt, D.nx, lp g b D ds⟩ e w
def pFor (s : PA) (g : PG) (b : PS) : PS := fun D e w => s e w fun ds e w => lp g b D ds e w
def wip (e : Env) : List Nat → Env
  | [] => e
  | i :: is => wip (e.set i .no) is
def lcp (g : PG) (t : PT) (a : PE) (vs : List Nat) (k : List Dat → Env → Wld → Prop) : List Dat → List Dat → Env → Wld → Prop
  | [], acc, e, w => k acc e w
  | d :: ds, acc, e, w => g d e w fun e w => t e w fun b e w => if b = true then a e w fun y e w => acc.length < sizeLine ∧ lcp g t a vs k ds (acc ++ [y]) (wip e vs) w else lcp g t a vs k ds acc (wip e vs) w
def pLc (s : PA) (g : PG) (t : PT) (a : PE) (vs : List Nat) : PF := fun e w k => s e w fun ds e w => lcp g t a vs k ds [] (wip e vs) w
def pYes : PT := fun e w k => k true e w
/-- what is walked -/
def pIL (a : PE) : PA := fun e w k => a e w fun d e w => lstOf d fun l => k l e w
def pIT (a : PE) : PA := fun e w k => a e w fun d e w => tupOf d fun l => k l e w
def rng (lo : Int) : Nat → List Dat
  | 0 => []
  | n + 1 => .int lo :: rng (lo + 1) n
def pIR1 (a : PE) : PA := fun e w k => a e w fun d e w => intOf d fun n => (-(2 ^ 62) ≤ n ∧ n < 2 ^ 62) ∧ k (rng 0 n.toNat) e w
def pIR2 (a b : PE) : PA := fun e w k => a e w fun d e w => b e w fun d' e w => intOf d fun n => intOf d' fun m => (-(2 ^ 62) ≤ n ∧ n < 2 ^ 62 ∧ -(2 ^ 62) ≤ m ∧ m < 2 ^ 62) ∧ k (rng n (m - n).toNat) e w
def enm (i : Nat) : List Dat → List Dat
  | [] => []
  | d :: ds => .tup [.int (i : Int), d] :: enm (i + 1) ds
def pIEnum (a : PE) : PA := fun e w k => a e w fun d e w => seqOf d fun l => k (enm 0 l) e w
end Pu
namespace Pu
open PySem L2 Eng
/-- the objects that may be changed, the tables of code -/
def Gh.ot (g : Gh) : List Addr := g.os ++ g.ts.map (·.1)
def Gh.mu (g : Gh) : List Addr := g.ms.map (·.2.1) ++ (g.ms.map (·.2.2) ++ (g.ss ++ g.ot))
/-- a dict of texts and integers -/
def dKs (l : List (Str × Int)) : List (Key × V) := l.map fun p => ((Sum.inr p.1 : Key), V.int p.2)
section
variable (K : PySem.W.Frag) (c : Pc)
mutual
inductive Rep (g : Gh) : V → Dat → Prop
  | non : Rep g .non .non
  | bl (b : Bool) : Rep g (.bl b) (.bl b)
  | int (n : Int) : Rep g (.int n) (.int n)
  | str (s : Str) : Rep g (.str s) (.str s)
  | tup {a : Addr} {vs : List V} {ds : List Dat} : g.G a = some (.tup vs) → Reps g vs ds → Rep g (.ref a) (.tup ds)
  | lst {a : Addr} {vs : List V} {ds : List Dat} : g.G a = some (.lst vs) → Reps g vs ds → Rep g (.ref a) (.lst ds)
  | cst {a : Addr} {vs : List V} {ds : List Dat} : SqL K g.G a vs → Reps g vs ds → Rep g (.ref a) (.cst ds)
  | big {a : Addr} {b : Nat} {n : Int} : BigAt c g.G a b n → Rep g (.ref a) (.big b n)
  | mach {i : Nat} {q : Addr × Addr × Addr} : g.ms[i]? = some q → Rep g (.ref q.1) (.mach i)
  | src {i : Nat} {a : Addr} : g.ss[i]? = some a → Rep g (.ref a) (.src i)
  | opq (v : V) : Rep g v (.opq v)
  | dic {a : Addr} {l : List (Str × Int)} : g.G a = some (.dK (dKs l)) → Rep g (.ref a) (.dic l)
  | ob {j : Nat} {a : Addr} : g.os[j]? = some a → Rep g (.ref a) (.ob j)
  | fn {f : Addr} {g0 : Gh} : g0.le g → Rep g (.ref f) (.fn f g0)
  | fnc (j : Nat) : Rep g (.ref (c.fs.getD j 0)) (.fnc j)
inductive Reps (g : Gh) : List V → List Dat → Prop
  | nil : Reps g [] []
  | cons {v : V} {vs : List V} {d : Dat} {ds : List Dat} : Rep g v d → Reps g vs ds → Reps g (v :: vs) (d :: ds)
end
end
section
variable {K : PySem.W.Frag} {c : Pc} {g g' : Gh}
theorem sqT_mono {G G' : Hp} (h : ∀ a o, G a = some o → G' a = some o) {a : Addr} {vs : List V} (s : SqT K G a vs) : SqT K G' a vs := by
  rcases s with (s | ⟨o, s⟩) | s
  · exact .inl (.inl (h _ _ s))
  · exact .inl (.inr ⟨o, h _ _ s⟩)
  · exact .inr s
theorem sqL_mono {G G' : Hp} (h : ∀ a o, G a = some o → G' a = some o) {a : Addr} {vs : List V} (s : SqL K G a vs) : SqL K G' a vs := by
  rcases s with (s | ⟨o, s⟩) | s
  · exact .inl (.inl (h _ _ s))
  · exact .inl (.inr ⟨o, h _ _ s⟩)
  · exact .inr s
theorem bigAt_mono {G G' : Hp} (h : ∀ a o, G a = some o → G' a = some o) {a : Addr} {b : Nat} {n : Int} (s : BigAt c G a b n) : BigAt c G' a b n := s.same h
mutual
theorem Rep.mono (le : g.le g') : ∀ {d : Dat} {v : V}, Rep K c g v d → Rep K c g' v d
  | .non, _, .non => .non
  | .bl _, _, .bl _ => .bl _
  | .int _, _, .int _ => .int _
  | .str _, _, .str _ => .str _
  | .tup _, _, .tup s r => .tup (le.G _ _ s) (Reps.mono le r)
  | .lst _, _, .lst s r => .lst (le.G _ _ s) (Reps.mono le r)
  | .cst _, _, .cst s r => .cst (sqL_mono le.G s) (Reps.mono le r)
  | .big _ _, _, .big h => .big (bigAt_mono le.G h)
  | .mach _, _, .mach h => .mach (le.ms _ _ h)
  | .src _, _, .src h => .src (le.ss _ _ h)
  | .opq _, _, .opq _ => .opq _
  | .dic _, _, .dic h => .dic (le.G _ _ h)
  | .ob _, _, .ob h => .ob (le.os _ _ h)
  | .fn _ _, _, .fn h => .fn (h.trans le)
  | .fnc _, _, .fnc _ => .fnc _
theorem Reps.mono (le : g.le g') : ∀ {ds : List Dat} {vs : List V}, Reps K c g vs ds → Reps K c g' vs ds
  | [], _, .nil => .nil
  | _ :: _, _, .cons h t => .cons (Rep.mono le h) (Reps.mono le t)
end
theorem Reps.length : ∀ {vs : List V} {ds : List Dat}, Reps K c g vs ds → vs.length = ds.length
  | _, _, .nil => rfl
  | _, _, .cons _ t => congrArg (· + 1) t.length
theorem Reps.get : ∀ {vs : List V} {ds : List Dat} {i : Nat} {d : Dat}, Reps K c g vs ds → ds[i]? = some d → ∃ v, vs[i]? = some v ∧ Rep K c g v d
  | _, _, 0, _, .cons h _, e => ⟨_, rfl, by cases e; exact h⟩
  | _, _, i + 1, _, .cons _ t, e => t.get (i := i) e
theorem Reps.app : ∀ {vs : List V} {ds : List Dat} {vs' : List V} {ds' : List Dat}, Reps K c g vs ds → Reps K c g vs' ds' → Reps K c g (vs ++ vs') (ds ++ ds')
  | _, _, _, _, .nil, h => h
  | _, _, _, _, .cons a t, h => .cons a (t.app h)
theorem Reps.set {v : V} {d : Dat} (h : Rep K c g v d) : ∀ {vs : List V} {ds : List Dat} (i : Nat), Reps K c g vs ds → Reps K c g (vs.set i v) (ds.set i d)
  | _, _, _, .nil => .nil
  | _, _, 0, .cons _ t => .cons h t
  | _, _, i + 1, .cons a t => .cons a (t.set h i)
theorem Reps.drop : ∀ {vs : List V} {ds : List Dat} (i : Nat), Reps K c g vs ds → Reps K c g (vs.drop i) (ds.drop i)
  | _, _, 0, h => h
  | _, _, _ + 1, .nil => .nil
  | _, _, i + 1, .cons _ t => t.drop i
theorem Reps.take : ∀ {vs : List V} {ds : List Dat} (i : Nat), Reps K c g vs ds → Reps K c g (vs.take i) (ds.take i)
  | _, _, 0, _ => .nil
  | _, _, _ + 1, .nil => .nil
  | _, _, i + 1, .cons h t => .cons h (t.take i)
theorem Reps.rep {vs : List V} {ds : List Dat} (h : Reps K c g vs ds) : ∀ (n : Nat), Reps K c g (List.replicate n vs).flatten (List.replicate n ds).flatten
  | 0 => .nil
  | n + 1 => by
    rw [List.replicate_succ, List.replicate_succ, List.flatten_cons, List.flatten_cons]
    exact h.app (h.rep n)
theorem Rep.intI {v : V} {n : Int} (h : Rep K c g v (.int n)) : v = .int n := by cases h; rfl
theorem Rep.blI {v : V} {b : Bool} (h : Rep K c g v (.bl b)) : v = .bl b := by cases h; rfl
theorem Rep.strI {v : V} {b : Str} (h : Rep K c g v (.str b)) : v = .str b := by cases h; rfl
theorem Rep.nonI {v : V} (h : Rep K c g v .non) : v = .non := by cases h; rfl
theorem Reps.ints : ∀ {ns : List Int} {vs : List V}, Reps K c g vs (ns.map Dat.int) → vs = ns.map V.int
  | [], _, .nil => rfl
  | _ :: _, _, .cons h t => by rw [h.intI, t.ints]; rfl
theorem Reps.ofInts : ∀ (ns : List Int), Reps K c g (ns.map V.int) (ns.map Dat.int)
  | [] => .nil
  | n :: ns => .cons (.int n) (Reps.ofInts ns)
end
/-- what a walk's entry is -/
def dW (x : Str × Int × Int) : Dat := .tup [.str x.1, .int x.2.1, .int x.2.2]
structure MRep (K : PySem.W.Frag) (c : Pc) (g : Gh) (H : Hp) (q : Addr × Addr × Addr) (m : Mach) : Prop where
  ins : ∃ dx, g.G q.1 = some (.ins c.CMachine dx (mF m.b m.cut q.2.1 q.2.2))
  cnt : H q.2.1 = some (.dK (cK m.ns))
  ten : m.ns.length = 10
  wlk : ∃ vs, H q.2.2 = some (.lst vs) ∧ Reps K c g vs (m.walk.map dW)
  few : m.walk.length ≤ 1000
/-- how an object stands -/
def ORep (K : PySem.W.Frag) (c : Pc) (g : Gh) (H : Hp) (a : Addr) : Obj → Prop
  | .lst l => ∃ vs, H a = some (.lst vs) ∧ Reps K c g vs l
  | .dic l => H a = some (.dK (dKs l))
theorem ORep.mono {K : PySem.W.Frag} {c : Pc} {g g' : Gh} {H H' : Hp} {a : Addr} {o : Obj} (h : ORep K c g H a o) (le : g.le g') (e : H' a = H a) : ORep K c g' H' a o := by
  cases o with
  | lst l => obtain ⟨vs, h1, h2⟩ := h; exact ⟨vs, e.trans h1, h2.mono le⟩
  | dic l => exact e.trans h
/-- no code object -/
def NoC (o : HO) : Prop := ∀ c q, o ≠ LamX.CodeO c q
theorem noC_lst {vs : List V} : NoC (.lst vs) := fun _ _ z => by unfold LamX.CodeO at z; cases z
theorem noC_dK {vs : List (Key × V)} : NoC (.dK vs) := fun _ _ z => by unfold LamX.CodeO at z; cases z
/-- code objects stay -/
def CKeep (H H' : Hp) : Prop := ∀ a c q, H a = some (LamX.CodeO c q) → H' a = some (LamX.CodeO c q)
theorem CKeep.refl (H : Hp) : CKeep H H := fun _ _ _ h => h
theorem CKeep.updN {H : Hp} {p : Addr} {o : HO} (h : H p = none) : CKeep H (upd H p o) := fun a c q e => by rw [upd_ne (ne_of_none e h)]; exact e
theorem CKeep.upd {H : Hp} {p : Addr} {o u : HO} (h : H p = some u) (hu : NoC u) : CKeep H (upd H p o) := fun a c q e => by
  rw [upd_ne (fun z => by rw [z, h] at e; exact hu c q (Option.some.inj e))]; exact e
/-- a table of code: its code objects never change -/
def TabG (g : Gh) (H : Hp) (p : Addr × Str) : Prop := ∃ ps : Array Value, H p.1 = some (.tbl ps) ∧ TriplesOk ps.toList ∧ ∀ (pos : Pos) (cv : Value), codeAmong pos ps.toList = some cv → ∃ c, cv = .ref c ∧ g.G c = some (LamX.CodeO c p.2)
theorem tabs_mono {T : List (Addr × Str)} {g g' : Gh} {H H' : Hp} (h : ∀ p ∈ T, TabG g H p) (le : ∀ a o, g.G a = some o → g'.G a = some o) (e : ∀ p ∈ T, H' p.1 = H p.1) : ∀ p ∈ T, TabG g' H' p := fun p hp => by
  obtain ⟨ps, h1, h2, h3⟩ := h p hp
  refine ⟨ps, (e p hp).trans h1, h2, fun pos cv hc => ?_⟩
  obtain ⟨c, e1, e2⟩ := h3 pos cv hc
  exact ⟨c, e1, le _ _ e2⟩
/-- the world in the heap -/
structure Wr (K : PySem.W.Frag) (c : Pc) (g : Gh) (H : Hp) (w : Wld) : Prop where
  sub : ∀ a o, g.G a = some o → H a = some o
  nd : g.mu.Nodup
  off : ∀ a ∈ g.mu, g.G a = none
  mlen : g.ms.length = w.ms.length
  mach : ∀ (i : Nat) q m, g.ms[i]? = some q → w.ms[i]? = some m → MRep K c g H q m
  srcs : ∀ a ∈ g.ss, ∃ o, H a = some o ∧ SrcO o
  nss : g.ss.length = w.ss
  olen : g.os.length = w.os.length
  objs : ∀ (i : Nat) a o, g.os[i]? = some a → w.os[i]? = some o → ORep K c g H a o
  tabs : ∀ p ∈ g.ts, TabG g H p
  hts : g.ts = c.ts
/-- what a call leaves -/
structure Aft (g : Gh) (H : Hp) (g' : Gh) (H' : Hp) : Prop where
  le : g.le g'
  keep : ∀ a o, H a = some o → a ∉ g.mu → H' a = some o
  frz : ∀ a o, H a = some o → g'.G a = g.G a
  new : ∀ a ∈ g'.mu, a ∈ g.mu ∨ H a = none
  dom : ∀ a o, H a = some o → ∃ o', H' a = some o'
theorem Aft.refl (g : Gh) (H : Hp) : Aft g H g H := ⟨Gh.le.refl g, fun _ _ h _ => h, fun _ _ _ => rfl, fun _ h => .inl h, fun _ o h => ⟨o, h⟩⟩
theorem Aft.trans {g g' g'' : Gh} {H H' H'' : Hp} (h : Aft g H g' H') (k : Aft g' H' g'' H'') : Aft g H g'' H'' where
  le := h.le.trans k.le
  keep := fun a o e n => k.keep a o (h.keep a o e n) fun z => by
    rcases h.new a z with z | z
    · exact n z
    · rw [z] at e; cases e
  frz := fun a o e => by
    obtain ⟨o', e'⟩ := h.dom a o e
    rw [k.frz a o' e', h.frz a o e]
  new := fun a z => by
    rcases k.new a z with z | z
    · exact h.new a z
    · refine .inr ?_
      cases e : H a with
      | none => rfl
      | some o => obtain ⟨o', e'⟩ := h.dom a o e; rw [e'] at z; cases z
  dom := fun a o e => by
    obtain ⟨o', e'⟩ := h.dom a o e
    exact k.dom a o' e'
/-- a promise over the heap keeps one over data -/
def SndP (K : PySem.W.Frag) (c : Pc) (sp : Sp) (P : PSp) : Prop := ∀ (g : Gh) (H : Hp) (w : Wld) (vs : List V) (ds : List Dat) (k : Dat → Wld → Prop) (Q : VK) (E : XK), Wr K c g H w → Reps K c g vs ds → P ds w k →
  (∀ v d g' H' w', Aft g H g' H' → Wr K c g' H' w' → Rep K c g' v d → k d w' → Q v H') → sp vs H Q E
/-- a promise over data, as one over the heap -/
def lif (K : PySem.W.Frag) (c : Pc) (P : PSp) : Sp := fun vs H Q _ => ∃ (g : Gh) (w : Wld) (ds : List Dat) (k : Dat → Wld → Prop), Wr K c g H w ∧ Reps K c g vs ds ∧ P ds w k ∧ ∀ v d g' H' w', Aft g H g' H' → Wr K c g' H' w' → Rep K c g' v d → k d w' → Q v H'
theorem SndP.lif {K : PySem.W.Frag} {c : Pc} {P : PSp} : SndP K c (lif K c P) P := fun g _ w _ ds k _ _ h1 h2 h3 h4 => ⟨g, w, ds, k, h1, h2, h3, h4⟩
/-- the entry: heap, what was known, the lists of the caller's that may be changed -/
structure En where
  H : Hp
  g : Gh
  M : List Addr
structure Cf where
  g : Gh
  H : Hp
  e : Env
  w : Wld
  os : List (Nat × Addr)
def Cf.mu (s : Cf) (F : List (Addr × HO)) : List Addr := s.g.mu ++ (s.os.map (·.2) ++ F.map (·.1))
/-- a name's list: new, or one of the caller's -/
def OwnF (X : En) (f : Bool) (a : Addr) : Prop := (f = true → X.H a = none) ∧ (f = false → a ∈ X.M)
def RSl (K : PySem.W.Frag) (c : Pc) (X : En) (s : Cf) (i : Nat) (o : Option (Option V)) : Slot → Prop
  | .no => True
  | .val d => ∃ v, o = some (some v) ∧ Rep K c s.g v d
  | .own f ds => ∃ a vs, o = some (some (.ref a)) ∧ (i, a) ∈ s.os ∧ s.H a = some (.lst vs) ∧ Reps K c s.g vs ds ∧ OwnF X f a
  | .ownT l r => ∃ p a us vs, o = some (some (.ref p)) ∧ (i, a) ∈ s.os ∧ s.g.G p = some (.tup (.ref a :: us)) ∧ Reps K c s.g us r ∧ s.H a = some (.lst vs) ∧ Reps K c s.g vs l ∧ X.H a = none
structure In (K : PySem.W.Frag) (c : Pc) (X : En) (F : List (Addr × HO)) (σ : L2.St) (s : Cf) : Prop where
  wr : Wr K c s.g s.H s.w
  nd : (s.mu F).Nodup
  off : ∀ a ∈ s.mu F, s.g.G a = none
  len : s.e.length = σ.length
  env : ∀ (i : Nat) z, s.e[i]? = some z → RSl K c X s i σ[i]? z
  held : ∀ q ∈ F, s.H q.1 = some q.2
  oal : ∀ q ∈ s.os, ∃ vs, s.H q.2 = some (.lst vs)
  le : X.g.le s.g
  keep : ∀ a o, X.H a = some o → a ∉ X.g.mu → a ∉ X.M → s.H a = some o
  frz : ∀ a o, X.H a = some o → s.g.G a = X.g.G a
  new : ∀ a ∈ s.mu F, a ∈ X.g.mu ∨ a ∈ X.M ∨ X.H a = none
  dom : ∀ a o, X.H a = some o → ∃ o', s.H a = some o'
section
variable {K : PySem.W.Frag} {c : Pc} {X : En} {F : List (Addr × HO)} {σ : L2.St} {s : Cf}
theorem In.fresh (I : In K c X F σ s) {p : Addr} (h : s.H p = none) : X.H p = none := by
  cases e : X.H p with
  | none => rfl
  | some o => obtain ⟨o', e'⟩ := I.dom p o e; rw [e'] at h; cases h
theorem In.offG (I : In K c X F σ s) {p : Addr} (h : s.H p = none) : s.g.G p = none := by
  cases e : s.g.G p with
  | none => rfl
  | some o => rw [I.wr.sub p o e] at h; cases h
/-- all that is meant to change stands -/
theorem Wr.muAt {g : Gh} {H : Hp} {w : Wld} (W : Wr K c g H w) {a : Addr} (h : a ∈ g.mu) : ∃ o, H a = some o := by
  rcases List.mem_append.mp h with h | h
  · obtain ⟨q, hq, rfl⟩ := List.mem_map.mp h
    obtain ⟨i, hi⟩ := List.mem_iff_getElem?.mp hq
    have hl : i < w.ms.length := by rw [← W.mlen]; exact (List.getElem?_eq_some_iff.mp hi).1
    exact ⟨_, (W.mach i q _ hi (List.getElem?_eq_getElem hl)).cnt⟩
  · rcases List.mem_append.mp h with h | h
    · obtain ⟨q, hq, rfl⟩ := List.mem_map.mp h
      obtain ⟨i, hi⟩ := List.mem_iff_getElem?.mp hq
      have hl : i < w.ms.length := by rw [← W.mlen]; exact (List.getElem?_eq_some_iff.mp hi).1
      obtain ⟨vs, h1, _⟩ := (W.mach i q _ hi (List.getElem?_eq_getElem hl)).wlk
      exact ⟨_, h1⟩
    · rcases List.mem_append.mp h with h | h
      · obtain ⟨o, h1, _⟩ := W.srcs a h
        exact ⟨o, h1⟩
      · rcases List.mem_append.mp h with h | h
        · obtain ⟨i, hi⟩ := List.mem_iff_getElem?.mp h
          have hl : i < w.os.length := by rw [← W.olen]; exact (List.getElem?_eq_some_iff.mp hi).1
          have ho := W.objs i a _ hi (List.getElem?_eq_getElem hl)
          cases e : w.os[i] with
          | lst l => rw [e] at ho; obtain ⟨vs, h1, _⟩ := ho; exact ⟨_, h1⟩
          | dic l => rw [e] at ho; exact ⟨_, ho⟩
        · obtain ⟨p, hp, rfl⟩ := List.mem_map.mp h
          obtain ⟨ps, h1, _⟩ := W.tabs p hp
          exact ⟨_, h1⟩
end
end Pu
namespace Pu
open PySem L2 Eng
section
variable {K : PySem.W.Frag} {c : Pc} {X : En} {F : List (Addr × HO)} {σ : L2.St} {s : Cf} {p : Addr} {o : HO} {vs : List V}
theorem In.al (I : In K c X F σ s) {a : Addr} (h : a ∈ s.mu F) : ∃ o, s.H a = some o := by
  rcases List.mem_append.mp h with h | h
  · exact I.wr.muAt h
  · rcases List.mem_append.mp h with h | h
    · obtain ⟨q, hq, rfl⟩ := List.mem_map.mp h
      obtain ⟨vs, e⟩ := I.oal q hq
      exact ⟨_, e⟩
    · obtain ⟨q, hq, rfl⟩ := List.mem_map.mp h
      exact ⟨_, I.held q hq⟩
theorem In.notMu (I : In K c X F σ s) (h : s.H p = none) : p ∉ s.mu F := fun z => by
  obtain ⟨o, e⟩ := I.al z
  rw [h] at e; cases e
theorem MRep.mono {g g' : Gh} {H H' : Hp} {q : Addr × Addr × Addr} {m : Mach} (h : MRep K c g H q m) (le : g.le g') (h1 : H' q.2.1 = H q.2.1) (h2 : H' q.2.2 = H q.2.2) : MRep K c g' H' q m := by
  obtain ⟨dx, a⟩ := h.ins
  obtain ⟨vs, b1, b2⟩ := h.wlk
  exact ⟨⟨dx, le.G _ _ a⟩, by rw [h1]; exact h.cnt, h.ten, ⟨vs, by rw [h2]; exact b1, b2.mono le⟩, h.few⟩
theorem mem_mu1 {g : Gh} {i : Nat} {q : Addr × Addr × Addr} (h : g.ms[i]? = some q) : q.2.1 ∈ g.mu := List.mem_append_left _ (List.mem_map.mpr ⟨q, List.mem_of_getElem? h, rfl⟩)
theorem mem_mu2 {g : Gh} {i : Nat} {q : Addr × Addr × Addr} (h : g.ms[i]? = some q) : q.2.2 ∈ g.mu := List.mem_append_right _ (List.mem_append_left _ (List.mem_map.mpr ⟨q, List.mem_of_getElem? h, rfl⟩))
theorem mem_mu3 {g : Gh} {a : Addr} (h : a ∈ g.ss) : a ∈ g.mu := List.mem_append_right _ (List.mem_append_right _ (List.mem_append_left _ h))
theorem mem_mu4 {g : Gh} {a : Addr} (h : a ∈ g.os) : a ∈ g.mu := List.mem_append_right _ (List.mem_append_right _ (List.mem_append_right _ (List.mem_append_left _ h)))
theorem mem_mu5 {g : Gh} {p : Addr × Str} (h : p ∈ g.ts) : p.1 ∈ g.mu := List.mem_append_right _ (List.mem_append_right _ (List.mem_append_right _ (List.mem_append_right _ (List.mem_map.mpr ⟨p, h, rfl⟩))))
/-- the world stays while its own places do -/
theorem Wr.mono {g g' : Gh} {H H' : Hp} {w : Wld} (W : Wr K c g H w) (le : g.le g') (hm : g'.ms = g.ms) (hs : g'.ss = g.ss) (hos : g'.os = g.os) (ck : CKeep H H') (sub : ∀ a o, g'.G a = some o → H' a = some o) (off : ∀ a ∈ g.mu, g'.G a = none) (h : ∀ a ∈ g.mu, H' a = H a) : Wr K c g' H' w := by
  have e : g'.mu = g.mu := by unfold Gh.mu Gh.ot; rw [hm, hs, hos, le.ts]
  refine ⟨sub, by rw [e]; exact W.nd, by rw [e]; exact off, by rw [hm]; exact W.mlen, fun i q m h1 h2 => ?_, fun a ha => ?_, by rw [hs]; exact W.nss, by rw [hos]; exact W.olen, fun i a o h1 h2 => (W.objs i a o (by rw [hos] at h1; exact h1) h2).mono le (h a (mem_mu4 (List.mem_of_getElem? (by rw [hos] at h1; exact h1)))), by rw [le.ts]; exact tabs_mono W.tabs le.G fun p hp => h p.1 (mem_mu5 hp), le.ts.trans W.hts⟩
  · rw [hm] at h1
    exact (W.mach i q m h1 h2).mono le (h _ (mem_mu1 h1)) (h _ (mem_mu2 h1))
  · rw [hs] at ha
    obtain ⟨o, h1, h2⟩ := W.srcs a ha
    exact ⟨o, by rw [h a (mem_mu3 ha)]; exact h1, h2⟩
theorem RSl.mono {s s' : Cf} {i : Nat} {o : Option (Option V)} {z : Slot} (h : RSl K c X s i o z) (le : s.g.le s'.g) (ho : ∀ q ∈ s.os, q ∈ s'.os) (hH : ∀ q ∈ s.os, s'.H q.2 = s.H q.2) : RSl K c X s' i o z := by
  cases z with
  | no => trivial
  | val d => obtain ⟨v, h1, h2⟩ := h; exact ⟨v, h1, h2.mono le⟩
  | own f ds => obtain ⟨a, vs, h1, h2, h3, h4, h5⟩ := h; exact ⟨a, vs, h1, ho _ h2, by rw [hH _ h2]; exact h3, h4.mono le, h5⟩
  | ownT l r => obtain ⟨p, a, us, vs, h1, h2, h3, h4, h5, h6, h7⟩ := h; exact ⟨p, a, us, vs, h1, ho _ h2, le.G _ _ h3, h4.mono le, by rw [hH _ h2]; exact h5, h6.mono le, h7⟩
def gUpd (g : Gh) (p : Addr) (o : HO) : Gh := ⟨upd g.G p o, g.ms, g.ss, g.os, g.ts⟩
theorem gUpd_le {g : Gh} (h : g.G p = none) : g.le (gUpd g p o) := ⟨fun a u e => by
  show upd g.G p o a = some u
  rw [upd_ne (ne_of_none e h)]; exact e, fun _ _ h => h, fun _ _ h => h, fun _ _ h => h, rfl⟩
/-- a new thing that never changes -/
theorem In.newG (I : In K c X F σ s) (h : s.H p = none) : In K c X F σ ⟨gUpd s.g p o, upd s.H p o, s.e, s.w, s.os⟩ := by
  have hg := I.offG h
  have hn := I.notMu h
  have ne : ∀ a ∈ s.mu F, a ≠ p := fun a ha e => hn (e ▸ ha)
  have hle := gUpd_le (o := o) hg
  have hsub : ∀ a ∈ s.g.mu, a ∈ s.mu F := fun a ha => List.mem_append_left _ ha
  refine ⟨I.wr.mono hle rfl rfl rfl (CKeep.updN h) (fun a u e => ?_) (fun a ha => ?_) (fun a ha => upd_ne (ne a (hsub a ha))), I.nd, fun a ha => ?_, I.len, fun i z hz => ?_, fun q hq => ?_, fun q hq => ?_, I.le.trans hle, fun a u e n1 n2 => ?_, fun a u e => ?_, I.new, fun a u e => ?_⟩
  · show upd s.H p o a = some u
    have e : upd s.g.G p o a = some u := e
    by_cases ha : a = p
    · subst ha; rw [upd_same] at e ⊢; exact e
    · rw [upd_ne ha] at e ⊢; exact I.wr.sub a u e
  · show upd s.g.G p o a = none
    rw [upd_ne (ne a (hsub a ha))]; exact I.off a (hsub a ha)
  · show upd s.g.G p o a = none
    rw [upd_ne (ne a ha)]; exact I.off a ha
  · refine (I.env i z hz).mono hle (fun q hq => hq) fun q hq => upd_ne (ne _ ?_)
    exact List.mem_append_right _ (List.mem_append_left _ (List.mem_map.mpr ⟨q, hq, rfl⟩))
  · show upd s.H p o q.1 = some q.2
    rw [upd_ne (ne_of_none (I.held q hq) h)]; exact I.held q hq
  · obtain ⟨u, e⟩ := I.oal q hq
    exact ⟨u, by show upd s.H p o q.2 = _; rw [upd_ne (ne_of_none e h)]; exact e⟩
  · have e' := I.keep a u e n1 n2
    show upd s.H p o a = some u
    rw [upd_ne (ne_of_none e' h)]; exact e'
  · have hx : X.H p = none := I.fresh h
    show upd s.g.G p o a = _
    rw [upd_ne (ne_of_none e hx)]; exact I.frz a u e
  · obtain ⟨u', e'⟩ := I.dom a u e
    exact ⟨u', by show upd s.H p o a = _; rw [upd_ne (ne_of_none e' h)]; exact e'⟩
/-- a new thing that is held -/
theorem In.newF (I : In K c X F σ s) (h : s.H p = none) : In K c X ((p, o) :: F) σ ⟨s.g, upd s.H p o, s.e, s.w, s.os⟩ := by
  have hg := I.offG h
  have hn := I.notMu h
  have ne : ∀ a ∈ s.mu F, a ≠ p := fun a ha e => hn (e ▸ ha)
  have hsub : ∀ a ∈ s.g.mu, a ∈ s.mu F := fun a ha => List.mem_append_left _ ha
  have hmu : (⟨s.g, upd s.H p o, s.e, s.w, s.os⟩ : Cf).mu ((p, o) :: F) = s.g.mu ++ (s.os.map (·.2) ++ (p :: F.map (·.1))) := rfl
  have hp : (s.g.mu ++ (s.os.map (·.2) ++ (p :: F.map (·.1)))).Perm (p :: s.mu F) := by
    unfold Cf.mu
    rw [← List.append_assoc, ← List.append_assoc]
    exact List.perm_middle
  have hmem : ∀ a, a ∈ (⟨s.g, upd s.H p o, s.e, s.w, s.os⟩ : Cf).mu ((p, o) :: F) → a = p ∨ a ∈ s.mu F := fun a ha => by
    rw [hmu] at ha
    exact List.mem_cons.mp (hp.mem_iff.mp ha)
  refine ⟨I.wr.mono (Gh.le.refl _) rfl rfl rfl (CKeep.updN h) (fun a u e => ?_) (fun a ha => I.wr.off a ha) (fun a ha => upd_ne (ne a (hsub a ha))), ?_, fun a ha => ?_, I.len, fun i z hz => ?_, fun q hq => ?_, fun q hq => ?_, I.le, fun a u e n1 n2 => ?_, I.frz, fun a ha => ?_, fun a u e => ?_⟩
  · have e' := I.wr.sub a u e
    show upd s.H p o a = some u
    rw [upd_ne (ne_of_none e' h)]; exact e'
  · rw [hmu]
    exact hp.nodup_iff.mpr (List.nodup_cons.mpr ⟨hn, I.nd⟩)
  · rcases hmem a ha with rfl | ha
    · exact hg
    · exact I.off a ha
  · refine (I.env i z hz).mono (Gh.le.refl _) (fun q hq => hq) fun q hq => upd_ne (ne _ ?_)
    exact List.mem_append_right _ (List.mem_append_left _ (List.mem_map.mpr ⟨q, hq, rfl⟩))
  · show upd s.H p o q.1 = some q.2
    rcases List.mem_cons.mp hq with rfl | hq
    · exact upd_same
    · rw [upd_ne (ne_of_none (I.held q hq) h)]; exact I.held q hq
  · obtain ⟨u, e⟩ := I.oal q hq
    exact ⟨u, by show upd s.H p o q.2 = _; rw [upd_ne (ne_of_none e h)]; exact e⟩
  · have e' := I.keep a u e n1 n2
    show upd s.H p o a = some u
    rw [upd_ne (ne_of_none e' h)]; exact e'
  · rcases hmem a ha with rfl | ha
    · exact .inr (.inr (I.fresh h))
    · exact I.new a ha
  · obtain ⟨u', e'⟩ := I.dom a u e
    exact ⟨u', by show upd s.H p o a = _; rw [upd_ne (ne_of_none e' h)]; exact e'⟩
theorem mu_cons (s : Cf) (q : Addr × HO) (F : List (Addr × HO)) : (s.mu (q :: F)).Perm (q.1 :: s.mu F) := by
  unfold Cf.mu
  rw [← List.append_assoc, ← List.append_assoc]
  exact List.perm_middle
/-- what is held becomes one that never changes -/
theorem In.frzF (I : In K c X ((p, o) :: F) σ s) (hx : X.H p = none) : In K c X F σ ⟨gUpd s.g p o, s.H, s.e, s.w, s.os⟩ := by
  have hp := mu_cons s (p, o) F
  have hm : ∀ a, a ∈ s.mu F → a ∈ s.mu ((p, o) :: F) := fun a ha => hp.mem_iff.mpr (List.mem_cons_of_mem _ ha)
  have hpm : p ∈ s.mu ((p, o) :: F) := hp.mem_iff.mpr List.mem_cons_self
  have hnd := List.nodup_cons.mp (hp.nodup_iff.mp I.nd)
  have ne : ∀ a ∈ s.mu F, a ≠ p := fun a ha e => hnd.1 (e ▸ ha)
  have hg : s.g.G p = none := I.off p hpm
  have hle := gUpd_le (o := o) hg
  have hsub : ∀ a ∈ s.g.mu, a ∈ s.mu F := fun a ha => List.mem_append_left _ ha
  refine ⟨I.wr.mono hle rfl rfl rfl (CKeep.refl _) (fun a u e => ?_) (fun a ha => ?_) (fun _ _ => rfl), hnd.2, fun a ha => ?_, I.len, fun i z hz => ?_, fun q hq => I.held q (List.mem_cons_of_mem _ hq), I.oal, I.le.trans hle, I.keep, fun a u e => ?_, fun a ha => I.new a (hm a ha), I.dom⟩
  · have e : upd s.g.G p o a = some u := e
    by_cases ha : a = p
    · subst ha; rw [upd_same] at e; rw [← e]; exact I.held _ List.mem_cons_self
    · rw [upd_ne ha] at e; exact I.wr.sub a u e
  · show upd s.g.G p o a = none
    rw [upd_ne (ne a (hsub a ha))]; exact I.wr.off a ha
  · show upd s.g.G p o a = none
    rw [upd_ne (ne a ha)]; exact I.off a (hm a ha)
  · exact (I.env i z hz).mono hle (fun q hq => hq) fun _ _ => rfl
  · show upd s.g.G p o a = _
    rw [upd_ne (ne_of_none e hx)]; exact I.frz a u e
theorem set_get {α : Type} {l : List α} {i j : Nat} {x y : α} (h : (l.set i x)[j]? = some y) : (j = i ∧ y = x) ∨ (j ≠ i ∧ l[j]? = some y) := by
  by_cases e : j = i
  · subst e
    have : j < l.length := by
      have := (List.getElem?_eq_some_iff.mp h).1
      rwa [List.length_set] at this
    rw [List.getElem?_set_self this] at h
    exact .inl ⟨rfl, (Option.some.inj h).symm⟩
  · rw [List.getElem?_set_ne (Ne.symm e)] at h
    exact .inr ⟨e, h⟩
theorem set_len {l : L2.St} {e : Env} {i : Nat} {x : Slot} {y : Slot} (hl : e.length = l.length) (h : (e.set i x)[i]? = some y) (v : Option V) : (l.set i v)[i]? = some v := by
  have : i < l.length := by
    have := (List.getElem?_eq_some_iff.mp h).1
    rw [List.length_set] at this; omega
  rw [List.getElem?_set_self this]
/-- a name gets a value -/
theorem In.setV (I : In K c X F σ s) {i : Nat} {v : V} {d : Dat} (h : Rep K c s.g v d) : In K c X F (σ.set i (some v)) ⟨s.g, s.H, s.e.set i (.val d), s.w, s.os⟩ :=
  ⟨I.wr, I.nd, I.off, by simp only [List.length_set]; exact I.len, fun j z hz => by
    rcases set_get hz with ⟨rfl, rfl⟩ | ⟨ne, hz'⟩
    · exact ⟨v, set_len I.len hz _, h⟩
    · rw [List.getElem?_set_ne (Ne.symm ne)]
      exact I.env j z hz', I.held, I.oal, I.le, I.keep, I.frz, I.new, I.dom⟩
/-- a name is forgotten -/
theorem In.setN (I : In K c X F σ s) (i : Nat) : In K c X F σ ⟨s.g, s.H, s.e.set i .no, s.w, s.os⟩ :=
  ⟨I.wr, I.nd, I.off, by show (s.e.set i _).length = _; rw [List.length_set]; exact I.len, fun j z hz => by
    rcases set_get hz with ⟨rfl, rfl⟩ | ⟨ne, hz'⟩
    · trivial
    · exact I.env j z hz', I.held, I.oal, I.le, I.keep, I.frz, I.new, I.dom⟩
/-- a name gets a list of its own -/
theorem In.setO (I : In K c X ((p, .lst vs) :: F) σ s) {i : Nat} {ds : List Dat} (h : Reps K c s.g vs ds) (hx : X.H p = none) : In K c X F (σ.set i (some (.ref p))) ⟨s.g, s.H, s.e.set i (.own true ds), s.w, (i, p) :: s.os⟩ := by
  have hp := mu_cons s (p, .lst vs) F
  have hmu : (⟨s.g, s.H, s.e.set i (.own true ds), s.w, (i, p) :: s.os⟩ : Cf).mu F = s.g.mu ++ (p :: (s.os.map (·.2) ++ F.map (·.1))) := rfl
  have hp2 : (s.g.mu ++ (p :: (s.os.map (·.2) ++ F.map (·.1)))).Perm (s.mu ((p, .lst vs) :: F)) := (List.perm_middle).trans hp.symm
  refine ⟨I.wr, by rw [hmu]; exact hp2.nodup_iff.mpr I.nd, fun a ha => I.off a (hp2.mem_iff.mp ha), by simp only [List.length_set]; exact I.len, fun j z hz => ?_, fun q hq => I.held q (List.mem_cons_of_mem _ hq), fun q hq => ?_, I.le, I.keep, I.frz, fun a ha => I.new a (hp2.mem_iff.mp ha), I.dom⟩
  · rcases set_get hz with ⟨rfl, rfl⟩ | ⟨ne, hz'⟩
    · exact ⟨p, vs, set_len I.len hz _, List.mem_cons_self, I.held _ List.mem_cons_self, h, fun _ => hx, fun z => nomatch z⟩
    · rw [List.getElem?_set_ne (Ne.symm ne)]
      exact (I.env j z hz').mono (Gh.le.refl _) (fun q hq => List.mem_cons_of_mem _ hq) fun _ _ => rfl
  · rcases List.mem_cons.mp hq with rfl | hq
    · exact ⟨_, I.held _ List.mem_cons_self⟩
    · exact I.oal q hq
theorem os_inj {os : List (Nat × Addr)} (h : (os.map (·.2)).Nodup) {i j : Nat} {a : Addr} (h1 : (i, a) ∈ os) (h2 : (j, a) ∈ os) : i = j := by
  induction os with
  | nil => cases h1
  | cons q os ih =>
    have hn := List.nodup_cons.mp (show (q.2 :: os.map (·.2)).Nodup from h)
    rcases List.mem_cons.mp h1 with rfl | h1
    · rcases List.mem_cons.mp h2 with e | h2
      · exact (congrArg Prod.fst e).symm
      · exact absurd (List.mem_map.mpr ⟨_, h2, rfl⟩) hn.1
    · rcases List.mem_cons.mp h2 with e | h2'
      · refine absurd ?_ hn.1
        rw [← e]
        exact List.mem_map.mpr ⟨(i, a), h1, rfl⟩
      · exact ih hn.2 h1 h2'
theorem In.osNd (I : In K c X F σ s) : (s.os.map (·.2)).Nodup := (List.nodup_append.mp (List.nodup_append.mp I.nd).2.1).1
theorem In.osMu (I : In K c X F σ s) {q : Nat × Addr} (h : q ∈ s.os) : q.2 ∈ s.mu F := List.mem_append_right _ (List.mem_append_left _ (List.mem_map.mpr ⟨q, h, rfl⟩))
theorem In.osG (I : In K c X F σ s) {q : Nat × Addr} (h : q ∈ s.os) : q.2 ∉ s.g.mu := fun z =>
  (List.nodup_append.mp I.nd).2.2 _ z _ (List.mem_append_left _ (List.mem_map.mpr ⟨q, h, rfl⟩)) rfl
/-- a name's own list is changed -/
theorem In.ownPut (I : In K c X F σ s) {i : Nat} {f : Bool} {a : Addr} {vs : List V} {ds : List Dat} (hs : σ[i]? = some (some (.ref a))) (ha : (i, a) ∈ s.os) (h : Reps K c s.g vs ds) (hf : OwnF X f a) : In K c X F σ ⟨s.g, upd s.H a (.lst vs), s.e.set i (.own f ds), s.w, s.os⟩ := by
  have hm := I.osMu ha
  have hg : s.g.G a = none := I.off a hm
  have ng := I.osG ha
  have nF : ∀ q ∈ F, q.1 ≠ a := fun q hq e =>
    (List.nodup_append.mp (List.nodup_append.mp I.nd).2.1).2.2 a (List.mem_map.mpr ⟨_, ha, rfl⟩) q.1 (List.mem_map.mpr ⟨q, hq, rfl⟩) e.symm
  refine ⟨I.wr.mono (Gh.le.refl _) rfl rfl rfl (by obtain ⟨vs0, e0⟩ := I.oal _ ha; exact CKeep.upd e0 noC_lst) (fun b u e => ?_) (fun b hb => I.wr.off b hb) (fun b hb => upd_ne (fun e => ng (e ▸ hb))), I.nd, I.off, by show (s.e.set i _).length = _; rw [List.length_set]; exact I.len, fun j z hz => ?_, fun q hq => ?_, fun q hq => ?_, I.le, fun b u e n1 n2 => ?_, I.frz, I.new, fun b u e => ?_⟩
  · have e' := I.wr.sub b u e
    show upd s.H a _ b = some u
    rw [upd_ne (fun z => by subst z; rw [hg] at e; cases e)]; exact e'
  · rcases set_get hz with ⟨rfl, rfl⟩ | ⟨ne, hz'⟩
    · exact ⟨a, vs, hs, ha, upd_same, h, hf⟩
    · have h' := I.env j z hz'
      cases z with
      | no => trivial
      | val d => exact h'
      | own f' dl =>
        obtain ⟨b, ws, h1, h2, h3, h4, h5⟩ := h'
        refine ⟨b, ws, h1, h2, ?_, h4, h5⟩
        show upd s.H a _ b = _
        rw [upd_ne (fun (e : b = a) => ne (os_inj I.osNd (by rw [← e]; exact h2) ha))]; exact h3
      | ownT dl dr =>
        obtain ⟨p, b, us, ws, h1, h2, h3, h4, h5, h6, h7⟩ := h'
        refine ⟨p, b, us, ws, h1, h2, h3, h4, ?_, h6, h7⟩
        show upd s.H a _ b = _
        rw [upd_ne (fun (e : b = a) => ne (os_inj I.osNd (by rw [← e]; exact h2) ha))]; exact h5
  · show upd s.H a _ q.1 = _
    rw [upd_ne (nF q hq)]; exact I.held q hq
  · by_cases e : q.2 = a
    · exact ⟨_, by show upd s.H a _ q.2 = _; rw [e]; exact upd_same⟩
    · obtain ⟨u, hu⟩ := I.oal q hq
      exact ⟨u, by show upd s.H a _ q.2 = _; rw [upd_ne e]; exact hu⟩
  · have e' := I.keep b u e n1 n2
    show upd s.H a _ b = some u
    rw [upd_ne (fun z => by
      subst z
      rcases I.new b hm with z | z | z
      · exact n1 z
      · exact n2 z
      · rw [z] at e; cases e)]
    exact e'
  · by_cases z : b = a
    · exact ⟨_, by show upd s.H a _ b = _; rw [z]; exact upd_same⟩
    · obtain ⟨u', e'⟩ := I.dom b u e
      exact ⟨u', by show upd s.H a _ b = _; rw [upd_ne z]; exact e'⟩
/-- what is held is changed -/
theorem In.heldPut {o' : HO} (I : In K c X ((p, o) :: F) σ s) (hx : X.H p = none) (hno : NoC o) : In K c X ((p, o') :: F) σ ⟨s.g, upd s.H p o', s.e, s.w, s.os⟩ := by
  have hpm := mu_cons s (p, o) F
  have hm : p ∈ s.mu ((p, o) :: F) := hpm.mem_iff.mpr List.mem_cons_self
  have hnd := List.nodup_cons.mp (hpm.nodup_iff.mp I.nd)
  have hg : s.g.G p = none := I.off p hm
  have ne : ∀ a ∈ s.mu F, a ≠ p := fun a ha e => hnd.1 (e ▸ ha)
  refine ⟨I.wr.mono (Gh.le.refl _) rfl rfl rfl (CKeep.upd (I.held _ List.mem_cons_self) hno) (fun b u e => ?_) (fun b hb => I.wr.off b hb) (fun b hb => upd_ne (ne b (List.mem_append_left _ hb))), I.nd, I.off, I.len, fun j z hz => (I.env j z hz).mono (Gh.le.refl _) (fun _ h => h) (fun q hq => upd_ne (ne _ (List.mem_append_right _ (List.mem_append_left _ (List.mem_map.mpr ⟨q, hq, rfl⟩))))), fun q hq => ?_, fun q hq => ?_, I.le, fun b u e n1 n2 => ?_, I.frz, I.new, fun b u e => ?_⟩
  · have e' := I.wr.sub b u e
    show upd s.H p _ b = some u
    rw [upd_ne (fun z => by subst z; rw [hg] at e; cases e)]; exact e'
  · show upd s.H p _ q.1 = _
    rcases List.mem_cons.mp hq with rfl | hq
    · exact upd_same
    · rw [upd_ne (ne _ (List.mem_append_right _ (List.mem_append_right _ (List.mem_map.mpr ⟨q, hq, rfl⟩))))]; exact I.held q (List.mem_cons_of_mem _ hq)
  · obtain ⟨u, hu⟩ := I.oal q hq
    exact ⟨u, by show upd s.H p _ q.2 = _; rw [upd_ne (ne _ (List.mem_append_right _ (List.mem_append_left _ (List.mem_map.mpr ⟨q, hq, rfl⟩))))]; exact hu⟩
  · have e' := I.keep b u e n1 n2
    show upd s.H p _ b = some u
    rw [upd_ne (ne_of_none e hx)]; exact e'
  · obtain ⟨u', e'⟩ := I.dom b u e
    exact ⟨u', by show upd s.H p _ b = _; rw [upd_ne (ne_of_none e hx)]; exact e'⟩
/-- behind a call -/
theorem In.call (I : In K c X F σ s) {g' : Gh} {H' : Hp} {w' : Wld} (A : Aft s.g s.H g' H') (W : Wr K c g' H' w') : In K c X F σ ⟨g', H', s.e, w', s.os⟩ := by
  have hk : ∀ a ∈ s.os.map (·.2) ++ F.map (·.1), ∀ o, s.H a = some o → H' a = some o := fun a ha o e => A.keep a o e fun z => (List.nodup_append.mp I.nd).2.2 a z a ha rfl
  have ho : ∀ q ∈ s.os, H' q.2 = s.H q.2 := fun q hq => by
    obtain ⟨o, e⟩ := I.oal q hq
    rw [e]; exact hk _ (List.mem_append_left _ (List.mem_map.mpr ⟨q, hq, rfl⟩)) _ e
  have hal : ∀ a ∈ s.os.map (·.2) ++ F.map (·.1), ∃ o, s.H a = some o := fun a ha => I.al (List.mem_append_right _ ha)
  refine ⟨W, ?_, fun a ha => ?_, I.len, fun i z hz => (I.env i z hz).mono A.le (fun q hq => hq) ho, fun q hq => ?_, fun q hq => ?_, I.le.trans A.le, fun a u e n1 n2 => ?_, fun a u e => ?_, fun a ha => ?_, fun a u e => ?_⟩
  · refine List.nodup_append.mpr ⟨W.nd, (List.nodup_append.mp I.nd).2.1, fun x hx y hy e => ?_⟩
    subst e
    rcases A.new x hx with z | z
    · exact (List.nodup_append.mp I.nd).2.2 x z x hy rfl
    · obtain ⟨o, e⟩ := hal x hy
      rw [z] at e; cases e
  · rcases List.mem_append.mp ha with ha | ha
    · exact W.off a ha
    · obtain ⟨o, e⟩ := hal a ha
      show g'.G a = none
      rw [A.frz a o e]
      exact I.off a (List.mem_append_right _ ha)
  · exact hk _ (List.mem_append_right _ (List.mem_map.mpr ⟨q, hq, rfl⟩)) _ (I.held q hq)
  · obtain ⟨o, e⟩ := I.oal q hq
    exact ⟨o, (ho q hq).trans e⟩
  · refine A.keep a u (I.keep a u e n1 n2) fun z => ?_
    rcases I.new a (List.mem_append_left _ z) with z | z | z
    · exact n1 z
    · exact n2 z
    · rw [z] at e; cases e
  · obtain ⟨u', e'⟩ := I.dom a u e
    show g'.G a = _
    rw [A.frz a u' e', I.frz a u e]
  · rcases List.mem_append.mp ha with ha | ha
    · rcases A.new a ha with z | z
      · exact I.new a (List.mem_append_left _ z)
      · exact .inr (.inr (I.fresh z))
    · exact I.new a (List.mem_append_right _ ha)
  · obtain ⟨u', e'⟩ := I.dom a u e
    exact A.dom a u' e'
end
end Pu
namespace Pu
open PySem L2 Eng
section
variable (K : PySem.W.Frag) (c : Pc)
def SndE (t : TE) (p : PE) : Prop := ∀ (X : En) (F : List (Addr × HO)) (σ : L2.St) (s : Cf) (k : PQ) (Q : VK), In K c X F σ s → p s.e s.w k → (∀ v d s', s.g.le s'.g → In K c X F σ s' → Rep K c s'.g v d → k d s'.e s'.w → Q v s'.H) → t σ s.H Q
def SndF (t : TE) (p : PF) : Prop := ∀ (X : En) (F : List (Addr × HO)) (σ : L2.St) (s : Cf) (k : List Dat → Env → Wld → Prop) (Q : VK), In K c X F σ s → p s.e s.w k → (∀ a vs ds s', s.g.le s'.g → X.H a = none → In K c X ((a, .lst vs) :: F) σ s' → Reps K c s'.g vs ds → k ds s'.e s'.w → Q (.ref a) s'.H) → t σ s.H Q
def SndT (t : TT) (p : PT) : Prop := ∀ (X : En) (F : List (Addr × HO)) (σ : L2.St) (s : Cf) (k : Bool → Env → Wld → Prop) (Q : Bool → Hp → Prop), In K c X F σ s → p s.e s.w k → (∀ b s', s.g.le s'.g → In K c X F σ s' → k b s'.e s'.w → Q b s'.H) → t σ s.H Q
def SndA (t : TA) (p : PA) : Prop := ∀ (X : En) (F : List (Addr × HO)) (σ : L2.St) (s : Cf) (k : List Dat → Env → Wld → Prop) (Q : List V → Hp → Prop), In K c X F σ s → p s.e s.w k → (∀ vs ds s', s.g.le s'.g → In K c X F σ s' → Reps K c s'.g vs ds → k ds s'.e s'.w → Q vs s'.H) → t σ s.H Q
def SndO (t : TO) (p : PO) : Prop := ∀ (X : En) (F : List (Addr × HO)) (σ : L2.St) (s : Cf) (k : Option Int → Env → Wld → Prop) (Q : Option Int → Hp → Prop), In K c X F σ s → p s.e s.w k → (∀ b s', s.g.le s'.g → In K c X F σ s' → k b s'.e s'.w → Q b s'.H) → t σ s.H Q
def SndG (t : TG) (p : PG) : Prop := ∀ (X : En) (F : List (Addr × HO)) (σ : L2.St) (s : Cf) (v : V) (d : Dat) (k : Env → Wld → Prop) (Q : L2.St → Hp → Prop), In K c X F σ s → Rep K c s.g v d → p d s.e s.w k → (∀ σ' s', s.g.le s'.g → In K c X F σ' s' → k s'.e s'.w → Q σ' s'.H) → t v σ s.H Q
structure SEnds (X : En) (F : List (Addr × HO)) (g : Gh) (D : Ends) (Dp : PEnds) : Prop where
  nx : ∀ σ s, g.le s.g → In K c X F σ s → Dp.nx s.e s.w → D.nx σ s.H
  rt : ∀ σ s v d, g.le s.g → In K c X F σ s → Rep K c s.g v d → Dp.rt d s.e s.w → D.rt v s.H
  bk : ∀ σ s, g.le s.g → In K c X F σ s → Dp.bk s.e s.w → D.bk σ s.H
  ct : ∀ σ s, g.le s.g → In K c X F σ s → Dp.ct s.e s.w → D.ct σ s.H
def SndS (t : TS) (p : PS) : Prop := ∀ (X : En) (F : List (Addr × HO)) (σ : L2.St) (s : Cf) (D : Ends) (Dp : PEnds), In K c X F σ s → p Dp s.e s.w → SEnds K c X F s.g D Dp → t D σ s.H
/-- an operand: data, or a list that a name holds -/
def RepW (s : Cf) (v : V) (d : Dat) : Prop := Rep K c s.g v d ∨ ∃ a vs ds, v = .ref a ∧ d = .lst ds ∧ s.H a = some (.lst vs) ∧ Reps K c s.g vs ds
def SndR2 (r : R2) (q : Q2) : Prop := ∀ (X : En) (F : List (Addr × HO)) (σ : L2.St) (s : Cf) (x y : V) (dx dy : Dat) (k : Dat → Prop) (Q : VK), In K c X F σ s → RepW K c s x dx → RepW K c s y dy → q dx dy k → (∀ v d s', s.g.le s'.g → In K c X F σ s' → s'.e = s.e → s'.w = s.w → Rep K c s'.g v d → k d → Q v s'.H) → r x y s.H Q
def SndR2F (r : R2) (q : Dat → Dat → (List Dat → Prop) → Prop) : Prop := ∀ (X : En) (F : List (Addr × HO)) (σ : L2.St) (s : Cf) (x y : V) (dx dy : Dat) (k : List Dat → Prop) (Q : VK), In K c X F σ s → RepW K c s x dx → RepW K c s y dy → q dx dy k → (∀ a vs ds s', s.g.le s'.g → X.H a = none → In K c X ((a, .lst vs) :: F) σ s' → s'.e = s.e → s'.w = s.w → Reps K c s'.g vs ds → k ds → Q (.ref a) s'.H) → r x y s.H Q
def SndRL (r : List V → Hp → VK → Prop) (q : QL) : Prop := ∀ (X : En) (F : List (Addr × HO)) (σ : L2.St) (s : Cf) (vs : List V) (ds : List Dat) (k : Dat → Prop) (Q : VK), In K c X F σ s → Paired (RepW K c s) vs ds → q ds k → (∀ v d s', s.g.le s'.g → In K c X F σ s' → s'.e = s.e → s'.w = s.w → Rep K c s'.g v d → k d → Q v s'.H) → r vs s.H Q
end
section
variable {K : PySem.W.Frag} {c : Pc} {X : En} {F : List (Addr × HO)} {σ : L2.St} {s : Cf} {ta tb tc te : TE} {pa pb pc' pe : PE} {tT tU : TT} {pT pU : PT} {tr : TA} {pr : PA} {ts tu : TS} {ps pu : PS} {r r' : R2} {q q' : Q2} {P : PSp} {sp : Sp} {E : XK} {i : Nat}
theorem RepW.int {v : V} {n : Int} (h : RepW K c s v (.int n)) : v = .int n := by
  rcases h with h | ⟨_, _, _, _, e, _⟩
  · exact h.intI
  · cases e
theorem RepW.bl {v : V} {n : Bool} (h : RepW K c s v (.bl n)) : v = .bl n := by
  rcases h with h | ⟨_, _, _, _, e, _⟩
  · exact h.blI
  · cases e
theorem RepW.str {v : V} {n : Str} (h : RepW K c s v (.str n)) : v = .str n := by
  rcases h with h | ⟨_, _, _, _, e, _⟩
  · exact h.strI
  · cases e
theorem RepW.non {v : V} (h : RepW K c s v .non) : v = .non := by
  rcases h with h | ⟨_, _, _, _, e, _⟩
  · exact h.nonI
  · cases e
theorem RepW.lst {v : V} {ds : List Dat} (h : RepW K c s v (.lst ds)) (I : In K c X F σ s) : ∃ a vs, v = .ref a ∧ s.H a = some (.lst vs) ∧ Reps K c s.g vs ds := by
  rcases h with h | ⟨a, vs, ds', e, e2, h1, h2⟩
  · cases h with
    | lst h1 h2 => exact ⟨_, _, rfl, I.wr.sub _ _ h1, h2⟩
  · cases e2
    exact ⟨a, vs, e, h1, h2⟩
theorem RepW.cst {v : V} {ds : List Dat} (h : RepW K c s v (.cst ds)) (I : In K c X F σ s) : ∃ a vs, v = .ref a ∧ SqL K s.H a vs ∧ Reps K c s.g vs ds := by
  rcases h with h | ⟨a, vs, ds', e, e2, h1, h2⟩
  · cases h with
    | cst h1 h2 => exact ⟨_, _, rfl, sqL_mono I.wr.sub h1, h2⟩
  · cases e2
theorem RepW.tup {v : V} {ds : List Dat} (h : RepW K c s v (.tup ds)) (I : In K c X F σ s) : ∃ a vs, v = .ref a ∧ SqT K s.H a vs ∧ Reps K c s.g vs ds := by
  rcases h with h | ⟨a, vs, ds', e, e2, h1, h2⟩
  · cases h with
    | tup h1 h2 => exact ⟨_, _, rfl, SqT.of (I.wr.sub _ _ h1), h2⟩
  · cases e2
theorem RepW.big {v : V} {b : Nat} {n : Int} (h : RepW K c s v (.big b n)) (I : In K c X F σ s) : ∃ a, v = .ref a ∧ BigAt c s.H a b n := by
  rcases h with h | ⟨a, vs, ds', e, e2, h1, h2⟩
  · cases h with
    | big h1 => exact ⟨_, rfl, bigAt_mono I.wr.sub h1⟩
  · cases e2
theorem snd_var : SndE K c (tVar i) (pVar i) := by
  intro X F σ s k Q I h hQ
  unfold pVar at h
  cases e : s.e[i]? with
  | none => rw [e] at h; exact h.elim
  | some z =>
    rw [e] at h
    cases z with
    | no => exact h.elim
    | own f l => exact h.elim
    | ownT l r => exact h.elim
    | val d =>
      obtain ⟨v, h1, h2⟩ := I.env i _ e
      exact ⟨v, h1, hQ v d s (Gh.le.refl _) I h2 h⟩
theorem snd_c {v : V} {d : Dat} (h : ∀ g : Gh, Rep K c g v d) : SndE K c (tC v) (pC d) := fun X F σ s k Q I hp hQ => hQ v d s (Gh.le.refl _) I (h s.g) hp
theorem snd_int (n : Int) : SndE K c (tC (.int n)) (pC (.int n)) := snd_c fun _ => .int n
theorem snd_str (n : Str) : SndE K c (tC (.str n)) (pC (.str n)) := snd_c fun _ => .str n
theorem snd_bl (n : Bool) : SndE K c (tC (.bl n)) (pC (.bl n)) := snd_c fun _ => .bl n
theorem snd_op (hr : SndR2 K c r q) (ha : SndE K c ta pa) (hb : SndE K c tb pb) : SndE K c (tOp r ta tb) (pOp q pa pb) := by
  intro X F σ s k Q I h hQ
  refine ha X F σ s _ _ I h fun x dx s1 l1 I1 r1 h1 => ?_
  refine hb X F σ s1 _ _ I1 h1 fun y dy s2 l2 I2 r2 h2 => ?_
  refine hr X F σ s2 x y dx dy _ _ I2 (.inl (r1.mono l2)) (.inl r2) h2 fun v d s3 l3 I3 e3 w3 r3 h3 => ?_
  refine hQ v d s3 ((l1.trans l2).trans l3) I3 r3 ?_
  rw [e3, w3]; exact h3
theorem snd_opF {q : Dat → Dat → (List Dat → Prop) → Prop} (hr : SndR2F K c r q) (ha : SndE K c ta pa) (hb : SndE K c tb pb) : SndF K c (tOp r ta tb) (pOpF q pa pb) := by
  intro X F σ s k Q I h hQ
  refine ha X F σ s _ _ I h fun x dx s1 l1 I1 r1 h1 => ?_
  refine hb X F σ s1 _ _ I1 h1 fun y dy s2 l2 I2 r2 h2 => ?_
  refine hr X F σ s2 x y dx dy _ _ I2 (.inl (r1.mono l2)) (.inl r2) h2 fun a vs ds s3 l3 hx I3 e3 w3 r3 h3 => ?_
  refine hQ a vs ds s3 ((l1.trans l2).trans l3) hx I3 r3 ?_
  rw [e3, w3]; exact h3
theorem ownAt_of {e : Env} {i : Nat} {k : Bool → List Dat → Prop} (h : ownAt e i k) : ∃ f l, e[i]? = some (.own f l) ∧ k f l := by
  unfold ownAt at h
  cases z : e[i]? with
  | none => rw [z] at h; exact h.elim
  | some y =>
    rw [z] at h
    cases y with
    | no => exact h.elim
    | val d => exact h.elim
    | ownT l r => exact h.elim
    | own f l => exact ⟨f, l, rfl, h⟩
theorem In.own (I : In K c X F σ s) {f : Bool} {l : List Dat} (h : s.e[i]? = some (.own f l)) : ∃ a vs, σ[i]? = some (some (.ref a)) ∧ (i, a) ∈ s.os ∧ s.H a = some (.lst vs) ∧ Reps K c s.g vs l ∧ OwnF X f a := I.env i _ h
theorem snd_un {ru : V → Hp → VK → Prop} {q : Q1} (hr : ∀ (s : Cf) x d, Rep K c s.g x d → ∀ (k : Dat → Prop) (Q : VK), q d k → (∀ v d', Rep K c s.g v d' → k d' → Q v s.H) → ru x s.H Q) (ha : SndE K c ta pa) : SndE K c (tUn ru ta) (pUn q pa) := by
  intro X F σ s k Q I h hQ
  refine ha X F σ s _ _ I h fun x dx s1 l1 I1 r1 h1 => ?_
  exact hr s1 x dx r1 _ _ h1 fun v d' r2 h2 => hQ v d' s1 l1 I1 r2 h2
theorem isB_of {d : Dat} {k : Bool → Prop} (h : isB d k) : ∃ b, d = .bl b ∧ k b := by
  cases d with
  | bl b => exact ⟨b, rfl, h⟩
  | _ => exact h.elim
theorem snd_test (ha : SndE K c ta pa) : SndT K c (tTest ta) (pTest pa) := by
  intro X F σ s k Q I h hQ
  refine ha X F σ s _ _ I h fun x dx s1 l1 I1 r1 h1 => ?_
  replace h1 := isB_of h1
  obtain ⟨b, rfl, h1⟩ := h1
  exact ⟨b, r1.blI, hQ b s1 l1 I1 h1⟩
theorem snd_tB (ha : SndE K c ta pa) : SndT K c (L2.tB ta) (pTest pa) := snd_test ha
theorem snd_not (ha : SndT K c tT pT) : SndT K c (tNot tT) (pNot pT) := fun X F σ s k Q I h hQ => ha X F σ s _ _ I h fun b s1 l1 I1 h1 => hQ _ s1 l1 I1 h1
theorem snd_and (ha : SndT K c tT pT) (hb : SndT K c tU pU) : SndT K c (tAnd tT tU) (pAnd pT pU) := by
  intro X F σ s k Q I h hQ
  refine ha X F σ s _ _ I h fun b s1 l1 I1 h1 => ?_
  by_cases hb' : b = true
  · rw [if_pos hb'] at h1 ⊢
    exact hb X F σ s1 _ _ I1 h1 fun b s2 l2 I2 h2 => hQ b s2 (l1.trans l2) I2 h2
  · rw [if_neg hb'] at h1 ⊢
    exact hQ _ s1 l1 I1 h1
theorem snd_or (ha : SndT K c tT pT) (hb : SndT K c tU pU) : SndT K c (tOr tT tU) (pOr pT pU) := by
  intro X F σ s k Q I h hQ
  refine ha X F σ s _ _ I h fun b s1 l1 I1 h1 => ?_
  by_cases hb' : b = true
  · rw [if_pos hb'] at h1 ⊢
    exact hQ _ s1 l1 I1 h1
  · rw [if_neg hb'] at h1 ⊢
    exact hb X F σ s1 _ _ I1 h1 fun b s2 l2 I2 h2 => hQ b s2 (l1.trans l2) I2 h2
theorem snd_andV (ha : SndE K c ta pa) (hb : SndE K c tb pb) : SndE K c (tAndV ta tb) (pAndV pa pb) := by
  intro X F σ s k Q I h hQ
  refine ha X F σ s _ _ I h fun x dx s1 l1 I1 r1 h1 => ?_
  replace h1 := isB_of h1
  obtain ⟨b, rfl, h1⟩ := h1
  refine ⟨b, r1.blI, ?_⟩
  by_cases hb' : b = true
  · rw [if_pos hb'] at h1 ⊢
    exact hb X F σ s1 _ _ I1 h1 fun v d s2 l2 I2 r2 h2 => hQ v d s2 (l1.trans l2) I2 r2 h2
  · rw [if_neg hb'] at h1 ⊢
    exact hQ _ _ s1 l1 I1 (.bl _) h1
theorem snd_if (hc : SndT K c tT pT) (ha : SndE K c ta pa) (hb : SndE K c tb pb) : SndE K c (tIf tT ta tb) (pIf pT pa pb) := by
  intro X F σ s k Q I h hQ
  refine hc X F σ s _ _ I h fun b s1 l1 I1 h1 => ?_
  by_cases hb' : b = true
  · rw [if_pos hb'] at h1 ⊢
    exact ha X F σ s1 _ _ I1 h1 fun v d s2 l2 I2 r2 h2 => hQ v d s2 (l1.trans l2) I2 r2 h2
  · rw [if_neg hb'] at h1 ⊢
    exact hb X F σ s1 _ _ I1 h1 fun v d s2 l2 I2 r2 h2 => hQ v d s2 (l1.trans l2) I2 r2 h2
theorem snd_nil : SndA K c tNil pNil := fun X F σ s k Q I h hQ => hQ [] [] s (Gh.le.refl _) I .nil h
theorem snd_cons (ha : SndE K c ta pa) (hr : SndA K c tr pr) : SndA K c (tCons ta tr) (pCons pa pr) := by
  intro X F σ s k Q I h hQ
  refine ha X F σ s _ _ I h fun x dx s1 l1 I1 r1 h1 => ?_
  refine hr X F σ s1 _ _ I1 h1 fun vs ds s2 l2 I2 r2 h2 => ?_
  exact hQ _ _ s2 (l1.trans l2) I2 (.cons (r1.mono l2) r2) h2
theorem snd_call (hp : SndP K c sp P) (hr : SndA K c tr pr) : SndE K c (tCall sp [] E tr) (pCall P pr) := by
  intro X F σ s k Q I h hQ
  refine hr X F σ s _ _ I h fun vs ds s1 l1 I1 r1 h1 => ?_
  rw [List.append_nil]
  refine hp s1.g s1.H s1.w vs ds _ _ E I1.wr r1 h1 fun v d g' H' w' A W r2 h2 => ?_
  exact hQ v d ⟨g', H', s1.e, w', s1.os⟩ (l1.trans A.le) (I1.call A W) r2 h2
theorem reps_getD {g : Gh} {vs : List V} {ds : List Dat} (h : Reps K c g vs ds) (i : Nat) : Rep K c g (vs.getD i .non) (ds.getD i .non) := by
  rw [List.getD_eq_getElem?_getD, List.getD_eq_getElem?_getD]
  cases e : ds[i]? with
  | none =>
    have : vs[i]? = none := List.getElem?_eq_none_iff.mpr (by rw [h.length]; exact List.getElem?_eq_none_iff.mp e)
    rw [this]; exact .non
  | some d =>
    obtain ⟨v, e2, r⟩ := h.get e
    rw [e2]; exact r
theorem reps_perm {g : Gh} {vs : List V} {ds : List Dat} (h : Reps K c g vs ds) : ∀ (ix : List Nat), Reps K c g (perm ix vs) (ix.map fun i => ds.getD i .non)
  | [] => .nil
  | i :: ix => .cons (reps_getD h i) (reps_perm h ix)
def pMethM (P : PSp) (a : PE) (r : PA) : PE := fun e w k => a e w fun x e w => match x with | .mach i => r e w fun ds e w => P (.mach i :: ds) w fun d w => k d e w | _ => False
def pMethB (P : PSp) (a : PE) (r : PA) : PE := fun e w k => a e w fun x e w => match x with | .big b n => r e w fun ds e w => P (.big b n :: ds) w fun d w => k d e w | _ => False
theorem Wr.ins {g : Gh} {H : Hp} {w : Wld} (W : Wr K c g H w) {i : Nat} {v : V} (h : Rep K c g v (.mach i)) : ∃ q m dx, g.ms[i]? = some q ∧ w.ms[i]? = some m ∧ v = .ref q.1 ∧ H q.1 = some (.ins c.CMachine dx (mF m.b m.cut q.2.1 q.2.2)) ∧ MRep K c g H q m := by
  cases h with
  | mach h =>
    rename_i q
    have hl : i < w.ms.length := by rw [← W.mlen]; exact (List.getElem?_eq_some_iff.mp h).1
    have hm := W.mach i q _ h (List.getElem?_eq_getElem hl)
    obtain ⟨dx, e⟩ := hm.ins
    exact ⟨q, _, dx, h, List.getElem?_eq_getElem hl, rfl, W.sub _ _ e, hm⟩
theorem snd_methM {f : Str} (hf : (f == "entered" || f == "counts" || f == "base" || f == "limit_of_rows" || f == "width") = false) (hp : SndP K c sp P) (ha : SndE K c ta pa) (hr : SndA K c tr pr) : SndE K c (tMeth c.CMachine f sp [] E ta tr) (pMethM P pa pr) := by
  intro X F σ s k Q I h hQ
  refine ha X F σ s _ _ I h fun x dx s1 l1 I1 r1 h1 => ?_
  cases dx with
  | mach i =>
    obtain ⟨q, m, dx, _, _, e, hi, _⟩ := I1.wr.ins r1
    subst e
    refine ⟨q.1, dx, _, rfl, hi, mF_meth' hf, ?_⟩
    refine hr X F σ s1 _ _ I1 h1 fun vs ds s2 l2 I2 r2 h2 => ?_
    rw [List.append_nil]
    refine hp s2.g s2.H s2.w _ _ _ _ E I2.wr (.cons (r1.mono l2) r2) h2 fun v d g' H' w' A W r3 h3 => ?_
    exact hQ v d ⟨g', H', s2.e, w', s2.os⟩ ((l1.trans l2).trans A.le) (I2.call A W) r3 h3
  | _ => exact h1.elim
theorem snd_tup (hr : SndA K c tr pr) : SndE K c (tTup tr) (pTup pr) := by
  intro X F σ s k Q I h hQ
  refine hr X F σ s _ _ I h fun vs ds s1 l1 I1 r1 h1 => ?_
  refine ⟨by rw [r1.length]; exact h1.1, fun p hp => ?_⟩
  have hg := I1.offG hp
  have le := gUpd_le (o := .tup vs) hg
  exact hQ _ _ ⟨gUpd s1.g p (.tup vs), upd s1.H p (.tup vs), s1.e, s1.w, s1.os⟩ (l1.trans le) (I1.newG hp) (.tup (show upd s1.g.G p _ p = _ from upd_same) (r1.mono le)) h1.2
theorem snd_lst (hr : SndA K c tr pr) : SndF K c (tLst tr) (pLst pr) := by
  intro X F σ s k Q I h hQ
  refine hr X F σ s _ _ I h fun vs ds s1 l1 I1 r1 h1 => ?_
  refine ⟨by rw [r1.length]; exact h1.1, fun p hp => ?_⟩
  exact hQ p vs ds ⟨s1.g, upd s1.H p (.lst vs), s1.e, s1.w, s1.os⟩ l1 (I1.fresh hp) (I1.newF hp) r1 h1.2
theorem snd_fz {pf : PF} (ha : SndF K c ta pf) : SndE K c ta (pFz pf) := by
  intro X F σ s k Q I h hQ
  refine ha X F σ s _ _ I h fun a vs ds s1 l1 hx I1 r1 h1 => ?_
  have hm : a ∈ s1.mu ((a, .lst vs) :: F) := (mu_cons s1 (a, .lst vs) F).mem_iff.mpr List.mem_cons_self
  have le := gUpd_le (o := .lst vs) (I1.off a hm)
  exact hQ _ _ ⟨gUpd s1.g a (.lst vs), s1.H, s1.e, s1.w, s1.os⟩ (l1.trans le) (I1.frzF hx) (.lst (show upd s1.g.G a _ a = _ from upd_same) (r1.mono le)) h1
theorem pairW {s : Cf} : ∀ {vs : List V} {ds : List Dat}, Reps K c s.g vs ds → Paired (RepW K c s) vs ds
  | _, _, .nil => .nil
  | _, _, .cons h t => .cons (.inl h) (pairW t)
theorem snd_cb {rl : List V → Hp → VK → Prop} {ql : QL} (h' : SndRL K c rl ql) (hr : SndA K c tr pr) : SndE K c (tCB rl tr) (pCB ql pr) := by
  intro X F σ s k Q I h hQ
  refine hr X F σ s _ _ I h fun vs ds s1 l1 I1 r1 h1 => ?_
  refine h' X F σ s1 vs ds _ _ I1 (pairW r1) h1 fun v d s2 l2 I2 e2 w2 r2 h2 => ?_
  refine hQ v d s2 (l1.trans l2) I2 r2 ?_
  rw [e2, w2]; exact h2
theorem SEnds.mono {D : Ends} {Dp : PEnds} {g g' : Gh} (h : SEnds K c X F g D Dp) (le : g.le g') : SEnds K c X F g' D Dp :=
  ⟨fun σ s l => h.nx σ s (le.trans l), fun σ s v d l => h.rt σ s v d (le.trans l), fun σ s l => h.bk σ s (le.trans l), fun σ s l => h.ct σ s (le.trans l)⟩
theorem snd_seq (ha : SndS K c ts ps) (hb : SndS K c tu pu) : SndS K c (tSeq ts tu) (pSeq ps pu) := by
  intro X F σ s D Dp I h hE
  exact ha X F σ s _ _ I h ⟨fun σ' s' l I' h' => hb X F σ' s' D Dp I' h' (hE.mono l), hE.rt, hE.bk, hE.ct⟩
theorem snd_next : SndS K c tNext pNext := fun X F σ s D Dp I h hE => hE.nx σ s (Gh.le.refl _) I h
theorem snd_asg (ha : SndE K c ta pa) : SndS K c (tAsg ta (gName i)) (pAsg pa i) := by
  intro X F σ s D Dp I h hE
  refine ha X F σ s _ _ I h fun x dx s1 l1 I1 r1 h1 => ?_
  exact hE.nx _ ⟨s1.g, s1.H, s1.e.set i (.val dx), s1.w, s1.os⟩ l1 (I1.setV r1) h1
theorem snd_asgG {tg : TG} {pg : PG} (ha : SndE K c ta pa) (hg : SndG K c tg pg) : SndS K c (tAsg ta tg) (pAsgG pa pg) := by
  intro X F σ s D Dp I h hE
  refine ha X F σ s _ _ I h fun x dx s1 l1 I1 r1 h1 => ?_
  exact hg X F σ s1 x dx _ _ I1 r1 h1 fun σ' s' l' I' h' => hE.nx σ' s' (l1.trans l') I' h'
theorem snd_gName : SndG K c (gName i) (pgName i) := fun X F σ s v d k Q I r h hQ => hQ _ ⟨s.g, s.H, s.e.set i (.val d), s.w, s.os⟩ (Gh.le.refl _) (I.setV r) h
theorem onSome_of {α : Type} {o : Option α} {k : α → Prop} (h : onSome o k) : ∃ x, o = some x ∧ k x := by
  cases o with
  | none => exact h.elim
  | some x => exact ⟨x, rfl, h⟩
theorem tupOf_of {d : Dat} {k : List Dat → Prop} (h : tupOf d k) : ∃ l, d = .tup l ∧ k l := by
  cases d with
  | tup l => exact ⟨l, rfl, h⟩
  | _ => exact h.elim
theorem intOf_of {d : Dat} {k : Int → Prop} (h : intOf d k) : ∃ l, d = .int l ∧ k l := by
  cases d with
  | int l => exact ⟨l, rfl, h⟩
  | _ => exact h.elim
/-- targets of a tuple, one behind the other -/
def gNames : List Nat → TGs
  | [] => gNil
  | i :: is => gCons (gName i) (gNames is)
theorem In.setAll : ∀ {is : List Nat} {vs : List V} {ds : List Dat} {σ : L2.St} {s : Cf} {e : Env} (I : In K c X F σ s) (r : Reps K c s.g vs ds) (h : setAll s.e is ds = some e) {Q : L2.St → Hp → Prop}, (∀ σ', In K c X F σ' ⟨s.g, s.H, e, s.w, s.os⟩ → Q σ' s.H) → gNames is vs σ s.H Q
  | [], _, _, σ, s, e, I, .nil, h, Q, hQ => by
    simp only [Pu.setAll, Option.some.injEq] at h
    subst h
    exact ⟨rfl, hQ σ I⟩
  | i :: is, _, _, σ, s, e, I, .cons r t, h, Q, hQ => by
    simp only [Pu.setAll] at h
    exact ⟨_, _, rfl, In.setAll (s := ⟨s.g, s.H, s.e.set i (.val _), s.w, s.os⟩) (I.setV r) t h hQ⟩
  | [], _, _, _, _, _, _, .cons _ _, h, _, _ => by simp [Pu.setAll] at h
  | _ :: _, _, _, _, _, _, _, .nil, h, _, _ => by simp [Pu.setAll] at h
theorem setAll_len : ∀ {is : List Nat} {ds : List Dat} {e e' : Env}, setAll e is ds = some e' → ds.length = is.length
  | [], [], _, _, _ => rfl
  | _ :: is, _ :: ds, _, _, h => by simp only [Pu.setAll] at h; simp only [List.length_cons, setAll_len h]
  | [], _ :: _, _, _, h => by simp [Pu.setAll] at h
  | _ :: _, [], _, _, h => by simp [Pu.setAll] at h
theorem snd_gTup {is : List Nat} {n : Nat} (hn : is.length = n) : SndG K c (gTup K n (gNames is)) (pgTup is) := by
  intro X F σ s v d k Q I r h hQ
  replace h := tupOf_of h
  obtain ⟨ds, rfl, h⟩ := h
  obtain ⟨e, he, h⟩ := onSome_of h
  obtain ⟨a, vs, e1, hs, hr⟩ := RepW.tup (.inl r) I
  subst e1
  refine ⟨a, vs, rfl, hs, by rw [hr.length, setAll_len he]; exact hn, ?_⟩
  exact In.setAll I hr he fun σ' I' => hQ σ' ⟨s.g, s.H, e, s.w, s.os⟩ (Gh.le.refl _) I' h
theorem snd_par {j : Nat} (hr : SndA K c tr pr) : SndS K c (tPar i j tr) (pPar [i, j] pr) := by
  intro X F σ s D Dp I h hE
  refine hr X F σ s _ _ I h fun vs ds s1 l1 I1 r1 h1 => ?_
  obtain ⟨e, he, h1⟩ := onSome_of h1
  have := In.setAll (Q := D.nx) I1 r1 he fun σ' I' => hE.nx σ' ⟨s1.g, s1.H, e, s1.w, s1.os⟩ l1 I' h1
  obtain ⟨v, _, rfl, v', _, rfl, rfl, q⟩ := this
  exact ⟨v, v', rfl, q⟩
theorem snd_par3 {j l : Nat} (hr : SndA K c tr pr) : SndS K c (tPar3 i j l tr) (pPar [i, j, l] pr) := by
  intro X F σ s D Dp I h hE
  refine hr X F σ s _ _ I h fun vs ds s1 l1 I1 r1 h1 => ?_
  obtain ⟨e, he, h1⟩ := onSome_of h1
  have := In.setAll (Q := D.nx) I1 r1 he fun σ' I' => hE.nx σ' ⟨s1.g, s1.H, e, s1.w, s1.os⟩ l1 I' h1
  obtain ⟨v, _, rfl, v', _, rfl, v'', _, rfl, rfl, q⟩ := this
  exact ⟨v, v', v'', rfl, q⟩
theorem snd_ret (ha : SndE K c ta pa) : SndS K c (tRet ta) (pRet pa) := by
  intro X F σ s D Dp I h hE
  exact ha X F σ s _ _ I h fun x dx s1 l1 I1 r1 h1 => hE.rt σ s1 x dx l1 I1 r1 h1
theorem snd_drop (ha : SndE K c ta pa) : SndS K c (tDrop ta) (pDrop pa) := by
  intro X F σ s D Dp I h hE
  exact ha X F σ s _ _ I h fun x dx s1 l1 I1 r1 h1 => hE.nx σ s1 l1 I1 h1
theorem snd_ifS (hc : SndT K c tT pT) (ha : SndS K c ts ps) (hb : SndS K c tu pu) : SndS K c (tIfS tT ts tu) (pIfS pT ps pu) := by
  intro X F σ s D Dp I h hE
  refine hc X F σ s _ _ I h fun b s1 l1 I1 h1 => ?_
  by_cases hb' : b = true
  · rw [if_pos hb'] at h1 ⊢
    exact ha X F σ s1 D Dp I1 h1 (hE.mono l1)
  · rw [if_neg hb'] at h1 ⊢
    exact hb X F σ s1 D Dp I1 h1 (hE.mono l1)
theorem snd_append (ha : SndE K c ta pa) : SndS K c (tDrop (tBM K "list" rAppend (tVar i) (tCons ta tNil))) (pAppend i pa) := by
  intro X F σ s D Dp I h hE
  obtain ⟨f0, l0, e0, h⟩ := ownAt_of h
  obtain ⟨a, vs0, hs, ho, hH0, _, _⟩ := I.own e0
  refine ⟨.ref a, hs, .inl ⟨rfl, _, SqL.of hH0⟩, ?_⟩
  refine ha X F σ s _ _ I h fun y dy s2 l2 I2 r2 h2 => ?_
  obtain ⟨f, l, e1, hz, h2⟩ := ownAt_of h2
  obtain ⟨a', vs, hs', ho', hH, hR, hf⟩ := I2.own e1
  rw [hs] at hs'; cases hs'
  exact ⟨a, vs, y, rfl, rfl, hH, by rw [hR.length]; exact hz, hE.nx σ ⟨s2.g, upd s2.H a _, s2.e.set i (.own f (l ++ [dy])), s2.w, s2.os⟩ l2 (I2.ownPut hs ho' (hR.app (.cons r2 .nil)) hf) h2⟩
/-- names whose lists are no more theirs alone -/
theorem In.frz1 (I : In K c X F σ s) : ∃ g', s.g.le g' ∧ ∃ os', (∀ q ∈ os', q ∈ s.os) ∧ In K c X F σ ⟨g', s.H, (match s.e[i]? with | some z => s.e.set i (fz z) | none => s.e), s.w, os'⟩ := by
  cases hz : s.e[i]? with
  | none => exact ⟨s.g, Gh.le.refl _, s.os, fun _ h => h, I⟩
  | some z =>
    have hset : ∀ y, s.e[i]? = some y → s.e.set i y = s.e := fun y hy => by
      obtain ⟨h1, h2⟩ := List.getElem?_eq_some_iff.mp hy
      rw [← h2]; exact List.set_getElem_self h1
    cases z with
    | no => exact ⟨s.g, Gh.le.refl _, s.os, fun _ h => h, by show In K c X F σ ⟨s.g, s.H, s.e.set i .no, s.w, s.os⟩; rw [hset _ hz]; exact I⟩
    | val d => exact ⟨s.g, Gh.le.refl _, s.os, fun _ h => h, by show In K c X F σ ⟨s.g, s.H, s.e.set i (.val d), s.w, s.os⟩; rw [hset _ hz]; exact I⟩
    | ownT l r => exact ⟨s.g, Gh.le.refl _, s.os, fun _ h => h, by show In K c X F σ ⟨s.g, s.H, s.e.set i (.ownT l r), s.w, s.os⟩; rw [hset _ hz]; exact I⟩
    | own f ds =>
     cases f with
     | false => exact ⟨s.g, Gh.le.refl _, s.os, fun _ h => h, by show In K c X F σ ⟨s.g, s.H, s.e.set i (.own false ds), s.w, s.os⟩; rw [hset _ hz]; exact I⟩
     | true =>
      obtain ⟨a, vs, hs, ho, hH, hR, hf⟩ := I.own hz
      have hx : X.H a = none := hf.1 rfl
      -- the name's place moves from the names' lists to what is held, then to what never changes
      have hsp : ∃ l1 l2, s.os = l1 ++ (i, a) :: l2 := List.append_of_mem ho
      obtain ⟨l1, l2, hos⟩ := hsp
      have hp : (s.mu F).Perm (((⟨s.g, s.H, s.e.set i .no, s.w, l1 ++ l2⟩ : Cf)).mu ((a, .lst vs) :: F)) := by
        unfold Cf.mu
        rw [hos]
        refine List.Perm.append_left _ ?_
        simp only [List.map_append, List.map_cons, List.append_assoc, List.cons_append]
        refine List.Perm.append_left _ ?_
        exact (List.perm_middle (l₁ := l2.map (·.2))).symm
      have hsub : ∀ q ∈ l1 ++ l2, q ∈ s.os := fun q hq => by
        rw [hos]
        rcases List.mem_append.mp hq with z | z
        · exact List.mem_append_left _ z
        · exact List.mem_append_right _ (List.mem_cons_of_mem _ z)
      have I1 : In K c X ((a, .lst vs) :: F) σ ⟨s.g, s.H, s.e.set i .no, s.w, l1 ++ l2⟩ := by
        refine ⟨I.wr, hp.nodup_iff.mp I.nd, fun b hb => I.off b (hp.mem_iff.mpr hb), by show (s.e.set i _).length = _; rw [List.length_set]; exact I.len, fun j z hz' => ?_, fun q hq => ?_, fun q hq => I.oal q (hsub q hq), I.le, I.keep, I.frz, fun b hb => I.new b (hp.mem_iff.mpr hb), I.dom⟩
        · rcases set_get hz' with ⟨rfl, rfl⟩ | ⟨ne, hz''⟩
          · trivial
          · have h' := I.env j z hz''
            cases z with
            | no => trivial
            | val d => exact h'
            | own f' dl =>
              obtain ⟨b, ws, h1, h2, h3, h4, h5⟩ := h'
              refine ⟨b, ws, h1, ?_, h3, h4, h5⟩
              show (j, b) ∈ l1 ++ l2
              rw [hos] at h2
              rcases List.mem_append.mp h2 with z | z
              · exact List.mem_append_left _ z
              · rcases List.mem_cons.mp z with z | z
                · exact absurd (congrArg Prod.fst z) ne
                · exact List.mem_append_right _ z
            | ownT dl dr =>
              obtain ⟨p, b, us, ws, h1, h2, h3, h4, h5, h6, h7⟩ := h'
              refine ⟨p, b, us, ws, h1, ?_, h3, h4, h5, h6, h7⟩
              show (j, b) ∈ l1 ++ l2
              rw [hos] at h2
              rcases List.mem_append.mp h2 with z | z
              · exact List.mem_append_left _ z
              · rcases List.mem_cons.mp z with z | z
                · exact absurd (congrArg Prod.fst z) ne
                · exact List.mem_append_right _ z
        · rcases List.mem_cons.mp hq with rfl | hq
          · exact hH
          · exact I.held q hq
      have le := gUpd_le (o := .lst vs) (I.off a (I.osMu ho))
      have I2 := I1.frzF hx
      have hval : Rep K c (gUpd s.g a (.lst vs)) (.ref a) (.lst ds) := .lst (show upd s.g.G a _ a = _ from upd_same) (hR.mono le)
      have I3 := I2.setV (i := i) hval
      have hσ : σ.set i (some (.ref a)) = σ := by
        obtain ⟨h1, h2⟩ := List.getElem?_eq_some_iff.mp hs
        rw [← h2]; exact List.set_getElem_self h1
      rw [hσ] at I3
      refine ⟨gUpd s.g a (.lst vs), le, l1 ++ l2, hsub, ?_⟩
      have e2 : (s.e.set i .no).set i (.val (.lst ds)) = s.e.set i (fz (.own true ds)) := by rw [List.set_set]; rfl
      have I3' : In K c X F σ ⟨gUpd s.g a (.lst vs), s.H, (s.e.set i .no).set i (.val (.lst ds)), s.w, l1 ++ l2⟩ := I3
      rw [e2] at I3'
      exact I3'
theorem In.frzs : ∀ {is : List Nat} {s : Cf} (I : In K c X F σ s), ∃ g', s.g.le g' ∧ ∃ os', (∀ q ∈ os', q ∈ s.os) ∧ In K c X F σ ⟨g', s.H, Pu.frz s.e is, s.w, os'⟩
  | [], s, I => ⟨s.g, Gh.le.refl _, s.os, fun _ h => h, I⟩
  | i :: is, s, I => by
    obtain ⟨g1, l1, os1, hs1, I1⟩ := I.frz1 (i := i)
    obtain ⟨g2, l2, os2, hs2, I2⟩ := In.frzs (is := is) I1
    exact ⟨g2, l1.trans l2, os2, fun q hq => hs1 q (hs2 q hq), I2⟩
theorem snd_frz {is : List Nat} (ha : SndS K c ts ps) : SndS K c ts (pFrz is ps) := by
  intro X F σ s D Dp I h hE
  obtain ⟨g', l', os', _, I'⟩ := I.frzs (is := is)
  exact ha X F σ ⟨g', s.H, Pu.frz s.e is, s.w, os'⟩ D Dp I' h (hE.mono l')
theorem snd_while (hc : SndT K c tT pT) (hb : SndS K c ts ps) : SndS K c (tWhile tT ts) (pWhile pT ps) := by
  intro X F σ s D Dp I h hE
  obtain ⟨n, h⟩ := h
  refine ⟨fun m σ' H' => ∃ s' : Cf, s'.H = H' ∧ s.g.le s'.g ∧ In K c X F σ' s' ∧ whl pT ps Dp m s'.e s'.w, ⟨n, s, rfl, Gh.le.refl _, I, h⟩, ?_⟩
  rintro m σ1 H1 ⟨s1, rfl, l1, I1, h1⟩
  cases m with
  | zero => exact h1.elim
  | succ m =>
    refine hc X F σ1 s1 _ _ I1 h1 fun b s2 l2 I2 h2 => ?_
    by_cases hb' : b = true
    · rw [if_pos hb'] at h2 ⊢
      refine ⟨fun σ' H' => ∃ s' : Cf, s'.H = H' ∧ s.g.le s'.g ∧ In K c X F σ' s' ∧ whl pT ps Dp m s'.e s'.w, fun σ' H' ⟨s', e, l, I', h'⟩ => ⟨m, Nat.lt_succ_self m, s', e, l, I', h'⟩, ?_⟩
      refine hb X F σ1 s2 _ _ I2 h2 ⟨fun σ' s' l I' h' => ⟨s', rfl, (l1.trans l2).trans l, I', h'⟩, fun σ' s' v d l => hE.rt σ' s' v d ((l1.trans l2).trans l), fun σ' s' l => hE.nx σ' s' ((l1.trans l2).trans l), fun σ' s' l I' h' => ⟨s', rfl, (l1.trans l2).trans l, I', h'⟩⟩
    · rw [if_neg hb'] at h2 ⊢
      exact hE.nx σ1 s2 (l1.trans l2) I2 h2
/-- an iterator gives these data -/
structure ItD (K : PySem.W.Frag) (c : Pc) (J : It) (g : Gh) (ds : List Dat) : Prop where
  go : ∀ (X : En) (F : List (Addr × HO)) (σ : L2.St) (s : Cf) (i : Nat) (d : Dat), g.le s.g → In K c X F σ s → ds[i]? = some d → J.go i s.H ∧ ∀ x H', J.yld i s.H x H' → ∃ s' : Cf, s'.H = H' ∧ s.g.le s'.g ∧ In K c X F σ s' ∧ s'.e = s.e ∧ s'.w = s.w ∧ Rep K c s'.g x d
  stop : ∀ (X : En) (F : List (Addr × HO)) (σ : L2.St) (s : Cf), g.le s.g → In K c X F σ s → J.stop ds.length s.H
def SndI (K : PySem.W.Frag) (c : Pc) (wi : TI) (p : PA) : Prop := ∀ (X : En) (F : List (Addr × HO)) (σ : L2.St) (s : Cf) (k : List Dat → Env → Wld → Prop) (R : It → Hp → Prop), In K c X F σ s → p s.e s.w k → (∀ J ds s', s.g.le s'.g → In K c X F σ s' → ItD K c J s'.g ds → k ds s'.e s'.w → R J s'.H) → wi σ s.H R
theorem lp_drop {pg : PG} {ps : PS} {Dp : PEnds} {ds : List Dat} {i : Nat} {d : Dat} (h : ds[i]? = some d) : ds.drop i = d :: ds.drop (i + 1) := by
  obtain ⟨h1, h2⟩ := List.getElem?_eq_some_iff.mp h
  rw [← h2]; exact List.drop_eq_getElem_cons h1
theorem snd_for {wi : TI} {pi : PA} {tg : TG} {pg : PG} (hi : SndI K c wi pi) (hg : SndG K c tg pg) (hb : SndS K c ts ps) : SndS K c (tFor wi tg ts) (pFor pi pg ps) := by
  intro X F σ s D Dp I h hE
  refine hi X F σ s _ _ I h fun J ds s1 l1 I1 hJ h1 => ?_
  refine ⟨fun i m σ' H' => m + i = ds.length ∧ ∃ s' : Cf, s'.H = H' ∧ s1.g.le s'.g ∧ In K c X F σ' s' ∧ lp pg ps Dp (ds.drop i) s'.e s'.w, ⟨ds.length, rfl, s1, rfl, Gh.le.refl _, I1, h1⟩, ?_⟩
  rintro i m σ2 H2 ⟨hm, s2, rfl, l2, I2, h2⟩
  by_cases hlt : i < ds.length
  · have hd : ds[i]? = some (ds[i]'hlt) := List.getElem?_eq_getElem _
    rw [lp_drop (pg := pg) (ps := ps) (Dp := Dp) hd] at h2
    obtain ⟨hgo, hy⟩ := hJ.go X F σ2 s2 i _ l2 I2 hd
    refine .inr ⟨hgo, fun σ' H' => m ≠ 0 ∧ ∃ s' : Cf, s'.H = H' ∧ s1.g.le s'.g ∧ In K c X F σ' s' ∧ lp pg ps Dp (ds.drop (i + 1)) s'.e s'.w, fun σ' H' ⟨hm0, z⟩ => ⟨m - 1, by omega, by omega, z⟩, fun x H' hyl => ?_⟩
    obtain ⟨s3, rfl, l3, I3, e3, w3, r3⟩ := hy x H' hyl
    have h3 : pg (ds[i]'hlt) s3.e s3.w fun e w => ps ⟨lp pg ps Dp (ds.drop (i + 1)), Dp.rt, Dp.nx, lp pg ps Dp (ds.drop (i + 1))⟩ e w := by rw [e3, w3]; exact h2
    refine hg X F σ2 s3 x _ _ _ I3 r3 h3 fun σ4 s4 l4 I4 h4 => ?_
    have L : s1.g.le s4.g := (l2.trans l3).trans l4
    exact hb X F σ4 s4 _ _ I4 h4 ⟨fun σ' s' l I' h' => ⟨by omega, s', rfl, L.trans l, I', h'⟩, fun σ' s' v d l => hE.rt σ' s' v d ((l1.trans L).trans l), fun σ' s' l => hE.nx σ' s' ((l1.trans L).trans l), fun σ' s' l I' h' => ⟨by omega, s', rfl, L.trans l, I', h'⟩⟩
  · have hi' : i = ds.length := by omega
    subst hi'
    rw [List.drop_length] at h2
    exact .inl ⟨hJ.stop X F σ2 s2 l2 I2, hE.nx σ2 s2 (l1.trans l2) I2 h2⟩
theorem ItD.list {g : Gh} {a : Addr} {vs : List V} {ds : List Dat} (h : SqL K g.G a vs) (r : Reps K c g vs ds) : ItD K c (Itl K a) g ds where
  go := fun X F σ s i d le I hd => by
    obtain ⟨v, hv, rv⟩ := r.get hd
    have hs : SqL K s.H a vs := sqL_mono I.wr.sub (sqL_mono le.G h)
    refine ⟨⟨vs, v, hs, hv⟩, fun x H' ⟨e, hx⟩ => ?_⟩
    have := hx vs hs
    rw [hv] at this; cases this
    exact ⟨s, e.symm, Gh.le.refl _, I, rfl, rfl, rv.mono le⟩
  stop := fun X F σ s le I => ⟨vs, sqL_mono I.wr.sub (sqL_mono le.G h), by rw [r.length]; exact Nat.le_refl _⟩
theorem ItD.tup {g : Gh} {a : Addr} {vs : List V} {ds : List Dat} (h : SqT K g.G a vs) (r : Reps K c g vs ds) : ItD K c (Itt K a) g ds where
  go := fun X F σ s i d le I hd => by
    obtain ⟨v, hv, rv⟩ := r.get hd
    have hs : SqT K s.H a vs := sqT_mono I.wr.sub (sqT_mono le.G h)
    refine ⟨⟨vs, v, hs, hv⟩, fun x H' ⟨e, hx⟩ => ?_⟩
    have := hx vs hs
    rw [hv] at this; cases this
    exact ⟨s, e.symm, Gh.le.refl _, I, rfl, rfl, rv.mono le⟩
  stop := fun X F σ s le I => ⟨vs, sqT_mono I.wr.sub (sqT_mono le.G h), by rw [r.length]; exact Nat.le_refl _⟩
theorem rng_len : ∀ (n : Nat) (lo : Int), (rng lo n).length = n
  | 0, _ => rfl
  | n + 1, lo => by simp only [rng, List.length_cons, rng_len n]
theorem rng_get : ∀ {n : Nat} {lo : Int} {i : Nat} {d : Dat}, (rng lo n)[i]? = some d → i < n ∧ d = .int (lo + i)
  | 0, _, _, _, h => by simp [rng] at h
  | n + 1, lo, 0, d, h => by
    simp only [rng, List.getElem?_cons_zero, Option.some.injEq] at h
    exact ⟨Nat.succ_pos _, by rw [← h]; simp⟩
  | n + 1, lo, i + 1, d, h => by
    simp only [rng, List.getElem?_cons_succ] at h
    obtain ⟨h1, h2⟩ := rng_get h
    exact ⟨Nat.succ_lt_succ h1, by rw [h2]; congr 1; omega⟩
theorem ItD.range {g : Gh} (lo : Int) (n : Nat) : ItD K c (Itr lo n) g (rng lo n) where
  go := fun X F σ s i d le I hd => by
    obtain ⟨h1, rfl⟩ := rng_get hd
    exact ⟨h1, fun x H' ⟨e, hx⟩ => ⟨s, e.symm, Gh.le.refl _, I, rfl, rfl, by rw [hx]; exact .int _⟩⟩
  stop := fun X F σ s le I => by rw [rng_len]; exact Nat.le_refl n
theorem snd_iList (ha : SndE K c ta pa) : SndI K c (iList K ta) (pIL pa) := by
  intro X F σ s k R I h hR
  refine ha X F σ s _ _ I h fun x dx s1 l1 I1 r1 h1 => ?_
  cases r1 with
  | lst h2 r2 => exact ⟨_, rfl, ⟨_, SqL.of (I1.wr.sub _ _ h2)⟩, hR _ _ s1 l1 I1 (ItD.list (SqL.of h2) r2) h1⟩
  | cst h2 r2 => exact ⟨_, rfl, ⟨_, sqL_mono I1.wr.sub h2⟩, hR _ _ s1 l1 I1 (ItD.list h2 r2) h1⟩
  | _ => exact h1.elim
theorem snd_iR1 (ha : SndE K c ta pa) : SndI K c (iRng1 (tCons ta tNil)) (pIR1 pa) := by
  intro X F σ s k R I h hR
  refine ha X F σ s _ _ I h fun x dx s1 l1 I1 r1 h1 => ?_
  replace h1 := intOf_of h1
  obtain ⟨n, rfl, hb, h1⟩ := h1
  exact ⟨n, by rw [r1.intI], hb.1, hb.2, hR _ _ s1 l1 I1 (ItD.range 0 n.toNat) h1⟩
theorem In.wip : ∀ {vs : List Nat} {s : Cf} (I : In K c X F σ s), In K c X F σ ⟨s.g, s.H, Pu.wip s.e vs, s.w, s.os⟩
  | [], s, I => I
  | i :: vs, s, I => In.wip (vs := vs) (I.setN i)
theorem wip_len (e : Env) : ∀ (vs : List Nat), (wip e vs).length = e.length
  | [] => rfl
  | i :: vs => by unfold Pu.wip; rw [wip_len _ vs, List.length_set]
theorem wip_at : ∀ {vs : List Nat} {e : Env} {j : Nat}, j ∈ vs → j < e.length → (wip e vs)[j]? = some .no
  | i :: vs, e, j, h, hl => by
    unfold Pu.wip
    by_cases hj : j ∈ vs
    · exact wip_at hj (by rw [List.length_set]; exact hl)
    · rcases List.mem_cons.mp h with rfl | h
      · have : ∀ (vs : List Nat) (e : Env), j ∉ vs → (wip e vs)[j]? = e[j]? := by
          intro vs
          induction vs with
          | nil => intro e _; rfl
          | cons a vs ih =>
            intro e hn
            unfold Pu.wip
            rw [ih _ (fun z => hn (List.mem_cons_of_mem _ z)), List.getElem?_set_ne (fun z => hn (by rw [z]; exact List.mem_cons_self))]
        rw [this vs _ hj, List.getElem?_set_self hl]
      · exact absurd h hj
theorem wip_not : ∀ {vs : List Nat} {e : Env} {j : Nat}, j ∉ vs → (wip e vs)[j]? = e[j]?
  | [], _, _, _ => rfl
  | a :: vs, e, j, hn => by
    unfold Pu.wip
    rw [wip_not (fun z => hn (List.mem_cons_of_mem _ z)), List.getElem?_set_ne (fun z => hn (by rw [z]; exact List.mem_cons_self))]
theorem wipe_not : ∀ {vs : List Nat} {σ : L2.St} {j : Nat}, j ∉ vs → (wipe σ vs)[j]? = σ[j]?
  | [], _, _, _ => rfl
  | a :: vs, σ, j, hn => by
    unfold wipe
    rw [List.getElem?_set_ne (fun z => hn (by rw [z]; exact List.mem_cons_self)), wipe_not (fun z => hn (List.mem_cons_of_mem _ z))]
/-- over names that are forgotten the slots may be wiped or not -/
theorem In.alike {vs : List Nat} {σ' : L2.St} (I : In K c X F σ s) (hl : σ'.length = σ.length) (h : ∀ j, j ∉ vs → σ'[j]? = σ[j]?) : In K c X F σ' ⟨s.g, s.H, Pu.wip s.e vs, s.w, s.os⟩ := by
  have I1 := I.wip (vs := vs)
  refine ⟨I1.wr, I1.nd, I1.off, by rw [hl]; exact I1.len, fun j z hz => ?_, I1.held, I1.oal, I1.le, I1.keep, I1.frz, I1.new, I1.dom⟩
  by_cases hj : j ∈ vs
  · have hz : (Pu.wip s.e vs)[j]? = some z := hz
    have hlt : j < s.e.length := by
      have := (List.getElem?_eq_some_iff.mp hz).1
      rwa [wip_len] at this
    rw [wip_at hj hlt] at hz
    cases hz; trivial
  · rw [h j hj]
    exact I1.env j z hz
theorem wipe_alike {σ σ' : L2.St} {vs : List Nat} (h : wipe σ' vs = wipe σ vs) : σ'.length = σ.length ∧ ∀ j, j ∉ vs → σ'[j]? = σ[j]? := by
  refine ⟨?_, fun j hj => ?_⟩
  · have := congrArg List.length h
    rwa [wipe_length, wipe_length] at this
  · have := congrArg (·[j]?) h
    simpa [wipe_not hj] using this
/-- a target writes its names alone -/
def Tgt (g : TG) (vs : List Nat) : Prop := ∀ (v : V) (σ σ0 : L2.St) (H : Hp) (Q : L2.St → Hp → Prop), wipe σ vs = wipe σ0 vs → (g v σ H fun σ' H' => wipe σ' vs = wipe σ0 vs → Q σ' H') → g v σ H fun σ' H' => wipe σ' vs = wipe σ0 vs ∧ Q σ' H'
theorem snd_lc {wi : TI} {pi : PA} {tg : TG} {pg : PG} {vs : List Nat} (hi : SndI K c wi pi) (hg : SndG K c tg pg) (hw : Tgt tg vs) (ht : SndT K c tT pT) (ha : SndE K c ta pa) : SndF K c (tLc wi tg tT ta vs) (pLc pi pg pT pa vs) := by
  intro X F σ s k Q I h hQ
  refine hi X F σ s _ _ I h fun J ds s1 l1 I1 hJ h1 D hD => ?_
  have hI0 : In K c X ((D, .lst []) :: F) σ ⟨s1.g, upd s1.H D (.lst []), Pu.wip s1.e vs, s1.w, s1.os⟩ := In.wip (I1.newF hD)
  have hxD := I1.fresh hD
  refine ⟨fun i m H' => m + i = ds.length ∧ ∃ (s' : Cf) (ys : List V) (acc : List Dat), s'.H = H' ∧ s1.g.le s'.g ∧ In K c X ((D, .lst ys) :: F) σ s' ∧ Reps K c s'.g ys acc ∧ (∀ j, j ∈ vs → j < s'.e.length → s'.e[j]? = some .no) ∧ lcp pg pT pa vs k (ds.drop i) acc s'.e s'.w, ⟨ds.length, rfl, ⟨s1.g, upd s1.H D (.lst []), Pu.wip s1.e vs, s1.w, s1.os⟩, [], [], rfl, Gh.le.refl _, hI0, .nil, fun j hj hl => wip_at hj (by rw [← wip_len]; exact hl), h1⟩, ?_⟩
  rintro i m H2 ⟨hm, s2, ys, acc, rfl, l2, I2, rA, hno, h2⟩
  by_cases hlt : i < ds.length
  · have hd : ds[i]? = some (ds[i]'hlt) := List.getElem?_eq_getElem _
    rw [lp_drop (pg := pg) (ps := pNext) (Dp := ⟨fun _ _ => True, fun _ _ _ => True, fun _ _ => True, fun _ _ => True⟩) hd] at h2
    obtain ⟨hgo, hy⟩ := hJ.go X _ σ s2 i _ l2 I2 hd
    refine .inr ⟨hgo, fun H' => m ≠ 0 ∧ ∃ (s' : Cf) (ys : List V) (acc : List Dat), s'.H = H' ∧ s1.g.le s'.g ∧ In K c X ((D, .lst ys) :: F) σ s' ∧ Reps K c s'.g ys acc ∧ (∀ j, j ∈ vs → j < s'.e.length → s'.e[j]? = some .no) ∧ lcp pg pT pa vs k (ds.drop (i + 1)) acc s'.e s'.w, fun H' ⟨hm0, z⟩ => ⟨m - 1, by omega, by omega, z⟩, fun x H' hyl => ?_⟩
    obtain ⟨s3, rfl, l3, I3, e3, w3, r3⟩ := hy x H' hyl
    have I3' : In K c X ((D, .lst ys) :: F) (wipe σ vs) s3 := by
      have I4 := I3.alike (vs := vs) (σ' := wipe σ vs) (wipe_length σ vs) (fun j hj => wipe_not hj)
      have e4 : Pu.wip s3.e vs = s3.e := by
        apply List.ext_getElem?
        intro j
        by_cases hj : j ∈ vs
        · by_cases hl : j < s3.e.length
          · rw [wip_at hj hl, e3, hno j hj (by rw [← e3]; exact hl)]
          · rw [List.getElem?_eq_none_iff.mpr (show (Pu.wip s3.e vs).length ≤ j by rw [wip_len]; omega), List.getElem?_eq_none_iff.mpr (show s3.e.length ≤ j by omega)]
        · exact wip_not hj
      rw [e4] at I4
      exact I4
    have h3 : pg (ds[i]'hlt) s3.e s3.w fun e w => pT e w fun b e w => if b = true then pa e w fun y e w => acc.length < sizeLine ∧ lcp pg pT pa vs k (ds.drop (i + 1)) (acc ++ [y]) (Pu.wip e vs) w else lcp pg pT pa vs k (ds.drop (i + 1)) acc (Pu.wip e vs) w := by rw [e3, w3]; exact h2
    have hw0 : wipe (wipe σ vs) vs = wipe σ vs := by
      apply List.ext_getElem?
      intro j
      by_cases hj : j ∈ vs
      · have : ∀ (vs : List Nat) (σ : L2.St), j ∈ vs → (wipe σ vs)[j]? = if j < σ.length then some none else none := by
          intro vs
          induction vs with
          | nil => intro σ h; cases h
          | cons a vs ih =>
            intro σ h
            unfold wipe
            by_cases ha : a = j
            · subst ha
              by_cases hl : a < σ.length
              · rw [if_pos hl, List.getElem?_set_self (by rw [wipe_length]; exact hl)]
              · rw [if_neg hl]; exact List.getElem?_eq_none_iff.mpr (by rw [List.length_set, wipe_length]; omega)
            · rcases List.mem_cons.mp h with h | h
              · exact absurd h.symm ha
              · rw [List.getElem?_set_ne ha]; exact ih σ h
        rw [this vs _ hj, this vs _ hj, wipe_length]
      · exact wipe_not hj
    refine hw x (wipe σ vs) σ s3.H _ hw0 ?_
    refine hg X _ (wipe σ vs) s3 x _ _ _ I3' r3 h3 fun σ4 s4 l4 I4 h4 hw4 => ?_
    obtain ⟨hl4, hv4⟩ := wipe_alike hw4
    have L4 := (l2.trans l3).trans l4
    have hnoW : ∀ e : Env, ∀ j, j ∈ vs → j < (Pu.wip e vs).length → (Pu.wip e vs)[j]? = some .no := fun e j hj hl => wip_at hj (by rw [← wip_len]; exact hl)
    refine ht X _ σ4 s4 _ _ I4 h4 fun b s5 l5 I5 h5 => ?_
    by_cases hb' : b = true
    · rw [if_pos hb'] at h5 ⊢
      refine ha X _ σ4 s5 _ _ I5 h5 fun y dy s6 l6 I6 r6 h6 => ?_
      refine ⟨ys, I6.held _ List.mem_cons_self, by rw [rA.length]; exact h6.1, by omega, ⟨s6.g, upd s6.H D (.lst (ys ++ [y])), Pu.wip s6.e vs, s6.w, s6.os⟩, ys ++ [y], acc ++ [dy], rfl, (L4.trans l5).trans l6, ?_, (rA.mono (((l3.trans l4).trans l5).trans l6)).app (.cons r6 .nil), hnoW _, h6.2⟩
      exact In.alike (I6.heldPut hxD noC_lst) hl4.symm fun j hj => (hv4 j hj).symm
    · rw [if_neg hb'] at h5 ⊢
      exact ⟨by omega, ⟨s5.g, s5.H, Pu.wip s5.e vs, s5.w, s5.os⟩, ys, acc, rfl, L4.trans l5, In.alike I5 hl4.symm fun j hj => (hv4 j hj).symm, rA.mono ((l3.trans l4).trans l5), hnoW _, h5⟩
  · have hi' : i = ds.length := by omega
    subst hi'
    rw [List.drop_length] at h2
    exact .inl ⟨hJ.stop X _ σ s2 l2 I2, hQ D ys acc s2 (l1.trans l2) hxD I2 rA h2⟩
theorem snd_yes : SndT K c tYes pYes := fun X F σ s k Q I h hQ => hQ true s (Gh.le.refl _) I h
theorem tgt_name (j : Nat) : Tgt (gName j) [j] := fun v σ σ0 H Q hw h => by
  have e : wipe (σ.set j (some v)) [j] = wipe σ [j] := by simp [wipe]
  exact ⟨e.trans hw, h (e.trans hw)⟩
end
end Pu
namespace Pu
open PySem L2 Eng
def qI (C : Int → Int → Prop) (g : Int → Int → Dat) : Q2
  | .int i, .int j, k => C i j ∧ k (g i j)
  | _, _, _ => False
def qI0 (g : Int → Int → Dat) : Q2
  | .int i, .int j, k => k (g i j)
  | _, _, _ => False
def qAdd : Q2 := qI0 fun i j => .int (i + j)
def qSub : Q2 := qI0 fun i j => .int (i - j)
def qMul : Q2 := qI IntMulOk fun i j => .int (i * j)
def qDiv : Q2 := qI oDiv fun i j => .int (i / j)
def qMod : Q2 := qI (fun _ j => 0 < j) fun i j => .int (i % j)
def qPow : Q2 := qI oPow fun i j => .int (i ^ j.toNat)
def qShl : Q2 := qI CShl fun i j => .int (i * 2 ^ j.toNat)
def qShr : Q2 := qI (fun _ j => 0 ≤ j) fun i j => .int (i / 2 ^ j.toNat)
def qAnd : Q2 := qI0 fun i j => .int (Builtin.bitAnd i j)
def qOr : Q2 := qI0 fun i j => .int (Builtin.bitOr i j)
def qXor : Q2 := qI0 fun i j => .int (Builtin.bitXor i j)
def qLt : Q2 := qI0 fun i j => .bl (decide (i < j))
def qLe : Q2 := qI0 fun i j => .bl (decide (i ≤ j))
def qGt : Q2 := qI0 fun i j => .bl (decide (j < i))
def qGe : Q2 := qI0 fun i j => .bl (decide (j ≤ i))
def qNeg : Q1
  | .int i, k => k (.int (-i))
  | _, _ => False
def qEq : Q2
  | .int i, .int j, k => k (.bl (decide (i = j)))
  | .str i, .str j, k => k (.bl (decide (i = j)))
  | .bl i, .bl j, k => k (.bl (decide (i = j)))
  | _, _, _ => False
def qNe : Q2
  | .int i, .int j, k => k (.bl (!decide (i = j)))
  | .str i, .str j, k => k (.bl (!decide (i = j)))
  | .bl i, .bl j, k => k (.bl (!decide (i = j)))
  | _, _, _ => False
def qIx : Q2
  | .lst l, .int n, k => onSome (atI l n) k
  | .cst l, .int n, k => onSome (atI l n) k
  | .tup l, .int n, k => onSome (atI l n) k
  | _, _, _ => False
def qCat : Dat → Dat → (List Dat → Prop) → Prop
  | .lst l, .lst m, k => l.length + m.length ≤ sizeLine ∧ k (l ++ m)
  | _, _, _ => False
def qRep : Dat → Dat → (List Dat → Prop) → Prop
  | .lst l, .int n, k => (-(2 ^ 63) ≤ n ∧ n < 2 ^ 63 ∧ l.length * n.toNat ≤ sizeLine) ∧ k (List.replicate n.toNat l).flatten
  | _, _, _ => False
def qLen : QL
  | [.lst l], k => k (.int (l.length : Nat))
  | [.cst l], k => k (.int (l.length : Nat))
  | [.tup l], k => k (.int (l.length : Nat))
  | _, _ => False
def qAbs : QL
  | [.int n], k => k (.int (if n < 0 then -n else n))
  | _, _ => False
def qInt : QL
  | [.int n], k => k (.int n)
  | [.bl b], k => k (.int (if b then 1 else 0))
  | _, _ => False
def qMax2 : QL
  | [.int i, .int j], k => k (.int (if j > i then j else i))
  | _, _ => False
def qMin2 : QL
  | [.int i, .int j], k => k (.int (if j < i then j else i))
  | _, _ => False
def qList : List Dat → (List Dat → Prop) → Prop
  | [.lst l], k => k l
  | [.cst l], k => k l
  | [.tup l], k => k l
  | _, _ => False
def qTupL : QL
  | [.lst l], k => k (.tup l)
  | _, _ => False
section
variable {K : PySem.W.Frag} {c : Pc} {X : En} {F : List (Addr × HO)} {σ : L2.St} {s : Cf} {ta tb tc te : TE} {pa pb pc' pe : PE} {tr : TA} {pr : PA} {P : PSp} {sp : Sp} {E : XK} {i : Nat}
theorem snd_rI {C : Int → Int → Prop} {gv : Int → Int → V} {gd : Int → Int → Dat} (hg : ∀ i j (g : Gh), Rep K c g (gv i j) (gd i j)) : SndR2 K c (rI C gv) (qI C gd) := by
  intro X F σ s x y dx dy k Q I rx ry h hQ
  cases dx with
  | int i =>
    cases dy with
    | int j => exact ⟨i, j, rx.int, ry.int, h.1, hQ _ _ s (Gh.le.refl _) I rfl rfl (hg i j _) h.2⟩
    | _ => exact h.elim
  | _ => exact h.elim
theorem snd_rI0 {gv : Int → Int → V} {gd : Int → Int → Dat} (hg : ∀ i j (g : Gh), Rep K c g (gv i j) (gd i j)) : SndR2 K c (rI0 gv) (qI0 gd) := by
  intro X F σ s x y dx dy k Q I rx ry h hQ
  cases dx with
  | int i =>
    cases dy with
    | int j => exact ⟨i, j, rx.int, ry.int, hQ _ _ s (Gh.le.refl _) I rfl rfl (hg i j _) h⟩
    | _ => exact h.elim
  | _ => exact h.elim
theorem s_add : SndR2 K c Eng.rAdd qAdd := snd_rI0 fun _ _ _ => .int _
theorem s_sub : SndR2 K c Eng.rSub qSub := snd_rI0 fun _ _ _ => .int _
theorem s_mul : SndR2 K c Eng.rMul qMul := snd_rI fun _ _ _ => .int _
theorem s_mod : SndR2 K c Eng.rMod qMod := snd_rI fun _ _ _ => .int _
theorem s_shl : SndR2 K c Eng.rShl qShl := snd_rI fun _ _ _ => .int _
theorem s_shr : SndR2 K c Eng.rShr qShr := snd_rI fun _ _ _ => .int _
theorem s_lt : SndR2 K c Eng.rLt qLt := snd_rI0 fun _ _ _ => .bl _
theorem s_gt : SndR2 K c Eng.rGt qGt := snd_rI0 fun _ _ _ => .bl _
theorem s_ge : SndR2 K c Eng.rGe qGe := snd_rI0 fun _ _ _ => .bl _
theorem snd_neg (ha : SndE K c ta pa) : SndE K c (tUn Eng.rNeg ta) (pUn qNeg pa) := snd_un (fun s x d r k Q h hQ => by
  cases d with
  | int n => exact ⟨n, r.intI, hQ _ _ (.int _) h⟩
  | _ => exact h.elim) ha
theorem s_eq : SndR2 K c rEq qEq := by
  intro X F σ s x y dx dy k Q I rx ry h hQ
  cases dx with
  | int i =>
    cases dy with
    | int j => rw [rx.int, ry.int]; exact rd_eqI (hQ _ _ s (Gh.le.refl _) I rfl rfl (.bl _) h)
    | _ => exact h.elim
  | str i =>
    cases dy with
    | str j => rw [rx.str, ry.str]; exact rd_eqS (hQ _ _ s (Gh.le.refl _) I rfl rfl (.bl _) h)
    | _ => exact h.elim
  | bl i =>
    cases dy with
    | bl j => rw [rx.bl, ry.bl]; exact rd_eqB (hQ _ _ s (Gh.le.refl _) I rfl rfl (.bl _) h)
    | _ => exact h.elim
  | _ => exact h.elim
theorem s_ne : SndR2 K c rNe qNe := by
  intro X F σ s x y dx dy k Q I rx ry h hQ
  cases dx with
  | int i =>
    cases dy with
    | int j => rw [rx.int, ry.int]; exact rd_neI (hQ _ _ s (Gh.le.refl _) I rfl rfl (.bl _) h)
    | _ => exact h.elim
  | str i =>
    cases dy with
    | str j => rw [rx.str, ry.str]; exact rd_neS (hQ _ _ s (Gh.le.refl _) I rfl rfl (.bl _) h)
    | _ => exact h.elim
  | bl i =>
    cases dy with
    | bl j => rw [rx.bl, ry.bl]; exact rd_neB (hQ _ _ s (Gh.le.refl _) I rfl rfl (.bl _) h)
    | _ => exact h.elim
  | _ => exact h.elim
theorem reps_at {g : Gh} {vs : List V} {ds : List Dat} {n : Int} {d : Dat} (r : Reps K c g vs ds) (h : atI ds n = some d) : ∃ v, atI vs n = some v ∧ Rep K c g v d := by
  unfold atI at h ⊢
  rw [r.length]
  cases e : ixN ds.length n with
  | none => rw [e] at h; cases h
  | some j => rw [e] at h; exact r.get h
def qIxT : Q2
  | .tup l, .int n, k => onSome (atI l n) k
  | _, _, _ => False
def qIxL : Q2
  | .lst l, .int n, k => onSome (atI l n) k
  | .cst l, .int n, k => onSome (atI l n) k
  | _, _, _ => False
theorem s_ixL : SndR2 K c (rIxL K) qIxL := by
  intro X F σ s x y dx dy k Q I rx ry h hQ
  cases dx with
  | lst l =>
    cases dy with
    | int n =>
      obtain ⟨d, hd, h⟩ := onSome_of h
      obtain ⟨a, vs, rfl, hH, hR⟩ := rx.lst I
      obtain ⟨v, hv, rv⟩ := reps_at hR hd
      exact ⟨a, vs, n, v, rfl, ry.int, SqL.of hH, hv, hQ v d s (Gh.le.refl _) I rfl rfl rv h⟩
    | _ => exact h.elim
  | cst l =>
    cases dy with
    | int n =>
      obtain ⟨d, hd, h⟩ := onSome_of h
      obtain ⟨a, vs, rfl, hH, hR⟩ := rx.cst I
      obtain ⟨v, hv, rv⟩ := reps_at hR hd
      exact ⟨a, vs, n, v, rfl, ry.int, hH, hv, hQ v d s (Gh.le.refl _) I rfl rfl rv h⟩
    | _ => exact h.elim
  | _ => exact h.elim
theorem s_ixT : SndR2 K c (rIxT K) qIxT := by
  intro X F σ s x y dx dy k Q I rx ry h hQ
  cases dx with
  | tup l =>
    cases dy with
    | int n =>
      obtain ⟨d, hd, h⟩ := onSome_of h
      obtain ⟨a, vs, rfl, hH, hR⟩ := rx.tup I
      obtain ⟨v, hv, rv⟩ := reps_at hR hd
      exact ⟨a, vs, n, v, rfl, ry.int, hH, hv, hQ v d s (Gh.le.refl _) I rfl rfl rv h⟩
    | _ => exact h.elim
  | _ => exact h.elim
theorem s_ixA : SndR2 K c (rIxA K) qIx := by
  intro X F σ s x y dx dy k Q I rx ry h hQ
  cases dx with
  | lst l => exact .inl (s_ixL X F σ s x y _ dy k Q I rx ry (by cases dy <;> exact h) hQ)
  | cst l => exact .inl (s_ixL X F σ s x y _ dy k Q I rx ry (by cases dy <;> exact h) hQ)
  | tup l => exact .inr (s_ixT X F σ s x y _ dy k Q I rx ry (by cases dy <;> exact h) hQ)
  | _ => cases dy <;> exact h.elim
theorem s_cat : SndR2F K c rCat qCat := by
  intro X F σ s x y dx dy k Q I rx ry h hQ
  cases dx with
  | lst l =>
    cases dy with
    | lst m =>
      obtain ⟨a, vs, rfl, hH, hR⟩ := rx.lst I
      obtain ⟨b, ws, rfl, hH', hR'⟩ := ry.lst I
      refine ⟨a, b, vs, ws, rfl, rfl, hH, hH', by rw [hR.length, hR'.length]; exact h.1, fun p hp => ?_⟩
      exact hQ p _ _ ⟨s.g, upd s.H p (.lst (vs ++ ws)), s.e, s.w, s.os⟩ (Gh.le.refl _) (I.fresh hp) (I.newF hp) rfl rfl (hR.app hR') h.2
    | _ => exact h.elim
  | _ => exact h.elim
theorem s_rep : SndR2F K c rRep qRep := by
  intro X F σ s x y dx dy k Q I rx ry h hQ
  cases dx with
  | lst l =>
    cases dy with
    | int n =>
      obtain ⟨a, vs, rfl, hH, hR⟩ := rx.lst I
      refine ⟨a, n, vs, rfl, ry.int, hH, h.1.1, h.1.2.1, by rw [hR.length]; exact h.1.2.2, fun p hp => ?_⟩
      exact hQ p _ _ ⟨s.g, upd s.H p (.lst _), s.e, s.w, s.os⟩ (Gh.le.refl _) (I.fresh hp) (I.newF hp) rfl rfl (hR.rep n.toNat) h.2
    | _ => exact h.elim
  | _ => exact h.elim
theorem one_of {s : Cf} {vs : List V} {d : Dat} (r : Paired (RepW K c s) vs [d]) : ∃ v, vs = [v] ∧ RepW K c s v d := by
  cases r with
  | cons r t => cases t; exact ⟨_, rfl, r⟩
theorem s_len : SndRL K c (Eng.rLen K) qLen := by
  intro X F σ s vs ds k Q I r h hQ
  unfold qLen at h
  split at h
  · replace r := one_of r
    obtain ⟨v, rfl, r⟩ := r
    obtain ⟨a, vs, rfl, hH, hR⟩ := r.lst I
    exact ⟨a, vs, rfl, .inl (SqL.of hH), by rw [hR.length]; exact hQ _ _ s (Gh.le.refl _) I rfl rfl (.int _) h⟩
  · replace r := one_of r
    obtain ⟨v, rfl, r⟩ := r
    obtain ⟨a, vs, rfl, hH, hR⟩ := r.cst I
    exact ⟨a, vs, rfl, .inl hH, by rw [hR.length]; exact hQ _ _ s (Gh.le.refl _) I rfl rfl (.int _) h⟩
  · replace r := one_of r
    obtain ⟨v, rfl, r⟩ := r
    obtain ⟨a, vs, rfl, hH, hR⟩ := r.tup I
    exact ⟨a, vs, rfl, .inr hH, by rw [hR.length]; exact hQ _ _ s (Gh.le.refl _) I rfl rfl (.int _) h⟩
  · exact h.elim
theorem s_int : SndRL K c rInt qInt := by
  intro X F σ s vs ds k Q I r h hQ
  unfold qInt at h
  split at h
  · replace r := one_of r
    obtain ⟨v, rfl, r⟩ := r
    exact .inl ⟨_, by rw [r.int], hQ _ _ s (Gh.le.refl _) I rfl rfl (.int _) h⟩
  · replace r := one_of r
    obtain ⟨v, rfl, r⟩ := r
    exact .inr ⟨_, by rw [r.bl], hQ _ _ s (Gh.le.refl _) I rfl rfl (.int _) h⟩
  · exact h.elim
theorem two_of {s : Cf} {vs : List V} {ds : List Dat} (r : Paired (RepW K c s) vs ds) {i j : Int} (h : ds = [.int i, .int j]) : vs = [.int i, .int j] := by
  subst h
  cases r with
  | cons r t =>
    cases t with
    | cons r' t' =>
      cases t'
      rw [r.int, r'.int]
theorem s_max2 : SndRL K c rMax2 qMax2 := by
  intro X F σ s vs ds k Q I r h hQ
  unfold qMax2 at h
  split at h
  · rename_i i j
    exact ⟨i, j, two_of r rfl, hQ _ _ s (Gh.le.refl _) I rfl rfl (.int _) h⟩
  · exact h.elim
theorem s_min2 : SndRL K c rMin2 qMin2 := by
  intro X F σ s vs ds k Q I r h hQ
  unfold qMin2 at h
  split at h
  · rename_i i j
    exact ⟨i, j, two_of r rfl, hQ _ _ s (Gh.le.refl _) I rfl rfl (.int _) h⟩
  · exact h.elim
def pNoPart : PO := fun e w k => k none e w
def pPart (a : PE) : PO := fun e w k => a e w fun x e w => intOf x fun n => k (some n) e w
def cutD (ds : List Dat) (lo hi : Option Int) : List Dat := (ds.drop (HT.sIx ds.length 0 lo)).take (HT.sIx ds.length ds.length hi - HT.sIx ds.length 0 lo)
def pSlL (a : PE) (lo hi : PO) : PF := fun e w k => a e w fun x e w => lo e w fun l e w => hi e w fun u e w => lstOf x fun ds => k (cutD ds l u) e w
theorem snd_noPart : SndO K c tNoPart pNoPart := fun X F σ s k Q I h hQ => hQ none s (Gh.le.refl _) I h
theorem snd_part (ha : SndE K c ta pa) : SndO K c (tPart ta) (pPart pa) := by
  intro X F σ s k Q I h hQ
  refine ha X F σ s _ _ I h fun x dx s1 l1 I1 r1 h1 => ?_
  replace h1 := intOf_of h1
  obtain ⟨n, rfl, h1⟩ := h1
  exact ⟨n, r1.intI, hQ _ s1 l1 I1 h1⟩
theorem lstOf_of {d : Dat} {k : List Dat → Prop} (h : lstOf d k) : ∃ l, (d = .lst l ∨ d = .cst l) ∧ k l := by
  cases d with
  | lst l => exact ⟨l, .inl rfl, h⟩
  | cst l => exact ⟨l, .inr rfl, h⟩
  | _ => exact h.elim
theorem Rep.sqL {v : V} {d : Dat} {l : List Dat} (r : Rep K c s.g v d) (I : In K c X F σ s) (h : d = .lst l ∨ d = .cst l) : ∃ a vs, v = .ref a ∧ SqL K s.H a vs ∧ Reps K c s.g vs l := by
  rcases h with rfl | rfl
  · obtain ⟨a, vs, e, h1, h2⟩ := RepW.lst (.inl r) I
    exact ⟨a, vs, e, SqL.of h1, h2⟩
  · exact RepW.cst (.inl r) I
theorem reps_cut {g : Gh} {vs : List V} {ds : List Dat} (r : Reps K c g vs ds) (lo hi : Option Int) : Reps K c g (cutV vs lo hi) (cutD ds lo hi) := by
  unfold cutV cutD
  rw [r.length]
  exact (r.drop _).take _
theorem snd_slL {tlo thi : TO} {plo phi : PO} (ha : SndE K c ta pa) (h1 : SndO K c tlo plo) (h2 : SndO K c thi phi) : SndF K c (tSl (rSlL K) ta tlo thi) (pSlL pa plo phi) := by
  intro X F σ s k Q I h hQ
  refine ha X F σ s _ _ I h fun x dx s1 l1 I1 r1 h' => ?_
  refine h1 X F σ s1 _ _ I1 h' fun l s2 l2 I2 h' => ?_
  refine h2 X F σ s2 _ _ I2 h' fun u s3 l3 I3 h' => ?_
  obtain ⟨ds, hd, h'⟩ := lstOf_of h'
  obtain ⟨a, vs, rfl, hH, hR⟩ := ((r1.mono l2).mono l3).sqL I3 hd
  exact ⟨a, vs, rfl, hH, fun p hp => hQ p _ _ ⟨s3.g, upd s3.H p (.lst _), s3.e, s3.w, s3.os⟩ ((l1.trans l2).trans l3) (I3.fresh hp) (I3.newF hp) (reps_cut hR l u) h'⟩
def pRevL (a : PE) : PF := fun e w k => a e w fun x e w => lstOf x fun ds => k ds.reverse e w
def pRevT (a : PE) : PE := fun e w k => a e w fun x e w => tupOf x fun ds => k (.tup ds.reverse) e w
def dN (ds : List Nat) : List Dat := ds.map fun (d : Nat) => Dat.int (d : Int)
theorem reps_dN {g : Gh} : ∀ (ds : List Nat), Reps K c g (iN ds) (dN ds)
  | [] => .nil
  | d :: ds => .cons (.int _) (reps_dN ds)
theorem reps_iN {g : Gh} : ∀ {ds : List Nat} {vs : List V}, Reps K c g vs (dN ds) → vs = iN ds
  | [], _, .nil => rfl
  | _ :: ds, _, .cons h t => by rw [h.intI, reps_iN t]; rfl
def pWidthB (a : PE) : PE := fun e w k => a e w fun x e w => match x with | .big b _ => k (.int (b : Int)) e w | _ => False
def pSide (a : PE) : PE := fun e w k => a e w fun x e w => match x with | .big _ n => k (.int (sgn n)) e w | _ => False
def pRow (a : PE) : PE := fun e w k => a e w fun x e w => match x with | .big b n => k (.tup (dN (digs b n.natAbs))) e w | _ => False
def onM (w : Wld) (i : Nat) (k : Mach → Prop) : Prop := match w.ms[i]? with | some m => k m | none => False
theorem onM_of {w : Wld} {i : Nat} {k : Mach → Prop} (h : onM w i k) : ∃ m, w.ms[i]? = some m ∧ k m := by
  unfold onM at h
  cases e : w.ms[i]? with
  | none => rw [e] at h; exact h.elim
  | some m => rw [e] at h; exact ⟨m, rfl, h⟩
def pWidthM (a : PE) : PE := fun e w k => a e w fun x e w => match x with | .mach i => onM w i fun m => k (.int (m.b : Int)) e w | _ => False
def pCut (a : PE) : PE := fun e w k => a e w fun x e w => match x with | .mach i => onM w i fun m => k (.int m.cut) e w | _ => False
def pBase (a : PE) : PE := fun e w k => a e w fun x e w => match x with | .mach i => onM w i fun m => k (.int (2 ^ m.b)) e w | _ => False
theorem snd_side (PB : PB K c) (ha : SndE K c ta pa) : SndE K c (tFld K ta "side") (pSide pa) := by
  intro X F σ s k Q I h hQ
  refine ha X F σ s _ _ I h fun x dx s1 l1 I1 r1 h' => ?_
  cases dx with
  | big b n =>
    obtain ⟨a, rfl, hb⟩ := RepW.big (.inl r1) I1
    obtain ⟨dx, r, h1, h2⟩ := hb.at_
    exact rd_Bside PB h1 (hQ _ _ s1 l1 I1 (.int _) h')
  | _ => exact h'.elim
theorem snd_row (PB : PB K c) (ha : SndE K c ta pa) : SndE K c (tFld K ta "row") (pRow pa) := by
  intro X F σ s k Q I h hQ
  refine ha X F σ s _ _ I h fun x dx s1 l1 I1 r1 h' => ?_
  cases r1 with
  | big hb =>
    obtain ⟨dx, r, h1, h2⟩ := hb.at_
    exact rd_Brow PB (I1.wr.sub _ _ h1) (hQ _ _ s1 l1 I1 (.tup h2 (reps_dN _)) h')
  | _ => exact h'.elim
end
def pen (k : Dat → Wld → Prop) : PEnds := ⟨fun _ w => k .non w, fun d _ w => k d w, fun _ _ => False, fun _ _ => False⟩
def env0 (n : Nat) (ds : List Dat) : Env := ds.map Slot.val ++ List.replicate (n - ds.length) .no
section
variable {K : PySem.W.Frag} {c : Pc} {P : PSp} {vs : List V} {H : Hp} {Q : VK} {E : XK} {n : Nat} {t : TS} {p : PS}
theorem reps_env {X : En} {s : Cf} : ∀ {vs : List V} {ds : List Dat} {m : Nat} (r : Reps K c s.g vs ds) (i : Nat) (z : Slot), (ds.map Slot.val ++ List.replicate m .no)[i]? = some z → RSl K c X s i ((vs.map some ++ List.replicate m none : L2.St)[i]?) z
  | _, _, m, .nil, i, z, h => by
    simp only [List.map_nil, List.nil_append] at h ⊢
    have : z = .no := (List.mem_replicate.mp (List.mem_of_getElem? h)).2
    rw [this]; trivial
  | _, _, m, .cons r t, 0, z, h => by
    simp only [List.map_cons, List.cons_append, List.getElem?_cons_zero, Option.some.injEq] at h ⊢
    subst h
    exact ⟨_, rfl, r⟩
  | _, _, m, .cons r t, i + 1, z, h => by
    simp only [List.map_cons, List.cons_append, List.getElem?_cons_succ] at h ⊢
    have := reps_env (X := X) t i z h
    cases z with
    | no => trivial
    | val d => exact this
    | own f l =>
      exfalso
      have := List.mem_of_getElem? h
      rcases List.mem_append.mp this with q | q
      · obtain ⟨d, _, e⟩ := List.mem_map.mp q; cases e
      · exact nomatch (List.mem_replicate.mp q).2
    | ownT l r =>
      exfalso
      have := List.mem_of_getElem? h
      rcases List.mem_append.mp this with q | q
      · obtain ⟨d, _, e⟩ := List.mem_map.mp q; cases e
      · exact nomatch (List.mem_replicate.mp q).2
theorem In.start {g : Gh} {w : Wld} {ds : List Dat} (W : Wr K c g H w) (r : Reps K c g vs ds) : In K c ⟨H, g, []⟩ [] (st0 n vs) ⟨g, H, env0 n ds, w, []⟩ := by
  have e : (⟨g, H, env0 n ds, w, []⟩ : Cf).mu [] = g.mu := by unfold Cf.mu; simp
  refine ⟨W, by rw [e]; exact W.nd, by rw [e]; exact W.off, ?_, fun i z hz => ?_, (fun q h => nomatch h), (fun q h => nomatch h), Gh.le.refl _, fun _ _ h _ _ => h, fun _ _ _ => rfl, by rw [e]; exact fun a ha => .inl ha, fun a o h => ⟨o, h⟩⟩
  · show (env0 n ds).length = (st0 n vs).length
    unfold env0 st0
    simp only [List.length_append, List.length_map, List.length_replicate, r.length]
  · have hz : (env0 n ds)[i]? = some z := hz
    unfold env0 at hz
    unfold st0
    rw [r.length]
    exact reps_env (s := ⟨g, H, env0 n ds, w, []⟩) r i z hz
theorem In.aft {g : Gh} {σ : L2.St} {s : Cf} (I : In K c ⟨H, g, []⟩ [] σ s) : Aft g H s.g s.H :=
  ⟨I.le, fun a o h n => I.keep a o h n (fun z => nomatch z), I.frz, fun a ha => by
    rcases I.new a (List.mem_append_left _ ha) with z | z | z
    · exact .inl z
    · cases z
    · exact .inr z, I.dom⟩
/-- a def keeps its promise -/
theorem def_ok (hs : SndS K c t p) (hP : ∀ ds w k, P ds w k → p (pen k) (env0 n ds) w) (h : lif K c P vs H Q E) : t (en0 Q) (st0 n vs) H := by
  obtain ⟨g, w, ds, k, W, r, hp, hq⟩ := h
  refine hs ⟨H, g, []⟩ [] (st0 n vs) ⟨g, H, env0 n ds, w, []⟩ _ _ (In.start W r) (hP ds w k hp) ⟨fun σ s l I h => ?_, fun σ s v d l I r h => ?_, fun _ _ _ _ h => h.elim, fun _ _ _ _ h => h.elim⟩
  · exact hq .non .non s.g s.H s.w I.aft I.wr .non h
  · exact hq v d s.g s.H s.w I.aft I.wr r h
end
end Pu
namespace Pu
open PySem L2 Eng
def gAdd (g : Gh) : List (Addr × HO) → Gh
  | [] => g
  | q :: ns => gUpd (gAdd g ns) q.1 q.2
theorem gAdd_ms (g : Gh) : ∀ ns, (gAdd g ns).ms = g.ms ∧ (gAdd g ns).ss = g.ss
  | [] => ⟨rfl, rfl⟩
  | _ :: ns => gAdd_ms g ns
theorem gAdd_os (g : Gh) : ∀ ns, (gAdd g ns).os = g.os ∧ (gAdd g ns).ts = g.ts
  | [] => ⟨rfl, rfl⟩
  | _ :: ns => gAdd_os g ns
theorem gAdd_mu (g : Gh) (ns : List (Addr × HO)) : (gAdd g ns).mu = g.mu := by unfold Gh.mu Gh.ot; rw [(gAdd_ms g ns).1, (gAdd_ms g ns).2, (gAdd_os g ns).1, (gAdd_os g ns).2]
theorem gAdd_get {g : Gh} : ∀ {ns : List (Addr × HO)} {a : Addr} {o : HO}, (gAdd g ns).G a = some o → (a, o) ∈ ns ∨ g.G a = some o
  | [], _, _, h => .inr h
  | q :: ns, a, o, h => by
    have h : upd (gAdd g ns).G q.1 q.2 a = some o := h
    by_cases e : a = q.1
    · subst e; rw [upd_same] at h; cases h; exact .inl List.mem_cons_self
    · rw [upd_ne e] at h
      rcases gAdd_get h with z | z
      · exact .inl (List.mem_cons_of_mem _ z)
      · exact .inr z
theorem gAdd_out {g : Gh} : ∀ {ns : List (Addr × HO)} {a : Addr}, a ∉ ns.map (·.1) → (gAdd g ns).G a = g.G a
  | [], _, _ => rfl
  | q :: ns, a, h => by
    show upd (gAdd g ns).G q.1 q.2 a = _
    rw [upd_ne (fun e => h (by rw [e]; exact List.mem_cons_self)), gAdd_out fun z => h (List.mem_cons_of_mem _ z)]
theorem gAdd_in {g : Gh} : ∀ {ns : List (Addr × HO)} {q : Addr × HO}, (ns.map (·.1)).Nodup → q ∈ ns → (gAdd g ns).G q.1 = some q.2
  | p :: ns, q, hn, h => by
    show upd (gAdd g ns).G p.1 p.2 q.1 = _
    have hp := List.nodup_cons.mp (show (p.1 :: ns.map (·.1)).Nodup from hn)
    rcases List.mem_cons.mp h with rfl | h
    · exact upd_same
    · rw [upd_ne (fun (e : q.1 = p.1) => hp.1 (by rw [← e]; exact List.mem_map.mpr ⟨q, h, rfl⟩))]
      exact gAdd_in hp.2 h
section
variable {K : PySem.W.Frag} {c : Pc} {g : Gh} {H H' : Hp} {w w' : Wld} {cs ns fr : List (Addr × HO)} {i j : Nat}
theorem gAdd_le (h : ∀ q ∈ fr, g.G q.1 = none) : g.le (gAdd g fr) := by
  refine ⟨fun a o e => ?_, fun i q e => by rw [(gAdd_ms g fr).1]; exact e, fun i q e => by rw [(gAdd_ms g fr).2]; exact e, fun i q e => by rw [(gAdd_os g fr).1]; exact e, (gAdd_os g fr).2⟩
  rw [gAdd_out]
  · exact e
  · intro z
    obtain ⟨q, hq, rfl⟩ := List.mem_map.mp z
    rw [h q hq] at e; cases e
theorem Wr.noG (W : Wr K c g H w) {a : Addr} (h : H a = none) : g.G a = none := by
  cases e : g.G a with
  | none => rfl
  | some o => rw [W.sub a o e] at h; cases h
theorem Wr.go (W : Wr K c g H w) (ch : Chg H H' cs ns) (hcs : ∀ a ∈ cs.map (·.1), a ∈ g.mu) (hal : ∀ q ∈ cs, ∃ o, H' q.1 = some o) (hfr : ∀ q ∈ fr, q ∈ ns) (hl : w'.ms.length = w.ms.length) (hss : w'.ss = w.ss)
    (hm : g.le (gAdd g fr) → ∀ (i : Nat) q m', g.ms[i]? = some q → w'.ms[i]? = some m' → MRep K c (gAdd g fr) H' q m') (hs : ∀ a ∈ g.ss, ∃ o, H' a = some o ∧ SrcO o) (hol : w'.os.length = w.os.length) (ho : g.le (gAdd g fr) → ∀ (i : Nat) a o, g.os[i]? = some a → w'.os[i]? = some o → ORep K c (gAdd g fr) H' a o) (hts : ∀ p ∈ g.ts, p.1 ∉ cs.map (·.1)) : Wr K c (gAdd g fr) H' w' ∧ Aft g H (gAdd g fr) H' := by
  have hnew : ∀ q ∈ fr, H q.1 = none := fun q hq => (ch.new (a := q.1) (o := q.2) (hfr q hq)).1
  have le := gAdd_le (g := g) fun q hq => W.noG (hnew q hq)
  have hG : ∀ a ∈ g.mu, g.G a = none := W.off
  have hout : ∀ a o, H a = some o → a ∉ fr.map (·.1) := fun a o e z => by
    obtain ⟨q, hq, rfl⟩ := List.mem_map.mp z
    rw [hnew q hq] at e; cases e
  have hnd := W.nd
  refine ⟨⟨fun a o e => ?_, by rw [gAdd_mu]; exact W.nd, fun a ha => ?_, by rw [(gAdd_ms g fr).1, hl]; exact W.mlen, fun i q m' h1 h2 => hm le i q m' (by rw [(gAdd_ms g fr).1] at h1; exact h1) h2, fun a ha => hs a (by rw [(gAdd_ms g fr).2] at ha; exact ha), by rw [(gAdd_ms g fr).2, hss]; exact W.nss, by rw [(gAdd_os g fr).1, hol]; exact W.olen, fun i a o h1 h2 => ho le i a o (by rw [(gAdd_os g fr).1] at h1; exact h1) h2, by rw [(gAdd_os g fr).2]; exact tabs_mono W.tabs le.G fun p hp => by obtain ⟨ps, e, _⟩ := W.tabs p hp; rw [e]; exact ch.keep _ _ e (hts p hp), by rw [(gAdd_os g fr).2]; exact W.hts⟩, le, fun a o e n => ?_, fun a o e => gAdd_out (hout a o e), fun a ha => by rw [gAdd_mu] at ha; exact .inl ha, fun a o e => ?_⟩
  · rcases gAdd_get e with z | z
    · exact (ch.new (hfr _ z)).2
    · refine ch.keep a o (W.sub a o z) fun q => ?_
      rw [hG a (hcs a q)] at z; cases z
  · rw [gAdd_mu] at ha
    obtain ⟨o, e⟩ := W.muAt ha
    rw [gAdd_out (hout a o e)]; exact hG a ha
  · exact ch.keep a o e fun q => n (hcs a q)
  · by_cases q : a ∈ cs.map (·.1)
    · obtain ⟨p, hp, rfl⟩ := List.mem_map.mp q
      exact hal p hp
    · exact ⟨o, ch.keep a o e q⟩
theorem Wr.oKeep (W : Wr K c g H w) (ch : Chg H H' cs ns) {g' : Gh} (le : g.le g') {i : Nat} {a : Addr} {o : Obj} (h1 : g.os[i]? = some a) (h2 : w.os[i]? = some o) (hn : a ∉ cs.map (·.1)) : ORep K c g' H' a o := by
  have h := W.objs i a o h1 h2
  obtain ⟨u, e⟩ := W.muAt (mem_mu4 (List.mem_of_getElem? h1))
  exact h.mono le ((ch.keep a u e hn).trans e.symm)
/-- only new things -/
theorem Wr.go0 (W : Wr K c g H w) (ch : Chg H H' [] ns) : Wr K c (gAdd g ns) H' w ∧ Aft g H (gAdd g ns) H' := by
  refine W.go ch (fun a h => nomatch h) (fun q h => nomatch h) (fun q h => h) rfl rfl (fun le i q m' h1 h2 => ?_) (fun a ha => ?_) rfl ?_ ?_
  · have h := W.mach i q m' h1 h2
    obtain ⟨vs, h3, _⟩ := h.wlk
    exact h.mono le (by rw [h.cnt]; exact ch.keep _ _ h.cnt (fun z => nomatch z)) (by rw [h3]; exact ch.keep _ _ h3 (fun z => nomatch z))
  · obtain ⟨o, h1, h2⟩ := W.srcs a ha
    exact ⟨o, ch.keep _ _ h1 (fun z => nomatch z), h2⟩
  · exact fun le i a o h1 h2 => W.oKeep ch le h1 h2 (fun z => nomatch z)
  · exact fun p hp z => nomatch z
theorem Wr.goS (W : Wr K c g H w) (s : Same H H') : Wr K c g H' w ∧ Aft g H g H' := W.go0 (Chg.of_same s)
theorem nd_map {α : Type} {f : α → Addr} : ∀ {l : List α} {i j : Nat} {x y : α}, (l.map f).Nodup → l[i]? = some x → l[j]? = some y → f x = f y → i = j
  | l, i, j, x, y, hn, h1, h2, e => by
    have g1 : (l.map f)[i]? = some (f x) := by rw [List.getElem?_map, h1]; rfl
    have g2 : (l.map f)[j]? = some (f x) := by rw [List.getElem?_map, h2, e]; rfl
    have hi : i < (l.map f).length := (List.getElem?_eq_some_iff.mp g1).1
    exact (List.getElem?_inj hi hn).mp (g1.trans g2.symm)
theorem Wr.dne (W : Wr K c g H w) {q p : Addr × Addr × Addr} (h1 : g.ms[i]? = some q) (h2 : g.ms[j]? = some p) (ne : i ≠ j) : q.2.1 ≠ p.2.1 := fun e => ne (nd_map (f := fun q : Addr × Addr × Addr => q.2.1) (List.nodup_append.mp W.nd).1 h1 h2 e)
theorem Wr.ene (W : Wr K c g H w) {q p : Addr × Addr × Addr} (h1 : g.ms[i]? = some q) (h2 : g.ms[j]? = some p) (ne : i ≠ j) : q.2.2 ≠ p.2.2 := fun e => ne (nd_map (f := fun q : Addr × Addr × Addr => q.2.2) (List.nodup_append.mp (List.nodup_append.mp W.nd).2.1).1 h1 h2 e)
theorem Wr.de (W : Wr K c g H w) {q p : Addr × Addr × Addr} (h1 : g.ms[i]? = some q) (h2 : g.ms[j]? = some p) : q.2.1 ≠ p.2.2 := fun e => (List.nodup_append.mp W.nd).2.2 q.2.1 (List.mem_map.mpr ⟨q, List.mem_of_getElem? h1, rfl⟩) p.2.2 (List.mem_append_left _ (List.mem_map.mpr ⟨p, List.mem_of_getElem? h2, rfl⟩)) e
theorem Wr.ds (W : Wr K c g H w) {q : Addr × Addr × Addr} {a : Addr} (h1 : g.ms[i]? = some q) (h2 : a ∈ g.ss) : q.2.1 ≠ a := fun e => (List.nodup_append.mp W.nd).2.2 q.2.1 (List.mem_map.mpr ⟨q, List.mem_of_getElem? h1, rfl⟩) a (List.mem_append_right _ (List.mem_append_left _ h2)) e
theorem Wr.es (W : Wr K c g H w) {q : Addr × Addr × Addr} {a : Addr} (h1 : g.ms[i]? = some q) (h2 : a ∈ g.ss) : q.2.2 ≠ a := fun e => (List.nodup_append.mp (List.nodup_append.mp W.nd).2.1).2.2 q.2.2 (List.mem_map.mpr ⟨q, List.mem_of_getElem? h1, rfl⟩) a (List.mem_append_left _ h2) e
theorem Wr.dot (W : Wr K c g H w) {q : Addr × Addr × Addr} {a : Addr} (h1 : g.ms[i]? = some q) (h2 : a ∈ g.ot) : q.2.1 ≠ a := fun e => (List.nodup_append.mp W.nd).2.2 q.2.1 (List.mem_map.mpr ⟨q, List.mem_of_getElem? h1, rfl⟩) a (List.mem_append_right _ (List.mem_append_right _ h2)) e
theorem Wr.eot (W : Wr K c g H w) {q : Addr × Addr × Addr} {a : Addr} (h1 : g.ms[i]? = some q) (h2 : a ∈ g.ot) : q.2.2 ≠ a := fun e => (List.nodup_append.mp (List.nodup_append.mp W.nd).2.1).2.2 q.2.2 (List.mem_map.mpr ⟨q, List.mem_of_getElem? h1, rfl⟩) a (List.mem_append_right _ h2) e
theorem Wr.sot (W : Wr K c g H w) {b a : Addr} (h1 : b ∈ g.ss) (h2 : a ∈ g.ot) : b ≠ a := fun e => (List.nodup_append.mp (List.nodup_append.mp (List.nodup_append.mp W.nd).2.1).2.1).2.2 b h1 a h2 e
theorem mem_ot1 {a : Addr} (h : a ∈ g.os) : a ∈ g.ot := List.mem_append_left _ h
theorem mem_ot2 {p : Addr × Str} (h : p ∈ g.ts) : p.1 ∈ g.ot := List.mem_append_right _ (List.mem_map.mpr ⟨p, h, rfl⟩)
/-- machine i is now m -/
def Wld.put (w : Wld) (i : Nat) (m : Mach) : Wld := ⟨w.ms.set i m, w.ss, w.os⟩
/-- what is changed lies at machine i -/
theorem Wr.goM (W : Wr K c g H w) {q : Addr × Addr × Addr} {m : Mach} (hi : g.ms[i]? = some q) (ch : Chg H H' cs ns) (hcs : ∀ a ∈ cs.map (·.1), a = q.2.1 ∨ a = q.2.2) (hal : ∀ q ∈ cs, ∃ o, H' q.1 = some o) (hfr : ∀ q ∈ fr, q ∈ ns) (hm : g.le (gAdd g fr) → MRep K c (gAdd g fr) H' q m) : Wr K c (gAdd g fr) H' (w.put i m) ∧ Aft g H (gAdd g fr) H' := by
  refine W.go ch (fun a ha => ?_) hal hfr (by show (w.ms.set i m).length = _; rw [List.length_set]) rfl (fun le j p m' h1 h2 => ?_) (fun a ha => ?_) rfl (fun le j a o h1 h2 => W.oKeep ch le h1 h2 fun z => ?_) fun p hp z => ?_
  · rcases hcs a ha with rfl | rfl
    · exact mem_mu1 hi
    · exact mem_mu2 hi
  · rcases set_get (show (w.ms.set i m)[j]? = some m' from h2) with ⟨rfl, rfl⟩ | ⟨ne, h2'⟩
    · rw [hi] at h1; cases h1; exact hm le
    · have h := W.mach j p m' h1 h2'
      obtain ⟨vs, h3, _⟩ := h.wlk
      refine h.mono le ?_ ?_
      · rw [h.cnt]
        refine ch.keep _ _ h.cnt fun z => ?_
        rcases hcs _ z with e | e
        · exact W.dne h1 hi ne e
        · exact W.de h1 hi e
      · rw [h3]
        refine ch.keep _ _ h3 fun z => ?_
        rcases hcs _ z with e | e
        · exact W.de hi h1 e.symm
        · exact W.ene h1 hi ne e
  · obtain ⟨o, h1, h2⟩ := W.srcs a ha
    refine ⟨o, ch.keep _ _ h1 fun z => ?_, h2⟩
    rcases hcs _ z with e | e
    · exact W.ds hi ha e.symm
    · exact W.es hi ha e.symm
  · rcases hcs _ z with e | e
    · exact W.dot hi (mem_ot1 (List.mem_of_getElem? h1)) e.symm
    · exact W.eot hi (mem_ot1 (List.mem_of_getElem? h1)) e.symm
  · rcases hcs _ z with e | e
    · exact W.dot hi (mem_ot2 hp) e.symm
    · exact W.eot hi (mem_ot2 hp) e.symm
/-- a source's draws -/
theorem Wr.goR (W : Wr K c g H w) {a : Addr} {o : HO} (hi : g.ss[i]? = some a) (ch : Chg H H' [(a, o)] ns) (ho : SrcO o) (hfr : ∀ q ∈ fr, q ∈ ns) : Wr K c (gAdd g fr) H' w ∧ Aft g H (gAdd g fr) H' := by
  have hm := List.mem_of_getElem? hi
  refine W.go ch (fun b hb => ?_) (fun q hq => ?_) hfr rfl rfl (fun le j p m' h1 h2 => ?_) (fun b hb => ?_) rfl (fun le j b o h1 h2 => W.oKeep ch le h1 h2 fun z => W.sot hm (mem_ot1 (List.mem_of_getElem? h1)) (List.mem_singleton.mp z).symm) fun p hp z => W.sot hm (mem_ot2 hp) (List.mem_singleton.mp z).symm
  · rw [List.mem_singleton.mp hb]; exact mem_mu3 hm
  · rw [List.mem_singleton.mp hq]; exact ⟨o, ch.chg List.mem_cons_self⟩
  · have h := W.mach j p m' h1 h2
    obtain ⟨vs, h3, _⟩ := h.wlk
    refine h.mono le ?_ ?_
    · rw [h.cnt]; exact ch.keep _ _ h.cnt fun z => W.ds h1 hm (List.mem_singleton.mp z)
    · rw [h3]; exact ch.keep _ _ h3 fun z => W.es h1 hm (List.mem_singleton.mp z)
  · by_cases e : b = a
    · subst e; exact ⟨o, ch.chg List.mem_cons_self, ho⟩
    · obtain ⟨o', h1, h2⟩ := W.srcs b hb
      exact ⟨o', ch.keep _ _ h1 fun z => e (List.mem_singleton.mp z), h2⟩
/-- a further machine -/
theorem Wr.addM (W : Wr K c g H w) {x dx d e : Addr} {b : Nat} {cut : Int} (hx : g.G x = some (.ins c.CMachine dx (mF b cut d e))) (hd : H d = some (.dK (cK zeros))) (he : H e = some (.lst [])) (nd : d ∉ g.mu) (ne : e ∉ g.mu) (gd : g.G d = none) (ge : g.G e = none) : Wr K c ⟨g.G, g.ms ++ [(x, d, e)], g.ss, g.os, g.ts⟩ H ⟨w.ms ++ [⟨b, cut, zeros, []⟩], w.ss, w.os⟩ := by
  have de : d ≠ e := fun z => by rw [z, he] at hd; cases hd
  have le : g.le ⟨g.G, g.ms ++ [(x, d, e)], g.ss, g.os, g.ts⟩ := ⟨fun _ _ h => h, fun i q h => by
    show (g.ms ++ [(x, d, e)])[i]? = some q
    rw [List.getElem?_append_left (List.getElem?_eq_some_iff.mp h).1]; exact h, fun _ _ h => h, fun _ _ h => h, rfl⟩
  have hmu : (⟨g.G, g.ms ++ [(x, d, e)], g.ss, g.os, g.ts⟩ : Gh).mu.Perm (d :: e :: g.mu) := by
    unfold Gh.mu
    simp only [List.map_append, List.map_cons, List.map_nil, List.append_assoc, List.cons_append, List.nil_append]
    refine List.perm_middle.trans (List.Perm.cons _ ?_)
    rw [← List.append_assoc]
    refine List.perm_middle.trans (List.Perm.cons _ ?_)
    rw [List.append_assoc]
    exact List.Perm.refl _
  refine ⟨W.sub, hmu.nodup_iff.mpr (List.nodup_cons.mpr ⟨fun z => ?_, List.nodup_cons.mpr ⟨ne, W.nd⟩⟩), fun a ha => ?_, by show (g.ms ++ [(x, d, e)]).length = (w.ms ++ [_]).length; simp only [List.length_append, W.mlen]; rfl, fun i q m h1 h2 => ?_, W.srcs, W.nss, W.olen, fun i a o h1 h2 => (W.objs i a o h1 h2).mono le rfl, W.tabs, W.hts⟩
  · rcases List.mem_cons.mp z with z | z
    · exact de z
    · exact nd z
  · rcases List.mem_cons.mp (hmu.mem_iff.mp ha) with rfl | z
    · exact gd
    · rcases List.mem_cons.mp z with rfl | z
      · exact ge
      · exact W.off a z
  · by_cases hi : i < g.ms.length
    · have h1 : (g.ms ++ [(x, d, e)])[i]? = some q := h1
      have h2 : (w.ms ++ [_])[i]? = some m := h2
      rw [List.getElem?_append_left hi] at h1
      rw [List.getElem?_append_left (by rw [← W.mlen]; exact hi)] at h2
      exact (W.mach i q m h1 h2).mono le rfl rfl
    · have h1 : (g.ms ++ [(x, d, e)])[i]? = some q := h1
      have h2 : (w.ms ++ [_])[i]? = some m := h2
      have hlt := (List.getElem?_eq_some_iff.mp h1).1
      simp only [List.length_append, List.length_cons, List.length_nil] at hlt
      have hi' : i = g.ms.length := by omega
      subst hi'
      rw [List.getElem?_concat_length] at h1
      rw [W.mlen, List.getElem?_concat_length] at h2
      cases h1; cases h2
      exact ⟨⟨dx, hx⟩, hd, rfl, ⟨[], he, .nil⟩, Nat.zero_le _⟩
/-- a further source -/
theorem Wr.addS (W : Wr K c g H w) {a : Addr} {o : HO} (ha : H a = some o) (ho : SrcO o) (na : a ∉ g.mu) (ga : g.G a = none) : Wr K c ⟨g.G, g.ms, g.ss ++ [a], g.os, g.ts⟩ H ⟨w.ms, w.ss + 1, w.os⟩ := by
  have le : g.le ⟨g.G, g.ms, g.ss ++ [a], g.os, g.ts⟩ := ⟨fun _ _ h => h, fun _ _ h => h, fun i q h => by
    show (g.ss ++ [a])[i]? = some q
    rw [List.getElem?_append_left (List.getElem?_eq_some_iff.mp h).1]; exact h, fun _ _ h => h, rfl⟩
  have hmu : (⟨g.G, g.ms, g.ss ++ [a], g.os, g.ts⟩ : Gh).mu.Perm (a :: g.mu) := by
    unfold Gh.mu
    show (g.ms.map (·.2.1) ++ (g.ms.map (·.2.2) ++ ((g.ss ++ [a]) ++ g.ot))).Perm (a :: (g.ms.map (·.2.1) ++ (g.ms.map (·.2.2) ++ (g.ss ++ g.ot))))
    rw [List.append_assoc, List.singleton_append, ← List.append_assoc, ← List.append_assoc, ← List.append_assoc, ← List.append_assoc]
    exact List.perm_middle
  refine ⟨W.sub, hmu.nodup_iff.mpr (List.nodup_cons.mpr ⟨na, W.nd⟩), fun b hb => ?_, W.mlen, fun i q m h1 h2 => (W.mach i q m h1 h2).mono le rfl rfl, fun b hb => ?_, by show (g.ss ++ [a]).length = _; rw [List.length_append, W.nss]; rfl, W.olen, fun i a o h1 h2 => (W.objs i a o h1 h2).mono le rfl, W.tabs, W.hts⟩
  · rcases List.mem_cons.mp (hmu.mem_iff.mp hb) with rfl | z
    · exact ga
    · exact W.off b z
  · rcases List.mem_append.mp hb with z | z
    · exact W.srcs b z
    · rw [List.mem_singleton.mp z]; exact ⟨o, ha, ho⟩
end
end Pu
namespace Pu
open PySem L2 Eng
def Mach.cnt (m : Mach) (j : Nat) (v : Int) : Mach := { m with ns := m.ns.modify j (· + v) }
def Mach.ent (m : Mach) (s : Str) (a b : Int) : Mach := { m with walk := if m.walk.length < 1000 then m.walk ++ [(s, a, b)] else m.walk }
def Mach.rst (m : Mach) : Mach := { m with ns := zeros, walk := [] }
def P_Machine_count : PSp := fun ds w k => match ds with
  | [.mach i, .str s, .int v] => onM w i fun m => ∃ j, words[j]? = some s ∧ k .non (w.put i (m.cnt j v))
  | _ => False
def P_Machine_reset : PSp := fun ds w k => match ds with
  | [.mach i] => onM w i fun m => k .non (w.put i m.rst)
  | _ => False
def P_Machine_parts : PSp := fun ds w k => match ds with
  | [.mach i] => onM w i fun m => k (.tup [.int (m.b : Int), .int m.cut]) w
  | _ => False
def P_Machine_walk : PSp := fun ds w k => match ds with
  | [.mach i] => onM w i fun m => k (.lst (m.walk.map dW)) w
  | _ => False
def dRows (ns : List Int) : List Dat := List.zipWith (fun (s : Str) n => Dat.tup [.str s, .int n]) words ns
def P_Machine_tally : PSp := fun ds w k => match ds with
  | [.mach i] => onM w i fun m => k (.lst (dRows m.ns)) w
  | _ => False
def P_check_machine : PSp := fun ds w k => match ds with
  | [.mach i] => onM w i fun _ => k .non w
  | _ => False
section
variable {K : PySem.W.Frag} {c : Pc}
theorem modify_set {ns : List Int} {j : Nat} {v : Int} (h : j < ns.length) : ns.set j (ns[j] + v) = ns.modify j (· + v) := by
  apply List.ext_getElem?
  intro i
  rw [List.getElem?_modify, List.getElem?_set]
  by_cases e : j = i
  · subst e; simp [h]
  · simp [e]
theorem one_arg {g : Gh} {vs : List V} {d : Dat} (r : Reps K c g vs [d]) : ∃ v, vs = [v] ∧ Rep K c g v d := by
  cases r with
  | cons r t => cases t; exact ⟨_, rfl, r⟩
theorem two_arg {g : Gh} {vs : List V} {d e : Dat} (r : Reps K c g vs [d, e]) : ∃ v v', vs = [v, v'] ∧ Rep K c g v d ∧ Rep K c g v' e := by
  cases r with
  | cons r t =>
    obtain ⟨v, rfl, h⟩ := one_arg t
    exact ⟨_, _, rfl, r, h⟩
theorem three_arg {g : Gh} {vs : List V} {d e f : Dat} (r : Reps K c g vs [d, e, f]) : ∃ v v' v'', vs = [v, v', v''] ∧ Rep K c g v d ∧ Rep K c g v' e ∧ Rep K c g v'' f := by
  cases r with
  | cons r t =>
    obtain ⟨v, v', rfl, h, h'⟩ := two_arg t
    exact ⟨_, _, _, rfl, r, h, h'⟩
theorem u_Machine_count : SndP K c (sp_Machine_count K c) P_Machine_count := by
  intro g H w vs ds k Q E W r h hQ
  unfold P_Machine_count at h
  split at h
  · rename_i i s v
    obtain ⟨m, hm, j, hj, h⟩ := onM_of h
    obtain ⟨a, b, d, rfl, r1, r2, r3⟩ := three_arg r
    obtain ⟨q, m', dx, hq, hm', rfl, hi, M⟩ := W.ins r1
    rw [hm] at hm'; cases hm'
    have hlt : j < m.ns.length := by rw [M.ten]; exact (List.getElem?_eq_some_iff.mp hj).1
    refine ⟨q.1, dx, m.b, m.cut, q.2.1, q.2.2, m.ns, s, j, m.ns[j]'hlt, v, by rw [r2.strI, r3.intI], hi, M.cnt, M.ten, hj, List.getElem?_eq_getElem hlt, fun H' ch => ?_⟩
    have e : m.ns.set j (m.ns[j]'hlt + v) = m.ns.modify j (· + v) := modify_set hlt
    rw [e] at ch
    obtain ⟨vs, hw1, hw2⟩ := M.wlk
    obtain ⟨W', A⟩ := W.goM (fr := []) (m := m.cnt j v) hq ch (fun a ha => .inl (List.mem_singleton.mp ha)) (fun q hq => by rw [List.mem_singleton.mp hq]; exact ⟨_, ch.chg List.mem_cons_self⟩) (fun _ z => nomatch z) fun _ => ⟨M.ins, ch.chg List.mem_cons_self, by show (m.ns.modify j _).length = 10; rw [List.length_modify]; exact M.ten, ⟨vs, ch.keep _ _ hw1 fun z => W.de hq hq (List.mem_singleton.mp z).symm, hw2⟩, M.few⟩
    exact hQ .non .non g H' _ A W' .non h
  · exact h.elim
theorem u_Machine_reset : SndP K c (sp_Machine_reset K c) P_Machine_reset := by
  intro g H w vs ds k Q E W r h hQ
  unfold P_Machine_reset at h
  split at h
  · rename_i i
    obtain ⟨m, hm, h⟩ := onM_of h
    obtain ⟨a, rfl, r1⟩ := one_arg r
    obtain ⟨q, m', dx, hq, hm', rfl, hi, M⟩ := W.ins r1
    rw [hm] at hm'; cases hm'
    obtain ⟨vs, hw1, hw2⟩ := M.wlk
    refine ⟨q.1, dx, m.b, m.cut, q.2.1, q.2.2, m.ns, vs, rfl, hi, M.cnt, M.ten, hw1, fun H' ch => ?_⟩
    obtain ⟨W', A⟩ := W.goM (fr := []) (m := m.rst) hq ch (fun a ha => by
      simp only [List.map_cons, List.map_nil, List.mem_cons, List.not_mem_nil, or_false] at ha
      exact ha) (fun q hq => ⟨q.2, ch.chg hq⟩) (fun _ z => nomatch z) fun _ => ⟨M.ins, ch.chg List.mem_cons_self, rfl, ⟨[], ch.chg (List.mem_cons_of_mem _ List.mem_cons_self), .nil⟩, Nat.zero_le _⟩
    exact hQ .non .non g H' _ A W' .non h
  · exact h.elim
theorem u_Machine_parts : SndP K c (sp_Machine_parts K c) P_Machine_parts := by
  intro g H w vs ds k Q E W r h hQ
  unfold P_Machine_parts at h
  split at h
  · rename_i i
    obtain ⟨m, hm, h⟩ := onM_of h
    obtain ⟨a, rfl, r1⟩ := one_arg r
    obtain ⟨q, m', dx, hq, hm', rfl, hi, M⟩ := W.ins r1
    rw [hm] at hm'; cases hm'
    refine ⟨q.1, dx, m.b, m.cut, q.2.1, q.2.2, rfl, hi, fun p H' ch => ?_⟩
    obtain ⟨W', A⟩ := W.go0 ch
    exact hQ _ _ _ H' w A W' (.tup (gAdd_in (q := (p, _)) ch.nd List.mem_cons_self) (.cons (.int _) (.cons (.int _) .nil))) h
  · exact h.elim
theorem u_Machine_walk : SndP K c (sp_Machine_walk K c) P_Machine_walk := by
  intro g H w vs ds k Q E W r h hQ
  unfold P_Machine_walk at h
  split at h
  · rename_i i
    obtain ⟨m, hm, h⟩ := onM_of h
    obtain ⟨a, rfl, r1⟩ := one_arg r
    obtain ⟨q, m', dx, hq, hm', rfl, hi, M⟩ := W.ins r1
    rw [hm] at hm'; cases hm'
    obtain ⟨vs, hw1, hw2⟩ := M.wlk
    refine ⟨q.1, dx, m.b, m.cut, q.2.1, q.2.2, vs, rfl, hi, hw1, fun p H' ch => ?_⟩
    obtain ⟨W', A⟩ := W.go0 ch
    exact hQ _ _ _ H' w A W' (.lst (gAdd_in (q := (p, _)) ch.nd List.mem_cons_self) (hw2.mono A.le)) h
  · exact h.elim
theorem reps_rows {g : Gh} : ∀ {ws : List Str} {ns : List Int} {ps : List Addr} {n : Nat}, ws.length = n → ns.length = n → ps.length = n → (∀ (i : Nat) p t, ps[i]? = some p → (List.zipWith (fun (w : Str) n => [V.str w, V.int n]) ws ns)[i]? = some t → g.G p = some (.tup t)) → Reps K c g (ps.map V.ref) (List.zipWith (fun (s : Str) n => Dat.tup [.str s, .int n]) ws ns)
  | [], [], [], _, _, _, _, _ => .nil
  | s :: ws, m :: ns, p :: ps, n + 1, h1, h2, h3, h => .cons (.tup (h 0 p _ rfl rfl) (.cons (.str _) (.cons (.int _) .nil))) (reps_rows (n := n) (by simpa using h1) (by simpa using h2) (by simpa using h3) fun i q t e1 e2 => h (i + 1) q t e1 e2)
  | [], _ :: _, _, 0, _, h, _, _ => by simp at h
  | [], [], _ :: _, 0, _, _, h, _ => by simp at h
  | _ :: _, _, _, 0, h, _, _, _ => by simp at h
  | [], _, _, _ + 1, h, _, _, _ => by simp at h
  | _ :: _, [], _, _ + 1, _, h, _, _ => by simp at h
  | _ :: _, _ :: _, [], _ + 1, _, _, h, _ => by simp at h
theorem u_Machine_tally : SndP K c (sp_Machine_tally K c) P_Machine_tally := by
  intro g H w vs ds k Q E W r h hQ
  unfold P_Machine_tally at h
  split at h
  · rename_i i
    obtain ⟨m, hm, h⟩ := onM_of h
    obtain ⟨a, rfl, r1⟩ := one_arg r
    obtain ⟨q, m', dx, hq, hm', rfl, hi, M⟩ := W.ins r1
    rw [hm] at hm'; cases hm'
    refine ⟨q.1, dx, m.b, m.cut, q.2.1, q.2.2, m.ns, rfl, hi, M.cnt, M.ten, fun p ps H' hl ch => ?_⟩
    obtain ⟨W', A⟩ := W.go0 ch
    refine hQ _ _ _ H' w A W' (.lst (gAdd_in (q := (p, _)) ch.nd List.mem_cons_self) ?_) h
    refine reps_rows (n := 10) rfl M.ten hl fun i p' t e1 e2 => ?_
    exact gAdd_in (q := (p', HO.tup t)) ch.nd (List.mem_cons_of_mem _ (tl2_mem e1 e2))
  · exact h.elim
variable {ta : TE} {pa : PE} {tr : TA} {pr : PA} {E : XK}
theorem snd_widthM (PM : PM K c) (ha : SndE K c ta pa) : SndE K c (tFld K ta "width") (pWidthM pa) := by
  intro X F σ s k Q I h hQ
  refine ha X F σ s _ _ I h fun x dx s1 l1 I1 r1 h' => ?_
  cases dx with
  | mach i =>
    obtain ⟨m, hm, h'⟩ := onM_of h'
    obtain ⟨q, m', dx, hq, hm', rfl, hi, M⟩ := I1.wr.ins r1
    rw [hm] at hm'; cases hm'
    exact rd_Mwidth PM hi (hQ _ _ s1 l1 I1 (.int _) h')
  | _ => exact h'.elim
theorem snd_base (PM : PM K c) (ha : SndE K c ta pa) : SndE K c (tFld K ta "base") (pBase pa) := by
  intro X F σ s k Q I h hQ
  refine ha X F σ s _ _ I h fun x dx s1 l1 I1 r1 h' => ?_
  cases dx with
  | mach i =>
    obtain ⟨m, hm, h'⟩ := onM_of h'
    obtain ⟨q, m', dx, hq, hm', rfl, hi, M⟩ := I1.wr.ins r1
    rw [hm] at hm'; cases hm'
    exact rd_Mbase PM hi (hQ _ _ s1 l1 I1 (.int _) h')
  | _ => exact h'.elim
def P_Machine : PSp := fun ds w k => match ds with
  | [.int b, .int cut] => (8 ≤ b ∧ b ≤ 30 ∧ 2 ≤ cut ∧ cut ≤ 1000) ∧ k (.mach w.ms.length) ⟨w.ms ++ [⟨b.toNat, cut, zeros, []⟩], w.ss, w.os⟩
  | _ => False
theorem snd_mkM {dv : List V} {dd : List Dat} (hd : ∀ g : Gh, Reps K c g dv dd) (hr : SndA K c tr pr) : SndE K c (tMake c.CMachine (sp_Machine_init K c) dv E tr) (pCallD P_Machine dd pr) := by
  intro X F σ s k Q I h hQ
  refine hr X F σ s _ _ I h fun vs ds s1 l1 I1 r1 h1 => ?_
  intro x dx nx ndx nex
  have r2 := r1.app (hd s1.g)
  generalize hvs : vs ++ dv = us at r2
  generalize hds : ds ++ dd = es at r2 h1
  unfold P_Machine at h1
  split at h1
  · rename_i b cut
    obtain ⟨⟨b1, b2, c1, c2⟩, h1⟩ := h1
    obtain ⟨v, v', rfl, e1, e2⟩ := two_arg r2
    obtain ⟨b', rfl⟩ : ∃ b' : Nat, b = (b' : Int) := ⟨b.toNat, by omega⟩
    refine ⟨x, dx, b', cut, by rw [e1.intI, e2.intI], by omega, by omega, c1, c2, upd_same, fun d e H' ch => ⟨rfl, ?_⟩⟩
    have W := I1.wr
    have hnx : dx ≠ x := nex
    -- what is new: the object, its counts, its walk
    have hx' : H' x = some (.ins c.CMachine dx (mF b' cut d e)) := ch.chg List.mem_cons_self
    have hd0 := ch.new (a := d) (o := .dK (cK zeros)) List.mem_cons_self
    have he0 := ch.new (a := e) (o := .lst []) (List.mem_cons_of_mem _ List.mem_cons_self)
    have hdx : d ≠ x := fun z => by rw [z, upd_same] at hd0; cases hd0.1
    have hex : e ≠ x := fun z => by rw [z, upd_same] at he0; cases he0.1
    have hddx : d ≠ dx := fun z => by rw [z, upd_ne hnx, upd_same] at hd0; cases hd0.1
    have hedx : e ≠ dx := fun z => by rw [z, upd_ne hnx, upd_same] at he0; cases he0.1
    have hd1 : s1.H d = none := by have := hd0.1; rwa [upd_ne hdx, upd_ne hddx] at this
    have he1 : s1.H e = none := by have := he0.1; rwa [upd_ne hex, upd_ne hedx] at this
    have kp : ∀ a o, s1.H a = some o → H' a = some o := fun a o z => by
      have n1 : a ≠ x := fun y => by rw [y, nx] at z; cases z
      have n2 : a ≠ dx := fun y => by rw [y, ndx] at z; cases z
      refine ch.keep a o (by rw [upd_ne n1, upd_ne n2]; exact z) fun y => n1 (List.mem_singleton.mp y)
    have ch' : Chg s1.H H' [] [(x, .ins c.CMachine dx (mF b' cut d e))] := ⟨(fun z => nomatch z), fun z => by cases List.mem_singleton.mp z; exact ⟨nx, hx'⟩, by simp, fun a o z _ => kp a o z⟩
    obtain ⟨W1, A1⟩ := W.go0 ch'
    have hgx : (gAdd s1.g [(x, HO.ins c.CMachine dx (mF b' cut d e))]).G x = some (.ins c.CMachine dx (mF b' cut d e)) := gAdd_in (q := (x, _)) ch'.nd List.mem_cons_self
    have hmu : (gAdd s1.g [(x, HO.ins c.CMachine dx (mF b' cut d e))]).mu = s1.g.mu := gAdd_mu _ _
    have W2 := W1.addM hgx hd0.2 he0.2 (by rw [hmu]; exact fun z => by obtain ⟨o, e⟩ := W.muAt z; rw [hd1] at e; cases e) (by rw [hmu]; exact fun z => by obtain ⟨o, e⟩ := W.muAt z; rw [he1] at e; cases e) (by
      rw [gAdd_out (by simp only [List.map_cons, List.map_nil, List.mem_singleton]; exact hdx)]; exact W.noG hd1) (by
      rw [gAdd_out (by simp only [List.map_cons, List.map_nil, List.mem_singleton]; exact hex)]; exact W.noG he1)
    have le2 : (gAdd s1.g [(x, HO.ins c.CMachine dx (mF b' cut d e))]).le ⟨(gAdd s1.g [(x, HO.ins c.CMachine dx (mF b' cut d e))]).G, (gAdd s1.g [(x, HO.ins c.CMachine dx (mF b' cut d e))]).ms ++ [(x, d, e)], (gAdd s1.g [(x, HO.ins c.CMachine dx (mF b' cut d e))]).ss, (gAdd s1.g [(x, HO.ins c.CMachine dx (mF b' cut d e))]).os, (gAdd s1.g [(x, HO.ins c.CMachine dx (mF b' cut d e))]).ts⟩ := ⟨fun _ _ h => h, fun i q h => by
      show (_ ++ [(x, d, e)])[i]? = some q
      rw [List.getElem?_append_left (List.getElem?_eq_some_iff.mp h).1]; exact h, fun _ _ h => h, fun _ _ h => h, rfl⟩
    have A2 : Aft s1.g s1.H ⟨(gAdd s1.g [(x, HO.ins c.CMachine dx (mF b' cut d e))]).G, (gAdd s1.g [(x, HO.ins c.CMachine dx (mF b' cut d e))]).ms ++ [(x, d, e)], (gAdd s1.g [(x, HO.ins c.CMachine dx (mF b' cut d e))]).ss, (gAdd s1.g [(x, HO.ins c.CMachine dx (mF b' cut d e))]).os, (gAdd s1.g [(x, HO.ins c.CMachine dx (mF b' cut d e))]).ts⟩ H' := by
      refine ⟨A1.le.trans le2, A1.keep, A1.frz, fun a ha => ?_, A1.dom⟩
      unfold Gh.mu at ha
      simp only [List.map_append, List.map_cons, List.map_nil, List.mem_append, List.mem_singleton] at ha
      have hin : a ∈ (gAdd s1.g [(x, HO.ins c.CMachine dx (mF b' cut d e))]).mu ∨ a = d ∨ a = e := by
        unfold Gh.mu
        simp only [List.mem_append]
        rcases ha with (z | z) | (z | z) | z
        · exact .inl (.inl z)
        · exact .inr (.inl z)
        · exact .inl (.inr (.inl z))
        · exact .inr (.inr z)
        · exact .inl (.inr (.inr z))
      rcases hin with z | rfl | rfl
      · exact A1.new a z
      · exact .inr hd1
      · exact .inr he1
    have hlen : (gAdd s1.g [(x, HO.ins c.CMachine dx (mF b' cut d e))]).ms.length = s1.w.ms.length := W1.mlen
    refine hQ (.ref x) (.mach s1.w.ms.length) ⟨_, H', s1.e, _, s1.os⟩ (l1.trans A2.le) (I1.call A2 W2) ?_ (by
      have e3 : ((b' : Int)).toNat = b' := by omega
      rw [e3] at h1; exact h1)
    exact Rep.mach (q := (x, d, e)) (by
      show ((gAdd s1.g [(x, HO.ins c.CMachine dx (mF b' cut d e))]).ms ++ [(x, d, e)])[s1.w.ms.length]? = _
      rw [← hlen, List.getElem?_concat_length])
  · exact h1.elim
end
end Pu
namespace Pu
open PySem L2 Eng
def P_made : PSp := fun ds w k => match ds with
  | [.mach i, .int s, .lst l] => onM w i fun m => ∃ es : List Nat, l = dN es ∧ m.b ≠ 0 ∧ Digs m.b es ∧ es.length < 2 ^ 23 ∧ sgnOk s (val m.b es) ∧ k (.big m.b (s * (val m.b es : Nat))) w
  | _ => False
def P_big_of : PSp := fun ds w k => match ds with
  | [.mach i, .int n] => onM w i fun m => m.b ≠ 0 ∧ (digs m.b n.natAbs).length < 2 ^ 23 ∧ k (.big m.b n) w
  | _ => False
def P_value_of : PSp := fun ds w k => match ds with
  | [.big b n] => bigL b n ∧ k (.int n) w
  | _ => False
def P_check_any : PSp := fun ds w k => match ds with
  | [.big _ _] => k .non w
  | _ => False
def P_check_big : PSp := fun ds w k => match ds with
  | [.mach i, .str _, .big b _] => onM w i fun m => m.b = b ∧ k .non w
  | _ => False
def P_check_bigs : PSp := fun ds w k => match ds with
  | [.mach i, .big b _, .big b' _] => onM w i fun m => m.b = b ∧ m.b = b' ∧ k .non w
  | _ => False
def P_is_compact : PSp := fun ds w k => match ds with
  | [.big b n] => k (.bl (decide ((digs b n.natAbs).length ≤ 1))) w
  | _ => False
def P_Big_sign : PSp := fun ds w k => match ds with
  | [.big _ n] => k (.int (sgn n)) w
  | _ => False
def P_Big_bits : PSp := fun ds w k => match ds with
  | [.big b _] => k (.int (b : Int)) w
  | _ => False
def P_Big_digits : PSp := fun ds w k => match ds with
  | [.big b n] => k (.lst (dN (digs b n.natAbs))) w
  | _ => False
def P_bit_length : PSp := fun ds w k => match ds with
  | [.big b n] => bigL b n ∧ k (.int (Builtin.Int.intBits n : Nat)) w
  | _ => False
def P_is_digits : PSp := fun ds w k => match ds with
  | [.mach i, .lst l] => onM w i fun m => ∃ es : List Nat, l = dN es ∧ Digs m.b es ∧ es.length < 2 ^ 23 ∧ k (.bl true) w
  | _ => False
section
variable {K : PySem.W.Frag} {c : Pc} {tr : TA} {pr : PA} {E : XK} {ta : TE} {pa : PE}
theorem Wr.bigAt {g : Gh} {H : Hp} {w : Wld} (W : Wr K c g H w) {v : V} {b : Nat} {n : Int} (h : Rep K c g v (.big b n)) : ∃ a, v = .ref a ∧ BigAt c H a b n := by
  cases h with
  | big h => exact ⟨_, rfl, bigAt_mono W.sub h⟩
theorem Wr.lstAt {g : Gh} {H : Hp} {w : Wld} (W : Wr K c g H w) {v : V} {l : List Dat} (h : Rep K c g v (.lst l)) : ∃ a vs, v = .ref a ∧ H a = some (.lst vs) ∧ Reps K c g vs l := by
  cases h with
  | lst h r => exact ⟨_, _, rfl, W.sub _ _ h, r⟩
theorem newBig_rep {g : Gh} {H H' : Hp} {x dx r : Addr} {b : Nat} {n : Int} {s : Int} {ds : List Nat} (ch : Chg H H' [] [(x, .ins c.CBig dx (bF b s r)), (r, .tup (iN ds))]) (hs : s = sgn n) (hd : ds = digs b n.natAbs) : Rep K c (gAdd g [(x, HO.ins c.CBig dx (bF b s r)), (r, .tup (iN ds))]) (.ref x) (.big b n) := by
  subst hs; subst hd
  exact .big ⟨dx, r, gAdd_in (q := (x, _)) ch.nd List.mem_cons_self, gAdd_in (q := (r, _)) ch.nd (List.mem_cons_of_mem _ List.mem_cons_self)⟩
theorem sgn_mul {s : Int} {v : Nat} {ds : List Nat} {b : Nat} (hb : b ≠ 0) (hd : Digs b ds) (hs : sgnOk s (val b ds)) : (if strip ds = [] then 0 else s) = sgn (s * (val b ds : Nat)) ∧ strip ds = digs b (s * (val b ds : Nat)).natAbs := by
  have e3 : (s * (val b ds : Nat)).natAbs = val b ds := by
    rcases hs with rfl | rfl | ⟨rfl, z⟩ <;> omega
  have e4 : digs b (val b ds) = strip ds := by rw [← val_strip b ds, digs_val hb (fun d z => hd d (strip_mem z)) (strip_norm ds)]
  refine ⟨?_, by rw [e3, e4]⟩
  by_cases h0 : strip ds = []
  · rw [if_pos h0]
    have : val b ds = 0 := by rw [← val_strip, h0]; rfl
    rw [this]; simp [sgn]
  · rw [if_neg h0]
    have hv : val b ds ≠ 0 := fun z => h0 (by rw [← e4, z]; unfold digs; simp)
    unfold sgn
    rcases hs with rfl | rfl | ⟨rfl, z⟩
    · rw [if_neg (by omega), if_neg (by omega)]
    · rw [if_pos (by omega)]
    · exact absurd z hv
theorem u_made : SndP K c (sp_made K c) P_made := by
  intro g H w vs ds k Q E W r h hQ
  unfold P_made at h
  split at h
  · rename_i i s l
    obtain ⟨m, hm, es, rfl, hb, hd, hl, hs, h⟩ := onM_of h
    obtain ⟨a, b, d, rfl, r1, r2, r3⟩ := three_arg r
    obtain ⟨q, m', dx, hq, hm', rfl, hi, M⟩ := W.ins r1
    rw [hm] at hm'; cases hm'
    obtain ⟨a, ws, rfl, hH, hR⟩ := W.lstAt r3
    have := reps_iN hR
    subst this
    refine ⟨q.1, dx, m.b, m.cut, q.2.1, q.2.2, s, a, es, by rw [r2.intI], hi, hH, hl, fun x dx' r H' ch => ?_⟩
    obtain ⟨W', A⟩ := W.go0 ch
    obtain ⟨e1, e2⟩ := sgn_mul (v := 0) hb hd hs
    exact hQ _ _ _ H' w A W' (newBig_rep ch e1 e2) h
  · exact h.elim
theorem u_big_of : SndP K c (sp_big_of K c) P_big_of := by
  intro g H w vs ds k Q E W r h hQ
  unfold P_big_of at h
  split at h
  · rename_i i n
    obtain ⟨m, hm, hb, hl, h⟩ := onM_of h
    obtain ⟨a, b, rfl, r1, r2⟩ := two_arg r
    obtain ⟨q, m', dx, hq, hm', rfl, hi, M⟩ := W.ins r1
    rw [hm] at hm'; cases hm'
    refine ⟨q.1, dx, m.b, m.cut, q.2.1, q.2.2, n, by rw [r2.intI], hi, hb, hl, fun x dx' r H' ch => ?_⟩
    obtain ⟨W', A⟩ := W.go0 ch
    exact hQ _ _ _ H' w A W' (newBig_rep ch rfl rfl) h
  · exact h.elim
def P_big : PSp := P_big_of
theorem u_big : SndP K c (sp_big K c) P_big := u_big_of
theorem u_value_of : SndP K c (sp_value_of K c) P_value_of := by
  intro g H w vs ds k Q E W r h hQ
  unfold P_value_of at h
  split at h
  · rename_i b n
    obtain ⟨v, rfl, r1⟩ := one_arg r
    obtain ⟨a, rfl, hB⟩ := W.bigAt r1
    exact ⟨a, b, n, rfl, hB, h.1, fun H' s => hQ _ _ g H' w (W.goS s).2 (W.goS s).1 (.int _) h.2⟩
  · exact h.elim
def P_plain : PSp := P_value_of
theorem u_check_bigs : SndP K c (sp_check_bigs K c) P_check_bigs := by
  intro g H w vs ds k Q E W r h hQ
  unfold P_check_bigs at h
  split at h
  · rename_i i b n b' n'
    replace h := onM_of h
    obtain ⟨m, hm, rfl, rfl, h⟩ := h
    obtain ⟨a, v', d, rfl, r1, r2, r3⟩ := three_arg r
    obtain ⟨q, m', dx, hq, hm', rfl, hi, M⟩ := W.ins r1
    rw [hm] at hm'; cases hm'
    obtain ⟨a, rfl, hB⟩ := W.bigAt r2
    obtain ⟨a', rfl, hB'⟩ := W.bigAt r3
    exact ⟨q.1, dx, m.b, m.cut, q.2.1, q.2.2, a, a', n, n', rfl, hi, hB, hB', hQ _ _ g H w (Aft.refl _ _) W .non h⟩
  · exact h.elim
theorem u_is_compact : SndP K c (sp_is_compact K c) P_is_compact := by
  intro g H w vs ds k Q E W r h hQ
  unfold P_is_compact at h
  split at h
  · rename_i b n
    obtain ⟨v, rfl, r1⟩ := one_arg r
    obtain ⟨a, rfl, hB⟩ := W.bigAt r1
    exact ⟨a, b, n, rfl, hB, hQ _ _ g H w (Aft.refl _ _) W (.bl _) h⟩
  · exact h.elim
def P_Big : PSp := fun ds w k => match ds with
  | [.int b, .int s, .tup row] => ∃ (b' : Nat) (n : Int), b = (b' : Int) ∧ s = sgn n ∧ row = dN (digs b' n.natAbs) ∧ k (.big b' n) w
  | _ => False
def qEqB : Q2
  | .big b n, .big b' n', k => (b ≠ 0 ∧ b' ≠ 0) ∧ k (.bl (decide (b = b' ∧ n = n')))
  | _, _, _ => False
def qNeB : Q2
  | .big b n, .big b' n', k => (b ≠ 0 ∧ b' ≠ 0) ∧ k (.bl (!decide (b = b' ∧ n = n')))
  | _, _, _ => False
theorem In.same {X : En} {F : List (Addr × HO)} {σ : L2.St} {s : Cf} (I : In K c X F σ s) {H' : Hp} (h : Same s.H H') : In K c X F σ ⟨s.g, H', s.e, s.w, s.os⟩ := I.call (I.wr.goS h).2 (I.wr.goS h).1
def P_law_source_of : PSp := fun ds w k => match ds with
  | [.int _] => k (.src w.ss) ⟨w.ms, w.ss + 1, w.os⟩
  | _ => False
def P_law_next : PSp := fun ds w k => match ds with
  | [.src j, .int n] => j < w.ss ∧ (0 < n ∧ NxtB n) ∧ ∀ r, 0 ≤ r → r < n → k (.int r) w
  | _ => False
def P_law_one : PSp := fun ds w k => match ds with
  | [.src j, .lst l] => j < w.ss ∧ (l ≠ [] ∧ l.length ≤ 1000) ∧ ∀ d ∈ l, k d w
  | _ => False
theorem Wr.srcAt {g : Gh} {H : Hp} {w : Wld} (W : Wr K c g H w) {v : V} {j : Nat} (h : Rep K c g v (.src j)) : ∃ a o, v = .ref a ∧ g.ss[j]? = some a ∧ H a = some o ∧ SrcO o := by
  cases h with
  | src h =>
    obtain ⟨o, h1, h2⟩ := W.srcs _ (List.mem_of_getElem? h)
    exact ⟨_, o, rfl, h, h1, h2⟩
theorem u_law_source_of : SndP K c (sp_law_source_of K c) P_law_source_of := by
  intro g H w vs ds k Q E W r h hQ
  unfold P_law_source_of at h
  split at h
  · rename_i n
    obtain ⟨v, rfl, r1⟩ := one_arg r
    refine ⟨n, by rw [r1.intI], fun p o H' ho ch => ?_⟩
    have hp := ch.new (a := p) (o := o) List.mem_cons_self
    have ch' : Chg H H' [] [] := ⟨(fun z => nomatch z), (fun z => nomatch z), List.nodup_nil, ch.keep⟩
    obtain ⟨W1, A1⟩ := W.go0 ch'
    have W2 := W1.addS hp.2 ho (fun z => by obtain ⟨o, e⟩ := W.muAt z; rw [hp.1] at e; cases e) (W.noG hp.1)
    refine hQ _ _ _ H' _ ?_ W2 (Rep.src (a := p) (i := w.ss) ?_) h
    · refine ⟨⟨fun _ _ h => h, fun _ _ h => h, fun i q h => by
        show (g.ss ++ [p])[i]? = some q
        rw [List.getElem?_append_left (List.getElem?_eq_some_iff.mp h).1]; exact h, fun _ _ h => h, rfl⟩, A1.keep, A1.frz, fun a ha => ?_, A1.dom⟩
      have ha : a ∈ g.ms.map (·.2.1) ++ (g.ms.map (·.2.2) ++ ((g.ss ++ [p]) ++ g.ot)) := ha
      simp only [List.mem_append, List.mem_singleton] at ha
      unfold Gh.mu
      simp only [List.mem_append]
      rcases ha with z | z | (z | z) | z
      · exact .inl (.inl z)
      · exact .inl (.inr (.inl z))
      · exact .inl (.inr (.inr (.inl z)))
      · rw [z]; exact .inr hp.1
      · exact .inl (.inr (.inr (.inr z)))
    · show (g.ss ++ [p])[w.ss]? = some p
      rw [← W.nss, List.getElem?_concat_length]
  · exact h.elim
theorem u_law_next : SndP K c (sp_law_next K c) P_law_next := by
  intro g H w vs ds k Q E W r h hQ
  unfold P_law_next at h
  split at h
  · rename_i j n
    obtain ⟨v, v', rfl, r1, r2⟩ := two_arg r
    obtain ⟨a, o, rfl, hi, hH, ho⟩ := W.srcAt r1
    refine ⟨a, o, n, by rw [r2.intI], hH, ho, h.2.1.1, h.2.1.2, fun z o' H' z1 z2 ho' ch => ?_⟩
    obtain ⟨W', A⟩ := W.goR (fr := []) hi ch ho' (fun _ z => nomatch z)
    exact hQ _ _ g H' w A W' (.int _) (h.2.2 z z1 z2)
  · exact h.elim
def P_law_cell_at : PSp := fun ds w k => match ds with
  | [.cst l, .int _] => ∃ ns : List Int, l = ns.map Dat.int ∧ ns.length ≤ 1000 ∧ ∀ n, k (.int n) w
  | _ => False
theorem u_law_cell_at : SndP K c (sp_law_cell_at K c) P_law_cell_at := by
  intro g H w vs ds k Q E W r h hQ
  unfold P_law_cell_at at h
  split at h
  · rename_i l i
    obtain ⟨ns, rfl, hl, h⟩ := h
    obtain ⟨v, v', rfl, r1, r2⟩ := two_arg r
    cases r1 with
    | cst hs hR =>
      have := hR.ints
      subst this
      exact ⟨_, ns, i, by rw [r2.intI], sqL_mono W.sub hs, hl, fun n H' s => hQ _ _ g H' w (W.goS s).2 (W.goS s).1 (.int _) (h n)⟩
  · exact h.elim
end
end Pu
namespace Pu
open PySem L2 Eng
/-- x, y, .. = a new list, values -/
def pParO (i : Nat) (is : List Nat) (f : PF) (r : PA) : PS := fun D e w => f e w fun l e w => r e w fun ds e w => onSome (setAll (e.set i (.own true l)) is ds) fun e => D.nx e w
def zipD : List Dat → List Dat → List Dat
  | x :: xs, y :: ys => .tup [x, y] :: zipD xs ys
  | _, _ => []
def pIZip (a b : PE) : PA := fun e w k => a e w fun x e w => b e w fun y e w => lstOf x fun l => lstOf y fun m => k (zipD l m) e w
mutual
def py : Dat → PyData
  | .non => .none
  | .bl b => .bool b
  | .int n => .int n
  | .str s => .str s
  | .tup l => .tuple (pys l)
  | .lst l => .list (pys l)
  | _ => .none
def pys : List Dat → List PyData
  | [] => []
  | d :: ds => py d :: pys ds
end
def plF : Nat → Dat → Bool
  | _, .non => true
  | _, .bl _ => true
  | _, .int _ => true
  | _, .str s => PyData.strOk s
  | n + 1, .tup l => l.all (plF n)
  | n + 1, .lst l => l.all (plF n)
  | _, _ => false
/-- plain data -/
def pl (d : Dat) : Prop := plF 9 d = true
/-- without truths -/
def nbF : Nat → Dat → Bool
  | _, .bl _ => false
  | n + 1, .tup l => l.all (nbF n)
  | n + 1, .lst l => l.all (nbF n)
  | 0, .tup _ => false
  | 0, .lst _ => false
  | _, _ => true
def qEqD : Q2 := fun x y k => (pl x ∧ pl y) ∧ ∀ b : Bool, (x = y → b = true) → (x ≠ y → nbF 9 x = true → nbF 9 y = true → b = false) → k (.bl b)
def qNeD : Q2 := fun x y k => (pl x ∧ pl y) ∧ ∀ b : Bool, (x = y → b = false) → (x ≠ y → nbF 9 x = true → nbF 9 y = true → b = true) → k (.bl b)
section
variable {K : PySem.W.Frag} {c : Pc} {X : En} {F : List (Addr × HO)} {σ : L2.St} {s : Cf} {ta tb te : TE} {pa pb pe : PE} {tr : TA} {pr : PA} {E : XK} {i j : Nat}
theorem all_cons {n : Nat} {d : Dat} {ds : List Dat} (h : (d :: ds).all (plF n) = true) : plF n d = true ∧ ds.all (plF n) = true := by simpa using h
mutual
theorem dp_of : ∀ {n : Nat} {d : Dat} {v : V}, plF n d = true → Rep K c s.g v d → (∀ a o, s.g.G a = some o → s.H a = some o) → Dp K s.H v (py d)
  | n, .non, _, _, .non, _ => .non
  | n, .bl b, _, _, .bl _, _ => .bl b
  | n, .int b, _, _, .int _, _ => .int b
  | n, .str b, _, _, .str _, _ => .str b
  | n + 1, .tup l, _, h, .tup h1 h2, hs => by
    rw [py]
    exact .tup (SqT.of (hs _ _ h1)) (dps_of (by simpa [plF] using h) h2 hs)
  | n + 1, .lst l, _, h, .lst h1 h2, hs => by
    rw [py]
    exact .lst (SqL.of (hs _ _ h1)) (dps_of (by simpa [plF] using h) h2 hs)
  | 0, .tup _, _, h, _, _ => by simp [plF] at h
  | 0, .lst _, _, h, _, _ => by simp [plF] at h
  | n, .cst _, _, h, _, _ => by cases n <;> simp [plF] at h
  | n, .big _ _, _, h, _, _ => by cases n <;> simp [plF] at h
  | n, .mach _, _, h, _, _ => by cases n <;> simp [plF] at h
  | n, .src _, _, h, _, _ => by cases n <;> simp [plF] at h
  | n, .opq _, _, h, _, _ => by cases n <;> simp [plF] at h
  | n, .dic _, _, h, _, _ => by cases n <;> simp [plF] at h
  | n, .ob _, _, h, _, _ => by cases n <;> simp [plF] at h
  | n, .fn _ _, _, h, _, _ => by cases n <;> simp [plF] at h
  | n, .fnc _, _, h, _, _ => by cases n <;> simp [plF] at h
theorem dps_of : ∀ {n : Nat} {ds : List Dat} {vs : List V}, (∀ x ∈ ds, plF n x = true) → Reps K c s.g vs ds → (∀ a o, s.g.G a = some o → s.H a = some o) → DpAll K s.H vs (pys ds)
  | n, [], _, _, .nil, _ => by rw [pys]; exact .nil
  | n, d :: ds, _, h, .cons r t, hs => by
    rw [pys]
    exact .cons (dp_of (h d List.mem_cons_self) r hs) (dps_of (fun x hx => h x (List.mem_cons_of_mem _ hx)) t hs)
end
theorem dpW {n : Nat} {d : Dat} {v : V} (h : plF n d = true) (r : RepW K c s v d) (hs : ∀ a o, s.g.G a = some o → s.H a = some o) : Dp K s.H v (py d) := by
  rcases r with r | ⟨a, vs, ds, rfl, rfl, h1, h2⟩
  · exact dp_of h r hs
  · cases n with
    | zero => simp [plF] at h
    | succ n =>
      rw [py]
      exact .lst (SqL.of h1) (dps_of (by simpa [plF] using h) h2 hs)
mutual
theorem py_shape : ∀ {n : Nat} {d : Dat}, plF n d = true → (py d).canLay0 = true ∧ (py d).depth ≤ n
  | n, .non, _ => by simp [py, PyData.canLay0, PyData.depth]
  | n, .bl b, _ => by simp [py, PyData.canLay0, PyData.depth]
  | n, .int b, _ => by simp [py, PyData.canLay0, PyData.depth]
  | n, .str b, h => by
    have h : PyData.strOk b = true := by cases n <;> exact h
    simp [py, PyData.canLay0, PyData.depth, h]
  | n + 1, .tup l, h => by
    have := pys_shape (n := n) (ds := l) (by simpa [plF] using h)
    simp only [py, PyData.canLay0, PyData.depth]
    exact ⟨this.1, by omega⟩
  | n + 1, .lst l, h => by
    have := pys_shape (n := n) (ds := l) (by simpa [plF] using h)
    simp only [py, PyData.canLay0, PyData.depth]
    exact ⟨this.1, by omega⟩
  | 0, .tup _, h => by simp [plF] at h
  | 0, .lst _, h => by simp [plF] at h
  | n, .cst _, h => by cases n <;> simp [plF] at h
  | n, .big _ _, h => by cases n <;> simp [plF] at h
  | n, .mach _, h => by cases n <;> simp [plF] at h
  | n, .src _, h => by cases n <;> simp [plF] at h
  | n, .opq _, h => by cases n <;> simp [plF] at h
  | n, .dic _, h => by cases n <;> simp [plF] at h
  | n, .ob _, h => by cases n <;> simp [plF] at h
  | n, .fn _ _, h => by cases n <;> simp [plF] at h
  | n, .fnc _, h => by cases n <;> simp [plF] at h
theorem pys_shape : ∀ {n : Nat} {ds : List Dat}, (∀ x ∈ ds, plF n x = true) → PyData.canLayAll0 (pys ds) = true ∧ PyData.depthAll (pys ds) ≤ n
  | n, [], _ => by simp [pys, PyData.canLayAll0, PyData.depthAll]
  | n, d :: ds, h => by
    have h1 := py_shape (h d List.mem_cons_self)
    have h2 := pys_shape (n := n) (ds := ds) fun x hx => h x (List.mem_cons_of_mem _ hx)
    simp only [pys, PyData.canLayAll0, PyData.depthAll]
    exact ⟨by rw [h1.1, h2.1]; rfl, by omega⟩
end
mutual
theorem py_inj : ∀ {n : Nat} {d e : Dat}, plF n d = true → plF n e = true → nbF n d = true → nbF n e = true → PyData.eqv (py d) (py e) = true → d = e
  | n, .non, e, _, he, _, hb, h => by
    cases e with
    | non => rfl
    | bl b => cases n <;> simp [nbF] at hb
    | tup l => cases n <;> simp [py, PyData.eqv] at h
    | lst l => cases n <;> simp [py, PyData.eqv] at h
    | int i => simp [py, PyData.eqv] at h
    | str i => simp [py, PyData.eqv] at h
    | _ => cases n <;> simp [plF] at he
  | n, .int i, e, _, he, _, hb, h => by
    cases e with
    | int j => simp [py, PyData.eqv] at h; rw [h]
    | bl b => cases n <;> simp [nbF] at hb
    | non => simp [py, PyData.eqv] at h
    | str j => simp [py, PyData.eqv] at h
    | tup l => simp [py, PyData.eqv] at h
    | lst l => simp [py, PyData.eqv] at h
    | _ => cases n <;> simp [plF] at he
  | n, .str i, e, _, he, _, hb, h => by
    cases e with
    | str j => simp [py, PyData.eqv] at h; rw [h]
    | bl b => cases n <;> simp [nbF] at hb
    | non => simp [py, PyData.eqv] at h
    | int j => simp [py, PyData.eqv] at h
    | tup l => simp [py, PyData.eqv] at h
    | lst l => simp [py, PyData.eqv] at h
    | _ => cases n <;> simp [plF] at he
  | n + 1, .tup l, e, hd, he, hn, hb, h => by
    cases e with
    | tup m => simp only [py, PyData.eqv] at h; rw [pys_inj (n := n) (by simpa [plF] using hd) (by simpa [plF] using he) (by simpa [nbF] using hn) (by simpa [nbF] using hb) h]
    | bl b => simp [nbF] at hb
    | non => simp [py, PyData.eqv] at h
    | int j => simp [py, PyData.eqv] at h
    | str j => simp [py, PyData.eqv] at h
    | lst l => simp [py, PyData.eqv] at h
    | _ => simp [plF] at he
  | n + 1, .lst l, e, hd, he, hn, hb, h => by
    cases e with
    | lst m => simp only [py, PyData.eqv] at h; rw [pys_inj (n := n) (by simpa [plF] using hd) (by simpa [plF] using he) (by simpa [nbF] using hn) (by simpa [nbF] using hb) h]
    | bl b => simp [nbF] at hb
    | non => simp [py, PyData.eqv] at h
    | int j => simp [py, PyData.eqv] at h
    | str j => simp [py, PyData.eqv] at h
    | tup l => simp [py, PyData.eqv] at h
    | _ => simp [plF] at he
  | n, .bl _, _, _, _, h, _, _ => by cases n <;> simp [nbF] at h
  | 0, .tup _, _, h, _, _, _, _ => by simp [plF] at h
  | 0, .lst _, _, h, _, _, _, _ => by simp [plF] at h
  | n, .cst _, _, h, _, _, _, _ => by cases n <;> simp [plF] at h
  | n, .big _ _, _, h, _, _, _, _ => by cases n <;> simp [plF] at h
  | n, .mach _, _, h, _, _, _, _ => by cases n <;> simp [plF] at h
  | n, .src _, _, h, _, _, _, _ => by cases n <;> simp [plF] at h
  | n, .opq _, _, h, _, _, _, _ => by cases n <;> simp [plF] at h
  | n, .dic _, _, h, _, _, _, _ => by cases n <;> simp [plF] at h
  | n, .ob _, _, h, _, _, _, _ => by cases n <;> simp [plF] at h
  | n, .fn _ _, _, h, _, _, _, _ => by cases n <;> simp [plF] at h
  | n, .fnc _, _, h, _, _, _, _ => by cases n <;> simp [plF] at h
theorem pys_inj : ∀ {n : Nat} {ds es : List Dat}, (∀ x ∈ ds, plF n x = true) → (∀ x ∈ es, plF n x = true) → (∀ x ∈ ds, nbF n x = true) → (∀ x ∈ es, nbF n x = true) → PyData.eqvAll (pys ds) (pys es) = true → ds = es
  | n, [], [], _, _, _, _, _ => rfl
  | n, d :: ds, e :: es, h1, h2, h3, h4, h => by
    simp only [pys, PyData.eqvAll, Bool.and_eq_true] at h
    rw [py_inj (h1 d List.mem_cons_self) (h2 e List.mem_cons_self) (h3 d List.mem_cons_self) (h4 e List.mem_cons_self) h.1,
      pys_inj (n := n) (fun x hx => h1 x (List.mem_cons_of_mem _ hx)) (fun x hx => h2 x (List.mem_cons_of_mem _ hx)) (fun x hx => h3 x (List.mem_cons_of_mem _ hx)) (fun x hx => h4 x (List.mem_cons_of_mem _ hx)) h.2]
  | n, [], _ :: _, _, _, _, _, h => by simp [pys, PyData.eqvAll] at h
  | n, _ :: _, [], _, _, _, _, h => by simp [pys, PyData.eqvAll] at h
end
theorem py_shaped {d : Dat} (h : pl d) : SeqAt.shaped (py d) = true := by
  obtain ⟨h1, h2⟩ := py_shape h
  unfold SeqAt.shaped
  rw [h1, decide_eq_true (Nat.le_trans h2 (by decide))]; rfl
theorem s_eqD : SndR2 K c (rEqD K) qEqD := by
  intro X F σ s x y dx dy k Q I rx ry h hQ
  refine ⟨py dx, py dy, dpW h.1.1 rx I.wr.sub, dpW h.1.2 ry I.wr.sub, py_shaped h.1.1, py_shaped h.1.2, hQ _ _ s (Gh.le.refl _) I rfl rfl (.bl _) (h.2 _ (fun e => ?_) fun ne n1 n2 => ?_)⟩
  · rw [e]; exact SeqAt.eqv_refl _ (py_shape h.1.2).1
  · cases e : PyData.eqv (py dx) (py dy) with
    | false => rfl
    | true => exact absurd (py_inj h.1.1 h.1.2 n1 n2 e) ne
theorem s_neD : SndR2 K c (rNeD K) qNeD := by
  intro X F σ s x y dx dy k Q I rx ry h hQ
  refine ⟨py dx, py dy, dpW h.1.1 rx I.wr.sub, dpW h.1.2 ry I.wr.sub, py_shaped h.1.1, py_shaped h.1.2, hQ _ _ s (Gh.le.refl _) I rfl rfl (.bl _) (h.2 _ (fun e => ?_) fun ne n1 n2 => ?_)⟩
  · rw [e, SeqAt.eqv_refl _ (py_shape h.1.2).1]; rfl
  · cases e : PyData.eqv (py dx) (py dy) with
    | false => rfl
    | true => exact absurd (py_inj h.1.1 h.1.2 n1 n2 e) ne
theorem snd_parO {pf : PF} (hf : SndF K c ta pf) (hr : SndA K c tr pr) : SndS K c (tPar i j (tCons ta tr)) (pParO i [j] pf pr) := by
  intro X F σ s D Dp I h hE
  refine hf X F σ s _ _ I h fun a vs ds s1 l1 hx I1 r1 h1 => ?_
  refine hr X _ σ s1 _ _ I1 h1 fun ws es s2 l2 I2 r2 h2 => ?_
  obtain ⟨e, he, h2⟩ := onSome_of h2
  have := In.setAll (Q := D.nx) (I2.setO (i := i) (r1.mono l2) hx) r2 he fun σ' I' => hE.nx σ' ⟨s2.g, s2.H, e, s2.w, (i, a) :: s2.os⟩ (l1.trans l2) I' h2
  obtain ⟨v, _, rfl, rfl, q⟩ := this
  exact ⟨_, v, rfl, q⟩
def pParO2 (i j : Nat) (a : PE) (f : PF) : PS := fun D e w => a e w fun d e w => f e w fun l e w => D.nx ((e.set i (.val d)).set j (.own true l)) w
theorem zipD_get : ∀ {l m : List Dat} {i : Nat} {d : Dat}, (zipD l m)[i]? = some d → ∃ x y, l[i]? = some x ∧ m[i]? = some y ∧ d = .tup [x, y]
  | x :: l, y :: m, 0, d, h => by simp only [zipD, List.getElem?_cons_zero, Option.some.injEq] at h; exact ⟨x, y, rfl, rfl, h.symm⟩
  | x :: l, y :: m, i + 1, d, h => by simp only [zipD, List.getElem?_cons_succ] at h ⊢; exact zipD_get h
  | [], _, _, _, h => by simp [zipD] at h
  | _ :: _, [], _, _, h => by simp [zipD] at h
theorem zipD_len : ∀ (l m : List Dat), (zipD l m).length = min l.length m.length
  | x :: l, y :: m => by simp only [zipD, List.length_cons, zipD_len l m]; omega
  | [], _ => by simp [zipD]
  | _ :: _, [] => by simp [zipD]
theorem ItD.zip {g : Gh} {a b : Addr} {vs ws : List V} {l m : List Dat} (h : SqL K g.G a vs) (r : Reps K c g vs l) (h' : SqL K g.G b ws) (r' : Reps K c g ws m) : ItD K c (Itz K a b) g (zipD l m) where
  go := fun X F σ s i d le I hd => by
    obtain ⟨x, y, hx, hy, rfl⟩ := zipD_get hd
    obtain ⟨v, hv, rv⟩ := r.get hx
    obtain ⟨v', hv', rv'⟩ := r'.get hy
    have hs : SqL K s.H a vs := sqL_mono I.wr.sub (sqL_mono le.G h)
    have hs' : SqL K s.H b ws := sqL_mono I.wr.sub (sqL_mono le.G h')
    refine ⟨⟨vs, ws, v, v', hs, hs', hv, hv'⟩, fun z H' ⟨T, z1, z2, e, hT, e2, q1, q2⟩ => ?_⟩
    have e3 := q1 vs hs
    have e4 := q2 ws hs'
    rw [hv] at e3; rw [hv'] at e4
    cases e3; cases e4
    have le2 := gUpd_le (o := .tup [v, v']) (I.offG hT)
    exact ⟨⟨gUpd s.g T (.tup [v, v']), upd s.H T (.tup [v, v']), s.e, s.w, s.os⟩, e2.symm, le2, I.newG hT, rfl, rfl, by rw [e]; exact .tup (show upd s.g.G T _ T = _ from upd_same) (.cons ((rv.mono le).mono le2) (.cons ((rv'.mono le).mono le2) .nil))⟩
  stop := fun X F σ s le I => ⟨vs, ws, sqL_mono I.wr.sub (sqL_mono le.G h), sqL_mono I.wr.sub (sqL_mono le.G h'), by rw [r.length, r'.length, zipD_len]; omega⟩
theorem enm_get : ∀ {l : List Dat} {n i : Nat} {d : Dat}, (enm n l)[i]? = some d → ∃ x, l[i]? = some x ∧ d = .tup [.int ((n + i : Nat) : Int), x]
  | x :: l, n, 0, d, h => by simp only [enm, List.getElem?_cons_zero, Option.some.injEq] at h; exact ⟨x, rfl, h.symm⟩
  | x :: l, n, i + 1, d, h => by
    simp only [enm, List.getElem?_cons_succ] at h ⊢
    obtain ⟨y, h1, h2⟩ := enm_get h
    exact ⟨y, h1, by rw [h2]; congr 4; omega⟩
  | [], _, _, _, h => by simp [enm] at h
theorem enm_len : ∀ (l : List Dat) (n : Nat), (enm n l).length = l.length
  | [], _ => rfl
  | _ :: l, n => by simp only [enm, List.length_cons, enm_len l]
theorem ItD.enum {g : Gh} {a : Addr} {vs : List V} {l : List Dat} (h : SqL K g.G a vs) (r : Reps K c g vs l) : ItD K c (Ite K a) g (enm 0 l) where
  go := fun X F σ s i d le I hd => by
    obtain ⟨x, hx, rfl⟩ := enm_get hd
    obtain ⟨v, hv, rv⟩ := r.get hx
    have hs : SqL K s.H a vs := sqL_mono I.wr.sub (sqL_mono le.G h)
    refine ⟨⟨vs, v, hs, hv⟩, fun z H' ⟨T, z1, e, hT, e2, q1⟩ => ?_⟩
    have e3 := q1 vs hs
    rw [hv] at e3; cases e3
    have le2 := gUpd_le (o := .tup [.int (i : Nat), v]) (I.offG hT)
    refine ⟨⟨gUpd s.g T (.tup [.int (i : Nat), v]), upd s.H T (.tup [.int (i : Nat), v]), s.e, s.w, s.os⟩, e2.symm, le2, I.newG hT, rfl, rfl, ?_⟩
    rw [e, Nat.zero_add]
    exact .tup (show upd s.g.G T _ T = _ from upd_same) (.cons (.int _) (.cons ((rv.mono le).mono le2) .nil))
  stop := fun X F σ s le I => ⟨vs, sqL_mono I.wr.sub (sqL_mono le.G h), by rw [r.length, enm_len]; exact Nat.le_refl _⟩
def dVals : List (Str × PE) → Env → Wld → (List (Str × Int) → Env → Wld → Prop) → Prop
  | [], e, w, k => k [] e w
  | (s, a) :: r, e, w, k => a e w fun x e w => intOf x fun n => dVals r e w fun l e w => k ((s, n) :: l) e w
def pDisp (l : List (Str × PE)) : PE := fun e w k => ((l.map (·.1)).Nodup ∧ l.length ≤ 15) ∧ dVals l e w fun m e w => k (.dic m) e w
def SndD (K : PySem.W.Frag) (c : Pc) : List (TE × TE) → List (Str × PE) → Prop
  | [], [] => True
  | (tk, tv) :: ts, (s, p) :: ps => tk = tC (.str s) ∧ SndE K c tv p ∧ SndD K c ts ps
  | _, _ => False
theorem snd_vals : ∀ {ts : List (TE × TE)} {ps : List (Str × PE)}, SndD K c ts ps → ∀ (X : En) (F : List (Addr × HO)) (σ : L2.St) (s : Cf) (k : List (Str × Int) → Env → Wld → Prop) (Q : List (V × V) → Hp → Prop), In K c X F σ s → dVals ps s.e s.w k →
    (∀ l s', s.g.le s'.g → In K c X F σ s' → l.map (·.1) = ps.map (·.1) → k l s'.e s'.w → Q (l.map fun p => (V.str p.1, V.int p.2)) s'.H) → tPairs ts σ s.H Q
  | [], [], _, X, F, σ, s, k, Q, I, h, hQ => hQ [] s (Gh.le.refl _) I rfl h
  | (tk, tv) :: ts, (z, p) :: ps, hd, X, F, σ, s, k, Q, I, h, hQ => by
    obtain ⟨e1, h2, h3⟩ := hd
    subst e1
    refine h2 X F σ s _ _ I h fun x dx s1 l1 I1 r1 h1 => ?_
    replace h1 := intOf_of h1
    obtain ⟨n, rfl, h1⟩ := h1
    rw [r1.intI]
    refine snd_vals h3 X F σ s1 _ _ I1 h1 fun l s2 l2 I2 e2 h4 => ?_
    exact hQ ((z, n) :: l) s2 (l1.trans l2) I2 (by simp only [List.map_cons, e2]) h4
  | [], _ :: _, hd, _, _, _, _, _, _, _, _, _ => hd.elim
  | _ :: _, [], hd, _, _, _, _, _, _, _, _, _ => hd.elim
def pDNew : PE := fun e w k => k (.dic []) e w
end
end Pu
namespace Pu
open PySem L2 Eng
/-- l tells the counts ns: each word's number, 0 where it has none -/
structure Due (l : List (Str × Int)) (ns : List Int) : Prop where
  nd : (l.map (·.1)).Nodup
  few : l.length < 100
  inw : ∀ p ∈ l, p.1 ∈ words
  at_ : ∀ (j : Nat) (s : Str), words[j]? = some s → ns[j]? = some ((l.lookup s).getD 0)
def P_law_counted : PSp := fun ds w k => match ds with
  | [.mach i, .dic l] => onM w i fun m => Due l m.ns ∧ k (.bl true) (w.put i m.rst)
  | _ => False
end Pu
namespace Pu
open PySem L2 Eng
section
variable {i j n m : Int} {a b : Bool} {s t : Str} {l l' : List Dat} {k : Dat → Prop} {kl : List Dat → Prop} {kb : Bool → Prop} {ki : Int → Prop} {e : Env} {w : Wld} {kq : PQ}
theorem eAdd : qAdd (.int i) (.int j) k = k (.int (i + j)) := rfl
theorem eSub : qSub (.int i) (.int j) k = k (.int (i - j)) := rfl
theorem eAnd : qAnd (.int i) (.int j) k = k (.int (Builtin.bitAnd i j)) := rfl
theorem eOr : qOr (.int i) (.int j) k = k (.int (Builtin.bitOr i j)) := rfl
theorem eXor : qXor (.int i) (.int j) k = k (.int (Builtin.bitXor i j)) := rfl
theorem eLt : qLt (.int i) (.int j) k = k (.bl (decide (i < j))) := rfl
theorem eLe : qLe (.int i) (.int j) k = k (.bl (decide (i ≤ j))) := rfl
theorem eGt : qGt (.int i) (.int j) k = k (.bl (decide (j < i))) := rfl
theorem eGe : qGe (.int i) (.int j) k = k (.bl (decide (j ≤ i))) := rfl
theorem eMul : qMul (.int i) (.int j) k = (IntMulOk i j ∧ k (.int (i * j))) := rfl
theorem eDiv : qDiv (.int i) (.int j) k = (oDiv i j ∧ k (.int (i / j))) := rfl
theorem eMod : qMod (.int i) (.int j) k = ((0 < j) ∧ k (.int (i % j))) := rfl
theorem ePow : qPow (.int i) (.int j) k = (oPow i j ∧ k (.int (i ^ j.toNat))) := rfl
theorem eShl : qShl (.int i) (.int j) k = (CShl i j ∧ k (.int (i * 2 ^ j.toNat))) := rfl
theorem eShr : qShr (.int i) (.int j) k = ((0 ≤ j) ∧ k (.int (i / 2 ^ j.toNat))) := rfl
theorem eNeg : qNeg (.int i) k = k (.int (-i)) := rfl
theorem eEqI : qEq (.int i) (.int j) k = k (.bl (decide (i = j))) := rfl
theorem eEqS : qEq (.str s) (.str t) k = k (.bl (decide (s = t))) := rfl
theorem eEqL : qEq (.bl a) (.bl b) k = k (.bl (decide (a = b))) := rfl
theorem eNeI : qNe (.int i) (.int j) k = k (.bl (!decide (i = j))) := rfl
theorem eNeS : qNe (.str s) (.str t) k = k (.bl (!decide (s = t))) := rfl
theorem eNeL : qNe (.bl a) (.bl b) k = k (.bl (!decide (a = b))) := rfl
theorem eIx1 : qIx (.lst l) (.int n) k = onSome (atI l n) k := rfl
theorem eIx2 : qIx (.tup l) (.int n) k = onSome (atI l n) k := rfl
theorem eIx3 : qIx (.cst l) (.int n) k = onSome (atI l n) k := rfl
theorem eIxL : qIxL (.lst l) (.int n) k = onSome (atI l n) k := rfl
theorem eIxC : qIxL (.cst l) (.int n) k = onSome (atI l n) k := rfl
theorem eIxT : qIxT (.tup l) (.int n) k = onSome (atI l n) k := rfl
theorem eCat : qCat (.lst l) (.lst l') kl = (l.length + l'.length ≤ sizeLine ∧ kl (l ++ l')) := rfl
theorem eRep : qRep (.lst l) (.int n) kl = ((-(2 ^ 63) ≤ n ∧ n < 2 ^ 63 ∧ l.length * n.toNat ≤ sizeLine) ∧ kl (List.replicate n.toNat l).flatten) := rfl
theorem eLen1 : qLen [.lst l] k = k (.int (l.length : Nat)) := rfl
theorem eLen2 : qLen [.tup l] k = k (.int (l.length : Nat)) := rfl
theorem eLen3 : qLen [.cst l] k = k (.int (l.length : Nat)) := rfl
theorem eAbs : qAbs [.int n] k = k (.int (if n < 0 then -n else n)) := rfl
theorem eInt1 : qInt [.int n] k = k (.int n) := rfl
theorem eInt2 : qInt [.bl b] k = k (.int (if b then 1 else 0)) := rfl
theorem eMax : qMax2 [.int i, .int j] k = k (.int (if j > i then j else i)) := rfl
theorem eMin : qMin2 [.int i, .int j] k = k (.int (if j < i then j else i)) := rfl
theorem eList1 : qList [.lst l] kl = kl l := rfl
theorem eList2 : qList [.tup l] kl = kl l := rfl
theorem eList3 : qList [.cst l] kl = kl l := rfl
theorem eTupL : qTupL [.lst l] k = k (.tup l) := rfl
theorem eEqB {x y : Nat} : qEqB (.big x i) (.big y j) k = ((x ≠ 0 ∧ y ≠ 0) ∧ k (.bl (decide (x = y ∧ i = j)))) := rfl
theorem eNeB {x y : Nat} : qNeB (.big x i) (.big y j) k = ((x ≠ 0 ∧ y ≠ 0) ∧ k (.bl (!decide (x = y ∧ i = j)))) := rfl
theorem eIsB : isB (.bl b) kb = kb b := rfl
theorem eTup : tupOf (.tup l) kl = kl l := rfl
theorem eLst1 : lstOf (.lst l) kl = kl l := rfl
theorem eLst2 : lstOf (.cst l) kl = kl l := rfl
theorem eIntO : intOf (.int n) ki = ki n := rfl
theorem eSeq1 : seqOf (.lst l) kl = kl l := rfl
theorem eSeq2 : seqOf (.tup l) kl = kl l := rfl
theorem eSeq3 : seqOf (.cst l) kl = kl l := rfl
theorem eSome {α : Type} {x : α} {f : α → Prop} : onSome (some x) f = f x := rfl
theorem at_nat {α : Type} {l : List α} {n : Nat} {x : α} (h : l[n]? = some x) : atI l (n : Int) = some x := by
  unfold atI ixN
  have hl := (List.getElem?_eq_some_iff.mp h).1
  rw [if_pos (by omega), if_pos (by omega)]
  show l[((n : Nat) : Int).toNat]? = some x
  rw [show ((n : Nat) : Int).toNat = n by omega]; exact h
theorem eAt0 {α : Type} {x : α} {r : List α} : atI (x :: r) 0 = some x := at_nat (n := 0) rfl
theorem eAt1 {α : Type} {x y : α} {r : List α} : atI (x :: y :: r) 1 = some y := at_nat (n := 1) rfl
theorem eAt2 {α : Type} {x y z : α} {r : List α} : atI (x :: y :: z :: r) 2 = some z := at_nat (n := 2) rfl
theorem eAt3 {α : Type} {x y z u : α} {r : List α} : atI (x :: y :: z :: u :: r) 3 = some u := at_nat (n := 3) rfl
def vOf (o : Option Slot) (k : Dat → Prop) : Prop := match o with | some (.val d) => k d | _ => False
def oOf (o : Option Slot) (k : Bool → List Dat → Prop) : Prop := match o with | some (.own f l) => k f l | _ => False
theorem eVar {x : Nat} : pVar x e w kq = vOf e[x]? fun d => kq d e w := by
  unfold pVar vOf
  cases e[x]? with
  | none => rfl
  | some z => cases z <;> rfl
theorem eVal {d : Dat} : vOf (some (.val d)) k = k d := rfl
theorem eOwnAt {x : Nat} {ko : Bool → List Dat → Prop} : ownAt e x ko = oOf e[x]? ko := rfl
theorem eOwn {f : Bool} {ko : Bool → List Dat → Prop} : oOf (some (.own f l)) ko = ko f l := rfl
def sideOf (d : Dat) (k : Dat → Prop) : Prop := match d with | .big _ n => k (.int (sgn n)) | _ => False
def rowOf (d : Dat) (k : Dat → Prop) : Prop := match d with | .big b n => k (.tup (dN (digs b n.natAbs))) | _ => False
def bitsOf (d : Dat) (k : Dat → Prop) : Prop := match d with | .big b _ => k (.int (b : Int)) | _ => False
def machOf (d : Dat) (k : Nat → Prop) : Prop := match d with | .mach i => k i | _ => False
def bigOf (d : Dat) (k : Nat → Int → Prop) : Prop := match d with | .big b n => k b n | _ => False
theorem eSide {p : PE} : pSide p e w kq = p e w fun x e w => sideOf x fun d => kq d e w := by
  unfold pSide; congr 1
theorem eRow {p : PE} : pRow p e w kq = p e w fun x e w => rowOf x fun d => kq d e w := by
  unfold pRow; congr 1
theorem eWidB {p : PE} : pWidthB p e w kq = p e w fun x e w => bitsOf x fun d => kq d e w := by
  unfold pWidthB; congr 1
theorem eWidM {p : PE} : pWidthM p e w kq = p e w fun x e w => machOf x fun i => onM w i fun m => kq (.int (m.b : Int)) e w := by
  unfold pWidthM; congr 1
theorem eCut {p : PE} : pCut p e w kq = p e w fun x e w => machOf x fun i => onM w i fun m => kq (.int m.cut) e w := by
  unfold pCut; congr 1
theorem eBase {p : PE} : pBase p e w kq = p e w fun x e w => machOf x fun i => onM w i fun m => kq (.int (2 ^ m.b)) e w := by
  unfold pBase; congr 1
theorem eMethM {P : PSp} {p : PE} {r : PA} : pMethM P p r e w kq = p e w fun x e w => machOf x fun i => r e w fun ds e w => P (.mach i :: ds) w fun d w => kq d e w := by
  unfold pMethM; congr 1
theorem eMethB {P : PSp} {p : PE} {r : PA} : pMethB P p r e w kq = p e w fun x e w => bigOf x fun b n => r e w fun ds e w => P (.big b n :: ds) w fun d w => kq d e w := by
  unfold pMethB; congr 1
theorem eSideB {x : Nat} : sideOf (.big x i) k = k (.int (sgn i)) := rfl
theorem eRowB {x : Nat} : rowOf (.big x i) k = k (.tup (dN (digs x i.natAbs))) := rfl
theorem eBitsB {x : Nat} : bitsOf (.big x i) k = k (.int (x : Int)) := rfl
theorem eMachO {x : Nat} {km : Nat → Prop} : machOf (.mach x) km = km x := rfl
theorem eBigO {x : Nat} {km : Nat → Int → Prop} : bigOf (.big x i) km = km x i := rfl
variable {x y : Nat} {kw : Dat → Wld → Prop} {cut : Int}
theorem e_count {v : Int} : P_Machine_count [.mach x, .str s, .int v] w kw = onM w x fun m => ∃ j, words[j]? = some s ∧ kw .non (w.put x (m.cnt j v)) := rfl
theorem e_reset : P_Machine_reset [.mach x] w kw = onM w x fun m => kw .non (w.put x m.rst) := rfl
theorem e_parts : P_Machine_parts [.mach x] w kw = onM w x fun m => kw (.tup [.int (m.b : Int), .int m.cut]) w := rfl
theorem e_walk : P_Machine_walk [.mach x] w kw = onM w x fun m => kw (.lst (m.walk.map dW)) w := rfl
theorem e_tally : P_Machine_tally [.mach x] w kw = onM w x fun m => kw (.lst (dRows m.ns)) w := rfl
theorem e_check_machine : P_check_machine [.mach x] w kw = onM w x fun _ => kw .non w := rfl
theorem e_Machine : P_Machine [.int n, .int cut] w kw = ((8 ≤ n ∧ n ≤ 30 ∧ 2 ≤ cut ∧ cut ≤ 1000) ∧ kw (.mach w.ms.length) ⟨w.ms ++ [⟨n.toNat, cut, zeros, []⟩], w.ss, w.os⟩) := rfl
theorem e_made : P_made [.mach x, .int i, .lst l] w kw = onM w x fun m => ∃ es : List Nat, l = dN es ∧ m.b ≠ 0 ∧ Digs m.b es ∧ es.length < 2 ^ 23 ∧ sgnOk i (val m.b es) ∧ kw (.big m.b (i * (val m.b es : Nat))) w := rfl
theorem e_big_of : P_big_of [.mach x, .int n] w kw = onM w x fun m => m.b ≠ 0 ∧ (digs m.b n.natAbs).length < 2 ^ 23 ∧ kw (.big m.b n) w := rfl
theorem e_big : P_big [.mach x, .int n] w kw = onM w x fun m => m.b ≠ 0 ∧ (digs m.b n.natAbs).length < 2 ^ 23 ∧ kw (.big m.b n) w := rfl
theorem e_value_of : P_value_of [.big x n] w kw = (bigL x n ∧ kw (.int n) w) := rfl
theorem e_plain : P_plain [.big x n] w kw = (bigL x n ∧ kw (.int n) w) := rfl
theorem e_check_any : P_check_any [.big x n] w kw = kw .non w := rfl
theorem e_check_big : P_check_big [.mach x, .str s, .big y n] w kw = onM w x fun m => m.b = y ∧ kw .non w := rfl
theorem e_check_bigs {y' : Nat} : P_check_bigs [.mach x, .big y n, .big y' i] w kw = onM w x fun m => m.b = y ∧ m.b = y' ∧ kw .non w := rfl
theorem e_is_compact : P_is_compact [.big x n] w kw = kw (.bl (decide ((digs x n.natAbs).length ≤ 1))) w := rfl
theorem e_sign : P_Big_sign [.big x n] w kw = kw (.int (sgn n)) w := rfl
theorem e_bits : P_Big_bits [.big x n] w kw = kw (.int (x : Int)) w := rfl
theorem e_digits : P_Big_digits [.big x n] w kw = kw (.lst (dN (digs x n.natAbs))) w := rfl
theorem e_bit_length : P_bit_length [.big x n] w kw = (bigL x n ∧ kw (.int (Builtin.Int.intBits n : Nat)) w) := rfl
theorem e_is_digits : P_is_digits [.mach x, .lst l] w kw = onM w x fun m => ∃ es : List Nat, l = dN es ∧ Digs m.b es ∧ es.length < 2 ^ 23 ∧ kw (.bl true) w := rfl
theorem e_Big : P_Big [.int n, .int i, .tup l] w kw = ∃ (b' : Nat) (z : Int), n = (b' : Int) ∧ i = sgn z ∧ l = dN (digs b' z.natAbs) ∧ kw (.big b' z) w := rfl
theorem e_source_of : P_law_source_of [.int n] w kw = kw (.src w.ss) ⟨w.ms, w.ss + 1, w.os⟩ := rfl
theorem e_next : P_law_next [.src x, .int n] w kw = (x < w.ss ∧ (0 < n ∧ NxtB n) ∧ ∀ r, 0 ≤ r → r < n → kw (.int r) w) := rfl
theorem e_one : P_law_one [.src x, .lst l] w kw = (x < w.ss ∧ (l ≠ [] ∧ l.length ≤ 1000) ∧ ∀ d ∈ l, kw d w) := rfl
theorem e_cell_at : P_law_cell_at [.cst l, .int i] w kw = ∃ ns : List Int, l = ns.map Dat.int ∧ ns.length ≤ 1000 ∧ ∀ n, kw (.int n) w := rfl
theorem e_counted {d : List (Str × Int)} : P_law_counted [.mach x, .dic d] w kw = onM w x fun m => Due d m.ns ∧ kw (.bl true) (w.put x m.rst) := rfl
theorem e_cnt {v : Int} {j : Nat} (hj : words[j]? = some s) : P_Machine_count [.mach x, .str s, .int v] w kw = onM w x fun m => kw .non (w.put x (m.cnt j v)) := by
  rw [e_count]
  congr 1
  funext m
  refine propext ⟨fun ⟨j', h1, h2⟩ => ?_, fun h => ⟨j, hj, h⟩⟩
  have hi : j < words.length := (List.getElem?_eq_some_iff.mp hj).1
  have : j = j' := (List.getElem?_inj hi (by decide +kernel)).mp (hj.trans h1.symm)
  rw [this]; exact h2
theorem e_cnt0 {v : Int} : P_Machine_count [.mach x, .str "short", .int v] w kw = onM w x fun m => kw .non (w.put x (m.cnt 0 v)) := e_cnt rfl
theorem e_cnt1 {v : Int} : P_Machine_count [.mach x, .str "sum", .int v] w kw = onM w x fun m => kw .non (w.put x (m.cnt 1 v)) := e_cnt rfl
theorem e_cnt2 {v : Int} : P_Machine_count [.mach x, .str "product", .int v] w kw = onM w x fun m => kw .non (w.put x (m.cnt 2 v)) := e_cnt rfl
theorem e_cnt3 {v : Int} : P_Machine_count [.mach x, .str "quotient", .int v] w kw = onM w x fun m => kw .non (w.put x (m.cnt 3 v)) := e_cnt rfl
theorem e_cnt4 {v : Int} : P_Machine_count [.mach x, .str "corrected", .int v] w kw = onM w x fun m => kw .non (w.put x (m.cnt 4 v)) := e_cnt rfl
theorem e_cnt5 {v : Int} : P_Machine_count [.mach x, .str "restored", .int v] w kw = onM w x fun m => kw .non (w.put x (m.cnt 5 v)) := e_cnt rfl
theorem e_cnt6 {v : Int} : P_Machine_count [.mach x, .str "shifted", .int v] w kw = onM w x fun m => kw .non (w.put x (m.cnt 6 v)) := e_cnt rfl
theorem e_cnt7 {v : Int} : P_Machine_count [.mach x, .str "combined", .int v] w kw = onM w x fun m => kw .non (w.put x (m.cnt 7 v)) := e_cnt rfl
theorem e_cnt8 {v : Int} : P_Machine_count [.mach x, .str "complemented", .int v] w kw = onM w x fun m => kw .non (w.put x (m.cnt 8 v)) := e_cnt rfl
theorem e_cnt9 {v : Int} : P_Machine_count [.mach x, .str "looked", .int v] w kw = onM w x fun m => kw .non (w.put x (m.cnt 9 v)) := e_cnt rfl
theorem onM_is {m : Mach} {km : Mach → Prop} (h : w.ms[x]? = some m) : onM w x km = km m := by unfold onM; rw [h]
theorem put_at {m m' : Mach} (h : w.ms[x]? = some m) : (w.put x m').ms[x]? = some m' := by
  show (w.ms.set x m')[x]? = _
  exact List.getElem?_set_self (List.getElem?_eq_some_iff.mp h).1
theorem put_put {m m' : Mach} : (w.put x m).put x m' = w.put x m' := by
  unfold Wld.put; simp
theorem put_self {m : Mach} (h : w.ms[x]? = some m) : w.put x m = w := by
  unfold Wld.put
  obtain ⟨h1, h2⟩ := List.getElem?_eq_some_iff.mp h
  have : w.ms.set x m = w.ms := by rw [← h2]; exact List.set_getElem_self h1
  rw [this]
theorem onM_put {m m' : Mach} {km : Mach → Prop} (h : w.ms[x]? = some m) : onM (w.put x m') x km = km m' := onM_is (put_at h)
theorem put_ne {m : Mach} (h : y ≠ x) : (w.put x m).ms[y]? = w.ms[y]? := List.getElem?_set_ne (Ne.symm h)
end
theorem ite_and {p q A B : Prop} [Decidable p] [Decidable q] (ha : p → q → A) (hb : ¬ (p ∧ q) → B) : if p then if q then A else B else B := by
  by_cases h1 : p
  · rw [if_pos h1]
    by_cases h2 : q
    · rw [if_pos h2]; exact ha h1 h2
    · rw [if_neg h2]; exact hb fun z => h2 z.2
  · rw [if_neg h1]; exact hb fun z => h1 z.1
theorem ite_2 {p A B : Prop} [Decidable p] (ha : p → A) (hb : ¬ p → B) : if p then A else B := by
  by_cases h1 : p
  · rw [if_pos h1]; exact ha h1
  · rw [if_neg h1]; exact hb h1
theorem lp_ind {g : PG} {b : PS} {D : PEnds} {ds : List Dat} {e : Env} {w : Wld} (Iv : Nat → Env → Wld → Prop) (h0 : Iv 0 e w)
    (hs : ∀ (i : Nat) (d : Dat) (e : Env) (w : Wld) (nx : Env → Wld → Prop), ds[i]? = some d → Iv i e w → (∀ e w, Iv (i + 1) e w → nx e w) → g d e w fun e w => b ⟨nx, D.rt, D.nx, nx⟩ e w)
    (hd : ∀ e w, Iv ds.length e w → D.nx e w) : lp g b D ds e w := by
  have key : ∀ n i e w, n + i = ds.length → Iv i e w → lp g b D (ds.drop i) e w := by
    intro n
    induction n with
    | zero =>
      intro i e w hi hI
      have : i = ds.length := by omega
      subst this
      rw [List.drop_length]
      exact hd e w hI
    | succ n ih =>
      intro i e w hi hI
      have hlt : i < ds.length := by omega
      rw [List.drop_eq_getElem_cons hlt]
      exact hs i _ e w _ (List.getElem?_eq_getElem hlt) hI fun e w h => ih (i + 1) e w (by omega) h
  exact key ds.length 0 e w rfl h0
theorem whl_ind {c : PT} {b : PS} {D : PEnds} {e : Env} {w : Wld} (Iv : Nat → Env → Wld → Prop) (m : Nat) (h0 : Iv m e w)
    (hs : ∀ (m : Nat) (e : Env) (w : Wld) (nx : Env → Wld → Prop), Iv m e w → (∀ m' e w, m' < m → Iv m' e w → nx e w) → c e w fun t e w => if t = true then b ⟨nx, D.rt, D.nx, nx⟩ e w else D.nx e w) : pWhile c b D e w := by
  have key : ∀ n m e w, m < n → Iv m e w → whl c b D n e w := by
    intro n
    induction n with
    | zero => intro m e w h _; omega
    | succ n ih => intro m e w h hI; exact hs m e w _ hI fun m' e w hm h' => ih m' e w (by omega) h'
  exact ⟨m + 1, key (m + 1) m e w (Nat.lt_succ_self m) h0⟩
theorem lif_len {K : PySem.W.Frag} {c : Pc} {P : PSp} {n : Nat} {vs : List V} {H : Hp} {Q : VK} {E : XK} (hP : ∀ ds w k, P ds w k → ds.length = n) (h : lif K c P vs H Q E) : vs.length = n := by
  obtain ⟨g, w, ds, k, _, r, hp, _⟩ := h
  rw [r.length]; exact hP ds w k hp
end Pu
namespace Pu
open PySem L2 Eng
def Mo (p : PE) : Prop := ∀ (e : Env) (w : Wld) (k k' : PQ), (∀ d e w, k d e w → k' d e w) → p e w k → p e w k'
def MoF (p : PF) : Prop := ∀ (e : Env) (w : Wld) (k k' : List Dat → Env → Wld → Prop), (∀ d e w, k d e w → k' d e w) → p e w k → p e w k'
def MoT (p : PT) : Prop := ∀ (e : Env) (w : Wld) (k k' : Bool → Env → Wld → Prop), (∀ d e w, k d e w → k' d e w) → p e w k → p e w k'
def MoA (p : PA) : Prop := ∀ (e : Env) (w : Wld) (k k' : List Dat → Env → Wld → Prop), (∀ d e w, k d e w → k' d e w) → p e w k → p e w k'
def MoQ (q : Q2) : Prop := ∀ (x y : Dat) (k k' : Dat → Prop), (∀ d, k d → k' d) → q x y k → q x y k'
def MoP (P : PSp) : Prop := ∀ (ds : List Dat) (w : Wld) (k k' : Dat → Wld → Prop), (∀ d w, k d w → k' d w) → P ds w k → P ds w k'
section
variable {a b : PE} {c d : PT} {r : PA} {q : Q2} {i : Nat} {x : Dat} {P : PSp}
theorem mo_var : Mo (pVar i) := fun e w k k' h hp => by
  rw [eVar] at hp ⊢
  unfold vOf at hp ⊢
  split
  · rename_i z
    rw [z] at hp; exact h _ _ _ hp
  · rename_i z
    split at hp
    · rename_i z'; exact (z _ z').elim
    · exact hp
theorem mo_c : Mo (pC x) := fun e w k k' h hp => h _ _ _ hp
theorem mo_op (hq : MoQ q) (ha : Mo a) (hb : Mo b) : Mo (pOp q a b) := fun e w k k' h hp => ha _ _ _ _ (fun x e w hx => hb _ _ _ _ (fun y e w hy => hq _ _ _ _ (fun z hz => h _ _ _ hz) hy) hx) hp
theorem mo_neg (ha : Mo a) : Mo (pUn qNeg a) := fun e w k k' h hp => ha _ _ _ _ (fun x e w hx => by
  cases x with
  | int n => exact h _ _ _ hx
  | _ => exact hx.elim) hp
theorem mo_test (ha : Mo a) : MoT (pTest a) := fun e w k k' h hp => ha _ _ _ _ (fun x e w hx => by
  cases x with
  | bl n => exact h _ _ _ hx
  | _ => exact hx.elim) hp
theorem mo_not (hc : MoT c) : MoT (pNot c) := fun e w k k' h hp => hc _ _ _ _ (fun x e w hx => h _ _ _ hx) hp
theorem mo_and (hc : MoT c) (hd : MoT d) : MoT (pAnd c d) := fun e w k k' h hp => hc _ _ _ _ (fun x e w hx => by
  split
  · rename_i z; rw [if_pos z] at hx; exact hd _ _ _ _ h hx
  · rename_i z; rw [if_neg z] at hx; exact h _ _ _ hx) hp
theorem mo_or (hc : MoT c) (hd : MoT d) : MoT (pOr c d) := fun e w k k' h hp => hc _ _ _ _ (fun x e w hx => by
  split
  · rename_i z; rw [if_pos z] at hx; exact h _ _ _ hx
  · rename_i z; rw [if_neg z] at hx; exact hd _ _ _ _ h hx) hp
theorem mo_if (hc : MoT c) (ha : Mo a) (hb : Mo b) : Mo (pIf c a b) := fun e w k k' h hp => hc _ _ _ _ (fun x e w hx => by
  split
  · rename_i z; rw [if_pos z] at hx; exact ha _ _ _ _ h hx
  · rename_i z; rw [if_neg z] at hx; exact hb _ _ _ _ h hx) hp
theorem mo_nil : MoA pNil := fun e w k k' h hp => h _ _ _ hp
theorem mo_cons (ha : Mo a) (hr : MoA r) : MoA (pCons a r) := fun e w k k' h hp => ha _ _ _ _ (fun x e w hx => hr _ _ _ _ (fun y e w hy => h _ _ _ hy) hx) hp
theorem mo_tup (hr : MoA r) : Mo (pTup r) := fun e w k k' h hp => hr _ _ _ _ (fun x e w hx => ⟨hx.1, h _ _ _ hx.2⟩) hp
theorem mo_fz {f : PF} (hf : MoF f) : Mo (pFz f) := fun e w k k' h hp => hf _ _ _ _ (fun x e w hx => h _ _ _ hx) hp
theorem mo_lst (hr : MoA r) : MoF (pLst r) := fun e w k k' h hp => hr _ _ _ _ (fun x e w hx => ⟨hx.1, h _ _ _ hx.2⟩) hp
theorem moq_I {C : Int → Int → Prop} {g : Int → Int → Dat} : MoQ (qI C g) := fun x y k k' h hq => by
  cases x with
  | int i =>
    cases y with
    | int j => exact ⟨hq.1, h _ hq.2⟩
    | _ => exact hq.elim
  | _ => exact hq.elim
theorem moq_I0 {g : Int → Int → Dat} : MoQ (qI0 g) := fun x y k k' h hq => by
  cases x with
  | int i =>
    cases y with
    | int j => exact h _ hq
    | _ => exact hq.elim
  | _ => exact hq.elim
theorem moq_eq : MoQ qEq := fun x y k k' h hq => by
  cases x <;> cases y <;> first | exact h _ hq | exact hq.elim
theorem moq_ne : MoQ qNe := fun x y k k' h hq => by
  cases x <;> cases y <;> first | exact h _ hq | exact hq.elim
end
def P_law0 : PSp := fun ds w k => match ds with
  | [.cst l] => ∃ ns : List Int, l = ns.map Dat.int ∧ ns.length ≤ 63 ∧ ∀ w', k (.bl true) w'
  | _ => False
theorem law_lif {K : PySem.W.Frag} {c : Pc} {vs : List V} {H : Hp} {Q : VK} {E : XK} (NT : c.ts = []) (h : sp_law0 K vs H Q E) : lif K c P_law0 vs H Q E := by
  obtain ⟨a, ns, rfl, hs, hl, hq⟩ := h
  refine ⟨⟨H, [], [], [], []⟩, ⟨[], 0, []⟩, [.cst (ns.map Dat.int)], fun d _ => d = .bl true, ⟨fun _ _ h => h, List.nodup_nil, (fun _ h => nomatch h), rfl, (fun i q m h => by simp at h), (fun _ h => nomatch h), rfl, rfl, (fun i q m h => by simp at h), (fun _ h => nomatch h), NT.symm⟩, .cons (.cst hs (Reps.ofInts ns)) .nil, ⟨ns, rfl, hl, fun _ => rfl⟩, fun v d g' H' w' _ _ r hd => ?_⟩
  subst hd
  rw [r.blI]
  exact hq H'
theorem cut_all {P : Dat → Prop} {l : List Dat} (h : ∀ d ∈ l, P d) (lo hi : Option Int) : ∀ d ∈ cutD l lo hi, P d := fun d hd => h d (List.mem_of_mem_drop (List.mem_of_mem_take hd))
theorem cut_len {l : List Dat} (lo hi : Option Int) : (cutD l lo hi).length ≤ l.length := by
  unfold cutD
  rw [List.length_take, List.length_drop]; omega
end Pu
namespace Pu
open PySem L2 Eng
def P_Machine_enter : PSp := fun ds w k => match ds with
  | [.mach i, .str s, .int m, .int n] => onM w i fun M => k .non (w.put i (M.ent s m n))
  | _ => False
theorem e_enter {x : Nat} {s : Str} {m n : Int} {w : Wld} {kw : Dat → Wld → Prop} : P_Machine_enter [.mach x, .str s, .int m, .int n] w kw = onM w x fun M => kw .non (w.put x (M.ent s m n)) := rfl
def pSlT (a : PE) (lo hi : PO) : PE := fun e w k => a e w fun x e w => lo e w fun l e w => hi e w fun u e w => tupOf x fun ds => k (.tup (cutD ds l u)) e w
section
variable {K : PySem.W.Frag} {c : Pc} {ta tb : TE} {pa pb : PE}
theorem four_arg {g : Gh} {vs : List V} {d e f f' : Dat} (r : Reps K c g vs [d, e, f, f']) : ∃ v v' v'' v3, vs = [v, v', v'', v3] ∧ Rep K c g v d ∧ Rep K c g v' e ∧ Rep K c g v'' f ∧ Rep K c g v3 f' := by
  cases r with
  | cons r t =>
    obtain ⟨v, v', v'', rfl, h, h', h''⟩ := three_arg t
    exact ⟨_, _, _, _, rfl, r, h, h', h''⟩
theorem u_Machine_enter : SndP K c (sp_Machine_enter K c) P_Machine_enter := by
  intro g H w vs ds k Q E W r h hQ
  unfold P_Machine_enter at h
  split at h
  · rename_i i s m n
    obtain ⟨M, hM, h⟩ := onM_of h
    obtain ⟨a, b, d, d', rfl, r1, r2, r3, r4⟩ := four_arg r
    obtain ⟨q, m', dx, hq, hm', rfl, hi, R⟩ := W.ins r1
    rw [hM] at hm'; cases hm'
    obtain ⟨ws, hw1, hw2⟩ := R.wlk
    have hlen : ws.length = M.walk.length := by rw [hw2.length, List.length_map]
    have hfew := R.few
    refine ⟨q.1, dx, M.b, M.cut, q.2.1, q.2.2, ws, s, m, n, by rw [r2.strI, r3.intI, r4.intI], hi, hw1, by omega, fun hlt p H' ch => ?_, fun hge => ?_⟩
    · obtain ⟨W', A⟩ := W.goM (fr := [(p, .tup [.str s, .int m, .int n])]) (m := M.ent s m n) hq ch (fun a ha => .inr (List.mem_singleton.mp ha)) (fun q hq => by rw [List.mem_singleton.mp hq]; exact ⟨_, ch.chg List.mem_cons_self⟩) (fun _ z => z) fun le => by
        obtain ⟨dx, hin⟩ := R.ins
        refine ⟨⟨dx, le.G _ _ hin⟩, ch.keep _ _ R.cnt (fun z => W.de hq hq (List.mem_singleton.mp z)), R.ten, ⟨_, ch.chg List.mem_cons_self, ?_⟩, ?_⟩
        · show Reps K c _ (ws ++ [.ref p]) ((if M.walk.length < 1000 then M.walk ++ [(s, m, n)] else M.walk).map dW)
          rw [if_pos (by omega), List.map_append]
          exact (hw2.mono le).app (.cons (.tup (gAdd_in (q := (p, HO.tup [.str s, .int m, .int n])) ch.nd List.mem_cons_self) (.cons (.str _) (.cons (.int _) (.cons (.int _) .nil)))) .nil)
        · show (if M.walk.length < 1000 then M.walk ++ [(s, m, n)] else M.walk).length ≤ 1000
          rw [if_pos (by omega), List.length_append]
          simp only [List.length_cons, List.length_nil]; omega
      exact hQ .non .non _ H' _ A W' .non h
    · have e : M.ent s m n = M := by unfold Mach.ent; rw [if_neg (by omega)]
      rw [e, put_self hM] at h
      exact hQ .non .non g H w (Aft.refl _ _) W .non h
  · exact h.elim
theorem snd_slT {tlo thi : TO} {plo phi : PO} (ha : SndE K c ta pa) (h1 : SndO K c tlo plo) (h2 : SndO K c thi phi) : SndE K c (tSl (rSlA K) ta tlo thi) (pSlT pa plo phi) := by
  intro X F σ s k Q I h hQ
  refine ha X F σ s _ _ I h fun x dx s1 l1 I1 r1 hA => ?_
  refine h1 X F σ s1 _ _ I1 hA fun l s2 l2 I2 hB => ?_
  refine h2 X F σ s2 _ _ I2 hB fun u s3 l3 I3 h' => ?_
  clear hA hB
  replace h' := tupOf_of h'
  obtain ⟨ds, rfl, h'⟩ := h'
  have r3 := (r1.mono l2).mono l3
  obtain ⟨a, vs, rfl, hH, hR⟩ := RepW.tup (.inl r3) I3
  refine ⟨a, vs, rfl, hH, fun hw => ?_, fun hw p hp => ?_⟩
  · have e : cutD ds l u = ds := by
      unfold cutD
      rw [hR.length] at hw
      rw [hw.1, hw.2, List.drop_zero, Nat.sub_zero, List.take_length]
    rw [e] at h'
    exact hQ _ _ s3 ((l1.trans l2).trans l3) I3 r3 h'
  · have le := gUpd_le (o := .tup (cutV vs l u)) (I3.offG hp)
    exact hQ _ _ ⟨gUpd s3.g p (.tup _), upd s3.H p (.tup _), s3.e, s3.w, s3.os⟩ (((l1.trans l2).trans l3).trans le) (I3.newG hp) (.tup (show upd s3.g.G p _ p = _ from upd_same) ((reps_cut hR l u).mono le)) h'
theorem ItD.enumT {g : Gh} {a : Addr} {vs : List V} {l : List Dat} (h : SqT K g.G a vs) (r : Reps K c g vs l) : ItD K c (IteT K a) g (enm 0 l) where
  go := fun X F σ s i d le I hd => by
    obtain ⟨x, hx, rfl⟩ := enm_get hd
    obtain ⟨v, hv, rv⟩ := r.get hx
    have hs : SqT K s.H a vs := sqT_mono I.wr.sub (sqT_mono le.G h)
    refine ⟨⟨vs, v, hs, hv⟩, fun z H' ⟨T, z1, e, hT, e2, q1⟩ => ?_⟩
    have e3 := q1 vs hs
    rw [hv] at e3; cases e3
    have le2 := gUpd_le (o := .tup [.int (i : Nat), v]) (I.offG hT)
    refine ⟨⟨gUpd s.g T (.tup [.int (i : Nat), v]), upd s.H T (.tup [.int (i : Nat), v]), s.e, s.w, s.os⟩, e2.symm, le2, I.newG hT, rfl, rfl, ?_⟩
    rw [e, Nat.zero_add]
    exact .tup (show upd s.g.G T _ T = _ from upd_same) (.cons (.int _) (.cons ((rv.mono le).mono le2) .nil))
  stop := fun X F σ s le I => ⟨vs, sqT_mono I.wr.sub (sqT_mono le.G h), by rw [r.length, enm_len]; exact Nat.le_refl _⟩
theorem snd_iEnumA (ha : SndE K c ta pa) : SndI K c (iEnumA K (tCons ta tNil)) (pIEnum pa) := by
  intro X F σ s k R I h hR
  refine ha X F σ s _ _ I h fun x dx s1 l1 I1 r1 h1 => ?_
  cases r1 with
  | lst h2 r2 => exact ⟨_, _, rfl, .inl ⟨SqL.of (I1.wr.sub _ _ h2), hR _ _ s1 l1 I1 (ItD.enum (SqL.of h2) r2) h1⟩⟩
  | cst h2 r2 => exact ⟨_, _, rfl, .inl ⟨sqL_mono I1.wr.sub h2, hR _ _ s1 l1 I1 (ItD.enum h2 r2) h1⟩⟩
  | tup h2 r2 => exact ⟨_, _, rfl, .inr ⟨SqT.of (I1.wr.sub _ _ h2), hR _ _ s1 l1 I1 (ItD.enumT (SqT.of h2) r2) h1⟩⟩
  | _ => exact h1.elim
end
end Pu
namespace Pu
open PySem L2 Eng
def qDivmod : QL
  | [.int i, .int j], k => oDiv i j ∧ k (.tup [.int (i / j), .int (i % j)])
  | _, _ => False
def qAnyT : QL
  | [.tup l], k => ∃ ns : List Int, l = ns.map Dat.int ∧ k (.bl (ns.any fun n => n != 0))
  | _, _ => False
def pExtend (i : Nat) (a : PE) : PS := fun D e w => ownAt e i fun _ _ => a e w fun d e w => match d with
  | .lst zs => ownAt e i fun f l => l.length + zs.length ≤ sizeLine ∧ D.nx (e.set i (.own f (l ++ zs))) w
  | _ => False
def pIA (a : PE) : PA := fun e w k => a e w fun d e w => seqOf d fun l => k l e w
def dP (p : Str × Int) : Dat := .tup [.str p.1, .int p.2]
def qDict : QL
  | [.lst l], k => ∃ prs : List (Str × Int), l = prs.map dP ∧ (prs.map (·.1)).Nodup ∧ k (.dic prs)
  | _, _ => False
/-- the same pairs -/
def EqDs (l l' : List (Str × Int)) : Prop := l.length = l'.length ∧ (l'.map (·.1)).Nodup ∧ ∀ p ∈ l, p ∈ l'
def qEqDA : Q2
  | .dic l, .dic l', k => EqDs l l' ∧ k (.bl true)
  | _, _, _ => False
def pos (l : List (Str × Int)) : List (Str × Int) := l.filter fun p => decide (0 < p.2)
def pPosD : PE := fun e w k => match e with
  | [_, .val (.dic l), _, _, _, _, _, _] => ((l.map (·.1)).Nodup ∧ l.length < 100) ∧ k (.dic (pos l)) e w
  | _ => False
section
variable {K : PySem.W.Frag} {c : Pc}
theorem RepW.dic {s : Cf} {v : V} {l : List (Str × Int)} {X : En} {F : List (Addr × HO)} {σ : L2.St} (I : In K c X F σ s) (h : RepW K c s v (.dic l)) : ∃ a, v = .ref a ∧ s.H a = some (.dK (dKs l)) := by
  rcases h with h | ⟨_, _, _, _, e, _⟩
  · cases h with
    | dic h => exact ⟨_, rfl, I.wr.sub _ _ h⟩
  · cases e
def P_is_integer : PSp := fun ds w k => match ds with
  | [.int _] => k (.bl true) w
  | _ => False
end
theorem e_is_integer {n : Int} {w : Wld} {k : Dat → Wld → Prop} : P_is_integer [.int n] w k = k (.bl true) w := rfl
section
variable {kd : Dat → Prop} {kq : PQ} {w : Wld}
theorem eDivmod {i j : Int} : qDivmod [.int i, .int j] kd = (oDiv i j ∧ kd (.tup [.int (i / j), .int (i % j)])) := rfl
theorem eAnyT {l : List Dat} : qAnyT [.tup l] kd = ∃ ns : List Int, l = ns.map Dat.int ∧ kd (.bl (ns.any fun n => n != 0)) := rfl
theorem eDict {l : List Dat} : qDict [.lst l] kd = ∃ prs : List (Str × Int), l = prs.map dP ∧ (prs.map (·.1)).Nodup ∧ kd (.dic prs) := rfl
theorem eEqDA {l l' : List (Str × Int)} : qEqDA (.dic l) (.dic l') kd = (EqDs l l' ∧ kd (.bl true)) := rfl
theorem ePosD {x0 x2 x3 x4 x5 x6 x7 : Slot} {l : List (Str × Int)} : pPosD [x0, .val (.dic l), x2, x3, x4, x5, x6, x7] w kq = (((l.map (·.1)).Nodup ∧ l.length < 100) ∧ kq (.dic (pos l)) [x0, .val (.dic l), x2, x3, x4, x5, x6, x7] w) := rfl
end
end Pu
namespace Pu
open PySem L2 Eng
/-- free of lists -/
def lf : Dat → Prop
  | .int _ => True
  | .bl _ => True
  | .str _ => True
  | .non => True
  | _ => False
def noOwn : Env → Prop
  | [] => True
  | .no :: e => noOwn e
  | .val _ :: e => noOwn e
  | _ :: _ => False
/-- what a name with a list of its own is, looked at -/
def bview (e : Env) (i : Nat) (k : Dat → Prop) : Prop := match e[i]? with
  | some (.own true l) => k (.lst l)
  | some (.ownT l r) => k (.tup (.lst l :: r))
  | _ => False
def pBor (i : Nat) (p : PE) : PE := fun e w k => noOwn (e.set i .no) ∧ bview e i fun d => p (e.set i (.val d)) w fun v e' w' => lf v ∧ e' = e.set i (.val d) ∧ w'.os = [] ∧ k v e w'
def pBorT (i : Nat) (p : PT) : PT := fun e w k => noOwn (e.set i .no) ∧ bview e i fun d => p (e.set i (.val d)) w fun v e' w' => e' = e.set i (.val d) ∧ w'.os = [] ∧ k v e w'
section
variable {K : PySem.W.Frag} {c : Pc} {X : En} {F : List (Addr × HO)} {σ : L2.St} {s s1 : Cf} {g g1 : Gh} {H : Hp} {w : Wld} {a : Addr} {vs : List V} {i : Nat} {ta tb : TE} {pa pb : PE} {tT : TT} {pT : PT} {tr : TA} {pr : PA} {sp : Sp} {P : PSp} {E : XK} {ts tu : TS} {ps pu : PS}
def ownTAt (e : Env) (i : Nat) (k : List Dat → List Dat → Prop) : Prop := match e[i]? with | some (.ownT l r) => k l r | _ => False
/-- x[0].append(y) of a told tuple x -/
def pAppT (i : Nat) (a : PE) : PS := fun D e w => ownTAt e i fun _ _ => a e w fun d e w => ownTAt e i fun l r => l.length < sizeLine ∧ D.nx (e.set i (.ownT (l ++ [d]) r)) w
def lifS (K : PySem.W.Frag) (c : Pc) (P : PSp) : Sp := fun vs H Q _ => ∃ (g : Gh) (w : Wld) (ds : List Dat) (k : Dat → Wld → Prop), Wr K c g H w ∧ Reps K c g vs ds ∧ P ds w k ∧
  ∀ p a us ws l r g' H' w', Aft g H g' H' → Wr K c g' H' w' → H a = none → g'.G a = none → a ∉ g'.mu → H' a = some (.lst ws) → Reps K c g' ws l → g'.G p = some (.tup (.ref a :: us)) → Reps K c g' us r → k (.tup (.lst l :: r)) w' → Q (.ref p) H'
/-- behind a call that tells a list -/
theorem In.callH (I : In K c X F σ s) {g' : Gh} {H' : Hp} {w' : Wld} {ws : List V} (A : Aft s.g s.H g' H') (W : Wr K c g' H' w') (ha : s.H a = none) (hg : g'.G a = none) (hm : a ∉ g'.mu) (hH : H' a = some (.lst ws)) : In K c X ((a, .lst ws) :: F) σ ⟨g', H', s.e, w', s.os⟩ := by
  have I1 := I.call A W
  have hn : a ∉ (⟨g', H', s.e, w', s.os⟩ : Cf).mu F := fun z => by
    rcases List.mem_append.mp z with z | z
    · exact hm z
    · obtain ⟨o, e⟩ := I.al (List.mem_append_right _ z)
      rw [ha] at e; cases e
  have hp := mu_cons (⟨g', H', s.e, w', s.os⟩ : Cf) (a, .lst ws) F
  refine ⟨W, hp.nodup_iff.mpr (List.nodup_cons.mpr ⟨hn, I1.nd⟩), fun b hb => ?_, I1.len, I1.env, fun q hq => ?_, I1.oal, I1.le, I1.keep, I1.frz, fun b hb => ?_, I1.dom⟩
  · rcases List.mem_cons.mp (hp.mem_iff.mp hb) with z | z
    · rw [z]; exact hg
    · exact I1.off b z
  · rcases List.mem_cons.mp hq with rfl | hq
    · exact hH
    · exact I1.held q hq
  · rcases List.mem_cons.mp (hp.mem_iff.mp hb) with z | z
    · rw [z]; exact .inr (.inr (I.fresh ha))
    · exact I1.new b z
def tldOf : Dat → (List Dat → List Dat → Prop) → Prop
  | .tup (.lst l :: r), k => k l r
  | _, _ => False
/-- x = f(..), told -/
def pAsgT (P : PSp) (a : PA) (i : Nat) : PS := fun D e w => a e w fun ds e w => P ds w fun d w => tldOf d fun l r => D.nx (e.set i (.ownT l r)) w
/-- x, y = f(..), z -/
def pParT (P : PSp) (a : PA) (b : PE) (i j : Nat) : PS := fun D e w => a e w fun ds e w => P ds w fun d w => tldOf d fun l r => b e w fun d2 e w => D.nx ((e.set i (.ownT l r)).set j (.val d2)) w
/-- x, y = z, z told -/
def pTake (i x y : Nat) : PS := fun D e w => noOwn (e.set i .no) ∧ ownTAt e i fun l r => match r with
  | [d] => D.nx (((e.set i .no).set x (.own true l)).set y (.val d)) w
  | _ => False
structure SEndsS (K : PySem.W.Frag) (c : Pc) (X : En) (F : List (Addr × HO)) (g : Gh) (D : Ends) (Dp : PEnds) : Prop where
  rt : ∀ σ s p a us ws l r, g.le s.g → In K c X ((a, .lst ws) :: F) σ s → X.H a = none → s.g.G p = some (.tup (.ref a :: us)) → Reps K c s.g us r → Reps K c s.g ws l → Dp.rt (.tup (.lst l :: r)) s.e s.w → D.rt (.ref p) s.H
theorem SEndsS.mono {D : Ends} {Dp : PEnds} {g' : Gh} (h : SEndsS K c X F g D Dp) (le : g.le g') : SEndsS K c X F g' D Dp := ⟨fun σ s p a us ws l r l' => h.rt σ s p a us ws l r (le.trans l')⟩
def pSeqN (a b : PS) : PS := fun D e w => a ⟨b D, fun _ _ _ => False, fun _ _ => False, fun _ _ => False⟩ e w
def pRetT (f : PF) (b : PE) : PS := fun D e w => f e w fun l e w => b e w fun d e w => 2 ≤ sizeLine ∧ D.rt (.tup [.lst l, d]) e w
def pRetO (i : Nat) (b : PE) : PS := fun D e w => ownAt e i fun _ _ => b e w fun d e w => ownAt e i fun f l => (f = true ∧ noOwn (e.set i .no)) ∧ 2 ≤ sizeLine ∧ D.rt (.tup [.lst l, d]) (e.set i .no) w
def pRetC (P : PSp) (a : PA) : PS := fun D e w => a e w fun ds e w => P ds w fun d w => tldOf d fun l r => D.rt (.tup (.lst l :: r)) e w
theorem lifS_len {n : Nat} {us : List V} {Q : VK} (hP : ∀ ds w k, P ds w k → ds.length = n) (h : lifS K c P us H Q E) : us.length = n := by
  obtain ⟨g, w, ds, k, _, r, hp, _⟩ := h
  rw [r.length]; exact hP ds w k hp
/-- of a plain thing: the name of its type -/
def tyN : Dat → Option String
  | .int _ => some "int"
  | .bl _ => some "bool"
  | .str _ => some "str"
  | .lst _ => some "list"
  | .tup _ => some "tuple"
  | _ => none
def qIsi : QL
  | [d, .opq (.ty t)], k => ∃ a b, tyN d = some a ∧ kitB a t = some b ∧ k (.bl b)
  | _, _ => False
def bvO (o : Option Slot) (k : Dat → Prop) : Prop := match o with
  | some (.own true l) => k (.lst l)
  | some (.ownT l r) => k (.tup (.lst l :: r))
  | _ => False
variable {l r : List Dat} {k : Dat → Prop} {kk : List Dat → List Dat → Prop} {e : Env} {d : Dat} {n : Int} {b : Bool}
theorem eBv : bview e i k = bvO e[i]? k := rfl
theorem eBv1 : bvO (some (.own true l)) k = k (.lst l) := rfl
theorem eBv2 : bvO (some (.ownT l r)) k = k (.tup (.lst l :: r)) := rfl
def otO (o : Option Slot) (k : List Dat → List Dat → Prop) : Prop := match o with | some (.ownT l r) => k l r | _ => False
theorem eOt : ownTAt e i kk = otO e[i]? kk := rfl
theorem eOt1 : otO (some (.ownT l r)) kk = kk l r := rfl
theorem eNo0 : noOwn [] = True := rfl
theorem eNo1 : noOwn (.no :: e) = noOwn e := rfl
theorem eNo2 : noOwn (.val d :: e) = noOwn e := rfl
theorem eTld : tldOf (.tup (.lst l :: r)) kk = kk l r := rfl
theorem eIsi {t : String} : qIsi [d, .opq (.ty t)] k = ∃ a b, tyN d = some a ∧ kitB a t = some b ∧ k (.bl b) := rfl
theorem eLf1 : lf (.int n) = True := rfl
theorem eLf2 : lf (.bl b) = True := rfl
end
end Pu
namespace Pu
open PySem L2 Eng
/-- what a call leaves that may change the list at a -/
structure AftO (a : Addr) (g : Gh) (H : Hp) (g' : Gh) (H' : Hp) : Prop where
  le : g.le g'
  keep : ∀ x o, H x = some o → x ∉ g.mu → x ≠ a → H' x = some o
  frz : ∀ x o, H x = some o → g'.G x = g.G x
  new : ∀ x ∈ g'.mu, x ∈ g.mu ∨ H x = none
  dom : ∀ x o, H x = some o → ∃ o', H' x = some o'
def lifO (K : PySem.W.Frag) (c : Pc) (P : PSpO) : Sp := fun us H Q _ => ∃ (g : Gh) (w : Wld) (a : Addr) (ws : List V) (l : List Dat) (vs : List V) (ds : List Dat) (k : Dat → List Dat → Wld → Prop), us = .ref a :: vs ∧
  Wr K c g H w ∧ H a = some (.lst ws) ∧ g.G a = none ∧ a ∉ g.mu ∧ Reps K c g ws l ∧ Reps K c g vs ds ∧ P ds l w k ∧
  ∀ v d ws' l' g' H' w', AftO a g H g' H' → Wr K c g' H' w' → H' a = some (.lst ws') → Reps K c g' ws' l' → Rep K c g' v d → k d l' w' → Q v H'
section
variable {K : PySem.W.Frag} {c : Pc} {X : En} {F : List (Addr × HO)} {σ : L2.St} {s s1 : Cf} {g g1 : Gh} {H : Hp} {w : Wld} {a : Addr} {vs ws : List V} {i : Nat} {ta tb : TE} {pa pb : PE} {tr : TA} {pr : PA} {sp : Sp} {P : PSp} {O : PSpO} {E : XK} {Q : VK} {l : List Dat}
/-- f(x, ..), x a name with a list of its own, which f may change -/
def pCallO (P : PSpO) (i : Nat) (a : PA) : PE := fun e w k => ownAt e i fun _ _ => a e w fun ds e w => ownAt e i fun f l => P ds l w fun d l' w => k d (e.set i (.own f l')) w
def env0O (n : Nat) (l : List Dat) (ds : List Dat) : Env := .own false l :: (ds.map Slot.val ++ List.replicate (n - 1 - ds.length) .no)
def penF (k : Dat → List Dat → Wld → Prop) : PEnds := ⟨fun e w => ownAt e 0 fun f l => f = false ∧ k .non l w, fun d e w => ownAt e 0 fun f l => f = false ∧ k d l w, fun _ _ => False, fun _ _ => False⟩
theorem lifO_len {n : Nat} {us : List V} (hO : ∀ ds l w k, O ds l w k → ds.length + 1 = n) (h : lifO K c O us H Q E) : us.length = n := by
  obtain ⟨g, w, a, ws, l, vs, ds, k, rfl, _, _, _, _, _, r, hp, _⟩ := h
  rw [List.length_cons, r.length]; exact hO ds l w k hp
end
end Pu
namespace Eng
open PySem PySem.Spec PyProof.Rows L2
end Eng
namespace Pu
open PySem L2 Eng
def pCallN (n m : Nat) (P : PSp) (a r : PA) : PE := fun e w k => a e w fun ds e w => r e w fun zs e w => ds.length = n ∧ zs.length = m ∧ P (ds ++ zs) w fun d w => k d e w
section
variable {K : PySem.W.Frag} {c : Pc} {sp : Sp} {P : PSp} {E : XK} {tr tl : TA} {pr pl : PA} {n m : Nat}
/-- x, y, .. = [..], e, ..  (four names or more: by a tuple) -/
def pTupO (x : Nat) (is : List Nat) (f : PF) (r : PA) : PS := fun D e w => f e w fun l e w => r e w fun ds e w => ds.length + 1 ≤ sizeLine ∧ onSome (setAll (e.set x (.own true l)) is ds) fun e => D.nx e w
def fl : Dat → Option V
  | .non => some .non
  | .bl b => some (.bl b)
  | .int n => some (.int n)
  | .str t => some (.str t)
  | _ => none
def qAll : QL
  | [.lst l], k => ∃ bs : List Bool, l = bs.map Dat.bl ∧ k (.bl (bs.all id))
  | _, _ => False
theorem eAll {l : List Dat} {k : Dat → Prop} : qAll [.lst l] k = ∃ bs : List Bool, l = bs.map Dat.bl ∧ k (.bl (bs.all id)) := rfl
end
end Pu
namespace Eng
open PySem PySem.Spec PyProof.Rows L2
end Eng
namespace Pu
open PySem L2 Eng
section
variable {K : PySem.W.Frag} {c : Pc} {X : En} {F : List (Addr × HO)} {σ : L2.St} {s s1 : Cf} {g g1 : Gh} {H : Hp} {w : Wld} {a : Addr} {vs ws : List V} {i : Nat} {ta tb : TE} {pa pb : PE} {tr : TA} {pr : PA} {ts tu : TS} {ps pu : PS} {sp : Sp} {P : PSp} {E : XK} {Q : VK} {l : List Dat}
def SndPL (K : PySem.W.Frag) (c : Pc) (sp : Sp) (P : PSp) : Prop := ∀ (g : Gh) (H : Hp) (w : Wld) (vs : List V) (ds : List Dat) (k : Dat → Wld → Prop) (Q : VK) (E : XK), Wr K c g H w → Reps K c g vs ds → P ds w k →
  (∀ a ws l g' H' w', Aft g H g' H' → Wr K c g' H' w' → H a = none → g'.G a = none → a ∉ g'.mu → H' a = some (.lst ws) → Reps K c g' ws l → k (.lst l) w' → Q (.ref a) H') → sp vs H Q E
def lifL (K : PySem.W.Frag) (c : Pc) (P : PSp) : Sp := fun vs H Q _ => ∃ (g : Gh) (w : Wld) (ds : List Dat) (k : Dat → Wld → Prop), Wr K c g H w ∧ Reps K c g vs ds ∧ P ds w k ∧
  ∀ a ws l g' H' w', Aft g H g' H' → Wr K c g' H' w' → H a = none → g'.G a = none → a ∉ g'.mu → H' a = some (.lst ws) → Reps K c g' ws l → k (.lst l) w' → Q (.ref a) H'
def lsOf : Dat → (List Dat → Prop) → Prop
  | .lst l, k => k l
  | _, _ => False
/-- f(..), told -/
def pCallL (P : PSp) (a : PA) : PF := fun e w k => a e w fun ds e w => P ds w fun d w => lsOf d fun l => k l e w
structure SEndsL (K : PySem.W.Frag) (c : Pc) (X : En) (F : List (Addr × HO)) (g : Gh) (D : Ends) (Dp : PEnds) : Prop where
  rt : ∀ σ s a ws l, g.le s.g → In K c X ((a, .lst ws) :: F) σ s → X.H a = none → Reps K c s.g ws l → Dp.rt (.lst l) s.e s.w → D.rt (.ref a) s.H
theorem SEndsL.mono {D : Ends} {Dp : PEnds} {g' : Gh} (h : SEndsL K c X F g D Dp) (le : g.le g') : SEndsL K c X F g' D Dp := ⟨fun σ s a ws l l' => h.rt σ s a ws l (le.trans l')⟩
def pRetL (f : PF) : PS := fun D e w => f e w fun l e w => D.rt (.lst l) e w
theorem lifL_len {n : Nat} {us : List V} (hP : ∀ ds w k, P ds w k → ds.length = n) (h : lifL K c P us H Q E) : us.length = n := by
  obtain ⟨g, w, ds, k, _, r, hp, _⟩ := h
  rw [r.length]; exact hP ds w k hp
def qTD (r : Bool) : Q2
  | .tup [.dic l, d], .tup [.dic l', d'], k => EqDs l l' ∧ d = d' ∧ pl d ∧ k (.bl r)
  | _, _, _ => False
def qEqTD : Q2 := qTD true
def qNeTD : Q2 := qTD false
theorem eEqTD {l l' : List (Str × Int)} {d d' : Dat} {k : Dat → Prop} : qEqTD (.tup [.dic l, d]) (.tup [.dic l', d']) k = (EqDs l l' ∧ d = d' ∧ pl d ∧ k (.bl true)) := rfl
theorem eNeTD {l l' : List (Str × Int)} {d d' : Dat} {k : Dat → Prop} : qNeTD (.tup [.dic l, d]) (.tup [.dic l', d']) k = (EqDs l l' ∧ d = d' ∧ pl d ∧ k (.bl false)) := rfl
def dicOf : Dat → (List (Str × Int) → Prop) → Prop
  | .dic l, k => k l
  | _, _ => False
def gtOf (l : List (Str × Int)) : Dat → Dat → (Dat → Prop) → Prop
  | .str t, .int n, k => k (.int ((l.lookup t).getD n))
  | _, _, _ => False
def pDGet2 (d y x : PE) : PE := fun e w k => d e w fun v e w => dicOf v fun l => y e w fun u e w => x e w fun z e w => gtOf l u z fun r => k r e w
theorem valV_dKs (l : List (Str × Int)) (t : Str) : valV (dKs l) (Sum.inr t) = (l.lookup t).map V.int := by
  induction l with
  | nil => rfl
  | cons p l ih =>
    unfold valV dKs at *
    rw [List.map_cons, List.find?_cons, List.lookup_cons]
    by_cases h : p.1 = t
    · rw [show decide ((Sum.inr p.1 : Key) = Sum.inr t) = true from decide_eq_true (by rw [h]), show (t == p.1) = true by rw [h]; exact beq_self_eq_true _]
      rfl
    · rw [show decide ((Sum.inr p.1 : Key) = Sum.inr t) = false from decide_eq_false fun z => h (Sum.inr.inj z), show (t == p.1) = false from by simpa using fun z => h z.symm]
      exact ih
theorem eDicOf {l : List (Str × Int)} {k : List (Str × Int) → Prop} : dicOf (.dic l) k = k l := rfl
theorem eGtOf {l : List (Str × Int)} {t : Str} {n : Int} {k : Dat → Prop} : gtOf l (.str t) (.int n) k = k (.int ((l.lookup t).getD n)) := rfl
theorem eLsOf {l : List Dat} {k : List Dat → Prop} : lsOf (.lst l) k = k l := rfl
end
end Pu
namespace Eng
open PySem L2 Pu
def pgUnl (is : List Nat) : PG := fun d e w k => lstOf d fun ds => onSome (setAll e is ds) fun e => k e w
end Eng
namespace Pu
open PySem L2 Eng
def Wld.putO (w : Wld) (j : Nat) (o : Obj) : Wld := ⟨w.ms, w.ss, w.os.set j o⟩
def Wld.addO (w : Wld) (o : Obj) : Wld := ⟨w.ms, w.ss, w.os ++ [o]⟩
def lsAt (w : Wld) (j : Nat) (k : List Dat → Prop) : Prop := match w.os[j]? with | some (.lst l) => k l | _ => False
def dcAt (w : Wld) (j : Nat) (k : List (Str × Int) → Prop) : Prop := match w.os[j]? with | some (.dic l) => k l | _ => False
def obOf : Dat → (Nat → Prop) → Prop
  | .ob j, k => k j
  | _, _ => False
/-- an operand as it stands now -/
def vw (w : Wld) : Dat → (Dat → Prop) → Prop
  | .ob j, k => lsAt w j fun l => k (.lst l)
  | d, k => k d
def vws (w : Wld) : List Dat → (List Dat → Prop) → Prop
  | [], k => k []
  | d :: ds, k => vw w d fun x => vws w ds fun xs => k (x :: xs)
def pOpW (q : Q2) (a b : PE) : PE := fun e w k => a e w fun x e w => b e w fun y e w => vw w x fun x => vw w y fun y => q x y fun z => k z e w
def pCBW (q : QL) (a : PA) : PE := fun e w k => a e w fun ds e w => vws w ds fun ds => q ds fun z => k z e w
def pOpFW (q : Dat → Dat → (List Dat → Prop) → Prop) (a b : PE) : PF := fun e w k => a e w fun x e w => b e w fun y e w => vw w x fun x => vw w y fun y => q x y fun z => k z e w
def pCBFW (q : List Dat → (List Dat → Prop) → Prop) (a : PA) : PF := fun e w k => a e w fun ds e w => vws w ds fun ds => q ds fun z => k z e w
/-- a new list that may be changed -/
def pObj (f : PF) : PE := fun e w k => f e w fun l e w => k (.ob w.os.length) e (w.addO (.lst l))
def pSlW (a : PE) (lo hi : PO) : PF := fun e w k => a e w fun x e w => lo e w fun l e w => hi e w fun u e w => vw w x fun x => lstOf x fun ds => k (cutD ds l u) e w
/-- x[i] = v -/
def pSetO (o ix v : PE) : PS := fun D e w => v e w fun d e w => o e w fun x e w => ix e w fun y e w => obOf x fun j => intOf y fun n => lsAt w j fun l => onSome (ixN l.length n) fun q => D.nx e (w.putO j (.lst (l.set q d)))
/-- x.append(v) -/
def pAppO (o v : PE) : PS := fun D e w => o e w fun x e w => obOf x fun j => lsAt w j fun _ => v e w fun d e w => lsAt w j fun l => l.length < sizeLine ∧ D.nx e (w.putO j (.lst (l ++ [d])))
section
variable {K : PySem.W.Frag} {c : Pc} {X : En} {F : List (Addr × HO)} {σ : L2.St} {s s1 : Cf} {g g1 : Gh} {H : Hp} {w : Wld} {a p : Addr} {vs ws : List V} {i j : Nat} {ta tb tc : TE} {pa pb pc' : PE} {tr : TA} {pr : PA} {ts tu : TS} {ps pu : PS} {sp : Sp} {P : PSp} {E : XK} {Q : VK} {l : List Dat} {r : R2} {q : Q2}
theorem lsAt_of {k : List Dat → Prop} (h : lsAt w j k) : ∃ l, w.os[j]? = some (.lst l) ∧ k l := by
  unfold lsAt at h
  split at h
  · exact ⟨_, by assumption, h⟩
  · exact h.elim
theorem dcAt_of {k : List (Str × Int) → Prop} (h : dcAt w j k) : ∃ l, w.os[j]? = some (.dic l) ∧ k l := by
  unfold dcAt at h
  split at h
  · exact ⟨_, by assumption, h⟩
  · exact h.elim
theorem obOf_of {d : Dat} {k : Nat → Prop} (h : obOf d k) : ∃ j, d = .ob j ∧ k j := by
  cases d with
  | ob j => exact ⟨j, rfl, h⟩
  | _ => exact h.elim
theorem Wr.obAt (W : Wr K c g H w) {v : V} {o : Obj} (r : Rep K c g v (.ob j)) (h : w.os[j]? = some o) : ∃ a, v = .ref a ∧ g.os[j]? = some a ∧ ORep K c g H a o := by
  cases r with
  | ob e => exact ⟨_, rfl, e, W.objs _ _ _ e h⟩
theorem vw_of (I : In K c X F σ s) {v : V} {d : Dat} {k : Dat → Prop} (r : Rep K c s.g v d) (h : vw s.w d k) : ∃ d', RepW K c s v d' ∧ k d' := by
  unfold vw at h
  split at h
  · rename_i j
    obtain ⟨l, e, h⟩ := lsAt_of h
    obtain ⟨a, rfl, _, vs, h1, h2⟩ := I.wr.obAt r e
    exact ⟨_, .inr ⟨a, vs, l, rfl, rfl, h1, h2⟩, h⟩
  · exact ⟨d, .inl r, h⟩
theorem vws_of (I : In K c X F σ s) : ∀ {vs : List V} {ds : List Dat} {k : List Dat → Prop}, Reps K c s.g vs ds → vws s.w ds k → ∃ ds', Paired (RepW K c s) vs ds' ∧ k ds'
  | _, _, _, .nil, h => ⟨[], .nil, h⟩
  | _, _, _, .cons r t, h => by
    obtain ⟨d', r', h⟩ := vw_of I r h
    obtain ⟨ds', t', h⟩ := vws_of I t h
    exact ⟨_, .cons r' t', h⟩
theorem snd_opW (hr : SndR2 K c r q) (ha : SndE K c ta pa) (hb : SndE K c tb pb) : SndE K c (tOp r ta tb) (pOpW q pa pb) := by
  intro X F σ s k Q I h hQ
  refine ha X F σ s _ _ I h fun x dx s1 l1 I1 r1 h1 => ?_
  refine hb X F σ s1 _ _ I1 h1 fun y dy s2 l2 I2 r2 h2 => ?_
  obtain ⟨dx', r1', h2⟩ := vw_of I2 (r1.mono l2) h2
  obtain ⟨dy', r2', h2⟩ := vw_of I2 r2 h2
  refine hr X F σ s2 x y dx' dy' _ _ I2 r1' r2' h2 fun v d s3 l3 I3 e3 w3 r3 h3 => ?_
  refine hQ v d s3 ((l1.trans l2).trans l3) I3 r3 ?_
  rw [e3, w3]; exact h3
theorem snd_cbW {rl : List V → Hp → VK → Prop} {q : QL} (hr : SndRL K c rl q) (ha : SndA K c tr pr) : SndE K c (tCB rl tr) (pCBW q pr) := by
  intro X F σ s k Q I h hQ
  refine ha X F σ s _ _ I h fun vs ds s1 l1 I1 r1 h1 => ?_
  obtain ⟨ds', r', h1⟩ := vws_of I1 r1 h1
  refine hr X F σ s1 vs ds' _ _ I1 r' h1 fun v d s3 l3 I3 e3 w3 r3 h3 => ?_
  refine hQ v d s3 (l1.trans l3) I3 r3 ?_
  rw [e3, w3]; exact h3
theorem snd_slW {tlo thi : TO} {plo phi : PO} (ha : SndE K c ta pa) (h1 : SndO K c tlo plo) (h2 : SndO K c thi phi) : SndF K c (tSl (rSlL K) ta tlo thi) (pSlW pa plo phi) := by
  intro X F σ s k Q I h hQ
  refine ha X F σ s _ _ I h fun x dx s1 l1 I1 r1 h' => ?_
  refine h1 X F σ s1 _ _ I1 h' fun l s2 l2 I2 h' => ?_
  refine h2 X F σ s2 _ _ I2 h' fun u s3 l3 I3 h' => ?_
  obtain ⟨dx', rw', h'⟩ := vw_of I3 ((r1.mono l2).mono l3) h'
  obtain ⟨ds, hd, h'⟩ := lstOf_of h'
  have hx : ∃ a vs, x = .ref a ∧ SqL K s3.H a vs ∧ Reps K c s3.g vs ds := by
    rcases hd with rfl | rfl
    · obtain ⟨a, vs, e, hH, hR⟩ := rw'.lst I3
      exact ⟨a, vs, e, SqL.of hH, hR⟩
    · exact rw'.cst I3
  obtain ⟨a, vs, rfl, hH, hR⟩ := hx
  exact ⟨a, vs, rfl, hH, fun p hp => hQ p _ _ ⟨s3.g, upd s3.H p (.lst _), s3.e, s3.w, s3.os⟩ ((l1.trans l2).trans l3) (I3.fresh hp) (I3.newF hp) (reps_cut hR l u) h'⟩
def gOb (g : Gh) (a : Addr) : Gh := ⟨g.G, g.ms, g.ss, g.os ++ [a], g.ts⟩
theorem gOb_le (g : Gh) (a : Addr) : g.le (gOb g a) := ⟨fun _ _ h => h, fun _ _ h => h, fun _ _ h => h, fun i q h => by
  show (g.os ++ [a])[i]? = some q
  rw [List.getElem?_append_left (List.getElem?_eq_some_iff.mp h).1]; exact h, rfl⟩
theorem gOb_mu (g : Gh) (a : Addr) : (gOb g a).mu.Perm (a :: g.mu) := by
  unfold Gh.mu Gh.ot
  show (g.ms.map (·.2.1) ++ (g.ms.map (·.2.2) ++ (g.ss ++ ((g.os ++ [a]) ++ g.ts.map (·.1))))).Perm (a :: (g.ms.map (·.2.1) ++ (g.ms.map (·.2.2) ++ (g.ss ++ (g.os ++ g.ts.map (·.1))))))
  rw [List.append_assoc g.os, List.singleton_append]
  simp only [← List.append_assoc]
  exact List.perm_middle
theorem Wr.addOb (W : Wr K c g H w) {o : Obj} (h : ORep K c g H a o) (na : a ∉ g.mu) (ga : g.G a = none) : Wr K c (gOb g a) H (w.addO o) := by
  have le := gOb_le g a
  have hmu := gOb_mu g a
  refine ⟨W.sub, hmu.nodup_iff.mpr (List.nodup_cons.mpr ⟨na, W.nd⟩), fun b hb => ?_, W.mlen, fun i q m h1 h2 => (W.mach i q m h1 h2).mono le rfl rfl, W.srcs, W.nss, by show (g.os ++ [a]).length = (w.os ++ [o]).length; rw [List.length_append, List.length_append, W.olen]; rfl, fun i b u h1 h2 => ?_, W.tabs, W.hts⟩
  · rcases List.mem_cons.mp (hmu.mem_iff.mp hb) with rfl | z
    · exact ga
    · exact W.off b z
  · have h1 : (g.os ++ [a])[i]? = some b := h1
    have h2 : (w.os ++ [o])[i]? = some u := h2
    by_cases hi : i < g.os.length
    · rw [List.getElem?_append_left hi] at h1
      rw [List.getElem?_append_left (by rw [← W.olen]; exact hi)] at h2
      exact (W.objs i b u h1 h2).mono le rfl
    · have hlt := (List.getElem?_eq_some_iff.mp h1).1
      simp only [List.length_append, List.length_cons, List.length_nil] at hlt
      have hi' : i = g.os.length := by omega
      subst hi'
      rw [List.getElem?_concat_length] at h1
      rw [W.olen, List.getElem?_concat_length] at h2
      cases h1; cases h2
      exact h.mono le rfl
/-- what is held becomes an object -/
theorem In.toOb {o : HO} {u : Obj} (I : In K c X ((p, o) :: F) σ s) (hx : X.H p = none) (h : ORep K c s.g s.H p u) : In K c X F σ ⟨gOb s.g p, s.H, s.e, s.w.addO u, s.os⟩ := by
  have hpm := mu_cons s (p, o) F
  have hnd := List.nodup_cons.mp (hpm.nodup_iff.mp I.nd)
  have hin : p ∈ s.mu ((p, o) :: F) := hpm.mem_iff.mpr List.mem_cons_self
  have hng : p ∉ s.g.mu := fun z => hnd.1 (List.mem_append_left _ z)
  have le := gOb_le s.g p
  have hmu : ((⟨gOb s.g p, s.H, s.e, s.w.addO u, s.os⟩ : Cf).mu F).Perm (p :: s.mu F) := by
    unfold Cf.mu
    exact (List.Perm.append_right _ (gOb_mu s.g p))
  refine ⟨I.wr.addOb h hng (I.off p hin), hmu.nodup_iff.mpr (List.nodup_cons.mpr ⟨hnd.1, hnd.2⟩), fun b hb => ?_, I.len, fun i z hz => (I.env i z hz).mono le (fun q hq => hq) (fun _ _ => rfl), fun q hq => I.held q (List.mem_cons_of_mem _ hq), I.oal, I.le.trans le, I.keep, I.frz, fun b hb => ?_, I.dom⟩
  · exact I.off b (hpm.mem_iff.mpr (hmu.mem_iff.mp hb))
  · exact I.new b (hpm.mem_iff.mpr (hmu.mem_iff.mp hb))
theorem snd_obj {pf : PF} (hf : SndF K c ta pf) : SndE K c ta (pObj pf) := by
  intro X F σ s k Q I h hQ
  refine hf X F σ s _ _ I h fun a vs ds s1 l1 hx I1 r1 h1 => ?_
  have hH := I1.held _ List.mem_cons_self
  have I2 := I1.toOb (u := .lst ds) hx ⟨vs, hH, r1⟩
  refine hQ (.ref a) (.ob s1.w.os.length) ⟨gOb s1.g a, s1.H, s1.e, s1.w.addO (.lst ds), s1.os⟩ (l1.trans (gOb_le _ a)) I2 (.ob ?_) h1
  show (s1.g.os ++ [a])[s1.w.os.length]? = some a
  rw [← I1.wr.olen, List.getElem?_concat_length]
theorem Wr.obNe (W : Wr K c g H w) {i j : Nat} {a b : Addr} (h1 : g.os[i]? = some a) (h2 : g.os[j]? = some b) (ne : i ≠ j) : a ≠ b := fun e => by
  have hn : g.os.Nodup := (List.nodup_append.mp (List.nodup_append.mp (List.nodup_append.mp (List.nodup_append.mp W.nd).2.1).2.1).2.1).1
  have hi : i < g.os.length := (List.getElem?_eq_some_iff.mp h1).1
  exact ne ((List.getElem?_inj hi hn).mp (h1.trans (by rw [e]; exact h2.symm)))
theorem Wr.obTs (W : Wr K c g H w) {j : Nat} {b : Addr} (h2 : g.os[j]? = some b) {p : Addr × Str} (hp : p ∈ g.ts) : p.1 ≠ b := fun e =>
  (List.nodup_append.mp (List.nodup_append.mp (List.nodup_append.mp (List.nodup_append.mp W.nd).2.1).2.1).2.1).2.2 b (List.mem_of_getElem? h2) p.1 (List.mem_map.mpr ⟨p, hp, rfl⟩) e.symm
theorem Wr.putOb (W : Wr K c g H w) {o : Obj} {u : HO} (ha : g.os[j]? = some a) (h : ORep K c g (upd H a u) a o) : Wr K c g (upd H a u) (w.putO j o) := by
  have hm : a ∈ g.os := List.mem_of_getElem? ha
  have hmu := mem_mu4 hm
  obtain ⟨u0, e0⟩ := W.muAt hmu
  refine ⟨fun b v e => ?_, W.nd, W.off, W.mlen, fun i q m h1 h2 => (W.mach i q m h1 h2).mono (Gh.le.refl _) (upd_ne (W.dot h1 (mem_ot1 hm))) (upd_ne (W.eot h1 (mem_ot1 hm))), fun b hb => ?_, W.nss, by show _ = (w.os.set j o).length; rw [List.length_set]; exact W.olen, fun i b v h1 h2 => ?_, tabs_mono W.tabs (fun _ _ h => h) fun p hp => upd_ne (W.obTs ha hp), W.hts⟩
  · rw [upd_ne (fun z => by rw [z, W.off a hmu] at e; cases e)]; exact W.sub b v e
  · obtain ⟨v, h1, h2⟩ := W.srcs b hb
    exact ⟨v, by rw [upd_ne (W.sot hb (mem_ot1 hm))]; exact h1, h2⟩
  · rcases set_get (show (w.os.set j o)[i]? = some v from h2) with ⟨rfl, rfl⟩ | ⟨ne, h2'⟩
    · rw [ha] at h1; cases h1; exact h
    · exact (W.objs i b v h1 h2').mono (Gh.le.refl _) (upd_ne (W.obNe h1 ha ne))
theorem In.putOb (I : In K c X F σ s) {o : Obj} {u : HO} (ha : s.g.os[j]? = some a) (h : ORep K c s.g (upd s.H a u) a o) : In K c X F σ ⟨s.g, upd s.H a u, s.e, s.w.putO j o, s.os⟩ := by
  have hm : a ∈ s.g.mu := mem_mu4 (List.mem_of_getElem? ha)
  have hM : a ∈ s.mu F := List.mem_append_left _ hm
  have ne : ∀ b ∈ s.os.map (·.2) ++ F.map (·.1), b ≠ a := fun b hb e => (List.nodup_append.mp I.nd).2.2 a hm b hb e.symm
  have neo : ∀ q ∈ s.os, q.2 ≠ a := fun q hq => ne _ (List.mem_append_left _ (List.mem_map.mpr ⟨q, hq, rfl⟩))
  refine ⟨I.wr.putOb ha h, I.nd, I.off, I.len, fun i z hz => (I.env i z hz).mono (Gh.le.refl _) (fun q hq => hq) (fun q hq => upd_ne (neo q hq)), fun q hq => ?_, fun q hq => ?_, I.le, fun b v e n1 n2 => ?_, I.frz, I.new, fun b v e => ?_⟩
  · show upd s.H a u q.1 = _
    rw [upd_ne (ne _ (List.mem_append_right _ (List.mem_map.mpr ⟨q, hq, rfl⟩)))]; exact I.held q hq
  · obtain ⟨v, e⟩ := I.oal q hq
    exact ⟨v, by show upd s.H a u q.2 = _; rw [upd_ne (neo q hq)]; exact e⟩
  · show upd s.H a u b = _
    rw [upd_ne (fun z => by
      subst z
      rcases I.new b hM with z | z | z
      · exact n1 z
      · exact n2 z
      · rw [z] at e; cases e)]
    exact I.keep b v e n1 n2
  · by_cases z : b = a
    · exact ⟨_, by show upd s.H a u b = _; rw [z]; exact upd_same⟩
    · obtain ⟨v', e'⟩ := I.dom b v e
      exact ⟨v', by show upd s.H a u b = _; rw [upd_ne z]; exact e'⟩
theorem snd_appO (ho : SndE K c tc pc') (hv : SndE K c ta pa) : SndS K c (tDrop (tBM K "list" rAppend tc (tCons ta tNil))) (pAppO pc' pa) := by
  intro X F σ s D Dp I h hE
  refine ho X F σ s _ _ I h fun x dx s1 l1 I1 r1 h1 => ?_
  replace h1 := obOf_of h1
  obtain ⟨j, rfl, h1⟩ := h1
  obtain ⟨l0, hl0, h1⟩ := lsAt_of h1
  obtain ⟨a, rfl, ha0, vs0, hH0, hR0⟩ := I1.wr.obAt r1 hl0
  refine ⟨.inl ⟨rfl, _, SqL.of hH0⟩, ?_⟩
  refine hv X F σ s1 _ _ I1 h1 fun y dy s2 l2 I2 r2 h2 => ?_
  obtain ⟨l, hl, hz, h2⟩ := lsAt_of h2
  obtain ⟨a', e, ha, vs, hH, hR⟩ := I2.wr.obAt (r1.mono l2) hl
  cases e
  exact ⟨a, vs, y, rfl, rfl, hH, by rw [hR.length]; exact hz, hE.nx σ ⟨s2.g, upd s2.H a _, s2.e, s2.w.putO j (.lst (l ++ [dy])), s2.os⟩ (l1.trans l2) (I2.putOb ha ⟨_, upd_same, hR.app (.cons r2 .nil)⟩) h2⟩
end
section
variable {i j n m : Int} {a b : Bool} {s t : Str} {l l' : List Dat} {k : Dat → Prop} {kl : List Dat → Prop} {w : Wld} {o : Obj} {x y : Nat} {d : Dat} {mm : Mach}
theorem vw_int : vw w (.int n) k = k (.int n) := rfl
theorem vw_bl : vw w (.bl a) k = k (.bl a) := rfl
theorem vw_str : vw w (.str s) k = k (.str s) := rfl
theorem vw_tup : vw w (.tup l) k = k (.tup l) := rfl
theorem vw_lst : vw w (.lst l) k = k (.lst l) := rfl
theorem vw_cst : vw w (.cst l) k = k (.cst l) := rfl
theorem vw_big {bb : Nat} : vw w (.big bb n) k = k (.big bb n) := rfl
theorem vw_non : vw w .non k = k .non := rfl
theorem vw_dic {dl : List (Str × Int)} : vw w (.dic dl) k = k (.dic dl) := rfl
theorem vw_ob : vw w (.ob x) k = lsAt w x fun l => k (.lst l) := rfl
theorem vws_nil : vws w [] kl = kl [] := rfl
theorem vws_cons {ds : List Dat} : vws w (d :: ds) kl = vw w d fun x => vws w ds fun xs => kl (x :: xs) := rfl
theorem obOf_ob {kn : Nat → Prop} : obOf (.ob x) kn = kn x := rfl
theorem lsAt_put : lsAt (w.put y mm) x kl = lsAt w x kl := rfl
theorem onM_putO {km : Mach → Prop} : onM (w.putO y o) x km = onM w x km := rfl
theorem onM_addO {km : Mach → Prop} : onM (w.addO o) x km = onM w x km := rfl
theorem putO_at {o' : Obj} (h : w.os[x]? = some o) : (w.putO x o').os[x]? = some o' := by
  show (w.os.set x o')[x]? = _
  exact List.getElem?_set_self (List.getElem?_eq_some_iff.mp h).1
theorem putO_ne {o' : Obj} (h : y ≠ x) : (w.putO x o').os[y]? = w.os[y]? := List.getElem?_set_ne (Ne.symm h)
theorem addO_at : (w.addO o).os[w.os.length]? = some o := by
  show (w.os ++ [o])[w.os.length]? = _
  exact List.getElem?_concat_length
end
end Pu
namespace Eng
open PySem L2
/-- j is not 0, and the division does not go by the library's own way for great numbers -/
def oDivF (i j : Int) : Prop := j ≠ 0 ∧ Builtin.divisionGoesByPylong i j = false
end Eng
namespace Pu
open PySem L2 Eng
def qModF : Q2 := qI (fun _ j => j ≠ 0) fun i j => .int (i.fmod j)
def qDivF : Q2 := qI oDivF fun i j => .int (i.fdiv j)
def qDivmodF : QL
  | [.int i, .int j], k => oDivF i j ∧ k (.tup [.int (i.fdiv j), .int (i.fmod j)])
  | _, _ => False
def rngC (lo c : Int) : Nat → List Dat
  | 0 => []
  | n + 1 => .int lo :: rngC (lo + c) c n
def pIR3 (a b c : PE) : PA := fun e w k => a e w fun x e w => b e w fun y e w => c e w fun z e w => intOf x fun i => intOf y fun j => intOf z fun q => ∃ n, RgC i j q n ∧ k (rngC i q n) e w
/-- x[i] = .., as a part of a target -/
def pgSetI (i : Nat) (ix : PE) : PG := fun d e w k => ownAt e i fun _ _ => ix e w fun x e w => intOf x fun n => ownAt e i fun f l => onSome (ixN l.length n) fun j => k (e.set i (.own f (l.set j d))) w
def pgSetO (o ix : PE) : PG := fun d e w k => o e w fun x e w => ix e w fun y e w => obOf x fun j => intOf y fun n => lsAt w j fun l => onSome (ixN l.length n) fun q => k e (w.putO j (.lst (l.set q d)))
def two {α : Type} : List α → (α → α → Prop) → Prop
  | [x, y], k => k x y
  | _, _ => False
def pgTup2 (g h : PG) : PG := fun d e w k => tupOf d fun ds => two ds fun x y => g x e w fun e w => h y e w k
def lone {α : Type} : List α → (α → Prop) → Prop
  | [x], k => k x
  | _, _ => False
/-- x, y = f(..), told; x is then an object -/
def pTellO (P : PSp) (a : PA) (x y : Nat) : PS := fun D e w => a e w fun ds e w => P ds w fun d w => tldOf d fun l r => lone r fun d2 => D.nx ((e.set x (.val (.ob w.os.length))).set y (.val d2)) (w.addO (.lst l))
section
variable {i j n m : Int} {k : Dat → Prop} {kl : List Dat → Prop} {e : Env} {w : Wld} {D : PEnds} {ke : Env → Wld → Prop}
theorem eModF : qModF (.int i) (.int j) k = (j ≠ 0 ∧ k (.int (i.fmod j))) := rfl
theorem eDivF : qDivF (.int i) (.int j) k = (oDivF i j ∧ k (.int (i.fdiv j))) := rfl
theorem eDivmodF : qDivmodF [.int i, .int j] k = (oDivF i j ∧ k (.tup [.int (i.fdiv j), .int (i.fmod j)])) := rfl
theorem eLone {α : Type} {x : α} {k : α → Prop} : lone [x] k = k x := rfl
theorem eTwo {α : Type} {x y : α} {k : α → α → Prop} : two [x, y] k = k x y := rfl
end
end Pu
namespace Pu
open PySem L2 Eng
mutual
/-- data that holds only the first n objects -/
def lowOb (n : Nat) : Dat → Prop
  | .tup l => lowObs n l
  | .lst l => lowObs n l
  | .cst l => lowObs n l
  | .ob j => j < n
  | .fn _ g => g.os.length ≤ n
  | _ => True
def lowObs (n : Nat) : List Dat → Prop
  | [] => True
  | d :: ds => lowOb n d ∧ lowObs n ds
end
def gCut (g : Gh) (n : Nat) : Gh := ⟨g.G, g.ms, g.ss, g.os.take n, g.ts⟩
def Wld.cut (w : Wld) (os : List Obj) : Wld := ⟨w.ms, w.ss, os⟩
section
variable {K : PySem.W.Frag} {c : Pc} {g : Gh}
mutual
theorem Rep.cutO {n : Nat} : ∀ {d : Dat} {v : V}, lowOb n d → Rep K c g v d → Rep K c (gCut g n) v d
  | .non, _, _, .non => .non
  | .bl _, _, _, .bl _ => .bl _
  | .int _, _, _, .int _ => .int _
  | .str _, _, _, .str _ => .str _
  | .tup _, _, h, .tup s r => .tup s (Reps.cutO (by rw [lowOb] at h; exact h) r)
  | .lst _, _, h, .lst s r => .lst s (Reps.cutO (by rw [lowOb] at h; exact h) r)
  | .cst _, _, h, .cst s r => .cst s (Reps.cutO (by rw [lowOb] at h; exact h) r)
  | .big _ _, _, _, .big h => .big h
  | .mach _, _, _, .mach h => .mach h
  | .src _, _, _, .src h => .src h
  | .opq _, _, _, .opq _ => .opq _
  | .dic _, _, _, .dic h => .dic h
  | .ob _, _, h, .ob e => .ob (by rw [lowOb] at h; show (g.os.take n)[_]? = _; rw [List.getElem?_take_of_lt h]; exact e)
  | .fn _ g0, _, h, .fn e => .fn ⟨e.G, e.ms, e.ss, fun i q z => by rw [lowOb] at h; show (g.os.take n)[i]? = _; rw [List.getElem?_take_of_lt (Nat.lt_of_lt_of_le (List.getElem?_eq_some_iff.mp z).1 h)]; exact e.os i q z, e.ts⟩
  | .fnc _, _, _, .fnc _ => .fnc _
theorem Reps.cutO {n : Nat} : ∀ {ds : List Dat} {vs : List V}, lowObs n ds → Reps K c g vs ds → Reps K c (gCut g n) vs ds
  | [], _, _, .nil => .nil
  | _ :: _, _, h, .cons r t => .cons (Rep.cutO (by rw [lowObs] at h; exact h.1) r) (Reps.cutO (by rw [lowObs] at h; exact h.2) t)
end
def lowObj (n : Nat) : Obj → Prop
  | .lst l => lowObs n l
  | .dic _ => True
theorem ORep.cutO {H : Hp} {a : Addr} {o : Obj} {n : Nat} (hl : lowObj n o) (h : ORep K c g H a o) : ORep K c (gCut g n) H a o := by
  cases o with
  | lst l => obtain ⟨vs, e, r⟩ := h; exact ⟨vs, e, r.cutO hl⟩
  | dic l => exact h
theorem lowObs_mem {n : Nat} : ∀ {ds : List Dat}, (∀ d ∈ ds, lowOb n d) → lowObs n ds
  | [], _ => by rw [lowObs]; trivial
  | d :: ds, h => by rw [lowObs]; exact ⟨h d List.mem_cons_self, lowObs_mem fun x hx => h x (List.mem_cons_of_mem _ hx)⟩
theorem low_int {n : Nat} {i : Int} : lowOb n (.int i) = True := by rw [lowOb]; all_goals (intros; trivial)
theorem low_bl {n : Nat} {i : Bool} : lowOb n (.bl i) = True := by rw [lowOb]; all_goals (intros; trivial)
theorem low_str {n : Nat} {i : Str} : lowOb n (.str i) = True := by rw [lowOb]; all_goals (intros; trivial)
theorem low_non {n : Nat} : lowOb n .non = True := by rw [lowOb]; all_goals (intros; trivial)
theorem low_big {n b : Nat} {i : Int} : lowOb n (.big b i) = True := by rw [lowOb]; all_goals (intros; trivial)
theorem low_mach {n i : Nat} : lowOb n (.mach i) = True := by rw [lowOb]; all_goals (intros; trivial)
theorem low_src {n i : Nat} : lowOb n (.src i) = True := by rw [lowOb]; all_goals (intros; trivial)
theorem low_dic {n : Nat} {l : List (Str × Int)} : lowOb n (.dic l) = True := by rw [lowOb]; all_goals (intros; trivial)
theorem low_tup {n : Nat} {l : List Dat} : lowOb n (.tup l) = lowObs n l := by rw [lowOb]
theorem low_lst {n : Nat} {l : List Dat} : lowOb n (.lst l) = lowObs n l := by rw [lowOb]
theorem low_nil {n : Nat} : lowObs n [] = True := by rw [lowObs]
theorem low_cons {n : Nat} {d : Dat} {ds : List Dat} : lowObs n (d :: ds) = (lowOb n d ∧ lowObs n ds) := by rw [lowObs]
/-- at the end of a def: its own objects are forgotten, those that were there are as they were -/
def penD (os : List Obj) (k : Dat → Wld → Prop) : PEnds := ⟨fun _ w => w.os.take os.length = os ∧ k .non (w.cut os), fun d _ w => lowOb os.length d ∧ w.os.take os.length = os ∧ k d (w.cut os), fun _ _ => False, fun _ _ => False⟩
variable {P : PSp} {vs : List V} {H : Hp} {Q : VK} {E : XK} {n : Nat} {t : TS} {p : PS}
theorem gCut_mu (g : Gh) (n : Nat) : List.Sublist (gCut g n).mu g.mu := by
  unfold Gh.mu Gh.ot
  refine List.Sublist.append (List.Sublist.refl _) (List.Sublist.append (List.Sublist.refl _) (List.Sublist.append (List.Sublist.refl _) (List.Sublist.append (List.take_sublist _ _) (List.Sublist.refl _))))
theorem Wr.cut {w : Wld} {os : List Obj} (W : Wr K c g H w) (e : w.os.take os.length = os) (low : ∀ o ∈ os, lowObj os.length o) (hle : os.length ≤ g.os.length) : Wr K c (gCut g os.length) H (w.cut os) := by
  have hs := gCut_mu g os.length
  refine ⟨W.sub, W.nd.sublist hs, fun a ha => W.off a (hs.subset ha), W.mlen, fun i q m h1 h2 => ?_, W.srcs, W.nss, ?_, fun i a o h1 h2 => ?_, W.tabs, W.hts⟩
  · have M := W.mach i q m h1 h2
    obtain ⟨us, u1, u2⟩ := M.wlk
    refine ⟨M.ins, M.cnt, M.ten, ⟨us, u1, u2.cutO (lowObs_mem fun d hd => ?_)⟩, M.few⟩
    obtain ⟨x, _, rfl⟩ := List.mem_map.mp hd
    unfold dW
    simp only [low_tup, low_cons, low_str, low_int, low_nil, and_self]
  · show (g.os.take os.length).length = os.length
    rw [List.length_take]; omega
  · have h1 : (g.os.take os.length)[i]? = some a := h1
    have h2 : os[i]? = some o := h2
    have hi : i < os.length := (List.getElem?_eq_some_iff.mp h2).1
    rw [List.getElem?_take_of_lt hi] at h1
    have h2' : w.os[i]? = some o := by
      rw [← e, List.getElem?_take_of_lt hi] at h2; exact h2
    exact (W.objs i a o h1 h2').cutO (low o (List.mem_of_getElem? h2))
/-- n.bit_length() -/
def pBits (a : PE) : PE := fun e w k => a e w fun x e w => intOf x fun n => k (.int (Builtin.Int.intBits n : Nat)) e w
theorem take_self {os : List Obj} : os.take os.length = os := List.take_of_length_le (Nat.le_refl _)
end
end Pu
namespace Pu
open PySem L2 Eng
section
variable {K : PySem.W.Frag} {c : Pc}
def P_d_source : PSp := P_law_source_of
def P_d_draw : PSp := P_law_next
def P_d_pick : PSp := P_law_one
variable {x : Nat} {n : Int} {l : List Dat} {w : Wld} {kw : Dat → Wld → Prop}
theorem e_d_source : P_d_source [.int n] w kw = kw (.src w.ss) ⟨w.ms, w.ss + 1, w.os⟩ := rfl
theorem e_d_draw : P_d_draw [.src x, .int n] w kw = (x < w.ss ∧ (0 < n ∧ NxtB n) ∧ ∀ r, 0 ≤ r → r < n → kw (.int r) w) := rfl
theorem e_d_pick : P_d_pick [.src x, .lst l] w kw = (x < w.ss ∧ (l ≠ [] ∧ l.length ≤ 1000) ∧ ∀ d ∈ l, kw d w) := rfl
end
end Pu
namespace Eng
open PySem L2
end Eng
namespace Pu
open PySem L2 Eng
def qCatQ : Dat → Dat → (List Dat → Prop) → Prop
  | .cst l, .lst m, k => l.length + m.length ≤ sizeLine ∧ k (l ++ m)
  | _, _, _ => False
theorem eCatQ {l m : List Dat} {k : List Dat → Prop} : qCatQ (.cst l) (.lst m) k = (l.length + m.length ≤ sizeLine ∧ k (l ++ m)) := rfl
end Pu
namespace Pu
open PySem L2 Eng
/-- what a call of a lambda does -/
abbrev Ask := Wld → (Dat → Wld → Prop) → Prop
def noS : Slot → Slot
  | .val d => .val d
  | _ => .no
/-- the names that a lambda may read -/
def noO (e : Env) : Env := e.map noS
/-- P(a, lambda: b) -/
def pLam2 (P : Ask → PSp) (a b : PE) : PE := fun e w k => a e w fun d e w => P (fun w k => b (noO e) w fun d _ w => k d w) [d] w fun d w => k d e w
section
variable {K : PySem.W.Frag} {c : Pc} {g : Gh} {H : Hp} {w : Wld}
theorem noO_get {e : Env} {i : Nat} {z : Slot} (h : (noO e)[i]? = some z) : z = .no ∨ ∃ d, z = .val d ∧ e[i]? = some (.val d) := by
  unfold noO at h
  rw [List.getElem?_map] at h
  cases e1 : e[i]? with
  | none => rw [e1] at h; cases h
  | some y =>
    rw [e1] at h
    cases y with
    | val d => cases h; exact .inr ⟨d, rfl, rfl⟩
    | no => cases h; exact .inl rfl
    | own f l => cases h; exact .inl rfl
    | ownT l r => cases h; exact .inl rfl
end
end Pu
namespace Pu
open PySem L2 Eng
theorem dKs_len (l : List (Str × Int)) : (dKs l).length = l.length := by unfold dKs; rw [List.length_map]
end Pu
namespace Eng
open PySem PySem.Spec PyProof.Rows L2
end Eng
namespace Pu
open PySem L2 Eng
def putS (l : List (Str × Int)) (s : Str) (n : Int) : List (Str × Int) := if (l.any fun p => decide (p.1 = s)) = true then l.map (fun p => if p.1 = s then (p.1, n) else p) else l ++ [(s, n)]
theorem dKs_put {l : List (Str × Int)} {s : Str} {n : Int} : dKs (putS l s n) = putK (dKs l) (Sum.inr s : Key) (.int n) := by
  unfold putS putK
  have e : ((dKs l).any fun kv => decide (kv.1 = (Sum.inr s : Key))) = l.any fun p => decide (p.1 = s) := by
    unfold dKs
    rw [List.any_map]
    congr 1
    funext p
    by_cases h : p.1 = s
    · simp [h]
    · simp [h]
  rw [e]
  by_cases h : (l.any fun p => decide (p.1 = s)) = true
  · rw [if_pos h, if_pos h]
    unfold dKs
    rw [List.map_map, List.map_map]
    congr 1
    funext p
    by_cases h : p.1 = s
    · simp [h]
    · simp [h]
  · rw [if_neg h, if_neg h]
    unfold dKs
    rw [List.map_append]
    rfl
def strOf : Dat → (Str → Prop) → Prop
  | .str s, k => k s
  | _, _ => False
/-- a new dict that may be changed -/
def pDispO (l : List (Str × PE)) : PE := fun e w k => ((l.map (·.1)).Nodup ∧ l.length ≤ 15) ∧ dVals l e w fun m e w => k (.ob w.os.length) e (w.addO (.dic m))
def pDNewO : PE := fun e w k => k (.ob w.os.length) e (w.addO (.dic []))
/-- d[s] = n -/
def pgPutO (o ix : PE) : PG := fun d e w k => o e w fun x e w => ix e w fun y e w => obOf x fun j => strOf y fun s => intOf d fun n => dcAt w j fun l => l.length < sizeLine ∧ k e (w.putO j (.dic (putS l s n)))
def qNeDA : Q2
  | .dic l, .dic l', k => EqDs l l' ∧ k (.bl false)
  | _, _, _ => False
/-- a value as it leaves a def that has made the objects from n on -/
def thw1 (n : Nat) (w : Wld) : Dat → (Dat → Prop) → Prop
  | .ob j, k => if j < n then k (.ob j) else match w.os[j]? with | some (.dic l) => k (.dic l) | some (.lst l) => lowObs n l ∧ k (.lst l) | none => False
  | d, k => lowOb n d ∧ k d
def thws (n : Nat) (w : Wld) : List Dat → (List Dat → Prop) → Prop
  | [], k => k []
  | d :: ds, k => thw1 n w d fun x => thws n w ds fun xs => k (x :: xs)
def thw (n : Nat) (w : Wld) : Dat → (Dat → Prop) → Prop
  | .tup l, k => thws n w l fun l => k (.tup l)
  | d, k => thw1 n w d k
def penT (os : List Obj) (k : Dat → Wld → Prop) : PEnds := ⟨fun _ w => w.os.take os.length = os ∧ k .non (w.cut os), fun d _ w => w.os.take os.length = os ∧ thw os.length w d fun d => k d (w.cut os), fun _ _ => False, fun _ _ => False⟩
section
variable {K : PySem.W.Frag} {c : Pc} {X : En} {F : List (Addr × HO)} {σ : L2.St} {s s1 : Cf} {g g1 : Gh} {H : Hp} {w : Wld} {a p : Addr} {vs ws : List V} {i j n : Nat} {ta tb tc : TE} {pa pb pc' : PE} {t : TS} {pp : PS} {sp : Sp} {P : PSp} {E : XK} {Q : VK} {l : List Dat}
theorem strOf_of {d : Dat} {k : Str → Prop} (h : strOf d k) : ∃ s, d = .str s ∧ k s := by
  cases d with
  | str s => exact ⟨s, rfl, h⟩
  | _ => exact h.elim
theorem snd_dispO {ts : List (TE × TE)} {ps : List (Str × PE)} (hd : SndD K c ts ps) : SndE K c (tDisp ts) (pDispO ps) := by
  intro X F σ s k Q I h hQ
  intro p hp
  have hx := I.fresh hp
  refine snd_vals hd X ((p, .dK []) :: F) σ ⟨s.g, upd s.H p (.dK []), s.e, s.w, s.os⟩ _ _ (I.newF hp) h.2 fun l s1 l1 I1 e1 h1 => ?_
  have hn : ((dKs l).map (·.1)).Nodup := by
    have e2 : (dKs l).map (·.1) = (ps.map (·.1)).map fun z => (Sum.inr z : Key) := by
      rw [← e1]; unfold dKs; simp
    rw [e2]
    exact List.Pairwise.map (fun z => (Sum.inr z : Key)) (fun a b hne e => hne (Sum.inr.inj e)) h.1.1
  refine ⟨I1.held _ List.mem_cons_self, dKs l, by unfold dKs; rw [List.map_map]; rfl, ?_, ?_⟩
  · have := congrArg List.length e1
    simp only [List.length_map] at this
    unfold dKs
    rw [List.length_map, this]; exact h.1.2
  · rw [mergeK_nil hn]
    have I2 := I1.heldPut (o' := .dK (dKs l)) hx noC_dK
    have I3 := I2.toOb (u := .dic l) hx (show upd s1.H p _ p = _ from upd_same)
    refine hQ (.ref p) (.ob s1.w.os.length) ⟨gOb s1.g p, upd s1.H p (.dK (dKs l)), s1.e, s1.w.addO (.dic l), s1.os⟩ (l1.trans (gOb_le _ p)) I3 (.ob ?_) h1
    show (s1.g.os ++ [p])[s1.w.os.length]? = some p
    rw [← I1.wr.olen, List.getElem?_concat_length]
theorem snd_gPutO (ho : SndE K c tc pc') (hi : SndE K c tb pb) : SndG K c (gSub tc tb rSetD) (pgPutO pc' pb) := by
  intro X F σ s y dy k Q I r1 h hQ
  refine ho X F σ s _ _ I h fun x dx s2 l2 I2 r2 h2 => ?_
  refine hi X F σ s2 _ _ I2 h2 fun z dz s3 l3 I3 r3 h3 => ?_
  replace h3 := obOf_of h3
  obtain ⟨j, rfl, h3⟩ := h3
  replace h3 := strOf_of h3
  obtain ⟨t, rfl, h3⟩ := h3
  replace h3 := intOf_of h3
  obtain ⟨n, rfl, h3⟩ := h3
  obtain ⟨l, hl, hz, h3⟩ := dcAt_of h3
  obtain ⟨a, rfl, ha, hH⟩ := I3.wr.obAt (r2.mono l3) hl
  have hH : s3.H a = some (.dK (dKs l)) := hH
  have e1 := r1.intI
  have e3 := r3.strI
  subst e1 e3
  refine ⟨a, _, rfl, DPut.k (k := (Sum.inr t : Key)) hH (by rw [dKs_len]; exact hz), ?_⟩
  rw [← dKs_put]
  exact hQ σ ⟨s3.g, upd s3.H a (.dK (dKs (putS l t n))), s3.e, s3.w.putO j (.dic (putS l t n)), s3.os⟩ (l2.trans l3) (I3.putOb ha (show upd s3.H a _ a = _ from upd_same)) h3
def alk1 : Dat → Dat → Prop
  | .big b n, .big b' n' => b ≠ 0 ∧ b = b' ∧ n = n'
  | .dic l, .dic l' => EqDs l l'
  | d, d' => d = d' ∧ pl d
def alks : List Dat → List Dat → Prop
  | [], [] => True
  | d :: ds, d' :: ds' => alk1 d d' ∧ alks ds ds'
  | _, _ => False
def qEqMX : Q2
  | .tup l, .tup l', k => alks l l' ∧ k (.bl true)
  | _, _, _ => False
def qNeMX : Q2
  | .tup l, .tup l', k => alks l l' ∧ k (.bl false)
  | _, _, _ => False
end
section
variable {n m : Int} {b : Bool} {s : Str} {l l' : List Dat} {k : Dat → Prop} {kl : List Dat → Prop} {w : Wld} {o : Obj} {x y : Nat} {d d' : Dat} {dl dl' : List (Str × Int)} {kd : List (Str × Int) → Prop}
theorem eStrO {ks : Str → Prop} : strOf (.str s) ks = ks s := rfl
theorem eNeDA : qNeDA (.dic dl) (.dic dl') k = (EqDs dl dl' ∧ k (.bl false)) := rfl
theorem eEqMX : qEqMX (.tup l) (.tup l') k = (alks l l' ∧ k (.bl true)) := rfl
theorem eNeMX : qNeMX (.tup l) (.tup l') k = (alks l l' ∧ k (.bl false)) := rfl
theorem dcAt_is (h : w.os[x]? = some (.dic dl)) : dcAt w x kd = kd dl := by unfold dcAt; rw [h]
theorem dcAt_add : dcAt (w.addO (.dic dl)) w.os.length kd = kd dl := dcAt_is addO_at
theorem thw_tup : thw x w (.tup l) k = thws x w l fun l => k (.tup l) := rfl
theorem thws_nil : thws x w [] kl = kl [] := rfl
theorem thws_cons : thws x w (d :: l) kl = thw1 x w d fun y => thws x w l fun ys => kl (y :: ys) := rfl
theorem thw1_dic (h : w.os[y]? = some (.dic dl)) (hx : x ≤ y) : thw1 x w (.ob y) k = k (.dic dl) := by
  unfold thw1
  simp only [h, Nat.not_lt.mpr hx, if_false]
theorem thw1_new : thw1 w.os.length (w.addO (.dic dl)) (.ob w.os.length) k = k (.dic dl) := thw1_dic addO_at (Nat.le_refl _)
theorem thw1_L : thw1 x w (.lst l) k = (lowObs x l ∧ k (.lst l)) := by
  show (lowOb x (.lst l) ∧ _) = _
  rw [low_lst]
theorem thw1_D : thw1 x w (.dic dl) k = k (.dic dl) := by
  show (lowOb x (.dic dl) ∧ _) = _
  rw [low_dic, true_and]
end
end Pu
namespace Pu
open PySem L2 Eng
def alkW (w : Wld) : Dat → Dat → Prop
  | .dic l, .ob j => dcAt w j fun l' => EqDs l l'
  | .lst l, .ob j => lsAt w j fun l' => l = l' ∧ pl (.lst l)
  | d, d' => alk1 d d'
def alksW (w : Wld) : List Dat → List Dat → Prop
  | [], [] => True
  | d :: ds, d' :: ds' => alkW w d d' ∧ alksW w ds ds'
  | _, _ => False
def pEqMW (r : Bool) (a b : PE) : PE := fun e w k => a e w fun x e w => b e w fun y e w => tupOf x fun l => tupOf y fun l' => alksW w l l' ∧ k (.bl r) e w
theorem noO_nil : noO [] = [] := rfl
theorem noO_cons {z : Slot} {e : Pu.Env} : noO (z :: e) = noS z :: noO e := rfl
theorem noS_val {d : Dat} : noS (.val d) = .val d := rfl
theorem noS_no : noS .no = .no := rfl
theorem noS_own {f : Bool} {l : List Dat} : noS (.own f l) = .no := rfl
end Pu
namespace Eng
open PySem L2
end Eng
namespace Pu
open PySem L2 Eng
def pDictCO (a : PE) : PE := fun e w k => a e w fun d e w => dicOf d fun l => k (.ob w.os.length) e (w.addO (.dic l))
def lsOf1 : Dat → (List Dat → Prop) → Prop
  | .lst l, k => k l
  | _, _ => False
def pExtO (o v : PE) : PS := fun D e w => o e w fun x e w => obOf x fun j => lsAt w j fun _ => v e w fun d e w => lsOf1 d fun m => lsAt w j fun l => l.length + m.length ≤ sizeLine ∧ D.nx e (w.putO j (.lst (l ++ m)))
section
variable {K : PySem.W.Frag} {c : Pc} {X : En} {F : List (Addr × HO)} {σ : L2.St} {s : Cf} {ta tb tc : TE} {pa pb pc' : PE} {i1 i2 x : Nat}
theorem eLsOf1 {l : List Dat} {k : List Dat → Prop} : lsOf1 (.lst l) k = k l := rfl
end
end Pu
namespace Pu
open PySem L2 Eng
def pDGetO (o y : PE) : PE := fun e w k => o e w fun x e w => y e w fun z e w => obOf x fun j => strOf z fun s => dcAt w j fun l => ∃ n, l.lookup s = some n ∧ k (.int n) e w
section
variable {K : PySem.W.Frag} {c : Pc} {X : En} {F : List (Addr × HO)} {σ : L2.St} {s : Cf} {ta tb tc : TE} {pa pb pc' : PE} {i x : Nat}
theorem snd_dgetO (ho : SndE K c tc pc') (hy : SndE K c tb pb) : SndE K c (tDGet tc tb) (pDGetO pc' pb) := by
  intro X F σ s k Q I h hQ
  refine ho X F σ s _ _ I h fun v dv s1 l1 I1 r1 h1 => ?_
  refine hy X F σ s1 _ _ I1 h1 fun u du s2 l2 I2 r2 h2 => ?_
  replace h2 := obOf_of h2
  obtain ⟨j, rfl, h2⟩ := h2
  replace h2 := strOf_of h2
  obtain ⟨t, rfl, h2⟩ := h2
  obtain ⟨l, hl, n, hn, h2⟩ := dcAt_of h2
  obtain ⟨a, rfl, _, hH⟩ := I2.wr.obAt (r1.mono l2) hl
  have hH : s2.H a = some (.dK (dKs l)) := hH
  have e2 := r2.strI
  subst e2
  exact ⟨a, .int n, rfl, .inl ⟨dKs l, Sum.inr t, .inl hH, rfl, by rw [valV_dKs, hn]; rfl⟩, hQ _ _ s2 (l1.trans l2) I2 (.int n) h2⟩
end
end Pu
namespace Eng
open PySem PySem.Spec PyProof.Rows L2
end Eng
namespace Pu
open PySem L2 Eng
end Pu
namespace Eng
open PySem PySem.Spec PyProof.Rows L2 GQ
end Eng
namespace Pu
open PySem L2 Eng
end Pu
namespace Pu
open PySem L2 Eng
/-- an error: its class by its place in c.xs, its field if it has one -/
structure XD where
  j : Nat
  f : Option (Str × Dat)
abbrev PX := XD → Wld → Prop
abbrev PSpX := List Dat → Wld → (Dat → Wld → Prop) → PX → Prop
/-- the error x comes out over H -/
def XOut (K : PySem.W.Frag) (c : Pc) (g : Gh) (H : Hp) (E : XK) (x : XD) : Prop := match x.f with
  | none => E (.ref (c.xs.getD x.j 0)) none H
  | some (n, d) => ∀ v p, Rep K c g v d → H p = none → E (.ref (c.xs.getD x.j 0)) (some p) (upd H p (.xd [(n, v)]))
section
variable {K : PySem.W.Frag} {c : Pc} {X : En} {F : List (Addr × HO)} {σ : L2.St} {s : Cf} {tr : TA} {pr : PA} {ts : TS} {ps : PS} {tx ux : XK → TS} {px qx : PX → PS} {tT : TT} {pT : PT} {P : PSpX} {sp : Sp} {i j : Nat}
def gAsg (i : Nat) (d : Dat) : PS := fun D e w => D.nx (e.set i (.val d)) w
def gRet (d : Dat) : PS := fun D e w => D.rt d e w
def gDrop (_ : Dat) : PS := fun D e w => D.nx e w
end
end Pu
namespace Pu
open PySem L2 Eng
section
variable {K : PySem.W.Frag} {c : Pc} {X : En} {F : List (Addr × HO)} {σ : L2.St} {s : Cf} {te : TE} {pe : PE} {ta : TA} {pa : PA} {sp : Sp} {P : PSpX} {i j : Nat} {f : Str}
def pRaiseF (kx : PX) (j : Nat) (f : Str) (a : PE) : PS := fun _ e w => a e w fun d _ w => kx ⟨j, some (f, d)⟩ w
end
def pCallE (P : PSpX) (a : PA) (kx : PX) : PE := fun e w k => a e w fun ds e w => P ds w (fun d w => k d e w) kx
abbrev AskX := Wld → (Dat → Wld → Prop) → PX → Prop
abbrev AsksP := Addr → Gh → AskX
abbrev PSpA := AsksP → PSp
def Posts (K : PySem.W.Frag) (c : Pc) (g : Gh) (H : Hp) (k : Dat → Wld → Prop) (kx : PX) (Q : VK) (E : XK) : Prop :=
  (∀ v d g' H' w', Aft g H g' H' → Wr K c g' H' w' → Rep K c g' v d → k d w' → Q v H') ∧ ∀ x g' H' w', Aft g H g' H' → Wr K c g' H' w' → kx x w' → XOut K c g' H' E x
structure PCl where
  j : Nat
  i : Option Nat
  ps : Addr → Gh → XD → PS
def noP (D : PEnds) (i : Nat) : PEnds := ⟨fun e w => D.nx (e.set i .no) w, D.rt, fun e w => D.bk (e.set i .no) w, fun e w => D.ct (e.set i .no) w⟩
def pSu (q : PCl) (x : XD) (D : PEnds) (e : Env) (w : Wld) : Prop := match q.i with
  | none => ∀ a g0, q.ps a g0 x D e w
  | some i => ∀ a g0, q.ps a g0 x (noP D i) (e.set i (.val (.fn a g0))) w
def pCla (x : XD) (D : PEnds) (e : Env) (w : Wld) : List PCl → Prop
  | [] => False
  | q :: r => if x.j = q.j ∨ q.j = 0 then pSu q x D e w else pCla x D e w r
def askAt (e : Env) (i : Nat) (k : Addr → Gh → Prop) : Prop := match e[i]? with
  | some (.val (.fn f g0)) => k f g0
  | _ => False
def pTryA (S : List Nat) (A : AsksP) (i : Nat) (g : Dat → PS) (cl : List PCl) : PS := fun D e w => askAt e i fun f g0 => A f g0 w (fun d w => g d D e w) fun x w => x.j ∈ S ∧ pCla x D e w cl
/-- the field of the error at hand -/
def pXf (x : XD) (a : Addr) (g0 : Gh) (i : Nat) (f : Str) : PE := fun e w k => e[i]? = some (.val (.fn a g0)) ∧ ∃ d, x.f = some (f, d) ∧ k d e w
abbrev ICl := Addr → Gh → Nat → Prop
/-- lambda: .. -/
def pMkL (IC : ICl) (j : Nat) : PE := fun e w k => ∀ f g0, IC f g0 j → k (.fn f g0) e w
def rfr1 (gs : Gh) : Dat → Dat
  | .fn f _ => .fn f gs
  | d => d
def rfr (gs : Gh) : Dat → Dat
  | .fn f _ => .fn f gs
  | .lst l => .lst (l.map (rfr1 gs))
  | d => d
def InClo (ds : List Dat) (f : Addr) (g0 : Gh) : Prop := .fn f g0 ∈ ds ∨ ∃ l, .lst l ∈ ds ∧ .fn f g0 ∈ l
abbrev PBd := Env → AskX
def askM (IC : ICl) (pB : List PBd) (gs : Gh) (e : Env) : AsksP := fun f g0 w k kx => g0 = gs ∧ ∃ j pb, pB[j]? = some pb ∧ IC f g0 j ∧ pb (noO e) w k kx
def pCloM (IC : ICl) (pB : List PBd) (P : PSpA) (a : PA) : PE := fun e w k => a e w fun ds e w => ∀ gs, (∀ f g0 j, InClo ds f g0 → IC f g0 j → IC f gs j) → P (askM IC pB gs e) (ds.map (rfr gs)) w fun d w => k d e w
def pLam1 (pb : PBd) (P : PSpA) : PE := fun e w k => ∀ f gs, P (fun f' g0 w k kx => f' = f ∧ g0 = gs ∧ pb (noO e) w k kx) [.fn f gs] w fun d w => k d e w
/-- bodies: a call that may raise, a call that does not, any value -/
def bdX (a : PA) (P : PSpX) : PBd := fun e w k kx => a e w fun ds _ w => P ds w k kx
def bdE (a : PE) : PBd := fun e w k _ => a e w fun d _ w => k d w
def SndB (K : PySem.W.Frag) (c : Pc) (tb : XK → TE) (pb : PBd) : Prop := ∀ (σ : L2.St) (g : Gh) (H : Hp) (e : Env) (w : Wld) (k : Dat → Wld → Prop) (kx : PX) (Q : VK) (E : XK), In K c ⟨H, g, []⟩ [] σ ⟨g, H, e, w, []⟩ → pb e w k kx → Posts K c g H k kx Q E → tb E σ H Q
section
variable {K : PySem.W.Frag} {c : Pc} {X : En} {F : List (Addr × HO)} {σ : L2.St} {s : Cf} {ta : TA} {pa : PA} {te : TE} {pe : PE} {sp : Sp}
/-- the state in which a closure's body runs -/
theorem In.body (I : In K c X F σ s) {g : Gh} {H : Hp} {w : Wld} (le : s.g.le g) (W : Wr K c g H w) : In K c ⟨H, g, []⟩ [] σ ⟨g, H, noO s.e, w, []⟩ := by
  have mu0 : ∀ a, a ∈ (⟨g, H, noO s.e, w, []⟩ : Cf).mu [] → a ∈ g.mu := fun a ha => by
    have ha : a ∈ g.mu ++ ([] ++ []) := ha
    rwa [List.append_nil, List.append_nil] at ha
  refine ⟨W, ?_, fun a ha => W.off a (mu0 a ha), by show (noO s.e).length = _; unfold noO; rw [List.length_map]; exact I.len, fun j z hz => ?_, fun q hq => (nomatch hq), fun q hq => (nomatch hq), Gh.le.refl _, fun a o e _ _ => e, fun _ _ _ => rfl, fun a ha => .inl (mu0 a ha), fun a o e => ⟨o, e⟩⟩
  · show (g.mu ++ ([] ++ [])).Nodup
    rw [List.append_nil, List.append_nil]; exact W.nd
  · rcases noO_get hz with rfl | ⟨d, rfl, hz2⟩
    · trivial
    · obtain ⟨v, e1, r⟩ := I.env j _ hz2
      exact ⟨v, e1, r.mono le⟩
/-- the lambdas' readings and their meanings -/
inductive BdS (K : PySem.W.Frag) (c : Pc) : List (Lmb × (XK → TE)) → List PBd → Prop
  | nil : BdS K c [] []
  | cons {L : Lmb} {tb : XK → TE} {pb : PBd} {bs : List (Lmb × (XK → TE))} {pB : List PBd} : SndB K c tb pb → BdS K c bs pB → BdS K c ((L, tb) :: bs) (pb :: pB)
theorem BdS.at : ∀ {bs : List (Lmb × (XK → TE))} {pB : List PBd}, BdS K c bs pB → ∀ {j : Nat} {L : Lmb} {tb : XK → TE} {pb : PBd}, bs[j]? = some (L, tb) → pB[j]? = some pb → SndB K c tb pb
  | _, _, .nil, _, _, _, _, h, _ => by simp at h
  | _, _, .cons h t, 0, _, _, _, h1, h2 => by cases h1; cases h2; exact h
  | _, _, .cons h t, j + 1, _, _, _, h1, h2 => BdS.at t (j := j) (by simpa using h1) (by simpa using h2)
/-- in a comprehension: the list that is walked is told anew, so that its closures are of the entry -/
def lstV (e : Env) (i : Nat) (k : List Dat → Prop) : Prop := match e[i]? with
  | some (.val (.lst l)) => k l
  | _ => False
def pRfr (IC : ICl) (i : Nat) (p : Gh → Env → PF) : PF := fun e w k => lstV e i fun l => ∀ gs, (∀ f g0 j, .fn f g0 ∈ l → IC f g0 j → IC f gs j) → p gs e (e.set i (.val (.lst (l.map (rfr1 gs))))) w k
def pCloB (IC : ICl) (pB : List PBd) (gs : Gh) (e0 : Env) (P : PSpA) (a : PA) : PE := fun e w k => a e w fun ds e w => (∃ f, .fn f gs ∈ ds) ∧ P (askM IC pB gs e0) ds w fun d w => k d e w
end
end Pu
namespace Pu
open PySem L2 Eng
/-- the program's classes and what is built in have nothing to do with each other -/
structure IsiK (K : PySem.W.Frag) (c : Pc) : Prop where
  im : C8.InsC K c.CMachine
  ib : C8.InsC K c.CBig
  nm : NoSub K c.CMachine
  nb : NoSub K c.CBig
  ne : c.CMachine ≠ c.CBig
  mb : PySem.W.subIn K (.ref c.CMachine) (.ref c.CBig) = some false
  bm : PySem.W.subIn K (.ref c.CBig) (.ref c.CMachine) = some false
  mt : ∀ b ∈ (["int", "list", "str", "bool", "tuple", "dict"] : List String), PySem.W.subIn K (.ref c.CMachine) (.type b) = some false
  bt : ∀ b ∈ (["int", "list", "str", "bool", "tuple", "dict"] : List String), PySem.W.subIn K (.ref c.CBig) (.type b) = some false
/-- what a thing is: 1 a machine, 2 a Big, 0 neither -/
def isDk : Option HO → Option Nat
  | some (.dK _) => some 0
  | _ => none
theorem isDk_of {o : Option HO} {q : Nat} (h : isDk o = some q) : q = 0 ∧ ∃ kv, o = some (.dK kv) := by
  unfold isDk at h
  split at h
  · rename_i kv
    exact ⟨by cases h; rfl, kv, rfl⟩
  · cases h
def kindD : Dat → Option Nat
  | .non | .bl _ | .int _ | .str _ | .tup _ | .lst _ | .dic _ => some 0
  | .mach _ => some 1
  | .big _ _ => some 2
  | .fn f g => isDk (g.G f)
  | _ => none
def pIsO (n : Nat) (a : PE) : PE := fun e w k => a e w fun d e w => onSome (kindD d) fun q => k (.bl (decide (q = n))) e w
section
variable {K : PySem.W.Frag} {c : Pc}
theorem sub_kit {C D : Addr} (h : NoSub K D) (ne : C ≠ D) (hs : PySem.W.subIn K (.ref C) (.ref D) = some false) : PySem.W.kitOne K (.ref C) (.ref D) = some false := by
  unfold PySem.W.kitOne
  have e1 : (Value.ref C == Value.ref D) = false := by simpa using ne
  rw [e1, if_neg Bool.false_ne_true]
  unfold PySem.W.kitCls
  have e2 : ((PySem.W.clsIn K D).isSome && PySem.W.typeIn K (.ref D) == some (.type "type")) = true := by
    have h2 : (PySem.W.clsIn K D).isSome = true := h.ic
    rw [h2, h.ty]
    rfl
  show (if ((PySem.W.clsIn K D).isSome && PySem.W.typeIn K (.ref D) == some (.type "type")) = true then PySem.W.subIn K (.ref C) (.ref D) else none) = some false
  rw [if_pos e2]
  exact hs
/-- a thing's class -/
theorem kind_ty (IS : IsiK K c) {g : Gh} {H : Hp} {w : Wld} (W : Wr K c g H w) {v : V} {d : Dat} {q : Nat} (r : Rep K c g v d) (h : kindD d = some q) :
    ∃ t, TyX K H v t ∧ (q = 1 → t = .ref c.CMachine) ∧ (q = 2 → t = .ref c.CBig) ∧ (q = 0 → ∃ b ∈ (["int", "list", "str", "NoneType", "bool", "tuple", "dict"] : List String), t = .type b) := by
  have no : ∀ {P : Prop} {a b : Nat}, a ≠ b → a = b → P := fun ne e => absurd e ne
  cases d with
  | non => cases r; cases h; exact ⟨_, .base .non, no (by decide), no (by decide), fun _ => ⟨_, by decide, rfl⟩⟩
  | bl b => cases r; cases h; exact ⟨_, .base (.bl _), no (by decide), no (by decide), fun _ => ⟨_, by decide, rfl⟩⟩
  | int b => cases r; cases h; exact ⟨_, .base (.int _), no (by decide), no (by decide), fun _ => ⟨_, by decide, rfl⟩⟩
  | str b => cases r; cases h; exact ⟨_, .base (.str _), no (by decide), no (by decide), fun _ => ⟨_, by decide, rfl⟩⟩
  | tup l => cases r with | tup h1 _ => cases h; exact ⟨_, .base (.tup (W.sub _ _ h1)), no (by decide), no (by decide), fun _ => ⟨_, by decide, rfl⟩⟩
  | lst l => cases r with | lst h1 _ => cases h; exact ⟨_, .base (.lst (W.sub _ _ h1)), no (by decide), no (by decide), fun _ => ⟨_, by decide, rfl⟩⟩
  | dic l => cases r with | dic h1 => cases h; exact ⟨_, .base (.dK (W.sub _ _ h1)), no (by decide), no (by decide), fun _ => ⟨_, by decide, rfl⟩⟩
  | mach i => cases r with
    | mach h1 =>
      cases h
      have hl : i < w.ms.length := by rw [← W.mlen]; exact (List.getElem?_eq_some_iff.mp h1).1
      obtain ⟨dx, hi⟩ := (W.mach i _ _ h1 (List.getElem?_eq_getElem hl)).ins
      exact ⟨_, .base (.ins (W.sub _ _ hi) IS.im.cl IS.im.ha IS.im.hn IS.im.htk IS.im.hm), fun _ => rfl, no (by decide), no (by decide)⟩
  | big b n => cases r with
    | big h1 =>
      cases h
      obtain ⟨dx, rr, hi, _⟩ := h1.at_
      exact ⟨_, .base (.ins (W.sub _ _ hi) IS.ib.cl IS.ib.ha IS.ib.hn IS.ib.htk IS.ib.hm), no (by decide), fun _ => rfl, no (by decide)⟩
  | fn f g0 => cases r with
    | fn le =>
      obtain ⟨rfl, kv, e⟩ := isDk_of (show isDk (g0.G f) = some q from h)
      exact ⟨_, .base (.dK (W.sub _ _ (le.G _ _ e))), no (by decide), no (by decide), fun _ => ⟨_, by decide, rfl⟩⟩
  | _ => cases h
theorem kind_le {d : Dat} {q : Nat} (h : kindD d = some q) : q = 0 ∨ q = 1 ∨ q = 2 := by
  cases d <;> first | (cases h; decide) | cases h | exact .inl (isDk_of h).1
theorem snd_isM (IS : IsiK K c) {ta : TE} {pa : PE} (ha : SndE K c ta pa) : SndE K c (tCB (rIsi K) (tCons ta (tCons (tC (.ref c.CMachine)) tNil))) (pIsO 1 pa) := by
  intro X F σ s k Q I h hQ
  refine ha X F σ s _ _ I h fun v d s1 l1 I1 r1 h1 => ?_
  replace h1 := onSome_of h1
  obtain ⟨q, hq, h1⟩ := h1
  obtain ⟨t, ty, t1, t2, t0⟩ := kind_ty IS I1.wr r1 hq
  refine ⟨v, .ref c.CMachine, t, .ref c.CMachine, decide (q = 1), rfl, .own _, ty, ?_, hQ _ _ s1 l1 I1 (.bl _) h1⟩
  rcases kind_le hq with rfl | rfl | rfl
  · obtain ⟨b, hb, rfl⟩ := t0 rfl
    exact IS.nm.kit hb
  · rw [t1 rfl]; exact IS.im.me
  · rw [t2 rfl]; exact sub_kit IS.nm (Ne.symm IS.ne) IS.bm
theorem lcp_cons {g : PG} {t : PT} {a : PE} {vs : List Nat} {k : List Dat → Env → Wld → Prop} {d : Dat} {ds acc : List Dat} {e : Env} {w : Wld} :
    lcp g t a vs k (d :: ds) acc e w = g d e w fun e w => t e w fun b e w => if b = true then a e w fun y e w => acc.length < sizeLine ∧ lcp g t a vs k ds (acc ++ [y]) (wip e vs) w else lcp g t a vs k ds acc (wip e vs) w := rfl
theorem lcp_nil {g : PG} {t : PT} {a : PE} {vs : List Nat} {k : List Dat → Env → Wld → Prop} {acc : List Dat} {e : Env} {w : Wld} : lcp g t a vs k [] acc e w = k acc e w := rfl
theorem eBl {b : Bool} {k : Bool → Prop} : isB (.bl b) k = k b := rfl
theorem eKd0 {k : Nat → Prop} : onSome (kindD .non) k = k 0 := rfl
theorem eKd1 {b : Bool} {k : Nat → Prop} : onSome (kindD (.bl b)) k = k 0 := rfl
theorem eKd2 {n : Int} {k : Nat → Prop} : onSome (kindD (.int n)) k = k 0 := rfl
theorem eKd3 {s : Str} {k : Nat → Prop} : onSome (kindD (.str s)) k = k 0 := rfl
theorem eKd4 {l : List Dat} {k : Nat → Prop} : onSome (kindD (.tup l)) k = k 0 := rfl
theorem eKd5 {l : List Dat} {k : Nat → Prop} : onSome (kindD (.lst l)) k = k 0 := rfl
theorem eKd6 {l : List (Str × Int)} {k : Nat → Prop} : onSome (kindD (.dic l)) k = k 0 := rfl
theorem eKd7 {i : Nat} {k : Nat → Prop} : onSome (kindD (.mach i)) k = k 1 := rfl
theorem eKd8 {b : Nat} {n : Int} {k : Nat → Prop} : onSome (kindD (.big b n)) k = k 2 := rfl
end
end Pu
namespace Pu
open PySem L2 Eng
end Pu
namespace Pu
open PySem L2 Eng
/-- the promises over the heap and over data go together -/
inductive FLs (K : PySem.W.Frag) (c : Pc) : List (Nat × Sp) → List (Nat × PSp) → Prop
  | nil : FLs K c [] []
  | cons {j : Nat} {sp : Sp} {P : PSp} {ls : List (Nat × Sp)} {l : List (Nat × PSp)} : SndP K c sp P → FLs K c ls l → FLs K c ((j, sp) :: ls) ((j, P) :: l)
section
variable {K : PySem.W.Frag} {c : Pc} {ls : List (Nat × Sp)} {l : List (Nat × PSp)} {tr : TA} {pr : PA} {i n : Nat}
theorem FLs.get (h : FLs K c ls l) {j : Nat} {P : PSp} (e : l.lookup j = some P) : ∃ sp, (j, sp) ∈ ls ∧ SndP K c sp P := by
  induction h with
  | nil => cases e
  | @cons q sp Q ls l hs t ih =>
    rw [List.lookup_cons] at e
    by_cases z : j = q
    · subst z
      rw [beq_self_eq_true] at e
      cases e
      exact ⟨sp, List.mem_cons_self, hs⟩
    · rw [show (j == q) = false by simpa using z] at e
      obtain ⟨sp', h1, h2⟩ := ih e
      exact ⟨sp', List.mem_cons_of_mem _ h1, h2⟩
end
end Pu
namespace Pu
open PySem L2 Eng
end Pu
namespace Pu
open PySem L2 Eng
end Pu
namespace Pu
open PySem L2 Eng
end Pu
namespace Pu
open PySem L2 Eng
end Pu
namespace Pu
open PySem L2 Eng
end Pu
namespace Pu
open PySem L2 Eng
end Pu
namespace Pu
open PySem L2 Eng
end Pu
namespace Pu
open PySem L2 Eng
end Pu
namespace Pu
open PySem L2 Eng
end Pu
namespace Pu
open PySem L2 Eng
end Pu
namespace Eng
open PySem PySem.Spec PyProof.Rows L2
def makP (ix : List Nat) (a b : List V) : List V := a ++ perm ix b
def makPV (ix : List Nat) (a b : List Value) : List Value := a ++ permV ix b
def tPerm (ix : List Nat) (m : Nat) (tk : TA) : TA := fun σ H Q => tk σ H fun zs H1 => zs.length = m ∧ Q (perm ix zs) H1
section
variable {K : PySem.W.Frag} {x qual : Str} {params : Arguments} {body : List Stmt} {scope : Scope} {dvs : List V} {kws : List (Str × V)} {f : Addr} {fd : FuncData} {ps ks : List Str} {ix : List Nat} {n : Nat}
theorem kn_ofDP (F : FunD K x qual params body scope dvs kws f fd) (hd : dvs ≠ [])
    (h : ∀ (T : Addr) (kV doc pm : Value) (an : Option Addr) (cdv ct : Value) (us its ws : List Value), us.length = n → its.length = dvs.length → ws.length = ks.length →
      ∃ k, bindArgs (PySem.W.fnOf x qual params body scope (.ref T) kV doc pm an cdv ct) ⟨us, ks.zip ws⟩ = seqItems? (.ref T) >>= k ∧ k (some its.toArray) = pure (ps.zip (makPV ix us ws))) : KBn K fd ps n ks (makPV ix) (makP ix) := by
  obtain ⟨oc, od, dV, kV, doc, pm, an, cdv, ct, osl, rfl, lk, hcd, hD, hK⟩ := F.ex
  rcases hD with ⟨e, _⟩ | ⟨_, T, o, its, m, rfl, lT, oT, rT⟩
  · exact absurd e hd
  · refine ⟨fun s us ws X hu hl => ?_, fun r1 r2 => r1.append (perm_rel ix r2)⟩
    obtain ⟨k, e1, e2⟩ := h T kV doc pm an cdv ct us its ws hu rT.length.symm hl
    refine BindsTo.of_looks fun M => ?_
    rw [e1]
    exact looks_items X lT oT (.of_pure e2)
end
section
variable {X : Cx} {CX : CXT} {k n m : Nat} {f C : Addr} {fd : FuncData} {ps ks : List Str} {sp : Sp} {E : XK} {x : Str} {p pos : Pos} {kws : List Keyword} {tk : TA} {ix : List Nat}
theorem pe_makeKP (M : Mk X.K C f) (F : FnOk X.prog X.w X.K X.mg X.base CX k f fd ps sp) (hr : Room (k + 1) X.A) (hg : Gl X x) (hm : X.mg x = some (.ref C)) (hb : KBn X.K fd ps 1 ks (makPV ix) (makP ix)) (hx : Passes CX X E) (hkw : PK X kws tk)
    (hall : (backToKw pos (keywordEach kws X.env)).all (·.1.isSome) = true := by rfl) (hks : (backToKw pos (keywordEach kws X.env)).filterMap (·.1) = ks := by rfl) (hdb : (x == ("__debug__" : Str)) = false := by decide)
    (hpl : ((backTo pos (starEach [] X.env)).any (·.1) || (backToKw pos (keywordEach kws X.env)).any (·.1.isNone)) = false := by rfl) (hn : m = ks.length := by rfl) :
    PE X (.Call (.Name x p) [] kws pos) (tMake C sp [] E (tPerm ix m tk)) := by
  refine ⟨fun pins s σ H Q I h => (pe_makeK0 M F hr hg hm hb hx hkw hall hks hdb hpl).run pins s σ H Q I ?_⟩
  subst hn
  refine cast (congrArg (tk σ H) (funext fun zs => funext fun H1 => propext ?_)) h
  constructor
  · rintro ⟨a, b⟩
    refine ⟨rfl, a, fun q dx n1 n2 n3 => ?_⟩
    have := b q dx n1 n2 n3
    rw [List.append_nil] at this
    exact this
  · rintro ⟨_, a, b⟩
    refine ⟨a, fun q dx n1 n2 n3 => ?_⟩
    rw [List.append_nil]
    exact b q dx n1 n2 n3
end
end Eng
namespace Pu
open PySem L2 Eng
section
variable {K : PySem.W.Frag} {c : Pc} {tr : TA} {pr : PA} {ty td : TE} {py' pd : PE} {ix : List Nat} {m : Nat}
def pPerm (ix : List Nat) (m : Nat) (pr : PA) : PA := fun e w k => pr e w fun ds e w => ds.length = m ∧ k (ix.map fun i => ds.getD i .non) e w
theorem snd_perm (hr : SndA K c tr pr) : SndA K c (tPerm ix m tr) (pPerm ix m pr) := by
  intro X F σ s k Q I h hQ
  refine hr X F σ s _ _ I h fun vs ds s1 l1 I1 r1 h1 => ?_
  exact ⟨r1.length.trans h1.1, hQ _ _ s1 l1 I1 (reps_perm r1 ix) h1.2⟩
/-- x is not None, where x is None -/
def pNotN (a : PE) : PE := fun e w k => a e w fun d e w => match d with | .non => k (.bl false) e w | _ => False
theorem snd_notN (ha : SndE K c td pd) : SndE K c (tNotN td) (pNotN pd) := by
  intro X F σ s k Q I h hQ
  refine ha X F σ s _ _ I h fun v dv s1 l1 I1 r1 h1 => ?_
  cases dv with
  | non =>
    cases r1
    exact hQ _ _ s1 l1 I1 (.bl _) h1
  | _ => exact h1.elim
/-- t in d, d an object -/
def pDInO (y o : PE) : PE := fun e w k => y e w fun z e w => o e w fun x e w => obOf x fun j => strOf z fun s => dcAt w j fun l => k (.bl (l.lookup s).isSome) e w
theorem snd_dinO (hy : SndE K c ty py') (ho : SndE K c td pd) : SndE K c (tDIn ty td) (pDInO py' pd) := by
  intro X F σ s k Q I h hQ
  refine hy X F σ s _ _ I h fun u du s1 l1 I1 r1 h1 => ?_
  refine ho X F σ s1 _ _ I1 h1 fun v dv s2 l2 I2 r2 h2 => ?_
  replace h2 := obOf_of h2
  obtain ⟨j, rfl, h2⟩ := h2
  replace h2 := strOf_of h2
  obtain ⟨t, rfl, h2⟩ := h2
  obtain ⟨l, hl, h2⟩ := dcAt_of h2
  obtain ⟨a, rfl, _, hH⟩ := I2.wr.obAt r2 hl
  have hH : s2.H a = some (.dK (dKs l)) := hH
  have e2 := (r1.mono l2).strI
  subst e2
  refine ⟨a, (l.lookup t).map V.int, rfl, .inl ⟨dKs l, Sum.inr t, .inl hH, rfl, by rw [valV_dKs]⟩, ?_⟩
  rw [Option.isSome_map]
  exact hQ _ _ s2 (l1.trans l2) I2 (.bl _) h2
end
section
variable {K : PySem.W.Frag} {c : Pc} {H H' : Hp} {g : Gh} {w : Wld} {ns fr : List (Addr × HO)} {E : XK} {ta : TE} {tr : TA} {pa : PE} {pr : PA} {sp : Sp} {P : PSp}
theorem Wr.goF (W : Wr K c g H w) (ch : Chg H H' [] ns) (hfr : ∀ q ∈ fr, q ∈ ns) : Wr K c (gAdd g fr) H' w ∧ Aft g H (gAdd g fr) H' := by
  refine W.go ch (fun a h => nomatch h) (fun q h => nomatch h) hfr rfl rfl (fun le i q m' h1 h2 => ?_) (fun a ha => ?_) rfl ?_ ?_
  · have h := W.mach i q m' h1 h2
    obtain ⟨vs, h3, _⟩ := h.wlk
    exact h.mono le (by rw [h.cnt]; exact ch.keep _ _ h.cnt (fun z => nomatch z)) (by rw [h3]; exact ch.keep _ _ h3 (fun z => nomatch z))
  · obtain ⟨o, h1, h2⟩ := W.srcs a ha
    exact ⟨o, ch.keep _ _ h1 (fun z => nomatch z), h2⟩
  · exact fun le i a o h1 h2 => W.oKeep ch le h1 h2 (fun z => nomatch z)
  · exact fun p hp z => nomatch z
/-- a method of a machine that tells a new list -/
def pMethML (P : PSp) (a : PE) (r : PA) : PF := fun e w k => a e w fun x e w => match x with | .mach i => r e w fun ds e w => P (.mach i :: ds) w fun d w => lsOf d fun l => k l e w | _ => False
theorem ul_Machine_walk : SndPL K c (sp_Machine_walk K c) P_Machine_walk := by
  intro g H w vs ds k Q E W r h hQ
  unfold P_Machine_walk at h
  split at h
  · rename_i i
    obtain ⟨m, hm, h⟩ := onM_of h
    obtain ⟨a, rfl, r1⟩ := one_arg r
    obtain ⟨q, m', dx, hq, hm', rfl, hi, M⟩ := W.ins r1
    rw [hm] at hm'; cases hm'
    obtain ⟨vs, hw1, hw2⟩ := M.wlk
    refine ⟨q.1, dx, m.b, m.cut, q.2.1, q.2.2, vs, rfl, hi, hw1, fun p H' ch => ?_⟩
    obtain ⟨W', A⟩ := W.goF (fr := []) ch (fun q hq => nomatch hq)
    have hp := ch.new (a := p) (o := .lst vs) List.mem_cons_self
    exact hQ p vs _ _ H' w A W' hp.1 (W.noG hp.1) (fun z => by obtain ⟨o, e⟩ := W.muAt z; rw [hp.1] at e; cases e) hp.2 (hw2.mono A.le) h
  · exact h.elim
theorem ul_Machine_tally : SndPL K c (sp_Machine_tally K c) P_Machine_tally := by
  intro g H w vs ds k Q E W r h hQ
  unfold P_Machine_tally at h
  split at h
  · rename_i i
    obtain ⟨m, hm, h⟩ := onM_of h
    obtain ⟨a, rfl, r1⟩ := one_arg r
    obtain ⟨q, m', dx, hq, hm', rfl, hi, M⟩ := W.ins r1
    rw [hm] at hm'; cases hm'
    refine ⟨q.1, dx, m.b, m.cut, q.2.1, q.2.2, m.ns, rfl, hi, M.cnt, M.ten, fun p ps H' hl ch => ?_⟩
    have hp := ch.new (a := p) (o := _) List.mem_cons_self
    obtain ⟨W', A⟩ := W.goF ch (fun q hq => List.mem_cons_of_mem _ hq)
    have nd := ch.nd
    rw [List.map_cons, List.nodup_cons] at nd
    refine hQ p _ _ _ H' w A W' hp.1 ((gAdd_out nd.1).trans (W.noG hp.1)) (fun z => by rw [gAdd_mu] at z; obtain ⟨o, e⟩ := W.muAt z; rw [hp.1] at e; cases e) hp.2 ?_ h
    refine reps_rows (n := 10) rfl M.ten hl fun i p' t e1 e2 => ?_
    exact gAdd_in (q := (p', HO.tup t)) nd.2 (tl2_mem e1 e2)
  · exact h.elim
theorem snd_methML {f : Str} (hf : (f == "entered" || f == "counts" || f == "base" || f == "limit_of_rows" || f == "width") = false) (hp : SndPL K c sp P) (ha : SndE K c ta pa) (hr : SndA K c tr pr) : SndF K c (tMeth c.CMachine f sp [] E ta tr) (pMethML P pa pr) := by
  intro X F σ s k Q I h hQ
  refine ha X F σ s _ _ I h fun x dx s1 l1 I1 r1 h1 => ?_
  cases dx with
  | mach i =>
    obtain ⟨q, m, dx, _, _, e, hi, _⟩ := I1.wr.ins r1
    subst e
    refine ⟨q.1, dx, _, rfl, hi, mF_meth' hf, ?_⟩
    refine hr X F σ s1 _ _ I1 h1 fun vs ds s2 l2 I2 r2 h2 => ?_
    rw [List.append_nil]
    refine hp s2.g s2.H s2.w _ _ _ _ E I2.wr (.cons (r1.mono l2) r2) h2 fun a ws l g' H' w' A W ha hg hm hH hw hk => ?_
    exact hQ a ws l ⟨g', H', s2.e, w', s2.os⟩ ((l1.trans l2).trans A.le) (I2.fresh ha) (I2.callH A W ha hg hm hH) hw hk
  | _ => exact h1.elim
end
end Pu
namespace Eng
open PySem L2 Pu
local macro_rules | `(tactic| walk_at "pu") => `(tactic| try simp only [pDictCO, pExtO, eLsOf1, pEqMW, pLam2, noO_nil, noO_cons, noS_val, noS_no, noS_own, pDispO, pDNewO, pgPutO, penT, eStrO, eNeDA, eEqMX, eNeMX, dcAt_add, thw_tup, thws_nil, thws_cons, thw1_L, thw1_D, thw1_new, pOpW, pCBW, pOpFW, pCBFW, pObj, pSlW, pSetO, pAppO, pIR3, pgSetI, pgSetO, pgTup2, pTellO, vw_int, vw_bl, vw_str, vw_tup, vw_lst, vw_cst, vw_big, vw_non, vw_dic, vw_ob, vws_nil, vws_cons, obOf_ob, lsAt_put, onM_putO, onM_addO, eModF, eDivF, eDivmodF, eTwo, eLone, eCatQ, pBits, penD, low_int, low_bl, low_str, low_non, low_big, low_mach, low_src, low_dic, low_tup, low_lst, low_nil, low_cons, and_self, take_self, pSeq, pNext, pBreak, pCont, pAsg, pAsgO, pAsgG, pPar, pParO, pParO2, pRet, pRetN, pDrop, pIfS, pAppend, pSetI, pFrz, pFor, pC, pOp, pUn, pTest, pNot, pAnd, pOr, pAndV, pOrV, pNotV, pIf, pChain, pNil, pCons, pCall, pCallD, pKw, pTup, pCB, pLst, pFz, pOpF, pCBF, pOpO, pCBO, pgName, pgTup, pLc, pYes, pIL, pIT, pIR1, pIR2, pIEnum, pIZip, pNoPart, pPart, pSlL, pSlT, pRevL, pRevT, pDisp, dVals, pDNew, setAll, wip, env0, pen, frz, fz,
  eAdd, eSub, eAnd, eOr, eXor, eLt, eLe, eGt, eGe, eMul, eDiv, eMod, ePow, eShr, eNeg, eEqI, eEqS, eEqL, eNeI, eNeS, eNeL, eIx1, eIx2, eIx3, eIxL, eIxC, eIxT, eCat, eRep, eLen1, eLen2, eLen3, eAbs, eInt1, eInt2, eMax, eMin, eDivmod, eAnyT, pExtend, pIA, e_is_integer, eDict, eEqDA, ePosD, eList1, eList2, eList3, eTupL, eEqB, eNeB, eIsB, qEqD, qNeD, eTup, eLst1, eLst2, eIntO, eSeq1, eSeq2, eSeq3, eSome, eAt0, eAt1, eAt2, eAt3, eVar, eVal, eOwnAt, eOwn, eSide, eRow, eWidB, eWidM, eCut, eBase, eMethM, eMethB, eSideB, eRowB, eBitsB, eMachO, eBigO,
  pCallN, pTupO, eAll, pCallO, pCallL, pRetL, pgUnl, pDGet2, eDicOf, eGtOf, eLsOf, eEqTD, eNeTD, penF, env0O, pBor, pBorT, pAppT, pAsgT, pParT, pTake, pSeqN, pRetT, pRetO, pRetC, eBv, eBv1, eBv2, eOt, eOt1, eNo0, eNo1, eNo2, eTld, eLf1, eLf2, eIsi, eq_self,
  e_cnt0, e_cnt1, e_cnt2, e_cnt3, e_cnt4, e_cnt5, e_cnt6, e_cnt7, e_cnt8, e_cnt9, e_enter, e_reset, e_parts, e_walk, e_tally, e_check_machine, e_Machine, e_made, e_big_of, e_big, e_value_of, e_plain, e_check_any, e_check_big, e_check_bigs, e_is_compact, e_sign, e_bits, e_digits, e_bit_length, e_is_digits, e_Big, e_source_of, e_next, e_one, e_d_source, e_d_draw, e_d_pick, e_cell_at, e_counted,
  List.map_cons, List.map_nil, List.length_cons, List.length_nil, List.cons_append, List.nil_append, List.append_nil, List.replicate_succ, List.replicate_zero, List.set_cons_zero, List.set_cons_succ, List.getElem?_cons_zero, List.getElem?_cons_succ, List.getD_cons_zero, List.getD_cons_succ, Nat.reduceSub, Nat.reduceAdd, Bool.not_true, Bool.not_false, Bool.false_eq_true, reduceIte, reduceCtorEq, true_and, and_true, decide_eq_true_eq, Bool.not_eq_true, Bool.not_eq_eq_eq_not, decide_eq_false_iff_not, Bool.not_not])
local macro_rules | `(tactic| walk_at "mo") => `(tactic| repeat (first | exact mo_var | exact mo_c | exact moq_I | exact moq_I0 | exact moq_eq | exact moq_ne | exact mo_nil | refine mo_op ?_ ?_ ?_ | refine mo_neg ?_ | refine mo_test ?_ | refine mo_not ?_ | refine mo_and ?_ ?_ | refine mo_or ?_ ?_ | refine mo_if ?_ ?_ ?_ | refine mo_cons ?_ ?_ | refine mo_tup ?_ | refine mo_fz ?_ | refine mo_lst ?_))
local macro_rules | `(tactic| walk_at "px") => `(tactic| (walk_at "pu"; (try simp only [eBl, pIsO, pCallE, pRaiseF, pMkL, pCloM, pCloB, pLam1, pRfr, lstV, lcp_cons, lcp_nil, pTryA, askAt, pCla, pSu, pXf, noP, bdX, bdE, gDrop, gRet, gAsg, eKd0, eKd1, eKd2, eKd3, eKd4, eKd5, eKd6, eKd7, eKd8, rfr, rfr1]); walk_at "pu"))
def P_z_power : PSp := fun ds w k => match ds with
  | [.int b, .int n] => (0 ≤ b ∧ b < 2 ^ 64 ∧ 0 ≤ n ∧ n < 2 ^ 62) ∧ k (.int (b ^ n.toNat)) w
  | _ => False
def sp_z_power (K : PySem.W.Frag) (c : Pc) : Sp := lif K c P_z_power
theorem u_z_power {K : PySem.W.Frag} {c : Pc} : SndP K c (sp_z_power K c) P_z_power := SndP.lif
/-- 0:_law_base 1:_law_n 2:_law_found 3:_law_k -/
def t_z_power (K : PySem.W.Frag) (c : Pc) : TS :=
  (tSeq (tAsg (tC (.int 1)) (gName 2))
  (tSeq (tFor (iRng1 (tCons (tVar 1) tNil)) (gName 3) (tAsg (tOp rMul (tVar 2) (tVar 0)) (gName 2)))
  (tRet (tVar 2))))
def p_z_power : PS :=
  (pSeq (pAsg (pC (.int 1)) 2)
  (pSeq (pFor (pIR1 (pVar 1)) (pgName 3) (pAsg (pOp qMul (pVar 2) (pVar 0)) 2))
  (pRet (pVar 2))))
theorem sn_z_power {K : PySem.W.Frag} {c : Pc} {α : Prop} (PM : PM K c) (PB : α) : SndS K c (t_z_power K c) p_z_power :=
  (snd_seq (snd_asg (snd_int 1))
  (snd_seq (snd_for (snd_iR1 snd_var) snd_gName (snd_asg (snd_op s_mul snd_var snd_var)))
  (snd_ret snd_var)))
theorem n_z_power : ∀ ds w k, P_z_power ds w k → ds.length = 2 := fun ds w k h => by
  unfold P_z_power at h
  split at h
  · rfl
  · exact h.elim
theorem w_z_power : ∀ ds w k, P_z_power ds w k → p_z_power (pen k) (env0 4 ds) w := by
  intro ds w k h
  unfold P_z_power at h
  split at h
  · rename_i b n
    obtain ⟨⟨b1, b2, n1, n2⟩, h⟩ := h
    unfold p_z_power
    walk_at "pu"
    refine ⟨by omega, lp_ind (fun i e w' => w' = w ∧ ∃ z, e = [.val (.int b), .val (.int n), .val (.int (b ^ i)), z]) ⟨rfl, .no, by rw [Int.pow_zero]⟩ ?_ ?_⟩
    · rintro i d e w' nx hd ⟨rfl, z, rfl⟩ hn
      walk_at "pu"
      exact ⟨mul_okR (by omega) b2, hn _ _ ⟨rfl, _, by rw [Int.pow_succ]⟩⟩
    · rintro e w' ⟨rfl, z, rfl⟩
      walk_at "pu"
      rw [rng_len]
      exact h
  · exact h.elim
theorem b_z_power {K : PySem.W.Frag} {c : Pc} {vs : List V} {H : Hp} {Q : VK} {E : XK} {α : Prop} (PM : PM K c) (PB : α) (h : sp_z_power K c vs H Q E) : t_z_power K c (en0 Q) (st0 4 vs) H := def_ok (sn_z_power PM PB) w_z_power h
theorem dN_app (ds es : List Nat) : dN ds ++ dN es = dN (ds ++ es) := by unfold dN; rw [List.map_append]
theorem dN_len (ds : List Nat) : (dN ds).length = ds.length := by unfold dN; rw [List.length_map]
theorem dN_get {ds : List Nat} {i : Nat} {d : Dat} (h : (dN ds)[i]? = some d) : ∃ n : Nat, ds[i]? = some n ∧ d = .int (n : Int) := by
  unfold dN at h
  rw [List.getElem?_map] at h
  cases e : ds[i]? with
  | none => rw [e] at h; cases h
  | some n => rw [e] at h; exact ⟨n, rfl, (Option.some.inj h).symm⟩
theorem dN_one (d : Nat) : [Dat.int (d : Int)] = dN [d] := rfl
theorem e_z_power {b n : Int} {w : Wld} {k : Dat → Wld → Prop} : P_z_power [.int b, .int n] w k = ((0 ≤ b ∧ b < 2 ^ 64 ∧ 0 ≤ n ∧ n < 2 ^ 62) ∧ k (.int (b ^ n.toNat)) w) := rfl
theorem dN_at {ds : List Nat} {n : Nat} {i : Int} {d : Nat} (hi : i = (n : Int)) (h : ds[n]? = some d) : atI (dN ds) i = some (.int (d : Int)) := by
  subst hi
  refine at_nat ?_
  unfold dN
  rw [List.getElem?_map, h]; rfl
theorem val_take (b : Nat) (ds : List Nat) (i : Nat) : val b (ds.take (i + 1)) = val b (ds.take i) + 2 ^ (b * i) * ds.getD i 0 := by
  rw [List.take_succ, val_app]
  by_cases h : i < ds.length
  · rw [List.getElem?_eq_getElem h, List.length_take, Nat.min_eq_left (Nat.le_of_lt h), List.getD_eq_getElem?_getD, List.getElem?_eq_getElem h]
    simp [val]
  · rw [List.getElem?_eq_none_iff.mpr (by omega), List.getD_eq_getElem?_getD, List.getElem?_eq_none_iff.mpr (by omega)]
    simp [val]
theorem val_snoc (b : Nat) (es : List Nat) (d : Nat) : val b (es ++ [d]) = val b es + 2 ^ (b * es.length) * d := by
  rw [val_app]; simp [val]
theorem Digs.snoc {b : Nat} {es : List Nat} {d : Nat} (h : Digs b es) (hd : d < 2 ^ b) : Digs b (es ++ [d]) := fun x hx => by
  rcases List.mem_append.mp hx with z | z
  · exact h x z
  · rw [List.mem_singleton.mp z]; exact hd
theorem Digs.getD {b : Nat} {ds : List Nat} (h : Digs b ds) (i : Nat) : ds.getD i 0 < 2 ^ b := by
  rw [List.getD_eq_getElem?_getD]
  cases e : ds[i]? with
  | none => exact Nat.two_pow_pos b
  | some d => exact h d (List.mem_of_getElem? e)
/-- a list or a tuple of digits -/
def IsRow (d : Dat) (xs : List Nat) : Prop := d = .tup (dN xs) ∨ d = .lst (dN xs)
theorem IsRow.len {d : Dat} {xs : List Nat} (h : IsRow d xs) {k : Dat → Prop} : qLen [d] k = k (.int (xs.length : Nat)) := by
  rcases h with rfl | rfl
  · rw [eLen2, dN_len]
  · rw [eLen1, dN_len]
theorem IsRow.ix {d : Dat} {xs : List Nat} (h : IsRow d xs) {i : Nat} (hi : i < xs.length) {k : Dat → Prop} : qIx d (.int (i : Int)) k = k (.int (xs.getD i 0 : Nat)) := by
  have g : xs[i]? = some (xs[i]'hi) := List.getElem?_eq_getElem _
  have e : xs.getD i 0 = xs[i]'hi := by rw [List.getD_eq_getElem?_getD, g]; rfl
  rcases h with rfl | rfl
  · rw [eIx2, dN_at rfl g, eSome, e]
  · rw [eIx1, dN_at rfl g, eSome, e]
theorem IsRow.seq {d : Dat} {xs : List Nat} (h : IsRow d xs) {k : List Dat → Prop} : seqOf d k = k (dN xs) := by
  rcases h with rfl | rfl <;> rfl
theorem enm_dN {xs : List Nat} {i : Nat} {d : Dat} (h : (enm 0 (dN xs))[i]? = some d) : i < xs.length ∧ d = .tup [.int (i : Int), .int (xs.getD i 0 : Nat)] := by
  obtain ⟨x, hx, rfl⟩ := enm_get h
  obtain ⟨n, hn, rfl⟩ := dN_get hx
  refine ⟨(List.getElem?_eq_some_iff.mp hn).1, ?_⟩
  rw [List.getD_eq_getElem?_getD, hn, Nat.zero_add]; rfl
def P_z_looked : PSp := fun ds w k => match ds with
  | [.mach i, .tup l, .tup l'] => onM w i fun m => ∃ ds es : List Nat, l = dN ds ∧ l' = dN es ∧ ds.length = es.length ∧ ∀ p, LD ds es p → k (.int ((p : Int) - 1)) (w.put i (m.cnt 9 ((ds.length : Int) - (if p = 0 then 0 else (p : Int) - 1))))
  | _ => False
def sp_z_looked (K : PySem.W.Frag) (c : Pc) : Sp := lif K c P_z_looked
theorem u_z_looked {K : PySem.W.Frag} {c : Pc} : SndP K c (sp_z_looked K c) P_z_looked := SndP.lif
/-- 0:machine 1:one 2:other 3:place -/
def t_z_looked (K : PySem.W.Frag) (c : Pc) : TS :=
  (tSeq (tAsg (tOp rSub (tCB (rLen K) (tCons (tVar 1) tNil)) (tC (.int 1))) (gName 3))
  (tSeq (tWhile (tAnd (tTest (tOp rGe (tVar 3) (tC (.int 0)))) (tTest (tOp rEq (tOp (rIxT K) (tVar 1) (tVar 3)) (tOp (rIxT K) (tVar 2) (tVar 3))))) (tAsg (tOp rSub (tVar 3) (tC (.int 1))) (gName 3)))
  (tSeq (tDrop (tMeth c.CMachine "count" (sp_Machine_count K c) [] E0 (tVar 0) (tCons (tC (.str "looked")) (tCons (tOp rSub (tCB (rLen K) (tCons (tVar 1) tNil)) (tCB rMax2 (tCons (tVar 3) (tCons (tC (.int 0)) tNil)))) tNil))))
  (tRet (tVar 3)))))
def c1_z_looked : PT :=
  (pAnd (pTest (pOp qGe (pVar 3) (pC (.int 0)))) (pTest (pOp qEq (pOp qIxT (pVar 1) (pVar 3)) (pOp qIxT (pVar 2) (pVar 3)))))
def p_z_looked : PS :=
  (pSeq (pAsg (pOp qSub (pCB qLen (pCons (pVar 1) pNil)) (pC (.int 1))) 3)
  (pSeq (pWhile c1_z_looked (pAsg (pOp qSub (pVar 3) (pC (.int 1))) 3))
  (pSeq (pDrop (pMethM P_Machine_count (pVar 0) (pCons (pC (.str "looked")) (pCons (pOp qSub (pCB qLen (pCons (pVar 1) pNil)) (pCB qMax2 (pCons (pVar 3) (pCons (pC (.int 0)) pNil)))) pNil))))
  (pRet (pVar 3)))))
theorem sn_z_looked {K : PySem.W.Frag} {c : Pc} {α : Prop} (PM : PM K c) (PB : α) : SndS K c (t_z_looked K c) p_z_looked :=
  (snd_seq (snd_asg (snd_op s_sub (snd_cb s_len (snd_cons snd_var snd_nil)) (snd_int 1)))
  (snd_seq (snd_while (snd_and (snd_test (snd_op s_ge snd_var (snd_int 0))) (snd_test (snd_op s_eq (snd_op s_ixT snd_var snd_var) (snd_op s_ixT snd_var snd_var)))) (snd_asg (snd_op s_sub snd_var (snd_int 1))))
  (snd_seq (snd_drop (snd_methM (by decide) u_Machine_count snd_var (snd_cons (snd_str "looked") (snd_cons (snd_op s_sub (snd_cb s_len (snd_cons snd_var snd_nil)) (snd_cb s_max2 (snd_cons snd_var (snd_cons (snd_int 0) snd_nil)))) snd_nil))))
  (snd_ret snd_var))))
theorem n_z_looked : ∀ ds w k, P_z_looked ds w k → ds.length = 3 := fun ds w k h => by
  unfold P_z_looked at h
  split at h
  · rfl
  · exact h.elim
theorem e_z_looked {i : Nat} {l l' : List Dat} {w : Wld} {k : Dat → Wld → Prop} : P_z_looked [.mach i, .tup l, .tup l'] w k = onM w i fun m => ∃ ds es : List Nat, l = dN ds ∧ l' = dN es ∧ ds.length = es.length ∧ ∀ p, LD ds es p → k (.int ((p : Int) - 1)) (w.put i (m.cnt 9 ((ds.length : Int) - (if p = 0 then 0 else (p : Int) - 1)))) := rfl
theorem w_z_looked : ∀ ds w k, P_z_looked ds w k → p_z_looked (pen k) (env0 4 ds) w := by
  intro ds w k h
  unfold P_z_looked at h
  split at h
  · rename_i i l l'
    obtain ⟨m, hm, ds, es, rfl, rfl, hl, h⟩ := onM_of h
    unfold p_z_looked
    walk_at "pu"
    refine whl_ind (fun p e w' => w' = w ∧ (p ≤ ds.length ∧ ∀ j, p ≤ j → ds[j]? = es[j]?) ∧ e = [.val (.mach i), .val (.tup (dN ds)), .val (.tup (dN es)), .val (.int ((p : Int) - 1))]) ds.length ⟨rfl, ⟨Nat.le_refl _, fun j hj => ?_⟩, ?_⟩ ?_
    · rw [List.getElem?_eq_none_iff.mpr hj, List.getElem?_eq_none_iff.mpr (by omega)]
    · rw [dN_len]
    rintro p e w' nx ⟨rfl, ⟨hp, hal⟩, rfl⟩ hn
    unfold c1_z_looked
    walk_at "pu"
    have e1 : (if 0 > (p : Int) - 1 then 0 else (p : Int) - 1) = (if p = 0 then 0 else (p : Int) - 1) := by
      by_cases h0 : p = 0
      · rw [if_pos h0, if_pos (by omega)]
      · rw [if_neg h0, if_neg (by omega)]
    rw [e1, dN_len, onM_is hm]
    split
    · have hlt : p - 1 < ds.length := by omega
      have g1 : ds[p - 1]? = some (ds[p - 1]'hlt) := List.getElem?_eq_getElem _
      have g2 : es[p - 1]? = some (es[p - 1]'(by omega)) := List.getElem?_eq_getElem _
      rw [dN_at (n := p - 1) (by omega) g1, dN_at (n := p - 1) (by omega) g2]
      walk_at "pu"
      split
      · rename_i hq
        refine hn (p - 1) _ _ (by omega) ⟨rfl, ⟨by omega, fun j hj => ?_⟩, by rw [show ((p : Int) - 1 - 1) = (((p - 1 : Nat) : Int) - 1) by omega]⟩
        by_cases e2 : j = p - 1
        · rw [e2, g1, g2]; exact congrArg some (Int.ofNat_inj.mp hq)
        · exact hal j (by omega)
      · rename_i hq
        exact h p ⟨hp, hal, .inr (by rw [g1, g2]; intro z; exact hq (by rw [Option.some.inj z]))⟩
    · exact h p ⟨hp, hal, .inl (by omega)⟩
  · exact h.elim
theorem b_z_looked {K : PySem.W.Frag} {c : Pc} {vs : List V} {H : Hp} {Q : VK} {E : XK} {α : Prop} (PM : PM K c) (PB : α) (h : sp_z_looked K c vs H Q E) : t_z_looked K c (en0 Q) (st0 4 vs) H := def_ok (sn_z_looked PM PB) w_z_looked h
theorem LD.uniq {ds es : List Nat} {p q : Nat} (h1 : LD ds es p) (h2 : LD ds es q) : p = q := by
  rcases Nat.lt_trichotomy p q with h | h | h
  · rcases h2.differ with z | z
    · omega
    · exact absurd (h1.alike (q - 1) (by omega)) z
  · exact h
  · rcases h1.differ with z | z
    · omega
    · exact absurd (h2.alike (p - 1) (by omega)) z
/-- how far the digits of a sum are found: es, and what goes over -/
structure AddS (b : Nat) (xs ys es : List Nat) (c i : Nat) : Prop where
  len : es.length = i
  dig : Digs b es
  le : c ≤ 1
  eq : val b es + 2 ^ (b * i) * c = val b (xs.take i) + val b (ys.take i)
theorem AddS.zero (b : Nat) (xs ys : List Nat) : AddS b xs ys [] 0 0 := ⟨rfl, (fun _ z => nomatch z), Nat.zero_le _, by simp [val]⟩
theorem AddS.step {b : Nat} {xs ys es : List Nat} {c i : Nat} (h : AddS b xs ys es c i) (hx : Digs b xs) (hy : Digs b ys) : AddS b xs ys (es ++ [(c + xs.getD i 0 + ys.getD i 0) % 2 ^ b]) ((c + xs.getD i 0 + ys.getD i 0) / 2 ^ b) (i + 1) := by
  have h1 := hx.getD i
  have h2 := hy.getD i
  have hp := Nat.two_pow_pos b
  have hc := h.le
  refine ⟨by rw [List.length_append, h.len]; rfl, h.dig.snoc (Nat.mod_lt _ hp), ?_, ?_⟩
  · have : c + xs.getD i 0 + ys.getD i 0 < 2 * 2 ^ b := by omega
    have := Nat.div_lt_of_lt_mul (show c + xs.getD i 0 + ys.getD i 0 < 2 ^ b * 2 by omega)
    omega
  · rw [val_snoc, val_take, val_take, h.len]
    have e1 := h.eq
    have e2 := Nat.mod_add_div (c + xs.getD i 0 + ys.getD i 0) (2 ^ b)
    generalize (c + xs.getD i 0 + ys.getD i 0) % 2 ^ b = r at e2
    generalize (c + xs.getD i 0 + ys.getD i 0) / 2 ^ b = q at e2
    rw [Nat.mul_succ, Nat.pow_add, Nat.mul_assoc]
    have e3 : 2 ^ (b * i) * r + 2 ^ (b * i) * (2 ^ b * q) = 2 ^ (b * i) * c + 2 ^ (b * i) * xs.getD i 0 + 2 ^ (b * i) * ys.getD i 0 := by
      rw [← Nat.mul_add, e2, Nat.mul_add, Nat.mul_add]
    omega
def P_z_adding : PSp := fun ds w k => match ds with
  | [.mach i, da, db] => onM w i fun m => ∃ xs ys : List Nat, IsRow da xs ∧ IsRow db ys ∧ m.b ≠ 0 ∧ (Digs m.b xs ∧ Digs m.b ys) ∧ (xs.length < 2 ^ 22 ∧ ys.length < 2 ^ 22) ∧
    ∀ es : List Nat, Digs m.b es → val m.b es = val m.b xs + val m.b ys → es.length = (if val m.b xs + val m.b ys < 2 ^ (m.b * max xs.length ys.length) then max xs.length ys.length else max xs.length ys.length + 1) →
      k (.lst (dN es)) (w.put i ((m.ent "add" xs.length ys.length).cnt 1 (max xs.length ys.length : Nat)))
  | _ => False
def sp_z_adding (K : PySem.W.Frag) (c : Pc) : Sp := lif K c P_z_adding
theorem u_z_adding {K : PySem.W.Frag} {c : Pc} : SndP K c (sp_z_adding K c) P_z_adding := SndP.lif
/-- 0:machine 1:a 2:b 3:found 4:carry 5:place 6:digit -/
def t_z_adding (K : PySem.W.Frag) (c : Pc) : TS :=
  (tSeq (tDrop (tMeth c.CMachine "enter" (sp_Machine_enter K c) [] E0 (tVar 0) (tCons (tC (.str "add")) (tCons (tCB (rLen K) (tCons (tVar 1) tNil)) (tCons (tCB (rLen K) (tCons (tVar 2) tNil)) tNil)))))
  (tSeq (tIfS (tTest (tOp rLt (tCB (rLen K) (tCons (tVar 1) tNil)) (tCB (rLen K) (tCons (tVar 2) tNil)))) (tPar 1 2 (tCons (tVar 2) (tCons (tVar 1) tNil))) tNext)
  (tSeq (tPar 3 4 (tCons (tLst tNil) (tCons (tC (.int 0)) tNil)))
  (tSeq (tFor (iEnumA K (tCons (tVar 1) tNil)) (gTup K 2 (gCons (gName 5) (gCons (gName 6) gNil))) (tSeq (tAsg (tOp rAdd (tOp rAdd (tVar 4) (tVar 6)) (tIf (tTest (tOp rLt (tVar 5) (tCB (rLen K) (tCons (tVar 2) tNil)))) (tOp (rIxA K) (tVar 2) (tVar 5)) (tC (.int 0)))) (gName 4))
  (tSeq (tDrop (tBM K "list" rAppend (tVar 3) (tCons (tOp rMod (tVar 4) (tFld K (tVar 0) "base")) tNil)))
  (tAsg (tOp rShr (tVar 4) (tFld K (tVar 0) "width")) (gName 4)))))
  (tSeq (tDrop (tMeth c.CMachine "count" (sp_Machine_count K c) [] E0 (tVar 0) (tCons (tC (.str "sum")) (tCons (tCB (rLen K) (tCons (tVar 1) tNil)) tNil))))
  (tRet (tIf (tTest (tOp rGt (tVar 4) (tC (.int 0)))) (tOp rCat (tVar 3) (tLst (tCons (tVar 4) tNil))) (tVar 3))))))))
def b1_z_adding : PS :=
  (pSeq (pAsg (pOp qAdd (pOp qAdd (pVar 4) (pVar 6)) (pIf (pTest (pOp qLt (pVar 5) (pCB qLen (pCons (pVar 2) pNil)))) (pOp qIx (pVar 2) (pVar 5)) (pC (.int 0)))) 4)
  (pSeq (pAppend 3 (pOp qMod (pVar 4) (pBase (pVar 0))))
  (pAsg (pOp qShr (pVar 4) (pWidthM (pVar 0))) 4)))
def p_z_adding : PS :=
  (pSeq (pDrop (pMethM P_Machine_enter (pVar 0) (pCons (pC (.str "add")) (pCons (pCB qLen (pCons (pVar 1) pNil)) (pCons (pCB qLen (pCons (pVar 2) pNil)) pNil)))))
  (pSeq (pIfS (pTest (pOp qLt (pCB qLen (pCons (pVar 1) pNil)) (pCB qLen (pCons (pVar 2) pNil)))) (pPar [1, 2] (pCons (pVar 2) (pCons (pVar 1) pNil))) pNext)
  (pSeq (pParO 3 [4] (pLst pNil) (pCons (pC (.int 0)) pNil))
  (pSeq (pFor (pIEnum (pVar 1)) (pgTup [5, 6]) b1_z_adding)
  (pSeq (pDrop (pMethM P_Machine_count (pVar 0) (pCons (pC (.str "sum")) (pCons (pCB qLen (pCons (pVar 1) pNil)) pNil))))
  (pFrz [3] (pRet (pIf (pTest (pOp qGt (pVar 4) (pC (.int 0)))) (pFz (pOpF qCat (pVar 3) (pFz (pLst (pCons (pVar 4) pNil))))) (pVar 3)))))))))
theorem sn_z_adding {K : PySem.W.Frag} {c : Pc} {α : Prop} (PM : PM K c) (PB : α) : SndS K c (t_z_adding K c) p_z_adding :=
  (snd_seq (snd_drop (snd_methM (by decide) u_Machine_enter snd_var (snd_cons (snd_str "add") (snd_cons (snd_cb s_len (snd_cons snd_var snd_nil)) (snd_cons (snd_cb s_len (snd_cons snd_var snd_nil)) snd_nil)))))
  (snd_seq (snd_ifS (snd_test (snd_op s_lt (snd_cb s_len (snd_cons snd_var snd_nil)) (snd_cb s_len (snd_cons snd_var snd_nil)))) (snd_par (snd_cons snd_var (snd_cons snd_var snd_nil))) snd_next)
  (snd_seq (snd_parO (snd_lst snd_nil) (snd_cons (snd_int 0) snd_nil))
  (snd_seq (snd_for (snd_iEnumA snd_var) (snd_gTup (is := [5, 6]) rfl) (snd_seq (snd_asg (snd_op s_add (snd_op s_add snd_var snd_var) (snd_if (snd_test (snd_op s_lt snd_var (snd_cb s_len (snd_cons snd_var snd_nil)))) (snd_op s_ixA snd_var snd_var) (snd_int 0))))
  (snd_seq (snd_append (snd_op s_mod snd_var (snd_base PM snd_var)))
  (snd_asg (snd_op s_shr snd_var (snd_widthM PM snd_var))))))
  (snd_seq (snd_drop (snd_methM (by decide) u_Machine_count snd_var (snd_cons (snd_str "sum") (snd_cons (snd_cb s_len (snd_cons snd_var snd_nil)) snd_nil))))
  (snd_frz (snd_ret (snd_if (snd_test (snd_op s_gt snd_var (snd_int 0))) (snd_fz (snd_opF s_cat snd_var (snd_fz (snd_lst (snd_cons snd_var snd_nil))))) snd_var))))))))
theorem n_z_adding : ∀ ds w k, P_z_adding ds w k → ds.length = 3 := fun ds w k h => by
  unfold P_z_adding at h
  split at h
  · rfl
  · exact h.elim
theorem adding_loop {D : PEnds} {w : Wld} {i : Nat} {m : Mach} {dA dB : Dat} {A B : List Nat} {y5 y6 : Slot} (hm : w.ms[i]? = some m) (hb : m.b ≠ 0) (hA : Digs m.b A) (hB : Digs m.b B) (rB : IsRow dB B) (hl : A.length < 2 ^ 22)
    (hd : ∀ es c y5 y6, AddS m.b A B es c A.length → D.nx [.val (.mach i), .val dA, .val dB, .own true (dN es), .val (.int (c : Nat)), y5, y6] w) :
    lp (pgTup [5, 6]) b1_z_adding D (enm 0 (dN A)) [.val (.mach i), .val dA, .val dB, .own true [], .val (.int 0), y5, y6] w := by
  have hz := sizeLine_eq
  refine lp_ind (fun j e w' => w' = w ∧ ∃ es c y5 y6, AddS m.b A B es c j ∧ e = [.val (.mach i), .val dA, .val dB, .own true (dN es), .val (.int (c : Nat)), y5, y6]) ⟨rfl, [], 0, _, _, AddS.zero _ _ _, rfl⟩ ?_ ?_
  · rintro j d e w' nx hd' ⟨rfl, es, c, y5, y6, hS, rfl⟩ hn
    obtain ⟨hj, rfl⟩ := enm_dN hd'
    unfold b1_z_adding
    walk_at "pu"
    rw [rB.len]
    walk_at "pu"
    have hlen := hS.len
    have fin : ∀ v : Nat, v = B.getD j 0 → onM w' i fun m_1 => 0 < (2 : Int) ^ m_1.b ∧ (dN es).length < sizeLine ∧ onM w' i fun m_2 => 0 ≤ (m_2.b : Int) ∧ nx [.val (.mach i), .val dA, .val dB, .own true (dN es ++ [.int (((c : Int) + (A.getD j 0 : Nat) + (v : Nat)) % 2 ^ m_1.b)]), .val (.int (((c : Int) + (A.getD j 0 : Nat) + (v : Nat)) / 2 ^ ((m_2.b : Int)).toNat)), .val (.int (j : Int)), .val (.int (A.getD j 0 : Nat))] w' := fun v hv => by
      subst hv
      rw [onM_is hm, onM_is hm]
      have hpp : (0 : Int) < 2 ^ m.b := Int.pow_pos (by decide)
      refine ⟨hpp, by rw [dN_len]; omega, by omega, hn _ _ ⟨rfl, _, _, .val (.int (j : Int)), .val (.int (A.getD j 0 : Nat)), hS.step hA hB, ?_⟩⟩
      have e1 : ((2 : Int) ^ m.b) = ((2 ^ m.b : Nat) : Int) := by rw [Int.natCast_pow]; rfl
      rw [Int.toNat_natCast, e1, ← Int.natCast_add, ← Int.natCast_add, ← Int.natCast_emod, ← Int.natCast_ediv, dN_one, dN_app]
    refine ite_2 (fun h1 => ?_) fun h1 => ?_
    · rw [rB.ix (by omega)]
      exact fin _ rfl
    · have := fin 0 (by rw [List.getD_eq_getElem?_getD, List.getElem?_eq_none_iff.mpr (by omega)]; rfl)
      exact this
  · rintro e w' ⟨rfl, es, c, y5, y6, hS, rfl⟩
    rw [enm_len, dN_len] at hS
    exact hd es c y5 y6 hS
theorem add_end {b : Nat} {A B es : List Nat} {c : Nat} (h : AddS b A B es c A.length) (hle : B.length ≤ A.length) : val b es + 2 ^ (b * A.length) * c = val b A + val b B := by
  have := h.eq
  rwa [List.take_length, List.take_of_length_le hle] at this
theorem w_z_adding : ∀ ds w k, P_z_adding ds w k → p_z_adding (pen k) (env0 7 ds) w := by
  intro ds w k h
  unfold P_z_adding at h
  split at h
  · rename_i i da db
    obtain ⟨m, hm, xs, ys, hx, hy, hb, ⟨d1, d2⟩, ⟨l1, l2⟩, h⟩ := onM_of h
    have hz := sizeLine_eq
    unfold p_z_adding
    walk_at "pu"
    simp only [hx.len, hy.len, onM_is hm, eLt, eIsB, decide_eq_true_eq, e_enter]
    -- the longer one A, the shorter one B
    have main : ∀ (A B : List Nat) (dA dB : Dat) (y5 y6 : Slot), IsRow dA A → IsRow dB B → Digs m.b A → Digs m.b B → A.length < 2 ^ 22 → B.length ≤ A.length → max xs.length ys.length = A.length → val m.b A + val m.b B = val m.b xs + val m.b ys →
        0 ≤ sizeLine ∧ seqOf dA fun l => lp (pgTup [5, 6]) b1_z_adding ⟨fun e w => pMethM P_Machine_count (pVar 0) (pCons (pC (.str "sum")) (pCons (pCB qLen (pCons (pVar 1) pNil)) pNil)) e w fun _ e w => pFrz [3] (pRet (pIf (pTest (pOp qGt (pVar 4) (pC (.int 0)))) (pFz (pOpF qCat (pVar 3) (pFz (pLst (pCons (pVar 4) pNil))))) (pVar 3))) (pen k) e w, fun d _ w => k d w, fun _ _ => False, fun _ _ => False⟩ (enm 0 l) [.val (.mach i), .val dA, .val dB, .own true [], .val (.int 0), y5, y6] (w.put i (m.ent "add" xs.length ys.length)) := by
      intro A B dA dB y5 y6 rA rB dA' dB' lA le hmax hval
      refine ⟨by omega, ?_⟩
      rw [rA.seq]
      refine adding_loop (m := m.ent "add" xs.length ys.length) (put_at hm) hb dA' dB' rB lA fun es c y5 y6 hS => ?_
      walk_at "pu"
      rw [rA.len]
      walk_at "pu"
      rw [onM_put hm, put_put]
      have he := add_end hS le
      have hv := val_lt hS.dig
      rw [hS.len] at hv
      have hp := Nat.two_pow_pos (m.b * A.length)
      have hc := hS.le
      have hbA : (m.ent "add" xs.length ys.length).b = m.b := rfl
      rw [hbA] at he hv
      have hlen := hS.len
      refine ite_2 (fun h1 => ?_) fun h1 => ?_
      · have hc1 : c = 1 := by omega
        subst hc1
        refine ⟨by omega, by rw [dN_len]; omega, ?_⟩
        have := h (es ++ [1]) (hS.dig.snoc (Nat.one_lt_two_pow hb)) (by rw [val_snoc, hS.len]; omega) (by rw [hmax, if_neg (by omega), List.length_append, hS.len]; rfl)
        rw [hmax] at this
        rw [show (((1 : Nat) : Nat) : Int) = ((1 : Nat) : Int) from rfl, dN_one, dN_app]
        exact this
      · have hc0 : c = 0 := by omega
        subst hc0
        have := h es hS.dig (by omega) (by rw [hmax, if_pos (by omega), hS.len])
        rw [hmax] at this
        exact this
    refine ite_2 (fun h1 => ?_) fun h1 => ?_
    · exact main ys xs db da _ _ hy hx d2 d1 l2 (by omega) (by omega) (Nat.add_comm _ _)
    · exact main xs ys da db _ _ hx hy d1 d2 l1 (by omega) (by omega) rfl
  · exact h.elim
theorem b_z_adding {K : PySem.W.Frag} {c : Pc} {vs : List V} {H : Hp} {Q : VK} {E : XK} {α : Prop} (PM : PM K c) (PB : α) (h : sp_z_adding K c vs H Q E) : t_z_adding K c (en0 Q) (st0 7 vs) H := def_ok (sn_z_adding PM PB) w_z_adding h
structure SubS (b : Nat) (xs ys es : List Nat) (c i : Nat) : Prop where
  len : es.length = i
  dig : Digs b es
  le : c ≤ 1
  eq : val b es + val b (ys.take i) = val b (xs.take i) + 2 ^ (b * i) * c
theorem SubS.zero (b : Nat) (xs ys : List Nat) : SubS b xs ys [] 0 0 := ⟨rfl, (fun _ z => nomatch z), Nat.zero_le _, by simp [val]⟩
theorem SubS.step {b : Nat} {xs ys es : List Nat} {c i : Nat} {z : Int} (h : SubS b xs ys es c i) (hx : Digs b xs) (hy : Digs b ys) (hz : z = (xs.getD i 0 : Nat) - (ys.getD i 0 : Nat) - (c : Nat)) :
    ∃ r : Nat, z % ((2 ^ b : Nat) : Int) = (r : Int) ∧ SubS b xs ys (es ++ [r]) (if z < 0 then 1 else 0) (i + 1) := by
  have h1 := hx.getD i
  have h2 := hy.getD i
  have hp := Nat.two_pow_pos b
  have hc := h.le
  have m0 : 0 ≤ z % ((2 ^ b : Nat) : Int) := Int.emod_nonneg _ (by omega)
  have m1 : z % ((2 ^ b : Nat) : Int) < ((2 ^ b : Nat) : Int) := Int.emod_lt_of_pos _ (by omega)
  have m2 : z % ((2 ^ b : Nat) : Int) = z + (if z < 0 then ((2 ^ b : Nat) : Int) else 0) := by
    by_cases hz0 : z < 0
    · rw [if_pos hz0]
      have : z % ((2 ^ b : Nat) : Int) = (z + ((2 ^ b : Nat) : Int)) % ((2 ^ b : Nat) : Int) := by rw [Int.add_emod_right]
      rw [this]
      exact Int.emod_eq_of_lt (by omega) (by omega)
    · rw [if_neg hz0, Int.add_zero]
      exact Int.emod_eq_of_lt (by omega) (by omega)
  refine ⟨(z % ((2 ^ b : Nat) : Int)).toNat, by omega, ⟨by rw [List.length_append, h.len]; rfl, h.dig.snoc (by omega), by split <;> omega, ?_⟩⟩
  rw [val_snoc, val_take, val_take, h.len]
  have e1 := h.eq
  have e2 : (z % ((2 ^ b : Nat) : Int)).toNat + ys.getD i 0 + c = xs.getD i 0 + 2 ^ b * (if z < 0 then 1 else 0) := by
    by_cases hz0 : z < 0
    · rw [if_pos hz0] at m2 ⊢; omega
    · rw [if_neg hz0] at m2 ⊢; omega
  generalize (z % ((2 ^ b : Nat) : Int)).toNat = r at e2
  generalize (if z < 0 then 1 else 0) = q at e2
  rw [Nat.mul_succ, Nat.pow_add, Nat.mul_assoc]
  have e3 : 2 ^ (b * i) * r + 2 ^ (b * i) * ys.getD i 0 + 2 ^ (b * i) * c = 2 ^ (b * i) * xs.getD i 0 + 2 ^ (b * i) * (2 ^ b * q) := by
    rw [← Nat.mul_add, ← Nat.mul_add, e2, Nat.mul_add]
  omega
theorem cast_ite {p : Prop} [Decidable p] : (((if p then 1 else 0 : Nat)) : Int) = if p then 1 else 0 := by split <;> rfl
/-- what taking counts -/
def takeM (m : Mach) (xs ys : List Nat) (p : Nat) : Mach :=
  if xs.length = ys.length then
    (if p = 0 then (m.ent "take" xs.length ys.length).cnt 9 ((xs.length : Int) - (if p = 0 then 0 else (p : Int) - 1))
     else ((m.ent "take" xs.length ys.length).cnt 9 ((xs.length : Int) - (if p = 0 then 0 else (p : Int) - 1))).cnt 1 (p : Int))
  else (m.ent "take" xs.length ys.length).cnt 1 (max xs.length ys.length : Nat)
def P_z_taking : PSp := fun ds w k => match ds with
  | [.mach i, .tup l, .tup l'] => onM w i fun m => ∃ xs ys : List Nat, l = dN xs ∧ l' = dN ys ∧ m.b ≠ 0 ∧ (Digs m.b xs ∧ Digs m.b ys) ∧ (Norm xs ∧ Norm ys) ∧ (xs.length < 2 ^ 22 ∧ ys.length < 2 ^ 22) ∧
    ∀ (s : Int) (es : List Nat) (p : Nat), (xs.length = ys.length → LD xs ys p) → Digs m.b es → s * (val m.b es : Nat) = (val m.b xs : Int) - (val m.b ys : Nat) → (s = 1 ∨ s = -1 ∨ (s = 0 ∧ es = [])) → es.length ≤ max xs.length ys.length →
      k (.tup [.int s, .lst (dN es)]) (w.put i (takeM m xs ys p))
  | _ => False
def sp_z_taking (K : PySem.W.Frag) (c : Pc) : Sp := lif K c P_z_taking
theorem u_z_taking {K : PySem.W.Frag} {c : Pc} : SndP K c (sp_z_taking K c) P_z_taking := SndP.lif
/-- 0:machine 1:a 2:b 3:side 4:place 5:found 6:borrow 7:digit -/
def t_z_taking (K : PySem.W.Frag) (c : Pc) : TS :=
  (tSeq (tDrop (tMeth c.CMachine "enter" (sp_Machine_enter K c) [] E0 (tVar 0) (tCons (tC (.str "take")) (tCons (tCB (rLen K) (tCons (tVar 1) tNil)) (tCons (tCB (rLen K) (tCons (tVar 2) tNil)) tNil)))))
  (tSeq (tAsg (tC (.int 1)) (gName 3))
  (tSeq (tIfS (tTest (tOp rLt (tCB (rLen K) (tCons (tVar 1) tNil)) (tCB (rLen K) (tCons (tVar 2) tNil)))) (tPar3 1 2 3 (tCons (tVar 2) (tCons (tVar 1) (tCons (tUn rNeg (tC (.int 1))) tNil)))) (tIfS (tTest (tOp rEq (tCB (rLen K) (tCons (tVar 1) tNil)) (tCB (rLen K) (tCons (tVar 2) tNil)))) (tSeq (tAsg (tCall (sp_z_looked K c) [] E0 (tCons (tVar 0) (tCons (tVar 1) (tCons (tVar 2) tNil)))) (gName 4))
  (tSeq (tIfS (tTest (tOp rLt (tVar 4) (tC (.int 0)))) (tRet (tTup (tCons (tC (.int 0)) (tCons (tLst tNil) tNil)))) tNext)
  (tSeq (tPar 1 2 (tCons (tSl (rSlA K) (tVar 1) tNoPart (tPart (tOp rAdd (tVar 4) (tC (.int 1))))) (tCons (tSl (rSlA K) (tVar 2) tNoPart (tPart (tOp rAdd (tVar 4) (tC (.int 1))))) tNil)))
  (tIfS (tTest (tOp rLt (tOp (rIxT K) (tVar 1) (tVar 4)) (tOp (rIxT K) (tVar 2) (tVar 4)))) (tPar3 1 2 3 (tCons (tVar 2) (tCons (tVar 1) (tCons (tUn rNeg (tC (.int 1))) tNil)))) tNext)))) tNext))
  (tSeq (tPar 5 6 (tCons (tLst tNil) (tCons (tC (.int 0)) tNil)))
  (tSeq (tFor (iEnumA K (tCons (tVar 1) tNil)) (gTup K 2 (gCons (gName 4) (gCons (gName 7) gNil))) (tSeq (tAsg (tOp rSub (tOp rSub (tVar 7) (tIf (tTest (tOp rLt (tVar 4) (tCB (rLen K) (tCons (tVar 2) tNil)))) (tOp (rIxT K) (tVar 2) (tVar 4)) (tC (.int 0)))) (tVar 6)) (gName 6))
  (tSeq (tDrop (tBM K "list" rAppend (tVar 5) (tCons (tOp rMod (tVar 6) (tFld K (tVar 0) "base")) tNil)))
  (tAsg (tCB rInt (tCons (tOp rLt (tVar 6) (tC (.int 0))) tNil)) (gName 6)))))
  (tSeq (tDrop (tMeth c.CMachine "count" (sp_Machine_count K c) [] E0 (tVar 0) (tCons (tC (.str "sum")) (tCons (tCB (rLen K) (tCons (tVar 1) tNil)) tNil))))
  (tRet (tTup (tCons (tVar 3) (tCons (tVar 5) tNil))))))))))
def b1_z_taking : PS :=
  (pSeq (pAsg (pOp qSub (pOp qSub (pVar 7) (pIf (pTest (pOp qLt (pVar 4) (pCB qLen (pCons (pVar 2) pNil)))) (pOp qIxT (pVar 2) (pVar 4)) (pC (.int 0)))) (pVar 6)) 6)
  (pSeq (pAppend 5 (pOp qMod (pVar 6) (pBase (pVar 0))))
  (pAsg (pCB qInt (pCons (pOp qLt (pVar 6) (pC (.int 0))) pNil)) 6)))
def p_z_taking : PS :=
  (pSeq (pDrop (pMethM P_Machine_enter (pVar 0) (pCons (pC (.str "take")) (pCons (pCB qLen (pCons (pVar 1) pNil)) (pCons (pCB qLen (pCons (pVar 2) pNil)) pNil)))))
  (pSeq (pAsg (pC (.int 1)) 3)
  (pSeq (pIfS (pTest (pOp qLt (pCB qLen (pCons (pVar 1) pNil)) (pCB qLen (pCons (pVar 2) pNil)))) (pPar [1, 2, 3] (pCons (pVar 2) (pCons (pVar 1) (pCons (pUn qNeg (pC (.int 1))) pNil)))) (pIfS (pTest (pOp qEq (pCB qLen (pCons (pVar 1) pNil)) (pCB qLen (pCons (pVar 2) pNil)))) (pSeq (pAsg (pCall P_z_looked (pCons (pVar 0) (pCons (pVar 1) (pCons (pVar 2) pNil)))) 4)
  (pSeq (pIfS (pTest (pOp qLt (pVar 4) (pC (.int 0)))) (pRet (pTup (pCons (pC (.int 0)) (pCons (pFz (pLst pNil)) pNil)))) pNext)
  (pSeq (pPar [1, 2] (pCons (pSlT (pVar 1) pNoPart (pPart (pOp qAdd (pVar 4) (pC (.int 1))))) (pCons (pSlT (pVar 2) pNoPart (pPart (pOp qAdd (pVar 4) (pC (.int 1))))) pNil)))
  (pIfS (pTest (pOp qLt (pOp qIxT (pVar 1) (pVar 4)) (pOp qIxT (pVar 2) (pVar 4)))) (pPar [1, 2, 3] (pCons (pVar 2) (pCons (pVar 1) (pCons (pUn qNeg (pC (.int 1))) pNil)))) pNext)))) pNext))
  (pSeq (pParO 5 [6] (pLst pNil) (pCons (pC (.int 0)) pNil))
  (pSeq (pFor (pIEnum (pVar 1)) (pgTup [4, 7]) b1_z_taking)
  (pSeq (pDrop (pMethM P_Machine_count (pVar 0) (pCons (pC (.str "sum")) (pCons (pCB qLen (pCons (pVar 1) pNil)) pNil))))
  (pFrz [5] (pRet (pTup (pCons (pVar 3) (pCons (pVar 5) pNil)))))))))))
theorem sn_z_taking {K : PySem.W.Frag} {c : Pc} {α : Prop} (PM : PM K c) (PB : α) : SndS K c (t_z_taking K c) p_z_taking :=
  (snd_seq (snd_drop (snd_methM (by decide) u_Machine_enter snd_var (snd_cons (snd_str "take") (snd_cons (snd_cb s_len (snd_cons snd_var snd_nil)) (snd_cons (snd_cb s_len (snd_cons snd_var snd_nil)) snd_nil)))))
  (snd_seq (snd_asg (snd_int 1))
  (snd_seq (snd_ifS (snd_test (snd_op s_lt (snd_cb s_len (snd_cons snd_var snd_nil)) (snd_cb s_len (snd_cons snd_var snd_nil)))) (snd_par3 (snd_cons snd_var (snd_cons snd_var (snd_cons (snd_neg (snd_int 1)) snd_nil)))) (snd_ifS (snd_test (snd_op s_eq (snd_cb s_len (snd_cons snd_var snd_nil)) (snd_cb s_len (snd_cons snd_var snd_nil)))) (snd_seq (snd_asg (snd_call u_z_looked (snd_cons snd_var (snd_cons snd_var (snd_cons snd_var snd_nil)))))
  (snd_seq (snd_ifS (snd_test (snd_op s_lt snd_var (snd_int 0))) (snd_ret (snd_tup (snd_cons (snd_int 0) (snd_cons (snd_fz (snd_lst snd_nil)) snd_nil)))) snd_next)
  (snd_seq (snd_par (snd_cons (snd_slT snd_var snd_noPart (snd_part (snd_op s_add snd_var (snd_int 1)))) (snd_cons (snd_slT snd_var snd_noPart (snd_part (snd_op s_add snd_var (snd_int 1)))) snd_nil)))
  (snd_ifS (snd_test (snd_op s_lt (snd_op s_ixT snd_var snd_var) (snd_op s_ixT snd_var snd_var))) (snd_par3 (snd_cons snd_var (snd_cons snd_var (snd_cons (snd_neg (snd_int 1)) snd_nil)))) snd_next)))) snd_next))
  (snd_seq (snd_parO (snd_lst snd_nil) (snd_cons (snd_int 0) snd_nil))
  (snd_seq (snd_for (snd_iEnumA snd_var) (snd_gTup (is := [4, 7]) rfl) (snd_seq (snd_asg (snd_op s_sub (snd_op s_sub snd_var (snd_if (snd_test (snd_op s_lt snd_var (snd_cb s_len (snd_cons snd_var snd_nil)))) (snd_op s_ixT snd_var snd_var) (snd_int 0))) snd_var))
  (snd_seq (snd_append (snd_op s_mod snd_var (snd_base PM snd_var)))
  (snd_asg (snd_cb s_int (snd_cons (snd_op s_lt snd_var (snd_int 0)) snd_nil))))))
  (snd_seq (snd_drop (snd_methM (by decide) u_Machine_count snd_var (snd_cons (snd_str "sum") (snd_cons (snd_cb s_len (snd_cons snd_var snd_nil)) snd_nil))))
  (snd_frz (snd_ret (snd_tup (snd_cons snd_var (snd_cons snd_var snd_nil)))))))))))
theorem n_z_taking : ∀ ds w k, P_z_taking ds w k → ds.length = 3 := fun ds w k h => by
  unfold P_z_taking at h
  split at h
  · rfl
  · exact h.elim
theorem taking_loop {D : PEnds} {w : Wld} {i : Nat} {m : Mach} {A B : List Nat} {s : Slot} {y4 y7 : Slot} (hm : w.ms[i]? = some m) (hb : m.b ≠ 0) (hA : Digs m.b A) (hB : Digs m.b B) (hl : A.length < 2 ^ 22)
    (hd : ∀ es c y4 y7, SubS m.b A B es c A.length → D.nx [.val (.mach i), .val (.tup (dN A)), .val (.tup (dN B)), s, y4, .own true (dN es), .val (.int (c : Nat)), y7] w) :
    lp (pgTup [4, 7]) b1_z_taking D (enm 0 (dN A)) [.val (.mach i), .val (.tup (dN A)), .val (.tup (dN B)), s, y4, .own true [], .val (.int 0), y7] w := by
  have hz := sizeLine_eq
  refine lp_ind (fun j e w' => w' = w ∧ ∃ es c y4 y7, SubS m.b A B es c j ∧ e = [.val (.mach i), .val (.tup (dN A)), .val (.tup (dN B)), s, y4, .own true (dN es), .val (.int (c : Nat)), y7]) ⟨rfl, [], 0, _, _, SubS.zero _ _ _, rfl⟩ ?_ ?_
  · rintro j d e w' nx hd' ⟨rfl, es, c, y4, y7, hS, rfl⟩ hn
    obtain ⟨hj, rfl⟩ := enm_dN hd'
    unfold b1_z_taking
    walk_at "pu"
    have hlen := hS.len
    have e1 : ((2 : Int) ^ m.b) = ((2 ^ m.b : Nat) : Int) := by rw [Int.natCast_pow]; rfl
    have hp := Nat.two_pow_pos m.b
    rw [dN_len]
    simp only [onM_is hm, e1]
    refine ite_2 (fun h1 => ?_) fun h1 => ?_
    · have g : B[j]? = some (B[j]'(by omega)) := List.getElem?_eq_getElem _
      have e2 : B.getD j 0 = B[j]'(by omega) := by rw [List.getD_eq_getElem?_getD, g]; rfl
      rw [dN_at rfl g, ← e2]
      walk_at "pu"
      obtain ⟨r, e3, st⟩ := hS.step (z := ((A.getD j 0 : Nat) : Int) - (B.getD j 0 : Nat) - (c : Nat)) hA hB rfl
      refine ⟨by omega, by rw [dN_len]; omega, hn _ _ ⟨rfl, _, _, .val (.int (j : Int)), .val (.int (A.getD j 0 : Nat)), st, ?_⟩⟩
      rw [e3, dN_one, dN_app, cast_ite]
    · have e2 : B.getD j 0 = 0 := by rw [List.getD_eq_getElem?_getD, List.getElem?_eq_none_iff.mpr (by omega)]; rfl
      obtain ⟨r, e3, st⟩ := hS.step (z := ((A.getD j 0 : Nat) : Int) - 0 - (c : Nat)) hA hB (by rw [e2]; rfl)
      refine ⟨by omega, by rw [dN_len]; omega, hn _ _ ⟨rfl, _, _, .val (.int (j : Int)), .val (.int (A.getD j 0 : Nat)), st, ?_⟩⟩
      rw [e3, dN_one, dN_app, cast_ite]
  · rintro e w' ⟨rfl, es, c, y4, y7, hS, rfl⟩
    rw [enm_len, dN_len] at hS
    exact hd es c y4 y7 hS
theorem sub_end {b : Nat} {A B es : List Nat} {c : Nat} (h : SubS b A B es c A.length) (hle : B.length ≤ A.length) (hv : val b B ≤ val b A) : c = 0 ∧ val b es + val b B = val b A := by
  have he := h.eq
  rw [List.take_length, List.take_of_length_le hle] at he
  have hlt := val_lt h.dig
  rw [h.len] at hlt
  have hc := h.le
  have hp := Nat.two_pow_pos (b * A.length)
  have hc0 : c = 0 := by
    rcases Nat.eq_zero_or_pos c with z | z
    · exact z
    · have : c = 1 := by omega
      subst this
      omega
  subst hc0
  exact ⟨rfl, by omega⟩
theorem norm_lt {b : Nat} {xs ys : List Nat} (hb : b ≠ 0) (h1 : Digs b xs) (h2 : Digs b ys) (n1 : Norm xs) (n2 : Norm ys) (h : xs.length < ys.length) : val b xs < val b ys := by
  have e1 := digs_val hb h1 n1
  have e2 := digs_val hb h2 n2
  exact len_lt hb (by rw [e1, e2]; exact h)
theorem cut_dN {xs : List Nat} {p : Nat} (h : p ≤ xs.length) : cutD (dN xs) none (some (p : Int)) = dN (xs.take p) := by
  unfold cutD dN
  simp only [List.length_map, HT.sIx]
  rw [if_neg (by omega)]
  simp only [List.drop_zero, Nat.sub_zero, List.map_take]
  congr 1
  omega
theorem w_z_taking : ∀ ds w k, P_z_taking ds w k → p_z_taking (pen k) (env0 8 ds) w := by
  intro ds w k h
  unfold P_z_taking at h
  split at h
  · rename_i i l l'
    obtain ⟨m, hm, xs, ys, rfl, rfl, hb, ⟨d1, d2⟩, ⟨n1, n2⟩, ⟨l1, l2⟩, h⟩ := onM_of h
    have hz := sizeLine_eq
    unfold p_z_taking
    walk_at "pu"
    simp only [dN_len, onM_is hm]
    have main : ∀ (A B : List Nat) (s : Int) (W : Wld) (M : Mach) (y4 y7 : Slot), W.ms[i]? = some M → M.b = m.b → Digs m.b A → Digs m.b B → A.length < 2 ^ 22 → B.length ≤ A.length → val m.b B ≤ val m.b A →
        (∀ es, Digs m.b es → val m.b es + val m.b B = val m.b A → es.length = A.length → k (.tup [.int s, .lst (dN es)]) (W.put i (M.cnt 1 (A.length : Nat)))) →
        0 ≤ sizeLine ∧ lp (pgTup [4, 7]) b1_z_taking ⟨pSeq (pDrop (pMethM P_Machine_count (pVar 0) (pCons (pC (.str "sum")) (pCons (pCB qLen (pCons (pVar 1) pNil)) pNil)))) (pFrz [5] (pRet (pTup (pCons (pVar 3) (pCons (pVar 5) pNil))))) (pen k), fun d _ w => k d w, fun _ _ => False, fun _ _ => False⟩
          (enm 0 (dN A)) [.val (.mach i), .val (.tup (dN A)), .val (.tup (dN B)), .val (.int s), y4, .own true [], .val (.int 0), y7] W := by
      intro A B s W M y4 y7 hM hMb dA dB lA hle hv hk
      refine ⟨by omega, taking_loop (m := M) hM (by rw [hMb]; exact hb) (by rw [hMb]; exact dA) (by rw [hMb]; exact dB) lA fun es c y4 y7 hS => ?_⟩
      rw [hMb] at hS
      obtain ⟨hc, he⟩ := sub_end hS hle hv
      walk_at "pu"
      rw [onM_is hM, dN_len]
      exact ⟨by omega, hk es hS.dig he hS.len⟩
    refine ite_2 (fun h1 => ?_) fun h1 => ite_2 (fun h2 => ?_) fun h2 => ?_
    · refine main ys xs (-1) _ _ _ _ (put_at hm) rfl d2 d1 l2 (by omega) (Nat.le_of_lt (norm_lt hb d1 d2 n1 n2 (by omega))) fun es h3 h4 h5 => ?_
      have := h (-1) es 0 (fun z => by omega) h3 (by omega) (.inr (.inl rfl)) (by omega)
      unfold takeM at this
      rw [if_neg (by omega), show max xs.length ys.length = ys.length by omega] at this
      rw [put_put]; exact this
    · have hlen : xs.length = ys.length := by omega
      rw [e_z_looked, onM_put hm]
      refine ⟨xs, ys, rfl, rfl, hlen, fun p hp => ?_⟩
      rw [put_put]
      walk_at "pu"
      refine ite_2 (fun h3 => ?_) fun h3 => ?_
      · have hp0 : p = 0 := by omega
        subst hp0
        have := h 0 [] 0 (fun _ => hp) (fun _ z => nomatch z) (by rw [hp.zero]; omega) (.inr (.inr ⟨rfl, rfl⟩)) (Nat.zero_le _)
        unfold takeM at this
        rw [if_pos hlen, if_pos rfl] at this
        exact ⟨by omega, by omega, this⟩
      · obtain ⟨p', rfl⟩ : ∃ p', p = p' + 1 := ⟨p - 1, by omega⟩
        have hle := hp.le
        have ep : (((p' + 1 : Nat) : Int) - 1 + 1) = ((p' + 1 : Nat) : Int) := by omega
        have g1 : xs[p']? = some (xs[p']'(by omega)) := List.getElem?_eq_getElem _
        have g2 : ys[p']? = some (ys[p']'(by omega)) := List.getElem?_eq_getElem _
        have t1 : (xs.take (p' + 1))[p']? = some (xs[p']'(by omega)) := by rw [List.getElem?_take_of_lt (Nat.lt_succ_self _)]; exact g1
        have t2 : (ys.take (p' + 1))[p']? = some (ys[p']'(by omega)) := by rw [List.getElem?_take_of_lt (Nat.lt_succ_self _)]; exact g2
        rw [ep, cut_dN (by omega), cut_dN (by omega), dN_at (n := p') (by omega) t1, dN_at (n := p') (by omega) t2]
        walk_at "pu"
        have D1 : Digs m.b (xs.take (p' + 1)) := fun d hd => d1 d (List.mem_of_mem_take hd)
        have D2 : Digs m.b (ys.take (p' + 1)) := fun d hd => d2 d (List.mem_of_mem_take hd)
        have L1 : (xs.take (p' + 1)).length = p' + 1 := by rw [List.length_take]; omega
        have L2 : (ys.take (p' + 1)).length = p' + 1 := by rw [List.length_take]; omega
        have dr : (xs.take (p' + 1)).drop (p' + 1) = (ys.take (p' + 1)).drop (p' + 1) := by
          rw [List.drop_of_length_le (by omega), List.drop_of_length_le (by omega)]
        have V1 : val m.b xs = val m.b (xs.take (p' + 1)) + 2 ^ (m.b * (p' + 1)) * val m.b (xs.drop (p' + 1)) := by
          conv => lhs; rw [← List.take_append_drop (p' + 1) xs]
          rw [val_app, L1]
        have V2 : val m.b ys = val m.b (ys.take (p' + 1)) + 2 ^ (m.b * (p' + 1)) * val m.b (ys.drop (p' + 1)) := by
          conv => lhs; rw [← List.take_append_drop (p' + 1) ys]
          rw [val_app, L2]
        rw [← hp.drop] at V2
        have hdiff : xs[p']'(by omega) ≠ ys[p']'(by omega) := fun z => by
          rcases hp.differ with q | q
          · omega
          · apply q
            rw [Nat.add_sub_cancel, g1, g2, z]
        refine ite_2 (fun h4 => ?_) fun h4 => ?_
        · refine main _ _ (-1) _ _ _ _ (put_at hm) rfl D2 D1 (by omega) (by omega) (Nat.le_of_lt (top_lt D1 t1 t2 dr (by omega))) fun es h5 h6 h7 => ?_
          have := h (-1) es (p' + 1) (fun _ => hp) h5 (by omega) (.inr (.inl rfl)) (by omega)
          unfold takeM at this
          rw [if_pos hlen, if_neg (by omega)] at this
          rw [put_put, L2]; exact this
        · refine main _ _ 1 _ _ _ _ (put_at hm) rfl D1 D2 (by omega) (by omega) (Nat.le_of_lt (top_lt D2 t2 t1 dr.symm (by omega))) fun es h5 h6 h7 => ?_
          have := h 1 es (p' + 1) (fun _ => hp) h5 (by omega) (.inl rfl) (by omega)
          unfold takeM at this
          rw [if_pos hlen, if_neg (by omega)] at this
          rw [put_put, L1]; exact this
    · refine main xs ys 1 _ _ _ _ (put_at hm) rfl d1 d2 l1 (by omega) (Nat.le_of_lt (norm_lt hb d2 d1 n2 n1 (by omega))) fun es h3 h4 h5 => ?_
      have := h 1 es 0 (fun z => by omega) h3 (by omega) (.inl rfl) (by omega)
      unfold takeM at this
      rw [if_neg (by omega), show max xs.length ys.length = xs.length by omega] at this
      rw [put_put]; exact this
  · exact h.elim
theorem b_z_taking {K : PySem.W.Frag} {c : Pc} {vs : List V} {H : Hp} {Q : VK} {E : XK} {α : Prop} (PM : PM K c) (PB : α) (h : sp_z_taking K c vs H Q E) : t_z_taking K c (en0 Q) (st0 8 vs) H := def_ok (sn_z_taking PM PB) w_z_taking h
theorem LD.symm {ds es : List Nat} {p : Nat} (h : LD ds es p) (hl : ds.length = es.length) : LD es ds p := ⟨by rw [← hl]; exact h.le, fun i hi => (h.alike i hi).symm, by
  rcases h.differ with z | z
  · exact .inl z
  · exact .inr fun q => z q.symm⟩
/-- what a sum (or a difference) counts -/
def sumM (m : Mach) (isSum : Bool) (n n' : Int) (p : Nat) : Mach :=
  if (digs m.b n.natAbs).length ≤ 1 ∧ (digs m.b n'.natAbs).length ≤ 1 then m.cnt 0 1
  else if (decide (n < 0) == decide (n' < 0)) = isSum then (m.ent "add" (digs m.b n.natAbs).length (digs m.b n'.natAbs).length).cnt 1 (max (digs m.b n.natAbs).length (digs m.b n'.natAbs).length : Nat)
  else if n < 0 then takeM m (digs m.b n'.natAbs) (digs m.b n.natAbs) p else takeM m (digs m.b n.natAbs) (digs m.b n'.natAbs) p
def P_sum (isSum : Bool) : PSp := fun ds w k => match ds with
  | [.mach i, .big b n, .big b' n'] => onM w i fun m => (m.b = b ∧ m.b = b') ∧ (bigL b n ∧ bigL b n') ∧ ∀ p, ((digs b n.natAbs).length = (digs b n'.natAbs).length → LD (digs b n.natAbs) (digs b n'.natAbs) p) → k (.big b (if isSum then n + n' else n - n')) (w.put i (sumM m isSum n n' p))
  | _ => False
theorem n_sum {isSum : Bool} : ∀ ds w k, P_sum isSum ds w k → ds.length = 3 := fun ds w k h => by
  unfold P_sum at h
  split at h
  · rfl
  · exact h.elim
theorem e_sum {isSum : Bool} {i b b' : Nat} {n n' : Int} {w : Wld} {k : Dat → Wld → Prop} : P_sum isSum [.mach i, .big b n, .big b' n'] w k = onM w i fun m => (m.b = b ∧ m.b = b') ∧ (bigL b n ∧ bigL b n') ∧ ∀ p, ((digs b n.natAbs).length = (digs b n'.natAbs).length → LD (digs b n.natAbs) (digs b n'.natAbs) p) → k (.big b (if isSum then n + n' else n - n')) (w.put i (sumM m isSum n n' p)) := rfl
theorem sgn_lt0 {n : Int} : sgn n < 0 ↔ n < 0 := by
  unfold sgn
  split
  · omega
  · split <;> omega
theorem e_z_adding {i : Nat} {da db : Dat} {w : Wld} {k : Dat → Wld → Prop} : P_z_adding [.mach i, da, db] w k = onM w i fun m => ∃ xs ys : List Nat, IsRow da xs ∧ IsRow db ys ∧ m.b ≠ 0 ∧ (Digs m.b xs ∧ Digs m.b ys) ∧ (xs.length < 2 ^ 22 ∧ ys.length < 2 ^ 22) ∧
    ∀ es : List Nat, Digs m.b es → val m.b es = val m.b xs + val m.b ys → es.length = (if val m.b xs + val m.b ys < 2 ^ (m.b * max xs.length ys.length) then max xs.length ys.length else max xs.length ys.length + 1) →
      k (.lst (dN es)) (w.put i ((m.ent "add" xs.length ys.length).cnt 1 (max xs.length ys.length : Nat))) := rfl
theorem e_z_taking {i : Nat} {l l' : List Dat} {w : Wld} {k : Dat → Wld → Prop} : P_z_taking [.mach i, .tup l, .tup l'] w k = onM w i fun m => ∃ xs ys : List Nat, l = dN xs ∧ l' = dN ys ∧ m.b ≠ 0 ∧ (Digs m.b xs ∧ Digs m.b ys) ∧ (Norm xs ∧ Norm ys) ∧ (xs.length < 2 ^ 22 ∧ ys.length < 2 ^ 22) ∧
    ∀ (s : Int) (es : List Nat) (p : Nat), (xs.length = ys.length → LD xs ys p) → Digs m.b es → s * (val m.b es : Nat) = (val m.b xs : Int) - (val m.b ys : Nat) → (s = 1 ∨ s = -1 ∨ (s = 0 ∧ es = [])) → es.length ≤ max xs.length ys.length →
      k (.tup [.int s, .lst (dN es)]) (w.put i (takeM m xs ys p)) := rfl
/-- adding two rows and making the Big -/
theorem do_add {i : Nat} {m : Mach} {w : Wld} {k : Dat → Wld → Prop} {n n' r s : Int} (hm : w.ms[i]? = some m) (L1 : bigL m.b n) (L2 : bigL m.b n') (hs : s = 1 ∨ s = -1) (hr : s * (((n.natAbs : Nat) : Int) + (n'.natAbs : Nat)) = r)
    (hk : k (.big m.b r) (w.put i ((m.ent "add" (digs m.b n.natAbs).length (digs m.b n'.natAbs).length).cnt 1 (max (digs m.b n.natAbs).length (digs m.b n'.natAbs).length : Nat)))) :
    P_z_adding [.mach i, .tup (dN (digs m.b n.natAbs)), .tup (dN (digs m.b n'.natAbs))] w fun d w => P_made [.mach i, .int s, d] w k := by
  rw [e_z_adding, onM_is hm]
  have hb := L1.1
  refine ⟨_, _, .inl rfl, .inl rfl, hb, ⟨digs_lt hb _, digs_lt hb _⟩, ⟨L1.2.2, L2.2.2⟩, fun es h1 h2 h3 => ?_⟩
  rw [e_made, onM_put hm]
  rw [val_digs hb, val_digs hb] at h2 h3
  refine ⟨es, rfl, hb, h1, ?_, ?_, ?_⟩
  · have l1 := L1.2.2
    have l2 := L2.2.2
    revert h3
    split <;> intro h3 <;> omega
  · rcases hs with z | z
    · exact .inl z
    · exact .inr (.inl z)
  · show k (.big m.b (s * ((val m.b es : Nat) : Int))) _
    rw [h2, Int.natCast_add, hr]; exact hk
/-- taking a row from another one and making the Big -/
theorem do_take {i : Nat} {m : Mach} {w : Wld} {k : Dat → Wld → Prop} {n n' r : Int} (hm : w.ms[i]? = some m) (L1 : bigL m.b n) (L2 : bigL m.b n') (hr : ((n.natAbs : Nat) : Int) - (n'.natAbs : Nat) = r)
    (hk : ∀ p, ((digs m.b n.natAbs).length = (digs m.b n'.natAbs).length → LD (digs m.b n.natAbs) (digs m.b n'.natAbs) p) → k (.big m.b r) (w.put i (takeM m (digs m.b n.natAbs) (digs m.b n'.natAbs) p))) :
    P_z_taking [.mach i, .tup (dN (digs m.b n.natAbs)), .tup (dN (digs m.b n'.natAbs))] w fun d w => ∃ (s : Int) (es : List Nat), d = .tup [.int s, .lst (dN es)] ∧ P_made [.mach i, .int s, .lst (dN es)] w k := by
  rw [e_z_taking, onM_is hm]
  have hb := L1.1
  refine ⟨_, _, rfl, rfl, hb, ⟨digs_lt hb _, digs_lt hb _⟩, ⟨digs_norm hb _, digs_norm hb _⟩, ⟨L1.2.2, L2.2.2⟩, fun s es p hp h1 h2 h3 h4 => ⟨s, es, rfl, ?_⟩⟩
  have hbt : (takeM m (digs m.b n.natAbs) (digs m.b n'.natAbs) p).b = m.b := by
    unfold takeM
    split
    · split <;> rfl
    · rfl
  rw [e_made, onM_put hm]
  rw [val_digs hb, val_digs hb] at h2
  refine ⟨es, rfl, by rw [hbt]; exact hb, by rw [hbt]; exact h1, ?_, ?_, ?_⟩
  · have l1 := L1.2.2
    have l2 := L2.2.2
    omega
  · rcases h3 with z | z | ⟨z, q⟩
    · exact .inl z
    · exact .inr (.inl z)
    · subst q; exact .inr (.inr ⟨z, rfl⟩)
  · rw [hbt, h2, hr]; exact hk p hp
def P_z_added : PSp := P_sum true
def sp_z_added (K : PySem.W.Frag) (c : Pc) : Sp := lif K c P_z_added
theorem u_z_added {K : PySem.W.Frag} {c : Pc} : SndP K c (sp_z_added K c) P_z_added := SndP.lif
/-- 0:machine 1:x 2:y 3:one 4:other 5:side 6:found -/
def t_z_added (K : PySem.W.Frag) (c : Pc) : TS :=
  (tSeq (tIfS (tAnd (L2.tB (tCall (sp_is_compact K c) [] E0 (tCons (tVar 1) tNil))) (L2.tB (tCall (sp_is_compact K c) [] E0 (tCons (tVar 2) tNil)))) (tSeq (tDrop (tMeth c.CMachine "count" (sp_Machine_count K c) [] E0 (tVar 0) (tCons (tC (.str "short")) (tCons (tC (.int 1)) tNil))))
  (tRet (tCall (sp_big_of K c) [] E0 (tCons (tVar 0) (tCons (tOp rAdd (tCall (sp_value_of K c) [] E0 (tCons (tVar 1) tNil)) (tCall (sp_value_of K c) [] E0 (tCons (tVar 2) tNil))) tNil))))) tNext)
  (tSeq (tIfS (tTest (tOp rEq (tOp rLt (tFld K (tVar 1) "side") (tC (.int 0))) (tOp rLt (tFld K (tVar 2) "side") (tC (.int 0))))) (tRet (tCall (sp_made K c) [] E0 (tCons (tVar 0) (tCons (tIf (tTest (tOp rLt (tFld K (tVar 1) "side") (tC (.int 0)))) (tUn rNeg (tC (.int 1))) (tC (.int 1))) (tCons (tCall (sp_z_adding K c) [] E0 (tCons (tVar 0) (tCons (tFld K (tVar 1) "row") (tCons (tFld K (tVar 2) "row") tNil)))) tNil))))) tNext)
  (tSeq (tAsg (tIf (tTest (tOp rLt (tFld K (tVar 1) "side") (tC (.int 0)))) (tTup (tCons (tVar 2) (tCons (tVar 1) tNil))) (tTup (tCons (tVar 1) (tCons (tVar 2) tNil)))) (gTup K 2 (gCons (gName 3) (gCons (gName 4) gNil))))
  (tSeq (tAsg (tCall (sp_z_taking K c) [] E0 (tCons (tVar 0) (tCons (tFld K (tVar 3) "row") (tCons (tFld K (tVar 4) "row") tNil)))) (gTup K 2 (gCons (gName 5) (gCons (gName 6) gNil))))
  (tRet (tCall (sp_made K c) [] E0 (tCons (tVar 0) (tCons (tVar 5) (tCons (tVar 6) tNil)))))))))
def p_z_added : PS :=
  (pSeq (pIfS (pAnd (pTest (pCall P_is_compact (pCons (pVar 1) pNil))) (pTest (pCall P_is_compact (pCons (pVar 2) pNil)))) (pSeq (pDrop (pMethM P_Machine_count (pVar 0) (pCons (pC (.str "short")) (pCons (pC (.int 1)) pNil))))
  (pRet (pCall P_big_of (pCons (pVar 0) (pCons (pOp qAdd (pCall P_value_of (pCons (pVar 1) pNil)) (pCall P_value_of (pCons (pVar 2) pNil))) pNil))))) pNext)
  (pSeq (pIfS (pTest (pOp qEq (pOp qLt (pSide (pVar 1)) (pC (.int 0))) (pOp qLt (pSide (pVar 2)) (pC (.int 0))))) (pRet (pCall P_made (pCons (pVar 0) (pCons (pIf (pTest (pOp qLt (pSide (pVar 1)) (pC (.int 0)))) (pUn qNeg (pC (.int 1))) (pC (.int 1))) (pCons (pCall P_z_adding (pCons (pVar 0) (pCons (pRow (pVar 1)) (pCons (pRow (pVar 2)) pNil)))) pNil))))) pNext)
  (pSeq (pAsgG (pIf (pTest (pOp qLt (pSide (pVar 1)) (pC (.int 0)))) (pTup (pCons (pVar 2) (pCons (pVar 1) pNil))) (pTup (pCons (pVar 1) (pCons (pVar 2) pNil)))) (pgTup [3, 4]))
  (pSeq (pAsgG (pCall P_z_taking (pCons (pVar 0) (pCons (pRow (pVar 3)) (pCons (pRow (pVar 4)) pNil)))) (pgTup [5, 6]))
  (pRet (pCall P_made (pCons (pVar 0) (pCons (pVar 5) (pCons (pVar 6) pNil)))))))))
theorem sn_z_added {K : PySem.W.Frag} {c : Pc} (PM : PM K c) (PB : PB K c) : SndS K c (t_z_added K c) p_z_added :=
  (snd_seq (snd_ifS (snd_and (snd_tB (snd_call u_is_compact (snd_cons snd_var snd_nil))) (snd_tB (snd_call u_is_compact (snd_cons snd_var snd_nil)))) (snd_seq (snd_drop (snd_methM (by decide) u_Machine_count snd_var (snd_cons (snd_str "short") (snd_cons (snd_int 1) snd_nil))))
  (snd_ret (snd_call u_big_of (snd_cons snd_var (snd_cons (snd_op s_add (snd_call u_value_of (snd_cons snd_var snd_nil)) (snd_call u_value_of (snd_cons snd_var snd_nil))) snd_nil))))) snd_next)
  (snd_seq (snd_ifS (snd_test (snd_op s_eq (snd_op s_lt (snd_side PB snd_var) (snd_int 0)) (snd_op s_lt (snd_side PB snd_var) (snd_int 0)))) (snd_ret (snd_call u_made (snd_cons snd_var (snd_cons (snd_if (snd_test (snd_op s_lt (snd_side PB snd_var) (snd_int 0))) (snd_neg (snd_int 1)) (snd_int 1)) (snd_cons (snd_call u_z_adding (snd_cons snd_var (snd_cons (snd_row PB snd_var) (snd_cons (snd_row PB snd_var) snd_nil)))) snd_nil))))) snd_next)
  (snd_seq (snd_asgG (snd_if (snd_test (snd_op s_lt (snd_side PB snd_var) (snd_int 0))) (snd_tup (snd_cons snd_var (snd_cons snd_var snd_nil))) (snd_tup (snd_cons snd_var (snd_cons snd_var snd_nil)))) (snd_gTup (is := [3, 4]) rfl))
  (snd_seq (snd_asgG (snd_call u_z_taking (snd_cons snd_var (snd_cons (snd_row PB snd_var) (snd_cons (snd_row PB snd_var) snd_nil)))) (snd_gTup (is := [5, 6]) rfl))
  (snd_ret (snd_call u_made (snd_cons snd_var (snd_cons snd_var (snd_cons snd_var snd_nil)))))))))
def P_z_subtracted : PSp := P_sum false
def sp_z_subtracted (K : PySem.W.Frag) (c : Pc) : Sp := lif K c P_z_subtracted
theorem u_z_subtracted {K : PySem.W.Frag} {c : Pc} : SndP K c (sp_z_subtracted K c) P_z_subtracted := SndP.lif
/-- 0:machine 1:x 2:y 3:one 4:other 5:side 6:found -/
def t_z_subtracted (K : PySem.W.Frag) (c : Pc) : TS :=
  (tSeq (tIfS (tAnd (L2.tB (tCall (sp_is_compact K c) [] E0 (tCons (tVar 1) tNil))) (L2.tB (tCall (sp_is_compact K c) [] E0 (tCons (tVar 2) tNil)))) (tSeq (tDrop (tMeth c.CMachine "count" (sp_Machine_count K c) [] E0 (tVar 0) (tCons (tC (.str "short")) (tCons (tC (.int 1)) tNil))))
  (tRet (tCall (sp_big_of K c) [] E0 (tCons (tVar 0) (tCons (tOp rSub (tCall (sp_value_of K c) [] E0 (tCons (tVar 1) tNil)) (tCall (sp_value_of K c) [] E0 (tCons (tVar 2) tNil))) tNil))))) tNext)
  (tSeq (tIfS (tTest (tOp rNe (tOp rLt (tFld K (tVar 1) "side") (tC (.int 0))) (tOp rLt (tFld K (tVar 2) "side") (tC (.int 0))))) (tRet (tCall (sp_made K c) [] E0 (tCons (tVar 0) (tCons (tIf (tTest (tOp rLt (tFld K (tVar 1) "side") (tC (.int 0)))) (tUn rNeg (tC (.int 1))) (tC (.int 1))) (tCons (tCall (sp_z_adding K c) [] E0 (tCons (tVar 0) (tCons (tFld K (tVar 1) "row") (tCons (tFld K (tVar 2) "row") tNil)))) tNil))))) tNext)
  (tSeq (tAsg (tIf (tTest (tOp rLt (tFld K (tVar 1) "side") (tC (.int 0)))) (tTup (tCons (tVar 2) (tCons (tVar 1) tNil))) (tTup (tCons (tVar 1) (tCons (tVar 2) tNil)))) (gTup K 2 (gCons (gName 3) (gCons (gName 4) gNil))))
  (tSeq (tAsg (tCall (sp_z_taking K c) [] E0 (tCons (tVar 0) (tCons (tFld K (tVar 3) "row") (tCons (tFld K (tVar 4) "row") tNil)))) (gTup K 2 (gCons (gName 5) (gCons (gName 6) gNil))))
  (tRet (tCall (sp_made K c) [] E0 (tCons (tVar 0) (tCons (tVar 5) (tCons (tVar 6) tNil)))))))))
def p_z_subtracted : PS :=
  (pSeq (pIfS (pAnd (pTest (pCall P_is_compact (pCons (pVar 1) pNil))) (pTest (pCall P_is_compact (pCons (pVar 2) pNil)))) (pSeq (pDrop (pMethM P_Machine_count (pVar 0) (pCons (pC (.str "short")) (pCons (pC (.int 1)) pNil))))
  (pRet (pCall P_big_of (pCons (pVar 0) (pCons (pOp qSub (pCall P_value_of (pCons (pVar 1) pNil)) (pCall P_value_of (pCons (pVar 2) pNil))) pNil))))) pNext)
  (pSeq (pIfS (pTest (pOp qNe (pOp qLt (pSide (pVar 1)) (pC (.int 0))) (pOp qLt (pSide (pVar 2)) (pC (.int 0))))) (pRet (pCall P_made (pCons (pVar 0) (pCons (pIf (pTest (pOp qLt (pSide (pVar 1)) (pC (.int 0)))) (pUn qNeg (pC (.int 1))) (pC (.int 1))) (pCons (pCall P_z_adding (pCons (pVar 0) (pCons (pRow (pVar 1)) (pCons (pRow (pVar 2)) pNil)))) pNil))))) pNext)
  (pSeq (pAsgG (pIf (pTest (pOp qLt (pSide (pVar 1)) (pC (.int 0)))) (pTup (pCons (pVar 2) (pCons (pVar 1) pNil))) (pTup (pCons (pVar 1) (pCons (pVar 2) pNil)))) (pgTup [3, 4]))
  (pSeq (pAsgG (pCall P_z_taking (pCons (pVar 0) (pCons (pRow (pVar 3)) (pCons (pRow (pVar 4)) pNil)))) (pgTup [5, 6]))
  (pRet (pCall P_made (pCons (pVar 0) (pCons (pVar 5) (pCons (pVar 6) pNil)))))))))
theorem sn_z_subtracted {K : PySem.W.Frag} {c : Pc} (PM : PM K c) (PB : PB K c) : SndS K c (t_z_subtracted K c) p_z_subtracted :=
  (snd_seq (snd_ifS (snd_and (snd_tB (snd_call u_is_compact (snd_cons snd_var snd_nil))) (snd_tB (snd_call u_is_compact (snd_cons snd_var snd_nil)))) (snd_seq (snd_drop (snd_methM (by decide) u_Machine_count snd_var (snd_cons (snd_str "short") (snd_cons (snd_int 1) snd_nil))))
  (snd_ret (snd_call u_big_of (snd_cons snd_var (snd_cons (snd_op s_sub (snd_call u_value_of (snd_cons snd_var snd_nil)) (snd_call u_value_of (snd_cons snd_var snd_nil))) snd_nil))))) snd_next)
  (snd_seq (snd_ifS (snd_test (snd_op s_ne (snd_op s_lt (snd_side PB snd_var) (snd_int 0)) (snd_op s_lt (snd_side PB snd_var) (snd_int 0)))) (snd_ret (snd_call u_made (snd_cons snd_var (snd_cons (snd_if (snd_test (snd_op s_lt (snd_side PB snd_var) (snd_int 0))) (snd_neg (snd_int 1)) (snd_int 1)) (snd_cons (snd_call u_z_adding (snd_cons snd_var (snd_cons (snd_row PB snd_var) (snd_cons (snd_row PB snd_var) snd_nil)))) snd_nil))))) snd_next)
  (snd_seq (snd_asgG (snd_if (snd_test (snd_op s_lt (snd_side PB snd_var) (snd_int 0))) (snd_tup (snd_cons snd_var (snd_cons snd_var snd_nil))) (snd_tup (snd_cons snd_var (snd_cons snd_var snd_nil)))) (snd_gTup (is := [3, 4]) rfl))
  (snd_seq (snd_asgG (snd_call u_z_taking (snd_cons snd_var (snd_cons (snd_row PB snd_var) (snd_cons (snd_row PB snd_var) snd_nil)))) (snd_gTup (is := [5, 6]) rfl))
  (snd_ret (snd_call u_made (snd_cons snd_var (snd_cons snd_var (snd_cons snd_var snd_nil)))))))))
theorem n_z_added : ∀ ds w k, P_z_added ds w k → ds.length = 3 := n_sum
theorem n_z_subtracted : ∀ ds w k, P_z_subtracted ds w k → ds.length = 3 := n_sum
theorem mp_taking : MoP P_z_taking := fun ds w k k' h hp => by
  unfold P_z_taking at hp ⊢
  split at hp
  · obtain ⟨m, hm, xs, ys, a1, a2, a3, a4, a5, a6, a7⟩ := onM_of hp
    show onM _ _ _
    rw [onM_is hm]
    exact ⟨xs, ys, a1, a2, a3, a4, a5, a6, fun s es p b1 b2 b3 b4 b5 => h _ _ (a7 s es p b1 b2 b3 b4 b5)⟩
  · exact hp.elim
theorem digs_small {b : Nat} {n n' : Int} (hb : b ≠ 0) (h1 : (digs b n.natAbs).length ≤ 1) (h2 : (digs b n'.natAbs).length ≤ 1) : (digs b (n + n').natAbs).length < 2 ^ 23 ∧ (digs b (n - n').natAbs).length < 2 ^ 23 := by
  have u1 := digs_upper (b := b) (n := n.natAbs) hb
  have u2 := digs_upper (b := b) (n := n'.natAbs) hb
  have v1 : 2 ^ (b * (digs b n.natAbs).length) ≤ 2 ^ (b * 1) := Nat.pow_le_pow_right (by decide) (Nat.mul_le_mul_left _ h1)
  have v2 : 2 ^ (b * (digs b n'.natAbs).length) ≤ 2 ^ (b * 1) := Nat.pow_le_pow_right (by decide) (Nat.mul_le_mul_left _ h2)
  have e : 2 ^ (b * 1) * 2 ≤ 2 ^ (b * 2) := by
    rw [Nat.mul_one, Nat.mul_comm b 2, Nat.two_mul, Nat.pow_add]
    exact Nat.mul_le_mul_left _ (Nat.one_lt_two_pow hb)
  have f1 := digs_length_le hb (n + n').natAbs (k := 2) (by omega)
  have f2 := digs_length_le hb (n - n').natAbs (k := 2) (by omega)
  omega
theorem p_ex (ds es : List Nat) : ∃ p, ds.length = es.length → LD ds es p := by
  by_cases e : ds.length = es.length
  · obtain ⟨p, hp⟩ := LD.ex _ _ e
    exact ⟨p, fun _ => hp⟩
  · exact ⟨0, fun z => absurd z e⟩
theorem w_z_added : ∀ ds w k, P_z_added ds w k → p_z_added (pen k) (env0 7 ds) w := by
  intro ds w k h
  unfold P_z_added P_sum at h
  split at h
  · rename_i i b n b' n'
    replace h := onM_of h
    obtain ⟨m, hm, ⟨rfl, hb'⟩, ⟨L1, L2⟩, h⟩ := h
    subst hb'
    have hb := L1.1
    have hz := sizeLine_eq
    rw [if_pos rfl] at h
    unfold sumM at h
    unfold p_z_added
    walk_at "pu"
    simp only [onM_is hm, onM_put hm, put_put, sgn_lt0, show ∀ n : Int, decide (sgn n < 0) = decide (n < 0) from fun n => decide_eq_decide.mpr sgn_lt0]
    obtain ⟨p0, hp0⟩ := p_ex (digs m.b n.natAbs) (digs m.b n'.natAbs)
    refine ite_and (fun c1 c2 => ?_) fun hc => ?_
    · have hk := h p0 hp0
      rw [if_pos ⟨c1, c2⟩] at hk
      exact ⟨L1, L2, hb, (digs_small hb c1 c2).1, hk⟩
    refine ite_2 (fun c1 => ?_) fun c1 => ?_
    · have hk := h p0 hp0
      rw [if_neg hc, if_pos (beq_iff_eq.mpr c1)] at hk
      have c1' : n < 0 ↔ n' < 0 := decide_eq_decide.mp c1
      refine ite_2 (fun c2 => ?_) fun c2 => ?_
      · exact do_add hm L1 L2 (.inr rfl) (by have := c1'.mp c2; omega) hk
      · exact do_add hm L1 L2 (.inl rfl) (by have : ¬ n' < 0 := fun z => c2 (c1'.mpr z); omega) hk
    · have c1' : ¬ (n < 0 ↔ n' < 0) := fun z => c1 (decide_eq_decide.mpr z)
      refine ite_2 (fun c2 => ?_) fun c2 => ?_
      · refine ⟨by omega, ?_⟩
        have T := do_take (k := k) hm L2 L1 (r := n + n') (by have : ¬ n' < 0 := fun z => c1' ⟨fun _ => z, fun _ => c2⟩; omega) fun p hp => by
          have hk := h p fun e => (hp e.symm).symm e.symm
          rw [if_neg hc, if_neg (fun z => c1 (beq_iff_eq.mp z)), if_pos c2] at hk
          exact hk
        refine mp_taking _ _ _ _ (fun d w ⟨s, es, hd, hq⟩ => ?_) T
        subst hd
        exact hq
      · refine ⟨by omega, ?_⟩
        have T := do_take (k := k) hm L1 L2 (r := n + n') (by have : n' < 0 := Decidable.by_contra fun z => c1' ⟨fun q => absurd q c2, fun q => absurd q z⟩; omega) fun p hp => by
          have hk := h p hp
          rw [if_neg hc, if_neg (fun z => c1 (beq_iff_eq.mp z)), if_neg c2] at hk
          exact hk
        refine mp_taking _ _ _ _ (fun d w ⟨s, es, hd, hq⟩ => ?_) T
        subst hd
        exact hq
  · exact h.elim
theorem b_z_added {K : PySem.W.Frag} {c : Pc} {vs : List V} {H : Hp} {Q : VK} {E : XK} (PM : PM K c) (PB : PB K c) (h : sp_z_added K c vs H Q E) : t_z_added K c (en0 Q) (st0 7 vs) H := def_ok (sn_z_added PM PB) w_z_added h
theorem w_z_subtracted : ∀ ds w k, P_z_subtracted ds w k → p_z_subtracted (pen k) (env0 7 ds) w := by
  intro ds w k h
  unfold P_z_subtracted P_sum at h
  split at h
  · rename_i i b n b' n'
    replace h := onM_of h
    obtain ⟨m, hm, ⟨rfl, hb'⟩, ⟨L1, L2⟩, h⟩ := h
    subst hb'
    have hb := L1.1
    have hz := sizeLine_eq
    rw [if_neg Bool.false_ne_true] at h
    unfold sumM at h
    unfold p_z_subtracted
    walk_at "pu"
    simp only [onM_is hm, onM_put hm, put_put, sgn_lt0, show ∀ n : Int, decide (sgn n < 0) = decide (n < 0) from fun n => decide_eq_decide.mpr sgn_lt0]
    obtain ⟨p0, hp0⟩ := p_ex (digs m.b n.natAbs) (digs m.b n'.natAbs)
    refine ite_and (fun c1 c2 => ?_) fun hc => ?_
    · have hk := h p0 hp0
      rw [if_pos ⟨c1, c2⟩] at hk
      exact ⟨L1, L2, hb, (digs_small hb c1 c2).2, hk⟩
    refine ite_2 (fun c1 => ?_) fun c1 => ?_
    · have hk := h p0 hp0
      rw [if_neg hc, if_pos (beq_eq_false_iff_ne.mpr c1)] at hk
      have c1' : ¬ (n < 0 ↔ n' < 0) := fun z => c1 (decide_eq_decide.mpr z)
      refine ite_2 (fun c2 => ?_) fun c2 => ?_
      · exact do_add hm L1 L2 (.inr rfl) (by have : ¬ n' < 0 := fun z => c1' ⟨fun _ => z, fun _ => c2⟩; omega) hk
      · exact do_add hm L1 L2 (.inl rfl) (by have : n' < 0 := Decidable.by_contra fun z => c1' ⟨fun q => absurd q c2, fun q => absurd q z⟩; omega) hk
    · have c1'' : decide (n < 0) = decide (n' < 0) := Decidable.not_not.mp c1
      have c1' : n < 0 ↔ n' < 0 := decide_eq_decide.mp c1''
      refine ite_2 (fun c2 => ?_) fun c2 => ?_
      · refine ⟨by omega, ?_⟩
        have T := do_take (k := k) hm L2 L1 (r := n - n') (by have := c1'.mp c2; omega) fun p hp => by
          have hk := h p fun e => (hp e.symm).symm e.symm
          rw [if_neg hc, if_neg (fun z => beq_eq_false_iff_ne.mp z c1''), if_pos c2] at hk
          exact hk
        refine mp_taking _ _ _ _ (fun d w ⟨s, es, hd, hq⟩ => ?_) T
        subst hd
        exact hq
      · refine ⟨by omega, ?_⟩
        have T := do_take (k := k) hm L1 L2 (r := n - n') (by have : ¬ n' < 0 := fun z => c2 (c1'.mpr z); omega) fun p hp => by
          have hk := h p hp
          rw [if_neg hc, if_neg (fun z => beq_eq_false_iff_ne.mp z c1''), if_neg c2] at hk
          exact hk
        refine mp_taking _ _ _ _ (fun d w ⟨s, es, hd, hq⟩ => ?_) T
        subst hd
        exact hq
  · exact h.elim
theorem b_z_subtracted {K : PySem.W.Frag} {c : Pc} {vs : List V} {H : Hp} {Q : VK} {E : XK} (PM : PM K c) (PB : PB K c) (h : sp_z_subtracted K c vs H Q E) : t_z_subtracted K c (en0 Q) (st0 7 vs) H := def_ok (sn_z_subtracted PM PB) w_z_subtracted h
def P_z_add : PSp := P_sum true
def sp_z_add (K : PySem.W.Frag) (c : Pc) : Sp := lif K c P_z_add
theorem u_z_add {K : PySem.W.Frag} {c : Pc} : SndP K c (sp_z_add K c) P_z_add := SndP.lif
/-- 0:machine 1:x 2:y -/
def t_z_add (K : PySem.W.Frag) (c : Pc) : TS :=
  (tSeq (tDrop (tCall (sp_check_bigs K c) [] E0 (tCons (tVar 0) (tCons (tVar 1) (tCons (tVar 2) tNil)))))
  (tRet (tCall (sp_z_added K c) [] E0 (tCons (tVar 0) (tCons (tVar 1) (tCons (tVar 2) tNil))))))
def p_z_add : PS :=
  (pSeq (pDrop (pCall P_check_bigs (pCons (pVar 0) (pCons (pVar 1) (pCons (pVar 2) pNil)))))
  (pRet (pCall P_z_added (pCons (pVar 0) (pCons (pVar 1) (pCons (pVar 2) pNil))))))
theorem sn_z_add {K : PySem.W.Frag} {c : Pc} {α : Prop} (PM : PM K c) (PB : α) : SndS K c (t_z_add K c) p_z_add :=
  (snd_seq (snd_drop (snd_call u_check_bigs (snd_cons snd_var (snd_cons snd_var (snd_cons snd_var snd_nil)))))
  (snd_ret (snd_call u_z_added (snd_cons snd_var (snd_cons snd_var (snd_cons snd_var snd_nil))))))
def P_z_subtract : PSp := P_sum false
def sp_z_subtract (K : PySem.W.Frag) (c : Pc) : Sp := lif K c P_z_subtract
theorem u_z_subtract {K : PySem.W.Frag} {c : Pc} : SndP K c (sp_z_subtract K c) P_z_subtract := SndP.lif
/-- 0:machine 1:x 2:y -/
def t_z_subtract (K : PySem.W.Frag) (c : Pc) : TS :=
  (tSeq (tDrop (tCall (sp_check_bigs K c) [] E0 (tCons (tVar 0) (tCons (tVar 1) (tCons (tVar 2) tNil)))))
  (tRet (tCall (sp_z_subtracted K c) [] E0 (tCons (tVar 0) (tCons (tVar 1) (tCons (tVar 2) tNil))))))
def p_z_subtract : PS :=
  (pSeq (pDrop (pCall P_check_bigs (pCons (pVar 0) (pCons (pVar 1) (pCons (pVar 2) pNil)))))
  (pRet (pCall P_z_subtracted (pCons (pVar 0) (pCons (pVar 1) (pCons (pVar 2) pNil))))))
theorem sn_z_subtract {K : PySem.W.Frag} {c : Pc} {α : Prop} (PM : PM K c) (PB : α) : SndS K c (t_z_subtract K c) p_z_subtract :=
  (snd_seq (snd_drop (snd_call u_check_bigs (snd_cons snd_var (snd_cons snd_var (snd_cons snd_var snd_nil)))))
  (snd_ret (snd_call u_z_subtracted (snd_cons snd_var (snd_cons snd_var (snd_cons snd_var snd_nil))))))
theorem n_z_add : ∀ ds w k, P_z_add ds w k → ds.length = 3 := n_sum
theorem n_z_subtract : ∀ ds w k, P_z_subtract ds w k → ds.length = 3 := n_sum
theorem w_z_add : ∀ ds w k, P_z_add ds w k → p_z_add (pen k) (env0 3 ds) w := by
  intro ds w k h
  have h0 := h
  unfold P_z_add P_sum at h
  split at h
  · rename_i i b n b' n'
    obtain ⟨m, hm, hbb, _⟩ := onM_of h
    unfold p_z_add
    walk_at "pu"
    rw [onM_is hm]
    exact ⟨hbb.1, hbb.2, h0⟩
  · exact h.elim
theorem b_z_add {K : PySem.W.Frag} {c : Pc} {vs : List V} {H : Hp} {Q : VK} {E : XK} {α : Prop} (PM : PM K c) (PB : α) (h : sp_z_add K c vs H Q E) : t_z_add K c (en0 Q) (st0 3 vs) H := def_ok (sn_z_add PM PB) w_z_add h
theorem w_z_subtract : ∀ ds w k, P_z_subtract ds w k → p_z_subtract (pen k) (env0 3 ds) w := by
  intro ds w k h
  have h0 := h
  unfold P_z_subtract P_sum at h
  split at h
  · rename_i i b n b' n'
    obtain ⟨m, hm, hbb, _⟩ := onM_of h
    unfold p_z_subtract
    walk_at "pu"
    rw [onM_is hm]
    exact ⟨hbb.1, hbb.2, h0⟩
  · exact h.elim
theorem b_z_subtract {K : PySem.W.Frag} {c : Pc} {vs : List V} {H : Hp} {Q : VK} {E : XK} {α : Prop} (PM : PM K c) (PB : α) (h : sp_z_subtract K c vs H Q E) : t_z_subtract K c (en0 Q) (st0 3 vs) H := def_ok (sn_z_subtract PM PB) w_z_subtract h
/-- where two rows of one length begin to differ, from above -/
noncomputable def ldP (xs ys : List Nat) : Nat := Classical.choose (p_ex xs ys)
theorem ldP_ok (xs ys : List Nat) : xs.length = ys.length → LD xs ys (ldP xs ys) := Classical.choose_spec (p_ex xs ys)
theorem ldP_uniq {xs ys : List Nat} {p : Nat} (h : xs.length = ys.length → LD xs ys p) (hl : xs.length = ys.length) : p = ldP xs ys := (h hl).uniq (ldP_ok xs ys hl)
noncomputable def takX (m : Mach) (xs ys : List Nat) : Mach := takeM m xs ys (ldP xs ys)
noncomputable def sumX (m : Mach) (isSum : Bool) (n n' : Int) : Mach := sumM m isSum n n' (ldP (digs m.b n.natAbs) (digs m.b n'.natAbs))
theorem takX_of {m : Mach} {xs ys : List Nat} {p : Nat} (h : xs.length = ys.length → LD xs ys p) : takeM m xs ys p = takX m xs ys := by
  unfold takX
  by_cases e : xs.length = ys.length
  · rw [ldP_uniq h e]
  · unfold takeM
    rw [if_neg e, if_neg e]
theorem sumX_of {m : Mach} {s : Bool} {n n' : Int} {p : Nat} (h : (digs m.b n.natAbs).length = (digs m.b n'.natAbs).length → LD (digs m.b n.natAbs) (digs m.b n'.natAbs) p) : sumM m s n n' p = sumX m s n n' := by
  unfold sumX
  by_cases e : (digs m.b n.natAbs).length = (digs m.b n'.natAbs).length
  · rw [ldP_uniq h e]
  · have e' : ¬ (digs m.b n'.natAbs).length = (digs m.b n.natAbs).length := fun z => e z.symm
    unfold sumM takeM
    simp only [if_neg e, if_neg e']
theorem sumX_eq (m : Mach) (s : Bool) (n n' : Int) : sumX m s n n' = (if (digs m.b n.natAbs).length ≤ 1 ∧ (digs m.b n'.natAbs).length ≤ 1 then m.cnt 0 1
  else if (decide (n < 0) == decide (n' < 0)) = s then (m.ent "add" (digs m.b n.natAbs).length (digs m.b n'.natAbs).length).cnt 1 (max (digs m.b n.natAbs).length (digs m.b n'.natAbs).length : Nat)
  else if n < 0 then takX m (digs m.b n'.natAbs) (digs m.b n.natAbs) else takX m (digs m.b n.natAbs) (digs m.b n'.natAbs)) := by
  unfold sumX
  have h := ldP_ok (digs m.b n.natAbs) (digs m.b n'.natAbs)
  rw [← takX_of h, ← takX_of fun e => (h e.symm).symm e.symm]
  rfl
theorem sum_det {isSum : Bool} {i b b' : Nat} {n n' : Int} {w : Wld} {k : Dat → Wld → Prop} : P_sum isSum [.mach i, .big b n, .big b' n'] w k ↔ onM w i fun m => (m.b = b ∧ m.b = b') ∧ (bigL b n ∧ bigL b n') ∧ k (.big b (if isSum then n + n' else n - n')) (w.put i (sumX m isSum n n')) := by
  rw [e_sum]
  constructor
  · intro h
    obtain ⟨m, hm, hb, hl, hk⟩ := onM_of h
    rw [onM_is hm]
    refine ⟨hb, hl, ?_⟩
    rw [← sumX_of (p := ldP (digs b n.natAbs) (digs b n'.natAbs)) (by rw [hb.1]; exact ldP_ok _ _)]
    exact hk _ (ldP_ok _ _)
  · intro h
    obtain ⟨m, hm, hb, hl, hk⟩ := onM_of h
    rw [onM_is hm]
    refine ⟨hb, hl, fun p hp => ?_⟩
    rw [sumX_of (by rw [hb.1]; exact hp)]
    exact hk
theorem d_z_add {i b b' : Nat} {n n' : Int} {w : Wld} {k : Dat → Wld → Prop} : P_z_add [.mach i, .big b n, .big b' n'] w k ↔ onM w i fun m => (m.b = b ∧ m.b = b') ∧ (bigL b n ∧ bigL b n') ∧ k (.big b (n + n')) (w.put i (sumX m true n n')) := sum_det
theorem d_z_subtract {i b b' : Nat} {n n' : Int} {w : Wld} {k : Dat → Wld → Prop} : P_z_subtract [.mach i, .big b n, .big b' n'] w k ↔ onM w i fun m => (m.b = b ∧ m.b = b') ∧ (bigL b n ∧ bigL b n') ∧ k (.big b (n - n')) (w.put i (sumX m false n n')) := sum_det
/-- a machine and another thing: == -/
def eqMd (w : Wld) (m : Mach) (k : Bool → Prop) : Dat → Prop
  | .mach i' => onM w i' fun m' => k (decide (m.b = m'.b ∧ m.cut = m'.cut))
  | .tup _ => k false
  | _ => False
theorem eqMd_cases {w : Wld} {m : Mach} {k : Bool → Prop} {d : Dat} (h : eqMd w m k d) : (∃ i' m', d = .mach i' ∧ w.ms[i']? = some m' ∧ k (decide (m.b = m'.b ∧ m.cut = m'.cut))) ∨ (∃ l, d = .tup l ∧ k false) := by
  unfold eqMd at h
  split at h
  · replace h := onM_of h
    obtain ⟨m', hm', h⟩ := h
    exact .inl ⟨_, m', rfl, hm', h⟩
  · exact .inr ⟨_, rfl, h⟩
  · exact h.elim
def P_Machine_eq : PSp := fun ds w k => match ds with
  | [.mach i, d] => onM w i fun m => eqMd w m (fun b => k (.bl b) w) d
  | _ => False
theorem n_Machine_eq : ∀ ds w k, P_Machine_eq ds w k → ds.length = 2 := fun ds w k h => by
  unfold P_Machine_eq at h
  split at h
  · rfl
  · exact h.elim
def sp_Machine_eq (K : PySem.W.Frag) (c : Pc) : Sp := lif K c P_Machine_eq
theorem u_Machine_eq {K : PySem.W.Frag} {c : Pc} : SndP K c (sp_Machine_eq K c) P_Machine_eq := SndP.lif
/-- 0:self 1:other -/
def t_Machine_eq (K : PySem.W.Frag) (c : Pc) : TS :=
  (tRet (tAndV (tCB (rIsi K) (tCons (tVar 1) (tCons (tC (.ref c.CMachine)) tNil))) (tOp (rEqD K) (tMeth c.CMachine "parts" (sp_Machine_parts K c) [] E0 (tVar 0) tNil) (tMeth c.CMachine "parts" (sp_Machine_parts K c) [] E0 (tVar 1) tNil))))
def p_Machine_eq : PS :=
  (pRet (pAndV (pIsO 1 (pVar 1)) (pOp qEqD (pMethM P_Machine_parts (pVar 0) pNil) (pMethM P_Machine_parts (pVar 1) pNil))))
theorem sn_Machine_eq {K : PySem.W.Frag} {c : Pc} {α : Prop} (PM : PM K c) (PB : α) (IS : IsiK K c) : SndS K c (t_Machine_eq K c) p_Machine_eq :=
  (snd_ret (snd_andV (snd_isM IS snd_var) (snd_op s_eqD (snd_methM (by decide) u_Machine_parts snd_var snd_nil) (snd_methM (by decide) u_Machine_parts snd_var snd_nil))))
theorem w_Machine_eq : ∀ ds w k, P_Machine_eq ds w k → p_Machine_eq (pen k) (env0 2 ds) w := by
  intro ds w k h
  unfold P_Machine_eq at h
  split at h
  · rename_i i d
    replace h := onM_of h
    obtain ⟨m, hm, h⟩ := h
    have hz := sizeLine_eq
    unfold p_Machine_eq
    walk_at "pu"
    show onSome (kindD d) _
    rcases eqMd_cases h with ⟨i', m', rfl, hm', h⟩ | ⟨l, rfl, h⟩
    · rw [show kindD (.mach i') = some 1 from rfl, eSome]
      walk_at "pu"
      rw [onM_is hm, onM_is hm']
      refine ⟨⟨rfl, rfl⟩, fun bb e1 e2 => ?_⟩
      by_cases c : m.b = m'.b ∧ m.cut = m'.cut
      · rw [e1 (by rw [c.1, c.2])]
        rw [decide_eq_true c] at h
        exact h
      · rw [e2 (fun z => c (by injection z with z; injection z with z1 z2; injection z1 with z1; injection z2 with z2 z3; injection z2 with z2; exact ⟨by omega, z2⟩)) rfl rfl]
        rw [decide_eq_false c] at h
        exact h
    · rw [show kindD (.tup l) = some 0 from rfl, eSome]
      walk_at "pu"
      exact h
  · exact h.elim
theorem b_Machine_eq {K : PySem.W.Frag} {c : Pc} {vs : List V} {H : Hp} {Q : VK} {E : XK} {α : Prop} (PM : PM K c) (PB : α) (IS : IsiK K c) (h : sp_Machine_eq K c vs H Q E) : t_Machine_eq K c (en0 Q) (st0 2 vs) H := def_ok (sn_Machine_eq PM PB IS) w_Machine_eq h
def pEqM (a b : PE) : PE := fun e w k => a e w fun x e w => b e w fun y e w => match x with
  | .mach i => onM w i fun m => eqMd w m (fun b => k (.bl b) e w) y
  | _ => False
theorem snd_eqM {K : PySem.W.Frag} {c : Pc} {ta tb : TE} {pa pb : PE} {E : XK} (IS : IsiK K c) (ha : SndE K c ta pa) (hb : SndE K c tb pb) : SndE K c (tOp (rOwnEq K c.CMachine (sp_Machine_eq K c) E) ta tb) (pEqM pa pb) := by
  intro X F σ s k Q I h hQ
  refine ha X F σ s _ _ I h fun v dv s1 l1 I1 r1 h1 => ?_
  refine hb X F σ s1 _ _ I1 h1 fun u du s2 l2 I2 r2 h2 => ?_
  cases dv with
  | mach i =>
    have h3 := onM_of h2
    obtain ⟨m, hm, h3⟩ := h3
    have r1' := r1.mono l2
    obtain ⟨q, mm, dx, g1, g2, rfl, hH, _⟩ := I2.wr.ins r1'
    have go : sp_Machine_eq K c [.ref q.1, u] s2.H (fun v H' => ∃ b, v = .bl b ∧ Q (.bl b) H') E := by
      refine u_Machine_eq s2.g s2.H s2.w _ [.mach i, du] (fun d w' => isB d fun b => k (.bl b) s2.e w') _ E I2.wr (.cons r1' (.cons r2 .nil)) ?_ fun v d g' H' w' A W r3 h4 => ?_
      · show onM s2.w i _
        rw [onM_is hm]
        rcases eqMd_cases h3 with ⟨i', m', rfl, hm', h4⟩ | ⟨l, rfl, h4⟩
        · show onM s2.w i' _
          rw [onM_is hm']
          exact h4
        · exact h4
      · obtain ⟨b, rfl, h4⟩ := isB_of h4
        exact ⟨b, by cases r3; rfl, hQ _ _ ⟨g', H', s2.e, w', s2.os⟩ ((l1.trans l2).trans A.le) (I2.call A W) (.bl b) h4⟩
    rcases eqMd_cases h3 with ⟨i', m', rfl, hm', h4⟩ | ⟨l, rfl, h4⟩
    · obtain ⟨q', mm', dx', g1', g2', rfl, hH', _⟩ := I2.wr.ins r2
      exact rd_ownEq hH (.base (.ins hH' IS.im.cl IS.im.ha IS.im.hn IS.im.htk IS.im.hm)) (nf_self _ _) go
    · cases r2 with
      | tup g1 _ => exact rd_ownEq hH (.base (.tup (I2.wr.sub _ _ g1))) (IS.nm.nf (by decide)) go
  | _ => exact h2.elim
def pNeM (a b : PE) : PE := fun e w k => a e w fun x e w => b e w fun y e w => match x, y with
  | .mach i, .mach i' => onM w i fun m => onM w i' fun m' => k (.bl (!decide (m.b = m'.b ∧ m.cut = m'.cut))) e w
  | _, _ => False
theorem snd_neM {K : PySem.W.Frag} {c : Pc} {ta tb : TE} {pa pb : PE} {E : XK} (ha : SndE K c ta pa) (hb : SndE K c tb pb) : SndE K c (tOp (rOwnNe K c.CMachine (sp_Machine_eq K c) E) ta tb) (pNeM pa pb) := by
  intro X F σ s k Q I h hQ
  refine ha X F σ s _ _ I h fun v dv s1 l1 I1 r1 h1 => ?_
  refine hb X F σ s1 _ _ I1 h1 fun u du s2 l2 I2 r2 h2 => ?_
  cases dv with
  | mach i =>
    cases du with
    | mach i' =>
      have h3 := onM_of h2
      obtain ⟨m, hm, h3⟩ := h3
      replace h3 := onM_of h3
      obtain ⟨m', hm', h3⟩ := h3
      have r1' := r1.mono l2
      obtain ⟨q, mm, dx, g1, g2, rfl, hH, _⟩ := I2.wr.ins r1'
      obtain ⟨q', mm', dx', g1', g2', rfl, hH', _⟩ := I2.wr.ins r2
      refine rd_ownNe hH hH' ?_
      refine u_Machine_eq s2.g s2.H s2.w _ [.mach i, .mach i'] (fun d w' => isB d fun b => k (.bl (!b)) s2.e w') _ E I2.wr (.cons r1' (.cons r2 .nil)) ?_ fun v d g' H' w' A W r3 h4 => ?_
      · show onM s2.w i _
        rw [onM_is hm]
        show onM s2.w i' _
        rw [onM_is hm']
        exact h3
      · obtain ⟨b, rfl, h4⟩ := isB_of h4
        exact ⟨b, by cases r3; rfl, hQ _ _ ⟨g', H', s2.e, w', s2.os⟩ ((l1.trans l2).trans A.le) (I2.call A W) (.bl _) h4⟩
    | _ => exact h2.elim
  | _ => exact h2.elim
def P_k04_words : PSp := fun ds w k => match ds with
  | [] => k (.lst (words.map Dat.str)) w
  | _ => False
theorem n_k04_words : ∀ ds w k, P_k04_words ds w k → ds.length = 0 := fun ds w k h => by
  unfold P_k04_words at h
  split at h
  · rfl
  · exact h.elim
def sp_k04_words (K : PySem.W.Frag) (c : Pc) : Sp := lif K c P_k04_words
theorem u_k04_words {K : PySem.W.Frag} {c : Pc} : SndP K c (sp_k04_words K c) P_k04_words := SndP.lif
/-- 0:_law_first -/
def t_k04_words (K : PySem.W.Frag) (c : Pc) : TS :=
  (tSeq (tAsg (tLst (tCons (tC (.str "short")) (tCons (tC (.str "sum")) (tCons (tC (.str "product")) (tCons (tC (.str "quotient")) (tCons (tC (.str "corrected")) tNil)))))) (gName 0))
  (tRet (tOp rCat (tVar 0) (tLst (tCons (tC (.str "restored")) (tCons (tC (.str "shifted")) (tCons (tC (.str "combined")) (tCons (tC (.str "complemented")) (tCons (tC (.str "looked")) tNil)))))))))
def p_k04_words : PS :=
  (pSeq (pAsg (pFz (pLst (pCons (pC (.str "short")) (pCons (pC (.str "sum")) (pCons (pC (.str "product")) (pCons (pC (.str "quotient")) (pCons (pC (.str "corrected")) pNil))))))) 0)
  (pRet (pFz (pOpF qCat (pVar 0) (pFz (pLst (pCons (pC (.str "restored")) (pCons (pC (.str "shifted")) (pCons (pC (.str "combined")) (pCons (pC (.str "complemented")) (pCons (pC (.str "looked")) pNil)))))))))))
theorem sn_k04_words {K : PySem.W.Frag} {c : Pc} {α : Prop} (PM : PM K c) (PB : α) : SndS K c (t_k04_words K c) p_k04_words :=
  (snd_seq (snd_asg (snd_fz (snd_lst (snd_cons (snd_str "short") (snd_cons (snd_str "sum") (snd_cons (snd_str "product") (snd_cons (snd_str "quotient") (snd_cons (snd_str "corrected") snd_nil))))))))
  (snd_ret (snd_fz (snd_opF s_cat snd_var (snd_fz (snd_lst (snd_cons (snd_str "restored") (snd_cons (snd_str "shifted") (snd_cons (snd_str "combined") (snd_cons (snd_str "complemented") (snd_cons (snd_str "looked") snd_nil)))))))))))
theorem w_k04_words : ∀ ds w k, P_k04_words ds w k → p_k04_words (pen k) (env0 1 ds) w := by
  intro ds w k h
  unfold P_k04_words at h
  split at h
  · have hz := sizeLine_eq
    unfold p_k04_words
    walk_at "pu"
    exact ⟨by omega, by omega, by omega, h⟩
  · exact h.elim
theorem b_k04_words {K : PySem.W.Frag} {c : Pc} {vs : List V} {H : Hp} {Q : VK} {E : XK} {α : Prop} (PM : PM K c) (PB : α) (h : sp_k04_words K c vs H Q E) : t_k04_words K c (en0 Q) (st0 1 vs) H := def_ok (sn_k04_words PM PB) w_k04_words h
def P_k04_counts : PSp := fun ds w k => match ds with
  | [.src j, .mach i, .mach i', .int B] => j < w.ss ∧ i ≠ i' ∧ ∃ (b : Nat) (cut : Int), B = ((2 ^ b : Nat) : Int) ∧ (8 ≤ b ∧ b ≤ 30 ∧ 2 ≤ cut) ∧ w.ms[i]? = some ⟨b, cut, zeros, []⟩ ∧ w.ms[i']? = some ⟨b, cut, zeros, []⟩ ∧ ∀ w', w'.ss = w.ss → k (.bl true) w'
  | _ => False
theorem n_k04_counts : ∀ ds w k, P_k04_counts ds w k → ds.length = 4 := fun ds w k h => by
  unfold P_k04_counts at h
  split at h
  · rfl
  · exact h.elim
theorem e_k04_counts {i i' j : Nat} {B : Int} {w : Wld} {k : Dat → Wld → Prop} : P_k04_counts [.src j, .mach i, .mach i', .int B] w k = (j < w.ss ∧ i ≠ i' ∧ ∃ (b : Nat) (cut : Int), B = ((2 ^ b : Nat) : Int) ∧ (8 ≤ b ∧ b ≤ 30 ∧ 2 ≤ cut) ∧ w.ms[i]? = some ⟨b, cut, zeros, []⟩ ∧ w.ms[i']? = some ⟨b, cut, zeros, []⟩ ∧ ∀ w', w'.ss = w.ss → k (.bl true) w') := rfl
def sp_k04_counts (K : PySem.W.Frag) (c : Pc) : Sp := lif K c P_k04_counts
theorem u_k04_counts {K : PySem.W.Frag} {c : Pc} : SndP K c (sp_k04_counts K c) P_k04_counts := SndP.lif
/-- 0:_law_source 1:_law_one_here 2:_law_other 3:_law_base 4:_law_due 5:_law_walk 6:_law_k 7:_law_m 8:_law_n 9:_law_x 10:_law_y 11:_law_heard 12:_law_word 13:_law_seen -/
def t_k04_counts (K : PySem.W.Frag) (c : Pc) : TS :=
  (tSeq (tAsg (tTup (tCons (tDisp [((tC (.str "short")), (tC (.int 0))), ((tC (.str "sum")), (tC (.int 0)))]) (tCons (tLst tNil) tNil))) (gTup K 2 (gCons (gName 4) (gCons (gName 5) gNil))))
  (tSeq (tFor (iRng1 (tCons (tCall (sp_law_next K c) [] E0 (tCons (tVar 0) (tCons (tC (.int 12)) tNil))) tNil)) (gName 6) (tSeq (tPar 7 8 (tCons (tCall (sp_law_next K c) [] E0 (tCons (tVar 0) (tCons (tC (.int 5)) tNil))) (tCons (tCall (sp_law_next K c) [] E0 (tCons (tVar 0) (tCons (tC (.int 5)) tNil))) tNil)))
  (tSeq (tPar 9 10 (tCons (tCall (sp_big K c) [] E0 (tCons (tVar 1) (tCons (tOp rSub (tCall (sp_z_power K c) [] E0 (tCons (tVar 3) (tCons (tVar 7) tNil))) (tC (.int 1))) tNil))) (tCons (tCall (sp_big K c) [] E0 (tCons (tVar 1) (tCons (tOp rSub (tCall (sp_z_power K c) [] E0 (tCons (tVar 3) (tCons (tVar 8) tNil))) (tC (.int 1))) tNil))) tNil)))
  (tSeq (tDrop (tCall (sp_z_add K c) [] E0 (tCons (tVar 1) (tCons (tVar 9) (tCons (tVar 10) tNil)))))
  (tIfS (tAnd (tTest (tOp rLt (tVar 7) (tC (.int 2)))) (tTest (tOp rLt (tVar 8) (tC (.int 2))))) (sDPut (tVar 4) (tC (.str "short")) (tOp rAdd (tDGet (tVar 4) (tC (.str "short"))) (tC (.int 1)))) (tSeq (sDPut (tVar 4) (tC (.str "sum")) (tOp rAdd (tDGet (tVar 4) (tC (.str "sum"))) (tCB rMax2 (tCons (tVar 7) (tCons (tVar 8) tNil)))))
  (tDrop (tBM K "list" rAppend (tVar 5) (tCons (tTup (tCons (tC (.str "add")) (tCons (tVar 7) (tCons (tVar 8) tNil)))) tNil)))))))))
  (tSeq (tAsg (tMeth c.CMachine "tally" (sp_Machine_tally K c) [] E0 (tVar 1) tNil) (gName 11))
  (tSeq (tIfS (tTest (tOp (rNeD K) (tVar 11) (tLc (iList K (tCall (sp_k04_words K c) [] E0 tNil)) (gName 12) tYes (tTup (tCons (tVar 12) (tCons (tIf (L2.tB (tDIn (tVar 12) (tVar 4))) (tDGet (tVar 4) (tVar 12)) (tC (.int 0))) tNil))) [12]))) (tRet (tC (.bl false))) tNext)
  (tSeq (tIfS (tTest (tOp (rNeD K) (tMeth c.CMachine "walk" (sp_Machine_walk K c) [] E0 (tVar 1) tNil) (tVar 5))) (tRet (tC (.bl false))) tNext)
  (tSeq (tDrop (tBM K "list" rAppend (tVar 11) (tCons (tTup (tCons (tC (.str "more")) (tCons (tC (.int 1)) tNil))) tNil)))
  (tSeq (tAsg (tMeth c.CMachine "walk" (sp_Machine_walk K c) [] E0 (tVar 1) tNil) (gName 13))
  (tSeq (tDrop (tBM K "list" rAppend (tVar 13) (tCons (tTup (tCons (tC (.str "more")) (tCons (tC (.int 1)) (tCons (tC (.int 1)) tNil)))) tNil)))
  (tSeq (tIfS (tOr (tTest (tOp (rNeD K) (tMeth c.CMachine "walk" (sp_Machine_walk K c) [] E0 (tVar 1) tNil) (tVar 5))) (tOr (tTest (tOp rNe (tCB (rLen K) (tCons (tMeth c.CMachine "tally" (sp_Machine_tally K c) [] E0 (tVar 1) tNil) tNil)) (tC (.int 10)))) (tOr (tTest (tOp (rOwnNe K c.CMachine (sp_Machine_eq K c) E0) (tVar 1) (tVar 2))) (tTest (tOp (rNeD K) (tMeth c.CMachine "walk" (sp_Machine_walk K c) [] E0 (tVar 2) tNil) (tLst tNil)))))) (tRet (tC (.bl false))) tNext)
  (tSeq (tIfS (tOr (L2.tB (tNotN (tMeth c.CMachine "reset" (sp_Machine_reset K c) [] E0 (tVar 1) tNil))) (tOr (tTest (tOp (rNeD K) (tMeth c.CMachine "tally" (sp_Machine_tally K c) [] E0 (tVar 1) tNil) (tMeth c.CMachine "tally" (sp_Machine_tally K c) [] E0 (tVar 2) tNil))) (tTest (tOp (rNeD K) (tMeth c.CMachine "walk" (sp_Machine_walk K c) [] E0 (tVar 1) tNil) (tLst tNil))))) (tRet (tC (.bl false))) tNext)
  (tRet (tOp (rEqD K) (tSl (rSlL K) (tVar 11) tNoPart (tPart (tC (.int 10)))) (tLc (iList K (tCall (sp_k04_words K c) [] E0 tNil)) (gName 12) tYes (tTup (tCons (tVar 12) (tCons (tIf (L2.tB (tDIn (tVar 12) (tVar 4))) (tDGet (tVar 4) (tVar 12)) (tC (.int 0))) tNil))) [12])))))))))))))
def b1_k04_counts : PS :=
  (pSeq (pPar [7, 8] (pCons (pCall P_law_next (pCons (pVar 0) (pCons (pC (.int 5)) pNil))) (pCons (pCall P_law_next (pCons (pVar 0) (pCons (pC (.int 5)) pNil))) pNil)))
  (pSeq (pPar [9, 10] (pCons (pCall P_big (pCons (pVar 1) (pCons (pOp qSub (pCall P_z_power (pCons (pVar 3) (pCons (pVar 7) pNil))) (pC (.int 1))) pNil))) (pCons (pCall P_big (pCons (pVar 1) (pCons (pOp qSub (pCall P_z_power (pCons (pVar 3) (pCons (pVar 8) pNil))) (pC (.int 1))) pNil))) pNil)))
  (pSeq (pDrop (pCall P_z_add (pCons (pVar 1) (pCons (pVar 9) (pCons (pVar 10) pNil)))))
  (pIfS (pAnd (pTest (pOp qLt (pVar 7) (pC (.int 2)))) (pTest (pOp qLt (pVar 8) (pC (.int 2))))) (pAsgG (pOp qAdd (pDGetO (pVar 4) (pC (.str "short"))) (pC (.int 1))) (pgPutO (pVar 4) (pC (.str "short")))) (pSeq (pAsgG (pOp qAdd (pDGetO (pVar 4) (pC (.str "sum"))) (pCB qMax2 (pCons (pVar 7) (pCons (pVar 8) pNil)))) (pgPutO (pVar 4) (pC (.str "sum"))))
  (pAppO (pVar 5) (pTup (pCons (pC (.str "add")) (pCons (pVar 7) (pCons (pVar 8) pNil))))))))))
def r10_k04_counts : PS :=
  (pRet (pOpW qEqD (pFz (pSlW (pVar 11) pNoPart (pPart (pC (.int 10))))) (pFz (pLc (pIL (pCall P_k04_words pNil)) (pgName 12) pYes (pTup (pCons (pVar 12) (pCons (pIf (pTest (pDInO (pVar 12) (pVar 4))) (pDGetO (pVar 4) (pVar 12)) (pC (.int 0))) pNil))) [12]))))
def r9_k04_counts : PS :=
  (pSeq (pIfS (pOr (pTest (pNotN (pMethM P_Machine_reset (pVar 1) pNil))) (pOr (pTest (pOpW qNeD (pMethM P_Machine_tally (pVar 1) pNil) (pMethM P_Machine_tally (pVar 2) pNil))) (pTest (pOpW qNeD (pMethM P_Machine_walk (pVar 1) pNil) (pFz (pLst pNil)))))) (pRet (pC (.bl false))) pNext)
  r10_k04_counts)
def r8_k04_counts : PS :=
  (pSeq (pIfS (pOr (pTest (pOpW qNeD (pMethM P_Machine_walk (pVar 1) pNil) (pVar 5))) (pOr (pTest (pOp qNe (pCBW qLen (pCons (pMethM P_Machine_tally (pVar 1) pNil) pNil)) (pC (.int 10)))) (pOr (pTest (pNeM (pVar 1) (pVar 2))) (pTest (pOpW qNeD (pMethM P_Machine_walk (pVar 2) pNil) (pFz (pLst pNil))))))) (pRet (pC (.bl false))) pNext)
  r9_k04_counts)
def r7_k04_counts : PS :=
  (pSeq (pAppO (pVar 13) (pTup (pCons (pC (.str "more")) (pCons (pC (.int 1)) (pCons (pC (.int 1)) pNil)))))
  r8_k04_counts)
def r6_k04_counts : PS :=
  (pSeq (pAsg (pObj (pMethML P_Machine_walk (pVar 1) pNil)) 13)
  r7_k04_counts)
def r5_k04_counts : PS :=
  (pSeq (pAppO (pVar 11) (pTup (pCons (pC (.str "more")) (pCons (pC (.int 1)) pNil))))
  r6_k04_counts)
def r4_k04_counts : PS :=
  (pSeq (pIfS (pTest (pOpW qNeD (pMethM P_Machine_walk (pVar 1) pNil) (pVar 5))) (pRet (pC (.bl false))) pNext)
  r5_k04_counts)
def r3_k04_counts : PS :=
  (pSeq (pIfS (pTest (pOpW qNeD (pVar 11) (pFz (pLc (pIL (pCall P_k04_words pNil)) (pgName 12) pYes (pTup (pCons (pVar 12) (pCons (pIf (pTest (pDInO (pVar 12) (pVar 4))) (pDGetO (pVar 4) (pVar 12)) (pC (.int 0))) pNil))) [12])))) (pRet (pC (.bl false))) pNext)
  r4_k04_counts)
def r2_k04_counts : PS :=
  (pSeq (pAsg (pObj (pMethML P_Machine_tally (pVar 1) pNil)) 11)
  r3_k04_counts)
def r1_k04_counts : PS :=
  (pSeq (pFor (pIR1 (pCall P_law_next (pCons (pVar 0) (pCons (pC (.int 12)) pNil)))) (pgName 6) b1_k04_counts)
  r2_k04_counts)
def p_k04_counts : PS :=
  (pSeq (pAsgG (pTup (pCons (pDispO [("short", (pC (.int 0))), ("sum", (pC (.int 0)))]) (pCons (pObj (pLst pNil)) pNil))) (pgTup [4, 5]))
  r1_k04_counts)
theorem sn_k04_counts {K : PySem.W.Frag} {c : Pc} {α : Prop} (PM : PM K c) (PB : α) : SndS K c (t_k04_counts K c) p_k04_counts :=
  (snd_seq (snd_asgG (snd_tup (snd_cons (snd_dispO (show SndD K c _ _ from ⟨rfl, (snd_int 0), ⟨rfl, (snd_int 0), trivial⟩⟩)) (snd_cons (snd_obj (snd_lst snd_nil)) snd_nil))) (snd_gTup (is := [4, 5]) rfl))
  (snd_seq (snd_for (snd_iR1 (snd_call u_law_next (snd_cons snd_var (snd_cons (snd_int 12) snd_nil)))) snd_gName (snd_seq (snd_par (snd_cons (snd_call u_law_next (snd_cons snd_var (snd_cons (snd_int 5) snd_nil))) (snd_cons (snd_call u_law_next (snd_cons snd_var (snd_cons (snd_int 5) snd_nil))) snd_nil)))
  (snd_seq (snd_par (snd_cons (snd_call u_big (snd_cons snd_var (snd_cons (snd_op s_sub (snd_call u_z_power (snd_cons snd_var (snd_cons snd_var snd_nil))) (snd_int 1)) snd_nil))) (snd_cons (snd_call u_big (snd_cons snd_var (snd_cons (snd_op s_sub (snd_call u_z_power (snd_cons snd_var (snd_cons snd_var snd_nil))) (snd_int 1)) snd_nil))) snd_nil)))
  (snd_seq (snd_drop (snd_call u_z_add (snd_cons snd_var (snd_cons snd_var (snd_cons snd_var snd_nil)))))
  (snd_ifS (snd_and (snd_test (snd_op s_lt snd_var (snd_int 2))) (snd_test (snd_op s_lt snd_var (snd_int 2)))) (snd_asgG (snd_op s_add (snd_dgetO snd_var (snd_str "short")) (snd_int 1)) (snd_gPutO snd_var (snd_str "short"))) (snd_seq (snd_asgG (snd_op s_add (snd_dgetO snd_var (snd_str "sum")) (snd_cb s_max2 (snd_cons snd_var (snd_cons snd_var snd_nil)))) (snd_gPutO snd_var (snd_str "sum")))
  (snd_appO snd_var (snd_tup (snd_cons (snd_str "add") (snd_cons snd_var (snd_cons snd_var snd_nil)))))))))))
  (snd_seq (snd_asg (snd_obj (snd_methML (by decide) ul_Machine_tally snd_var snd_nil)))
  (snd_seq (snd_ifS (snd_test (snd_opW s_neD snd_var (snd_fz (snd_lc (snd_iList (snd_call u_k04_words snd_nil)) snd_gName (tgt_name _) snd_yes (snd_tup (snd_cons snd_var (snd_cons (snd_if (snd_tB (snd_dinO snd_var snd_var)) (snd_dgetO snd_var snd_var) (snd_int 0)) snd_nil))))))) (snd_ret (snd_bl false)) snd_next)
  (snd_seq (snd_ifS (snd_test (snd_opW s_neD (snd_methM (by decide) u_Machine_walk snd_var snd_nil) snd_var)) (snd_ret (snd_bl false)) snd_next)
  (snd_seq (snd_appO snd_var (snd_tup (snd_cons (snd_str "more") (snd_cons (snd_int 1) snd_nil))))
  (snd_seq (snd_asg (snd_obj (snd_methML (by decide) ul_Machine_walk snd_var snd_nil)))
  (snd_seq (snd_appO snd_var (snd_tup (snd_cons (snd_str "more") (snd_cons (snd_int 1) (snd_cons (snd_int 1) snd_nil)))))
  (snd_seq (snd_ifS (snd_or (snd_test (snd_opW s_neD (snd_methM (by decide) u_Machine_walk snd_var snd_nil) snd_var)) (snd_or (snd_test (snd_op s_ne (snd_cbW s_len (snd_cons (snd_methM (by decide) u_Machine_tally snd_var snd_nil) snd_nil)) (snd_int 10))) (snd_or (snd_test (snd_neM snd_var snd_var)) (snd_test (snd_opW s_neD (snd_methM (by decide) u_Machine_walk snd_var snd_nil) (snd_fz (snd_lst snd_nil))))))) (snd_ret (snd_bl false)) snd_next)
  (snd_seq (snd_ifS (snd_or (snd_tB (snd_notN (snd_methM (by decide) u_Machine_reset snd_var snd_nil))) (snd_or (snd_test (snd_opW s_neD (snd_methM (by decide) u_Machine_tally snd_var snd_nil) (snd_methM (by decide) u_Machine_tally snd_var snd_nil))) (snd_test (snd_opW s_neD (snd_methM (by decide) u_Machine_walk snd_var snd_nil) (snd_fz (snd_lst snd_nil)))))) (snd_ret (snd_bl false)) snd_next)
  (snd_ret (snd_opW s_eqD (snd_fz (snd_slW snd_var snd_noPart (snd_part (snd_int 10)))) (snd_fz (snd_lc (snd_iList (snd_call u_k04_words snd_nil)) snd_gName (tgt_name _) snd_yes (snd_tup (snd_cons snd_var (snd_cons (snd_if (snd_tB (snd_dinO snd_var snd_var)) (snd_dgetO snd_var snd_var) (snd_int 0)) snd_nil)))))))))))))))))
structure KI (ss i i' D L b : Nat) (cut : Int) (W : Wld) (s q : Int) (wl : List (Str × Int × Int)) : Prop where
  ss : W.ss = ss
  m : W.ms[i]? = some ⟨b, cut, [s, q, 0, 0, 0, 0, 0, 0, 0, 0], wl⟩
  m' : W.ms[i']? = some ⟨b, cut, zeros, []⟩
  d : W.os[D]? = some (.dic [(Str.ofString "short", s), (Str.ofString "sum", q)])
  l : W.os[L]? = some (.lst (wl.map dW))
  ne : i ≠ i'
  nD : D ≠ L
theorem KI.addO {ss i i' D L b : Nat} {cut : Int} {W : Wld} {s q : Int} {wl : List (Str × Int × Int)} (h : KI ss i i' D L b cut W s q wl) (o : Pu.Obj) : KI ss i i' D L b cut (W.addO o) s q wl := by
  refine ⟨h.ss, h.m, h.m', ?_, ?_, h.ne, h.nD⟩
  · show (W.os ++ [o])[D]? = _
    rw [List.getElem?_append_left (List.getElem?_eq_some_iff.mp h.d).1]
    exact h.d
  · show (W.os ++ [o])[L]? = _
    rw [List.getElem?_append_left (List.getElem?_eq_some_iff.mp h.l).1]
    exact h.l
theorem methML {P : PSp} {i n : Nat} {e : Pu.Env} {w : Wld} {K : List Dat → Pu.Env → Wld → Prop} (he : e[n]? = some (.val (.mach i))) (h : P [.mach i] w fun d w => lsOf d fun l => K l e w) : pMethML P (pVar n) pNil e w K := by
  unfold pMethML pVar pNil
  rw [he]
  exact h
theorem e_k04_words {w : Wld} {k : Dat → Wld → Prop} : P_k04_words [] w k = k (.lst (words.map Dat.str)) w := rfl
theorem eLst04 {l : List Dat} {k : List Dat → Prop} : lstOf (.lst l) k = k l := rfl
theorem KI.putT {ss i i' D L b T : Nat} {cut : Int} {W : Wld} {s q : Int} {wl : List (Str × Int × Int)} {o : Pu.Obj} (h : KI ss i i' D L b cut W s q wl) (hT : T ≠ L ∧ T ≠ D) : KI ss i i' D L b cut (W.putO T o) s q wl := by
  refine ⟨h.ss, h.m, h.m', ?_, ?_, h.ne, h.nD⟩
  · rw [putO_ne (Ne.symm hT.2)]
    exact h.d
  · rw [putO_ne (Ne.symm hT.1)]
    exact h.l
theorem dlen04 {ns : List Int} : (dRows ns).length = min 10 ns.length := by
  unfold dRows
  rw [List.length_zipWith]
  rfl
theorem neM {e : Pu.Env} {w : Wld} {K : Dat → Pu.Env → Wld → Prop} {n n' i i' : Nat} {m m' : Mach} (h1 : e[n]? = some (.val (.mach i))) (h2 : e[n']? = some (.val (.mach i'))) (hm : w.ms[i]? = some m) (hm' : w.ms[i']? = some m') (h : K (.bl (!decide (m.b = m'.b ∧ m.cut = m'.cut))) e w) : pNeM (pVar n) (pVar n') e w K := by
  unfold pNeM pVar
  rw [h1]
  show vOf e[n']? _
  rw [h2]
  show onM w i _
  rw [onM_is hm]
  show onM w i' _
  rw [onM_is hm']
  exact h
theorem notN {e : Pu.Env} {w : Wld} {K : Dat → Pu.Env → Wld → Prop} {n i : Nat} (h1 : e[n]? = some (.val (.mach i))) (h : onM w i fun m => K (.bl false) e (w.put i m.rst)) : pNotN (pMethM P_Machine_reset (pVar n) pNil) e w K := by
  unfold pNotN pMethM pVar pNil
  rw [h1]
  exact h
theorem eqM1 {pb : PE} {e : Pu.Env} {w : Wld} {K : Dat → Pu.Env → Wld → Prop} {n i : Nat} (h1 : e[n]? = some (.val (.mach i))) (h : pb e w fun y e' w' => onM w' i fun m => eqMd w' m (fun b => K (.bl b) e' w') y) : pEqM (pVar n) pb e w K := by
  unfold pEqM pVar
  rw [h1]
  exact h
theorem eqM_new {W : Wld} {i i' b b2 : Nat} {cut c2 : Int} {K : Bool → Wld → Prop} (hm : W.ms[i]? = some ⟨b, cut, zeros, []⟩) (hm' : W.ms[i']? = some ⟨b, cut, zeros, []⟩) (hc : ¬ (b = b2 ∧ cut = c2)) (h : ∀ W' : Wld, W'.ss = W.ss → W'.ms[i]? = some ⟨b, cut, zeros, []⟩ → W'.ms[i']? = some ⟨b, cut, zeros, []⟩ → K false W') :
    onM (⟨W.ms ++ [⟨b2, c2, zeros, []⟩], W.ss, W.os⟩ : Wld) i fun m => eqMd ⟨W.ms ++ [⟨b2, c2, zeros, []⟩], W.ss, W.os⟩ m (fun b => K b ⟨W.ms ++ [⟨b2, c2, zeros, []⟩], W.ss, W.os⟩) (.mach W.ms.length) := by
  have h1 : (⟨W.ms ++ [⟨b2, c2, zeros, []⟩], W.ss, W.os⟩ : Wld).ms[i]? = some ⟨b, cut, zeros, []⟩ := by
    show (W.ms ++ [_])[i]? = _
    rw [List.getElem?_append_left (List.getElem?_eq_some_iff.mp hm).1]
    exact hm
  have h2 : (⟨W.ms ++ [⟨b2, c2, zeros, []⟩], W.ss, W.os⟩ : Wld).ms[i']? = some ⟨b, cut, zeros, []⟩ := by
    show (W.ms ++ [_])[i']? = _
    rw [List.getElem?_append_left (List.getElem?_eq_some_iff.mp hm').1]
    exact hm'
  have h3 : (⟨W.ms ++ [⟨b2, c2, zeros, []⟩], W.ss, W.os⟩ : Wld).ms[W.ms.length]? = some ⟨b2, c2, zeros, []⟩ := List.getElem?_concat_length
  rw [onM_is h1]
  show onM _ W.ms.length _
  rw [onM_is h3]
  show K (decide (b = b2 ∧ cut = c2)) _
  rw [decide_eq_false hc]
  exact h _ rfl h1 h2
theorem ne04 : ¬ (Str.ofString "sum" = Str.ofString "short") := by decide +kernel
theorem ne04' : ¬ (Str.ofString "short" = Str.ofString "sum") := by decide +kernel
theorem lk1 {s q : Int} : List.lookup (Str.ofString "short") [(Str.ofString "short", s), (Str.ofString "sum", q)] = some s := by simp [List.lookup]
theorem lk2 {s q : Int} : List.lookup (Str.ofString "sum") [(Str.ofString "short", s), (Str.ofString "sum", q)] = some q := by
  have : (Str.ofString "sum" == Str.ofString "short") = false := by simpa using ne04
  simp [List.lookup, this]
theorem pt1 {s q n : Int} : putS [(Str.ofString "short", s), (Str.ofString "sum", q)] (Str.ofString "short") n = [(Str.ofString "short", n), (Str.ofString "sum", q)] := by
  unfold putS
  simp [ne04]
theorem pt2 {s q n : Int} : putS [(Str.ofString "short", s), (Str.ofString "sum", q)] (Str.ofString "sum") n = [(Str.ofString "short", s), (Str.ofString "sum", n)] := by
  unfold putS
  simp [ne04']
theorem dcA {w : Wld} {j : Nat} {l : List (Str × Int)} {k : List (Str × Int) → Prop} (h : w.os[j]? = some (.dic l)) : dcAt w j k = k l := by unfold dcAt; rw [h]
theorem lsA {w : Wld} {j : Nat} {l : List Dat} {k : List Dat → Prop} (h : w.os[j]? = some (.lst l)) : lsAt w j k = k l := by unfold lsAt; rw [h]
theorem KI.tick {ss i i' D L b : Nat} {cut : Int} {W : Wld} {s q : Int} {wl : List (Str × Int × Int)} (h : KI ss i i' D L b cut W s q wl) : KI ss i i' D L b cut ((W.put i ((⟨b, cut, [s, q, 0, 0, 0, 0, 0, 0, 0, 0], wl⟩ : Mach).cnt 0 1)).putO D (.dic [(Str.ofString "short", s + 1), (Str.ofString "sum", q)])) (s + 1) q wl := by
  refine ⟨h.ss, ?_, ?_, putO_at h.d, ?_, h.ne, h.nD⟩
  · exact put_at h.m
  · show (W.put i _).ms[i']? = _
    rw [put_ne (Ne.symm h.ne)]
    exact h.m'
  · rw [putO_ne (Ne.symm h.nD)]
    exact h.l
theorem KI.add {ss i i' D L b : Nat} {cut : Int} {W : Wld} {s q x y z : Int} {wl : List (Str × Int × Int)} (h : KI ss i i' D L b cut W s q wl) (hl : wl.length < 1000) : KI ss i i' D L b cut (((W.put i (((⟨b, cut, [s, q, 0, 0, 0, 0, 0, 0, 0, 0], wl⟩ : Mach).ent (Str.ofString "add") x y).cnt 1 z)).putO D (.dic [(Str.ofString "short", s), (Str.ofString "sum", q + z)])).putO L (.lst (wl.map dW ++ [dW (Str.ofString "add", x, y)]))) s (q + z) (wl ++ [(Str.ofString "add", x, y)]) := by
  refine ⟨h.ss, ?_, ?_, ?_, ?_, h.ne, h.nD⟩
  · refine (put_at h.m).trans ?_
    unfold Mach.ent
    rw [if_pos hl]
    rfl
  · show (W.put i _).ms[i']? = _
    rw [put_ne (Ne.symm h.ne)]
    exact h.m'
  · rw [putO_ne h.nD]
    exact putO_at h.d
  · rw [List.map_append]
    refine putO_at (o := .lst (wl.map dW)) ?_
    rw [putO_ne (Ne.symm h.nD)]
    exact h.l
theorem lt_digs4 {b x k : Nat} (hb : b ≠ 0) (h : (digs b x).length ≤ k) : x < 2 ^ (b * k) := by
  have := val_lt (digs_lt (b := b) hb x)
  rw [val_digs hb] at this
  exact Nat.lt_of_lt_of_le this (Nat.pow_le_pow_right (by decide) (Nat.mul_le_mul_left _ h))
theorem dg04 {b m : Nat} (h8 : 8 ≤ b) : (digs b (((2 ^ b : Nat) : Int) ^ m - 1).natAbs).length = m ∧ (((2 ^ b : Nat) : Int) ^ m - 1).natAbs = 2 ^ (b * m) - 1 := by
  have e : (((2 ^ b : Nat) : Int) ^ m - 1).natAbs = 2 ^ (b * m) - 1 := by
    rw [← Int.natCast_pow, ← Nat.pow_mul]
    have := Nat.two_pow_pos (b * m)
    omega
  refine ⟨?_, e⟩
  rw [e]
  have hp := Nat.two_pow_pos (b * m)
  have h1 : (digs b (2 ^ (b * m) - 1)).length ≤ m := digs_length_le (by omega) _ (by omega)
  rcases Nat.lt_or_ge (digs b (2 ^ (b * m) - 1)).length m with z | z
  · exfalso
    obtain ⟨m', rfl⟩ : ∃ m', m = m' + 1 := ⟨m - 1, by omega⟩
    have h2 := lt_digs4 (b := b) (x := 2 ^ (b * (m' + 1)) - 1) (k := m') (by omega) (by omega)
    rw [Nat.mul_succ, Nat.pow_add] at h2
    have h3 : 2 ^ 8 ≤ 2 ^ b := Nat.pow_le_pow_right (by decide) h8
    have h4 := Nat.mul_le_mul_left (2 ^ (b * m')) h3
    have h5 := Nat.two_pow_pos (b * m')
    omega
  · omega
def valOf (s q : Int) (t : Str) : Int := (List.lookup t [(Str.ofString "short", s), (Str.ofString "sum", q)]).getD 0
theorem valOf_if {s q : Int} {t : Str} : valOf s q t = if decide (t = Str.ofString "short") = true then s else if decide (t = Str.ofString "sum") = true then q else 0 := by
  unfold valOf
  by_cases h1 : t = Str.ofString "short"
  · subst h1
    rw [lk1, if_pos (by simp)]
    rfl
  · rw [if_neg (by simpa using h1)]
    by_cases h2 : t = Str.ofString "sum"
    · subst h2
      rw [lk2, if_pos (by simp)]
      rfl
    · rw [if_neg (by simpa using h2)]
      have e1 : (t == Str.ofString "short") = false := by simpa using h1
      have e2 : (t == Str.ofString "sum") = false := by simpa using h2
      simp [List.lookup, e1, e2]
theorem codes04 : words.map (fun t => (decide (t = Str.ofString "short"), decide (t = Str.ofString "sum"))) = [(true, false), (false, true), (false, false), (false, false), (false, false), (false, false), (false, false), (false, false), (false, false), (false, false)] := by decide +kernel
theorem zip04 {f : Str → Bool × Bool} {g : Str → Bool × Bool → Dat} : ∀ ws : List Str, List.zipWith g ws (ws.map f) = ws.map fun t => g t (f t)
  | [] => rfl
  | t :: ws => by rw [List.map_cons, List.zipWith_cons_cons, zip04 ws]; rfl
theorem rows04 {s q : Int} : (words.map fun t => Dat.tup [.str t, .int (valOf s q t)]) = dRows [s, q, 0, 0, 0, 0, 0, 0, 0, 0] := by
  have h := zip04 (f := fun t => (decide (t = Str.ofString "short"), decide (t = Str.ofString "sum"))) (g := fun t c => Dat.tup [.str t, .int (if c.1 = true then s else if c.2 = true then q else 0)]) words
  rw [codes04] at h
  have e : (words.map fun t => Dat.tup [.str t, .int (valOf s q t)]) = words.map fun t => Dat.tup [.str t, .int (if decide (t = Str.ofString "short") = true then s else if decide (t = Str.ofString "sum") = true then q else 0)] := by
    congr 1
    funext t
    rw [valOf_if]
  rw [e]
  exact h.symm
theorem k04_if {e : Pu.Env} {V : Wld} {t : Str} {D : Nat} {s q : Int} {K : Dat → Pu.Env → Wld → Prop} (h4 : e[4]? = some (.val (.ob D))) (h12 : e[12]? = some (.val (.str t))) (hd : V.os[D]? = some (.dic [(Str.ofString "short", s), (Str.ofString "sum", q)])) (h : K (.int (valOf s q t)) e V) : pIf (pTest (pDInO (pVar 12) (pVar 4))) (pDGetO (pVar 4) (pVar 12)) (pC (.int 0)) e V K := by
  unfold pIf pTest pDInO pDGetO pVar pC
  simp only [h4, h12]
  show dcAt V D _
  rw [dcA hd]
  unfold valOf at h
  cases hl : List.lookup t [(Str.ofString "short", s), (Str.ofString "sum", q)] with
  | none => rw [hl] at h; exact h
  | some v =>
    rw [hl] at h
    show dcAt V D _
    rw [dcA hd]
    exact ⟨v, hl, h⟩
theorem k04_tup {e : Pu.Env} {V : Wld} {t : Str} {D : Nat} {s q : Int} {K : Dat → Pu.Env → Wld → Prop} (h4 : e[4]? = some (.val (.ob D))) (h12 : e[12]? = some (.val (.str t))) (hd : V.os[D]? = some (.dic [(Str.ofString "short", s), (Str.ofString "sum", q)])) (hz : 2 ≤ sizeLine) (h : K (.tup [.str t, .int (valOf s q t)]) e V) : pTup (pCons (pVar 12) (pCons (pIf (pTest (pDInO (pVar 12) (pVar 4))) (pDGetO (pVar 4) (pVar 12)) (pC (.int 0))) pNil)) e V K := by
  unfold pTup pCons pNil
  show pVar 12 e V _
  unfold pVar
  rw [h12]
  exact k04_if h4 h12 hd ⟨hz, h⟩
theorem k04_lc {D : Nat} {s q : Int} {K : List Dat → Pu.Env → Wld → Prop} {V : Wld} {x0 x1 x2 x3 x5 x6 x7 x8 x9 x10 x11 x13 : Slot} (hd : V.os[D]? = some (.dic [(Str.ofString "short", s), (Str.ofString "sum", q)])) : ∀ (ws : List Str) (acc : List Dat), ws.length + acc.length ≤ 100 → K (acc ++ ws.map fun t => .tup [.str t, .int (valOf s q t)]) [x0, x1, x2, x3, .val (.ob D), x5, x6, x7, x8, x9, x10, x11, .no, x13] V →
    lcp (pgName 12) pYes (pTup (pCons (pVar 12) (pCons (pIf (pTest (pDInO (pVar 12) (pVar 4))) (pDGetO (pVar 4) (pVar 12)) (pC (.int 0))) pNil))) [12] K (ws.map Dat.str) acc [x0, x1, x2, x3, .val (.ob D), x5, x6, x7, x8, x9, x10, x11, .no, x13] V
  | [], acc, _, h => by
    rw [List.map_nil, List.append_nil] at h
    exact h
  | t :: ws, acc, hl, h => by
    have hz := sizeLine_eq
    rw [List.length_cons] at hl
    rw [List.map_cons, lcp_cons]
    simp only [pgName, pYes, ↓reduceIte]
    refine k04_tup (D := D) (s := s) (q := q) rfl rfl hd (by omega) ?_
    refine ⟨by omega, ?_⟩
    refine k04_lc hd ws (acc ++ [.tup [.str t, .int (valOf s q t)]]) (by rw [List.length_append, List.length_singleton]; omega) ?_
    rw [List.append_assoc]
    exact h
theorem pl_rows04 (ns : List Int) : pl (.lst (dRows ns)) := by
  show ((dRows ns).all (plF 8)) = true
  have hs : ∀ s ∈ words, PyData.strOk s = true := by decide +kernel
  unfold dRows
  generalize words = ws at hs
  induction ws generalizing ns with
  | nil => rfl
  | cons t ws ih =>
    cases ns with
    | nil => rfl
    | cons n ns =>
      rw [List.zipWith_cons_cons, List.all_cons, ih ns fun s h => hs s (List.mem_cons_of_mem _ h), Bool.and_true]
      have := hs t (List.mem_cons_self ..)
      simp only [plF, List.all_cons, List.all_nil, this, Bool.and_self]
theorem pl_W04 {l : List (Str × Int × Int)} (h : ∀ p ∈ l, p.1 = Str.ofString "add") : pl (.lst (l.map dW)) := by
  show ((l.map dW).all (plF 8)) = true
  rw [List.all_eq_true]
  intro d hd
  obtain ⟨p, hp, rfl⟩ := List.mem_map.mp hd
  have e := h p hp
  have : PyData.strOk p.1 = true := by rw [e]; decide +kernel
  unfold dW
  simp only [plF, List.all_cons, List.all_nil, this, Bool.and_self]
theorem w_k04_counts : ∀ ds w k, P_k04_counts ds w k → p_k04_counts (pen k) (env0 14 ds) w := by
  intro ds w k h
  unfold P_k04_counts at h
  split at h
  · rename_i j i i' B
    obtain ⟨hj, hne, b, cut, rfl, ⟨h8, h30, hcut⟩, hm, hm', h⟩ := h
    have hz := sizeLine_eq
    unfold p_k04_counts
    walk_at "pu"
    refine ⟨⟨by decide, by decide⟩, by omega, by omega, ?_⟩
    have hL : (w.addO (Obj.dic [(Str.ofString "short", 0), (Str.ofString "sum", 0)])).os.length = w.os.length + 1 := by
      show (w.os ++ [_]).length = _
      rw [List.length_append]; rfl
    rw [hL]
    obtain ⟨W, hW⟩ : ∃ W, W = (w.addO (Obj.dic [(Str.ofString "short", 0), (Str.ofString "sum", 0)])).addO (Obj.lst []) := ⟨_, rfl⟩
    rw [← hW]
    have hI : KI w.ss i i' w.os.length (w.os.length + 1) b cut W 0 0 [] := by
      subst hW
      refine ⟨rfl, hm, hm', ?_, ?_, hne, by omega⟩
      · show ((w.os ++ [_]) ++ [_])[w.os.length]? = _
        rw [List.append_assoc, List.getElem?_append_right (Nat.le_refl _), Nat.sub_self]
        rfl
      · show ((w.os ++ [_]) ++ [_])[w.os.length + 1]? = _
        rw [List.append_assoc, List.getElem?_append_right (by omega), show w.os.length + 1 - w.os.length = 1 by omega]
        rfl
    clear hW hL hm hm'
    generalize w.os.length + 1 = L at hI ⊢
    generalize w.os.length = D at hI ⊢
    generalize w.ss = ss at hI hj h ⊢
    unfold r1_k04_counts
    walk_at "pu"
    refine ⟨by rw [hI.ss]; exact hj, nxOk (by decide) (by decide), fun r hr0 hr => ?_⟩
    walk_at "pu"
    refine ⟨⟨by omega, by omega⟩, ?_⟩
    refine lp_ind (fun t e W => ∃ (s q : Int) (wl : List (Str × Int × Int)) (y6 y7 y8 y9 y10 : Slot), KI ss i i' D L b cut W s q wl ∧ (wl.length ≤ t ∧ ∀ p ∈ wl, p.1 = Str.ofString "add") ∧ e = [.val (.src j), .val (.mach i), .val (.mach i'), .val (.int ((2 ^ b : Nat) : Int)), .val (.ob D), .val (.ob L), y6, y7, y8, y9, y10, .no, .no, .no]) ⟨0, 0, [], _, _, _, _, _, hI, ⟨Nat.le_refl _, by simp⟩, rfl⟩ ?_ ?_
    · rintro t d e W nx hd ⟨s, q, wl, y6, y7, y8, y9, y10, hI, ⟨hwl, hwa⟩, rfl⟩ hn
      unfold b1_k04_counts
      walk_at "pu"
      refine ⟨by rw [hI.ss]; exact hj, nxOk (by decide) (by decide), fun r7 ha0 ha => ?_⟩
      refine ⟨by rw [hI.ss]; exact hj, nxOk (by decide) (by decide), fun r8 hb0 hb => ?_⟩
      walk_at "pu"
      obtain ⟨m, rfl⟩ : ∃ m : Nat, r7 = (m : Int) := ⟨r7.toNat, by omega⟩
      obtain ⟨n, rfl⟩ : ∃ n : Nat, r8 = (n : Int) := ⟨r8.toNat, by omega⟩
      have hB : (0 : Int) ≤ ((2 ^ b : Nat) : Int) ∧ ((2 ^ b : Nat) : Int) < 2 ^ 64 := by
        have : 2 ^ b ≤ 2 ^ 30 := Nat.pow_le_pow_right (by decide) h30
        generalize 2 ^ b = P at this ⊢
        omega
      obtain ⟨ht, _⟩ := rng_get hd
      obtain ⟨lm, em⟩ := dg04 (b := b) (m := m) h8
      obtain ⟨ln, en⟩ := dg04 (b := b) (m := n) h8
      rw [e_z_power]
      refine ⟨⟨hB.1, hB.2, by omega, by omega⟩, ?_⟩
      walk_at "pu"
      rw [onM_is hI.m, Int.toNat_natCast]
      refine ⟨by show b ≠ 0; omega, by show (digs b _).length < _; rw [lm]; omega, ?_⟩
      rw [e_z_power]
      refine ⟨⟨hB.1, hB.2, by omega, by omega⟩, ?_⟩
      walk_at "pu"
      rw [onM_is hI.m, Int.toNat_natCast]
      refine ⟨by show b ≠ 0; omega, by show (digs b _).length < _; rw [ln]; omega, ?_⟩
      refine d_z_add.mpr ?_
      rw [onM_is hI.m]
      refine ⟨⟨rfl, rfl⟩, ⟨⟨by show b ≠ 0; omega, h30, by show (digs b _).length < _; rw [lm]; omega⟩, ⟨by show b ≠ 0; omega, h30, by show (digs b _).length < _; rw [ln]; omega⟩⟩, ?_⟩
      have hm0 : ∀ z : Nat, ¬ (((2 ^ b : Nat) : Int) ^ z - 1 < 0) := fun z => by
        rw [← Int.natCast_pow]
        have : 1 ≤ (2 ^ b) ^ z := Nat.one_le_pow _ _ (Nat.two_pow_pos b)
        generalize (2 ^ b) ^ z = P at *
        omega
      have hsx : sumX ⟨b, cut, [s, q, 0, 0, 0, 0, 0, 0, 0, 0], wl⟩ true (((2 ^ b : Nat) : Int) ^ m - 1) (((2 ^ b : Nat) : Int) ^ n - 1) = if m ≤ 1 ∧ n ≤ 1 then (⟨b, cut, [s, q, 0, 0, 0, 0, 0, 0, 0, 0], wl⟩ : Mach).cnt 0 1 else ((⟨b, cut, [s, q, 0, 0, 0, 0, 0, 0, 0, 0], wl⟩ : Mach).ent (Str.ofString "add") m n).cnt 1 ((max m n : Nat) : Int) := by
        rw [sumX_eq]
        show (if (digs b _).length ≤ 1 ∧ (digs b _).length ≤ 1 then _ else if _ then (Mach.ent _ _ ((digs b _).length : Int) ((digs b _).length : Int)).cnt 1 ((max (digs b _).length (digs b _).length : Nat) : Int) else _) = _
        rw [lm, ln, decide_eq_false (hm0 m), decide_eq_false (hm0 n)]
        rw [if_pos (show (false == false) = true from rfl)]
      rw [hsx]
      clear hsx hm0 lm ln em en hB
      have hI0 : ∀ M, (W.put i M).os[D]? = some (.dic [(Str.ofString "short", s), (Str.ofString "sum", q)]) := fun M => hI.d
      have hwl2 : wl.length ≤ 12 := by omega
      by_cases c : m ≤ 1 ∧ n ≤ 1
      · rw [if_pos c, if_pos (by omega), if_pos (by omega)]
        show dcAt _ D _
        rw [dcA (hI0 _)]
        refine ⟨s, lk1, ?_⟩
        walk_at "pu"
        rw [dcA (hI0 _), pt1]
        refine ⟨by simp only [List.length_cons, List.length_nil]; omega, ?_⟩
        exact hn _ _ ⟨s + 1, q, wl, _, _, _, _, _, hI.tick, ⟨by omega, hwa⟩, rfl⟩
      · rw [if_neg c]
        by_cases c2 : (m : Int) < 2
        all_goals (first | rw [if_pos c2, if_neg (by omega)] | rw [if_neg c2])
        all_goals (
          show dcAt _ D _
          rw [dcA (hI0 _)]
          refine ⟨q, lk2, ?_⟩
          walk_at "pu"
          rw [dcA (hI0 _), pt2]
          refine ⟨by simp only [List.length_cons, List.length_nil]; omega, ?_⟩
          have hl : ∀ M o, ((W.put i M).putO D o).os[L]? = some (.lst (wl.map dW)) := fun M o => by rw [putO_ne (Ne.symm hI.nD)]; exact hI.l
          rw [lsA (hl _ _), lsA (hl _ _)]
          have hmx : (if (n : Int) > (m : Int) then (n : Int) else (m : Int)) = ((max m n : Nat) : Int) := by
            split <;> omega
          rw [hmx]
          refine ⟨by omega, by rw [List.length_map]; omega, ?_⟩
          exact hn _ _ ⟨s, q + ((max m n : Nat) : Int), wl ++ [(Str.ofString "add", (m : Int), (n : Int))], _, _, _, _, _, hI.add (by omega), ⟨by rw [List.length_append]; simp only [List.length_cons, List.length_nil]; omega, fun p hp => by
            rcases List.mem_append.mp hp with z | z
            · exact hwa p z
            · rw [List.mem_singleton.mp z]⟩, rfl⟩)
    · rintro e W ⟨s, q, wl, y6, y7, y8, y9, y10, hI, ⟨hwl, hwa⟩, rfl⟩
      unfold r2_k04_counts
      walk_at "pu"
      refine methML (i := i) rfl ?_
      rw [e_tally, onM_is hI.m]
      show r3_k04_counts _ [.val (.src j), .val (.mach i), .val (.mach i'), .val (.int ((2 ^ b : Nat) : Int)), .val (.ob D), .val (.ob L), y6, y7, y8, y9, y10, .val (.ob W.os.length), .no, .no] (W.addO (.lst (dRows [s, q, 0, 0, 0, 0, 0, 0, 0, 0])))
      have hT : (W.addO (.lst (dRows [s, q, 0, 0, 0, 0, 0, 0, 0, 0]))).os[W.os.length]? = some (.lst (dRows [s, q, 0, 0, 0, 0, 0, 0, 0, 0])) := List.getElem?_concat_length
      have hI2 : KI ss i i' D L b cut (W.addO (.lst (dRows [s, q, 0, 0, 0, 0, 0, 0, 0, 0]))) s q wl := hI.addO _
      have hTL : W.os.length ≠ L ∧ W.os.length ≠ D := by
        have h1 := (List.getElem?_eq_some_iff.mp hI.l).1
        have h2 := (List.getElem?_eq_some_iff.mp hI.d).1
        omega
      clear hI
      generalize W.addO (.lst (dRows [s, q, 0, 0, 0, 0, 0, 0, 0, 0])) = V at hT hI2 ⊢
      generalize W.os.length = T at hT hTL ⊢
      unfold r3_k04_counts
      walk_at "pu"
      rw [e_k04_words, eLst04]
      refine k04_lc hI2.d words [] (by decide) ?_
      rw [List.nil_append, rows04]
      show lsAt V T _
      rw [lsA hT]
      refine ⟨⟨pl_rows04 _, pl_rows04 _⟩, fun bb e1 _ => ?_⟩
      rw [e1 rfl, if_neg (by decide)]
      unfold r4_k04_counts
      walk_at "pu"
      rw [onM_is hI2.m, lsA hI2.l]
      refine ⟨⟨pl_W04 hwa, pl_W04 hwa⟩, fun bb e1 _ => ?_⟩
      rw [e1 rfl, if_neg (by decide)]
      have hwl2 : wl.length ≤ 12 := by rw [rng_len] at hwl; omega
      unfold r5_k04_counts
      walk_at "pu"
      rw [lsA hT, lsA hT]
      refine ⟨by omega, by rw [dlen04]; omega, ?_⟩
      have hI3 := hI2.putT (o := .lst (dRows [s, q, 0, 0, 0, 0, 0, 0, 0, 0] ++ [.tup [.str (Str.ofString "more"), .int 1]])) hTL
      have hT3 := putO_at (o' := .lst (dRows [s, q, 0, 0, 0, 0, 0, 0, 0, 0] ++ [.tup [.str (Str.ofString "more"), .int 1]])) hT
      clear hI2 hT
      generalize V.putO T (.lst (dRows [s, q, 0, 0, 0, 0, 0, 0, 0, 0] ++ [.tup [.str (Str.ofString "more"), .int 1]])) = V at hI3 hT3 ⊢
      unfold r6_k04_counts
      walk_at "pu"
      refine methML (i := i) rfl ?_
      rw [e_walk, onM_is hI3.m]
      show r7_k04_counts _ [.val (.src j), .val (.mach i), .val (.mach i'), .val (.int ((2 ^ b : Nat) : Int)), .val (.ob D), .val (.ob L), y6, y7, y8, y9, y10, .val (.ob T), .no, .val (.ob V.os.length)] (V.addO (.lst (wl.map dW)))
      have hI4 := hI3.addO (.lst (wl.map dW))
      have hS : (V.addO (.lst (wl.map dW))).os[V.os.length]? = some (.lst (wl.map dW)) := List.getElem?_concat_length
      have hT4 : (V.addO (.lst (wl.map dW))).os[T]? = some (.lst (dRows [s, q, 0, 0, 0, 0, 0, 0, 0, 0] ++ [.tup [.str (Str.ofString "more"), .int 1]])) := by
        show (V.os ++ [_])[T]? = _
        rw [List.getElem?_append_left (List.getElem?_eq_some_iff.mp hT3).1]
        exact hT3
      have hSL : V.os.length ≠ L ∧ V.os.length ≠ D ∧ T ≠ V.os.length := by
        have h1 := (List.getElem?_eq_some_iff.mp hI3.l).1
        have h2 := (List.getElem?_eq_some_iff.mp hI3.d).1
        have h3 := (List.getElem?_eq_some_iff.mp hT3).1
        omega
      clear hI3 hT3
      generalize V.os.length = S at hS hSL ⊢
      generalize V.addO (.lst (wl.map dW)) = V at hI4 hS hT4 ⊢
      unfold r7_k04_counts
      walk_at "pu"
      rw [lsA hS, lsA hS]
      refine ⟨by omega, by rw [List.length_map]; omega, ?_⟩
      have hI5 := hI4.putT (o := .lst (wl.map dW ++ [.tup [.str (Str.ofString "more"), .int 1, .int 1]])) ⟨hSL.1, hSL.2.1⟩
      have hT5 := (putO_ne (w := V) (o' := .lst (wl.map dW ++ [.tup [.str (Str.ofString "more"), .int 1, .int 1]])) hSL.2.2).trans hT4
      clear hI4 hS hT4
      generalize V.putO S (.lst (wl.map dW ++ [.tup [.str (Str.ofString "more"), .int 1, .int 1]])) = V at hI5 hT5 ⊢
      unfold r8_k04_counts
      walk_at "pu"
      rw [onM_is hI5.m, lsA hI5.l]
      refine ⟨⟨pl_W04 hwa, pl_W04 hwa⟩, fun bb e1 _ => ?_⟩
      rw [e1 rfl, if_neg (by decide), onM_is hI5.m, dlen04]
      rw [if_neg (fun z => z (by simp))]
      refine neM rfl rfl hI5.m hI5.m' ?_
      rw [eIsB, if_neg (by simp)]
      walk_at "pu"
      rw [onM_is hI5.m']
      refine ⟨by omega, ⟨rfl, rfl⟩, fun b2 e2 _ => ?_⟩
      rw [e2 rfl, if_neg (by decide)]
      unfold r9_k04_counts
      walk_at "pu"
      refine notN (i := i) rfl ?_
      rw [onM_is hI5.m]
      have hmi : (V.put i (Mach.rst ⟨b, cut, [s, q, 0, 0, 0, 0, 0, 0, 0, 0], wl⟩)).ms[i]? = some ⟨b, cut, zeros, []⟩ := put_at hI5.m
      have hmi' : (V.put i (Mach.rst ⟨b, cut, [s, q, 0, 0, 0, 0, 0, 0, 0, 0], wl⟩)).ms[i']? = some ⟨b, cut, zeros, []⟩ := by rw [put_ne (Ne.symm hI5.ne)]; exact hI5.m'
      have hD6 : (V.put i (Mach.rst ⟨b, cut, [s, q, 0, 0, 0, 0, 0, 0, 0, 0], wl⟩)).os[D]? = _ := hI5.d
      have hT6 : (V.put i (Mach.rst ⟨b, cut, [s, q, 0, 0, 0, 0, 0, 0, 0, 0], wl⟩)).os[T]? = _ := hT5
      have hs6 : (V.put i (Mach.rst ⟨b, cut, [s, q, 0, 0, 0, 0, 0, 0, 0, 0], wl⟩)).ss = ss := hI5.ss
      clear hI5 hT5
      generalize V.put i (Mach.rst ⟨b, cut, [s, q, 0, 0, 0, 0, 0, 0, 0, 0], wl⟩) = V at hmi hmi' hD6 hT6 hs6 ⊢
      walk_at "pu"
      simp only [onM_is hmi, onM_is hmi']
      refine ⟨⟨pl_rows04 _, pl_rows04 _⟩, fun b3 e3 _ => ?_⟩
      rw [e3 trivial, if_neg (by decide)]
      refine ⟨by omega, ⟨rfl, rfl⟩, fun b4 e4 _ => ?_⟩
      rw [e4 rfl, if_neg (by decide)]
      unfold r10_k04_counts
      walk_at "pu"
      rw [lsA hT6, e_k04_words, eLst04]
      have ec : cutD (dRows [s, q, 0, 0, 0, 0, 0, 0, 0, 0] ++ [.tup [.str (Str.ofString "more"), .int 1]]) none (some 10) = dRows [s, q, 0, 0, 0, 0, 0, 0, 0, 0] := rfl
      rw [ec]
      refine k04_lc hD6 words [] (by decide) ?_
      rw [List.nil_append, rows04]
      refine ⟨⟨pl_rows04 _, pl_rows04 _⟩, fun b5 e5 _ => ?_⟩
      rw [e5 rfl]
      exact h _ hs6
  · exact h.elim
theorem b_k04_counts {K : PySem.W.Frag} {c : Pc} {vs : List V} {H : Hp} {Q : VK} {E : XK} {α : Prop} (PM : PM K c) (PB : α) (h : sp_k04_counts K c vs H Q E) : t_k04_counts K c (en0 Q) (st0 14 vs) H := def_ok (sn_k04_counts PM PB) w_k04_counts h
def P_k04_right : PSp := fun ds w k => match ds with
  | [.src j] => j < w.ss ∧ ∀ w', w'.ss = w.ss → k (.bl true) w'
  | _ => False
theorem n_k04_right : ∀ ds w k, P_k04_right ds w k → ds.length = 1 := fun ds w k h => by
  unfold P_k04_right at h
  split at h
  · rfl
  · exact h.elim
theorem e_k04_right {j : Nat} {w : Wld} {k : Dat → Wld → Prop} : P_k04_right [.src j] w k = (j < w.ss ∧ ∀ w', w'.ss = w.ss → k (.bl true) w') := rfl
def sp_k04_right (K : PySem.W.Frag) (c : Pc) : Sp := lif K c P_k04_right
theorem u_k04_right {K : PySem.W.Frag} {c : Pc} : SndP K c (sp_k04_right K c) P_k04_right := SndP.lif
/-- 0:_law_source 1:_law_bits_here 2:_law_cutoff_here 3:_law_one_here 4:_law_other 5:_law_word -/
def t_k04_right (K : PySem.W.Frag) (c : Pc) : TS :=
  (tSeq (tPar 1 2 (tCons (tOp rAdd (tC (.int 8)) (tCall (sp_law_next K c) [] E0 (tCons (tVar 0) (tCons (tC (.int 23)) tNil)))) (tCons (tOp rAdd (tC (.int 2)) (tCall (sp_law_next K c) [] E0 (tCons (tVar 0) (tCons (tC (.int 999)) tNil)))) tNil)))
  (tSeq (tPar 3 4 (tCons (tMake c.CMachine (sp_Machine_init K c) [] E0 (tCons (tVar 1) (tCons (tVar 2) tNil))) (tCons (tMake c.CMachine (sp_Machine_init K c) [] E0 (tPerm [1, 0] 2 (tCons (tVar 2) (tCons (tVar 1) tNil)))) tNil)))
  (tSeq (tIfS (tTest (tOp (rNeD K) (tMeth c.CMachine "parts" (sp_Machine_parts K c) [] E0 (tVar 3) tNil) (tTup (tCons (tVar 1) (tCons (tVar 2) tNil))))) (tRet (tC (.bl false))) tNext)
  (tSeq (tIfS (tTest (tOp (rOwnNe K c.CMachine (sp_Machine_eq K c) E0) (tVar 3) (tVar 4))) (tRet (tC (.bl false))) tNext)
  (tSeq (tIfS (tTest (tOp (rOwnEq K c.CMachine (sp_Machine_eq K c) E0) (tVar 3) (tMake c.CMachine (sp_Machine_init K c) [] E0 (tCons (tVar 1) (tCons (tIf (tTest (tOp rGt (tVar 2) (tC (.int 2)))) (tC (.int 2)) (tC (.int 3))) tNil))))) (tRet (tC (.bl false))) tNext)
  (tSeq (tIfS (tTest (tOp (rOwnEq K c.CMachine (sp_Machine_eq K c) E0) (tVar 3) (tTup (tCons (tVar 1) (tCons (tVar 2) tNil))))) (tRet (tC (.bl false))) tNext)
  (tSeq (tIfS (tTest (tOp (rOwnEq K c.CMachine (sp_Machine_eq K c) E0) (tVar 3) (tMake c.CMachine (sp_Machine_init K c) [] E0 (tCons (tIf (tTest (tOp rGt (tVar 1) (tC (.int 8)))) (tOp rSub (tVar 1) (tC (.int 1))) (tC (.int 9))) (tCons (tVar 2) tNil))))) (tRet (tC (.bl false))) tNext)
  (tSeq (tIfS (tTest (tOp (rNeD K) (tMeth c.CMachine "tally" (sp_Machine_tally K c) [] E0 (tVar 3) tNil) (tLc (iList K (tCall (sp_k04_words K c) [] E0 tNil)) (gName 5) tYes (tTup (tCons (tVar 5) (tCons (tC (.int 0)) tNil))) [5]))) (tRet (tC (.bl false))) tNext)
  (tRet (tCall (sp_k04_counts K c) [] E0 (tCons (tVar 0) (tCons (tVar 3) (tCons (tVar 4) (tCons (tOp rShl (tC (.int 1)) (tVar 1)) tNil))))))))))))))
def r8_k04_right : PS :=
  (pRet (pCall P_k04_counts (pCons (pVar 0) (pCons (pVar 3) (pCons (pVar 4) (pCons (pOp qShl (pC (.int 1)) (pVar 1)) pNil))))))
def r7_k04_right : PS :=
  (pSeq (pIfS (pTest (pOp qNeD (pMethM P_Machine_tally (pVar 3) pNil) (pFz (pLc (pIL (pCall P_k04_words pNil)) (pgName 5) pYes (pTup (pCons (pVar 5) (pCons (pC (.int 0)) pNil))) [5])))) (pRet (pC (.bl false))) pNext)
  r8_k04_right)
def r6_k04_right : PS :=
  (pSeq (pIfS (pTest (pEqM (pVar 3) (pCallD P_Machine [] (pCons (pIf (pTest (pOp qGt (pVar 1) (pC (.int 8)))) (pOp qSub (pVar 1) (pC (.int 1))) (pC (.int 9))) (pCons (pVar 2) pNil))))) (pRet (pC (.bl false))) pNext)
  r7_k04_right)
def r5_k04_right : PS :=
  (pSeq (pIfS (pTest (pEqM (pVar 3) (pTup (pCons (pVar 1) (pCons (pVar 2) pNil))))) (pRet (pC (.bl false))) pNext)
  r6_k04_right)
def r4_k04_right : PS :=
  (pSeq (pIfS (pTest (pEqM (pVar 3) (pCallD P_Machine [] (pCons (pVar 1) (pCons (pIf (pTest (pOp qGt (pVar 2) (pC (.int 2)))) (pC (.int 2)) (pC (.int 3))) pNil))))) (pRet (pC (.bl false))) pNext)
  r5_k04_right)
def r3_k04_right : PS :=
  (pSeq (pIfS (pTest (pNeM (pVar 3) (pVar 4))) (pRet (pC (.bl false))) pNext)
  r4_k04_right)
def r2_k04_right : PS :=
  (pSeq (pIfS (pTest (pOp qNeD (pMethM P_Machine_parts (pVar 3) pNil) (pTup (pCons (pVar 1) (pCons (pVar 2) pNil))))) (pRet (pC (.bl false))) pNext)
  r3_k04_right)
def r1_k04_right : PS :=
  (pSeq (pPar [3, 4] (pCons (pCallD P_Machine [] (pCons (pVar 1) (pCons (pVar 2) pNil))) (pCons (pCallD P_Machine [] (pPerm [1, 0] 2 (pCons (pVar 2) (pCons (pVar 1) pNil)))) pNil)))
  r2_k04_right)
def p_k04_right : PS :=
  (pSeq (pPar [1, 2] (pCons (pOp qAdd (pC (.int 8)) (pCall P_law_next (pCons (pVar 0) (pCons (pC (.int 23)) pNil)))) (pCons (pOp qAdd (pC (.int 2)) (pCall P_law_next (pCons (pVar 0) (pCons (pC (.int 999)) pNil)))) pNil)))
  r1_k04_right)
theorem sn_k04_right {K : PySem.W.Frag} {c : Pc} {α : Prop} (PM : PM K c) (PB : α) (IS : IsiK K c) : SndS K c (t_k04_right K c) p_k04_right :=
  (snd_seq (snd_par (snd_cons (snd_op s_add (snd_int 8) (snd_call u_law_next (snd_cons snd_var (snd_cons (snd_int 23) snd_nil)))) (snd_cons (snd_op s_add (snd_int 2) (snd_call u_law_next (snd_cons snd_var (snd_cons (snd_int 999) snd_nil)))) snd_nil)))
  (snd_seq (snd_par (snd_cons (snd_mkM (fun _ => .nil) (snd_cons snd_var (snd_cons snd_var snd_nil))) (snd_cons (snd_mkM (fun _ => .nil) (snd_perm (snd_cons snd_var (snd_cons snd_var snd_nil)))) snd_nil)))
  (snd_seq (snd_ifS (snd_test (snd_op s_neD (snd_methM (by decide) u_Machine_parts snd_var snd_nil) (snd_tup (snd_cons snd_var (snd_cons snd_var snd_nil))))) (snd_ret (snd_bl false)) snd_next)
  (snd_seq (snd_ifS (snd_test (snd_neM snd_var snd_var)) (snd_ret (snd_bl false)) snd_next)
  (snd_seq (snd_ifS (snd_test (snd_eqM IS snd_var (snd_mkM (fun _ => .nil) (snd_cons snd_var (snd_cons (snd_if (snd_test (snd_op s_gt snd_var (snd_int 2))) (snd_int 2) (snd_int 3)) snd_nil))))) (snd_ret (snd_bl false)) snd_next)
  (snd_seq (snd_ifS (snd_test (snd_eqM IS snd_var (snd_tup (snd_cons snd_var (snd_cons snd_var snd_nil))))) (snd_ret (snd_bl false)) snd_next)
  (snd_seq (snd_ifS (snd_test (snd_eqM IS snd_var (snd_mkM (fun _ => .nil) (snd_cons (snd_if (snd_test (snd_op s_gt snd_var (snd_int 8))) (snd_op s_sub snd_var (snd_int 1)) (snd_int 9)) (snd_cons snd_var snd_nil))))) (snd_ret (snd_bl false)) snd_next)
  (snd_seq (snd_ifS (snd_test (snd_op s_neD (snd_methM (by decide) u_Machine_tally snd_var snd_nil) (snd_fz (snd_lc (snd_iList (snd_call u_k04_words snd_nil)) snd_gName (tgt_name _) snd_yes (snd_tup (snd_cons snd_var (snd_cons (snd_int 0) snd_nil))))))) (snd_ret (snd_bl false)) snd_next)
  (snd_ret (snd_call u_k04_counts (snd_cons snd_var (snd_cons snd_var (snd_cons snd_var (snd_cons (snd_op s_shl (snd_int 1) snd_var) snd_nil))))))))))))))
theorem k04_lc0 {K : List Dat → Pu.Env → Wld → Prop} {V : Wld} {x0 x1 x2 x3 x4 : Slot} : ∀ (ws : List Str) (acc : List Dat), ws.length + acc.length ≤ 100 → K (acc ++ ws.map fun t => .tup [.str t, .int 0]) [x0, x1, x2, x3, x4, .no] V →
    lcp (pgName 5) pYes (pTup (pCons (pVar 5) (pCons (pC (.int 0)) pNil))) [5] K (ws.map Dat.str) acc [x0, x1, x2, x3, x4, .no] V
  | [], acc, _, h => by
    rw [List.map_nil, List.append_nil] at h
    exact h
  | t :: ws, acc, hl, h => by
    have hz := sizeLine_eq
    rw [List.length_cons] at hl
    rw [List.map_cons, lcp_cons]
    walk_at "pu"
    refine ⟨by omega, by omega, ?_⟩
    refine k04_lc0 ws (acc ++ [.tup [.str t, .int 0]]) (by rw [List.length_append, List.length_singleton]; omega) ?_
    rw [List.append_assoc]
    exact h
theorem rows04z : (words.map fun t => Dat.tup [.str t, .int 0]) = dRows zeros := rfl
theorem shl1X4 {b : Nat} {k : Dat → Prop} (h : b ≤ 1000) : qShl (.int 1) (.int (b : Int)) k = k (.int ((2 ^ b : Nat) : Int)) := by
  rw [eShl]
  have e : (1 : Int) * 2 ^ ((b : Int)).toNat = ((2 ^ b : Nat) : Int) := by
    rw [Int.one_mul, Int.toNat_natCast, Int.natCast_pow]
    rfl
  rw [e]
  exact propext ⟨fun z => z.2, fun z => ⟨shl_one (by omega), z⟩⟩
theorem k04_r7 {w : Wld} {k : Dat → Wld → Prop} {i i' j b : Nat} {cut : Int} (hj : j < w.ss) (hne : i ≠ i') (hb : 8 ≤ b ∧ b ≤ 30 ∧ 2 ≤ cut ∧ cut ≤ 1000) (hm : w.ms[i]? = some ⟨b, cut, zeros, []⟩) (hm' : w.ms[i']? = some ⟨b, cut, zeros, []⟩) (h : ∀ w', w'.ss = w.ss → k (.bl true) w') :
    r7_k04_right ⟨fun x w => k Dat.non w, fun d x w => k d w, fun x x_1 => False, fun x x_1 => False⟩ [.val (.src j), .val (.int (b : Int)), .val (.int cut), .val (.mach i), .val (.mach i'), .no] w := by
  have hz := sizeLine_eq
  unfold r7_k04_right
  walk_at "pu"
  rw [onM_is hm, e_k04_words, eLst04]
  refine k04_lc0 words [] (by decide) ?_
  rw [List.nil_append, rows04z]
  refine ⟨⟨pl_rows04 _, pl_rows04 _⟩, fun b1 e1 _ => ?_⟩
  rw [e1 rfl, if_neg (by decide)]
  unfold r8_k04_right
  walk_at "pu"
  rw [shl1X4 (show b ≤ 1000 by omega)]
  rw [e_k04_counts]
  exact ⟨hj, hne, b, cut, rfl, ⟨hb.1, hb.2.1, hb.2.2.1⟩, hm, hm', h⟩
theorem k04_r5 {w : Wld} {k : Dat → Wld → Prop} {i i' j b : Nat} {cut : Int} (hj : j < w.ss) (hne : i ≠ i') (hb : 8 ≤ b ∧ b ≤ 30 ∧ 2 ≤ cut ∧ cut ≤ 1000) (hm : w.ms[i]? = some ⟨b, cut, zeros, []⟩) (hm' : w.ms[i']? = some ⟨b, cut, zeros, []⟩) (h : ∀ w', w'.ss = w.ss → k (.bl true) w') :
    r5_k04_right ⟨fun x w => k Dat.non w, fun d x w => k d w, fun x x_1 => False, fun x x_1 => False⟩ [.val (.src j), .val (.int (b : Int)), .val (.int cut), .val (.mach i), .val (.mach i'), .no] w := by
  have hz := sizeLine_eq
  unfold r5_k04_right
  walk_at "pu"
  refine eqM1 (i := i) rfl ?_
  walk_at "pu"
  refine ⟨by omega, ?_⟩
  rw [onM_is hm]
  show (if (false : Bool) = true then k (Dat.bl false) w else r6_k04_right ⟨fun x w => k Dat.non w, fun d x w => k d w, fun x x_1 => False, fun x x_1 => False⟩ [.val (.src j), .val (.int (b : Int)), .val (.int cut), .val (.mach i), .val (.mach i'), .no] w)
  rw [if_neg (by decide)]
  unfold r6_k04_right
  walk_at "pu"
  refine eqM1 (i := i) rfl ?_
  walk_at "pu"
  have go7 : ∀ W' : Wld, W'.ss = w.ss → W'.ms[i]? = some ⟨b, cut, zeros, []⟩ → W'.ms[i']? = some ⟨b, cut, zeros, []⟩ → r7_k04_right ⟨fun x w => k Dat.non w, fun d x w => k d w, fun x x_1 => False, fun x x_1 => False⟩ [.val (.src j), .val (.int (b : Int)), .val (.int cut), .val (.mach i), .val (.mach i'), .no] W' := fun W' a1 a2 a3 => k04_r7 (by rw [a1]; exact hj) hne hb a2 a3 fun w' e => h w' (e.trans a1)
  refine ite_2 (fun c2 => ?_) fun c2 => ?_
  · refine ⟨⟨by omega, by omega, by omega, by omega⟩, ?_⟩
    exact eqM_new (c2 := cut) (K := fun bb V => if bb = true then k (Dat.bl false) V else r7_k04_right ⟨fun x w => k Dat.non w, fun d x w => k d w, fun x x_1 => False, fun x x_1 => False⟩ [.val (.src j), .val (.int (b : Int)), .val (.int cut), .val (.mach i), .val (.mach i'), .no] V) hm hm' (fun z => by omega) fun W' a1 a2 a3 => by
      rw [if_neg (by decide)]
      exact go7 W' a1 a2 a3
  · refine ⟨⟨by omega, by omega, by omega, by omega⟩, ?_⟩
    exact eqM_new (c2 := cut) (K := fun bb V => if bb = true then k (Dat.bl false) V else r7_k04_right ⟨fun x w => k Dat.non w, fun d x w => k d w, fun x x_1 => False, fun x x_1 => False⟩ [.val (.src j), .val (.int (b : Int)), .val (.int cut), .val (.mach i), .val (.mach i'), .no] V) hm hm' (fun z => by omega) fun W' a1 a2 a3 => by
      rw [if_neg (by decide)]
      exact go7 W' a1 a2 a3
theorem w_k04_right : ∀ ds w k, P_k04_right ds w k → p_k04_right (pen k) (env0 6 ds) w := by
  intro ds w k h
  unfold P_k04_right at h
  split at h
  · rename_i j
    obtain ⟨hj, h⟩ := h
    have hz := sizeLine_eq
    unfold p_k04_right
    walk_at "pu"
    refine ⟨hj, nxOk (by decide) (by decide), fun r hr0 hr => ?_⟩
    refine ⟨hj, nxOk (by decide) (by decide), fun c hc0 hc => ?_⟩
    unfold r1_k04_right
    walk_at "pu"
    refine ⟨⟨by omega, by omega, by omega, by omega⟩, ?_⟩
    obtain ⟨b, hb⟩ : ∃ b : Nat, 8 + r = (b : Int) := ⟨(8 + r).toNat, by omega⟩
    rw [hb, Int.toNat_natCast]
    show [Dat.int (2 + c), Dat.int (b : Int)].length = 2 ∧ P_Machine [Dat.int (b : Int), Dat.int (2 + c)] _ _
    refine ⟨rfl, ?_⟩
    rw [e_Machine, Int.toNat_natCast]
    refine ⟨⟨by omega, by omega, by omega, by omega⟩, ?_⟩
    have hcut : 2 ≤ 2 + c ∧ 2 + c ≤ 1000 := ⟨by omega, by omega⟩
    generalize 2 + c = cut at *
    obtain ⟨W, hW⟩ : ∃ W : Wld, W = ⟨(w.ms ++ [⟨b, cut, zeros, []⟩]) ++ [⟨b, cut, zeros, []⟩], w.ss, w.os⟩ := ⟨_, rfl⟩
    have hm : W.ms[w.ms.length]? = some ⟨b, cut, zeros, []⟩ := by
      rw [hW]
      show ((w.ms ++ [_]) ++ [_])[w.ms.length]? = _
      rw [List.append_assoc, List.getElem?_append_right (Nat.le_refl _), Nat.sub_self]
      rfl
    have hm' : W.ms[w.ms.length + 1]? = some ⟨b, cut, zeros, []⟩ := by
      rw [hW]
      show ((w.ms ++ [_]) ++ [_])[w.ms.length + 1]? = _
      rw [List.append_assoc, List.getElem?_append_right (by omega), show w.ms.length + 1 - w.ms.length = 1 by omega]
      rfl
    have hss : W.ss = w.ss := by rw [hW]
    have hne : w.ms.length ≠ w.ms.length + 1 := by omega
    have hl1 : (w.ms ++ [(⟨b, cut, zeros, []⟩ : Mach)]).length = w.ms.length + 1 := by rw [List.length_append]; rfl
    show r2_k04_right _ [.val (.src j), .val (.int (b : Int)), .val (.int cut), .val (.mach w.ms.length), .val (.mach (w.ms ++ [(⟨b, cut, zeros, []⟩ : Mach)]).length), .no] ⟨(w.ms ++ [⟨b, cut, zeros, []⟩]) ++ [⟨b, cut, zeros, []⟩], w.ss, w.os⟩
    rw [← hW, hl1]
    rw [← hss] at hj
    have hk : ∀ w', w'.ss = W.ss → k (.bl true) w' := fun w' e => h w' (e.trans hss)
    clear hW hl1 h hss
    generalize w.ms.length + 1 = i' at hm' hne ⊢
    generalize w.ms.length = i at hm hne ⊢
    unfold r2_k04_right
    walk_at "pu"
    rw [onM_is hm]
    refine ⟨by omega, ⟨rfl, rfl⟩, fun b1 e1 _ => ?_⟩
    rw [e1 rfl, if_neg (by decide)]
    unfold r3_k04_right
    walk_at "pu"
    refine neM rfl rfl hm hm' ?_
    rw [eIsB, if_neg (by simp)]
    unfold r4_k04_right
    walk_at "pu"
    refine eqM1 (i := i) rfl ?_
    walk_at "pu"
    simp only [Int.toNat_natCast]
    have go5 : ∀ W' : Wld, W'.ss = W.ss → W'.ms[i]? = some ⟨b, cut, zeros, []⟩ → W'.ms[i']? = some ⟨b, cut, zeros, []⟩ → r5_k04_right ⟨fun x w => k Dat.non w, fun d x w => k d w, fun x x_1 => False, fun x x_1 => False⟩ [.val (.src j), .val (.int (b : Int)), .val (.int cut), .val (.mach i), .val (.mach i'), .no] W' := fun W' a1 a2 a3 => k04_r5 (by rw [a1]; exact hj) hne ⟨by omega, by omega, by omega, by omega⟩ a2 a3 fun w' e => hk w' (e.trans a1)
    refine ite_2 (fun c2 => ?_) fun c2 => ?_
    · refine ⟨⟨by omega, by omega, by decide, by decide⟩, ?_⟩
      exact eqM_new (c2 := 2) (K := fun bb V => if bb = true then k (Dat.bl false) V else r5_k04_right ⟨fun x w => k Dat.non w, fun d x w => k d w, fun x x_1 => False, fun x x_1 => False⟩ [.val (.src j), .val (.int (b : Int)), .val (.int cut), .val (.mach i), .val (.mach i'), .no] V) hm hm' (fun z => by omega) fun W' a1 a2 a3 => by
        rw [if_neg (by decide)]
        exact go5 W' a1 a2 a3
    · refine ⟨⟨by omega, by omega, by decide, by decide⟩, ?_⟩
      exact eqM_new (c2 := 3) (K := fun bb V => if bb = true then k (Dat.bl false) V else r5_k04_right ⟨fun x w => k Dat.non w, fun d x w => k d w, fun x x_1 => False, fun x x_1 => False⟩ [.val (.src j), .val (.int (b : Int)), .val (.int cut), .val (.mach i), .val (.mach i'), .no] V) hm hm' (fun z => by omega) fun W' a1 a2 a3 => by
        rw [if_neg (by decide)]
        exact go5 W' a1 a2 a3
  · exact h.elim
theorem b_k04_right {K : PySem.W.Frag} {c : Pc} {vs : List V} {H : Hp} {Q : VK} {E : XK} {α : Prop} (PM : PM K c) (PB : α) (IS : IsiK K c) (h : sp_k04_right K c vs H Q E) : t_k04_right K c (en0 Q) (st0 6 vs) H := def_ok (sn_k04_right PM PB IS) w_k04_right h
def P_k04_long : PSp := fun ds w k => match ds with
  | [.src j] => j < w.ss ∧ ∀ w', w'.ss = w.ss → k (.bl true) w'
  | _ => False
theorem n_k04_long : ∀ ds w k, P_k04_long ds w k → ds.length = 1 := fun ds w k h => by
  unfold P_k04_long at h
  split at h
  · rfl
  · exact h.elim
theorem e_k04_long {j : Nat} {w : Wld} {k : Dat → Wld → Prop} : P_k04_long [.src j] w k = (j < w.ss ∧ ∀ w', w'.ss = w.ss → k (.bl true) w') := rfl
def sp_k04_long (K : PySem.W.Frag) (c : Pc) : Sp := lif K c P_k04_long
theorem u_k04_long {K : PySem.W.Frag} {c : Pc} : SndP K c (sp_k04_long K c) P_k04_long := SndP.lif
/-- 0:_law_source 1:_law_machine_here 2:_law_count_of 3:_law_x 4:_law_y 5:_law_k 6:_law_due -/
def t_k04_long (K : PySem.W.Frag) (c : Pc) : TS :=
  (tSeq (tPar 1 2 (tCons (tMake c.CMachine (sp_Machine_init K c) [] E0 (tCons (tC (.int 8)) (tCons (tC (.int 4)) tNil))) (tCons (tOp rAdd (tC (.int 995)) (tCall (sp_law_next K c) [] E0 (tCons (tVar 0) (tCons (tC (.int 20)) tNil)))) tNil)))
  (tSeq (tPar 3 4 (tCons (tCall (sp_big K c) [] E0 (tCons (tVar 1) (tCons (tC (.int 70000)) tNil))) (tCons (tCall (sp_big K c) [] E0 (tCons (tVar 1) (tCons (tC (.int 300)) tNil))) tNil)))
  (tSeq (tFor (iRng1 (tCons (tVar 2) tNil)) (gName 5) (tDrop (tIf (tTest (tOp rLt (tVar 5) (tC (.int 500)))) (tCall (sp_z_add K c) [] E0 (tCons (tVar 1) (tCons (tVar 3) (tCons (tVar 4) tNil)))) (tCall (sp_z_subtract K c) [] E0 (tCons (tVar 1) (tCons (tVar 3) (tCons (tVar 4) tNil)))))))
  (tSeq (tAsg (tOp rCat (tOp rRep (tLst (tCons (tTup (tCons (tC (.str "add")) (tCons (tC (.int 3)) (tCons (tC (.int 2)) tNil)))) tNil)) (tC (.int 500))) (tOp rRep (tLst (tCons (tTup (tCons (tC (.str "take")) (tCons (tC (.int 3)) (tCons (tC (.int 2)) tNil)))) tNil)) (tOp rSub (tCB rMin2 (tCons (tVar 2) (tCons (tC (.int 1000)) tNil))) (tC (.int 500))))) (gName 6))
  (tSeq (tIfS (tNot (tTest (tOp (rEqD K) (tMeth c.CMachine "walk" (sp_Machine_walk K c) [] E0 (tVar 1) tNil) (tVar 6)))) (tRet (tC (.bl false))) tNext)
  (tSeq (tIfS (tNot (tTest (tOp (rEqD K) (tOp (rIxL K) (tMeth c.CMachine "tally" (sp_Machine_tally K c) [] E0 (tVar 1) tNil) (tC (.int 1))) (tTup (tCons (tC (.str "sum")) (tCons (tOp rMul (tC (.int 3)) (tVar 2)) tNil)))))) (tRet (tC (.bl false))) tNext)
  (tRet (tOp (rEqD K) (tOp (rIxL K) (tMeth c.CMachine "tally" (sp_Machine_tally K c) [] E0 (tVar 1) tNil) (tC (.int 0))) (tTup (tCons (tC (.str "short")) (tCons (tC (.int 0)) tNil)))))))))))
def b1_k04_long : PS :=
  (pDrop (pIf (pTest (pOp qLt (pVar 5) (pC (.int 500)))) (pCall P_z_add (pCons (pVar 1) (pCons (pVar 3) (pCons (pVar 4) pNil)))) (pCall P_z_subtract (pCons (pVar 1) (pCons (pVar 3) (pCons (pVar 4) pNil))))))
def r5_k04_long : PS :=
  (pSeq (pIfS (pNot (pTest (pOp qEqD (pOp qIxL (pMethM P_Machine_tally (pVar 1) pNil) (pC (.int 1))) (pTup (pCons (pC (.str "sum")) (pCons (pOp qMul (pC (.int 3)) (pVar 2)) pNil)))))) (pRet (pC (.bl false))) pNext)
  (pRet (pOp qEqD (pOp qIxL (pMethM P_Machine_tally (pVar 1) pNil) (pC (.int 0))) (pTup (pCons (pC (.str "short")) (pCons (pC (.int 0)) pNil))))))
def r4_k04_long : PS :=
  (pSeq (pIfS (pNot (pTest (pOp qEqD (pMethM P_Machine_walk (pVar 1) pNil) (pVar 6)))) (pRet (pC (.bl false))) pNext)
  r5_k04_long)
def r3_k04_long : PS :=
  (pSeq (pAsg (pFz (pOpF qCat (pFz (pOpF qRep (pFz (pLst (pCons (pTup (pCons (pC (.str "add")) (pCons (pC (.int 3)) (pCons (pC (.int 2)) pNil)))) pNil))) (pC (.int 500)))) (pFz (pOpF qRep (pFz (pLst (pCons (pTup (pCons (pC (.str "take")) (pCons (pC (.int 3)) (pCons (pC (.int 2)) pNil)))) pNil))) (pOp qSub (pCB qMin2 (pCons (pVar 2) (pCons (pC (.int 1000)) pNil))) (pC (.int 500))))))) 6)
  r4_k04_long)
def r2_k04_long : PS :=
  (pSeq (pFor (pIR1 (pVar 2)) (pgName 5) b1_k04_long)
  r3_k04_long)
def r1_k04_long : PS :=
  (pSeq (pPar [3, 4] (pCons (pCall P_big (pCons (pVar 1) (pCons (pC (.int 70000)) pNil))) (pCons (pCall P_big (pCons (pVar 1) (pCons (pC (.int 300)) pNil))) pNil)))
  r2_k04_long)
def p_k04_long : PS :=
  (pSeq (pPar [1, 2] (pCons (pCallD P_Machine [] (pCons (pC (.int 8)) (pCons (pC (.int 4)) pNil))) (pCons (pOp qAdd (pC (.int 995)) (pCall P_law_next (pCons (pVar 0) (pCons (pC (.int 20)) pNil)))) pNil)))
  r1_k04_long)
theorem sn_k04_long {K : PySem.W.Frag} {c : Pc} {α : Prop} (PM : PM K c) (PB : α) : SndS K c (t_k04_long K c) p_k04_long :=
  (snd_seq (snd_par (snd_cons (snd_mkM (fun _ => .nil) (snd_cons (snd_int 8) (snd_cons (snd_int 4) snd_nil))) (snd_cons (snd_op s_add (snd_int 995) (snd_call u_law_next (snd_cons snd_var (snd_cons (snd_int 20) snd_nil)))) snd_nil)))
  (snd_seq (snd_par (snd_cons (snd_call u_big (snd_cons snd_var (snd_cons (snd_int 70000) snd_nil))) (snd_cons (snd_call u_big (snd_cons snd_var (snd_cons (snd_int 300) snd_nil))) snd_nil)))
  (snd_seq (snd_for (snd_iR1 snd_var) snd_gName (snd_drop (snd_if (snd_test (snd_op s_lt snd_var (snd_int 500))) (snd_call u_z_add (snd_cons snd_var (snd_cons snd_var (snd_cons snd_var snd_nil)))) (snd_call u_z_subtract (snd_cons snd_var (snd_cons snd_var (snd_cons snd_var snd_nil)))))))
  (snd_seq (snd_asg (snd_fz (snd_opF s_cat (snd_fz (snd_opF s_rep (snd_fz (snd_lst (snd_cons (snd_tup (snd_cons (snd_str "add") (snd_cons (snd_int 3) (snd_cons (snd_int 2) snd_nil)))) snd_nil))) (snd_int 500))) (snd_fz (snd_opF s_rep (snd_fz (snd_lst (snd_cons (snd_tup (snd_cons (snd_str "take") (snd_cons (snd_int 3) (snd_cons (snd_int 2) snd_nil)))) snd_nil))) (snd_op s_sub (snd_cb s_min2 (snd_cons snd_var (snd_cons (snd_int 1000) snd_nil))) (snd_int 500)))))))
  (snd_seq (snd_ifS (snd_not (snd_test (snd_op s_eqD (snd_methM (by decide) u_Machine_walk snd_var snd_nil) snd_var))) (snd_ret (snd_bl false)) snd_next)
  (snd_seq (snd_ifS (snd_not (snd_test (snd_op s_eqD (snd_op s_ixL (snd_methM (by decide) u_Machine_tally snd_var snd_nil) (snd_int 1)) (snd_tup (snd_cons (snd_str "sum") (snd_cons (snd_op s_mul (snd_int 3) snd_var) snd_nil)))))) (snd_ret (snd_bl false)) snd_next)
  (snd_ret (snd_op s_eqD (snd_op s_ixL (snd_methM (by decide) u_Machine_tally snd_var snd_nil) (snd_int 0)) (snd_tup (snd_cons (snd_str "short") (snd_cons (snd_int 0) snd_nil)))))))))))
def lwF (t : Nat) : List (Str × Int × Int) := List.replicate (min t 500) (Str.ofString "add", 3, 2) ++ List.replicate (t - 500) (Str.ofString "take", 3, 2)
def lwW (t : Nat) : List (Str × Int × Int) := List.take 1000 (lwF t)
theorem lwF_len (t : Nat) : (lwF t).length = t := by
  unfold lwF
  rw [List.length_append, List.length_replicate, List.length_replicate]
  omega
theorem lwF_lo {t : Nat} (h : t < 500) : lwF (t + 1) = lwF t ++ [(Str.ofString "add", 3, 2)] := by
  unfold lwF
  rw [show min (t + 1) 500 = min t 500 + 1 by omega, show t + 1 - 500 = 0 by omega, show t - 500 = 0 by omega, List.replicate_succ', List.replicate_zero, List.append_nil, List.append_nil]
theorem lwF_hi {t : Nat} (h : ¬ t < 500) : lwF (t + 1) = lwF t ++ [(Str.ofString "take", 3, 2)] := by
  unfold lwF
  rw [show min (t + 1) 500 = min t 500 by omega, show t + 1 - 500 = (t - 500) + 1 by omega, List.replicate_succ', List.append_assoc]
theorem lwW_step {t : Nat} {x : Str × Int × Int} (h : lwF (t + 1) = lwF t ++ [x]) : (if (lwW t).length < 1000 then lwW t ++ [x] else lwW t) = lwW (t + 1) := by
  unfold lwW
  rw [h, List.length_take, lwF_len]
  by_cases c : t < 1000
  · rw [if_pos (by omega), List.take_of_length_le (by rw [lwF_len]; omega), List.take_of_length_le (by rw [List.length_append, lwF_len, List.length_singleton]; omega)]
  · rw [if_neg (by omega), List.take_append_of_le_length (by rw [lwF_len]; omega)]
theorem flat1 {x : Dat} : ∀ n : Nat, (List.replicate n [x]).flatten = List.replicate n x
  | 0 => rfl
  | n + 1 => by rw [List.replicate_succ, List.flatten_cons, flat1 n, List.replicate_succ]; rfl
theorem lwW_map {N : Nat} (h : 500 ≤ N) : (lwW N).map dW = List.replicate 500 (Dat.tup [.str (Str.ofString "add"), .int 3, .int 2]) ++ List.replicate (min N 1000 - 500) (Dat.tup [.str (Str.ofString "take"), .int 3, .int 2]) := by
  unfold lwW lwF
  rw [show min N 500 = 500 by omega, List.take_append, List.length_replicate, List.take_replicate, List.take_replicate, List.map_append, List.map_replicate, List.map_replicate]
  rw [show min 1000 500 = 500 from rfl, show min (1000 - 500) (N - 500) = min N 1000 - 500 by omega]
  rfl
theorem pl_two04 {s : Str} {z : Int} (hs : PyData.strOk s = true) : pl (Dat.tup [.str s, .int z]) := by
  show ([Dat.str s, .int z].all (plF 8)) = true
  simp only [plF, List.all_cons, List.all_nil, hs, Bool.and_self]
theorem pl_rep04 {s : Str} (hs : PyData.strOk s = true) (n : Nat) : (List.replicate n (Dat.tup [.str s, .int 3, .int 2])).all (plF 8) = true := by
  rw [List.all_eq_true]
  intro d hd
  rw [List.eq_of_mem_replicate hd]
  simp only [plF, List.all_cons, List.all_nil, hs, Bool.and_self]
theorem sum04 {M : Mach} (h : M.b = 8) : sumX M true 70000 300 = (M.ent (Str.ofString "add") 3 2).cnt 1 3 := by
  rw [sumX_eq, h]
  have d1 : digs 8 (Int.natAbs 70000) = [112, 17, 1] := by show digs 8 70000 = _; simp [digs]
  have d2 : digs 8 (Int.natAbs 300) = [44, 1] := by show digs 8 300 = _; simp [digs]
  rw [d1, d2]
  rfl
theorem dif04 {M : Mach} (h : M.b = 8) : sumX M false 70000 300 = (M.ent (Str.ofString "take") 3 2).cnt 1 3 := by
  rw [sumX_eq, h]
  have d1 : digs 8 (Int.natAbs 70000) = [112, 17, 1] := by show digs 8 70000 = _; simp [digs]
  have d2 : digs 8 (Int.natAbs 300) = [44, 1] := by show digs 8 300 = _; simp [digs]
  rw [d1, d2]
  unfold takX takeM
  rfl
theorem w_k04_long : ∀ ds w k, P_k04_long ds w k → p_k04_long (pen k) (env0 7 ds) w := by
  intro ds w k h
  unfold P_k04_long at h
  split at h
  · rename_i j
    obtain ⟨hj, h⟩ := h
    have hz := sizeLine_eq
    unfold p_k04_long
    walk_at "pu"
    refine ⟨⟨by decide, by decide, by decide, by decide⟩, hj, nxOk (by decide) (by decide), fun r hr0 hr => ?_⟩
    have hm : (⟨w.ms ++ [⟨Int.toNat 8, 4, zeros, []⟩], w.ss, w.os⟩ : Wld).ms[w.ms.length]? = some ⟨8, 4, zeros, []⟩ := List.getElem?_concat_length
    have hk := h
    have hss : (⟨w.ms ++ [⟨Int.toNat 8, 4, zeros, []⟩], w.ss, w.os⟩ : Wld).ss = w.ss := rfl
    generalize (⟨w.ms ++ [⟨Int.toNat 8, 4, zeros, []⟩], w.ss, w.os⟩ : Wld) = W at hm hss ⊢
    generalize w.ms.length = i at hm ⊢
    obtain ⟨N, hN⟩ : ∃ N : Nat, 995 + r = (N : Int) := ⟨(995 + r).toNat, by omega⟩
    rw [hN]
    unfold r1_k04_long
    walk_at "pu"
    have d1 : digs 8 70000 = [112, 17, 1] := by simp [digs]
    have d2 : digs 8 300 = [44, 1] := by simp [digs]
    have n1 : Int.natAbs 70000 = 70000 := rfl
    have n2 : Int.natAbs 300 = 300 := rfl
    simp only [onM_is hm]
    rw [n1, n2, d1, d2]
    refine ⟨by decide, by simp, by decide, by simp, ?_⟩
    unfold r2_k04_long
    walk_at "pu"
    refine ⟨⟨by omega, by omega⟩, ?_⟩
    rw [Int.toNat_natCast]
    refine lp_ind (fun t e V => V.ss = W.ss ∧ V.ms[i]? = some ⟨8, 4, [0, 3 * (t : Int), 0, 0, 0, 0, 0, 0, 0, 0], lwW t⟩ ∧ ∃ y5, e = [.val (.src j), .val (.mach i), .val (.int (N : Int)), .val (.big 8 70000), .val (.big 8 300), y5, .no]) ⟨rfl, hm, .no, rfl⟩ ?_ ?_
    · rintro t d e V nx hd ⟨hVs, hV, y5, rfl⟩ hn
      obtain ⟨ht, rfl⟩ := rng_get hd
      unfold b1_k04_long
      walk_at "pu"
      have bl : ∀ z : Int, (digs 8 z.natAbs).length ≤ 3 → bigL 8 z := fun z hz => ⟨by decide, by decide, by omega⟩
      have l1 : (digs 8 (Int.natAbs 70000)).length ≤ 3 := by rw [n1, d1]; decide
      have l2 : (digs 8 (Int.natAbs 300)).length ≤ 3 := by rw [n2, d2]; decide
      have e3 : (3 * (t : Int) + 3) = 3 * ((t + 1 : Nat) : Int) := by omega
      have hst : ∀ (M : Mach) (x : Str × Int × Int), lwF (t + 1) = lwF t ++ [x] → M = ((⟨8, 4, [0, 3 * (t : Int), 0, 0, 0, 0, 0, 0, 0, 0], lwW t⟩ : Mach).ent x.1 x.2.1 x.2.2).cnt 1 3 → M = ⟨8, 4, [0, 3 * ((t + 1 : Nat) : Int), 0, 0, 0, 0, 0, 0, 0, 0], lwW (t + 1)⟩ := fun M x hx hM => by
        rw [hM, ← lwW_step hx, ← e3]
        rfl
      refine ite_2 (fun c => ?_) fun c => ?_
      · refine d_z_add.mpr ?_
        rw [onM_is hV]
        refine ⟨⟨rfl, rfl⟩, ⟨bl _ l1, bl _ l2⟩, ?_⟩
        rw [hst _ (Str.ofString "add", 3, 2) (lwF_lo (by omega)) (sum04 rfl)]
        exact hn _ _ ⟨hVs, put_at hV, _, rfl⟩
      · refine d_z_subtract.mpr ?_
        rw [onM_is hV]
        refine ⟨⟨rfl, rfl⟩, ⟨bl _ l1, bl _ l2⟩, ?_⟩
        rw [hst _ (Str.ofString "take", 3, 2) (lwF_hi (by omega)) (dif04 rfl)]
        exact hn _ _ ⟨hVs, put_at hV, _, rfl⟩
    · rintro e V ⟨hVs, hV, y5, rfl⟩
      rw [rng_len] at hV
      unfold r3_k04_long
      walk_at "pu"
      have eN : ((if 1000 < (N : Int) then 1000 else (N : Int)) - 500).toNat = min N 1000 - 500 := by split <;> omega
      rw [eN, flat1, flat1, List.length_replicate, List.length_replicate]
      have e5 : Int.toNat 500 = 500 := rfl
      rw [e5]
      refine ⟨by omega, by omega, ⟨by decide, by decide, by omega⟩, by omega, by omega, ⟨by split <;> omega, by split <;> omega, by omega⟩, by omega, ?_⟩
      rw [← lwW_map (N := N) (by omega)]
      unfold r4_k04_long
      walk_at "pu"
      rw [onM_is hV]
      have plw : pl (Dat.lst ((lwW N).map dW)) := by
        rw [lwW_map (by omega)]
        show (List.replicate 500 (Dat.tup [.str (Str.ofString "add"), .int 3, .int 2]) ++ List.replicate (min N 1000 - 500) (Dat.tup [.str (Str.ofString "take"), .int 3, .int 2])).all (plF 8) = true
        rw [List.all_append, pl_rep04 (by decide +kernel), pl_rep04 (by decide +kernel)]
        rfl
      refine ⟨⟨plw, plw⟩, fun b1 e1 _ => ?_⟩
      rw [e1 rfl, if_neg (by decide)]
      clear plw
      unfold r5_k04_long
      walk_at "pu"
      simp only [onM_is hV]
      have a1 : atI (dRows [0, 3 * (N : Int), 0, 0, 0, 0, 0, 0, 0, 0]) 1 = some (.tup [.str (Str.ofString "sum"), .int (3 * (N : Int))]) := rfl
      have a0 : atI (dRows [0, 3 * (N : Int), 0, 0, 0, 0, 0, 0, 0, 0]) 0 = some (.tup [.str (Str.ofString "short"), .int 0]) := rfl
      rw [a1, eSome]
      have p1 : ∀ z : Int, pl (Dat.tup [.str (Str.ofString "sum"), .int z]) := fun z => pl_two04 (by decide +kernel)
      have p0 : ∀ z : Int, pl (Dat.tup [.str (Str.ofString "short"), .int z]) := fun z => pl_two04 (by decide +kernel)
      refine ⟨mul_okL (by decide) (by decide), by omega, ⟨p1 _, p1 _⟩, fun b2 e2 _ => ?_⟩
      rw [e2 rfl, if_neg (by decide), a0, eSome]
      refine ⟨by omega, ⟨p0 _, p0 _⟩, fun b3 e3 _ => ?_⟩
      rw [e3 rfl]
      exact h _ (hVs.trans hss)
  · exact h.elim
theorem b_k04_long {K : PySem.W.Frag} {c : Pc} {vs : List V} {H : Hp} {Q : VK} {E : XK} {α : Prop} (PM : PM K c) (PB : α) (h : sp_k04_long K c vs H Q E) : t_k04_long K c (en0 Q) (st0 7 vs) H := def_ok (sn_k04_long PM PB) w_k04_long h
def P_k04_law : PSp := P_law0
def sp_k04_law (K : PySem.W.Frag) (c : Pc) : Sp := sp_law0 K
/-- 0:_law_script 1:_law_cell 2:_law_source -/
def t_k04_law (K : PySem.W.Frag) (c : Pc) : TS :=
  (tSeq (tFor (iList K (tOp rCat (tLst (tCons (tCall (sp_law_cell_at K c) [] E0 (tCons (tVar 0) (tCons (tC (.int 0)) tNil))) tNil)) (tSl (rSlL K) (tVar 0) (tPart (tC (.int 1))) (tPart (tC (.int 5)))))) (gName 1) (tSeq (tAsg (tCall (sp_law_source_of K c) [] E0 (tCons (tVar 1) tNil)) (gName 2))
  (tIfS (tOr (tNot (L2.tB (tCall (sp_k04_right K c) [] E0 (tCons (tVar 2) tNil)))) (tNot (L2.tB (tCall (sp_k04_right K c) [] E0 (tCons (tVar 2) tNil))))) (tRet (tC (.bl false))) tNext)))
  (tSeq (tIfS (tNot (L2.tB (tCall (sp_k04_long K c) [] E0 (tCons (tCall (sp_law_source_of K c) [] E0 (tCons (tCall (sp_law_cell_at K c) [] E0 (tCons (tVar 0) (tCons (tC (.int 0)) tNil))) tNil)) tNil)))) (tRet (tC (.bl false))) tNext)
  (tRet (tOp (rEqD K) (tMeth c.CMachine "parts" (sp_Machine_parts K c) [] E0 (tMake c.CMachine (sp_Machine_init K c) [(.int 30), (.int 70)] E0 tNil) tNil) (tTup (tCons (tC (.int 30)) (tCons (tC (.int 70)) tNil)))))))
def b1_k04_law : PS :=
  (pSeq (pAsg (pCall P_law_source_of (pCons (pVar 1) pNil)) 2)
  (pIfS (pOr (pNot (pTest (pCall P_k04_right (pCons (pVar 2) pNil)))) (pNot (pTest (pCall P_k04_right (pCons (pVar 2) pNil))))) (pRet (pC (.bl false))) pNext))
def r1_k04_law : PS :=
  (pSeq (pIfS (pNot (pTest (pCall P_k04_long (pCons (pCall P_law_source_of (pCons (pCall P_law_cell_at (pCons (pVar 0) (pCons (pC (.int 0)) pNil))) pNil)) pNil)))) (pRet (pC (.bl false))) pNext)
  (pRet (pOp qEqD (pMethM P_Machine_parts (pCallD P_Machine [(.int 30), (.int 70)] pNil) pNil) (pTup (pCons (pC (.int 30)) (pCons (pC (.int 70)) pNil))))))
def p_k04_law : PS :=
  (pSeq (pFor (pIL (pFz (pOpF qCat (pFz (pLst (pCons (pCall P_law_cell_at (pCons (pVar 0) (pCons (pC (.int 0)) pNil))) pNil))) (pFz (pSlL (pVar 0) (pPart (pC (.int 1))) (pPart (pC (.int 5)))))))) (pgName 1) b1_k04_law)
  r1_k04_law)
theorem sn_k04_law {K : PySem.W.Frag} {c : Pc} {α : Prop} (PM : PM K c) (PB : α) : SndS K c (t_k04_law K c) p_k04_law :=
  (snd_seq (snd_for (snd_iList (snd_fz (snd_opF s_cat (snd_fz (snd_lst (snd_cons (snd_call u_law_cell_at (snd_cons snd_var (snd_cons (snd_int 0) snd_nil))) snd_nil))) (snd_fz (snd_slL snd_var (snd_part (snd_int 1)) (snd_part (snd_int 5))))))) snd_gName (snd_seq (snd_asg (snd_call u_law_source_of (snd_cons snd_var snd_nil)))
  (snd_ifS (snd_or (snd_not (snd_tB (snd_call u_k04_right (snd_cons snd_var snd_nil)))) (snd_not (snd_tB (snd_call u_k04_right (snd_cons snd_var snd_nil))))) (snd_ret (snd_bl false)) snd_next)))
  (snd_seq (snd_ifS (snd_not (snd_tB (snd_call u_k04_long (snd_cons (snd_call u_law_source_of (snd_cons (snd_call u_law_cell_at (snd_cons snd_var (snd_cons (snd_int 0) snd_nil))) snd_nil)) snd_nil)))) (snd_ret (snd_bl false)) snd_next)
  (snd_ret (snd_op s_eqD (snd_methM (by decide) u_Machine_parts (snd_mkM (fun _ => (.cons (.int _) (.cons (.int _) .nil))) snd_nil) snd_nil) (snd_tup (snd_cons (snd_int 30) (snd_cons (snd_int 70) snd_nil)))))))
theorem w_k04_law : ∀ ds w k, P_k04_law ds w k → p_k04_law (pen k) (env0 3 ds) w := by
  intro ds w k h
  unfold P_k04_law P_law0 at h
  split at h
  · rename_i l
    obtain ⟨ns, rfl, hl, h⟩ := h
    have hz := sizeLine_eq
    unfold p_k04_law
    walk_at "pu"
    refine ⟨ns, rfl, by omega, fun n => ?_⟩
    have hall : ∀ d ∈ Dat.int n :: cutD (ns.map Dat.int) (some 1) (some 5), ∃ z : Int, d = .int z := fun d hd => by
      rcases List.mem_cons.mp hd with rfl | hd
      · exact ⟨n, rfl⟩
      · exact cut_all (P := fun d => ∃ z, d = .int z) (fun d hd => by obtain ⟨z, _, rfl⟩ := List.mem_map.mp hd; exact ⟨z, rfl⟩) _ _ d hd
    have hlen : (cutD (ns.map Dat.int) (some 1) (some 5)).length ≤ ns.length := by
      have := cut_len (l := ns.map Dat.int) (lo := some 1) (hi := some 5)
      rw [List.length_map] at this
      exact this
    refine ⟨by omega, by omega, ?_⟩
    refine lp_ind (fun _ e w' => ∃ y1 y2, e = [.val (.cst (ns.map Dat.int)), y1, y2]) ⟨_, _, rfl⟩ ?_ ?_
    · rintro q d e w nx hd ⟨y1, y2, rfl⟩ hn
      obtain ⟨z, rfl⟩ := hall d (List.mem_of_getElem? hd)
      unfold b1_k04_law
      walk_at "pu"
      rw [e_k04_right]
      refine ⟨Nat.lt_succ_self _, fun w1 h1 => ?_⟩
      walk_at "pu"
      rw [e_k04_right]
      refine ⟨by rw [h1]; exact Nat.lt_succ_self _, fun w2 h2 => ?_⟩
      walk_at "pu"
      exact hn _ _ ⟨_, _, rfl⟩
    · rintro e w ⟨y1, y2, rfl⟩
      unfold r1_k04_law
      walk_at "pu"
      refine ⟨ns, rfl, by omega, fun n => ?_⟩
      rw [e_k04_long]
      refine ⟨Nat.lt_succ_self _, fun w1 h1 => ?_⟩
      walk_at "pu"
      refine ⟨⟨by decide, by decide, by decide, by decide⟩, ?_⟩
      have hm : (⟨w1.ms ++ [⟨Int.toNat 30, 70, zeros, []⟩], w1.ss, w1.os⟩ : Wld).ms[w1.ms.length]? = some ⟨30, 70, zeros, []⟩ := List.getElem?_concat_length
      rw [onM_is hm]
      refine ⟨by omega, ⟨rfl, rfl⟩, fun b1 e1 _ => ?_⟩
      rw [e1 rfl]
      exact h _
  · exact h.elim
theorem b_k04_law {K : PySem.W.Frag} {c : Pc} {vs : List V} {H : Hp} {Q : VK} {E : XK} {α : Prop} (PM : PM K c) (PB : α) (NT : c.ts = []) (h : sp_k04_law K c vs H Q E) : t_k04_law K c (en0 Q) (st0 3 vs) H := def_ok (sn_k04_law PM PB) w_k04_law (law_lif NT h)
end Eng
namespace Law
open PySem PySem.Spec PyProof.Rows L2 Eng
def top (i : Nat) : Stmt := PySem.Challenge.pw_thirtybits_k04_machines.main.body.getD i (.Pass ⟨0, 0, 0, 0⟩)
abbrev s_is_integer : Stmt := top 5
abbrev N_is_integer : List Str := ["value"]
theorem sc_is_integer : FnScope N_is_integer ["value"] (defScope s_is_integer) := ⟨rfl, rfl, rfl, by decide +kernel, rfl, by decide +kernel, by decide +kernel⟩
abbrev s_is_between : Stmt := top 6
abbrev N_is_between : List Str := ["value", "low", "high"]
theorem sc_is_between : FnScope N_is_between ["value", "low", "high"] (defScope s_is_between) := ⟨rfl, rfl, rfl, by decide +kernel, rfl, by decide +kernel, by decide +kernel⟩
abbrev s_check_integer : Stmt := top 7
abbrev N_check_integer : List Str := ["argument", "value"]
theorem sc_check_integer : FnScope N_check_integer ["argument", "value"] (defScope s_check_integer) := ⟨rfl, rfl, rfl, by decide +kernel, rfl, by decide +kernel, by decide +kernel⟩
abbrev s_Machine_init : Stmt := inClass (top 15) 0
abbrev N_Machine_init : List Str := ["self", "bits", "cutoff", "word"]
theorem sc_Machine_init : FnScope N_Machine_init ["self", "bits", "cutoff"] (defScope s_Machine_init) := ⟨rfl, rfl, rfl, by decide +kernel, rfl, by decide +kernel, by decide +kernel⟩
abbrev s_Machine_eq : Stmt := inClass (top 15) 1
abbrev N_Machine_eq : List Str := ["self", "other"]
theorem sc_Machine_eq : FnScope N_Machine_eq ["self", "other"] (defScope s_Machine_eq) := ⟨rfl, rfl, rfl, by decide +kernel, rfl, by decide +kernel, by decide +kernel⟩
abbrev s_Machine_parts : Stmt := inClass (top 15) 2
abbrev N_Machine_parts : List Str := ["self"]
theorem sc_Machine_parts : FnScope N_Machine_parts ["self"] (defScope s_Machine_parts) := ⟨rfl, rfl, rfl, by decide +kernel, rfl, by decide +kernel, by decide +kernel⟩
abbrev s_Machine_tally : Stmt := inClass (top 15) 3
abbrev N_Machine_tally : List Str := ["self", "word"]
theorem sc_Machine_tally : FnScope N_Machine_tally ["self"] (defScope s_Machine_tally) := ⟨rfl, rfl, rfl, by decide +kernel, rfl, by decide +kernel, by decide +kernel⟩
abbrev s_Machine_walk : Stmt := inClass (top 15) 4
abbrev N_Machine_walk : List Str := ["self"]
theorem sc_Machine_walk : FnScope N_Machine_walk ["self"] (defScope s_Machine_walk) := ⟨rfl, rfl, rfl, by decide +kernel, rfl, by decide +kernel, by decide +kernel⟩
abbrev s_Machine_reset : Stmt := inClass (top 15) 5
abbrev N_Machine_reset : List Str := ["self", "word"]
theorem sc_Machine_reset : FnScope N_Machine_reset ["self"] (defScope s_Machine_reset) := ⟨rfl, rfl, rfl, by decide +kernel, rfl, by decide +kernel, by decide +kernel⟩
abbrev s_Machine_count : Stmt := inClass (top 15) 6
abbrev N_Machine_count : List Str := ["self", "word", "number"]
theorem sc_Machine_count : FnScope N_Machine_count ["self", "word", "number"] (defScope s_Machine_count) := ⟨rfl, rfl, rfl, by decide +kernel, rfl, by decide +kernel, by decide +kernel⟩
abbrev s_Machine_enter : Stmt := inClass (top 15) 7
abbrev N_Machine_enter : List Str := ["self", "word", "m", "n"]
theorem sc_Machine_enter : FnScope N_Machine_enter ["self", "word", "m", "n"] (defScope s_Machine_enter) := ⟨rfl, rfl, rfl, by decide +kernel, rfl, by decide +kernel, by decide +kernel⟩
abbrev s_check_machine : Stmt := top 16
abbrev N_check_machine : List Str := ["value"]
theorem sc_check_machine : FnScope N_check_machine ["value"] (defScope s_check_machine) := ⟨rfl, rfl, rfl, by decide +kernel, rfl, by decide +kernel, by decide +kernel⟩
abbrev s_Big_init : Stmt := inClass (top 18) 0
abbrev N_Big_init : List Str := ["self", "width", "side", "row"]
theorem sc_Big_init : FnScope N_Big_init ["self", "width", "side", "row"] (defScope s_Big_init) := ⟨rfl, rfl, rfl, by decide +kernel, rfl, by decide +kernel, by decide +kernel⟩
abbrev s_made : Stmt := top 19
abbrev N_made : List Str := ["machine", "side", "digits", "size"]
theorem sc_made : FnScope N_made ["machine", "side", "digits"] (defScope s_made) := ⟨rfl, rfl, rfl, by decide +kernel, rfl, by decide +kernel, by decide +kernel⟩
abbrev s_digits_of : Stmt := top 20
abbrev N_digits_of : List Str := ["machine", "n", "found"]
theorem sc_digits_of : FnScope N_digits_of ["machine", "n"] (defScope s_digits_of) := ⟨rfl, rfl, rfl, by decide +kernel, rfl, by decide +kernel, by decide +kernel⟩
abbrev s_big_of : Stmt := top 21
abbrev N_big_of : List Str := ["machine", "n"]
theorem sc_big_of : FnScope N_big_of ["machine", "n"] (defScope s_big_of) := ⟨rfl, rfl, rfl, by decide +kernel, rfl, by decide +kernel, by decide +kernel⟩
abbrev s_value_of : Stmt := top 22
abbrev N_value_of : List Str := ["x", "found", "digit"]
theorem sc_value_of : FnScope N_value_of ["x"] (defScope s_value_of) := ⟨rfl, rfl, rfl, by decide +kernel, rfl, by decide +kernel, by decide +kernel⟩
abbrev s_check_big : Stmt := top 23
abbrev N_check_big : List Str := ["machine", "argument", "value"]
theorem sc_check_big : FnScope N_check_big ["machine", "argument", "value"] (defScope s_check_big) := ⟨rfl, rfl, rfl, by decide +kernel, rfl, by decide +kernel, by decide +kernel⟩
abbrev s_check_bigs : Stmt := top 24
abbrev N_check_bigs : List Str := ["machine", "x", "y"]
theorem sc_check_bigs : FnScope N_check_bigs ["machine", "x", "y"] (defScope s_check_bigs) := ⟨rfl, rfl, rfl, by decide +kernel, rfl, by decide +kernel, by decide +kernel⟩
abbrev s_is_compact : Stmt := top 25
abbrev N_is_compact : List Str := ["x"]
theorem sc_is_compact : FnScope N_is_compact ["x"] (defScope s_is_compact) := ⟨rfl, rfl, rfl, by decide +kernel, rfl, by decide +kernel, by decide +kernel⟩
abbrev s_big : Stmt := top 26
abbrev N_big : List Str := ["machine", "n"]
theorem sc_big : FnScope N_big ["machine", "n"] (defScope s_big) := ⟨rfl, rfl, rfl, by decide +kernel, rfl, by decide +kernel, by decide +kernel⟩
abbrev s_looked_down : Stmt := top 27
abbrev N_looked_down : List Str := ["machine", "one", "other", "place"]
theorem sc_looked_down : FnScope N_looked_down ["machine", "one", "other"] (defScope s_looked_down) := ⟨rfl, rfl, rfl, by decide +kernel, rfl, by decide +kernel, by decide +kernel⟩
abbrev s_adding : Stmt := top 29
abbrev N_adding : List Str := ["machine", "a", "b", "found", "carry", "place", "digit"]
theorem sc_adding : FnScope N_adding ["machine", "a", "b"] (defScope s_adding) := ⟨rfl, rfl, rfl, by decide +kernel, rfl, by decide +kernel, by decide +kernel⟩
abbrev s_taking : Stmt := top 30
abbrev N_taking : List Str := ["machine", "a", "b", "side", "place", "found", "borrow", "digit"]
theorem sc_taking : FnScope N_taking ["machine", "a", "b"] (defScope s_taking) := ⟨rfl, rfl, rfl, by decide +kernel, rfl, by decide +kernel, by decide +kernel⟩
abbrev s_added : Stmt := top 31
abbrev N_added : List Str := ["machine", "x", "y", "one", "other", "side", "found"]
theorem sc_added : FnScope N_added ["machine", "x", "y"] (defScope s_added) := ⟨rfl, rfl, rfl, by decide +kernel, rfl, by decide +kernel, by decide +kernel⟩
abbrev s_subtracted : Stmt := top 32
abbrev N_subtracted : List Str := ["machine", "x", "y", "one", "other", "side", "found"]
theorem sc_subtracted : FnScope N_subtracted ["machine", "x", "y"] (defScope s_subtracted) := ⟨rfl, rfl, rfl, by decide +kernel, rfl, by decide +kernel, by decide +kernel⟩
abbrev s_add : Stmt := top 33
abbrev N_add : List Str := ["machine", "x", "y"]
theorem sc_add : FnScope N_add ["machine", "x", "y"] (defScope s_add) := ⟨rfl, rfl, rfl, by decide +kernel, rfl, by decide +kernel, by decide +kernel⟩
abbrev s_subtract : Stmt := top 34
abbrev N_subtract : List Str := ["machine", "x", "y"]
theorem sc_subtract : FnScope N_subtract ["machine", "x", "y"] (defScope s_subtract) := ⟨rfl, rfl, rfl, by decide +kernel, rfl, by decide +kernel, by decide +kernel⟩
abbrev s_law_source_of : Stmt := top 36
abbrev N_law_source_of : List Str := ["_law_cell"]
theorem sc_law_source_of : FnScope N_law_source_of ["_law_cell"] (defScope s_law_source_of) := ⟨rfl, rfl, rfl, by decide +kernel, rfl, by decide +kernel, by decide +kernel⟩
abbrev s_law_next : Stmt := top 37
abbrev N_law_next : List Str := ["_law_source", "_law_count_of", "_law_found", "_law_prime", "_law_number_here"]
theorem sc_law_next : FnScope N_law_next ["_law_source", "_law_count_of"] (defScope s_law_next) := ⟨rfl, rfl, rfl, by decide +kernel, rfl, by decide +kernel, by decide +kernel⟩
abbrev s_law_cell_at : Stmt := top 39
abbrev N_law_cell_at : List Str := ["_law_script", "_law_index"]
theorem sc_law_cell_at : FnScope N_law_cell_at ["_law_script", "_law_index"] (defScope s_law_cell_at) := ⟨rfl, rfl, rfl, by decide +kernel, rfl, by decide +kernel, by decide +kernel⟩
abbrev s_law_power : Stmt := top 40
abbrev N_law_power : List Str := ["_law_base", "_law_n", "_law_found", "_law_k"]
theorem sc_law_power : FnScope N_law_power ["_law_base", "_law_n"] (defScope s_law_power) := ⟨rfl, rfl, rfl, by decide +kernel, rfl, by decide +kernel, by decide +kernel⟩
abbrev s_law_words : Stmt := top 45
abbrev N_law_words : List Str := ["_law_first"]
theorem sc_law_words : FnScope N_law_words [] (defScope s_law_words) := ⟨rfl, rfl, rfl, by decide +kernel, rfl, by decide +kernel, by decide +kernel⟩
abbrev s_law_right : Stmt := top 46
abbrev N_law_right : List Str := ["_law_source", "_law_bits_here", "_law_cutoff_here", "_law_one_here", "_law_other", "_law_word"]
theorem sc_law_right : FnScope N_law_right ["_law_source"] (defScope s_law_right) := ⟨rfl, rfl, rfl, by decide +kernel, rfl, by decide +kernel, by decide +kernel⟩
abbrev s_law_counts_right : Stmt := top 47
abbrev N_law_counts_right : List Str := ["_law_source", "_law_one_here", "_law_other", "_law_base", "_law_due", "_law_walk", "_law_k", "_law_m", "_law_n", "_law_x", "_law_y", "_law_heard", "_law_word", "_law_seen"]
theorem sc_law_counts_right : FnScope N_law_counts_right ["_law_source", "_law_one_here", "_law_other", "_law_base"] (defScope s_law_counts_right) := ⟨rfl, rfl, rfl, by decide +kernel, rfl, by decide +kernel, by decide +kernel⟩
abbrev s_law_long_right : Stmt := top 48
abbrev N_law_long_right : List Str := ["_law_source", "_law_machine_here", "_law_count_of", "_law_x", "_law_y", "_law_k", "_law_due"]
theorem sc_law_long_right : FnScope N_law_long_right ["_law_source"] (defScope s_law_long_right) := ⟨rfl, rfl, rfl, by decide +kernel, rfl, by decide +kernel, by decide +kernel⟩
abbrev s_law : Stmt := top 49
abbrev N_law : List Str := ["_law_script", "_law_cell", "_law_source"]
theorem sc_law : FnScope N_law ["_law_script"] (defScope s_law) := ⟨rfl, rfl, rfl, by decide +kernel, rfl, by decide +kernel, by decide +kernel⟩
/-- where all stands -/
structure Ad where
  c : Pc
  f_is_integer : Addr
  fd_is_integer : FuncData
  f_is_between : Addr
  fd_is_between : FuncData
  f_check_integer : Addr
  fd_check_integer : FuncData
  f_Machine_init : Addr
  fd_Machine_init : FuncData
  f_Machine_eq : Addr
  fd_Machine_eq : FuncData
  f_Machine_parts : Addr
  fd_Machine_parts : FuncData
  f_Machine_tally : Addr
  fd_Machine_tally : FuncData
  f_Machine_walk : Addr
  fd_Machine_walk : FuncData
  f_Machine_reset : Addr
  fd_Machine_reset : FuncData
  f_Machine_count : Addr
  fd_Machine_count : FuncData
  f_Machine_enter : Addr
  fd_Machine_enter : FuncData
  f_check_machine : Addr
  fd_check_machine : FuncData
  f_Big_init : Addr
  fd_Big_init : FuncData
  f_made : Addr
  fd_made : FuncData
  f_digits_of : Addr
  fd_digits_of : FuncData
  f_big_of : Addr
  fd_big_of : FuncData
  f_value_of : Addr
  fd_value_of : FuncData
  f_check_big : Addr
  fd_check_big : FuncData
  f_check_bigs : Addr
  fd_check_bigs : FuncData
  f_is_compact : Addr
  fd_is_compact : FuncData
  f_big : Addr
  fd_big : FuncData
  f_looked_down : Addr
  fd_looked_down : FuncData
  f_adding : Addr
  fd_adding : FuncData
  f_taking : Addr
  fd_taking : FuncData
  f_added : Addr
  fd_added : FuncData
  f_subtracted : Addr
  fd_subtracted : FuncData
  f_add : Addr
  fd_add : FuncData
  f_subtract : Addr
  fd_subtract : FuncData
  f_law_source_of : Addr
  fd_law_source_of : FuncData
  f_law_next : Addr
  fd_law_next : FuncData
  f_law_cell_at : Addr
  fd_law_cell_at : FuncData
  f_law_power : Addr
  fd_law_power : FuncData
  f_law_words : Addr
  fd_law_words : FuncData
  f_law_right : Addr
  fd_law_right : FuncData
  f_law_counts_right : Addr
  fd_law_counts_right : FuncData
  f_law_long_right : Addr
  fd_law_long_right : FuncData
  f_law : Addr
  fd_law : FuncData
  ds_Machine_init_0 : List Value
/-- what the top has left -/
structure Txt (K : PySem.W.Frag) (mg : Str → Option Value) (a : Ad) : Prop where
  NT : a.c.ts = []
  IS : Pu.IsiK K a.c
  PM : Eng.PM K a.c
  PB : Eng.PB K a.c
  g_Machine : mg "Machine" = some (.ref a.c.CMachine)
  cl_Machine : Cls K a.c.CMachine
  mk_Machine : Mk K a.c.CMachine a.f_Machine_init
  eq_Machine : PySem.W.findIn K (.ref a.c.CMachine) "__eq__" = some (some (.ref a.f_Machine_eq))
  ie_Machine : PySem.W.isFn K (.ref a.f_Machine_eq) = true
  ne_Machine : NeTxt K a.c.CMachine a.f_Machine_eq
  g_Big : mg "Big" = some (.ref a.c.CBig)
  cl_Big : Cls K a.c.CBig
  mk_Big : Mk K a.c.CBig a.f_Big_init
  g_LEAST_BITS : ∃ u, mg "LEAST_BITS" = some u ∧ RelV (.int 8) u
  g_MOST_BITS : ∃ u, mg "MOST_BITS" = some u ∧ RelV (.int 30) u
  g_MOST_CUTOFF : ∃ u, mg "MOST_CUTOFF" = some u ∧ RelV (.int 1000) u
  g_MOST_WALK : ∃ u, mg "MOST_WALK" = some u ∧ RelV (.int 1000) u
  g_WORDS : mg "WORDS" = some (.ref a.c.aWORDS)
  F_is_integer : Fun K "is_integer" "is_integer" s_is_integer a.f_is_integer a.fd_is_integer
  m_is_integer : mg "is_integer" = some (.ref a.f_is_integer)
  b_is_integer : Binds K a.fd_is_integer ["value"] []
  F_is_between : Fun K "is_between" "is_between" s_is_between a.f_is_between a.fd_is_between
  m_is_between : mg "is_between" = some (.ref a.f_is_between)
  b_is_between : Binds K a.fd_is_between ["value", "low", "high"] []
  F_check_integer : Fun K "check_integer" "check_integer" s_check_integer a.f_check_integer a.fd_check_integer
  m_check_integer : mg "check_integer" = some (.ref a.f_check_integer)
  b_check_integer : Binds K a.fd_check_integer ["argument", "value"] []
  F_Machine_init : FunD K "__init__" "Machine.__init__" (defArgs s_Machine_init) (defBody s_Machine_init) (defScope s_Machine_init) [(.int 30), (.int 70)] [] a.f_Machine_init a.fd_Machine_init
  b_Machine_init : Binds K a.fd_Machine_init ["self", "bits", "cutoff"] []
  F_Machine_eq : Fun K "__eq__" "Machine.__eq__" s_Machine_eq a.f_Machine_eq a.fd_Machine_eq
  me_Machine_eq : Meth K a.c.CMachine "__eq__" a.f_Machine_eq
  b_Machine_eq : Binds K a.fd_Machine_eq ["self", "other"] []
  F_Machine_parts : Fun K "parts" "Machine.parts" s_Machine_parts a.f_Machine_parts a.fd_Machine_parts
  me_Machine_parts : Meth K a.c.CMachine "parts" a.f_Machine_parts
  b_Machine_parts : Binds K a.fd_Machine_parts ["self"] []
  F_Machine_tally : Fun K "tally" "Machine.tally" s_Machine_tally a.f_Machine_tally a.fd_Machine_tally
  me_Machine_tally : Meth K a.c.CMachine "tally" a.f_Machine_tally
  b_Machine_tally : Binds K a.fd_Machine_tally ["self"] []
  F_Machine_walk : Fun K "walk" "Machine.walk" s_Machine_walk a.f_Machine_walk a.fd_Machine_walk
  me_Machine_walk : Meth K a.c.CMachine "walk" a.f_Machine_walk
  b_Machine_walk : Binds K a.fd_Machine_walk ["self"] []
  F_Machine_reset : Fun K "reset" "Machine.reset" s_Machine_reset a.f_Machine_reset a.fd_Machine_reset
  me_Machine_reset : Meth K a.c.CMachine "reset" a.f_Machine_reset
  b_Machine_reset : Binds K a.fd_Machine_reset ["self"] []
  F_Machine_count : Fun K "count" "Machine.count" s_Machine_count a.f_Machine_count a.fd_Machine_count
  me_Machine_count : Meth K a.c.CMachine "count" a.f_Machine_count
  b_Machine_count : Binds K a.fd_Machine_count ["self", "word", "number"] []
  F_Machine_enter : Fun K "enter" "Machine.enter" s_Machine_enter a.f_Machine_enter a.fd_Machine_enter
  me_Machine_enter : Meth K a.c.CMachine "enter" a.f_Machine_enter
  b_Machine_enter : Binds K a.fd_Machine_enter ["self", "word", "m", "n"] []
  F_check_machine : Fun K "check_machine" "check_machine" s_check_machine a.f_check_machine a.fd_check_machine
  m_check_machine : mg "check_machine" = some (.ref a.f_check_machine)
  b_check_machine : Binds K a.fd_check_machine ["value"] []
  F_Big_init : Fun K "__init__" "Big.__init__" s_Big_init a.f_Big_init a.fd_Big_init
  b_Big_init : Binds K a.fd_Big_init ["self", "width", "side", "row"] []
  F_made : Fun K "made" "made" s_made a.f_made a.fd_made
  m_made : mg "made" = some (.ref a.f_made)
  b_made : Binds K a.fd_made ["machine", "side", "digits"] []
  F_digits_of : Fun K "digits_of" "digits_of" s_digits_of a.f_digits_of a.fd_digits_of
  m_digits_of : mg "digits_of" = some (.ref a.f_digits_of)
  b_digits_of : Binds K a.fd_digits_of ["machine", "n"] []
  F_big_of : Fun K "big_of" "big_of" s_big_of a.f_big_of a.fd_big_of
  m_big_of : mg "big_of" = some (.ref a.f_big_of)
  b_big_of : Binds K a.fd_big_of ["machine", "n"] []
  F_value_of : Fun K "value_of" "value_of" s_value_of a.f_value_of a.fd_value_of
  m_value_of : mg "value_of" = some (.ref a.f_value_of)
  b_value_of : Binds K a.fd_value_of ["x"] []
  F_check_big : Fun K "check_big" "check_big" s_check_big a.f_check_big a.fd_check_big
  m_check_big : mg "check_big" = some (.ref a.f_check_big)
  b_check_big : Binds K a.fd_check_big ["machine", "argument", "value"] []
  F_check_bigs : Fun K "check_bigs" "check_bigs" s_check_bigs a.f_check_bigs a.fd_check_bigs
  m_check_bigs : mg "check_bigs" = some (.ref a.f_check_bigs)
  b_check_bigs : Binds K a.fd_check_bigs ["machine", "x", "y"] []
  F_is_compact : Fun K "is_compact" "is_compact" s_is_compact a.f_is_compact a.fd_is_compact
  m_is_compact : mg "is_compact" = some (.ref a.f_is_compact)
  b_is_compact : Binds K a.fd_is_compact ["x"] []
  F_big : Fun K "big" "big" s_big a.f_big a.fd_big
  m_big : mg "big" = some (.ref a.f_big)
  b_big : Binds K a.fd_big ["machine", "n"] []
  F_looked_down : Fun K "looked_down" "looked_down" s_looked_down a.f_looked_down a.fd_looked_down
  m_looked_down : mg "looked_down" = some (.ref a.f_looked_down)
  b_looked_down : Binds K a.fd_looked_down ["machine", "one", "other"] []
  F_adding : Fun K "adding" "adding" s_adding a.f_adding a.fd_adding
  m_adding : mg "adding" = some (.ref a.f_adding)
  b_adding : Binds K a.fd_adding ["machine", "a", "b"] []
  F_taking : Fun K "taking" "taking" s_taking a.f_taking a.fd_taking
  m_taking : mg "taking" = some (.ref a.f_taking)
  b_taking : Binds K a.fd_taking ["machine", "a", "b"] []
  F_added : Fun K "added" "added" s_added a.f_added a.fd_added
  m_added : mg "added" = some (.ref a.f_added)
  b_added : Binds K a.fd_added ["machine", "x", "y"] []
  F_subtracted : Fun K "subtracted" "subtracted" s_subtracted a.f_subtracted a.fd_subtracted
  m_subtracted : mg "subtracted" = some (.ref a.f_subtracted)
  b_subtracted : Binds K a.fd_subtracted ["machine", "x", "y"] []
  F_add : Fun K "add" "add" s_add a.f_add a.fd_add
  m_add : mg "add" = some (.ref a.f_add)
  b_add : Binds K a.fd_add ["machine", "x", "y"] []
  F_subtract : Fun K "subtract" "subtract" s_subtract a.f_subtract a.fd_subtract
  m_subtract : mg "subtract" = some (.ref a.f_subtract)
  b_subtract : Binds K a.fd_subtract ["machine", "x", "y"] []
  F_law_source_of : Fun K "_law_source_of" "_law_source_of" s_law_source_of a.f_law_source_of a.fd_law_source_of
  m_law_source_of : mg "_law_source_of" = some (.ref a.f_law_source_of)
  b_law_source_of : Binds K a.fd_law_source_of ["_law_cell"] []
  F_law_next : Fun K "_law_next" "_law_next" s_law_next a.f_law_next a.fd_law_next
  m_law_next : mg "_law_next" = some (.ref a.f_law_next)
  b_law_next : Binds K a.fd_law_next ["_law_source", "_law_count_of"] []
  F_law_cell_at : Fun K "_law_cell_at" "_law_cell_at" s_law_cell_at a.f_law_cell_at a.fd_law_cell_at
  m_law_cell_at : mg "_law_cell_at" = some (.ref a.f_law_cell_at)
  b_law_cell_at : Binds K a.fd_law_cell_at ["_law_script", "_law_index"] []
  F_law_power : Fun K "_law_power" "_law_power" s_law_power a.f_law_power a.fd_law_power
  m_law_power : mg "_law_power" = some (.ref a.f_law_power)
  b_law_power : Binds K a.fd_law_power ["_law_base", "_law_n"] []
  F_law_words : Fun K "_law_words" "_law_words" s_law_words a.f_law_words a.fd_law_words
  m_law_words : mg "_law_words" = some (.ref a.f_law_words)
  b_law_words : Binds K a.fd_law_words [] []
  F_law_right : Fun K "_law_right" "_law_right" s_law_right a.f_law_right a.fd_law_right
  m_law_right : mg "_law_right" = some (.ref a.f_law_right)
  b_law_right : Binds K a.fd_law_right ["_law_source"] []
  F_law_counts_right : Fun K "_law_counts_right" "_law_counts_right" s_law_counts_right a.f_law_counts_right a.fd_law_counts_right
  m_law_counts_right : mg "_law_counts_right" = some (.ref a.f_law_counts_right)
  b_law_counts_right : Binds K a.fd_law_counts_right ["_law_source", "_law_one_here", "_law_other", "_law_base"] []
  F_law_long_right : Fun K "_law_long_right" "_law_long_right" s_law_long_right a.f_law_long_right a.fd_law_long_right
  m_law_long_right : mg "_law_long_right" = some (.ref a.f_law_long_right)
  b_law_long_right : Binds K a.fd_law_long_right ["_law_source"] []
  F_law : Fun K "law" "law" s_law a.f_law a.fd_law
  m_law : mg "law" = some (.ref a.f_law)
  b_law : Binds K a.fd_law ["_law_script"] []
  bd_Machine_init_0 : Vals [(.int 30), (.int 70)] a.ds_Machine_init_0 ∧ Binds K a.fd_Machine_init ["self", "bits", "cutoff"] a.ds_Machine_init_0
  km_Machine_init_cutoff_bits : KBn K a.fd_Machine_init ["self", "bits", "cutoff"] 1 ["cutoff", "bits"] (makPV [1, 0]) (makP [1, 0])
  n_abs : mg "abs" = none
  n_bool : mg "bool" = none
  n_dict : mg "dict" = none
  n_enumerate : mg "enumerate" = none
  n_int : mg "int" = none
  n_isinstance : mg "isinstance" = none
  n_len : mg "len" = none
  n_list : mg "list" = none
  n_max : mg "max" = none
  n_min : mg "min" = none
  n_range : mg "range" = none
  n_tuple : mg "tuple" = none
section
variable {P : Program} {w : World} {K : PySem.W.Frag} {mg : Str → Option Value} {base : Heap} {a : Ad}
theorem dv_is_integer {cdv : Value} {A : Around} {outer : List Env} {s : Shared} {H : Hp} {E : XK} (T : Txt K mg a) (hr : Room 0 (A.deeper (envOfC "is_integer" (defScope s_is_integer) s.heap.objs.size a.f_is_integer cdv))) :
    PSs (cxOf CX0 P w K mg base N_is_integer "is_integer" (defScope s_is_integer) a.f_is_integer cdv A outer s H E).nox (defBody s_is_integer) (t_is_integer K a.c) := by
  unfold t_is_integer
  exact (pss_one (ps_ret (pe_and (pe_callB call_isi (by rfl) T.n_isinstance (by decide +kernel) (pa_cons (pv 0) (pa_cons (pe_bltn (v := .ty "int") (by rfl) T.n_int (by decide +kernel) rfl) pa_nil))) (pe_one (pe_not (pe_callB call_isi (by rfl) T.n_isinstance (by decide +kernel) (pa_cons (pv 0) (pa_cons (pe_bltn (v := .ty "bool") (by rfl) T.n_bool (by decide +kernel) rfl) pa_nil))))))))
theorem ok_is_integer (T : Txt K mg a) : FnOk P w K mg base CX0 1 a.f_is_integer a.fd_is_integer ["value"] (sp_is_integer K a.c) := by
  refine T.F_is_integer.ok sc_is_integer (fun vs H Q E h => ?_) (fun cdv A outer s H vs Q E hr h => ⟨_, dv_is_integer T hr, b_is_integer h⟩)
  (repeat (obtain ⟨_, h⟩ := h)); all_goals (subst_vars; rfl)
theorem dv_Machine_parts {cdv : Value} {A : Around} {outer : List Env} {s : Shared} {H : Hp} {E : XK} (T : Txt K mg a) (hr : Room 0 (A.deeper (envOfC "Machine.parts" (defScope s_Machine_parts) s.heap.objs.size a.f_Machine_parts cdv))) :
    PSs (cxOf CX0 P w K mg base N_Machine_parts "Machine.parts" (defScope s_Machine_parts) a.f_Machine_parts cdv A outer s H E).nox (defBody s_Machine_parts) (t_Machine_parts K a.c) := by
  unfold t_Machine_parts
  exact (pss_one (ps_ret (pe_tup (pa_cons (pe_fld (pv 0) rfl) (pa_cons (pe_fld (pv 0) rfl) pa_nil)))))
theorem ok_Machine_parts (T : Txt K mg a) : FnOk P w K mg base CX0 1 a.f_Machine_parts a.fd_Machine_parts ["self"] (sp_Machine_parts K a.c) := by
  refine T.F_Machine_parts.ok sc_Machine_parts (fun vs H Q E h => ?_) (fun cdv A outer s H vs Q E hr h => ⟨_, dv_Machine_parts T hr, b_Machine_parts T.PM h⟩)
  (repeat (obtain ⟨_, h⟩ := h)); all_goals (subst_vars; rfl)
theorem dv_Machine_tally {cdv : Value} {A : Around} {outer : List Env} {s : Shared} {H : Hp} {E : XK} (T : Txt K mg a) (hr : Room 0 (A.deeper (envOfC "Machine.tally" (defScope s_Machine_tally) s.heap.objs.size a.f_Machine_tally cdv))) :
    PSs (cxOf CX0 P w K mg base N_Machine_tally "Machine.tally" (defScope s_Machine_tally) a.f_Machine_tally cdv A outer s H E).nox (defBody s_Machine_tally) (t_Machine_tally K a.c) := by
  unfold t_Machine_tally
  exact (pss_one (ps_ret (pe_lc (own := [("word", 1)]) (g := (gName 1)) rfl sc_Machine_tally.nd (pi_tup (pe_glob rfl T.g_WORDS rfl)) (blkOk_by (own := [("word", 1)]) (N := N_Machine_tally) (sc := defScope s_Machine_tally) (by decide +kernel)) (fun _ _ _ _ _ => (pg_name (i := 1) sc_Machine_tally.nd rfl (by first | exact Or.inl rfl | exact Or.inr rfl))) (fun _ _ _ _ _ => pts_nil) (fun _ _ _ _ _ => (pe_tup (pa_cons (pv 1) (pa_cons (pe_dget (hu_of hr) (pe_fld (pv 0) rfl) (pv 1) (fun _ _ => rfl)) pa_nil)))))))
theorem ok_Machine_tally (T : Txt K mg a) : FnOk P w K mg base CX0 1 a.f_Machine_tally a.fd_Machine_tally ["self"] (sp_Machine_tally K a.c) := by
  refine T.F_Machine_tally.ok sc_Machine_tally (fun vs H Q E h => ?_) (fun cdv A outer s H vs Q E hr h => ⟨_, dv_Machine_tally T hr, b_Machine_tally T.PM h⟩)
  (repeat (obtain ⟨_, h⟩ := h)); all_goals (subst_vars; rfl)
theorem dv_Machine_walk {cdv : Value} {A : Around} {outer : List Env} {s : Shared} {H : Hp} {E : XK} (T : Txt K mg a) (hr : Room 0 (A.deeper (envOfC "Machine.walk" (defScope s_Machine_walk) s.heap.objs.size a.f_Machine_walk cdv))) :
    PSs (cxOf CX0 P w K mg base N_Machine_walk "Machine.walk" (defScope s_Machine_walk) a.f_Machine_walk cdv A outer s H E).nox (defBody s_Machine_walk) (t_Machine_walk K a.c) := by
  unfold t_Machine_walk
  exact (pss_one (ps_ret (pe_callTy c_list (by rfl) T.n_list (by decide +kernel) (pa_cons (pe_fld (pv 0) rfl) pa_nil))))
theorem ok_Machine_walk (T : Txt K mg a) : FnOk P w K mg base CX0 1 a.f_Machine_walk a.fd_Machine_walk ["self"] (sp_Machine_walk K a.c) := by
  refine T.F_Machine_walk.ok sc_Machine_walk (fun vs H Q E h => ?_) (fun cdv A outer s H vs Q E hr h => ⟨_, dv_Machine_walk T hr, b_Machine_walk T.PM h⟩)
  (repeat (obtain ⟨_, h⟩ := h)); all_goals (subst_vars; rfl)
theorem dv_Machine_reset {cdv : Value} {A : Around} {outer : List Env} {s : Shared} {H : Hp} {E : XK} (T : Txt K mg a) (hr : Room 0 (A.deeper (envOfC "Machine.reset" (defScope s_Machine_reset) s.heap.objs.size a.f_Machine_reset cdv))) :
    PSs (cxOf CX0 P w K mg base N_Machine_reset "Machine.reset" (defScope s_Machine_reset) a.f_Machine_reset cdv A outer s H E).nox (defBody s_Machine_reset) (t_Machine_reset K a.c) := by
  unfold t_Machine_reset
  exact (pss_cons (ps_for PassesOwn.never rfl (pi_tup (pe_glob rfl T.g_WORDS rfl)) (pg_name (i := 1) sc_Machine_reset.nd rfl (by first | exact Or.inl rfl | exact Or.inr rfl)) (pss_one (ps_dput (hu_of hr) (pe_fld (pv 0) rfl) (pv 1) pe_int rfl)))
      (pss_one (ps_expr (pe_bm0 PySem.F.plainAttrs_list PySem.F.slot_list_clear PySem.F.type_list_clear mt_clear (pe_fld (pv 0) rfl)))))
theorem ok_Machine_reset (T : Txt K mg a) : FnOk P w K mg base CX0 1 a.f_Machine_reset a.fd_Machine_reset ["self"] (sp_Machine_reset K a.c) := by
  refine T.F_Machine_reset.ok sc_Machine_reset (fun vs H Q E h => ?_) (fun cdv A outer s H vs Q E hr h => ⟨_, dv_Machine_reset T hr, b_Machine_reset T.PM h⟩)
  (repeat (obtain ⟨_, h⟩ := h)); all_goals (subst_vars; rfl)
theorem dv_Machine_count {cdv : Value} {A : Around} {outer : List Env} {s : Shared} {H : Hp} {E : XK} (T : Txt K mg a) (hr : Room 0 (A.deeper (envOfC "Machine.count" (defScope s_Machine_count) s.heap.objs.size a.f_Machine_count cdv))) :
    PSs (cxOf CX0 P w K mg base N_Machine_count "Machine.count" (defScope s_Machine_count) a.f_Machine_count cdv A outer s H E).nox (defBody s_Machine_count) (t_Machine_count K a.c) := by
  unfold t_Machine_count
  exact (pss_one (ps_dput (hu_of hr) (pe_fld (pv 0) rfl) (pv 1) (pe_op o_add (pe_dget (hu_of hr) (pe_fld (pv 0) rfl) (pv 1) (fun _ _ => rfl)) (pv 2)) rfl))
theorem ok_Machine_count (T : Txt K mg a) : FnOk P w K mg base CX0 1 a.f_Machine_count a.fd_Machine_count ["self", "word", "number"] (sp_Machine_count K a.c) := by
  refine T.F_Machine_count.ok sc_Machine_count (fun vs H Q E h => ?_) (fun cdv A outer s H vs Q E hr h => ⟨_, dv_Machine_count T hr, b_Machine_count T.PM h⟩)
  (repeat (obtain ⟨_, h⟩ := h)); all_goals (subst_vars; rfl)
theorem dv_Machine_enter {cdv : Value} {A : Around} {outer : List Env} {s : Shared} {H : Hp} {E : XK} (T : Txt K mg a) (hr : Room 0 (A.deeper (envOfC "Machine.enter" (defScope s_Machine_enter) s.heap.objs.size a.f_Machine_enter cdv))) :
    PSs (cxOf CX0 P w K mg base N_Machine_enter "Machine.enter" (defScope s_Machine_enter) a.f_Machine_enter cdv A outer s H E).nox (defBody s_Machine_enter) (t_Machine_enter K a.c) := by
  unfold t_Machine_enter
  exact (pss_one (ps_if (pt_cmpR o_lt (pe_callB c_len (by rfl) T.n_len (by decide +kernel) (pa_cons (pe_fld (pv 0) rfl) pa_nil)) (C8.pe_gc rfl T.g_MOST_WALK) (nomark _)) (pss_one (ps_expr (pe_bm PySem.F.plainAttrs_list PySem.F.slot_list_append PySem.F.type_list_append mt_append (pe_fld (pv 0) rfl) (pa_cons (pe_tup (pa_cons (pv 1) (pa_cons (pv 2) (pa_cons (pv 3) pa_nil)))) pa_nil)))) pss_nil))
theorem ok_Machine_enter (T : Txt K mg a) : FnOk P w K mg base CX0 1 a.f_Machine_enter a.fd_Machine_enter ["self", "word", "m", "n"] (sp_Machine_enter K a.c) := by
  refine T.F_Machine_enter.ok sc_Machine_enter (fun vs H Q E h => ?_) (fun cdv A outer s H vs Q E hr h => ⟨_, dv_Machine_enter T hr, b_Machine_enter T.PM h⟩)
  (repeat (obtain ⟨_, h⟩ := h)); all_goals (subst_vars; rfl)
theorem dv_check_machine {cdv : Value} {A : Around} {outer : List Env} {s : Shared} {H : Hp} {E : XK} (T : Txt K mg a) (hr : Room 0 (A.deeper (envOfC "check_machine" (defScope s_check_machine) s.heap.objs.size a.f_check_machine cdv))) :
    PSs (cxOf CX0 P w K mg base N_check_machine "check_machine" (defScope s_check_machine) a.f_check_machine cdv A outer s H E).nox (defBody s_check_machine) (t_check_machine K a.c) := by
  unfold t_check_machine
  exact (pss_one (ps_if (pt_not (pt_val (pe_callB call_isi (by rfl) T.n_isinstance (by decide +kernel) (pa_cons (pv 0) (pa_cons (pe_glob rfl T.g_Machine rfl) pa_nil))))) (pss_one ps_never) pss_nil))
theorem ok_check_machine (T : Txt K mg a) : FnOk P w K mg base CX0 1 a.f_check_machine a.fd_check_machine ["value"] (sp_check_machine K a.c) := by
  refine T.F_check_machine.ok sc_check_machine (fun vs H Q E h => ?_) (fun cdv A outer s H vs Q E hr h => ⟨_, dv_check_machine T hr, b_check_machine T.PM h⟩)
  (repeat (obtain ⟨_, h⟩ := h)); all_goals (subst_vars; rfl)
theorem dv_Big_init {cdv : Value} {A : Around} {outer : List Env} {s : Shared} {H : Hp} {E : XK} (T : Txt K mg a) (hr : Room 0 (A.deeper (envOfC "Big.__init__" (defScope s_Big_init) s.heap.objs.size a.f_Big_init cdv))) :
    PSs (cxOf CX0 P w K mg base N_Big_init "Big.__init__" (defScope s_Big_init) a.f_Big_init cdv A outer s H E).nox (defBody s_Big_init) (t_Big_init K a.c) := by
  unfold t_Big_init
  exact (pss_cons (ps_fld (pv 0) (pv 1) rfl)
      (pss_cons (ps_fld (pv 0) (pv 2) rfl)
      (pss_one (ps_fld (pv 0) (pv 3) rfl))))
theorem ok_Big_init (T : Txt K mg a) : FnOk P w K mg base CX0 1 a.f_Big_init a.fd_Big_init ["self", "width", "side", "row"] (sp_Big_init K a.c) := by
  refine T.F_Big_init.ok sc_Big_init (fun vs H Q E h => ?_) (fun cdv A outer s H vs Q E hr h => ⟨_, dv_Big_init T hr, b_Big_init T.PB h⟩)
  (repeat (obtain ⟨_, h⟩ := h)); all_goals (subst_vars; rfl)
theorem dv_digits_of {cdv : Value} {A : Around} {outer : List Env} {s : Shared} {H : Hp} {E : XK} (T : Txt K mg a) (hr : Room 0 (A.deeper (envOfC "digits_of" (defScope s_digits_of) s.heap.objs.size a.f_digits_of cdv))) :
    PSs (cxOf CX0 P w K mg base N_digits_of "digits_of" (defScope s_digits_of) a.f_digits_of cdv A outer s H E).nox (defBody s_digits_of) (t_digits_of K a.c) := by
  unfold t_digits_of
  exact (pss_cons (ps_set (i := 2) sc_digits_of.nd rfl (by first | exact Or.inl rfl | exact Or.inr rfl) (pe_lst pa_nil))
      (pss_cons (ps_while PassesOwn.never (pt_cmpR o_gt (pv 1) pe_int (nomark _)) (pss_cons (ps_expr (pe_bm PySem.F.plainAttrs_list PySem.F.slot_list_append PySem.F.type_list_append mt_append (pv 2) (pa_cons (pe_op o_mod (pv 1) (pe_fld (pv 0) rfl)) pa_nil)))
      (pss_one (ps_set (i := 1) sc_digits_of.nd rfl (by first | exact Or.inl rfl | exact Or.inr rfl) (pe_op o_shr (pv 1) (pe_fld (pv 0) rfl))))))
      (pss_one (ps_ret (pv 2)))))
theorem ok_digits_of (T : Txt K mg a) : FnOk P w K mg base CX0 1 a.f_digits_of a.fd_digits_of ["machine", "n"] (sp_digits_of K a.c) := by
  refine T.F_digits_of.ok sc_digits_of (fun vs H Q E h => ?_) (fun cdv A outer s H vs Q E hr h => ⟨_, dv_digits_of T hr, b_digits_of T.PM h⟩)
  (repeat (obtain ⟨_, h⟩ := h)); all_goals (subst_vars; rfl)
theorem dv_value_of {cdv : Value} {A : Around} {outer : List Env} {s : Shared} {H : Hp} {E : XK} (T : Txt K mg a) (hr : Room 0 (A.deeper (envOfC "value_of" (defScope s_value_of) s.heap.objs.size a.f_value_of cdv))) :
    PSs (cxOf CX0 P w K mg base N_value_of "value_of" (defScope s_value_of) a.f_value_of cdv A outer s H E).nox (defBody s_value_of) (t_value_of K a.c) := by
  unfold t_value_of
  exact (pss_cons (ps_set (i := 1) sc_value_of.nd rfl (by first | exact Or.inl rfl | exact Or.inr rfl) pe_int)
      (pss_cons (ps_for PassesOwn.never rfl (pi_tup (pe_revT (pe_fld (pv 0) rfl))) (pg_name (i := 2) sc_value_of.nd rfl (by first | exact Or.inl rfl | exact Or.inr rfl)) (pss_one (ps_set (i := 1) sc_value_of.nd rfl (by first | exact Or.inl rfl | exact Or.inr rfl) (pe_op o_or (pe_op o_shl (pv 1) (pe_fld (pv 0) rfl)) (pv 2)))))
      (pss_one (ps_ret (pe_op o_mul (pe_fld (pv 0) rfl) (pv 1))))))
theorem ok_value_of (T : Txt K mg a) : FnOk P w K mg base CX0 1 a.f_value_of a.fd_value_of ["x"] (sp_value_of K a.c) := by
  refine T.F_value_of.ok sc_value_of (fun vs H Q E h => ?_) (fun cdv A outer s H vs Q E hr h => ⟨_, dv_value_of T hr, b_value_of T.PB h⟩)
  (repeat (obtain ⟨_, h⟩ := h)); all_goals (subst_vars; rfl)
theorem dv_check_big {cdv : Value} {A : Around} {outer : List Env} {s : Shared} {H : Hp} {E : XK} (T : Txt K mg a) (hr : Room 0 (A.deeper (envOfC "check_big" (defScope s_check_big) s.heap.objs.size a.f_check_big cdv))) :
    PSs (cxOf CX0 P w K mg base N_check_big "check_big" (defScope s_check_big) a.f_check_big cdv A outer s H E).nox (defBody s_check_big) (t_check_big K a.c) := by
  unfold t_check_big
  exact (pss_one (ps_if (PW.pt (pw_or (pt_not (pt_val (pe_callB call_isi (by rfl) T.n_isinstance (by decide +kernel) (pa_cons (pv 2) (pa_cons (pe_glob rfl T.g_Big rfl) pa_nil))))) (pw_or1 (pt_cmpR op_ne (pe_fld (pv 2) rfl) (pe_fld (pv 0) rfl) (nomark _))))) (pss_one ps_never) pss_nil))
theorem ok_check_big (T : Txt K mg a) : FnOk P w K mg base CX0 1 a.f_check_big a.fd_check_big ["machine", "argument", "value"] (sp_check_big K a.c) := by
  refine T.F_check_big.ok sc_check_big (fun vs H Q E h => ?_) (fun cdv A outer s H vs Q E hr h => ⟨_, dv_check_big T hr, b_check_big T.PM T.PB h⟩)
  (repeat (obtain ⟨_, h⟩ := h)); all_goals (subst_vars; rfl)
theorem dv_is_compact {cdv : Value} {A : Around} {outer : List Env} {s : Shared} {H : Hp} {E : XK} (T : Txt K mg a) (hr : Room 0 (A.deeper (envOfC "is_compact" (defScope s_is_compact) s.heap.objs.size a.f_is_compact cdv))) :
    PSs (cxOf CX0 P w K mg base N_is_compact "is_compact" (defScope s_is_compact) a.f_is_compact cdv A outer s H E).nox (defBody s_is_compact) (t_is_compact K a.c) := by
  unfold t_is_compact
  exact (pss_one (ps_ret (pe_cmpR o_le (pe_callB c_len (by rfl) T.n_len (by decide +kernel) (pa_cons (pe_fld (pv 0) rfl) pa_nil)) pe_int (nomark _))))
theorem ok_is_compact (T : Txt K mg a) : FnOk P w K mg base CX0 1 a.f_is_compact a.fd_is_compact ["x"] (sp_is_compact K a.c) := by
  refine T.F_is_compact.ok sc_is_compact (fun vs H Q E h => ?_) (fun cdv A outer s H vs Q E hr h => ⟨_, dv_is_compact T hr, b_is_compact T.PB h⟩)
  (repeat (obtain ⟨_, h⟩ := h)); all_goals (subst_vars; rfl)
theorem dv_law_source_of {cdv : Value} {A : Around} {outer : List Env} {s : Shared} {H : Hp} {E : XK} (T : Txt K mg a) (hr : Room 0 (A.deeper (envOfC "_law_source_of" (defScope s_law_source_of) s.heap.objs.size a.f_law_source_of cdv))) :
    PSs (cxOf CX0 P w K mg base N_law_source_of "_law_source_of" (defScope s_law_source_of) a.f_law_source_of cdv A outer s H E).nox (defBody s_law_source_of) (t_law_source_of K a.c) := by
  unfold t_law_source_of
  exact (pss_cons (ps_set (i := 0) sc_law_source_of.nd rfl (by first | exact Or.inl rfl | exact Or.inr rfl) (pe_ifExp (pt_cmpR o_ge (pv 0) pe_int (nomark _)) (pv 0) (pe_op o_sub (pe_op o_sub pe_int (pe_op o_mul pe_int (pv 0))) pe_int)))
      (pss_one (ps_ret (pe_lst (pa_cons (pe_op o_mul (pv 0) (pe_callTy c_int (by rfl) T.n_int (by decide +kernel) (pa_cons (pe_cmpR o_ge (pv 0) (pe_op o_pow pe_int pe_int) (nomark _)) pa_nil))) (pa_cons (pe_op o_mod (pe_callTy c_int (by rfl) T.n_int (by decide +kernel) (pa_cons (pv 0) pa_nil)) pe_int) (pa_cons pe_int pa_nil)))))))
theorem ok_law_source_of (T : Txt K mg a) : FnOk P w K mg base CX0 1 a.f_law_source_of a.fd_law_source_of ["_law_cell"] (sp_law_source_of K a.c) := by
  refine T.F_law_source_of.ok sc_law_source_of (fun vs H Q E h => ?_) (fun cdv A outer s H vs Q E hr h => ⟨_, dv_law_source_of T hr, b_law_source_of h⟩)
  (repeat (obtain ⟨_, h⟩ := h)); all_goals (subst_vars; rfl)
theorem dv_law_next {cdv : Value} {A : Around} {outer : List Env} {s : Shared} {H : Hp} {E : XK} (T : Txt K mg a) (hr : Room 0 (A.deeper (envOfC "_law_next" (defScope s_law_next) s.heap.objs.size a.f_law_next cdv))) :
    PSs (cxOf CX0 P w K mg base N_law_next "_law_next" (defScope s_law_next) a.f_law_next cdv A outer s H E).nox (defBody s_law_next) (t_law_next K a.c) := by
  unfold t_law_next
  exact (pss_cons (ps_if (pt_cmpR o_gt (pe_ix ix_list (pv 0) pe_int (fun _ _ => rfl)) pe_int (nomark _)) (pss_cons (ps_set (i := 2) sc_law_next.nd rfl (by first | exact Or.inl rfl | exact Or.inr rfl) (pe_op o_mod (pe_callTy c_int (by rfl) T.n_int (by decide +kernel) (pa_cons (pe_ix ix_list (pv 0) pe_int (fun _ _ => rfl)) pa_nil)) (pv 1)))
      (pss_cons (ps_asg (pe_op o_div (pe_ix ix_list (pv 0) pe_int (fun _ _ => rfl)) (pv 1)) (pg_sub (pv 0) pe_int set_list))
      (pss_one (ps_ret (pv 2))))) pss_nil)
      (pss_cons (ps_asg (pe_op o_add (pe_ix ix_list (pv 0) pe_int (fun _ _ => rfl)) pe_int) (pg_sub (pv 0) pe_int set_list))
      (pss_cons (ps_set (i := 3) sc_law_next.nd rfl (by first | exact Or.inl rfl | exact Or.inr rfl) pe_int)
      (pss_cons (ps_set (i := 4) sc_law_next.nd rfl (by first | exact Or.inl rfl | exact Or.inr rfl) (pe_op o_mod (pe_callTy c_int (by rfl) T.n_int (by decide +kernel) (pa_cons (pe_op o_add (pe_op o_add (pe_ix ix_list (pv 0) pe_int (fun _ _ => rfl)) (pe_op o_mul pe_int (pe_ix ix_list (pv 0) pe_int (fun _ _ => rfl)))) pe_int) pa_nil)) (pv 3)))
      (pss_cons (ps_set (i := 4) sc_law_next.nd rfl (by first | exact Or.inl rfl | exact Or.inr rfl) (pe_op o_mod (pe_callTy c_int (by rfl) T.n_int (by decide +kernel) (pa_cons (pe_op o_mul (pv 4) pe_int) pa_nil)) (pv 3)))
      (pss_cons (ps_set (i := 4) sc_law_next.nd rfl (by first | exact Or.inl rfl | exact Or.inr rfl) (pe_op o_mod (pe_callTy c_int (by rfl) T.n_int (by decide +kernel) (pa_cons (pe_op o_mul (pv 4) (pe_op o_add (pe_op o_div (pv 4) pe_int) pe_int)) pa_nil)) (pv 3)))
      (pss_cons (ps_set (i := 4) sc_law_next.nd rfl (by first | exact Or.inl rfl | exact Or.inr rfl) (pe_op o_mod (pe_callTy c_int (by rfl) T.n_int (by decide +kernel) (pa_cons (pe_op o_mul (pv 4) (pe_op o_add (pe_op o_div (pv 4) pe_int) pe_int)) pa_nil)) pe_int))
      (pss_one (ps_ret (pe_op o_mod (pe_callTy c_int (by rfl) T.n_int (by decide +kernel) (pa_cons (pe_op o_div (pv 4) pe_int) pa_nil)) (pv 1)))))))))))
theorem ok_law_next (T : Txt K mg a) : FnOk P w K mg base CX0 1 a.f_law_next a.fd_law_next ["_law_source", "_law_count_of"] (sp_law_next K a.c) := by
  refine T.F_law_next.ok sc_law_next (fun vs H Q E h => ?_) (fun cdv A outer s H vs Q E hr h => ⟨_, dv_law_next T hr, b_law_next h⟩)
  (repeat (obtain ⟨_, h⟩ := h)); all_goals (subst_vars; rfl)
theorem dv_law_cell_at {cdv : Value} {A : Around} {outer : List Env} {s : Shared} {H : Hp} {E : XK} (T : Txt K mg a) (hr : Room 0 (A.deeper (envOfC "_law_cell_at" (defScope s_law_cell_at) s.heap.objs.size a.f_law_cell_at cdv))) :
    PSs (cxOf CX0 P w K mg base N_law_cell_at "_law_cell_at" (defScope s_law_cell_at) a.f_law_cell_at cdv A outer s H E).nox (defBody s_law_cell_at) (t_law_cell_at K a.c) := by
  unfold t_law_cell_at
  exact (pss_one (ps_ret (pe_ix ix_list (pe_op op_cat (pe_slice sl_list (pv 0) (po_some (pv 1)) (po_some (pe_op o_add (pv 1) pe_int))) (pe_lst (pa_cons pe_int pa_nil))) pe_int (fun _ _ => rfl))))
theorem ok_law_cell_at (T : Txt K mg a) : FnOk P w K mg base CX0 1 a.f_law_cell_at a.fd_law_cell_at ["_law_script", "_law_index"] (sp_law_cell_at K a.c) := by
  refine T.F_law_cell_at.ok sc_law_cell_at (fun vs H Q E h => ?_) (fun cdv A outer s H vs Q E hr h => ⟨_, dv_law_cell_at T hr, b_law_cell_at h⟩)
  (repeat (obtain ⟨_, h⟩ := h)); all_goals (subst_vars; rfl)
theorem dv_law_power {cdv : Value} {A : Around} {outer : List Env} {s : Shared} {H : Hp} {E : XK} (T : Txt K mg a) (hr : Room 0 (A.deeper (envOfC "_law_power" (defScope s_law_power) s.heap.objs.size a.f_law_power cdv))) :
    PSs (cxOf CX0 P w K mg base N_law_power "_law_power" (defScope s_law_power) a.f_law_power cdv A outer s H E).nox (defBody s_law_power) (t_z_power K a.c) := by
  unfold t_z_power
  exact (pss_cons (ps_set (i := 2) sc_law_power.nd rfl (by first | exact Or.inl rfl | exact Or.inr rfl) pe_int)
      (pss_cons (ps_for PassesOwn.never rfl (pi_range1 rfl T.n_range (pa_cons (pv 1) pa_nil)) (pg_name (i := 3) sc_law_power.nd rfl (by first | exact Or.inl rfl | exact Or.inr rfl)) (pss_one (ps_set (i := 2) sc_law_power.nd rfl (by first | exact Or.inl rfl | exact Or.inr rfl) (pe_op o_mul (pv 2) (pv 0)))))
      (pss_one (ps_ret (pv 2)))))
theorem ok_law_power (T : Txt K mg a) : FnOk P w K mg base CX0 1 a.f_law_power a.fd_law_power ["_law_base", "_law_n"] (sp_z_power K a.c) := by
  refine T.F_law_power.ok sc_law_power (fun vs H Q E h => ?_) (fun cdv A outer s H vs Q E hr h => ⟨_, dv_law_power T hr, b_z_power T.PM T.PB h⟩)
  first | exact Pu.lif_len n_z_power h | exact Pu.lifS_len n_z_power h | exact Pu.lifL_len n_z_power h | exact Pu.lifO_len n_z_power h
theorem dv_law_words {cdv : Value} {A : Around} {outer : List Env} {s : Shared} {H : Hp} {E : XK} (T : Txt K mg a) (hr : Room 0 (A.deeper (envOfC "_law_words" (defScope s_law_words) s.heap.objs.size a.f_law_words cdv))) :
    PSs (cxOf CX0 P w K mg base N_law_words "_law_words" (defScope s_law_words) a.f_law_words cdv A outer s H E).nox (defBody s_law_words) (t_k04_words K a.c) := by
  unfold t_k04_words
  exact (pss_cons (ps_set (i := 0) sc_law_words.nd rfl (by first | exact Or.inl rfl | exact Or.inr rfl) (pe_lst (pa_cons pe_str (pa_cons pe_str (pa_cons pe_str (pa_cons pe_str (pa_cons pe_str pa_nil)))))))
      (pss_one (ps_ret (pe_op op_cat (pv 0) (pe_lst (pa_cons pe_str (pa_cons pe_str (pa_cons pe_str (pa_cons pe_str (pa_cons pe_str pa_nil))))))))))
theorem ok_law_words (T : Txt K mg a) : FnOk P w K mg base CX0 1 a.f_law_words a.fd_law_words [] (sp_k04_words K a.c) := by
  refine T.F_law_words.ok sc_law_words (fun vs H Q E h => ?_) (fun cdv A outer s H vs Q E hr h => ⟨_, dv_law_words T hr, b_k04_words T.PM T.PB h⟩)
  first | exact Pu.lif_len n_k04_words h | exact Pu.lifS_len n_k04_words h | exact Pu.lifL_len n_k04_words h | exact Pu.lifO_len n_k04_words h
theorem dv_is_between {cdv : Value} {A : Around} {outer : List Env} {s : Shared} {H : Hp} {E : XK} (T : Txt K mg a) (hr : Room 1 (A.deeper (envOfC "is_between" (defScope s_is_between) s.heap.objs.size a.f_is_between cdv))) :
    PSs (cxOf CX0 P w K mg base N_is_between "is_between" (defScope s_is_between) a.f_is_between cdv A outer s H E).nox (defBody s_is_between) (t_is_between K a.c) := by
  unfold t_is_between
  exact (pss_one (ps_ret (pe_and (pe_call (ok_is_integer T) (hr.mono (by decide)) rfl T.m_is_integer T.F_is_integer.kp T.b_is_integer .nil pass0 (pa_cons (pv 0) pa_nil)) (pe_one (pe_chain o_le o_le (pv 1) (pv 0) (pv 2))))))
theorem ok_is_between (T : Txt K mg a) : FnOk P w K mg base CX0 2 a.f_is_between a.fd_is_between ["value", "low", "high"] (sp_is_between K a.c) := by
  refine T.F_is_between.ok sc_is_between (fun vs H Q E h => ?_) (fun cdv A outer s H vs Q E hr h => ⟨_, dv_is_between T hr, b_is_between h⟩)
  (repeat (obtain ⟨_, h⟩ := h)); all_goals (subst_vars; rfl)
theorem dv_check_integer {cdv : Value} {A : Around} {outer : List Env} {s : Shared} {H : Hp} {E : XK} (T : Txt K mg a) (hr : Room 1 (A.deeper (envOfC "check_integer" (defScope s_check_integer) s.heap.objs.size a.f_check_integer cdv))) :
    PSs (cxOf CX0 P w K mg base N_check_integer "check_integer" (defScope s_check_integer) a.f_check_integer cdv A outer s H E).nox (defBody s_check_integer) (t_check_integer K a.c) := by
  unfold t_check_integer
  exact (pss_one (ps_if (pt_not (pt_val (pe_call (ok_is_integer T) (hr.mono (by decide)) rfl T.m_is_integer T.F_is_integer.kp T.b_is_integer .nil pass0 (pa_cons (pv 1) pa_nil)))) (pss_one ps_never) pss_nil))
theorem ok_check_integer (T : Txt K mg a) : FnOk P w K mg base CX0 2 a.f_check_integer a.fd_check_integer ["argument", "value"] (sp_check_integer K a.c) := by
  refine T.F_check_integer.ok sc_check_integer (fun vs H Q E h => ?_) (fun cdv A outer s H vs Q E hr h => ⟨_, dv_check_integer T hr, b_check_integer h⟩)
  (repeat (obtain ⟨_, h⟩ := h)); all_goals (subst_vars; rfl)
theorem dv_Machine_eq {cdv : Value} {A : Around} {outer : List Env} {s : Shared} {H : Hp} {E : XK} (T : Txt K mg a) (hr : Room 1 (A.deeper (envOfC "Machine.__eq__" (defScope s_Machine_eq) s.heap.objs.size a.f_Machine_eq cdv))) :
    PSs (cxOf CX0 P w K mg base N_Machine_eq "Machine.__eq__" (defScope s_Machine_eq) a.f_Machine_eq cdv A outer s H E).nox (defBody s_Machine_eq) (t_Machine_eq K a.c) := by
  unfold t_Machine_eq
  exact (pss_one (ps_ret (pe_and (pe_callB call_isi (by rfl) T.n_isinstance (by decide +kernel) (pa_cons (pv 1) (pa_cons (pe_glob rfl T.g_Machine rfl) pa_nil))) (pe_one (pe_cmpR (op_eqD hr.units) (pe_meth0 (pv 0) T.cl_Machine T.me_Machine_parts (ok_Machine_parts T) (hr.mono (by decide)) T.b_Machine_parts .nil pass0) (pe_meth0 (pv 1) T.cl_Machine T.me_Machine_parts (ok_Machine_parts T) (hr.mono (by decide)) T.b_Machine_parts .nil pass0) (nomark _))))))
theorem ok_Machine_eq (T : Txt K mg a) : FnOk P w K mg base CX0 2 a.f_Machine_eq a.fd_Machine_eq ["self", "other"] (sp_Machine_eq K a.c) := by
  refine T.F_Machine_eq.ok sc_Machine_eq (fun vs H Q E h => ?_) (fun cdv A outer s H vs Q E hr h => ⟨_, dv_Machine_eq T hr, b_Machine_eq T.PM T.PB T.IS h⟩)
  first | exact Pu.lif_len n_Machine_eq h | exact Pu.lifS_len n_Machine_eq h | exact Pu.lifL_len n_Machine_eq h | exact Pu.lifO_len n_Machine_eq h
theorem dv_check_bigs {cdv : Value} {A : Around} {outer : List Env} {s : Shared} {H : Hp} {E : XK} (T : Txt K mg a) (hr : Room 1 (A.deeper (envOfC "check_bigs" (defScope s_check_bigs) s.heap.objs.size a.f_check_bigs cdv))) :
    PSs (cxOf CX0 P w K mg base N_check_bigs "check_bigs" (defScope s_check_bigs) a.f_check_bigs cdv A outer s H E).nox (defBody s_check_bigs) (t_check_bigs K a.c) := by
  unfold t_check_bigs
  exact (pss_cons (ps_expr (pe_call (ok_check_machine T) (hr.mono (by decide)) rfl T.m_check_machine T.F_check_machine.kp T.b_check_machine .nil pass0 (pa_cons (pv 0) pa_nil)))
      (pss_cons (ps_expr (pe_call (ok_check_big T) (hr.mono (by decide)) rfl T.m_check_big T.F_check_big.kp T.b_check_big .nil pass0 (pa_cons (pv 0) (pa_cons pe_str (pa_cons (pv 1) pa_nil)))))
      (pss_one (ps_expr (pe_call (ok_check_big T) (hr.mono (by decide)) rfl T.m_check_big T.F_check_big.kp T.b_check_big .nil pass0 (pa_cons (pv 0) (pa_cons pe_str (pa_cons (pv 2) pa_nil))))))))
theorem ok_check_bigs (T : Txt K mg a) : FnOk P w K mg base CX0 2 a.f_check_bigs a.fd_check_bigs ["machine", "x", "y"] (sp_check_bigs K a.c) := by
  refine T.F_check_bigs.ok sc_check_bigs (fun vs H Q E h => ?_) (fun cdv A outer s H vs Q E hr h => ⟨_, dv_check_bigs T hr, b_check_bigs h⟩)
  (repeat (obtain ⟨_, h⟩ := h)); all_goals (subst_vars; rfl)
theorem dv_looked_down {cdv : Value} {A : Around} {outer : List Env} {s : Shared} {H : Hp} {E : XK} (T : Txt K mg a) (hr : Room 1 (A.deeper (envOfC "looked_down" (defScope s_looked_down) s.heap.objs.size a.f_looked_down cdv))) :
    PSs (cxOf CX0 P w K mg base N_looked_down "looked_down" (defScope s_looked_down) a.f_looked_down cdv A outer s H E).nox (defBody s_looked_down) (t_z_looked K a.c) := by
  unfold t_z_looked
  exact (pss_cons (ps_set (i := 3) sc_looked_down.nd rfl (by first | exact Or.inl rfl | exact Or.inr rfl) (pe_op o_sub (pe_callB c_len (by rfl) T.n_len (by decide +kernel) (pa_cons (pv 1) pa_nil)) pe_int))
      (pss_cons (ps_while PassesOwn.never (PW.pt (pw_and (pt_cmpR o_ge (pv 3) pe_int (nomark _)) (pw_and1 (pt_cmpR op_eq (pe_ix ix_tup (pv 1) (pv 3) (fun _ _ => rfl)) (pe_ix ix_tup (pv 2) (pv 3) (fun _ _ => rfl)) (nomark _))))) (pss_one (ps_set (i := 3) sc_looked_down.nd rfl (by first | exact Or.inl rfl | exact Or.inr rfl) (pe_op o_sub (pv 3) pe_int))))
      (pss_cons (ps_expr (pe_meth (pv 0) T.cl_Machine T.me_Machine_count (ok_Machine_count T) (hr.mono (by decide)) T.b_Machine_count .nil pass0 (pa_cons pe_str (pa_cons (pe_op o_sub (pe_callB c_len (by rfl) T.n_len (by decide +kernel) (pa_cons (pv 1) pa_nil)) (pe_callB (c_max rfl) (by rfl) T.n_max (by decide +kernel) (pa_cons (pv 3) (pa_cons pe_int pa_nil)))) pa_nil))))
      (pss_one (ps_ret (pv 3))))))
theorem ok_looked_down (T : Txt K mg a) : FnOk P w K mg base CX0 2 a.f_looked_down a.fd_looked_down ["machine", "one", "other"] (sp_z_looked K a.c) := by
  refine T.F_looked_down.ok sc_looked_down (fun vs H Q E h => ?_) (fun cdv A outer s H vs Q E hr h => ⟨_, dv_looked_down T hr, b_z_looked T.PM T.PB h⟩)
  first | exact Pu.lif_len n_z_looked h | exact Pu.lifS_len n_z_looked h | exact Pu.lifL_len n_z_looked h | exact Pu.lifO_len n_z_looked h
theorem dv_adding {cdv : Value} {A : Around} {outer : List Env} {s : Shared} {H : Hp} {E : XK} (T : Txt K mg a) (hr : Room 1 (A.deeper (envOfC "adding" (defScope s_adding) s.heap.objs.size a.f_adding cdv))) :
    PSs (cxOf CX0 P w K mg base N_adding "adding" (defScope s_adding) a.f_adding cdv A outer s H E).nox (defBody s_adding) (t_z_adding K a.c) := by
  unfold t_z_adding
  exact (pss_cons (ps_expr (pe_meth (pv 0) T.cl_Machine T.me_Machine_enter (ok_Machine_enter T) (hr.mono (by decide)) T.b_Machine_enter .nil pass0 (pa_cons pe_str (pa_cons (pe_callB c_len (by rfl) T.n_len (by decide +kernel) (pa_cons (pv 1) pa_nil)) (pa_cons (pe_callB c_len (by rfl) T.n_len (by decide +kernel) (pa_cons (pv 2) pa_nil)) pa_nil)))))
      (pss_cons (ps_if (pt_cmpR o_lt (pe_callB c_len (by rfl) T.n_len (by decide +kernel) (pa_cons (pv 1) pa_nil)) (pe_callB c_len (by rfl) T.n_len (by decide +kernel) (pa_cons (pv 2) pa_nil)) (nomark _)) (pss_one (ps_par rfl sc_adding.nd rfl rfl (by decide) rfl rfl (pa_cons (pv 2) (pa_cons (pv 1) pa_nil)) (by rfl))) pss_nil)
      (pss_cons (ps_par rfl sc_adding.nd rfl rfl (by decide) rfl rfl (pa_cons (pe_lst pa_nil) (pa_cons pe_int pa_nil)) (by rfl))
      (pss_cons (ps_for PassesOwn.never rfl (pi_enumA (by rfl) T.n_enumerate (pa_cons (pv 1) pa_nil)) (pg_tup rfl (pgs_cons (pg_name (i := 5) sc_adding.nd rfl (by first | exact Or.inl rfl | exact Or.inr rfl)) (pgs_cons (pg_name (i := 6) sc_adding.nd rfl (by first | exact Or.inl rfl | exact Or.inr rfl)) pgs_nil))) (pss_cons (ps_set (i := 4) sc_adding.nd rfl (by first | exact Or.inl rfl | exact Or.inr rfl) (pe_op o_add (pe_op o_add (pv 4) (pv 6)) (pe_ifExp (pt_cmpR o_lt (pv 5) (pe_callB c_len (by rfl) T.n_len (by decide +kernel) (pa_cons (pv 2) pa_nil)) (nomark _)) (pe_ix ix_any (pv 2) (pv 5) (fun _ _ => rfl)) pe_int)))
      (pss_cons (ps_expr (pe_bm PySem.F.plainAttrs_list PySem.F.slot_list_append PySem.F.type_list_append mt_append (pv 3) (pa_cons (pe_op o_mod (pv 4) (pe_fld (pv 0) rfl)) pa_nil)))
      (pss_one (ps_set (i := 4) sc_adding.nd rfl (by first | exact Or.inl rfl | exact Or.inr rfl) (pe_op o_shr (pv 4) (pe_fld (pv 0) rfl)))))))
      (pss_cons (ps_expr (pe_meth (pv 0) T.cl_Machine T.me_Machine_count (ok_Machine_count T) (hr.mono (by decide)) T.b_Machine_count .nil pass0 (pa_cons pe_str (pa_cons (pe_callB c_len (by rfl) T.n_len (by decide +kernel) (pa_cons (pv 1) pa_nil)) pa_nil))))
      (pss_one (ps_ret (pe_ifExp (pt_cmpR o_gt (pv 4) pe_int (nomark _)) (pe_op op_cat (pv 3) (pe_lst (pa_cons (pv 4) pa_nil))) (pv 3)))))))))
theorem ok_adding (T : Txt K mg a) : FnOk P w K mg base CX0 2 a.f_adding a.fd_adding ["machine", "a", "b"] (sp_z_adding K a.c) := by
  refine T.F_adding.ok sc_adding (fun vs H Q E h => ?_) (fun cdv A outer s H vs Q E hr h => ⟨_, dv_adding T hr, b_z_adding T.PM T.PB h⟩)
  first | exact Pu.lif_len n_z_adding h | exact Pu.lifS_len n_z_adding h | exact Pu.lifL_len n_z_adding h | exact Pu.lifO_len n_z_adding h
theorem dv_Machine_init {cdv : Value} {A : Around} {outer : List Env} {s : Shared} {H : Hp} {E : XK} (T : Txt K mg a) (hr : Room 2 (A.deeper (envOfC "Machine.__init__" (defScope s_Machine_init) s.heap.objs.size a.f_Machine_init cdv))) :
    PSs (cxOf CX0 P w K mg base N_Machine_init "Machine.__init__" (defScope s_Machine_init) a.f_Machine_init cdv A outer s H E).nox (defBody s_Machine_init) (t_Machine_init K a.c) := by
  unfold t_Machine_init
  exact (pss_cons (ps_if (pt_not (pt_val (pe_call (ok_is_between T) (hr.mono (by decide)) rfl T.m_is_between T.F_is_between.kp T.b_is_between .nil pass0 (pa_cons (pv 1) (pa_cons (C8.pe_gc rfl T.g_LEAST_BITS) (pa_cons (C8.pe_gc rfl T.g_MOST_BITS) pa_nil)))))) (pss_one ps_never) pss_nil)
      (pss_cons (ps_if (pt_not (pt_val (pe_call (ok_is_between T) (hr.mono (by decide)) rfl T.m_is_between T.F_is_between.kp T.b_is_between .nil pass0 (pa_cons (pv 2) (pa_cons pe_int (pa_cons (C8.pe_gc rfl T.g_MOST_CUTOFF) pa_nil)))))) (pss_one ps_never) pss_nil)
      (pss_cons (ps_fld (pv 0) (pv 1) rfl)
      (pss_cons (ps_fld (pv 0) (pv 2) rfl)
      (pss_cons (ps_fld (pv 0) (pe_op o_shl pe_int (pv 1)) rfl)
      (pss_cons (ps_fld (pv 0) (pe_callTy (c_dict rfl) (by rfl) T.n_dict (by decide +kernel) (pa_cons (pe_lc (own := [("word", 3)]) (g := (gName 3)) rfl sc_Machine_init.nd (pi_tup (pe_glob rfl T.g_WORDS rfl)) (blkOk_by (own := [("word", 3)]) (N := N_Machine_init) (sc := defScope s_Machine_init) (by decide +kernel)) (fun _ _ _ _ _ => (pg_name (i := 3) sc_Machine_init.nd rfl (by first | exact Or.inl rfl | exact Or.inr rfl))) (fun _ _ _ _ _ => pts_nil) (fun _ _ _ _ _ => (pe_tup (pa_cons (pv 3) (pa_cons pe_int pa_nil))))) pa_nil)) rfl)
      (pss_one (ps_fld (pv 0) (pe_lst pa_nil) rfl))))))))
theorem ok_Machine_init (T : Txt K mg a) : FnOk P w K mg base CX0 3 a.f_Machine_init a.fd_Machine_init ["self", "bits", "cutoff"] (sp_Machine_init K a.c) := by
  refine FunD.ok T.F_Machine_init sc_Machine_init (fun vs H Q E h => ?_) (fun cdv A outer s H vs Q E hr h => ⟨_, (dv_Machine_init T hr).nox, b_Machine_init T.PM h⟩)
  (repeat (obtain ⟨_, h⟩ := h)); all_goals (subst_vars; rfl)
theorem dv_made {cdv : Value} {A : Around} {outer : List Env} {s : Shared} {H : Hp} {E : XK} (T : Txt K mg a) (hr : Room 2 (A.deeper (envOfC "made" (defScope s_made) s.heap.objs.size a.f_made cdv))) :
    PSs (cxOf CX0 P w K mg base N_made "made" (defScope s_made) a.f_made cdv A outer s H E).nox (defBody s_made) (t_made K a.c) := by
  unfold t_made
  exact (pss_cons (ps_set (i := 3) sc_made.nd rfl (by first | exact Or.inl rfl | exact Or.inr rfl) (pe_callB c_len (by rfl) T.n_len (by decide +kernel) (pa_cons (pv 2) pa_nil)))
      (pss_cons (ps_while PassesOwn.never (PW.pt (pw_and (pt_cmpR o_gt (pv 3) pe_int (nomark _)) (pw_and1 (pt_cmpR op_eq (pe_ix ix_list (pv 2) (pe_op o_sub (pv 3) pe_int) (fun _ _ => rfl)) pe_int (nomark _))))) (pss_one (ps_set (i := 3) sc_made.nd rfl (by first | exact Or.inl rfl | exact Or.inr rfl) (pe_op o_sub (pv 3) pe_int))))
      (pss_one (ps_ret (pe_make T.mk_Big (ok_Big_init T) (hr.mono (by decide)) rfl T.g_Big T.b_Big_init .nil pass0 (pa_cons (pe_fld (pv 0) rfl) (pa_cons (pe_ifExp (pt_cmpR o_gt (pv 3) pe_int (nomark _)) (pv 1) pe_int) (pa_cons (pe_callTy c_tupL (by rfl) T.n_tuple (by decide +kernel) (pa_cons (pe_slice sl_list (pv 2) po_none (po_some (pv 3))) pa_nil)) pa_nil))))))))
theorem ok_made (T : Txt K mg a) : FnOk P w K mg base CX0 3 a.f_made a.fd_made ["machine", "side", "digits"] (sp_made K a.c) := by
  refine T.F_made.ok sc_made (fun vs H Q E h => ?_) (fun cdv A outer s H vs Q E hr h => ⟨_, dv_made T hr, b_made T.PM T.PB h⟩)
  (repeat (obtain ⟨_, h⟩ := h)); all_goals (subst_vars; rfl)
theorem dv_taking {cdv : Value} {A : Around} {outer : List Env} {s : Shared} {H : Hp} {E : XK} (T : Txt K mg a) (hr : Room 2 (A.deeper (envOfC "taking" (defScope s_taking) s.heap.objs.size a.f_taking cdv))) :
    PSs (cxOf CX0 P w K mg base N_taking "taking" (defScope s_taking) a.f_taking cdv A outer s H E).nox (defBody s_taking) (t_z_taking K a.c) := by
  unfold t_z_taking
  exact (pss_cons (ps_expr (pe_meth (pv 0) T.cl_Machine T.me_Machine_enter (ok_Machine_enter T) (hr.mono (by decide)) T.b_Machine_enter .nil pass0 (pa_cons pe_str (pa_cons (pe_callB c_len (by rfl) T.n_len (by decide +kernel) (pa_cons (pv 1) pa_nil)) (pa_cons (pe_callB c_len (by rfl) T.n_len (by decide +kernel) (pa_cons (pv 2) pa_nil)) pa_nil)))))
      (pss_cons (ps_set (i := 3) sc_taking.nd rfl (by first | exact Or.inl rfl | exact Or.inr rfl) pe_int)
      (pss_cons (ps_if (pt_cmpR o_lt (pe_callB c_len (by rfl) T.n_len (by decide +kernel) (pa_cons (pv 1) pa_nil)) (pe_callB c_len (by rfl) T.n_len (by decide +kernel) (pa_cons (pv 2) pa_nil)) (nomark _)) (pss_one (ps_par3 rfl sc_taking.nd rfl rfl rfl (by decide) (by decide) (by decide) rfl rfl rfl (pa_cons (pv 2) (pa_cons (pv 1) (pa_cons (pe_un o_neg pe_int) pa_nil))) (by rfl))) (pss_one (ps_if (pt_cmpR op_eq (pe_callB c_len (by rfl) T.n_len (by decide +kernel) (pa_cons (pv 1) pa_nil)) (pe_callB c_len (by rfl) T.n_len (by decide +kernel) (pa_cons (pv 2) pa_nil)) (nomark _)) (pss_cons (ps_set (i := 4) sc_taking.nd rfl (by first | exact Or.inl rfl | exact Or.inr rfl) (pe_call (ok_looked_down T) (hr.mono (by decide)) rfl T.m_looked_down T.F_looked_down.kp T.b_looked_down .nil pass0 (pa_cons (pv 0) (pa_cons (pv 1) (pa_cons (pv 2) pa_nil)))))
      (pss_cons (ps_if (pt_cmpR o_lt (pv 4) pe_int (nomark _)) (pss_one (ps_ret (pe_tup (pa_cons pe_int (pa_cons (pe_lst pa_nil) pa_nil))))) pss_nil)
      (pss_cons (ps_par rfl sc_taking.nd rfl rfl (by decide) rfl rfl (pa_cons (pe_slice sl_tupA (pv 1) po_none (po_some (pe_op o_add (pv 4) pe_int))) (pa_cons (pe_slice sl_tupA (pv 2) po_none (po_some (pe_op o_add (pv 4) pe_int))) pa_nil)) (by rfl))
      (pss_one (ps_if (pt_cmpR o_lt (pe_ix ix_tup (pv 1) (pv 4) (fun _ _ => rfl)) (pe_ix ix_tup (pv 2) (pv 4) (fun _ _ => rfl)) (nomark _)) (pss_one (ps_par3 rfl sc_taking.nd rfl rfl rfl (by decide) (by decide) (by decide) rfl rfl rfl (pa_cons (pv 2) (pa_cons (pv 1) (pa_cons (pe_un o_neg pe_int) pa_nil))) (by rfl))) pss_nil))))) pss_nil)))
      (pss_cons (ps_par rfl sc_taking.nd rfl rfl (by decide) rfl rfl (pa_cons (pe_lst pa_nil) (pa_cons pe_int pa_nil)) (by rfl))
      (pss_cons (ps_for PassesOwn.never rfl (pi_enumA (by rfl) T.n_enumerate (pa_cons (pv 1) pa_nil)) (pg_tup rfl (pgs_cons (pg_name (i := 4) sc_taking.nd rfl (by first | exact Or.inl rfl | exact Or.inr rfl)) (pgs_cons (pg_name (i := 7) sc_taking.nd rfl (by first | exact Or.inl rfl | exact Or.inr rfl)) pgs_nil))) (pss_cons (ps_set (i := 6) sc_taking.nd rfl (by first | exact Or.inl rfl | exact Or.inr rfl) (pe_op o_sub (pe_op o_sub (pv 7) (pe_ifExp (pt_cmpR o_lt (pv 4) (pe_callB c_len (by rfl) T.n_len (by decide +kernel) (pa_cons (pv 2) pa_nil)) (nomark _)) (pe_ix ix_tup (pv 2) (pv 4) (fun _ _ => rfl)) pe_int)) (pv 6)))
      (pss_cons (ps_expr (pe_bm PySem.F.plainAttrs_list PySem.F.slot_list_append PySem.F.type_list_append mt_append (pv 5) (pa_cons (pe_op o_mod (pv 6) (pe_fld (pv 0) rfl)) pa_nil)))
      (pss_one (ps_set (i := 6) sc_taking.nd rfl (by first | exact Or.inl rfl | exact Or.inr rfl) (pe_callTy c_int (by rfl) T.n_int (by decide +kernel) (pa_cons (pe_cmpR o_lt (pv 6) pe_int (nomark _)) pa_nil)))))))
      (pss_cons (ps_expr (pe_meth (pv 0) T.cl_Machine T.me_Machine_count (ok_Machine_count T) (hr.mono (by decide)) T.b_Machine_count .nil pass0 (pa_cons pe_str (pa_cons (pe_callB c_len (by rfl) T.n_len (by decide +kernel) (pa_cons (pv 1) pa_nil)) pa_nil))))
      (pss_one (ps_ret (pe_tup (pa_cons (pv 3) (pa_cons (pv 5) pa_nil)))))))))))
theorem ok_taking (T : Txt K mg a) : FnOk P w K mg base CX0 3 a.f_taking a.fd_taking ["machine", "a", "b"] (sp_z_taking K a.c) := by
  refine T.F_taking.ok sc_taking (fun vs H Q E h => ?_) (fun cdv A outer s H vs Q E hr h => ⟨_, dv_taking T hr, b_z_taking T.PM T.PB h⟩)
  first | exact Pu.lif_len n_z_taking h | exact Pu.lifS_len n_z_taking h | exact Pu.lifL_len n_z_taking h | exact Pu.lifO_len n_z_taking h
theorem dv_big_of {cdv : Value} {A : Around} {outer : List Env} {s : Shared} {H : Hp} {E : XK} (T : Txt K mg a) (hr : Room 3 (A.deeper (envOfC "big_of" (defScope s_big_of) s.heap.objs.size a.f_big_of cdv))) :
    PSs (cxOf CX0 P w K mg base N_big_of "big_of" (defScope s_big_of) a.f_big_of cdv A outer s H E).nox (defBody s_big_of) (t_big_of K a.c) := by
  unfold t_big_of
  exact (pss_one (ps_ret (pe_call (ok_made T) (hr.mono (by decide)) rfl T.m_made T.F_made.kp T.b_made .nil pass0 (pa_cons (pv 0) (pa_cons (pe_ifExp (pt_cmpR o_lt (pv 1) pe_int (nomark _)) (pe_un o_neg pe_int) pe_int) (pa_cons (pe_call (ok_digits_of T) (hr.mono (by decide)) rfl T.m_digits_of T.F_digits_of.kp T.b_digits_of .nil pass0 (pa_cons (pv 0) (pa_cons (pe_callB c_abs (by rfl) T.n_abs (by decide +kernel) (pa_cons (pv 1) pa_nil)) pa_nil))) pa_nil))))))
theorem ok_big_of (T : Txt K mg a) : FnOk P w K mg base CX0 4 a.f_big_of a.fd_big_of ["machine", "n"] (sp_big_of K a.c) := by
  refine T.F_big_of.ok sc_big_of (fun vs H Q E h => ?_) (fun cdv A outer s H vs Q E hr h => ⟨_, dv_big_of T hr, b_big_of T.PM h⟩)
  (repeat (obtain ⟨_, h⟩ := h)); all_goals (subst_vars; rfl)
theorem dv_big {cdv : Value} {A : Around} {outer : List Env} {s : Shared} {H : Hp} {E : XK} (T : Txt K mg a) (hr : Room 4 (A.deeper (envOfC "big" (defScope s_big) s.heap.objs.size a.f_big cdv))) :
    PSs (cxOf CX0 P w K mg base N_big "big" (defScope s_big) a.f_big cdv A outer s H E).nox (defBody s_big) (t_big K a.c) := by
  unfold t_big
  exact (pss_cons (ps_expr (pe_call (ok_check_machine T) (hr.mono (by decide)) rfl T.m_check_machine T.F_check_machine.kp T.b_check_machine .nil pass0 (pa_cons (pv 0) pa_nil)))
      (pss_cons (ps_expr (pe_call (ok_check_integer T) (hr.mono (by decide)) rfl T.m_check_integer T.F_check_integer.kp T.b_check_integer .nil pass0 (pa_cons pe_str (pa_cons (pv 1) pa_nil))))
      (pss_one (ps_ret (pe_call (ok_big_of T) (hr.mono (by decide)) rfl T.m_big_of T.F_big_of.kp T.b_big_of .nil pass0 (pa_cons (pv 0) (pa_cons (pv 1) pa_nil)))))))
theorem ok_big (T : Txt K mg a) : FnOk P w K mg base CX0 5 a.f_big a.fd_big ["machine", "n"] (sp_big K a.c) := by
  refine T.F_big.ok sc_big (fun vs H Q E h => ?_) (fun cdv A outer s H vs Q E hr h => ⟨_, dv_big T hr, b_big h⟩)
  (repeat (obtain ⟨_, h⟩ := h)); all_goals (subst_vars; rfl)
theorem dv_added {cdv : Value} {A : Around} {outer : List Env} {s : Shared} {H : Hp} {E : XK} (T : Txt K mg a) (hr : Room 4 (A.deeper (envOfC "added" (defScope s_added) s.heap.objs.size a.f_added cdv))) :
    PSs (cxOf CX0 P w K mg base N_added "added" (defScope s_added) a.f_added cdv A outer s H E).nox (defBody s_added) (t_z_added K a.c) := by
  unfold t_z_added
  exact (pss_cons (ps_if (PW.pt (pw_and (pt_val (pe_call (ok_is_compact T) (hr.mono (by decide)) rfl T.m_is_compact T.F_is_compact.kp T.b_is_compact .nil pass0 (pa_cons (pv 1) pa_nil))) (pw_and1 (pt_val (pe_call (ok_is_compact T) (hr.mono (by decide)) rfl T.m_is_compact T.F_is_compact.kp T.b_is_compact .nil pass0 (pa_cons (pv 2) pa_nil)))))) (pss_cons (ps_expr (pe_meth (pv 0) T.cl_Machine T.me_Machine_count (ok_Machine_count T) (hr.mono (by decide)) T.b_Machine_count .nil pass0 (pa_cons pe_str (pa_cons pe_int pa_nil))))
      (pss_one (ps_ret (pe_call (ok_big_of T) (hr.mono (by decide)) rfl T.m_big_of T.F_big_of.kp T.b_big_of .nil pass0 (pa_cons (pv 0) (pa_cons (pe_op o_add (pe_call (ok_value_of T) (hr.mono (by decide)) rfl T.m_value_of T.F_value_of.kp T.b_value_of .nil pass0 (pa_cons (pv 1) pa_nil)) (pe_call (ok_value_of T) (hr.mono (by decide)) rfl T.m_value_of T.F_value_of.kp T.b_value_of .nil pass0 (pa_cons (pv 2) pa_nil))) pa_nil)))))) pss_nil)
      (pss_cons (ps_if (pt_cmpR op_eq (pe_cmpR o_lt (pe_fld (pv 1) rfl) pe_int (nomark _)) (pe_cmpR o_lt (pe_fld (pv 2) rfl) pe_int (nomark _)) (nomark _)) (pss_one (ps_ret (pe_call (ok_made T) (hr.mono (by decide)) rfl T.m_made T.F_made.kp T.b_made .nil pass0 (pa_cons (pv 0) (pa_cons (pe_ifExp (pt_cmpR o_lt (pe_fld (pv 1) rfl) pe_int (nomark _)) (pe_un o_neg pe_int) pe_int) (pa_cons (pe_call (ok_adding T) (hr.mono (by decide)) rfl T.m_adding T.F_adding.kp T.b_adding .nil pass0 (pa_cons (pv 0) (pa_cons (pe_fld (pv 1) rfl) (pa_cons (pe_fld (pv 2) rfl) pa_nil)))) pa_nil)))))) pss_nil)
      (pss_cons (ps_asg (pe_ifExp (pt_cmpR o_lt (pe_fld (pv 1) rfl) pe_int (nomark _)) (pe_tup (pa_cons (pv 2) (pa_cons (pv 1) pa_nil))) (pe_tup (pa_cons (pv 1) (pa_cons (pv 2) pa_nil)))) (pg_tup rfl (pgs_cons (pg_name (i := 3) sc_added.nd rfl (by first | exact Or.inl rfl | exact Or.inr rfl)) (pgs_cons (pg_name (i := 4) sc_added.nd rfl (by first | exact Or.inl rfl | exact Or.inr rfl)) pgs_nil))))
      (pss_cons (ps_asg (pe_call (ok_taking T) (hr.mono (by decide)) rfl T.m_taking T.F_taking.kp T.b_taking .nil pass0 (pa_cons (pv 0) (pa_cons (pe_fld (pv 3) rfl) (pa_cons (pe_fld (pv 4) rfl) pa_nil)))) (pg_tup rfl (pgs_cons (pg_name (i := 5) sc_added.nd rfl (by first | exact Or.inl rfl | exact Or.inr rfl)) (pgs_cons (pg_name (i := 6) sc_added.nd rfl (by first | exact Or.inl rfl | exact Or.inr rfl)) pgs_nil))))
      (pss_one (ps_ret (pe_call (ok_made T) (hr.mono (by decide)) rfl T.m_made T.F_made.kp T.b_made .nil pass0 (pa_cons (pv 0) (pa_cons (pv 5) (pa_cons (pv 6) pa_nil))))))))))
theorem ok_added (T : Txt K mg a) : FnOk P w K mg base CX0 5 a.f_added a.fd_added ["machine", "x", "y"] (sp_z_added K a.c) := by
  refine T.F_added.ok sc_added (fun vs H Q E h => ?_) (fun cdv A outer s H vs Q E hr h => ⟨_, dv_added T hr, b_z_added T.PM T.PB h⟩)
  first | exact Pu.lif_len n_z_added h | exact Pu.lifS_len n_z_added h | exact Pu.lifL_len n_z_added h | exact Pu.lifO_len n_z_added h
theorem dv_subtracted {cdv : Value} {A : Around} {outer : List Env} {s : Shared} {H : Hp} {E : XK} (T : Txt K mg a) (hr : Room 4 (A.deeper (envOfC "subtracted" (defScope s_subtracted) s.heap.objs.size a.f_subtracted cdv))) :
    PSs (cxOf CX0 P w K mg base N_subtracted "subtracted" (defScope s_subtracted) a.f_subtracted cdv A outer s H E).nox (defBody s_subtracted) (t_z_subtracted K a.c) := by
  unfold t_z_subtracted
  exact (pss_cons (ps_if (PW.pt (pw_and (pt_val (pe_call (ok_is_compact T) (hr.mono (by decide)) rfl T.m_is_compact T.F_is_compact.kp T.b_is_compact .nil pass0 (pa_cons (pv 1) pa_nil))) (pw_and1 (pt_val (pe_call (ok_is_compact T) (hr.mono (by decide)) rfl T.m_is_compact T.F_is_compact.kp T.b_is_compact .nil pass0 (pa_cons (pv 2) pa_nil)))))) (pss_cons (ps_expr (pe_meth (pv 0) T.cl_Machine T.me_Machine_count (ok_Machine_count T) (hr.mono (by decide)) T.b_Machine_count .nil pass0 (pa_cons pe_str (pa_cons pe_int pa_nil))))
      (pss_one (ps_ret (pe_call (ok_big_of T) (hr.mono (by decide)) rfl T.m_big_of T.F_big_of.kp T.b_big_of .nil pass0 (pa_cons (pv 0) (pa_cons (pe_op o_sub (pe_call (ok_value_of T) (hr.mono (by decide)) rfl T.m_value_of T.F_value_of.kp T.b_value_of .nil pass0 (pa_cons (pv 1) pa_nil)) (pe_call (ok_value_of T) (hr.mono (by decide)) rfl T.m_value_of T.F_value_of.kp T.b_value_of .nil pass0 (pa_cons (pv 2) pa_nil))) pa_nil)))))) pss_nil)
      (pss_cons (ps_if (pt_cmpR op_ne (pe_cmpR o_lt (pe_fld (pv 1) rfl) pe_int (nomark _)) (pe_cmpR o_lt (pe_fld (pv 2) rfl) pe_int (nomark _)) (nomark _)) (pss_one (ps_ret (pe_call (ok_made T) (hr.mono (by decide)) rfl T.m_made T.F_made.kp T.b_made .nil pass0 (pa_cons (pv 0) (pa_cons (pe_ifExp (pt_cmpR o_lt (pe_fld (pv 1) rfl) pe_int (nomark _)) (pe_un o_neg pe_int) pe_int) (pa_cons (pe_call (ok_adding T) (hr.mono (by decide)) rfl T.m_adding T.F_adding.kp T.b_adding .nil pass0 (pa_cons (pv 0) (pa_cons (pe_fld (pv 1) rfl) (pa_cons (pe_fld (pv 2) rfl) pa_nil)))) pa_nil)))))) pss_nil)
      (pss_cons (ps_asg (pe_ifExp (pt_cmpR o_lt (pe_fld (pv 1) rfl) pe_int (nomark _)) (pe_tup (pa_cons (pv 2) (pa_cons (pv 1) pa_nil))) (pe_tup (pa_cons (pv 1) (pa_cons (pv 2) pa_nil)))) (pg_tup rfl (pgs_cons (pg_name (i := 3) sc_subtracted.nd rfl (by first | exact Or.inl rfl | exact Or.inr rfl)) (pgs_cons (pg_name (i := 4) sc_subtracted.nd rfl (by first | exact Or.inl rfl | exact Or.inr rfl)) pgs_nil))))
      (pss_cons (ps_asg (pe_call (ok_taking T) (hr.mono (by decide)) rfl T.m_taking T.F_taking.kp T.b_taking .nil pass0 (pa_cons (pv 0) (pa_cons (pe_fld (pv 3) rfl) (pa_cons (pe_fld (pv 4) rfl) pa_nil)))) (pg_tup rfl (pgs_cons (pg_name (i := 5) sc_subtracted.nd rfl (by first | exact Or.inl rfl | exact Or.inr rfl)) (pgs_cons (pg_name (i := 6) sc_subtracted.nd rfl (by first | exact Or.inl rfl | exact Or.inr rfl)) pgs_nil))))
      (pss_one (ps_ret (pe_call (ok_made T) (hr.mono (by decide)) rfl T.m_made T.F_made.kp T.b_made .nil pass0 (pa_cons (pv 0) (pa_cons (pv 5) (pa_cons (pv 6) pa_nil))))))))))
theorem ok_subtracted (T : Txt K mg a) : FnOk P w K mg base CX0 5 a.f_subtracted a.fd_subtracted ["machine", "x", "y"] (sp_z_subtracted K a.c) := by
  refine T.F_subtracted.ok sc_subtracted (fun vs H Q E h => ?_) (fun cdv A outer s H vs Q E hr h => ⟨_, dv_subtracted T hr, b_z_subtracted T.PM T.PB h⟩)
  first | exact Pu.lif_len n_z_subtracted h | exact Pu.lifS_len n_z_subtracted h | exact Pu.lifL_len n_z_subtracted h | exact Pu.lifO_len n_z_subtracted h
theorem dv_add {cdv : Value} {A : Around} {outer : List Env} {s : Shared} {H : Hp} {E : XK} (T : Txt K mg a) (hr : Room 5 (A.deeper (envOfC "add" (defScope s_add) s.heap.objs.size a.f_add cdv))) :
    PSs (cxOf CX0 P w K mg base N_add "add" (defScope s_add) a.f_add cdv A outer s H E).nox (defBody s_add) (t_z_add K a.c) := by
  unfold t_z_add
  exact (pss_cons (ps_expr (pe_call (ok_check_bigs T) (hr.mono (by decide)) rfl T.m_check_bigs T.F_check_bigs.kp T.b_check_bigs .nil pass0 (pa_cons (pv 0) (pa_cons (pv 1) (pa_cons (pv 2) pa_nil)))))
      (pss_one (ps_ret (pe_call (ok_added T) (hr.mono (by decide)) rfl T.m_added T.F_added.kp T.b_added .nil pass0 (pa_cons (pv 0) (pa_cons (pv 1) (pa_cons (pv 2) pa_nil)))))))
theorem ok_add (T : Txt K mg a) : FnOk P w K mg base CX0 6 a.f_add a.fd_add ["machine", "x", "y"] (sp_z_add K a.c) := by
  refine T.F_add.ok sc_add (fun vs H Q E h => ?_) (fun cdv A outer s H vs Q E hr h => ⟨_, dv_add T hr, b_z_add T.PM T.PB h⟩)
  first | exact Pu.lif_len n_z_add h | exact Pu.lifS_len n_z_add h | exact Pu.lifL_len n_z_add h | exact Pu.lifO_len n_z_add h
theorem dv_subtract {cdv : Value} {A : Around} {outer : List Env} {s : Shared} {H : Hp} {E : XK} (T : Txt K mg a) (hr : Room 5 (A.deeper (envOfC "subtract" (defScope s_subtract) s.heap.objs.size a.f_subtract cdv))) :
    PSs (cxOf CX0 P w K mg base N_subtract "subtract" (defScope s_subtract) a.f_subtract cdv A outer s H E).nox (defBody s_subtract) (t_z_subtract K a.c) := by
  unfold t_z_subtract
  exact (pss_cons (ps_expr (pe_call (ok_check_bigs T) (hr.mono (by decide)) rfl T.m_check_bigs T.F_check_bigs.kp T.b_check_bigs .nil pass0 (pa_cons (pv 0) (pa_cons (pv 1) (pa_cons (pv 2) pa_nil)))))
      (pss_one (ps_ret (pe_call (ok_subtracted T) (hr.mono (by decide)) rfl T.m_subtracted T.F_subtracted.kp T.b_subtracted .nil pass0 (pa_cons (pv 0) (pa_cons (pv 1) (pa_cons (pv 2) pa_nil)))))))
theorem ok_subtract (T : Txt K mg a) : FnOk P w K mg base CX0 6 a.f_subtract a.fd_subtract ["machine", "x", "y"] (sp_z_subtract K a.c) := by
  refine T.F_subtract.ok sc_subtract (fun vs H Q E h => ?_) (fun cdv A outer s H vs Q E hr h => ⟨_, dv_subtract T hr, b_z_subtract T.PM T.PB h⟩)
  first | exact Pu.lif_len n_z_subtract h | exact Pu.lifS_len n_z_subtract h | exact Pu.lifL_len n_z_subtract h | exact Pu.lifO_len n_z_subtract h
theorem dv_law_counts_right {cdv : Value} {A : Around} {outer : List Env} {s : Shared} {H : Hp} {E : XK} (T : Txt K mg a) (hr : Room 6 (A.deeper (envOfC "_law_counts_right" (defScope s_law_counts_right) s.heap.objs.size a.f_law_counts_right cdv))) :
    PSs (cxOf CX0 P w K mg base N_law_counts_right "_law_counts_right" (defScope s_law_counts_right) a.f_law_counts_right cdv A outer s H E).nox (defBody s_law_counts_right) (t_k04_counts K a.c) := by
  unfold t_k04_counts
  exact (pss_cons (ps_asg (pe_tup (pa_cons (pe_disp (pps_cons pe_str pe_int (pps_cons pe_str pe_int pps_nil)) (by rfl) (by rfl) (fun z => by cases z) (by decide)) (pa_cons (pe_lst pa_nil) pa_nil))) (pg_tup rfl (pgs_cons (pg_name (i := 4) sc_law_counts_right.nd rfl (by first | exact Or.inl rfl | exact Or.inr rfl)) (pgs_cons (pg_name (i := 5) sc_law_counts_right.nd rfl (by first | exact Or.inl rfl | exact Or.inr rfl)) pgs_nil))))
      (pss_cons (ps_for PassesOwn.never rfl (pi_range1 rfl T.n_range (pa_cons (pe_call (ok_law_next T) (hr.mono (by decide)) rfl T.m_law_next T.F_law_next.kp T.b_law_next .nil pass0 (pa_cons (pv 0) (pa_cons pe_int pa_nil))) pa_nil)) (pg_name (i := 6) sc_law_counts_right.nd rfl (by first | exact Or.inl rfl | exact Or.inr rfl)) (pss_cons (ps_par rfl sc_law_counts_right.nd rfl rfl (by decide) rfl rfl (pa_cons (pe_call (ok_law_next T) (hr.mono (by decide)) rfl T.m_law_next T.F_law_next.kp T.b_law_next .nil pass0 (pa_cons (pv 0) (pa_cons pe_int pa_nil))) (pa_cons (pe_call (ok_law_next T) (hr.mono (by decide)) rfl T.m_law_next T.F_law_next.kp T.b_law_next .nil pass0 (pa_cons (pv 0) (pa_cons pe_int pa_nil))) pa_nil)) (by rfl))
      (pss_cons (ps_par rfl sc_law_counts_right.nd rfl rfl (by decide) rfl rfl (pa_cons (pe_call (ok_big T) (hr.mono (by decide)) rfl T.m_big T.F_big.kp T.b_big .nil pass0 (pa_cons (pv 1) (pa_cons (pe_op o_sub (pe_call (ok_law_power T) (hr.mono (by decide)) rfl T.m_law_power T.F_law_power.kp T.b_law_power .nil pass0 (pa_cons (pv 3) (pa_cons (pv 7) pa_nil))) pe_int) pa_nil))) (pa_cons (pe_call (ok_big T) (hr.mono (by decide)) rfl T.m_big T.F_big.kp T.b_big .nil pass0 (pa_cons (pv 1) (pa_cons (pe_op o_sub (pe_call (ok_law_power T) (hr.mono (by decide)) rfl T.m_law_power T.F_law_power.kp T.b_law_power .nil pass0 (pa_cons (pv 3) (pa_cons (pv 8) pa_nil))) pe_int) pa_nil))) pa_nil)) (by rfl))
      (pss_cons (ps_expr (pe_call (ok_add T) (hr.mono (by decide)) rfl T.m_add T.F_add.kp T.b_add .nil pass0 (pa_cons (pv 1) (pa_cons (pv 9) (pa_cons (pv 10) pa_nil)))))
      (pss_one (ps_if (PW.pt (pw_and (pt_cmpR o_lt (pv 7) pe_int (nomark _)) (pw_and1 (pt_cmpR o_lt (pv 8) pe_int (nomark _))))) (pss_one (ps_dput (hu_of hr) (pv 4) pe_str (pe_op o_add (pe_dget (hu_of hr) (pv 4) pe_str (fun _ _ => rfl)) pe_int) rfl)) (pss_cons (ps_dput (hu_of hr) (pv 4) pe_str (pe_op o_add (pe_dget (hu_of hr) (pv 4) pe_str (fun _ _ => rfl)) (pe_callB (c_max rfl) (by rfl) T.n_max (by decide +kernel) (pa_cons (pv 7) (pa_cons (pv 8) pa_nil)))) rfl)
      (pss_one (ps_expr (pe_bm PySem.F.plainAttrs_list PySem.F.slot_list_append PySem.F.type_list_append mt_append (pv 5) (pa_cons (pe_tup (pa_cons pe_str (pa_cons (pv 7) (pa_cons (pv 8) pa_nil)))) pa_nil)))))))))))
      (pss_cons (ps_set (i := 11) sc_law_counts_right.nd rfl (by first | exact Or.inl rfl | exact Or.inr rfl) (pe_meth0 (pv 1) T.cl_Machine T.me_Machine_tally (ok_Machine_tally T) (hr.mono (by decide)) T.b_Machine_tally .nil pass0))
      (pss_cons (ps_if (pt_cmpR (op_neD hr.units) (pv 11) (pe_lc (own := [("_law_word", 12)]) (g := (gName 12)) rfl sc_law_counts_right.nd (pi_list (pe_call0 (ok_law_words T) (hr.mono (by decide)) rfl T.m_law_words T.F_law_words.kp T.b_law_words .nil pass0)) (blkOk_by (own := [("_law_word", 12)]) (N := N_law_counts_right) (sc := defScope s_law_counts_right) (by decide +kernel)) (fun _ _ _ _ _ => (pg_name (i := 12) sc_law_counts_right.nd rfl (by first | exact Or.inl rfl | exact Or.inr rfl))) (fun _ _ _ _ _ => pts_nil) (fun _ _ _ _ _ => (pe_tup (pa_cons (pv 12) (pa_cons (pe_ifExp (pt_cmp (pc_din (hu_of hr) (pv 12) (pv 4))) (pe_dget (hu_of hr) (pv 4) (pv 12) (fun _ _ => rfl)) pe_int) pa_nil))))) (nomark _)) (pss_one (ps_ret pe_bl)) pss_nil)
      (pss_cons (ps_if (pt_cmpR (op_neD hr.units) (pe_meth0 (pv 1) T.cl_Machine T.me_Machine_walk (ok_Machine_walk T) (hr.mono (by decide)) T.b_Machine_walk .nil pass0) (pv 5) (nomark _)) (pss_one (ps_ret pe_bl)) pss_nil)
      (pss_cons (ps_expr (pe_bm PySem.F.plainAttrs_list PySem.F.slot_list_append PySem.F.type_list_append mt_append (pv 11) (pa_cons (pe_tup (pa_cons pe_str (pa_cons pe_int pa_nil))) pa_nil)))
      (pss_cons (ps_set (i := 13) sc_law_counts_right.nd rfl (by first | exact Or.inl rfl | exact Or.inr rfl) (pe_meth0 (pv 1) T.cl_Machine T.me_Machine_walk (ok_Machine_walk T) (hr.mono (by decide)) T.b_Machine_walk .nil pass0))
      (pss_cons (ps_expr (pe_bm PySem.F.plainAttrs_list PySem.F.slot_list_append PySem.F.type_list_append mt_append (pv 13) (pa_cons (pe_tup (pa_cons pe_str (pa_cons pe_int (pa_cons pe_int pa_nil)))) pa_nil)))
      (pss_cons (ps_if (PW.pt (pw_or (pt_cmpR (op_neD hr.units) (pe_meth0 (pv 1) T.cl_Machine T.me_Machine_walk (ok_Machine_walk T) (hr.mono (by decide)) T.b_Machine_walk .nil pass0) (pv 5) (nomark _)) (pw_or (pt_cmpR op_ne (pe_callB c_len (by rfl) T.n_len (by decide +kernel) (pa_cons (pe_meth0 (pv 1) T.cl_Machine T.me_Machine_tally (ok_Machine_tally T) (hr.mono (by decide)) T.b_Machine_tally .nil pass0) pa_nil)) pe_int (nomark _)) (pw_or (pt_cmpR (o_ownNe T.ne_Machine (ok_Machine_eq T) (hr.mono (by decide)) T.b_Machine_eq pass0) (pv 1) (pv 2) (nomark _)) (pw_or1 (pt_cmpR (op_neD hr.units) (pe_meth0 (pv 2) T.cl_Machine T.me_Machine_walk (ok_Machine_walk T) (hr.mono (by decide)) T.b_Machine_walk .nil pass0) (pe_lst pa_nil) (nomark _))))))) (pss_one (ps_ret pe_bl)) pss_nil)
      (pss_cons (ps_if (PW.pt (pw_or (pt_cmp (pc_notN (pe_meth0 (pv 1) T.cl_Machine T.me_Machine_reset (ok_Machine_reset T) (hr.mono (by decide)) T.b_Machine_reset .nil pass0))) (pw_or (pt_cmpR (op_neD hr.units) (pe_meth0 (pv 1) T.cl_Machine T.me_Machine_tally (ok_Machine_tally T) (hr.mono (by decide)) T.b_Machine_tally .nil pass0) (pe_meth0 (pv 2) T.cl_Machine T.me_Machine_tally (ok_Machine_tally T) (hr.mono (by decide)) T.b_Machine_tally .nil pass0) (nomark _)) (pw_or1 (pt_cmpR (op_neD hr.units) (pe_meth0 (pv 1) T.cl_Machine T.me_Machine_walk (ok_Machine_walk T) (hr.mono (by decide)) T.b_Machine_walk .nil pass0) (pe_lst pa_nil) (nomark _)))))) (pss_one (ps_ret pe_bl)) pss_nil)
      (pss_one (ps_ret (pe_cmpR (op_eqD hr.units) (pe_slice sl_list (pv 11) po_none (po_some pe_int)) (pe_lc (own := [("_law_word", 12)]) (g := (gName 12)) rfl sc_law_counts_right.nd (pi_list (pe_call0 (ok_law_words T) (hr.mono (by decide)) rfl T.m_law_words T.F_law_words.kp T.b_law_words .nil pass0)) (blkOk_by (own := [("_law_word", 12)]) (N := N_law_counts_right) (sc := defScope s_law_counts_right) (by decide +kernel)) (fun _ _ _ _ _ => (pg_name (i := 12) sc_law_counts_right.nd rfl (by first | exact Or.inl rfl | exact Or.inr rfl))) (fun _ _ _ _ _ => pts_nil) (fun _ _ _ _ _ => (pe_tup (pa_cons (pv 12) (pa_cons (pe_ifExp (pt_cmp (pc_din (hu_of hr) (pv 12) (pv 4))) (pe_dget (hu_of hr) (pv 4) (pv 12) (fun _ _ => rfl)) pe_int) pa_nil))))) (nomark _))))))))))))))
theorem ok_law_counts_right (T : Txt K mg a) : FnOk P w K mg base CX0 7 a.f_law_counts_right a.fd_law_counts_right ["_law_source", "_law_one_here", "_law_other", "_law_base"] (sp_k04_counts K a.c) := by
  refine T.F_law_counts_right.ok sc_law_counts_right (fun vs H Q E h => ?_) (fun cdv A outer s H vs Q E hr h => ⟨_, dv_law_counts_right T hr, b_k04_counts T.PM T.PB h⟩)
  first | exact Pu.lif_len n_k04_counts h | exact Pu.lifS_len n_k04_counts h | exact Pu.lifL_len n_k04_counts h | exact Pu.lifO_len n_k04_counts h
theorem dv_law_long_right {cdv : Value} {A : Around} {outer : List Env} {s : Shared} {H : Hp} {E : XK} (T : Txt K mg a) (hr : Room 6 (A.deeper (envOfC "_law_long_right" (defScope s_law_long_right) s.heap.objs.size a.f_law_long_right cdv))) :
    PSs (cxOf CX0 P w K mg base N_law_long_right "_law_long_right" (defScope s_law_long_right) a.f_law_long_right cdv A outer s H E).nox (defBody s_law_long_right) (t_k04_long K a.c) := by
  unfold t_k04_long
  exact (pss_cons (ps_par rfl sc_law_long_right.nd rfl rfl (by decide) rfl rfl (pa_cons (pe_make T.mk_Machine (ok_Machine_init T) (hr.mono (by decide)) rfl T.g_Machine T.b_Machine_init .nil pass0 (pa_cons pe_int (pa_cons pe_int pa_nil))) (pa_cons (pe_op o_add pe_int (pe_call (ok_law_next T) (hr.mono (by decide)) rfl T.m_law_next T.F_law_next.kp T.b_law_next .nil pass0 (pa_cons (pv 0) (pa_cons pe_int pa_nil)))) pa_nil)) (by rfl))
      (pss_cons (ps_par rfl sc_law_long_right.nd rfl rfl (by decide) rfl rfl (pa_cons (pe_call (ok_big T) (hr.mono (by decide)) rfl T.m_big T.F_big.kp T.b_big .nil pass0 (pa_cons (pv 1) (pa_cons pe_int pa_nil))) (pa_cons (pe_call (ok_big T) (hr.mono (by decide)) rfl T.m_big T.F_big.kp T.b_big .nil pass0 (pa_cons (pv 1) (pa_cons pe_int pa_nil))) pa_nil)) (by rfl))
      (pss_cons (ps_for PassesOwn.never rfl (pi_range1 rfl T.n_range (pa_cons (pv 2) pa_nil)) (pg_name (i := 5) sc_law_long_right.nd rfl (by first | exact Or.inl rfl | exact Or.inr rfl)) (pss_one (ps_expr (pe_ifExp (pt_cmpR o_lt (pv 5) pe_int (nomark _)) (pe_call (ok_add T) (hr.mono (by decide)) rfl T.m_add T.F_add.kp T.b_add .nil pass0 (pa_cons (pv 1) (pa_cons (pv 3) (pa_cons (pv 4) pa_nil)))) (pe_call (ok_subtract T) (hr.mono (by decide)) rfl T.m_subtract T.F_subtract.kp T.b_subtract .nil pass0 (pa_cons (pv 1) (pa_cons (pv 3) (pa_cons (pv 4) pa_nil))))))))
      (pss_cons (ps_set (i := 6) sc_law_long_right.nd rfl (by first | exact Or.inl rfl | exact Or.inr rfl) (pe_op op_cat (pe_op op_rep (pe_lst (pa_cons (pe_tup (pa_cons pe_str (pa_cons pe_int (pa_cons pe_int pa_nil)))) pa_nil)) pe_int) (pe_op op_rep (pe_lst (pa_cons (pe_tup (pa_cons pe_str (pa_cons pe_int (pa_cons pe_int pa_nil)))) pa_nil)) (pe_op o_sub (pe_callB (c_min rfl) (by rfl) T.n_min (by decide +kernel) (pa_cons (pv 2) (pa_cons pe_int pa_nil))) pe_int))))
      (pss_cons (ps_if (pt_not (pt_cmpR (op_eqD hr.units) (pe_meth0 (pv 1) T.cl_Machine T.me_Machine_walk (ok_Machine_walk T) (hr.mono (by decide)) T.b_Machine_walk .nil pass0) (pv 6) (nomark _))) (pss_one (ps_ret pe_bl)) pss_nil)
      (pss_cons (ps_if (pt_not (pt_cmpR (op_eqD hr.units) (pe_ix ix_list (pe_meth0 (pv 1) T.cl_Machine T.me_Machine_tally (ok_Machine_tally T) (hr.mono (by decide)) T.b_Machine_tally .nil pass0) pe_int (fun _ _ => rfl)) (pe_tup (pa_cons pe_str (pa_cons (pe_op o_mul pe_int (pv 2)) pa_nil))) (nomark _))) (pss_one (ps_ret pe_bl)) pss_nil)
      (pss_one (ps_ret (pe_cmpR (op_eqD hr.units) (pe_ix ix_list (pe_meth0 (pv 1) T.cl_Machine T.me_Machine_tally (ok_Machine_tally T) (hr.mono (by decide)) T.b_Machine_tally .nil pass0) pe_int (fun _ _ => rfl)) (pe_tup (pa_cons pe_str (pa_cons pe_int pa_nil))) (nomark _))))))))))
theorem ok_law_long_right (T : Txt K mg a) : FnOk P w K mg base CX0 7 a.f_law_long_right a.fd_law_long_right ["_law_source"] (sp_k04_long K a.c) := by
  refine T.F_law_long_right.ok sc_law_long_right (fun vs H Q E h => ?_) (fun cdv A outer s H vs Q E hr h => ⟨_, dv_law_long_right T hr, b_k04_long T.PM T.PB h⟩)
  first | exact Pu.lif_len n_k04_long h | exact Pu.lifS_len n_k04_long h | exact Pu.lifL_len n_k04_long h | exact Pu.lifO_len n_k04_long h
theorem dv_law_right {cdv : Value} {A : Around} {outer : List Env} {s : Shared} {H : Hp} {E : XK} (T : Txt K mg a) (hr : Room 7 (A.deeper (envOfC "_law_right" (defScope s_law_right) s.heap.objs.size a.f_law_right cdv))) :
    PSs (cxOf CX0 P w K mg base N_law_right "_law_right" (defScope s_law_right) a.f_law_right cdv A outer s H E).nox (defBody s_law_right) (t_k04_right K a.c) := by
  unfold t_k04_right
  exact (pss_cons (ps_par rfl sc_law_right.nd rfl rfl (by decide) rfl rfl (pa_cons (pe_op o_add pe_int (pe_call (ok_law_next T) (hr.mono (by decide)) rfl T.m_law_next T.F_law_next.kp T.b_law_next .nil pass0 (pa_cons (pv 0) (pa_cons pe_int pa_nil)))) (pa_cons (pe_op o_add pe_int (pe_call (ok_law_next T) (hr.mono (by decide)) rfl T.m_law_next T.F_law_next.kp T.b_law_next .nil pass0 (pa_cons (pv 0) (pa_cons pe_int pa_nil)))) pa_nil)) (by rfl))
      (pss_cons (ps_par rfl sc_law_right.nd rfl rfl (by decide) rfl rfl (pa_cons (pe_make T.mk_Machine (ok_Machine_init T) (hr.mono (by decide)) rfl T.g_Machine T.b_Machine_init .nil pass0 (pa_cons (pv 1) (pa_cons (pv 2) pa_nil))) (pa_cons (pe_makeKP T.mk_Machine (ok_Machine_init T) (hr.mono (by decide)) rfl T.g_Machine T.km_Machine_init_cutoff_bits pass0 (pk_cons (pv 2) (pk_cons (pv 1) pk_nil))) pa_nil)) (by rfl))
      (pss_cons (ps_if (pt_cmpR (op_neD hr.units) (pe_meth0 (pv 3) T.cl_Machine T.me_Machine_parts (ok_Machine_parts T) (hr.mono (by decide)) T.b_Machine_parts .nil pass0) (pe_tup (pa_cons (pv 1) (pa_cons (pv 2) pa_nil))) (nomark _)) (pss_one (ps_ret pe_bl)) pss_nil)
      (pss_cons (ps_if (pt_cmpR (o_ownNe T.ne_Machine (ok_Machine_eq T) (hr.mono (by decide)) T.b_Machine_eq pass0) (pv 3) (pv 4) (nomark _)) (pss_one (ps_ret pe_bl)) pss_nil)
      (pss_cons (ps_if (pt_cmpR (o_ownEq (ok_Machine_eq T) (hr.mono (by decide)) T.eq_Machine T.ie_Machine T.b_Machine_eq pass0) (pv 3) (pe_make T.mk_Machine (ok_Machine_init T) (hr.mono (by decide)) rfl T.g_Machine T.b_Machine_init .nil pass0 (pa_cons (pv 1) (pa_cons (pe_ifExp (pt_cmpR o_gt (pv 2) pe_int (nomark _)) pe_int pe_int) pa_nil))) (nomark _)) (pss_one (ps_ret pe_bl)) pss_nil)
      (pss_cons (ps_if (pt_cmpR (o_ownEq (ok_Machine_eq T) (hr.mono (by decide)) T.eq_Machine T.ie_Machine T.b_Machine_eq pass0) (pv 3) (pe_tup (pa_cons (pv 1) (pa_cons (pv 2) pa_nil))) (nomark _)) (pss_one (ps_ret pe_bl)) pss_nil)
      (pss_cons (ps_if (pt_cmpR (o_ownEq (ok_Machine_eq T) (hr.mono (by decide)) T.eq_Machine T.ie_Machine T.b_Machine_eq pass0) (pv 3) (pe_make T.mk_Machine (ok_Machine_init T) (hr.mono (by decide)) rfl T.g_Machine T.b_Machine_init .nil pass0 (pa_cons (pe_ifExp (pt_cmpR o_gt (pv 1) pe_int (nomark _)) (pe_op o_sub (pv 1) pe_int) pe_int) (pa_cons (pv 2) pa_nil))) (nomark _)) (pss_one (ps_ret pe_bl)) pss_nil)
      (pss_cons (ps_if (pt_cmpR (op_neD hr.units) (pe_meth0 (pv 3) T.cl_Machine T.me_Machine_tally (ok_Machine_tally T) (hr.mono (by decide)) T.b_Machine_tally .nil pass0) (pe_lc (own := [("_law_word", 5)]) (g := (gName 5)) rfl sc_law_right.nd (pi_list (pe_call0 (ok_law_words T) (hr.mono (by decide)) rfl T.m_law_words T.F_law_words.kp T.b_law_words .nil pass0)) (blkOk_by (own := [("_law_word", 5)]) (N := N_law_right) (sc := defScope s_law_right) (by decide +kernel)) (fun _ _ _ _ _ => (pg_name (i := 5) sc_law_right.nd rfl (by first | exact Or.inl rfl | exact Or.inr rfl))) (fun _ _ _ _ _ => pts_nil) (fun _ _ _ _ _ => (pe_tup (pa_cons (pv 5) (pa_cons pe_int pa_nil))))) (nomark _)) (pss_one (ps_ret pe_bl)) pss_nil)
      (pss_one (ps_ret (pe_call (ok_law_counts_right T) (hr.mono (by decide)) rfl T.m_law_counts_right T.F_law_counts_right.kp T.b_law_counts_right .nil pass0 (pa_cons (pv 0) (pa_cons (pv 3) (pa_cons (pv 4) (pa_cons (pe_op o_shl pe_int (pv 1)) pa_nil)))))))))))))))
theorem ok_law_right (T : Txt K mg a) : FnOk P w K mg base CX0 8 a.f_law_right a.fd_law_right ["_law_source"] (sp_k04_right K a.c) := by
  refine T.F_law_right.ok sc_law_right (fun vs H Q E h => ?_) (fun cdv A outer s H vs Q E hr h => ⟨_, dv_law_right T hr, b_k04_right T.PM T.PB T.IS h⟩)
  first | exact Pu.lif_len n_k04_right h | exact Pu.lifS_len n_k04_right h | exact Pu.lifL_len n_k04_right h | exact Pu.lifO_len n_k04_right h
theorem dv_law {cdv : Value} {A : Around} {outer : List Env} {s : Shared} {H : Hp} {E : XK} (T : Txt K mg a) (hr : Room 8 (A.deeper (envOfC "law" (defScope s_law) s.heap.objs.size a.f_law cdv))) :
    PSs (cxOf CX0 P w K mg base N_law "law" (defScope s_law) a.f_law cdv A outer s H E).nox (defBody s_law) (t_k04_law K a.c) := by
  unfold t_k04_law
  exact (pss_cons (ps_for PassesOwn.never rfl (pi_list (pe_op op_cat (pe_lst (pa_cons (pe_call (ok_law_cell_at T) (hr.mono (by decide)) rfl T.m_law_cell_at T.F_law_cell_at.kp T.b_law_cell_at .nil pass0 (pa_cons (pv 0) (pa_cons pe_int pa_nil))) pa_nil)) (pe_slice sl_list (pv 0) (po_some pe_int) (po_some pe_int)))) (pg_name (i := 1) sc_law.nd rfl (by first | exact Or.inl rfl | exact Or.inr rfl)) (pss_cons (ps_set (i := 2) sc_law.nd rfl (by first | exact Or.inl rfl | exact Or.inr rfl) (pe_call (ok_law_source_of T) (hr.mono (by decide)) rfl T.m_law_source_of T.F_law_source_of.kp T.b_law_source_of .nil pass0 (pa_cons (pv 1) pa_nil)))
      (pss_one (ps_if (PW.pt (pw_or (pt_not (pt_val (pe_call (ok_law_right T) (hr.mono (by decide)) rfl T.m_law_right T.F_law_right.kp T.b_law_right .nil pass0 (pa_cons (pv 2) pa_nil)))) (pw_or1 (pt_not (pt_val (pe_call (ok_law_right T) (hr.mono (by decide)) rfl T.m_law_right T.F_law_right.kp T.b_law_right .nil pass0 (pa_cons (pv 2) pa_nil))))))) (pss_one (ps_ret pe_bl)) pss_nil))))
      (pss_cons (ps_if (pt_not (pt_val (pe_call (ok_law_long_right T) (hr.mono (by decide)) rfl T.m_law_long_right T.F_law_long_right.kp T.b_law_long_right .nil pass0 (pa_cons (pe_call (ok_law_source_of T) (hr.mono (by decide)) rfl T.m_law_source_of T.F_law_source_of.kp T.b_law_source_of .nil pass0 (pa_cons (pe_call (ok_law_cell_at T) (hr.mono (by decide)) rfl T.m_law_cell_at T.F_law_cell_at.kp T.b_law_cell_at .nil pass0 (pa_cons (pv 0) (pa_cons pe_int pa_nil))) pa_nil)) pa_nil)))) (pss_one (ps_ret pe_bl)) pss_nil)
      (pss_one (ps_ret (pe_cmpR (op_eqD hr.units) (pe_meth0 (pe_make0 T.mk_Machine (ok_Machine_init T) (hr.mono (by decide)) rfl T.g_Machine T.bd_Machine_init_0.2 T.bd_Machine_init_0.1 pass0) T.cl_Machine T.me_Machine_parts (ok_Machine_parts T) (hr.mono (by decide)) T.b_Machine_parts .nil pass0) (pe_tup (pa_cons pe_int (pa_cons pe_int pa_nil))) (nomark _))))))
theorem ok_law (T : Txt K mg a) : FnOk P w K mg base CX0 9 a.f_law a.fd_law ["_law_script"] (sp_k04_law K a.c) := by
  refine T.F_law.ok sc_law (fun vs H Q E h => ?_) (fun cdv A outer s H vs Q E hr h => ⟨_, dv_law T hr, b_k04_law T.PM T.PB T.NT h⟩)
  (repeat (obtain ⟨_, h⟩ := h)); all_goals (subst_vars; rfl)
end
theorem all_mk {l : PySem.W.OpenLaw} {w : World} {K : PySem.W.Frag} {h : Heap} {mg : Str → Option Value} {fa : Addr} {CMachine : Addr} {nmMachine qMachine : Str} {NMachine : Addr} {bsMachine : List Value} {hdctMachine : Bool} {snMachine : List Str} {subMachine : List Value} {abMachine : Bool} {colMachine : Option Bool} {ddMachine : Option Addr} {k0Machine k1Machine k2Machine k3Machine k5Machine : Option Value} {newIdMachine : String} {ocNMachine : Value} {odNMachine : Option Addr} {esNMachine : Array DictEntry} {epNMachine : Nat} {slNMachine : Array (Option Value)} {CBig : Addr} {t_LEAST_BITS : Tok} {t_MOST_BITS : Tok} {t_MOST_CUTOFF : Tok} {t_MOST_WALK : Tok} {aWORDS : Addr} {oW1 : Option Addr} {itW : Array Value} {nW : Nat} {slW : Array (Option Value)} {f_is_integer : Addr} {oc_is_integer kV_is_integer dc_is_integer pm_is_integer cd_is_integer ct_is_integer : Value} {od_is_integer an_is_integer : Option Addr} {sl_is_integer : Array (Option Value)} {f_is_between : Addr} {oc_is_between kV_is_between dc_is_between pm_is_between cd_is_between ct_is_between : Value} {od_is_between an_is_between : Option Addr} {sl_is_between : Array (Option Value)} {f_check_integer : Addr} {oc_check_integer kV_check_integer dc_check_integer pm_check_integer cd_check_integer ct_check_integer : Value} {od_check_integer an_check_integer : Option Addr} {sl_check_integer : Array (Option Value)} {f_Machine_init : Addr} {oc_Machine_init kV_Machine_init dc_Machine_init pm_Machine_init cd_Machine_init ct_Machine_init : Value} {od_Machine_init an_Machine_init : Option Addr} {sl_Machine_init : Array (Option Value)} {dT_Machine_init : Addr} {ocT_Machine_init : Value} {odT_Machine_init : Option Addr} {nT_Machine_init : Nat} {slT_Machine_init : Array (Option Value)} {itT_Machine_init : Array Value} {f_Machine_eq : Addr} {oc_Machine_eq kV_Machine_eq dc_Machine_eq pm_Machine_eq cd_Machine_eq ct_Machine_eq : Value} {od_Machine_eq an_Machine_eq : Option Addr} {sl_Machine_eq : Array (Option Value)} {f_Machine_parts : Addr} {oc_Machine_parts kV_Machine_parts dc_Machine_parts pm_Machine_parts cd_Machine_parts ct_Machine_parts : Value} {od_Machine_parts an_Machine_parts : Option Addr} {sl_Machine_parts : Array (Option Value)} {f_Machine_tally : Addr} {oc_Machine_tally kV_Machine_tally dc_Machine_tally pm_Machine_tally cd_Machine_tally ct_Machine_tally : Value} {od_Machine_tally an_Machine_tally : Option Addr} {sl_Machine_tally : Array (Option Value)} {f_Machine_walk : Addr} {oc_Machine_walk kV_Machine_walk dc_Machine_walk pm_Machine_walk cd_Machine_walk ct_Machine_walk : Value} {od_Machine_walk an_Machine_walk : Option Addr} {sl_Machine_walk : Array (Option Value)} {f_Machine_reset : Addr} {oc_Machine_reset kV_Machine_reset dc_Machine_reset pm_Machine_reset cd_Machine_reset ct_Machine_reset : Value} {od_Machine_reset an_Machine_reset : Option Addr} {sl_Machine_reset : Array (Option Value)} {f_Machine_count : Addr} {oc_Machine_count kV_Machine_count dc_Machine_count pm_Machine_count cd_Machine_count ct_Machine_count : Value} {od_Machine_count an_Machine_count : Option Addr} {sl_Machine_count : Array (Option Value)} {f_Machine_enter : Addr} {oc_Machine_enter kV_Machine_enter dc_Machine_enter pm_Machine_enter cd_Machine_enter ct_Machine_enter : Value} {od_Machine_enter an_Machine_enter : Option Addr} {sl_Machine_enter : Array (Option Value)} {f_check_machine : Addr} {oc_check_machine kV_check_machine dc_check_machine pm_check_machine cd_check_machine ct_check_machine : Value} {od_check_machine an_check_machine : Option Addr} {sl_check_machine : Array (Option Value)} {f_Big_init : Addr} {oc_Big_init kV_Big_init dc_Big_init pm_Big_init cd_Big_init ct_Big_init : Value} {od_Big_init an_Big_init : Option Addr} {sl_Big_init : Array (Option Value)} {f_made : Addr} {oc_made kV_made dc_made pm_made cd_made ct_made : Value} {od_made an_made : Option Addr} {sl_made : Array (Option Value)} {f_digits_of : Addr} {oc_digits_of kV_digits_of dc_digits_of pm_digits_of cd_digits_of ct_digits_of : Value} {od_digits_of an_digits_of : Option Addr} {sl_digits_of : Array (Option Value)} {f_big_of : Addr} {oc_big_of kV_big_of dc_big_of pm_big_of cd_big_of ct_big_of : Value} {od_big_of an_big_of : Option Addr} {sl_big_of : Array (Option Value)} {f_value_of : Addr} {oc_value_of kV_value_of dc_value_of pm_value_of cd_value_of ct_value_of : Value} {od_value_of an_value_of : Option Addr} {sl_value_of : Array (Option Value)} {f_check_big : Addr} {oc_check_big kV_check_big dc_check_big pm_check_big cd_check_big ct_check_big : Value} {od_check_big an_check_big : Option Addr} {sl_check_big : Array (Option Value)} {f_check_bigs : Addr} {oc_check_bigs kV_check_bigs dc_check_bigs pm_check_bigs cd_check_bigs ct_check_bigs : Value} {od_check_bigs an_check_bigs : Option Addr} {sl_check_bigs : Array (Option Value)} {f_is_compact : Addr} {oc_is_compact kV_is_compact dc_is_compact pm_is_compact cd_is_compact ct_is_compact : Value} {od_is_compact an_is_compact : Option Addr} {sl_is_compact : Array (Option Value)} {f_big : Addr} {oc_big kV_big dc_big pm_big cd_big ct_big : Value} {od_big an_big : Option Addr} {sl_big : Array (Option Value)} {f_looked_down : Addr} {oc_looked_down kV_looked_down dc_looked_down pm_looked_down cd_looked_down ct_looked_down : Value} {od_looked_down an_looked_down : Option Addr} {sl_looked_down : Array (Option Value)} {f_adding : Addr} {oc_adding kV_adding dc_adding pm_adding cd_adding ct_adding : Value} {od_adding an_adding : Option Addr} {sl_adding : Array (Option Value)} {f_taking : Addr} {oc_taking kV_taking dc_taking pm_taking cd_taking ct_taking : Value} {od_taking an_taking : Option Addr} {sl_taking : Array (Option Value)} {f_added : Addr} {oc_added kV_added dc_added pm_added cd_added ct_added : Value} {od_added an_added : Option Addr} {sl_added : Array (Option Value)} {f_subtracted : Addr} {oc_subtracted kV_subtracted dc_subtracted pm_subtracted cd_subtracted ct_subtracted : Value} {od_subtracted an_subtracted : Option Addr} {sl_subtracted : Array (Option Value)} {f_add : Addr} {oc_add kV_add dc_add pm_add cd_add ct_add : Value} {od_add an_add : Option Addr} {sl_add : Array (Option Value)} {f_subtract : Addr} {oc_subtract kV_subtract dc_subtract pm_subtract cd_subtract ct_subtract : Value} {od_subtract an_subtract : Option Addr} {sl_subtract : Array (Option Value)} {f_law_source_of : Addr} {oc_law_source_of kV_law_source_of dc_law_source_of pm_law_source_of cd_law_source_of ct_law_source_of : Value} {od_law_source_of an_law_source_of : Option Addr} {sl_law_source_of : Array (Option Value)} {f_law_next : Addr} {oc_law_next kV_law_next dc_law_next pm_law_next cd_law_next ct_law_next : Value} {od_law_next an_law_next : Option Addr} {sl_law_next : Array (Option Value)} {f_law_cell_at : Addr} {oc_law_cell_at kV_law_cell_at dc_law_cell_at pm_law_cell_at cd_law_cell_at ct_law_cell_at : Value} {od_law_cell_at an_law_cell_at : Option Addr} {sl_law_cell_at : Array (Option Value)} {f_law_power : Addr} {oc_law_power kV_law_power dc_law_power pm_law_power cd_law_power ct_law_power : Value} {od_law_power an_law_power : Option Addr} {sl_law_power : Array (Option Value)} {f_law_words : Addr} {oc_law_words kV_law_words dc_law_words pm_law_words cd_law_words ct_law_words : Value} {od_law_words an_law_words : Option Addr} {sl_law_words : Array (Option Value)} {f_law_right : Addr} {oc_law_right kV_law_right dc_law_right pm_law_right cd_law_right ct_law_right : Value} {od_law_right an_law_right : Option Addr} {sl_law_right : Array (Option Value)} {f_law_counts_right : Addr} {oc_law_counts_right kV_law_counts_right dc_law_counts_right pm_law_counts_right cd_law_counts_right ct_law_counts_right : Value} {od_law_counts_right an_law_counts_right : Option Addr} {sl_law_counts_right : Array (Option Value)} {f_law_long_right : Addr} {oc_law_long_right kV_law_long_right dc_law_long_right pm_law_long_right cd_law_long_right ct_law_long_right : Value} {od_law_long_right an_law_long_right : Option Addr} {sl_law_long_right : Array (Option Value)} {f_law : Addr} {oc_law kV_law dc_law pm_law cd_law ct_law : Value} {od_law an_law : Option Addr} {sl_law : Array (Option Value)} (X : K.In h) (G : h.Ns mainGlobals mg) (hfa : mg "law" = some (.ref fa))
    (aMachine : PySem.W.nsIn K mainGlobals "Machine" = some (some (.ref CMachine)))
    (pgMachine : PySem.W.plainGet K CMachine Str.empty = true)
    (hdMachine : PySem.W.hasDictIn K CMachine = true)
    (poMachine : PySem.W.plainOver K CMachine = true)
    (saMachine : PySem.W.findIn K (.ref CMachine) "__setattr__" = some (some (.builtin "object.__setattr__")))
    (mkMachine : PySem.W.makesIn K CMachine = true)
    (kcMachine : PySem.W.keepIn K (.ref CMachine) = true)
    (haMachine : PySem.W.findIn K (.ref CMachine) "__class__" = some (some (.builtin "object.__class__")))
    (hmMachine : PySem.W.mroIn K CMachine (.type "object") = some true)
    (lcMachine : K.lookup CMachine = some (excClassObj nmMachine qMachine CMachine NMachine bsMachine [.type "object"] hdctMachine snMachine subMachine abMachine colMachine ddMachine k0Machine k1Machine k2Machine k3Machine k5Machine newIdMachine))
    (lNMachine : K.lookup NMachine = some ⟨ocNMachine, odNMachine, .dict esNMachine epNMachine, slNMachine⟩)
    (skMachine : strKeysB esNMachine = true)
    (nfMachine_entered : PySem.W.findIn K (.ref CMachine) "entered" = some none)
    (nfMachine_counts : PySem.W.findIn K (.ref CMachine) "counts" = some none)
    (nfMachine_base : PySem.W.findIn K (.ref CMachine) "base" = some none)
    (nfMachine_limit_of_rows : PySem.W.findIn K (.ref CMachine) "limit_of_rows" = some none)
    (nfMachine_width : PySem.W.findIn K (.ref CMachine) "width" = some none)
    (aBig : PySem.W.nsIn K mainGlobals "Big" = some (some (.ref CBig)))
    (pgBig : PySem.W.plainGet K CBig Str.empty = true)
    (hdBig : PySem.W.hasDictIn K CBig = true)
    (poBig : PySem.W.plainOver K CBig = true)
    (saBig : PySem.W.findIn K (.ref CBig) "__setattr__" = some (some (.builtin "object.__setattr__")))
    (mkBig : PySem.W.makesIn K CBig = true)
    (kcBig : PySem.W.keepIn K (.ref CBig) = true)
    (haBig : PySem.W.findIn K (.ref CBig) "__class__" = some (some (.builtin "object.__class__")))
    (hmBig : PySem.W.mroIn K CBig (.type "object") = some true)
    (nfBig_row : PySem.W.findIn K (.ref CBig) "row" = some none)
    (nfBig_side : PySem.W.findIn K (.ref CBig) "side" = some none)
    (nfBig_width : PySem.W.findIn K (.ref CBig) "width" = some none)
    (hsp : PySem.W.specialIn K (.builtin "object.__class__") "__get__" = some (some (.builtin "getset_descriptor.__get__")))
    (htk : PySem.W.takesIn K (.builtin "object.__class__") = some true)
    (g_LEAST_BITS : PySem.W.nsIn K mainGlobals "LEAST_BITS" = some (some (.int 8 t_LEAST_BITS)))
    (g_MOST_BITS : PySem.W.nsIn K mainGlobals "MOST_BITS" = some (some (.int 30 t_MOST_BITS)))
    (g_MOST_CUTOFF : PySem.W.nsIn K mainGlobals "MOST_CUTOFF" = some (some (.int 1000 t_MOST_CUTOFF)))
    (g_MOST_WALK : PySem.W.nsIn K mainGlobals "MOST_WALK" = some (some (.int 1000 t_MOST_WALK)))
    (g_WORDS : PySem.W.nsIn K mainGlobals "WORDS" = some (some (.ref aWORDS)))
    (l_WORDS : K.lookup aWORDS = some ⟨.type "tuple", oW1, .seq itW nW, slW⟩)
    (z_WORDS : itW.size ≤ sizeLine)
    (v_WORDS : Vals (words.map V.str) itW.toList)
    (a_is_integer : PySem.W.nsIn K mainGlobals "is_integer" = some (some (.ref f_is_integer)))
    (l_is_integer : K.lookup f_is_integer = some ⟨oc_is_integer, od_is_integer, .func (PySem.W.fnOf "is_integer" "is_integer" (defArgs s_is_integer) (defBody s_is_integer) (defScope s_is_integer) .none kV_is_integer dc_is_integer pm_is_integer an_is_integer cd_is_integer ct_is_integer), sl_is_integer⟩)
    (c_is_integer : PySem.W.codeIn K cd_is_integer "is_integer" = true)
    (k_is_integer : PySem.W.keepIn K (.ref f_is_integer) = true)
    (a_is_between : PySem.W.nsIn K mainGlobals "is_between" = some (some (.ref f_is_between)))
    (l_is_between : K.lookup f_is_between = some ⟨oc_is_between, od_is_between, .func (PySem.W.fnOf "is_between" "is_between" (defArgs s_is_between) (defBody s_is_between) (defScope s_is_between) .none kV_is_between dc_is_between pm_is_between an_is_between cd_is_between ct_is_between), sl_is_between⟩)
    (c_is_between : PySem.W.codeIn K cd_is_between "is_between" = true)
    (k_is_between : PySem.W.keepIn K (.ref f_is_between) = true)
    (a_check_integer : PySem.W.nsIn K mainGlobals "check_integer" = some (some (.ref f_check_integer)))
    (l_check_integer : K.lookup f_check_integer = some ⟨oc_check_integer, od_check_integer, .func (PySem.W.fnOf "check_integer" "check_integer" (defArgs s_check_integer) (defBody s_check_integer) (defScope s_check_integer) .none kV_check_integer dc_check_integer pm_check_integer an_check_integer cd_check_integer ct_check_integer), sl_check_integer⟩)
    (c_check_integer : PySem.W.codeIn K cd_check_integer "check_integer" = true)
    (k_check_integer : PySem.W.keepIn K (.ref f_check_integer) = true)
    (a_Machine_init : PySem.W.findIn K (.ref CMachine) "__init__" = some (some (.ref f_Machine_init)))
    (i_Machine_init : PySem.W.isFn K (.ref f_Machine_init) = true)
    (l_Machine_init : K.lookup f_Machine_init = some ⟨oc_Machine_init, od_Machine_init, .func (PySem.W.fnOf "__init__" "Machine.__init__" (defArgs s_Machine_init) (defBody s_Machine_init) (defScope s_Machine_init) (.ref dT_Machine_init) kV_Machine_init dc_Machine_init pm_Machine_init an_Machine_init cd_Machine_init ct_Machine_init), sl_Machine_init⟩)
    (c_Machine_init : PySem.W.codeIn K cd_Machine_init "Machine.__init__" = true)
    (k_Machine_init : PySem.W.keepIn K (.ref f_Machine_init) = true)
    (lT_Machine_init : K.lookup dT_Machine_init = some ⟨ocT_Machine_init, odT_Machine_init, .seq itT_Machine_init nT_Machine_init, slT_Machine_init⟩)
    (vT_Machine_init : Vals [(.int 30), (.int 70)] itT_Machine_init.toList)
    (a_Machine_eq : PySem.W.findIn K (.ref CMachine) "__eq__" = some (some (.ref f_Machine_eq)))
    (i_Machine_eq : PySem.W.isFn K (.ref f_Machine_eq) = true)
    (l_Machine_eq : K.lookup f_Machine_eq = some ⟨oc_Machine_eq, od_Machine_eq, .func (PySem.W.fnOf "__eq__" "Machine.__eq__" (defArgs s_Machine_eq) (defBody s_Machine_eq) (defScope s_Machine_eq) .none kV_Machine_eq dc_Machine_eq pm_Machine_eq an_Machine_eq cd_Machine_eq ct_Machine_eq), sl_Machine_eq⟩)
    (c_Machine_eq : PySem.W.codeIn K cd_Machine_eq "Machine.__eq__" = true)
    (k_Machine_eq : PySem.W.keepIn K (.ref f_Machine_eq) = true)
    (a_Machine_parts : PySem.W.findIn K (.ref CMachine) "parts" = some (some (.ref f_Machine_parts)))
    (i_Machine_parts : PySem.W.isFn K (.ref f_Machine_parts) = true)
    (l_Machine_parts : K.lookup f_Machine_parts = some ⟨oc_Machine_parts, od_Machine_parts, .func (PySem.W.fnOf "parts" "Machine.parts" (defArgs s_Machine_parts) (defBody s_Machine_parts) (defScope s_Machine_parts) .none kV_Machine_parts dc_Machine_parts pm_Machine_parts an_Machine_parts cd_Machine_parts ct_Machine_parts), sl_Machine_parts⟩)
    (c_Machine_parts : PySem.W.codeIn K cd_Machine_parts "Machine.parts" = true)
    (k_Machine_parts : PySem.W.keepIn K (.ref f_Machine_parts) = true)
    (a_Machine_tally : PySem.W.findIn K (.ref CMachine) "tally" = some (some (.ref f_Machine_tally)))
    (i_Machine_tally : PySem.W.isFn K (.ref f_Machine_tally) = true)
    (l_Machine_tally : K.lookup f_Machine_tally = some ⟨oc_Machine_tally, od_Machine_tally, .func (PySem.W.fnOf "tally" "Machine.tally" (defArgs s_Machine_tally) (defBody s_Machine_tally) (defScope s_Machine_tally) .none kV_Machine_tally dc_Machine_tally pm_Machine_tally an_Machine_tally cd_Machine_tally ct_Machine_tally), sl_Machine_tally⟩)
    (c_Machine_tally : PySem.W.codeIn K cd_Machine_tally "Machine.tally" = true)
    (k_Machine_tally : PySem.W.keepIn K (.ref f_Machine_tally) = true)
    (a_Machine_walk : PySem.W.findIn K (.ref CMachine) "walk" = some (some (.ref f_Machine_walk)))
    (i_Machine_walk : PySem.W.isFn K (.ref f_Machine_walk) = true)
    (l_Machine_walk : K.lookup f_Machine_walk = some ⟨oc_Machine_walk, od_Machine_walk, .func (PySem.W.fnOf "walk" "Machine.walk" (defArgs s_Machine_walk) (defBody s_Machine_walk) (defScope s_Machine_walk) .none kV_Machine_walk dc_Machine_walk pm_Machine_walk an_Machine_walk cd_Machine_walk ct_Machine_walk), sl_Machine_walk⟩)
    (c_Machine_walk : PySem.W.codeIn K cd_Machine_walk "Machine.walk" = true)
    (k_Machine_walk : PySem.W.keepIn K (.ref f_Machine_walk) = true)
    (a_Machine_reset : PySem.W.findIn K (.ref CMachine) "reset" = some (some (.ref f_Machine_reset)))
    (i_Machine_reset : PySem.W.isFn K (.ref f_Machine_reset) = true)
    (l_Machine_reset : K.lookup f_Machine_reset = some ⟨oc_Machine_reset, od_Machine_reset, .func (PySem.W.fnOf "reset" "Machine.reset" (defArgs s_Machine_reset) (defBody s_Machine_reset) (defScope s_Machine_reset) .none kV_Machine_reset dc_Machine_reset pm_Machine_reset an_Machine_reset cd_Machine_reset ct_Machine_reset), sl_Machine_reset⟩)
    (c_Machine_reset : PySem.W.codeIn K cd_Machine_reset "Machine.reset" = true)
    (k_Machine_reset : PySem.W.keepIn K (.ref f_Machine_reset) = true)
    (a_Machine_count : PySem.W.findIn K (.ref CMachine) "count" = some (some (.ref f_Machine_count)))
    (i_Machine_count : PySem.W.isFn K (.ref f_Machine_count) = true)
    (l_Machine_count : K.lookup f_Machine_count = some ⟨oc_Machine_count, od_Machine_count, .func (PySem.W.fnOf "count" "Machine.count" (defArgs s_Machine_count) (defBody s_Machine_count) (defScope s_Machine_count) .none kV_Machine_count dc_Machine_count pm_Machine_count an_Machine_count cd_Machine_count ct_Machine_count), sl_Machine_count⟩)
    (c_Machine_count : PySem.W.codeIn K cd_Machine_count "Machine.count" = true)
    (k_Machine_count : PySem.W.keepIn K (.ref f_Machine_count) = true)
    (a_Machine_enter : PySem.W.findIn K (.ref CMachine) "enter" = some (some (.ref f_Machine_enter)))
    (i_Machine_enter : PySem.W.isFn K (.ref f_Machine_enter) = true)
    (l_Machine_enter : K.lookup f_Machine_enter = some ⟨oc_Machine_enter, od_Machine_enter, .func (PySem.W.fnOf "enter" "Machine.enter" (defArgs s_Machine_enter) (defBody s_Machine_enter) (defScope s_Machine_enter) .none kV_Machine_enter dc_Machine_enter pm_Machine_enter an_Machine_enter cd_Machine_enter ct_Machine_enter), sl_Machine_enter⟩)
    (c_Machine_enter : PySem.W.codeIn K cd_Machine_enter "Machine.enter" = true)
    (k_Machine_enter : PySem.W.keepIn K (.ref f_Machine_enter) = true)
    (a_check_machine : PySem.W.nsIn K mainGlobals "check_machine" = some (some (.ref f_check_machine)))
    (l_check_machine : K.lookup f_check_machine = some ⟨oc_check_machine, od_check_machine, .func (PySem.W.fnOf "check_machine" "check_machine" (defArgs s_check_machine) (defBody s_check_machine) (defScope s_check_machine) .none kV_check_machine dc_check_machine pm_check_machine an_check_machine cd_check_machine ct_check_machine), sl_check_machine⟩)
    (c_check_machine : PySem.W.codeIn K cd_check_machine "check_machine" = true)
    (k_check_machine : PySem.W.keepIn K (.ref f_check_machine) = true)
    (a_Big_init : PySem.W.findIn K (.ref CBig) "__init__" = some (some (.ref f_Big_init)))
    (i_Big_init : PySem.W.isFn K (.ref f_Big_init) = true)
    (l_Big_init : K.lookup f_Big_init = some ⟨oc_Big_init, od_Big_init, .func (PySem.W.fnOf "__init__" "Big.__init__" (defArgs s_Big_init) (defBody s_Big_init) (defScope s_Big_init) .none kV_Big_init dc_Big_init pm_Big_init an_Big_init cd_Big_init ct_Big_init), sl_Big_init⟩)
    (c_Big_init : PySem.W.codeIn K cd_Big_init "Big.__init__" = true)
    (k_Big_init : PySem.W.keepIn K (.ref f_Big_init) = true)
    (a_made : PySem.W.nsIn K mainGlobals "made" = some (some (.ref f_made)))
    (l_made : K.lookup f_made = some ⟨oc_made, od_made, .func (PySem.W.fnOf "made" "made" (defArgs s_made) (defBody s_made) (defScope s_made) .none kV_made dc_made pm_made an_made cd_made ct_made), sl_made⟩)
    (c_made : PySem.W.codeIn K cd_made "made" = true)
    (k_made : PySem.W.keepIn K (.ref f_made) = true)
    (a_digits_of : PySem.W.nsIn K mainGlobals "digits_of" = some (some (.ref f_digits_of)))
    (l_digits_of : K.lookup f_digits_of = some ⟨oc_digits_of, od_digits_of, .func (PySem.W.fnOf "digits_of" "digits_of" (defArgs s_digits_of) (defBody s_digits_of) (defScope s_digits_of) .none kV_digits_of dc_digits_of pm_digits_of an_digits_of cd_digits_of ct_digits_of), sl_digits_of⟩)
    (c_digits_of : PySem.W.codeIn K cd_digits_of "digits_of" = true)
    (k_digits_of : PySem.W.keepIn K (.ref f_digits_of) = true)
    (a_big_of : PySem.W.nsIn K mainGlobals "big_of" = some (some (.ref f_big_of)))
    (l_big_of : K.lookup f_big_of = some ⟨oc_big_of, od_big_of, .func (PySem.W.fnOf "big_of" "big_of" (defArgs s_big_of) (defBody s_big_of) (defScope s_big_of) .none kV_big_of dc_big_of pm_big_of an_big_of cd_big_of ct_big_of), sl_big_of⟩)
    (c_big_of : PySem.W.codeIn K cd_big_of "big_of" = true)
    (k_big_of : PySem.W.keepIn K (.ref f_big_of) = true)
    (a_value_of : PySem.W.nsIn K mainGlobals "value_of" = some (some (.ref f_value_of)))
    (l_value_of : K.lookup f_value_of = some ⟨oc_value_of, od_value_of, .func (PySem.W.fnOf "value_of" "value_of" (defArgs s_value_of) (defBody s_value_of) (defScope s_value_of) .none kV_value_of dc_value_of pm_value_of an_value_of cd_value_of ct_value_of), sl_value_of⟩)
    (c_value_of : PySem.W.codeIn K cd_value_of "value_of" = true)
    (k_value_of : PySem.W.keepIn K (.ref f_value_of) = true)
    (a_check_big : PySem.W.nsIn K mainGlobals "check_big" = some (some (.ref f_check_big)))
    (l_check_big : K.lookup f_check_big = some ⟨oc_check_big, od_check_big, .func (PySem.W.fnOf "check_big" "check_big" (defArgs s_check_big) (defBody s_check_big) (defScope s_check_big) .none kV_check_big dc_check_big pm_check_big an_check_big cd_check_big ct_check_big), sl_check_big⟩)
    (c_check_big : PySem.W.codeIn K cd_check_big "check_big" = true)
    (k_check_big : PySem.W.keepIn K (.ref f_check_big) = true)
    (a_check_bigs : PySem.W.nsIn K mainGlobals "check_bigs" = some (some (.ref f_check_bigs)))
    (l_check_bigs : K.lookup f_check_bigs = some ⟨oc_check_bigs, od_check_bigs, .func (PySem.W.fnOf "check_bigs" "check_bigs" (defArgs s_check_bigs) (defBody s_check_bigs) (defScope s_check_bigs) .none kV_check_bigs dc_check_bigs pm_check_bigs an_check_bigs cd_check_bigs ct_check_bigs), sl_check_bigs⟩)
    (c_check_bigs : PySem.W.codeIn K cd_check_bigs "check_bigs" = true)
    (k_check_bigs : PySem.W.keepIn K (.ref f_check_bigs) = true)
    (a_is_compact : PySem.W.nsIn K mainGlobals "is_compact" = some (some (.ref f_is_compact)))
    (l_is_compact : K.lookup f_is_compact = some ⟨oc_is_compact, od_is_compact, .func (PySem.W.fnOf "is_compact" "is_compact" (defArgs s_is_compact) (defBody s_is_compact) (defScope s_is_compact) .none kV_is_compact dc_is_compact pm_is_compact an_is_compact cd_is_compact ct_is_compact), sl_is_compact⟩)
    (c_is_compact : PySem.W.codeIn K cd_is_compact "is_compact" = true)
    (k_is_compact : PySem.W.keepIn K (.ref f_is_compact) = true)
    (a_big : PySem.W.nsIn K mainGlobals "big" = some (some (.ref f_big)))
    (l_big : K.lookup f_big = some ⟨oc_big, od_big, .func (PySem.W.fnOf "big" "big" (defArgs s_big) (defBody s_big) (defScope s_big) .none kV_big dc_big pm_big an_big cd_big ct_big), sl_big⟩)
    (c_big : PySem.W.codeIn K cd_big "big" = true)
    (k_big : PySem.W.keepIn K (.ref f_big) = true)
    (a_looked_down : PySem.W.nsIn K mainGlobals "looked_down" = some (some (.ref f_looked_down)))
    (l_looked_down : K.lookup f_looked_down = some ⟨oc_looked_down, od_looked_down, .func (PySem.W.fnOf "looked_down" "looked_down" (defArgs s_looked_down) (defBody s_looked_down) (defScope s_looked_down) .none kV_looked_down dc_looked_down pm_looked_down an_looked_down cd_looked_down ct_looked_down), sl_looked_down⟩)
    (c_looked_down : PySem.W.codeIn K cd_looked_down "looked_down" = true)
    (k_looked_down : PySem.W.keepIn K (.ref f_looked_down) = true)
    (a_adding : PySem.W.nsIn K mainGlobals "adding" = some (some (.ref f_adding)))
    (l_adding : K.lookup f_adding = some ⟨oc_adding, od_adding, .func (PySem.W.fnOf "adding" "adding" (defArgs s_adding) (defBody s_adding) (defScope s_adding) .none kV_adding dc_adding pm_adding an_adding cd_adding ct_adding), sl_adding⟩)
    (c_adding : PySem.W.codeIn K cd_adding "adding" = true)
    (k_adding : PySem.W.keepIn K (.ref f_adding) = true)
    (a_taking : PySem.W.nsIn K mainGlobals "taking" = some (some (.ref f_taking)))
    (l_taking : K.lookup f_taking = some ⟨oc_taking, od_taking, .func (PySem.W.fnOf "taking" "taking" (defArgs s_taking) (defBody s_taking) (defScope s_taking) .none kV_taking dc_taking pm_taking an_taking cd_taking ct_taking), sl_taking⟩)
    (c_taking : PySem.W.codeIn K cd_taking "taking" = true)
    (k_taking : PySem.W.keepIn K (.ref f_taking) = true)
    (a_added : PySem.W.nsIn K mainGlobals "added" = some (some (.ref f_added)))
    (l_added : K.lookup f_added = some ⟨oc_added, od_added, .func (PySem.W.fnOf "added" "added" (defArgs s_added) (defBody s_added) (defScope s_added) .none kV_added dc_added pm_added an_added cd_added ct_added), sl_added⟩)
    (c_added : PySem.W.codeIn K cd_added "added" = true)
    (k_added : PySem.W.keepIn K (.ref f_added) = true)
    (a_subtracted : PySem.W.nsIn K mainGlobals "subtracted" = some (some (.ref f_subtracted)))
    (l_subtracted : K.lookup f_subtracted = some ⟨oc_subtracted, od_subtracted, .func (PySem.W.fnOf "subtracted" "subtracted" (defArgs s_subtracted) (defBody s_subtracted) (defScope s_subtracted) .none kV_subtracted dc_subtracted pm_subtracted an_subtracted cd_subtracted ct_subtracted), sl_subtracted⟩)
    (c_subtracted : PySem.W.codeIn K cd_subtracted "subtracted" = true)
    (k_subtracted : PySem.W.keepIn K (.ref f_subtracted) = true)
    (a_add : PySem.W.nsIn K mainGlobals "add" = some (some (.ref f_add)))
    (l_add : K.lookup f_add = some ⟨oc_add, od_add, .func (PySem.W.fnOf "add" "add" (defArgs s_add) (defBody s_add) (defScope s_add) .none kV_add dc_add pm_add an_add cd_add ct_add), sl_add⟩)
    (c_add : PySem.W.codeIn K cd_add "add" = true)
    (k_add : PySem.W.keepIn K (.ref f_add) = true)
    (a_subtract : PySem.W.nsIn K mainGlobals "subtract" = some (some (.ref f_subtract)))
    (l_subtract : K.lookup f_subtract = some ⟨oc_subtract, od_subtract, .func (PySem.W.fnOf "subtract" "subtract" (defArgs s_subtract) (defBody s_subtract) (defScope s_subtract) .none kV_subtract dc_subtract pm_subtract an_subtract cd_subtract ct_subtract), sl_subtract⟩)
    (c_subtract : PySem.W.codeIn K cd_subtract "subtract" = true)
    (k_subtract : PySem.W.keepIn K (.ref f_subtract) = true)
    (a_law_source_of : PySem.W.nsIn K mainGlobals "_law_source_of" = some (some (.ref f_law_source_of)))
    (l_law_source_of : K.lookup f_law_source_of = some ⟨oc_law_source_of, od_law_source_of, .func (PySem.W.fnOf "_law_source_of" "_law_source_of" (defArgs s_law_source_of) (defBody s_law_source_of) (defScope s_law_source_of) .none kV_law_source_of dc_law_source_of pm_law_source_of an_law_source_of cd_law_source_of ct_law_source_of), sl_law_source_of⟩)
    (c_law_source_of : PySem.W.codeIn K cd_law_source_of "_law_source_of" = true)
    (k_law_source_of : PySem.W.keepIn K (.ref f_law_source_of) = true)
    (a_law_next : PySem.W.nsIn K mainGlobals "_law_next" = some (some (.ref f_law_next)))
    (l_law_next : K.lookup f_law_next = some ⟨oc_law_next, od_law_next, .func (PySem.W.fnOf "_law_next" "_law_next" (defArgs s_law_next) (defBody s_law_next) (defScope s_law_next) .none kV_law_next dc_law_next pm_law_next an_law_next cd_law_next ct_law_next), sl_law_next⟩)
    (c_law_next : PySem.W.codeIn K cd_law_next "_law_next" = true)
    (k_law_next : PySem.W.keepIn K (.ref f_law_next) = true)
    (a_law_cell_at : PySem.W.nsIn K mainGlobals "_law_cell_at" = some (some (.ref f_law_cell_at)))
    (l_law_cell_at : K.lookup f_law_cell_at = some ⟨oc_law_cell_at, od_law_cell_at, .func (PySem.W.fnOf "_law_cell_at" "_law_cell_at" (defArgs s_law_cell_at) (defBody s_law_cell_at) (defScope s_law_cell_at) .none kV_law_cell_at dc_law_cell_at pm_law_cell_at an_law_cell_at cd_law_cell_at ct_law_cell_at), sl_law_cell_at⟩)
    (c_law_cell_at : PySem.W.codeIn K cd_law_cell_at "_law_cell_at" = true)
    (k_law_cell_at : PySem.W.keepIn K (.ref f_law_cell_at) = true)
    (a_law_power : PySem.W.nsIn K mainGlobals "_law_power" = some (some (.ref f_law_power)))
    (l_law_power : K.lookup f_law_power = some ⟨oc_law_power, od_law_power, .func (PySem.W.fnOf "_law_power" "_law_power" (defArgs s_law_power) (defBody s_law_power) (defScope s_law_power) .none kV_law_power dc_law_power pm_law_power an_law_power cd_law_power ct_law_power), sl_law_power⟩)
    (c_law_power : PySem.W.codeIn K cd_law_power "_law_power" = true)
    (k_law_power : PySem.W.keepIn K (.ref f_law_power) = true)
    (a_law_words : PySem.W.nsIn K mainGlobals "_law_words" = some (some (.ref f_law_words)))
    (l_law_words : K.lookup f_law_words = some ⟨oc_law_words, od_law_words, .func (PySem.W.fnOf "_law_words" "_law_words" (defArgs s_law_words) (defBody s_law_words) (defScope s_law_words) .none kV_law_words dc_law_words pm_law_words an_law_words cd_law_words ct_law_words), sl_law_words⟩)
    (c_law_words : PySem.W.codeIn K cd_law_words "_law_words" = true)
    (k_law_words : PySem.W.keepIn K (.ref f_law_words) = true)
    (a_law_right : PySem.W.nsIn K mainGlobals "_law_right" = some (some (.ref f_law_right)))
    (l_law_right : K.lookup f_law_right = some ⟨oc_law_right, od_law_right, .func (PySem.W.fnOf "_law_right" "_law_right" (defArgs s_law_right) (defBody s_law_right) (defScope s_law_right) .none kV_law_right dc_law_right pm_law_right an_law_right cd_law_right ct_law_right), sl_law_right⟩)
    (c_law_right : PySem.W.codeIn K cd_law_right "_law_right" = true)
    (k_law_right : PySem.W.keepIn K (.ref f_law_right) = true)
    (a_law_counts_right : PySem.W.nsIn K mainGlobals "_law_counts_right" = some (some (.ref f_law_counts_right)))
    (l_law_counts_right : K.lookup f_law_counts_right = some ⟨oc_law_counts_right, od_law_counts_right, .func (PySem.W.fnOf "_law_counts_right" "_law_counts_right" (defArgs s_law_counts_right) (defBody s_law_counts_right) (defScope s_law_counts_right) .none kV_law_counts_right dc_law_counts_right pm_law_counts_right an_law_counts_right cd_law_counts_right ct_law_counts_right), sl_law_counts_right⟩)
    (c_law_counts_right : PySem.W.codeIn K cd_law_counts_right "_law_counts_right" = true)
    (k_law_counts_right : PySem.W.keepIn K (.ref f_law_counts_right) = true)
    (a_law_long_right : PySem.W.nsIn K mainGlobals "_law_long_right" = some (some (.ref f_law_long_right)))
    (l_law_long_right : K.lookup f_law_long_right = some ⟨oc_law_long_right, od_law_long_right, .func (PySem.W.fnOf "_law_long_right" "_law_long_right" (defArgs s_law_long_right) (defBody s_law_long_right) (defScope s_law_long_right) .none kV_law_long_right dc_law_long_right pm_law_long_right an_law_long_right cd_law_long_right ct_law_long_right), sl_law_long_right⟩)
    (c_law_long_right : PySem.W.codeIn K cd_law_long_right "_law_long_right" = true)
    (k_law_long_right : PySem.W.keepIn K (.ref f_law_long_right) = true)
    (a_law : PySem.W.nsIn K mainGlobals "law" = some (some (.ref f_law)))
    (l_law : K.lookup f_law = some ⟨oc_law, od_law, .func (PySem.W.fnOf "law" "law" (defArgs s_law) (defBody s_law) (defScope s_law) .none kV_law dc_law pm_law an_law cd_law ct_law), sl_law⟩)
    (c_law : PySem.W.codeIn K cd_law "law" = true)
    (k_law : PySem.W.keepIn K (.ref f_law) = true)
    (qeMachine : nsFind esNMachine "__eq__" = some (.ref f_Machine_eq))
    (qnMachine : nsFind esNMachine "__ne__" = none)
    (qfMachine : oc_Machine_eq = .type "function")
    (icMachine : PySem.W.isClsIn K CMachine = true)
    (tyMachine : PySem.W.typeIn K (.ref CMachine) = some (.type "type"))
    (sbMachine_int : PySem.W.subIn K (.type "int") (.ref CMachine) = some false)
    (sbMachine_list : PySem.W.subIn K (.type "list") (.ref CMachine) = some false)
    (sbMachine_str : PySem.W.subIn K (.type "str") (.ref CMachine) = some false)
    (sbMachine_NoneType : PySem.W.subIn K (.type "NoneType") (.ref CMachine) = some false)
    (sbMachine_bool : PySem.W.subIn K (.type "bool") (.ref CMachine) = some false)
    (sbMachine_tuple : PySem.W.subIn K (.type "tuple") (.ref CMachine) = some false)
    (sbMachine_dict : PySem.W.subIn K (.type "dict") (.ref CMachine) = some false)
    (icBig : PySem.W.isClsIn K CBig = true)
    (tyBig : PySem.W.typeIn K (.ref CBig) = some (.type "type"))
    (sbBig_int : PySem.W.subIn K (.type "int") (.ref CBig) = some false)
    (sbBig_list : PySem.W.subIn K (.type "list") (.ref CBig) = some false)
    (sbBig_str : PySem.W.subIn K (.type "str") (.ref CBig) = some false)
    (sbBig_NoneType : PySem.W.subIn K (.type "NoneType") (.ref CBig) = some false)
    (sbBig_bool : PySem.W.subIn K (.type "bool") (.ref CBig) = some false)
    (sbBig_tuple : PySem.W.subIn K (.type "tuple") (.ref CBig) = some false)
    (sbBig_dict : PySem.W.subIn K (.type "dict") (.ref CBig) = some false)
    (cxne : CMachine ≠ CBig)
    (cxMB : PySem.W.subIn K (.ref CMachine) (.ref CBig) = some false)
    (cxBM : PySem.W.subIn K (.ref CBig) (.ref CMachine) = some false)
    (cxMachine_int : PySem.W.subIn K (.ref CMachine) (.type "int") = some false)
    (cxMachine_list : PySem.W.subIn K (.ref CMachine) (.type "list") = some false)
    (cxMachine_str : PySem.W.subIn K (.ref CMachine) (.type "str") = some false)
    (cxMachine_bool : PySem.W.subIn K (.ref CMachine) (.type "bool") = some false)
    (cxMachine_tuple : PySem.W.subIn K (.ref CMachine) (.type "tuple") = some false)
    (cxMachine_dict : PySem.W.subIn K (.ref CMachine) (.type "dict") = some false)
    (cxBig_int : PySem.W.subIn K (.ref CBig) (.type "int") = some false)
    (cxBig_list : PySem.W.subIn K (.ref CBig) (.type "list") = some false)
    (cxBig_str : PySem.W.subIn K (.ref CBig) (.type "str") = some false)
    (cxBig_bool : PySem.W.subIn K (.ref CBig) (.type "bool") = some false)
    (cxBig_tuple : PySem.W.subIn K (.ref CBig) (.type "tuple") = some false)
    (cxBig_dict : PySem.W.subIn K (.ref CBig) (.type "dict") = some false)
    (z_abs : PySem.W.nsIn K mainGlobals "abs" = some none)
    (z_bool : PySem.W.nsIn K mainGlobals "bool" = some none)
    (z_dict : PySem.W.nsIn K mainGlobals "dict" = some none)
    (z_enumerate : PySem.W.nsIn K mainGlobals "enumerate" = some none)
    (z_int : PySem.W.nsIn K mainGlobals "int" = some none)
    (z_isinstance : PySem.W.nsIn K mainGlobals "isinstance" = some none)
    (z_len : PySem.W.nsIn K mainGlobals "len" = some none)
    (z_list : PySem.W.nsIn K mainGlobals "list" = some none)
    (z_max : PySem.W.nsIn K mainGlobals "max" = some none)
    (z_min : PySem.W.nsIn K mainGlobals "min" = some none)
    (z_range : PySem.W.nsIn K mainGlobals "range" = some none)
    (z_tuple : PySem.W.nsIn K mainGlobals "tuple" = some none)
    : ∃ fd : FuncData, (∀ (s : Shared) (v : Value), BindsTo s fd ⟨[v], []⟩ [("_law_script", v)]) ∧ ∀ base : Heap, K.In base → base.Ns mainGlobals mg → FnOk l.prog w K mg base CX0 9 fa fd ["_law_script"] (sp_law0 K) := by
  have e : f_law = fa := by
    have q := (PySem.W.mg_of X G a_law).symm.trans hfa
    exact Value.ref.inj (Option.some.inj q)
  subst e
  have F_is_integer := fun_mk (st := s_is_integer) l_is_integer c_is_integer k_is_integer
  have b_is_integer := F_is_integer.binds (ps := ["value"]) fun _ _ _ _ _ _ us hl => match us, hl with | [_], _ => rfl
  have F_is_between := fun_mk (st := s_is_between) l_is_between c_is_between k_is_between
  have b_is_between := F_is_between.binds (ps := ["value", "low", "high"]) fun _ _ _ _ _ _ us hl => match us, hl with | [_, _, _], _ => rfl
  have F_check_integer := fun_mk (st := s_check_integer) l_check_integer c_check_integer k_check_integer
  have b_check_integer := F_check_integer.binds (ps := ["argument", "value"]) fun _ _ _ _ _ _ us hl => match us, hl with | [_, _], _ => rfl
  have F_Machine_init : FunD K "__init__" "Machine.__init__" (defArgs s_Machine_init) (defBody s_Machine_init) (defScope s_Machine_init) [(.int 30), (.int 70)] [] f_Machine_init _ := ⟨⟨_, _, _, _, _, _, _, _, _, _, rfl, l_Machine_init, c_Machine_init, .inr ⟨by simp, dT_Machine_init, _, itT_Machine_init.toList, nT_Machine_init, rfl, lT_Machine_init, by simp, vT_Machine_init⟩, .inl rfl⟩, k_Machine_init⟩
  obtain ⟨dsf_Machine_init, vf_Machine_init, b_Machine_init⟩ := F_Machine_init.binds1 (ps := ["self", "bits", "cutoff"]) 3 2 (by simp) (by decide) (fun _ _ _ _ _ _ _ us its h1 h2 => match us, its, h1, h2 with | [_, _, _], [_, _], _, _ => ⟨_, rfl, rfl⟩)
  cases vf_Machine_init
  have F_Machine_eq := fun_mk (st := s_Machine_eq) l_Machine_eq c_Machine_eq k_Machine_eq
  have b_Machine_eq := F_Machine_eq.binds (ps := ["self", "other"]) fun _ _ _ _ _ _ us hl => match us, hl with | [_, _], _ => rfl
  have F_Machine_parts := fun_mk (st := s_Machine_parts) l_Machine_parts c_Machine_parts k_Machine_parts
  have b_Machine_parts := F_Machine_parts.binds (ps := ["self"]) fun _ _ _ _ _ _ us hl => match us, hl with | [_], _ => rfl
  have F_Machine_tally := fun_mk (st := s_Machine_tally) l_Machine_tally c_Machine_tally k_Machine_tally
  have b_Machine_tally := F_Machine_tally.binds (ps := ["self"]) fun _ _ _ _ _ _ us hl => match us, hl with | [_], _ => rfl
  have F_Machine_walk := fun_mk (st := s_Machine_walk) l_Machine_walk c_Machine_walk k_Machine_walk
  have b_Machine_walk := F_Machine_walk.binds (ps := ["self"]) fun _ _ _ _ _ _ us hl => match us, hl with | [_], _ => rfl
  have F_Machine_reset := fun_mk (st := s_Machine_reset) l_Machine_reset c_Machine_reset k_Machine_reset
  have b_Machine_reset := F_Machine_reset.binds (ps := ["self"]) fun _ _ _ _ _ _ us hl => match us, hl with | [_], _ => rfl
  have F_Machine_count := fun_mk (st := s_Machine_count) l_Machine_count c_Machine_count k_Machine_count
  have b_Machine_count := F_Machine_count.binds (ps := ["self", "word", "number"]) fun _ _ _ _ _ _ us hl => match us, hl with | [_, _, _], _ => rfl
  have F_Machine_enter := fun_mk (st := s_Machine_enter) l_Machine_enter c_Machine_enter k_Machine_enter
  have b_Machine_enter := F_Machine_enter.binds (ps := ["self", "word", "m", "n"]) fun _ _ _ _ _ _ us hl => match us, hl with | [_, _, _, _], _ => rfl
  have F_check_machine := fun_mk (st := s_check_machine) l_check_machine c_check_machine k_check_machine
  have b_check_machine := F_check_machine.binds (ps := ["value"]) fun _ _ _ _ _ _ us hl => match us, hl with | [_], _ => rfl
  have F_Big_init := fun_mk (st := s_Big_init) l_Big_init c_Big_init k_Big_init
  have b_Big_init := F_Big_init.binds (ps := ["self", "width", "side", "row"]) fun _ _ _ _ _ _ us hl => match us, hl with | [_, _, _, _], _ => rfl
  have F_made := fun_mk (st := s_made) l_made c_made k_made
  have b_made := F_made.binds (ps := ["machine", "side", "digits"]) fun _ _ _ _ _ _ us hl => match us, hl with | [_, _, _], _ => rfl
  have F_digits_of := fun_mk (st := s_digits_of) l_digits_of c_digits_of k_digits_of
  have b_digits_of := F_digits_of.binds (ps := ["machine", "n"]) fun _ _ _ _ _ _ us hl => match us, hl with | [_, _], _ => rfl
  have F_big_of := fun_mk (st := s_big_of) l_big_of c_big_of k_big_of
  have b_big_of := F_big_of.binds (ps := ["machine", "n"]) fun _ _ _ _ _ _ us hl => match us, hl with | [_, _], _ => rfl
  have F_value_of := fun_mk (st := s_value_of) l_value_of c_value_of k_value_of
  have b_value_of := F_value_of.binds (ps := ["x"]) fun _ _ _ _ _ _ us hl => match us, hl with | [_], _ => rfl
  have F_check_big := fun_mk (st := s_check_big) l_check_big c_check_big k_check_big
  have b_check_big := F_check_big.binds (ps := ["machine", "argument", "value"]) fun _ _ _ _ _ _ us hl => match us, hl with | [_, _, _], _ => rfl
  have F_check_bigs := fun_mk (st := s_check_bigs) l_check_bigs c_check_bigs k_check_bigs
  have b_check_bigs := F_check_bigs.binds (ps := ["machine", "x", "y"]) fun _ _ _ _ _ _ us hl => match us, hl with | [_, _, _], _ => rfl
  have F_is_compact := fun_mk (st := s_is_compact) l_is_compact c_is_compact k_is_compact
  have b_is_compact := F_is_compact.binds (ps := ["x"]) fun _ _ _ _ _ _ us hl => match us, hl with | [_], _ => rfl
  have F_big := fun_mk (st := s_big) l_big c_big k_big
  have b_big := F_big.binds (ps := ["machine", "n"]) fun _ _ _ _ _ _ us hl => match us, hl with | [_, _], _ => rfl
  have F_looked_down := fun_mk (st := s_looked_down) l_looked_down c_looked_down k_looked_down
  have b_looked_down := F_looked_down.binds (ps := ["machine", "one", "other"]) fun _ _ _ _ _ _ us hl => match us, hl with | [_, _, _], _ => rfl
  have F_adding := fun_mk (st := s_adding) l_adding c_adding k_adding
  have b_adding := F_adding.binds (ps := ["machine", "a", "b"]) fun _ _ _ _ _ _ us hl => match us, hl with | [_, _, _], _ => rfl
  have F_taking := fun_mk (st := s_taking) l_taking c_taking k_taking
  have b_taking := F_taking.binds (ps := ["machine", "a", "b"]) fun _ _ _ _ _ _ us hl => match us, hl with | [_, _, _], _ => rfl
  have F_added := fun_mk (st := s_added) l_added c_added k_added
  have b_added := F_added.binds (ps := ["machine", "x", "y"]) fun _ _ _ _ _ _ us hl => match us, hl with | [_, _, _], _ => rfl
  have F_subtracted := fun_mk (st := s_subtracted) l_subtracted c_subtracted k_subtracted
  have b_subtracted := F_subtracted.binds (ps := ["machine", "x", "y"]) fun _ _ _ _ _ _ us hl => match us, hl with | [_, _, _], _ => rfl
  have F_add := fun_mk (st := s_add) l_add c_add k_add
  have b_add := F_add.binds (ps := ["machine", "x", "y"]) fun _ _ _ _ _ _ us hl => match us, hl with | [_, _, _], _ => rfl
  have F_subtract := fun_mk (st := s_subtract) l_subtract c_subtract k_subtract
  have b_subtract := F_subtract.binds (ps := ["machine", "x", "y"]) fun _ _ _ _ _ _ us hl => match us, hl with | [_, _, _], _ => rfl
  have F_law_source_of := fun_mk (st := s_law_source_of) l_law_source_of c_law_source_of k_law_source_of
  have b_law_source_of := F_law_source_of.binds (ps := ["_law_cell"]) fun _ _ _ _ _ _ us hl => match us, hl with | [_], _ => rfl
  have F_law_next := fun_mk (st := s_law_next) l_law_next c_law_next k_law_next
  have b_law_next := F_law_next.binds (ps := ["_law_source", "_law_count_of"]) fun _ _ _ _ _ _ us hl => match us, hl with | [_, _], _ => rfl
  have F_law_cell_at := fun_mk (st := s_law_cell_at) l_law_cell_at c_law_cell_at k_law_cell_at
  have b_law_cell_at := F_law_cell_at.binds (ps := ["_law_script", "_law_index"]) fun _ _ _ _ _ _ us hl => match us, hl with | [_, _], _ => rfl
  have F_law_power := fun_mk (st := s_law_power) l_law_power c_law_power k_law_power
  have b_law_power := F_law_power.binds (ps := ["_law_base", "_law_n"]) fun _ _ _ _ _ _ us hl => match us, hl with | [_, _], _ => rfl
  have F_law_words := fun_mk (st := s_law_words) l_law_words c_law_words k_law_words
  have b_law_words := F_law_words.binds (ps := []) fun _ _ _ _ _ _ us hl => match us, hl with | [], _ => rfl
  have F_law_right := fun_mk (st := s_law_right) l_law_right c_law_right k_law_right
  have b_law_right := F_law_right.binds (ps := ["_law_source"]) fun _ _ _ _ _ _ us hl => match us, hl with | [_], _ => rfl
  have F_law_counts_right := fun_mk (st := s_law_counts_right) l_law_counts_right c_law_counts_right k_law_counts_right
  have b_law_counts_right := F_law_counts_right.binds (ps := ["_law_source", "_law_one_here", "_law_other", "_law_base"]) fun _ _ _ _ _ _ us hl => match us, hl with | [_, _, _, _], _ => rfl
  have F_law_long_right := fun_mk (st := s_law_long_right) l_law_long_right c_law_long_right k_law_long_right
  have b_law_long_right := F_law_long_right.binds (ps := ["_law_source"]) fun _ _ _ _ _ _ us hl => match us, hl with | [_], _ => rfl
  have F_law := fun_mk (st := s_law) l_law c_law k_law
  have b_law := F_law.binds (ps := ["_law_script"]) fun _ _ _ _ _ _ us hl => match us, hl with | [_], _ => rfl
  obtain ⟨ds_Machine_init_0, vd_Machine_init_0, bd_Machine_init_0⟩ := F_Machine_init.binds1 (ps := ["self", "bits", "cutoff"]) 1 0 (by simp) (by decide) (fun _ _ _ _ _ _ _ us its h1 h2 => match us, its, h1, h2 with | [_], [_, _], _, _ => ⟨_, rfl, rfl⟩)
  have km_Machine_init_cutoff_bits : KBn K _ ["self", "bits", "cutoff"] 1 ["cutoff", "bits"] (makPV [1, 0]) (makP [1, 0]) := kn_ofDP F_Machine_init (by simp) fun _ _ _ _ _ _ _ us its ws h1 h2 h3 => match us, its, ws, h1, h2, h3 with | [_], [_, _], [_, _], _, _, _ => ⟨_, rfl, rfl⟩
  let c : Pc := ⟨CMachine, CBig, 0, aWORDS, 0, [], [], []⟩
  let a : Ad := ⟨c, f_is_integer, (PySem.W.fnOf "is_integer" "is_integer" (defArgs s_is_integer) (defBody s_is_integer) (defScope s_is_integer) .none kV_is_integer dc_is_integer pm_is_integer an_is_integer cd_is_integer ct_is_integer), f_is_between, (PySem.W.fnOf "is_between" "is_between" (defArgs s_is_between) (defBody s_is_between) (defScope s_is_between) .none kV_is_between dc_is_between pm_is_between an_is_between cd_is_between ct_is_between), f_check_integer, (PySem.W.fnOf "check_integer" "check_integer" (defArgs s_check_integer) (defBody s_check_integer) (defScope s_check_integer) .none kV_check_integer dc_check_integer pm_check_integer an_check_integer cd_check_integer ct_check_integer), f_Machine_init, (PySem.W.fnOf "__init__" "Machine.__init__" (defArgs s_Machine_init) (defBody s_Machine_init) (defScope s_Machine_init) (.ref dT_Machine_init) kV_Machine_init dc_Machine_init pm_Machine_init an_Machine_init cd_Machine_init ct_Machine_init), f_Machine_eq, (PySem.W.fnOf "__eq__" "Machine.__eq__" (defArgs s_Machine_eq) (defBody s_Machine_eq) (defScope s_Machine_eq) .none kV_Machine_eq dc_Machine_eq pm_Machine_eq an_Machine_eq cd_Machine_eq ct_Machine_eq), f_Machine_parts, (PySem.W.fnOf "parts" "Machine.parts" (defArgs s_Machine_parts) (defBody s_Machine_parts) (defScope s_Machine_parts) .none kV_Machine_parts dc_Machine_parts pm_Machine_parts an_Machine_parts cd_Machine_parts ct_Machine_parts), f_Machine_tally, (PySem.W.fnOf "tally" "Machine.tally" (defArgs s_Machine_tally) (defBody s_Machine_tally) (defScope s_Machine_tally) .none kV_Machine_tally dc_Machine_tally pm_Machine_tally an_Machine_tally cd_Machine_tally ct_Machine_tally), f_Machine_walk, (PySem.W.fnOf "walk" "Machine.walk" (defArgs s_Machine_walk) (defBody s_Machine_walk) (defScope s_Machine_walk) .none kV_Machine_walk dc_Machine_walk pm_Machine_walk an_Machine_walk cd_Machine_walk ct_Machine_walk), f_Machine_reset, (PySem.W.fnOf "reset" "Machine.reset" (defArgs s_Machine_reset) (defBody s_Machine_reset) (defScope s_Machine_reset) .none kV_Machine_reset dc_Machine_reset pm_Machine_reset an_Machine_reset cd_Machine_reset ct_Machine_reset), f_Machine_count, (PySem.W.fnOf "count" "Machine.count" (defArgs s_Machine_count) (defBody s_Machine_count) (defScope s_Machine_count) .none kV_Machine_count dc_Machine_count pm_Machine_count an_Machine_count cd_Machine_count ct_Machine_count), f_Machine_enter, (PySem.W.fnOf "enter" "Machine.enter" (defArgs s_Machine_enter) (defBody s_Machine_enter) (defScope s_Machine_enter) .none kV_Machine_enter dc_Machine_enter pm_Machine_enter an_Machine_enter cd_Machine_enter ct_Machine_enter), f_check_machine, (PySem.W.fnOf "check_machine" "check_machine" (defArgs s_check_machine) (defBody s_check_machine) (defScope s_check_machine) .none kV_check_machine dc_check_machine pm_check_machine an_check_machine cd_check_machine ct_check_machine), f_Big_init, (PySem.W.fnOf "__init__" "Big.__init__" (defArgs s_Big_init) (defBody s_Big_init) (defScope s_Big_init) .none kV_Big_init dc_Big_init pm_Big_init an_Big_init cd_Big_init ct_Big_init), f_made, (PySem.W.fnOf "made" "made" (defArgs s_made) (defBody s_made) (defScope s_made) .none kV_made dc_made pm_made an_made cd_made ct_made), f_digits_of, (PySem.W.fnOf "digits_of" "digits_of" (defArgs s_digits_of) (defBody s_digits_of) (defScope s_digits_of) .none kV_digits_of dc_digits_of pm_digits_of an_digits_of cd_digits_of ct_digits_of), f_big_of, (PySem.W.fnOf "big_of" "big_of" (defArgs s_big_of) (defBody s_big_of) (defScope s_big_of) .none kV_big_of dc_big_of pm_big_of an_big_of cd_big_of ct_big_of), f_value_of, (PySem.W.fnOf "value_of" "value_of" (defArgs s_value_of) (defBody s_value_of) (defScope s_value_of) .none kV_value_of dc_value_of pm_value_of an_value_of cd_value_of ct_value_of), f_check_big, (PySem.W.fnOf "check_big" "check_big" (defArgs s_check_big) (defBody s_check_big) (defScope s_check_big) .none kV_check_big dc_check_big pm_check_big an_check_big cd_check_big ct_check_big), f_check_bigs, (PySem.W.fnOf "check_bigs" "check_bigs" (defArgs s_check_bigs) (defBody s_check_bigs) (defScope s_check_bigs) .none kV_check_bigs dc_check_bigs pm_check_bigs an_check_bigs cd_check_bigs ct_check_bigs), f_is_compact, (PySem.W.fnOf "is_compact" "is_compact" (defArgs s_is_compact) (defBody s_is_compact) (defScope s_is_compact) .none kV_is_compact dc_is_compact pm_is_compact an_is_compact cd_is_compact ct_is_compact), f_big, (PySem.W.fnOf "big" "big" (defArgs s_big) (defBody s_big) (defScope s_big) .none kV_big dc_big pm_big an_big cd_big ct_big), f_looked_down, (PySem.W.fnOf "looked_down" "looked_down" (defArgs s_looked_down) (defBody s_looked_down) (defScope s_looked_down) .none kV_looked_down dc_looked_down pm_looked_down an_looked_down cd_looked_down ct_looked_down), f_adding, (PySem.W.fnOf "adding" "adding" (defArgs s_adding) (defBody s_adding) (defScope s_adding) .none kV_adding dc_adding pm_adding an_adding cd_adding ct_adding), f_taking, (PySem.W.fnOf "taking" "taking" (defArgs s_taking) (defBody s_taking) (defScope s_taking) .none kV_taking dc_taking pm_taking an_taking cd_taking ct_taking), f_added, (PySem.W.fnOf "added" "added" (defArgs s_added) (defBody s_added) (defScope s_added) .none kV_added dc_added pm_added an_added cd_added ct_added), f_subtracted, (PySem.W.fnOf "subtracted" "subtracted" (defArgs s_subtracted) (defBody s_subtracted) (defScope s_subtracted) .none kV_subtracted dc_subtracted pm_subtracted an_subtracted cd_subtracted ct_subtracted), f_add, (PySem.W.fnOf "add" "add" (defArgs s_add) (defBody s_add) (defScope s_add) .none kV_add dc_add pm_add an_add cd_add ct_add), f_subtract, (PySem.W.fnOf "subtract" "subtract" (defArgs s_subtract) (defBody s_subtract) (defScope s_subtract) .none kV_subtract dc_subtract pm_subtract an_subtract cd_subtract ct_subtract), f_law_source_of, (PySem.W.fnOf "_law_source_of" "_law_source_of" (defArgs s_law_source_of) (defBody s_law_source_of) (defScope s_law_source_of) .none kV_law_source_of dc_law_source_of pm_law_source_of an_law_source_of cd_law_source_of ct_law_source_of), f_law_next, (PySem.W.fnOf "_law_next" "_law_next" (defArgs s_law_next) (defBody s_law_next) (defScope s_law_next) .none kV_law_next dc_law_next pm_law_next an_law_next cd_law_next ct_law_next), f_law_cell_at, (PySem.W.fnOf "_law_cell_at" "_law_cell_at" (defArgs s_law_cell_at) (defBody s_law_cell_at) (defScope s_law_cell_at) .none kV_law_cell_at dc_law_cell_at pm_law_cell_at an_law_cell_at cd_law_cell_at ct_law_cell_at), f_law_power, (PySem.W.fnOf "_law_power" "_law_power" (defArgs s_law_power) (defBody s_law_power) (defScope s_law_power) .none kV_law_power dc_law_power pm_law_power an_law_power cd_law_power ct_law_power), f_law_words, (PySem.W.fnOf "_law_words" "_law_words" (defArgs s_law_words) (defBody s_law_words) (defScope s_law_words) .none kV_law_words dc_law_words pm_law_words an_law_words cd_law_words ct_law_words), f_law_right, (PySem.W.fnOf "_law_right" "_law_right" (defArgs s_law_right) (defBody s_law_right) (defScope s_law_right) .none kV_law_right dc_law_right pm_law_right an_law_right cd_law_right ct_law_right), f_law_counts_right, (PySem.W.fnOf "_law_counts_right" "_law_counts_right" (defArgs s_law_counts_right) (defBody s_law_counts_right) (defScope s_law_counts_right) .none kV_law_counts_right dc_law_counts_right pm_law_counts_right an_law_counts_right cd_law_counts_right ct_law_counts_right), f_law_long_right, (PySem.W.fnOf "_law_long_right" "_law_long_right" (defArgs s_law_long_right) (defBody s_law_long_right) (defScope s_law_long_right) .none kV_law_long_right dc_law_long_right pm_law_long_right an_law_long_right cd_law_long_right ct_law_long_right), f_law, (PySem.W.fnOf "law" "law" (defArgs s_law) (defBody s_law) (defScope s_law) .none kV_law dc_law pm_law an_law cd_law ct_law), ds_Machine_init_0⟩
  have cl_Machine : Cls K CMachine := ⟨pgMachine, hdMachine, poMachine, saMachine⟩
  have ic_Machine : C8.InsC K CMachine := ⟨cl_Machine, haMachine, hsp, htk, hmMachine, kit_self K CMachine⟩
  have cl_Big : Cls K CBig := ⟨pgBig, hdBig, poBig, saBig⟩
  have ic_Big : C8.InsC K CBig := ⟨cl_Big, haBig, hsp, htk, hmBig, kit_self K CBig⟩
  have pm : Eng.PM K c := ⟨ic_Machine, nfMachine_entered, nfMachine_counts, nfMachine_base, nfMachine_limit_of_rows, nfMachine_width, fun H => .inr ⟨_, itW, nW, l_WORDS, rfl, rfl, z_WORDS, v_WORDS⟩⟩
  have pb : Eng.PB K c := ⟨ic_Big, nfBig_row, nfBig_side, nfBig_width⟩
  have ns_Machine : Eng.NoSub K CMachine := nosub_mk icMachine tyMachine sbMachine_int sbMachine_list sbMachine_str sbMachine_NoneType sbMachine_bool sbMachine_tuple sbMachine_dict
  have it_Machine : ∀ b ∈ (["int", "list", "str", "bool", "tuple", "dict"] : List String), PySem.W.subIn K (.ref CMachine) (.type b) = some false := fun b hb => by
    simp only [List.mem_cons, List.not_mem_nil, or_false] at hb
    rcases hb with rfl | rfl | rfl | rfl | rfl | rfl <;> assumption
  have ns_Big : Eng.NoSub K CBig := nosub_mk icBig tyBig sbBig_int sbBig_list sbBig_str sbBig_NoneType sbBig_bool sbBig_tuple sbBig_dict
  have it_Big : ∀ b ∈ (["int", "list", "str", "bool", "tuple", "dict"] : List String), PySem.W.subIn K (.ref CBig) (.type b) = some false := fun b hb => by
    simp only [List.mem_cons, List.not_mem_nil, or_false] at hb
    rcases hb with rfl | rfl | rfl | rfl | rfl | rfl <;> assumption
  have T : Txt K mg a := {
      NT := rfl,
      PM := pm,
      PB := pb,
      IS := ⟨ic_Machine, ic_Big, ns_Machine, ns_Big, cxne, cxMB, cxBM, it_Machine, it_Big⟩,
      g_Machine := PySem.W.mg_of X G aMachine,
      cl_Machine := cl_Machine,
      mk_Machine := ⟨mkMachine, a_Machine_init, i_Machine_init, kcMachine⟩,
      eq_Machine := a_Machine_eq,
      ie_Machine := i_Machine_eq,
      ne_Machine := ⟨⟨_, _, _, _, _, _, _, _, _, _, _, _, _, _, _, _, _, _, _, lcMachine, lNMachine, rfl, strKeys_of skMachine, qeMachine, qnMachine⟩, ⟨_, l_Machine_eq, qfMachine⟩⟩,
      g_Big := PySem.W.mg_of X G aBig,
      cl_Big := cl_Big,
      mk_Big := ⟨mkBig, a_Big_init, i_Big_init, kcBig⟩,
      g_LEAST_BITS := ⟨_, PySem.W.mg_of X G g_LEAST_BITS, ⟨_, rfl⟩⟩,
      g_MOST_BITS := ⟨_, PySem.W.mg_of X G g_MOST_BITS, ⟨_, rfl⟩⟩,
      g_MOST_CUTOFF := ⟨_, PySem.W.mg_of X G g_MOST_CUTOFF, ⟨_, rfl⟩⟩,
      g_MOST_WALK := ⟨_, PySem.W.mg_of X G g_MOST_WALK, ⟨_, rfl⟩⟩,
      g_WORDS := PySem.W.mg_of X G g_WORDS,
      F_is_integer := F_is_integer,
      m_is_integer := PySem.W.mg_of X G a_is_integer,
      b_is_integer := b_is_integer,
      F_is_between := F_is_between,
      m_is_between := PySem.W.mg_of X G a_is_between,
      b_is_between := b_is_between,
      F_check_integer := F_check_integer,
      m_check_integer := PySem.W.mg_of X G a_check_integer,
      b_check_integer := b_check_integer,
      F_Machine_init := F_Machine_init,
      b_Machine_init := b_Machine_init,
      F_Machine_eq := F_Machine_eq,
      me_Machine_eq := ⟨a_Machine_eq, i_Machine_eq, k_Machine_eq⟩,
      b_Machine_eq := b_Machine_eq,
      F_Machine_parts := F_Machine_parts,
      me_Machine_parts := ⟨a_Machine_parts, i_Machine_parts, k_Machine_parts⟩,
      b_Machine_parts := b_Machine_parts,
      F_Machine_tally := F_Machine_tally,
      me_Machine_tally := ⟨a_Machine_tally, i_Machine_tally, k_Machine_tally⟩,
      b_Machine_tally := b_Machine_tally,
      F_Machine_walk := F_Machine_walk,
      me_Machine_walk := ⟨a_Machine_walk, i_Machine_walk, k_Machine_walk⟩,
      b_Machine_walk := b_Machine_walk,
      F_Machine_reset := F_Machine_reset,
      me_Machine_reset := ⟨a_Machine_reset, i_Machine_reset, k_Machine_reset⟩,
      b_Machine_reset := b_Machine_reset,
      F_Machine_count := F_Machine_count,
      me_Machine_count := ⟨a_Machine_count, i_Machine_count, k_Machine_count⟩,
      b_Machine_count := b_Machine_count,
      F_Machine_enter := F_Machine_enter,
      me_Machine_enter := ⟨a_Machine_enter, i_Machine_enter, k_Machine_enter⟩,
      b_Machine_enter := b_Machine_enter,
      F_check_machine := F_check_machine,
      m_check_machine := PySem.W.mg_of X G a_check_machine,
      b_check_machine := b_check_machine,
      F_Big_init := F_Big_init,
      b_Big_init := b_Big_init,
      F_made := F_made,
      m_made := PySem.W.mg_of X G a_made,
      b_made := b_made,
      F_digits_of := F_digits_of,
      m_digits_of := PySem.W.mg_of X G a_digits_of,
      b_digits_of := b_digits_of,
      F_big_of := F_big_of,
      m_big_of := PySem.W.mg_of X G a_big_of,
      b_big_of := b_big_of,
      F_value_of := F_value_of,
      m_value_of := PySem.W.mg_of X G a_value_of,
      b_value_of := b_value_of,
      F_check_big := F_check_big,
      m_check_big := PySem.W.mg_of X G a_check_big,
      b_check_big := b_check_big,
      F_check_bigs := F_check_bigs,
      m_check_bigs := PySem.W.mg_of X G a_check_bigs,
      b_check_bigs := b_check_bigs,
      F_is_compact := F_is_compact,
      m_is_compact := PySem.W.mg_of X G a_is_compact,
      b_is_compact := b_is_compact,
      F_big := F_big,
      m_big := PySem.W.mg_of X G a_big,
      b_big := b_big,
      F_looked_down := F_looked_down,
      m_looked_down := PySem.W.mg_of X G a_looked_down,
      b_looked_down := b_looked_down,
      F_adding := F_adding,
      m_adding := PySem.W.mg_of X G a_adding,
      b_adding := b_adding,
      F_taking := F_taking,
      m_taking := PySem.W.mg_of X G a_taking,
      b_taking := b_taking,
      F_added := F_added,
      m_added := PySem.W.mg_of X G a_added,
      b_added := b_added,
      F_subtracted := F_subtracted,
      m_subtracted := PySem.W.mg_of X G a_subtracted,
      b_subtracted := b_subtracted,
      F_add := F_add,
      m_add := PySem.W.mg_of X G a_add,
      b_add := b_add,
      F_subtract := F_subtract,
      m_subtract := PySem.W.mg_of X G a_subtract,
      b_subtract := b_subtract,
      F_law_source_of := F_law_source_of,
      m_law_source_of := PySem.W.mg_of X G a_law_source_of,
      b_law_source_of := b_law_source_of,
      F_law_next := F_law_next,
      m_law_next := PySem.W.mg_of X G a_law_next,
      b_law_next := b_law_next,
      F_law_cell_at := F_law_cell_at,
      m_law_cell_at := PySem.W.mg_of X G a_law_cell_at,
      b_law_cell_at := b_law_cell_at,
      F_law_power := F_law_power,
      m_law_power := PySem.W.mg_of X G a_law_power,
      b_law_power := b_law_power,
      F_law_words := F_law_words,
      m_law_words := PySem.W.mg_of X G a_law_words,
      b_law_words := b_law_words,
      F_law_right := F_law_right,
      m_law_right := PySem.W.mg_of X G a_law_right,
      b_law_right := b_law_right,
      F_law_counts_right := F_law_counts_right,
      m_law_counts_right := PySem.W.mg_of X G a_law_counts_right,
      b_law_counts_right := b_law_counts_right,
      F_law_long_right := F_law_long_right,
      m_law_long_right := PySem.W.mg_of X G a_law_long_right,
      b_law_long_right := b_law_long_right,
      F_law := F_law,
      m_law := PySem.W.mg_of X G a_law,
      b_law := b_law,
      bd_Machine_init_0 := ⟨vd_Machine_init_0, bd_Machine_init_0⟩,
      km_Machine_init_cutoff_bits := km_Machine_init_cutoff_bits,
      n_abs := PySem.W.mg_none_of X G z_abs,
      n_bool := PySem.W.mg_none_of X G z_bool,
      n_dict := PySem.W.mg_none_of X G z_dict,
      n_enumerate := PySem.W.mg_none_of X G z_enumerate,
      n_int := PySem.W.mg_none_of X G z_int,
      n_isinstance := PySem.W.mg_none_of X G z_isinstance,
      n_len := PySem.W.mg_none_of X G z_len,
      n_list := PySem.W.mg_none_of X G z_list,
      n_max := PySem.W.mg_none_of X G z_max,
      n_min := PySem.W.mg_none_of X G z_min,
      n_range := PySem.W.mg_none_of X G z_range,
      n_tuple := PySem.W.mg_none_of X G z_tuple }
  exact ⟨_, fun s v => .of_eq rfl, fun base _ _ => ok_law (a := a) T⟩
theorem walk {l : PySem.W.OpenLaw} {q : Program} {loose : List Str} {XP : (Str → Option Value) → Heap → Prop} {YP : World → Heap → Prop} {d : DefRec} {K : Params → PySem.W.Frag} (hn : l.most = some 63) (hdf : d.params.defaults = [])
    (hY : ∀ (w : World) (h : Heap), YP w h → (K w.params).In h)
    (F : ∀ (w : World) (mg : Str → Option Value) (fa : Addr) (h : Heap), (K w.params).In h → h.Ns mainGlobals mg → mg d.name = some (.ref fa) →
      ∃ fd : FuncData, (∀ (s : Shared) (u : Value), BindsTo s fd ⟨[u], []⟩ [("_law_script", u)]) ∧ ∀ base : Heap, (K w.params).In base → base.Ns mainGlobals mg → FnOk l.prog w (K w.params) mg base CX0 9 fa fd ["_law_script"] (sp_law0 (K w.params))) :
    PySem.W.WalkO q loose XP YP l.row.toRowW d [] (fun f vs => PySem.call f vs) :=
  L2.walk_of (n := 63) (k := 9) (x := "_law_script") (CX := fun _ => CX0) (sp := fun w => sp_law0 (K w.params)) hn (by decide) hdf ⟨rfl, by decide, by decide⟩ hY F (fun _ _ a ns hl _ hS => ⟨a, ns, rfl, hS, hl, fun _ => rfl⟩) fun _ _ _ _ _ z => z
end Law
open PySem PySem.W PyProof.Rows
set_option maxRecDepth 100000 in
set_option maxHeartbeats 0 in
theorem PySem.Challenge.cw_thirtybits_k04_machines_holds : PySem.Challenge.rw_thirtybits_k04_machines.Holds := by
  w_on; o_law; k_head; (case hw => w_witness2)
  k_fill
  refine Law.walk (l := PySem.Challenge.rw_thirtybits_k04_machines) rfl rfl (fun w h Y => PySem.W.kIn_of Y) ?F
  case F =>
    intro w mg fa h KX G hmg
    refine' Law.all_mk KX G hmg ?aMachine ?pgMachine ?hdMachine ?poMachine ?saMachine ?mkMachine ?kcMachine ?haMachine ?hmMachine ?lcMachine ?lNMachine ?skMachine ?nfMachine_entered ?nfMachine_counts ?nfMachine_base ?nfMachine_limit_of_rows ?nfMachine_width ?aBig ?pgBig ?hdBig ?poBig ?saBig ?mkBig ?kcBig ?haBig ?hmBig ?nfBig_row ?nfBig_side ?nfBig_width ?hsp ?htk ?g_LEAST_BITS ?g_MOST_BITS ?g_MOST_CUTOFF ?g_MOST_WALK ?g_WORDS ?l_WORDS ?z_WORDS ?v_WORDS ?a_is_integer ?l_is_integer ?c_is_integer ?k_is_integer ?a_is_between ?l_is_between ?c_is_between ?k_is_between ?a_check_integer ?l_check_integer ?c_check_integer ?k_check_integer ?a_Machine_init ?i_Machine_init ?l_Machine_init ?c_Machine_init ?k_Machine_init ?lT_Machine_init ?vT_Machine_init ?a_Machine_eq ?i_Machine_eq ?l_Machine_eq ?c_Machine_eq ?k_Machine_eq ?a_Machine_parts ?i_Machine_parts ?l_Machine_parts ?c_Machine_parts ?k_Machine_parts ?a_Machine_tally ?i_Machine_tally ?l_Machine_tally ?c_Machine_tally ?k_Machine_tally ?a_Machine_walk ?i_Machine_walk ?l_Machine_walk ?c_Machine_walk ?k_Machine_walk ?a_Machine_reset ?i_Machine_reset ?l_Machine_reset ?c_Machine_reset ?k_Machine_reset ?a_Machine_count ?i_Machine_count ?l_Machine_count ?c_Machine_count ?k_Machine_count ?a_Machine_enter ?i_Machine_enter ?l_Machine_enter ?c_Machine_enter ?k_Machine_enter ?a_check_machine ?l_check_machine ?c_check_machine ?k_check_machine ?a_Big_init ?i_Big_init ?l_Big_init ?c_Big_init ?k_Big_init ?a_made ?l_made ?c_made ?k_made ?a_digits_of ?l_digits_of ?c_digits_of ?k_digits_of ?a_big_of ?l_big_of ?c_big_of ?k_big_of ?a_value_of ?l_value_of ?c_value_of ?k_value_of ?a_check_big ?l_check_big ?c_check_big ?k_check_big ?a_check_bigs ?l_check_bigs ?c_check_bigs ?k_check_bigs ?a_is_compact ?l_is_compact ?c_is_compact ?k_is_compact ?a_big ?l_big ?c_big ?k_big ?a_looked_down ?l_looked_down ?c_looked_down ?k_looked_down ?a_adding ?l_adding ?c_adding ?k_adding ?a_taking ?l_taking ?c_taking ?k_taking ?a_added ?l_added ?c_added ?k_added ?a_subtracted ?l_subtracted ?c_subtracted ?k_subtracted ?a_add ?l_add ?c_add ?k_add ?a_subtract ?l_subtract ?c_subtract ?k_subtract ?a_law_source_of ?l_law_source_of ?c_law_source_of ?k_law_source_of ?a_law_next ?l_law_next ?c_law_next ?k_law_next ?a_law_cell_at ?l_law_cell_at ?c_law_cell_at ?k_law_cell_at ?a_law_power ?l_law_power ?c_law_power ?k_law_power ?a_law_words ?l_law_words ?c_law_words ?k_law_words ?a_law_right ?l_law_right ?c_law_right ?k_law_right ?a_law_counts_right ?l_law_counts_right ?c_law_counts_right ?k_law_counts_right ?a_law_long_right ?l_law_long_right ?c_law_long_right ?k_law_long_right ?a_law ?l_law ?c_law ?k_law ?qeMachine ?qnMachine ?qfMachine ?icMachine ?tyMachine ?sbMachine_int ?sbMachine_list ?sbMachine_str ?sbMachine_NoneType ?sbMachine_bool ?sbMachine_tuple ?sbMachine_dict ?icBig ?tyBig ?sbBig_int ?sbBig_list ?sbBig_str ?sbBig_NoneType ?sbBig_bool ?sbBig_tuple ?sbBig_dict ?cxne ?cxMB ?cxBM ?cxMachine_int ?cxMachine_list ?cxMachine_str ?cxMachine_bool ?cxMachine_tuple ?cxMachine_dict ?cxBig_int ?cxBig_list ?cxBig_str ?cxBig_bool ?cxBig_tuple ?cxBig_dict ?z_abs ?z_bool ?z_dict ?z_enumerate ?z_int ?z_isinstance ?z_len ?z_list ?z_max ?z_min ?z_range ?z_tuple
    (case aMachine => k_is)
    (case pgMachine => k_is)
    (case hdMachine => k_is)
    (case poMachine => k_is)
    (case saMachine => k_is)
    (case mkMachine => k_is)
    (case kcMachine => k_is)
    (case haMachine => k_is)
    (case hmMachine => k_is)
    (case lcMachine => k_is)
    (case lNMachine => k_is)
    (case skMachine => exact rfl)
    (case nfMachine_entered => k_is)
    (case nfMachine_counts => k_is)
    (case nfMachine_base => k_is)
    (case nfMachine_limit_of_rows => k_is)
    (case nfMachine_width => k_is)
    (case aBig => k_is)
    (case pgBig => k_is)
    (case hdBig => k_is)
    (case poBig => k_is)
    (case saBig => k_is)
    (case mkBig => k_is)
    (case kcBig => k_is)
    (case haBig => k_is)
    (case hmBig => k_is)
    (case nfBig_row => k_is)
    (case nfBig_side => k_is)
    (case nfBig_width => k_is)
    (case hsp => k_is)
    (case htk => k_is)
    (case g_LEAST_BITS => k_is)
    (case g_MOST_BITS => k_is)
    (case g_MOST_CUTOFF => k_is)
    (case g_MOST_WALK => k_is)
    (case g_WORDS => k_is)
    (case l_WORDS => k_is)
    (case z_WORDS => decide)
    (case v_WORDS => exact .cons ⟨_, rfl⟩ (.cons ⟨_, rfl⟩ (.cons ⟨_, rfl⟩ (.cons ⟨_, rfl⟩ (.cons ⟨_, rfl⟩ (.cons ⟨_, rfl⟩ (.cons ⟨_, rfl⟩ (.cons ⟨_, rfl⟩ (.cons ⟨_, rfl⟩ (.cons ⟨_, rfl⟩ .nil))))))))))
    (case a_is_integer => k_is)
    (case l_is_integer => k_is)
    (case c_is_integer => k_is)
    (case k_is_integer => k_is)
    (case a_is_between => k_is)
    (case l_is_between => k_is)
    (case c_is_between => k_is)
    (case k_is_between => k_is)
    (case a_check_integer => k_is)
    (case l_check_integer => k_is)
    (case c_check_integer => k_is)
    (case k_check_integer => k_is)
    (case a_Machine_init => k_is)
    (case i_Machine_init => k_is)
    (case l_Machine_init => k_is)
    (case c_Machine_init => k_is)
    (case k_Machine_init => k_is)
    (case lT_Machine_init => k_is)
    (case vT_Machine_init => exact (.cons ⟨_, rfl⟩ (.cons ⟨_, rfl⟩ .nil)))
    (case a_Machine_eq => k_is)
    (case i_Machine_eq => k_is)
    (case l_Machine_eq => k_is)
    (case c_Machine_eq => k_is)
    (case k_Machine_eq => k_is)
    (case a_Machine_parts => k_is)
    (case i_Machine_parts => k_is)
    (case l_Machine_parts => k_is)
    (case c_Machine_parts => k_is)
    (case k_Machine_parts => k_is)
    (case a_Machine_tally => k_is)
    (case i_Machine_tally => k_is)
    (case l_Machine_tally => k_is)
    (case c_Machine_tally => k_is)
    (case k_Machine_tally => k_is)
    (case a_Machine_walk => k_is)
    (case i_Machine_walk => k_is)
    (case l_Machine_walk => k_is)
    (case c_Machine_walk => k_is)
    (case k_Machine_walk => k_is)
    (case a_Machine_reset => k_is)
    (case i_Machine_reset => k_is)
    (case l_Machine_reset => k_is)
    (case c_Machine_reset => k_is)
    (case k_Machine_reset => k_is)
    (case a_Machine_count => k_is)
    (case i_Machine_count => k_is)
    (case l_Machine_count => k_is)
    (case c_Machine_count => k_is)
    (case k_Machine_count => k_is)
    (case a_Machine_enter => k_is)
    (case i_Machine_enter => k_is)
    (case l_Machine_enter => k_is)
    (case c_Machine_enter => k_is)
    (case k_Machine_enter => k_is)
    (case a_check_machine => k_is)
    (case l_check_machine => k_is)
    (case c_check_machine => k_is)
    (case k_check_machine => k_is)
    (case a_Big_init => k_is)
    (case i_Big_init => k_is)
    (case l_Big_init => k_is)
    (case c_Big_init => k_is)
    (case k_Big_init => k_is)
    (case a_made => k_is)
    (case l_made => k_is)
    (case c_made => k_is)
    (case k_made => k_is)
    (case a_digits_of => k_is)
    (case l_digits_of => k_is)
    (case c_digits_of => k_is)
    (case k_digits_of => k_is)
    (case a_big_of => k_is)
    (case l_big_of => k_is)
    (case c_big_of => k_is)
    (case k_big_of => k_is)
    (case a_value_of => k_is)
    (case l_value_of => k_is)
    (case c_value_of => k_is)
    (case k_value_of => k_is)
    (case a_check_big => k_is)
    (case l_check_big => k_is)
    (case c_check_big => k_is)
    (case k_check_big => k_is)
    (case a_check_bigs => k_is)
    (case l_check_bigs => k_is)
    (case c_check_bigs => k_is)
    (case k_check_bigs => k_is)
    (case a_is_compact => k_is)
    (case l_is_compact => k_is)
    (case c_is_compact => k_is)
    (case k_is_compact => k_is)
    (case a_big => k_is)
    (case l_big => k_is)
    (case c_big => k_is)
    (case k_big => k_is)
    (case a_looked_down => k_is)
    (case l_looked_down => k_is)
    (case c_looked_down => k_is)
    (case k_looked_down => k_is)
    (case a_adding => k_is)
    (case l_adding => k_is)
    (case c_adding => k_is)
    (case k_adding => k_is)
    (case a_taking => k_is)
    (case l_taking => k_is)
    (case c_taking => k_is)
    (case k_taking => k_is)
    (case a_added => k_is)
    (case l_added => k_is)
    (case c_added => k_is)
    (case k_added => k_is)
    (case a_subtracted => k_is)
    (case l_subtracted => k_is)
    (case c_subtracted => k_is)
    (case k_subtracted => k_is)
    (case a_add => k_is)
    (case l_add => k_is)
    (case c_add => k_is)
    (case k_add => k_is)
    (case a_subtract => k_is)
    (case l_subtract => k_is)
    (case c_subtract => k_is)
    (case k_subtract => k_is)
    (case a_law_source_of => k_is)
    (case l_law_source_of => k_is)
    (case c_law_source_of => k_is)
    (case k_law_source_of => k_is)
    (case a_law_next => k_is)
    (case l_law_next => k_is)
    (case c_law_next => k_is)
    (case k_law_next => k_is)
    (case a_law_cell_at => k_is)
    (case l_law_cell_at => k_is)
    (case c_law_cell_at => k_is)
    (case k_law_cell_at => k_is)
    (case a_law_power => k_is)
    (case l_law_power => k_is)
    (case c_law_power => k_is)
    (case k_law_power => k_is)
    (case a_law_words => k_is)
    (case l_law_words => k_is)
    (case c_law_words => k_is)
    (case k_law_words => k_is)
    (case a_law_right => k_is)
    (case l_law_right => k_is)
    (case c_law_right => k_is)
    (case k_law_right => k_is)
    (case a_law_counts_right => k_is)
    (case l_law_counts_right => k_is)
    (case c_law_counts_right => k_is)
    (case k_law_counts_right => k_is)
    (case a_law_long_right => k_is)
    (case l_law_long_right => k_is)
    (case c_law_long_right => k_is)
    (case k_law_long_right => k_is)
    (case a_law => k_is)
    (case l_law => k_is)
    (case c_law => k_is)
    (case k_law => k_is)
    (case qeMachine => first | rfl | decide +kernel)
    (case qnMachine => first | rfl | decide +kernel)
    (case qfMachine => rfl)
    (case icMachine => k_is)
    (case tyMachine => k_is)
    (case sbMachine_int => k_is)
    (case sbMachine_list => k_is)
    (case sbMachine_str => k_is)
    (case sbMachine_NoneType => k_is)
    (case sbMachine_bool => k_is)
    (case sbMachine_tuple => k_is)
    (case sbMachine_dict => k_is)
    (case icBig => k_is)
    (case tyBig => k_is)
    (case sbBig_int => k_is)
    (case sbBig_list => k_is)
    (case sbBig_str => k_is)
    (case sbBig_NoneType => k_is)
    (case sbBig_bool => k_is)
    (case sbBig_tuple => k_is)
    (case sbBig_dict => k_is)
    (case cxne => decide)
    (case cxMB => k_is)
    (case cxBM => k_is)
    (case cxMachine_int => k_is)
    (case cxMachine_list => k_is)
    (case cxMachine_str => k_is)
    (case cxMachine_bool => k_is)
    (case cxMachine_tuple => k_is)
    (case cxMachine_dict => k_is)
    (case cxBig_int => k_is)
    (case cxBig_list => k_is)
    (case cxBig_str => k_is)
    (case cxBig_bool => k_is)
    (case cxBig_tuple => k_is)
    (case cxBig_dict => k_is)
    (case z_abs => k_is)
    (case z_bool => k_is)
    (case z_dict => k_is)
    (case z_enumerate => k_is)
    (case z_int => k_is)
    (case z_isinstance => k_is)
    (case z_len => k_is)
    (case z_list => k_is)
    (case z_max => k_is)
    (case z_min => k_is)
    (case z_range => k_is)
    (case z_tuple => k_is)
