import PyProof.Rows.All
import Wide.All
import OpenK.AllK
import Wide.FinOn
import HandS.ForMost
import HandS.WideBits
import HandS.Style
import HandS.Defaults
import HandS.IsInst
import HandS.Codes
import HandS.Evl
import HandS.Flow
import HandS.OwnEq
import KE.IntBitsLaws
import PyProof.Rows.RuleB_pow
import PyProof.InstNe
import KE.GoesMore
import KE.GoesEnum
import HandS.Iter
import HandS.DictComp
import HandS.TupAny
import KE.KEqNest
import PyProof.NeKinds
import HandS.NoneIn
import PyProof.FitsBits
import PySem.Challenge.RW_thirtybits_k13_products_by_rows
set_option Elab.async false
set_option linter.all false
set_option maxRecDepth 100000
set_option maxHeartbeats 4000000
/-! Eng: what is owned of the heap (Wd), and the readings' steps as rules (rd_..). -/
namespace Eng
open PySem L2

/-! ### what is known of the heap -/
/-- H0 the heap at the entry, H now; M: what of H0 may change; L: what is known, each place once -/
structure Wd (H0 H : Hp) (M : List Addr) (L : List (Addr × HO)) : Prop where
  get : ∀ {a : Addr} {o : HO}, (a, o) ∈ L → H a = some o
  nd : (L.map (·.1)).Nodup
  keep : ∀ b o, H0 b = some o → b ∉ M → H b = some o
  sub : ∀ a ∈ M, a ∈ L.map (·.1)
/-- L' is L with the thing at a turned from o to u -/
inductive Rp (a : Addr) (o u : HO) : List (Addr × HO) → List (Addr × HO) → Prop where
  | here {L} : Rp a o u ((a, o) :: L) ((a, u) :: L)
  | there {q L L'} : Rp a o u L L' → Rp a o u (q :: L) (q :: L')
theorem Rp.app {a : Addr} {o u : HO} {L L' : List (Addr × HO)} (r : Rp a o u L L') : ∀ {N : List (Addr × HO)}, Rp a o u (N ++ L) (N ++ L')
  | [] => r
  | _ :: _ => .there r.app
theorem Rp.mem {a : Addr} {o u : HO} : ∀ {L L' : List (Addr × HO)}, Rp a o u L L' → (a, o) ∈ L
  | _, _, .here => List.mem_cons_self
  | _, _, .there r => List.mem_cons_of_mem _ r.mem
theorem Rp.keys {a : Addr} {o u : HO} : ∀ {L L' : List (Addr × HO)}, Rp a o u L L' → L'.map (·.1) = L.map (·.1)
  | _, _, .here => rfl
  | _, _, .there (q := q) (L := L) (L' := L') r => by
    show q.1 :: L'.map (·.1) = q.1 :: L.map (·.1)
    rw [r.keys]
theorem Rp.get {a : Addr} {o u : HO} : ∀ {L L' : List (Addr × HO)}, Rp a o u L L' → (L.map (·.1)).Nodup → ∀ {b : Addr} {v : HO}, (b, v) ∈ L' → (b = a ∧ v = u) ∨ (b ≠ a ∧ (b, v) ∈ L)
  | _, _, .here (L := L), hn, b, v, hm => by
    rcases List.mem_cons.mp hm with e | hm
    · cases e
      exact .inl ⟨rfl, rfl⟩
    · refine .inr ⟨fun e => ?_, List.mem_cons_of_mem _ hm⟩
      have h1 : a ∉ L.map (·.1) := (List.nodup_cons.mp (show (a :: L.map (·.1)).Nodup from hn)).1
      exact h1 (e ▸ List.mem_map.mpr ⟨(b, v), hm, rfl⟩)
  | _, _, .there (q := q) (L := L) (L' := L') r, hn, b, v, hm => by
    have hq := List.nodup_cons.mp (show (q.1 :: L.map (·.1)).Nodup from hn)
    rcases List.mem_cons.mp hm with e | hm
    · refine .inr ⟨fun e2 => ?_, by rw [← e]; exact List.mem_cons_self⟩
      have h2 : q.1 = a := by rw [← e]; exact e2
      exact hq.1 (h2 ▸ List.mem_map.mpr ⟨(a, o), r.mem, rfl⟩)
    · rcases r.get hq.2 hm with z | ⟨z1, z2⟩
      · exact .inl z
      · exact .inr ⟨z1, List.mem_cons_of_mem _ z2⟩

section
variable {H0 H H' : Hp} {M : List Addr} {L L' : List (Addr × HO)} {a p : Addr} {o u : HO}
theorem Wd.start (h : ∀ {a : Addr} {o : HO}, (a, o) ∈ L → H a = some o) (nd : (L.map (·.1)).Nodup) (sub : ∀ a ∈ M, a ∈ L.map (·.1)) : Wd H H M L := ⟨h, nd, fun _ _ e _ => e, sub⟩
theorem Wd.nil (H : Hp) : Wd H H [] [] := ⟨(fun h => nomatch h), List.nodup_nil, fun _ _ e _ => e, (fun _ h => nomatch h)⟩
/-- a further thing that stands in the entry's heap -/
theorem Wd.old (W : Wd H0 H M L) (h : H a = some o) (ha : a ∉ L.map (·.1)) : Wd H0 H M ((a, o) :: L) where
  get := fun hm => by
    rcases List.mem_cons.mp hm with e | hm
    · cases e; exact h
    · exact W.get hm
  nd := List.nodup_cons.mpr ⟨ha, W.nd⟩
  keep := W.keep
  sub := fun a h => List.mem_cons_of_mem _ (W.sub a h)
theorem Wd.one (h : H a = some o) : Wd H H [] [(a, o)] := (Wd.nil H).old h (fun z => nomatch z)
theorem Wd.may (W : Wd H0 H M L) (h : a ∈ L.map (·.1)) : Wd H0 H (a :: M) L where
  get := W.get
  nd := W.nd
  keep := fun b o e hb => W.keep b o e fun z => hb (List.mem_cons_of_mem _ z)
  sub := fun b hb => by
    rcases List.mem_cons.mp hb with e | hb
    · rw [e]; exact h
    · exact W.sub b hb
theorem Wd.there (W : Wd H0 H M L) (h : p ∈ L.map (·.1)) : ∃ o, H p = some o := by
  obtain ⟨⟨b, v⟩, hm, rfl⟩ := List.mem_map.mp h
  exact ⟨v, W.get hm⟩
theorem Wd.out (W : Wd H0 H M L) (h : H p = none) : p ∉ L.map (·.1) := fun z => by
  obtain ⟨o, e⟩ := W.there z
  rw [h] at e
  cases e
theorem Wd.fresh (W : Wd H0 H M L) (h : H p = none) : H0 p = none := by
  cases e : H0 p with
  | none => rfl
  | some o =>
    by_cases hm : p ∈ M
    · exact absurd (W.sub p hm) (W.out h)
    · rw [W.keep p o e hm] at h
      cases h
theorem Wd.new (W : Wd H0 H M L) (h : H p = none) : Wd H0 (upd H p o) M ((p, o) :: L) where
  get := fun {a v} hm => by
    rcases List.mem_cons.mp hm with e | hm
    · cases e; exact upd_same
    · rw [upd_ne (ne_of_none (W.get hm) h)]
      exact W.get hm
  nd := List.nodup_cons.mpr ⟨W.out h, W.nd⟩
  keep := fun b v e hb => by
    rw [upd_ne (ne_of_none (W.keep b v e hb) h)]
    exact W.keep b v e hb
  sub := fun a h => List.mem_cons_of_mem _ (W.sub a h)
theorem Wd.put (W : Wd H0 H M L) (r : Rp a o u L L') (h : H0 a = none ∨ a ∈ M) : Wd H0 (upd H a u) M L' where
  get := fun {b v} hm => by
    rcases r.get W.nd hm with ⟨e1, e2⟩ | ⟨e1, e2⟩
    · rw [e1, e2]; exact upd_same
    · rw [upd_ne e1]; exact W.get e2
  nd := by rw [r.keys]; exact W.nd
  keep := fun b v e hb => by
    have ne : b ≠ a := fun z => by
      subst z
      rcases h with h | h
      · rw [h] at e; cases e
      · exact hb h
    rw [upd_ne ne]
    exact W.keep b v e hb
  sub := fun b hb => by rw [r.keys]; exact W.sub b hb
theorem Wd.same (W : Wd H0 H M L) (s : Same H H') : Wd H0 H' M L := ⟨fun hm => s _ _ (W.get hm), W.nd, fun b o e hb => s _ _ (W.keep b o e hb), W.sub⟩
/-- a shorter list -/
theorem Wd.drop (W : Wd H0 H [] L) (hs : L'.Sublist L) : Wd H0 H [] L' := ⟨fun hm => W.get (hs.subset hm), (hs.map _).nodup W.nd, W.keep, (fun _ h => nomatch h)⟩
theorem Wd.drop1 {q : Addr × HO} (W : Wd H0 H M (q :: L)) (h : q.1 ∉ M) : Wd H0 H M L := ⟨fun hm => W.get (List.mem_cons_of_mem _ hm), (List.nodup_cons.mp (show (q.1 :: L.map (·.1)).Nodup from W.nd)).2, W.keep, fun a ha => by
  rcases List.mem_cons.mp (show a ∈ q.1 :: L.map (·.1) from W.sub a ha) with e | z
  · exact absurd (e ▸ ha) h
  · exact z⟩
theorem Wd.perm (W : Wd H0 H M L) (h : L.Perm L') : Wd H0 H M L' := ⟨fun hm => W.get (h.mem_iff.mpr hm), (h.map _).nodup_iff.mp W.nd, W.keep, fun a ha => (h.map _).mem_iff.mp (W.sub a ha)⟩
/-- the first to the end -/
theorem Wd.move {q : Addr × HO} {A B : List (Addr × HO)} (W : Wd H0 H M (q :: (A ++ B))) : Wd H0 H M (A ++ (B ++ [q])) := W.perm (by
  rw [← List.append_assoc]
  exact (List.perm_append_singleton q (A ++ B)).symm)
theorem Wd.toSame (W : Wd H0 H [] L) : Same H0 H := fun b o e => W.keep b o e (fun h => nomatch h)
end

/-! ### what a call leaves: cs changed to these, ns new, all else as it was -/
structure Chg (H H' : Hp) (cs ns : List (Addr × HO)) : Prop where
  chg : ∀ {a : Addr} {o : HO}, (a, o) ∈ cs → H' a = some o
  new : ∀ {a : Addr} {o : HO}, (a, o) ∈ ns → H a = none ∧ H' a = some o
  nd : (ns.map (·.1)).Nodup
  keep : ∀ b o, H b = some o → b ∉ cs.map (·.1) → H' b = some o
section
variable {H0 H H' : Hp} {M : List Addr} {L L' L'' cs ns : List (Addr × HO)} {a b : Addr} {o u o2 u2 : HO}
theorem Wd.chg0 (W : Wd H0 H M L) (c : Chg H H' [] ns) : Wd H0 H' M (ns ++ L) where
  get := fun hm => by
    rcases List.mem_append.mp hm with h | h
    · exact (c.new h).2
    · exact c.keep _ _ (W.get h) (fun z => nomatch z)
  nd := by
    rw [List.map_append]
    refine List.nodup_append.mpr ⟨c.nd, W.nd, fun x hx y hy e => ?_⟩
    subst e
    obtain ⟨⟨p, v⟩, hm, rfl⟩ := List.mem_map.mp hx
    exact W.out (c.new hm).1 hy
  keep := fun b v e hb => c.keep _ _ (W.keep b v e hb) (fun z => nomatch z)
  sub := fun a h => by rw [List.map_append]; exact List.mem_append_right _ (W.sub a h)
theorem Wd.chg1 (W : Wd H0 H M L) (r : Rp a o u L L') (c : Chg H H' [(a, u)] ns) (h : H0 a = none ∨ a ∈ M) : Wd H0 H' M (ns ++ L') where
  get := fun {b v} hm => by
    rcases List.mem_append.mp hm with z | z
    · exact (c.new z).2
    · rcases r.get W.nd z with ⟨e1, e2⟩ | ⟨e1, e2⟩
      · rw [e1, e2]; exact c.chg List.mem_cons_self
      · exact c.keep _ _ (W.get e2) (fun z => by rcases List.mem_cons.mp z with q | q; exact e1 q; exact nomatch q)
  nd := by
    rw [List.map_append, r.keys]
    refine List.nodup_append.mpr ⟨c.nd, W.nd, fun x hx y hy e => ?_⟩
    subst e
    obtain ⟨⟨p, v⟩, hm, rfl⟩ := List.mem_map.mp hx
    exact W.out (c.new hm).1 hy
  keep := fun b v e hb => by
    have ne : b ≠ a := fun z => by
      subst z
      rcases h with h | h
      · rw [h] at e; cases e
      · exact hb h
    exact c.keep _ _ (W.keep b v e hb) (fun z => by rcases List.mem_cons.mp z with q | q; exact ne q; exact nomatch q)
  sub := fun a h => by rw [List.map_append, r.keys]; exact List.mem_append_right _ (W.sub a h)
theorem Chg.of_same (s : Same H H') : Chg H H' [] [] := ⟨(fun h => nomatch h), (fun h => nomatch h), List.nodup_nil, fun b o e _ => s b o e⟩
/-- what a def has done, told to its caller -/
theorem Wd.done (W : Wd H H' M L) (hc : ∀ q ∈ cs, q ∈ L) (hM : ∀ a ∈ M, a ∈ cs.map (·.1)) (hn : ∀ q ∈ ns, q ∈ L ∧ H q.1 = none) (nd : (ns.map (·.1)).Nodup) : Chg H H' cs ns :=
  ⟨fun h => W.get (hc _ h), fun h => ⟨(hn _ h).2, W.get (hn _ h).1⟩, nd, fun b o e hb => W.keep b o e fun z => hb (hM b z)⟩
end
end Eng

/-! Rd: the readings' steps, one rule a form; a rule's last premise is what is left. -/
namespace Eng
open PySem L2

/-! ### what waits for a value -/
def kB (Q : Bool → Hp → Prop) : VK := fun x H => ∃ k, x = .bl k ∧ Q k H
def kIf (A B : Hp → Prop) : Bool → Hp → Prop := fun b H => if b = true then A H else B H
def kFld (K : PySem.W.Frag) (f : Str) (Q : VK) : VK := fun x H => ∃ a C dx fs v, x = .ref a ∧ H a = some (.ins C dx fs) ∧ Cls K C ∧ NoAttr K C f ∧ fs.lookup f = some v ∧ Q v H
def kMeth (C : Addr) (m : Str) (sp : Sp) (dvs : List V) (E : XK) (t : TA) (σ : L2.St) (Q : VK) : VK := fun x H1 => ∃ a dx fs, x = .ref a ∧ H1 a = some (.ins C dx fs) ∧ fs.lookup m = none ∧ t σ H1 fun vs H2 => sp (x :: (vs ++ dvs)) H2 Q E
def kBM (K : PySem.W.Frag) (T : String) (r : V → List V → Hp → VK → Prop) (t : TA) (σ : L2.St) (Q : VK) : VK := fun x H1 => tyV K T x H1 ∧ t σ H1 fun xs H2 => r x xs H2 Q
def kIL (K : PySem.W.Frag) (R : It → Hp → Prop) : VK := fun x H1 => ∃ a, x = .ref a ∧ (∃ xs, SqL K H1 a xs) ∧ R (Itl K a) H1
def kIT (K : PySem.W.Frag) (R : It → Hp → Prop) : VK := fun x H1 => ∃ a, x = .ref a ∧ (∃ xs, SqT K H1 a xs) ∧ R (Itt K a) H1
def kR1 (R : It → Hp → Prop) : List V → Hp → Prop := fun vs H1 => ∃ j : Int, vs = [.int j] ∧ -(2 ^ 62) ≤ j ∧ j < 2 ^ 62 ∧ R (Itr 0 j.toNat) H1
def kR2 (R : It → Hp → Prop) : List V → Hp → Prop := fun vs H1 => ∃ i j : Int, vs = [.int i, .int j] ∧ (-(2 ^ 62) ≤ i ∧ i < 2 ^ 62 ∧ -(2 ^ 62) ≤ j ∧ j < 2 ^ 62) ∧ R (Itr i (j - i).toNat) H1
def kFor (g : TG) (tb : TS) (D : Ends) (σ : L2.St) : It → Hp → Prop := fun J H1 => ∃ W : Nat → Nat → L2.St → Hp → Prop, (∃ m, W 0 m σ H1) ∧ ∀ i m σ H, W i m σ H →
  (J.stop i H ∧ D.nx σ H) ∨ (J.go i H ∧ ∃ N : L2.St → Hp → Prop, (∀ σ' H', N σ' H' → ∃ m', m' < m ∧ W (i + 1) m' σ' H') ∧ ∀ x H', J.yld i H x H' → g x σ H' fun σ2 H2 => tb { D with nx := N, ct := N, bk := D.nx } σ2 H2)
def kWh (W : Nat → L2.St → Hp → Prop) (m : Nat) (tb : TS) (nx : L2.St → Hp → Prop) (rt : VK) (σ : L2.St) : Bool → Hp → Prop := fun b H1 =>
  if b = true then ∃ N : L2.St → Hp → Prop, (∀ σ' H', N σ' H' → ∃ m', m' < m ∧ W m' σ' H') ∧ tb ⟨N, rt, nx, N⟩ σ H1 else nx σ H1
def kLc (g : TG) (tt : TT) (te : TE) (vs : List Nat) (σ : L2.St) (Q : VK) : It → Hp → Prop := fun J H1 => ∀ D, H1 D = none → ∃ W : Nat → Nat → Hp → Prop, (∃ m, W 0 m (upd H1 D (.lst []))) ∧ ∀ i m H, W i m H →
  (J.stop i H ∧ Q (.ref D) H) ∨ (J.go i H ∧ ∃ Nx : Hp → Prop, (∀ H', Nx H' → ∃ m', m' < m ∧ W (i + 1) m' H') ∧ ∀ x H', J.yld i H x H' → g x (wipe σ vs) H' fun σ2 H2 => wipe σ2 vs = wipe σ vs ∧ tt σ2 H2 fun b H3 =>
    if b = true then te σ2 H3 fun y H4 => ∃ acc, H4 D = some (.lst acc) ∧ acc.length < sizeLine ∧ Nx (upd H4 D (.lst (acc ++ [y]))) else Nx H3)
/-- what stands behind a turn of a comprehension -/
def kAcc (D : Addr) (Nx : Hp → Prop) : VK := fun y H4 => ∃ acc, H4 D = some (.lst acc) ∧ acc.length < sizeLine ∧ Nx (upd H4 D (.lst (acc ++ [y])))
def kPar (i j : Nat) (σ : L2.St) (nx : L2.St → Hp → Prop) : List V → Hp → Prop := fun vs H1 => ∃ v w, vs = [v, w] ∧ nx ((σ.set i (some v)).set j (some w)) H1
def kPar3 (i j l : Nat) (σ : L2.St) (nx : L2.St → Hp → Prop) : List V → Hp → Prop := fun vs H1 => ∃ u v w, vs = [u, v, w] ∧ nx (((σ.set i (some u)).set j (some v)).set l (some w)) H1
def kTup (Q : VK) : List V → Hp → Prop := fun xs H1 => xs.length ≤ sizeLine ∧ ∀ p, H1 p = none → Q (.ref p) (upd H1 p (.tup xs))
def kLst (Q : VK) : List V → Hp → Prop := fun xs H1 => xs.length ≤ sizeLine ∧ ∀ p, H1 p = none → Q (.ref p) (upd H1 p (.lst xs))
def kMake (C : Addr) (sp : Sp) (dvs : List V) (E : XK) (Q : VK) : List V → Hp → Prop := fun vs H1 => ∀ x dx, H1 x = none → H1 dx = none → dx ≠ x →
  sp (.ref x :: (vs ++ dvs)) (upd (upd H1 dx (.own x)) x (.ins C dx [])) (fun v H2 => v = .non ∧ Q (.ref x) H2) E
def kPart (Q : Option Int → Hp → Prop) : VK := fun x H1 => ∃ i, x = .int i ∧ Q (some i) H1
def kSFld (K : PySem.W.Frag) (f : Str) (y : V) (nx : L2.St → Hp → Prop) (σ : L2.St) : VK := fun x H2 => ∃ a C dx fs, x = .ref a ∧ H2 a = some (.ins C dx fs) ∧ Cls K C ∧ NoAttr K C f ∧ fs.length < 1000 ∧ nx σ (upd H2 a (.ins C dx (putF f y fs)))
def kDG (Q : VK) : V → V → Hp → Prop := fun x y H2 => ∃ a v, x = .ref a ∧ DGet H2 a y (some v) ∧ Q v H2
def kDP (nx : L2.St → Hp → Prop) (σ : L2.St) (v : V) : V → V → Hp → Prop := fun x y H3 => ∃ a H4, x = .ref a ∧ DPut H3 a y v H4 ∧ nx σ H4
def kTru (K : PySem.W.Frag) (Q : Bool → Hp → Prop) : VK := fun x H' => ∃ k, TruV K x H' k ∧ Q k H'
def kBits (Q : VK) : VK := fun x H1 => ∃ i, x = .int i ∧ Q (.int (Builtin.Int.intBits i : Nat)) H1
def kCh (r' : R2) (y : V) (tc : TE) (σ : L2.St) (Q : VK) : VK := fun z H3 => ∃ k, z = .bl k ∧ (if k = true then tc σ H3 fun w' H4 => r' y w' H4 Q else Q (.bl false) H3)
def kRev (K : PySem.W.Frag) (Q : VK) : VK := fun x H1 => ∃ a xs, x = .ref a ∧ SqL K H1 a xs ∧ ∀ p, H1 p = none → Q (.ref p) (upd H1 p (.lst xs.reverse))

/-- the slot i holds v from here on -/
inductive Sets (v : Option V) : L2.St → Nat → L2.St → Prop where
  | here {a l} : Sets v (a :: l) 0 (v :: l)
  | there {a l i l'} : Sets v l i l' → Sets v (a :: l) (i + 1) (a :: l')
theorem Sets.eq {v : Option V} : ∀ {σ : L2.St} {i : Nat} {σ' : L2.St}, Sets v σ i σ' → σ.set i v = σ'
  | _, _, _, .here => rfl
  | _, _, _, .there r => congrArg (List.cons _) r.eq
section
variable {K : PySem.W.Frag} {σ σ' σ1 σ2 : L2.St} {H H' H0 : Hp} {Q : VK} {QB : Bool → Hp → Prop} {QA : List V → Hp → Prop} {nx bk ct : L2.St → Hp → Prop} {rt : VK} {D : Ends} {M : List Addr} {L L' : List (Addr × HO)}
  {ta tb tc te : TE} {tA tB' tT tU : TT} {ts tu : TS} {tr tl : TA} {v w x y : V} {i j : Nat} {n m : Int} {b c : Bool} {A B : Hp → Prop} {a l p C dx : Addr} {fs : List (Str × V)} {f : Str} {xs ys : List V} {r : R2} {o u : HO}
/-! ### statements -/
theorem rd_seq (q : ts ⟨tu ⟨nx, rt, bk, ct⟩, rt, bk, ct⟩ σ H) : tSeq ts tu ⟨nx, rt, bk, ct⟩ σ H := q
theorem rd_next (q : nx σ H) : tNext ⟨nx, rt, bk, ct⟩ σ H := q
theorem rd_break (q : bk σ H) : tBreak ⟨nx, rt, bk, ct⟩ σ H := q
theorem rd_cont (q : ct σ H) : tCont ⟨nx, rt, bk, ct⟩ σ H := q
theorem rd_asg {g : TG} (q : te σ H fun x H1 => g x σ H1 nx) : tAsg te g ⟨nx, rt, bk, ct⟩ σ H := q
theorem rd_name {k : L2.St → Hp → Prop} (hs : Sets (some v) σ i σ') (q : k σ' H) : gName i v σ H k := by unfold gName; rw [hs.eq]; exact q
theorem rd_ret (q : te σ H rt) : tRet te ⟨nx, rt, bk, ct⟩ σ H := q
theorem rd_retN (q : rt .non H) : tRetN ⟨nx, rt, bk, ct⟩ σ H := q
theorem rd_drop (q : te σ H fun _ H1 => nx σ H1) : tDrop te ⟨nx, rt, bk, ct⟩ σ H := q
theorem rd_ifS (q : tT σ H (kIf (fun H1 => ts D σ H1) (fun H1 => tu D σ H1))) : tIfS tT ts tu D σ H := q
theorem rd_T (h : b = true) (q : A H) : kIf A B b H := by unfold kIf; rw [if_pos h]; exact q
theorem rd_F (h : b = false) (q : B H) : kIf A B b H := by unfold kIf; rw [h, if_neg Bool.false_ne_true]; exact q
theorem rd_2 (h : b = true → A H) (k : b = false → B H) : kIf A B b H := by
  cases b with
  | true => exact rd_T rfl (h rfl)
  | false => exact rd_F rfl (k rfl)
theorem rd_Td {P : Prop} [Decidable P] (h : P) (q : A H) : kIf A B (decide P) H := rd_T (decide_eq_true h) q
theorem rd_Fd {P : Prop} [Decidable P] (h : ¬ P) (q : B H) : kIf A B (decide P) H := rd_F (decide_eq_false h) q
theorem rd_2d {P : Prop} [Decidable P] (h : P → A H) (k : ¬ P → B H) : kIf A B (decide P) H := rd_2 (fun e => h (of_decide_eq_true e)) (fun e => k (of_decide_eq_false e))
theorem rd_Tn {P : Prop} [Decidable P] (h : ¬ P) (q : A H) : kIf A B (!decide P) H := rd_T (by rw [decide_eq_false h]; rfl) q
theorem rd_Fn {P : Prop} [Decidable P] (h : P) (q : B H) : kIf A B (!decide P) H := rd_F (by rw [decide_eq_true h]; rfl) q
theorem rd_par (q : tr σ H (kPar i j σ nx)) : tPar i j tr ⟨nx, rt, bk, ct⟩ σ H := q
theorem rd_kPar (h1 : Sets (some v) σ i σ1) (h2 : Sets (some w) σ1 j σ') (q : nx σ' H) : kPar i j σ nx [v, w] H := ⟨v, w, rfl, by rw [h1.eq, h2.eq]; exact q⟩
theorem rd_par3 {k : Nat} (q : tr σ H (kPar3 i j k σ nx)) : tPar3 i j k tr ⟨nx, rt, bk, ct⟩ σ H := q
theorem rd_kPar3 {k : Nat} (h1 : Sets (some v) σ i σ1) (h2 : Sets (some w) σ1 j σ2) (h3 : Sets (some x) σ2 k σ') (q : nx σ' H) : kPar3 i j k σ nx [v, w, x] H := ⟨v, w, x, rfl, by rw [h1.eq, h2.eq, h3.eq]; exact q⟩
theorem rd_sFld (q : te σ H fun y H1 => ta σ H1 (kSFld K f y nx σ)) : sFld K ta te f ⟨nx, rt, bk, ct⟩ σ H := q
theorem rd_sDPut {td ty tv : TE} (q : tv σ H fun v H1 => td σ H1 fun x H2 => ty σ H2 fun y H3 => kDP nx σ v x y H3) : sDPut td ty tv ⟨nx, rt, bk, ct⟩ σ H := q
theorem rd_for {wi : TI} {g : TG} (q : wi σ H (kFor g ts D σ)) : tFor wi g ts D σ H := q
theorem rd_while (W : Nat → L2.St → Hp → Prop) (m0 : Nat) (h0 : W m0 σ H) (q : ∀ m σ H, W m σ H → tT σ H (kWh W m ts nx rt σ)) : tWhile tT ts ⟨nx, rt, bk, ct⟩ σ H := ⟨W, ⟨m0, h0⟩, q⟩
theorem rd_whT {W : Nat → L2.St → Hp → Prop} {m : Nat} (h : b = true) (q : ts ⟨fun σ' H' => ∃ m', m' < m ∧ W m' σ' H', rt, nx, fun σ' H' => ∃ m', m' < m ∧ W m' σ' H'⟩ σ H) : kWh W m ts nx rt σ b H := by
  unfold kWh; rw [if_pos h]; exact ⟨_, fun _ _ z => z, q⟩
theorem rd_whF {W : Nat → L2.St → Hp → Prop} {m : Nat} (h : b = false) (q : nx σ H) : kWh W m ts nx rt σ b H := by
  unfold kWh; rw [h, if_neg Bool.false_ne_true]; exact q
theorem rd_wh2 {W : Nat → L2.St → Hp → Prop} {m : Nat} {P : Prop} [Decidable P] (q : P → ts ⟨fun σ' H' => ∃ m', m' < m ∧ W m' σ' H', rt, nx, fun σ' H' => ∃ m', m' < m ∧ W m' σ' H'⟩ σ H) (q' : ¬ P → nx σ H) : kWh W m ts nx rt σ (decide P) H := by
  by_cases h : P
  · exact rd_whT (decide_eq_true h) (q h)
  · exact rd_whF (decide_eq_false h) (q' h)
/-! ### values -/
theorem rd_var (h : σ[i]? = some (some v)) (q : Q v H) : tVar i σ H Q := ⟨v, h, q⟩
theorem rd_c (q : Q v H) : tC v σ H Q := q
theorem rd_op (q : ta σ H fun x H1 => tb σ H1 fun y H2 => r x y H2 Q) : tOp r ta tb σ H Q := q
theorem rd_un {ru : V → Hp → VK → Prop} (q : ta σ H fun x H1 => ru x H1 Q) : tUn ru ta σ H Q := q
theorem rd_I0 {g : Int → Int → V} (q : Q (g n m) H) : rI0 g (.int n) (.int m) H Q := ⟨n, m, rfl, rfl, q⟩
theorem rd_I {g : Int → Int → V} {P : Int → Int → Prop} (h : P n m) (q : Q (g n m) H) : rI P g (.int n) (.int m) H Q := ⟨n, m, rfl, rfl, h, q⟩
theorem rd_U {g : Int → V} (q : Q (g n) H) : rU g (.int n) H Q := ⟨n, rfl, q⟩
theorem dec_int : decide (V.int n = V.int m) = decide (n = m) := by simp
theorem dec_str {s t : Str} : decide (V.str s = V.str t) = decide (s = t) := by simp
theorem dec_bl : decide (V.bl b = V.bl c) = decide (b = c) := by simp
theorem rd_eqI (q : Q (.bl (decide (n = m))) H) : rEq (.int n) (.int m) H Q := ⟨rfl, by rw [dec_int]; exact q⟩
theorem rd_neI (q : Q (.bl (!decide (n = m))) H) : rNe (.int n) (.int m) H Q := ⟨rfl, by rw [dec_int]; exact q⟩
theorem rd_eqS {s t : Str} (q : Q (.bl (decide (s = t))) H) : rEq (.str s) (.str t) H Q := ⟨rfl, by rw [dec_str]; exact q⟩
theorem rd_neS {s t : Str} (q : Q (.bl (!decide (s = t))) H) : rNe (.str s) (.str t) H Q := ⟨rfl, by rw [dec_str]; exact q⟩
theorem rd_eqB (q : Q (.bl (decide (b = c))) H) : rEq (.bl b) (.bl c) H Q := ⟨rfl, by rw [dec_bl]; exact q⟩
theorem rd_neB (q : Q (.bl (!decide (b = c))) H) : rNe (.bl b) (.bl c) H Q := ⟨rfl, by rw [dec_bl]; exact q⟩
theorem rd_test (q : te σ H (kB QB)) : tTest te σ H QB := q
theorem rd_tB (q : te σ H (kB QB)) : L2.tB te σ H QB := q
theorem rd_kB (q : QB b H) : kB QB (.bl b) H := ⟨b, rfl, q⟩
theorem rd_and (q : tT σ H (kIf (fun H1 => tU σ H1 QB) (fun H1 => QB false H1))) : tAnd tT tU σ H QB := q
theorem rd_or (q : tT σ H (kIf (fun H1 => QB true H1) (fun H1 => tU σ H1 QB))) : tOr tT tU σ H QB := q
theorem rd_not (q : tT σ H fun c H1 => QB (!c) H1) : tNot tT σ H QB := q
theorem rd_andV (q : ta σ H (kB (kIf (fun H1 => tb σ H1 Q) (fun H1 => Q (.bl false) H1)))) : tAndV ta tb σ H Q := q
theorem rd_orV (q : ta σ H (kB (kIf (fun H1 => Q (.bl true) H1) (fun H1 => tb σ H1 Q)))) : tOrV ta tb σ H Q := q
theorem rd_notV (q : ta σ H (kB fun c H1 => Q (.bl (!c)) H1)) : tNotV ta σ H Q := q
theorem rd_ifE (q : tT σ H (kIf (fun H1 => ta σ H1 Q) (fun H1 => tb σ H1 Q))) : tIf tT ta tb σ H Q := q
theorem rd_chain {r' : R2} (q : ta σ H fun x H1 => tb σ H1 fun y H2 => r x y H2 (kCh r' y tc σ Q)) : tChain r r' ta tb tc σ H Q := q
theorem rd_kChT {r' : R2} (h : b = true) (q : tc σ H fun w' H4 => r' y w' H4 Q) : kCh r' y tc σ Q (.bl b) H := ⟨b, rfl, by rw [if_pos h]; exact q⟩
theorem rd_kChF {r' : R2} (h : b = false) (q : Q (.bl false) H) : kCh r' y tc σ Q (.bl b) H := ⟨b, rfl, by rw [h, if_neg Bool.false_ne_true]; exact q⟩
theorem rd_tru (q : ta σ H (kTru K QB)) : (fun σ H Q => ta σ H fun x H' => ∃ k, TruV K x H' k ∧ Q k H' : TT) σ H QB := q
/-! ### arguments and calls -/
theorem rd_bits (q : ta σ H (kBits Q)) : tBits ta σ H Q := q
theorem rd_kBits (q : Q (.int (Builtin.Int.intBits n : Nat)) H) : kBits Q (.int n) H := ⟨n, rfl, q⟩
theorem rd_nil (q : QA [] H) : tNil σ H QA := q
theorem rd_cons (q : ta σ H fun x H1 => tr σ H1 fun xs H2 => QA (x :: xs) H2) : tCons ta tr σ H QA := q
theorem rd_call {sp : Sp} {E : XK} (q : tr σ H fun vs H1 => sp vs H1 Q E) : tCall sp [] E tr σ H Q := by
  unfold tCall
  simp only [List.append_nil]
  exact q
theorem rd_callD {sp : Sp} {E : XK} {dvs : List V} (q : tr σ H fun vs H1 => sp (vs ++ dvs) H1 Q E) : tCall sp dvs E tr σ H Q := q
theorem rd_callN {sp : Sp} {E : XK} {k1 k2 : Nat} {gV : List V → List V → List V} (q : tr σ H fun vs H1 => tl σ H1 fun zs H2 => vs.length = k1 ∧ zs.length = k2 ∧ sp (gV vs zs) H2 Q E) : tCallN k1 k2 sp gV E tr tl σ H Q := q
theorem rd_cb {rc : List V → Hp → VK → Prop} (q : tr σ H fun vs H1 => rc vs H1 Q) : tCB rc tr σ H Q := q
theorem rd_meth {sp : Sp} {E : XK} {dvs : List V} (q : ta σ H (kMeth C f sp dvs E tr σ Q)) : tMeth C f sp dvs E ta tr σ H Q := q
theorem rd_kMeth {sp : Sp} {E : XK} (h : H a = some (.ins C dx fs)) (hl : fs.lookup f = none) (q : tr σ H fun vs H2 => sp (.ref a :: vs) H2 Q E) : kMeth C f sp [] E tr σ Q (.ref a) H := by
  refine ⟨a, dx, fs, rfl, h, hl, ?_⟩
  simp only [List.append_nil]
  exact q
theorem rd_make {sp : Sp} {E : XK} {dvs : List V} (q : tr σ H (kMake C sp dvs E Q)) : tMake C sp dvs E tr σ H Q := q
theorem rd_bm {T : String} {rm : V → List V → Hp → VK → Prop} (q : ta σ H (kBM K T rm tr σ Q)) : tBM K T rm ta tr σ H Q := q
theorem rd_bm0 {T : String} {rm : V → List V → Hp → VK → Prop} (q : ta σ H fun x H1 => tyV K T x H1 ∧ rm x [] H1 Q) : tBM0 K T rm ta σ H Q := q
theorem rd_kBMl {rm : V → List V → Hp → VK → Prop} (h : H l = some (.lst xs)) (q : tr σ H fun ys H2 => rm (.ref l) ys H2 Q) : kBM K "list" rm tr σ Q (.ref l) H := ⟨.inl ⟨rfl, _, SqL.of h⟩, q⟩
theorem rd_append (W : Wd H0 H M L) (r : Rp l (.lst xs) (.lst (xs ++ [y])) L L') (hm : H0 l = none ∨ l ∈ M) (hl : xs.length < sizeLine) (q : ∀ H', Wd H0 H' M L' → Q .non H') : rAppend (.ref l) [y] H Q :=
  ⟨l, xs, y, rfl, rfl, W.get r.mem, hl, q _ (W.put r hm)⟩
theorem rd_fld (q : ta σ H (kFld K f Q)) : tFld K ta f σ H Q := q
theorem rd_kFld (c : Cls K C) (n : NoAttr K C f) (h : H a = some (.ins C dx fs)) (hl : fs.lookup f = some v) (q : Q v H) : kFld K f Q (.ref a) H := ⟨a, C, dx, fs, v, rfl, h, c, n, hl, q⟩
theorem rd_kSFld (W : Wd H0 H M L) (c : Cls K C) (n : NoAttr K C f) (r : Rp a (.ins C dx fs) (.ins C dx (putF f y fs)) L L') (hm : H0 a = none ∨ a ∈ M) (hl : fs.length < 1000) (q : ∀ H', Wd H0 H' M L' → nx σ H') : kSFld K f y nx σ (.ref a) H :=
  ⟨a, C, dx, fs, rfl, W.get r.mem, c, n, hl, q _ (W.put r hm)⟩
/-! ### lists, tuples -/
theorem rd_tup (q : tr σ H (kTup Q)) : tTup tr σ H Q := q
theorem rd_lst (q : tr σ H (kLst Q)) : tLst tr σ H Q := q
theorem rd_kTup (W : Wd H0 H M L) (hl : xs.length ≤ sizeLine) (q : ∀ p H', H0 p = none → Wd H0 H' M ((p, .tup xs) :: L) → Q (.ref p) H') : kTup Q xs H := ⟨hl, fun p hp => q p _ (W.fresh hp) (W.new hp)⟩
theorem rd_kLst (W : Wd H0 H M L) (hl : xs.length ≤ sizeLine) (q : ∀ p H', H0 p = none → Wd H0 H' M ((p, .lst xs) :: L) → Q (.ref p) H') : kLst Q xs H := ⟨hl, fun p hp => q p _ (W.fresh hp) (W.new hp)⟩
theorem rd_ixL (h : SqL K H p xs) (hv : atI xs n = some v) (q : Q v H) : rIxL K (.ref p) (.int n) H Q := ⟨p, xs, n, v, rfl, rfl, h, hv, q⟩
theorem rd_ixT (h : SqT K H p xs) (hv : atI xs n = some v) (q : Q v H) : rIxT K (.ref p) (.int n) H Q := ⟨p, xs, n, v, rfl, rfl, h, hv, q⟩
theorem rd_sub {tS : TSet} {k : L2.St → Hp → Prop} (q : ta σ H fun o H1 => tb σ H1 fun i H2 => tS o i v H2 fun H3 => k σ H3) : gSub ta tb tS v σ H k := q
theorem rd_setL {k : Hp → Prop} (W : Wd H0 H M L) (hj : ixN xs.length n = some j) (r : Rp p (.lst xs) (.lst (xs.set j v)) L L') (hm : H0 p = none ∨ p ∈ M) (q : ∀ H', Wd H0 H' M L' → k H') : rSetL (.ref p) (.int n) v H k :=
  ⟨p, xs, n, j, rfl, rfl, W.get r.mem, hj, q _ (W.put r hm)⟩
theorem rd_sl {rs : V → Option Int → Option Int → Hp → VK → Prop} {to1 to2 : TO} (q : te σ H fun x H1 => to1 σ H1 fun l H2 => to2 σ H2 fun u H3 => rs x l u H3 Q) : tSl rs te to1 to2 σ H Q := q
theorem rd_noPart {QO : Option Int → Hp → Prop} (q : QO none H) : tNoPart σ H QO := q
theorem rd_part {QO : Option Int → Hp → Prop} (q : te σ H (kPart QO)) : tPart te σ H QO := q
theorem rd_kPart {QO : Option Int → Hp → Prop} (q : QO (some n) H) : kPart QO (.int n) H := ⟨n, rfl, q⟩
theorem rd_slL {lo hi : Option Int} (W : Wd H0 H M L) (h : SqL K H a xs) (hc : cutV xs lo hi = ys) (q : ∀ p H', H0 p = none → Wd H0 H' M ((p, .lst ys) :: L) → Q (.ref p) H') : rSlL K (.ref a) lo hi H Q :=
  ⟨a, xs, rfl, h, fun p hp => by subst hc; exact q p _ (W.fresh hp) (W.new hp)⟩
theorem rd_cat (W : Wd H0 H M L) (h1 : H a = some (.lst xs)) (h2 : H l = some (.lst ys)) (hl : xs.length + ys.length ≤ sizeLine) (q : ∀ p H', H0 p = none → Wd H0 H' M ((p, .lst (xs ++ ys)) :: L) → Q (.ref p) H') : rCat (.ref a) (.ref l) H Q :=
  ⟨a, l, xs, ys, rfl, rfl, h1, h2, hl, fun p hp => q p _ (W.fresh hp) (W.new hp)⟩
theorem rd_revL (q : te σ H (kRev K Q)) : tRevL K te σ H Q := q
theorem rd_kRev (W : Wd H0 H M L) (h : SqL K H a xs) (q : ∀ p H', H0 p = none → Wd H0 H' M ((p, .lst xs.reverse) :: L) → Q (.ref p) H') : kRev K Q (.ref a) H :=
  ⟨a, xs, rfl, h, fun p hp => q p _ (W.fresh hp) (W.new hp)⟩
theorem rd_gTup {k : Nat} {gs : TGs} {kk : L2.St → Hp → Prop} (h : SqT K H a xs) (hl : xs.length = k) (q : gs xs σ H kk) : gTup K k gs (.ref a) σ H kk := ⟨a, xs, rfl, h, hl, q⟩
theorem rd_gCons {g : TG} {gs : TGs} {kk : L2.St → Hp → Prop} (q : g v σ H fun σ' H' => gs xs σ' H' kk) : gCons g gs (v :: xs) σ H kk := ⟨v, xs, rfl, q⟩
theorem rd_gNil {kk : L2.St → Hp → Prop} (q : kk σ H) : gNil [] σ H kk := ⟨rfl, q⟩
/-! ### dicts -/
theorem rd_dget {td ty : TE} (q : td σ H fun x H1 => ty σ H1 fun y H2 => kDG Q x y H2) : tDGet td ty σ H Q := q
theorem rd_kDGs {kvs : List (Key × V)} {s : Str} (h : H a = some (.dK kvs)) (hv : valV kvs (Sum.inr s : Key) = some v) (q : Q v H) : kDG Q (.ref a) (.str s) H := ⟨a, v, rfl, hv ▸ DGet.k (k := Sum.inr s) h, q⟩
theorem rd_kDPs {kvs : List (Key × V)} {s : Str} (W : Wd H0 H M L) (r : Rp a (.dK kvs) (.dK (putK kvs (Sum.inr s : Key) v)) L L') (hm : H0 a = none ∨ a ∈ M) (hl : kvs.length < sizeLine) (q : ∀ H', Wd H0 H' M L' → nx σ H') : kDP nx σ v (.ref a) (.str s) H :=
  ⟨a, _, rfl, DPut.k (k := Sum.inr s) (W.get r.mem) hl, q _ (W.put r hm)⟩
/-! ### loops -/
theorem rd_iList {R : It → Hp → Prop} (q : te σ H (kIL K R)) : iList K te σ H R := q
theorem rd_kIL {R : It → Hp → Prop} (h : SqL K H a xs) (q : R (Itl K a) H) : kIL K R (.ref a) H := ⟨a, rfl, ⟨_, h⟩, q⟩
theorem rd_iTup {R : It → Hp → Prop} (q : te σ H (kIT K R)) : iTup K te σ H R := q
theorem rd_kIT {R : It → Hp → Prop} (h : SqT K H a xs) (q : R (Itt K a) H) : kIT K R (.ref a) H := ⟨a, rfl, ⟨_, h⟩, q⟩
theorem rd_iR1 {R : It → Hp → Prop} (q : tr σ H (kR1 R)) : iRng1 tr σ H R := q
theorem rd_kR1 {R : It → Hp → Prop} (h1 : -(2 ^ 62) ≤ n) (h2 : n < 2 ^ 62) (q : R (Itr 0 n.toNat) H) : kR1 R [.int n] H := ⟨n, rfl, h1, h2, q⟩
theorem rd_iR2 {R : It → Hp → Prop} (q : tr σ H (kR2 R)) : iRng2 tr σ H R := q
theorem rd_kR2 {R : It → Hp → Prop} (h1 : -(2 ^ 62) ≤ n) (h2 : n < 2 ^ 62) (h3 : -(2 ^ 62) ≤ m) (h4 : m < 2 ^ 62) (q : R (Itr n (m - n).toNat) H) : kR2 R [.int n, .int m] H := ⟨n, m, rfl, ⟨h1, h2, h3, h4⟩, q⟩
/-- for over a list of xs: Pv (items taken, slots, heap) -/
theorem rd_forL {g : TG} (Pv : Nat → L2.St → Hp → Prop) (h0 : Pv 0 σ H) (hl : ∀ i σ H, i ≤ xs.length → Pv i σ H → SqL K H a xs)
    (hs : ∀ i x σ H, xs[i]? = some x → Pv i σ H → g x σ H fun σ2 H2 => ts ⟨Pv (i + 1), rt, nx, Pv (i + 1)⟩ σ2 H2) (hd : ∀ σ H, Pv xs.length σ H → nx σ H) : kFor g ts ⟨nx, rt, bk, ct⟩ σ (Itl K a) H :=
  for_list (D := ⟨nx, rt, bk, ct⟩) Pv h0 hl hs hd
theorem rd_forT {g : TG} (Pv : Nat → L2.St → Hp → Prop) (h0 : Pv 0 σ H) (hl : ∀ i σ H, i ≤ xs.length → Pv i σ H → SqT K H a xs)
    (hs : ∀ i x σ H, xs[i]? = some x → Pv i σ H → g x σ H fun σ2 H2 => ts ⟨Pv (i + 1), rt, nx, Pv (i + 1)⟩ σ2 H2) (hd : ∀ σ H, Pv xs.length σ H → nx σ H) : kFor g ts ⟨nx, rt, bk, ct⟩ σ (Itt K a) H :=
  for_tup (D := ⟨nx, rt, bk, ct⟩) Pv h0 hl hs hd
theorem rd_forR {g : TG} {lo : Int} {k : Nat} (Pv : Nat → L2.St → Hp → Prop) (h0 : Pv 0 σ H)
    (hs : ∀ i σ H, i < k → Pv i σ H → g (.int (lo + i)) σ H fun σ2 H2 => ts ⟨Pv (i + 1), rt, nx, Pv (i + 1)⟩ σ2 H2) (hd : ∀ σ H, Pv k σ H → nx σ H) : kFor g ts ⟨nx, rt, bk, ct⟩ σ (Itr lo k) H :=
  for_range (D := ⟨nx, rt, bk, ct⟩) Pv h0 hs hd
/-! ### comprehensions -/
theorem rd_lc {wi : TI} {g : TG} {vs : List Nat} (q : wi σ H (kLc g tT te vs σ Q)) : tLc wi g tT te vs σ H Q := q
theorem rd_yes (q : QB true H) : tYes σ H QB := q
/-- over a list: Pv (items taken, heap); D the list that grows -/
theorem rd_lcL {g : TG} {vs : List Nat} (hq : ∀ D, H D = none → ∃ Pv : Nat → Hp → Prop, Pv 0 (upd H D (.lst [])) ∧ (∀ i H, i ≤ xs.length → Pv i H → SqL K H a xs) ∧
    (∀ i x H, xs[i]? = some x → Pv i H → g x (wipe σ vs) H fun σ2 H2 => wipe σ2 vs = wipe σ vs ∧ tT σ2 H2 (kIf (fun H3 => te σ2 H3 (kAcc D (Pv (i + 1)))) (fun H3 => Pv (i + 1) H3))) ∧ ∀ H, Pv xs.length H → Q (.ref D) H) : kLc g tT te vs σ Q (Itl K a) H := fun D hD => by
  obtain ⟨Pv, h0, hl, hs, hd⟩ := hq D hD
  exact lc_list Pv h0 hl hs hd
theorem rd_lcT {g : TG} {vs : List Nat} (hq : ∀ D, H D = none → ∃ Pv : Nat → Hp → Prop, Pv 0 (upd H D (.lst [])) ∧ (∀ i H, i ≤ xs.length → Pv i H → SqT K H a xs) ∧
    (∀ i x H, xs[i]? = some x → Pv i H → g x (wipe σ vs) H fun σ2 H2 => wipe σ2 vs = wipe σ vs ∧ tT σ2 H2 (kIf (fun H3 => te σ2 H3 (kAcc D (Pv (i + 1)))) (fun H3 => Pv (i + 1) H3))) ∧ ∀ H, Pv xs.length H → Q (.ref D) H) : kLc g tT te vs σ Q (Itt K a) H := fun D hD => by
  obtain ⟨Pv, h0, hl, hs, hd⟩ := hq D hD
  exact lc_tup Pv h0 hl hs hd
theorem rd_lcR {g : TG} {vs : List Nat} {lo : Int} {k : Nat} (hq : ∀ D, H D = none → ∃ Pv : Nat → Hp → Prop, Pv 0 (upd H D (.lst [])) ∧
    (∀ i H, i < k → Pv i H → g (.int (lo + i)) (wipe σ vs) H fun σ2 H2 => wipe σ2 vs = wipe σ vs ∧ tT σ2 H2 (kIf (fun H3 => te σ2 H3 (kAcc D (Pv (i + 1)))) (fun H3 => Pv (i + 1) H3))) ∧ ∀ H, Pv k H → Q (.ref D) H) : kLc g tT te vs σ Q (Itr lo k) H := fun D hD => by
  obtain ⟨Pv, h0, hs, hd⟩ := hq D hD
  exact lc_range Pv h0 hs hd
theorem rd_kAcc {Nx : Hp → Prop} (W : Wd H0 H M L) (r : Rp l (.lst xs) (.lst (xs ++ [y])) L L') (hm : H0 l = none ∨ l ∈ M) (hl : xs.length < sizeLine) (q : ∀ H', Wd H0 H' M L' → Nx H') : kAcc l Nx y H :=
  ⟨xs, W.get r.mem, hl, q _ (W.put r hm)⟩
/-! ### built-ins by name -/
def rAbs : List V → Hp → VK → Prop := fun xs H Q => ∃ i, xs = [.int i] ∧ Q (.int (if i < 0 then -i else i)) H
def rInt : List V → Hp → VK → Prop := fun xs H Q => (∃ i, xs = [.int i] ∧ Q (.int i) H) ∨ ∃ k, xs = [.bl k] ∧ Q (.int (if k then 1 else 0)) H
def rLen (K : PySem.W.Frag) : List V → Hp → VK → Prop := fun xs H Q => ∃ p ys, xs = [.ref p] ∧ (SqL K H p ys ∨ SqT K H p ys) ∧ Q (.int ys.length) H
def rList (K : PySem.W.Frag) : List V → Hp → VK → Prop := fun xs H Q => ∃ p ys, xs = [.ref p] ∧ (SqL K H p ys ∨ SqT K H p ys) ∧ ∀ l, H l = none → Q (.ref l) (upd H l (.lst ys))
def rTupL (K : PySem.W.Frag) : List V → Hp → VK → Prop := fun xs H Q => ∃ p ys, xs = [.ref p] ∧ SqL K H p ys ∧ ∀ l, H l = none → Q (.ref l) (upd H l (.tup ys))
def rDict (K : PySem.W.Frag) : List V → Hp → VK → Prop := fun xs H Q => ∃ (a : Addr) (ps : List Addr) (kvs : List (Key × V)), xs = [.ref a] ∧ SqL K H a (ps.map V.ref) ∧ Paired (fun p kv => SqT K H p [kV kv.1, kv.2]) ps kvs ∧ ∀ p, H p = none → Q (.ref p) (upd H p (.dK (mergeK [] kvs)))
theorem rd_abs (q : Q (.int (if n < 0 then -n else n)) H) : rAbs [.int n] H Q := ⟨n, rfl, q⟩
theorem rd_int (q : Q (.int n) H) : rInt [.int n] H Q := .inl ⟨n, rfl, q⟩
theorem rd_intB (q : Q (.int (if b then 1 else 0)) H) : rInt [.bl b] H Q := .inr ⟨b, rfl, q⟩
theorem rd_lenL (h : SqL K H p xs) (q : Q (.int xs.length) H) : rLen K [.ref p] H Q := ⟨p, xs, rfl, .inl h, q⟩
theorem rd_lenT (h : SqT K H p xs) (q : Q (.int xs.length) H) : rLen K [.ref p] H Q := ⟨p, xs, rfl, .inr h, q⟩
theorem rd_list (W : Wd H0 H M L) (h : SqL K H a xs ∨ SqT K H a xs) (q : ∀ p H', H0 p = none → Wd H0 H' M ((p, .lst xs) :: L) → Q (.ref p) H') : rList K [.ref a] H Q := ⟨a, xs, rfl, h, fun p hp => q p _ (W.fresh hp) (W.new hp)⟩
theorem rd_tupL (W : Wd H0 H M L) (h : SqL K H a xs) (q : ∀ p H', H0 p = none → Wd H0 H' M ((p, .tup xs) :: L) → Q (.ref p) H') : rTupL K [.ref a] H Q := ⟨a, xs, rfl, h, fun p hp => q p _ (W.fresh hp) (W.new hp)⟩
end
section
variable {X : Cx}
theorem c_abs : CallR X (.builtin "abs") rAbs := call_abs
theorem c_int : CallR X (.type "int") rInt := call_int1
theorem c_len : CallR X (.builtin "len") (rLen X.K) := call_len_seq
theorem c_list : CallR X (.type "list") (rList X.K) := call_list_of
theorem c_tupL : CallR X (.type "tuple") (rTupL X.K) := fun pins s σ H xs us Q I r h => by
  obtain ⟨p, ys, e, h1, q⟩ := h
  exact call_tuple_of pins s σ H xs us Q I r ⟨p, ys, e, .inl ⟨h1, q⟩⟩
theorem c_dict (h : X.calm = true) : CallR X (.type "dict") (rDict X.K) := call_dictP h
end
end Eng

/-! Ops: the operators by names of their own, with what each asks. -/
namespace Eng
open PySem L2
def oDiv (i j : Int) : Prop := 0 < j ∧ Builtin.divisionGoesByPylong i j = false
def oPow (i j : Int) : Prop := 0 ≤ j ∧ (Builtin.Int.intBits i : Int) * j ≤ 2 ^ 27
def rAdd : R2 := rI0 fun i j => .int (i + j)
def rSub : R2 := rI0 fun i j => .int (i - j)
def rMul : R2 := rI IntMulOk fun i j => .int (i * j)
def rDiv : R2 := rI oDiv fun i j => .int (i / j)
def rMod : R2 := rI (fun _ j => 0 < j) fun i j => .int (i % j)
def rPow : R2 := rI oPow fun i j => .int (i ^ j.toNat)
def rShl : R2 := rI CShl fun i j => .int (i * 2 ^ j.toNat)
def rShr : R2 := rI (fun _ j => 0 ≤ j) fun i j => .int (i / 2 ^ j.toNat)
def rAnd : R2 := rI0 fun i j => .int (Builtin.bitAnd i j)
def rOr : R2 := rI0 fun i j => .int (Builtin.bitOr i j)
def rXor : R2 := rI0 fun i j => .int (Builtin.bitXor i j)
def rLt : R2 := rI0 fun i j => .bl (decide (i < j))
def rLe : R2 := rI0 fun i j => .bl (decide (i ≤ j))
def rGt : R2 := rI0 fun i j => .bl (decide (j < i))
def rGe : R2 := rI0 fun i j => .bl (decide (j ≤ i))
def rNeg : V → Hp → VK → Prop := rU fun i => .int (-i)
section
variable {X : Cx}
theorem o_add : OpR X (binaryOp .Add) rAdd := op_add
theorem o_sub : OpR X (binaryOp .Sub) rSub := op_sub
theorem o_mul : OpR X (binaryOp .Mult) rMul := opI fun _ _ _ _ _ _ _ hc q => PyProof.Rows.mul_int q hc
theorem o_div : OpR X (binaryOp .FloorDiv) rDiv := opI fun i j _ _ _ _ _ hc q => by
  have h1 : (0 : Int) < j := hc.1
  exact PyProof.Rows.floordiv_int (by omega) (by rw [Int.fdiv_eq_ediv_of_nonneg i (by omega)]; exact q) (.inl hc.2)
theorem o_mod : OpR X (binaryOp .Mod) rMod := op_mod
theorem o_pow : OpR X (binaryOp .Pow) rPow := opI fun _ _ _ _ _ _ _ hc q => PyProof.Rows.pow_int hc.1 hc.2 q
theorem o_shl : OpR X (binaryOp .LShift) rShl := op_shlW
theorem o_shr : OpR X (binaryOp .RShift) rShr := op_shr
theorem o_and : OpR X (binaryOp .BitAnd) rAnd := op_and
theorem o_or : OpR X (binaryOp .BitOr) rOr := op_or
theorem o_xor : OpR X (binaryOp .BitXor) rXor := op_xor
theorem o_lt : OpR X (compareOp .Lt) rLt := op_lt
theorem o_le : OpR X (compareOp .LtE) rLe := op_le
theorem o_gt : OpR X (compareOp .Gt) rGt := op_gt
theorem o_ge : OpR X (compareOp .GtE) rGe := op_ge
theorem o_neg : UnR X (unaryOp .USub) rNeg := un_neg
end
section
variable {H : Hp} {Q : VK} {n m : Int}
theorem rd_add (q : Q (.int (n + m)) H) : rAdd (.int n) (.int m) H Q := ⟨n, m, rfl, rfl, q⟩
theorem rd_subI (q : Q (.int (n - m)) H) : rSub (.int n) (.int m) H Q := ⟨n, m, rfl, rfl, q⟩
theorem rd_mul (h : IntMulOk n m) (q : Q (.int (n * m)) H) : rMul (.int n) (.int m) H Q := ⟨n, m, rfl, rfl, h, q⟩
theorem rd_div (h : oDiv n m) (q : Q (.int (n / m)) H) : rDiv (.int n) (.int m) H Q := ⟨n, m, rfl, rfl, h, q⟩
theorem rd_mod (h : 0 < m) (q : Q (.int (n % m)) H) : rMod (.int n) (.int m) H Q := ⟨n, m, rfl, rfl, h, q⟩
theorem rd_pow (h : oPow n m) (q : Q (.int (n ^ m.toNat)) H) : rPow (.int n) (.int m) H Q := ⟨n, m, rfl, rfl, h, q⟩
theorem rd_shl (h : CShl n m) (q : Q (.int (n * 2 ^ m.toNat)) H) : rShl (.int n) (.int m) H Q := ⟨n, m, rfl, rfl, h, q⟩
theorem rd_shr (h : 0 ≤ m) (q : Q (.int (n / 2 ^ m.toNat)) H) : rShr (.int n) (.int m) H Q := ⟨n, m, rfl, rfl, h, q⟩
theorem rd_andI (q : Q (.int (Builtin.bitAnd n m)) H) : rAnd (.int n) (.int m) H Q := ⟨n, m, rfl, rfl, q⟩
theorem rd_orI (q : Q (.int (Builtin.bitOr n m)) H) : rOr (.int n) (.int m) H Q := ⟨n, m, rfl, rfl, q⟩
theorem rd_xorI (q : Q (.int (Builtin.bitXor n m)) H) : rXor (.int n) (.int m) H Q := ⟨n, m, rfl, rfl, q⟩
theorem rd_lt (q : Q (.bl (decide (n < m))) H) : rLt (.int n) (.int m) H Q := ⟨n, m, rfl, rfl, q⟩
theorem rd_le (q : Q (.bl (decide (n ≤ m))) H) : rLe (.int n) (.int m) H Q := ⟨n, m, rfl, rfl, q⟩
theorem rd_gt (q : Q (.bl (decide (m < n))) H) : rGt (.int n) (.int m) H Q := ⟨n, m, rfl, rfl, q⟩
theorem rd_ge (q : Q (.bl (decide (m ≤ n))) H) : rGe (.int n) (.int m) H Q := ⟨n, m, rfl, rfl, q⟩
theorem rd_neg (q : Q (.int (-n)) H) : rNeg (.int n) H Q := ⟨n, rfl, q⟩
end
theorem mul_okL {n m : Int} (h1 : -(2 ^ 64) < n) (h2 : n < 2 ^ 64) : IntMulOk n m := .of_left (intBits_le_64 h1 h2)
theorem mul_okR {n m : Int} (h1 : -(2 ^ 64) < m) (h2 : m < 2 ^ 64) : IntMulOk n m := .of_right (intBits_le_64 h1 h2)
theorem div_ok {n m : Int} {k : Nat} (h : 0 < m) (hm : m.natAbs < 2 ^ k) (hk : k ≤ 9000) (hp : 0 < k) : oDiv n m := ⟨h, PyProof.noPylong_of_log2 (Nat.lt_of_lt_of_le (PySem.Flt.log2_lt_of hp hm) hk)⟩
theorem div_ok64 {n m : Int} (h : 0 < m) (hm : m < 2 ^ 64) : oDiv n m := div_ok (k := 64) h (by omega) (by decide) (by decide)
end Eng

/-! Ext: rules that the layer lacks: calls by keywords alone, t[::-1] of a tuple. -/
namespace Eng
open PySem PySem.Spec PyProof.Rows L2
section
variable {X : Cx} {CX : CXT} {k : Nat} {f : Addr} {fd : FuncData} {ps ks : List Str} {sp : Sp} {E : XK} {x : Str} {p pos : Pos} {kws : List Keyword} {tk : TA} {g : List Value → List Value} {gV : List V → List V} {n : Nat}
/-- f(k = v, ..): how the keywords' values come to the parameters -/
structure KB0 (K : PySem.W.Frag) (fd : FuncData) (ps ks : List Str) (g : List Value → List Value) (gV : List V → List V) : Prop where
  to : ∀ (s : Shared) (ws : List Value), K.In s.heap → ws.length = ks.length → BindsTo s fd ⟨[], ks.zip ws⟩ (ps.zip (g ws))
  rel : ∀ {zs : List V} {ws : List Value}, Vals zs ws → Vals (gV zs) (g ws)
def tKw (n : Nat) (sp : Sp) (gV : List V → List V) (E : XK) (tk : TA) : TE := fun σ H Q => tk σ H fun zs H1 => zs.length = n ∧ sp (gV zs) H1 Q E
theorem pe_kw (F : FnOk X.prog X.w X.K X.mg X.base CX k f fd ps sp) (hr : Room k X.A) (hg : Gl X x) (hm : X.mg x = some (.ref f)) (hk : PySem.W.keepIn X.K (.ref f) = true) (hb : KB0 X.K fd ps ks g gV) (hx : Passes CX X E)
    (hkw : PK X kws tk) (hall : (backToKw pos (keywordEach kws X.env)).all (·.1.isSome) = true := by rfl) (hks : (backToKw pos (keywordEach kws X.env)).filterMap (·.1) = ks := by rfl)
    (hdb : (x == ("__debug__" : Str)) = false := by decide)
    (hpl : ((backTo pos (starEach [] X.env)).any (·.1) || (backToKw pos (keywordEach kws X.env)).any (·.1.isNone)) = false := by rfl) (hn : n = ks.length := by rfl) :
    PE X (.Call (.Name x p) [] kws pos) (tKw n sp gV E tk) := by
  refine ⟨fun pins s σ H Q I h => ?_⟩
  refine wpAny_Call_Name_kw (ld_glob I hg hm ?_ hdb)
  refine PySem.W.callWith_KW0 (h₀ := X.base) I.ok.mod.kin hk hall (thn (hkw.run pos pins s σ H _ I h) fun ws s2 ⟨zs, H2, I2, rz, l2, q2⟩ => ⟨I2.kIn, ?_⟩) hpl
  rw [hks]
  have r2 := hb.rel rz
  show wpAny _ _ (call (.ref f) [] (ks.zip ws)) _ _ _
  refine wpAny_call (codeAny_mono (F.run X.A X.stack s2 H2 ⟨[], ks.zip ws⟩ (g ws) (gV zs) Q E hr I2.env0 (hb.to s2 ws I2.kIn (rz.length.symm.trans (l2.trans hn))) r2 q2) fun r s' hq => ?_)
  cases r with
  | error e => exact hx pins σ H2 s2 e s' I2 hq
  | ok fl =>
    cases fl with
    | ret u => exact I2.after hq
    | next => exact False.elim hq
    | brk => exact False.elim hq
    | cont => exact False.elim hq
end
/-! ### t[::-1] -/
theorem adj_rev (n : Nat) : Builtin.Slice.sliceAdjust none none (-1) (n : Int) = ((n : Int) - 1, -1) := by
  unfold Builtin.Slice.sliceAdjust
  simp
theorem places_rev (n : Nat) : Builtin.Slice.slicePlaces ((n : Int) - 1) (-1) (-1) = n := by
  unfold Builtin.Slice.slicePlaces
  have h1 : ¬ ((-1 : Int) > 0) := by omega
  simp only [h1, if_false]
  have e : (-(-1) : Int) = 1 := by decide
  rw [e, Int.ediv_one]
  split <;> omega
theorem fm_congr {α β : Type} {f g : α → Option β} : ∀ {l : List α}, (∀ m ∈ l, f m = g m) → l.filterMap f = l.filterMap g
  | [], _ => rfl
  | a :: l, h => by
    rw [List.filterMap_cons, List.filterMap_cons, h a List.mem_cons_self, fm_congr fun m hm => h m (List.mem_cons_of_mem _ hm)]
theorem fm_all {α : Type} : ∀ (ys : List α), List.filterMap (fun m => ys[m]?) (List.range ys.length) = ys
  | [] => rfl
  | y :: ys => by
    rw [List.length_cons, List.range_succ_eq_map, List.filterMap_cons]
    have e : (y :: ys)[0]? = some y := rfl
    rw [e, List.filterMap_map]
    have e2 : ((fun m => (y :: ys)[m]?) ∘ Nat.succ) = fun m => ys[m]? := by funext m; simp
    show y :: List.filterMap ((fun m => (y :: ys)[m]?) ∘ Nat.succ) (List.range ys.length) = y :: ys
    rw [e2, fm_all ys]
theorem getElem?_rev (xs : List Value) (m : Nat) (h : m < xs.length) : xs[xs.length - 1 - m]? = xs.reverse[m]? := by
  rw [List.getElem?_reverse h]
theorem pick_rev (xs : Array Value) : ((List.range xs.size).filterMap fun (m : Nat) => xs[(((xs.size : Int) - 1) + (m : Int) * (-1)).toNat]?).toArray = xs.toList.reverse.toArray := by
  congr 1
  have e : ∀ m ∈ List.range xs.size, (fun (m : Nat) => xs[(((xs.size : Int) - 1) + (m : Int) * (-1)).toNat]?) m = (fun m => xs.toList.reverse[m]?) m := fun m hm => by
    have hm' : m < xs.size := List.mem_range.mp hm
    have e1 : (((xs.size : Int) - 1) + (m : Int) * (-1)).toNat = xs.toList.length - 1 - m := by rw [Array.length_toList]; omega
    show xs[(((xs.size : Int) - 1) + (m : Int) * (-1)).toNat]? = xs.toList.reverse[m]?
    rw [e1, ← getElem?_rev xs.toList m (by rw [Array.length_toList]; exact hm')]
    simp
  rw [fm_congr e]
  have hl : xs.size = xs.toList.reverse.length := by rw [List.length_reverse, Array.length_toList]
  rw [hl]
  exact fm_all _
section
variable {prog : Program} {w : World} {A : Around} {E : Value → Shared → Prop} {s : Shared}
theorem sliceApplied_rev {sl : Addr} {vs : Value} {n : Nat} {Q : Int × Int × Nat → Shared → Prop} (hs : s.heap.IsSliceOf sl .none .none vs) (ps : IsPart vs (some (-1)))
    (h : Q ((n : Int) - 1, -1, n) s) : wpAny (model prog w) A (Builtin.Slice.sliceApplied (.ref sl) (pure (n : Int))) Q E s := by
  obtain ⟨os, hos, hcs, hds⟩ := id hs
  unfold Builtin.Slice.sliceApplied Builtin.Slice.sliceFields
  refine wpAny_bind (wpAny_bind (wpAny_field hos hds (x := .none) rfl (wpAny_bind (wpAny_field hos hds (x := .none) rfl (wpAny_bind (wpAny_field hos hds (x := vs) rfl (wpAny_pure ?_)))))))
  refine wpAny_bind (HT.slicePart_ ps ?_)
  show wpAny _ _ (if ((-1 : Int) == 0) = true then _ else _) _ _ s
  rw [if_neg (by decide)]
  refine wpAny_bind (HT.slicePart_ .none (wpAny_bind (HT.slicePart_ .none (wpAny_bind (wpAny_pure ?_)))))
  show wpAny _ _ (match Builtin.Slice.sliceAdjust none none (-1) (n : Int) with | (lo, hi) => pure (lo, (-1 : Int), Builtin.Slice.slicePlaces lo hi (-1))) _ _ s
  rw [adj_rev n]
  show wpAny _ _ (pure ((n : Int) - 1, (-1 : Int), Builtin.Slice.slicePlaces ((n : Int) - 1) (-1) (-1))) _ _ s
  rw [places_rev]
  exact wpAny_pure h
theorem getItem_tuple_rev {t sl : Addr} {items : Array Value} {vs : Value} {Q : Value → Shared → Prop} (ht : IsTup s.heap t items) (hs : s.heap.IsSliceOf sl .none .none vs) (ps : IsPart vs (some (-1)))
    (h : Q (.ref s.heap.objs.size) { s with heap := s.heap.push { cls := .type "tuple", data := .seq items.toList.reverse.toArray } }) (hsz : items.size ≤ sizeLine) : wpAny (model prog w) A (getItem (.ref t) (.ref sl)) Q E s := by
  have htake : sizeOk (.seq items.toList.reverse.toArray) := by
    show items.toList.reverse.toArray.size ≤ sizeLine
    rw [List.size_toArray, List.length_reverse, Array.length_toList]
    exact hsz
  obtain ⟨os, hos, hcs, hds⟩ := id hs
  have hTs : s.TypeIs (.ref sl) "slice" := ⟨os, hos, hcs⟩
  unfold getItem
  try with_reducible refine wpAny_holding ?_
  first | refine wpAny_bind (wpAny_pure ?_) | skip
  refine wpAny_bind (wpAny_sequenceKey ht.typeIs (by decide) ?_)
  refine wpAny_bind (wpAny_callSpecial?_slot (name := Str.ofString "__getitem__") ht.typeIs PyProof.Rows.slot_tuple_getitem
    (wpAny_call_entry PyProof.Rows.slot_tuple_getitem ht.typeIs entry_tuple_getitem ?_ (args_tuple_getitem _ _)))
  show wpAny _ _ (Builtin.Tuple.tupleItemsOf (.ref t) >>= _) _ _ s
  refine wpAny_bind (tupleItemsOf_ ht ?_)
  refine wpAny_bind (wpAny_typeOf hTs ?_)
  rw [if_pos (by decide)]
  refine wpAny_bind (sliceApplied_rev hs ps ?_)
  have hno : ¬ ((((items.size : Int) - 1) == 0 && (-1 : Int) == 1 && items.size == items.size) = true) := by simp
  show wpAny _ _ (if (((items.size : Int) - 1) == 0 && (-1 : Int) == 1 && items.size == items.size) = true then _ else _) _ _ s
  rw [if_neg hno, pick_rev]
  first
    | exact wpAny_bind (m := Builtin.Tuple.tupleExact _) (wpAny_newObj_type (wpAny_pure ⟨_, rfl, wpAny_pure h⟩) htake)
    | exact wpAny_bind (m := Builtin.Tuple.tupleExact _) (wpAny_newObj_type (wpAny_bind (wpAny_pure (wpAny_pure ⟨_, rfl, wpAny_pure h⟩))) htake)
    | exact wpAny_bind (wpAny_bind (m := Builtin.Tuple.tupleExact _) (wpAny_newObj_type (wpAny_pure (wpAny_pure ⟨_, rfl, wpAny_pure h⟩)) htake))
    | exact wpAny_bind (wpAny_bind (m := Builtin.Tuple.tupleExact _) (wpAny_newObj_type (wpAny_pure ⟨_, rfl, wpAny_pure h⟩) htake))
end
section
variable {X : Cx}
def kRevT (K : PySem.W.Frag) (Q : VK) : VK := fun x H1 => ∃ a xs, x = .ref a ∧ SqT K H1 a xs ∧ ∀ p, H1 p = none → Q (.ref p) (upd H1 p (.tup xs.reverse))
def tRevT (K : PySem.W.Frag) (te : TE) : TE := fun σ H Q => te σ H (kRevT K Q)
theorem pe_revT {e : Expr} {te : TE} {k : Nat} {p1 p2 p3 pos : Pos} (he : PE X e te) : PE X (.Subscript e (.Slice none none (some (.UnaryOp .USub (.Constant (.int 1) k p1) p2)) p3) pos) (tRevT X.K te) := by
  refine ⟨fun pins s σ H Q I h => ?_⟩
  refine Subscript_ (thn (he.run pins s σ H _ I h) fun v s1 ⟨x, H1, I1, r1, q1⟩ => ?_)
  obtain ⟨a, xs, ex, hx, q⟩ := q1
  subst ex
  cases r1
  have hst : PO X (some (.UnaryOp .USub (.Constant (.int 1) k p1) p2)) (tPart (tUn (rU fun i => .int (-i)) (tC (.int 1)))) := po_some (pe_un un_neg pe_int)
  refine wpAny_Slice ?_
  rw [evalPart_none]
  refine wpAny_pure ?_
  refine wpAny_pure ?_
  refine thn (hst.run pins s1 σ H1 (fun o H4 => o = some (-1) ∧ H4 = H1) I1 ⟨1, rfl, -1, rfl, rfl, rfl⟩) fun vs s4 ⟨o, H4, I4, ps, eo, e4⟩ => ?_
  subst eo e4
  have I5 : Inv X pins σ H4 { s4 with heap := s4.heap.push { cls := .type "slice", data := .fields #[.none, .none, vs] } } := I4.kept (t' := s4.toks) fun b ob q => Heap.get?_push_of_some _ q
  obtain ⟨its, r, ht, hz⟩ := I5.tuple hx
  have hlen := r.length
  show wpAny (model X.prog X.w) X.A (subscriptTail e (.Slice none none (some (.UnaryOp .USub (.Constant (.int 1) k p1) p2)) p3) (.ref a) (.ref s4.heap.objs.size)) (EP X pins σ Q) X.xe { s4 with heap := s4.heap.push { cls := .type "slice", data := .fields #[.none, .none, vs] } }
  refine tail_any (ops := [.ref a, .ref s4.heap.objs.size]) ht.typeIs (PyProof.Rows.slot_tuple_getitem.lookup) ?_ (by with_unfolding_all rfl)
  refine getItem_tuple_rev ht (Heap.IsSliceOf.new _ .none .none vs) ps ?_ (by rw [List.size_toArray]; omega)
  refine ⟨.ref _, _, I5.laid (t' := s4.toks) (o := .tup xs.reverse) (fun b ob q => Heap.get?_push_of_some _ q) (Nat.le_refl _) ?_, rfl, q _ (I5.hok.fresh (Nat.le_refl _))⟩
  exact ⟨by rw [List.length_reverse]; exact hz, _, r.reverse, IsTup.new _ _⟩
end
section
variable {K : PySem.W.Frag} {σ : L2.St} {H H0 : Hp} {Q : VK} {te : TE} {a : Addr} {xs : List V} {M : List Addr} {L : List (Addr × HO)} {tl : TA} {n : Nat} {sp : Sp} {gV : List V → List V} {E : XK}
theorem rd_revT (q : te σ H (kRevT K Q)) : tRevT K te σ H Q := q
theorem rd_kRevT (W : Wd H0 H M L) (h : SqT K H a xs) (q : ∀ p H', H0 p = none → Wd H0 H' M ((p, .tup xs.reverse) :: L) → Q (.ref p) H') : kRevT K Q (.ref a) H :=
  ⟨a, xs, rfl, h, fun p hp => q p _ (W.fresh hp) (W.new hp)⟩
theorem rd_kw (q : tl σ H fun zs H1 => zs.length = n ∧ sp (gV zs) H1 Q E) : tKw n sp gV E tl σ H Q := q
end
end Eng

/-! Own: == and != by an own __eq__, whatever it answers. -/
namespace Eng
open PySem PySem.Spec PyProof.Rows L2
/-- x == y by the promise sp of the class's own __eq__ -/
def rOwnEq (K : PySem.W.Frag) (C : Addr) (sp : Sp) (E : XK) : R2 := fun x y H Q => ∃ a dx fs tb, x = .ref a ∧ H a = some (.ins C dx fs) ∧ TyX K H y tb ∧ PySem.W.notFirst K C tb = true ∧ sp [x, y] H (fun v H' => ∃ b, v = .bl b ∧ Q (.bl b) H') E
/-- x != y of two of the class -/
def rOwnNe (K : PySem.W.Frag) (C : Addr) (sp : Sp) (E : XK) : R2 := fun x y H Q => ∃ a dx fs a' dx' fs', x = .ref a ∧ y = .ref a' ∧ H a = some (.ins C dx fs) ∧ H a' = some (.ins C dx' fs') ∧ sp [x, y] H (fun v H' => ∃ b, v = .bl b ∧ Q (.bl (!b)) H') E
/-- what the top tells of a class with an own __eq__ and no __ne__ -/
structure NeTxt (K : PySem.W.Frag) (C f : Addr) : Prop where
  ex : ∃ (nm q : Str) (N : Addr) (bs : List Value) (hdct : Bool) (sn : List Str) (sub : List Value) (ab : Bool) (col : Option Bool) (dd : Option Addr) (k0 k1 k2 k3 k5 : Option Value) (newId : String) (oN : Obj) (es : Array DictEntry) (ep : Nat),
    K.lookup C = some (excClassObj nm q C N bs [.type "object"] hdct sn sub ab col dd k0 k1 k2 k3 k5 newId) ∧ K.lookup N = some oN ∧ oN.data = .dict es ep ∧ StrKeys es ∧ nsFind es "__eq__" = some (.ref f) ∧ nsFind es "__ne__" = none
  fn : ∃ fo, K.lookup f = some fo ∧ fo.cls = .type "function"
section
variable {X : Cx} {CX : CXT} {n : Nat} {C f : Addr} {fd : FuncData} {ps : List Str} {sp : Sp} {E : XK} {pins : List (Addr × Obj)} {σ : L2.St} {H : Hp} {s : Shared}
theorem run_own {A : Around} {x y : V} {u v : Value} {Q : VK} (F : FnOk X.prog X.w X.K X.mg X.base CX n f fd ps sp) (sb : Sub X n A) (hb : Binds X.K fd ps []) (hx : Passes CX X E) (I : Inv X pins σ H s) (rx : RelV x u) (ry : RelV y v)
    (h : sp [x, y] H Q E) : wpAny (model X.prog X.w) A (call (.ref f) [u, v]) (fun z s' => EP X pins σ Q z s') X.xe s := by
  have e0 : Env0 X.prog X.w X.K X.mg X.base A X.stack s H := by
    have e := I.env0
    exact ⟨by rw [sb.fr]; exact e.frames, e.mod, e.bs, e.bsz, e.funs, e.frf, e.hok, e.bare⟩
  have hl := F.len _ _ _ _ h
  have r2 : Vals [x, y] [u, v] := .cons rx (.cons ry .nil)
  refine wpAny_call (codeAny_mono (F.run A X.stack s H ⟨[u, v], []⟩ [u, v] [x, y] _ E sb.room e0 (by
    have := hb s [u, v] I.kIn (by simpa using hl)
    simpa using this) r2 h) fun r s' hq => ?_)
  cases r with
  | error e => exact hx pins σ H s e s' I hq
  | ok fl =>
    cases fl with
    | ret w => exact I.after hq
    | next => exact False.elim hq
    | brk => exact False.elim hq
    | cont => exact False.elim hq
theorem o_ownEq (F : FnOk X.prog X.w X.K X.mg X.base CX n f fd ps sp) (hr : Room n X.A) (hs : PySem.W.findIn X.K (.ref C) "__eq__" = some (some (.ref f))) (hf : PySem.W.isFn X.K (.ref f) = true) (hb : Binds X.K fd ps []) (hx : Passes CX X E) :
    OpR X (compareOp .Eq) (rOwnEq X.K C sp E) := by
  intro pins s σ H x y u v Q I rx ry h
  obtain ⟨a, dx, fs, tb, rfl, ha, ty, hn, h⟩ := h
  cases rx
  obtain ⟨P, Z, p, _⟩ := kit_of I ry ty
  obtain ⟨mA, J, _⟩ := ins_get I.hok ha
  obtain ⟨od, J, _⟩ := J.look
  obtain ⟨m, hF⟩ := I.fr
  show wpAny (model X.prog X.w) X.A (richCompare .Eq (.ref a) v) (EP X pins σ Q) X.xe s
  refine PySem.W.cmp_K (op := .Eq) (tb := tb) hr.units0 hF I.ok.mod.kin J (Z.ty _ _ I.kIn p) hn hs hf ?_
  refine wpAny_mono (run_own F ⟨hr, rfl⟩ hb hx I (x := .ref a) rfl ry h) (fun z s' hz => ?_) fun _ _ e => e
  obtain ⟨zv, H', I', rz, b, rfl, q⟩ := hz
  cases rz
  exact ⟨.bl b, H', I', rfl, q⟩
theorem o_ownNe (T : NeTxt X.K C f) (F : FnOk X.prog X.w X.K X.mg X.base CX n f fd ps sp) (hr : Room (n + 1) X.A) (hb : Binds X.K fd ps []) (hx : Passes CX X E) :
    OpR X (compareOp .NotEq) (rOwnNe X.K C sp E) := by
  intro pins s σ H x y u v Q I rx ry h
  obtain ⟨a, dx, fs, a', dx', fs', rfl, rfl, ha, ha', h⟩ := h
  cases rx
  cases ry
  obtain ⟨_, _, _, e1, _⟩ := (show ObjOk X.prog X.w H s.heap a (.ins C dx fs) from I.hok a _ ha)
  obtain ⟨_, _, _, e2, _⟩ := (show ObjOk X.prog X.w H s.heap a' (.ins C dx' fs') from I.hok a' _ ha')
  obtain ⟨nm, q, N, bs, hdct, sn, sub, ab, col, dd, k0, k1, k2, k3, k5, newId, oN, es, ep, lC, lN, hd, hk, h1, h2⟩ := T.ex
  obtain ⟨fo, lf, hfo⟩ := T.fn
  have XX : s.heap.OwnEqNoNe a C f "object" [.type "object"] :=
    ⟨_, fo, nm, q, N, bs, hdct, sn, sub, ab, col, dd, k0, k1, k2, k3, k5, newId, nsFind es, some (.builtin "object.__eq__"), e1, rfl, I.kIn _ _ lC, ⟨oN, es, ep, I.kIn _ _ lN, hd, hk, fun _ => rfl⟩, h1, I.kIn _ _ lf, hfo, PySem.F.cmp_object.mro, PySem.F.cmp_object.eq.lookup, h2⟩
  obtain ⟨hp, g, d, t, os⟩ := s
  have hu : X.A.units + 1 < cLine := hu_of hr
  refine compareOp_ne_ownEq PySem.F.cmp_object XX e2 rfl hu ?_
  refine wpAny_mono (run_own F ⟨hr.in1, rfl⟩ hb hx I (x := .ref a) (y := .ref a') rfl rfl h) (fun z s' hz => ?_) fun _ _ e => e
  obtain ⟨zv, H', I', rz, b, rfl, q⟩ := hz
  cases rz
  exact ⟨b, rfl, .bl (!b), H', I', rfl, q⟩
end
section
variable {K : PySem.W.Frag} {C a a' dx dx' : Addr} {fs fs' : List (Str × V)} {sp : Sp} {E : XK} {H : Hp} {Q : VK} {y : V} {tb : Value}
theorem rd_ownEq (h : H a = some (.ins C dx fs)) (ty : TyX K H y tb) (hn : PySem.W.notFirst K C tb = true) (q : sp [.ref a, y] H (fun v H' => ∃ b, v = .bl b ∧ Q (.bl b) H') E) : rOwnEq K C sp E (.ref a) y H Q := ⟨a, dx, fs, tb, rfl, h, ty, hn, q⟩
theorem rd_ownNe (h : H a = some (.ins C dx fs)) (h' : H a' = some (.ins C dx' fs')) (q : sp [.ref a, .ref a'] H (fun v H' => ∃ b, v = .bl b ∧ Q (.bl (!b)) H') E) : rOwnNe K C sp E (.ref a) (.ref a') H Q := ⟨a, dx, fs, a', dx', fs', rfl, rfl, h, h', q⟩
end
/-! ### any(xs) of integers; max, min of two -/
def rAnyI (K : PySem.W.Frag) : List V → Hp → VK → Prop := fun vs H Q => ∃ (a : Addr) (ns : List Int), vs = [V.ref a] ∧ SqL K H a (ns.map V.int) ∧ Q (.bl (ns.any fun n => n != 0)) H
def rMax2 : List V → Hp → VK → Prop := fun xs H Q => ∃ i j, xs = [.int i, .int j] ∧ Q (.int (if j > i then j else i)) H
def rMin2 : List V → Hp → VK → Prop := fun xs H Q => ∃ i j, xs = [.int i, .int j] ∧ Q (.int (if j < i then j else i)) H
theorem ints_of : ∀ {ns : List Int} {us : List Value}, Vals (ns.map V.int) us → ∀ (i : Nat) v, us[i]? = some v → ∃ n t, ns[i]? = some n ∧ v = .int n t
  | [], _, .nil, i, v, h => by simp at h
  | n :: ns, _, .cons r t, 0, v, h => by
    obtain ⟨k, e⟩ := r
    have : v = .int n k := by simpa [e] using h.symm
    exact ⟨n, k, rfl, this⟩
  | n :: ns, _, .cons r t, i + 1, v, h => by
    obtain ⟨m, k, e1, e2⟩ := ints_of (ns := ns) t i v (by simpa using h)
    exact ⟨m, k, by simpa using e1, e2⟩
theorem truth_ints {prog : Program} {w : World} {A : Around} {ns : List Int} {its : List Value} (r : Vals (ns.map V.int) its) :
    TruthOf prog w A (fun i v => its.toArray[i]? = some v) (fun i => (ns.map fun n => n != 0).getD i false) := fun i v s Q E hv hq => by
  have hv' : its[i]? = some v := by simpa using hv
  obtain ⟨n, t, hn, rfl⟩ := ints_of r i v hv'
  have hg : (ns.map fun n => n != 0).getD i false = (n != 0) := by rw [List.getD_eq_getElem?_getD, List.getElem?_map, hn] <;> rfl
  have hq' : Q ((ns.map fun n => n != 0).getD i false) s := hq
  rw [hg] at hq'
  exact PySem.P.truthy_int hq'
section
variable {X : Cx}
theorem c_anyI (hc : X.calm = true) : CallR X (.builtin "any") (rAnyI X.K) := by
  intro pins s σ H vs us Q I r h
  obtain ⟨a, ns, rfl, hs, q⟩ := h
  obtain ⟨its, rv, hl, _⟩ := I.list hs
  rw [Vals.ref1 r]
  refine call_any_walk (iter_any hl.isList fun s₂ e2 st hne => ?_)
  subst e2
  refine ⟨_, _, _, _, _, _, _, rfl, Walks.list (A := X.A.in1) (I.ok.hd hc) _ a hne its.toArray, st, truth_ints rv, fun h' tk hk => ?_⟩
  refine ⟨.bl _, H, I.kept fun b o eo => hk b o (fun hmem => ?_) (Heap.get?_push_of_some _ eo), ?_, q⟩
  · rcases List.mem_cons.mp hmem with e1 | hmem
    · exact absurd (e1 ▸ Heap.lt_size eo) (Nat.lt_irrefl _)
    · cases hmem
  · show Value.bool _ = Value.bool _
    have e : (ns.any fun n => n != 0) = (ns.map fun n => n != 0).any id := by rw [List.any_map]; rfl
    have el := rv.length
    rw [List.length_map] at el
    rw [e, ← L2.any_range, List.size_toArray, List.length_map, el]
theorem c_max (hc : X.calm = true) : CallR X (.builtin "max") rMax2 := call_max2 hc
theorem c_min (hc : X.calm = true) : CallR X (.builtin "min") rMin2 := call_min2 hc
theorem c_all (hc : X.calm = true) : CallR X (.builtin "all") (rAll X.K) := cr_all hc
end
section
variable {K : PySem.W.Frag} {H H0 : Hp} {Q : VK} {a : Addr} {ns : List Int} {bs : List Bool} {n m : Int} {M : List Addr} {L : List (Addr × HO)} {xs : List V}
theorem rd_anyI (h : SqL K H a (ns.map V.int)) (q : Q (.bl (ns.any fun n => n != 0)) H) : rAnyI K [.ref a] H Q := ⟨a, ns, rfl, h, q⟩
theorem rd_max (q : Q (.int (if m > n then m else n)) H) : rMax2 [.int n, .int m] H Q := ⟨n, m, rfl, q⟩
theorem rd_min (q : Q (.int (if m < n then m else n)) H) : rMin2 [.int n, .int m] H Q := ⟨n, m, rfl, q⟩
theorem rd_all (h : SqL K H a (bs.map V.bl)) (q : Q (.bl (bs.all id)) H) : rAll K [.ref a] H Q := ⟨a, bs, rfl, h, q⟩
/-- xs * k -/
theorem rd_rep (W : Wd H0 H M L) (h : H a = some (.lst xs)) (h1 : -(2 ^ 63) ≤ n) (h2 : n < 2 ^ 63) (h3 : xs.length * n.toNat ≤ sizeLine) (q : ∀ p H', H0 p = none → Wd H0 H' M ((p, .lst (List.replicate n.toNat xs).flatten) :: L) → Q (.ref p) H') : rRep (.ref a) (.int n) H Q :=
  ⟨a, n, xs, rfl, rfl, h, h1, h2, h3, fun p hp => q p _ (W.fresh hp) (W.new hp)⟩
end
end Eng

/-! Enm: enumerate over a list or a tuple; an item, a part of a list or a tuple. -/
namespace Eng
open PySem PySem.Spec PyProof.Rows L2
set_option maxHeartbeats 1000000 in
theorem meets_enum1 {v : Value} {o : Obj} {H : Heap → Prop} (B : Begins v o H) :
    Meets (Builtin.«enumerate.__new__» ⟨[.type "enumerate", v], []⟩) (fun _ R s => H s.heap ∧
      R (.ok (.ret (.ref (s.heap.push o).objs.size))) { s with heap := (s.heap.push o).push { cls := .type "enumerate", data := .fields #[.none, .bool false, .ref s.heap.objs.size, rawInt 0, .none, .none] } }) :=
  .of_wp fun prog w A R s h => by
    obtain ⟨hp, g, d, tk, os⟩ := s; obtain ⟨h1, h⟩ := h
    have hsub := sub_enumerate
    have q1 : ∀ {A' : Around} {E : Value → Shared → Prop} {Q : Value → Shared → Prop}, Q (.ref hp.objs.size) ⟨hp.push o, g, d, tk, os⟩ → wpAny (model prog w) A' (pyIter v) Q E ⟨hp, g, d, tk, os⟩ :=
      fun q => B.iter prog w _ _ ⟨hp, g, d, tk, os⟩ _ h1 q
    wp_walk using q1
    refine wpAny_stack_any fun st => wpAny_pure ?_
    split
    · rename_i c _ _ _ _ _
      cases (c == Value.type "enumerate")
      · wp_walk using q1
        exact ⟨_, rfl, h⟩
      · wp_walk using q1
        exact ⟨_, rfl, h⟩
    · wp_walk using q1
      exact ⟨_, rfl, h⟩
theorem enum_begins1 {prog : Program} {w : World} {A : Around} {E : Value → Shared → Prop} {s : Shared} {v : Value} {o : Obj} {H : Heap → Prop} {Q : Value → Shared → Prop} (B : Begins v o H) (h1 : H s.heap)
    (h : ∀ h', IsEnum h' (s.heap.objs.size + 1) s.heap.objs.size 0 .none → h'.get? s.heap.objs.size = some o → h'.objs.size = s.heap.objs.size + 2 →
      (∀ b o, s.heap.get? b = some o → h'.get? b = some o) → Q (.ref (s.heap.objs.size + 1)) { s with heap := h' }) :
    wpAny (model prog w) A (call (.type "enumerate") [v]) Q E s := by
  refine callType_new F.called_enumerate (by decide) (F.typeCall_enumerate_1 _) (F.newCall_enumerate_1 _) (fun obj => F.args_object_init_2 obj _) F.entry_enumerate_new
    (meets_enum1 B) ⟨h1, ?_⟩
  have hz : (s.heap.push o).objs.size = s.heap.objs.size + 1 := Heap.size_push ..
  show _ ∧ _
  rw [hz]
  have he : IsEnum ((s.heap.push o).push { cls := .type "enumerate", data := .fields #[.none, .bool false, .ref s.heap.objs.size, rawInt 0, .none, .none] }) (s.heap.objs.size + 1) s.heap.objs.size 0 .none := by
    have := Heap.get?_push_size (s.heap.push o) (o := { cls := .type "enumerate", data := .fields #[.none, .bool false, .ref s.heap.objs.size, rawInt 0, .none, .none] }) rfl
    rw [hz] at this; exact this
  refine ⟨⟨_, he, rfl⟩, h _ he (Heap.get?_push_of_some _ (Heap.get?_push_size _ B.free)) (by rw [Heap.size_push, hz]) fun b o x => Heap.get?_push_of_some _ (Heap.get?_push_of_some _ x)⟩
/-- the tuple at a, each item in a new pair -/
def IteT (K : PySem.W.Frag) (a : Addr) : It :=
  ⟨fun i H => ∃ (xs : List V) (x : V), SqT K H a xs ∧ xs[i]? = some x, fun i H v H' => ∃ T x, v = .ref T ∧ H T = none ∧ H' = upd H T (.tup [.int (i : Nat), x]) ∧ ∀ xs, SqT K H a xs → xs[i]? = some x, fun i H => ∃ xs : List V, SqT K H a xs ∧ xs.length ≤ i⟩
/-- at the end a tuple's iterator draws no more -/
theorem draws_end {prog : Program} {w : World} {A : Around} (hh : A.handled = none) (it t : Addr) (items : Array Value) (i : Nat) (hx : items[i]? = none) :
    Draws prog w A it [it, t] i (fun _ _ => True) (fun j h => j = i ∧ h.IsTupleIter it t i ∧ h.IsTuple t items) where
  live := fun _ _ st => let ⟨o, ho, _⟩ := st.2.1; ⟨o, ho⟩
  frame := fun _ _ _ st hk => ⟨st.1, st.2.1.at fun o e => hk it (by simp) o e, st.2.2.at fun o e => hk t (by simp) o e⟩
  item := fun j s Q E hj st _ => absurd st.1 (Nat.ne_of_lt hj)
  done := fun s Q E st hE => wpAny_nextOf_tuple_end hh st.2.1 st.2.2 hx hE
theorem turn_enumT {P : Program} {w : World} {K : PySem.W.Frag} {elts : List Expr} {kk : Nat} {tpos : Pos} (a e it : Addr) :
    Turn P w K (.Tuple elts kk tpos) (IteT K a) [e, it] e (fun i h => (∃ old, IsEnum h e it ((i : Nat) : Int) old) ∧ h.IsTupleIter it a i ∧ e ≠ it) where
  mem := by simp
  obj := fun i h st b hb => by
    obtain ⟨⟨old, he⟩, ⟨o, ho, hc, hd⟩, _⟩ := st
    have e' : b = e ∨ b = it := by simpa using hb
    rcases e' with z | z
    · rw [z]; exact ⟨_, he, fun v q => nomatch q⟩
    · rw [z]; exact ⟨o, ho, fun v q => by rw [hd] at q; cases q⟩
  keep := fun i h h' st k => let ⟨⟨old, he⟩, hi, hne⟩ := st; ⟨⟨old, k e (by simp) _ he⟩, hi.at fun o q => k it (by simp) o q, hne⟩
  item := by
    intro X hP hw hK hc i pins s σ H E I hf st hg
    subst hP hw hK
    obtain ⟨⟨old, he⟩, hit, hne⟩ := st
    obtain ⟨xs, x, hq, hx⟩ := hg
    obtain ⟨its, rv, p, hz⟩ := I.tuple hq
    have p' : s.heap.IsTuple a its.toArray := p
    obtain ⟨u, hu, ru⟩ := rv.get hx
    have hel : e < s.heap.objs.size := Heap.lt_size he
    have hil : it < s.heap.objs.size := by obtain ⟨_, q, _⟩ := hit; exact Heap.lt_size q
    obtain ⟨oa, ha1, ha2, na, ha3⟩ := id p'
    have nae : a ≠ e := fun z => by
      have he' : s.heap.get? e = some _ := he
      rw [← z, ha1] at he'
      have := congrArg Obj.cls (Option.some.inj he')
      rw [ha2] at this
      injection this with q
      exact absurd q (by decide)
    have nai : a ≠ it := fun z => by
      obtain ⟨oi, hi1, hi2, hi3⟩ := hit
      rw [← z, ha1] at hi1
      have := congrArg Obj.cls (Option.some.inj hi1)
      rw [ha2, hi2] at this
      injection this with q
      exact absurd q (by decide)
    have hs : i < its.toArray.size := by
      have := (List.getElem?_eq_some_iff.mp hu).1
      simpa using this
    refine wpAny_pyNext_enum_itemD (Draws.tuple (A := X.A.in1) (show X.A.in1.handled = none from I.ok.hd hc) it a nai its.toArray) he ⟨hit, p'⟩ hs hne (by simp; exact ⟨hne, fun z => nae z.symm⟩) fun x' h' tk hP ho hst' hT hsz hk => ?_
    have hxu : x' = u := by
      have h1 : its.toArray[i]? = some x' := hP
      have h2 : its.toArray[i]? = some u := by simpa using hu
      rw [h1] at h2; exact Option.some.inj h2
    subst hxu
    refine ⟨_, rfl, wpAny_letOwnedTupleGo_enum (s := { s with heap := h', toks := tk + 1 }) ho fun h'' he' sb => ?_⟩
    have hT2 : h''.get? s.heap.objs.size = some { cls := .type "tuple", data := .seq #[.int i tk, x'] } := (sb.2 _ (Nat.ne_of_gt hel)).trans hT
    have new : ObjOk X.prog X.w (upd H s.heap.objs.size (.tup [.int (i : Nat), x])) h'' s.heap.objs.size (.tup [.int (i : Nat), x]) :=
      ⟨by show 2 ≤ sizeLine; decide, [.int i tk, x'], .cons ⟨_, rfl⟩ (.cons ru .nil), ⟨_, hT2, rfl, _, rfl⟩⟩
    have I1 : Inv X pins σ (upd H s.heap.objs.size (.tup [.int (i : Nat), x])) { s with heap := h'', toks := tk + 1 } :=
      I.turnedNew (ch := [e, it]) (fun b ob hb q => (sb.2 b (fun z => hb (by simp [z]))).trans (hk b ob (fun z => hb (by simp [z])) (fun z => hb (by simp [z])) q)) hf (Nat.le_refl _) new
    refine ⟨.ref s.heap.objs.size, _, I1, rfl, ⟨_, x, rfl, I.hok.fresh (Nat.le_refl _), rfl, fun ys hy => by rw [I.tuple_inj hy hq]; exact hx⟩, ⟨⟨x', ?_⟩, hst'.1.at fun o q => (sb.2 it (Ne.symm hne)).trans q, hne⟩, fun b hb => ?_⟩
    · have e1 : ((i + 1 : Nat) : Int) = (i : Int) + 1 := by omega
      rw [e1]; exact he'
    · have hb' : b < s.heap.objs.size := by
        have e' : b = e ∨ b = it := by simpa using hb
        rcases e' with z | z
        · rw [z]; exact hel
        · rw [z]; exact hil
      rw [upd_ne (Nat.ne_of_lt hb')]
      exact (hf b hb).1
  done := by
    intro X hP hw hK hc i pins s σ H E I hf st hg
    subst hP hw hK
    obtain ⟨⟨old, he⟩, hit, hne⟩ := st
    obtain ⟨xs, hq, hx⟩ := hg
    obtain ⟨its, rv, p, hz⟩ := I.tuple hq
    have p' : s.heap.IsTuple a its.toArray := p
    obtain ⟨f0, f1, f2, f3, f4, f5⟩ := hf it (by simp)
    have hl := rv.length
    have hn : its.toArray[i]? = none := by simp; omega
    exact wpAny_pyNext_enum_endD (draws_end (A := X.A.in1) (show X.A.in1.handled = none from I.ok.hd hc) it a its.toArray i hn) he ⟨rfl, hit, p'⟩ fun h' eb => ⟨rfl, I.turned (t' := s.toks) (fun b o hb q => eb b o hb q) f0 f1 f3 f4 f5⟩
  self := fun A i s Q E st h => let ⟨⟨_, he⟩, _⟩ := st; wpAny_pyIter_enum he h
def iEnumA (K : PySem.W.Frag) (ta : TA) : TI := fun σ H R => ta σ H fun vs H1 => ∃ a xs, vs = [.ref a] ∧ ((SqL K H1 a xs ∧ R (Ite K a) H1) ∨ (SqT K H1 a xs ∧ R (IteT K a) H1))
theorem pi_enumA {X : Cx} {e : Expr} {ta : TA} {p pos tpos : Pos} {elts : List Expr} {kk : Nat} (hg : Gl X "enumerate") (hm : X.mg "enumerate" = none) (ha : PA X [e] ta) (hs : starEach [e] X.env = [(false, eval e X.env)] := by rfl) :
    PI X (.Tuple elts kk tpos) (.Call (.Name "enumerate" p) [e] [] pos) (iEnumA X.K ta) := by
  refine ⟨fun pins s σ H R I h => ?_⟩
  refine Call_ (ld_blt I hg hm boot_enumerate (PyProof.Rows.callWith_type1 (thn (ha.run pos pins s σ H _ I h) fun us s1 ⟨vs, H1, I1, r1, q1⟩ => ?_) hs rfl))
  obtain ⟨a, xs, ex, hq⟩ := q1
  subst ex
  cases r1 with
  | cons r rr =>
    cases rr
    cases r
    have fpo : ∀ b ∈ [s1.heap.objs.size + 1, s1.heap.objs.size], FpOk X pins H1 b := fun b hb => by
      have e' : b = s1.heap.objs.size + 1 ∨ b = s1.heap.objs.size := by simpa using hb
      have hle : s1.heap.objs.size ≤ b := by
        rcases e' with z | z
        · rw [z]; exact Nat.le_add_right _ _
        · rw [z]; exact Nat.le_refl _
      exact I1.fpOk hle (I1.hok.fresh hle)
    rcases hq with ⟨hq, q⟩ | ⟨hq, q⟩
    · obtain ⟨its, rv, p', hz⟩ := I1.list hq
      refine call_enumerate_list p'.isList fun h' he hit hsz hk => wpAny_pyIter_enum he ?_
      have I2 : Inv X pins σ H1 { s1 with heap := h' } := I1.kept (t' := s1.toks) hk
      exact ⟨s1.heap.objs.size + 1, [s1.heap.objs.size + 1, s1.heap.objs.size], _, _, H1, rfl, I2, turn_enum a (s1.heap.objs.size + 1) s1.heap.objs.size, ⟨⟨.none, he⟩, hit, Nat.succ_ne_self _⟩, fpo, q⟩
    · obtain ⟨its, rv, p', hz⟩ := I1.tuple hq
      refine enum_begins1 (begins_tuple a its.toArray) p' fun h' he hit hsz hk => wpAny_pyIter_enum he ?_
      have I2 : Inv X pins σ H1 { s1 with heap := h' } := I1.kept (t' := s1.toks) hk
      exact ⟨s1.heap.objs.size + 1, [s1.heap.objs.size + 1, s1.heap.objs.size], _, _, H1, rfl, I2, turn_enumT a (s1.heap.objs.size + 1) s1.heap.objs.size, ⟨⟨.none, he⟩, ⟨_, hit, rfl, rfl⟩, Nat.succ_ne_self _⟩, fpo, q⟩
/-! ### items of a list or a tuple -/
def rIxA (K : PySem.W.Frag) : R2 := fun x y H Q => rIxL K x y H Q ∨ rIxT K x y H Q
theorem ix_any {X : Cx} : IxR X (rIxA X.K) := ix_list.or ix_tup
end Eng

/-! Num: digits of naturals, plain mathematics. -/
namespace Eng
/-- without zeros at the end -/
def strip : List Nat → List Nat
  | [] => []
  | d :: ds => match strip ds with
    | [] => if d = 0 then [] else [d]
    | e :: es => d :: e :: es
theorem strip_nil : strip [] = [] := rfl
theorem strip_cons (d : Nat) (ds : List Nat) : strip (d :: ds) = if strip ds = [] then (if d = 0 then [] else [d]) else d :: strip ds := by
  show (match strip ds with | [] => if d = 0 then [] else [d] | e :: es => d :: e :: es) = _
  cases h : strip ds with
  | nil => simp
  | cons e es => simp
theorem strip_zeros : ∀ {ds : List Nat}, (∀ d ∈ ds, d = 0) → strip ds = []
  | [], _ => rfl
  | d :: ds, h => by
    rw [strip_cons, strip_zeros (fun x hx => h x (List.mem_cons_of_mem _ hx)), if_pos rfl, if_pos (h d List.mem_cons_self)]
theorem strip_app_zeros : ∀ (ds : List Nat) {zs : List Nat}, (∀ d ∈ zs, d = 0) → strip (ds ++ zs) = strip ds
  | [], zs, h => by rw [List.nil_append, strip_zeros h]; rfl
  | d :: ds, zs, h => by rw [List.cons_append, strip_cons, strip_cons, strip_app_zeros ds h]
theorem strip_app_ne : ∀ (ds : List Nat) {d : Nat}, d ≠ 0 → strip (ds ++ [d]) = ds ++ [d]
  | [], d, h => by rw [List.nil_append, strip_cons, strip_nil, if_pos rfl, if_neg h]
  | e :: ds, d, h => by rw [List.cons_append, strip_cons, strip_app_ne ds h, if_neg (by simp)]
theorem strip_length : ∀ ds : List Nat, (strip ds).length ≤ ds.length
  | [] => Nat.le_refl _
  | d :: ds => by
    have ih := strip_length ds
    rw [strip_cons]
    split
    · split <;> simp
    · simp; exact ih
theorem strip_mem : ∀ {ds : List Nat} {d : Nat}, d ∈ strip ds → d ∈ ds
  | [], _, h => h
  | e :: ds, d, h => by
    rw [strip_cons] at h
    split at h
    · split at h
      · cases h
      · rw [List.mem_singleton.mp h]; exact List.mem_cons_self
    · rcases List.mem_cons.mp h with z | z
      · rw [z]; exact List.mem_cons_self
      · exact List.mem_cons_of_mem _ (strip_mem z)
/-- in normal form -/
def Norm (ds : List Nat) : Prop := strip ds = ds
theorem strip_norm : ∀ ds : List Nat, Norm (strip ds)
  | [] => rfl
  | d :: ds => by
    unfold Norm
    have ih : strip (strip ds) = strip ds := strip_norm ds
    rw [strip_cons]
    by_cases h : strip ds = []
    · rw [if_pos h]
      by_cases h0 : d = 0
      · rw [if_pos h0]; rfl
      · rw [if_neg h0, strip_cons, strip_nil, if_pos rfl, if_neg h0]
    · rw [if_neg h, strip_cons, ih, if_neg h]
theorem Norm.tail {d : Nat} {ds : List Nat} (h : Norm (d :: ds)) : Norm ds := by
  unfold Norm at *
  rw [strip_cons] at h
  by_cases h1 : strip ds = []
  · rw [if_pos h1] at h
    by_cases h0 : d = 0
    · rw [if_pos h0] at h; cases h
    · rw [if_neg h0] at h
      have : ds = [] := by simpa using h.symm
      rw [this]; rfl
  · rw [if_neg h1] at h
    exact (List.cons.inj h).2
theorem Norm.last {ds : List Nat} (h : Norm ds) (hn : ds ≠ []) : ∃ es d, ds = es ++ [d] ∧ d ≠ 0 := by
  have e : ds = ds.dropLast ++ [ds.getLast hn] := (List.dropLast_concat_getLast hn).symm
  refine ⟨ds.dropLast, ds.getLast hn, e, fun z => ?_⟩
  unfold Norm at h
  have h2 : strip (ds.dropLast ++ [ds.getLast hn]) = ds := by rw [← e]; exact h
  rw [z, strip_app_zeros _ (by simp)] at h2
  have l := strip_length ds.dropLast
  rw [h2, List.length_dropLast] at l
  have : 0 < ds.length := List.length_pos_iff.mpr hn
  omega
/-- the value of a row of digits of b bits -/
def val (b : Nat) : List Nat → Nat
  | [] => 0
  | d :: ds => d + 2 ^ b * val b ds
theorem val_nil (b : Nat) : val b [] = 0 := rfl
theorem val_cons (b d : Nat) (ds : List Nat) : val b (d :: ds) = d + 2 ^ b * val b ds := rfl
theorem val_app (b : Nat) : ∀ (ds es : List Nat), val b (ds ++ es) = val b ds + 2 ^ (b * ds.length) * val b es
  | [], es => by simp [val]
  | d :: ds, es => by
    rw [List.cons_append, val_cons, val_cons, val_app b ds es, List.length_cons, Nat.mul_add, Nat.mul_add, Nat.mul_one, Nat.pow_add, Nat.add_assoc, Nat.mul_comm (2 ^ (b * ds.length)) (2 ^ b), Nat.mul_assoc]
theorem val_zeros (b : Nat) : ∀ {ds : List Nat}, (∀ d ∈ ds, d = 0) → val b ds = 0
  | [], _ => rfl
  | d :: ds, h => by rw [val_cons, val_zeros b (fun x hx => h x (List.mem_cons_of_mem _ hx)), h d List.mem_cons_self]; rfl
theorem val_strip (b : Nat) : ∀ ds : List Nat, val b (strip ds) = val b ds
  | [] => rfl
  | d :: ds => by
    have ih := val_strip b ds
    rw [strip_cons, val_cons]
    by_cases h : strip ds = []
    · rw [if_pos h]
      rw [h] at ih
      rw [← ih]
      by_cases h0 : d = 0
      · rw [if_pos h0, h0]; rfl
      · rw [if_neg h0]; rfl
    · rw [if_neg h, val_cons, ih]
/-- all below 2 ^ b -/
def Digs (b : Nat) (ds : List Nat) : Prop := ∀ d ∈ ds, d < 2 ^ b
theorem val_lt {b : Nat} : ∀ {ds : List Nat}, Digs b ds → val b ds < 2 ^ (b * ds.length)
  | [], _ => by simp [val]
  | d :: ds, h => by
    have ih := val_lt (b := b) (ds := ds) fun x hx => h x (List.mem_cons_of_mem _ hx)
    have hd := h d List.mem_cons_self
    rw [val_cons, List.length_cons, Nat.mul_add, Nat.mul_one, Nat.pow_add]
    have h1 : 2 ^ b * (val b ds + 1) ≤ 2 ^ b * 2 ^ (b * ds.length) := Nat.mul_le_mul_left _ ih
    rw [Nat.mul_add, Nat.mul_one] at h1
    rw [Nat.mul_comm (2 ^ (b * ds.length))]
    omega
/-- the digits of n -/
def digs (b n : Nat) : List Nat := if h : n = 0 ∨ b = 0 then [] else n % 2 ^ b :: digs b (n / 2 ^ b)
termination_by n
decreasing_by
  have hn : 0 < n := Nat.pos_of_ne_zero fun z => h (.inl z)
  have hb : 1 < 2 ^ b := Nat.one_lt_two_pow fun z => h (.inr z)
  exact Nat.div_lt_self hn hb
theorem digs_zero (b : Nat) : digs b 0 = [] := by rw [digs, dif_pos (.inl rfl)]
theorem digs_pos {b n : Nat} (hb : b ≠ 0) (hn : n ≠ 0) : digs b n = n % 2 ^ b :: digs b (n / 2 ^ b) := by
  rw [digs, dif_neg (fun z => z.elim hn hb)]
theorem digs_ind {b : Nat} (hb : b ≠ 0) {P : Nat → Prop} (h0 : P 0) (hs : ∀ n, n ≠ 0 → P (n / 2 ^ b) → P n) (n : Nat) : P n := by
  induction n using Nat.strongRecOn with
  | _ n ih =>
    by_cases hn : n = 0
    · rw [hn]; exact h0
    · exact hs n hn (ih _ (Nat.div_lt_self (Nat.pos_of_ne_zero hn) (Nat.one_lt_two_pow hb)))
theorem val_digs {b : Nat} (hb : b ≠ 0) (n : Nat) : val b (digs b n) = n := by
  refine digs_ind hb (P := fun n => val b (digs b n) = n) ?_ (fun n hn ih => ?_) n
  · rw [digs_zero]; rfl
  · rw [digs_pos hb hn, val_cons, ih]
    exact Nat.mod_add_div n (2 ^ b)
theorem digs_lt {b : Nat} (hb : b ≠ 0) (n : Nat) : Digs b (digs b n) := by
  refine digs_ind hb (P := fun n => Digs b (digs b n)) ?_ (fun n hn ih => ?_) n
  · rw [digs_zero]; intro d h; cases h
  · rw [digs_pos hb hn]
    intro d h
    rcases List.mem_cons.mp h with z | z
    · rw [z]; exact Nat.mod_lt _ (Nat.two_pow_pos b)
    · exact ih d z
theorem digs_norm {b : Nat} (hb : b ≠ 0) (n : Nat) : Norm (digs b n) := by
  refine digs_ind hb (P := fun n => Norm (digs b n)) ?_ (fun n hn ih => ?_) n
  · rw [digs_zero]; rfl
  · rw [digs_pos hb hn]
    unfold Norm at *
    rw [strip_cons, ih]
    by_cases h : digs b (n / 2 ^ b) = []
    · rw [if_pos h, h]
      have hv := val_digs hb (n / 2 ^ b)
      rw [h] at hv
      have hm := Nat.mod_add_div n (2 ^ b)
      rw [← hv, val_nil, Nat.mul_zero, Nat.add_zero] at hm
      rw [if_neg (by rw [hm]; exact hn)]
    · rw [if_neg h]
theorem digs_eq_nil {b n : Nat} (hb : b ≠ 0) : digs b n = [] ↔ n = 0 := by
  constructor
  · intro h
    have hv := val_digs hb n
    rw [h] at hv
    exact hv.symm
  · intro h; rw [h, digs_zero]
/-- rows in normal form are the digits of their value -/
theorem digs_val {b : Nat} (hb : b ≠ 0) : ∀ {ds : List Nat}, Digs b ds → Norm ds → digs b (val b ds) = ds
  | [], _, _ => by rw [val_nil, digs_zero]
  | d :: ds, hd, hn => by
    have h1 : d < 2 ^ b := hd d List.mem_cons_self
    have h2 : Digs b ds := fun x hx => hd x (List.mem_cons_of_mem _ hx)
    have ih := digs_val hb h2 hn.tail
    have hz : val b (d :: ds) ≠ 0 := fun z => by
      have e := (val_strip b (d :: ds)).symm
      obtain ⟨es, x, e1, e2⟩ := hn.last (by simp)
      rw [e1, val_app] at z
      have := Nat.two_pow_pos (b * es.length)
      have : 2 ^ (b * es.length) * val b [x] = 0 := by omega
      rcases Nat.mul_eq_zero.mp this with q | q
      · omega
      · rw [val_cons, val_nil, Nat.mul_zero, Nat.add_zero] at q
        exact e2 q
    rw [digs_pos hb hz]
    have e1 : val b (d :: ds) % 2 ^ b = d := by rw [val_cons, Nat.add_mul_mod_self_left, Nat.mod_eq_of_lt h1]
    have e2 : val b (d :: ds) / 2 ^ b = val b ds := by
      rw [val_cons, Nat.add_mul_div_left _ _ (Nat.two_pow_pos b), Nat.div_eq_of_lt h1, Nat.zero_add]
    rw [e1, e2, ih]
/-- the sign of an integer -/
def sgn (n : Int) : Int := if n < 0 then -1 else if n = 0 then 0 else 1
theorem sgn_mul (n : Int) : sgn n * (n.natAbs : Int) = n := by
  unfold sgn
  split
  · omega
  · split <;> omega
theorem digs_length_le {b : Nat} (hb : b ≠ 0) (n : Nat) {k : Nat} (h : n < 2 ^ (b * k)) : (digs b n).length ≤ k := by
  have key : ∀ (k n : Nat), n < 2 ^ (b * k) → (digs b n).length ≤ k := by
    intro k
    induction k with
    | zero =>
      intro n h
      rw [Nat.mul_zero, Nat.pow_zero] at h
      have : n = 0 := by omega
      rw [this, digs_zero]; exact Nat.le_refl _
    | succ k ih =>
      intro n h
      by_cases hn : n = 0
      · rw [hn, digs_zero]; exact Nat.zero_le _
      · rw [digs_pos hb hn, List.length_cons]
        refine Nat.succ_le_succ (ih _ ?_)
        rw [Nat.mul_add, Nat.mul_one, Nat.pow_add] at h
        exact Nat.div_lt_of_lt_mul (by rw [Nat.mul_comm]; exact h)
  exact key k n h
/-! ### bits -/
/-- how many bits of n are 1 -/
def pop (n : Nat) : Nat := if h : n = 0 then 0 else n % 2 + pop (n / 2)
termination_by n
decreasing_by omega
theorem pop_zero : pop 0 = 0 := by rw [pop, dif_pos rfl]
theorem pop_eq (n : Nat) : pop n = n % 2 + pop (n / 2) := by
  by_cases h : n = 0
  · rw [h, pop_zero]
  · rw [pop, dif_neg h]
theorem pop_bit (a k : Nat) (h : a < 2) : pop (a + 2 * k) = a + pop k := by
  rw [pop_eq]
  have e1 : (a + 2 * k) % 2 = a := by omega
  have e2 : (a + 2 * k) / 2 = k := by omega
  rw [e1, e2]
theorem and_pred_odd (k : Nat) : (2 * k + 1) &&& (2 * k) = 2 * k := by
  apply Nat.eq_of_testBit_eq
  intro i
  rw [Nat.testBit_and]
  cases i with
  | zero => simp
  | succ i =>
    have e : (2 * k + 1) / 2 = k := by omega
    have e1 : 2 * k / 2 = k := by omega
    rw [Nat.testBit_succ, Nat.testBit_succ, e, e1, Bool.and_self]
theorem and_pred_even (k : Nat) (hk : 0 < k) : (2 * k) &&& (2 * k - 1) = 2 * (k &&& (k - 1)) := by
  apply Nat.eq_of_testBit_eq
  intro i
  rw [Nat.testBit_and]
  cases i with
  | zero => simp
  | succ i =>
    rw [Nat.testBit_succ, Nat.testBit_succ, Nat.testBit_succ]
    have e1 : 2 * k / 2 = k := by omega
    have e2 : (2 * k - 1) / 2 = k - 1 := by omega
    have e3 : 2 * (k &&& (k - 1)) / 2 = k &&& (k - 1) := by omega
    rw [e1, e2, e3, Nat.testBit_and]
/-- the last 1 is left out -/
theorem pop_and (n : Nat) (h : 0 < n) : pop (n &&& (n - 1)) + 1 = pop n := by
  induction n using Nat.strongRecOn with
  | _ n ih =>
    by_cases ho : n % 2 = 1
    · obtain ⟨k, rfl⟩ : ∃ k, n = 2 * k + 1 := ⟨n / 2, by omega⟩
      rw [Nat.add_sub_cancel, and_pred_odd]
      have e1 := pop_bit 0 k (by decide)
      have e2 := pop_bit 1 k (by decide)
      rw [Nat.zero_add] at e1
      rw [Nat.add_comm] at e2
      rw [e1, e2]
      omega
    · obtain ⟨k, rfl⟩ : ∃ k, n = 2 * k := ⟨n / 2, by omega⟩
      have hk : 0 < k := by omega
      rw [and_pred_even k hk]
      have e1 := pop_bit 0 (k &&& (k - 1)) (by decide)
      have e2 := pop_bit 0 k (by decide)
      rw [Nat.zero_add] at e1 e2
      rw [e1, e2, Nat.zero_add, Nat.zero_add]
      exact ih k (by omega) hk
theorem and_pred_lt (n : Nat) (h : 0 < n) : n &&& (n - 1) < n := Nat.lt_of_le_of_lt Nat.and_le_right (by omega)
theorem pop_add : ∀ (b d m : Nat), d < 2 ^ b → pop (d + 2 ^ b * m) = pop d + pop m
  | 0, d, m, h => by
    have : d = 0 := by simpa using h
    rw [this, pop_zero, Nat.pow_zero, Nat.one_mul, Nat.zero_add, Nat.zero_add]
  | b + 1, d, m, h => by
    have e0 : d + 2 ^ (b + 1) * m = d % 2 + 2 * (d / 2 + 2 ^ b * m) := by
      rw [Nat.pow_succ, Nat.mul_add, ← Nat.mul_assoc, Nat.mul_comm 2 (2 ^ b)]
      omega
    have h2 : d / 2 < 2 ^ b := by rw [Nat.pow_succ] at h; omega
    rw [e0, pop_bit _ _ (Nat.mod_lt _ (by decide)), pop_add b (d / 2) m h2, pop_eq d, Nat.add_assoc]
theorem pop_digs {b : Nat} (hb : b ≠ 0) (n : Nat) : ((digs b n).map pop).sum = pop n := by
  refine digs_ind hb (P := fun n => ((digs b n).map pop).sum = pop n) ?_ (fun n hn ih => ?_) n
  · rw [digs_zero, pop_zero]; rfl
  · rw [digs_pos hb hn, List.map_cons, List.sum_cons, ih, ← pop_add b _ _ (Nat.mod_lt _ (Nat.two_pow_pos b)), Nat.mod_add_div]
theorem log2_app {b l : Nat} {v d : Nat} (hv : v < 2 ^ l) (hd : d ≠ 0) : (v + 2 ^ l * d).log2 = l + d.log2 := by
  have h1 : 2 ^ d.log2 ≤ d := Nat.log2_self_le hd
  have h2 : d < 2 ^ (d.log2 + 1) := Nat.lt_log2_self
  have hz : v + 2 ^ l * d ≠ 0 := by
    have := Nat.two_pow_pos l
    have : 0 < 2 ^ l * d := Nat.mul_pos this (Nat.pos_of_ne_zero hd)
    omega
  refine (Nat.log2_eq_iff hz).mpr ⟨?_, ?_⟩
  · rw [Nat.pow_add]
    exact Nat.le_trans (Nat.mul_le_mul_left _ h1) (Nat.le_add_left _ _)
  · rw [Nat.add_assoc, Nat.pow_add]
    have : 2 ^ l * (d + 1) ≤ 2 ^ l * 2 ^ (d.log2 + 1) := Nat.mul_le_mul_left _ h2
    rw [Nat.mul_add, Nat.mul_one] at this
    omega
/-- the rest by p, digit by digit from the top -/
theorem fold_mod (b p : Nat) (ds : List Nat) : ds.reverse.foldl (fun r d => (r * 2 ^ b + d) % p) 0 = val b ds % p := by
  rw [List.foldl_reverse]
  induction ds with
  | nil => show 0 = 0 % p; rw [Nat.zero_mod]
  | cons d ds ih =>
    rw [List.foldr_cons, ih, val_cons]
    rw [Nat.add_mod, Nat.mod_mul_mod, ← Nat.add_mod, Nat.add_comm, Nat.mul_comm]
end Eng

/-! CmpN: the order of numbers by their rows. -/
namespace Eng
theorem digs_lower {b n l : Nat} (hb : b ≠ 0) (h : l < (digs b n).length) : 2 ^ (b * l) ≤ n := by
  rcases Nat.lt_or_ge n (2 ^ (b * l)) with z | z
  · have := digs_length_le hb n z
    omega
  · exact z
theorem digs_upper {b n : Nat} (hb : b ≠ 0) : n < 2 ^ (b * (digs b n).length) := by
  have := val_lt (digs_lt hb n)
  rwa [val_digs hb] at this
theorem len_lt {b n m : Nat} (hb : b ≠ 0) (h : (digs b n).length < (digs b m).length) : n < m := Nat.lt_of_lt_of_le (digs_upper hb) (digs_lower hb h)
theorem val_split {b : Nat} {ds : List Nat} {i d : Nat} (h : ds[i]? = some d) : val b ds = val b (ds.take i) + 2 ^ (b * i) * (d + 2 ^ b * val b (ds.drop (i + 1))) := by
  have hi : i < ds.length := (List.getElem?_eq_some_iff.mp h).1
  have e : ds = ds.take i ++ (d :: ds.drop (i + 1)) := by
    have h1 := List.take_append_drop i ds
    rw [List.drop_eq_getElem_cons hi, (List.getElem?_eq_some_iff.mp h).2] at h1
    exact h1.symm
  have := val_app b (ds.take i) (d :: ds.drop (i + 1))
  rw [← e, List.length_take, Nat.min_eq_left (by omega), val_cons] at this
  exact this
theorem top_lt {b : Nat} {ds es : List Nat} {i d e : Nat} (hd : Digs b ds) (h1 : ds[i]? = some d) (h2 : es[i]? = some e) (hal : ds.drop (i + 1) = es.drop (i + 1)) (h : d < e) : val b ds < val b es := by
  rw [val_split h1, val_split h2, hal]
  have hl : val b (ds.take i) < 2 ^ (b * i) := by
    have hi : i < ds.length := (List.getElem?_eq_some_iff.mp h1).1
    have := val_lt (b := b) (ds := ds.take i) (fun y hy => hd y (List.mem_of_mem_take hy))
    rwa [List.length_take, Nat.min_eq_left (by omega)] at this
  generalize 2 ^ b * val b (es.drop (i + 1)) = T
  have h3 : 2 ^ (b * i) * (d + T + 1) ≤ 2 ^ (b * i) * (e + T) := Nat.mul_le_mul_left _ (by omega)
  rw [Nat.mul_add, Nat.mul_one] at h3
  omega
theorem cmp_len {b : Nat} (hb : b ≠ 0) {n m : Int} (h : sgn m * ((digs b m.natAbs).length : Int) < sgn n * ((digs b n.natAbs).length : Int)) : m < n := by
  unfold sgn at h
  by_cases n1 : n < 0
  · rw [if_pos n1] at h
    by_cases m1 : m < 0
    · rw [if_pos m1] at h
      have := len_lt hb (n := n.natAbs) (m := m.natAbs) (by omega)
      omega
    · rw [if_neg m1] at h
      by_cases m2 : m = 0
      · rw [if_pos m2] at h; omega
      · rw [if_neg m2] at h; omega
  · rw [if_neg n1] at h
    by_cases n2 : n = 0
    · rw [if_pos n2] at h
      by_cases m1 : m < 0
      · omega
      · rw [if_neg m1] at h
        by_cases m2 : m = 0
        · rw [if_pos m2] at h; omega
        · rw [if_neg m2] at h; omega
    · rw [if_neg n2] at h
      by_cases m1 : m < 0
      · omega
      · rw [if_neg m1] at h
        by_cases m2 : m = 0
        · omega
        · rw [if_neg m2] at h
          have := len_lt hb (n := m.natAbs) (m := n.natAbs) (by omega)
          omega
/-- alike in sign and length -/
theorem cmp_alike {b : Nat} (hb : b ≠ 0) {n m : Int} (h : sgn m * ((digs b m.natAbs).length : Int) = sgn n * ((digs b n.natAbs).length : Int)) : sgn n = sgn m ∧ (digs b n.natAbs).length = (digs b m.natAbs).length := by
  have hn : n ≠ 0 → (digs b n.natAbs).length ≠ 0 := fun z e => z (by have := (digs_eq_nil hb).mp (List.length_eq_zero_iff.mp e); omega)
  have hm : m ≠ 0 → (digs b m.natAbs).length ≠ 0 := fun z e => z (by have := (digs_eq_nil hb).mp (List.length_eq_zero_iff.mp e); omega)
  have hn0 : n = 0 → (digs b n.natAbs).length = 0 := fun z => by rw [z, Int.natAbs_zero, digs_zero]; rfl
  have hm0 : m = 0 → (digs b m.natAbs).length = 0 := fun z => by rw [z, Int.natAbs_zero, digs_zero]; rfl
  unfold sgn at h ⊢
  generalize (digs b n.natAbs).length = l1 at *
  generalize (digs b m.natAbs).length = l2 at *
  by_cases n1 : n < 0
  · rw [if_pos n1] at h ⊢
    by_cases m1 : m < 0
    · rw [if_pos m1] at h ⊢; omega
    · rw [if_neg m1] at h ⊢
      by_cases m2 : m = 0
      · rw [if_pos m2] at h ⊢; omega
      · rw [if_neg m2] at h ⊢; omega
  · rw [if_neg n1] at h ⊢
    by_cases n2 : n = 0
    · rw [if_pos n2] at h ⊢
      by_cases m1 : m < 0
      · rw [if_pos m1] at h ⊢; omega
      · rw [if_neg m1] at h ⊢
        by_cases m2 : m = 0
        · rw [if_pos m2] at h ⊢; omega
        · rw [if_neg m2] at h ⊢; omega
    · rw [if_neg n2] at h ⊢
      by_cases m1 : m < 0
      · rw [if_pos m1] at h ⊢; omega
      · rw [if_neg m1] at h ⊢
        by_cases m2 : m = 0
        · rw [if_pos m2] at h ⊢; omega
        · rw [if_neg m2] at h ⊢; omega
/-- from p on the rows are alike, and at p - 1 they differ -/
structure LD (ds es : List Nat) (p : Nat) : Prop where
  le : p ≤ ds.length
  alike : ∀ i, p ≤ i → ds[i]? = es[i]?
  differ : p = 0 ∨ ds[p - 1]? ≠ es[p - 1]?
theorem LD.zero {ds es : List Nat} (h : LD ds es 0) : ds = es := List.ext_getElem? fun i => h.alike i (Nat.zero_le _)
theorem LD.drop {ds es : List Nat} {p : Nat} (h : LD ds es p) : ds.drop p = es.drop p := List.ext_getElem? fun i => by
  rw [List.getElem?_drop, List.getElem?_drop]
  exact h.alike _ (by omega)
theorem cmp_eq {b : Nat} (hb : b ≠ 0) {n m : Int} (hs : sgn n = sgn m) (h : LD (digs b n.natAbs) (digs b m.natAbs) 0) : n = m := by
  have := congrArg (val b) h.zero
  rw [val_digs hb, val_digs hb] at this
  rw [← sgn_mul n, ← sgn_mul m, hs, this]
theorem cmp_top {b p d e : Nat} (hb : b ≠ 0) {n m : Int} (hs : sgn n = sgn m) (h : LD (digs b n.natAbs) (digs b m.natAbs) (p + 1)) (h1 : (digs b n.natAbs)[p]? = some d) (h2 : (digs b m.natAbs)[p]? = some e) :
    (0 < sgn n * ((d : Int) - e) ∧ m < n) ∨ (sgn n * ((d : Int) - e) < 0 ∧ n < m) := by
  have hne : d ≠ e := by
    rcases h.differ with z | z
    · omega
    · intro q
      rw [q] at h1
      exact z (by rw [Nat.add_sub_cancel, h1, h2])
  have hn : n.natAbs ≠ 0 := fun z => by rw [z, digs_zero] at h1; cases h1
  have hm : m.natAbs ≠ 0 := fun z => by rw [z, digs_zero] at h2; cases h2
  have key : (d < e ∧ n.natAbs < m.natAbs) ∨ (e < d ∧ m.natAbs < n.natAbs) := by
    rcases Nat.lt_or_gt_of_ne hne with z | z
    · left
      have := top_lt (digs_lt hb _) h1 h2 h.drop z
      rw [val_digs hb, val_digs hb] at this
      exact ⟨z, this⟩
    · right
      have := top_lt (digs_lt hb _) h2 h1 h.drop.symm z
      rw [val_digs hb, val_digs hb] at this
      exact ⟨z, this⟩
  unfold sgn at hs ⊢
  by_cases n1 : n < 0
  · rw [if_pos n1] at hs ⊢
    by_cases m1 : m < 0
    · omega
    · rw [if_neg m1] at hs
      split at hs <;> omega
  · rw [if_neg n1, if_neg (show ¬ n = 0 by omega)] at hs ⊢
    by_cases m1 : m < 0
    · rw [if_pos m1] at hs; omega
    · omega
theorem LD.ex : ∀ (ds es : List Nat), ds.length = es.length → ∃ p, LD ds es p
  | [], [], _ => ⟨0, Nat.le_refl _, fun _ _ => rfl, .inl rfl⟩
  | d :: ds, e :: es, h => by
    obtain ⟨p, hp⟩ := LD.ex ds es (by simpa using h)
    by_cases h0 : p = 0
    · subst h0
      by_cases hd : d = e
      · subst hd
        exact ⟨0, Nat.zero_le _, fun i _ => by rw [hp.zero], .inl rfl⟩
      · refine ⟨1, by simp, fun i hi => ?_, .inr (by simpa using hd)⟩
        obtain ⟨i', rfl⟩ : ∃ i', i = i' + 1 := ⟨i - 1, by omega⟩
        simp only [List.getElem?_cons_succ]
        exact hp.alike i' (Nat.zero_le _)
    · refine ⟨p + 1, by simp only [List.length_cons]; have := hp.le; omega, fun i hi => ?_, .inr ?_⟩
      · obtain ⟨i', rfl⟩ : ∃ i', i = i' + 1 := ⟨i - 1, by omega⟩
        simp only [List.getElem?_cons_succ]
        exact hp.alike i' (by omega)
      · obtain ⟨p', rfl⟩ : ∃ p', p = p' + 1 := ⟨p - 1, by omega⟩
        rcases hp.differ with z | z
        · omega
        · simpa using z
  | [], _ :: _, h => by simp at h
  | _ :: _, [], h => by simp at h
end Eng

/-! Mach: integers and machines. -/
namespace Eng
open PySem L2
local macro_rules | `(tactic| walk_at "len") => `(tactic| first | decide | (simp only [List.length_cons, List.length_nil, List.length_append]; decide))
local macro_rules | `(tactic| walk_at "mem") => `(tactic| repeat (first | exact List.mem_cons_self | refine List.mem_cons_of_mem _ ?_ | refine List.mem_append_right _ ?_))
local macro_rules | `(tactic| walk_at "own") => `(tactic| first | assumption | (refine Wd.get (by assumption) ?_; walk_at "mem"))
local macro_rules | `(tactic| walk_at "rp") => `(tactic| repeat (first | exact Rp.here | apply Rp.there | apply Rp.app))
local macro_rules | `(tactic| walk_at "may") => `(tactic| first | exact Or.inl (by assumption) | exact Or.inr (by walk_at "mem"))
local macro_rules | `(tactic| walk_at "sq") => `(tactic| first | assumption | exact SqL.of (by walk_at "own") | exact SqT.of (by walk_at "own"))
local macro_rules | `(tactic| walk_at "ari") => `(tactic| first | assumption | omega | decide)
local macro_rules | `(tactic| walk_at "set") => `(tactic| repeat (first | exact Sets.here | apply Sets.there))
local macro_rules | `(tactic| walk_at "rd1") => `(tactic| first
  | with_reducible refine' rd_seq ?_
  | with_reducible refine' rd_asg ?_
  | ((with_reducible refine' rd_var ?h ?_); case h => exact rfl)
  | with_reducible refine' rd_c ?_
  | with_reducible refine' rd_op ?_
  | ((with_reducible refine' rd_name ?h ?_); case h => walk_at "set")
  | with_reducible refine' rd_cons ?_
  | with_reducible refine' rd_nil ?_
  | with_reducible refine' rd_add ?_
  | with_reducible refine' rd_subI ?_
  | ((with_reducible refine' rd_mod ?h ?_); case h => walk_at "ari")
  | with_reducible refine' rd_lt ?_
  | with_reducible refine' rd_le ?_
  | with_reducible refine' rd_gt ?_
  | with_reducible refine' rd_ge ?_
  | with_reducible refine' rd_eqI ?_
  | with_reducible refine' rd_neI ?_
  | with_reducible refine' rd_test ?_
  | with_reducible refine' rd_tB ?_
  | with_reducible refine' rd_kB ?_
  | with_reducible refine' rd_ret ?_
  | with_reducible refine' rd_retN ?_
  | with_reducible refine' rd_next ?_
  | with_reducible refine' rd_drop ?_
  | with_reducible refine' rd_ifS ?_
  | with_reducible refine' rd_ifE ?_
  | with_reducible refine' rd_call ?_
  | with_reducible refine' rd_cb ?_
  | with_reducible refine' rd_not ?_
  | with_reducible refine' rd_and ?_
  | with_reducible refine' rd_or ?_
  | with_reducible refine' rd_andV ?_
  | with_reducible refine' rd_orV ?_
  | with_reducible refine' rd_notV ?_
  | with_reducible refine' rd_un ?_
  | with_reducible refine' rd_neg ?_
  | with_reducible refine' rd_fld ?_
  | with_reducible refine' rd_tup ?_
  | with_reducible refine' rd_lst ?_
  | with_reducible refine' rd_bm ?_
  | ((with_reducible refine' rd_kBMl ?h ?_); case h => walk_at "own")
  | with_reducible refine' rd_meth ?_
  | with_reducible refine' rd_make ?_
  | with_reducible refine' rd_chain ?_
  | with_reducible refine' rd_int ?_
  | with_reducible refine' rd_intB ?_
  | with_reducible refine' rd_abs ?_
  | ((with_reducible refine' rd_lenL ?h ?_); case h => walk_at "sq")
  | ((with_reducible refine' rd_lenT ?h ?_); case h => walk_at "sq")
  | with_reducible refine' rd_sub ?_
  | with_reducible refine' rd_sl ?_
  | with_reducible refine' rd_noPart ?_
  | with_reducible refine' rd_part ?_
  | with_reducible refine' rd_kPart ?_
  | with_reducible refine' rd_for ?_
  | with_reducible refine' rd_iList ?_
  | with_reducible refine' rd_iTup ?_
  | with_reducible refine' rd_iR1 ?_
  | with_reducible refine' rd_iR2 ?_
  | ((with_reducible refine' rd_kIL ?h ?_); case h => walk_at "sq")
  | ((with_reducible refine' rd_kIT ?h ?_); case h => walk_at "sq")
  | with_reducible refine' rd_revL ?_
  | with_reducible refine' rd_revT ?_
  | with_reducible refine' rd_par ?_
  | ((with_reducible refine' rd_kPar ?h ?k ?_); (case h => walk_at "set"); case k => walk_at "set")
  | with_reducible refine' rd_par3 ?_
  | ((with_reducible refine' rd_kPar3 ?h ?k ?l ?_); (case h => walk_at "set"); (case k => walk_at "set"); case l => walk_at "set")
  | with_reducible refine' rd_lc ?_
  | with_reducible refine' rd_yes ?_
  | with_reducible refine' rd_sFld ?_
  | with_reducible refine' rd_dget ?_
  | with_reducible refine' rd_sDPut ?_
  | with_reducible refine' rd_gCons ?_
  | with_reducible refine' rd_gNil ?_
  | with_reducible refine' rd_kw ?_
  | with_reducible refine' rd_bits ?_
  | with_reducible refine' rd_kBits ?_
  | ((with_reducible refine' rd_anyI ?h ?_); case h => walk_at "sq")
  | with_reducible refine' rd_max ?_
  | with_reducible refine' rd_min ?_
  | with_reducible refine' rd_bm0 ?_
  | with_reducible refine' rd_andI ?_
  | with_reducible refine' rd_orI ?_
  | with_reducible refine' rd_xorI ?_)
local macro_rules | `(tactic| walk_at "rd") => `(tactic| repeat (walk_at "rd1"))
/-- the program's places -/
structure Pc where
  CMachine : Addr
  CBig : Addr
  CDesk : Addr
  aWORDS : Addr
  aBITS_OF_BASES : Addr
/-- a def's first slots -/
abbrev st0 (n : Nat) (vs : List V) : L2.St := vs.map some ++ List.replicate (n - vs.length) none
abbrev en0 (Q : VK) : Ends := ⟨fun _ H' => Q .non H', Q, fun _ _ => False, fun _ _ => False⟩
/-- the keywords' values by the parameters' order -/
def perm (ix : List Nat) (zs : List V) : List V := ix.map fun i => zs.getD i .non

def permV (ix : List Nat) (ws : List Value) : List Value := ix.map fun i => ws.getD i .none
theorem vals_getD {zs : List V} {ws : List Value} (r : Vals zs ws) (i : Nat) : RelV (zs.getD i .non) (ws.getD i .none) := by
  rw [List.getD_eq_getElem?_getD, List.getD_eq_getElem?_getD]
  cases e : zs[i]? with
  | none => rw [r.none_of e]; rfl
  | some v =>
    obtain ⟨u, e2, r2⟩ := r.get e
    rw [e2]
    exact r2
theorem perm_rel (ix : List Nat) {zs : List V} {ws : List Value} (r : Vals zs ws) : Vals (perm ix zs) (permV ix ws) := by
  unfold perm permV
  induction ix with
  | nil => exact .nil
  | cons i ix ih => exact .cons (vals_getD r i) ih
theorem kb_of {K : PySem.W.Frag} {x qual : Str} {st : Stmt} {f : Addr} {fd : FuncData} {ps ks : List Str} {ix : List Nat} (F : Fun K x qual st f fd)
    (h : ∀ (kV doc pm : Value) (an : Option Addr) (cdv ct : Value) (ws : List Value), ws.length = ks.length → bindArgs (PySem.W.fnOf x qual (defArgs st) (defBody st) (defScope st) .none kV doc pm an cdv ct) ⟨[], ks.zip ws⟩ = pure (ps.zip (permV ix ws))) : KB0 K fd ps ks (permV ix) (perm ix) := by
  obtain ⟨oc, od, kV, doc, pm, an, cdv, ct, osl, rfl, lk, hcd⟩ := F.ex
  exact ⟨fun s ws _ hl => .of_eq (h kV doc pm an cdv ct ws hl), fun r => perm_rel ix r⟩
theorem kit_self (K : PySem.W.Frag) (C : Addr) : PySem.W.kitOne K (.ref C) (.ref C) = some true := by
  unfold PySem.W.kitOne
  simp
def strKeysB (es : Array DictEntry) : Bool := es.toList.all fun e => match e.key with | .str _ _ => true | _ => false
theorem strKeys_of {es : Array DictEntry} (h : strKeysB es = true) : StrKeys es := by
  intro e he
  unfold strKeysB at h
  have := List.all_eq_true.mp h e (Array.mem_toList_iff.mpr he)
  cases hk : e.key <;> rw [hk] at this <;> first | exact ⟨_, _, rfl⟩ | cases this
/-- what is built in is none of the class -/
structure NoSub (K : PySem.W.Frag) (C : Addr) : Prop where
  ic : PySem.W.isClsIn K C = true
  ty : PySem.W.typeIn K (.ref C) = some (.type "type")
  sb : ∀ b ∈ (["int", "list", "str", "NoneType", "bool", "tuple", "dict"] : List String), PySem.W.subIn K (.type b) (.ref C) = some false
theorem NoSub.kit {K : PySem.W.Frag} {C : Addr} (h : NoSub K C) {b : String} (hb : b ∈ (["int", "list", "str", "NoneType", "bool", "tuple", "dict"] : List String)) : PySem.W.kitOne K (.type b) (.ref C) = some false := by
  unfold PySem.W.kitOne
  have e : (Value.type b == Value.ref C) = false := rfl
  rw [e, if_neg Bool.false_ne_true]
  unfold PySem.W.kitCls
  have e2 : ((PySem.W.clsIn K C).isSome && PySem.W.typeIn K (.ref C) == some (.type "type")) = true := by
    have h2 : (PySem.W.clsIn K C).isSome = true := h.ic
    rw [h2, h.ty]
    rfl
  show (if ((PySem.W.clsIn K C).isSome && PySem.W.typeIn K (.ref C) == some (.type "type")) = true then PySem.W.subIn K (.type b) (.ref C) else none) = some false
  rw [if_pos e2]
  exact h.sb b hb
theorem NoSub.nf {K : PySem.W.Frag} {C : Addr} (h : NoSub K C) {b : String} (hb : b ∈ (["int", "list", "str", "NoneType", "bool", "tuple", "dict"] : List String)) : PySem.W.notFirst K C (.type b) = true := by
  unfold PySem.W.notFirst
  rw [h.sb b hb]
  simp
theorem nf_self (K : PySem.W.Frag) (C : Addr) : PySem.W.notFirst K C (.ref C) = true := by
  unfold PySem.W.notFirst
  simp
/-! ### integers -/
def IsI (K : PySem.W.Frag) (H : Hp) (x : V) (b : Bool) : Prop := (∃ i, x = .int i ∧ b = true) ∨ (b = false ∧ ((∃ k, x = .bl k) ∨ ∃ t, TyX K H x t ∧ PySem.W.kitOne K t (.type "int") = some false))
def sp_is_integer (K : PySem.W.Frag) (c : Pc) : Sp := fun vs H Q _ => ∃ x b, vs = [x] ∧ IsI K H x b ∧ Q (.bl b) H
def t_is_integer (K : PySem.W.Frag) (c : Pc) : TS :=
  (tRet (tAndV (tCB (rIsi K) (tCons (tVar 0) (tCons (tC (.ty "int")) tNil))) (tNotV (tCB (rIsi K) (tCons (tVar 0) (tCons (tC (.ty "bool")) tNil))))))
section
variable {K : PySem.W.Frag} {c : Pc} {vs : List V} {H H0 : Hp} {Q : VK} {E : XK} {M : List Addr} {L : List (Addr × HO)} {x : V} {i lo hi : Int}
theorem isi_ty {a b : String} {r : Bool} (ty : TyX K H x (.type a)) (h : kitB a b = some r) (q : Q (.bl r) H) : rIsi K [x, .ty b] H Q := ⟨x, .ty b, _, _, r, rfl, .ty b, ty, kit_ty h, q⟩
theorem b_is_integer (h : sp_is_integer K c vs H Q E) : t_is_integer K c (en0 Q) (st0 1 vs) H := by
  obtain ⟨x, b, rfl, hx, q⟩ := h
  unfold t_is_integer
  walk_at "rd"
  rcases hx with ⟨i, rfl, rfl⟩ | ⟨rfl, ⟨k, rfl⟩ | ⟨t, ty, e⟩⟩
  · refine isi_ty (.base (.int i)) (by decide +kernel : kitB "int" "int" = some true) ?_
    walk_at "rd"
    refine rd_T rfl ?_
    walk_at "rd"
    refine isi_ty (.base (.int i)) (by decide +kernel : kitB "int" "bool" = some false) ?_
    walk_at "rd"
    exact q
  · refine isi_ty (.base (.bl k)) (by decide +kernel : kitB "bool" "int" = some true) ?_
    walk_at "rd"
    refine rd_T rfl ?_
    walk_at "rd"
    refine isi_ty (.base (.bl k)) (by decide +kernel : kitB "bool" "bool" = some true) ?_
    walk_at "rd"
    exact q
  · refine (show rIsi K [x, .ty "int"] H _ from ⟨x, _, t, _, false, rfl, .ty _, ty, e, ?_⟩)
    walk_at "rd"
    refine rd_F rfl ?_
    exact q

def Btw (K : PySem.W.Frag) (H : Hp) (x : V) (lo hi : Int) (r : Bool) : Prop := (∃ i, x = .int i ∧ r = (decide (lo ≤ i) && decide (i ≤ hi))) ∨ (IsI K H x false ∧ r = false)
def sp_is_between (K : PySem.W.Frag) (c : Pc) : Sp := fun vs H Q _ => ∃ x lo hi r, vs = [x, .int lo, .int hi] ∧ Btw K H x lo hi r ∧ Q (.bl r) H
def t_is_between (K : PySem.W.Frag) (c : Pc) : TS :=
  (tRet (tAndV (tCall (sp_is_integer K c) [] E0 (tCons (tVar 0) tNil)) (tChain rLe rLe (tVar 1) (tVar 0) (tVar 2))))
theorem b_is_between (h : sp_is_between K c vs H Q E) : t_is_between K c (en0 Q) (st0 3 vs) H := by
  obtain ⟨x, lo, hi, r, rfl, hx, q⟩ := h
  unfold t_is_between
  walk_at "rd"
  rcases hx with ⟨i, rfl, rfl⟩ | ⟨hx, rfl⟩
  · refine ⟨_, true, rfl, .inl ⟨i, rfl, rfl⟩, ?_⟩
    walk_at "rd"
    refine rd_T rfl ?_
    walk_at "rd"
    by_cases h1 : lo ≤ i
    · rw [decide_eq_true h1] at q ⊢
      refine rd_kChT rfl ?_
      walk_at "rd"
      exact q
    · rw [decide_eq_false h1] at q ⊢
      refine rd_kChF rfl ?_
      exact q
  · refine ⟨_, false, rfl, hx, ?_⟩
    walk_at "rd"
    refine rd_F rfl ?_
    exact q
theorem u_between (h1 : lo ≤ i) (h2 : i ≤ hi) (q : Q (.bl true) H) : sp_is_between K c [.int i, .int lo, .int hi] H Q E :=
  ⟨_, lo, hi, true, rfl, .inl ⟨i, rfl, by rw [decide_eq_true h1, decide_eq_true h2]; rfl⟩, q⟩
theorem u_integer (q : Q (.bl true) H) : sp_is_integer K c [.int i] H Q E := ⟨_, true, rfl, .inl ⟨i, rfl, rfl⟩, q⟩
def sp_check_integer (K : PySem.W.Frag) (c : Pc) : Sp := fun vs H Q _ => ∃ a i, vs = [.str a, .int i] ∧ Q .non H
def t_check_integer (K : PySem.W.Frag) (c : Pc) : TS :=
  (tIfS (tNot (L2.tB (tCall (sp_is_integer K c) [] E0 (tCons (tVar 1) tNil)))) tNever tNext)
theorem b_check_integer (h : sp_check_integer K c vs H Q E) : t_check_integer K c (en0 Q) (st0 2 vs) H := by
  obtain ⟨a, i, rfl, q⟩ := h
  unfold t_check_integer
  walk_at "rd"
  refine u_integer ?_
  walk_at "rd"
  refine rd_F rfl ?_
  walk_at "rd"
  exact q
end
/-! ### machines -/
def words : List Str := ["short", "sum", "product", "quotient", "corrected", "restored", "shifted", "combined", "complemented", "looked"]
/-- a machine's attributes: bits, cutoff, the places of its counts and of its walk -/
def mF (b : Nat) (cut : Int) (d e : Addr) : List (Str × V) := putF "entered" (.ref e) (putF "counts" (.ref d) (putF "base" (.int (2 ^ b)) (putF "limit_of_rows" (.int cut) (putF "width" (.int (b : Int)) []))))
section
variable {b : Nat} {cut : Int} {d e : Addr}
theorem mF_entered : (mF b cut d e).lookup ("entered" : Str) = some (.ref e) := by
  unfold mF
  rw [lookup_putF, if_pos rfl]
theorem mF_counts : (mF b cut d e).lookup ("counts" : Str) = some (.ref d) := by
  unfold mF
  rw [lookup_putF, if_neg (by decide +kernel), lookup_putF, if_pos rfl]
theorem mF_base : (mF b cut d e).lookup ("base" : Str) = some (.int (2 ^ b)) := by
  unfold mF
  rw [lookup_putF, if_neg (by decide +kernel), lookup_putF, if_neg (by decide +kernel), lookup_putF, if_pos rfl]
theorem mF_limit : (mF b cut d e).lookup ("limit_of_rows" : Str) = some (.int cut) := by
  unfold mF
  rw [lookup_putF, if_neg (by decide +kernel), lookup_putF, if_neg (by decide +kernel), lookup_putF, if_neg (by decide +kernel), lookup_putF, if_pos rfl]
theorem mF_width : (mF b cut d e).lookup ("width" : Str) = some (.int (b : Int)) := by
  unfold mF
  rw [lookup_putF, if_neg (by decide +kernel), lookup_putF, if_neg (by decide +kernel), lookup_putF, if_neg (by decide +kernel), lookup_putF, if_neg (by decide +kernel), lookup_putF, if_pos rfl]
theorem mF_none {m : Str} (h1 : ¬ m = "entered") (h2 : ¬ m = "counts") (h3 : ¬ m = "base") (h4 : ¬ m = "limit_of_rows") (h5 : ¬ m = "width") : (mF b cut d e).lookup m = none := by
  unfold mF
  rw [lookup_putF, if_neg h1, lookup_putF, if_neg h2, lookup_putF, if_neg h3, lookup_putF, if_neg h4, lookup_putF, if_neg h5]
  rfl
end
/-- the counts -/
def cK (ns : List Int) : List (Key × V) := List.zipWith (fun (w : Str) n => ((Sum.inr w : Key), V.int n)) words ns
def zeros : List Int := [0, 0, 0, 0, 0, 0, 0, 0, 0, 0]
/-- what the top tells of machines -/
structure PM (K : PySem.W.Frag) (c : Pc) : Prop where
  isc : C8.InsC K c.CMachine
  nE : NoAttr K c.CMachine "entered"
  nC : NoAttr K c.CMachine "counts"
  nB : NoAttr K c.CMachine "base"
  nL : NoAttr K c.CMachine "limit_of_rows"
  nW : NoAttr K c.CMachine "width"
  words : ∀ H : Hp, SqT K H c.aWORDS (words.map V.str)
section
variable {K : PySem.W.Frag} {c : Pc} {vs : List V} {H H0 : Hp} {Q : VK} {E : XK} {M : List Addr} {L : List (Addr × HO)} {b : Nat} {cut : Int} {a m d e dx : Addr}
theorem rd_Mwidth (P : PM K c) (h : H a = some (.ins c.CMachine dx (mF b cut d e))) (q : Q (.int (b : Int)) H) : kFld K "width" Q (.ref a) H := rd_kFld P.isc.cl P.nW h mF_width q
theorem rd_Mbase (P : PM K c) (h : H a = some (.ins c.CMachine dx (mF b cut d e))) (q : Q (.int (2 ^ b)) H) : kFld K "base" Q (.ref a) H := rd_kFld P.isc.cl P.nB h mF_base q
theorem rd_Mlimit (P : PM K c) (h : H a = some (.ins c.CMachine dx (mF b cut d e))) (q : Q (.int cut) H) : kFld K "limit_of_rows" Q (.ref a) H := rd_kFld P.isc.cl P.nL h mF_limit q
theorem rd_Mcounts (P : PM K c) (h : H a = some (.ins c.CMachine dx (mF b cut d e))) (q : Q (.ref d) H) : kFld K "counts" Q (.ref a) H := rd_kFld P.isc.cl P.nC h mF_counts q
theorem rd_Mentered (P : PM K c) (h : H a = some (.ins c.CMachine dx (mF b cut d e))) (q : Q (.ref e) H) : kFld K "entered" Q (.ref a) H := rd_kFld P.isc.cl P.nE h mF_entered q
theorem isi_own {C x : Addr} {fs : List (Str × V)} (I : C8.InsC K C) (h : H x = some (.ins C dx fs)) (q : Q (.bl true) H) : rIsi K [.ref x, .ref C] H Q :=
  ⟨.ref x, .ref C, _, _, true, rfl, .own C, .base (.ins h I.cl I.ha I.hn I.htk I.hm), I.me, q⟩
/-! check_machine -/
def sp_check_machine (K : PySem.W.Frag) (c : Pc) : Sp := fun vs H Q _ => ∃ a dx fs, vs = [.ref a] ∧ H a = some (.ins c.CMachine dx fs) ∧ Q .non H
def t_check_machine (K : PySem.W.Frag) (c : Pc) : TS :=
  (tIfS (tNot (L2.tB (tCB (rIsi K) (tCons (tVar 0) (tCons (tC (.ref c.CMachine)) tNil))))) tNever tNext)
theorem b_check_machine (P : PM K c) (h : sp_check_machine K c vs H Q E) : t_check_machine K c (en0 Q) (st0 1 vs) H := by
  obtain ⟨a, dx, fs, rfl, ha, q⟩ := h
  unfold t_check_machine
  walk_at "rd"
  refine isi_own P.isc ha ?_
  walk_at "rd"
  refine rd_F rfl ?_
  walk_at "rd"
  exact q
/-! the words with their numbers, as tuples -/
def tl2 (ps : List Addr) (ts : List (List V)) : List (Addr × HO) := List.zipWith (fun p t => (p, HO.tup t)) ps ts
theorem tl2_snoc {ps : List Addr} {ts : List (List V)} {p : Addr} {t : List V} (h : ps.length = ts.length) : tl2 (ps ++ [p]) (ts ++ [t]) = tl2 ps ts ++ [(p, .tup t)] := by
  unfold tl2
  rw [List.zipWith_append h]
  rfl
def rowsOf (ns : List Int) : List (List V) := List.zipWith (fun (w : Str) n => [V.str w, V.int n]) words ns
theorem take_snoc {α : Type} {l : List α} {i : Nat} {x : α} (h : l[i]? = some x) : l.take (i + 1) = l.take i ++ [x] := by
  rw [List.take_succ, h]
  rfl
theorem rows_get {ns : List Int} {i : Nat} {w : Str} {n : Int} (h1 : words[i]? = some w) (h2 : ns[i]? = some n) : (rowsOf ns)[i]? = some [.str w, .int n] := by
  unfold rowsOf
  rw [List.getElem?_zipWith, h1, h2]
theorem str_of_words {i : Nat} {x : V} (h : (words.map V.str)[i]? = some x) : ∃ w, words[i]? = some w ∧ x = .str w ∧ i < 10 := by
  rw [List.getElem?_map] at h
  cases e : words[i]? with
  | none => rw [e] at h; cases h
  | some w =>
    rw [e] at h
    refine ⟨w, rfl, (Option.some.inj h).symm, ?_⟩
    have := (List.getElem?_eq_some_iff.mp e).1
    exact this
theorem cK_val {ns : List Int} {i : Nat} {w : Str} {n : Int} (h1 : words[i]? = some w) (h2 : ns[i]? = some n) : valV (cK ns) (Sum.inr w : Key) = some (.int n) := by
  have hi : i < 10 := (List.getElem?_eq_some_iff.mp h1).1
  have hn : i < ns.length := (List.getElem?_eq_some_iff.mp h2).1
  have key : ∀ (ws : List Str) (ms : List Int) (j : Nat), ws.Nodup → ws[j]? = some w → ms[j]? = some n → valV (List.zipWith (fun (w : Str) n => ((Sum.inr w : Key), V.int n)) ws ms) (Sum.inr w : Key) = some (.int n) := by
    intro ws
    induction ws with
    | nil => intro ms j _ h _; simp at h
    | cons u ws ih =>
      intro ms j nd h h'
      cases ms with
      | nil => simp at h'
      | cons z ms =>
        cases j with
        | zero =>
          have e1 : u = w := by simpa using h
          have e2 : z = n := by simpa using h'
          subst e1 e2
          exact valV_pos rfl
        | succ j =>
          have hw : w ∈ ws := List.mem_of_getElem? (by simpa using h)
          have ne : ¬ (Sum.inr u : Key) = Sum.inr w := fun z => by
            have z' := Sum.inr.inj z
            subst z'
            exact (List.nodup_cons.mp nd).1 hw
          rw [List.zipWith_cons_cons, valV_neg (p := ((Sum.inr u : Key), V.int z)) ne]
          exact ih ms j (List.nodup_cons.mp nd).2 (by simpa using h) (by simpa using h')
  exact key words ns i (by decide +kernel) h1 h2
/-! Machine.tally -/
def sp_Machine_tally (K : PySem.W.Frag) (c : Pc) : Sp := fun vs H Q _ => ∃ a dx b cut d e ns, vs = [.ref a] ∧ H a = some (.ins c.CMachine dx (mF b cut d e)) ∧ H d = some (.dK (cK ns)) ∧ ns.length = 10 ∧
  ∀ p ps H', ps.length = 10 → Chg H H' [] ((p, .lst (ps.map V.ref)) :: tl2 ps (rowsOf ns)) → Q (.ref p) H'
def t_Machine_tally (K : PySem.W.Frag) (c : Pc) : TS :=
  (tRet (tLc (iTup K (tC (.ref c.aWORDS))) (gName 1) tYes (tTup (tCons (tVar 1) (tCons (tDGet (tFld K (tVar 0) "counts") (tVar 1)) tNil))) [1]))
theorem b_Machine_tally (P : PM K c) (h : sp_Machine_tally K c vs H Q E) : t_Machine_tally K c (en0 Q) (st0 2 vs) H := by
  obtain ⟨a, dx, b, cut, d, e, ns, rfl, ha, hd, hn, k⟩ := h
  have nad : a ≠ d := ne_of ha hd (by intro z; cases z)
  have W : Wd H H [] [(a, .ins c.CMachine dx (mF b cut d e)), (d, .dK (cK ns))] := (Wd.one hd).old ha (by simpa using nad)
  have hr : (rowsOf ns).length = 10 := by unfold rowsOf; rw [List.length_zipWith, hn]; rfl
  unfold t_Machine_tally
  walk_at "rd"
  refine rd_kIT (P.words H) ?_
  refine rd_lcT (xs := words.map V.str) fun D hD => ⟨fun i H' => ∃ ps : List Addr, ps.length = i ∧ (∀ p ∈ ps, H p = none) ∧ Wd H H' [] ([(D, .lst (ps.map V.ref)), (a, .ins c.CMachine dx (mF b cut d e)), (d, .dK (cK ns))] ++ tl2 ps ((rowsOf ns).take i)), ?_, ?_, ?_, ?_⟩
  · exact ⟨[], rfl, (fun _ z => nomatch z), W.new hD⟩
  · intro i H' _ _
    exact P.words H'
  · rintro i x H1 hx ⟨ps, hps, hfr, W1⟩
    obtain ⟨w, hw, rfl, hi⟩ := str_of_words hx
    have hD0 : H D = none := hD
    obtain ⟨n, hni⟩ : ∃ n, ns[i]? = some n := ⟨ns[i]'(by omega), List.getElem?_eq_getElem _⟩
    have hrow := rows_get hw hni
    walk_at "rd"
    refine ⟨rfl, ?_⟩
    walk_at "rd"
    refine rd_T rfl ?_
    walk_at "rd"
    refine rd_Mcounts P (W1.get (by walk_at "mem")) ?_
    walk_at "rd"
    refine rd_kDGs (W1.get (by walk_at "mem")) (cK_val hw hni) ?_
    walk_at "rd"
    refine rd_kTup W1 (by show 2 ≤ sizeLine; decide) fun p H2 hp W2 => ?_
    refine rd_kAcc W2 (by walk_at "rp") (.inl hD0) (by rw [List.length_map, hps]; exact small1000 (by omega)) fun H3 W3 => ?_
    refine ⟨ps ++ [p], by rw [List.length_append, hps]; rfl, fun q hq => ?_, ?_⟩
    · rcases List.mem_append.mp hq with z | z
      · exact hfr q z
      · rw [List.mem_singleton.mp z]; exact hp
    · rw [take_snoc hrow, tl2_snoc (by rw [hps, List.length_take, hr]; omega), List.map_append]
      exact W3.move (A := [_, _, _])
  · rintro H1 ⟨ps, hps, hfr, W1⟩
    have hl : ps.length = 10 := hps
    have e10 : (rowsOf ns).take (words.map V.str).length = rowsOf ns := List.take_of_length_le (by rw [hr]; decide)
    rw [e10] at W1
    refine k D ps H1 hl ?_
    have nd := W1.nd
    refine W1.done (fun q z => nomatch z) (fun q z => nomatch z) (fun q hq => ?_) ?_
    · rcases List.mem_cons.mp hq with z | z
      · rw [z]; exact ⟨List.mem_cons_self, hD⟩
      · refine ⟨List.mem_append_right _ z, ?_⟩
        unfold tl2 at z
        obtain ⟨i, hi⟩ := List.mem_iff_getElem?.mp z
        rw [List.getElem?_zipWith] at hi
        cases e1 : ps[i]? with
        | none => rw [e1] at hi; cases hi
        | some p =>
          cases e2 : (rowsOf ns)[i]? with
          | none => rw [e1, e2] at hi; cases hi
          | some t =>
            rw [e1, e2] at hi
            have := Option.some.inj hi
            rw [← this]
            exact hfr p (List.mem_of_getElem? e1)
    · refine nd.sublist (List.Sublist.map _ ?_)
      exact (List.Sublist.cons _ (List.Sublist.cons _ (List.Sublist.refl _))).cons₂ _
theorem tl2_get {ps : List Addr} {ts : List (List V)} {q : Addr × HO} (h : q ∈ tl2 ps ts) : ∃ (i : Nat) (p : Addr) (t : List V), ps[i]? = some p ∧ ts[i]? = some t ∧ q = (p, .tup t) := by
  unfold tl2 at h
  obtain ⟨i, hi⟩ := List.mem_iff_getElem?.mp h
  rw [List.getElem?_zipWith] at hi
  cases e1 : ps[i]? with
  | none => rw [e1] at hi; cases hi
  | some p =>
    cases e2 : ts[i]? with
    | none => rw [e1, e2] at hi; cases hi
    | some t =>
      rw [e1, e2] at hi
      exact ⟨i, p, t, e1, e2, (Option.some.inj hi).symm⟩
theorem tl2_mem {ps : List Addr} {ts : List (List V)} {i : Nat} {p : Addr} {t : List V} (h1 : ps[i]? = some p) (h2 : ts[i]? = some t) : (p, HO.tup t) ∈ tl2 ps ts := by
  unfold tl2
  refine List.mem_iff_getElem?.mpr ⟨i, ?_⟩
  rw [List.getElem?_zipWith, h1, h2]
theorem paired_of {α β : Type} {R : α → β → Prop} : ∀ {l : List α} {k : List β}, l.length = k.length → (∀ (i : Nat) x y, l[i]? = some x → k[i]? = some y → R x y) → Paired R l k
  | [], [], _, _ => .nil
  | [], _ :: _, h, _ => by simp at h
  | _ :: _, [], h, _ => by simp at h
  | x :: l, y :: k, h, f => .cons (f 0 x y rfl rfl) (paired_of (by simpa using h) fun i a b h1 h2 => f (i + 1) a b (by simpa using h1) (by simpa using h2))
theorem rd_dict {ps : List Addr} {kvs kvs' : List (Key × V)} (W : Wd H0 H M L) (h : H a = some (.lst (ps.map V.ref))) (hp : Paired (fun p kv => SqT K H p [kV kv.1, kv.2]) ps kvs) (he : mergeK [] kvs = kvs')
    (q : ∀ p H', H0 p = none → Wd H0 H' M ((p, .dK kvs') :: L) → Q (.ref p) H') : rDict K [.ref a] H Q :=
  ⟨a, ps, kvs, rfl, SqL.of h, hp, fun p hp => by subst he; exact q p _ (W.fresh hp) (W.new hp)⟩
theorem cK_get {ns : List Int} {i : Nat} {w : Str} {n : Int} (h1 : words[i]? = some w) (h2 : ns[i]? = some n) : (cK ns)[i]? = some (Sum.inr w, .int n) := by
  unfold cK
  rw [List.getElem?_zipWith, h1, h2]
theorem rows_cK {ns : List Int} (hn : ns.length = 10) {i : Nat} {t : List V} {kv : Key × V} (h1 : (rowsOf ns)[i]? = some t) (h2 : (cK ns)[i]? = some kv) : t = [kV kv.1, kv.2] := by
  have hi : i < 10 := by
    have := (List.getElem?_eq_some_iff.mp h1).1
    unfold rowsOf at this
    rw [List.length_zipWith, hn] at this
    exact Nat.lt_of_lt_of_le this (by decide)
  have hw : words[i]? = some (words[i]'hi) := List.getElem?_eq_getElem _
  have hz : ns[i]? = some (ns[i]'(by omega)) := List.getElem?_eq_getElem _
  rw [rows_get hw hz] at h1
  rw [cK_get hw hz] at h2
  cases h1
  cases h2
  rfl
theorem len_putF (f : Str) (v : V) : ∀ fs : List (Str × V), (putF f v fs).length ≤ fs.length + 1
  | [] => Nat.le_refl _
  | (g, x) :: r => by
    show (if g = f then (g, v) :: r else (g, x) :: putF f v r).length ≤ _
    by_cases h : g = f
    · rw [if_pos h]; exact Nat.le_succ _
    · rw [if_neg h]; exact Nat.succ_le_succ (len_putF f v r)
/-! Machine.__init__ -/
def sp_Machine_init (K : PySem.W.Frag) (c : Pc) : Sp := fun vs H Q _ => ∃ (x dx : Addr) (b : Nat) (cut : Int), vs = [.ref x, .int (b : Int), .int cut] ∧ 8 ≤ b ∧ b ≤ 30 ∧ 2 ≤ cut ∧ cut ≤ 1000 ∧ H x = some (.ins c.CMachine dx []) ∧
  ∀ d e H', Chg H H' [(x, .ins c.CMachine dx (mF b cut d e))] [(d, .dK (cK zeros)), (e, .lst [])] → Q .non H'
def t_Machine_init (K : PySem.W.Frag) (c : Pc) : TS :=
  (tSeq (tIfS (tNot (L2.tB (tCall (sp_is_between K c) [] E0 (tCons (tVar 1) (tCons (tC (.int 8)) (tCons (tC (.int 30)) tNil)))))) tNever tNext)
  (tSeq (tIfS (tNot (L2.tB (tCall (sp_is_between K c) [] E0 (tCons (tVar 2) (tCons (tC (.int 2)) (tCons (tC (.int 1000)) tNil)))))) tNever tNext)
  (tSeq (sFld K (tVar 0) (tVar 1) "width")
  (tSeq (sFld K (tVar 0) (tVar 2) "limit_of_rows")
  (tSeq (sFld K (tVar 0) (tOp rShl (tC (.int 1)) (tVar 1)) "base")
  (tSeq (sFld K (tVar 0) (tCB (rDict K) (tCons (tLc (iTup K (tC (.ref c.aWORDS))) (gName 3) tYes (tTup (tCons (tVar 3) (tCons (tC (.int 0)) tNil))) [3]) tNil)) "counts")
  (sFld K (tVar 0) (tLst tNil) "entered")))))))
theorem zero_get {i : Nat} (h : i < 10) : zeros[i]? = some 0 := by
  have : ∀ i : Fin 10, zeros[i.val]? = some 0 := by decide
  exact this ⟨i, h⟩
theorem shl_one {b : Nat} (h : b ≤ 1000) : CShl 1 (b : Int) := shl_ok (n := 1) (by decide) (by omega)
theorem b_Machine_init (P : PM K c) (h : sp_Machine_init K c vs H Q E) : t_Machine_init K c (en0 Q) (st0 4 vs) H := by
  obtain ⟨x, dx, b, cut, rfl, hb1, hb2, hc1, hc2, hx, k⟩ := h
  have W : Wd H H [x] [(x, .ins c.CMachine dx [])] := (Wd.one hx).may List.mem_cons_self
  unfold t_Machine_init
  walk_at "rd"
  refine u_between (by omega) (by omega) ?_
  walk_at "rd"
  refine rd_F rfl ?_
  walk_at "rd"
  refine u_between hc1 hc2 ?_
  walk_at "rd"
  refine rd_F rfl ?_
  walk_at "rd"
  refine rd_kSFld W P.isc.cl P.nW (by walk_at "rp") (by walk_at "may") (by decide) fun H1 W1 => ?_
  walk_at "rd"
  refine rd_kSFld W1 P.isc.cl P.nL (by walk_at "rp") (by walk_at "may") (Nat.lt_of_le_of_lt (len_putF _ _ _) (by decide)) fun H2 W2 => ?_
  walk_at "rd"
  refine rd_shl (shl_one (by omega)) ?_
  rw [Int.toNat_natCast, Int.one_mul]
  walk_at "rd"
  refine rd_kSFld W2 P.isc.cl P.nB (by walk_at "rp") (by walk_at "may") (Nat.lt_of_le_of_lt (len_putF _ _ _) (Nat.lt_of_le_of_lt (Nat.succ_le_succ (len_putF _ _ _)) (by decide))) fun H3 W3 => ?_
  walk_at "rd"
  refine rd_kIT (P.words H3) ?_
  refine rd_lcT (xs := words.map V.str) fun D hD => ⟨fun i H' => ∃ ps : List Addr, ps.length = i ∧ Wd H H' [x] ([(D, .lst (ps.map V.ref)), (x, .ins c.CMachine dx (putF "base" (.int (2 ^ b)) (putF "limit_of_rows" (.int cut) (putF "width" (.int (b : Int)) []))))] ++ tl2 ps ((rowsOf zeros).take i)), ?_, ?_, ?_, ?_⟩
  · exact ⟨[], rfl, W3.new hD⟩
  · intro i H' _ _
    exact P.words H'
  · rintro i y H4 hy ⟨ps, hps, W4⟩
    obtain ⟨w, hw, rfl, hi⟩ := str_of_words hy
    have hrow := rows_get hw (zero_get hi)
    have hD0 : H D = none := W3.fresh hD
    walk_at "rd"
    refine ⟨rfl, ?_⟩
    walk_at "rd"
    refine rd_T rfl ?_
    walk_at "rd"
    refine rd_kTup W4 (by show 2 ≤ sizeLine; decide) fun p H5 hp W5 => ?_
    refine rd_kAcc W5 (by walk_at "rp") (.inl hD0) (by rw [List.length_map, hps]; exact small1000 (by omega)) fun H6 W6 => ?_
    refine ⟨ps ++ [p], by rw [List.length_append, hps]; rfl, ?_⟩
    rw [take_snoc hrow, tl2_snoc (by rw [hps, List.length_take]; show i = min i 10; omega), List.map_append]
    exact W6.move (A := [_, _])
  · rintro H4 ⟨ps, hps, W4⟩
    have hl : ps.length = 10 := hps
    have e10 : (rowsOf zeros).take (words.map V.str).length = rowsOf zeros := List.take_of_length_le (by decide)
    rw [e10] at W4
    have hD0 : H D = none := W3.fresh hD
    walk_at "rd"
    refine rd_dict (kvs := cK zeros) (kvs' := cK zeros) W4 (W4.get List.mem_cons_self) (paired_of (by rw [hl]; decide) fun i p kv h1 h2 => ?_) (by decide +kernel) fun d H5 hd W5 => ?_
    · have hi : i < 10 := by have := (List.getElem?_eq_some_iff.mp h1).1; omega
      have hr : (rowsOf zeros)[i]? = some ((rowsOf zeros)[i]'hi) := List.getElem?_eq_getElem _
      have e := rows_cK (by decide) hr h2
      have := W4.get (List.mem_append_right _ (tl2_mem h1 hr))
      rw [e] at this
      exact SqT.of this
    · walk_at "rd"
      refine rd_kSFld W5 P.isc.cl P.nC (by walk_at "rp") (by walk_at "may") (Nat.lt_of_le_of_lt (len_putF _ _ _) (Nat.lt_of_le_of_lt (Nat.succ_le_succ (Nat.le_trans (len_putF _ _ _) (Nat.succ_le_succ (len_putF _ _ _)))) (by decide))) fun H6 W6 => ?_
      walk_at "rd"
      refine rd_kLst W6 (by decide) fun e H7 he W7 => ?_
      walk_at "rd"
      refine rd_kSFld W7 P.isc.cl P.nE (by walk_at "rp") (by walk_at "may") (Nat.lt_of_le_of_lt (len_putF _ _ _) (Nat.lt_of_le_of_lt (Nat.succ_le_succ (Nat.le_trans (len_putF _ _ _) (Nat.succ_le_succ (Nat.le_trans (len_putF _ _ _) (Nat.succ_le_succ (len_putF _ _ _)))))) (by decide))) fun H8 W8 => ?_
      have nd := W8.nd
      refine k d e H8 (W8.done (fun q hq => ?_) (fun q hq => hq) (fun q hq => ?_) ?_)
      · rw [List.mem_singleton.mp hq]
        walk_at "mem"
      · rcases List.mem_cons.mp hq with z | z
        · rw [z]; exact ⟨by walk_at "mem", hd⟩
        · rw [List.mem_singleton.mp z]; exact ⟨by walk_at "mem", he⟩
      · have ne : e ≠ d := fun z => by
          subst z
          have h1 := (List.nodup_cons.mp nd).1
          exact h1 List.mem_cons_self
        exact List.nodup_cons.mpr ⟨by simpa using Ne.symm ne, by simp⟩
end

/-! Bigs: numbers as signs and rows. -/
/-- a row of digits as values -/
def iN (ds : List Nat) : List V := ds.map fun (d : Nat) => V.int (d : Int)
theorem iN_length (ds : List Nat) : (iN ds).length = ds.length := List.length_map _
theorem iN_get {ds : List Nat} {i d : Nat} (h : ds[i]? = some d) : (iN ds)[i]? = some (.int (d : Int)) := by unfold iN; rw [List.getElem?_map, h]; rfl
theorem iN_of {ds : List Nat} {i : Nat} {x : V} (h : (iN ds)[i]? = some x) : ∃ d, ds[i]? = some d ∧ x = .int (d : Int) := by
  unfold iN at h
  rw [List.getElem?_map] at h
  cases e : ds[i]? with
  | none => rw [e] at h; cases h
  | some d => rw [e] at h; exact ⟨d, rfl, (Option.some.inj h).symm⟩
theorem iN_take (ds : List Nat) (n : Nat) : (iN ds).take n = iN (ds.take n) := by unfold iN; rw [List.map_take]
theorem iN_rev (ds : List Nat) : (iN ds).reverse = iN ds.reverse := by unfold iN; rw [List.map_reverse]
theorem iN_app (ds es : List Nat) : iN ds ++ iN es = iN (ds ++ es) := by unfold iN; rw [List.map_append]
/-- a Big's attributes -/
def bF (b : Nat) (s : Int) (r : Addr) : List (Str × V) := putF "row" (.ref r) (putF "side" (.int s) (putF "width" (.int (b : Int)) []))
section
variable {b : Nat} {s : Int} {r : Addr}
theorem bF_row : (bF b s r).lookup ("row" : Str) = some (.ref r) := by
  unfold bF
  rw [lookup_putF, if_pos rfl]
theorem bF_side : (bF b s r).lookup ("side" : Str) = some (.int s) := by
  unfold bF
  rw [lookup_putF, if_neg (by decide +kernel), lookup_putF, if_pos rfl]
theorem bF_width : (bF b s r).lookup ("width" : Str) = some (.int (b : Int)) := by
  unfold bF
  rw [lookup_putF, if_neg (by decide +kernel), lookup_putF, if_neg (by decide +kernel), lookup_putF, if_pos rfl]
theorem bF_none {m : Str} (h1 : ¬ m = "row") (h2 : ¬ m = "side") (h3 : ¬ m = "width") : (bF b s r).lookup m = none := by
  unfold bF
  rw [lookup_putF, if_neg h1, lookup_putF, if_neg h2, lookup_putF, if_neg h3]
  rfl
end
/-- what the top tells of Bigs -/
structure PB (K : PySem.W.Frag) (c : Pc) : Prop where
  isc : C8.InsC K c.CBig
  nR : NoAttr K c.CBig "row"
  nS : NoAttr K c.CBig "side"
  nW : NoAttr K c.CBig "width"
section
variable {K : PySem.W.Frag} {c : Pc} {vs : List V} {H H0 : Hp} {Q : VK} {E : XK} {M : List Addr} {L : List (Addr × HO)} {b : Nat} {s cut : Int} {a m d e dx r x l : Addr} {ds : List Nat}
theorem rd_Bwidth (P : PB K c) (h : H a = some (.ins c.CBig dx (bF b s r))) (q : Q (.int (b : Int)) H) : kFld K "width" Q (.ref a) H := rd_kFld P.isc.cl P.nW h bF_width q
theorem rd_Bside (P : PB K c) (h : H a = some (.ins c.CBig dx (bF b s r))) (q : Q (.int s) H) : kFld K "side" Q (.ref a) H := rd_kFld P.isc.cl P.nS h bF_side q
theorem rd_Brow (P : PB K c) (h : H a = some (.ins c.CBig dx (bF b s r))) (q : Q (.ref r) H) : kFld K "row" Q (.ref a) H := rd_kFld P.isc.cl P.nR h bF_row q
/-! Big.__init__ -/
def sp_Big_init (K : PySem.W.Frag) (c : Pc) : Sp := fun vs H Q _ => ∃ (x dx : Addr) (b : Nat) (s : Int) (r : Addr), vs = [.ref x, .int (b : Int), .int s, .ref r] ∧ H x = some (.ins c.CBig dx []) ∧
  ∀ H', Chg H H' [(x, .ins c.CBig dx (bF b s r))] [] → Q .non H'
def t_Big_init (K : PySem.W.Frag) (c : Pc) : TS :=
  (tSeq (sFld K (tVar 0) (tVar 1) "width")
  (tSeq (sFld K (tVar 0) (tVar 2) "side")
  (sFld K (tVar 0) (tVar 3) "row")))
theorem b_Big_init (P : PB K c) (h : sp_Big_init K c vs H Q E) : t_Big_init K c (en0 Q) (st0 4 vs) H := by
  obtain ⟨x, dx, b, s, r, rfl, hx, k⟩ := h
  have W : Wd H H [x] [(x, .ins c.CBig dx [])] := (Wd.one hx).may List.mem_cons_self
  unfold t_Big_init
  walk_at "rd"
  refine rd_kSFld W P.isc.cl P.nW (by walk_at "rp") (by walk_at "may") (by decide) fun H1 W1 => ?_
  walk_at "rd"
  refine rd_kSFld W1 P.isc.cl P.nS (by walk_at "rp") (by walk_at "may") (Nat.lt_of_le_of_lt (len_putF _ _ _) (by decide)) fun H2 W2 => ?_
  walk_at "rd"
  refine rd_kSFld W2 P.isc.cl P.nR (by walk_at "rp") (by walk_at "may") (Nat.lt_of_le_of_lt (len_putF _ _ _) (Nat.lt_of_le_of_lt (Nat.succ_le_succ (len_putF _ _ _)) (by decide))) fun H3 W3 => ?_
  exact k H3 (W3.done (fun q hq => hq) (fun q hq => hq) (fun q hq => nomatch hq) List.nodup_nil)
/-- Big(b, s, r) -/
theorem rd_mkBig (W : Wd H0 H M L) (q : ∀ x dx H', H0 x = none → Wd H0 H' M ((x, .ins c.CBig dx (bF b s r)) :: L) → Q (.ref x) H') : kMake c.CBig (sp_Big_init K c) [] E Q [.int (b : Int), .int s, .ref r] H := by
  intro x dx hx hdx ne
  have W1 := W.new (o := .own x) hdx
  have hx1 : upd H dx (.own x) x = none := by rw [upd_ne (Ne.symm ne)]; exact hx
  have W2 := W1.new (o := .ins c.CBig dx []) hx1
  refine ⟨x, dx, b, s, r, rfl, upd_same, fun H' ch => ⟨rfl, ?_⟩⟩
  have W3 := W2.chg1 Rp.here ch (.inl (W.fresh hx))
  have hno : dx ∉ M := fun z => W.out hdx (W.sub dx z)
  refine q x dx H' (W.fresh hx) ?_
  have W4 : Wd H0 H' M ((dx, .own x) :: (x, .ins c.CBig dx (bF b s r)) :: L) := W3.perm (List.Perm.swap _ _ _)
  exact W4.drop1 hno
/-! made -/
def sp_made (K : PySem.W.Frag) (c : Pc) : Sp := fun vs H Q _ => ∃ (m dx : Addr) (b : Nat) (cut : Int) (d e : Addr) (s : Int) (l : Addr) (ds : List Nat), vs = [.ref m, .int s, .ref l] ∧ H m = some (.ins c.CMachine dx (mF b cut d e)) ∧ H l = some (.lst (iN ds)) ∧ ds.length < 2 ^ 23 ∧
  ∀ x dx r H', Chg H H' [] [(x, .ins c.CBig dx (bF b (if strip ds = [] then 0 else s) r)), (r, .tup (iN (strip ds)))] → Q (.ref x) H'
def t_made (K : PySem.W.Frag) (c : Pc) : TS :=
  (tSeq (tAsg (tCB (rLen K) (tCons (tVar 2) tNil)) (gName 3))
  (tSeq (tWhile (tAnd (tTest (tOp rGt (tVar 3) (tC (.int 0)))) (tTest (tOp rEq (tOp (rIxL K) (tVar 2) (tOp rSub (tVar 3) (tC (.int 1)))) (tC (.int 0))))) (tAsg (tOp rSub (tVar 3) (tC (.int 1))) (gName 3)))
  (tRet (tMake c.CBig (sp_Big_init K c) [] E0 (tCons (tFld K (tVar 0) "width") (tCons (tIf (tTest (tOp rGt (tVar 3) (tC (.int 0)))) (tVar 1) (tC (.int 0))) (tCons (tCB (rTupL K) (tCons (tSl (rSlL K) (tVar 2) tNoPart (tPart (tVar 3))) tNil)) tNil)))))))
theorem strip_take {ds : List Nat} {n : Nat} (hz : ∀ d ∈ ds.drop n, d = 0) (hn : n = 0 ∨ ∃ d, ds[n - 1]? = some d ∧ d ≠ 0) : strip ds = ds.take n := by
  have e : ds = ds.take n ++ ds.drop n := (List.take_append_drop n ds).symm
  rw [e, strip_app_zeros _ hz, ← e]
  rcases hn with h | ⟨d, h1, h2⟩
  · rw [h]; rfl
  · have hl : n - 1 < ds.length := (List.getElem?_eq_some_iff.mp h1).1
    cases n with
    | zero => rfl
    | succ n =>
      have h1' : ds[n]? = some d := by simpa using h1
      rw [take_snoc h1', strip_app_ne _ h2]
theorem b_made (P : PM K c) (PB : PB K c) (h : sp_made K c vs H Q E) : t_made K c (en0 Q) (st0 4 vs) H := by
  obtain ⟨m, dx, b, cut, d, e, s, l, ds, rfl, hm, hl, hlen, k⟩ := h
  have nml : m ≠ l := ne_of hm hl (by intro z; cases z)
  have W : Wd H H [] [(m, .ins c.CMachine dx (mF b cut d e)), (l, .lst (iN ds))] := (Wd.one hl).old hm (by simpa using nml)
  unfold t_made
  walk_at "rd"
  refine rd_while (fun n σ' H' => σ' = [some (.ref m), some (.int s), some (.ref l), some (.int (n : Int))] ∧ H' = H ∧ n ≤ ds.length ∧ ∀ d ∈ ds.drop n, d = 0) ds.length ⟨by rw [iN_length]; rfl, rfl, Nat.le_refl _, by rw [List.drop_length]; intro d z; cases z⟩ ?_
  rintro n σ' H' ⟨rfl, rfl, hn, hz⟩
  have fin : (n = 0 ∨ ∃ d, ds[n - 1]? = some d ∧ d ≠ 0) → tRet (tMake c.CBig (sp_Big_init K c) [] E0 (tCons (tFld K (tVar 0) "width") (tCons (tIf (tTest (tOp rGt (tVar 3) (tC (.int 0)))) (tVar 1) (tC (.int 0))) (tCons (tCB (rTupL K) (tCons (tSl (rSlL K) (tVar 2) tNoPart (tPart (tVar 3))) tNil)) tNil)))) (en0 Q) [some (.ref m), some (.int s), some (.ref l), some (.int (n : Int))] H' := by
    intro hend
    have es := strip_take hz hend
    have hsid : (if strip ds = [] then (0 : Int) else s) = if 0 < n then s else 0 := by
      rw [es]
      rcases Nat.eq_zero_or_pos n with z | z
      · rw [z]; rfl
      · rw [if_neg (fun q => ?_), if_pos z]
        have := congrArg List.length q
        rw [List.length_take] at this
        simp only [List.length_nil] at this
        omega
    walk_at "rd"
    refine rd_Mwidth P (by walk_at "own") ?_
    walk_at "rd"
    have cont : ∀ (s' : Int), s' = (if strip ds = [] then (0 : Int) else s) → tCons (tCB (rTupL K) (tCons (tSl (rSlL K) (tVar 2) tNoPart (tPart (tVar 3))) tNil)) tNil [some (.ref m), some (.int s), some (.ref l), some (.int (n : Int))] H' (fun xs H2 => kMake c.CBig (sp_Big_init K c) [] E0 Q (.int (b : Int) :: .int s' :: xs) H2) := by
      intro s' hs'
      subst hs'
      walk_at "rd"
      refine rd_slL (ys := iN (strip ds)) W (by walk_at "sq") ?_ fun p H1 hp W1 => ?_
      · rw [es, ← iN_take]
        unfold cutV
        rw [HT.sIx_none, HT.sIx_nat, List.drop_zero, Nat.sub_zero, iN_length, Nat.min_eq_left hn]
      walk_at "rd"
      refine rd_tupL W1 (by walk_at "sq") fun r H2 hr W2 => ?_
      walk_at "rd"
      refine rd_mkBig W2 fun x dx' H3 hx W3 => ?_
      refine k x dx' r H3 (W3.done (fun q z => nomatch z) (fun q z => nomatch z) (fun q hq => ?_) ?_)
      · rcases List.mem_cons.mp hq with z | z
        · rw [z]; exact ⟨by walk_at "mem", hx⟩
        · rw [List.mem_singleton.mp z]; exact ⟨by walk_at "mem", hr⟩
      · have nd := W3.nd
        exact nd.sublist (List.Sublist.map _ (List.Sublist.cons₂ _ (List.Sublist.cons₂ _ (List.nil_sublist _))))
    refine rd_2d (fun h1 => ?_) fun h1 => ?_
    · refine rd_var rfl ?_
      exact cont s (by rw [hsid, if_pos (by omega)])
    · refine rd_c ?_
      exact cont 0 (by rw [hsid, if_neg (by omega)])
  walk_at "rd"
  refine rd_2d (fun h1 => ?_) fun h1 => ?_
  · obtain ⟨d1, hd1⟩ : ∃ d1, ds[n - 1]? = some d1 := ⟨ds[n - 1]'(by omega), List.getElem?_eq_getElem _⟩
    walk_at "rd"
    refine rd_ixL (by walk_at "sq") (at_of (j := n - 1) (by omega) (iN_get hd1)) ?_
    walk_at "rd"
    refine rd_wh2 (fun h2 => ?_) fun h2 => ?_
    · walk_at "rd"
      refine ⟨n - 1, by omega, ?_, rfl, by omega, ?_⟩
      · rw [show ((n : Int) - 1) = ((n - 1 : Nat) : Int) by omega]
      · intro x hx
        have e1 : ds.drop (n - 1) = d1 :: ds.drop n := by
          have hlt : n - 1 < ds.length := by omega
          have e2 := List.drop_eq_getElem_cons hlt
          rw [e2]
          have e3 : ds[n - 1]'hlt = d1 := by
            have := (List.getElem?_eq_some_iff.mp hd1).2
            exact this
          rw [e3]
          congr 2
          omega
        rw [e1] at hx
        rcases List.mem_cons.mp hx with z | z
        · rw [z]; omega
        · exact hz x z
    · exact fin (.inr ⟨d1, hd1, by omega⟩)
  · refine rd_whF rfl ?_
    exact fin (.inl (by omega))
/-! numbers -/
theorem pwN (b : Nat) : (2 : Int) ^ b = ((2 ^ b : Nat) : Int) := by simp
theorem pwPos (b : Nat) : (0 : Int) < 2 ^ b := by rw [pwN]; exact Int.ofNat_lt.mpr (Nat.two_pow_pos b)
theorem modN (n b : Nat) : (n : Int) % 2 ^ b = ((n % 2 ^ b : Nat) : Int) := by rw [pwN]; rfl
theorem divN (n b : Nat) : (n : Int) / 2 ^ b = ((n / 2 ^ b : Nat) : Int) := by rw [pwN]; rfl
theorem absN (n : Int) : (if n < 0 then -n else n) = (n.natAbs : Int) := by split <;> omega
theorem two_nd {α : Type} {p q : Addr} {o u : α} {L : List (Addr × α)} (h : (((p, o) :: (q, u) :: L).map (·.1)).Nodup) : ([(p, o), (q, u)].map (·.1)).Nodup := h.sublist (List.Sublist.map _ (List.Sublist.cons₂ _ (List.Sublist.cons₂ _ (List.nil_sublist _))))
/-! digits_of -/
def sp_digits_of (K : PySem.W.Frag) (c : Pc) : Sp := fun vs H Q _ => ∃ (m dx : Addr) (b : Nat) (cut : Int) (d e : Addr) (n : Nat), vs = [.ref m, .int (n : Int)] ∧ H m = some (.ins c.CMachine dx (mF b cut d e)) ∧ b ≠ 0 ∧ (digs b n).length < 2 ^ 23 ∧
  ∀ l H', Chg H H' [] [(l, .lst (iN (digs b n)))] → Q (.ref l) H'
def t_digits_of (K : PySem.W.Frag) (c : Pc) : TS :=
  (tSeq (tAsg (tLst tNil) (gName 2))
  (tSeq (tWhile (tTest (tOp rGt (tVar 1) (tC (.int 0)))) (tSeq (tDrop (tBM K "list" rAppend (tVar 2) (tCons (tOp rMod (tVar 1) (tFld K (tVar 0) "base")) tNil)))
  (tAsg (tOp rShr (tVar 1) (tFld K (tVar 0) "width")) (gName 1))))
  (tRet (tVar 2))))
theorem b_digits_of (P : PM K c) (h : sp_digits_of K c vs H Q E) : t_digits_of K c (en0 Q) (st0 3 vs) H := by
  obtain ⟨m, dx, b, cut, d, e, n, rfl, hm, hb, hlen, kq⟩ := h
  have W : Wd H H [] [(m, .ins c.CMachine dx (mF b cut d e))] := Wd.one hm
  unfold t_digits_of
  walk_at "rd"
  refine rd_kLst W (by decide) fun l H1 hl W1 => ?_
  walk_at "rd"
  refine rd_while (fun k σ' H' => ∃ ds, σ' = [some (.ref m), some (.int (k : Int)), some (.ref l)] ∧ Wd H H' [] [(l, .lst (iN ds)), (m, .ins c.CMachine dx (mF b cut d e))] ∧ ds ++ digs b k = digs b n) n ⟨[], rfl, W1, rfl⟩ ?_
  rintro k σ' H' ⟨ds, rfl, W2, hds⟩
  walk_at "rd"
  refine rd_wh2 (fun h1 => ?_) fun h1 => ?_
  · have hk : k ≠ 0 := by omega
    have e1 := digs_pos hb hk
    walk_at "rd"
    refine rd_Mbase P (by walk_at "own") ?_
    refine rd_mod (pwPos b) ?_
    rw [modN]
    walk_at "rd"
    have hdl : ds.length < 2 ^ 23 := by
      have := congrArg List.length hds
      rw [List.length_append] at this
      omega
    refine rd_append W2 (by walk_at "rp") (by walk_at "may") (by rw [iN_length]; exact Nat.lt_of_lt_of_le hdl (by decide)) fun H3 W3 => ?_
    walk_at "rd"
    refine rd_Mwidth P (by walk_at "own") ?_
    refine rd_shr (Int.natCast_nonneg _) ?_
    rw [Int.toNat_natCast, divN]
    walk_at "rd"
    refine ⟨k / 2 ^ b, Nat.div_lt_self (Nat.pos_of_ne_zero hk) (Nat.one_lt_two_pow hb), ds ++ [k % 2 ^ b], rfl, ?_, ?_⟩
    · rw [← iN_app]
      exact W3
    · rw [← hds, e1, List.append_assoc]
      rfl
  · have hk : k = 0 := by omega
    rw [hk, digs_zero, List.append_nil] at hds
    subst hds
    walk_at "rd"
    exact kq l H' (W2.done (fun q z => nomatch z) (fun q z => nomatch z) (fun q hq => by rw [List.mem_singleton.mp hq]; exact ⟨List.mem_cons_self, hl⟩) (by simp))
/-! big_of, big -/
/-- what a new Big is -/
def NewBig (c : Pc) (Q : VK) (H : Hp) (b : Nat) (s : Int) (ds : List Nat) : Prop := ∀ x dx r H', Chg H H' [] [(x, .ins c.CBig dx (bF b s r)), (r, .tup (iN ds))] → Q (.ref x) H'
def sp_big_of (K : PySem.W.Frag) (c : Pc) : Sp := fun vs H Q _ => ∃ (m dx : Addr) (b : Nat) (cut : Int) (d e : Addr) (n : Int), vs = [.ref m, .int n] ∧ H m = some (.ins c.CMachine dx (mF b cut d e)) ∧ b ≠ 0 ∧ (digs b n.natAbs).length < 2 ^ 23 ∧
  NewBig c Q H b (sgn n) (digs b n.natAbs)
def t_big_of (K : PySem.W.Frag) (c : Pc) : TS :=
  (tRet (tCall (sp_made K c) [] E0 (tCons (tVar 0) (tCons (tIf (tTest (tOp rLt (tVar 1) (tC (.int 0)))) (tUn rNeg (tC (.int 1))) (tC (.int 1))) (tCons (tCall (sp_digits_of K c) [] E0 (tCons (tVar 0) (tCons (tCB rAbs (tCons (tVar 1) tNil)) tNil))) tNil)))))
theorem b_big_of (P : PM K c) (h : sp_big_of K c vs H Q E) : t_big_of K c (en0 Q) (st0 2 vs) H := by
  obtain ⟨m, dx, b, cut, d, e, n, rfl, hm, hb, hlen, k⟩ := h
  have W : Wd H H [] [(m, .ins c.CMachine dx (mF b cut d e))] := Wd.one hm
  unfold t_big_of
  walk_at "rd"
  have cont : ∀ s : Int, (if digs b n.natAbs = [] then 0 else s) = sgn n → tCons (tCall (sp_digits_of K c) [] E0 (tCons (tVar 0) (tCons (tCB rAbs (tCons (tVar 1) tNil)) tNil))) tNil (st0 2 [.ref m, .int n]) H (fun xs H2 => sp_made K c (.ref m :: .int s :: xs) H2 Q E0) := by
    intro s hs
    walk_at "rd"
    rw [absN]
    refine ⟨m, dx, b, cut, d, e, n.natAbs, rfl, hm, hb, hlen, fun l H1 ch => ?_⟩
    have W1 := W.chg0 ch
    walk_at "rd"
    refine ⟨m, dx, b, cut, d, e, s, l, digs b n.natAbs, rfl, W1.get (by walk_at "mem"), W1.get (by walk_at "mem"), hlen, fun x dx r H2 ch2 => ?_⟩
    rw [digs_norm hb, hs] at ch2
    have W2 := W1.chg0 ch2
    refine k x dx r H2 (W2.done (fun q z => nomatch z) (fun q z => nomatch z) (fun q hq => ?_) (two_nd W2.nd))
    have h0 : ∀ {p o}, (p, o) ∈ [(x, HO.ins c.CBig dx (bF b (sgn n) r)), (r, HO.tup (iN (digs b n.natAbs)))] → H p = none := fun hp => W1.fresh (ch2.new hp).1
    exact ⟨List.mem_append_left _ hq, h0 (p := q.1) (o := q.2) hq⟩
  refine rd_2d (fun h1 => ?_) fun h1 => ?_
  · refine rd_un (rd_c (rd_neg ?_))
    refine cont (-1) ?_
    rw [if_neg (fun z => by have := (digs_eq_nil hb).mp z; omega)]
    unfold sgn
    rw [if_pos h1]
  · refine rd_c ?_
    refine cont 1 ?_
    unfold sgn
    rw [if_neg h1]
    by_cases h2 : n = 0
    · rw [if_pos ((digs_eq_nil hb).mpr (by omega)), if_pos h2]
    · rw [if_neg (fun z => by have := (digs_eq_nil hb).mp z; omega), if_neg h2]
def sp_big (K : PySem.W.Frag) (c : Pc) : Sp := sp_big_of K c
def t_big (K : PySem.W.Frag) (c : Pc) : TS :=
  (tSeq (tDrop (tCall (sp_check_machine K c) [] E0 (tCons (tVar 0) tNil)))
  (tSeq (tDrop (tCall (sp_check_integer K c) [] E0 (tCons (tC (.str "n")) (tCons (tVar 1) tNil))))
  (tRet (tCall (sp_big_of K c) [] E0 (tCons (tVar 0) (tCons (tVar 1) tNil))))))
theorem b_big (h : sp_big K c vs H Q E) : t_big K c (en0 Q) (st0 2 vs) H := by
  obtain ⟨m, dx, b, cut, d, e, n, rfl, hm, hb, hlen, k⟩ := h
  unfold t_big
  walk_at "rd"
  refine ⟨m, dx, _, rfl, hm, ?_⟩
  walk_at "rd"
  refine ⟨_, n, rfl, ?_⟩
  walk_at "rd"
  exact ⟨m, dx, b, cut, d, e, n, rfl, hm, hb, hlen, k⟩
/-! check_any -/
def sp_check_any (K : PySem.W.Frag) (c : Pc) : Sp := fun vs H Q _ => ∃ a dx fs, vs = [.ref a] ∧ H a = some (.ins c.CBig dx fs) ∧ Q .non H
def t_check_any (K : PySem.W.Frag) (c : Pc) : TS :=
  (tIfS (tNot (L2.tB (tCB (rIsi K) (tCons (tVar 0) (tCons (tC (.ref c.CBig)) tNil))))) tNever tNext)
theorem b_check_any (P : PB K c) (h : sp_check_any K c vs H Q E) : t_check_any K c (en0 Q) (st0 1 vs) H := by
  obtain ⟨a, dx, fs, rfl, ha, q⟩ := h
  unfold t_check_any
  walk_at "rd"
  refine isi_own P.isc ha ?_
  walk_at "rd"
  refine rd_F rfl ?_
  walk_at "rd"
  exact q
/-! bit_length, bit_count, hash_of: of the Big of an integer n -/
/-- the Big of n at x, its row at r -/
structure BigAt (c : Pc) (H : Hp) (x : Addr) (b : Nat) (n : Int) : Prop where
  at_ : ∃ dx r, H x = some (.ins c.CBig dx (bF b (sgn n) r)) ∧ H r = some (.tup (iN (digs b n.natAbs)))
theorem BigAt.same {H' : Hp} {n : Int} (h : BigAt c H x b n) (hs : Same H H') : BigAt c H' x b n := by
  obtain ⟨dx, r, h1, h2⟩ := h.at_
  exact ⟨dx, r, hs _ _ h1, hs _ _ h2⟩
def bigL (b : Nat) (n : Int) : Prop := b ≠ 0 ∧ b ≤ 30 ∧ (digs b n.natAbs).length < 2 ^ 22
def sp_bit_length (K : PySem.W.Frag) (c : Pc) : Sp := fun vs H Q _ => ∃ x b n, vs = [.ref x] ∧ BigAt c H x b n ∧ bigL b n ∧ Q (.int (Builtin.Int.intBits n : Nat)) H
def t_bit_length (K : PySem.W.Frag) (c : Pc) : TS :=
  (tSeq (tDrop (tCall (sp_check_any K c) [] E0 (tCons (tVar 0) tNil)))
  (tRet (tIf (tTest (tOp rEq (tFld K (tVar 0) "side") (tC (.int 0)))) (tC (.int 0)) (tOp rAdd (tOp rMul (tOp rSub (tCB (rLen K) (tCons (tFld K (tVar 0) "row") tNil)) (tC (.int 1))) (tFld K (tVar 0) "width")) (tBits (tOp (rIxT K) (tFld K (tVar 0) "row") (tUn rNeg (tC (.int 1)))))))))
theorem sgn_zero {n : Int} : sgn n = 0 ↔ n = 0 := by
  unfold sgn
  split
  · constructor <;> intro h <;> omega
  · split
    · constructor <;> intro _ <;> first | assumption | rfl
    · constructor <;> intro h <;> omega
theorem b_bit_length (P : PB K c) (h : sp_bit_length K c vs H Q E) : t_bit_length K c (en0 Q) (st0 1 vs) H := by
  obtain ⟨x, b, n, rfl, ⟨dx, r, hx, hr⟩, ⟨hb, hb30, hl⟩, q⟩ := h
  unfold t_bit_length
  walk_at "rd"
  refine ⟨x, dx, _, rfl, hx, ?_⟩
  walk_at "rd"
  refine rd_Bside P hx ?_
  walk_at "rd"
  refine rd_2d (fun h1 => ?_) fun h1 => ?_
  · have h0 := sgn_zero.mp h1
    walk_at "rd"
    rw [h0] at q
    exact q
  · have hn : n ≠ 0 := fun z => h1 (sgn_zero.mpr z)
    have hne : digs b n.natAbs ≠ [] := fun z => by have := (digs_eq_nil hb).mp z; omega
    obtain ⟨es, d, e1, e2⟩ := (digs_norm hb n.natAbs).last hne
    walk_at "rd"
    refine rd_Brow P hx ?_
    walk_at "rd"
    refine rd_Bwidth P hx ?_
    rw [iN_length]
    refine rd_mul (mul_okL (by omega) (by omega)) ?_
    walk_at "rd"
    refine rd_Brow P hx ?_
    walk_at "rd"
    refine rd_ixT (by walk_at "sq") (v := .int (d : Int)) (by rw [e1, ← iN_app]; exact atI_last _ _) ?_
    walk_at "rd"
    have hv := val_digs hb n.natAbs
    have hlt := digs_lt hb n.natAbs
    rw [e1] at hv hlt
    have h2 : val b es < 2 ^ (b * es.length) := val_lt fun y hy => hlt y (List.mem_append_left _ hy)
    rw [val_app, val_cons, val_nil, Nat.mul_zero, Nat.add_zero] at hv
    have h3 := log2_app (b := b) h2 e2
    rw [hv] at h3
    have e4 : (((digs b n.natAbs).length : Int) - 1) * (b : Int) + ((Builtin.Int.intBits (d : Int) : Nat) : Int) = ((Builtin.Int.intBits n : Nat) : Int) := by
      unfold Builtin.Int.intBits
      rw [if_neg (by simpa using e2), if_neg (by simpa using hn), h3, e1, List.length_append, Int.natAbs_natCast]
      simp only [List.length_cons, List.length_nil]
      have e5 : ((es.length + (0 + 1) : Nat) : Int) - 1 = (es.length : Int) := by omega
      rw [e5, Nat.mul_comm]
      omega
    rw [e4]
    exact q
def sp_bit_count (K : PySem.W.Frag) (c : Pc) : Sp := fun vs H Q _ => ∃ x b n, vs = [.ref x] ∧ BigAt c H x b n ∧ bigL b n ∧ Q (.int (pop n.natAbs : Nat)) H
def t_bit_count (K : PySem.W.Frag) (c : Pc) : TS :=
  (tSeq (tDrop (tCall (sp_check_any K c) [] E0 (tCons (tVar 0) tNil)))
  (tSeq (tAsg (tC (.int 0)) (gName 1))
  (tSeq (tFor (iTup K (tFld K (tVar 0) "row")) (gName 2) (tWhile (tTest (tOp rGt (tVar 2) (tC (.int 0)))) (tSeq (tAsg (tOp rAnd (tVar 2) (tOp rSub (tVar 2) (tC (.int 1)))) (gName 2))
  (tAsg (tOp rAdd (tVar 1) (tC (.int 1))) (gName 1)))))
  (tRet (tVar 1)))))
theorem and_nat (n m : Nat) : Builtin.bitAnd (n : Int) (m : Int) = ((n &&& m : Nat) : Int) := rfl
theorem sum_take1 {l : List Nat} {i d : Nat} (h : l[i]? = some d) : ((l.take (i + 1)).map pop).sum = ((l.take i).map pop).sum + pop d := by
  rw [take_snoc h, List.map_append, List.sum_append]
  simp
theorem b_bit_count (P : PB K c) (h : sp_bit_count K c vs H Q E) : t_bit_count K c (en0 Q) (st0 3 vs) H := by
  obtain ⟨x, b, n, rfl, ⟨dx, r, hx, hr⟩, ⟨hb, hb30, hl⟩, q⟩ := h
  unfold t_bit_count
  walk_at "rd"
  refine ⟨x, dx, _, rfl, hx, ?_⟩
  walk_at "rd"
  refine rd_Brow P hx ?_
  walk_at "rd"
  refine rd_forT (xs := iN (digs b n.natAbs)) (fun i σ' H' => ∃ v, σ' = [some (.ref x), some (.int (((digs b n.natAbs).take i).map pop).sum), v] ∧ H' = H) ⟨_, rfl, rfl⟩ ?_ ?_ ?_
  · rintro i σ' H' _ ⟨v, _, rfl⟩
    exact SqT.of hr
  · rintro i y σ' H' hy ⟨v, rfl, rfl⟩
    obtain ⟨d, hd, rfl⟩ := iN_of hy
    walk_at "rd"
    refine rd_while (fun k σ2 H2 => ∃ z : Nat, σ2 = [some (.ref x), some (.int (z : Int)), some (.int (k : Int))] ∧ H2 = H' ∧ z + pop k = (((digs b n.natAbs).take (i + 1)).map pop).sum) d ⟨_, rfl, rfl, (sum_take1 hd).symm⟩ ?_
    rintro k σ2 H2 ⟨z, rfl, rfl, hz⟩
    walk_at "rd"
    refine rd_wh2 (fun h1 => ?_) fun h1 => ?_
    · have hk : 0 < k := by omega
      walk_at "rd"
      rw [show ((k : Int) - 1) = ((k - 1 : Nat) : Int) by omega, and_nat]
      have := pop_and k hk
      exact ⟨k &&& (k - 1), and_pred_lt k hk, z + 1, rfl, rfl, by omega⟩
    · have hk : k = 0 := by omega
      rw [hk, pop_zero, Nat.add_zero] at hz
      exact ⟨_, by rw [hz], rfl⟩
  · rintro σ' H' ⟨v, rfl, rfl⟩
    walk_at "rd"
    rw [iN_length, List.take_length, pop_digs hb]
    exact q
/-- the hash of an integer -/
def hashN (n : Int) : Int := if sgn n * ((n.natAbs % (2 ^ 61 - 1) : Nat) : Int) = -1 then -2 else sgn n * ((n.natAbs % (2 ^ 61 - 1) : Nat) : Int)
def sp_hash_of (K : PySem.W.Frag) (c : Pc) : Sp := fun vs H Q _ => ∃ x b n, vs = [.ref x] ∧ BigAt c H x b n ∧ bigL b n ∧ ∀ H', Same H H' → Q (.int (hashN n)) H'
def t_hash_of (K : PySem.W.Frag) (c : Pc) : TS :=
  (tSeq (tDrop (tCall (sp_check_any K c) [] E0 (tCons (tVar 0) tNil)))
  (tSeq (tAsg (tC (.int 0)) (gName 1))
  (tSeq (tFor (iTup K (tRevT K (tFld K (tVar 0) "row"))) (gName 2) (tAsg (tOp rMod (tOp rAdd (tOp rShl (tVar 1) (tFld K (tVar 0) "width")) (tVar 2)) (tOp rSub (tOp rShl (tC (.int 1)) (tC (.int 61))) (tC (.int 1)))) (gName 1)))
  (tRet (tIf (tTest (tOp rEq (tOp rMul (tFld K (tVar 0) "side") (tVar 1)) (tUn rNeg (tC (.int 1))))) (tUn rNeg (tC (.int 2))) (tOp rMul (tFld K (tVar 0) "side") (tVar 1)))))))
theorem sgn_small (n : Int) : -1 ≤ sgn n ∧ sgn n ≤ 1 := by
  unfold sgn
  split
  · omega
  · split <;> omega
theorem b_hash_of (P : PB K c) (h : sp_hash_of K c vs H Q E) : t_hash_of K c (en0 Q) (st0 3 vs) H := by
  obtain ⟨x, b, n, rfl, ⟨dx, r, hx, hr⟩, ⟨hb, hb30, hl⟩, q⟩ := h
  have nxr : x ≠ r := ne_of hx hr (by intro z; cases z)
  have W : Wd H H [] [(x, .ins c.CBig dx (bF b (sgn n) r)), (r, .tup (iN (digs b n.natAbs)))] := (Wd.one hr).old hx (by simpa using nxr)
  have hp : (1 : Int) * 2 ^ (61 : Int).toNat - 1 = ((2 ^ 61 - 1 : Nat) : Int) := by decide
  unfold t_hash_of
  walk_at "rd"
  refine ⟨x, dx, _, rfl, hx, ?_⟩
  walk_at "rd"
  refine rd_Brow P hx ?_
  refine rd_kRevT W (by walk_at "sq") fun t H1 ht W1 => ?_
  rw [iN_rev] at W1
  walk_at "rd"
  refine rd_forT (xs := iN (digs b n.natAbs).reverse) (fun i σ' H' => ∃ v, σ' = [some (.ref x), some (.int (((digs b n.natAbs).reverse.take i).foldl (fun r d => (r * 2 ^ b + d) % (2 ^ 61 - 1)) 0 : Nat)), v] ∧ H' = H1) ⟨_, rfl, rfl⟩ ?_ ?_ ?_
  · rintro i σ' H' _ ⟨v, _, rfl⟩
    walk_at "sq"
  · rintro i y σ' H' hy ⟨v, rfl, rfl⟩
    obtain ⟨d, hd, rfl⟩ := iN_of hy
    have hrest : ((digs b n.natAbs).reverse.take i).foldl (fun r d => (r * 2 ^ b + d) % (2 ^ 61 - 1)) 0 < 2 ^ 61 := by
      rcases Nat.eq_zero_or_pos i with z | z
      · rw [z, List.take_zero]; exact Nat.two_pow_pos 61
      · obtain ⟨j, rfl⟩ : ∃ j, i = j + 1 := ⟨i - 1, by omega⟩
        have hj : j < (digs b n.natAbs).reverse.length := by
          have := (List.getElem?_eq_some_iff.mp hd).1
          omega
        rw [take_snoc (List.getElem?_eq_getElem hj), List.foldl_append]
        exact Nat.lt_of_lt_of_le (Nat.mod_lt _ (by decide)) (by decide)
    generalize hR : ((digs b n.natAbs).reverse.take i).foldl (fun r d => (r * 2 ^ b + d) % (2 ^ 61 - 1)) 0 = R at hrest
    walk_at "rd"
    refine rd_Bwidth P (by walk_at "own") ?_
    refine rd_shl (shl_ok (n := 61) (by simpa using hrest) (by omega)) ?_
    walk_at "rd"
    refine rd_shl (shl_ok (j := 61) (n := 1) (by decide) (by decide)) ?_
    walk_at "rd"
    refine ⟨some (.int (d : Int)), ?_, rfl⟩
    rw [take_snoc hd, List.foldl_append, hR, Int.toNat_natCast, pwN, hp]
    rfl
  · rintro σ' H' ⟨v, rfl, rfl⟩
    rw [iN_length, List.take_length, fold_mod, val_digs hb]
    have hm : n.natAbs % (2 ^ 61 - 1) < 2 ^ 61 := Nat.lt_of_lt_of_le (Nat.mod_lt _ (by decide)) (by decide)
    have hs := sgn_small n
    walk_at "rd"
    refine rd_Bside P (by walk_at "own") ?_
    walk_at "rd"
    refine rd_mul (mul_okL (by omega) (by omega)) ?_
    walk_at "rd"
    unfold hashN at q
    refine rd_2d (fun h1 => ?_) fun h1 => ?_
    · walk_at "rd"
      rw [if_pos h1] at q
      exact q H' W1.toSame
    · walk_at "rd"
      refine rd_Bside P (by walk_at "own") ?_
      walk_at "rd"
      refine rd_mul (mul_okL (by omega) (by omega)) ?_
      rw [if_neg h1] at q
      exact q H' W1.toSame
end

/-! Rnd: the laws' draws. -/
/-- the state of a source of draws -/
def SrcO (o : HO) : Prop := ∃ z0 z1 z2 : Int, o = .lst [.int z0, .int z1, .int z2]
section
variable {K : PySem.W.Frag} {c : Pc} {vs : List V} {H H0 : Hp} {Q : VK} {E : XK} {M : List Addr} {L : List (Addr × HO)} {L' : HO → List (Addr × HO)} {n : Int} {a p : Addr} {o : HO}
def sp_law_source_of (K : PySem.W.Frag) (c : Pc) : Sp := fun vs H Q _ => ∃ n, vs = [.int n] ∧ ∀ p o H', SrcO o → Chg H H' [] [(p, o)] → Q (.ref p) H'
def t_law_source_of (K : PySem.W.Frag) (c : Pc) : TS :=
  (tSeq (tAsg (tIf (tTest (tOp rGe (tVar 0) (tC (.int 0)))) (tVar 0) (tOp rSub (tOp rSub (tC (.int 0)) (tOp rMul (tC (.int 3)) (tVar 0))) (tC (.int 1)))) (gName 0))
  (tRet (tLst (tCons (tOp rMul (tVar 0) (tCB rInt (tCons (tOp rGe (tVar 0) (tOp rPow (tC (.int 10)) (tC (.int 18)))) tNil))) (tCons (tOp rMod (tCB rInt (tCons (tVar 0) tNil)) (tC (.int 2147483647))) (tCons (tC (.int 0)) tNil))))))
theorem one_nd {α : Type} {p : Addr} {o : α} : ([(p, o)].map (·.1)).Nodup := List.nodup_cons.mpr ⟨by simp, List.nodup_nil⟩
theorem Wd.new1 {H' : Hp} {o : HO} (W : Wd H H' [] ((p, o) :: L)) (hp : H p = none) : Chg H H' [] [(p, o)] :=
  W.done (fun q z => nomatch z) (fun q z => nomatch z) (fun q hq => by rw [List.mem_singleton.mp hq]; exact ⟨List.mem_cons_self, hp⟩) one_nd
theorem pow18 : oPow 10 18 := ⟨by decide, by decide⟩
theorem b_law_source_of (h : sp_law_source_of K c vs H Q E) : t_law_source_of K c (en0 Q) (st0 1 vs) H := by
  obtain ⟨n, rfl, k⟩ := h
  unfold t_law_source_of
  walk_at "rd"
  have cont : ∀ n : Int, tRet (tLst (tCons (tOp rMul (tVar 0) (tCB rInt (tCons (tOp rGe (tVar 0) (tOp rPow (tC (.int 10)) (tC (.int 18)))) tNil))) (tCons (tOp rMod (tCB rInt (tCons (tVar 0) tNil)) (tC (.int 2147483647))) (tCons (tC (.int 0)) tNil)))) (en0 Q) [some (.int n)] H := by
    intro n
    walk_at "rd"
    refine rd_pow pow18 ?_
    walk_at "rd"
    refine rd_mul (mul_okR (by split <;> decide) (by split <;> decide)) ?_
    walk_at "rd"
    refine rd_kLst (Wd.nil H) (by walk_at "len") fun p H1 hp W => ?_
    exact k p _ H1 ⟨_, _, _, rfl⟩ (W.new1 hp)
  refine rd_2d (fun h1 => ?_) fun h1 => ?_
  · refine rd_var rfl ?_
    refine rd_name Sets.here ?_
    exact cont n
  · refine rd_op (rd_op (rd_c (rd_op (rd_c (rd_var rfl (rd_mul (mul_okL (by decide) (by decide)) (rd_subI (rd_c (rd_subI ?_)))))))))
    refine rd_name Sets.here ?_
    exact cont _
/-! a draw: an integer from 0 to n - 1 -/
def NxtB (n : Int) : Prop := n.natAbs < 2 ^ 8000
theorem nxt_of {n : Int} {k : Nat} (h : n.natAbs < 2 ^ k) (hk : k ≤ 8000) : NxtB n := Nat.lt_of_lt_of_le h (Nat.pow_le_pow_right (by decide) hk)
theorem nxt64 {n : Int} (h0 : 0 < n) (h : n < 2 ^ 64) : NxtB n := nxt_of (k := 64) (by omega) (by decide)
theorem nxOk {n : Int} (h0 : 0 < n) (h : n < 2 ^ 64) : 0 < n ∧ NxtB n := ⟨h0, nxt64 h0 h⟩
def sp_law_next (K : PySem.W.Frag) (c : Pc) : Sp := fun vs H Q _ => ∃ a o n, vs = [.ref a, .int n] ∧ H a = some o ∧ SrcO o ∧ 0 < n ∧ NxtB n ∧ ∀ r o' H', 0 ≤ r → r < n → SrcO o' → Chg H H' [(a, o')] [] → Q (.int r) H'
def t_law_next (K : PySem.W.Frag) (c : Pc) : TS :=
  (tSeq (tIfS (tTest (tOp rGt (tOp (rIxL K) (tVar 0) (tC (.int 0))) (tC (.int 0)))) (tSeq (tAsg (tOp rMod (tCB rInt (tCons (tOp (rIxL K) (tVar 0) (tC (.int 0))) tNil)) (tVar 1)) (gName 2))
  (tSeq (tAsg (tOp rDiv (tOp (rIxL K) (tVar 0) (tC (.int 0))) (tVar 1)) (gSub (tVar 0) (tC (.int 0)) rSetL))
  (tRet (tVar 2)))) tNext)
  (tSeq (tAsg (tOp rAdd (tOp (rIxL K) (tVar 0) (tC (.int 2))) (tC (.int 1))) (gSub (tVar 0) (tC (.int 2)) rSetL))
  (tSeq (tAsg (tC (.int 2147483647)) (gName 3))
  (tSeq (tAsg (tOp rMod (tCB rInt (tCons (tOp rAdd (tOp rAdd (tOp (rIxL K) (tVar 0) (tC (.int 1))) (tOp rMul (tC (.int 104729)) (tOp (rIxL K) (tVar 0) (tC (.int 2))))) (tC (.int 7919))) tNil)) (tVar 3)) (gName 4))
  (tSeq (tAsg (tOp rMod (tCB rInt (tCons (tOp rMul (tVar 4) (tC (.int 48271))) tNil)) (tVar 3)) (gName 4))
  (tSeq (tAsg (tOp rMod (tCB rInt (tCons (tOp rMul (tVar 4) (tOp rAdd (tOp rDiv (tVar 4) (tC (.int 1009))) (tC (.int 69621)))) tNil)) (tVar 3)) (gName 4))
  (tSeq (tAsg (tOp rMod (tCB rInt (tCons (tOp rMul (tVar 4) (tOp rAdd (tOp rDiv (tVar 4) (tC (.int 2003))) (tC (.int 40692)))) tNil)) (tC (.int 2147483399))) (gName 4))
  (tRet (tOp rMod (tCB rInt (tCons (tOp rDiv (tVar 4) (tC (.int 7))) tNil)) (tVar 1))))))))))
theorem Wd.chg_one {H' : Hp} {o : HO} {a : Addr} (W : Wd H H' [a] ((a, o) :: L)) : Chg H H' [(a, o)] [] :=
  W.done (fun q hq => by rw [List.mem_singleton.mp hq]; exact List.mem_cons_self) (fun q hq => hq) (fun q z => nomatch z) List.nodup_nil
theorem b_law_next (h : sp_law_next K c vs H Q E) : t_law_next K c (en0 Q) (st0 5 vs) H := by
  obtain ⟨a, o, n, rfl, ha, ⟨z0, z1, z2, rfl⟩, h0, hn, k⟩ := h
  have W : Wd H H [a] [(a, .lst [.int z0, .int z1, .int z2])] := (Wd.one ha).may List.mem_cons_self
  unfold t_law_next
  walk_at "rd"
  refine rd_ixL (by walk_at "sq") (v := .int z0) rfl ?_
  walk_at "rd"
  refine rd_2d (fun h1 => ?_) fun h1 => ?_
  · walk_at "rd"
    refine rd_ixL (by walk_at "sq") (v := .int z0) rfl ?_
    walk_at "rd"
    refine rd_ixL (by walk_at "sq") (v := .int z0) rfl ?_
    walk_at "rd"
    refine rd_div (div_ok (k := 8000) h0 hn (by decide) (by decide)) ?_
    walk_at "rd"
    refine rd_setL W (j := 0) rfl (by walk_at "rp") (by walk_at "may") fun H1 W1 => ?_
    walk_at "rd"
    exact k _ _ H1 (Int.emod_nonneg _ (by omega)) (Int.emod_lt_of_pos _ h0) ⟨_, _, _, rfl⟩ W1.chg_one
  · walk_at "rd"
    refine rd_ixL (by walk_at "sq") (v := .int z2) rfl ?_
    walk_at "rd"
    refine rd_setL W (j := 2) rfl (by walk_at "rp") (by walk_at "may") fun H1 W1 => ?_
    walk_at "rd"
    refine rd_ixL (by walk_at "sq") (v := .int z1) rfl ?_
    walk_at "rd"
    refine rd_ixL (by walk_at "sq") (v := .int (z2 + 1)) rfl ?_
    refine rd_mul (mul_okL (by decide) (by decide)) ?_
    walk_at "rd"
    generalize h4 : (z1 + 104729 * (z2 + 1) + 7919) % 2147483647 = y1
    have b1 : 0 ≤ y1 ∧ y1 < 2147483647 := by omega
    refine rd_mul (mul_okR (by decide) (by decide)) ?_
    walk_at "rd"
    generalize h5 : y1 * 48271 % 2147483647 = y2
    have b2 : 0 ≤ y2 ∧ y2 < 2147483647 := by omega
    refine rd_div (div_ok64 (by decide) (by decide)) ?_
    walk_at "rd"
    refine rd_mul (mul_okL (by omega) (by omega)) ?_
    walk_at "rd"
    generalize h6 : y2 * (y2 / 1009 + 69621) % 2147483647 = y3
    have b3 : 0 ≤ y3 ∧ y3 < 2147483647 := ⟨by rw [← h6]; exact Int.emod_nonneg _ (by decide), by rw [← h6]; exact Int.emod_lt_of_pos _ (by decide)⟩
    refine rd_div (div_ok64 (by decide) (by decide)) ?_
    walk_at "rd"
    refine rd_mul (mul_okL (by omega) (by omega)) ?_
    walk_at "rd"
    refine rd_div (div_ok64 (by decide) (by decide)) ?_
    walk_at "rd"
    exact k _ _ H1 (Int.emod_nonneg _ (by omega)) (Int.emod_lt_of_pos _ h0) ⟨_, _, _, rfl⟩ W1.chg_one
/-- a draw, for those who call -/
theorem u_next (W : Wd H0 H M L) (hr : ∀ u, Rp a o u L (L' u)) (ho : SrcO o) (hm : H0 a = none ∨ a ∈ M) (h0 : 0 < n) (hn : n < 2 ^ 64) (q : ∀ r o' H', 0 ≤ r → r < n → SrcO o' → Wd H0 H' M (L' o') → Q (.int r) H') : sp_law_next K c [.ref a, .int n] H Q E :=
  ⟨a, o, n, rfl, W.get (hr o).mem, ho, h0, nxt64 h0 hn, fun r o' H' h1 h2 h3 ch => q r o' H' h1 h2 h3 (W.chg1 (hr o') ch hm)⟩
/-! one of some -/
def sp_law_one (K : PySem.W.Frag) (c : Pc) : Sp := fun vs H Q _ => ∃ a o l xs, vs = [.ref a, .ref l] ∧ H a = some o ∧ SrcO o ∧ H l = some (.lst xs) ∧ xs ≠ [] ∧ xs.length ≤ 1000 ∧ a ≠ l ∧ ∀ v o' H', v ∈ xs → SrcO o' → Chg H H' [(a, o')] [] → Q v H'
def t_law_one (K : PySem.W.Frag) (c : Pc) : TS :=
  (tRet (tOp (rIxL K) (tVar 1) (tCall (sp_law_next K c) [] E0 (tCons (tVar 0) (tCons (tCB (rLen K) (tCons (tVar 1) tNil)) tNil)))))
theorem b_law_one (h : sp_law_one K c vs H Q E) : t_law_one K c (en0 Q) (st0 2 vs) H := by
  obtain ⟨a, o, l, xs, rfl, ha, ho, hl, hne, hlen, nal, k⟩ := h
  have W : Wd H H [a] [(a, o), (l, .lst xs)] := ((Wd.one hl).old ha (by simpa using nal)).may List.mem_cons_self
  have hpos : 0 < xs.length := List.length_pos_iff.mpr hne
  unfold t_law_one
  walk_at "rd"
  refine u_next W (fun u => by walk_at "rp") ho (by walk_at "may") (by omega) (by omega) fun r o' H1 h1 h2 ho' W1 => ?_
  have hlt : r.toNat < xs.length := by omega
  refine rd_ixL (by walk_at "sq") (v := xs[r.toNat]'hlt) (at_of (j := r.toNat) (by omega) (List.getElem?_eq_getElem _)) ?_
  exact k _ o' H1 (List.getElem_mem _) ho' W1.chg_one
theorem u_one {l : Addr} {xs : List V} (W : Wd H0 H M L) (hr : ∀ u, Rp a o u L (L' u)) (ho : SrcO o) (hm : H0 a = none ∨ a ∈ M) (hl : (l, .lst xs) ∈ L) (nal : a ≠ l) (hne : xs ≠ []) (hlen : xs.length ≤ 1000) (q : ∀ v o' H', v ∈ xs → SrcO o' → Wd H0 H' M (L' o') → Q v H') : sp_law_one K c [.ref a, .ref l] H Q E :=
  ⟨a, o, l, xs, rfl, W.get (hr o).mem, ho, W.get hl, hne, hlen, nal, fun v o' H' h1 h2 ch => q v o' H' h1 h2 (W.chg1 (hr o') ch hm)⟩
end

/-! Eqs: == of lists of integers; further draws. -/
/-! ### lists of integers compared -/
def dI (ns : List Int) : List PyData := ns.map PyData.int
theorem dI_lay : ∀ ns : List Int, PyData.canLayAll0 (dI ns) = true
  | [] => by simp [dI, PyData.canLayAll0]
  | n :: ns => by
    show PyData.canLayAll0 (PyData.int n :: dI ns) = true
    rw [PyData.canLayAll0, dI_lay ns]
    simp [PyData.canLay0]
theorem dI_depth : ∀ ns : List Int, PyData.depthAll (dI ns) = 0
  | [] => by simp [dI, PyData.depthAll]
  | n :: ns => by
    show PyData.depthAll (PyData.int n :: dI ns) = 0
    rw [PyData.depthAll, dI_depth ns]
    simp [PyData.depth]
theorem dI_eqv : ∀ ns ms : List Int, PyData.eqvAll (dI ns) (dI ms) = decide (ns = ms)
  | [], [] => by simp [dI, PyData.eqvAll]
  | [], _ :: _ => by simp [dI, PyData.eqvAll]
  | _ :: _, [] => by simp [dI, PyData.eqvAll]
  | n :: ns, m :: ms => by
    show PyData.eqvAll (PyData.int n :: dI ns) (PyData.int m :: dI ms) = _
    rw [PyData.eqvAll, dI_eqv ns ms, PyData.eqv]
    by_cases h1 : n = m
    · by_cases h2 : ns = ms
      · simp [h1, h2]
      · simp [h1, h2]
    · simp [h1]
theorem shaped_list (ns : List Int) : SeqAt.shaped (.list (dI ns)) = true := by
  unfold SeqAt.shaped
  rw [PyData.canLay0, dI_lay, PyData.depth, dI_depth]
  rfl
theorem dpI {K : PySem.W.Frag} {H : Hp} : ∀ ns : List Int, DpAll K H (ns.map V.int) (dI ns)
  | [] => .nil
  | n :: ns => .cons (.int n) (dpI ns)
section
variable {K : PySem.W.Frag} {c : Pc} {vs : List V} {H H0 : Hp} {Q : VK} {E : XK} {M : List Addr} {L : List (Addr × HO)} {L' : HO → List (Addr × HO)} {n : Int} {a p l : Addr} {o : HO} {ns ms : List Int} {ds : List Nat}
theorem rd_neLI (h1 : SqL K H l (ns.map V.int)) (h2 : SqL K H p (ms.map V.int)) (q : Q (.bl (!decide (ns = ms))) H) : rNeD K (.ref l) (.ref p) H Q :=
  ⟨_, _, .lst h1 (dpI ns), .lst h2 (dpI ms), shaped_list ns, shaped_list ms, by rw [PyData.eqv, dI_eqv]; exact q⟩
theorem rd_eqLI (h1 : SqL K H l (ns.map V.int)) (h2 : SqL K H p (ms.map V.int)) (q : Q (.bl (decide (ns = ms))) H) : rEqD K (.ref l) (.ref p) H Q :=
  ⟨_, _, .lst h1 (dpI ns), .lst h2 (dpI ms), shaped_list ns, shaped_list ms, by rw [PyData.eqv, dI_eqv]; exact q⟩
theorem iN_int (ds : List Nat) : iN ds = (ds.map fun (d : Nat) => (d : Int)).map V.int := by unfold iN; rw [List.map_map]; rfl
theorem rd_neN (h1 : SqL K H l (iN ds)) (h2 : SqL K H p []) (q : Q (.bl (!decide (ds = []))) H) : rNeD K (.ref l) (.ref p) H Q := by
  rw [iN_int] at h1
  refine rd_neLI (ms := []) h1 h2 ?_
  have e : (ds.map fun (d : Nat) => (d : Int)) = [] ↔ ds = [] := by simp
  have e2 : decide ((ds.map fun (d : Nat) => (d : Int)) = []) = decide (ds = []) := by
    by_cases h : ds = []
    · rw [decide_eq_true h, decide_eq_true (e.mpr h)]
    · rw [decide_eq_false h, decide_eq_false (fun z => h (e.mp z))]
  rw [e2]
  exact q
/-! ### a number of the script -/
def sp_law_cell_at (K : PySem.W.Frag) (c : Pc) : Sp := fun vs H Q _ => ∃ (a : Addr) (ns : List Int) (i : Int), vs = [.ref a, .int i] ∧ SqL K H a (ns.map V.int) ∧ ns.length ≤ 1000 ∧ ∀ n H', Same H H' → Q (.int n) H'
def t_law_cell_at (K : PySem.W.Frag) (c : Pc) : TS :=
  (tRet (tOp (rIxL K) (tOp rCat (tSl (rSlL K) (tVar 0) (tPart (tVar 1)) (tPart (tOp rAdd (tVar 1) (tC (.int 1))))) (tLst (tCons (tC (.int 0)) tNil))) (tC (.int 0))))
theorem cut_ints (ns : List Int) (lo hi : Option Int) : ∃ ms : List Int, cutV (ns.map V.int) lo hi = ms.map V.int ∧ ms.length ≤ ns.length := by
  unfold cutV
  rw [← List.map_drop, ← List.map_take]
  exact ⟨_, rfl, by rw [List.length_take, List.length_drop]; omega⟩
theorem b_law_cell_at (h : sp_law_cell_at K c vs H Q E) : t_law_cell_at K c (en0 Q) (st0 2 vs) H := by
  obtain ⟨a, ns, i, rfl, ha, hl, k⟩ := h
  unfold t_law_cell_at
  walk_at "rd"
  obtain ⟨ms, e, hm⟩ := cut_ints ns (some i) (some (i + 1))
  refine rd_slL (Wd.nil H) ha e fun p H1 hp W1 => ?_
  walk_at "rd"
  refine rd_kLst W1 (by walk_at "len") fun q H2 hq W2 => ?_
  refine rd_cat W2 (by walk_at "own") (by walk_at "own") (by rw [List.length_map]; exact Evl.sz_of (by simp; omega)) fun r H3 hr W3 => ?_
  walk_at "rd"
  cases ms with
  | nil =>
    refine rd_ixL (by walk_at "sq") (v := .int 0) rfl ?_
    exact k _ H3 W3.toSame
  | cons m ms =>
    refine rd_ixL (by walk_at "sq") (v := .int m) (at_of (j := 0) rfl rfl) ?_
    exact k _ H3 W3.toSame
/-! ### new machines -/
theorem rd_mkMachine {b : Nat} {cut : Int} (W : Wd H0 H M L) (h1 : 8 ≤ b) (h2 : b ≤ 30) (h3 : 2 ≤ cut) (h4 : cut ≤ 1000)
    (q : ∀ x dx d e H', H0 x = none → H0 d = none → H0 e = none → Wd H0 H' M ((d, .dK (cK zeros)) :: (e, .lst []) :: (x, .ins c.CMachine dx (mF b cut d e)) :: L) → Q (.ref x) H') : kMake c.CMachine (sp_Machine_init K c) [] E Q [.int (b : Int), .int cut] H := by
  intro x dx hx hdx ne
  have W1 := W.new (o := .own x) hdx
  have hx1 : upd H dx (.own x) x = none := by rw [upd_ne (Ne.symm ne)]; exact hx
  have W2 := W1.new (o := .ins c.CMachine dx []) hx1
  refine ⟨x, dx, b, cut, rfl, h1, h2, h3, h4, upd_same, fun d e H' ch => ⟨rfl, ?_⟩⟩
  have W3 := W2.chg1 Rp.here ch (.inl (W.fresh hx))
  have hno : dx ∉ M := fun z => W.out hdx (W.sub dx z)
  have hd0 : H0 d = none := W2.fresh (ch.new (o := .dK (cK zeros)) (by walk_at "mem")).1
  have he0 : H0 e = none := W2.fresh (ch.new (o := .lst []) (by walk_at "mem")).1
  refine q x dx d e H' (W.fresh hx) hd0 he0 ?_
  have W4 : Wd H0 H' M ((dx, .own x) :: (d, .dK (cK zeros)) :: (e, .lst []) :: (x, .ins c.CMachine dx (mF b cut d e)) :: L) := W3.perm (List.perm_middle (l₁ := [_, _, _]) (l₂ := L))
  exact W4.drop1 hno
def sp_law_machine (K : PySem.W.Frag) (c : Pc) : Sp := fun vs H Q _ => ∃ a o, vs = [.ref a] ∧ H a = some o ∧ SrcO o ∧
  ∀ (x dx : Addr) (b : Nat) (cut : Int) (d e : Addr) o' H', 8 ≤ b → b ≤ 30 → 2 ≤ cut → cut ≤ 1000 → SrcO o' → Chg H H' [(a, o')] [(d, .dK (cK zeros)), (e, .lst []), (x, .ins c.CMachine dx (mF b cut d e))] → Q (.ref x) H'
def t_law_machine (K : PySem.W.Frag) (c : Pc) : TS :=
  (tSeq (tAsg (tCall (sp_law_one K c) [] E0 (tCons (tVar 0) (tCons (tLst (tCons (tC (.int 8)) (tCons (tC (.int 8)) (tCons (tC (.int 9)) (tCons (tC (.int 15)) (tCons (tC (.int 30)) (tCons (tC (.int 30)) (tCons (tOp rAdd (tC (.int 8)) (tCall (sp_law_next K c) [] E0 (tCons (tVar 0) (tCons (tC (.int 23)) tNil)))) tNil)))))))) tNil))) (gName 1))
  (tRet (tMake c.CMachine (sp_Machine_init K c) [] E0 (tCons (tVar 1) (tCons (tOp rAdd (tC (.int 2)) (tCall (sp_law_next K c) [] E0 (tCons (tVar 0) (tCons (tC (.int 8)) tNil)))) tNil)))))
theorem Wd.ne_new {H' : Hp} {a p : Addr} {u : HO} (W : Wd H0 H' M L) (h1 : (a, o) ∈ L) (h2 : (p, u) ∈ L) (h : o ≠ u) : a ≠ p := fun z => by
  have e1 := W.get h1
  have e2 := W.get h2
  rw [z, e2] at e1
  exact h (Option.some.inj e1).symm
theorem Wd.ne2 {H' : Hp} {q r : Addr × HO} (W : Wd H0 H' M (q :: r :: L)) : q.1 ≠ r.1 := fun z => by
  have := (List.nodup_cons.mp (show (q.1 :: r.1 :: L.map (·.1)).Nodup from W.nd)).1
  exact this (by rw [z]; exact List.mem_cons_self)
theorem b_law_machine (h : sp_law_machine K c vs H Q E) : t_law_machine K c (en0 Q) (st0 2 vs) H := by
  obtain ⟨a, o, rfl, ha, ho, k⟩ := h
  have W : Wd H H [a] [(a, o)] := (Wd.one ha).may List.mem_cons_self
  unfold t_law_machine
  walk_at "rd"
  refine u_next W (fun u => by walk_at "rp") ho (by walk_at "may") (by decide) (by decide) fun r o1 H1 h1 h2 ho1 W1 => ?_
  walk_at "rd"
  refine rd_kLst W1 (by walk_at "len") fun l H2 hl W2 => ?_
  walk_at "rd"
  refine u_one W2 (fun u => by walk_at "rp") ho1 (by walk_at "may") (by walk_at "mem") (Ne.symm W2.ne2) (by simp) (by simp) fun v o2 H3 hv ho2 W3 => ?_
  obtain ⟨b, rfl, hb1, hb2⟩ : ∃ b : Nat, v = .int (b : Int) ∧ 8 ≤ b ∧ b ≤ 30 := by
    simp only [List.mem_cons, List.not_mem_nil, or_false] at hv
    rcases hv with rfl | rfl | rfl | rfl | rfl | rfl | rfl
    · exact ⟨8, rfl, by decide, by decide⟩
    · exact ⟨8, rfl, by decide, by decide⟩
    · exact ⟨9, rfl, by decide, by decide⟩
    · exact ⟨15, rfl, by decide, by decide⟩
    · exact ⟨30, rfl, by decide, by decide⟩
    · exact ⟨30, rfl, by decide, by decide⟩
    · exact ⟨(8 + r).toNat, by congr 1; omega, by omega, by omega⟩
  walk_at "rd"
  refine u_next W3 (fun u => by walk_at "rp") ho2 (by walk_at "may") (by decide) (by decide) fun r2 o3 H4 h3 h4 ho3 W4 => ?_
  walk_at "rd"
  refine rd_mkMachine W4 hb1 hb2 (by omega) (by omega) fun x dx d e H5 hx hd he W5 => ?_
  refine k x dx b (2 + r2) d e o3 H5 hb1 hb2 (by omega) (by omega) ho3 (W5.done (fun q hq => ?_) (fun q hq => hq) (fun q hq => ?_) ?_)
  · rw [List.mem_singleton.mp hq]; walk_at "mem"
  · simp only [List.mem_cons, List.not_mem_nil, or_false] at hq
    rcases hq with rfl | rfl | rfl
    · exact ⟨by walk_at "mem", hd⟩
    · exact ⟨by walk_at "mem", he⟩
    · exact ⟨by walk_at "mem", hx⟩
  · exact W5.nd.sublist (List.Sublist.map _ (List.Sublist.cons₂ _ (List.Sublist.cons₂ _ (List.Sublist.cons₂ _ (List.nil_sublist _)))))
theorem u_machine (W : Wd H0 H M L) (hr : ∀ u, Rp a o u L (L' u)) (ho : SrcO o) (hm : H0 a = none ∨ a ∈ M)
    (q : ∀ (x dx : Addr) (b : Nat) (cut : Int) (d e : Addr) o' H', 8 ≤ b → b ≤ 30 → 2 ≤ cut → cut ≤ 1000 → SrcO o' → Wd H0 H' M ((d, .dK (cK zeros)) :: (e, .lst []) :: (x, .ins c.CMachine dx (mF b cut d e)) :: L' o') → Q (.ref x) H') : sp_law_machine K c [.ref a] H Q E :=
  ⟨a, o, rfl, W.get (hr o).mem, ho, fun x dx b cut d e o' H' h1 h2 h3 h4 h5 ch => q x dx b cut d e o' H' h1 h2 h3 h4 h5 (W.chg1 (hr o') ch hm)⟩
end

/-! Bigs2: further of machines and Bigs. -/
/-! ### what stays of a Big -/
/-- a thing that calls may change: a list or a dict -/
def Chb (o : HO) : Prop := (∃ xs, o = .lst xs) ∨ ∃ kvs, o = .dK kvs
section
variable {K : PySem.W.Frag} {c : Pc} {vs : List V} {H H0 H' : Hp} {Q : VK} {E : XK} {M : List Addr} {L : List (Addr × HO)} {b : Nat} {s cut n : Int} {a m d e dx r x l p : Addr} {ds : List Nat} {cs ns : List (Addr × HO)}
theorem BigAt.chg (h : BigAt c H x b n) (ch : Chg H H' cs ns) (hc : ∀ q ∈ cs, ∃ o, H q.1 = some o ∧ Chb o) : BigAt c H' x b n := by
  obtain ⟨dx, r, h1, h2⟩ := h.at_
  refine ⟨dx, r, ch.keep _ _ h1 fun z => ?_, ch.keep _ _ h2 fun z => ?_⟩
  · obtain ⟨q, hq, e⟩ := List.mem_map.mp z
    obtain ⟨o, ho, hb⟩ := hc q hq
    rw [e, h1] at ho
    rcases hb with ⟨xs, rfl⟩ | ⟨kvs, rfl⟩ <;> cases ho
  · obtain ⟨q, hq, e⟩ := List.mem_map.mp z
    obtain ⟨o, ho, hb⟩ := hc q hq
    rw [e, h2] at ho
    rcases hb with ⟨xs, rfl⟩ | ⟨kvs, rfl⟩ <;> cases ho
theorem NewBig.at (h : ∀ x H', Chg H H' [] [] → H x = none → BigAt c H' x b n → Q (.ref x) H') : NewBig c Q H b (sgn n) (digs b n.natAbs) := fun x dx r H' ch =>
  h x H' (.of_same fun q o z => ch.keep q o z fun y => nomatch y) (ch.new List.mem_cons_self).1 ⟨dx, r, (ch.new List.mem_cons_self).2, (ch.new (List.mem_cons_of_mem _ List.mem_cons_self)).2⟩
/-! ### parts, walk -/
def sp_Machine_parts (K : PySem.W.Frag) (c : Pc) : Sp := fun vs H Q _ => ∃ (a dx : Addr) (b : Nat) (cut : Int) (d e : Addr), vs = [.ref a] ∧ H a = some (.ins c.CMachine dx (mF b cut d e)) ∧ ∀ p H', Chg H H' [] [(p, .tup [.int (b : Int), .int cut])] → Q (.ref p) H'
def t_Machine_parts (K : PySem.W.Frag) (c : Pc) : TS :=
  (tRet (tTup (tCons (tFld K (tVar 0) "width") (tCons (tFld K (tVar 0) "limit_of_rows") tNil))))
theorem b_Machine_parts (P : PM K c) (h : sp_Machine_parts K c vs H Q E) : t_Machine_parts K c (en0 Q) (st0 1 vs) H := by
  obtain ⟨a, dx, b, cut, d, e, rfl, ha, k⟩ := h
  unfold t_Machine_parts
  walk_at "rd"
  refine rd_Mwidth P ha ?_
  walk_at "rd"
  refine rd_Mlimit P ha ?_
  walk_at "rd"
  refine rd_kTup (Wd.nil H) (by walk_at "len") fun p H1 hp W => ?_
  exact k p H1 (W.new1 hp)
def sp_Machine_walk (K : PySem.W.Frag) (c : Pc) : Sp := fun vs H Q _ => ∃ (a dx : Addr) (b : Nat) (cut : Int) (d e : Addr) (xs : List V), vs = [.ref a] ∧ H a = some (.ins c.CMachine dx (mF b cut d e)) ∧ H e = some (.lst xs) ∧ ∀ p H', Chg H H' [] [(p, .lst xs)] → Q (.ref p) H'
def t_Machine_walk (K : PySem.W.Frag) (c : Pc) : TS :=
  (tRet (tCB (rList K) (tCons (tFld K (tVar 0) "entered") tNil)))
theorem b_Machine_walk (P : PM K c) (h : sp_Machine_walk K c vs H Q E) : t_Machine_walk K c (en0 Q) (st0 1 vs) H := by
  obtain ⟨a, dx, b, cut, d, e, xs, rfl, ha, he, k⟩ := h
  unfold t_Machine_walk
  walk_at "rd"
  refine rd_Mentered P ha ?_
  walk_at "rd"
  refine rd_list (Wd.nil H) (.inl (SqL.of he)) fun p H1 hp W => ?_
  exact k p H1 (W.new1 hp)
/-! ### sign, digits, bits -/
def sp_Big_sign (K : PySem.W.Frag) (c : Pc) : Sp := fun vs H Q _ => ∃ x b n, vs = [.ref x] ∧ BigAt c H x b n ∧ Q (.int (sgn n)) H
def t_Big_sign (K : PySem.W.Frag) (c : Pc) : TS := (tRet (tFld K (tVar 0) "side"))
theorem b_Big_sign (P : PB K c) (h : sp_Big_sign K c vs H Q E) : t_Big_sign K c (en0 Q) (st0 1 vs) H := by
  obtain ⟨x, b, n, rfl, ⟨dx, r, hx, hr⟩, q⟩ := h
  unfold t_Big_sign
  walk_at "rd"
  exact rd_Bside P hx q
def sp_Big_bits (K : PySem.W.Frag) (c : Pc) : Sp := fun vs H Q _ => ∃ x b n, vs = [.ref x] ∧ BigAt c H x b n ∧ Q (.int (b : Int)) H
def t_Big_bits (K : PySem.W.Frag) (c : Pc) : TS := (tRet (tFld K (tVar 0) "width"))
theorem b_Big_bits (P : PB K c) (h : sp_Big_bits K c vs H Q E) : t_Big_bits K c (en0 Q) (st0 1 vs) H := by
  obtain ⟨x, b, n, rfl, ⟨dx, r, hx, hr⟩, q⟩ := h
  unfold t_Big_bits
  walk_at "rd"
  exact rd_Bwidth P hx q
def sp_Big_digits (K : PySem.W.Frag) (c : Pc) : Sp := fun vs H Q _ => ∃ x b n, vs = [.ref x] ∧ BigAt c H x b n ∧ ∀ p H', Chg H H' [] [(p, .lst (iN (digs b n.natAbs)))] → Q (.ref p) H'
def t_Big_digits (K : PySem.W.Frag) (c : Pc) : TS := (tRet (tCB (rList K) (tCons (tFld K (tVar 0) "row") tNil)))
theorem b_Big_digits (P : PB K c) (h : sp_Big_digits K c vs H Q E) : t_Big_digits K c (en0 Q) (st0 1 vs) H := by
  obtain ⟨x, b, n, rfl, ⟨dx, r, hx, hr⟩, k⟩ := h
  unfold t_Big_digits
  walk_at "rd"
  refine rd_Brow P hx ?_
  walk_at "rd"
  refine rd_list (Wd.nil H) (.inr (SqT.of hr)) fun p H1 hp W => ?_
  exact k p H1 (W.new1 hp)
/-! ### == of Bigs -/
theorem shaped_tri (b s : Int) (ns : List Int) : SeqAt.shaped (.tuple [.int b, .int s, .tuple (dI ns)]) = true := by
  unfold SeqAt.shaped
  simp only [PyData.canLay0, PyData.canLayAll0, dI_lay, PyData.depth, PyData.depthAll, dI_depth]
  decide
theorem eqv_tri (b s b' s' : Int) (ns ms : List Int) : PyData.eqv (.tuple [.int b, .int s, .tuple (dI ns)]) (.tuple [.int b', .int s', .tuple (dI ms)]) = decide (b = b' ∧ s = s' ∧ ns = ms) := by
  simp only [PyData.eqv, PyData.eqvAll, dI_eqv]
  by_cases h1 : b = b' <;> by_cases h2 : s = s' <;> by_cases h3 : ns = ms <;> simp [h1, h2, h3]
def sp_Big_eq (K : PySem.W.Frag) (c : Pc) : Sp := fun vs H Q _ => ∃ x b n y, vs = [.ref x, y] ∧ BigAt c H x b n ∧ b ≠ 0 ∧
  ((∃ x' b' n', y = .ref x' ∧ BigAt c H x' b' n' ∧ b' ≠ 0 ∧ ∀ H', Same H H' → Q (.bl (decide (b = b' ∧ n = n'))) H') ∨ (∃ t, TyX K H y t ∧ PySem.W.kitOne K t (.ref c.CBig) = some false ∧ Q (.bl false) H))
def t_Big_eq (K : PySem.W.Frag) (c : Pc) : TS :=
  (tRet (tAndV (tCB (rIsi K) (tCons (tVar 1) (tCons (tC (.ref c.CBig)) tNil))) (tOp (rEqD K) (tTup (tCons (tFld K (tVar 0) "width") (tCons (tFld K (tVar 0) "side") (tCons (tFld K (tVar 0) "row") tNil)))) (tTup (tCons (tFld K (tVar 1) "width") (tCons (tFld K (tVar 1) "side") (tCons (tFld K (tVar 1) "row") tNil)))))))
theorem castL_inj : ∀ {xs ys : List Nat}, (xs.map fun (d : Nat) => (d : Int)) = (ys.map fun (d : Nat) => (d : Int)) → xs = ys
  | [], [], _ => rfl
  | [], _ :: _, h => by simp at h
  | _ :: _, [], h => by simp at h
  | x :: xs, y :: ys, h => by
    rw [List.map_cons, List.map_cons] at h
    obtain ⟨h1, h2⟩ := List.cons.inj h
    rw [castL_inj h2, Int.ofNat.inj h1]
theorem big_eq_iff {b b' : Nat} {n n' : Int} (hb : b ≠ 0) (hb' : b' ≠ 0) : ((b : Int) = (b' : Int) ∧ sgn n = sgn n' ∧ ((digs b n.natAbs).map fun (d : Nat) => (d : Int)) = ((digs b' n'.natAbs).map fun (d : Nat) => (d : Int))) ↔ (b = b' ∧ n = n') := by
  constructor
  · rintro ⟨h1, h2, h3⟩
    have e : b = b' := by omega
    subst e
    refine ⟨rfl, ?_⟩
    have h4 : digs b n.natAbs = digs b n'.natAbs := by
      exact castL_inj h3
    have h5 := congrArg (val b) h4
    rw [val_digs hb, val_digs hb] at h5
    rw [← sgn_mul n, ← sgn_mul n', h2, h5]
  · rintro ⟨rfl, rfl⟩
    exact ⟨rfl, rfl, rfl⟩
theorem b_Big_eq (P : PB K c) (h : sp_Big_eq K c vs H Q E) : t_Big_eq K c (en0 Q) (st0 2 vs) H := by
  obtain ⟨x, b, n, y, rfl, ⟨dx, r, hx, hr⟩, hb, h⟩ := h
  unfold t_Big_eq
  walk_at "rd"
  rcases h with ⟨x', b', n', rfl, ⟨dx', r', hx', hr'⟩, hb', k⟩ | ⟨t, ty, ht, q⟩
  · refine isi_own P.isc hx' ?_
    walk_at "rd"
    refine rd_T rfl ?_
    walk_at "rd"
    refine rd_Bwidth P hx ?_
    walk_at "rd"
    refine rd_Bside P hx ?_
    walk_at "rd"
    refine rd_Brow P hx ?_
    walk_at "rd"
    refine rd_kTup (Wd.nil H) (by walk_at "len") fun p H1 hp W1 => ?_
    have s1 := W1.toSame
    walk_at "rd"
    refine rd_Bwidth P (s1 _ _ hx') ?_
    walk_at "rd"
    refine rd_Bside P (s1 _ _ hx') ?_
    walk_at "rd"
    refine rd_Brow P (s1 _ _ hx') ?_
    walk_at "rd"
    refine rd_kTup W1 (by walk_at "len") fun p2 H2 hp2 W2 => ?_
    have s2 := W2.toSame
    have r1 : SqT K H2 r (((digs b n.natAbs).map fun (d : Nat) => (d : Int)).map V.int) := by rw [← iN_int]; exact SqT.of (s2 _ _ hr)
    have r2 : SqT K H2 r' (((digs b' n'.natAbs).map fun (d : Nat) => (d : Int)).map V.int) := by rw [← iN_int]; exact SqT.of (s2 _ _ hr')
    refine ⟨_, _, .tup (SqT.of (W2.get (by walk_at "mem"))) (.cons (.int _) (.cons (.int _) (.cons (.tup r1 (dpI _)) .nil))), .tup (SqT.of (W2.get (by walk_at "mem"))) (.cons (.int _) (.cons (.int _) (.cons (.tup r2 (dpI _)) .nil))), shaped_tri _ _ _, shaped_tri _ _ _, ?_⟩
    rw [eqv_tri]
    have e : decide ((b : Int) = (b' : Int) ∧ sgn n = sgn n' ∧ ((digs b n.natAbs).map fun (d : Nat) => (d : Int)) = ((digs b' n'.natAbs).map fun (d : Nat) => (d : Int))) = decide (b = b' ∧ n = n') := decide_eq_decide.mpr (big_eq_iff hb hb')
    rw [e]
    exact k H2 s2
  · refine (show rIsi K [y, .ref c.CBig] H _ from ⟨y, _, t, _, false, rfl, .own _, ty, ht, ?_⟩)
    walk_at "rd"
    refine rd_F rfl ?_
    exact q
/-! ### plain -/
def sp_value_of (K : PySem.W.Frag) (c : Pc) : Sp := fun vs H Q _ => ∃ x b n, vs = [.ref x] ∧ BigAt c H x b n ∧ bigL b n ∧ ∀ H', Same H H' → Q (.int n) H'
def t_value_of (K : PySem.W.Frag) (c : Pc) : TS :=
  (tSeq (tAsg (tC (.int 0)) (gName 1))
  (tSeq (tFor (iTup K (tRevT K (tFld K (tVar 0) "row"))) (gName 2) (tAsg (tOp rOr (tOp rShl (tVar 1) (tFld K (tVar 0) "width")) (tVar 2)) (gName 1)))
  (tRet (tOp rMul (tFld K (tVar 0) "side") (tVar 1)))))
theorem fold_val (b : Nat) (ds : List Nat) : ds.reverse.foldl (fun r d => r * 2 ^ b + d) 0 = val b ds := by
  rw [List.foldl_reverse]
  induction ds with
  | nil => rfl
  | cons d ds ih => rw [List.foldr_cons, ih, val_cons, Nat.add_comm, Nat.mul_comm]
theorem fold_lt {b : Nat} : ∀ {ds : List Nat} (k : Nat), Digs b ds → k < 2 ^ 0 → ds.foldl (fun r d => r * 2 ^ b + d) k < 2 ^ (b * ds.length) := by
  have key : ∀ (ds : List Nat) (k j : Nat), Digs b ds → k < 2 ^ j → ds.foldl (fun r d => r * 2 ^ b + d) k < 2 ^ (b * ds.length + j) := by
    intro ds
    induction ds with
    | nil => intro k j _ hk; simpa using hk
    | cons d ds ih =>
      intro k j hd hk
      have h1 := ih (k * 2 ^ b + d) (b + j) (fun y hy => hd y (List.mem_cons_of_mem _ hy)) (by
        have hdl := hd d List.mem_cons_self
        have : (k + 1) * 2 ^ b ≤ 2 ^ j * 2 ^ b := Nat.mul_le_mul_right _ hk
        rw [Nat.add_mul, Nat.one_mul] at this
        rw [Nat.pow_add, Nat.mul_comm (2 ^ b)]
        omega)
      rw [List.foldl_cons, List.length_cons, Nat.mul_add, Nat.mul_one]
      rw [show b * ds.length + b + j = b * ds.length + (b + j) by omega]
      exact h1
  intro ds k hd hk
  have := key ds k 0 hd hk
  simpa using this
theorem b_value_of (P : PB K c) (h : sp_value_of K c vs H Q E) : t_value_of K c (en0 Q) (st0 3 vs) H := by
  obtain ⟨x, b, n, rfl, ⟨dx, r, hx, hr⟩, ⟨hb, hb30, hl⟩, q⟩ := h
  have nxr : x ≠ r := ne_of hx hr (by intro z; cases z)
  have W : Wd H H [] [(x, .ins c.CBig dx (bF b (sgn n) r)), (r, .tup (iN (digs b n.natAbs)))] := (Wd.one hr).old hx (by simpa using nxr)
  have hdg : Digs b (digs b n.natAbs).reverse := fun d hd => digs_lt hb _ d (List.mem_reverse.mp hd)
  unfold t_value_of
  walk_at "rd"
  refine rd_Brow P hx ?_
  refine rd_kRevT W (by walk_at "sq") fun t H1 ht W1 => ?_
  rw [iN_rev] at W1
  walk_at "rd"
  refine rd_forT (xs := iN (digs b n.natAbs).reverse) (fun i σ' H' => ∃ v, σ' = [some (.ref x), some (.int (((digs b n.natAbs).reverse.take i).foldl (fun r d => r * 2 ^ b + d) 0 : Nat)), v] ∧ H' = H1) ⟨none, rfl, rfl⟩ ?_ ?_ ?_
  · rintro i σ' H' _ ⟨v, _, rfl⟩
    walk_at "sq"
  · rintro i y σ' H' hy ⟨v, rfl, rfl⟩
    obtain ⟨d, hd, rfl⟩ := iN_of hy
    have hil : i < (digs b n.natAbs).length := by
      have := (List.getElem?_eq_some_iff.mp hd).1
      rwa [List.length_reverse] at this
    have hR := fold_lt (b := b) (ds := (digs b n.natAbs).reverse.take i) 0 (fun y hy => hdg y (List.mem_of_mem_take hy)) (by decide)
    rw [List.length_take, List.length_reverse, Nat.min_eq_left (by omega)] at hR
    have hdl : d < 2 ^ b := hdg d (List.mem_of_getElem? hd)
    generalize hRR : ((digs b n.natAbs).reverse.take i).foldl (fun r d => r * 2 ^ b + d) 0 = R at hR
    have hbi : b * i ≤ 30 * i := Nat.mul_le_mul_right _ hb30
    walk_at "rd"
    refine rd_Bwidth P (by walk_at "own") ?_
    refine rd_shl (shl_ok (n := b * i) (by simpa using hR) (by omega)) ?_
    walk_at "rd"
    rw [Int.toNat_natCast, or_low (Int.natCast_nonneg _) (Int.natCast_nonneg _) (by rw [pwN]; exact Int.ofNat_lt.mpr hdl)]
    refine ⟨some (.int (d : Int)), ?_, rfl⟩
    rw [take_snoc hd, List.foldl_append, hRR, pwN]
    rfl
  · rintro σ' H' ⟨v, rfl, rfl⟩
    rw [iN_length, List.take_length, fold_val, val_digs hb]
    have hs := sgn_small n
    walk_at "rd"
    refine rd_Bside P (by walk_at "own") ?_
    walk_at "rd"
    refine rd_mul (mul_okL (by omega) (by omega)) ?_
    rw [sgn_mul]
    exact q _ W1.toSame
def sp_plain (K : PySem.W.Frag) (c : Pc) : Sp := sp_value_of K c
def t_plain (K : PySem.W.Frag) (c : Pc) : TS :=
  (tSeq (tDrop (tCall (sp_check_any K c) [] E0 (tCons (tVar 0) tNil)))
  (tRet (tCall (sp_value_of K c) [] E0 (tCons (tVar 0) tNil))))
theorem b_plain (h : sp_plain K c vs H Q E) : t_plain K c (en0 Q) (st0 1 vs) H := by
  obtain ⟨x, b, n, rfl, B, hL, q⟩ := h
  obtain ⟨dx, r, hx, hr⟩ := B.at_
  unfold t_plain
  walk_at "rd"
  refine ⟨x, dx, _, rfl, hx, ?_⟩
  walk_at "rd"
  exact ⟨x, b, n, rfl, B, hL, q⟩
/-! ### negative, absolute -/
def sp_negative (K : PySem.W.Frag) (c : Pc) : Sp := fun vs H Q _ => ∃ x b n, vs = [.ref x] ∧ BigAt c H x b n ∧ ∀ x' H', H x' = none → Chg H H' [] [] → BigAt c H' x' b (-n) → Q (.ref x') H'
def t_negative (K : PySem.W.Frag) (c : Pc) : TS :=
  (tSeq (tDrop (tCall (sp_check_any K c) [] E0 (tCons (tVar 0) tNil)))
  (tRet (tMake c.CBig (sp_Big_init K c) [] E0 (tCons (tFld K (tVar 0) "width") (tCons (tOp rSub (tC (.int 0)) (tFld K (tVar 0) "side")) (tCons (tFld K (tVar 0) "row") tNil))))))
theorem sgn_neg (n : Int) : sgn (-n) = 0 - sgn n := by
  unfold sgn
  split <;> split <;> (try split) <;> (try split) <;> omega
theorem sgn_abs (n : Int) : sgn (n.natAbs : Int) = (if sgn n < 0 then -sgn n else sgn n) := by
  unfold sgn
  split <;> split <;> (try split) <;> (try split) <;> (try split) <;> omega
theorem b_negative (P : PB K c) (h : sp_negative K c vs H Q E) : t_negative K c (en0 Q) (st0 1 vs) H := by
  obtain ⟨x, b, n, rfl, ⟨dx, r, hx, hr⟩, k⟩ := h
  unfold t_negative
  walk_at "rd"
  refine ⟨x, dx, _, rfl, hx, ?_⟩
  walk_at "rd"
  refine rd_Bwidth P hx ?_
  walk_at "rd"
  refine rd_Bside P hx ?_
  walk_at "rd"
  refine rd_Brow P hx ?_
  walk_at "rd"
  refine rd_mkBig (Wd.nil H) fun x' dx' H' hx' W => ?_
  refine k x' H' hx' (.of_same W.toSame) ⟨dx', r, ?_, ?_⟩
  · rw [sgn_neg]; exact W.get List.mem_cons_self
  · rw [Int.natAbs_neg]; exact W.toSame _ _ hr
def sp_absolute (K : PySem.W.Frag) (c : Pc) : Sp := fun vs H Q _ => ∃ x b n, vs = [.ref x] ∧ BigAt c H x b n ∧ ∀ x' H', H x' = none → Chg H H' [] [] → BigAt c H' x' b (n.natAbs : Int) → Q (.ref x') H'
def t_absolute (K : PySem.W.Frag) (c : Pc) : TS :=
  (tSeq (tDrop (tCall (sp_check_any K c) [] E0 (tCons (tVar 0) tNil)))
  (tRet (tMake c.CBig (sp_Big_init K c) [] E0 (tCons (tFld K (tVar 0) "width") (tCons (tCB rAbs (tCons (tFld K (tVar 0) "side") tNil)) (tCons (tFld K (tVar 0) "row") tNil))))))
theorem b_absolute (P : PB K c) (h : sp_absolute K c vs H Q E) : t_absolute K c (en0 Q) (st0 1 vs) H := by
  obtain ⟨x, b, n, rfl, ⟨dx, r, hx, hr⟩, k⟩ := h
  unfold t_absolute
  walk_at "rd"
  refine ⟨x, dx, _, rfl, hx, ?_⟩
  walk_at "rd"
  refine rd_Bwidth P hx ?_
  walk_at "rd"
  refine rd_Bside P hx ?_
  walk_at "rd"
  refine rd_Brow P hx ?_
  walk_at "rd"
  refine rd_mkBig (Wd.nil H) fun x' dx' H' hx' W => ?_
  refine k x' H' hx' (.of_same W.toSame) ⟨dx', r, ?_, ?_⟩
  · rw [sgn_abs]; exact W.get List.mem_cons_self
  · rw [Int.natAbs_natCast]; exact W.toSame _ _ hr
end

/-! Rnd2: drawn rows of digits and numbers. -/
section
variable {K : PySem.W.Frag} {c : Pc} {vs : List V} {H H0 : Hp} {Q : VK} {E : XK} {M : List Addr} {L : List (Addr × HO)} {L' : HO → List (Addr × HO)} {n : Int} {a p l : Addr} {o : HO} {base most : Nat} {ds : List Nat}
def sp_law_digits (K : PySem.W.Frag) (c : Pc) : Sp := fun vs H Q _ => ∃ (a : Addr) (o : HO) (base most : Nat), vs = [.ref a, .int (base : Int), .int (most : Int)] ∧ H a = some o ∧ SrcO o ∧ 2 ≤ base ∧ base ≤ 2 ^ 30 ∧ most ≤ 10000 ∧
  ∀ (l : Addr) (ds : List Nat) o' H', ds.length ≤ most + 1 → (∀ d ∈ ds, d < base) → SrcO o' → Chg H H' [(a, o')] [(l, .lst (iN ds))] → Q (.ref l) H'
def t_law_digits (K : PySem.W.Frag) (c : Pc) : TS :=
  (tSeq (tAsg (tLst tNil) (gName 3))
  (tSeq (tFor (iRng1 (tCons (tCall (sp_law_next K c) [] E0 (tCons (tVar 0) (tCons (tOp rAdd (tVar 2) (tC (.int 1))) tNil))) tNil)) (gName 4) (tSeq (tAsg (tCall (sp_law_next K c) [] E0 (tCons (tVar 0) (tCons (tVar 1) tNil))) (gName 5))
  (tDrop (tBM K "list" rAppend (tVar 3) (tCons (tCall (sp_law_one K c) [] E0 (tCons (tVar 0) (tCons (tLst (tCons (tVar 5) (tCons (tVar 5) (tCons (tC (.int 0)) (tCons (tOp rSub (tVar 1) (tC (.int 1))) (tCons (tC (.int 1)) (tCons (tOp rDiv (tVar 1) (tC (.int 2))) tNil))))))) tNil))) tNil)))))
  (tRet (tIf (tTest (tOp (rNeD K) (tVar 3) (tLst tNil))) (tOp rCat (tVar 3) (tLst (tCons (tOp rAdd (tC (.int 1)) (tCall (sp_law_next K c) [] E0 (tCons (tVar 0) (tCons (tOp rSub (tVar 1) (tC (.int 1))) tNil)))) tNil))) (tVar 3)))))
/-- what a def has done: one thing changed, one new -/
theorem Wd.done11 {H' : Hp} {a p : Addr} {o u : HO} (W : Wd H H' [a] L) (h1 : (a, o) ∈ L) (h2 : (p, u) ∈ L) (hp : H p = none) : Chg H H' [(a, o)] [(p, u)] :=
  W.done (fun q hq => by rw [List.mem_singleton.mp hq]; exact h1) (fun q hq => hq) (fun q hq => by rw [List.mem_singleton.mp hq]; exact ⟨h2, hp⟩) one_nd
theorem b_law_digits (h : sp_law_digits K c vs H Q E) : t_law_digits K c (en0 Q) (st0 6 vs) H := by
  obtain ⟨a, o, base, most, rfl, ha, ho, hb1, hb2, hm, k⟩ := h
  have W : Wd H H [a] [(a, o)] := (Wd.one ha).may List.mem_cons_self
  unfold t_law_digits
  walk_at "rd"
  refine rd_kLst W (by decide) fun l H1 hl W1 => ?_
  walk_at "rd"
  refine u_next W1 (fun u => by walk_at "rp") ho (by walk_at "may") (by omega) (by omega) fun r o1 H2 h1 h2 ho1 W2 => ?_
  walk_at "rd"
  refine rd_kR1 (by omega) (by omega) ?_
  refine rd_forR (fun i σ' H' => ∃ v4 v5 o' ds, σ' = [some (.ref a), some (.int (base : Int)), some (.int (most : Int)), some (.ref l), v4, v5] ∧ SrcO o' ∧ ds.length = i ∧ (∀ d ∈ ds, d < base) ∧ Wd H H' [a] [(l, .lst (iN ds)), (a, o')]) ⟨none, none, o1, [], rfl, ho1, rfl, (fun d z => nomatch z), W2⟩ ?_ ?_
  · rintro i σ' H3 hi ⟨v4, v5, o2, ds, rfl, ho2, hds, hlt, W3⟩
    walk_at "rd"
    refine u_next W3 (fun u => by walk_at "rp") ho2 (by walk_at "may") (by omega) (by omega) fun r2 o3 H4 h3 h4 ho3 W4 => ?_
    walk_at "rd"
    refine rd_div (div_ok64 (by decide) (by decide)) ?_
    walk_at "rd"
    refine rd_kLst W4 (by walk_at "len") fun t H5 ht W5 => ?_
    walk_at "rd"
    have W6 := W5
    have nat : a ≠ t := fun z => by
      have e := W.get (a := a) (o := o) List.mem_cons_self
      rw [z, ht] at e
      cases e
    refine u_one W5 (fun u => by walk_at "rp") ho3 (by walk_at "may") (by walk_at "mem") nat (by simp) (by simp) fun v o4 H6 hv ho4 W7 => ?_
    obtain ⟨d, rfl, hd⟩ : ∃ d : Nat, v = .int (d : Int) ∧ d < base := by
      simp only [List.mem_cons, List.not_mem_nil, or_false] at hv
      rcases hv with rfl | rfl | rfl | rfl | rfl | rfl
      · exact ⟨r2.toNat, by congr 1; omega, by omega⟩
      · exact ⟨r2.toNat, by congr 1; omega, by omega⟩
      · exact ⟨0, rfl, by omega⟩
      · exact ⟨base - 1, by congr 1; omega, by omega⟩
      · exact ⟨1, rfl, by omega⟩
      · exact ⟨base / 2, by congr 1, by omega⟩
    walk_at "rd"
    refine rd_append W7 (by walk_at "rp") (by walk_at "may") (by rw [iN_length]; exact Evl.sz_lt (by omega)) fun H7 W8 => ?_
    refine ⟨_, _, o4, ds ++ [d], rfl, ho4, by rw [List.length_append, hds]; rfl, fun x hx => ?_, ?_⟩
    · rcases List.mem_append.mp hx with z | z
      · exact hlt x z
      · rw [List.mem_singleton.mp z]; exact hd
    · rw [← iN_app]
      exact W8.drop1 (fun z => nat (List.mem_singleton.mp z).symm)
  · rintro σ' H3 ⟨v4, v5, o2, ds, rfl, ho2, hds, hlt, W3⟩
    walk_at "rd"
    refine rd_kLst W3 (by decide) fun t H4 ht W4 => ?_
    refine rd_neN (ds := ds) (by walk_at "sq") (by walk_at "sq") ?_
    walk_at "rd"
    by_cases he : ds = []
    · refine rd_Fn he ?_
      walk_at "rd"
      refine k l ds o2 H4 (by omega) hlt ho2 (W4.done11 (by walk_at "mem") (by walk_at "mem") hl)
    · refine rd_Tn he ?_
      walk_at "rd"
      refine u_next W4 (fun u => by walk_at "rp") ho2 (by walk_at "may") (by omega) (by omega) fun r3 o3 H5 h3 h4 ho3 W5 => ?_
      walk_at "rd"
      refine rd_kLst W5 (by walk_at "len") fun s H6 hs W6 => ?_
      refine rd_cat W6 (by walk_at "own") (by walk_at "own") (by rw [iN_length]; exact Evl.sz_of (by simp; omega)) fun p H7 hp W7 => ?_
      have e : iN ds ++ [V.int (1 + r3)] = iN (ds ++ [(1 + r3).toNat]) := by
        rw [← iN_app]
        congr 1
        show [V.int (1 + r3)] = [V.int (((1 + r3).toNat : Nat) : Int)]
        congr 2
        omega
      rw [e] at W7
      refine k p (ds ++ [(1 + r3).toNat]) o3 H7 (by rw [List.length_append]; simp; omega) (fun d hd => ?_) ho3 (W7.done11 (by walk_at "mem") (by walk_at "mem") hp)
      rcases List.mem_append.mp hd with z | z
      · exact hlt d z
      · rw [List.mem_singleton.mp z]; omega
theorem u_digits (W : Wd H0 H M L) (hr : ∀ u, Rp a o u L (L' u)) (ho : SrcO o) (hm : H0 a = none ∨ a ∈ M) (h1 : 2 ≤ base) (h2 : base ≤ 2 ^ 30) (h3 : most ≤ 10000)
    (q : ∀ (l : Addr) (ds : List Nat) o' H', H0 l = none → ds.length ≤ most + 1 → (∀ d ∈ ds, d < base) → SrcO o' → Wd H0 H' M ((l, .lst (iN ds)) :: L' o') → Q (.ref l) H') : sp_law_digits K c [.ref a, .int (base : Int), .int (most : Int)] H Q E :=
  ⟨a, o, base, most, rfl, W.get (hr o).mem, ho, h1, h2, h3, fun l ds o' H' h4 h5 h6 ch => q l ds o' H' (W.fresh (ch.new List.mem_cons_self).1) h4 h5 h6 (W.chg1 (hr o') ch hm)⟩
/-! the number of a row -/
def valB (base : Nat) : List Nat → Nat
  | [] => 0
  | d :: ds => d + base * valB base ds
theorem valB_lt : ∀ {ds : List Nat}, (∀ d ∈ ds, d < base) → valB base ds < base ^ ds.length
  | [], _ => by simp [valB]
  | d :: ds, h => by
    have ih := valB_lt (ds := ds) fun x hx => h x (List.mem_cons_of_mem _ hx)
    have hd := h d List.mem_cons_self
    show d + base * valB base ds < base ^ (ds.length + 1)
    have h1 : base * (valB base ds + 1) ≤ base * base ^ ds.length := Nat.mul_le_mul_left _ ih
    rw [Nat.mul_add, Nat.mul_one] at h1
    rw [Nat.pow_succ, Nat.mul_comm (base ^ ds.length)]
    omega
theorem valB_fold (ds : List Nat) : ds.reverse.foldl (fun r d => base * r + d) 0 = valB base ds := by
  rw [List.foldl_reverse]
  induction ds with
  | nil => rfl
  | cons d ds ih => rw [List.foldr_cons, ih]; show _ = d + base * valB base ds; omega
theorem valB_two (b : Nat) : ∀ ds : List Nat, valB (2 ^ b) ds = val b ds
  | [] => rfl
  | d :: ds => by show d + 2 ^ b * valB (2 ^ b) ds = d + 2 ^ b * val b ds; rw [valB_two b ds]
def sp_law_value (K : PySem.W.Frag) (c : Pc) : Sp := fun vs H Q _ => ∃ (l : Addr) (base : Nat) (ds : List Nat), vs = [.ref l, .int (base : Int)] ∧ H l = some (.lst (iN ds)) ∧ base ≤ 2 ^ 30 ∧ ∀ H', Same H H' → Q (.int (valB base ds : Nat)) H'
def t_law_value (K : PySem.W.Frag) (c : Pc) : TS :=
  (tSeq (tAsg (tC (.int 0)) (gName 2))
  (tSeq (tFor (iList K (tRevL K (tVar 0))) (gName 3) (tAsg (tOp rAdd (tOp rMul (tVar 1) (tVar 2)) (tVar 3)) (gName 2)))
  (tRet (tVar 2))))
theorem b_law_value (h : sp_law_value K c vs H Q E) : t_law_value K c (en0 Q) (st0 4 vs) H := by
  obtain ⟨l, base, ds, rfl, hl, hb, k⟩ := h
  unfold t_law_value
  walk_at "rd"
  refine rd_kRev (Wd.one hl) (by walk_at "sq") fun p H1 hp W1 => ?_
  rw [iN_rev] at W1
  walk_at "rd"
  refine rd_forL (xs := iN ds.reverse) (fun i σ' H' => ∃ v, σ' = [some (.ref l), some (.int (base : Int)), some (.int ((ds.reverse.take i).foldl (fun r d => base * r + d) 0 : Nat)), v] ∧ H' = H1) ⟨none, rfl, rfl⟩ ?_ ?_ ?_
  · rintro i σ' H' _ ⟨v, _, rfl⟩
    walk_at "sq"
  · rintro i y σ' H' hy ⟨v, rfl, rfl⟩
    obtain ⟨d, hd, rfl⟩ := iN_of hy
    walk_at "rd"
    refine rd_mul (mul_okL (by omega) (by omega)) ?_
    walk_at "rd"
    refine ⟨some (.int (d : Int)), ?_, rfl⟩
    rw [take_snoc hd, List.foldl_append]
    rfl
  · rintro σ' H' ⟨v, rfl, rfl⟩
    walk_at "rd"
    rw [iN_length, List.take_length, valB_fold]
    exact k _ W1.toSame
/-! a drawn integer -/
def sp_law_number (K : PySem.W.Frag) (c : Pc) : Sp := fun vs H Q _ => ∃ (a : Addr) (o : HO) (base most : Nat), vs = [.ref a, .int (base : Int), .int (most : Int)] ∧ H a = some o ∧ SrcO o ∧ 2 ≤ base ∧ base ≤ 2 ^ 30 ∧ most ≤ 10000 ∧
  ∀ (n : Int) o' H', n.natAbs < base ^ (most + 1) → SrcO o' → Chg H H' [(a, o')] [] → Q (.int n) H'
def t_law_number (K : PySem.W.Frag) (c : Pc) : TS :=
  (tSeq (tAsg (tCall (sp_law_value K c) [] E0 (tCons (tCall (sp_law_digits K c) [] E0 (tCons (tVar 0) (tCons (tVar 1) (tCons (tVar 2) tNil)))) (tCons (tVar 1) tNil))) (gName 3))
  (tSeq (tAsg (tIf (tTest (tOp rGt (tVar 3) (tC (.int 0)))) (tVar 3) (tCall (sp_law_next K c) [] E0 (tCons (tVar 0) (tCons (tVar 1) tNil)))) (gName 3))
  (tRet (tCall (sp_law_one K c) [] E0 (tCons (tVar 0) (tCons (tLst (tCons (tVar 3) (tCons (tVar 3) (tCons (tOp rSub (tC (.int 0)) (tVar 3)) tNil)))) tNil))))))
theorem b_law_number (h : sp_law_number K c vs H Q E) : t_law_number K c (en0 Q) (st0 4 vs) H := by
  obtain ⟨a, o, base, most, rfl, ha, ho, hb1, hb2, hm, k⟩ := h
  have W : Wd H H [a] [(a, o)] := (Wd.one ha).may List.mem_cons_self
  unfold t_law_number
  walk_at "rd"
  refine u_digits W (fun u => by walk_at "rp") ho (by walk_at "may") hb1 hb2 hm fun l ds o1 H1 hl hds hlt ho1 W1 => ?_
  walk_at "rd"
  refine ⟨l, base, ds, rfl, W1.get (by walk_at "mem"), hb2, fun H2 hs => ?_⟩
  have W2 := W1.same hs
  have hv := valB_lt hlt
  have hv2 : valB base ds < base ^ (most + 1) := Nat.lt_of_lt_of_le hv (Nat.pow_le_pow_right (by omega) hds)
  generalize valB base ds = v at hv2
  walk_at "rd"
  have cont : ∀ (v : Nat) (o2 : HO) (H3 : Hp), v < base ^ (most + 1) → SrcO o2 → Wd H H3 [a] [(l, .lst (iN ds)), (a, o2)] →
      tRet (tCall (sp_law_one K c) [] E0 (tCons (tVar 0) (tCons (tLst (tCons (tVar 3) (tCons (tVar 3) (tCons (tOp rSub (tC (.int 0)) (tVar 3)) tNil)))) tNil))) (en0 Q) [some (.ref a), some (.int (base : Int)), some (.int (most : Int)), some (.int (v : Int))] H3 := by
    intro v o2 H3 hv ho2 W3
    walk_at "rd"
    refine rd_kLst W3 (by walk_at "len") fun t H4 ht W4 => ?_
    walk_at "rd"
    have nat : a ≠ t := fun z => by
      rw [z, ht] at ha
      cases ha
    refine u_one W4 (fun u => by walk_at "rp") ho2 (by walk_at "may") (by walk_at "mem") nat (by simp) (by simp) fun w o3 H5 hw ho3 W5 => ?_
    have ch : Chg H H5 [(a, o3)] [] := W5.done (fun q hq => by rw [List.mem_singleton.mp hq]; walk_at "mem") (fun q hq => hq) (fun q z => nomatch z) List.nodup_nil
    simp only [List.mem_cons, List.not_mem_nil, or_false] at hw
    rcases hw with rfl | rfl | rfl
    · exact k _ o3 H5 (by omega) ho3 ch
    · exact k _ o3 H5 (by omega) ho3 ch
    · exact k _ o3 H5 (by omega) ho3 ch
  refine rd_2d (fun h1 => ?_) fun h1 => ?_
  · refine rd_var rfl (rd_name (by walk_at "set") ?_)
    exact cont v o1 H2 hv2 ho1 W2
  · refine rd_call (rd_cons (rd_var rfl (rd_cons (rd_var rfl (rd_nil ?_)))))
    refine u_next W2 (fun u => by walk_at "rp") ho1 (by walk_at "may") (by omega) (by omega) fun r o2 H3 h3 h4 ho2 W3 => ?_
    obtain ⟨r', rfl⟩ := Int.eq_ofNat_of_zero_le h3
    refine rd_name (by walk_at "set") ?_
    refine cont r' o2 H3 ?_ ho2 W3
    have : base ^ 1 ≤ base ^ (most + 1) := Nat.pow_le_pow_right (by omega) (by omega)
    rw [Nat.pow_one] at this
    omega
theorem u_number (W : Wd H0 H M L) (hr : ∀ u, Rp a o u L (L' u)) (ho : SrcO o) (hm : H0 a = none ∨ a ∈ M) (h1 : 2 ≤ base) (h2 : base ≤ 2 ^ 30) (h3 : most ≤ 10000)
    (q : ∀ (n : Int) o' H', n.natAbs < base ^ (most + 1) → SrcO o' → Wd H0 H' M (L' o') → Q (.int n) H') : sp_law_number K c [.ref a, .int (base : Int), .int (most : Int)] H Q E :=
  ⟨a, o, base, most, rfl, W.get (hr o).mem, ho, h1, h2, h3, fun n o' H' h4 h6 ch => q n o' H' h4 h6 (W.chg1 (hr o') ch hm)⟩
end

/-! Lw: the world of a law's own defs: what is owned (L) and the Bigs (B); the steps as rules that need no names. -/
/-- B: the Bigs that stand: place, width, number -/
structure Wb (c : Pc) (H0 H : Hp) (M : List Addr) (L : List (Addr × HO)) (B : List (Addr × Nat × Int)) : Prop where
  wd : Wd H0 H M L
  big : ∀ {x : Addr} {b : Nat} {n : Int}, (x, b, n) ∈ B → BigAt c H x b n ∧ bigL b n
/-- a list of integers -/
def AllI (xs : List V) : Prop := ∃ ns : List Int, xs = ns.map V.int
theorem AllI.nil : AllI [] := ⟨[], rfl⟩
theorem AllI.cons {n : Int} {xs : List V} (h : AllI xs) : AllI (.int n :: xs) := by obtain ⟨ns, rfl⟩ := h; exact ⟨n :: ns, rfl⟩
theorem AllI.n (ds : List Nat) : AllI (iN ds) := ⟨_, iN_int ds⟩
theorem AllI.m (ns : List Int) : AllI (ns.map V.int) := ⟨ns, rfl⟩
theorem AllI.app {xs ys : List V} (h : AllI xs) (k : AllI ys) : AllI (xs ++ ys) := by
  obtain ⟨ns, rfl⟩ := h
  obtain ⟨ms, rfl⟩ := k
  exact ⟨ns ++ ms, by rw [List.map_append]⟩
theorem AllI.rep {n : Nat} {xs : List V} (h : AllI xs) : AllI (List.replicate n xs).flatten := by
  induction n with
  | zero => exact AllI.nil
  | succ n ih => rw [List.replicate_succ, List.flatten_cons]; exact h.app ih
theorem SrcO.chb {o : HO} (h : SrcO o) : Chb o := by obtain ⟨a, b, d, rfl⟩ := h; exact .inl ⟨_, rfl⟩
theorem Chb.lst {xs : List V} : Chb (.lst xs) := .inl ⟨_, rfl⟩
theorem Chb.dK {kvs : List (Key × V)} : Chb (.dK kvs) := .inr ⟨_, rfl⟩
section
variable {K : PySem.W.Frag} {c : Pc} {vs xs ys : List V} {H H0 H' : Hp} {Q : VK} {E : XK} {M : List Addr} {L L' ns cs : List (Addr × HO)} {L1 : HO → List (Addr × HO)} {B : List (Addr × Nat × Int)} {b b' : Nat} {cut n m : Int} {a d e dx r x x' l p : Addr} {o u : HO} {σ : L2.St} {y : V} {tr : TA}
theorem Wb.self (W : Wb c H0 H M L B) : Wd H H [] L := ⟨W.wd.get, W.wd.nd, fun _ _ e _ => e, fun _ h => nomatch h⟩
theorem Wb.get (W : Wb c H0 H M L B) (h : (a, o) ∈ L) : H a = some o := W.wd.get h
theorem Wb.chg0 (W : Wb c H0 H M L B) (ch : Chg H H' [] ns) : Wb c H0 H' M (ns ++ L) B := ⟨W.wd.chg0 ch, fun h => ⟨(W.big h).1.chg ch (fun _ z => nomatch z), (W.big h).2⟩⟩
theorem Wb.chg1 (W : Wb c H0 H M L B) (r : Rp a o u L L') (hb : Chb o) (ch : Chg H H' [(a, u)] ns) (hm : H0 a = none ∨ a ∈ M) : Wb c H0 H' M (ns ++ L') B := ⟨W.wd.chg1 r ch hm, fun h => ⟨(W.big h).1.chg ch (fun q z => by
  rw [List.mem_singleton.mp z]; exact ⟨o, W.wd.get r.mem, hb⟩), (W.big h).2⟩⟩
theorem Wb.same (W : Wb c H0 H M L B) (s : Same H H') : Wb c H0 H' M L B := ⟨W.wd.same s, fun h => ⟨(W.big h).1.same s, (W.big h).2⟩⟩
theorem Wb.add (W : Wb c H0 H M L B) (h : BigAt c H x b n) (l : bigL b n) : Wb c H0 H M L ((x, b, n) :: B) := ⟨W.wd, fun z => by
  rcases List.mem_cons.mp z with z | z
  · cases z; exact ⟨h, l⟩
  · exact W.big z⟩
theorem Wb.new (W : Wb c H0 H M L B) (h : H p = none) : Wb c H0 (upd H p o) M ((p, o) :: L) B :=
  W.chg0 (ns := [(p, o)]) (((Wd.nil H).new h).new1 h)
theorem Wb.put (W : Wb c H0 H M L B) (r : Rp a o u L L') (hb : Chb o) (hm : H0 a = none ∨ a ∈ M) : Wb c H0 (upd H a u) M L' B :=
  W.chg1 (ns := []) r hb (⟨fun z => by cases List.mem_singleton.mp z; exact upd_same, (fun z => nomatch z), List.nodup_nil, fun b o e hb => by rw [upd_ne (fun z => hb (by rw [z]; exact List.mem_cons_self))]; exact e⟩) hm
theorem Wb.one (W : Wb c H H' [a] L B) (h : (a, o) ∈ L) : Chg H H' [(a, o)] [] :=
  W.wd.done (fun q z => by rw [List.mem_singleton.mp z]; exact h) (fun q z => by rw [List.mem_singleton.mp z]; exact List.mem_cons_self) (fun q z => nomatch z) List.nodup_nil
theorem Wb.toSame (W : Wb c H H' [] L B) : Same H H' := W.wd.toSame
theorem Wb.start (W : Wd H0 H M L) : Wb c H0 H M L [] := ⟨W, fun z => nomatch z⟩
/-! ### lists, tuples -/
theorem lw_lst (W : Wb c H0 H M L B) (hl : xs.length ≤ sizeLine) (q : ∀ p H', H0 p = none → Wb c H0 H' M ((p, .lst xs) :: L) B → Q (.ref p) H') : kLst Q xs H := ⟨hl, fun p hp => q p _ (W.wd.fresh hp) (W.new hp)⟩
theorem lw_tup (W : Wb c H0 H M L B) (hl : xs.length ≤ sizeLine) (q : ∀ p H', H0 p = none → Wb c H0 H' M ((p, .tup xs) :: L) B → Q (.ref p) H') : kTup Q xs H := ⟨hl, fun p hp => q p _ (W.wd.fresh hp) (W.new hp)⟩
theorem lw_cat (W : Wb c H0 H M L B) (h1 : (a, .lst xs) ∈ L) (h2 : (l, .lst ys) ∈ L) (hl : xs.length + ys.length ≤ sizeLine) (q : ∀ p H', H0 p = none → Wb c H0 H' M ((p, .lst (xs ++ ys)) :: L) B → Q (.ref p) H') : rCat (.ref a) (.ref l) H Q :=
  ⟨a, l, xs, ys, rfl, rfl, W.get h1, W.get h2, hl, fun p hp => q p _ (W.wd.fresh hp) (W.new hp)⟩
theorem lw_rep (W : Wb c H0 H M L B) (h : (a, .lst xs) ∈ L) (h1 : -(2 ^ 63) ≤ n) (h2 : n < 2 ^ 63) (h3 : xs.length * n.toNat ≤ sizeLine) (q : ∀ p H', H0 p = none → Wb c H0 H' M ((p, .lst (List.replicate n.toNat xs).flatten) :: L) B → Q (.ref p) H') : rRep (.ref a) (.int n) H Q :=
  ⟨a, n, xs, rfl, rfl, W.get h, h1, h2, h3, fun p hp => q p _ (W.wd.fresh hp) (W.new hp)⟩
theorem lw_catN {ds es : List Nat} (W : Wb c H0 H M L B) (h1 : (a, .lst (iN ds)) ∈ L) (h2 : (l, .lst (iN es)) ∈ L) (hl : (iN ds).length + (iN es).length ≤ sizeLine) (q : ∀ p H', H0 p = none → Wb c H0 H' M ((p, .lst (iN (ds ++ es))) :: L) B → Q (.ref p) H') : rCat (.ref a) (.ref l) H Q :=
  lw_cat W h1 h2 hl (by rw [iN_app]; exact q)
theorem rep_zero (k : Nat) : (List.replicate k [V.int 0]).flatten = iN (List.replicate k 0) := by
  induction k with
  | zero => rfl
  | succ k ih => rw [List.replicate_succ, List.flatten_cons, ih]; rfl
theorem lw_repZ (W : Wb c H0 H M L B) (h : (a, .lst [.int 0]) ∈ L) (h1 : 0 ≤ n) (h2 : n < 10000) (q : ∀ p H', H0 p = none → Wb c H0 H' M ((p, .lst (iN (List.replicate n.toNat 0))) :: L) B → Q (.ref p) H') : rRep (.ref a) (.int n) H Q :=
  lw_rep W h (by omega) (by omega) (Evl.sz_of (by rw [List.length_singleton]; omega)) (by rw [rep_zero]; exact q)
theorem lw_append (W : Wb c H0 H M L B) (r : Rp l (.lst xs) (.lst (xs ++ [y])) L L') (hm : H0 l = none ∨ l ∈ M) (hl : xs.length < sizeLine) (q : ∀ H', Wb c H0 H' M L' B → Q .non H') : rAppend (.ref l) [y] H Q :=
  ⟨l, xs, y, rfl, rfl, W.get r.mem, hl, q _ (W.put r .lst hm)⟩
theorem lw_kAcc {Nx : Hp → Prop} (W : Wb c H0 H M L B) (r : Rp l (.lst xs) (.lst (xs ++ [y])) L L') (hm : H0 l = none ∨ l ∈ M) (hl : xs.length < sizeLine) (q : ∀ H', Wb c H0 H' M L' B → Nx H') : kAcc l Nx y H :=
  ⟨xs, W.get r.mem, hl, q _ (W.put r .lst hm)⟩
theorem lw_slL {lo hi : Option Int} (W : Wb c H0 H M L B) (h : (a, .lst xs) ∈ L) (q : ∀ p H', H0 p = none → Wb c H0 H' M ((p, .lst (cutV xs lo hi)) :: L) B → Q (.ref p) H') : rSlL K (.ref a) lo hi H Q :=
  ⟨a, xs, rfl, SqL.of (W.get h), fun p hp => q p _ (W.wd.fresh hp) (W.new hp)⟩
theorem lw_list (W : Wb c H0 H M L B) (h : (a, .lst xs) ∈ L) (q : ∀ p H', H0 p = none → Wb c H0 H' M ((p, .lst xs) :: L) B → Q (.ref p) H') : rList K [.ref a] H Q := ⟨a, xs, rfl, .inl (SqL.of (W.get h)), fun p hp => q p _ (W.wd.fresh hp) (W.new hp)⟩
theorem lw_ixT (W : Wb c H0 H M L B) (h : (a, .tup xs) ∈ L) (hv : atI xs n = some y) (q : Q y H) : rIxT K (.ref a) (.int n) H Q := rd_ixT (SqT.of (W.get h)) hv q
theorem lw_ixL (W : Wb c H0 H M L B) (h : (a, .lst xs) ∈ L) (hv : atI xs n = some y) (q : Q y H) : rIxL K (.ref a) (.int n) H Q := rd_ixL (SqL.of (W.get h)) hv q
theorem lw_kBMl {rm : V → List V → Hp → VK → Prop} (W : Wb c H0 H M L B) (h : (l, .lst xs) ∈ L) (q : tr σ H fun ys H2 => rm (.ref l) ys H2 Q) : kBM K "list" rm tr σ Q (.ref l) H := rd_kBMl (W.get h) q
/-- two lists of integers, alike or not -/
theorem mapI_inj : ∀ {ns ms : List Int}, ns.map V.int = ms.map V.int → ns = ms
  | [], [], _ => rfl
  | [], _ :: _, h => by simp at h
  | _ :: _, [], h => by simp at h
  | x :: xs, y :: ys, h => by
    rw [List.map_cons, List.map_cons] at h
    obtain ⟨h1, h2⟩ := List.cons.inj h
    rw [mapI_inj h2, V.int.inj h1]
theorem lw_neL (W : Wb c H0 H M L B) (h1 : (a, .lst xs) ∈ L) (h2 : (l, .lst ys) ∈ L) (a1 : AllI xs) (a2 : AllI ys) (q : ∀ k : Bool, (xs = ys → k = false) → (xs ≠ ys → k = true) → Q (.bl k) H) : rNeD K (.ref a) (.ref l) H Q := by
  obtain ⟨ns, rfl⟩ := a1
  obtain ⟨ms, rfl⟩ := a2
  refine rd_neLI (SqL.of (W.get h1)) (SqL.of (W.get h2)) (q _ (fun z => ?_) (fun z => ?_))
  · rw [mapI_inj z, decide_eq_true rfl]; rfl
  · rw [decide_eq_false (fun e => z (by rw [e]))]; rfl
theorem lw_eqL (W : Wb c H0 H M L B) (h1 : (a, .lst xs) ∈ L) (h2 : (l, .lst ys) ∈ L) (a1 : AllI xs) (a2 : AllI ys) (q : ∀ k : Bool, (xs = ys → k = true) → (xs ≠ ys → k = false) → Q (.bl k) H) : rEqD K (.ref a) (.ref l) H Q := by
  obtain ⟨ns, rfl⟩ := a1
  obtain ⟨ms, rfl⟩ := a2
  refine rd_eqLI (SqL.of (W.get h1)) (SqL.of (W.get h2)) (q _ (fun z => ?_) (fun z => ?_))
  · rw [mapI_inj z, decide_eq_true rfl]
  · rw [decide_eq_false (fun e => z (by rw [e]))]
/-- where they are alike -/
theorem lw_neLF (W : Wb c H0 H M L B) (h1 : (a, .lst xs) ∈ L) (h2 : (l, .lst ys) ∈ L) (e : xs = ys) (a1 : AllI xs) (q : Q (.bl false) H) : rNeD K (.ref a) (.ref l) H Q :=
  lw_neL W h1 h2 a1 (e ▸ a1) fun k z _ => by rw [z e]; exact q
theorem lw_eqLT (W : Wb c H0 H M L B) (h1 : (a, .lst xs) ∈ L) (h2 : (l, .lst ys) ∈ L) (e : xs = ys) (a1 : AllI xs) (q : Q (.bl true) H) : rEqD K (.ref a) (.ref l) H Q :=
  lw_eqL W h1 h2 a1 (e ▸ a1) fun k z _ => by rw [z e]; exact q
/-! ### draws -/
theorem lw_source_of (W : Wb c H0 H M L B) (q : ∀ p o H', H0 p = none → SrcO o → Wb c H0 H' M ((p, o) :: L) B → Q (.ref p) H') : sp_law_source_of K c [.int n] H Q E :=
  ⟨n, rfl, fun p o H' ho ch => q p o H' (W.wd.fresh (ch.new List.mem_cons_self).1) ho (W.chg0 ch)⟩
theorem lw_next (W : Wb c H0 H M L B) (hr : ∀ u, Rp a o u L (L1 u)) (ho : SrcO o) (hm : H0 a = none ∨ a ∈ M) (h0 : 0 < n) (hn : n < 2 ^ 64) (q : ∀ r o' H', 0 ≤ r → r < n → SrcO o' → Wb c H0 H' M (L1 o') B → Q (.int r) H') : sp_law_next K c [.ref a, .int n] H Q E :=
  ⟨a, o, n, rfl, W.get (hr o).mem, ho, h0, nxt64 h0 hn, fun r o' H' h1 h2 h3 ch => q r o' H' h1 h2 h3 (W.chg1 (hr o') ho.chb ch hm)⟩
theorem lw_one (W : Wb c H0 H M L B) (hr : ∀ u, Rp a o u L (L1 u)) (ho : SrcO o) (hm : H0 a = none ∨ a ∈ M) (hl : (l, .lst xs) ∈ L) (nal : a ≠ l) (hne : xs ≠ []) (hlen : xs.length ≤ 1000) (q : ∀ v o' H', v ∈ xs → SrcO o' → Wb c H0 H' M (L1 o') B → Q v H') : sp_law_one K c [.ref a, .ref l] H Q E :=
  ⟨a, o, l, xs, rfl, W.get (hr o).mem, ho, W.get hl, hne, hlen, nal, fun v o' H' h1 h2 ch => q v o' H' h1 h2 (W.chg1 (hr o') ho.chb ch hm)⟩
theorem lw_machine (W : Wb c H0 H M L B) (hr : ∀ u, Rp a o u L (L1 u)) (ho : SrcO o) (hm : H0 a = none ∨ a ∈ M)
    (q : ∀ (x dx : Addr) (b : Nat) (cut : Int) (d e : Addr) o' H', 8 ≤ b → b ≤ 30 → 2 ≤ cut → cut ≤ 1000 → H0 x = none → H0 d = none → H0 e = none → SrcO o' → Wb c H0 H' M ((d, .dK (cK zeros)) :: (e, .lst []) :: (x, .ins c.CMachine dx (mF b cut d e)) :: L1 o') B → Q (.ref x) H') : sp_law_machine K c [.ref a] H Q E :=
  ⟨a, o, rfl, W.get (hr o).mem, ho, fun x dx b cut d e o' H' h1 h2 h3 h4 h5 ch => q x dx b cut d e o' H' h1 h2 h3 h4 (W.wd.fresh (ch.new (o := .ins c.CMachine dx (mF b cut d e)) (by walk_at "mem")).1) (W.wd.fresh (ch.new (o := .dK (cK zeros)) (by walk_at "mem")).1) (W.wd.fresh (ch.new (o := .lst []) (by walk_at "mem")).1) h5 (W.chg1 (hr o') ho.chb ch hm)⟩
theorem lw_number {base most : Nat} (W : Wb c H0 H M L B) (hr : ∀ u, Rp a o u L (L1 u)) (ho : SrcO o) (hm : H0 a = none ∨ a ∈ M) (h1 : 2 ≤ base) (h2 : base ≤ 2 ^ 30) (h3 : most ≤ 10000)
    (q : ∀ (n : Int) o' H', n.natAbs < base ^ (most + 1) → SrcO o' → Wb c H0 H' M (L1 o') B → Q (.int n) H') : sp_law_number K c [.ref a, .int (base : Int), .int (most : Int)] H Q E :=
  ⟨a, o, base, most, rfl, W.get (hr o).mem, ho, h1, h2, h3, fun n o' H' h4 h5 ch => q n o' H' h4 h5 (W.chg1 (hr o') ho.chb ch hm)⟩
theorem lw_mkMachine (W : Wb c H0 H M L B) (h1 : 8 ≤ b) (h2 : b ≤ 30) (h3 : 2 ≤ cut) (h4 : cut ≤ 1000)
    (q : ∀ x dx d e H', H0 x = none → H0 d = none → H0 e = none → Wb c H0 H' M ((d, .dK (cK zeros)) :: (e, .lst []) :: (x, .ins c.CMachine dx (mF b cut d e)) :: L) B → Q (.ref x) H') : kMake c.CMachine (sp_Machine_init K c) [] E Q [.int (b : Int), .int cut] H := 
  rd_mkMachine W.self h1 h2 h3 h4 fun x dx d e H' hx hd he S => q x dx d e H' (W.wd.fresh hx) (W.wd.fresh hd) (W.wd.fresh he) ⟨⟨S.get, S.nd, fun b o e hb => S.keep _ _ (W.wd.keep b o e hb) (fun z => nomatch z), fun a h => List.mem_cons_of_mem _ (List.mem_cons_of_mem _ (List.mem_cons_of_mem _ (W.wd.sub a h)))⟩, fun z => ⟨(W.big z).1.same S.toSame, (W.big z).2⟩⟩
theorem lw_shl1 (h : b ≤ 1000) (q : Q (.int ((2 ^ b : Nat) : Int)) H) : rShl (.int 1) (.int (b : Int)) H Q := rd_shl (shl_one h) (by rw [Int.one_mul, Int.toNat_natCast, pwN]; exact q)
theorem lw_kw {P : List V → Prop} {i j : Nat} {ix : List Nat} {zs vs : List V} (h : i = j) (e : perm ix zs = vs) (q : P vs) : i = j ∧ P (perm ix zs) := ⟨h, by rw [e]; exact q⟩
theorem lw_kwS {sp : Sp} {i j : Nat} {ix : List Nat} {zs vs : List V} (h : i = j) (e : perm ix zs = vs) (q : sp vs H Q E) : i = j ∧ sp (perm ix zs) H Q E := ⟨h, by rw [e]; exact q⟩
theorem rd_nT {A A' : Hp → Prop} (q : A' H) : kIf A A' (!true) H := rd_F rfl q
theorem rd_nF {A A' : Hp → Prop} (q : A H) : kIf A A' (!false) H := rd_T rfl q
theorem rd_isB {k k' : Bool} (q : Q (.bl (decide (k = k'))) H) : rIsB (.bl k) (.bl k') H Q := ⟨k, k', rfl, rfl, q⟩
theorem rd_ifZ {P : Prop} [Decidable P] {ta tb : TE} (za zb : Int) (h1 : ∀ Q : VK, Q (.int za) H → ta σ H Q) (h2 : ∀ Q : VK, Q (.int zb) H → tb σ H Q) (q : ∀ z : Int, (P → z = za) → (¬ P → z = zb) → Q (.int z) H) : kIf (fun H1 => ta σ H1 Q) (fun H1 => tb σ H1 Q) (decide P) H :=
  rd_2d (fun h => h1 _ (q za (fun _ => rfl) (fun k => absurd h k))) (fun h => h2 _ (q zb (fun k => absurd k h) (fun _ => rfl)))
theorem bigL_of {b : Nat} {n : Int} (h1 : 8 ≤ b) (h2 : b ≤ 30) (hn : n.natAbs < 2 ^ 4000) : bigL b n := by
  refine ⟨by omega, h2, Nat.lt_of_le_of_lt (digs_length_le (by omega) _ (k := 500) (Nat.lt_of_lt_of_le hn (Nat.pow_le_pow_right (by decide) ?_))) (by decide)⟩
  omega
theorem iN_digs0 : iN (digs b (Int.natAbs 0)) = [] := by rw [Int.natAbs_zero, digs_zero]; rfl
/-- N is L with more ahead of it -/
def Sfx {α : Type} (L N : List α) : Prop := ∃ P, N = P ++ L
theorem Sfx.refl {α : Type} {L : List α} : Sfx L L := ⟨[], rfl⟩
theorem Sfx.cons {α : Type} {L N : List α} {q : α} (h : Sfx L N) : Sfx L (q :: N) := by obtain ⟨P, rfl⟩ := h; exact ⟨q :: P, rfl⟩
theorem Sfx.app {α : Type} {L N P : List α} (h : Sfx L N) : Sfx L (P ++ N) := by obtain ⟨P', rfl⟩ := h; exact ⟨P ++ P', by rw [List.append_assoc]⟩
/-- a number by one of two ways -/
theorem lw_if {P : Prop} [Decidable P] {ta tb : TE} (za zb : Int) (W : Wb c H0 H M L B) (h1 : P → ∀ Q' : VK, (∀ H1 L2 B2, Wb c H0 H1 M L2 B2 → Sfx L L2 → Sfx B B2 → Q' (.int za) H1) → ta σ H Q')
    (h2 : ¬ P → ∀ Q' : VK, (∀ H1 L2 B2, Wb c H0 H1 M L2 B2 → Sfx L L2 → Sfx B B2 → Q' (.int zb) H1) → tb σ H Q')
    (q : ∀ z H1 L' B', (P → z = za) → (¬ P → z = zb) → Wb c H0 H1 M (L' ++ L) (B' ++ B) → Q (.int z) H1) : kIf (fun H1 => ta σ H1 Q) (fun H1 => tb σ H1 Q) (decide P) H :=
  rd_2d (fun h => h1 h Q fun H1 L2 B2 W s1 s2 => by
    obtain ⟨L', rfl⟩ := s1
    obtain ⟨B', rfl⟩ := s2
    exact q za H1 L' B' (fun _ => rfl) (fun k => absurd h k) W) (fun h => h2 h Q fun H1 L2 B2 W s1 s2 => by
    obtain ⟨L', rfl⟩ := s1
    obtain ⟨B', rfl⟩ := s2
    exact q zb H1 L' B' (fun k => absurd k h) (fun _ => rfl) W)
/-- a test that may be made or not, and is false -/
theorem lw_and {k : Bool} {tU : TT} {QB : Bool → Hp → Prop} (W : Wb c H0 H M L B) (h : k = true → ∀ QB' : Bool → Hp → Prop, (∀ H1 L2 B2, Wb c H0 H1 M L2 B2 → Sfx L L2 → Sfx B B2 → QB' false H1) → tU σ H QB')
    (q : ∀ H1 L' B', Wb c H0 H1 M (L' ++ L) (B' ++ B) → QB false H1) : kIf (fun H1 => tU σ H1 QB) (fun H1 => QB false H1) k H := by
  cases k with
  | true => exact rd_T rfl (h rfl QB fun H1 L2 B2 W s1 s2 => by
    obtain ⟨L', rfl⟩ := s1
    obtain ⟨B', rfl⟩ := s2
    exact q H1 L' B' W)
  | false => exact rd_F rfl (q H [] [] W)
theorem lw_kIT {R : It → Hp → Prop} (W : Wb c H0 H M L B) (h : (a, .tup xs) ∈ L) (q : R (Itt K a) H) : kIT K R (.ref a) H := rd_kIT (SqT.of (W.get h)) q
theorem lw_kIL {R : It → Hp → Prop} (W : Wb c H0 H M L B) (h : (a, .lst xs) ∈ L) (q : R (Itl K a) H) : kIL K R (.ref a) H := rd_kIL (SqL.of (W.get h)) q
/-- a loop that draws nothing and changes nothing -/
def LInv (c : Pc) (H0 : Hp) (M : List Addr) (L : List (Addr × HO)) (B : List (Addr × Nat × Int)) (Ps : L2.St → Prop) : L2.St → Hp → Prop := fun σ H => Ps σ ∧ ∃ L' B', Wb c H0 H M (L' ++ L) (B' ++ B)
theorem lw_forT {g : TG} {ts : TS} {nx bk ct : L2.St → Hp → Prop} {rt : VK} (Ps : Nat → L2.St → Prop) (W : Wb c H0 H M L B) (h : (a, .tup xs) ∈ L) (h0 : Ps 0 σ)
    (hs : ∀ i x σ H L' B', xs[i]? = some x → Ps i σ → Wb c H0 H M (L' ++ L) (B' ++ B) → g x σ H fun σ2 H2 => ts ⟨LInv c H0 M L B (Ps (i + 1)), rt, nx, LInv c H0 M L B (Ps (i + 1))⟩ σ2 H2)
    (hd : ∀ σ H L' B', Ps xs.length σ → Wb c H0 H M (L' ++ L) (B' ++ B) → nx σ H) : kFor g ts ⟨nx, rt, bk, ct⟩ σ (Itt K a) H :=
  rd_forT (fun i => LInv c H0 M L B (Ps i)) ⟨h0, [], [], W⟩ (fun i σ H _ ⟨_, L', B', W'⟩ => SqT.of (W'.get (List.mem_append_right _ h))) (fun i x σ H hx ⟨hp, L', B', W'⟩ => hs i x σ H L' B' hx hp W') (fun σ H ⟨hp, L', B', W'⟩ => hd σ H L' B' hp W')
theorem lw_forL {g : TG} {ts : TS} {nx bk ct : L2.St → Hp → Prop} {rt : VK} (Ps : Nat → L2.St → Prop) (W : Wb c H0 H M L B) (h : (a, .lst xs) ∈ L) (h0 : Ps 0 σ)
    (hs : ∀ i x σ H L' B', xs[i]? = some x → Ps i σ → Wb c H0 H M (L' ++ L) (B' ++ B) → g x σ H fun σ2 H2 => ts ⟨LInv c H0 M L B (Ps (i + 1)), rt, nx, LInv c H0 M L B (Ps (i + 1))⟩ σ2 H2)
    (hd : ∀ σ H L' B', Ps xs.length σ → Wb c H0 H M (L' ++ L) (B' ++ B) → nx σ H) : kFor g ts ⟨nx, rt, bk, ct⟩ σ (Itl K a) H :=
  rd_forL (fun i => LInv c H0 M L B (Ps i)) ⟨h0, [], [], W⟩ (fun i σ H _ ⟨_, L', B', W'⟩ => SqL.of (W'.get (List.mem_append_right _ h))) (fun i x σ H hx ⟨hp, L', B', W'⟩ => hs i x σ H L' B' hx hp W') (fun σ H ⟨hp, L', B', W'⟩ => hd σ H L' B' hp W')
theorem lw_end {Ps : L2.St → Prop} {N : List (Addr × HO)} {C : List (Addr × Nat × Int)} (W : Wb c H0 H M N C) (s1 : Sfx L N) (s2 : Sfx B C) (h : Ps σ) : LInv c H0 M L B Ps σ H := by
  obtain ⟨L', rfl⟩ := s1
  obtain ⟨B', rfl⟩ := s2
  exact ⟨h, L', B', W⟩
theorem kMake_dvs {C : Addr} {sp : Sp} {dvs : List V} (q : kMake C sp [] E Q (vs ++ dvs) H) : kMake C sp dvs E Q vs H := fun x dx h1 h2 h3 => by
  have := q x dx h1 h2 h3
  rwa [List.append_nil] at this
theorem lw_mkM1 (W : Wb c H0 H M L B) (h1 : 8 ≤ b) (h2 : b ≤ 30) (h3 : 2 ≤ cut) (h4 : cut ≤ 1000)
    (q : ∀ x dx d e H', H0 x = none → H0 d = none → H0 e = none → Wb c H0 H' M ((d, .dK (cK zeros)) :: (e, .lst []) :: (x, .ins c.CMachine dx (mF b cut d e)) :: L) B → Q (.ref x) H') : kMake c.CMachine (sp_Machine_init K c) [.int cut] E Q [.int (b : Int)] H :=
  kMake_dvs (lw_mkMachine W h1 h2 h3 h4 q)
theorem lw_mkM0 (W : Wb c H0 H M L B) 
    (q : ∀ x dx d e H', H0 x = none → H0 d = none → H0 e = none → Wb c H0 H' M ((d, .dK (cK zeros)) :: (e, .lst []) :: (x, .ins c.CMachine dx (mF 30 70 d e)) :: L) B → Q (.ref x) H') : kMake c.CMachine (sp_Machine_init K c) [.int 30, .int 70] E Q [] H :=
  kMake_dvs (lw_mkMachine (b := 30) W (by decide) (by decide) (by decide) (by decide) q)
/-! ### machines and Bigs -/
theorem mF_meth' {m : Str} (h : (m == "entered" || m == "counts" || m == "base" || m == "limit_of_rows" || m == "width") = false) : (mF b cut d e).lookup m = none := by
  simp only [Bool.or_eq_false_iff, beq_eq_false_iff_ne] at h
  exact mF_none h.1.1.1.1 h.1.1.1.2 h.1.1.2 h.1.2 h.2
theorem bF_meth' {s : Int} {m : Str} (h : (m == "row" || m == "side" || m == "width") = false) : (bF b s r).lookup m = none := by
  simp only [Bool.or_eq_false_iff, beq_eq_false_iff_ne] at h
  exact bF_none h.1.1 h.1.2 h.2
theorem lw_methM {sp : Sp} {f : Str} (W : Wb c H0 H M L B) (h : (a, .ins c.CMachine dx (mF b cut d e)) ∈ L) (hl : (f == "entered" || f == "counts" || f == "base" || f == "limit_of_rows" || f == "width") = false) (q : tr σ H fun vs H2 => sp (.ref a :: vs) H2 Q E) : kMeth c.CMachine f sp [] E tr σ Q (.ref a) H :=
  rd_kMeth (W.get h) (mF_meth' hl) q
theorem lw_methB {sp : Sp} {f : Str} (W : Wb c H0 H M L B) (h : (x, b, n) ∈ B) (hl : (f == "row" || f == "side" || f == "width") = false) (q : tr σ H fun vs H2 => sp (.ref x :: vs) H2 Q E) : kMeth c.CBig f sp [] E tr σ Q (.ref x) H := by
  obtain ⟨dx, r, h1, _⟩ := (W.big h).1.at_
  exact rd_kMeth h1 (bF_meth' hl) q
theorem lw_parts (W : Wb c H0 H M L B) (h : (a, .ins c.CMachine dx (mF b cut d e)) ∈ L) (q : ∀ p H', H0 p = none → Wb c H0 H' M ((p, .tup [.int (b : Int), .int cut]) :: L) B → Q (.ref p) H') : sp_Machine_parts K c [.ref a] H Q E :=
  ⟨a, dx, b, cut, d, e, rfl, W.get h, fun p H' ch => q p H' (W.wd.fresh (ch.new List.mem_cons_self).1) (W.chg0 ch)⟩
theorem lw_walk (W : Wb c H0 H M L B) (h : (a, .ins c.CMachine dx (mF b cut d e)) ∈ L) (h2 : (e, .lst xs) ∈ L) (q : ∀ p H', H0 p = none → Wb c H0 H' M ((p, .lst xs) :: L) B → Q (.ref p) H') : sp_Machine_walk K c [.ref a] H Q E :=
  ⟨a, dx, b, cut, d, e, xs, rfl, W.get h, W.get h2, fun p H' ch => q p H' (W.wd.fresh (ch.new List.mem_cons_self).1) (W.chg0 ch)⟩
theorem lw_big (W : Wb c H0 H M L B) (h : (a, .ins c.CMachine dx (mF b cut d e)) ∈ L) (hl : bigL b n) (q : ∀ x H', H0 x = none → Wb c H0 H' M L ((x, b, n) :: B) → Q (.ref x) H') : sp_big K c [.ref a, .int n] H Q E :=
  ⟨a, dx, b, cut, d, e, n, rfl, W.get h, hl.1, Nat.lt_trans hl.2.2 (by decide), NewBig.at fun x H' ch hx hB => q x H' (W.wd.fresh hx) ((W.chg0 ch).add hB hl)⟩
theorem lw_sign (W : Wb c H0 H M L B) (h : (x, b, n) ∈ B) (q : Q (.int (sgn n)) H) : sp_Big_sign K c [.ref x] H Q E := ⟨x, b, n, rfl, (W.big h).1, q⟩
theorem lw_bits (W : Wb c H0 H M L B) (h : (x, b, n) ∈ B) (q : Q (.int (b : Int)) H) : sp_Big_bits K c [.ref x] H Q E := ⟨x, b, n, rfl, (W.big h).1, q⟩
theorem lw_digits (W : Wb c H0 H M L B) (h : (x, b, n) ∈ B) (q : ∀ p H', H0 p = none → Wb c H0 H' M ((p, .lst (iN (digs b n.natAbs))) :: L) B → Q (.ref p) H') : sp_Big_digits K c [.ref x] H Q E :=
  ⟨x, b, n, rfl, (W.big h).1, fun p H' ch => q p H' (W.wd.fresh (ch.new List.mem_cons_self).1) (W.chg0 ch)⟩
theorem lw_plain (W : Wb c H0 H M L B) (h : (x, b, n) ∈ B) (q : ∀ H', Wb c H0 H' M L B → Q (.int n) H') : sp_plain K c [.ref x] H Q E := ⟨x, b, n, rfl, (W.big h).1, (W.big h).2, fun H' s => q H' (W.same s)⟩
theorem bigL_neg (h : bigL b n) : bigL b (-n) := ⟨h.1, h.2.1, by rw [Int.natAbs_neg]; exact h.2.2⟩
theorem bigL_abs (h : bigL b n) : bigL b (n.natAbs : Int) := ⟨h.1, h.2.1, by rw [Int.natAbs_natCast]; exact h.2.2⟩
theorem lw_negative (W : Wb c H0 H M L B) (h : (x, b, n) ∈ B) (q : ∀ x' H', H0 x' = none → Wb c H0 H' M L ((x', b, -n) :: B) → Q (.ref x') H') : sp_negative K c [.ref x] H Q E :=
  ⟨x, b, n, rfl, (W.big h).1, fun x' H' hx ch hB => q x' H' (W.wd.fresh hx) ((W.chg0 ch).add hB (bigL_neg (W.big h).2))⟩
theorem lw_absolute (W : Wb c H0 H M L B) (h : (x, b, n) ∈ B) (q : ∀ x' H', H0 x' = none → Wb c H0 H' M L ((x', b, (n.natAbs : Int)) :: B) → Q (.ref x') H') : sp_absolute K c [.ref x] H Q E :=
  ⟨x, b, n, rfl, (W.big h).1, fun x' H' hx ch hB => q x' H' (W.wd.fresh hx) ((W.chg0 ch).add hB (bigL_abs (W.big h).2))⟩
theorem lw_ownEq (P : PB K c) (W : Wb c H0 H M L B) (h : (x, b, n) ∈ B) (h' : (x', b', m) ∈ B) (q : ∀ H', Wb c H0 H' M L B → Q (.bl (decide (b = b' ∧ n = m))) H') : rOwnEq K c.CBig (sp_Big_eq K c) E (.ref x) (.ref x') H Q := by
  obtain ⟨dx, r, h1, _⟩ := (W.big h).1.at_
  obtain ⟨dx', r', h1', _⟩ := (W.big h').1.at_
  exact rd_ownEq h1 (.base (.ins h1' P.isc.cl P.isc.ha P.isc.hn P.isc.htk P.isc.hm)) (nf_self _ _) ⟨x, b, n, .ref x', rfl, (W.big h).1, (W.big h).2.1, .inl ⟨x', b', m, rfl, (W.big h').1, (W.big h').2.1, fun H' s => ⟨_, rfl, q H' (W.same s)⟩⟩⟩
theorem lw_ownNe (W : Wb c H0 H M L B) (h : (x, b, n) ∈ B) (h' : (x', b', m) ∈ B) (q : ∀ H', Wb c H0 H' M L B → Q (.bl (!decide (b = b' ∧ n = m))) H') : rOwnNe K c.CBig (sp_Big_eq K c) E (.ref x) (.ref x') H Q := by
  obtain ⟨dx, r, h1, _⟩ := (W.big h).1.at_
  obtain ⟨dx', r', h1', _⟩ := (W.big h').1.at_
  exact rd_ownNe h1 h1' ⟨x, b, n, .ref x', rfl, (W.big h).1, (W.big h).2.1, .inl ⟨x', b', m, rfl, (W.big h').1, (W.big h').2.1, fun H' s => ⟨_, rfl, q H' (W.same s)⟩⟩⟩
theorem lw_ownEqI (N : NoSub K c.CBig) (W : Wb c H0 H M L B) (h : (x, b, n) ∈ B) (q : Q (.bl false) H) : rOwnEq K c.CBig (sp_Big_eq K c) E (.ref x) (.int m) H Q := by
  obtain ⟨dx, r, h1, _⟩ := (W.big h).1.at_
  exact rd_ownEq h1 (.base (.int m)) (N.nf (by decide)) ⟨x, b, n, .int m, rfl, (W.big h).1, (W.big h).2.1, .inr ⟨_, .base (.int m), N.kit (by decide), ⟨_, rfl, q⟩⟩⟩
theorem lw_ownEqL (N : NoSub K c.CBig) (W : Wb c H0 H M L B) (h : (x, b, n) ∈ B) (h' : (l, .lst xs) ∈ L) (q : Q (.bl false) H) : rOwnEq K c.CBig (sp_Big_eq K c) E (.ref x) (.ref l) H Q := by
  obtain ⟨dx, r, h1, _⟩ := (W.big h).1.at_
  exact rd_ownEq h1 (.base (.lst (W.get h'))) (N.nf (by decide)) ⟨x, b, n, .ref l, rfl, (W.big h).1, (W.big h).2.1, .inr ⟨_, .base (.lst (W.get h')), N.kit (by decide), ⟨_, rfl, q⟩⟩⟩
/-- a law's promise -/
def sp_law0 (K : PySem.W.Frag) : Sp := fun vs H Q _ => ∃ (a : Addr) (ns : List Int), vs = [.ref a] ∧ SqL K H a (ns.map V.int) ∧ ns.length ≤ 63 ∧ ∀ H', Q (.bl true) H'
theorem Chg.same {H' : Hp} {ns : List (Addr × HO)} (h : Chg H H' [] ns) : Same H H' := fun b o e => h.keep b o e (fun z => nomatch z)
/-- what is left of a tally of zeros: nothing -/
theorem zero_rows {i : Nat} {t : List V} (h : (rowsOf zeros)[i]? = some t) : ∃ w, t = [.str w, .int 0] := by
  have hi : i < 10 := (List.getElem?_eq_some_iff.mp h).1
  have hw : words[i]? = some (words[i]'hi) := List.getElem?_eq_getElem _
  rw [rows_get hw (zero_get hi)] at h
  exact ⟨_, (Option.some.inj h).symm⟩
theorem zero_tups {H1 : Hp} {p : Addr} {ps : List Addr} (hl : ps.length = 10) (ch : Chg H H1 [] ((p, .lst (ps.map V.ref)) :: tl2 ps (rowsOf zeros))) : ∀ q ∈ ps, ∃ w, H1 q = some (.tup [.str w, .int 0]) := fun q hq => by
  obtain ⟨i, hi⟩ := List.mem_iff_getElem?.mp hq
  have hlt : i < 10 := by rw [← hl]; exact (List.getElem?_eq_some_iff.mp hi).1
  have hr : (rowsOf zeros)[i]? = some ((rowsOf zeros)[i]'hlt) := List.getElem?_eq_getElem _
  obtain ⟨w, hw⟩ := zero_rows hr
  have := (ch.new (List.mem_cons_of_mem _ (tl2_mem hi hr))).2
  rw [hw] at this
  exact ⟨w, this⟩
/-- the loop over the script's cells -/
theorem rd_cells {ns : List Int} {g : TG} {ts : TS} {nx bk ct : L2.St → Hp → Prop} {rt : VK} {lo hi : Int} (Ps : L2.St → Prop) (h0 : σ[0]? = some (some (.ref a))) (ha : SqL K H a (ns.map V.int)) (hlen : ns.length ≤ 63) (hp : Ps σ)
    (hs : ∀ H4 z σ' H', Same H4 H' → Ps σ' → g (.int z) σ' H' fun σ2 H2 => ts ⟨fun σ3 H3 => Ps σ3 ∧ Same H4 H3, rt, nx, fun σ3 H3 => Ps σ3 ∧ Same H4 H3⟩ σ2 H2) (hd : ∀ σ' H', Ps σ' → nx σ' H') :
    tFor (iList K (tOp rCat (tLst (tCons (tCall (sp_law_cell_at K c) [] E0 (tCons (tVar 0) (tCons (tC (.int 0)) tNil))) tNil)) (tSl (rSlL K) (tVar 0) (tPart (tC (.int lo))) (tPart (tC (.int hi)))))) g ts ⟨nx, rt, bk, ct⟩ σ H := by
  refine rd_for (rd_iList (rd_op (rd_lst (rd_cons (rd_call (rd_cons (rd_var h0 (rd_cons (rd_c (rd_nil ?_)))))))))) 
  refine ⟨a, ns, 0, rfl, ha, by omega, fun n0 H1 hs1 => ?_⟩
  walk_at "rd"
  refine rd_kLst (Wd.nil H1) (by walk_at "len") fun l1 H2 hl1 W2 => ?_
  refine rd_sl (rd_var h0 ?_)
  walk_at "rd"
  obtain ⟨ms, e, hms⟩ := cut_ints ns (some lo) (some hi)
  refine rd_slL W2 ((hs1.trans W2.toSame).seq ha) e fun l2 H3 hl2 W3 => ?_
  refine rd_cat W3 (by walk_at "own") (by walk_at "own") (Evl.sz_of (by simp; omega)) fun l3 H4 hl3 W4 => ?_
  walk_at "rd"
  have hl3' : H4 l3 = some (.lst ((n0 :: ms).map V.int)) := W4.get (by walk_at "mem")
  refine rd_forL (xs := (n0 :: ms).map V.int) (fun i σ' H' => Ps σ' ∧ Same H4 H') ⟨hp, Same.refl _⟩ ?_ ?_ ?_
  · rintro i σ' H' _ ⟨_, hs⟩
    exact SqL.of (hs _ _ hl3')
  · rintro i y σ' H5 hy ⟨hp5, hs5⟩
    obtain ⟨z, rfl⟩ : ∃ z, y = .int z := by
      obtain ⟨z, _, rfl⟩ := List.mem_map.mp (List.mem_of_getElem? hy)
      exact ⟨z, rfl⟩
    exact hs H4 z σ' H5 hs5 hp5
  · rintro σ' H5 ⟨hp5, _⟩
    exact hd σ' H5 hp5
theorem Rp.same : ∀ {L L' : List (Addr × HO)}, Rp a o o L L' → L' = L
  | _, _, .here => rfl
  | _, _, .there r => congrArg (List.cons _) r.same
/-- a comprehension over a range, each turn with draws -/
theorem lw_lcR {te : TE} {j k : Nat} {lo : Int} (Pn : V → Prop) (W : Wb c H0 H M L B) (hr : ∀ u, Rp a o u L (L1 u)) (ho : SrcO o) (hk : k ≤ 10000) (hw : ∀ v, wipe ((wipe σ [j]).set j (some v)) [j] = wipe σ [j])
    (hs : ∀ (i : Nat) (D : Addr) (xs : List V) (o' : HO) (H' : Hp) (L' : List (Addr × HO)) (B' : List (Addr × Nat × Int)), i < k → SrcO o' → H0 D = none → Wb c H0 H' M (L' ++ (D, .lst xs) :: L1 o') (B' ++ B) → ∀ Q' : VK, (∀ y o'' H'' L2 B2, Pn y → SrcO o'' → Wb c H0 H'' M L2 B2 → Sfx ((D, .lst xs) :: L1 o'') L2 → Sfx B B2 → Q' y H'') → te ((wipe σ [j]).set j (some (.int (lo + i)))) H' Q')
    (q : ∀ (D : Addr) (H' : Hp) (ys : List V) (o' : HO) (L' : List (Addr × HO)) (B' : List (Addr × Nat × Int)), ys.length = k → (∀ y ∈ ys, Pn y) → SrcO o' → H0 D = none → Wb c H0 H' M (L' ++ (D, .lst ys) :: L1 o') (B' ++ B) → Q (.ref D) H') : kLc (gName j) tYes te [j] σ Q (Itr lo k) H := by
  have eL : L1 o = L := (hr o).same
  refine rd_lcR fun D hD => ⟨fun i H' => ∃ ys o' L' B', ys.length = i ∧ (∀ y ∈ ys, Pn y) ∧ SrcO o' ∧ Wb c H0 H' M (L' ++ (D, .lst ys) :: L1 o') (B' ++ B), ⟨[], o, [], [], rfl, (fun y z => nomatch z), ho, by rw [eL]; exact W.new hD⟩, ?_, ?_⟩
  · rintro i H1 hi ⟨ys, o', L', B', hl, hy, ho', W1⟩
    refine ⟨hw _, ?_⟩
    refine rd_yes (rd_T rfl ?_)
    refine hs i D ys o' H1 L' B' hi ho' (W.wd.fresh hD) W1 _ fun y o'' H2 L2 B2 py ho'' W2 s1 s2 => ?_
    obtain ⟨L3, rfl⟩ := s1
    obtain ⟨B3, rfl⟩ := s2
    refine lw_kAcc W2 (Rp.app Rp.here) (.inl (W.wd.fresh hD)) (by rw [hl]; exact Nat.lt_of_lt_of_le hi (Evl.sz_of (by omega))) fun H3 W3 => ?_
    refine ⟨ys ++ [y], o'', L3, B3, by rw [List.length_append, hl]; rfl, fun w hw => ?_, ho'', W3⟩
    rcases List.mem_append.mp hw with z | z
    · exact hy w z
    · rw [List.mem_singleton.mp z]; exact py
  · rintro H1 ⟨ys, o', L', B', hl, hy, ho', W1⟩
    exact q D H1 ys o' L' B' hl hy ho' (W.wd.fresh hD) W1
/-- a loop whose turns draw -/
def SInv (c : Pc) (H0 : Hp) (M : List Addr) (L1 : HO → List (Addr × HO)) (B : List (Addr × Nat × Int)) (Ps : L2.St → Prop) : L2.St → Hp → Prop := fun σ H => Ps σ ∧ ∃ o' L' B', SrcO o' ∧ Wb c H0 H M (L' ++ L1 o') (B' ++ B)
theorem lw_forLS {g : TG} {ts : TS} {nx bk ct : L2.St → Hp → Prop} {rt : VK} (Ps : Nat → L2.St → Prop) (W : Wb c H0 H M L B) (hr : ∀ u, Rp a o u L (L1 u)) (ho : SrcO o) (h : ∀ u, (l, .lst xs) ∈ L1 u) (h0 : Ps 0 σ)
    (hs : ∀ i x σ H o' L' B', xs[i]? = some x → Ps i σ → SrcO o' → Wb c H0 H M (L' ++ L1 o') (B' ++ B) → g x σ H fun σ2 H2 => ts ⟨SInv c H0 M L1 B (Ps (i + 1)), rt, nx, SInv c H0 M L1 B (Ps (i + 1))⟩ σ2 H2)
    (hd : ∀ σ H o' L' B', Ps xs.length σ → SrcO o' → Wb c H0 H M (L' ++ L1 o') (B' ++ B) → nx σ H) : kFor g ts ⟨nx, rt, bk, ct⟩ σ (Itl K l) H :=
  rd_forL (fun i => SInv c H0 M L1 B (Ps i)) ⟨h0, o, [], [], ho, by rw [(hr o).same]; exact W⟩ (fun i σ H _ ⟨_, o', L', B', _, W'⟩ => SqL.of (W'.get (List.mem_append_right _ (h o')))) (fun i x σ H hx ⟨hp, o', L', B', ho', W'⟩ => hs i x σ H o' L' B' hx hp ho' W') (fun σ H ⟨hp, o', L', B', ho', W'⟩ => hd σ H o' L' B' hp ho' W')
theorem lw_endS {Ps : L2.St → Prop} {N : List (Addr × HO)} {C : List (Addr × Nat × Int)} (W : Wb c H0 H M N C) (ho : SrcO o) (s1 : Sfx (L1 o) N) (s2 : Sfx B C) (h : Ps σ) : SInv c H0 M L1 B Ps σ H := by
  obtain ⟨L', rfl⟩ := s1
  obtain ⟨B', rfl⟩ := s2
  exact ⟨h, o, L', B', ho, W⟩
/-- the tally of a machine that has counted nothing, what of it is not 0 -/
theorem lw_tally0 (W : Wb c H0 H M L B) (h : (a, .ins c.CMachine dx (mF b cut d e)) ∈ L) (h2 : (d, .dK (cK zeros)) ∈ L)
    (q : ∀ p (ps : List Addr) H', ps.length = 10 → H0 p = none → (∀ q ∈ ps, ∃ w, H' q = some (.tup [.str w, .int 0])) → Wb c H0 H' M ((p, .lst (ps.map V.ref)) :: (tl2 ps (rowsOf zeros) ++ L)) B → Q (.ref p) H') : sp_Machine_tally K c [.ref a] H Q E :=
  ⟨a, dx, b, cut, d, e, zeros, rfl, W.get h, W.get h2, rfl, fun p ps H' hl ch => q p ps H' hl (W.wd.fresh (ch.new List.mem_cons_self).1) (zero_tups hl ch) (W.chg0 ch)⟩
theorem lw_lc0 {te : TE} {i j : Nat} {ps : List Addr} (W : Wb c H0 H M L B) (h : (p, .lst (ps.map V.ref)) ∈ L) (hz : ∀ q ∈ ps, ∃ w, H q = some (.tup [.str w, .int 0])) (hw : ∀ v w, wipe (((wipe σ [i, j]).set i (some v)).set j (some w)) [i, j] = wipe σ [i, j])
    (hv : ∀ v w, (((wipe σ [i, j]).set i (some v)).set j (some w))[j]? = some (some w))
    (q : ∀ D H', H0 D = none → Wb c H0 H' M ((D, .lst []) :: L) B → Q (.ref D) H') : kLc (gTup K 2 (gCons (gName i) (gCons (gName j) gNil))) (tTest (tOp rNe (tVar j) (tC (.int 0)))) te [i, j] σ Q (Itl K p) H := by
  refine rd_lcL (xs := ps.map V.ref) fun D hD => ⟨fun i H' => H' = upd H D (.lst []), rfl, ?_, ?_, ?_⟩
  · rintro i H' _ rfl
    have W1 := W.new (o := .lst []) hD
    exact SqL.of (W1.get (List.mem_cons_of_mem _ h))
  · rintro i' x H' hx rfl
    obtain ⟨z, hz1, rfl⟩ := List.mem_map.mp (List.mem_of_getElem? hx)
    obtain ⟨w, hw1⟩ := hz z hz1
    have hne : z ≠ D := fun e => by rw [e, hD] at hw1; cases hw1
    refine rd_gTup (xs := [.str w, .int 0]) (SqT.of (by rw [upd_ne hne]; exact hw1)) rfl ?_
    refine rd_gCons ?_
    unfold gName
    refine rd_gCons ?_
    refine rd_gNil ?_
    refine ⟨hw _ _, ?_⟩
    refine rd_test (rd_op (rd_var (hv _ _) (rd_c ?_)))
    refine rd_neI (rd_kB ?_)
    exact rd_Fn rfl rfl
  · rintro H' rfl
    exact q D _ (W.wd.fresh hD) (W.new hD)
end

/-! K01a: is_digits, normal; the law's split. -/
local macro_rules | `(tactic| walk_at "sfx") => `(tactic| repeat (first | exact Sfx.refl | with_reducible refine Sfx.cons ?_ | with_reducible refine Sfx.app ?_))
local macro_rules | `(tactic| walk_at "len2") => `(tactic| first | walk_at "len" | exact Nat.le_trans (m := 2 ^ 23) (by simp only [iN_length, List.length_append, List.length_replicate, List.length_cons, List.length_nil, List.length_map]; omega) (by decide) | exact Nat.lt_of_lt_of_le (m := 2 ^ 23) (by simp only [iN_length, List.length_append, List.length_replicate, List.length_cons, List.length_nil, List.length_map]; omega) (by decide))
local macro_rules | `(tactic| walk_at "al") => `(tactic| repeat (first | with_reducible exact AllI.nil | with_reducible exact AllI.n _ | with_reducible exact AllI.m _ | with_reducible refine AllI.app ?_ ?_ | with_reducible refine AllI.cons ?_ | with_reducible refine AllI.rep ?_))
local macro_rules | `(tactic| walk_at "tst") => `(tactic| first | with_reducible exact rfl | assumption | with_reducible exact ⟨rfl, rfl⟩ | omega)
local macro_rules | `(tactic| walk_at "bl") => `(tactic| first | assumption | exact bigL_of (by omega) (by omega) (by first | assumption | decide +kernel))
set_option hygiene false in
local macro_rules | `(tactic| walk_at "lw1") => `(tactic| first
  | walk_at "rd1"
  | ((with_reducible refine' lw_lst (by assumption) ?hh1 ?_); (case hh1 => walk_at "len2"); intro p H' hp W)
  | ((with_reducible refine' lw_tup (by assumption) ?hh1 ?_); (case hh1 => walk_at "len2"); intro p H' hp W)
  | ((with_reducible refine' lw_catN (by assumption) ?hh1 ?hh2 ?hh3 ?_); (case hh1 => walk_at "mem"); (case hh2 => walk_at "mem"); (case hh3 => walk_at "len2"); intro p H' hp W)
  | ((with_reducible refine' lw_repZ (by assumption) ?hh1 ?hh2 ?hh3 ?_); (case hh1 => walk_at "mem"); (case hh2 => omega); (case hh3 => omega); intro p H' hp W)
  | ((with_reducible refine' lw_cat (by assumption) ?hh1 ?hh2 ?hh3 ?_); (case hh1 => walk_at "mem"); (case hh2 => walk_at "mem"); (case hh3 => walk_at "len2"); intro p H' hp W)
  | ((with_reducible refine' lw_append (by assumption) ?hh1 ?hh2 ?hh3 ?_); (case hh1 => walk_at "rp"); (case hh2 => walk_at "may"); (case hh3 => walk_at "len2"); intro H' W)
  | ((with_reducible refine' lw_slL (by assumption) ?hh1 ?_); (case hh1 => walk_at "mem"); intro p H' hp W)
  | ((with_reducible refine' lw_list (by assumption) ?hh1 ?_); (case hh1 => walk_at "mem"); intro p H' hp W)
  | ((with_reducible refine' lw_ixT (by assumption) ?hh1 ?hh2 ?_); (case hh1 => walk_at "mem"); (case hh2 => exact rfl))
  | ((with_reducible refine' rd_mul ?hh1 ?_); (case hh1 => first | exact mul_okR (by omega) (by omega) | exact mul_okL (by omega) (by omega)))
  | ((with_reducible refine' lw_kBMl (by assumption) ?hh1 ?_); (case hh1 => walk_at "mem"))
  | ((with_reducible refine' lw_neLF (by assumption) ?hh1 ?hh2 ?hh6 ?hh3 ?_); (case hh1 => walk_at "mem"); (case hh2 => walk_at "mem"); (case hh6 => first | with_reducible exact rfl | assumption | exact iN_digs0); (case hh3 => walk_at "al"))
  | ((with_reducible refine' lw_eqLT (by assumption) ?hh1 ?hh2 ?hh6 ?hh3 ?_); (case hh1 => walk_at "mem"); (case hh2 => walk_at "mem"); (case hh6 => first | with_reducible exact rfl | assumption | exact iN_digs0); (case hh3 => walk_at "al"))
  | ((with_reducible refine' lw_source_of (by assumption) ?_); intro p o H' hp ho W)
  | ((with_reducible refine' lw_next (by assumption) ?hh1 ?hh2 ?hh3 ?hh4 ?hh5 ?_); (case hh1 => (intro u; walk_at "rp")); (case hh2 => assumption); (case hh3 => walk_at "may"); (case hh4 => walk_at "ari"); (case hh5 => walk_at "ari"); intro r o H' hr0 hr1 ho W)
  | ((with_reducible refine' lw_machine (by assumption) ?hh1 ?hh2 ?hh3 ?_); (case hh1 => (intro u; walk_at "rp")); (case hh2 => assumption); (case hh3 => walk_at "may"); intro x dx b cut d e o H' hb1 hb2 hc1 hc2 hx hd he ho W)
  | ((with_reducible refine' lw_methM (by assumption) ?hh1 ?hh2 ?_); (case hh1 => walk_at "mem"); (case hh2 => decide))
  | ((with_reducible refine' lw_methB (by assumption) ?hh1 ?hh2 ?_); (case hh1 => walk_at "mem"); (case hh2 => decide))
  | ((with_reducible refine' lw_parts (by assumption) ?hh1 ?_); (case hh1 => walk_at "mem"); intro p H' hp W)
  | ((with_reducible refine' lw_walk (by assumption) ?hh1 ?hh2 ?_); (case hh1 => walk_at "mem"); (case hh2 => walk_at "mem"); intro p H' hp W)
  | ((with_reducible refine' lw_big (by assumption) ?hh1 ?hh2 ?_); (case hh1 => walk_at "mem"); (case hh2 => walk_at "bl"); intro x H' hx W)
  | ((with_reducible refine' lw_normalP (by assumption) ?hh1 ?hh2 ?hh3 ?hh4 ?_); (case hh1 => walk_at "mem"); (case hh2 => walk_at "mem"); (case hh3 => walk_at "bl"); (case hh4 => omega); intro x H' hx W)
  | ((with_reducible refine' lw_normalD (by assumption) ?hh1 ?hh2 ?hh3 ?_); (case hh1 => walk_at "mem"); (case hh2 => walk_at "mem"); (case hh3 => walk_at "bl"); intro x H' hx W)
  | ((with_reducible refine' lw_normalN (by assumption) ?hh1 ?hh2 ?hh3 ?_); (case hh1 => walk_at "mem"); (case hh2 => walk_at "mem"); (case hh3 => walk_at "bl"); intro x H' hx W)
  | ((with_reducible refine' lw_normalZ (by assumption) ?hh1 ?hh2 ?hh3 ?hh4 ?hh5 ?hh6 ?_); (case hh1 => walk_at "mem"); (case hh2 => walk_at "mem"); (case hh3 => omega); (case hh4 => omega); (case hh5 => omega); (case hh6 => omega); intro x H' hx W)
  | ((with_reducible refine' lw_normalE (by assumption) ?hh1 ?hh2 ?hh3 ?hh4 ?hh6 ?_); (case hh1 => walk_at "mem"); (case hh2 => walk_at "mem"); (case hh3 => omega); (case hh4 => omega); (case hh6 => omega); intro x H' hx W)
  | ((with_reducible refine' lw_split (by assumption) ?hh1 ?hh2 ?hh3 ?_); (case hh1 => omega); (case hh2 => omega); (case hh3 => omega); intro p H' hp W)
  | ((with_reducible refine' lw_sign (by assumption) ?hh1 ?_); (case hh1 => walk_at "mem"))
  | ((with_reducible refine' lw_bits (by assumption) ?hh1 ?_); (case hh1 => walk_at "mem"))
  | ((with_reducible refine' lw_digits (by assumption) ?hh1 ?_); (case hh1 => walk_at "mem"); intro p H' hp W)
  | ((with_reducible refine' lw_plain (by assumption) ?hh1 ?_); (case hh1 => walk_at "mem"); intro H' W)
  | ((with_reducible refine' lw_negative (by assumption) ?hh1 ?_); (case hh1 => walk_at "mem"); intro x H' hx W)
  | ((with_reducible refine' lw_absolute (by assumption) ?hh1 ?_); (case hh1 => walk_at "mem"); intro x H' hx W)
  | ((with_reducible refine' lw_ownNe (by assumption) ?hh1 ?hh2 ?_); (case hh1 => walk_at "mem"); (case hh2 => walk_at "mem"); intro H' W)
  | ((with_reducible refine' lw_ownEq (by assumption) (by assumption) ?hh1 ?hh2 ?_); (case hh1 => walk_at "mem"); (case hh2 => walk_at "mem"); intro H' W)
  | ((with_reducible refine' lw_ownEqI (by assumption) (by assumption) ?hh1 ?_); (case hh1 => walk_at "mem"))
  | ((with_reducible refine' lw_ownEqL (by assumption) (by assumption) ?hh1 ?hh2 ?_); (case hh1 => walk_at "mem"); (case hh2 => walk_at "mem"))
  | ((with_reducible refine' lw_kIT (by assumption) ?hh1 ?_); (case hh1 => walk_at "mem"))
  | ((with_reducible refine' lw_kIL (by assumption) ?hh1 ?_); (case hh1 => walk_at "mem"))
  | ((with_reducible refine' lw_mkMachine (by assumption) ?hh1 ?hh2 ?hh3 ?hh4 ?_); (case hh1 => omega); (case hh2 => omega); (case hh3 => omega); (case hh4 => omega); intro x dx d e H' hx hd he W)
  | ((with_reducible refine' lw_mkM1 (by assumption) ?hh1 ?hh2 ?hh3 ?hh4 ?_); (case hh1 => omega); (case hh2 => omega); (case hh3 => omega); (case hh4 => omega); intro x dx d e H' hx hd he W)
  | ((with_reducible refine' lw_mkM0 (by assumption) ?_); intro x dx d e H' hx hd he W)
  | ((with_reducible refine' lw_tally0 (by assumption) ?hh1 ?hh2 ?_); (case hh1 => walk_at "mem"); (case hh2 => walk_at "mem"); intro p ps H' hpl hp hz W)
  | ((with_reducible refine' lw_lc0 (by assumption) ?hh1 ?hh2 ?hh3 ?hh4 ?_); (case hh1 => walk_at "mem"); (case hh2 => assumption); (case hh3 => (intro _ _; exact rfl)); (case hh4 => (intro _ _; exact rfl)); intro p H' hp W)
  | ((with_reducible refine' lw_shl1 ?hh1 ?_); (case hh1 => omega))
  | (with_reducible refine' rd_isB ?_)
  | ((with_reducible refine' lw_kwS ?hh1 ?hh2 ?_); (case hh1 => exact rfl); (case hh2 => (simp only [perm, List.map_cons, List.map_nil, List.getD_cons_zero, List.getD_cons_succ]; try rfl)))
  | (with_reducible refine' rd_nT ?_)
  | (with_reducible refine' rd_nF ?_)
  | (with_reducible refine' rd_T rfl ?_)
  | (with_reducible refine' rd_F rfl ?_)
  | ((with_reducible refine' rd_Fn ?hh1 ?_); (case hh1 => walk_at "tst"))
  | ((with_reducible refine' rd_Td ?hh1 ?_); (case hh1 => walk_at "tst"))
  | ((with_reducible refine' rd_Fd ?hh1 ?_); (case hh1 => walk_at "tst"))
  | ((with_reducible refine' rd_Tn ?hh1 ?_); (case hh1 => walk_at "tst")))
local macro_rules | `(tactic| walk_at "lw") => `(tactic| repeat (walk_at "lw1"))
section
variable {K : PySem.W.Frag} {c : Pc} {vs xs ys : List V} {H H0 H' : Hp} {Q : VK} {E : XK} {M : List Addr} {L L' ns cs : List (Addr × HO)} {L1 : HO → List (Addr × HO)} {B : List (Addr × Nat × Int)} {b b' : Nat} {cut n m : Int} {a d e dx r x x' l p : Addr} {o u : HO} {σ : L2.St} {y : V} {tr : TA}
theorem nosub_mk {C : Addr} (h1 : PySem.W.isClsIn K C = true) (h2 : PySem.W.typeIn K (.ref C) = some (.type "type")) (s1 : PySem.W.subIn K (.type "int") (.ref C) = some false) (s2 : PySem.W.subIn K (.type "list") (.ref C) = some false) (s3 : PySem.W.subIn K (.type "str") (.ref C) = some false) (s4 : PySem.W.subIn K (.type "NoneType") (.ref C) = some false) (s5 : PySem.W.subIn K (.type "bool") (.ref C) = some false) (s6 : PySem.W.subIn K (.type "tuple") (.ref C) = some false) (s7 : PySem.W.subIn K (.type "dict") (.ref C) = some false) : NoSub K C :=
  ⟨h1, h2, fun b hb => by
    simp only [List.mem_cons, List.not_mem_nil, or_false] at hb
    rcases hb with rfl | rfl | rfl | rfl | rfl | rfl | rfl
    · exact s1
    · exact s2
    · exact s3
    · exact s4
    · exact s5
    · exact s6
    · exact s7⟩
/-! is_digits -/
def sp_is_digits (K : PySem.W.Frag) (c : Pc) : Sp := fun vs H Q _ => ∃ (m dx : Addr) (b : Nat) (cut : Int) (d e l : Addr) (ds : List Nat), vs = [.ref m, .ref l] ∧ H m = some (.ins c.CMachine dx (mF b cut d e)) ∧ H l = some (.lst (iN ds)) ∧ Digs b ds ∧ ds.length < 2 ^ 23 ∧ ∀ H', Same H H' → Q (.bl true) H'
def t_is_digits (K : PySem.W.Frag) (c : Pc) : TS :=
  (tRet (tAndV (tCB (rIsi K) (tCons (tVar 1) (tCons (tC (.ty "list")) tNil))) (tCB (rAll K) (tCons (tLc (iList K (tVar 1)) (gName 2) tYes (tCall (sp_is_between K c) [] E0 (tCons (tVar 2) (tCons (tC (.int 0)) (tCons (tOp rSub (tFld K (tVar 0) "base") (tC (.int 1))) tNil)))) [2]) tNil))))
theorem all_true (n : Nat) : (List.replicate n true).all id = true := by
  induction n with
  | zero => rfl
  | succ n ih => rw [List.replicate_succ, List.all_cons, ih]; rfl
theorem b_is_digits (P : PM K c) (h : sp_is_digits K c vs H Q E) : t_is_digits K c (en0 Q) (st0 3 vs) H := by
  obtain ⟨m, dx, b, cut, d, e, l, ds, rfl, hm, hl, hd, hlen, k⟩ := h
  have nml : m ≠ l := ne_of hm hl (by intro z; cases z)
  have W : Wd H H [] [(m, .ins c.CMachine dx (mF b cut d e)), (l, .lst (iN ds))] := (Wd.one hl).old hm (by simpa using nml)
  unfold t_is_digits
  walk_at "rd"
  refine isi_ty (.base (.lst hl)) rfl ?_
  walk_at "rd"
  refine rd_T rfl ?_
  walk_at "rd"
  refine rd_lcL (xs := iN ds) fun D hD => ⟨fun i H' => Wd H H' [] [(D, .lst ((List.replicate i true).map V.bl)), (m, .ins c.CMachine dx (mF b cut d e)), (l, .lst (iN ds))], W.new hD, ?_, ?_, ?_⟩
  · intro i H' _ W1
    walk_at "sq"
  · intro i x H' hx W1
    obtain ⟨d1, hd1, rfl⟩ := iN_of hx
    have hil : i < ds.length := (List.getElem?_eq_some_iff.mp hd1).1
    have hdl : d1 < 2 ^ b := hd d1 (List.mem_of_getElem? hd1)
    walk_at "rd"
    refine ⟨rfl, ?_⟩
    walk_at "rd"
    refine rd_T rfl ?_
    walk_at "rd"
    refine rd_Mbase P (by walk_at "own") ?_
    walk_at "rd"
    refine u_between (Int.natCast_nonneg _) (by rw [pwN]; have := Int.ofNat_lt.mpr hdl; omega) ?_
    refine rd_kAcc W1 (by walk_at "rp") (.inl hD) ?_ fun H2 W2 => ?_
    · rw [List.length_map, List.length_replicate]; exact Nat.lt_of_lt_of_le (Nat.lt_trans hil hlen) (by decide)
    · have e1 : (List.replicate i true).map V.bl ++ [V.bl true] = (List.replicate (i + 1) true).map V.bl := by
        rw [List.replicate_succ', List.map_append]; rfl
      rw [e1] at W2
      exact W2
  · intro H' W1
    walk_at "rd"
    refine rd_all (bs := List.replicate (iN ds).length true) (by walk_at "sq") ?_
    rw [all_true]
    exact k H' W1.toSame
/-! normal -/
def sgnOk (s : Int) (v : Nat) : Prop := s = 1 ∨ s = -1 ∨ (s = 0 ∧ v = 0)
def sp_normal (K : PySem.W.Frag) (c : Pc) : Sp := fun vs H Q _ => ∃ (m dx : Addr) (b : Nat) (cut : Int) (d e l : Addr) (s : Int) (ds : List Nat), vs = [.ref m, .int s, .ref l] ∧ H m = some (.ins c.CMachine dx (mF b cut d e)) ∧ H l = some (.lst (iN ds)) ∧ b ≠ 0 ∧ Digs b ds ∧ ds.length < 2 ^ 22 ∧ sgnOk s (val b ds) ∧
  ∀ x H', H x = none → Chg H H' [] [] → BigAt c H' x b (s * (val b ds : Nat)) → Q (.ref x) H'
def t_normal (K : PySem.W.Frag) (c : Pc) : TS :=
  (tSeq (tDrop (tCall (sp_check_machine K c) [] E0 (tCons (tVar 0) tNil)))
  (tSeq (tAsg (tCall (sp_is_digits K c) [] E0 (tCons (tVar 0) (tCons (tVar 2) tNil))) (gName 3))
  (tSeq (tIfS (tOr (tNot (L2.tB (tCall (sp_is_between K c) [] E0 (tCons (tVar 1) (tCons (tUn rNeg (tC (.int 1))) (tCons (tC (.int 1)) tNil)))))) (tAnd (tTest (tOp rEq (tVar 1) (tC (.int 0)))) (tAnd (L2.tB (tVar 3)) (L2.tB (tCB (rAnyI K) (tCons (tVar 2) tNil)))))) tNever tNext)
  (tSeq (tIfS (tNot (L2.tB (tVar 3))) tNever tNext)
  (tRet (tCall (sp_made K c) [] E0 (tCons (tVar 0) (tCons (tVar 1) (tCons (tVar 2) tNil)))))))))
theorem strip_eq_nil {b : Nat} {ds : List Nat} (hb : b ≠ 0) (hd : Digs b ds) : strip ds = [] ↔ val b ds = 0 := by
  rw [← val_strip b ds]
  have h := digs_val hb (fun d z => hd d (strip_mem z)) (strip_norm ds)
  constructor
  · intro z; rw [z]; rfl
  · intro z; rw [z, digs_zero] at h; exact h.symm
theorem norm_at {s : Int} {ds : List Nat} {x dx r : Addr} (hb : b ≠ 0) (hd : Digs b ds) (hs : sgnOk s (val b ds)) (h1 : H x = some (.ins c.CBig dx (bF b (if strip ds = [] then 0 else s) r))) (h2 : H r = some (.tup (iN (strip ds)))) : BigAt c H x b (s * (val b ds : Nat)) := by
  have e1 : sgn (s * (val b ds : Nat)) = if strip ds = [] then 0 else s := by
    by_cases h0 : val b ds = 0
    · rw [if_pos ((strip_eq_nil hb hd).mpr h0), h0]
      simp [sgn]
    · rw [if_neg (fun z => h0 ((strip_eq_nil hb hd).mp z))]
      rcases hs with rfl | rfl | ⟨_, z⟩
      · unfold sgn; split <;> (try split) <;> omega
      · unfold sgn; split <;> (try split) <;> omega
      · exact absurd z h0
  have e2 : digs b (s * (val b ds : Nat)).natAbs = strip ds := by
    have e3 : (s * (val b ds : Nat)).natAbs = val b ds := by
      rcases hs with rfl | rfl | ⟨rfl, z⟩
      · omega
      · omega
      · omega
    rw [e3, ← val_strip b ds]
    exact digs_val hb (fun d z => hd d (strip_mem z)) (strip_norm ds)
  refine ⟨dx, r, ?_, ?_⟩
  · rw [e1]; exact h1
  · rw [e2]; exact h2
theorem any_zero {ds : List Nat} (h : val b ds = 0) : ((ds.map fun (d : Nat) => (d : Int)).any fun n => n != 0) = false := by
  induction ds with
  | nil => rfl
  | cons d ds ih =>
    rw [val_cons] at h
    have h1 : d = 0 := by omega
    have h2 : val b ds = 0 := by
      have h3 : 2 ^ b * val b ds = 0 := by omega
      rcases Nat.mul_eq_zero.mp h3 with z | z
      · exact absurd z (Nat.ne_of_gt (Nat.two_pow_pos b))
      · exact z
    rw [List.map_cons, List.any_cons, ih h2, h1]
    rfl
theorem b_normal (h : sp_normal K c vs H Q E) : t_normal K c (en0 Q) (st0 4 vs) H := by
  obtain ⟨m, dx, b, cut, d, e, l, s, ds, rfl, hm, hl, hb, hd, hlen, hs, k⟩ := h
  unfold t_normal
  walk_at "rd"
  refine ⟨m, dx, _, rfl, hm, ?_⟩
  walk_at "rd"
  refine ⟨m, dx, b, cut, d, e, l, ds, rfl, hm, hl, hd, by omega, fun H1 s1 => ?_⟩
  walk_at "rd"
  refine u_between (by rcases hs with z | z | z <;> omega) (by rcases hs with z | z | z <;> omega) ?_
  walk_at "rd"
  refine rd_F rfl ?_
  walk_at "rd"
  have fin : tSeq (tIfS (tNot (L2.tB (tVar 3))) tNever tNext) (tRet (tCall (sp_made K c) [] E0 (tCons (tVar 0) (tCons (tVar 1) (tCons (tVar 2) tNil))))) (en0 Q) [some (.ref m), some (.int s), some (.ref l), some (.bl true)] H1 := by
    walk_at "rd"
    refine rd_F rfl ?_
    walk_at "rd"
    refine ⟨m, dx, b, cut, d, e, s, l, ds, rfl, s1 _ _ hm, s1 _ _ hl, by omega, fun x dx' r H' ch => ?_⟩
    have hx := (ch.new List.mem_cons_self).1
    refine k x H' ?_ (.of_same fun q o z => ch.keep q o (s1 _ _ z) fun y => nomatch y) (norm_at hb hd hs (ch.new List.mem_cons_self).2 (ch.new (List.mem_cons_of_mem _ List.mem_cons_self)).2)
    cases hx0 : H x with
    | none => rfl
    | some o => rw [s1 _ _ hx0] at hx; cases hx
  refine rd_2d (fun h0 => ?_) fun h0 => ?_
  · have hv : val b ds = 0 := by rcases hs with z | z | z <;> omega
    walk_at "rd"
    refine rd_T rfl ?_
    walk_at "rd"
    refine rd_anyI (ns := ds.map fun (d : Nat) => (d : Int)) (by rw [← iN_int]; exact SqL.of (s1 _ _ hl)) ?_
    rw [any_zero hv]
    walk_at "rd"
    refine rd_F rfl ?_
    exact fin
  · refine rd_F rfl ?_
    exact fin
theorem lw_normal {ds : List Nat} {s : Int} (W : Wb c H0 H M L B) (h : (a, .ins c.CMachine dx (mF b cut d e)) ∈ L) (hl : (l, .lst (iN ds)) ∈ L) (hb : b ≠ 0) (hb' : b ≤ 30) (hd : Digs b ds) (hlen : ds.length < 2 ^ 22) (hs : sgnOk s (val b ds))
    (q : ∀ x H', H0 x = none → Wb c H0 H' M L ((x, b, s * (val b ds : Nat)) :: B) → Q (.ref x) H') : sp_normal K c [.ref a, .int s, .ref l] H Q E :=
  ⟨a, dx, b, cut, d, e, l, s, ds, rfl, W.get h, W.get hl, hb, hd, hlen, hs, fun x H' hx ch hB => q x H' (W.wd.fresh hx) ((W.chg0 ch).add hB ⟨hb, hb', by
    have e3 : (s * (val b ds : Nat)).natAbs = val b ds := by
      rcases hs with rfl | rfl | ⟨rfl, z⟩
      · omega
      · omega
      · omega
    rw [e3, ← val_strip b ds, digs_val hb (fun d z => hd d (strip_mem z)) (strip_norm ds)]
    exact Nat.lt_of_le_of_lt (strip_length ds) hlen⟩)⟩
theorem digs_len {b : Nat} {n : Int} (h1 : 8 ≤ b) (hn : n.natAbs < 2 ^ 4000) : (digs b n.natAbs).length ≤ 500 :=
  digs_length_le (by omega) _ (k := 500) (Nat.lt_of_lt_of_le hn (Nat.pow_le_pow_right (by decide) (by omega)))
theorem Digs.pad {ds : List Nat} {k : Nat} (h : Digs b ds) : Digs b (ds ++ List.replicate k 0) := fun d hd => by
  rcases List.mem_append.mp hd with z | z
  · exact h d z
  · rw [(List.mem_replicate.mp z).2]; exact Nat.two_pow_pos b
theorem val_pad (ds : List Nat) (k : Nat) : val b (ds ++ List.replicate k 0) = val b ds := by
  rw [← val_strip, strip_app_zeros _ (fun d z => (List.mem_replicate.mp z).2), val_strip]
theorem sgn_ok (n : Int) : sgnOk (sgn n) n.natAbs := by
  unfold sgnOk sgn
  split
  · exact .inr (.inl rfl)
  · split
    · rename_i h; subst h; exact .inr (.inr ⟨rfl, rfl⟩)
    · exact .inl rfl
theorem lw_normalP {k : Nat} (W : Wb c H0 H M L B) (h : (a, .ins c.CMachine dx (mF b cut d e)) ∈ L) (hl : (l, .lst (iN (digs b n.natAbs ++ List.replicate k 0))) ∈ L) (hL : bigL b n) (hk : (digs b n.natAbs).length + k < 2 ^ 22)
    (q : ∀ x H', H0 x = none → Wb c H0 H' M L ((x, b, n) :: B) → Q (.ref x) H') : sp_normal K c [.ref a, .int (sgn n), .ref l] H Q E :=
  lw_normal W h hl hL.1 hL.2.1 (digs_lt hL.1 _).pad (by rw [List.length_append, List.length_replicate]; exact hk) (by rw [val_pad, val_digs hL.1]; exact sgn_ok n) (by rw [val_pad, val_digs hL.1, sgn_mul]; exact q)
theorem lw_normalD (W : Wb c H0 H M L B) (h : (a, .ins c.CMachine dx (mF b cut d e)) ∈ L) (hl : (l, .lst (iN (digs b n.natAbs))) ∈ L) (hL : bigL b n)
    (q : ∀ x H', H0 x = none → Wb c H0 H' M L ((x, b, n) :: B) → Q (.ref x) H') : sp_normal K c [.ref a, .int (sgn n), .ref l] H Q E :=
  lw_normal W h hl hL.1 hL.2.1 (digs_lt hL.1 _) hL.2.2 (by rw [val_digs hL.1]; exact sgn_ok n) (by rw [val_digs hL.1, sgn_mul]; exact q)
theorem lw_normalN (W : Wb c H0 H M L B) (h : (a, .ins c.CMachine dx (mF b cut d e)) ∈ L) (hl : (l, .lst (iN (digs b n.natAbs))) ∈ L) (hL : bigL b n)
    (q : ∀ x H', H0 x = none → Wb c H0 H' M L ((x, b, -n) :: B) → Q (.ref x) H') : sp_normal K c [.ref a, .int (0 - sgn n), .ref l] H Q E := by
  rw [← sgn_neg]
  refine lw_normalD (n := -n) W h ?_ (bigL_neg hL) q
  rw [Int.natAbs_neg]; exact hl
theorem lw_normalZ {s : Int} {k : Nat} (W : Wb c H0 H M L B) (h : (a, .ins c.CMachine dx (mF b cut d e)) ∈ L) (hl : (l, .lst (iN (List.replicate k 0))) ∈ L) (hb : b ≠ 0) (hb' : b ≤ 30) (hk : k < 2 ^ 22) (hs : -1 ≤ s ∧ s ≤ 1)
    (q : ∀ x H', H0 x = none → Wb c H0 H' M L ((x, b, 0) :: B) → Q (.ref x) H') : sp_normal K c [.ref a, .int s, .ref l] H Q E := by
  have hv : val b (List.replicate k 0) = 0 := val_zeros b fun d z => (List.mem_replicate.mp z).2
  refine lw_normal W h hl hb hb' (fun d z => by rw [(List.mem_replicate.mp z).2]; exact Nat.two_pow_pos b) (by rw [List.length_replicate]; exact hk) (by rw [hv]; unfold sgnOk; omega) ?_
  rw [hv]
  have e : s * ((0 : Nat) : Int) = 0 := by simp
  rw [e]
  exact q
theorem lw_normalE {s : Int} (W : Wb c H0 H M L B) (h : (a, .ins c.CMachine dx (mF b cut d e)) ∈ L) (hl : (l, .lst []) ∈ L) (hb : b ≠ 0) (hb' : b ≤ 30) (hs : -1 ≤ s ∧ s ≤ 1)
    (q : ∀ x H', H0 x = none → Wb c H0 H' M L ((x, b, 0) :: B) → Q (.ref x) H') : sp_normal K c [.ref a, .int s, .ref l] H Q E :=
  lw_normalZ (k := 0) W h hl hb hb' (by decide) hs q
/-! the law's split -/
def sp_law_split (K : PySem.W.Frag) (c : Pc) : Sp := fun vs H Q _ => ∃ (n : Int) (b : Nat), vs = [.int n, .int ((2 ^ b : Nat) : Int)] ∧ b ≠ 0 ∧ b ≤ 60 ∧ (digs b n.natAbs).length < 2 ^ 23 ∧ ∀ l H', Chg H H' [] [(l, .lst (iN (digs b n.natAbs)))] → Q (.ref l) H'
def t_law_split (K : PySem.W.Frag) (c : Pc) : TS :=
  (tSeq (tPar 0 2 (tCons (tCB rAbs (tCons (tVar 0) tNil)) (tCons (tLst tNil) tNil)))
  (tSeq (tWhile (tTest (tOp rGt (tVar 0) (tC (.int 0)))) (tSeq (tDrop (tBM K "list" rAppend (tVar 2) (tCons (tOp rMod (tCB rInt (tCons (tVar 0) tNil)) (tVar 1)) tNil)))
  (tAsg (tOp rDiv (tVar 0) (tVar 1)) (gName 0))))
  (tRet (tVar 2))))
theorem b_law_split (h : sp_law_split K c vs H Q E) : t_law_split K c (en0 Q) (st0 3 vs) H := by
  obtain ⟨n, b, rfl, hb, hb60, hlen, k⟩ := h
  have h2b : 0 < 2 ^ b := Nat.two_pow_pos b
  have h2c : 2 ^ b ≤ 2 ^ 60 := Nat.pow_le_pow_right (by decide) hb60
  unfold t_law_split
  walk_at "rd"
  rw [absN]
  refine rd_kLst (Wd.nil H) (by decide) fun l H1 hl W1 => ?_
  walk_at "rd"
  refine rd_while (fun k σ' H' => ∃ ds, σ' = [some (.int (k : Int)), some (.int ((2 ^ b : Nat) : Int)), some (.ref l)] ∧ Wd H H' [] [(l, .lst (iN ds))] ∧ ds ++ digs b k = digs b n.natAbs) n.natAbs ⟨[], rfl, W1, rfl⟩ ?_
  rintro z σ' H' ⟨ds, rfl, W2, hds⟩
  walk_at "rd"
  refine rd_wh2 (fun h1 => ?_) fun h1 => ?_
  · have hz : z ≠ 0 := by omega
    have e1 := digs_pos hb hz
    walk_at "rd"
    refine rd_append W2 (by walk_at "rp") (.inl hl) ?_ fun H2 W3 => ?_
    · rw [iN_length]
      have := congrArg List.length hds
      rw [List.length_append] at this
      exact Nat.lt_of_lt_of_le (show ds.length < 2 ^ 23 by omega) (by decide)
    walk_at "rd"
    refine rd_div (div_ok64 (by omega) (by omega)) ?_
    walk_at "rd"
    refine ⟨z / 2 ^ b, Nat.div_lt_self (by omega) (Nat.one_lt_two_pow hb), ds ++ [z % 2 ^ b], rfl, ?_, ?_⟩
    · rw [← iN_app]; exact W3
    · rw [List.append_assoc, List.singleton_append, ← e1]; exact hds
  · have hz : z = 0 := by omega
    subst hz
    rw [digs_zero, List.append_nil] at hds
    subst hds
    walk_at "rd"
    exact k l H' (W2.new1 hl)
theorem lw_split (W : Wb c H0 H M L B) (hb : b ≠ 0) (hb' : b ≤ 60) (hl : (digs b n.natAbs).length < 2 ^ 23) (q : ∀ p H', H0 p = none → Wb c H0 H' M ((p, .lst (iN (digs b n.natAbs))) :: L) B → Q (.ref p) H') : sp_law_split K c [.int n, .int ((2 ^ b : Nat) : Int)] H Q E :=
  ⟨n, b, rfl, hb, hb', hl, fun p H' ch => q p H' (W.wd.fresh (ch.new List.mem_cons_self).1) (W.chg0 ch)⟩
end

/-! Cnt: a machine that counts. -/
section
variable {K : PySem.W.Frag} {c : Pc} {vs xs ys : List V} {H H0 H' : Hp} {Q : VK} {E : XK} {M : List Addr} {L L' cs : List (Addr × HO)} {L1 : HO → List (Addr × HO)} {B : List (Addr × Nat × Int)} {b b' : Nat} {cut n m : Int} {a d e dx r x x' l p : Addr} {o u : HO} {σ : L2.St} {y : V} {tr : TA} {ns : List Int}
theorem cK_put {i : Nat} {w : Str} {n v : Int} (h1 : words[i]? = some w) (h2 : ns[i]? = some n) : putK (cK ns) (Sum.inr w : Key) (.int v) = cK (ns.set i v) := by
  have idm : ∀ (ws : List Str) (ms : List Int), w ∉ ws → (List.zipWith (fun (w : Str) n => ((Sum.inr w : Key), V.int n)) ws ms).map (fun kv => if kv.1 = (Sum.inr w : Key) then (kv.1, V.int v) else kv) = List.zipWith (fun (w : Str) n => ((Sum.inr w : Key), V.int n)) ws ms := by
    intro ws
    induction ws with
    | nil => intro ms _; rfl
    | cons u ws ih =>
      intro ms hw
      cases ms with
      | nil => rfl
      | cons z ms =>
        have ne : ¬ (Sum.inr u : Key) = Sum.inr w := fun z => hw (by rw [Sum.inr.inj z]; exact List.mem_cons_self)
        rw [List.zipWith_cons_cons, List.map_cons, ih ms (fun z => hw (List.mem_cons_of_mem _ z)), if_neg ne]
  have key : ∀ (ws : List Str) (ms : List Int) (j : Nat), ws.Nodup → ws[j]? = some w → (List.zipWith (fun (w : Str) n => ((Sum.inr w : Key), V.int n)) ws ms).map (fun kv => if kv.1 = (Sum.inr w : Key) then (kv.1, V.int v) else kv) = List.zipWith (fun (w : Str) n => ((Sum.inr w : Key), V.int n)) ws (ms.set j v) := by
    intro ws
    induction ws with
    | nil => intro ms j _ h; simp at h
    | cons u ws ih =>
      intro ms j nd h
      cases ms with
      | nil => rfl
      | cons z ms =>
        cases j with
        | zero =>
          have e1 : u = w := by simpa using h
          subst e1
          rw [List.zipWith_cons_cons, List.map_cons, if_pos rfl, idm ws ms (List.nodup_cons.mp nd).1]
          rfl
        | succ j =>
          have hw : w ∈ ws := List.mem_of_getElem? (by simpa using h)
          have ne : ¬ (Sum.inr u : Key) = Sum.inr w := fun z => by
            have z' := Sum.inr.inj z
            subst z'
            exact (List.nodup_cons.mp nd).1 hw
          rw [List.zipWith_cons_cons, List.map_cons, if_neg ne, ih ms j (List.nodup_cons.mp nd).2 (by simpa using h), List.set_cons_succ, List.zipWith_cons_cons]
  unfold putK
  rw [if_pos]
  · exact key words ns i (by decide +kernel) h1
  · rw [List.any_eq_true]
    exact ⟨_, List.mem_of_getElem? (cK_get h1 h2), decide_eq_true rfl⟩
def sp_Machine_count (K : PySem.W.Frag) (c : Pc) : Sp := fun vs H Q _ => ∃ (a dx : Addr) (b : Nat) (cut : Int) (d e : Addr) (ns : List Int) (w : Str) (i : Nat) (n v : Int), vs = [.ref a, .str w, .int v] ∧ H a = some (.ins c.CMachine dx (mF b cut d e)) ∧ H d = some (.dK (cK ns)) ∧ ns.length = 10 ∧ words[i]? = some w ∧ ns[i]? = some n ∧
  ∀ H', Chg H H' [(d, .dK (cK (ns.set i (n + v))))] [] → Q .non H'
def t_Machine_count (K : PySem.W.Frag) (c : Pc) : TS :=
  (sDPut (tFld K (tVar 0) "counts") (tVar 1) (tOp rAdd (tDGet (tFld K (tVar 0) "counts") (tVar 1)) (tVar 2)))
theorem cK_len : (cK ns).length ≤ 10 := by
  unfold cK
  rw [List.length_zipWith]
  exact Nat.min_le_left _ _
theorem b_Machine_count (P : PM K c) (h : sp_Machine_count K c vs H Q E) : t_Machine_count K c (en0 Q) (st0 3 vs) H := by
  obtain ⟨a, dx, b, cut, d, e, ns, w, i, n, v, rfl, ha, hd, hn, hw, hi, k⟩ := h
  have W : Wd H H [d] [(d, .dK (cK ns))] := (Wd.one hd).may List.mem_cons_self
  unfold t_Machine_count
  walk_at "rd"
  refine rd_Mcounts P ha ?_
  walk_at "rd"
  refine rd_kDGs hd (cK_val hw hi) ?_
  walk_at "rd"
  refine rd_Mcounts P ha ?_
  walk_at "rd"
  refine rd_kDPs W (by walk_at "rp") (by walk_at "may") (Nat.lt_of_le_of_lt cK_len (by decide)) fun H1 W1 => ?_
  rw [cK_put hw hi] at W1
  exact k H1 W1.chg_one
def sp_Machine_reset (K : PySem.W.Frag) (c : Pc) : Sp := fun vs H Q _ => ∃ (a dx : Addr) (b : Nat) (cut : Int) (d e : Addr) (ns : List Int) (xs : List V), vs = [.ref a] ∧ H a = some (.ins c.CMachine dx (mF b cut d e)) ∧ H d = some (.dK (cK ns)) ∧ ns.length = 10 ∧ H e = some (.lst xs) ∧
  ∀ H', Chg H H' [(d, .dK (cK zeros)), (e, .lst [])] [] → Q .non H'
def t_Machine_reset (K : PySem.W.Frag) (c : Pc) : TS :=
  (tSeq (tFor (iTup K (tC (.ref c.aWORDS))) (gName 1) (sDPut (tFld K (tVar 0) "counts") (tVar 1) (tC (.int 0))))
  (tDrop (tBM0 K "list" rClear (tFld K (tVar 0) "entered"))))
theorem zero_more {i : Nat} (h1 : i < 10) (h2 : ns.length = 10) : ((zeros.take i) ++ ns.drop i).set i 0 = zeros.take (i + 1) ++ ns.drop (i + 1) := by
  have hz : zeros[i]? = some 0 := zero_get h1
  have hl : (zeros.take i).length = i := by rw [List.length_take]; show min i 10 = i; omega
  rw [List.set_append_right _ _ (by omega), hl, Nat.sub_self, take_snoc hz, List.append_assoc, List.drop_eq_getElem_cons (by omega : i < ns.length)]
  rfl
theorem b_Machine_reset (P : PM K c) (h : sp_Machine_reset K c vs H Q E) : t_Machine_reset K c (en0 Q) (st0 2 vs) H := by
  obtain ⟨a, dx, b, cut, d, e, ns, xs, rfl, ha, hd, hn, he, k⟩ := h
  have nad : a ≠ d := ne_of ha hd (by intro z; cases z)
  have nae : a ≠ e := ne_of ha he (by intro z; cases z)
  have nde : d ≠ e := ne_of hd he (by intro z; cases z)
  have W : Wd H H [d, e] [(a, .ins c.CMachine dx (mF b cut d e)), (d, .dK (cK ns)), (e, .lst xs)] := ((((Wd.one he).old hd (by simpa using nde)).old ha (by simpa using ⟨nad, nae⟩)).may (by simp)).may (by simp)
  unfold t_Machine_reset
  walk_at "rd"
  refine rd_kIT (P.words H) ?_
  refine rd_forT (xs := words.map V.str) (fun i σ' H' => ∃ v, σ' = [some (.ref a), v] ∧ Wd H H' [d, e] [(a, .ins c.CMachine dx (mF b cut d e)), (d, .dK (cK (zeros.take i ++ ns.drop i))), (e, .lst xs)]) ⟨none, rfl, W⟩ ?_ ?_ ?_
  · rintro i σ' H' _ ⟨v, _, W1⟩
    exact P.words H'
  · rintro i y σ' H' hy ⟨v, rfl, W1⟩
    obtain ⟨w, hw, rfl, hi⟩ := str_of_words hy
    walk_at "rd"
    refine rd_Mcounts P (by walk_at "own") ?_
    walk_at "rd"
    refine rd_kDPs W1 (by walk_at "rp") (by walk_at "may") (Nat.lt_of_le_of_lt cK_len (by decide)) fun H1 W2 => ?_
    have hg : (zeros.take i ++ ns.drop i)[i]? = some (ns[i]'(by omega)) := by
      have hl : (zeros.take i).length = i := by rw [List.length_take]; show min i 10 = i; omega
      rw [List.getElem?_append_right (by omega), hl, Nat.sub_self, List.getElem?_drop]
      exact List.getElem?_eq_getElem _
    rw [cK_put hw hg, zero_more hi hn] at W2
    exact ⟨_, rfl, W2⟩
  · rintro σ' H' ⟨v, rfl, W1⟩
    have e1 : zeros.take (words.map V.str).length ++ ns.drop (words.map V.str).length = zeros := by
      rw [List.length_map]
      show zeros.take 10 ++ ns.drop 10 = zeros
      rw [List.drop_eq_nil_of_le (by omega)]
      rfl
    rw [e1] at W1
    walk_at "rd"
    refine rd_Mentered P (by walk_at "own") ?_
    refine ⟨.inl ⟨rfl, _, SqL.of (W1.get (by walk_at "mem"))⟩, e, xs, rfl, rfl, W1.get (by walk_at "mem"), ?_⟩
    have W2 := W1.put (a := e) (o := .lst xs) (u := .lst []) (L' := [(a, .ins c.CMachine dx (mF b cut d e)), (d, .dK (cK zeros)), (e, .lst [])]) (by walk_at "rp") (.inr (by simp))
    refine k _ (W2.done (fun q hq => ?_) (fun q hq => ?_) (fun q hq => nomatch hq) List.nodup_nil)
    · simp only [List.mem_cons, List.not_mem_nil, or_false] at hq
      rcases hq with rfl | rfl
      · walk_at "mem"
      · walk_at "mem"
    · simpa using hq
end

/-! Dic: dicts of counts, made and compared. -/
section
variable {K : PySem.W.Frag} {c : Pc} {vs xs ys : List V} {H H0 H' : Hp} {Q : VK} {E : XK} {M : List Addr} {L L' cs : List (Addr × HO)} {a d e dx r x x' l p : Addr} {σ : L2.St} {te : TE} {tT : TT} {kvs : List (Key × V)}
/-- a comprehension over the keys of a locked dict -/
theorem rd_lcK {g : TG} {ws : List Nat} {o : Obj} (hq : ∀ D, H D = none → ∃ Pv : Nat → Hp → Prop, Pv 0 (upd H D (.lst [])) ∧ (∀ i H, i ≤ kvs.length → Pv i H → H d = some (.frz o (.dK kvs))) ∧
    (∀ i k v H, kvs[i]? = some (k, v) → Pv i H → g (kV k) (wipe σ ws) H fun σ2 H2 => wipe σ2 ws = wipe σ ws ∧ tT σ2 H2 (kIf (fun H3 => te σ2 H3 (kAcc D (Pv (i + 1)))) (fun H3 => Pv (i + 1) H3))) ∧ ∀ H, Pv kvs.length H → Q (.ref D) H) : kLc g tT te ws σ Q (Itk d o kvs) H := fun D hD => by
  obtain ⟨Pv, h0, hl, hs, hd⟩ := hq D hD
  refine ⟨fun i m H => m = kvs.length - i ∧ i ≤ kvs.length ∧ Pv i H, ⟨kvs.length, by simp, Nat.zero_le _, h0⟩, ?_⟩
  rintro i m H ⟨rfl, hi, p⟩
  have q := hl i H hi p
  by_cases hlt : i < kvs.length
  · refine .inr ⟨⟨q, hlt⟩, Pv (i + 1), fun H' p' => ⟨kvs.length - (i + 1), by omega, rfl, hlt, p'⟩, fun x H' y => ?_⟩
    obtain ⟨e, k, v, hk, ex⟩ := y
    subst e ex
    exact hs i k v _ hk p
  · have e : i = kvs.length := by omega
    subst e
    exact .inl ⟨⟨q, Nat.le_refl _⟩, hd H p⟩
theorem mergeK_app {kvs : List (Key × V)} : ∀ {more : List (Key × V)}, ((kvs ++ more).map (·.1)).Nodup → mergeK kvs more = kvs ++ more := by
  intro more
  induction more generalizing kvs with
  | nil => intro _; simp [mergeK]
  | cons q more ih =>
    intro h
    have e : kvs ++ q :: more = (kvs ++ [q]) ++ more := by simp
    have hn : ¬ (kvs.any fun kv => decide (kv.1 = q.1)) = true := by
      intro z
      obtain ⟨kv, hm, hk⟩ := List.any_eq_true.mp z
      rw [List.map_append, List.map_cons] at h
      exact (List.nodup_append.mp h).2.2 kv.1 (List.mem_map.mpr ⟨kv, hm, rfl⟩) q.1 List.mem_cons_self (of_decide_eq_true hk)
    have hp : putK kvs q.1 q.2 = kvs ++ [q] := by
      unfold putK
      rw [if_neg hn]
    rw [e, ← ih (kvs := kvs ++ [q]) (by rw [← e]; exact h), ← hp]
    rfl
theorem mergeK_nil (h : (kvs.map (·.1)).Nodup) : mergeK [] kvs = kvs := mergeK_app (kvs := []) h
theorem valV_mem (h : (kvs.map (·.1)).Nodup) {k : Key} {v : V} (hm : (k, v) ∈ kvs) : valV kvs k = some v := by
  induction kvs with
  | nil => cases hm
  | cons q kvs ih =>
    rw [List.map_cons] at h
    rcases List.mem_cons.mp hm with z | z
    · rw [← z]; exact valV_pos rfl
    · have ne : ¬ q.1 = k := fun e => (List.nodup_cons.mp h).1 (e ▸ List.mem_map.mpr ⟨(k, v), z, rfl⟩)
      rw [valV_neg ne]
      exact ih (List.nodup_cons.mp h).2 z
theorem prd_snoc {α β : Type} {R : α → β → Prop} : ∀ {l : List α} {k : List β} {x : α} {y : β}, Paired R l k → R x y → Paired R (l ++ [x]) (k ++ [y])
  | _, _, _, _, .nil, h => .cons h .nil
  | _, _, _, _, .cons a t, h => .cons a (prd_snoc t h)
theorem prd_imp {α β : Type} {R S : α → β → Prop} (h : ∀ x y, R x y → S x y) : ∀ {l : List α} {k : List β}, Paired R l k → Paired S l k
  | _, _, .nil => .nil
  | _, _, .cons a t => .cons (h _ _ a) (prd_imp h t)
/-- D holds pairs, each a tuple of its own; all else stands as in Hb -/
def PInv (Hb : Hp) (D : Addr) (kvs : List (Key × V)) (H : Hp) : Prop := Same Hb H ∧ ∃ qs : List Addr, qs.length = kvs.length ∧ H D = some (.lst (qs.map V.ref)) ∧ Paired (fun q kv => H q = some (.tup [kV kv.1, kv.2])) qs kvs
theorem PInv.start {D : Addr} (h : H D = none) : PInv H D [] (upd H D (.lst [])) :=
  ⟨fun b o e => by rw [upd_ne (fun z => by rw [z, h] at e; cases e)]; exact e, [], rfl, upd_same, .nil⟩
theorem PInv.more {Hb : Hp} {D : Addr} {k : Key} {v : V} {nx : Hp → Prop} (hD : Hb D = none) (h : PInv Hb D kvs H) (hl : kvs.length < 1000) (q : ∀ H', PInv Hb D (kvs ++ [(k, v)]) H' → nx H') : kTup (kAcc D nx) [kV k, v] H := by
  obtain ⟨hs, qs, hq, hd, hp⟩ := h
  refine ⟨Evl.sz_of (by simp), fun T hT => ?_⟩
  have nDT : D ≠ T := fun z => by rw [z, hT] at hd; cases hd
  refine ⟨qs.map V.ref, by rw [upd_ne nDT]; exact hd, ?_, ?_⟩
  · rw [List.length_map, hq]; exact Nat.lt_of_lt_of_le hl (Evl.sz_of (by omega))
  · refine q _ ⟨fun b o e => ?_, qs ++ [T], by rw [List.length_append, List.length_append, hq]; rfl, ?_, ?_⟩
    · rw [upd_ne (fun z => by rw [z, hD] at e; cases e), upd_ne (fun z => by have := hs b o e; rw [z, hT] at this; cases this)]
      exact hs b o e
    · rw [upd_same, List.map_append]; rfl
    · refine prd_snoc (prd_imp (fun x y hx => ?_) hp) ?_
      · rw [upd_ne (fun z => by rw [z, hd] at hx; cases hx), upd_ne (fun z => by rw [z, hT] at hx; cases hx)]
        exact hx
      · rw [upd_ne (Ne.symm nDT)]; exact upd_same
theorem PInv.dict {Hb : Hp} {D : Addr} (h : PInv Hb D kvs H) (hn : (kvs.map (·.1)).Nodup) (q : ∀ p, H p = none → Q (.ref p) (upd H p (.dK kvs))) : rDict K [.ref D] H Q := by
  obtain ⟨hs, qs, hq, hd, hp⟩ := h
  refine ⟨D, qs, kvs, rfl, SqL.of hd, prd_imp (fun x y hx => SqT.of hx) hp, fun p hp => ?_⟩
  rw [mergeK_nil hn]
  exact q p hp
end

/-! Cntd: what a machine has counted against what is due. -/
def posB (v : V) : Bool := match v with | .int n => decide (0 < n) | _ => false
def posK (kvs : List (Key × V)) : List (Key × V) := kvs.filter fun kv => posB kv.2
/-- what is due stands in kvs as it does in the counts ns, but for what is 0 -/
structure DueOk (kvs : List (Key × V)) (ns : List Int) : Prop where
  nd : (kvs.map (·.1)).Nodup
  few : kvs.length < 100
  each_ : ∀ kv ∈ kvs, ∃ (w : Str) (n : Int), kv = (Sum.inr w, .int n)
  len : (posK (cK ns)).length = (posK kvs).length
  all : ∀ q ∈ posK (cK ns), q ∈ posK kvs
section
variable {K : PySem.W.Frag} {c : Pc} {vs xs ys : List V} {H H0 H' : Hp} {Q : VK} {E : XK} {M : List Addr} {L L' cs : List (Addr × HO)} {a d e dx r x x' l p : Addr} {σ : L2.St} {kvs : List (Key × V)} {ns : List Int}
def sp_law_counted (K : PySem.W.Frag) (c : Pc) : Sp := fun vs H Q _ => ∃ (m dx : Addr) (b : Nat) (cut : Int) (d e h : Addr) (ns : List Int) (xs : List V) (kvs : List (Key × V)), vs = [.ref m, .ref h] ∧ H m = some (.ins c.CMachine dx (mF b cut d e)) ∧ H d = some (.dK (cK ns)) ∧ ns.length = 10 ∧ H e = some (.lst xs) ∧ H h = some (.dK kvs) ∧ h ≠ d ∧ DueOk kvs ns ∧
  ∀ H', Chg H H' [(d, .dK (cK zeros)), (e, .lst [])] [] → Q (.bl true) H'
def t_law_counted (K : PySem.W.Frag) (c : Pc) : TS :=
  (tSeq (tAsg (tCB (rDict K) (tCons (tLc (iList K (tMeth c.CMachine "tally" (sp_Machine_tally K c) [] E0 (tVar 0) tNil)) (gTup K 2 (gCons (gName 3) (gCons (gName 4) gNil))) (tTest (tOp rGt (tVar 4) (tC (.int 0)))) (tTup (tCons (tVar 3) (tCons (tVar 4) tNil))) [3, 4]) tNil)) (gName 2))
  (tSeq (tDrop (tMeth c.CMachine "reset" (sp_Machine_reset K c) [] E0 (tVar 0) tNil))
  (tRet (tOp rEqDA (tVar 2) (tCB (rDict K) (tCons (tLockE (tLc (iKeys (tVar 1)) (gName 3) (tTest (tOp rGt (tDGet (tVar 1) (tVar 3)) (tC (.int 0)))) (tTup (tCons (tVar 3) (tCons (tDGet (tVar 1) (tVar 3)) tNil))) [3])) tNil))))))
theorem posK_snoc_T {kv : Key × V} {i : Nat} (h : kvs[i]? = some kv) (hp : posB kv.2 = true) : posK (kvs.take (i + 1)) = posK (kvs.take i) ++ [kv] := by
  rw [take_snoc h]
  unfold posK
  rw [List.filter_append, List.filter_cons, if_pos hp]
  rfl
theorem posK_snoc_F {kv : Key × V} {i : Nat} (h : kvs[i]? = some kv) (hp : posB kv.2 = false) : posK (kvs.take (i + 1)) = posK (kvs.take i) := by
  rw [take_snoc h]
  unfold posK
  rw [List.filter_append, List.filter_cons, if_neg (by rw [hp]; exact Bool.false_ne_true)]
  simp
theorem cK_nd (h : ns.length = 10) : ((cK ns).map (·.1)).Nodup := by
  have e : (cK ns).map (·.1) = words.map (fun w => (Sum.inr w : Key)) := by
    unfold cK
    apply List.ext_getElem?
    intro i
    rw [List.getElem?_map, List.getElem?_zipWith, List.getElem?_map]
    cases hw : words[i]? with
    | none => rfl
    | some w =>
      have hi : i < 10 := (List.getElem?_eq_some_iff.mp hw).1
      rw [List.getElem?_eq_getElem (show i < ns.length by omega)]
      rfl
  rw [e]
  decide +kernel
theorem posK_nd (h : (kvs.map (·.1)).Nodup) : ((posK kvs).map (·.1)).Nodup := h.sublist (List.Sublist.map _ List.filter_sublist)
theorem b_law_counted (P : PM K c) (h : sp_law_counted K c vs H Q E) : t_law_counted K c (en0 Q) (st0 5 vs) H := by
  obtain ⟨m, dx, b, cut, d, e, h, ns, xs, kvs, rfl, hm, hd, hn, he, hh, hne, hD, k⟩ := h
  unfold t_law_counted
  walk_at "rd"
  refine rd_kMeth hm (mF_meth' (by decide)) ?_
  walk_at "rd"
  refine ⟨m, dx, b, cut, d, e, ns, rfl, hm, hd, hn, fun p ps H1 hl ch => ?_⟩
  have hp1 : H1 p = some (.lst (ps.map V.ref)) := (ch.new List.mem_cons_self).2
  refine rd_kIL (SqL.of hp1) ?_
  refine rd_lcL (xs := ps.map V.ref) fun D hDn => ⟨fun i H' => PInv H1 D (posK ((cK ns).take i)) H', PInv.start hDn, ?_, ?_, ?_⟩
  · intro i H' _ hI
    exact SqL.of (hI.1 _ _ hp1)
  · intro i y H' hy hI
    obtain ⟨q, hq, rfl⟩ : ∃ q, ps[i]? = some q ∧ y = .ref q := by
      rw [List.getElem?_map] at hy
      cases hq : ps[i]? with
      | none => rw [hq] at hy; cases hy
      | some q => rw [hq] at hy; exact ⟨q, rfl, (Option.some.inj hy).symm⟩
    have hi : i < 10 := by rw [← hl]; exact (List.getElem?_eq_some_iff.mp hq).1
    have hw : words[i]? = some (words[i]'hi) := List.getElem?_eq_getElem _
    have hg : ns[i]? = some (ns[i]'(by omega)) := List.getElem?_eq_getElem _
    generalize words[i]'hi = w at hw
    generalize ns[i]'(by omega) = n at hg
    have hr := rows_get hw hg
    have hc := cK_get hw hg
    have ht := hI.1 _ _ (ch.new (List.mem_cons_of_mem _ (tl2_mem hq hr))).2
    have hlt : (posK ((cK ns).take i)).length < 1000 := by
      have h1 : (posK ((cK ns).take i)).length ≤ ((cK ns).take i).length := List.length_filter_le _ _
      have h2 : ((cK ns).take i).length ≤ i := List.length_take_le _ _
      omega
    refine rd_gTup (xs := [.str w, .int n]) (SqT.of ht) rfl ?_
    walk_at "rd"
    refine ⟨rfl, ?_⟩
    walk_at "rd"
    refine rd_2d (fun h1 => ?_) fun h1 => ?_
    · walk_at "rd"
      refine PInv.more (k := Sum.inr w) hDn hI hlt fun H2 h2 => ?_
      show PInv H1 D (posK ((cK ns).take (i + 1))) H2
      rw [posK_snoc_T hc (show posB (.int n) = true from decide_eq_true h1)]
      exact h2
    · show PInv H1 D (posK ((cK ns).take (i + 1))) H'
      rw [posK_snoc_F hc (show posB (.int n) = false from decide_eq_false h1)]
      exact hI
  · intro H2 hI
    have e1 : (cK ns).take (ps.map V.ref).length = cK ns := List.take_of_length_le (by rw [List.length_map, hl]; exact cK_len)
    rw [e1] at hI
    walk_at "rd"
    refine hI.dict (posK_nd (cK_nd hn)) fun f hf => ?_
    have s12 : Same H1 H2 := hI.1
    have s01 : Same H H1 := fun q o z => ch.keep q o z (fun y => nomatch y)
    have s02 : Same H (upd H2 f (.dK (posK (cK ns)))) := fun q o z => by
      have := s12 _ _ (s01 _ _ z)
      rw [upd_ne (fun y => by rw [y, hf] at this; cases this)]
      exact this
    walk_at "rd"
    refine rd_kMeth (s02 _ _ hm) (mF_meth' (by decide)) ?_
    walk_at "rd"
    refine ⟨m, dx, b, cut, d, e, ns, xs, rfl, s02 _ _ hm, s02 _ _ hd, hn, s02 _ _ he, fun H3 ch3 => ?_⟩
    have nhe : h ≠ e := fun z => by rw [z, he] at hh; cases hh
    have kp3 : ∀ q o, upd H2 f (.dK (posK (cK ns))) q = some o → q ≠ d → q ≠ e → H3 q = some o := fun q o z n1 n2 => ch3.keep q o z (fun y => by
      simp only [List.map_cons, List.map_nil, List.mem_cons, List.not_mem_nil, or_false] at y
      rcases y with y | y
      · exact n1 y
      · exact n2 y)
    have hf0 : ∀ q o, H q = some o → q ≠ f := fun q o z y => by
      have := s12 _ _ (s01 _ _ z)
      rw [y, hf] at this; cases this
    have hh3 : H3 h = some (.dK kvs) := kp3 _ _ (s02 _ _ hh) hne nhe
    have hf3 : H3 f = some (.dK (posK (cK ns))) := kp3 _ _ upd_same (Ne.symm (hf0 _ _ hd)) (Ne.symm (hf0 _ _ he))
    walk_at "rd"
    refine ⟨h, .dK kvs, hh3, trivial, fun od => ?_⟩
    walk_at "rd"
    refine ⟨.ref h, rfl, h, od, rfl, .inl ⟨kvs, upd_same, ?_⟩⟩
    refine rd_lcK fun D2 hD2 => ⟨fun i H' => PInv (upd H3 h (.frz od (.dK kvs))) D2 (posK (kvs.take i)) H', PInv.start hD2, ?_, ?_, ?_⟩
    · intro i H' _ hJ
      exact hJ.1 _ _ upd_same
    · intro i kk v H' hk hJ
      obtain ⟨w, n, e⟩ := hD.each_ _ (List.mem_of_getElem? hk)
      cases e
      have hv : valV kvs (Sum.inr w : Key) = some (.int n) := valV_mem hD.nd (List.mem_of_getElem? hk)
      have hg : DGet H' h (.str w) (some (.int n)) := .inl ⟨kvs, Sum.inr w, .inr ⟨od, hJ.1 _ _ upd_same⟩, rfl, hv.symm⟩
      have hlt : (posK (kvs.take i)).length < 1000 := by
        have h1 : (posK (kvs.take i)).length ≤ (kvs.take i).length := List.length_filter_le _ _
        have h2 : (kvs.take i).length ≤ kvs.length := by rw [List.length_take]; omega
        have := hD.few
        omega
      unfold gName
      refine ⟨rfl, ?_⟩
      walk_at "rd"
      refine ⟨h, _, rfl, hg, ?_⟩
      walk_at "rd"
      refine rd_2d (fun h1 => ?_) fun h1 => ?_
      · walk_at "rd"
        refine ⟨h, _, rfl, hg, ?_⟩
        walk_at "rd"
        refine PInv.more (k := Sum.inr w) hD2 hJ hlt fun H2 h2 => ?_
        show PInv _ D2 (posK (kvs.take (i + 1))) H2
        rw [posK_snoc_T hk (show posB (.int n) = true from decide_eq_true h1)]
        exact h2
      · show PInv _ D2 (posK (kvs.take (i + 1))) H'
        rw [posK_snoc_F hk (show posB (.int n) = false from decide_eq_false h1)]
        exact hJ
    · intro H4 hJ
      rw [List.take_length] at hJ
      have hh4 : H4 h = some (.frz od (.dK kvs)) := hJ.1 _ _ upd_same
      refine ⟨hh4, ?_⟩
      have nfh : f ≠ h := fun z => by
        have e9 := hf0 _ _ hh
        exact e9 z.symm
      have hf4 : H4 f = some (.dK (posK (cK ns))) := hJ.1 _ _ (by rw [upd_ne nfh]; exact hf3)
      have hJ' : PInv (fun _ => none) D2 (posK kvs) (upd H4 h (.dK kvs)) := by
        obtain ⟨_, qs, q1, q2, q3⟩ := hJ
        refine ⟨(fun _ _ z => nomatch z), qs, q1, by rw [upd_ne (fun z => by rw [z, hh4] at q2; cases q2)]; exact q2, prd_imp (fun x y hx => ?_) q3⟩
        rw [upd_ne (fun z => by rw [z, hh4] at hx; cases hx)]; exact hx
      walk_at "rd"
      refine hJ'.dict (posK_nd hD.nd) fun p5 hp5 => ?_
      have np5 : ∀ q o, upd H4 h (.dK kvs) q = some o → q ≠ p5 := fun q o z y => by rw [y, hp5] at z; cases z
      have hf5 : upd H4 h (.dK kvs) f = some (.dK (posK (cK ns))) := by rw [upd_ne nfh]; exact hf4
      have hh5 : upd H4 h (.dK kvs) h = some (.dK kvs) := upd_same
      refine ⟨f, p5, _, _, rfl, rfl, by rw [upd_ne (np5 _ _ hf5)]; exact hf5, upd_same, hD.len, fun q hq => ⟨valV_mem (posK_nd hD.nd) (hD.all q hq), ?_⟩, ?_⟩
      · obtain ⟨w, n, e⟩ := hD.each_ q (List.mem_filter.mp (show q ∈ kvs.filter _ from hD.all q hq)).1
        subst e; rfl
      · have kp5 : ∀ q o, H3 q = some o → (q = h → o = .dK kvs) → upd (upd H4 h (.dK kvs)) p5 (.dK (posK kvs)) q = some o := fun q o z y => by
          by_cases e : q = h
          · subst e
            rw [upd_ne (np5 _ _ hh5), y rfl]; exact upd_same
          · have e4 : H4 q = some o := hJ.1 _ _ (by rw [upd_ne e]; exact z)
            have e5 : upd H4 h (.dK kvs) q = some o := by rw [upd_ne e]; exact e4
            rw [upd_ne (np5 _ _ e5)]; exact e5
        refine k _ ⟨fun {q o} z => ?_, (fun z => nomatch z), List.nodup_nil, fun q o z nq => ?_⟩
        · refine kp5 q o (ch3.chg z) fun y => ?_
          subst y
          simp only [List.mem_cons, List.not_mem_nil, or_false, Prod.mk.injEq] at z
          rcases z with ⟨z, _⟩ | ⟨z, _⟩
          · exact absurd z hne
          · exact absurd z nhe
        · have n1 : q ≠ d := fun y => nq (by rw [y]; exact List.mem_cons_self)
          have n2 : q ≠ e := fun y => nq (by rw [y]; exact List.mem_cons_of_mem _ List.mem_cons_self)
          refine kp5 q o (kp3 _ _ (s02 _ _ z) n1 n2) fun y => ?_
          subst y
          rw [hh] at z; exact (Option.some.inj z).symm
end

/-! Cmp: comparisons. -/
section
variable {K : PySem.W.Frag} {c : Pc} {vs xs ys : List V} {H H0 H' : Hp} {Q : VK} {E : XK} {M : List Addr} {L L' cs : List (Addr × HO)} {L1 : HO → List (Addr × HO)} {B : List (Addr × Nat × Int)} {b b' : Nat} {cut n m : Int} {a d e dx r x x' l p : Addr} {o u : HO} {σ : L2.St} {y : V} {tr : TA} {ns : List Int}
def sp_is_compact (K : PySem.W.Frag) (c : Pc) : Sp := fun vs H Q _ => ∃ x b n, vs = [.ref x] ∧ BigAt c H x b n ∧ Q (.bl (decide ((digs b n.natAbs).length ≤ 1))) H
def t_is_compact (K : PySem.W.Frag) (c : Pc) : TS :=
  (tRet (tOp rLe (tCB (rLen K) (tCons (tFld K (tVar 0) "row") tNil)) (tC (.int 1))))
theorem b_is_compact (P : PB K c) (h : sp_is_compact K c vs H Q E) : t_is_compact K c (en0 Q) (st0 1 vs) H := by
  obtain ⟨x, b, n, rfl, ⟨dx, r, hx, hr⟩, q⟩ := h
  unfold t_is_compact
  walk_at "rd"
  refine rd_Brow P hx ?_
  walk_at "rd"
  rw [iN_length]
  have e : decide (((digs b n.natAbs).length : Int) ≤ 1) = decide ((digs b n.natAbs).length ≤ 1) := decide_eq_decide.mpr (by omega)
  rw [e]
  exact q
def sp_check_big (K : PySem.W.Frag) (c : Pc) : Sp := fun vs H Q _ => ∃ (m dx : Addr) (b : Nat) (cut : Int) (d e : Addr) (s : Str) (x : Addr) (n : Int), vs = [.ref m, .str s, .ref x] ∧ H m = some (.ins c.CMachine dx (mF b cut d e)) ∧ BigAt c H x b n ∧ Q .non H
def t_check_big (K : PySem.W.Frag) (c : Pc) : TS :=
  (tIfS (tOr (tNot (L2.tB (tCB (rIsi K) (tCons (tVar 2) (tCons (tC (.ref c.CBig)) tNil))))) (tTest (tOp rNe (tFld K (tVar 2) "width") (tFld K (tVar 0) "width")))) tNever tNext)
theorem b_check_big (PM : PM K c) (P : PB K c) (h : sp_check_big K c vs H Q E) : t_check_big K c (en0 Q) (st0 3 vs) H := by
  obtain ⟨m, dx, b, cut, d, e, s, x, n, rfl, hm, ⟨dx', r, hx, hr⟩, q⟩ := h
  unfold t_check_big
  walk_at "rd"
  refine isi_own P.isc hx ?_
  walk_at "rd"
  refine rd_F rfl ?_
  walk_at "rd"
  refine rd_Bwidth P hx ?_
  walk_at "rd"
  refine rd_Mwidth PM hm ?_
  walk_at "rd"
  refine rd_Fn rfl ?_
  walk_at "rd"
  exact q
def sp_check_bigs (K : PySem.W.Frag) (c : Pc) : Sp := fun vs H Q _ => ∃ (m dx : Addr) (b : Nat) (cut : Int) (d e : Addr) (x y : Addr) (n k : Int), vs = [.ref m, .ref x, .ref y] ∧ H m = some (.ins c.CMachine dx (mF b cut d e)) ∧ BigAt c H x b n ∧ BigAt c H y b k ∧ Q .non H
def t_check_bigs (K : PySem.W.Frag) (c : Pc) : TS :=
  (tSeq (tDrop (tCall (sp_check_machine K c) [] E0 (tCons (tVar 0) tNil)))
  (tSeq (tDrop (tCall (sp_check_big K c) [] E0 (tCons (tVar 0) (tCons (tC (.str "x")) (tCons (tVar 1) tNil)))))
  (tDrop (tCall (sp_check_big K c) [] E0 (tCons (tVar 0) (tCons (tC (.str "y")) (tCons (tVar 2) tNil)))))))
theorem b_check_bigs (h : sp_check_bigs K c vs H Q E) : t_check_bigs K c (en0 Q) (st0 3 vs) H := by
  obtain ⟨m, dx, b, cut, d, e, x, y, n, k, rfl, hm, hx, hy, q⟩ := h
  unfold t_check_bigs
  walk_at "rd"
  refine ⟨m, dx, _, rfl, hm, ?_⟩
  walk_at "rd"
  refine ⟨m, dx, b, cut, d, e, _, x, n, rfl, hm, hx, ?_⟩
  walk_at "rd"
  exact ⟨m, dx, b, cut, d, e, _, y, k, rfl, hm, hy, q⟩
def sp_looked_down (K : PySem.W.Frag) (c : Pc) : Sp := fun vs H Q _ => ∃ (m dx : Addr) (b : Nat) (cut : Int) (d e : Addr) (ns : List Int) (n9 : Int) (r1 r2 : Addr) (ds es : List Nat), vs = [.ref m, .ref r1, .ref r2] ∧ H m = some (.ins c.CMachine dx (mF b cut d e)) ∧ H d = some (.dK (cK ns)) ∧ ns.length = 10 ∧ ns[9]? = some n9 ∧
  H r1 = some (.tup (iN ds)) ∧ H r2 = some (.tup (iN es)) ∧ ds.length = es.length ∧ ∀ p H', LD ds es p → Chg H H' [(d, .dK (cK (ns.set 9 (n9 + ((ds.length : Int) - (if p = 0 then 0 else (p : Int) - 1))))))] [] → Q (.int ((p : Int) - 1)) H'
def t_looked_down (K : PySem.W.Frag) (c : Pc) : TS :=
  (tSeq (tAsg (tOp rSub (tCB (rLen K) (tCons (tVar 1) tNil)) (tC (.int 1))) (gName 3))
  (tSeq (tWhile (tAnd (tTest (tOp rGe (tVar 3) (tC (.int 0)))) (tTest (tOp rEq (tOp (rIxT K) (tVar 1) (tVar 3)) (tOp (rIxT K) (tVar 2) (tVar 3))))) (tAsg (tOp rSub (tVar 3) (tC (.int 1))) (gName 3)))
  (tSeq (tDrop (tMeth c.CMachine "count" (sp_Machine_count K c) [] E0 (tVar 0) (tCons (tC (.str "looked")) (tCons (tOp rSub (tCB (rLen K) (tCons (tVar 1) tNil)) (tCB rMax2 (tCons (tVar 3) (tCons (tC (.int 0)) tNil)))) tNil))))
  (tRet (tVar 3)))))
theorem b_looked_down (P : PM K c) (h : sp_looked_down K c vs H Q E) : t_looked_down K c (en0 Q) (st0 4 vs) H := by
  obtain ⟨m, dx, b, cut, d, e, ns, n9, r1, r2, ds, es, rfl, hm, hd, hn, h9, hr1, hr2, hl, k⟩ := h
  unfold t_looked_down
  walk_at "rd"
  rw [iN_length]
  refine rd_while (fun p σ' H' => σ' = [some (.ref m), some (.ref r1), some (.ref r2), some (.int ((p : Int) - 1))] ∧ H' = H ∧ p ≤ ds.length ∧ ∀ i, p ≤ i → ds[i]? = es[i]?) ds.length ⟨rfl, rfl, Nat.le_refl _, fun i hi => ?_⟩ ?_
  · rw [List.getElem?_eq_none hi, List.getElem?_eq_none (by omega)]
  rintro p σ' H' ⟨rfl, rfl, hp, hal⟩
  have fin : (p = 0 ∨ ds[p - 1]? ≠ es[p - 1]?) → tSeq (tDrop (tMeth c.CMachine "count" (sp_Machine_count K c) [] E0 (tVar 0) (tCons (tC (.str "looked")) (tCons (tOp rSub (tCB (rLen K) (tCons (tVar 1) tNil)) (tCB rMax2 (tCons (tVar 3) (tCons (tC (.int 0)) tNil)))) tNil))))
      (tRet (tVar 3)) (en0 Q) [some (.ref m), some (.ref r1), some (.ref r2), some (.int ((p : Int) - 1))] H' := by
    intro hdf
    walk_at "rd"
    refine rd_kMeth hm (mF_meth' (by decide)) ?_
    walk_at "rd"
    refine ⟨m, dx, b, cut, d, e, ns, "looked", 9, n9, _, rfl, hm, hd, hn, rfl, h9, fun H1 ch => ?_⟩
    walk_at "rd"
    have e1 : (if (0 : Int) > (p : Int) - 1 then (0 : Int) else (p : Int) - 1) = (if p = 0 then 0 else (p : Int) - 1) := by
      by_cases h0 : p = 0
      · rw [if_pos h0, if_pos (by omega)]
      · rw [if_neg h0, if_neg (by omega)]
    rw [iN_length, e1] at ch
    exact k p H1 ⟨hp, hal, hdf⟩ ch
  walk_at "rd"
  refine rd_2d (fun h1 => ?_) fun h1 => ?_
  · have h1' : p - 1 < ds.length := by omega
    walk_at "rd"
    refine rd_ixT (SqT.of hr1) (at_of (j := p - 1) (by omega) (iN_get (List.getElem?_eq_getElem h1'))) ?_
    walk_at "rd"
    refine rd_ixT (SqT.of hr2) (at_of (j := p - 1) (by omega) (iN_get (List.getElem?_eq_getElem (by omega : p - 1 < es.length)))) ?_
    walk_at "rd"
    refine rd_wh2 (fun h2 => ?_) fun h2 => ?_
    · walk_at "rd"
      refine ⟨p - 1, by omega, ?_, rfl, by omega, fun i hi => ?_⟩
      · rw [show ((p : Int) - 1 - 1) = (((p - 1 : Nat) : Int) - 1) by omega]
      · by_cases hi' : p ≤ i
        · exact hal i hi'
        · have : i = p - 1 := by omega
          subst this
          rw [List.getElem?_eq_getElem h1', List.getElem?_eq_getElem (by omega : p - 1 < es.length)]
          congr 1
          exact Int.ofNat.inj h2
    · refine fin (.inr ?_)
      rw [List.getElem?_eq_getElem h1', List.getElem?_eq_getElem (by omega : p - 1 < es.length)]
      intro z
      exact h2 (congrArg Int.ofNat (Option.some.inj z))
  · refine rd_whF rfl ?_
    exact fin (.inl (by omega))
end

/-! Ent: Machine.enter. -/
section
variable {K : PySem.W.Frag} {c : Pc} {vs : List V} {H H0 H' : Hp} {Q : VK} {E : XK}
def sp_Machine_enter (K : PySem.W.Frag) (c : Pc) : Sp := fun vs H Q _ => ∃ (a dx : Addr) (b : Nat) (cut : Int) (d e : Addr) (xs : List V) (w : Str) (m n : Int), vs = [.ref a, .str w, .int m, .int n] ∧ H a = some (.ins c.CMachine dx (mF b cut d e)) ∧ H e = some (.lst xs) ∧ xs.length ≤ 1000 ∧
  (xs.length < 1000 → ∀ p H', Chg H H' [(e, .lst (xs ++ [.ref p]))] [(p, .tup [.str w, .int m, .int n])] → Q .non H') ∧ (¬ xs.length < 1000 → Q .non H)
def t_Machine_enter (K : PySem.W.Frag) (c : Pc) : TS :=
  (tIfS (tTest (tOp rLt (tCB (rLen K) (tCons (tFld K (tVar 0) "entered") tNil)) (tC (.int 1000)))) (tDrop (tBM K "list" rAppend (tFld K (tVar 0) "entered") (tCons (tTup (tCons (tVar 1) (tCons (tVar 2) (tCons (tVar 3) tNil)))) tNil))) tNext)
theorem b_Machine_enter (P : PM K c) (h : sp_Machine_enter K c vs H Q E) : t_Machine_enter K c (en0 Q) (st0 4 vs) H := by
  obtain ⟨a, dx, b, cut, d, e, xs, w, m, n, rfl, ha, he, hl, q1, q2⟩ := h
  unfold t_Machine_enter
  walk_at "rd"
  refine rd_Mentered P ha ?_
  walk_at "rd"
  refine rd_2d (fun h1 => ?_) fun h1 => ?_
  · walk_at "rd"
    refine rd_Mentered P ha ?_
    refine rd_kBMl he ?_
    walk_at "rd"
    refine ⟨by show 3 ≤ sizeLine; decide, fun p hp => ?_⟩
    walk_at "rd"
    have ne : e ≠ p := fun z => by rw [z, hp] at he; cases he
    refine ⟨e, xs, _, rfl, rfl, by rw [upd_ne ne]; exact he, Nat.lt_of_le_of_lt hl (by decide), ?_⟩
    refine q1 (by omega) p _ ⟨fun z => ?_, fun z => ?_, by simp, fun b o z nb => ?_⟩
    · cases List.mem_singleton.mp z; exact upd_same
    · cases List.mem_singleton.mp z; exact ⟨hp, by rw [upd_ne (Ne.symm ne)]; exact upd_same⟩
    · have n1 : b ≠ e := fun y => nb (by rw [y]; exact List.mem_cons_self)
      rw [upd_ne n1, upd_ne (fun y => by rw [y, hp] at z; cases z)]; exact z
  · walk_at "rd"
    exact q2 (by omega)
end

/-! Dvm: divmod; the positive items of a dict, as a dict. -/
def rDivmod : List V → Hp → VK → Prop := fun xs H Q => ∃ i j, xs = [.int i, .int j] ∧ oDiv i j ∧ ∀ p, H p = none → Q (.ref p) (upd H p (.tup [.int (i / j), .int (i % j)]))
theorem c_divmod {X : Cx} : CallR X (.builtin "divmod") rDivmod := call_divmodW
/-- any(t) of a tuple of integers -/
def rAnyT (K : PySem.W.Frag) : List V → Hp → VK → Prop := fun vs H Q => ∃ (a : Addr) (ns : List Int), vs = [V.ref a] ∧ SqT K H a (ns.map V.int) ∧ Q (.bl (ns.any fun n => n != 0)) H
open PySem.Spec PyProof.Rows in
theorem iter_anyT {prog : Program} {w : World} {A : Around} {E : Value → Shared → Prop} {s : Shared} {l : Addr} {items : Array Value} {Q : Value → Shared → Prop} (hl : s.heap.IsTuple l items)
    (h : ∀ s₂ : Shared, s₂ = { s with heap := s.heap.push { cls := .type "tuple_iterator", data := .fields #[.ref l, .int 0 0] } } →
      (s₂.heap.IsTupleIter s.heap.objs.size l 0 ∧ s₂.heap.IsTuple l items) → l ≠ s.heap.objs.size → Q (.ref s.heap.objs.size) s₂) : wpAny (model prog w) A (pyIter (.ref l)) Q E s := by
  have hlt : l < s.heap.objs.size := by obtain ⟨_, e, _⟩ := hl; exact Heap.lt_size e
  exact wpAny_pyIter_tuple hl (h _ rfl ⟨⟨_, Heap.get?_push_size _ rfl, rfl, rfl⟩, hl.push _⟩ (Nat.ne_of_lt hlt))
open PySem.Spec PyProof.Rows in
theorem c_anyT {X : Cx} (hc : X.calm = true) : CallR X (.builtin "any") (rAnyT X.K) := by
  intro pins s σ H vs us Q I r h
  obtain ⟨a, ns, rfl, hs, q⟩ := h
  obtain ⟨its, rv, hl, _⟩ := I.tuple hs
  rw [Vals.ref1 r]
  refine call_any_walk (iter_anyT (show s.heap.IsTuple a its.toArray from hl) fun s₂ e2 st hne => ?_)
  subst e2
  refine ⟨_, _, _, _, _, _, _, rfl, Walks.tuple (A := X.A.in1) (I.ok.hd hc) _ a hne its.toArray, st, truth_ints rv, fun h' tk hk => ?_⟩
  refine ⟨.bl _, H, I.kept fun b o eo => hk b o (fun hmem => ?_) (Heap.get?_push_of_some _ eo), ?_, q⟩
  · rcases List.mem_cons.mp hmem with e1 | hmem
    · exact absurd (e1 ▸ Heap.lt_size eo) (Nat.lt_irrefl _)
    · cases hmem
  · show Value.bool _ = Value.bool _
    have e : (ns.any fun n => n != 0) = (ns.map fun n => n != 0).any id := by rw [List.any_map]; rfl
    have el := rv.length
    rw [List.length_map] at el
    rw [e, ← L2.any_range, List.size_toArray, List.length_map, el]
/-- for x in a list or a tuple -/
def iAny (K : PySem.W.Frag) (tl : TE) : TI := fun σ H R => tl σ H fun x H1 => ∃ a, x = .ref a ∧ (((∃ xs, SqL K H1 a xs) ∧ R (Itl K a) H1) ∨ ((∃ xs, SqT K H1 a xs) ∧ R (Itt K a) H1))
open PySem.Spec PyProof.Rows in
theorem pi_any {X : Cx} {tg l : Expr} {tl : TE} (hl : PE X l tl) : PI X tg l (iAny X.K tl) := by
  refine ⟨fun pins s σ H R I h => ?_⟩
  refine thn (hl.run pins s σ H _ I h) fun v s1 ⟨x, H1, I1, r1, q1⟩ => ?_
  obtain ⟨a, e, q⟩ := q1
  subst e
  cases r1
  rcases q with ⟨⟨xs, hq⟩, q⟩ | ⟨⟨xs, hq⟩, q⟩
  · obtain ⟨its, rv, p, hz⟩ := I1.list hq
    refine wpAny_pyIter_list p.isList ?_
    refine ⟨s1.heap.objs.size, [s1.heap.objs.size], _, _, H1, rfl, I1.kept (t' := s1.toks) fun b o e => Heap.get?_push_of_some _ e, turn_list a _, ⟨_, Heap.get?_push_size _ rfl, rfl, rfl⟩, fun b hb => ?_, q⟩
    have e : b = s1.heap.objs.size := by simpa using hb
    subst e
    exact I1.fpOk (Nat.le_refl _) (I1.hok.fresh (Nat.le_refl _))
  · obtain ⟨its, rv, p, hz⟩ := I1.tuple hq
    refine wpAny_pyIter_tuple (show s1.heap.IsTuple a its.toArray from p) ?_
    refine ⟨s1.heap.objs.size, [s1.heap.objs.size], _, _, H1, rfl, I1.kept (t' := s1.toks) fun b o e => Heap.get?_push_of_some _ e, turn_tuple a _, ⟨_, Heap.get?_push_size _ rfl, rfl, rfl⟩, fun b hb => ?_, q⟩
    have e : b = s1.heap.objs.size := by simpa using hb
    subst e
    exact I1.fpOk (Nat.le_refl _) (I1.hok.fresh (Nat.le_refl _))
section
variable {K : PySem.W.Frag} {c : Pc} {vs xs ys : List V} {H H0 H' : Hp} {Q : VK} {E : XK} {M : List Addr} {L L' cs : List (Addr × HO)} {a d e dx r x x' l p : Addr} {σ : L2.St} {te : TE} {tT : TT} {kvs : List (Key × V)}
/-- a comprehension over the items of a locked dict -/
theorem rd_lcI {g : TG} {ws : List Nat} {o : Obj} (hq : ∀ D, H D = none → ∃ Pv : Nat → Hp → Prop, Pv 0 (upd H D (.lst [])) ∧ (∀ i H, i ≤ kvs.length → Pv i H → H d = some (.frz o (.dK kvs))) ∧
    (∀ i k v H T, kvs[i]? = some (k, v) → Pv i H → H T = none → g (.ref T) (wipe σ ws) (upd H T (.tup [kV k, v])) fun σ2 H2 => wipe σ2 ws = wipe σ ws ∧ tT σ2 H2 (kIf (fun H3 => te σ2 H3 (kAcc D (Pv (i + 1)))) (fun H3 => Pv (i + 1) H3))) ∧ ∀ H, Pv kvs.length H → Q (.ref D) H) : kLc g tT te ws σ Q (Iti d o kvs) H := fun D hD => by
  obtain ⟨Pv, h0, hl, hs, hd⟩ := hq D hD
  refine ⟨fun i m H => m = kvs.length - i ∧ i ≤ kvs.length ∧ Pv i H, ⟨kvs.length, by simp, Nat.zero_le _, h0⟩, ?_⟩
  rintro i m H ⟨rfl, hi, p⟩
  have q := hl i H hi p
  by_cases hlt : i < kvs.length
  · refine .inr ⟨⟨q, hlt⟩, Pv (i + 1), fun H' p' => ⟨kvs.length - (i + 1), by omega, rfl, hlt, p'⟩, fun x H' y => ?_⟩
    obtain ⟨T, k, v, hk, ex, hT, e⟩ := y
    subst e ex
    exact hs i k v _ T hk p hT
  · have e : i = kvs.length := by omega
    subst e
    exact .inl ⟨⟨q, Nat.le_refl _⟩, hd H p⟩
theorem PInv.aside {Hb : Hp} {D T : Addr} {o : HO} (h : PInv Hb D kvs H) (hT : H T = none) : PInv Hb D kvs (upd H T o) := by
  obtain ⟨hs, qs, q1, q2, q3⟩ := h
  refine ⟨fun b o' e => ?_, qs, q1, by rw [upd_ne (fun z => by rw [z, hT] at q2; cases q2)]; exact q2, prd_imp (fun x y hx => ?_) q3⟩
  · have := hs b o' e
    rw [upd_ne (fun z => by rw [z, hT] at this; cases this)]; exact this
  · rw [upd_ne (fun z => by rw [z, hT] at hx; cases hx)]; exact hx
def tPosD (K : PySem.W.Frag) : TE := (tCB (rDict K) (tCons (tLockE (tLc (iItems (tVar 1)) (gTup K 2 (gCons (gName 4) (gCons (gName 5) gNil))) (tTest (tOp rGt (tVar 5) (tC (.int 0)))) (tTup (tCons (tVar 4) (tCons (tVar 5) tNil))) [4, 5])) tNil))
theorem rd_posD {h : Addr} {v0 v2 v3 v4 v5 v6 v7 : Option V} (hh : H h = some (.dK kvs)) (nd : (kvs.map (·.1)).Nodup) (few : kvs.length < 100) (each_ : ∀ kv ∈ kvs, ∃ (w : Str) (n : Int), kv = (Sum.inr w, .int n))
    (q : ∀ p H', H' p = none → Same H H' → Q (.ref p) (upd H' p (.dK (posK kvs)))) : tPosD K [v0, some (.ref h), v2, v3, v4, v5, v6, v7] H Q := by
  unfold tPosD
  walk_at "rd"
  refine ⟨h, .dK kvs, hh, trivial, fun od => ?_⟩
  walk_at "rd"
  refine ⟨.ref h, rfl, h, od, kvs, rfl, upd_same, ?_⟩
  refine rd_lcI fun D2 hD2 => ⟨fun i H' => PInv (upd H h (.frz od (.dK kvs))) D2 (posK (kvs.take i)) H', PInv.start hD2, ?_, ?_, ?_⟩
  · intro i H' _ hJ
    exact hJ.1 _ _ upd_same
  · intro i kk v H' T hk hJ hT
    obtain ⟨w, n, e⟩ := each_ _ (List.mem_of_getElem? hk)
    cases e
    have hlt : (posK (kvs.take i)).length < 1000 := by
      have h1 : (posK (kvs.take i)).length ≤ (kvs.take i).length := List.length_filter_le _ _
      have h2 : (kvs.take i).length ≤ kvs.length := by rw [List.length_take]; omega
      omega
    refine rd_gTup (xs := [.str w, .int n]) (SqT.of upd_same) rfl ?_
    walk_at "rd"
    refine ⟨rfl, ?_⟩
    walk_at "rd"
    refine rd_2d (fun h1 => ?_) fun h1 => ?_
    · walk_at "rd"
      refine PInv.more (k := Sum.inr w) hD2 (hJ.aside hT) hlt fun H2 h2 => ?_
      show PInv _ D2 (posK (kvs.take (i + 1))) H2
      rw [posK_snoc_T hk (show posB (.int n) = true from decide_eq_true h1)]
      exact h2
    · show PInv _ D2 (posK (kvs.take (i + 1))) _
      rw [posK_snoc_F hk (show posB (.int n) = false from decide_eq_false h1)]
      exact hJ.aside hT
  · intro H4 hJ
    rw [List.take_length] at hJ
    have hh4 : H4 h = some (.frz od (.dK kvs)) := hJ.1 _ _ upd_same
    refine ⟨hh4, ?_⟩
    have hJ' : PInv (fun _ => none) D2 (posK kvs) (upd H4 h (.dK kvs)) := by
      obtain ⟨_, qs, q1, q2, q3⟩ := hJ
      refine ⟨(fun _ _ z => nomatch z), qs, q1, by rw [upd_ne (fun z => by rw [z, hh4] at q2; cases q2)]; exact q2, prd_imp (fun x y hx => ?_) q3⟩
      rw [upd_ne (fun z => by rw [z, hh4] at hx; cases hx)]; exact hx
    walk_at "rd"
    refine hJ'.dict (posK_nd nd) fun p5 hp5 => ?_
    refine q p5 _ hp5 fun b o z => ?_
    by_cases e : b = h
    · subst e
      rw [hh] at z; cases z
      exact upd_same
    · rw [upd_ne e]
      exact hJ.1 _ _ (by rw [upd_ne e]; exact z)
end

end Eng
/-! Pu: data without a heap; what a body means over data (predicate transformers). -/
namespace Pu
open PySem L2 Eng
/-- data -/
inductive Dat where
  | non | bl (b : Bool) | int (n : Int) | str (s : Str) | tup (l : List Dat) | lst (l : List Dat) | cst (l : List Dat)
  | big (b : Nat) (n : Int) | mach (i : Nat) | src (i : Nat) | opq (v : V) | dic (l : List (Str × Int))
/-- a name's slot: nothing known, a value, a list that this name alone holds (made here, or the caller's) -/
inductive Slot where
  | no | val (d : Dat) | own (f : Bool) (l : List Dat)
  | ownT (l : List Dat) (r : List Dat)
abbrev Env := List Slot
structure Mach where
  b : Nat
  cut : Int
  ns : List Int
  walk : List (Str × Int × Int)
structure Wld where
  ms : List Mach
  ss : Nat
abbrev PQ := Dat → Env → Wld → Prop
abbrev PE := Env → Wld → PQ → Prop
abbrev PF := Env → Wld → (List Dat → Env → Wld → Prop) → Prop
abbrev PT := Env → Wld → (Bool → Env → Wld → Prop) → Prop
abbrev PA := Env → Wld → (List Dat → Env → Wld → Prop) → Prop
abbrev PO := Env → Wld → (Option Int → Env → Wld → Prop) → Prop
abbrev PG := Dat → Env → Wld → (Env → Wld → Prop) → Prop
abbrev PSp := List Dat → Wld → (Dat → Wld → Prop) → Prop
/-- with a list of the caller's that may be changed: the other arguments, the list -/
abbrev PSpO := List Dat → List Dat → Wld → (Dat → List Dat → Wld → Prop) → Prop
abbrev Q1 := Dat → (Dat → Prop) → Prop
abbrev Q2 := Dat → Dat → (Dat → Prop) → Prop
abbrev QL := List Dat → (Dat → Prop) → Prop
structure PEnds where
  nx : Env → Wld → Prop
  rt : PQ
  bk : Env → Wld → Prop
  ct : Env → Wld → Prop
abbrev PS := PEnds → Env → Wld → Prop
/-! ### values -/
def pVar (i : Nat) : PE := fun e w k => match e[i]? with | some (.val d) => k d e w | _ => False
def pC (d : Dat) : PE := fun e w k => k d e w
def pOp (q : Q2) (a b : PE) : PE := fun e w k => a e w fun x e w => b e w fun y e w => q x y fun z => k z e w
def pUn (q : Q1) (a : PE) : PE := fun e w k => a e w fun x e w => q x fun z => k z e w
def isB : Dat → (Bool → Prop) → Prop
  | .bl b, k => k b
  | _, _ => False
def pTest (a : PE) : PT := fun e w k => a e w fun x e w => isB x fun b => k b e w
def pNot (a : PT) : PT := fun e w k => a e w fun b e w => k (!b) e w
def pAnd (a b : PT) : PT := fun e w k => a e w fun c e w => if c = true then b e w k else k false e w
def pOr (a b : PT) : PT := fun e w k => a e w fun c e w => if c = true then k true e w else b e w k
def pAndV (a b : PE) : PE := fun e w k => a e w fun x e w => isB x fun c => if c = true then b e w k else k (.bl false) e w
def pOrV (a b : PE) : PE := fun e w k => a e w fun x e w => isB x fun c => if c = true then k (.bl true) e w else b e w k
def pNotV (a : PE) : PE := fun e w k => a e w fun x e w => isB x fun c => k (.bl (!c)) e w
def pIf (c : PT) (a b : PE) : PE := fun e w k => c e w fun t e w => if t = true then a e w k else b e w k
def pChain (q q' : Q2) (a b c : PE) : PE := fun e w k => a e w fun x e w => b e w fun y e w => q x y fun z => isB z fun t => if t = true then c e w fun v e w => q' y v fun z => k z e w else k (.bl false) e w
def pNil : PA := fun e w k => k [] e w
def pCons (a : PE) (r : PA) : PA := fun e w k => a e w fun x e w => r e w fun xs e w => k (x :: xs) e w
def pCall (P : PSp) (a : PA) : PE := fun e w k => a e w fun ds e w => P ds w fun d w => k d e w
def pCallD (P : PSp) (dv : List Dat) (a : PA) : PE := fun e w k => a e w fun ds e w => P (ds ++ dv) w fun d w => k d e w
def pKw (n : Nat) (P : PSp) (ix : List Nat) (a : PA) : PE := fun e w k => a e w fun ds e w => ds.length = n ∧ P (ix.map fun i => ds.getD i .non) w fun d w => k d e w
/-- a method: the receiver first -/
def pMeth (P : PSp) (a : PE) (r : PA) : PE := fun e w k => a e w fun x e w => r e w fun ds e w => P (x :: ds) w fun d w => k d e w
def pTup (a : PA) : PE := fun e w k => a e w fun ds e w => ds.length ≤ sizeLine ∧ k (.tup ds) e w
def pCB (q : QL) (a : PA) : PE := fun e w k => a e w fun ds e w => q ds fun z => k z e w
/-! ### new lists -/
def pLst (a : PA) : PF := fun e w k => a e w fun ds e w => ds.length ≤ sizeLine ∧ k ds e w
def pFz (a : PF) : PE := fun e w k => a e w fun ds e w => k (.lst ds) e w
/-- a list from one or two values -/
def pOpF (q : Dat → Dat → (List Dat → Prop) → Prop) (a b : PE) : PF := fun e w k => a e w fun x e w => b e w fun y e w => q x y fun z => k z e w
def pCBF (q : List Dat → (List Dat → Prop) → Prop) (a : PA) : PF := fun e w k => a e w fun ds e w => q ds fun z => k z e w
/-! ### a list that a name holds -/
def ownAt (e : Env) (i : Nat) (k : Bool → List Dat → Prop) : Prop := match e[i]? with | some (.own f l) => k f l | _ => False
def pOpO (q : Q2) (i : Nat) (b : PE) : PE := fun e w k => ownAt e i fun _ _ => b e w fun y e w => ownAt e i fun f l => q (.lst l) y fun z => k z e w
def pCBO (q : QL) (i : Nat) : PE := fun e w k => ownAt e i fun f l => q [.lst l] fun z => k z e w
/-! ### statements -/
def pSeq (a b : PS) : PS := fun D e w => a { D with nx := b D } e w
def pNext : PS := fun D e w => D.nx e w
def pBreak : PS := fun D e w => D.bk e w
def pCont : PS := fun D e w => D.ct e w
def pNever : PS := fun _ _ _ => False
def pAsg (a : PE) (i : Nat) : PS := fun D e w => a e w fun d e w => D.nx (e.set i (.val d)) w
def pAsgO (a : PF) (i : Nat) : PS := fun D e w => a e w fun l e w => D.nx (e.set i (.own true l)) w
def setAll : Env → List Nat → List Dat → Option Env
  | e, [], [] => some e
  | e, i :: is, d :: ds => setAll (e.set i (.val d)) is ds
  | _, _, _ => none
def onSome {α : Type} (o : Option α) (k : α → Prop) : Prop := match o with | some x => k x | none => False
def tupOf : Dat → (List Dat → Prop) → Prop
  | .tup l, k => k l
  | _, _ => False
def lstOf : Dat → (List Dat → Prop) → Prop
  | .lst l, k => k l
  | .cst l, k => k l
  | _, _ => False
/-- a list or a tuple -/
def seqOf : Dat → (List Dat → Prop) → Prop
  | .lst l, k => k l
  | .cst l, k => k l
  | .tup l, k => k l
  | _, _ => False
def intOf : Dat → (Int → Prop) → Prop
  | .int n, k => k n
  | _, _ => False
def pgName (i : Nat) : PG := fun d e w k => k (e.set i (.val d)) w
def pgTup (is : List Nat) : PG := fun d e w k => tupOf d fun ds => onSome (setAll e is ds) fun e => k e w
def pAsgG (a : PE) (g : PG) : PS := fun D e w => a e w fun d e w => g d e w D.nx
def pPar (is : List Nat) (a : PA) : PS := fun D e w => a e w fun ds e w => onSome (setAll e is ds) fun e => D.nx e w
def pRet (a : PE) : PS := fun D e w => a e w D.rt
def pRetN : PS := fun D e w => D.rt .non e w
def pDrop (a : PE) : PS := fun D e w => a e w fun _ e w => D.nx e w
def pIfS (c : PT) (a b : PS) : PS := fun D e w => c e w fun t e w => if t = true then a D e w else b D e w
def pAppend (i : Nat) (a : PE) : PS := fun D e w => ownAt e i fun _ _ => a e w fun d e w => ownAt e i fun f l => l.length < sizeLine ∧ D.nx (e.set i (.own f (l ++ [d]))) w
def pSetI (i : Nat) (ix v : PE) : PS := fun D e w => v e w fun d e w => ownAt e i fun _ _ => ix e w fun x e w => intOf x fun n => ownAt e i fun f l => onSome (ixN l.length n) fun j => D.nx (e.set i (.own f (l.set j d))) w
def fz : Slot → Slot
  | .own true l => .val (.lst l)
  | s => s
/-- from here on the names is hold their lists no more alone -/
def frz (e : Env) : List Nat → Env
  | [] => e
  | i :: is => frz (match e[i]? with | some s => e.set i (fz s) | none => e) is
def pFrz (is : List Nat) (a : PS) : PS := fun D e w => a D (frz e is) w
/-! ### loops -/
def whl (c : PT) (b : PS) (D : PEnds) : Nat → Env → Wld → Prop
  | 0, _, _ => False
  | n + 1, e, w => c e w fun t e w => if t = true then b ⟨whl c b D n, D.rt, D.nx, whl c b D n⟩ e w else D.nx e w
def pWhile (c : PT) (b : PS) : PS := fun D e w => ∃ n, whl c b D n e w
def lp (g : PG) (b : PS) (D : PEnds) : List Dat → Env → Wld → Prop
  | [], e, w => D.nx e w
  | d :: ds, e, w => g d e w fun e w => b ⟨lp g b D ds, D.rt, D.nx, lp g b D ds⟩ e w
def pFor (s : PA) (g : PG) (b : PS) : PS := fun D e w => s e w fun ds e w => lp g b D ds e w
def wip (e : Env) : List Nat → Env
  | [] => e
  | i :: is => wip (e.set i .no) is
def lcp (g : PG) (t : PT) (a : PE) (vs : List Nat) (k : List Dat → Env → Wld → Prop) : List Dat → List Dat → Env → Wld → Prop
  | [], acc, e, w => k acc e w
  | d :: ds, acc, e, w => g d e w fun e w => t e w fun b e w => if b = true then a e w fun y e w => acc.length < sizeLine ∧ lcp g t a vs k ds (acc ++ [y]) (wip e vs) w else lcp g t a vs k ds acc (wip e vs) w
def pLc (s : PA) (g : PG) (t : PT) (a : PE) (vs : List Nat) : PF := fun e w k => s e w fun ds e w => lcp g t a vs k ds [] (wip e vs) w
def pYes : PT := fun e w k => k true e w
/-- what is walked -/
def pIL (a : PE) : PA := fun e w k => a e w fun d e w => lstOf d fun l => k l e w
def pIT (a : PE) : PA := fun e w k => a e w fun d e w => tupOf d fun l => k l e w
def rng (lo : Int) : Nat → List Dat
  | 0 => []
  | n + 1 => .int lo :: rng (lo + 1) n
def pIR1 (a : PE) : PA := fun e w k => a e w fun d e w => intOf d fun n => (-(2 ^ 62) ≤ n ∧ n < 2 ^ 62) ∧ k (rng 0 n.toNat) e w
def pIR2 (a b : PE) : PA := fun e w k => a e w fun d e w => b e w fun d' e w => intOf d fun n => intOf d' fun m => (-(2 ^ 62) ≤ n ∧ n < 2 ^ 62 ∧ -(2 ^ 62) ≤ m ∧ m < 2 ^ 62) ∧ k (rng n (m - n).toNat) e w
def enm (i : Nat) : List Dat → List Dat
  | [] => []
  | d :: ds => .tup [.int (i : Int), d] :: enm (i + 1) ds
def pIEnum (a : PE) : PA := fun e w k => a e w fun d e w => seqOf d fun l => k (enm 0 l) e w
end Pu

/-! Rep: how data stands in the heap; what a def's body keeps. -/
namespace Pu
open PySem L2 Eng
/-- what never changes (G); the machines (object, counts, walk); the sources of draws -/
structure Gh where
  G : Hp
  ms : List (Addr × Addr × Addr)
  ss : List Addr
def Gh.mu (g : Gh) : List Addr := g.ms.map (·.2.1) ++ (g.ms.map (·.2.2) ++ g.ss)
structure Gh.le (g g' : Gh) : Prop where
  G : ∀ a o, g.G a = some o → g'.G a = some o
  ms : ∀ (i : Nat) q, g.ms[i]? = some q → g'.ms[i]? = some q
  ss : ∀ (i : Nat) q, g.ss[i]? = some q → g'.ss[i]? = some q
theorem Gh.le.refl (g : Gh) : g.le g := ⟨fun _ _ h => h, fun _ _ h => h, fun _ _ h => h⟩
theorem Gh.le.trans {a b d : Gh} (h : a.le b) (k : b.le d) : a.le d := ⟨fun x o z => k.G x o (h.G x o z), fun x o z => k.ms x o (h.ms x o z), fun x o z => k.ss x o (h.ss x o z)⟩
/-- a dict of texts and integers -/
def dKs (l : List (Str × Int)) : List (Key × V) := l.map fun p => ((Sum.inr p.1 : Key), V.int p.2)
section
variable (K : PySem.W.Frag) (c : Pc)
mutual
inductive Rep (g : Gh) : V → Dat → Prop
  | non : Rep g .non .non
  | bl (b : Bool) : Rep g (.bl b) (.bl b)
  | int (n : Int) : Rep g (.int n) (.int n)
  | str (s : Str) : Rep g (.str s) (.str s)
  | tup {a : Addr} {vs : List V} {ds : List Dat} : g.G a = some (.tup vs) → Reps g vs ds → Rep g (.ref a) (.tup ds)
  | lst {a : Addr} {vs : List V} {ds : List Dat} : g.G a = some (.lst vs) → Reps g vs ds → Rep g (.ref a) (.lst ds)
  | cst {a : Addr} {vs : List V} {ds : List Dat} : SqL K g.G a vs → Reps g vs ds → Rep g (.ref a) (.cst ds)
  | big {a : Addr} {b : Nat} {n : Int} : BigAt c g.G a b n → Rep g (.ref a) (.big b n)
  | mach {i : Nat} {q : Addr × Addr × Addr} : g.ms[i]? = some q → Rep g (.ref q.1) (.mach i)
  | src {i : Nat} {a : Addr} : g.ss[i]? = some a → Rep g (.ref a) (.src i)
  | opq (v : V) : Rep g v (.opq v)
  | dic {a : Addr} {l : List (Str × Int)} : g.G a = some (.dK (dKs l)) → Rep g (.ref a) (.dic l)
inductive Reps (g : Gh) : List V → List Dat → Prop
  | nil : Reps g [] []
  | cons {v : V} {vs : List V} {d : Dat} {ds : List Dat} : Rep g v d → Reps g vs ds → Reps g (v :: vs) (d :: ds)
end
end
section
variable {K : PySem.W.Frag} {c : Pc} {g g' : Gh}
theorem sqT_mono {G G' : Hp} (h : ∀ a o, G a = some o → G' a = some o) {a : Addr} {vs : List V} (s : SqT K G a vs) : SqT K G' a vs := by
  rcases s with (s | ⟨o, s⟩) | s
  · exact .inl (.inl (h _ _ s))
  · exact .inl (.inr ⟨o, h _ _ s⟩)
  · exact .inr s
theorem sqL_mono {G G' : Hp} (h : ∀ a o, G a = some o → G' a = some o) {a : Addr} {vs : List V} (s : SqL K G a vs) : SqL K G' a vs := by
  rcases s with (s | ⟨o, s⟩) | s
  · exact .inl (.inl (h _ _ s))
  · exact .inl (.inr ⟨o, h _ _ s⟩)
  · exact .inr s
theorem bigAt_mono {G G' : Hp} (h : ∀ a o, G a = some o → G' a = some o) {a : Addr} {b : Nat} {n : Int} (s : BigAt c G a b n) : BigAt c G' a b n := s.same h
mutual
theorem Rep.mono (le : g.le g') : ∀ {d : Dat} {v : V}, Rep K c g v d → Rep K c g' v d
  | .non, _, .non => .non
  | .bl _, _, .bl _ => .bl _
  | .int _, _, .int _ => .int _
  | .str _, _, .str _ => .str _
  | .tup _, _, .tup s r => .tup (le.G _ _ s) (Reps.mono le r)
  | .lst _, _, .lst s r => .lst (le.G _ _ s) (Reps.mono le r)
  | .cst _, _, .cst s r => .cst (sqL_mono le.G s) (Reps.mono le r)
  | .big _ _, _, .big h => .big (bigAt_mono le.G h)
  | .mach _, _, .mach h => .mach (le.ms _ _ h)
  | .src _, _, .src h => .src (le.ss _ _ h)
  | .opq _, _, .opq _ => .opq _
  | .dic _, _, .dic h => .dic (le.G _ _ h)
theorem Reps.mono (le : g.le g') : ∀ {ds : List Dat} {vs : List V}, Reps K c g vs ds → Reps K c g' vs ds
  | [], _, .nil => .nil
  | _ :: _, _, .cons h t => .cons (Rep.mono le h) (Reps.mono le t)
end
theorem Reps.length : ∀ {vs : List V} {ds : List Dat}, Reps K c g vs ds → vs.length = ds.length
  | _, _, .nil => rfl
  | _, _, .cons _ t => congrArg (· + 1) t.length
theorem Reps.get : ∀ {vs : List V} {ds : List Dat} {i : Nat} {d : Dat}, Reps K c g vs ds → ds[i]? = some d → ∃ v, vs[i]? = some v ∧ Rep K c g v d
  | _, _, 0, _, .cons h _, e => ⟨_, rfl, by cases e; exact h⟩
  | _, _, i + 1, _, .cons _ t, e => t.get (i := i) e
theorem Reps.getV : ∀ {vs : List V} {ds : List Dat} {i : Nat} {v : V}, Reps K c g vs ds → vs[i]? = some v → ∃ d, ds[i]? = some d ∧ Rep K c g v d
  | _, _, 0, _, .cons h _, e => ⟨_, rfl, by cases e; exact h⟩
  | _, _, i + 1, _, .cons _ t, e => t.getV (i := i) e
theorem Reps.app : ∀ {vs : List V} {ds : List Dat} {vs' : List V} {ds' : List Dat}, Reps K c g vs ds → Reps K c g vs' ds' → Reps K c g (vs ++ vs') (ds ++ ds')
  | _, _, _, _, .nil, h => h
  | _, _, _, _, .cons a t, h => .cons a (t.app h)
theorem Reps.set {v : V} {d : Dat} (h : Rep K c g v d) : ∀ {vs : List V} {ds : List Dat} (i : Nat), Reps K c g vs ds → Reps K c g (vs.set i v) (ds.set i d)
  | _, _, _, .nil => .nil
  | _, _, 0, .cons _ t => .cons h t
  | _, _, i + 1, .cons a t => .cons a (t.set h i)
theorem Reps.drop : ∀ {vs : List V} {ds : List Dat} (i : Nat), Reps K c g vs ds → Reps K c g (vs.drop i) (ds.drop i)
  | _, _, 0, h => h
  | _, _, _ + 1, .nil => .nil
  | _, _, i + 1, .cons _ t => t.drop i
theorem Reps.take : ∀ {vs : List V} {ds : List Dat} (i : Nat), Reps K c g vs ds → Reps K c g (vs.take i) (ds.take i)
  | _, _, 0, _ => .nil
  | _, _, _ + 1, .nil => .nil
  | _, _, i + 1, .cons h t => .cons h (t.take i)
theorem Reps.rev : ∀ {vs : List V} {ds : List Dat}, Reps K c g vs ds → Reps K c g vs.reverse ds.reverse
  | _, _, .nil => .nil
  | _, _, .cons h t => by
    rw [List.reverse_cons, List.reverse_cons]
    exact t.rev.app (.cons h .nil)
theorem Reps.rep {vs : List V} {ds : List Dat} (h : Reps K c g vs ds) : ∀ (n : Nat), Reps K c g (List.replicate n vs).flatten (List.replicate n ds).flatten
  | 0 => .nil
  | n + 1 => by
    rw [List.replicate_succ, List.replicate_succ, List.flatten_cons, List.flatten_cons]
    exact h.app (h.rep n)
theorem Rep.intI {v : V} {n : Int} (h : Rep K c g v (.int n)) : v = .int n := by cases h; rfl
theorem Rep.blI {v : V} {b : Bool} (h : Rep K c g v (.bl b)) : v = .bl b := by cases h; rfl
theorem Rep.strI {v : V} {b : Str} (h : Rep K c g v (.str b)) : v = .str b := by cases h; rfl
theorem Rep.nonI {v : V} (h : Rep K c g v .non) : v = .non := by cases h; rfl
theorem Reps.ints : ∀ {ns : List Int} {vs : List V}, Reps K c g vs (ns.map Dat.int) → vs = ns.map V.int
  | [], _, .nil => rfl
  | _ :: _, _, .cons h t => by rw [h.intI, t.ints]; rfl
theorem Reps.ofInts : ∀ (ns : List Int), Reps K c g (ns.map V.int) (ns.map Dat.int)
  | [] => .nil
  | n :: ns => .cons (.int n) (Reps.ofInts ns)
end
/-- what a walk's entry is -/
def dW (x : Str × Int × Int) : Dat := .tup [.str x.1, .int x.2.1, .int x.2.2]
structure MRep (K : PySem.W.Frag) (c : Pc) (g : Gh) (H : Hp) (q : Addr × Addr × Addr) (m : Mach) : Prop where
  ins : ∃ dx, g.G q.1 = some (.ins c.CMachine dx (mF m.b m.cut q.2.1 q.2.2))
  cnt : H q.2.1 = some (.dK (cK m.ns))
  ten : m.ns.length = 10
  wlk : ∃ vs, H q.2.2 = some (.lst vs) ∧ Reps K c g vs (m.walk.map dW)
  few : m.walk.length ≤ 1000
/-- the world in the heap -/
structure Wr (K : PySem.W.Frag) (c : Pc) (g : Gh) (H : Hp) (w : Wld) : Prop where
  sub : ∀ a o, g.G a = some o → H a = some o
  nd : g.mu.Nodup
  off : ∀ a ∈ g.mu, g.G a = none
  mlen : g.ms.length = w.ms.length
  mach : ∀ (i : Nat) q m, g.ms[i]? = some q → w.ms[i]? = some m → MRep K c g H q m
  srcs : ∀ a ∈ g.ss, ∃ o, H a = some o ∧ SrcO o
  nss : g.ss.length = w.ss
/-- what a call leaves -/
structure Aft (g : Gh) (H : Hp) (g' : Gh) (H' : Hp) : Prop where
  le : g.le g'
  keep : ∀ a o, H a = some o → a ∉ g.mu → H' a = some o
  frz : ∀ a o, H a = some o → g'.G a = g.G a
  new : ∀ a ∈ g'.mu, a ∈ g.mu ∨ H a = none
  dom : ∀ a o, H a = some o → ∃ o', H' a = some o'
theorem Aft.refl (g : Gh) (H : Hp) : Aft g H g H := ⟨Gh.le.refl g, fun _ _ h _ => h, fun _ _ _ => rfl, fun _ h => .inl h, fun _ o h => ⟨o, h⟩⟩
theorem Aft.trans {g g' g'' : Gh} {H H' H'' : Hp} (h : Aft g H g' H') (k : Aft g' H' g'' H'') : Aft g H g'' H'' where
  le := h.le.trans k.le
  keep := fun a o e n => k.keep a o (h.keep a o e n) fun z => by
    rcases h.new a z with z | z
    · exact n z
    · rw [z] at e; cases e
  frz := fun a o e => by
    obtain ⟨o', e'⟩ := h.dom a o e
    rw [k.frz a o' e', h.frz a o e]
  new := fun a z => by
    rcases k.new a z with z | z
    · exact h.new a z
    · refine .inr ?_
      cases e : H a with
      | none => rfl
      | some o => obtain ⟨o', e'⟩ := h.dom a o e; rw [e'] at z; cases z
  dom := fun a o e => by
    obtain ⟨o', e'⟩ := h.dom a o e
    exact k.dom a o' e'
/-- a promise over the heap keeps one over data -/
def SndP (K : PySem.W.Frag) (c : Pc) (sp : Sp) (P : PSp) : Prop := ∀ (g : Gh) (H : Hp) (w : Wld) (vs : List V) (ds : List Dat) (k : Dat → Wld → Prop) (Q : VK) (E : XK), Wr K c g H w → Reps K c g vs ds → P ds w k →
  (∀ v d g' H' w', Aft g H g' H' → Wr K c g' H' w' → Rep K c g' v d → k d w' → Q v H') → sp vs H Q E
/-- a promise over data, as one over the heap -/
def lif (K : PySem.W.Frag) (c : Pc) (P : PSp) : Sp := fun vs H Q _ => ∃ (g : Gh) (w : Wld) (ds : List Dat) (k : Dat → Wld → Prop), Wr K c g H w ∧ Reps K c g vs ds ∧ P ds w k ∧ ∀ v d g' H' w', Aft g H g' H' → Wr K c g' H' w' → Rep K c g' v d → k d w' → Q v H'
theorem SndP.lif {K : PySem.W.Frag} {c : Pc} {P : PSp} : SndP K c (lif K c P) P := fun g _ w _ ds k _ _ h1 h2 h3 h4 => ⟨g, w, ds, k, h1, h2, h3, h4⟩
/-! ### a body at work -/
/-- the entry: heap, what was known, the lists of the caller's that may be changed -/
structure En where
  H : Hp
  g : Gh
  M : List Addr
structure Cf where
  g : Gh
  H : Hp
  e : Env
  w : Wld
  os : List (Nat × Addr)
def Cf.mu (s : Cf) (F : List (Addr × HO)) : List Addr := s.g.mu ++ (s.os.map (·.2) ++ F.map (·.1))
/-- a name's list: new, or one of the caller's -/
def OwnF (X : En) (f : Bool) (a : Addr) : Prop := (f = true → X.H a = none) ∧ (f = false → a ∈ X.M)
def RSl (K : PySem.W.Frag) (c : Pc) (X : En) (s : Cf) (i : Nat) (o : Option (Option V)) : Slot → Prop
  | .no => True
  | .val d => ∃ v, o = some (some v) ∧ Rep K c s.g v d
  | .own f ds => ∃ a vs, o = some (some (.ref a)) ∧ (i, a) ∈ s.os ∧ s.H a = some (.lst vs) ∧ Reps K c s.g vs ds ∧ OwnF X f a
  | .ownT l r => ∃ p a us vs, o = some (some (.ref p)) ∧ (i, a) ∈ s.os ∧ s.g.G p = some (.tup (.ref a :: us)) ∧ Reps K c s.g us r ∧ s.H a = some (.lst vs) ∧ Reps K c s.g vs l ∧ X.H a = none
structure In (K : PySem.W.Frag) (c : Pc) (X : En) (F : List (Addr × HO)) (σ : L2.St) (s : Cf) : Prop where
  wr : Wr K c s.g s.H s.w
  nd : (s.mu F).Nodup
  off : ∀ a ∈ s.mu F, s.g.G a = none
  len : s.e.length = σ.length
  env : ∀ (i : Nat) z, s.e[i]? = some z → RSl K c X s i σ[i]? z
  held : ∀ q ∈ F, s.H q.1 = some q.2
  oal : ∀ q ∈ s.os, ∃ o, s.H q.2 = some o
  le : X.g.le s.g
  keep : ∀ a o, X.H a = some o → a ∉ X.g.mu → a ∉ X.M → s.H a = some o
  frz : ∀ a o, X.H a = some o → s.g.G a = X.g.G a
  new : ∀ a ∈ s.mu F, a ∈ X.g.mu ∨ a ∈ X.M ∨ X.H a = none
  dom : ∀ a o, X.H a = some o → ∃ o', s.H a = some o'
section
variable {K : PySem.W.Frag} {c : Pc} {X : En} {F : List (Addr × HO)} {σ : L2.St} {s : Cf}
theorem In.fresh (I : In K c X F σ s) {p : Addr} (h : s.H p = none) : X.H p = none := by
  cases e : X.H p with
  | none => rfl
  | some o => obtain ⟨o', e'⟩ := I.dom p o e; rw [e'] at h; cases h
theorem In.offG (I : In K c X F σ s) {p : Addr} (h : s.H p = none) : s.g.G p = none := by
  cases e : s.g.G p with
  | none => rfl
  | some o => rw [I.wr.sub p o e] at h; cases h
/-- all that is meant to change stands -/
theorem Wr.muAt {g : Gh} {H : Hp} {w : Wld} (W : Wr K c g H w) {a : Addr} (h : a ∈ g.mu) : ∃ o, H a = some o := by
  rcases List.mem_append.mp h with h | h
  · obtain ⟨q, hq, rfl⟩ := List.mem_map.mp h
    obtain ⟨i, hi⟩ := List.mem_iff_getElem?.mp hq
    have hl : i < w.ms.length := by rw [← W.mlen]; exact (List.getElem?_eq_some_iff.mp hi).1
    exact ⟨_, (W.mach i q _ hi (List.getElem?_eq_getElem hl)).cnt⟩
  · rcases List.mem_append.mp h with h | h
    · obtain ⟨q, hq, rfl⟩ := List.mem_map.mp h
      obtain ⟨i, hi⟩ := List.mem_iff_getElem?.mp hq
      have hl : i < w.ms.length := by rw [← W.mlen]; exact (List.getElem?_eq_some_iff.mp hi).1
      obtain ⟨vs, h1, _⟩ := (W.mach i q _ hi (List.getElem?_eq_getElem hl)).wlk
      exact ⟨_, h1⟩
    · obtain ⟨o, h1, _⟩ := W.srcs a h
      exact ⟨o, h1⟩
end
end Pu

/-! In: how a body's state goes on. -/
namespace Pu
open PySem L2 Eng
section
variable {K : PySem.W.Frag} {c : Pc} {X : En} {F : List (Addr × HO)} {σ : L2.St} {s : Cf} {p : Addr} {o : HO} {vs : List V}
theorem In.al (I : In K c X F σ s) {a : Addr} (h : a ∈ s.mu F) : ∃ o, s.H a = some o := by
  rcases List.mem_append.mp h with h | h
  · exact I.wr.muAt h
  · rcases List.mem_append.mp h with h | h
    · obtain ⟨q, hq, rfl⟩ := List.mem_map.mp h
      exact I.oal q hq
    · obtain ⟨q, hq, rfl⟩ := List.mem_map.mp h
      exact ⟨_, I.held q hq⟩
theorem In.notMu (I : In K c X F σ s) (h : s.H p = none) : p ∉ s.mu F := fun z => by
  obtain ⟨o, e⟩ := I.al z
  rw [h] at e; cases e
theorem MRep.mono {g g' : Gh} {H H' : Hp} {q : Addr × Addr × Addr} {m : Mach} (h : MRep K c g H q m) (le : g.le g') (h1 : H' q.2.1 = H q.2.1) (h2 : H' q.2.2 = H q.2.2) : MRep K c g' H' q m := by
  obtain ⟨dx, a⟩ := h.ins
  obtain ⟨vs, b1, b2⟩ := h.wlk
  exact ⟨⟨dx, le.G _ _ a⟩, by rw [h1]; exact h.cnt, h.ten, ⟨vs, by rw [h2]; exact b1, b2.mono le⟩, h.few⟩
theorem mem_mu1 {g : Gh} {i : Nat} {q : Addr × Addr × Addr} (h : g.ms[i]? = some q) : q.2.1 ∈ g.mu := List.mem_append_left _ (List.mem_map.mpr ⟨q, List.mem_of_getElem? h, rfl⟩)
theorem mem_mu2 {g : Gh} {i : Nat} {q : Addr × Addr × Addr} (h : g.ms[i]? = some q) : q.2.2 ∈ g.mu := List.mem_append_right _ (List.mem_append_left _ (List.mem_map.mpr ⟨q, List.mem_of_getElem? h, rfl⟩))
theorem mem_mu3 {g : Gh} {a : Addr} (h : a ∈ g.ss) : a ∈ g.mu := List.mem_append_right _ (List.mem_append_right _ h)
/-- the world stays while its own places do -/
theorem Wr.mono {g g' : Gh} {H H' : Hp} {w : Wld} (W : Wr K c g H w) (le : g.le g') (hm : g'.ms = g.ms) (hs : g'.ss = g.ss) (sub : ∀ a o, g'.G a = some o → H' a = some o) (off : ∀ a ∈ g.mu, g'.G a = none) (h : ∀ a ∈ g.mu, H' a = H a) : Wr K c g' H' w := by
  have e : g'.mu = g.mu := by unfold Gh.mu; rw [hm, hs]
  refine ⟨sub, by rw [e]; exact W.nd, by rw [e]; exact off, by rw [hm]; exact W.mlen, fun i q m h1 h2 => ?_, fun a ha => ?_, by rw [hs]; exact W.nss⟩
  · rw [hm] at h1
    exact (W.mach i q m h1 h2).mono le (h _ (mem_mu1 h1)) (h _ (mem_mu2 h1))
  · rw [hs] at ha
    obtain ⟨o, h1, h2⟩ := W.srcs a ha
    exact ⟨o, by rw [h a (mem_mu3 ha)]; exact h1, h2⟩
theorem RSl.mono {s s' : Cf} {i : Nat} {o : Option (Option V)} {z : Slot} (h : RSl K c X s i o z) (le : s.g.le s'.g) (ho : ∀ q ∈ s.os, q ∈ s'.os) (hH : ∀ q ∈ s.os, s'.H q.2 = s.H q.2) : RSl K c X s' i o z := by
  cases z with
  | no => trivial
  | val d => obtain ⟨v, h1, h2⟩ := h; exact ⟨v, h1, h2.mono le⟩
  | own f ds => obtain ⟨a, vs, h1, h2, h3, h4, h5⟩ := h; exact ⟨a, vs, h1, ho _ h2, by rw [hH _ h2]; exact h3, h4.mono le, h5⟩
  | ownT l r => obtain ⟨p, a, us, vs, h1, h2, h3, h4, h5, h6, h7⟩ := h; exact ⟨p, a, us, vs, h1, ho _ h2, le.G _ _ h3, h4.mono le, by rw [hH _ h2]; exact h5, h6.mono le, h7⟩
def gUpd (g : Gh) (p : Addr) (o : HO) : Gh := ⟨upd g.G p o, g.ms, g.ss⟩
theorem gUpd_le {g : Gh} (h : g.G p = none) : g.le (gUpd g p o) := ⟨fun a u e => by
  show upd g.G p o a = some u
  rw [upd_ne (ne_of_none e h)]; exact e, fun _ _ h => h, fun _ _ h => h⟩
/-- a new thing that never changes -/
theorem In.newG (I : In K c X F σ s) (h : s.H p = none) : In K c X F σ ⟨gUpd s.g p o, upd s.H p o, s.e, s.w, s.os⟩ := by
  have hg := I.offG h
  have hn := I.notMu h
  have ne : ∀ a ∈ s.mu F, a ≠ p := fun a ha e => hn (e ▸ ha)
  have hle := gUpd_le (o := o) hg
  have hsub : ∀ a ∈ s.g.mu, a ∈ s.mu F := fun a ha => List.mem_append_left _ ha
  refine ⟨I.wr.mono hle rfl rfl (fun a u e => ?_) (fun a ha => ?_) (fun a ha => upd_ne (ne a (hsub a ha))), I.nd, fun a ha => ?_, I.len, fun i z hz => ?_, fun q hq => ?_, fun q hq => ?_, I.le.trans hle, fun a u e n1 n2 => ?_, fun a u e => ?_, I.new, fun a u e => ?_⟩
  · show upd s.H p o a = some u
    have e : upd s.g.G p o a = some u := e
    by_cases ha : a = p
    · subst ha; rw [upd_same] at e ⊢; exact e
    · rw [upd_ne ha] at e ⊢; exact I.wr.sub a u e
  · show upd s.g.G p o a = none
    rw [upd_ne (ne a (hsub a ha))]; exact I.off a (hsub a ha)
  · show upd s.g.G p o a = none
    rw [upd_ne (ne a ha)]; exact I.off a ha
  · refine (I.env i z hz).mono hle (fun q hq => hq) fun q hq => upd_ne (ne _ ?_)
    exact List.mem_append_right _ (List.mem_append_left _ (List.mem_map.mpr ⟨q, hq, rfl⟩))
  · show upd s.H p o q.1 = some q.2
    rw [upd_ne (ne_of_none (I.held q hq) h)]; exact I.held q hq
  · obtain ⟨u, e⟩ := I.oal q hq
    exact ⟨u, by show upd s.H p o q.2 = _; rw [upd_ne (ne_of_none e h)]; exact e⟩
  · have e' := I.keep a u e n1 n2
    show upd s.H p o a = some u
    rw [upd_ne (ne_of_none e' h)]; exact e'
  · have hx : X.H p = none := I.fresh h
    show upd s.g.G p o a = _
    rw [upd_ne (ne_of_none e hx)]; exact I.frz a u e
  · obtain ⟨u', e'⟩ := I.dom a u e
    exact ⟨u', by show upd s.H p o a = _; rw [upd_ne (ne_of_none e' h)]; exact e'⟩
/-- a new thing that is held -/
theorem In.newF (I : In K c X F σ s) (h : s.H p = none) : In K c X ((p, o) :: F) σ ⟨s.g, upd s.H p o, s.e, s.w, s.os⟩ := by
  have hg := I.offG h
  have hn := I.notMu h
  have ne : ∀ a ∈ s.mu F, a ≠ p := fun a ha e => hn (e ▸ ha)
  have hsub : ∀ a ∈ s.g.mu, a ∈ s.mu F := fun a ha => List.mem_append_left _ ha
  have hmu : (⟨s.g, upd s.H p o, s.e, s.w, s.os⟩ : Cf).mu ((p, o) :: F) = s.g.mu ++ (s.os.map (·.2) ++ (p :: F.map (·.1))) := rfl
  have hp : (s.g.mu ++ (s.os.map (·.2) ++ (p :: F.map (·.1)))).Perm (p :: s.mu F) := by
    unfold Cf.mu
    rw [← List.append_assoc, ← List.append_assoc]
    exact List.perm_middle
  have hmem : ∀ a, a ∈ (⟨s.g, upd s.H p o, s.e, s.w, s.os⟩ : Cf).mu ((p, o) :: F) → a = p ∨ a ∈ s.mu F := fun a ha => by
    rw [hmu] at ha
    exact List.mem_cons.mp (hp.mem_iff.mp ha)
  refine ⟨I.wr.mono (Gh.le.refl _) rfl rfl (fun a u e => ?_) (fun a ha => I.wr.off a ha) (fun a ha => upd_ne (ne a (hsub a ha))), ?_, fun a ha => ?_, I.len, fun i z hz => ?_, fun q hq => ?_, fun q hq => ?_, I.le, fun a u e n1 n2 => ?_, I.frz, fun a ha => ?_, fun a u e => ?_⟩
  · have e' := I.wr.sub a u e
    show upd s.H p o a = some u
    rw [upd_ne (ne_of_none e' h)]; exact e'
  · rw [hmu]
    exact hp.nodup_iff.mpr (List.nodup_cons.mpr ⟨hn, I.nd⟩)
  · rcases hmem a ha with rfl | ha
    · exact hg
    · exact I.off a ha
  · refine (I.env i z hz).mono (Gh.le.refl _) (fun q hq => hq) fun q hq => upd_ne (ne _ ?_)
    exact List.mem_append_right _ (List.mem_append_left _ (List.mem_map.mpr ⟨q, hq, rfl⟩))
  · show upd s.H p o q.1 = some q.2
    rcases List.mem_cons.mp hq with rfl | hq
    · exact upd_same
    · rw [upd_ne (ne_of_none (I.held q hq) h)]; exact I.held q hq
  · obtain ⟨u, e⟩ := I.oal q hq
    exact ⟨u, by show upd s.H p o q.2 = _; rw [upd_ne (ne_of_none e h)]; exact e⟩
  · have e' := I.keep a u e n1 n2
    show upd s.H p o a = some u
    rw [upd_ne (ne_of_none e' h)]; exact e'
  · rcases hmem a ha with rfl | ha
    · exact .inr (.inr (I.fresh h))
    · exact I.new a ha
  · obtain ⟨u', e'⟩ := I.dom a u e
    exact ⟨u', by show upd s.H p o a = _; rw [upd_ne (ne_of_none e' h)]; exact e'⟩
theorem mu_cons (s : Cf) (q : Addr × HO) (F : List (Addr × HO)) : (s.mu (q :: F)).Perm (q.1 :: s.mu F) := by
  unfold Cf.mu
  rw [← List.append_assoc, ← List.append_assoc]
  exact List.perm_middle
/-- what is held becomes one that never changes -/
theorem In.frzF (I : In K c X ((p, o) :: F) σ s) (hx : X.H p = none) : In K c X F σ ⟨gUpd s.g p o, s.H, s.e, s.w, s.os⟩ := by
  have hp := mu_cons s (p, o) F
  have hm : ∀ a, a ∈ s.mu F → a ∈ s.mu ((p, o) :: F) := fun a ha => hp.mem_iff.mpr (List.mem_cons_of_mem _ ha)
  have hpm : p ∈ s.mu ((p, o) :: F) := hp.mem_iff.mpr List.mem_cons_self
  have hnd := List.nodup_cons.mp (hp.nodup_iff.mp I.nd)
  have ne : ∀ a ∈ s.mu F, a ≠ p := fun a ha e => hnd.1 (e ▸ ha)
  have hg : s.g.G p = none := I.off p hpm
  have hle := gUpd_le (o := o) hg
  have hsub : ∀ a ∈ s.g.mu, a ∈ s.mu F := fun a ha => List.mem_append_left _ ha
  refine ⟨I.wr.mono hle rfl rfl (fun a u e => ?_) (fun a ha => ?_) (fun _ _ => rfl), hnd.2, fun a ha => ?_, I.len, fun i z hz => ?_, fun q hq => I.held q (List.mem_cons_of_mem _ hq), I.oal, I.le.trans hle, I.keep, fun a u e => ?_, fun a ha => I.new a (hm a ha), I.dom⟩
  · have e : upd s.g.G p o a = some u := e
    by_cases ha : a = p
    · subst ha; rw [upd_same] at e; rw [← e]; exact I.held _ List.mem_cons_self
    · rw [upd_ne ha] at e; exact I.wr.sub a u e
  · show upd s.g.G p o a = none
    rw [upd_ne (ne a (hsub a ha))]; exact I.wr.off a ha
  · show upd s.g.G p o a = none
    rw [upd_ne (ne a ha)]; exact I.off a (hm a ha)
  · exact (I.env i z hz).mono hle (fun q hq => hq) fun _ _ => rfl
  · show upd s.g.G p o a = _
    rw [upd_ne (ne_of_none e hx)]; exact I.frz a u e
theorem set_get {α : Type} {l : List α} {i j : Nat} {x y : α} (h : (l.set i x)[j]? = some y) : (j = i ∧ y = x) ∨ (j ≠ i ∧ l[j]? = some y) := by
  by_cases e : j = i
  · subst e
    have : j < l.length := by
      have := (List.getElem?_eq_some_iff.mp h).1
      rwa [List.length_set] at this
    rw [List.getElem?_set_self this] at h
    exact .inl ⟨rfl, (Option.some.inj h).symm⟩
  · rw [List.getElem?_set_ne (Ne.symm e)] at h
    exact .inr ⟨e, h⟩
theorem set_len {l : L2.St} {e : Env} {i : Nat} {x : Slot} {y : Slot} (hl : e.length = l.length) (h : (e.set i x)[i]? = some y) (v : Option V) : (l.set i v)[i]? = some v := by
  have : i < l.length := by
    have := (List.getElem?_eq_some_iff.mp h).1
    rw [List.length_set] at this; omega
  rw [List.getElem?_set_self this]
/-- a name gets a value -/
theorem In.setV (I : In K c X F σ s) {i : Nat} {v : V} {d : Dat} (h : Rep K c s.g v d) : In K c X F (σ.set i (some v)) ⟨s.g, s.H, s.e.set i (.val d), s.w, s.os⟩ :=
  ⟨I.wr, I.nd, I.off, by simp only [List.length_set]; exact I.len, fun j z hz => by
    rcases set_get hz with ⟨rfl, rfl⟩ | ⟨ne, hz'⟩
    · exact ⟨v, set_len I.len hz _, h⟩
    · rw [List.getElem?_set_ne (Ne.symm ne)]
      exact I.env j z hz', I.held, I.oal, I.le, I.keep, I.frz, I.new, I.dom⟩
/-- a name is forgotten -/
theorem In.setN (I : In K c X F σ s) (i : Nat) : In K c X F σ ⟨s.g, s.H, s.e.set i .no, s.w, s.os⟩ :=
  ⟨I.wr, I.nd, I.off, by show (s.e.set i _).length = _; rw [List.length_set]; exact I.len, fun j z hz => by
    rcases set_get hz with ⟨rfl, rfl⟩ | ⟨ne, hz'⟩
    · trivial
    · exact I.env j z hz', I.held, I.oal, I.le, I.keep, I.frz, I.new, I.dom⟩
/-- a name of which nothing is known may be anything -/
theorem In.setS (I : In K c X F σ s) {i : Nat} (h : s.e[i]? = some .no) (v : Option V) : In K c X F (σ.set i v) s :=
  ⟨I.wr, I.nd, I.off, by rw [List.length_set]; exact I.len, fun j z hz => by
    by_cases e : j = i
    · subst e; rw [h] at hz; cases hz; trivial
    · rw [List.getElem?_set_ne (Ne.symm e)]
      exact I.env j z hz, I.held, I.oal, I.le, I.keep, I.frz, I.new, I.dom⟩
/-- a name gets a list of its own -/
theorem In.setO (I : In K c X ((p, .lst vs) :: F) σ s) {i : Nat} {ds : List Dat} (h : Reps K c s.g vs ds) (hx : X.H p = none) : In K c X F (σ.set i (some (.ref p))) ⟨s.g, s.H, s.e.set i (.own true ds), s.w, (i, p) :: s.os⟩ := by
  have hp := mu_cons s (p, .lst vs) F
  have hmu : (⟨s.g, s.H, s.e.set i (.own true ds), s.w, (i, p) :: s.os⟩ : Cf).mu F = s.g.mu ++ (p :: (s.os.map (·.2) ++ F.map (·.1))) := rfl
  have hp2 : (s.g.mu ++ (p :: (s.os.map (·.2) ++ F.map (·.1)))).Perm (s.mu ((p, .lst vs) :: F)) := (List.perm_middle).trans hp.symm
  refine ⟨I.wr, by rw [hmu]; exact hp2.nodup_iff.mpr I.nd, fun a ha => I.off a (hp2.mem_iff.mp ha), by simp only [List.length_set]; exact I.len, fun j z hz => ?_, fun q hq => I.held q (List.mem_cons_of_mem _ hq), fun q hq => ?_, I.le, I.keep, I.frz, fun a ha => I.new a (hp2.mem_iff.mp ha), I.dom⟩
  · rcases set_get hz with ⟨rfl, rfl⟩ | ⟨ne, hz'⟩
    · exact ⟨p, vs, set_len I.len hz _, List.mem_cons_self, I.held _ List.mem_cons_self, h, fun _ => hx, fun z => nomatch z⟩
    · rw [List.getElem?_set_ne (Ne.symm ne)]
      exact (I.env j z hz').mono (Gh.le.refl _) (fun q hq => List.mem_cons_of_mem _ hq) fun _ _ => rfl
  · rcases List.mem_cons.mp hq with rfl | hq
    · exact ⟨_, I.held _ List.mem_cons_self⟩
    · exact I.oal q hq
theorem os_inj {os : List (Nat × Addr)} (h : (os.map (·.2)).Nodup) {i j : Nat} {a : Addr} (h1 : (i, a) ∈ os) (h2 : (j, a) ∈ os) : i = j := by
  induction os with
  | nil => cases h1
  | cons q os ih =>
    have hn := List.nodup_cons.mp (show (q.2 :: os.map (·.2)).Nodup from h)
    rcases List.mem_cons.mp h1 with rfl | h1
    · rcases List.mem_cons.mp h2 with e | h2
      · exact (congrArg Prod.fst e).symm
      · exact absurd (List.mem_map.mpr ⟨_, h2, rfl⟩) hn.1
    · rcases List.mem_cons.mp h2 with e | h2'
      · refine absurd ?_ hn.1
        rw [← e]
        exact List.mem_map.mpr ⟨(i, a), h1, rfl⟩
      · exact ih hn.2 h1 h2'
theorem In.osNd (I : In K c X F σ s) : (s.os.map (·.2)).Nodup := (List.nodup_append.mp (List.nodup_append.mp I.nd).2.1).1
theorem In.osMu (I : In K c X F σ s) {q : Nat × Addr} (h : q ∈ s.os) : q.2 ∈ s.mu F := List.mem_append_right _ (List.mem_append_left _ (List.mem_map.mpr ⟨q, h, rfl⟩))
theorem In.osG (I : In K c X F σ s) {q : Nat × Addr} (h : q ∈ s.os) : q.2 ∉ s.g.mu := fun z =>
  (List.nodup_append.mp I.nd).2.2 _ z _ (List.mem_append_left _ (List.mem_map.mpr ⟨q, h, rfl⟩)) rfl
/-- a name's own list is changed -/
theorem In.ownPut (I : In K c X F σ s) {i : Nat} {f : Bool} {a : Addr} {vs : List V} {ds : List Dat} (hs : σ[i]? = some (some (.ref a))) (ha : (i, a) ∈ s.os) (h : Reps K c s.g vs ds) (hf : OwnF X f a) : In K c X F σ ⟨s.g, upd s.H a (.lst vs), s.e.set i (.own f ds), s.w, s.os⟩ := by
  have hm := I.osMu ha
  have hg : s.g.G a = none := I.off a hm
  have ng := I.osG ha
  have nF : ∀ q ∈ F, q.1 ≠ a := fun q hq e =>
    (List.nodup_append.mp (List.nodup_append.mp I.nd).2.1).2.2 a (List.mem_map.mpr ⟨_, ha, rfl⟩) q.1 (List.mem_map.mpr ⟨q, hq, rfl⟩) e.symm
  refine ⟨I.wr.mono (Gh.le.refl _) rfl rfl (fun b u e => ?_) (fun b hb => I.wr.off b hb) (fun b hb => upd_ne (fun e => ng (e ▸ hb))), I.nd, I.off, by show (s.e.set i _).length = _; rw [List.length_set]; exact I.len, fun j z hz => ?_, fun q hq => ?_, fun q hq => ?_, I.le, fun b u e n1 n2 => ?_, I.frz, I.new, fun b u e => ?_⟩
  · have e' := I.wr.sub b u e
    show upd s.H a _ b = some u
    rw [upd_ne (fun z => by subst z; rw [hg] at e; cases e)]; exact e'
  · rcases set_get hz with ⟨rfl, rfl⟩ | ⟨ne, hz'⟩
    · exact ⟨a, vs, hs, ha, upd_same, h, hf⟩
    · have h' := I.env j z hz'
      cases z with
      | no => trivial
      | val d => exact h'
      | own f' dl =>
        obtain ⟨b, ws, h1, h2, h3, h4, h5⟩ := h'
        refine ⟨b, ws, h1, h2, ?_, h4, h5⟩
        show upd s.H a _ b = _
        rw [upd_ne (fun (e : b = a) => ne (os_inj I.osNd (by rw [← e]; exact h2) ha))]; exact h3
      | ownT dl dr =>
        obtain ⟨p, b, us, ws, h1, h2, h3, h4, h5, h6, h7⟩ := h'
        refine ⟨p, b, us, ws, h1, h2, h3, h4, ?_, h6, h7⟩
        show upd s.H a _ b = _
        rw [upd_ne (fun (e : b = a) => ne (os_inj I.osNd (by rw [← e]; exact h2) ha))]; exact h5
  · show upd s.H a _ q.1 = _
    rw [upd_ne (nF q hq)]; exact I.held q hq
  · by_cases e : q.2 = a
    · exact ⟨_, by show upd s.H a _ q.2 = _; rw [e]; exact upd_same⟩
    · obtain ⟨u, hu⟩ := I.oal q hq
      exact ⟨u, by show upd s.H a _ q.2 = _; rw [upd_ne e]; exact hu⟩
  · have e' := I.keep b u e n1 n2
    show upd s.H a _ b = some u
    rw [upd_ne (fun z => by
      subst z
      rcases I.new b hm with z | z | z
      · exact n1 z
      · exact n2 z
      · rw [z] at e; cases e)]
    exact e'
  · by_cases z : b = a
    · exact ⟨_, by show upd s.H a _ b = _; rw [z]; exact upd_same⟩
    · obtain ⟨u', e'⟩ := I.dom b u e
      exact ⟨u', by show upd s.H a _ b = _; rw [upd_ne z]; exact e'⟩
/-- what is held is changed -/
theorem In.heldPut {o' : HO} (I : In K c X ((p, o) :: F) σ s) (hx : X.H p = none) : In K c X ((p, o') :: F) σ ⟨s.g, upd s.H p o', s.e, s.w, s.os⟩ := by
  have hpm := mu_cons s (p, o) F
  have hm : p ∈ s.mu ((p, o) :: F) := hpm.mem_iff.mpr List.mem_cons_self
  have hnd := List.nodup_cons.mp (hpm.nodup_iff.mp I.nd)
  have hg : s.g.G p = none := I.off p hm
  have ne : ∀ a ∈ s.mu F, a ≠ p := fun a ha e => hnd.1 (e ▸ ha)
  refine ⟨I.wr.mono (Gh.le.refl _) rfl rfl (fun b u e => ?_) (fun b hb => I.wr.off b hb) (fun b hb => upd_ne (ne b (List.mem_append_left _ hb))), I.nd, I.off, I.len, fun j z hz => (I.env j z hz).mono (Gh.le.refl _) (fun _ h => h) (fun q hq => upd_ne (ne _ (List.mem_append_right _ (List.mem_append_left _ (List.mem_map.mpr ⟨q, hq, rfl⟩))))), fun q hq => ?_, fun q hq => ?_, I.le, fun b u e n1 n2 => ?_, I.frz, I.new, fun b u e => ?_⟩
  · have e' := I.wr.sub b u e
    show upd s.H p _ b = some u
    rw [upd_ne (fun z => by subst z; rw [hg] at e; cases e)]; exact e'
  · show upd s.H p _ q.1 = _
    rcases List.mem_cons.mp hq with rfl | hq
    · exact upd_same
    · rw [upd_ne (ne _ (List.mem_append_right _ (List.mem_append_right _ (List.mem_map.mpr ⟨q, hq, rfl⟩))))]; exact I.held q (List.mem_cons_of_mem _ hq)
  · obtain ⟨u, hu⟩ := I.oal q hq
    exact ⟨u, by show upd s.H p _ q.2 = _; rw [upd_ne (ne _ (List.mem_append_right _ (List.mem_append_left _ (List.mem_map.mpr ⟨q, hq, rfl⟩))))]; exact hu⟩
  · have e' := I.keep b u e n1 n2
    show upd s.H p _ b = some u
    rw [upd_ne (ne_of_none e hx)]; exact e'
  · obtain ⟨u', e'⟩ := I.dom b u e
    exact ⟨u', by show upd s.H p _ b = _; rw [upd_ne (ne_of_none e hx)]; exact e'⟩
/-- behind a call -/
theorem In.call (I : In K c X F σ s) {g' : Gh} {H' : Hp} {w' : Wld} (A : Aft s.g s.H g' H') (W : Wr K c g' H' w') : In K c X F σ ⟨g', H', s.e, w', s.os⟩ := by
  have hk : ∀ a ∈ s.os.map (·.2) ++ F.map (·.1), ∀ o, s.H a = some o → H' a = some o := fun a ha o e => A.keep a o e fun z => (List.nodup_append.mp I.nd).2.2 a z a ha rfl
  have ho : ∀ q ∈ s.os, H' q.2 = s.H q.2 := fun q hq => by
    obtain ⟨o, e⟩ := I.oal q hq
    rw [e]; exact hk _ (List.mem_append_left _ (List.mem_map.mpr ⟨q, hq, rfl⟩)) o e
  have hal : ∀ a ∈ s.os.map (·.2) ++ F.map (·.1), ∃ o, s.H a = some o := fun a ha => I.al (List.mem_append_right _ ha)
  refine ⟨W, ?_, fun a ha => ?_, I.len, fun i z hz => (I.env i z hz).mono A.le (fun q hq => hq) ho, fun q hq => ?_, fun q hq => ?_, I.le.trans A.le, fun a u e n1 n2 => ?_, fun a u e => ?_, fun a ha => ?_, fun a u e => ?_⟩
  · refine List.nodup_append.mpr ⟨W.nd, (List.nodup_append.mp I.nd).2.1, fun x hx y hy e => ?_⟩
    subst e
    rcases A.new x hx with z | z
    · exact (List.nodup_append.mp I.nd).2.2 x z x hy rfl
    · obtain ⟨o, e⟩ := hal x hy
      rw [z] at e; cases e
  · rcases List.mem_append.mp ha with ha | ha
    · exact W.off a ha
    · obtain ⟨o, e⟩ := hal a ha
      show g'.G a = none
      rw [A.frz a o e]
      exact I.off a (List.mem_append_right _ ha)
  · exact hk _ (List.mem_append_right _ (List.mem_map.mpr ⟨q, hq, rfl⟩)) _ (I.held q hq)
  · obtain ⟨o, e⟩ := I.oal q hq
    exact A.dom _ o e
  · refine A.keep a u (I.keep a u e n1 n2) fun z => ?_
    rcases I.new a (List.mem_append_left _ z) with z | z | z
    · exact n1 z
    · exact n2 z
    · rw [z] at e; cases e
  · obtain ⟨u', e'⟩ := I.dom a u e
    show g'.G a = _
    rw [A.frz a u' e', I.frz a u e]
  · rcases List.mem_append.mp ha with ha | ha
    · rcases A.new a ha with z | z
      · exact I.new a (List.mem_append_left _ z)
      · exact .inr (.inr (I.fresh z))
    · exact I.new a (List.mem_append_right _ ha)
  · obtain ⟨u', e'⟩ := I.dom a u e
    exact A.dom a u' e'
end
end Pu

/-! Snd: a reading over the heap follows from what a body means over data. -/
namespace Pu
open PySem L2 Eng
section
variable (K : PySem.W.Frag) (c : Pc)
def SndE (t : TE) (p : PE) : Prop := ∀ (X : En) (F : List (Addr × HO)) (σ : L2.St) (s : Cf) (k : PQ) (Q : VK), In K c X F σ s → p s.e s.w k → (∀ v d s', s.g.le s'.g → In K c X F σ s' → Rep K c s'.g v d → k d s'.e s'.w → Q v s'.H) → t σ s.H Q
def SndF (t : TE) (p : PF) : Prop := ∀ (X : En) (F : List (Addr × HO)) (σ : L2.St) (s : Cf) (k : List Dat → Env → Wld → Prop) (Q : VK), In K c X F σ s → p s.e s.w k → (∀ a vs ds s', s.g.le s'.g → X.H a = none → In K c X ((a, .lst vs) :: F) σ s' → Reps K c s'.g vs ds → k ds s'.e s'.w → Q (.ref a) s'.H) → t σ s.H Q
def SndT (t : TT) (p : PT) : Prop := ∀ (X : En) (F : List (Addr × HO)) (σ : L2.St) (s : Cf) (k : Bool → Env → Wld → Prop) (Q : Bool → Hp → Prop), In K c X F σ s → p s.e s.w k → (∀ b s', s.g.le s'.g → In K c X F σ s' → k b s'.e s'.w → Q b s'.H) → t σ s.H Q
def SndA (t : TA) (p : PA) : Prop := ∀ (X : En) (F : List (Addr × HO)) (σ : L2.St) (s : Cf) (k : List Dat → Env → Wld → Prop) (Q : List V → Hp → Prop), In K c X F σ s → p s.e s.w k → (∀ vs ds s', s.g.le s'.g → In K c X F σ s' → Reps K c s'.g vs ds → k ds s'.e s'.w → Q vs s'.H) → t σ s.H Q
def SndO (t : TO) (p : PO) : Prop := ∀ (X : En) (F : List (Addr × HO)) (σ : L2.St) (s : Cf) (k : Option Int → Env → Wld → Prop) (Q : Option Int → Hp → Prop), In K c X F σ s → p s.e s.w k → (∀ b s', s.g.le s'.g → In K c X F σ s' → k b s'.e s'.w → Q b s'.H) → t σ s.H Q
def SndG (t : TG) (p : PG) : Prop := ∀ (X : En) (F : List (Addr × HO)) (σ : L2.St) (s : Cf) (v : V) (d : Dat) (k : Env → Wld → Prop) (Q : L2.St → Hp → Prop), In K c X F σ s → Rep K c s.g v d → p d s.e s.w k → (∀ σ' s', s.g.le s'.g → In K c X F σ' s' → k s'.e s'.w → Q σ' s'.H) → t v σ s.H Q
structure SEnds (X : En) (F : List (Addr × HO)) (g : Gh) (D : Ends) (Dp : PEnds) : Prop where
  nx : ∀ σ s, g.le s.g → In K c X F σ s → Dp.nx s.e s.w → D.nx σ s.H
  rt : ∀ σ s v d, g.le s.g → In K c X F σ s → Rep K c s.g v d → Dp.rt d s.e s.w → D.rt v s.H
  bk : ∀ σ s, g.le s.g → In K c X F σ s → Dp.bk s.e s.w → D.bk σ s.H
  ct : ∀ σ s, g.le s.g → In K c X F σ s → Dp.ct s.e s.w → D.ct σ s.H
def SndS (t : TS) (p : PS) : Prop := ∀ (X : En) (F : List (Addr × HO)) (σ : L2.St) (s : Cf) (D : Ends) (Dp : PEnds), In K c X F σ s → p Dp s.e s.w → SEnds K c X F s.g D Dp → t D σ s.H
/-- an operand: data, or a list that a name holds -/
def RepW (s : Cf) (v : V) (d : Dat) : Prop := Rep K c s.g v d ∨ ∃ a vs ds, v = .ref a ∧ d = .lst ds ∧ s.H a = some (.lst vs) ∧ Reps K c s.g vs ds
def SndR2 (r : R2) (q : Q2) : Prop := ∀ (X : En) (F : List (Addr × HO)) (σ : L2.St) (s : Cf) (x y : V) (dx dy : Dat) (k : Dat → Prop) (Q : VK), In K c X F σ s → RepW K c s x dx → RepW K c s y dy → q dx dy k → (∀ v d s', s.g.le s'.g → In K c X F σ s' → s'.e = s.e → s'.w = s.w → Rep K c s'.g v d → k d → Q v s'.H) → r x y s.H Q
def SndR2F (r : R2) (q : Dat → Dat → (List Dat → Prop) → Prop) : Prop := ∀ (X : En) (F : List (Addr × HO)) (σ : L2.St) (s : Cf) (x y : V) (dx dy : Dat) (k : List Dat → Prop) (Q : VK), In K c X F σ s → RepW K c s x dx → RepW K c s y dy → q dx dy k → (∀ a vs ds s', s.g.le s'.g → X.H a = none → In K c X ((a, .lst vs) :: F) σ s' → s'.e = s.e → s'.w = s.w → Reps K c s'.g vs ds → k ds → Q (.ref a) s'.H) → r x y s.H Q
def SndRL (r : List V → Hp → VK → Prop) (q : QL) : Prop := ∀ (X : En) (F : List (Addr × HO)) (σ : L2.St) (s : Cf) (vs : List V) (ds : List Dat) (k : Dat → Prop) (Q : VK), In K c X F σ s → Paired (RepW K c s) vs ds → q ds k → (∀ v d s', s.g.le s'.g → In K c X F σ s' → s'.e = s.e → s'.w = s.w → Rep K c s'.g v d → k d → Q v s'.H) → r vs s.H Q
def SndRLF (r : List V → Hp → VK → Prop) (q : List Dat → (List Dat → Prop) → Prop) : Prop := ∀ (X : En) (F : List (Addr × HO)) (σ : L2.St) (s : Cf) (vs : List V) (ds : List Dat) (k : List Dat → Prop) (Q : VK), In K c X F σ s → Paired (RepW K c s) vs ds → q ds k → (∀ a vs ds s', s.g.le s'.g → X.H a = none → In K c X ((a, .lst vs) :: F) σ s' → s'.e = s.e → s'.w = s.w → Reps K c s'.g vs ds → k ds → Q (.ref a) s'.H) → r vs s.H Q
end
section
variable {K : PySem.W.Frag} {c : Pc} {X : En} {F : List (Addr × HO)} {σ : L2.St} {s : Cf} {ta tb tc te : TE} {pa pb pc' pe : PE} {tT tU : TT} {pT pU : PT} {tr : TA} {pr : PA} {ts tu : TS} {ps pu : PS} {r r' : R2} {q q' : Q2} {P : PSp} {sp : Sp} {E : XK} {i : Nat}
theorem RepW.int {v : V} {n : Int} (h : RepW K c s v (.int n)) : v = .int n := by
  rcases h with h | ⟨_, _, _, _, e, _⟩
  · exact h.intI
  · cases e
theorem RepW.bl {v : V} {n : Bool} (h : RepW K c s v (.bl n)) : v = .bl n := by
  rcases h with h | ⟨_, _, _, _, e, _⟩
  · exact h.blI
  · cases e
theorem RepW.str {v : V} {n : Str} (h : RepW K c s v (.str n)) : v = .str n := by
  rcases h with h | ⟨_, _, _, _, e, _⟩
  · exact h.strI
  · cases e
theorem RepW.non {v : V} (h : RepW K c s v .non) : v = .non := by
  rcases h with h | ⟨_, _, _, _, e, _⟩
  · exact h.nonI
  · cases e
theorem RepW.lst {v : V} {ds : List Dat} (h : RepW K c s v (.lst ds)) (I : In K c X F σ s) : ∃ a vs, v = .ref a ∧ s.H a = some (.lst vs) ∧ Reps K c s.g vs ds := by
  rcases h with h | ⟨a, vs, ds', e, e2, h1, h2⟩
  · cases h with
    | lst h1 h2 => exact ⟨_, _, rfl, I.wr.sub _ _ h1, h2⟩
  · cases e2
    exact ⟨a, vs, e, h1, h2⟩
theorem RepW.cst {v : V} {ds : List Dat} (h : RepW K c s v (.cst ds)) (I : In K c X F σ s) : ∃ a vs, v = .ref a ∧ SqL K s.H a vs ∧ Reps K c s.g vs ds := by
  rcases h with h | ⟨a, vs, ds', e, e2, h1, h2⟩
  · cases h with
    | cst h1 h2 => exact ⟨_, _, rfl, sqL_mono I.wr.sub h1, h2⟩
  · cases e2
theorem RepW.tup {v : V} {ds : List Dat} (h : RepW K c s v (.tup ds)) (I : In K c X F σ s) : ∃ a vs, v = .ref a ∧ SqT K s.H a vs ∧ Reps K c s.g vs ds := by
  rcases h with h | ⟨a, vs, ds', e, e2, h1, h2⟩
  · cases h with
    | tup h1 h2 => exact ⟨_, _, rfl, SqT.of (I.wr.sub _ _ h1), h2⟩
  · cases e2
theorem RepW.big {v : V} {b : Nat} {n : Int} (h : RepW K c s v (.big b n)) (I : In K c X F σ s) : ∃ a, v = .ref a ∧ BigAt c s.H a b n := by
  rcases h with h | ⟨a, vs, ds', e, e2, h1, h2⟩
  · cases h with
    | big h1 => exact ⟨_, rfl, bigAt_mono I.wr.sub h1⟩
  · cases e2
/-! ### values -/
theorem snd_var : SndE K c (tVar i) (pVar i) := by
  intro X F σ s k Q I h hQ
  unfold pVar at h
  cases e : s.e[i]? with
  | none => rw [e] at h; exact h.elim
  | some z =>
    rw [e] at h
    cases z with
    | no => exact h.elim
    | own f l => exact h.elim
    | ownT l r => exact h.elim
    | val d =>
      obtain ⟨v, h1, h2⟩ := I.env i _ e
      exact ⟨v, h1, hQ v d s (Gh.le.refl _) I h2 h⟩
theorem snd_c {v : V} {d : Dat} (h : ∀ g : Gh, Rep K c g v d) : SndE K c (tC v) (pC d) := fun X F σ s k Q I hp hQ => hQ v d s (Gh.le.refl _) I (h s.g) hp
theorem snd_int (n : Int) : SndE K c (tC (.int n)) (pC (.int n)) := snd_c fun _ => .int n
theorem snd_str (n : Str) : SndE K c (tC (.str n)) (pC (.str n)) := snd_c fun _ => .str n
theorem snd_bl (n : Bool) : SndE K c (tC (.bl n)) (pC (.bl n)) := snd_c fun _ => .bl n
theorem snd_non : SndE K c (tC .non) (pC .non) := snd_c fun _ => .non
theorem snd_opq (v : V) : SndE K c (tC v) (pC (.opq v)) := snd_c fun _ => .opq v
theorem snd_op (hr : SndR2 K c r q) (ha : SndE K c ta pa) (hb : SndE K c tb pb) : SndE K c (tOp r ta tb) (pOp q pa pb) := by
  intro X F σ s k Q I h hQ
  refine ha X F σ s _ _ I h fun x dx s1 l1 I1 r1 h1 => ?_
  refine hb X F σ s1 _ _ I1 h1 fun y dy s2 l2 I2 r2 h2 => ?_
  refine hr X F σ s2 x y dx dy _ _ I2 (.inl (r1.mono l2)) (.inl r2) h2 fun v d s3 l3 I3 e3 w3 r3 h3 => ?_
  refine hQ v d s3 ((l1.trans l2).trans l3) I3 r3 ?_
  rw [e3, w3]; exact h3
theorem snd_opF {q : Dat → Dat → (List Dat → Prop) → Prop} (hr : SndR2F K c r q) (ha : SndE K c ta pa) (hb : SndE K c tb pb) : SndF K c (tOp r ta tb) (pOpF q pa pb) := by
  intro X F σ s k Q I h hQ
  refine ha X F σ s _ _ I h fun x dx s1 l1 I1 r1 h1 => ?_
  refine hb X F σ s1 _ _ I1 h1 fun y dy s2 l2 I2 r2 h2 => ?_
  refine hr X F σ s2 x y dx dy _ _ I2 (.inl (r1.mono l2)) (.inl r2) h2 fun a vs ds s3 l3 hx I3 e3 w3 r3 h3 => ?_
  refine hQ a vs ds s3 ((l1.trans l2).trans l3) hx I3 r3 ?_
  rw [e3, w3]; exact h3
theorem ownAt_of {e : Env} {i : Nat} {k : Bool → List Dat → Prop} (h : ownAt e i k) : ∃ f l, e[i]? = some (.own f l) ∧ k f l := by
  unfold ownAt at h
  cases z : e[i]? with
  | none => rw [z] at h; exact h.elim
  | some y =>
    rw [z] at h
    cases y with
    | no => exact h.elim
    | val d => exact h.elim
    | ownT l r => exact h.elim
    | own f l => exact ⟨f, l, rfl, h⟩
theorem In.own (I : In K c X F σ s) {f : Bool} {l : List Dat} (h : s.e[i]? = some (.own f l)) : ∃ a vs, σ[i]? = some (some (.ref a)) ∧ (i, a) ∈ s.os ∧ s.H a = some (.lst vs) ∧ Reps K c s.g vs l ∧ OwnF X f a := I.env i _ h
/-- a name's own list as the left operand -/
theorem snd_opO (hr : SndR2 K c r q) (hb : SndE K c tb pb) : SndE K c (tOp r (tVar i) tb) (pOpO q i pb) := by
  intro X F σ s k Q I h hQ
  obtain ⟨f0, l0, e0, h⟩ := ownAt_of h
  obtain ⟨a, vs0, hs, _, _, _, _⟩ := I.own e0
  refine ⟨.ref a, hs, hb X F σ s _ _ I h fun y dy s2 l2 I2 r2 h2 => ?_⟩
  obtain ⟨f, l, e1, h2⟩ := ownAt_of h2
  obtain ⟨a', vs, hs', _, hH, hR, _⟩ := I2.own e1
  rw [hs] at hs'; cases hs'
  refine hr X F σ s2 (.ref a) y (.lst l) dy _ _ I2 (.inr ⟨a, vs, l, rfl, rfl, hH, hR⟩) (.inl r2) h2 fun v d s3 l3 I3 e3 w3 r3 h3 => ?_
  refine hQ v d s3 (l2.trans l3) I3 r3 ?_
  rw [e3, w3]; exact h3
theorem snd_un {ru : V → Hp → VK → Prop} {q : Q1} (hr : ∀ (s : Cf) x d, Rep K c s.g x d → ∀ (k : Dat → Prop) (Q : VK), q d k → (∀ v d', Rep K c s.g v d' → k d' → Q v s.H) → ru x s.H Q) (ha : SndE K c ta pa) : SndE K c (tUn ru ta) (pUn q pa) := by
  intro X F σ s k Q I h hQ
  refine ha X F σ s _ _ I h fun x dx s1 l1 I1 r1 h1 => ?_
  exact hr s1 x dx r1 _ _ h1 fun v d' r2 h2 => hQ v d' s1 l1 I1 r2 h2
theorem isB_of {d : Dat} {k : Bool → Prop} (h : isB d k) : ∃ b, d = .bl b ∧ k b := by
  cases d with
  | bl b => exact ⟨b, rfl, h⟩
  | _ => exact h.elim
theorem snd_test (ha : SndE K c ta pa) : SndT K c (tTest ta) (pTest pa) := by
  intro X F σ s k Q I h hQ
  refine ha X F σ s _ _ I h fun x dx s1 l1 I1 r1 h1 => ?_
  replace h1 := isB_of h1
  obtain ⟨b, rfl, h1⟩ := h1
  exact ⟨b, r1.blI, hQ b s1 l1 I1 h1⟩
theorem snd_tB (ha : SndE K c ta pa) : SndT K c (L2.tB ta) (pTest pa) := snd_test ha
theorem snd_not (ha : SndT K c tT pT) : SndT K c (tNot tT) (pNot pT) := fun X F σ s k Q I h hQ => ha X F σ s _ _ I h fun b s1 l1 I1 h1 => hQ _ s1 l1 I1 h1
theorem snd_and (ha : SndT K c tT pT) (hb : SndT K c tU pU) : SndT K c (tAnd tT tU) (pAnd pT pU) := by
  intro X F σ s k Q I h hQ
  refine ha X F σ s _ _ I h fun b s1 l1 I1 h1 => ?_
  by_cases hb' : b = true
  · rw [if_pos hb'] at h1 ⊢
    exact hb X F σ s1 _ _ I1 h1 fun b s2 l2 I2 h2 => hQ b s2 (l1.trans l2) I2 h2
  · rw [if_neg hb'] at h1 ⊢
    exact hQ _ s1 l1 I1 h1
theorem snd_or (ha : SndT K c tT pT) (hb : SndT K c tU pU) : SndT K c (tOr tT tU) (pOr pT pU) := by
  intro X F σ s k Q I h hQ
  refine ha X F σ s _ _ I h fun b s1 l1 I1 h1 => ?_
  by_cases hb' : b = true
  · rw [if_pos hb'] at h1 ⊢
    exact hQ _ s1 l1 I1 h1
  · rw [if_neg hb'] at h1 ⊢
    exact hb X F σ s1 _ _ I1 h1 fun b s2 l2 I2 h2 => hQ b s2 (l1.trans l2) I2 h2
theorem snd_andV (ha : SndE K c ta pa) (hb : SndE K c tb pb) : SndE K c (tAndV ta tb) (pAndV pa pb) := by
  intro X F σ s k Q I h hQ
  refine ha X F σ s _ _ I h fun x dx s1 l1 I1 r1 h1 => ?_
  replace h1 := isB_of h1
  obtain ⟨b, rfl, h1⟩ := h1
  refine ⟨b, r1.blI, ?_⟩
  by_cases hb' : b = true
  · rw [if_pos hb'] at h1 ⊢
    exact hb X F σ s1 _ _ I1 h1 fun v d s2 l2 I2 r2 h2 => hQ v d s2 (l1.trans l2) I2 r2 h2
  · rw [if_neg hb'] at h1 ⊢
    exact hQ _ _ s1 l1 I1 (.bl _) h1
theorem snd_orV (ha : SndE K c ta pa) (hb : SndE K c tb pb) : SndE K c (tOrV ta tb) (pOrV pa pb) := by
  intro X F σ s k Q I h hQ
  refine ha X F σ s _ _ I h fun x dx s1 l1 I1 r1 h1 => ?_
  replace h1 := isB_of h1
  obtain ⟨b, rfl, h1⟩ := h1
  refine ⟨b, r1.blI, ?_⟩
  by_cases hb' : b = true
  · rw [if_pos hb'] at h1 ⊢
    exact hQ _ _ s1 l1 I1 (.bl _) h1
  · rw [if_neg hb'] at h1 ⊢
    exact hb X F σ s1 _ _ I1 h1 fun v d s2 l2 I2 r2 h2 => hQ v d s2 (l1.trans l2) I2 r2 h2
theorem snd_notV (ha : SndE K c ta pa) : SndE K c (tNotV ta) (pNotV pa) := by
  intro X F σ s k Q I h hQ
  refine ha X F σ s _ _ I h fun x dx s1 l1 I1 r1 h1 => ?_
  replace h1 := isB_of h1
  obtain ⟨b, rfl, h1⟩ := h1
  exact ⟨b, r1.blI, hQ _ _ s1 l1 I1 (.bl _) h1⟩
theorem snd_if (hc : SndT K c tT pT) (ha : SndE K c ta pa) (hb : SndE K c tb pb) : SndE K c (tIf tT ta tb) (pIf pT pa pb) := by
  intro X F σ s k Q I h hQ
  refine hc X F σ s _ _ I h fun b s1 l1 I1 h1 => ?_
  by_cases hb' : b = true
  · rw [if_pos hb'] at h1 ⊢
    exact ha X F σ s1 _ _ I1 h1 fun v d s2 l2 I2 r2 h2 => hQ v d s2 (l1.trans l2) I2 r2 h2
  · rw [if_neg hb'] at h1 ⊢
    exact hb X F σ s1 _ _ I1 h1 fun v d s2 l2 I2 r2 h2 => hQ v d s2 (l1.trans l2) I2 r2 h2
theorem snd_chain (hr : SndR2 K c r q) (hr' : SndR2 K c r' q') (ha : SndE K c ta pa) (hb : SndE K c tb pb) (hc : SndE K c tc pc') : SndE K c (tChain r r' ta tb tc) (pChain q q' pa pb pc') := by
  intro X F σ s k Q I h hQ
  refine ha X F σ s _ _ I h fun x dx s1 l1 I1 r1 h1 => ?_
  refine hb X F σ s1 _ _ I1 h1 fun y dy s2 l2 I2 r2 h2 => ?_
  refine hr X F σ s2 x y dx dy _ _ I2 (.inl (r1.mono l2)) (.inl r2) h2 fun v d s3 l3 I3 e3 w3 r3 h3 => ?_
  replace h3 := isB_of h3
  obtain ⟨b, rfl, h3⟩ := h3
  refine ⟨b, r3.blI, ?_⟩
  by_cases hb' : b = true
  · rw [if_pos hb'] at h3 ⊢
    rw [← e3, ← w3] at h3
    refine hc X F σ s3 _ _ I3 h3 fun z dz s4 l4 I4 r4 h4 => ?_
    refine hr' X F σ s4 y z dy dz _ _ I4 (.inl ((r2.mono l3).mono l4)) (.inl r4) h4 fun v d s5 l5 I5 e5 w5 r5 h5 => ?_
    refine hQ v d s5 ((((l1.trans l2).trans l3).trans l4).trans l5) I5 r5 ?_
    rw [e5, w5]; exact h5
  · rw [if_neg hb'] at h3 ⊢
    refine hQ _ _ s3 ((l1.trans l2).trans l3) I3 (.bl _) ?_
    rw [e3, w3]; exact h3
/-! ### arguments, calls -/
theorem snd_nil : SndA K c tNil pNil := fun X F σ s k Q I h hQ => hQ [] [] s (Gh.le.refl _) I .nil h
theorem snd_cons (ha : SndE K c ta pa) (hr : SndA K c tr pr) : SndA K c (tCons ta tr) (pCons pa pr) := by
  intro X F σ s k Q I h hQ
  refine ha X F σ s _ _ I h fun x dx s1 l1 I1 r1 h1 => ?_
  refine hr X F σ s1 _ _ I1 h1 fun vs ds s2 l2 I2 r2 h2 => ?_
  exact hQ _ _ s2 (l1.trans l2) I2 (.cons (r1.mono l2) r2) h2
theorem snd_call (hp : SndP K c sp P) (hr : SndA K c tr pr) : SndE K c (tCall sp [] E tr) (pCall P pr) := by
  intro X F σ s k Q I h hQ
  refine hr X F σ s _ _ I h fun vs ds s1 l1 I1 r1 h1 => ?_
  rw [List.append_nil]
  refine hp s1.g s1.H s1.w vs ds _ _ E I1.wr r1 h1 fun v d g' H' w' A W r2 h2 => ?_
  exact hQ v d ⟨g', H', s1.e, w', s1.os⟩ (l1.trans A.le) (I1.call A W) r2 h2
theorem snd_callD {dv : List V} {dd : List Dat} (hp : SndP K c sp P) (hd : ∀ g : Gh, Reps K c g dv dd) (hr : SndA K c tr pr) : SndE K c (tCall sp dv E tr) (pCallD P dd pr) := by
  intro X F σ s k Q I h hQ
  refine hr X F σ s _ _ I h fun vs ds s1 l1 I1 r1 h1 => ?_
  refine hp s1.g s1.H s1.w _ _ _ _ E I1.wr (r1.app (hd _)) h1 fun v d g' H' w' A W r2 h2 => ?_
  exact hQ v d ⟨g', H', s1.e, w', s1.os⟩ (l1.trans A.le) (I1.call A W) r2 h2
theorem reps_getD {g : Gh} {vs : List V} {ds : List Dat} (h : Reps K c g vs ds) (i : Nat) : Rep K c g (vs.getD i .non) (ds.getD i .non) := by
  rw [List.getD_eq_getElem?_getD, List.getD_eq_getElem?_getD]
  cases e : ds[i]? with
  | none =>
    have : vs[i]? = none := List.getElem?_eq_none_iff.mpr (by rw [h.length]; exact List.getElem?_eq_none_iff.mp e)
    rw [this]; exact .non
  | some d =>
    obtain ⟨v, e2, r⟩ := h.get e
    rw [e2]; exact r
theorem reps_perm {g : Gh} {vs : List V} {ds : List Dat} (h : Reps K c g vs ds) : ∀ (ix : List Nat), Reps K c g (perm ix vs) (ix.map fun i => ds.getD i .non)
  | [] => .nil
  | i :: ix => .cons (reps_getD h i) (reps_perm h ix)
theorem snd_kw {n : Nat} {ix : List Nat} (hp : SndP K c sp P) (hr : SndA K c tr pr) : SndE K c (tKw n sp (perm ix) E tr) (pKw n P ix pr) := by
  intro X F σ s k Q I h hQ
  refine hr X F σ s _ _ I h fun vs ds s1 l1 I1 r1 h1 => ?_
  refine ⟨r1.length.trans h1.1, ?_⟩
  refine hp s1.g s1.H s1.w _ _ _ _ E I1.wr (reps_perm r1 ix) h1.2 fun v d g' H' w' A W r2 h2 => ?_
  exact hQ v d ⟨g', H', s1.e, w', s1.os⟩ (l1.trans A.le) (I1.call A W) r2 h2
/-- a method of a machine -/
def onMach (P : PSp) : PSp := fun ds w k => match ds with | .mach _ :: _ => P ds w k | _ => False
def onBig (P : PSp) : PSp := fun ds w k => match ds with | .big _ _ :: _ => P ds w k | _ => False
def pMethM (P : PSp) (a : PE) (r : PA) : PE := fun e w k => a e w fun x e w => match x with | .mach i => r e w fun ds e w => P (.mach i :: ds) w fun d w => k d e w | _ => False
def pMethB (P : PSp) (a : PE) (r : PA) : PE := fun e w k => a e w fun x e w => match x with | .big b n => r e w fun ds e w => P (.big b n :: ds) w fun d w => k d e w | _ => False
theorem Wr.ins {g : Gh} {H : Hp} {w : Wld} (W : Wr K c g H w) {i : Nat} {v : V} (h : Rep K c g v (.mach i)) : ∃ q m dx, g.ms[i]? = some q ∧ w.ms[i]? = some m ∧ v = .ref q.1 ∧ H q.1 = some (.ins c.CMachine dx (mF m.b m.cut q.2.1 q.2.2)) ∧ MRep K c g H q m := by
  cases h with
  | mach h =>
    rename_i q
    have hl : i < w.ms.length := by rw [← W.mlen]; exact (List.getElem?_eq_some_iff.mp h).1
    have hm := W.mach i q _ h (List.getElem?_eq_getElem hl)
    obtain ⟨dx, e⟩ := hm.ins
    exact ⟨q, _, dx, h, List.getElem?_eq_getElem hl, rfl, W.sub _ _ e, hm⟩
theorem snd_methM {f : Str} (hf : (f == "entered" || f == "counts" || f == "base" || f == "limit_of_rows" || f == "width") = false) (hp : SndP K c sp P) (ha : SndE K c ta pa) (hr : SndA K c tr pr) : SndE K c (tMeth c.CMachine f sp [] E ta tr) (pMethM P pa pr) := by
  intro X F σ s k Q I h hQ
  refine ha X F σ s _ _ I h fun x dx s1 l1 I1 r1 h1 => ?_
  cases dx with
  | mach i =>
    obtain ⟨q, m, dx, _, _, e, hi, _⟩ := I1.wr.ins r1
    subst e
    refine ⟨q.1, dx, _, rfl, hi, mF_meth' hf, ?_⟩
    refine hr X F σ s1 _ _ I1 h1 fun vs ds s2 l2 I2 r2 h2 => ?_
    rw [List.append_nil]
    refine hp s2.g s2.H s2.w _ _ _ _ E I2.wr (.cons (r1.mono l2) r2) h2 fun v d g' H' w' A W r3 h3 => ?_
    exact hQ v d ⟨g', H', s2.e, w', s2.os⟩ ((l1.trans l2).trans A.le) (I2.call A W) r3 h3
  | _ => exact h1.elim
theorem snd_methB {f : Str} (hf : (f == "row" || f == "side" || f == "width") = false) (hp : SndP K c sp P) (ha : SndE K c ta pa) (hr : SndA K c tr pr) : SndE K c (tMeth c.CBig f sp [] E ta tr) (pMethB P pa pr) := by
  intro X F σ s k Q I h hQ
  refine ha X F σ s _ _ I h fun x dx s1 l1 I1 r1 h1 => ?_
  cases dx with
  | big b n =>
    obtain ⟨x', e, hb⟩ := RepW.big (.inl r1) I1
    subst e
    obtain ⟨dx, r, hi, _⟩ := hb.at_
    refine ⟨x', dx, _, rfl, hi, bF_meth' hf, ?_⟩
    refine hr X F σ s1 _ _ I1 h1 fun vs ds s2 l2 I2 r2 h2 => ?_
    rw [List.append_nil]
    refine hp s2.g s2.H s2.w _ _ _ _ E I2.wr (.cons (r1.mono l2) r2) h2 fun v d g' H' w' A W r3 h3 => ?_
    exact hQ v d ⟨g', H', s2.e, w', s2.os⟩ ((l1.trans l2).trans A.le) (I2.call A W) r3 h3
  | _ => exact h1.elim
theorem snd_tup (hr : SndA K c tr pr) : SndE K c (tTup tr) (pTup pr) := by
  intro X F σ s k Q I h hQ
  refine hr X F σ s _ _ I h fun vs ds s1 l1 I1 r1 h1 => ?_
  refine ⟨by rw [r1.length]; exact h1.1, fun p hp => ?_⟩
  have hg := I1.offG hp
  have le := gUpd_le (o := .tup vs) hg
  exact hQ _ _ ⟨gUpd s1.g p (.tup vs), upd s1.H p (.tup vs), s1.e, s1.w, s1.os⟩ (l1.trans le) (I1.newG hp) (.tup (show upd s1.g.G p _ p = _ from upd_same) (r1.mono le)) h1.2
theorem snd_lst (hr : SndA K c tr pr) : SndF K c (tLst tr) (pLst pr) := by
  intro X F σ s k Q I h hQ
  refine hr X F σ s _ _ I h fun vs ds s1 l1 I1 r1 h1 => ?_
  refine ⟨by rw [r1.length]; exact h1.1, fun p hp => ?_⟩
  exact hQ p vs ds ⟨s1.g, upd s1.H p (.lst vs), s1.e, s1.w, s1.os⟩ l1 (I1.fresh hp) (I1.newF hp) r1 h1.2
theorem snd_fz {pf : PF} (ha : SndF K c ta pf) : SndE K c ta (pFz pf) := by
  intro X F σ s k Q I h hQ
  refine ha X F σ s _ _ I h fun a vs ds s1 l1 hx I1 r1 h1 => ?_
  have hm : a ∈ s1.mu ((a, .lst vs) :: F) := (mu_cons s1 (a, .lst vs) F).mem_iff.mpr List.mem_cons_self
  have le := gUpd_le (o := .lst vs) (I1.off a hm)
  exact hQ _ _ ⟨gUpd s1.g a (.lst vs), s1.H, s1.e, s1.w, s1.os⟩ (l1.trans le) (I1.frzF hx) (.lst (show upd s1.g.G a _ a = _ from upd_same) (r1.mono le)) h1
theorem pairW {s : Cf} : ∀ {vs : List V} {ds : List Dat}, Reps K c s.g vs ds → Paired (RepW K c s) vs ds
  | _, _, .nil => .nil
  | _, _, .cons h t => .cons (.inl h) (pairW t)
theorem snd_cb {rl : List V → Hp → VK → Prop} {ql : QL} (h' : SndRL K c rl ql) (hr : SndA K c tr pr) : SndE K c (tCB rl tr) (pCB ql pr) := by
  intro X F σ s k Q I h hQ
  refine hr X F σ s _ _ I h fun vs ds s1 l1 I1 r1 h1 => ?_
  refine h' X F σ s1 vs ds _ _ I1 (pairW r1) h1 fun v d s2 l2 I2 e2 w2 r2 h2 => ?_
  refine hQ v d s2 (l1.trans l2) I2 r2 ?_
  rw [e2, w2]; exact h2
theorem snd_cbF {rl : List V → Hp → VK → Prop} {ql : List Dat → (List Dat → Prop) → Prop} (h' : SndRLF K c rl ql) (hr : SndA K c tr pr) : SndF K c (tCB rl tr) (pCBF ql pr) := by
  intro X F σ s k Q I h hQ
  refine hr X F σ s _ _ I h fun vs ds s1 l1 I1 r1 h1 => ?_
  refine h' X F σ s1 vs ds _ _ I1 (pairW r1) h1 fun a vs ds s2 l2 hx I2 e2 w2 r2 h2 => ?_
  refine hQ a vs ds s2 (l1.trans l2) hx I2 r2 ?_
  rw [e2, w2]; exact h2
theorem snd_cbO {rl : List V → Hp → VK → Prop} {ql : QL} (h' : SndRL K c rl ql) : SndE K c (tCB rl (tCons (tVar i) tNil)) (pCBO ql i) := by
  intro X F σ s k Q I h hQ
  obtain ⟨f, l, e, h⟩ := ownAt_of h
  obtain ⟨a, vs, hs, _, hH, hR, _⟩ := I.own e
  refine ⟨.ref a, hs, ?_⟩
  refine h' X F σ s [.ref a] [.lst l] _ _ I (.cons (.inr ⟨a, vs, l, rfl, rfl, hH, hR⟩) .nil) h fun v d s2 l2 I2 e2 w2 r2 h2 => ?_
  refine hQ v d s2 l2 I2 r2 ?_
  rw [e2, w2]; exact h2
/-! ### statements -/
theorem SEnds.mono {D : Ends} {Dp : PEnds} {g g' : Gh} (h : SEnds K c X F g D Dp) (le : g.le g') : SEnds K c X F g' D Dp :=
  ⟨fun σ s l => h.nx σ s (le.trans l), fun σ s v d l => h.rt σ s v d (le.trans l), fun σ s l => h.bk σ s (le.trans l), fun σ s l => h.ct σ s (le.trans l)⟩
theorem snd_seq (ha : SndS K c ts ps) (hb : SndS K c tu pu) : SndS K c (tSeq ts tu) (pSeq ps pu) := by
  intro X F σ s D Dp I h hE
  exact ha X F σ s _ _ I h ⟨fun σ' s' l I' h' => hb X F σ' s' D Dp I' h' (hE.mono l), hE.rt, hE.bk, hE.ct⟩
theorem snd_next : SndS K c tNext pNext := fun X F σ s D Dp I h hE => hE.nx σ s (Gh.le.refl _) I h
theorem snd_break : SndS K c tBreak pBreak := fun X F σ s D Dp I h hE => hE.bk σ s (Gh.le.refl _) I h
theorem snd_cont : SndS K c tCont pCont := fun X F σ s D Dp I h hE => hE.ct σ s (Gh.le.refl _) I h
theorem snd_never : SndS K c tNever pNever := fun X F σ s D Dp I h hE => h
theorem snd_asg (ha : SndE K c ta pa) : SndS K c (tAsg ta (gName i)) (pAsg pa i) := by
  intro X F σ s D Dp I h hE
  refine ha X F σ s _ _ I h fun x dx s1 l1 I1 r1 h1 => ?_
  exact hE.nx _ ⟨s1.g, s1.H, s1.e.set i (.val dx), s1.w, s1.os⟩ l1 (I1.setV r1) h1
theorem snd_asgO {pf : PF} (ha : SndF K c ta pf) : SndS K c (tAsg ta (gName i)) (pAsgO pf i) := by
  intro X F σ s D Dp I h hE
  refine ha X F σ s _ _ I h fun a vs ds s1 l1 hx I1 r1 h1 => ?_
  exact hE.nx _ ⟨s1.g, s1.H, s1.e.set i (.own true ds), s1.w, (i, a) :: s1.os⟩ l1 (I1.setO r1 hx) h1
theorem snd_asgG {tg : TG} {pg : PG} (ha : SndE K c ta pa) (hg : SndG K c tg pg) : SndS K c (tAsg ta tg) (pAsgG pa pg) := by
  intro X F σ s D Dp I h hE
  refine ha X F σ s _ _ I h fun x dx s1 l1 I1 r1 h1 => ?_
  exact hg X F σ s1 x dx _ _ I1 r1 h1 fun σ' s' l' I' h' => hE.nx σ' s' (l1.trans l') I' h'
theorem snd_gName : SndG K c (gName i) (pgName i) := fun X F σ s v d k Q I r h hQ => hQ _ ⟨s.g, s.H, s.e.set i (.val d), s.w, s.os⟩ (Gh.le.refl _) (I.setV r) h
theorem onSome_of {α : Type} {o : Option α} {k : α → Prop} (h : onSome o k) : ∃ x, o = some x ∧ k x := by
  cases o with
  | none => exact h.elim
  | some x => exact ⟨x, rfl, h⟩
theorem tupOf_of {d : Dat} {k : List Dat → Prop} (h : tupOf d k) : ∃ l, d = .tup l ∧ k l := by
  cases d with
  | tup l => exact ⟨l, rfl, h⟩
  | _ => exact h.elim
theorem intOf_of {d : Dat} {k : Int → Prop} (h : intOf d k) : ∃ l, d = .int l ∧ k l := by
  cases d with
  | int l => exact ⟨l, rfl, h⟩
  | _ => exact h.elim
/-- targets of a tuple, one behind the other -/
def gNames : List Nat → TGs
  | [] => gNil
  | i :: is => gCons (gName i) (gNames is)
theorem In.setAll : ∀ {is : List Nat} {vs : List V} {ds : List Dat} {σ : L2.St} {s : Cf} {e : Env} (I : In K c X F σ s) (r : Reps K c s.g vs ds) (h : setAll s.e is ds = some e) {Q : L2.St → Hp → Prop}, (∀ σ', In K c X F σ' ⟨s.g, s.H, e, s.w, s.os⟩ → Q σ' s.H) → gNames is vs σ s.H Q
  | [], _, _, σ, s, e, I, .nil, h, Q, hQ => by
    simp only [Pu.setAll, Option.some.injEq] at h
    subst h
    exact ⟨rfl, hQ σ I⟩
  | i :: is, _, _, σ, s, e, I, .cons r t, h, Q, hQ => by
    simp only [Pu.setAll] at h
    exact ⟨_, _, rfl, In.setAll (s := ⟨s.g, s.H, s.e.set i (.val _), s.w, s.os⟩) (I.setV r) t h hQ⟩
  | [], _, _, _, _, _, _, .cons _ _, h, _, _ => by simp [Pu.setAll] at h
  | _ :: _, _, _, _, _, _, _, .nil, h, _, _ => by simp [Pu.setAll] at h
theorem setAll_len : ∀ {is : List Nat} {ds : List Dat} {e e' : Env}, setAll e is ds = some e' → ds.length = is.length
  | [], [], _, _, _ => rfl
  | _ :: is, _ :: ds, _, _, h => by simp only [Pu.setAll] at h; simp only [List.length_cons, setAll_len h]
  | [], _ :: _, _, _, h => by simp [Pu.setAll] at h
  | _ :: _, [], _, _, h => by simp [Pu.setAll] at h
theorem snd_gTup {is : List Nat} {n : Nat} (hn : is.length = n) : SndG K c (gTup K n (gNames is)) (pgTup is) := by
  intro X F σ s v d k Q I r h hQ
  replace h := tupOf_of h
  obtain ⟨ds, rfl, h⟩ := h
  obtain ⟨e, he, h⟩ := onSome_of h
  obtain ⟨a, vs, e1, hs, hr⟩ := RepW.tup (.inl r) I
  subst e1
  refine ⟨a, vs, rfl, hs, by rw [hr.length, setAll_len he]; exact hn, ?_⟩
  exact In.setAll I hr he fun σ' I' => hQ σ' ⟨s.g, s.H, e, s.w, s.os⟩ (Gh.le.refl _) I' h
theorem snd_par {j : Nat} (hr : SndA K c tr pr) : SndS K c (tPar i j tr) (pPar [i, j] pr) := by
  intro X F σ s D Dp I h hE
  refine hr X F σ s _ _ I h fun vs ds s1 l1 I1 r1 h1 => ?_
  obtain ⟨e, he, h1⟩ := onSome_of h1
  have := In.setAll (Q := D.nx) I1 r1 he fun σ' I' => hE.nx σ' ⟨s1.g, s1.H, e, s1.w, s1.os⟩ l1 I' h1
  obtain ⟨v, _, rfl, v', _, rfl, rfl, q⟩ := this
  exact ⟨v, v', rfl, q⟩
theorem snd_par3 {j l : Nat} (hr : SndA K c tr pr) : SndS K c (tPar3 i j l tr) (pPar [i, j, l] pr) := by
  intro X F σ s D Dp I h hE
  refine hr X F σ s _ _ I h fun vs ds s1 l1 I1 r1 h1 => ?_
  obtain ⟨e, he, h1⟩ := onSome_of h1
  have := In.setAll (Q := D.nx) I1 r1 he fun σ' I' => hE.nx σ' ⟨s1.g, s1.H, e, s1.w, s1.os⟩ l1 I' h1
  obtain ⟨v, _, rfl, v', _, rfl, v'', _, rfl, rfl, q⟩ := this
  exact ⟨v, v', v'', rfl, q⟩
theorem snd_ret (ha : SndE K c ta pa) : SndS K c (tRet ta) (pRet pa) := by
  intro X F σ s D Dp I h hE
  exact ha X F σ s _ _ I h fun x dx s1 l1 I1 r1 h1 => hE.rt σ s1 x dx l1 I1 r1 h1
theorem snd_retN : SndS K c tRetN pRetN := fun X F σ s D Dp I h hE => hE.rt σ s .non .non (Gh.le.refl _) I .non h
theorem snd_drop (ha : SndE K c ta pa) : SndS K c (tDrop ta) (pDrop pa) := by
  intro X F σ s D Dp I h hE
  exact ha X F σ s _ _ I h fun x dx s1 l1 I1 r1 h1 => hE.nx σ s1 l1 I1 h1
theorem snd_ifS (hc : SndT K c tT pT) (ha : SndS K c ts ps) (hb : SndS K c tu pu) : SndS K c (tIfS tT ts tu) (pIfS pT ps pu) := by
  intro X F σ s D Dp I h hE
  refine hc X F σ s _ _ I h fun b s1 l1 I1 h1 => ?_
  by_cases hb' : b = true
  · rw [if_pos hb'] at h1 ⊢
    exact ha X F σ s1 D Dp I1 h1 (hE.mono l1)
  · rw [if_neg hb'] at h1 ⊢
    exact hb X F σ s1 D Dp I1 h1 (hE.mono l1)
theorem snd_append (ha : SndE K c ta pa) : SndS K c (tDrop (tBM K "list" rAppend (tVar i) (tCons ta tNil))) (pAppend i pa) := by
  intro X F σ s D Dp I h hE
  obtain ⟨f0, l0, e0, h⟩ := ownAt_of h
  obtain ⟨a, vs0, hs, ho, hH0, _, _⟩ := I.own e0
  refine ⟨.ref a, hs, .inl ⟨rfl, _, SqL.of hH0⟩, ?_⟩
  refine ha X F σ s _ _ I h fun y dy s2 l2 I2 r2 h2 => ?_
  obtain ⟨f, l, e1, hz, h2⟩ := ownAt_of h2
  obtain ⟨a', vs, hs', ho', hH, hR, hf⟩ := I2.own e1
  rw [hs] at hs'; cases hs'
  exact ⟨a, vs, y, rfl, rfl, hH, by rw [hR.length]; exact hz, hE.nx σ ⟨s2.g, upd s2.H a _, s2.e.set i (.own f (l ++ [dy])), s2.w, s2.os⟩ l2 (I2.ownPut hs ho' (hR.app (.cons r2 .nil)) hf) h2⟩
theorem snd_setI (hi : SndE K c tb pb) (hv : SndE K c ta pa) : SndS K c (tAsg ta (gSub (tVar i) tb rSetL)) (pSetI i pb pa) := by
  intro X F σ s D Dp I h hE
  refine hv X F σ s _ _ I h fun y dy s1 l1 I1 r1 h1 => ?_
  obtain ⟨f0, l0, e0, h1⟩ := ownAt_of h1
  obtain ⟨a, vs0, hs, ho, hH0, _, _⟩ := I1.own e0
  refine ⟨.ref a, hs, ?_⟩
  refine hi X F σ s1 _ _ I1 h1 fun x dx s2 l2 I2 r2 h2 => ?_
  replace h2 := intOf_of h2
  obtain ⟨n, rfl, h2⟩ := h2
  obtain ⟨f, l, e1, h2⟩ := ownAt_of h2
  obtain ⟨j, hj, h2⟩ := onSome_of h2
  obtain ⟨a', vs, hs', ho', hH, hR, hf⟩ := I2.own e1
  rw [hs] at hs'; cases hs'
  exact ⟨a, vs, n, j, rfl, r2.intI, hH, by rw [hR.length]; exact hj, hE.nx σ ⟨s2.g, upd s2.H a _, s2.e.set i (.own f (l.set j dy)), s2.w, s2.os⟩ (l1.trans l2) (I2.ownPut hs ho' (hR.set (r1.mono l2) j) hf) h2⟩
/-- names whose lists are no more theirs alone -/
theorem In.frz1 (I : In K c X F σ s) : ∃ g', s.g.le g' ∧ ∃ os', (∀ q ∈ os', q ∈ s.os) ∧ In K c X F σ ⟨g', s.H, (match s.e[i]? with | some z => s.e.set i (fz z) | none => s.e), s.w, os'⟩ := by
  cases hz : s.e[i]? with
  | none => exact ⟨s.g, Gh.le.refl _, s.os, fun _ h => h, I⟩
  | some z =>
    have hset : ∀ y, s.e[i]? = some y → s.e.set i y = s.e := fun y hy => by
      obtain ⟨h1, h2⟩ := List.getElem?_eq_some_iff.mp hy
      rw [← h2]; exact List.set_getElem_self h1
    cases z with
    | no => exact ⟨s.g, Gh.le.refl _, s.os, fun _ h => h, by show In K c X F σ ⟨s.g, s.H, s.e.set i .no, s.w, s.os⟩; rw [hset _ hz]; exact I⟩
    | val d => exact ⟨s.g, Gh.le.refl _, s.os, fun _ h => h, by show In K c X F σ ⟨s.g, s.H, s.e.set i (.val d), s.w, s.os⟩; rw [hset _ hz]; exact I⟩
    | ownT l r => exact ⟨s.g, Gh.le.refl _, s.os, fun _ h => h, by show In K c X F σ ⟨s.g, s.H, s.e.set i (.ownT l r), s.w, s.os⟩; rw [hset _ hz]; exact I⟩
    | own f ds =>
     cases f with
     | false => exact ⟨s.g, Gh.le.refl _, s.os, fun _ h => h, by show In K c X F σ ⟨s.g, s.H, s.e.set i (.own false ds), s.w, s.os⟩; rw [hset _ hz]; exact I⟩
     | true =>
      obtain ⟨a, vs, hs, ho, hH, hR, hf⟩ := I.own hz
      have hx : X.H a = none := hf.1 rfl
      -- the name's place moves from the names' lists to what is held, then to what never changes
      have hsp : ∃ l1 l2, s.os = l1 ++ (i, a) :: l2 := List.append_of_mem ho
      obtain ⟨l1, l2, hos⟩ := hsp
      have hp : (s.mu F).Perm (((⟨s.g, s.H, s.e.set i .no, s.w, l1 ++ l2⟩ : Cf)).mu ((a, .lst vs) :: F)) := by
        unfold Cf.mu
        rw [hos]
        refine List.Perm.append_left _ ?_
        simp only [List.map_append, List.map_cons, List.append_assoc, List.cons_append]
        refine List.Perm.append_left _ ?_
        exact (List.perm_middle (l₁ := l2.map (·.2))).symm
      have hsub : ∀ q ∈ l1 ++ l2, q ∈ s.os := fun q hq => by
        rw [hos]
        rcases List.mem_append.mp hq with z | z
        · exact List.mem_append_left _ z
        · exact List.mem_append_right _ (List.mem_cons_of_mem _ z)
      have I1 : In K c X ((a, .lst vs) :: F) σ ⟨s.g, s.H, s.e.set i .no, s.w, l1 ++ l2⟩ := by
        refine ⟨I.wr, hp.nodup_iff.mp I.nd, fun b hb => I.off b (hp.mem_iff.mpr hb), by show (s.e.set i _).length = _; rw [List.length_set]; exact I.len, fun j z hz' => ?_, fun q hq => ?_, fun q hq => I.oal q (hsub q hq), I.le, I.keep, I.frz, fun b hb => I.new b (hp.mem_iff.mpr hb), I.dom⟩
        · rcases set_get hz' with ⟨rfl, rfl⟩ | ⟨ne, hz''⟩
          · trivial
          · have h' := I.env j z hz''
            cases z with
            | no => trivial
            | val d => exact h'
            | own f' dl =>
              obtain ⟨b, ws, h1, h2, h3, h4, h5⟩ := h'
              refine ⟨b, ws, h1, ?_, h3, h4, h5⟩
              show (j, b) ∈ l1 ++ l2
              rw [hos] at h2
              rcases List.mem_append.mp h2 with z | z
              · exact List.mem_append_left _ z
              · rcases List.mem_cons.mp z with z | z
                · exact absurd (congrArg Prod.fst z) ne
                · exact List.mem_append_right _ z
            | ownT dl dr =>
              obtain ⟨p, b, us, ws, h1, h2, h3, h4, h5, h6, h7⟩ := h'
              refine ⟨p, b, us, ws, h1, ?_, h3, h4, h5, h6, h7⟩
              show (j, b) ∈ l1 ++ l2
              rw [hos] at h2
              rcases List.mem_append.mp h2 with z | z
              · exact List.mem_append_left _ z
              · rcases List.mem_cons.mp z with z | z
                · exact absurd (congrArg Prod.fst z) ne
                · exact List.mem_append_right _ z
        · rcases List.mem_cons.mp hq with rfl | hq
          · exact hH
          · exact I.held q hq
      have le := gUpd_le (o := .lst vs) (I.off a (I.osMu ho))
      have I2 := I1.frzF hx
      have hval : Rep K c (gUpd s.g a (.lst vs)) (.ref a) (.lst ds) := .lst (show upd s.g.G a _ a = _ from upd_same) (hR.mono le)
      have I3 := I2.setV (i := i) hval
      have hσ : σ.set i (some (.ref a)) = σ := by
        obtain ⟨h1, h2⟩ := List.getElem?_eq_some_iff.mp hs
        rw [← h2]; exact List.set_getElem_self h1
      rw [hσ] at I3
      refine ⟨gUpd s.g a (.lst vs), le, l1 ++ l2, hsub, ?_⟩
      have e2 : (s.e.set i .no).set i (.val (.lst ds)) = s.e.set i (fz (.own true ds)) := by rw [List.set_set]; rfl
      have I3' : In K c X F σ ⟨gUpd s.g a (.lst vs), s.H, (s.e.set i .no).set i (.val (.lst ds)), s.w, l1 ++ l2⟩ := I3
      rw [e2] at I3'
      exact I3'
theorem In.frzs : ∀ {is : List Nat} {s : Cf} (I : In K c X F σ s), ∃ g', s.g.le g' ∧ ∃ os', (∀ q ∈ os', q ∈ s.os) ∧ In K c X F σ ⟨g', s.H, Pu.frz s.e is, s.w, os'⟩
  | [], s, I => ⟨s.g, Gh.le.refl _, s.os, fun _ h => h, I⟩
  | i :: is, s, I => by
    obtain ⟨g1, l1, os1, hs1, I1⟩ := I.frz1 (i := i)
    obtain ⟨g2, l2, os2, hs2, I2⟩ := In.frzs (is := is) I1
    exact ⟨g2, l1.trans l2, os2, fun q hq => hs1 q (hs2 q hq), I2⟩
theorem snd_frz {is : List Nat} (ha : SndS K c ts ps) : SndS K c ts (pFrz is ps) := by
  intro X F σ s D Dp I h hE
  obtain ⟨g', l', os', _, I'⟩ := I.frzs (is := is)
  exact ha X F σ ⟨g', s.H, Pu.frz s.e is, s.w, os'⟩ D Dp I' h (hE.mono l')
/-! ### loops -/
theorem snd_while (hc : SndT K c tT pT) (hb : SndS K c ts ps) : SndS K c (tWhile tT ts) (pWhile pT ps) := by
  intro X F σ s D Dp I h hE
  obtain ⟨n, h⟩ := h
  refine ⟨fun m σ' H' => ∃ s' : Cf, s'.H = H' ∧ s.g.le s'.g ∧ In K c X F σ' s' ∧ whl pT ps Dp m s'.e s'.w, ⟨n, s, rfl, Gh.le.refl _, I, h⟩, ?_⟩
  rintro m σ1 H1 ⟨s1, rfl, l1, I1, h1⟩
  cases m with
  | zero => exact h1.elim
  | succ m =>
    refine hc X F σ1 s1 _ _ I1 h1 fun b s2 l2 I2 h2 => ?_
    by_cases hb' : b = true
    · rw [if_pos hb'] at h2 ⊢
      refine ⟨fun σ' H' => ∃ s' : Cf, s'.H = H' ∧ s.g.le s'.g ∧ In K c X F σ' s' ∧ whl pT ps Dp m s'.e s'.w, fun σ' H' ⟨s', e, l, I', h'⟩ => ⟨m, Nat.lt_succ_self m, s', e, l, I', h'⟩, ?_⟩
      refine hb X F σ1 s2 _ _ I2 h2 ⟨fun σ' s' l I' h' => ⟨s', rfl, (l1.trans l2).trans l, I', h'⟩, fun σ' s' v d l => hE.rt σ' s' v d ((l1.trans l2).trans l), fun σ' s' l => hE.nx σ' s' ((l1.trans l2).trans l), fun σ' s' l I' h' => ⟨s', rfl, (l1.trans l2).trans l, I', h'⟩⟩
    · rw [if_neg hb'] at h2 ⊢
      exact hE.nx σ1 s2 (l1.trans l2) I2 h2
/-- an iterator gives these data -/
structure ItD (K : PySem.W.Frag) (c : Pc) (J : It) (g : Gh) (ds : List Dat) : Prop where
  go : ∀ (X : En) (F : List (Addr × HO)) (σ : L2.St) (s : Cf) (i : Nat) (d : Dat), g.le s.g → In K c X F σ s → ds[i]? = some d → J.go i s.H ∧ ∀ x H', J.yld i s.H x H' → ∃ s' : Cf, s'.H = H' ∧ s.g.le s'.g ∧ In K c X F σ s' ∧ s'.e = s.e ∧ s'.w = s.w ∧ Rep K c s'.g x d
  stop : ∀ (X : En) (F : List (Addr × HO)) (σ : L2.St) (s : Cf), g.le s.g → In K c X F σ s → J.stop ds.length s.H
def SndI (K : PySem.W.Frag) (c : Pc) (wi : TI) (p : PA) : Prop := ∀ (X : En) (F : List (Addr × HO)) (σ : L2.St) (s : Cf) (k : List Dat → Env → Wld → Prop) (R : It → Hp → Prop), In K c X F σ s → p s.e s.w k → (∀ J ds s', s.g.le s'.g → In K c X F σ s' → ItD K c J s'.g ds → k ds s'.e s'.w → R J s'.H) → wi σ s.H R
theorem lp_drop {pg : PG} {ps : PS} {Dp : PEnds} {ds : List Dat} {i : Nat} {d : Dat} (h : ds[i]? = some d) : ds.drop i = d :: ds.drop (i + 1) := by
  obtain ⟨h1, h2⟩ := List.getElem?_eq_some_iff.mp h
  rw [← h2]; exact List.drop_eq_getElem_cons h1
theorem snd_for {wi : TI} {pi : PA} {tg : TG} {pg : PG} (hi : SndI K c wi pi) (hg : SndG K c tg pg) (hb : SndS K c ts ps) : SndS K c (tFor wi tg ts) (pFor pi pg ps) := by
  intro X F σ s D Dp I h hE
  refine hi X F σ s _ _ I h fun J ds s1 l1 I1 hJ h1 => ?_
  refine ⟨fun i m σ' H' => m + i = ds.length ∧ ∃ s' : Cf, s'.H = H' ∧ s1.g.le s'.g ∧ In K c X F σ' s' ∧ lp pg ps Dp (ds.drop i) s'.e s'.w, ⟨ds.length, rfl, s1, rfl, Gh.le.refl _, I1, h1⟩, ?_⟩
  rintro i m σ2 H2 ⟨hm, s2, rfl, l2, I2, h2⟩
  by_cases hlt : i < ds.length
  · have hd : ds[i]? = some (ds[i]'hlt) := List.getElem?_eq_getElem _
    rw [lp_drop (pg := pg) (ps := ps) (Dp := Dp) hd] at h2
    obtain ⟨hgo, hy⟩ := hJ.go X F σ2 s2 i _ l2 I2 hd
    refine .inr ⟨hgo, fun σ' H' => m ≠ 0 ∧ ∃ s' : Cf, s'.H = H' ∧ s1.g.le s'.g ∧ In K c X F σ' s' ∧ lp pg ps Dp (ds.drop (i + 1)) s'.e s'.w, fun σ' H' ⟨hm0, z⟩ => ⟨m - 1, by omega, by omega, z⟩, fun x H' hyl => ?_⟩
    obtain ⟨s3, rfl, l3, I3, e3, w3, r3⟩ := hy x H' hyl
    have h3 : pg (ds[i]'hlt) s3.e s3.w fun e w => ps ⟨lp pg ps Dp (ds.drop (i + 1)), Dp.rt, Dp.nx, lp pg ps Dp (ds.drop (i + 1))⟩ e w := by rw [e3, w3]; exact h2
    refine hg X F σ2 s3 x _ _ _ I3 r3 h3 fun σ4 s4 l4 I4 h4 => ?_
    have L : s1.g.le s4.g := (l2.trans l3).trans l4
    exact hb X F σ4 s4 _ _ I4 h4 ⟨fun σ' s' l I' h' => ⟨by omega, s', rfl, L.trans l, I', h'⟩, fun σ' s' v d l => hE.rt σ' s' v d ((l1.trans L).trans l), fun σ' s' l => hE.nx σ' s' ((l1.trans L).trans l), fun σ' s' l I' h' => ⟨by omega, s', rfl, L.trans l, I', h'⟩⟩
  · have hi' : i = ds.length := by omega
    subst hi'
    rw [List.drop_length] at h2
    exact .inl ⟨hJ.stop X F σ2 s2 l2 I2, hE.nx σ2 s2 (l1.trans l2) I2 h2⟩
theorem ItD.list {g : Gh} {a : Addr} {vs : List V} {ds : List Dat} (h : SqL K g.G a vs) (r : Reps K c g vs ds) : ItD K c (Itl K a) g ds where
  go := fun X F σ s i d le I hd => by
    obtain ⟨v, hv, rv⟩ := r.get hd
    have hs : SqL K s.H a vs := sqL_mono I.wr.sub (sqL_mono le.G h)
    refine ⟨⟨vs, v, hs, hv⟩, fun x H' ⟨e, hx⟩ => ?_⟩
    have := hx vs hs
    rw [hv] at this; cases this
    exact ⟨s, e.symm, Gh.le.refl _, I, rfl, rfl, rv.mono le⟩
  stop := fun X F σ s le I => ⟨vs, sqL_mono I.wr.sub (sqL_mono le.G h), by rw [r.length]; exact Nat.le_refl _⟩
theorem ItD.tup {g : Gh} {a : Addr} {vs : List V} {ds : List Dat} (h : SqT K g.G a vs) (r : Reps K c g vs ds) : ItD K c (Itt K a) g ds where
  go := fun X F σ s i d le I hd => by
    obtain ⟨v, hv, rv⟩ := r.get hd
    have hs : SqT K s.H a vs := sqT_mono I.wr.sub (sqT_mono le.G h)
    refine ⟨⟨vs, v, hs, hv⟩, fun x H' ⟨e, hx⟩ => ?_⟩
    have := hx vs hs
    rw [hv] at this; cases this
    exact ⟨s, e.symm, Gh.le.refl _, I, rfl, rfl, rv.mono le⟩
  stop := fun X F σ s le I => ⟨vs, sqT_mono I.wr.sub (sqT_mono le.G h), by rw [r.length]; exact Nat.le_refl _⟩
theorem rng_len : ∀ (n : Nat) (lo : Int), (rng lo n).length = n
  | 0, _ => rfl
  | n + 1, lo => by simp only [rng, List.length_cons, rng_len n]
theorem rng_get : ∀ {n : Nat} {lo : Int} {i : Nat} {d : Dat}, (rng lo n)[i]? = some d → i < n ∧ d = .int (lo + i)
  | 0, _, _, _, h => by simp [rng] at h
  | n + 1, lo, 0, d, h => by
    simp only [rng, List.getElem?_cons_zero, Option.some.injEq] at h
    exact ⟨Nat.succ_pos _, by rw [← h]; simp⟩
  | n + 1, lo, i + 1, d, h => by
    simp only [rng, List.getElem?_cons_succ] at h
    obtain ⟨h1, h2⟩ := rng_get h
    exact ⟨Nat.succ_lt_succ h1, by rw [h2]; congr 1; omega⟩
theorem ItD.range {g : Gh} (lo : Int) (n : Nat) : ItD K c (Itr lo n) g (rng lo n) where
  go := fun X F σ s i d le I hd => by
    obtain ⟨h1, rfl⟩ := rng_get hd
    exact ⟨h1, fun x H' ⟨e, hx⟩ => ⟨s, e.symm, Gh.le.refl _, I, rfl, rfl, by rw [hx]; exact .int _⟩⟩
  stop := fun X F σ s le I => by rw [rng_len]; exact Nat.le_refl n
theorem snd_iList (ha : SndE K c ta pa) : SndI K c (iList K ta) (pIL pa) := by
  intro X F σ s k R I h hR
  refine ha X F σ s _ _ I h fun x dx s1 l1 I1 r1 h1 => ?_
  cases r1 with
  | lst h2 r2 => exact ⟨_, rfl, ⟨_, SqL.of (I1.wr.sub _ _ h2)⟩, hR _ _ s1 l1 I1 (ItD.list (SqL.of h2) r2) h1⟩
  | cst h2 r2 => exact ⟨_, rfl, ⟨_, sqL_mono I1.wr.sub h2⟩, hR _ _ s1 l1 I1 (ItD.list h2 r2) h1⟩
  | _ => exact h1.elim
theorem snd_iTup (ha : SndE K c ta pa) : SndI K c (iTup K ta) (pIT pa) := by
  intro X F σ s k R I h hR
  refine ha X F σ s _ _ I h fun x dx s1 l1 I1 r1 h1 => ?_
  cases r1 with
  | tup h2 r2 => exact ⟨_, rfl, ⟨_, SqT.of (I1.wr.sub _ _ h2)⟩, hR _ _ s1 l1 I1 (ItD.tup (SqT.of h2) r2) h1⟩
  | _ => exact h1.elim
theorem snd_iR1 (ha : SndE K c ta pa) : SndI K c (iRng1 (tCons ta tNil)) (pIR1 pa) := by
  intro X F σ s k R I h hR
  refine ha X F σ s _ _ I h fun x dx s1 l1 I1 r1 h1 => ?_
  replace h1 := intOf_of h1
  obtain ⟨n, rfl, hb, h1⟩ := h1
  exact ⟨n, by rw [r1.intI], hb.1, hb.2, hR _ _ s1 l1 I1 (ItD.range 0 n.toNat) h1⟩
theorem snd_iR2 (ha : SndE K c ta pa) (hb : SndE K c tb pb) : SndI K c (iRng2 (tCons ta (tCons tb tNil))) (pIR2 pa pb) := by
  intro X F σ s k R I h hR
  refine ha X F σ s _ _ I h fun x dx s1 l1 I1 r1 h1 => ?_
  refine hb X F σ s1 _ _ I1 h1 fun y dy s2 l2 I2 r2 h2 => ?_
  replace h2 := intOf_of h2
  obtain ⟨n, rfl, h2⟩ := h2
  replace h2 := intOf_of h2
  obtain ⟨m, rfl, hb, h2⟩ := h2
  exact ⟨n, m, by rw [r1.intI, r2.intI], hb, hR _ _ s2 (l1.trans l2) I2 (ItD.range n (m - n).toNat) h2⟩
/-! ### comprehensions -/
theorem In.wip : ∀ {vs : List Nat} {s : Cf} (I : In K c X F σ s), In K c X F σ ⟨s.g, s.H, Pu.wip s.e vs, s.w, s.os⟩
  | [], s, I => I
  | i :: vs, s, I => In.wip (vs := vs) (I.setN i)
theorem wip_len (e : Env) : ∀ (vs : List Nat), (wip e vs).length = e.length
  | [] => rfl
  | i :: vs => by unfold Pu.wip; rw [wip_len _ vs, List.length_set]
theorem wip_at : ∀ {vs : List Nat} {e : Env} {j : Nat}, j ∈ vs → j < e.length → (wip e vs)[j]? = some .no
  | i :: vs, e, j, h, hl => by
    unfold Pu.wip
    by_cases hj : j ∈ vs
    · exact wip_at hj (by rw [List.length_set]; exact hl)
    · rcases List.mem_cons.mp h with rfl | h
      · have : ∀ (vs : List Nat) (e : Env), j ∉ vs → (wip e vs)[j]? = e[j]? := by
          intro vs
          induction vs with
          | nil => intro e _; rfl
          | cons a vs ih =>
            intro e hn
            unfold Pu.wip
            rw [ih _ (fun z => hn (List.mem_cons_of_mem _ z)), List.getElem?_set_ne (fun z => hn (by rw [z]; exact List.mem_cons_self))]
        rw [this vs _ hj, List.getElem?_set_self hl]
      · exact absurd h hj
theorem wip_not : ∀ {vs : List Nat} {e : Env} {j : Nat}, j ∉ vs → (wip e vs)[j]? = e[j]?
  | [], _, _, _ => rfl
  | a :: vs, e, j, hn => by
    unfold Pu.wip
    rw [wip_not (fun z => hn (List.mem_cons_of_mem _ z)), List.getElem?_set_ne (fun z => hn (by rw [z]; exact List.mem_cons_self))]
theorem wipe_not : ∀ {vs : List Nat} {σ : L2.St} {j : Nat}, j ∉ vs → (wipe σ vs)[j]? = σ[j]?
  | [], _, _, _ => rfl
  | a :: vs, σ, j, hn => by
    unfold wipe
    rw [List.getElem?_set_ne (fun z => hn (by rw [z]; exact List.mem_cons_self)), wipe_not (fun z => hn (List.mem_cons_of_mem _ z))]
/-- over names that are forgotten the slots may be wiped or not -/
theorem In.alike {vs : List Nat} {σ' : L2.St} (I : In K c X F σ s) (hl : σ'.length = σ.length) (h : ∀ j, j ∉ vs → σ'[j]? = σ[j]?) : In K c X F σ' ⟨s.g, s.H, Pu.wip s.e vs, s.w, s.os⟩ := by
  have I1 := I.wip (vs := vs)
  refine ⟨I1.wr, I1.nd, I1.off, by rw [hl]; exact I1.len, fun j z hz => ?_, I1.held, I1.oal, I1.le, I1.keep, I1.frz, I1.new, I1.dom⟩
  by_cases hj : j ∈ vs
  · have hz : (Pu.wip s.e vs)[j]? = some z := hz
    have hlt : j < s.e.length := by
      have := (List.getElem?_eq_some_iff.mp hz).1
      rwa [wip_len] at this
    rw [wip_at hj hlt] at hz
    cases hz; trivial
  · rw [h j hj]
    exact I1.env j z hz
theorem wipe_alike {σ σ' : L2.St} {vs : List Nat} (h : wipe σ' vs = wipe σ vs) : σ'.length = σ.length ∧ ∀ j, j ∉ vs → σ'[j]? = σ[j]? := by
  refine ⟨?_, fun j hj => ?_⟩
  · have := congrArg List.length h
    rwa [wipe_length, wipe_length] at this
  · have := congrArg (·[j]?) h
    simpa [wipe_not hj] using this
/-- a target writes its names alone -/
def Tgt (g : TG) (vs : List Nat) : Prop := ∀ (v : V) (σ σ0 : L2.St) (H : Hp) (Q : L2.St → Hp → Prop), wipe σ vs = wipe σ0 vs → (g v σ H fun σ' H' => wipe σ' vs = wipe σ0 vs → Q σ' H') → g v σ H fun σ' H' => wipe σ' vs = wipe σ0 vs ∧ Q σ' H'
theorem snd_lc {wi : TI} {pi : PA} {tg : TG} {pg : PG} {vs : List Nat} (hi : SndI K c wi pi) (hg : SndG K c tg pg) (hw : Tgt tg vs) (ht : SndT K c tT pT) (ha : SndE K c ta pa) : SndF K c (tLc wi tg tT ta vs) (pLc pi pg pT pa vs) := by
  intro X F σ s k Q I h hQ
  refine hi X F σ s _ _ I h fun J ds s1 l1 I1 hJ h1 D hD => ?_
  have hI0 : In K c X ((D, .lst []) :: F) σ ⟨s1.g, upd s1.H D (.lst []), Pu.wip s1.e vs, s1.w, s1.os⟩ := In.wip (I1.newF hD)
  have hxD := I1.fresh hD
  refine ⟨fun i m H' => m + i = ds.length ∧ ∃ (s' : Cf) (ys : List V) (acc : List Dat), s'.H = H' ∧ s1.g.le s'.g ∧ In K c X ((D, .lst ys) :: F) σ s' ∧ Reps K c s'.g ys acc ∧ (∀ j, j ∈ vs → j < s'.e.length → s'.e[j]? = some .no) ∧ lcp pg pT pa vs k (ds.drop i) acc s'.e s'.w, ⟨ds.length, rfl, ⟨s1.g, upd s1.H D (.lst []), Pu.wip s1.e vs, s1.w, s1.os⟩, [], [], rfl, Gh.le.refl _, hI0, .nil, fun j hj hl => wip_at hj (by rw [← wip_len]; exact hl), h1⟩, ?_⟩
  rintro i m H2 ⟨hm, s2, ys, acc, rfl, l2, I2, rA, hno, h2⟩
  by_cases hlt : i < ds.length
  · have hd : ds[i]? = some (ds[i]'hlt) := List.getElem?_eq_getElem _
    rw [lp_drop (pg := pg) (ps := pNext) (Dp := ⟨fun _ _ => True, fun _ _ _ => True, fun _ _ => True, fun _ _ => True⟩) hd] at h2
    obtain ⟨hgo, hy⟩ := hJ.go X _ σ s2 i _ l2 I2 hd
    refine .inr ⟨hgo, fun H' => m ≠ 0 ∧ ∃ (s' : Cf) (ys : List V) (acc : List Dat), s'.H = H' ∧ s1.g.le s'.g ∧ In K c X ((D, .lst ys) :: F) σ s' ∧ Reps K c s'.g ys acc ∧ (∀ j, j ∈ vs → j < s'.e.length → s'.e[j]? = some .no) ∧ lcp pg pT pa vs k (ds.drop (i + 1)) acc s'.e s'.w, fun H' ⟨hm0, z⟩ => ⟨m - 1, by omega, by omega, z⟩, fun x H' hyl => ?_⟩
    obtain ⟨s3, rfl, l3, I3, e3, w3, r3⟩ := hy x H' hyl
    have I3' : In K c X ((D, .lst ys) :: F) (wipe σ vs) s3 := by
      have I4 := I3.alike (vs := vs) (σ' := wipe σ vs) (wipe_length σ vs) (fun j hj => wipe_not hj)
      have e4 : Pu.wip s3.e vs = s3.e := by
        apply List.ext_getElem?
        intro j
        by_cases hj : j ∈ vs
        · by_cases hl : j < s3.e.length
          · rw [wip_at hj hl, e3, hno j hj (by rw [← e3]; exact hl)]
          · rw [List.getElem?_eq_none_iff.mpr (show (Pu.wip s3.e vs).length ≤ j by rw [wip_len]; omega), List.getElem?_eq_none_iff.mpr (show s3.e.length ≤ j by omega)]
        · exact wip_not hj
      rw [e4] at I4
      exact I4
    have h3 : pg (ds[i]'hlt) s3.e s3.w fun e w => pT e w fun b e w => if b = true then pa e w fun y e w => acc.length < sizeLine ∧ lcp pg pT pa vs k (ds.drop (i + 1)) (acc ++ [y]) (Pu.wip e vs) w else lcp pg pT pa vs k (ds.drop (i + 1)) acc (Pu.wip e vs) w := by rw [e3, w3]; exact h2
    have hw0 : wipe (wipe σ vs) vs = wipe σ vs := by
      apply List.ext_getElem?
      intro j
      by_cases hj : j ∈ vs
      · have : ∀ (vs : List Nat) (σ : L2.St), j ∈ vs → (wipe σ vs)[j]? = if j < σ.length then some none else none := by
          intro vs
          induction vs with
          | nil => intro σ h; cases h
          | cons a vs ih =>
            intro σ h
            unfold wipe
            by_cases ha : a = j
            · subst ha
              by_cases hl : a < σ.length
              · rw [if_pos hl, List.getElem?_set_self (by rw [wipe_length]; exact hl)]
              · rw [if_neg hl]; exact List.getElem?_eq_none_iff.mpr (by rw [List.length_set, wipe_length]; omega)
            · rcases List.mem_cons.mp h with h | h
              · exact absurd h.symm ha
              · rw [List.getElem?_set_ne ha]; exact ih σ h
        rw [this vs _ hj, this vs _ hj, wipe_length]
      · exact wipe_not hj
    refine hw x (wipe σ vs) σ s3.H _ hw0 ?_
    refine hg X _ (wipe σ vs) s3 x _ _ _ I3' r3 h3 fun σ4 s4 l4 I4 h4 hw4 => ?_
    obtain ⟨hl4, hv4⟩ := wipe_alike hw4
    have L4 := (l2.trans l3).trans l4
    have hnoW : ∀ e : Env, ∀ j, j ∈ vs → j < (Pu.wip e vs).length → (Pu.wip e vs)[j]? = some .no := fun e j hj hl => wip_at hj (by rw [← wip_len]; exact hl)
    refine ht X _ σ4 s4 _ _ I4 h4 fun b s5 l5 I5 h5 => ?_
    by_cases hb' : b = true
    · rw [if_pos hb'] at h5 ⊢
      refine ha X _ σ4 s5 _ _ I5 h5 fun y dy s6 l6 I6 r6 h6 => ?_
      refine ⟨ys, I6.held _ List.mem_cons_self, by rw [rA.length]; exact h6.1, by omega, ⟨s6.g, upd s6.H D (.lst (ys ++ [y])), Pu.wip s6.e vs, s6.w, s6.os⟩, ys ++ [y], acc ++ [dy], rfl, (L4.trans l5).trans l6, ?_, (rA.mono (((l3.trans l4).trans l5).trans l6)).app (.cons r6 .nil), hnoW _, h6.2⟩
      exact In.alike (I6.heldPut hxD) hl4.symm fun j hj => (hv4 j hj).symm
    · rw [if_neg hb'] at h5 ⊢
      exact ⟨by omega, ⟨s5.g, s5.H, Pu.wip s5.e vs, s5.w, s5.os⟩, ys, acc, rfl, L4.trans l5, In.alike I5 hl4.symm fun j hj => (hv4 j hj).symm, rA.mono ((l3.trans l4).trans l5), hnoW _, h5⟩
  · have hi' : i = ds.length := by omega
    subst hi'
    rw [List.drop_length] at h2
    exact .inl ⟨hJ.stop X _ σ s2 l2 I2, hQ D ys acc s2 (l1.trans l2) hxD I2 rA h2⟩
theorem snd_yes : SndT K c tYes pYes := fun X F σ s k Q I h hQ => hQ true s (Gh.le.refl _) I h
theorem tgt_name (j : Nat) : Tgt (gName j) [j] := fun v σ σ0 H Q hw h => by
  have e : wipe (σ.set j (some v)) [j] = wipe σ [j] := by simp [wipe]
  exact ⟨e.trans hw, h (e.trans hw)⟩
theorem tgt_two (i j : Nat) : Tgt (gTup K 2 (gNames [i, j])) [i, j] := fun v σ σ0 H Q hw h => by
  obtain ⟨a, xs, e1, h1, h2, v1, _, rfl, v2, _, rfl, rfl, h⟩ := h
  have e : wipe ((σ.set i (some v1)).set j (some v2)) [i, j] = wipe σ [i, j] := by
    simp only [wipe, List.set_set]
    by_cases hij : i = j
    · subst hij; simp
    · rw [List.set_comm _ _ (Ne.symm hij)]
      rw [List.set_set, List.set_comm _ _ hij]
  exact ⟨a, _, e1, h1, h2, v1, _, rfl, v2, _, rfl, rfl, e.trans hw, h (e.trans hw)⟩
end
end Pu

/-! Sop: operators, built-ins, fields over data; a def by its body. -/
namespace Pu
open PySem L2 Eng
/-! ### operators over data -/
def qI (C : Int → Int → Prop) (g : Int → Int → Dat) : Q2
  | .int i, .int j, k => C i j ∧ k (g i j)
  | _, _, _ => False
def qI0 (g : Int → Int → Dat) : Q2
  | .int i, .int j, k => k (g i j)
  | _, _, _ => False
def qAdd : Q2 := qI0 fun i j => .int (i + j)
def qSub : Q2 := qI0 fun i j => .int (i - j)
def qMul : Q2 := qI IntMulOk fun i j => .int (i * j)
def qDiv : Q2 := qI oDiv fun i j => .int (i / j)
def qMod : Q2 := qI (fun _ j => 0 < j) fun i j => .int (i % j)
def qPow : Q2 := qI oPow fun i j => .int (i ^ j.toNat)
def qShl : Q2 := qI CShl fun i j => .int (i * 2 ^ j.toNat)
def qShr : Q2 := qI (fun _ j => 0 ≤ j) fun i j => .int (i / 2 ^ j.toNat)
def qAnd : Q2 := qI0 fun i j => .int (Builtin.bitAnd i j)
def qOr : Q2 := qI0 fun i j => .int (Builtin.bitOr i j)
def qXor : Q2 := qI0 fun i j => .int (Builtin.bitXor i j)
def qLt : Q2 := qI0 fun i j => .bl (decide (i < j))
def qLe : Q2 := qI0 fun i j => .bl (decide (i ≤ j))
def qGt : Q2 := qI0 fun i j => .bl (decide (j < i))
def qGe : Q2 := qI0 fun i j => .bl (decide (j ≤ i))
def qNeg : Q1
  | .int i, k => k (.int (-i))
  | _, _ => False
def qEq : Q2
  | .int i, .int j, k => k (.bl (decide (i = j)))
  | .str i, .str j, k => k (.bl (decide (i = j)))
  | .bl i, .bl j, k => k (.bl (decide (i = j)))
  | _, _, _ => False
def qNe : Q2
  | .int i, .int j, k => k (.bl (!decide (i = j)))
  | .str i, .str j, k => k (.bl (!decide (i = j)))
  | .bl i, .bl j, k => k (.bl (!decide (i = j)))
  | _, _, _ => False
def qIx : Q2
  | .lst l, .int n, k => onSome (atI l n) k
  | .cst l, .int n, k => onSome (atI l n) k
  | .tup l, .int n, k => onSome (atI l n) k
  | _, _, _ => False
def qCat : Dat → Dat → (List Dat → Prop) → Prop
  | .lst l, .lst m, k => l.length + m.length ≤ sizeLine ∧ k (l ++ m)
  | _, _, _ => False
def qRep : Dat → Dat → (List Dat → Prop) → Prop
  | .lst l, .int n, k => (-(2 ^ 63) ≤ n ∧ n < 2 ^ 63 ∧ l.length * n.toNat ≤ sizeLine) ∧ k (List.replicate n.toNat l).flatten
  | _, _, _ => False
def qLen : QL
  | [.lst l], k => k (.int (l.length : Nat))
  | [.cst l], k => k (.int (l.length : Nat))
  | [.tup l], k => k (.int (l.length : Nat))
  | _, _ => False
def qAbs : QL
  | [.int n], k => k (.int (if n < 0 then -n else n))
  | _, _ => False
def qInt : QL
  | [.int n], k => k (.int n)
  | [.bl b], k => k (.int (if b then 1 else 0))
  | _, _ => False
def qMax2 : QL
  | [.int i, .int j], k => k (.int (if j > i then j else i))
  | _, _ => False
def qMin2 : QL
  | [.int i, .int j], k => k (.int (if j < i then j else i))
  | _, _ => False
def qList : List Dat → (List Dat → Prop) → Prop
  | [.lst l], k => k l
  | [.cst l], k => k l
  | [.tup l], k => k l
  | _, _ => False
def qTupL : QL
  | [.lst l], k => k (.tup l)
  | _, _ => False
section
variable {K : PySem.W.Frag} {c : Pc} {X : En} {F : List (Addr × HO)} {σ : L2.St} {s : Cf} {ta tb tc te : TE} {pa pb pc' pe : PE} {tr : TA} {pr : PA} {P : PSp} {sp : Sp} {E : XK} {i : Nat}
theorem snd_rI {C : Int → Int → Prop} {gv : Int → Int → V} {gd : Int → Int → Dat} (hg : ∀ i j (g : Gh), Rep K c g (gv i j) (gd i j)) : SndR2 K c (rI C gv) (qI C gd) := by
  intro X F σ s x y dx dy k Q I rx ry h hQ
  cases dx with
  | int i =>
    cases dy with
    | int j => exact ⟨i, j, rx.int, ry.int, h.1, hQ _ _ s (Gh.le.refl _) I rfl rfl (hg i j _) h.2⟩
    | _ => exact h.elim
  | _ => exact h.elim
theorem snd_rI0 {gv : Int → Int → V} {gd : Int → Int → Dat} (hg : ∀ i j (g : Gh), Rep K c g (gv i j) (gd i j)) : SndR2 K c (rI0 gv) (qI0 gd) := by
  intro X F σ s x y dx dy k Q I rx ry h hQ
  cases dx with
  | int i =>
    cases dy with
    | int j => exact ⟨i, j, rx.int, ry.int, hQ _ _ s (Gh.le.refl _) I rfl rfl (hg i j _) h⟩
    | _ => exact h.elim
  | _ => exact h.elim
theorem s_add : SndR2 K c Eng.rAdd qAdd := snd_rI0 fun _ _ _ => .int _
theorem s_sub : SndR2 K c Eng.rSub qSub := snd_rI0 fun _ _ _ => .int _
theorem s_mul : SndR2 K c Eng.rMul qMul := snd_rI fun _ _ _ => .int _
theorem s_div : SndR2 K c Eng.rDiv qDiv := snd_rI fun _ _ _ => .int _
theorem s_mod : SndR2 K c Eng.rMod qMod := snd_rI fun _ _ _ => .int _
theorem s_pow : SndR2 K c Eng.rPow qPow := snd_rI fun _ _ _ => .int _
theorem s_shl : SndR2 K c Eng.rShl qShl := snd_rI fun _ _ _ => .int _
theorem s_shr : SndR2 K c Eng.rShr qShr := snd_rI fun _ _ _ => .int _
theorem s_and : SndR2 K c Eng.rAnd qAnd := snd_rI0 fun _ _ _ => .int _
theorem s_or : SndR2 K c Eng.rOr qOr := snd_rI0 fun _ _ _ => .int _
theorem s_xor : SndR2 K c Eng.rXor qXor := snd_rI0 fun _ _ _ => .int _
theorem s_lt : SndR2 K c Eng.rLt qLt := snd_rI0 fun _ _ _ => .bl _
theorem s_le : SndR2 K c Eng.rLe qLe := snd_rI0 fun _ _ _ => .bl _
theorem s_gt : SndR2 K c Eng.rGt qGt := snd_rI0 fun _ _ _ => .bl _
theorem s_ge : SndR2 K c Eng.rGe qGe := snd_rI0 fun _ _ _ => .bl _
theorem snd_neg (ha : SndE K c ta pa) : SndE K c (tUn Eng.rNeg ta) (pUn qNeg pa) := snd_un (fun s x d r k Q h hQ => by
  cases d with
  | int n => exact ⟨n, r.intI, hQ _ _ (.int _) h⟩
  | _ => exact h.elim) ha
theorem s_eq : SndR2 K c rEq qEq := by
  intro X F σ s x y dx dy k Q I rx ry h hQ
  cases dx with
  | int i =>
    cases dy with
    | int j => rw [rx.int, ry.int]; exact rd_eqI (hQ _ _ s (Gh.le.refl _) I rfl rfl (.bl _) h)
    | _ => exact h.elim
  | str i =>
    cases dy with
    | str j => rw [rx.str, ry.str]; exact rd_eqS (hQ _ _ s (Gh.le.refl _) I rfl rfl (.bl _) h)
    | _ => exact h.elim
  | bl i =>
    cases dy with
    | bl j => rw [rx.bl, ry.bl]; exact rd_eqB (hQ _ _ s (Gh.le.refl _) I rfl rfl (.bl _) h)
    | _ => exact h.elim
  | _ => exact h.elim
theorem s_ne : SndR2 K c rNe qNe := by
  intro X F σ s x y dx dy k Q I rx ry h hQ
  cases dx with
  | int i =>
    cases dy with
    | int j => rw [rx.int, ry.int]; exact rd_neI (hQ _ _ s (Gh.le.refl _) I rfl rfl (.bl _) h)
    | _ => exact h.elim
  | str i =>
    cases dy with
    | str j => rw [rx.str, ry.str]; exact rd_neS (hQ _ _ s (Gh.le.refl _) I rfl rfl (.bl _) h)
    | _ => exact h.elim
  | bl i =>
    cases dy with
    | bl j => rw [rx.bl, ry.bl]; exact rd_neB (hQ _ _ s (Gh.le.refl _) I rfl rfl (.bl _) h)
    | _ => exact h.elim
  | _ => exact h.elim
theorem reps_at {g : Gh} {vs : List V} {ds : List Dat} {n : Int} {d : Dat} (r : Reps K c g vs ds) (h : atI ds n = some d) : ∃ v, atI vs n = some v ∧ Rep K c g v d := by
  unfold atI at h ⊢
  rw [r.length]
  cases e : ixN ds.length n with
  | none => rw [e] at h; cases h
  | some j => rw [e] at h; exact r.get h
def qIxT : Q2
  | .tup l, .int n, k => onSome (atI l n) k
  | _, _, _ => False
def qIxL : Q2
  | .lst l, .int n, k => onSome (atI l n) k
  | .cst l, .int n, k => onSome (atI l n) k
  | _, _, _ => False
theorem s_ixL : SndR2 K c (rIxL K) qIxL := by
  intro X F σ s x y dx dy k Q I rx ry h hQ
  cases dx with
  | lst l =>
    cases dy with
    | int n =>
      obtain ⟨d, hd, h⟩ := onSome_of h
      obtain ⟨a, vs, rfl, hH, hR⟩ := rx.lst I
      obtain ⟨v, hv, rv⟩ := reps_at hR hd
      exact ⟨a, vs, n, v, rfl, ry.int, SqL.of hH, hv, hQ v d s (Gh.le.refl _) I rfl rfl rv h⟩
    | _ => exact h.elim
  | cst l =>
    cases dy with
    | int n =>
      obtain ⟨d, hd, h⟩ := onSome_of h
      obtain ⟨a, vs, rfl, hH, hR⟩ := rx.cst I
      obtain ⟨v, hv, rv⟩ := reps_at hR hd
      exact ⟨a, vs, n, v, rfl, ry.int, hH, hv, hQ v d s (Gh.le.refl _) I rfl rfl rv h⟩
    | _ => exact h.elim
  | _ => exact h.elim
theorem s_ixT : SndR2 K c (rIxT K) qIxT := by
  intro X F σ s x y dx dy k Q I rx ry h hQ
  cases dx with
  | tup l =>
    cases dy with
    | int n =>
      obtain ⟨d, hd, h⟩ := onSome_of h
      obtain ⟨a, vs, rfl, hH, hR⟩ := rx.tup I
      obtain ⟨v, hv, rv⟩ := reps_at hR hd
      exact ⟨a, vs, n, v, rfl, ry.int, hH, hv, hQ v d s (Gh.le.refl _) I rfl rfl rv h⟩
    | _ => exact h.elim
  | _ => exact h.elim
theorem s_ixA : SndR2 K c (rIxA K) qIx := by
  intro X F σ s x y dx dy k Q I rx ry h hQ
  cases dx with
  | lst l => exact .inl (s_ixL X F σ s x y _ dy k Q I rx ry (by cases dy <;> exact h) hQ)
  | cst l => exact .inl (s_ixL X F σ s x y _ dy k Q I rx ry (by cases dy <;> exact h) hQ)
  | tup l => exact .inr (s_ixT X F σ s x y _ dy k Q I rx ry (by cases dy <;> exact h) hQ)
  | _ => cases dy <;> exact h.elim
theorem s_cat : SndR2F K c rCat qCat := by
  intro X F σ s x y dx dy k Q I rx ry h hQ
  cases dx with
  | lst l =>
    cases dy with
    | lst m =>
      obtain ⟨a, vs, rfl, hH, hR⟩ := rx.lst I
      obtain ⟨b, ws, rfl, hH', hR'⟩ := ry.lst I
      refine ⟨a, b, vs, ws, rfl, rfl, hH, hH', by rw [hR.length, hR'.length]; exact h.1, fun p hp => ?_⟩
      exact hQ p _ _ ⟨s.g, upd s.H p (.lst (vs ++ ws)), s.e, s.w, s.os⟩ (Gh.le.refl _) (I.fresh hp) (I.newF hp) rfl rfl (hR.app hR') h.2
    | _ => exact h.elim
  | _ => exact h.elim
theorem s_rep : SndR2F K c rRep qRep := by
  intro X F σ s x y dx dy k Q I rx ry h hQ
  cases dx with
  | lst l =>
    cases dy with
    | int n =>
      obtain ⟨a, vs, rfl, hH, hR⟩ := rx.lst I
      refine ⟨a, n, vs, rfl, ry.int, hH, h.1.1, h.1.2.1, by rw [hR.length]; exact h.1.2.2, fun p hp => ?_⟩
      exact hQ p _ _ ⟨s.g, upd s.H p (.lst _), s.e, s.w, s.os⟩ (Gh.le.refl _) (I.fresh hp) (I.newF hp) rfl rfl (hR.rep n.toNat) h.2
    | _ => exact h.elim
  | _ => exact h.elim
theorem one_of {s : Cf} {vs : List V} {d : Dat} (r : Paired (RepW K c s) vs [d]) : ∃ v, vs = [v] ∧ RepW K c s v d := by
  cases r with
  | cons r t => cases t; exact ⟨_, rfl, r⟩
theorem s_len : SndRL K c (Eng.rLen K) qLen := by
  intro X F σ s vs ds k Q I r h hQ
  unfold qLen at h
  split at h
  · replace r := one_of r
    obtain ⟨v, rfl, r⟩ := r
    obtain ⟨a, vs, rfl, hH, hR⟩ := r.lst I
    exact ⟨a, vs, rfl, .inl (SqL.of hH), by rw [hR.length]; exact hQ _ _ s (Gh.le.refl _) I rfl rfl (.int _) h⟩
  · replace r := one_of r
    obtain ⟨v, rfl, r⟩ := r
    obtain ⟨a, vs, rfl, hH, hR⟩ := r.cst I
    exact ⟨a, vs, rfl, .inl hH, by rw [hR.length]; exact hQ _ _ s (Gh.le.refl _) I rfl rfl (.int _) h⟩
  · replace r := one_of r
    obtain ⟨v, rfl, r⟩ := r
    obtain ⟨a, vs, rfl, hH, hR⟩ := r.tup I
    exact ⟨a, vs, rfl, .inr hH, by rw [hR.length]; exact hQ _ _ s (Gh.le.refl _) I rfl rfl (.int _) h⟩
  · exact h.elim
theorem s_abs : SndRL K c rAbs qAbs := by
  intro X F σ s vs ds k Q I r h hQ
  unfold qAbs at h
  split at h
  · replace r := one_of r
    obtain ⟨v, rfl, r⟩ := r
    exact ⟨_, by rw [r.int], hQ _ _ s (Gh.le.refl _) I rfl rfl (.int _) h⟩
  · exact h.elim
theorem s_int : SndRL K c rInt qInt := by
  intro X F σ s vs ds k Q I r h hQ
  unfold qInt at h
  split at h
  · replace r := one_of r
    obtain ⟨v, rfl, r⟩ := r
    exact .inl ⟨_, by rw [r.int], hQ _ _ s (Gh.le.refl _) I rfl rfl (.int _) h⟩
  · replace r := one_of r
    obtain ⟨v, rfl, r⟩ := r
    exact .inr ⟨_, by rw [r.bl], hQ _ _ s (Gh.le.refl _) I rfl rfl (.int _) h⟩
  · exact h.elim
theorem two_of {s : Cf} {vs : List V} {ds : List Dat} (r : Paired (RepW K c s) vs ds) {i j : Int} (h : ds = [.int i, .int j]) : vs = [.int i, .int j] := by
  subst h
  cases r with
  | cons r t =>
    cases t with
    | cons r' t' =>
      cases t'
      rw [r.int, r'.int]
theorem s_max2 : SndRL K c rMax2 qMax2 := by
  intro X F σ s vs ds k Q I r h hQ
  unfold qMax2 at h
  split at h
  · rename_i i j
    exact ⟨i, j, two_of r rfl, hQ _ _ s (Gh.le.refl _) I rfl rfl (.int _) h⟩
  · exact h.elim
theorem s_min2 : SndRL K c rMin2 qMin2 := by
  intro X F σ s vs ds k Q I r h hQ
  unfold qMin2 at h
  split at h
  · rename_i i j
    exact ⟨i, j, two_of r rfl, hQ _ _ s (Gh.le.refl _) I rfl rfl (.int _) h⟩
  · exact h.elim
theorem s_list : SndRLF K c (rList K) qList := by
  intro X F σ s vs ds k Q I r h hQ
  unfold qList at h
  split at h
  · replace r := one_of r
    obtain ⟨v, rfl, r⟩ := r
    obtain ⟨a, ws, rfl, hH, hR⟩ := r.lst I
    exact ⟨a, ws, rfl, .inl (SqL.of hH), fun p hp => hQ p _ _ ⟨s.g, upd s.H p (.lst ws), s.e, s.w, s.os⟩ (Gh.le.refl _) (I.fresh hp) (I.newF hp) rfl rfl hR h⟩
  · replace r := one_of r
    obtain ⟨v, rfl, r⟩ := r
    obtain ⟨a, ws, rfl, hH, hR⟩ := r.cst I
    exact ⟨a, ws, rfl, .inl hH, fun p hp => hQ p _ _ ⟨s.g, upd s.H p (.lst ws), s.e, s.w, s.os⟩ (Gh.le.refl _) (I.fresh hp) (I.newF hp) rfl rfl hR h⟩
  · replace r := one_of r
    obtain ⟨v, rfl, r⟩ := r
    obtain ⟨a, ws, rfl, hH, hR⟩ := r.tup I
    exact ⟨a, ws, rfl, .inr hH, fun p hp => hQ p _ _ ⟨s.g, upd s.H p (.lst ws), s.e, s.w, s.os⟩ (Gh.le.refl _) (I.fresh hp) (I.newF hp) rfl rfl hR h⟩
  · exact h.elim
theorem s_tupL : SndRL K c (rTupL K) qTupL := by
  intro X F σ s vs ds k Q I r h hQ
  unfold qTupL at h
  split at h
  · replace r := one_of r
    obtain ⟨v, rfl, r⟩ := r
    obtain ⟨a, ws, rfl, hH, hR⟩ := r.lst I
    refine ⟨a, ws, rfl, SqL.of hH, fun p hp => ?_⟩
    have le := gUpd_le (o := .tup ws) (I.offG hp)
    exact hQ _ _ ⟨gUpd s.g p (.tup ws), upd s.H p (.tup ws), s.e, s.w, s.os⟩ le (I.newG hp) rfl rfl (.tup (show upd s.g.G p _ p = _ from upd_same) (hR.mono le)) h
  · exact h.elim
/-! ### slices -/
def pNoPart : PO := fun e w k => k none e w
def pPart (a : PE) : PO := fun e w k => a e w fun x e w => intOf x fun n => k (some n) e w
def cutD (ds : List Dat) (lo hi : Option Int) : List Dat := (ds.drop (HT.sIx ds.length 0 lo)).take (HT.sIx ds.length ds.length hi - HT.sIx ds.length 0 lo)
def pSlL (a : PE) (lo hi : PO) : PF := fun e w k => a e w fun x e w => lo e w fun l e w => hi e w fun u e w => lstOf x fun ds => k (cutD ds l u) e w
theorem snd_noPart : SndO K c tNoPart pNoPart := fun X F σ s k Q I h hQ => hQ none s (Gh.le.refl _) I h
theorem snd_part (ha : SndE K c ta pa) : SndO K c (tPart ta) (pPart pa) := by
  intro X F σ s k Q I h hQ
  refine ha X F σ s _ _ I h fun x dx s1 l1 I1 r1 h1 => ?_
  replace h1 := intOf_of h1
  obtain ⟨n, rfl, h1⟩ := h1
  exact ⟨n, r1.intI, hQ _ s1 l1 I1 h1⟩
theorem lstOf_of {d : Dat} {k : List Dat → Prop} (h : lstOf d k) : ∃ l, (d = .lst l ∨ d = .cst l) ∧ k l := by
  cases d with
  | lst l => exact ⟨l, .inl rfl, h⟩
  | cst l => exact ⟨l, .inr rfl, h⟩
  | _ => exact h.elim
theorem Rep.sqL {v : V} {d : Dat} {l : List Dat} (r : Rep K c s.g v d) (I : In K c X F σ s) (h : d = .lst l ∨ d = .cst l) : ∃ a vs, v = .ref a ∧ SqL K s.H a vs ∧ Reps K c s.g vs l := by
  rcases h with rfl | rfl
  · obtain ⟨a, vs, e, h1, h2⟩ := RepW.lst (.inl r) I
    exact ⟨a, vs, e, SqL.of h1, h2⟩
  · exact RepW.cst (.inl r) I
theorem reps_cut {g : Gh} {vs : List V} {ds : List Dat} (r : Reps K c g vs ds) (lo hi : Option Int) : Reps K c g (cutV vs lo hi) (cutD ds lo hi) := by
  unfold cutV cutD
  rw [r.length]
  exact (r.drop _).take _
theorem snd_slL {tlo thi : TO} {plo phi : PO} (ha : SndE K c ta pa) (h1 : SndO K c tlo plo) (h2 : SndO K c thi phi) : SndF K c (tSl (rSlL K) ta tlo thi) (pSlL pa plo phi) := by
  intro X F σ s k Q I h hQ
  refine ha X F σ s _ _ I h fun x dx s1 l1 I1 r1 h' => ?_
  refine h1 X F σ s1 _ _ I1 h' fun l s2 l2 I2 h' => ?_
  refine h2 X F σ s2 _ _ I2 h' fun u s3 l3 I3 h' => ?_
  obtain ⟨ds, hd, h'⟩ := lstOf_of h'
  obtain ⟨a, vs, rfl, hH, hR⟩ := ((r1.mono l2).mono l3).sqL I3 hd
  exact ⟨a, vs, rfl, hH, fun p hp => hQ p _ _ ⟨s3.g, upd s3.H p (.lst _), s3.e, s3.w, s3.os⟩ ((l1.trans l2).trans l3) (I3.fresh hp) (I3.newF hp) (reps_cut hR l u) h'⟩
def pRevL (a : PE) : PF := fun e w k => a e w fun x e w => lstOf x fun ds => k ds.reverse e w
def pRevT (a : PE) : PE := fun e w k => a e w fun x e w => tupOf x fun ds => k (.tup ds.reverse) e w
theorem snd_revL (ha : SndE K c ta pa) : SndF K c (tRevL K ta) (pRevL pa) := by
  intro X F σ s k Q I h hQ
  refine ha X F σ s _ _ I h fun x dx s1 l1 I1 r1 h' => ?_
  obtain ⟨ds, hd, h'⟩ := lstOf_of h'
  obtain ⟨a, vs, rfl, hH, hR⟩ := r1.sqL I1 hd
  exact ⟨a, vs, rfl, hH, fun p hp => hQ p _ _ ⟨s1.g, upd s1.H p (.lst _), s1.e, s1.w, s1.os⟩ l1 (I1.fresh hp) (I1.newF hp) hR.rev h'⟩
theorem snd_revT (ha : SndE K c ta pa) : SndE K c (tRevT K ta) (pRevT pa) := by
  intro X F σ s k Q I h hQ
  refine ha X F σ s _ _ I h fun x dx s1 l1 I1 r1 h' => ?_
  replace h' := tupOf_of h'
  obtain ⟨ds, rfl, h'⟩ := h'
  obtain ⟨a, vs, rfl, hH, hR⟩ := RepW.tup (.inl r1) I1
  refine ⟨a, vs, rfl, hH, fun p hp => ?_⟩
  have le := gUpd_le (o := .tup vs.reverse) (I1.offG hp)
  exact hQ _ _ ⟨gUpd s1.g p (.tup _), upd s1.H p (.tup _), s1.e, s1.w, s1.os⟩ (l1.trans le) (I1.newG hp) (.tup (show upd s1.g.G p _ p = _ from upd_same) (hR.rev.mono le)) h'
/-! ### fields -/
def dN (ds : List Nat) : List Dat := ds.map fun (d : Nat) => Dat.int (d : Int)
theorem reps_dN {g : Gh} : ∀ (ds : List Nat), Reps K c g (iN ds) (dN ds)
  | [] => .nil
  | d :: ds => .cons (.int _) (reps_dN ds)
theorem reps_iN {g : Gh} : ∀ {ds : List Nat} {vs : List V}, Reps K c g vs (dN ds) → vs = iN ds
  | [], _, .nil => rfl
  | _ :: ds, _, .cons h t => by rw [h.intI, reps_iN t]; rfl
def bigFld (f : Str) (b : Nat) (n : Int) (k : Dat → Prop) : Prop :=
  (f = "width" ∧ k (.int (b : Int))) ∨ (f = "side" ∧ k (.int (sgn n))) ∨ (f = "row" ∧ k (.tup (dN (digs b n.natAbs))))
def pWidthB (a : PE) : PE := fun e w k => a e w fun x e w => match x with | .big b _ => k (.int (b : Int)) e w | _ => False
def pSide (a : PE) : PE := fun e w k => a e w fun x e w => match x with | .big _ n => k (.int (sgn n)) e w | _ => False
def pRow (a : PE) : PE := fun e w k => a e w fun x e w => match x with | .big b n => k (.tup (dN (digs b n.natAbs))) e w | _ => False
def onM (w : Wld) (i : Nat) (k : Mach → Prop) : Prop := match w.ms[i]? with | some m => k m | none => False
theorem onM_of {w : Wld} {i : Nat} {k : Mach → Prop} (h : onM w i k) : ∃ m, w.ms[i]? = some m ∧ k m := by
  unfold onM at h
  cases e : w.ms[i]? with
  | none => rw [e] at h; exact h.elim
  | some m => rw [e] at h; exact ⟨m, rfl, h⟩
def pWidthM (a : PE) : PE := fun e w k => a e w fun x e w => match x with | .mach i => onM w i fun m => k (.int (m.b : Int)) e w | _ => False
def pCut (a : PE) : PE := fun e w k => a e w fun x e w => match x with | .mach i => onM w i fun m => k (.int m.cut) e w | _ => False
def pBase (a : PE) : PE := fun e w k => a e w fun x e w => match x with | .mach i => onM w i fun m => k (.int (2 ^ m.b)) e w | _ => False
theorem snd_side (PB : PB K c) (ha : SndE K c ta pa) : SndE K c (tFld K ta "side") (pSide pa) := by
  intro X F σ s k Q I h hQ
  refine ha X F σ s _ _ I h fun x dx s1 l1 I1 r1 h' => ?_
  cases dx with
  | big b n =>
    obtain ⟨a, rfl, hb⟩ := RepW.big (.inl r1) I1
    obtain ⟨dx, r, h1, h2⟩ := hb.at_
    exact rd_Bside PB h1 (hQ _ _ s1 l1 I1 (.int _) h')
  | _ => exact h'.elim
theorem snd_widthB (PB : PB K c) (ha : SndE K c ta pa) : SndE K c (tFld K ta "width") (pWidthB pa) := by
  intro X F σ s k Q I h hQ
  refine ha X F σ s _ _ I h fun x dx s1 l1 I1 r1 h' => ?_
  cases dx with
  | big b n =>
    obtain ⟨a, rfl, hb⟩ := RepW.big (.inl r1) I1
    obtain ⟨dx, r, h1, h2⟩ := hb.at_
    exact rd_Bwidth PB h1 (hQ _ _ s1 l1 I1 (.int _) h')
  | _ => exact h'.elim
theorem snd_row (PB : PB K c) (ha : SndE K c ta pa) : SndE K c (tFld K ta "row") (pRow pa) := by
  intro X F σ s k Q I h hQ
  refine ha X F σ s _ _ I h fun x dx s1 l1 I1 r1 h' => ?_
  cases r1 with
  | big hb =>
    obtain ⟨dx, r, h1, h2⟩ := hb.at_
    exact rd_Brow PB (I1.wr.sub _ _ h1) (hQ _ _ s1 l1 I1 (.tup h2 (reps_dN _)) h')
  | _ => exact h'.elim
end
/-! ### a def by its body -/
def pen (k : Dat → Wld → Prop) : PEnds := ⟨fun _ w => k .non w, fun d _ w => k d w, fun _ _ => False, fun _ _ => False⟩
def env0 (n : Nat) (ds : List Dat) : Env := ds.map Slot.val ++ List.replicate (n - ds.length) .no
section
variable {K : PySem.W.Frag} {c : Pc} {P : PSp} {vs : List V} {H : Hp} {Q : VK} {E : XK} {n : Nat} {t : TS} {p : PS}
theorem reps_env {X : En} {s : Cf} : ∀ {vs : List V} {ds : List Dat} {m : Nat} (r : Reps K c s.g vs ds) (i : Nat) (z : Slot), (ds.map Slot.val ++ List.replicate m .no)[i]? = some z → RSl K c X s i ((vs.map some ++ List.replicate m none : L2.St)[i]?) z
  | _, _, m, .nil, i, z, h => by
    simp only [List.map_nil, List.nil_append] at h ⊢
    have : z = .no := (List.mem_replicate.mp (List.mem_of_getElem? h)).2
    rw [this]; trivial
  | _, _, m, .cons r t, 0, z, h => by
    simp only [List.map_cons, List.cons_append, List.getElem?_cons_zero, Option.some.injEq] at h ⊢
    subst h
    exact ⟨_, rfl, r⟩
  | _, _, m, .cons r t, i + 1, z, h => by
    simp only [List.map_cons, List.cons_append, List.getElem?_cons_succ] at h ⊢
    have := reps_env (X := X) t i z h
    cases z with
    | no => trivial
    | val d => exact this
    | own f l =>
      exfalso
      have := List.mem_of_getElem? h
      rcases List.mem_append.mp this with q | q
      · obtain ⟨d, _, e⟩ := List.mem_map.mp q; cases e
      · exact nomatch (List.mem_replicate.mp q).2
    | ownT l r =>
      exfalso
      have := List.mem_of_getElem? h
      rcases List.mem_append.mp this with q | q
      · obtain ⟨d, _, e⟩ := List.mem_map.mp q; cases e
      · exact nomatch (List.mem_replicate.mp q).2
theorem In.start {g : Gh} {w : Wld} {ds : List Dat} (W : Wr K c g H w) (r : Reps K c g vs ds) : In K c ⟨H, g, []⟩ [] (st0 n vs) ⟨g, H, env0 n ds, w, []⟩ := by
  have e : (⟨g, H, env0 n ds, w, []⟩ : Cf).mu [] = g.mu := by unfold Cf.mu; simp
  refine ⟨W, by rw [e]; exact W.nd, by rw [e]; exact W.off, ?_, fun i z hz => ?_, (fun q h => nomatch h), (fun q h => nomatch h), Gh.le.refl _, fun _ _ h _ _ => h, fun _ _ _ => rfl, by rw [e]; exact fun a ha => .inl ha, fun a o h => ⟨o, h⟩⟩
  · show (env0 n ds).length = (st0 n vs).length
    unfold env0 st0
    simp only [List.length_append, List.length_map, List.length_replicate, r.length]
  · have hz : (env0 n ds)[i]? = some z := hz
    unfold env0 at hz
    unfold st0
    rw [r.length]
    exact reps_env (s := ⟨g, H, env0 n ds, w, []⟩) r i z hz
theorem In.aft {g : Gh} {σ : L2.St} {s : Cf} (I : In K c ⟨H, g, []⟩ [] σ s) : Aft g H s.g s.H :=
  ⟨I.le, fun a o h n => I.keep a o h n (fun z => nomatch z), I.frz, fun a ha => by
    rcases I.new a (List.mem_append_left _ ha) with z | z | z
    · exact .inl z
    · cases z
    · exact .inr z, I.dom⟩
/-- a def keeps its promise -/
theorem def_ok (hs : SndS K c t p) (hP : ∀ ds w k, P ds w k → p (pen k) (env0 n ds) w) (h : lif K c P vs H Q E) : t (en0 Q) (st0 n vs) H := by
  obtain ⟨g, w, ds, k, W, r, hp, hq⟩ := h
  refine hs ⟨H, g, []⟩ [] (st0 n vs) ⟨g, H, env0 n ds, w, []⟩ _ _ (In.start W r) (hP ds w k hp) ⟨fun σ s l I h => ?_, fun σ s v d l I r h => ?_, fun _ _ _ _ h => h.elim, fun _ _ _ _ h => h.elim⟩
  · exact hq .non .non s.g s.H s.w I.aft I.wr .non h
  · exact hq v d s.g s.H s.w I.aft I.wr r h
end
end Pu

/-! Mch: machines, Bigs and draws: promises over the heap keep those over data. -/
namespace Pu
open PySem L2 Eng
def gAdd (g : Gh) : List (Addr × HO) → Gh
  | [] => g
  | q :: ns => gUpd (gAdd g ns) q.1 q.2
theorem gAdd_ms (g : Gh) : ∀ ns, (gAdd g ns).ms = g.ms ∧ (gAdd g ns).ss = g.ss
  | [] => ⟨rfl, rfl⟩
  | _ :: ns => gAdd_ms g ns
theorem gAdd_mu (g : Gh) (ns : List (Addr × HO)) : (gAdd g ns).mu = g.mu := by unfold Gh.mu; rw [(gAdd_ms g ns).1, (gAdd_ms g ns).2]
theorem gAdd_get {g : Gh} : ∀ {ns : List (Addr × HO)} {a : Addr} {o : HO}, (gAdd g ns).G a = some o → (a, o) ∈ ns ∨ g.G a = some o
  | [], _, _, h => .inr h
  | q :: ns, a, o, h => by
    have h : upd (gAdd g ns).G q.1 q.2 a = some o := h
    by_cases e : a = q.1
    · subst e; rw [upd_same] at h; cases h; exact .inl List.mem_cons_self
    · rw [upd_ne e] at h
      rcases gAdd_get h with z | z
      · exact .inl (List.mem_cons_of_mem _ z)
      · exact .inr z
theorem gAdd_out {g : Gh} : ∀ {ns : List (Addr × HO)} {a : Addr}, a ∉ ns.map (·.1) → (gAdd g ns).G a = g.G a
  | [], _, _ => rfl
  | q :: ns, a, h => by
    show upd (gAdd g ns).G q.1 q.2 a = _
    rw [upd_ne (fun e => h (by rw [e]; exact List.mem_cons_self)), gAdd_out fun z => h (List.mem_cons_of_mem _ z)]
theorem gAdd_in {g : Gh} : ∀ {ns : List (Addr × HO)} {q : Addr × HO}, (ns.map (·.1)).Nodup → q ∈ ns → (gAdd g ns).G q.1 = some q.2
  | p :: ns, q, hn, h => by
    show upd (gAdd g ns).G p.1 p.2 q.1 = _
    have hp := List.nodup_cons.mp (show (p.1 :: ns.map (·.1)).Nodup from hn)
    rcases List.mem_cons.mp h with rfl | h
    · exact upd_same
    · rw [upd_ne (fun (e : q.1 = p.1) => hp.1 (by rw [← e]; exact List.mem_map.mpr ⟨q, h, rfl⟩))]
      exact gAdd_in hp.2 h
section
variable {K : PySem.W.Frag} {c : Pc} {g : Gh} {H H' : Hp} {w w' : Wld} {cs ns fr : List (Addr × HO)} {i j : Nat}
theorem gAdd_le (h : ∀ q ∈ fr, g.G q.1 = none) : g.le (gAdd g fr) := by
  refine ⟨fun a o e => ?_, fun i q e => by rw [(gAdd_ms g fr).1]; exact e, fun i q e => by rw [(gAdd_ms g fr).2]; exact e⟩
  rw [gAdd_out]
  · exact e
  · intro z
    obtain ⟨q, hq, rfl⟩ := List.mem_map.mp z
    rw [h q hq] at e; cases e
theorem Wr.noG (W : Wr K c g H w) {a : Addr} (h : H a = none) : g.G a = none := by
  cases e : g.G a with
  | none => rfl
  | some o => rw [W.sub a o e] at h; cases h
theorem Wr.go (W : Wr K c g H w) (ch : Chg H H' cs ns) (hcs : ∀ a ∈ cs.map (·.1), a ∈ g.mu) (hal : ∀ q ∈ cs, ∃ o, H' q.1 = some o) (hfr : ∀ q ∈ fr, q ∈ ns) (hl : w'.ms.length = w.ms.length) (hss : w'.ss = w.ss)
    (hm : g.le (gAdd g fr) → ∀ (i : Nat) q m', g.ms[i]? = some q → w'.ms[i]? = some m' → MRep K c (gAdd g fr) H' q m') (hs : ∀ a ∈ g.ss, ∃ o, H' a = some o ∧ SrcO o) : Wr K c (gAdd g fr) H' w' ∧ Aft g H (gAdd g fr) H' := by
  have hnew : ∀ q ∈ fr, H q.1 = none := fun q hq => (ch.new (a := q.1) (o := q.2) (hfr q hq)).1
  have le := gAdd_le (g := g) fun q hq => W.noG (hnew q hq)
  have hG : ∀ a ∈ g.mu, g.G a = none := W.off
  have hout : ∀ a o, H a = some o → a ∉ fr.map (·.1) := fun a o e z => by
    obtain ⟨q, hq, rfl⟩ := List.mem_map.mp z
    rw [hnew q hq] at e; cases e
  have hnd := W.nd
  refine ⟨⟨fun a o e => ?_, by rw [gAdd_mu]; exact W.nd, fun a ha => ?_, by rw [(gAdd_ms g fr).1, hl]; exact W.mlen, fun i q m' h1 h2 => hm le i q m' (by rw [(gAdd_ms g fr).1] at h1; exact h1) h2, fun a ha => hs a (by rw [(gAdd_ms g fr).2] at ha; exact ha), by rw [(gAdd_ms g fr).2, hss]; exact W.nss⟩, le, fun a o e n => ?_, fun a o e => gAdd_out (hout a o e), fun a ha => by rw [gAdd_mu] at ha; exact .inl ha, fun a o e => ?_⟩
  · rcases gAdd_get e with z | z
    · exact (ch.new (hfr _ z)).2
    · refine ch.keep a o (W.sub a o z) fun q => ?_
      rw [hG a (hcs a q)] at z; cases z
  · rw [gAdd_mu] at ha
    obtain ⟨o, e⟩ := W.muAt ha
    rw [gAdd_out (hout a o e)]; exact hG a ha
  · exact ch.keep a o e fun q => n (hcs a q)
  · by_cases q : a ∈ cs.map (·.1)
    · obtain ⟨p, hp, rfl⟩ := List.mem_map.mp q
      exact hal p hp
    · exact ⟨o, ch.keep a o e q⟩
/-- only new things -/
theorem Wr.go0 (W : Wr K c g H w) (ch : Chg H H' [] ns) : Wr K c (gAdd g ns) H' w ∧ Aft g H (gAdd g ns) H' := by
  refine W.go ch (fun a h => nomatch h) (fun q h => nomatch h) (fun q h => h) rfl rfl (fun le i q m' h1 h2 => ?_) fun a ha => ?_
  · have h := W.mach i q m' h1 h2
    obtain ⟨vs, h3, _⟩ := h.wlk
    exact h.mono le (by rw [h.cnt]; exact ch.keep _ _ h.cnt (fun z => nomatch z)) (by rw [h3]; exact ch.keep _ _ h3 (fun z => nomatch z))
  · obtain ⟨o, h1, h2⟩ := W.srcs a ha
    exact ⟨o, ch.keep _ _ h1 (fun z => nomatch z), h2⟩
theorem Wr.goS (W : Wr K c g H w) (s : Same H H') : Wr K c g H' w ∧ Aft g H g H' := W.go0 (Chg.of_same s)
/-! the places are apart -/
theorem nd_map {α : Type} {f : α → Addr} : ∀ {l : List α} {i j : Nat} {x y : α}, (l.map f).Nodup → l[i]? = some x → l[j]? = some y → f x = f y → i = j
  | l, i, j, x, y, hn, h1, h2, e => by
    have g1 : (l.map f)[i]? = some (f x) := by rw [List.getElem?_map, h1]; rfl
    have g2 : (l.map f)[j]? = some (f x) := by rw [List.getElem?_map, h2, e]; rfl
    have hi : i < (l.map f).length := (List.getElem?_eq_some_iff.mp g1).1
    exact (List.getElem?_inj hi hn).mp (g1.trans g2.symm)
theorem Wr.dne (W : Wr K c g H w) {q p : Addr × Addr × Addr} (h1 : g.ms[i]? = some q) (h2 : g.ms[j]? = some p) (ne : i ≠ j) : q.2.1 ≠ p.2.1 := fun e => ne (nd_map (f := fun q : Addr × Addr × Addr => q.2.1) (List.nodup_append.mp W.nd).1 h1 h2 e)
theorem Wr.ene (W : Wr K c g H w) {q p : Addr × Addr × Addr} (h1 : g.ms[i]? = some q) (h2 : g.ms[j]? = some p) (ne : i ≠ j) : q.2.2 ≠ p.2.2 := fun e => ne (nd_map (f := fun q : Addr × Addr × Addr => q.2.2) (List.nodup_append.mp (List.nodup_append.mp W.nd).2.1).1 h1 h2 e)
theorem Wr.de (W : Wr K c g H w) {q p : Addr × Addr × Addr} (h1 : g.ms[i]? = some q) (h2 : g.ms[j]? = some p) : q.2.1 ≠ p.2.2 := fun e => (List.nodup_append.mp W.nd).2.2 q.2.1 (List.mem_map.mpr ⟨q, List.mem_of_getElem? h1, rfl⟩) p.2.2 (List.mem_append_left _ (List.mem_map.mpr ⟨p, List.mem_of_getElem? h2, rfl⟩)) e
theorem Wr.ds (W : Wr K c g H w) {q : Addr × Addr × Addr} {a : Addr} (h1 : g.ms[i]? = some q) (h2 : a ∈ g.ss) : q.2.1 ≠ a := fun e => (List.nodup_append.mp W.nd).2.2 q.2.1 (List.mem_map.mpr ⟨q, List.mem_of_getElem? h1, rfl⟩) a (List.mem_append_right _ h2) e
theorem Wr.es (W : Wr K c g H w) {q : Addr × Addr × Addr} {a : Addr} (h1 : g.ms[i]? = some q) (h2 : a ∈ g.ss) : q.2.2 ≠ a := fun e => (List.nodup_append.mp (List.nodup_append.mp W.nd).2.1).2.2 q.2.2 (List.mem_map.mpr ⟨q, List.mem_of_getElem? h1, rfl⟩) a h2 e
/-- machine i is now m -/
def Wld.put (w : Wld) (i : Nat) (m : Mach) : Wld := ⟨w.ms.set i m, w.ss⟩
/-- what is changed lies at machine i -/
theorem Wr.goM (W : Wr K c g H w) {q : Addr × Addr × Addr} {m : Mach} (hi : g.ms[i]? = some q) (ch : Chg H H' cs ns) (hcs : ∀ a ∈ cs.map (·.1), a = q.2.1 ∨ a = q.2.2) (hal : ∀ q ∈ cs, ∃ o, H' q.1 = some o) (hfr : ∀ q ∈ fr, q ∈ ns) (hm : g.le (gAdd g fr) → MRep K c (gAdd g fr) H' q m) : Wr K c (gAdd g fr) H' (w.put i m) ∧ Aft g H (gAdd g fr) H' := by
  refine W.go ch (fun a ha => ?_) hal hfr (by show (w.ms.set i m).length = _; rw [List.length_set]) rfl (fun le j p m' h1 h2 => ?_) fun a ha => ?_
  · rcases hcs a ha with rfl | rfl
    · exact mem_mu1 hi
    · exact mem_mu2 hi
  · rcases set_get (show (w.ms.set i m)[j]? = some m' from h2) with ⟨rfl, rfl⟩ | ⟨ne, h2'⟩
    · rw [hi] at h1; cases h1; exact hm le
    · have h := W.mach j p m' h1 h2'
      obtain ⟨vs, h3, _⟩ := h.wlk
      refine h.mono le ?_ ?_
      · rw [h.cnt]
        refine ch.keep _ _ h.cnt fun z => ?_
        rcases hcs _ z with e | e
        · exact W.dne h1 hi ne e
        · exact W.de h1 hi e
      · rw [h3]
        refine ch.keep _ _ h3 fun z => ?_
        rcases hcs _ z with e | e
        · exact W.de hi h1 e.symm
        · exact W.ene h1 hi ne e
  · obtain ⟨o, h1, h2⟩ := W.srcs a ha
    refine ⟨o, ch.keep _ _ h1 fun z => ?_, h2⟩
    rcases hcs _ z with e | e
    · exact W.ds hi ha e.symm
    · exact W.es hi ha e.symm
/-- a source's draws -/
theorem Wr.goR (W : Wr K c g H w) {a : Addr} {o : HO} (hi : g.ss[i]? = some a) (ch : Chg H H' [(a, o)] ns) (ho : SrcO o) (hfr : ∀ q ∈ fr, q ∈ ns) : Wr K c (gAdd g fr) H' w ∧ Aft g H (gAdd g fr) H' := by
  have hm := List.mem_of_getElem? hi
  refine W.go ch (fun b hb => ?_) (fun q hq => ?_) hfr rfl rfl (fun le j p m' h1 h2 => ?_) fun b hb => ?_
  · rw [List.mem_singleton.mp hb]; exact mem_mu3 hm
  · rw [List.mem_singleton.mp hq]; exact ⟨o, ch.chg List.mem_cons_self⟩
  · have h := W.mach j p m' h1 h2
    obtain ⟨vs, h3, _⟩ := h.wlk
    refine h.mono le ?_ ?_
    · rw [h.cnt]; exact ch.keep _ _ h.cnt fun z => W.ds h1 hm (List.mem_singleton.mp z)
    · rw [h3]; exact ch.keep _ _ h3 fun z => W.es h1 hm (List.mem_singleton.mp z)
  · by_cases e : b = a
    · subst e; exact ⟨o, ch.chg List.mem_cons_self, ho⟩
    · obtain ⟨o', h1, h2⟩ := W.srcs b hb
      exact ⟨o', ch.keep _ _ h1 fun z => e (List.mem_singleton.mp z), h2⟩
/-- a further machine -/
theorem Wr.addM (W : Wr K c g H w) {x dx d e : Addr} {b : Nat} {cut : Int} (hx : g.G x = some (.ins c.CMachine dx (mF b cut d e))) (hd : H d = some (.dK (cK zeros))) (he : H e = some (.lst [])) (nd : d ∉ g.mu) (ne : e ∉ g.mu) (gd : g.G d = none) (ge : g.G e = none) : Wr K c ⟨g.G, g.ms ++ [(x, d, e)], g.ss⟩ H ⟨w.ms ++ [⟨b, cut, zeros, []⟩], w.ss⟩ := by
  have de : d ≠ e := fun z => by rw [z, he] at hd; cases hd
  have le : g.le ⟨g.G, g.ms ++ [(x, d, e)], g.ss⟩ := ⟨fun _ _ h => h, fun i q h => by
    show (g.ms ++ [(x, d, e)])[i]? = some q
    rw [List.getElem?_append_left (List.getElem?_eq_some_iff.mp h).1]; exact h, fun _ _ h => h⟩
  have hmu : (⟨g.G, g.ms ++ [(x, d, e)], g.ss⟩ : Gh).mu.Perm (d :: e :: g.mu) := by
    unfold Gh.mu
    simp only [List.map_append, List.map_cons, List.map_nil, List.append_assoc, List.cons_append, List.nil_append]
    refine List.perm_middle.trans (List.Perm.cons _ ?_)
    rw [← List.append_assoc]
    refine List.perm_middle.trans (List.Perm.cons _ ?_)
    rw [List.append_assoc]
  refine ⟨W.sub, hmu.nodup_iff.mpr (List.nodup_cons.mpr ⟨fun z => ?_, List.nodup_cons.mpr ⟨ne, W.nd⟩⟩), fun a ha => ?_, by show (g.ms ++ [(x, d, e)]).length = (w.ms ++ [_]).length; simp only [List.length_append, W.mlen]; rfl, fun i q m h1 h2 => ?_, W.srcs, W.nss⟩
  · rcases List.mem_cons.mp z with z | z
    · exact de z
    · exact nd z
  · rcases List.mem_cons.mp (hmu.mem_iff.mp ha) with rfl | z
    · exact gd
    · rcases List.mem_cons.mp z with rfl | z
      · exact ge
      · exact W.off a z
  · by_cases hi : i < g.ms.length
    · have h1 : (g.ms ++ [(x, d, e)])[i]? = some q := h1
      have h2 : (w.ms ++ [_])[i]? = some m := h2
      rw [List.getElem?_append_left hi] at h1
      rw [List.getElem?_append_left (by rw [← W.mlen]; exact hi)] at h2
      exact (W.mach i q m h1 h2).mono le rfl rfl
    · have h1 : (g.ms ++ [(x, d, e)])[i]? = some q := h1
      have h2 : (w.ms ++ [_])[i]? = some m := h2
      have hlt := (List.getElem?_eq_some_iff.mp h1).1
      simp only [List.length_append, List.length_cons, List.length_nil] at hlt
      have hi' : i = g.ms.length := by omega
      subst hi'
      rw [List.getElem?_concat_length] at h1
      rw [W.mlen, List.getElem?_concat_length] at h2
      cases h1; cases h2
      exact ⟨⟨dx, hx⟩, hd, rfl, ⟨[], he, .nil⟩, Nat.zero_le _⟩
/-- a further source -/
theorem Wr.addS (W : Wr K c g H w) {a : Addr} {o : HO} (ha : H a = some o) (ho : SrcO o) (na : a ∉ g.mu) (ga : g.G a = none) : Wr K c ⟨g.G, g.ms, g.ss ++ [a]⟩ H ⟨w.ms, w.ss + 1⟩ := by
  have le : g.le ⟨g.G, g.ms, g.ss ++ [a]⟩ := ⟨fun _ _ h => h, fun _ _ h => h, fun i q h => by
    show (g.ss ++ [a])[i]? = some q
    rw [List.getElem?_append_left (List.getElem?_eq_some_iff.mp h).1]; exact h⟩
  have hmu : (⟨g.G, g.ms, g.ss ++ [a]⟩ : Gh).mu.Perm (a :: g.mu) := by
    unfold Gh.mu
    rw [← List.append_assoc, ← List.append_assoc, ← List.append_assoc]
    exact List.perm_append_singleton _ _
  refine ⟨W.sub, hmu.nodup_iff.mpr (List.nodup_cons.mpr ⟨na, W.nd⟩), fun b hb => ?_, W.mlen, fun i q m h1 h2 => (W.mach i q m h1 h2).mono le rfl rfl, fun b hb => ?_, by show (g.ss ++ [a]).length = _; rw [List.length_append, W.nss]; rfl⟩
  · rcases List.mem_cons.mp (hmu.mem_iff.mp hb) with rfl | z
    · exact ga
    · exact W.off b z
  · rcases List.mem_append.mp hb with z | z
    · exact W.srcs b z
    · rw [List.mem_singleton.mp z]; exact ⟨o, ha, ho⟩
end
end Pu

/-! Mch2: promises over data of machines, Bigs and draws. -/
namespace Pu
open PySem L2 Eng
/-! ### machines -/
def Mach.cnt (m : Mach) (j : Nat) (v : Int) : Mach := { m with ns := m.ns.modify j (· + v) }
def Mach.ent (m : Mach) (s : Str) (a b : Int) : Mach := { m with walk := if m.walk.length < 1000 then m.walk ++ [(s, a, b)] else m.walk }
def Mach.rst (m : Mach) : Mach := { m with ns := zeros, walk := [] }
def P_Machine_count : PSp := fun ds w k => match ds with
  | [.mach i, .str s, .int v] => onM w i fun m => ∃ j, words[j]? = some s ∧ k .non (w.put i (m.cnt j v))
  | _ => False
def P_Machine_reset : PSp := fun ds w k => match ds with
  | [.mach i] => onM w i fun m => k .non (w.put i m.rst)
  | _ => False
def P_Machine_parts : PSp := fun ds w k => match ds with
  | [.mach i] => onM w i fun m => k (.tup [.int (m.b : Int), .int m.cut]) w
  | _ => False
def P_Machine_walk : PSp := fun ds w k => match ds with
  | [.mach i] => onM w i fun m => k (.lst (m.walk.map dW)) w
  | _ => False
def dRows (ns : List Int) : List Dat := List.zipWith (fun (s : Str) n => Dat.tup [.str s, .int n]) words ns
def P_Machine_tally : PSp := fun ds w k => match ds with
  | [.mach i] => onM w i fun m => k (.lst (dRows m.ns)) w
  | _ => False
def P_check_machine : PSp := fun ds w k => match ds with
  | [.mach i] => onM w i fun _ => k .non w
  | _ => False
section
variable {K : PySem.W.Frag} {c : Pc}
theorem modify_set {ns : List Int} {j : Nat} {v : Int} (h : j < ns.length) : ns.set j (ns[j] + v) = ns.modify j (· + v) := by
  apply List.ext_getElem?
  intro i
  rw [List.getElem?_modify, List.getElem?_set]
  by_cases e : j = i
  · subst e; simp [h]
  · simp [e]
theorem one_arg {g : Gh} {vs : List V} {d : Dat} (r : Reps K c g vs [d]) : ∃ v, vs = [v] ∧ Rep K c g v d := by
  cases r with
  | cons r t => cases t; exact ⟨_, rfl, r⟩
theorem two_arg {g : Gh} {vs : List V} {d e : Dat} (r : Reps K c g vs [d, e]) : ∃ v v', vs = [v, v'] ∧ Rep K c g v d ∧ Rep K c g v' e := by
  cases r with
  | cons r t =>
    obtain ⟨v, rfl, h⟩ := one_arg t
    exact ⟨_, _, rfl, r, h⟩
theorem three_arg {g : Gh} {vs : List V} {d e f : Dat} (r : Reps K c g vs [d, e, f]) : ∃ v v' v'', vs = [v, v', v''] ∧ Rep K c g v d ∧ Rep K c g v' e ∧ Rep K c g v'' f := by
  cases r with
  | cons r t =>
    obtain ⟨v, v', rfl, h, h'⟩ := two_arg t
    exact ⟨_, _, _, rfl, r, h, h'⟩
theorem u_Machine_count : SndP K c (sp_Machine_count K c) P_Machine_count := by
  intro g H w vs ds k Q E W r h hQ
  unfold P_Machine_count at h
  split at h
  · rename_i i s v
    obtain ⟨m, hm, j, hj, h⟩ := onM_of h
    obtain ⟨a, b, d, rfl, r1, r2, r3⟩ := three_arg r
    obtain ⟨q, m', dx, hq, hm', rfl, hi, M⟩ := W.ins r1
    rw [hm] at hm'; cases hm'
    have hlt : j < m.ns.length := by rw [M.ten]; exact (List.getElem?_eq_some_iff.mp hj).1
    refine ⟨q.1, dx, m.b, m.cut, q.2.1, q.2.2, m.ns, s, j, m.ns[j]'hlt, v, by rw [r2.strI, r3.intI], hi, M.cnt, M.ten, hj, List.getElem?_eq_getElem hlt, fun H' ch => ?_⟩
    have e : m.ns.set j (m.ns[j]'hlt + v) = m.ns.modify j (· + v) := modify_set hlt
    rw [e] at ch
    obtain ⟨vs, hw1, hw2⟩ := M.wlk
    obtain ⟨W', A⟩ := W.goM (fr := []) (m := m.cnt j v) hq ch (fun a ha => .inl (List.mem_singleton.mp ha)) (fun q hq => by rw [List.mem_singleton.mp hq]; exact ⟨_, ch.chg List.mem_cons_self⟩) (fun _ z => nomatch z) fun _ => ⟨M.ins, ch.chg List.mem_cons_self, by show (m.ns.modify j _).length = 10; rw [List.length_modify]; exact M.ten, ⟨vs, ch.keep _ _ hw1 fun z => W.de hq hq (List.mem_singleton.mp z).symm, hw2⟩, M.few⟩
    exact hQ .non .non g H' _ A W' .non h
  · exact h.elim
theorem u_Machine_reset : SndP K c (sp_Machine_reset K c) P_Machine_reset := by
  intro g H w vs ds k Q E W r h hQ
  unfold P_Machine_reset at h
  split at h
  · rename_i i
    obtain ⟨m, hm, h⟩ := onM_of h
    obtain ⟨a, rfl, r1⟩ := one_arg r
    obtain ⟨q, m', dx, hq, hm', rfl, hi, M⟩ := W.ins r1
    rw [hm] at hm'; cases hm'
    obtain ⟨vs, hw1, hw2⟩ := M.wlk
    refine ⟨q.1, dx, m.b, m.cut, q.2.1, q.2.2, m.ns, vs, rfl, hi, M.cnt, M.ten, hw1, fun H' ch => ?_⟩
    obtain ⟨W', A⟩ := W.goM (fr := []) (m := m.rst) hq ch (fun a ha => by
      simp only [List.map_cons, List.map_nil, List.mem_cons, List.not_mem_nil, or_false] at ha
      exact ha) (fun q hq => ⟨q.2, ch.chg hq⟩) (fun _ z => nomatch z) fun _ => ⟨M.ins, ch.chg List.mem_cons_self, rfl, ⟨[], ch.chg (List.mem_cons_of_mem _ List.mem_cons_self), .nil⟩, Nat.zero_le _⟩
    exact hQ .non .non g H' _ A W' .non h
  · exact h.elim
theorem u_Machine_parts : SndP K c (sp_Machine_parts K c) P_Machine_parts := by
  intro g H w vs ds k Q E W r h hQ
  unfold P_Machine_parts at h
  split at h
  · rename_i i
    obtain ⟨m, hm, h⟩ := onM_of h
    obtain ⟨a, rfl, r1⟩ := one_arg r
    obtain ⟨q, m', dx, hq, hm', rfl, hi, M⟩ := W.ins r1
    rw [hm] at hm'; cases hm'
    refine ⟨q.1, dx, m.b, m.cut, q.2.1, q.2.2, rfl, hi, fun p H' ch => ?_⟩
    obtain ⟨W', A⟩ := W.go0 ch
    exact hQ _ _ _ H' w A W' (.tup (gAdd_in (q := (p, _)) ch.nd List.mem_cons_self) (.cons (.int _) (.cons (.int _) .nil))) h
  · exact h.elim
theorem u_Machine_walk : SndP K c (sp_Machine_walk K c) P_Machine_walk := by
  intro g H w vs ds k Q E W r h hQ
  unfold P_Machine_walk at h
  split at h
  · rename_i i
    obtain ⟨m, hm, h⟩ := onM_of h
    obtain ⟨a, rfl, r1⟩ := one_arg r
    obtain ⟨q, m', dx, hq, hm', rfl, hi, M⟩ := W.ins r1
    rw [hm] at hm'; cases hm'
    obtain ⟨vs, hw1, hw2⟩ := M.wlk
    refine ⟨q.1, dx, m.b, m.cut, q.2.1, q.2.2, vs, rfl, hi, hw1, fun p H' ch => ?_⟩
    obtain ⟨W', A⟩ := W.go0 ch
    exact hQ _ _ _ H' w A W' (.lst (gAdd_in (q := (p, _)) ch.nd List.mem_cons_self) (hw2.mono A.le)) h
  · exact h.elim
theorem reps_rows {g : Gh} : ∀ {ws : List Str} {ns : List Int} {ps : List Addr} {n : Nat}, ws.length = n → ns.length = n → ps.length = n → (∀ (i : Nat) p t, ps[i]? = some p → (List.zipWith (fun (w : Str) n => [V.str w, V.int n]) ws ns)[i]? = some t → g.G p = some (.tup t)) → Reps K c g (ps.map V.ref) (List.zipWith (fun (s : Str) n => Dat.tup [.str s, .int n]) ws ns)
  | [], [], [], _, _, _, _, _ => .nil
  | s :: ws, m :: ns, p :: ps, n + 1, h1, h2, h3, h => .cons (.tup (h 0 p _ rfl rfl) (.cons (.str _) (.cons (.int _) .nil))) (reps_rows (n := n) (by simpa using h1) (by simpa using h2) (by simpa using h3) fun i q t e1 e2 => h (i + 1) q t e1 e2)
  | [], _ :: _, _, 0, _, h, _, _ => by simp at h
  | [], [], _ :: _, 0, _, _, h, _ => by simp at h
  | _ :: _, _, _, 0, h, _, _, _ => by simp at h
  | [], _, _, _ + 1, h, _, _, _ => by simp at h
  | _ :: _, [], _, _ + 1, _, h, _, _ => by simp at h
  | _ :: _, _ :: _, [], _ + 1, _, _, h, _ => by simp at h
theorem u_Machine_tally : SndP K c (sp_Machine_tally K c) P_Machine_tally := by
  intro g H w vs ds k Q E W r h hQ
  unfold P_Machine_tally at h
  split at h
  · rename_i i
    obtain ⟨m, hm, h⟩ := onM_of h
    obtain ⟨a, rfl, r1⟩ := one_arg r
    obtain ⟨q, m', dx, hq, hm', rfl, hi, M⟩ := W.ins r1
    rw [hm] at hm'; cases hm'
    refine ⟨q.1, dx, m.b, m.cut, q.2.1, q.2.2, m.ns, rfl, hi, M.cnt, M.ten, fun p ps H' hl ch => ?_⟩
    obtain ⟨W', A⟩ := W.go0 ch
    refine hQ _ _ _ H' w A W' (.lst (gAdd_in (q := (p, _)) ch.nd List.mem_cons_self) ?_) h
    refine reps_rows (n := 10) rfl M.ten hl fun i p' t e1 e2 => ?_
    exact gAdd_in (q := (p', HO.tup t)) ch.nd (List.mem_cons_of_mem _ (tl2_mem e1 e2))
  · exact h.elim
theorem u_check_machine : SndP K c (sp_check_machine K c) P_check_machine := by
  intro g H w vs ds k Q E W r h hQ
  unfold P_check_machine at h
  split at h
  · rename_i i
    obtain ⟨m, hm, h⟩ := onM_of h
    obtain ⟨a, rfl, r1⟩ := one_arg r
    obtain ⟨q, m', dx, hq, hm', rfl, hi, M⟩ := W.ins r1
    exact ⟨q.1, dx, _, rfl, hi, hQ _ _ g H w (Aft.refl _ _) W .non h⟩
  · exact h.elim
/-! ### fields of a machine -/
variable {ta : TE} {pa : PE} {tr : TA} {pr : PA} {E : XK}
theorem snd_widthM (PM : PM K c) (ha : SndE K c ta pa) : SndE K c (tFld K ta "width") (pWidthM pa) := by
  intro X F σ s k Q I h hQ
  refine ha X F σ s _ _ I h fun x dx s1 l1 I1 r1 h' => ?_
  cases dx with
  | mach i =>
    obtain ⟨m, hm, h'⟩ := onM_of h'
    obtain ⟨q, m', dx, hq, hm', rfl, hi, M⟩ := I1.wr.ins r1
    rw [hm] at hm'; cases hm'
    exact rd_Mwidth PM hi (hQ _ _ s1 l1 I1 (.int _) h')
  | _ => exact h'.elim
theorem snd_base (PM : PM K c) (ha : SndE K c ta pa) : SndE K c (tFld K ta "base") (pBase pa) := by
  intro X F σ s k Q I h hQ
  refine ha X F σ s _ _ I h fun x dx s1 l1 I1 r1 h' => ?_
  cases dx with
  | mach i =>
    obtain ⟨m, hm, h'⟩ := onM_of h'
    obtain ⟨q, m', dx, hq, hm', rfl, hi, M⟩ := I1.wr.ins r1
    rw [hm] at hm'; cases hm'
    exact rd_Mbase PM hi (hQ _ _ s1 l1 I1 (.int _) h')
  | _ => exact h'.elim
theorem snd_cut (PM : PM K c) (ha : SndE K c ta pa) : SndE K c (tFld K ta "limit_of_rows") (pCut pa) := by
  intro X F σ s k Q I h hQ
  refine ha X F σ s _ _ I h fun x dx s1 l1 I1 r1 h' => ?_
  cases dx with
  | mach i =>
    obtain ⟨m, hm, h'⟩ := onM_of h'
    obtain ⟨q, m', dx, hq, hm', rfl, hi, M⟩ := I1.wr.ins r1
    rw [hm] at hm'; cases hm'
    exact rd_Mlimit PM hi (hQ _ _ s1 l1 I1 (.int _) h')
  | _ => exact h'.elim
/-! ### Machine(bits, cutoff) -/
def P_Machine : PSp := fun ds w k => match ds with
  | [.int b, .int cut] => (8 ≤ b ∧ b ≤ 30 ∧ 2 ≤ cut ∧ cut ≤ 1000) ∧ k (.mach w.ms.length) ⟨w.ms ++ [⟨b.toNat, cut, zeros, []⟩], w.ss⟩
  | _ => False
theorem snd_mkM {dv : List V} {dd : List Dat} (hd : ∀ g : Gh, Reps K c g dv dd) (hr : SndA K c tr pr) : SndE K c (tMake c.CMachine (sp_Machine_init K c) dv E tr) (pCallD P_Machine dd pr) := by
  intro X F σ s k Q I h hQ
  refine hr X F σ s _ _ I h fun vs ds s1 l1 I1 r1 h1 => ?_
  intro x dx nx ndx nex
  have r2 := r1.app (hd s1.g)
  generalize hvs : vs ++ dv = us at r2
  generalize hds : ds ++ dd = es at r2 h1
  unfold P_Machine at h1
  split at h1
  · rename_i b cut
    obtain ⟨⟨b1, b2, c1, c2⟩, h1⟩ := h1
    obtain ⟨v, v', rfl, e1, e2⟩ := two_arg r2
    obtain ⟨b', rfl⟩ : ∃ b' : Nat, b = (b' : Int) := ⟨b.toNat, by omega⟩
    refine ⟨x, dx, b', cut, by rw [e1.intI, e2.intI], by omega, by omega, c1, c2, upd_same, fun d e H' ch => ⟨rfl, ?_⟩⟩
    have W := I1.wr
    have hnx : dx ≠ x := nex
    -- what is new: the object, its counts, its walk
    have hx' : H' x = some (.ins c.CMachine dx (mF b' cut d e)) := ch.chg List.mem_cons_self
    have hd0 := ch.new (a := d) (o := .dK (cK zeros)) List.mem_cons_self
    have he0 := ch.new (a := e) (o := .lst []) (List.mem_cons_of_mem _ List.mem_cons_self)
    have hdx : d ≠ x := fun z => by rw [z, upd_same] at hd0; cases hd0.1
    have hex : e ≠ x := fun z => by rw [z, upd_same] at he0; cases he0.1
    have hddx : d ≠ dx := fun z => by rw [z, upd_ne hnx, upd_same] at hd0; cases hd0.1
    have hedx : e ≠ dx := fun z => by rw [z, upd_ne hnx, upd_same] at he0; cases he0.1
    have hd1 : s1.H d = none := by have := hd0.1; rwa [upd_ne hdx, upd_ne hddx] at this
    have he1 : s1.H e = none := by have := he0.1; rwa [upd_ne hex, upd_ne hedx] at this
    have kp : ∀ a o, s1.H a = some o → H' a = some o := fun a o z => by
      have n1 : a ≠ x := fun y => by rw [y, nx] at z; cases z
      have n2 : a ≠ dx := fun y => by rw [y, ndx] at z; cases z
      refine ch.keep a o (by rw [upd_ne n1, upd_ne n2]; exact z) fun y => n1 (List.mem_singleton.mp y)
    have ch' : Chg s1.H H' [] [(x, .ins c.CMachine dx (mF b' cut d e))] := ⟨(fun z => nomatch z), fun z => by cases List.mem_singleton.mp z; exact ⟨nx, hx'⟩, by simp, fun a o z _ => kp a o z⟩
    obtain ⟨W1, A1⟩ := W.go0 ch'
    have hgx : (gAdd s1.g [(x, HO.ins c.CMachine dx (mF b' cut d e))]).G x = some (.ins c.CMachine dx (mF b' cut d e)) := gAdd_in (q := (x, _)) ch'.nd List.mem_cons_self
    have hmu : (gAdd s1.g [(x, HO.ins c.CMachine dx (mF b' cut d e))]).mu = s1.g.mu := gAdd_mu _ _
    have W2 := W1.addM hgx hd0.2 he0.2 (by rw [hmu]; exact fun z => by obtain ⟨o, e⟩ := W.muAt z; rw [hd1] at e; cases e) (by rw [hmu]; exact fun z => by obtain ⟨o, e⟩ := W.muAt z; rw [he1] at e; cases e) (by
      rw [gAdd_out (by simp only [List.map_cons, List.map_nil, List.mem_singleton]; exact hdx)]; exact W.noG hd1) (by
      rw [gAdd_out (by simp only [List.map_cons, List.map_nil, List.mem_singleton]; exact hex)]; exact W.noG he1)
    have le2 : (gAdd s1.g [(x, HO.ins c.CMachine dx (mF b' cut d e))]).le ⟨(gAdd s1.g [(x, HO.ins c.CMachine dx (mF b' cut d e))]).G, (gAdd s1.g [(x, HO.ins c.CMachine dx (mF b' cut d e))]).ms ++ [(x, d, e)], (gAdd s1.g [(x, HO.ins c.CMachine dx (mF b' cut d e))]).ss⟩ := ⟨fun _ _ h => h, fun i q h => by
      show (_ ++ [(x, d, e)])[i]? = some q
      rw [List.getElem?_append_left (List.getElem?_eq_some_iff.mp h).1]; exact h, fun _ _ h => h⟩
    have A2 : Aft s1.g s1.H ⟨(gAdd s1.g [(x, HO.ins c.CMachine dx (mF b' cut d e))]).G, (gAdd s1.g [(x, HO.ins c.CMachine dx (mF b' cut d e))]).ms ++ [(x, d, e)], (gAdd s1.g [(x, HO.ins c.CMachine dx (mF b' cut d e))]).ss⟩ H' := by
      refine ⟨A1.le.trans le2, A1.keep, A1.frz, fun a ha => ?_, A1.dom⟩
      unfold Gh.mu at ha
      simp only [List.map_append, List.map_cons, List.map_nil, List.mem_append, List.mem_singleton] at ha
      have hin : a ∈ (gAdd s1.g [(x, HO.ins c.CMachine dx (mF b' cut d e))]).mu ∨ a = d ∨ a = e := by
        unfold Gh.mu
        simp only [List.mem_append]
        rcases ha with (z | z) | (z | z) | z
        · exact .inl (.inl z)
        · exact .inr (.inl z)
        · exact .inl (.inr (.inl z))
        · exact .inr (.inr z)
        · exact .inl (.inr (.inr z))
      rcases hin with z | rfl | rfl
      · exact A1.new a z
      · exact .inr hd1
      · exact .inr he1
    have hlen : (gAdd s1.g [(x, HO.ins c.CMachine dx (mF b' cut d e))]).ms.length = s1.w.ms.length := W1.mlen
    refine hQ (.ref x) (.mach s1.w.ms.length) ⟨_, H', s1.e, _, s1.os⟩ (l1.trans A2.le) (I1.call A2 W2) ?_ (by
      have e3 : ((b' : Int)).toNat = b' := by omega
      rw [e3] at h1; exact h1)
    exact Rep.mach (q := (x, d, e)) (by
      show ((gAdd s1.g [(x, HO.ins c.CMachine dx (mF b' cut d e))]).ms ++ [(x, d, e)])[s1.w.ms.length]? = _
      rw [← hlen, List.getElem?_concat_length])
  · exact h1.elim
end
end Pu

/-! Mch3: promises over data of Bigs and draws. -/
namespace Pu
open PySem L2 Eng
def P_made : PSp := fun ds w k => match ds with
  | [.mach i, .int s, .lst l] => onM w i fun m => ∃ es : List Nat, l = dN es ∧ m.b ≠ 0 ∧ Digs m.b es ∧ es.length < 2 ^ 23 ∧ sgnOk s (val m.b es) ∧ k (.big m.b (s * (val m.b es : Nat))) w
  | _ => False
def P_big_of : PSp := fun ds w k => match ds with
  | [.mach i, .int n] => onM w i fun m => m.b ≠ 0 ∧ (digs m.b n.natAbs).length < 2 ^ 23 ∧ k (.big m.b n) w
  | _ => False
def P_value_of : PSp := fun ds w k => match ds with
  | [.big b n] => bigL b n ∧ k (.int n) w
  | _ => False
def P_check_any : PSp := fun ds w k => match ds with
  | [.big _ _] => k .non w
  | _ => False
def P_check_big : PSp := fun ds w k => match ds with
  | [.mach i, .str _, .big b _] => onM w i fun m => m.b = b ∧ k .non w
  | _ => False
def P_check_bigs : PSp := fun ds w k => match ds with
  | [.mach i, .big b _, .big b' _] => onM w i fun m => m.b = b ∧ m.b = b' ∧ k .non w
  | _ => False
def P_is_compact : PSp := fun ds w k => match ds with
  | [.big b n] => k (.bl (decide ((digs b n.natAbs).length ≤ 1))) w
  | _ => False
def P_Big_sign : PSp := fun ds w k => match ds with
  | [.big _ n] => k (.int (sgn n)) w
  | _ => False
def P_Big_bits : PSp := fun ds w k => match ds with
  | [.big b _] => k (.int (b : Int)) w
  | _ => False
def P_Big_digits : PSp := fun ds w k => match ds with
  | [.big b n] => k (.lst (dN (digs b n.natAbs))) w
  | _ => False
def P_bit_length : PSp := fun ds w k => match ds with
  | [.big b n] => bigL b n ∧ k (.int (Builtin.Int.intBits n : Nat)) w
  | _ => False
def P_is_digits : PSp := fun ds w k => match ds with
  | [.mach i, .lst l] => onM w i fun m => ∃ es : List Nat, l = dN es ∧ Digs m.b es ∧ es.length < 2 ^ 23 ∧ k (.bl true) w
  | _ => False
section
variable {K : PySem.W.Frag} {c : Pc} {tr : TA} {pr : PA} {E : XK} {ta : TE} {pa : PE}
theorem Wr.bigAt {g : Gh} {H : Hp} {w : Wld} (W : Wr K c g H w) {v : V} {b : Nat} {n : Int} (h : Rep K c g v (.big b n)) : ∃ a, v = .ref a ∧ BigAt c H a b n := by
  cases h with
  | big h => exact ⟨_, rfl, bigAt_mono W.sub h⟩
theorem Wr.lstAt {g : Gh} {H : Hp} {w : Wld} (W : Wr K c g H w) {v : V} {l : List Dat} (h : Rep K c g v (.lst l)) : ∃ a vs, v = .ref a ∧ H a = some (.lst vs) ∧ Reps K c g vs l := by
  cases h with
  | lst h r => exact ⟨_, _, rfl, W.sub _ _ h, r⟩
theorem newBig_rep {g : Gh} {H H' : Hp} {x dx r : Addr} {b : Nat} {n : Int} {s : Int} {ds : List Nat} (ch : Chg H H' [] [(x, .ins c.CBig dx (bF b s r)), (r, .tup (iN ds))]) (hs : s = sgn n) (hd : ds = digs b n.natAbs) : Rep K c (gAdd g [(x, HO.ins c.CBig dx (bF b s r)), (r, .tup (iN ds))]) (.ref x) (.big b n) := by
  subst hs; subst hd
  exact .big ⟨dx, r, gAdd_in (q := (x, _)) ch.nd List.mem_cons_self, gAdd_in (q := (r, _)) ch.nd (List.mem_cons_of_mem _ List.mem_cons_self)⟩
theorem sgn_mul {s : Int} {v : Nat} {ds : List Nat} {b : Nat} (hb : b ≠ 0) (hd : Digs b ds) (hs : sgnOk s (val b ds)) : (if strip ds = [] then 0 else s) = sgn (s * (val b ds : Nat)) ∧ strip ds = digs b (s * (val b ds : Nat)).natAbs := by
  have e3 : (s * (val b ds : Nat)).natAbs = val b ds := by
    rcases hs with rfl | rfl | ⟨rfl, z⟩ <;> omega
  have e4 : digs b (val b ds) = strip ds := by rw [← val_strip b ds, digs_val hb (fun d z => hd d (strip_mem z)) (strip_norm ds)]
  refine ⟨?_, by rw [e3, e4]⟩
  by_cases h0 : strip ds = []
  · rw [if_pos h0]
    have : val b ds = 0 := by rw [← val_strip, h0]; rfl
    rw [this]; simp [sgn]
  · rw [if_neg h0]
    have hv : val b ds ≠ 0 := fun z => h0 (by rw [← e4, z]; unfold digs; simp)
    unfold sgn
    rcases hs with rfl | rfl | ⟨rfl, z⟩
    · rw [if_neg (by omega), if_neg (by omega)]
    · rw [if_pos (by omega)]
    · exact absurd z hv
theorem u_made : SndP K c (sp_made K c) P_made := by
  intro g H w vs ds k Q E W r h hQ
  unfold P_made at h
  split at h
  · rename_i i s l
    obtain ⟨m, hm, es, rfl, hb, hd, hl, hs, h⟩ := onM_of h
    obtain ⟨a, b, d, rfl, r1, r2, r3⟩ := three_arg r
    obtain ⟨q, m', dx, hq, hm', rfl, hi, M⟩ := W.ins r1
    rw [hm] at hm'; cases hm'
    obtain ⟨a, ws, rfl, hH, hR⟩ := W.lstAt r3
    have := reps_iN hR
    subst this
    refine ⟨q.1, dx, m.b, m.cut, q.2.1, q.2.2, s, a, es, by rw [r2.intI], hi, hH, hl, fun x dx' r H' ch => ?_⟩
    obtain ⟨W', A⟩ := W.go0 ch
    obtain ⟨e1, e2⟩ := sgn_mul (v := 0) hb hd hs
    exact hQ _ _ _ H' w A W' (newBig_rep ch e1 e2) h
  · exact h.elim
theorem u_big_of : SndP K c (sp_big_of K c) P_big_of := by
  intro g H w vs ds k Q E W r h hQ
  unfold P_big_of at h
  split at h
  · rename_i i n
    obtain ⟨m, hm, hb, hl, h⟩ := onM_of h
    obtain ⟨a, b, rfl, r1, r2⟩ := two_arg r
    obtain ⟨q, m', dx, hq, hm', rfl, hi, M⟩ := W.ins r1
    rw [hm] at hm'; cases hm'
    refine ⟨q.1, dx, m.b, m.cut, q.2.1, q.2.2, n, by rw [r2.intI], hi, hb, hl, fun x dx' r H' ch => ?_⟩
    obtain ⟨W', A⟩ := W.go0 ch
    exact hQ _ _ _ H' w A W' (newBig_rep ch rfl rfl) h
  · exact h.elim
def P_big : PSp := P_big_of
theorem u_big : SndP K c (sp_big K c) P_big := u_big_of
theorem u_value_of : SndP K c (sp_value_of K c) P_value_of := by
  intro g H w vs ds k Q E W r h hQ
  unfold P_value_of at h
  split at h
  · rename_i b n
    obtain ⟨v, rfl, r1⟩ := one_arg r
    obtain ⟨a, rfl, hB⟩ := W.bigAt r1
    exact ⟨a, b, n, rfl, hB, h.1, fun H' s => hQ _ _ g H' w (W.goS s).2 (W.goS s).1 (.int _) h.2⟩
  · exact h.elim
def P_plain : PSp := P_value_of
theorem u_plain : SndP K c (sp_plain K c) P_plain := u_value_of
theorem u_check_any : SndP K c (sp_check_any K c) P_check_any := by
  intro g H w vs ds k Q E W r h hQ
  unfold P_check_any at h
  split at h
  · obtain ⟨v, rfl, r1⟩ := one_arg r
    obtain ⟨a, rfl, hB⟩ := W.bigAt r1
    obtain ⟨dx, r, h1, _⟩ := hB.at_
    exact ⟨a, dx, _, rfl, h1, hQ _ _ g H w (Aft.refl _ _) W .non h⟩
  · exact h.elim
theorem u_check_big : SndP K c (sp_check_big K c) P_check_big := by
  intro g H w vs ds k Q E W r h hQ
  unfold P_check_big at h
  split at h
  · rename_i i s b n
    replace h := onM_of h
    obtain ⟨m, hm, rfl, h⟩ := h
    obtain ⟨a, v', d, rfl, r1, r2, r3⟩ := three_arg r
    obtain ⟨q, m', dx, hq, hm', rfl, hi, M⟩ := W.ins r1
    rw [hm] at hm'; cases hm'
    obtain ⟨a, rfl, hB⟩ := W.bigAt r3
    exact ⟨q.1, dx, m.b, m.cut, q.2.1, q.2.2, s, a, n, by rw [r2.strI], hi, hB, hQ _ _ g H w (Aft.refl _ _) W .non h⟩
  · exact h.elim
theorem u_check_bigs : SndP K c (sp_check_bigs K c) P_check_bigs := by
  intro g H w vs ds k Q E W r h hQ
  unfold P_check_bigs at h
  split at h
  · rename_i i b n b' n'
    replace h := onM_of h
    obtain ⟨m, hm, rfl, rfl, h⟩ := h
    obtain ⟨a, v', d, rfl, r1, r2, r3⟩ := three_arg r
    obtain ⟨q, m', dx, hq, hm', rfl, hi, M⟩ := W.ins r1
    rw [hm] at hm'; cases hm'
    obtain ⟨a, rfl, hB⟩ := W.bigAt r2
    obtain ⟨a', rfl, hB'⟩ := W.bigAt r3
    exact ⟨q.1, dx, m.b, m.cut, q.2.1, q.2.2, a, a', n, n', rfl, hi, hB, hB', hQ _ _ g H w (Aft.refl _ _) W .non h⟩
  · exact h.elim
theorem u_is_compact : SndP K c (sp_is_compact K c) P_is_compact := by
  intro g H w vs ds k Q E W r h hQ
  unfold P_is_compact at h
  split at h
  · rename_i b n
    obtain ⟨v, rfl, r1⟩ := one_arg r
    obtain ⟨a, rfl, hB⟩ := W.bigAt r1
    exact ⟨a, b, n, rfl, hB, hQ _ _ g H w (Aft.refl _ _) W (.bl _) h⟩
  · exact h.elim
theorem u_Big_sign : SndP K c (sp_Big_sign K c) P_Big_sign := by
  intro g H w vs ds k Q E W r h hQ
  unfold P_Big_sign at h
  split at h
  · rename_i b n
    obtain ⟨v, rfl, r1⟩ := one_arg r
    obtain ⟨a, rfl, hB⟩ := W.bigAt r1
    exact ⟨a, b, n, rfl, hB, hQ _ _ g H w (Aft.refl _ _) W (.int _) h⟩
  · exact h.elim
theorem u_Big_bits : SndP K c (sp_Big_bits K c) P_Big_bits := by
  intro g H w vs ds k Q E W r h hQ
  unfold P_Big_bits at h
  split at h
  · rename_i b n
    obtain ⟨v, rfl, r1⟩ := one_arg r
    obtain ⟨a, rfl, hB⟩ := W.bigAt r1
    exact ⟨a, b, n, rfl, hB, hQ _ _ g H w (Aft.refl _ _) W (.int _) h⟩
  · exact h.elim
theorem u_bit_length : SndP K c (sp_bit_length K c) P_bit_length := by
  intro g H w vs ds k Q E W r h hQ
  unfold P_bit_length at h
  split at h
  · rename_i b n
    obtain ⟨v, rfl, r1⟩ := one_arg r
    obtain ⟨a, rfl, hB⟩ := W.bigAt r1
    exact ⟨a, b, n, rfl, hB, h.1, hQ _ _ g H w (Aft.refl _ _) W (.int _) h.2⟩
  · exact h.elim
theorem u_Big_digits : SndP K c (sp_Big_digits K c) P_Big_digits := by
  intro g H w vs ds k Q E W r h hQ
  unfold P_Big_digits at h
  split at h
  · rename_i b n
    obtain ⟨v, rfl, r1⟩ := one_arg r
    obtain ⟨a, rfl, hB⟩ := W.bigAt r1
    refine ⟨a, b, n, rfl, hB, fun p H' ch => ?_⟩
    obtain ⟨W', A⟩ := W.go0 ch
    exact hQ _ _ _ H' w A W' (.lst (gAdd_in (q := (p, _)) ch.nd List.mem_cons_self) (reps_dN _)) h
  · exact h.elim
theorem u_is_digits : SndP K c (sp_is_digits K c) P_is_digits := by
  intro g H w vs ds k Q E W r h hQ
  unfold P_is_digits at h
  split at h
  · rename_i i l
    obtain ⟨m, hm, es, rfl, hd, hl, h⟩ := onM_of h
    obtain ⟨a, b, rfl, r1, r2⟩ := two_arg r
    obtain ⟨q, m', dx, hq, hm', rfl, hi, M⟩ := W.ins r1
    rw [hm] at hm'; cases hm'
    obtain ⟨a, ws, rfl, hH, hR⟩ := W.lstAt r2
    have := reps_iN hR
    subst this
    exact ⟨q.1, dx, m.b, m.cut, q.2.1, q.2.2, a, es, rfl, hi, hH, hd, hl, fun H' s => hQ _ _ g H' w (W.goS s).2 (W.goS s).1 (.bl _) h⟩
  · exact h.elim
/-! ### Big(width, side, row) -/
def P_Big : PSp := fun ds w k => match ds with
  | [.int b, .int s, .tup row] => ∃ (b' : Nat) (n : Int), b = (b' : Int) ∧ s = sgn n ∧ row = dN (digs b' n.natAbs) ∧ k (.big b' n) w
  | _ => False
theorem snd_mkB (hr : SndA K c tr pr) : SndE K c (tMake c.CBig (sp_Big_init K c) [] E tr) (pCall P_Big pr) := by
  intro X F σ s k Q I h hQ
  refine hr X F σ s _ _ I h fun vs ds s1 l1 I1 r1 h1 => ?_
  intro x dx nx ndx nex
  rw [List.append_nil]
  unfold P_Big at h1
  split at h1
  · rename_i b sd row
    obtain ⟨b', n, rfl, rfl, rfl, h1⟩ := h1
    obtain ⟨v, v', v'', rfl, e1, e2, e3⟩ := three_arg r1
    cases e3 with
    | tup hr hR =>
      rename_i r ws
      have := reps_iN hR
      subst this
      refine ⟨x, dx, b', sgn n, r, by rw [e1.intI, e2.intI], upd_same, fun H' ch => ⟨rfl, ?_⟩⟩
      have kp : ∀ a o, s1.H a = some o → H' a = some o := fun a o z => by
        have n1 : a ≠ x := fun y => by rw [y, nx] at z; cases z
        have n2 : a ≠ dx := fun y => by rw [y, ndx] at z; cases z
        refine ch.keep a o (by rw [upd_ne n1, upd_ne n2]; exact z) fun y => n1 (List.mem_singleton.mp y)
      have ch' : Chg s1.H H' [] [(x, .ins c.CBig dx (bF b' (sgn n) r))] := ⟨(fun z => nomatch z), fun z => by cases List.mem_singleton.mp z; exact ⟨nx, ch.chg List.mem_cons_self⟩, by simp, fun a o z _ => kp a o z⟩
      obtain ⟨W1, A1⟩ := I1.wr.go0 ch'
      exact hQ _ _ ⟨_, H', s1.e, s1.w, s1.os⟩ (l1.trans A1.le) (I1.call A1 W1) (.big ⟨dx, r, gAdd_in (q := (x, _)) ch'.nd List.mem_cons_self, A1.le.G _ _ hr⟩) h1
  · exact h1.elim
/-! ### == of Bigs -/
def qEqB : Q2
  | .big b n, .big b' n', k => (b ≠ 0 ∧ b' ≠ 0) ∧ k (.bl (decide (b = b' ∧ n = n')))
  | _, _, _ => False
def qNeB : Q2
  | .big b n, .big b' n', k => (b ≠ 0 ∧ b' ≠ 0) ∧ k (.bl (!decide (b = b' ∧ n = n')))
  | _, _, _ => False
theorem In.same {X : En} {F : List (Addr × HO)} {σ : L2.St} {s : Cf} (I : In K c X F σ s) {H' : Hp} (h : Same s.H H') : In K c X F σ ⟨s.g, H', s.e, s.w, s.os⟩ := I.call (I.wr.goS h).2 (I.wr.goS h).1
theorem s_eqB (PB : PB K c) : SndR2 K c (rOwnEq K c.CBig (sp_Big_eq K c) E) qEqB := by
  intro X F σ s x y dx dy k Q I rx ry h hQ
  cases dx with
  | big b n =>
    cases dy with
    | big b' n' =>
      obtain ⟨a, rfl, hB⟩ := rx.big I
      obtain ⟨a', rfl, hB'⟩ := ry.big I
      obtain ⟨dx1, r1, h1, _⟩ := hB.at_
      obtain ⟨dx2, r2, h2, _⟩ := hB'.at_
      exact rd_ownEq h1 (.base (.ins h2 PB.isc.cl PB.isc.ha PB.isc.hn PB.isc.htk PB.isc.hm)) (nf_self _ _) ⟨a, b, n, .ref a', rfl, hB, h.1.1, .inl ⟨a', b', n', rfl, hB', h.1.2, fun H' sm => ⟨_, rfl, hQ _ _ ⟨s.g, H', s.e, s.w, s.os⟩ (Gh.le.refl _) (I.same sm) rfl rfl (.bl _) h.2⟩⟩⟩
    | _ => exact h.elim
  | _ => exact h.elim
theorem s_neB : SndR2 K c (rOwnNe K c.CBig (sp_Big_eq K c) E) qNeB := by
  intro X F σ s x y dx dy k Q I rx ry h hQ
  cases dx with
  | big b n =>
    cases dy with
    | big b' n' =>
      obtain ⟨a, rfl, hB⟩ := rx.big I
      obtain ⟨a', rfl, hB'⟩ := ry.big I
      obtain ⟨dx1, r1, h1, _⟩ := hB.at_
      obtain ⟨dx2, r2, h2, _⟩ := hB'.at_
      exact rd_ownNe h1 h2 ⟨a, b, n, .ref a', rfl, hB, h.1.1, .inl ⟨a', b', n', rfl, hB', h.1.2, fun H' sm => ⟨_, rfl, hQ _ _ ⟨s.g, H', s.e, s.w, s.os⟩ (Gh.le.refl _) (I.same sm) rfl rfl (.bl _) h.2⟩⟩⟩
    | _ => exact h.elim
  | _ => exact h.elim
/-! ### draws -/
def P_law_source_of : PSp := fun ds w k => match ds with
  | [.int _] => k (.src w.ss) ⟨w.ms, w.ss + 1⟩
  | _ => False
def P_law_next : PSp := fun ds w k => match ds with
  | [.src j, .int n] => j < w.ss ∧ (0 < n ∧ NxtB n) ∧ ∀ r, 0 ≤ r → r < n → k (.int r) w
  | _ => False
def P_law_one : PSp := fun ds w k => match ds with
  | [.src j, .lst l] => j < w.ss ∧ (l ≠ [] ∧ l.length ≤ 1000) ∧ ∀ d ∈ l, k d w
  | _ => False
theorem Wr.srcAt {g : Gh} {H : Hp} {w : Wld} (W : Wr K c g H w) {v : V} {j : Nat} (h : Rep K c g v (.src j)) : ∃ a o, v = .ref a ∧ g.ss[j]? = some a ∧ H a = some o ∧ SrcO o := by
  cases h with
  | src h =>
    obtain ⟨o, h1, h2⟩ := W.srcs _ (List.mem_of_getElem? h)
    exact ⟨_, o, rfl, h, h1, h2⟩
theorem u_law_source_of : SndP K c (sp_law_source_of K c) P_law_source_of := by
  intro g H w vs ds k Q E W r h hQ
  unfold P_law_source_of at h
  split at h
  · rename_i n
    obtain ⟨v, rfl, r1⟩ := one_arg r
    refine ⟨n, by rw [r1.intI], fun p o H' ho ch => ?_⟩
    have hp := ch.new (a := p) (o := o) List.mem_cons_self
    have ch' : Chg H H' [] [] := ⟨(fun z => nomatch z), (fun z => nomatch z), List.nodup_nil, ch.keep⟩
    obtain ⟨W1, A1⟩ := W.go0 ch'
    have W2 := W1.addS hp.2 ho (fun z => by obtain ⟨o, e⟩ := W.muAt z; rw [hp.1] at e; cases e) (W.noG hp.1)
    refine hQ _ _ _ H' _ ?_ W2 (Rep.src (a := p) (i := w.ss) ?_) h
    · refine ⟨⟨fun _ _ h => h, fun _ _ h => h, fun i q h => by
        show (g.ss ++ [p])[i]? = some q
        rw [List.getElem?_append_left (List.getElem?_eq_some_iff.mp h).1]; exact h⟩, A1.keep, A1.frz, fun a ha => ?_, A1.dom⟩
      have ha : a ∈ g.ms.map (·.2.1) ++ (g.ms.map (·.2.2) ++ (g.ss ++ [p])) := ha
      rw [← List.append_assoc, ← List.append_assoc] at ha
      rcases List.mem_append.mp ha with z | z
      · rw [List.append_assoc] at z; exact .inl z
      · rw [List.mem_singleton.mp z]; exact .inr hp.1
    · show (g.ss ++ [p])[w.ss]? = some p
      rw [← W.nss, List.getElem?_concat_length]
  · exact h.elim
theorem u_law_next : SndP K c (sp_law_next K c) P_law_next := by
  intro g H w vs ds k Q E W r h hQ
  unfold P_law_next at h
  split at h
  · rename_i j n
    obtain ⟨v, v', rfl, r1, r2⟩ := two_arg r
    obtain ⟨a, o, rfl, hi, hH, ho⟩ := W.srcAt r1
    refine ⟨a, o, n, by rw [r2.intI], hH, ho, h.2.1.1, h.2.1.2, fun z o' H' z1 z2 ho' ch => ?_⟩
    obtain ⟨W', A⟩ := W.goR (fr := []) hi ch ho' (fun _ z => nomatch z)
    exact hQ _ _ g H' w A W' (.int _) (h.2.2 z z1 z2)
  · exact h.elim
theorem u_law_one : SndP K c (sp_law_one K c) P_law_one := by
  intro g H w vs ds k Q E W r h hQ
  unfold P_law_one at h
  split at h
  · rename_i j l
    obtain ⟨v, v', rfl, r1, r2⟩ := two_arg r
    obtain ⟨a, o, rfl, hi, hH, ho⟩ := W.srcAt r1
    cases r2 with
    | lst hl hR =>
      rename_i b ws
      have hb := W.sub _ _ hl
      refine ⟨a, o, b, ws, rfl, hH, ho, hb, fun z => ?_, by rw [hR.length]; exact h.2.1.2, fun z => ?_, fun x o' H' hx ho' ch => ?_⟩
      · subst z; cases hR; exact h.2.1.1 rfl
      · subst z; rw [W.off _ (mem_mu3 (List.mem_of_getElem? hi))] at hl; cases hl
      · obtain ⟨W', A⟩ := W.goR (fr := []) hi ch ho' (fun _ z => nomatch z)
        obtain ⟨i, hi'⟩ := List.mem_iff_getElem?.mp hx
        obtain ⟨d, hd, rd⟩ := hR.getV hi'
        exact hQ _ _ g H' w A W' rd (h.2.2 d (List.mem_of_getElem? hd))
  · exact h.elim
def P_law_cell_at : PSp := fun ds w k => match ds with
  | [.cst l, .int _] => ∃ ns : List Int, l = ns.map Dat.int ∧ ns.length ≤ 1000 ∧ ∀ n, k (.int n) w
  | _ => False
theorem u_law_cell_at : SndP K c (sp_law_cell_at K c) P_law_cell_at := by
  intro g H w vs ds k Q E W r h hQ
  unfold P_law_cell_at at h
  split at h
  · rename_i l i
    obtain ⟨ns, rfl, hl, h⟩ := h
    obtain ⟨v, v', rfl, r1, r2⟩ := two_arg r
    cases r1 with
    | cst hs hR =>
      have := hR.ints
      subst this
      exact ⟨_, ns, i, by rw [r2.intI], sqL_mono W.sub hs, hl, fun n H' s => hQ _ _ g H' w (W.goS s).2 (W.goS s).1 (.int _) (h n)⟩
  · exact h.elim
end
end Pu

/-! Sop2: further constructs over data: zip, enumerate, displays of dicts, == of data. -/
namespace Pu
open PySem L2 Eng
/-- x, y, .. = a new list, values -/
def pParO (i : Nat) (is : List Nat) (f : PF) (r : PA) : PS := fun D e w => f e w fun l e w => r e w fun ds e w => onSome (setAll (e.set i (.own true l)) is ds) fun e => D.nx e w
def zipD : List Dat → List Dat → List Dat
  | x :: xs, y :: ys => .tup [x, y] :: zipD xs ys
  | _, _ => []
def pIZip (a b : PE) : PA := fun e w k => a e w fun x e w => b e w fun y e w => lstOf x fun l => lstOf y fun m => k (zipD l m) e w
mutual
def py : Dat → PyData
  | .non => .none
  | .bl b => .bool b
  | .int n => .int n
  | .str s => .str s
  | .tup l => .tuple (pys l)
  | .lst l => .list (pys l)
  | _ => .none
def pys : List Dat → List PyData
  | [] => []
  | d :: ds => py d :: pys ds
end
def plF : Nat → Dat → Bool
  | _, .non => true
  | _, .bl _ => true
  | _, .int _ => true
  | _, .str s => PyData.strOk s
  | n + 1, .tup l => l.all (plF n)
  | n + 1, .lst l => l.all (plF n)
  | _, _ => false
/-- plain data -/
def pl (d : Dat) : Prop := plF 9 d = true
/-- without truths -/
def nbF : Nat → Dat → Bool
  | _, .bl _ => false
  | n + 1, .tup l => l.all (nbF n)
  | n + 1, .lst l => l.all (nbF n)
  | 0, .tup _ => false
  | 0, .lst _ => false
  | _, _ => true
def qEqD : Q2 := fun x y k => (pl x ∧ pl y) ∧ ∀ b : Bool, (x = y → b = true) → (x ≠ y → nbF 9 x = true → nbF 9 y = true → b = false) → k (.bl b)
def qNeD : Q2 := fun x y k => (pl x ∧ pl y) ∧ ∀ b : Bool, (x = y → b = false) → (x ≠ y → nbF 9 x = true → nbF 9 y = true → b = true) → k (.bl b)
section
variable {K : PySem.W.Frag} {c : Pc} {X : En} {F : List (Addr × HO)} {σ : L2.St} {s : Cf} {ta tb te : TE} {pa pb pe : PE} {tr : TA} {pr : PA} {E : XK} {i j : Nat}
theorem all_cons {n : Nat} {d : Dat} {ds : List Dat} (h : (d :: ds).all (plF n) = true) : plF n d = true ∧ ds.all (plF n) = true := by simpa using h
mutual
theorem dp_of : ∀ {n : Nat} {d : Dat} {v : V}, plF n d = true → Rep K c s.g v d → (∀ a o, s.g.G a = some o → s.H a = some o) → Dp K s.H v (py d)
  | n, .non, _, _, .non, _ => .non
  | n, .bl b, _, _, .bl _, _ => .bl b
  | n, .int b, _, _, .int _, _ => .int b
  | n, .str b, _, _, .str _, _ => .str b
  | n + 1, .tup l, _, h, .tup h1 h2, hs => by
    rw [py]
    exact .tup (SqT.of (hs _ _ h1)) (dps_of (by simpa [plF] using h) h2 hs)
  | n + 1, .lst l, _, h, .lst h1 h2, hs => by
    rw [py]
    exact .lst (SqL.of (hs _ _ h1)) (dps_of (by simpa [plF] using h) h2 hs)
  | 0, .tup _, _, h, _, _ => by simp [plF] at h
  | 0, .lst _, _, h, _, _ => by simp [plF] at h
  | n, .cst _, _, h, _, _ => by cases n <;> simp [plF] at h
  | n, .big _ _, _, h, _, _ => by cases n <;> simp [plF] at h
  | n, .mach _, _, h, _, _ => by cases n <;> simp [plF] at h
  | n, .src _, _, h, _, _ => by cases n <;> simp [plF] at h
  | n, .opq _, _, h, _, _ => by cases n <;> simp [plF] at h
  | n, .dic _, _, h, _, _ => by cases n <;> simp [plF] at h
theorem dps_of : ∀ {n : Nat} {ds : List Dat} {vs : List V}, (∀ x ∈ ds, plF n x = true) → Reps K c s.g vs ds → (∀ a o, s.g.G a = some o → s.H a = some o) → DpAll K s.H vs (pys ds)
  | n, [], _, _, .nil, _ => by rw [pys]; exact .nil
  | n, d :: ds, _, h, .cons r t, hs => by
    rw [pys]
    exact .cons (dp_of (h d List.mem_cons_self) r hs) (dps_of (fun x hx => h x (List.mem_cons_of_mem _ hx)) t hs)
end
theorem dpW {n : Nat} {d : Dat} {v : V} (h : plF n d = true) (r : RepW K c s v d) (hs : ∀ a o, s.g.G a = some o → s.H a = some o) : Dp K s.H v (py d) := by
  rcases r with r | ⟨a, vs, ds, rfl, rfl, h1, h2⟩
  · exact dp_of h r hs
  · cases n with
    | zero => simp [plF] at h
    | succ n =>
      rw [py]
      exact .lst (SqL.of h1) (dps_of (by simpa [plF] using h) h2 hs)
mutual
theorem py_shape : ∀ {n : Nat} {d : Dat}, plF n d = true → (py d).canLay0 = true ∧ (py d).depth ≤ n
  | n, .non, _ => by simp [py, PyData.canLay0, PyData.depth]
  | n, .bl b, _ => by simp [py, PyData.canLay0, PyData.depth]
  | n, .int b, _ => by simp [py, PyData.canLay0, PyData.depth]
  | n, .str b, h => by
    have h : PyData.strOk b = true := by cases n <;> exact h
    simp [py, PyData.canLay0, PyData.depth, h]
  | n + 1, .tup l, h => by
    have := pys_shape (n := n) (ds := l) (by simpa [plF] using h)
    simp only [py, PyData.canLay0, PyData.depth]
    exact ⟨this.1, by omega⟩
  | n + 1, .lst l, h => by
    have := pys_shape (n := n) (ds := l) (by simpa [plF] using h)
    simp only [py, PyData.canLay0, PyData.depth]
    exact ⟨this.1, by omega⟩
  | 0, .tup _, h => by simp [plF] at h
  | 0, .lst _, h => by simp [plF] at h
  | n, .cst _, h => by cases n <;> simp [plF] at h
  | n, .big _ _, h => by cases n <;> simp [plF] at h
  | n, .mach _, h => by cases n <;> simp [plF] at h
  | n, .src _, h => by cases n <;> simp [plF] at h
  | n, .opq _, h => by cases n <;> simp [plF] at h
  | n, .dic _, h => by cases n <;> simp [plF] at h
theorem pys_shape : ∀ {n : Nat} {ds : List Dat}, (∀ x ∈ ds, plF n x = true) → PyData.canLayAll0 (pys ds) = true ∧ PyData.depthAll (pys ds) ≤ n
  | n, [], _ => by simp [pys, PyData.canLayAll0, PyData.depthAll]
  | n, d :: ds, h => by
    have h1 := py_shape (h d List.mem_cons_self)
    have h2 := pys_shape (n := n) (ds := ds) fun x hx => h x (List.mem_cons_of_mem _ hx)
    simp only [pys, PyData.canLayAll0, PyData.depthAll]
    exact ⟨by rw [h1.1, h2.1]; rfl, by omega⟩
end
mutual
theorem py_inj : ∀ {n : Nat} {d e : Dat}, plF n d = true → plF n e = true → nbF n d = true → nbF n e = true → PyData.eqv (py d) (py e) = true → d = e
  | n, .non, e, _, he, _, hb, h => by
    cases e with
    | non => rfl
    | bl b => cases n <;> simp [nbF] at hb
    | tup l => cases n <;> simp [py, PyData.eqv] at h
    | lst l => cases n <;> simp [py, PyData.eqv] at h
    | int i => simp [py, PyData.eqv] at h
    | str i => simp [py, PyData.eqv] at h
    | _ => cases n <;> simp [plF] at he
  | n, .int i, e, _, he, _, hb, h => by
    cases e with
    | int j => simp [py, PyData.eqv] at h; rw [h]
    | bl b => cases n <;> simp [nbF] at hb
    | non => simp [py, PyData.eqv] at h
    | str j => simp [py, PyData.eqv] at h
    | tup l => simp [py, PyData.eqv] at h
    | lst l => simp [py, PyData.eqv] at h
    | _ => cases n <;> simp [plF] at he
  | n, .str i, e, _, he, _, hb, h => by
    cases e with
    | str j => simp [py, PyData.eqv] at h; rw [h]
    | bl b => cases n <;> simp [nbF] at hb
    | non => simp [py, PyData.eqv] at h
    | int j => simp [py, PyData.eqv] at h
    | tup l => simp [py, PyData.eqv] at h
    | lst l => simp [py, PyData.eqv] at h
    | _ => cases n <;> simp [plF] at he
  | n + 1, .tup l, e, hd, he, hn, hb, h => by
    cases e with
    | tup m => simp only [py, PyData.eqv] at h; rw [pys_inj (n := n) (by simpa [plF] using hd) (by simpa [plF] using he) (by simpa [nbF] using hn) (by simpa [nbF] using hb) h]
    | bl b => simp [nbF] at hb
    | non => simp [py, PyData.eqv] at h
    | int j => simp [py, PyData.eqv] at h
    | str j => simp [py, PyData.eqv] at h
    | lst l => simp [py, PyData.eqv] at h
    | _ => simp [plF] at he
  | n + 1, .lst l, e, hd, he, hn, hb, h => by
    cases e with
    | lst m => simp only [py, PyData.eqv] at h; rw [pys_inj (n := n) (by simpa [plF] using hd) (by simpa [plF] using he) (by simpa [nbF] using hn) (by simpa [nbF] using hb) h]
    | bl b => simp [nbF] at hb
    | non => simp [py, PyData.eqv] at h
    | int j => simp [py, PyData.eqv] at h
    | str j => simp [py, PyData.eqv] at h
    | tup l => simp [py, PyData.eqv] at h
    | _ => simp [plF] at he
  | n, .bl _, _, _, _, h, _, _ => by cases n <;> simp [nbF] at h
  | 0, .tup _, _, h, _, _, _, _ => by simp [plF] at h
  | 0, .lst _, _, h, _, _, _, _ => by simp [plF] at h
  | n, .cst _, _, h, _, _, _, _ => by cases n <;> simp [plF] at h
  | n, .big _ _, _, h, _, _, _, _ => by cases n <;> simp [plF] at h
  | n, .mach _, _, h, _, _, _, _ => by cases n <;> simp [plF] at h
  | n, .src _, _, h, _, _, _, _ => by cases n <;> simp [plF] at h
  | n, .opq _, _, h, _, _, _, _ => by cases n <;> simp [plF] at h
  | n, .dic _, _, h, _, _, _, _ => by cases n <;> simp [plF] at h
theorem pys_inj : ∀ {n : Nat} {ds es : List Dat}, (∀ x ∈ ds, plF n x = true) → (∀ x ∈ es, plF n x = true) → (∀ x ∈ ds, nbF n x = true) → (∀ x ∈ es, nbF n x = true) → PyData.eqvAll (pys ds) (pys es) = true → ds = es
  | n, [], [], _, _, _, _, _ => rfl
  | n, d :: ds, e :: es, h1, h2, h3, h4, h => by
    simp only [pys, PyData.eqvAll, Bool.and_eq_true] at h
    rw [py_inj (h1 d List.mem_cons_self) (h2 e List.mem_cons_self) (h3 d List.mem_cons_self) (h4 e List.mem_cons_self) h.1,
      pys_inj (n := n) (fun x hx => h1 x (List.mem_cons_of_mem _ hx)) (fun x hx => h2 x (List.mem_cons_of_mem _ hx)) (fun x hx => h3 x (List.mem_cons_of_mem _ hx)) (fun x hx => h4 x (List.mem_cons_of_mem _ hx)) h.2]
  | n, [], _ :: _, _, _, _, _, h => by simp [pys, PyData.eqvAll] at h
  | n, _ :: _, [], _, _, _, _, h => by simp [pys, PyData.eqvAll] at h
end
theorem py_shaped {d : Dat} (h : pl d) : SeqAt.shaped (py d) = true := by
  obtain ⟨h1, h2⟩ := py_shape h
  unfold SeqAt.shaped
  rw [h1, decide_eq_true (Nat.le_trans h2 (by decide))]; rfl
theorem s_eqD : SndR2 K c (rEqD K) qEqD := by
  intro X F σ s x y dx dy k Q I rx ry h hQ
  refine ⟨py dx, py dy, dpW h.1.1 rx I.wr.sub, dpW h.1.2 ry I.wr.sub, py_shaped h.1.1, py_shaped h.1.2, hQ _ _ s (Gh.le.refl _) I rfl rfl (.bl _) (h.2 _ (fun e => ?_) fun ne n1 n2 => ?_)⟩
  · rw [e]; exact SeqAt.eqv_refl _ (py_shape h.1.2).1
  · cases e : PyData.eqv (py dx) (py dy) with
    | false => rfl
    | true => exact absurd (py_inj h.1.1 h.1.2 n1 n2 e) ne
theorem s_neD : SndR2 K c (rNeD K) qNeD := by
  intro X F σ s x y dx dy k Q I rx ry h hQ
  refine ⟨py dx, py dy, dpW h.1.1 rx I.wr.sub, dpW h.1.2 ry I.wr.sub, py_shaped h.1.1, py_shaped h.1.2, hQ _ _ s (Gh.le.refl _) I rfl rfl (.bl _) (h.2 _ (fun e => ?_) fun ne n1 n2 => ?_)⟩
  · rw [e, SeqAt.eqv_refl _ (py_shape h.1.2).1]; rfl
  · cases e : PyData.eqv (py dx) (py dy) with
    | false => rfl
    | true => exact absurd (py_inj h.1.1 h.1.2 n1 n2 e) ne
/-! ### x, y = [..], .. -/
theorem In.setAllO {p : Addr} {vs : List V} {l : List Dat} (I : In K c X ((p, .lst vs) :: F) σ s) (hx : X.H p = none) (r : Reps K c s.g vs l) : In K c X F (σ.set i (some (.ref p))) ⟨s.g, s.H, s.e.set i (.own true l), s.w, (i, p) :: s.os⟩ := I.setO r hx
theorem snd_parO {pf : PF} (hf : SndF K c ta pf) (hr : SndA K c tr pr) : SndS K c (tPar i j (tCons ta tr)) (pParO i [j] pf pr) := by
  intro X F σ s D Dp I h hE
  refine hf X F σ s _ _ I h fun a vs ds s1 l1 hx I1 r1 h1 => ?_
  refine hr X _ σ s1 _ _ I1 h1 fun ws es s2 l2 I2 r2 h2 => ?_
  obtain ⟨e, he, h2⟩ := onSome_of h2
  have := In.setAll (Q := D.nx) (I2.setO (i := i) (r1.mono l2) hx) r2 he fun σ' I' => hE.nx σ' ⟨s2.g, s2.H, e, s2.w, (i, a) :: s2.os⟩ (l1.trans l2) I' h2
  obtain ⟨v, _, rfl, rfl, q⟩ := this
  exact ⟨_, v, rfl, q⟩
theorem snd_par3O {l : Nat} {pf : PF} (hf : SndF K c ta pf) (hr : SndA K c tr pr) : SndS K c (tPar3 i j l (tCons ta tr)) (pParO i [j, l] pf pr) := by
  intro X F σ s D Dp I h hE
  refine hf X F σ s _ _ I h fun a vs ds s1 l1 hx I1 r1 h1 => ?_
  refine hr X _ σ s1 _ _ I1 h1 fun ws es s2 l2 I2 r2 h2 => ?_
  obtain ⟨e, he, h2⟩ := onSome_of h2
  have := In.setAll (Q := D.nx) (I2.setO (i := i) (r1.mono l2) hx) r2 he fun σ' I' => hE.nx σ' ⟨s2.g, s2.H, e, s2.w, (i, a) :: s2.os⟩ (l1.trans l2) I' h2
  obtain ⟨v, _, rfl, v', _, rfl, rfl, q⟩ := this
  exact ⟨_, v, v', rfl, q⟩
def pParO2 (i j : Nat) (a : PE) (f : PF) : PS := fun D e w => a e w fun d e w => f e w fun l e w => D.nx ((e.set i (.val d)).set j (.own true l)) w
theorem snd_parO2 {pf : PF} (ha : SndE K c tb pb) (hf : SndF K c ta pf) : SndS K c (tPar i j (tCons tb (tCons ta tNil))) (pParO2 i j pb pf) := by
  intro X F σ s D Dp I h hE
  refine ha X F σ s _ _ I h fun x dx s1 l1 I1 r1 h1 => ?_
  refine hf X F σ s1 _ _ I1 h1 fun a vs ds s2 l2 hx I2 r2 h2 => ?_
  exact ⟨_, _, rfl, hE.nx _ ⟨s2.g, s2.H, (s2.e.set i (.val dx)).set j (.own true ds), s2.w, (j, a) :: s2.os⟩ (l1.trans l2) ((I2.setV (i := i) (r1.mono l2)).setO r2 hx) h2⟩
/-! ### zip, enumerate -/
theorem zipD_get : ∀ {l m : List Dat} {i : Nat} {d : Dat}, (zipD l m)[i]? = some d → ∃ x y, l[i]? = some x ∧ m[i]? = some y ∧ d = .tup [x, y]
  | x :: l, y :: m, 0, d, h => by simp only [zipD, List.getElem?_cons_zero, Option.some.injEq] at h; exact ⟨x, y, rfl, rfl, h.symm⟩
  | x :: l, y :: m, i + 1, d, h => by simp only [zipD, List.getElem?_cons_succ] at h ⊢; exact zipD_get h
  | [], _, _, _, h => by simp [zipD] at h
  | _ :: _, [], _, _, h => by simp [zipD] at h
theorem zipD_len : ∀ (l m : List Dat), (zipD l m).length = min l.length m.length
  | x :: l, y :: m => by simp only [zipD, List.length_cons, zipD_len l m]; omega
  | [], _ => by simp [zipD]
  | _ :: _, [] => by simp [zipD]
theorem ItD.zip {g : Gh} {a b : Addr} {vs ws : List V} {l m : List Dat} (h : SqL K g.G a vs) (r : Reps K c g vs l) (h' : SqL K g.G b ws) (r' : Reps K c g ws m) : ItD K c (Itz K a b) g (zipD l m) where
  go := fun X F σ s i d le I hd => by
    obtain ⟨x, y, hx, hy, rfl⟩ := zipD_get hd
    obtain ⟨v, hv, rv⟩ := r.get hx
    obtain ⟨v', hv', rv'⟩ := r'.get hy
    have hs : SqL K s.H a vs := sqL_mono I.wr.sub (sqL_mono le.G h)
    have hs' : SqL K s.H b ws := sqL_mono I.wr.sub (sqL_mono le.G h')
    refine ⟨⟨vs, ws, v, v', hs, hs', hv, hv'⟩, fun z H' ⟨T, z1, z2, e, hT, e2, q1, q2⟩ => ?_⟩
    have e3 := q1 vs hs
    have e4 := q2 ws hs'
    rw [hv] at e3; rw [hv'] at e4
    cases e3; cases e4
    have le2 := gUpd_le (o := .tup [v, v']) (I.offG hT)
    exact ⟨⟨gUpd s.g T (.tup [v, v']), upd s.H T (.tup [v, v']), s.e, s.w, s.os⟩, e2.symm, le2, I.newG hT, rfl, rfl, by rw [e]; exact .tup (show upd s.g.G T _ T = _ from upd_same) (.cons ((rv.mono le).mono le2) (.cons ((rv'.mono le).mono le2) .nil))⟩
  stop := fun X F σ s le I => ⟨vs, ws, sqL_mono I.wr.sub (sqL_mono le.G h), sqL_mono I.wr.sub (sqL_mono le.G h'), by rw [r.length, r'.length, zipD_len]; omega⟩
theorem Rep.sqG {v : V} {d : Dat} {g : Gh} {l : List Dat} (r : Rep K c g v d) (h : d = .lst l ∨ d = .cst l) : ∃ a vs, v = .ref a ∧ SqL K g.G a vs ∧ Reps K c g vs l := by
  rcases h with rfl | rfl
  · cases r with
    | lst h1 h2 => exact ⟨_, _, rfl, SqL.of h1, h2⟩
  · cases r with
    | cst h1 h2 => exact ⟨_, _, rfl, h1, h2⟩
theorem snd_iZip (ha : SndE K c ta pa) (hb : SndE K c tb pb) : SndI K c (iZip K (tCons ta (tCons tb tNil))) (pIZip pa pb) := by
  intro X F σ s k R I h hR
  refine ha X F σ s _ _ I h fun x dx s1 l1 I1 r1 h1 => ?_
  refine hb X F σ s1 _ _ I1 h1 fun y dy s2 l2 I2 r2 h2 => ?_
  obtain ⟨l, hl, h2⟩ := lstOf_of h2
  obtain ⟨m, hm, h2⟩ := lstOf_of h2
  obtain ⟨a, vs, rfl, hs, hr⟩ := (r1.mono l2).sqG hl
  obtain ⟨b, ws, rfl, hs', hr'⟩ := r2.sqG hm
  exact ⟨a, b, vs, ws, rfl, sqL_mono I2.wr.sub hs, sqL_mono I2.wr.sub hs', hR _ _ s2 (l1.trans l2) I2 (ItD.zip hs hr hs' hr') h2⟩
theorem enm_get : ∀ {l : List Dat} {n i : Nat} {d : Dat}, (enm n l)[i]? = some d → ∃ x, l[i]? = some x ∧ d = .tup [.int ((n + i : Nat) : Int), x]
  | x :: l, n, 0, d, h => by simp only [enm, List.getElem?_cons_zero, Option.some.injEq] at h; exact ⟨x, rfl, h.symm⟩
  | x :: l, n, i + 1, d, h => by
    simp only [enm, List.getElem?_cons_succ] at h ⊢
    obtain ⟨y, h1, h2⟩ := enm_get h
    exact ⟨y, h1, by rw [h2]; congr 4; omega⟩
  | [], _, _, _, h => by simp [enm] at h
theorem enm_len : ∀ (l : List Dat) (n : Nat), (enm n l).length = l.length
  | [], _ => rfl
  | _ :: l, n => by simp only [enm, List.length_cons, enm_len l]
theorem ItD.enum {g : Gh} {a : Addr} {vs : List V} {l : List Dat} (h : SqL K g.G a vs) (r : Reps K c g vs l) : ItD K c (Ite K a) g (enm 0 l) where
  go := fun X F σ s i d le I hd => by
    obtain ⟨x, hx, rfl⟩ := enm_get hd
    obtain ⟨v, hv, rv⟩ := r.get hx
    have hs : SqL K s.H a vs := sqL_mono I.wr.sub (sqL_mono le.G h)
    refine ⟨⟨vs, v, hs, hv⟩, fun z H' ⟨T, z1, e, hT, e2, q1⟩ => ?_⟩
    have e3 := q1 vs hs
    rw [hv] at e3; cases e3
    have le2 := gUpd_le (o := .tup [.int (i : Nat), v]) (I.offG hT)
    refine ⟨⟨gUpd s.g T (.tup [.int (i : Nat), v]), upd s.H T (.tup [.int (i : Nat), v]), s.e, s.w, s.os⟩, e2.symm, le2, I.newG hT, rfl, rfl, ?_⟩
    rw [e, Nat.zero_add]
    exact .tup (show upd s.g.G T _ T = _ from upd_same) (.cons (.int _) (.cons ((rv.mono le).mono le2) .nil))
  stop := fun X F σ s le I => ⟨vs, sqL_mono I.wr.sub (sqL_mono le.G h), by rw [r.length, enm_len]; exact Nat.le_refl _⟩
theorem snd_iEnum (ha : SndE K c ta pa) (hl : ∀ e w k, pa e w k → pa e w fun d e w => (∃ l, d = .lst l ∨ d = .cst l) ∧ k d e w) : SndI K c (iEnum K (tCons ta tNil)) (pIEnum pa) := by
  intro X F σ s k R I h hR
  refine ha X F σ s _ _ I (hl _ _ _ h) fun x dx s1 l1 I1 r1 h1 => ?_
  obtain ⟨⟨l, hl'⟩, h1⟩ := h1
  obtain ⟨a, vs, rfl, hs, hr⟩ := r1.sqG hl'
  refine ⟨a, vs, rfl, sqL_mono I1.wr.sub hs, hR _ _ s1 l1 I1 (ItD.enum hs hr) ?_⟩
  rcases hl' with rfl | rfl <;> exact h1
/-! ### {"..": n, ..} -/
def dVals : List (Str × PE) → Env → Wld → (List (Str × Int) → Env → Wld → Prop) → Prop
  | [], e, w, k => k [] e w
  | (s, a) :: r, e, w, k => a e w fun x e w => intOf x fun n => dVals r e w fun l e w => k ((s, n) :: l) e w
def pDisp (l : List (Str × PE)) : PE := fun e w k => ((l.map (·.1)).Nodup ∧ l.length ≤ 15) ∧ dVals l e w fun m e w => k (.dic m) e w
def SndD (K : PySem.W.Frag) (c : Pc) : List (TE × TE) → List (Str × PE) → Prop
  | [], [] => True
  | (tk, tv) :: ts, (s, p) :: ps => tk = tC (.str s) ∧ SndE K c tv p ∧ SndD K c ts ps
  | _, _ => False
theorem snd_vals : ∀ {ts : List (TE × TE)} {ps : List (Str × PE)}, SndD K c ts ps → ∀ (X : En) (F : List (Addr × HO)) (σ : L2.St) (s : Cf) (k : List (Str × Int) → Env → Wld → Prop) (Q : List (V × V) → Hp → Prop), In K c X F σ s → dVals ps s.e s.w k →
    (∀ l s', s.g.le s'.g → In K c X F σ s' → l.map (·.1) = ps.map (·.1) → k l s'.e s'.w → Q (l.map fun p => (V.str p.1, V.int p.2)) s'.H) → tPairs ts σ s.H Q
  | [], [], _, X, F, σ, s, k, Q, I, h, hQ => hQ [] s (Gh.le.refl _) I rfl h
  | (tk, tv) :: ts, (z, p) :: ps, hd, X, F, σ, s, k, Q, I, h, hQ => by
    obtain ⟨e1, h2, h3⟩ := hd
    subst e1
    refine h2 X F σ s _ _ I h fun x dx s1 l1 I1 r1 h1 => ?_
    replace h1 := intOf_of h1
    obtain ⟨n, rfl, h1⟩ := h1
    rw [r1.intI]
    refine snd_vals h3 X F σ s1 _ _ I1 h1 fun l s2 l2 I2 e2 h4 => ?_
    exact hQ ((z, n) :: l) s2 (l1.trans l2) I2 (by simp only [List.map_cons, e2]) h4
  | [], _ :: _, hd, _, _, _, _, _, _, _, _, _ => hd.elim
  | _ :: _, [], hd, _, _, _, _, _, _, _, _, _ => hd.elim
theorem snd_disp {ts : List (TE × TE)} {ps : List (Str × PE)} (hd : SndD K c ts ps) : SndE K c (tDisp ts) (pDisp ps) := by
  intro X F σ s k Q I h hQ
  intro p hp
  have hx := I.fresh hp
  refine snd_vals hd X ((p, .dK []) :: F) σ ⟨s.g, upd s.H p (.dK []), s.e, s.w, s.os⟩ _ _ (I.newF hp) h.2 fun l s1 l1 I1 e1 h1 => ?_
  have hn : ((dKs l).map (·.1)).Nodup := by
    have e2 : (dKs l).map (·.1) = (ps.map (·.1)).map fun z => (Sum.inr z : Key) := by
      rw [← e1]; unfold dKs; simp
    rw [e2]
    exact List.Pairwise.map (fun z => (Sum.inr z : Key)) (fun a b hne e => hne (Sum.inr.inj e)) h.1.1
  refine ⟨I1.held _ List.mem_cons_self, dKs l, by unfold dKs; rw [List.map_map]; rfl, ?_, ?_⟩
  · have := congrArg List.length e1
    simp only [List.length_map] at this
    unfold dKs
    rw [List.length_map, this]; exact h.1.2
  · rw [mergeK_nil hn]
    have I2 := I1.heldPut (o' := .dK (dKs l)) hx
    have hm : p ∈ s1.mu ((p, .dK []) :: F) := (mu_cons s1 (p, .dK []) F).mem_iff.mpr List.mem_cons_self
    have le := gUpd_le (o := .dK (dKs l)) (I1.off p hm)
    exact hQ _ _ ⟨gUpd s1.g p (.dK (dKs l)), upd s1.H p (.dK (dKs l)), s1.e, s1.w, s1.os⟩ (l1.trans le) (I2.frzF hx) (.dic (show upd s1.g.G p _ p = _ from upd_same)) h1
def pDNew : PE := fun e w k => k (.dic []) e w
theorem snd_dnew : SndE K c tDNewK pDNew := by
  intro X F σ s k Q I h hQ
  intro p hp
  have le := gUpd_le (o := .dK []) (I.offG hp)
  exact hQ _ _ ⟨gUpd s.g p (.dK []), upd s.H p (.dK []), s.e, s.w, s.os⟩ le (I.newG hp) (.dic (show upd s.g.G p _ p = _ from upd_same)) h
end
end Pu

/-! Cnd: what a machine has counted against what is due. -/
namespace Pu
open PySem L2 Eng
/-- l tells the counts ns: each word's number, 0 where it has none -/
structure Due (l : List (Str × Int)) (ns : List Int) : Prop where
  nd : (l.map (·.1)).Nodup
  few : l.length < 100
  inw : ∀ p ∈ l, p.1 ∈ words
  at_ : ∀ (j : Nat) (s : Str), words[j]? = some s → ns[j]? = some ((l.lookup s).getD 0)
def P_law_counted : PSp := fun ds w k => match ds with
  | [.mach i, .dic l] => onM w i fun m => Due l m.ns ∧ k (.bl true) (w.put i m.rst)
  | _ => False
theorem lookup_mem {l : List (Str × Int)} (h : (l.map (·.1)).Nodup) {s : Str} {n : Int} (hm : (s, n) ∈ l) : l.lookup s = some n := by
  induction l with
  | nil => cases hm
  | cons q l ih =>
    rw [List.map_cons] at h
    have hn := List.nodup_cons.mp h
    rcases List.mem_cons.mp hm with e | hm
    · subst e; simp [List.lookup]
    · have ne : s ≠ q.1 := fun e => hn.1 (e ▸ List.mem_map.mpr ⟨(s, n), hm, rfl⟩)
      rw [List.lookup_cons]
      have : (s == q.1) = false := by simpa using ne
      rw [this]
      exact ih hn.2 hm
theorem mem_of_lookup {l : List (Str × Int)} {s : Str} {n : Int} (h : l.lookup s = some n) : (s, n) ∈ l := by
  induction l with
  | nil => cases h
  | cons q l ih =>
    rw [List.lookup_cons] at h
    by_cases e : s = q.1
    · subst e
      simp at h
      rw [← h]; exact List.mem_cons_self
    · have : (s == q.1) = false := by simpa using e
      rw [this] at h
      exact List.mem_cons_of_mem _ (ih h)
theorem cK_mem {ns : List Int} {q : Key × V} (h : q ∈ cK ns) : ∃ (j : Nat) (s : Str) (n : Int), words[j]? = some s ∧ ns[j]? = some n ∧ q = (Sum.inr s, .int n) := by
  unfold cK at h
  obtain ⟨j, hj⟩ := List.mem_iff_getElem?.mp h
  rw [List.getElem?_zipWith] at hj
  cases h1 : words[j]? with
  | none => rw [h1] at hj; cases hj
  | some s =>
    cases h2 : ns[j]? with
    | none => rw [h1, h2] at hj; cases hj
    | some n => rw [h1, h2] at hj; exact ⟨j, s, n, h1, h2, (Option.some.inj hj).symm⟩
theorem due_ok {l : List (Str × Int)} {ns : List Int} (h : Due l ns) (hn : ns.length = 10) : DueOk (dKs l) ns := by
  have hnd : ((dKs l).map (·.1)).Nodup := by
    have e2 : (dKs l).map (·.1) = (l.map (·.1)).map fun z => (Sum.inr z : Key) := by unfold dKs; simp
    rw [e2]
    exact List.Pairwise.map (fun z => (Sum.inr z : Key)) (fun a b hne e => hne (Sum.inr.inj e)) h.nd
  have hall : ∀ q ∈ posK (cK ns), q ∈ posK (dKs l) := fun q hq => by
    obtain ⟨h1, h2⟩ := List.mem_filter.mp (show q ∈ (cK ns).filter _ from hq)
    obtain ⟨j, s, n, hj, hn', rfl⟩ := cK_mem h1
    have h3 := h.at_ j s hj
    rw [hn'] at h3
    have h4 : 0 < n := of_decide_eq_true h2
    cases e : l.lookup s with
    | none => rw [e] at h3; simp at h3; omega
    | some m =>
      rw [e] at h3
      simp at h3
      subst h3
      exact List.mem_filter.mpr ⟨List.mem_map.mpr ⟨(s, n), mem_of_lookup e, rfl⟩, h2⟩
  have hall' : ∀ q ∈ posK (dKs l), q ∈ posK (cK ns) := fun q hq => by
    obtain ⟨h1, h2⟩ := List.mem_filter.mp (show q ∈ (dKs l).filter _ from hq)
    obtain ⟨⟨s, n⟩, hm, rfl⟩ := List.mem_map.mp h1
    obtain ⟨j, hj⟩ := List.mem_iff_getElem?.mp (h.inw _ hm)
    have h3 := h.at_ j s hj
    rw [lookup_mem h.nd hm] at h3
    exact List.mem_filter.mpr ⟨List.mem_of_getElem? (cK_get hj h3), h2⟩
  have nd1 : (posK (cK ns)).Nodup := List.Pairwise.imp (fun {a b} hne e => hne (congrArg _ e)) (List.pairwise_map.mp (posK_nd (cK_nd hn)))
  have nd2 : (posK (dKs l)).Nodup := List.Pairwise.imp (fun {a b} hne e => hne (congrArg _ e)) (List.pairwise_map.mp (posK_nd hnd))
  refine ⟨hnd, by unfold dKs; rw [List.length_map]; exact h.few, fun kv hkv => ?_, ?_, hall⟩
  · obtain ⟨⟨s, n⟩, _, rfl⟩ := List.mem_map.mp hkv
    exact ⟨s, n, rfl⟩
  · exact ((List.perm_ext_iff_of_nodup nd1 nd2).mpr fun q => ⟨hall q, hall' q⟩).length_eq
section
variable {K : PySem.W.Frag} {c : Pc}
theorem u_law_counted : SndP K c (sp_law_counted K c) P_law_counted := by
  intro g H w vs ds k Q E W r h hQ
  unfold P_law_counted at h
  split at h
  · rename_i i l
    obtain ⟨m, hm, hD, h⟩ := onM_of h
    obtain ⟨a, b, rfl, r1, r2⟩ := two_arg r
    obtain ⟨q, m', dx, hq, hm', rfl, hi, M⟩ := W.ins r1
    rw [hm] at hm'; cases hm'
    obtain ⟨vs, hw1, hw2⟩ := M.wlk
    cases r2 with
    | dic hh =>
      rename_i hA
      have hne : hA ≠ q.2.1 := fun z => by
        have := W.off _ (mem_mu1 hq)
        rw [← z, hh] at this; cases this
      refine ⟨q.1, dx, m.b, m.cut, q.2.1, q.2.2, hA, m.ns, vs, dKs l, rfl, hi, M.cnt, M.ten, hw1, W.sub _ _ hh, hne, due_ok hD M.ten, fun H' ch => ?_⟩
      obtain ⟨W', A⟩ := W.goM (fr := []) (m := m.rst) hq ch (fun a ha => by
        simp only [List.map_cons, List.map_nil, List.mem_cons, List.not_mem_nil, or_false] at ha
        exact ha) (fun q hq => ⟨q.2, ch.chg hq⟩) (fun _ z => nomatch z) fun _ => ⟨M.ins, ch.chg List.mem_cons_self, rfl, ⟨[], ch.chg (List.mem_cons_of_mem _ List.mem_cons_self), .nil⟩, Nat.zero_le _⟩
      exact hQ _ _ g H' _ A W' (.bl _) h
  · exact h.elim
end
end Pu

/-! Eqn: the meanings at known data, as equations. -/
namespace Pu
open PySem L2 Eng
section
variable {i j n m : Int} {a b : Bool} {s t : Str} {l l' : List Dat} {k : Dat → Prop} {kl : List Dat → Prop} {kb : Bool → Prop} {ki : Int → Prop} {e : Env} {w : Wld} {kq : PQ}
theorem eAdd : qAdd (.int i) (.int j) k = k (.int (i + j)) := rfl
theorem eSub : qSub (.int i) (.int j) k = k (.int (i - j)) := rfl
theorem eAnd : qAnd (.int i) (.int j) k = k (.int (Builtin.bitAnd i j)) := rfl
theorem eOr : qOr (.int i) (.int j) k = k (.int (Builtin.bitOr i j)) := rfl
theorem eXor : qXor (.int i) (.int j) k = k (.int (Builtin.bitXor i j)) := rfl
theorem eLt : qLt (.int i) (.int j) k = k (.bl (decide (i < j))) := rfl
theorem eLe : qLe (.int i) (.int j) k = k (.bl (decide (i ≤ j))) := rfl
theorem eGt : qGt (.int i) (.int j) k = k (.bl (decide (j < i))) := rfl
theorem eGe : qGe (.int i) (.int j) k = k (.bl (decide (j ≤ i))) := rfl
theorem eMul : qMul (.int i) (.int j) k = (IntMulOk i j ∧ k (.int (i * j))) := rfl
theorem eDiv : qDiv (.int i) (.int j) k = (oDiv i j ∧ k (.int (i / j))) := rfl
theorem eMod : qMod (.int i) (.int j) k = ((0 < j) ∧ k (.int (i % j))) := rfl
theorem ePow : qPow (.int i) (.int j) k = (oPow i j ∧ k (.int (i ^ j.toNat))) := rfl
theorem eShl : qShl (.int i) (.int j) k = (CShl i j ∧ k (.int (i * 2 ^ j.toNat))) := rfl
theorem eShr : qShr (.int i) (.int j) k = ((0 ≤ j) ∧ k (.int (i / 2 ^ j.toNat))) := rfl
theorem eNeg : qNeg (.int i) k = k (.int (-i)) := rfl
theorem eEqI : qEq (.int i) (.int j) k = k (.bl (decide (i = j))) := rfl
theorem eEqS : qEq (.str s) (.str t) k = k (.bl (decide (s = t))) := rfl
theorem eEqL : qEq (.bl a) (.bl b) k = k (.bl (decide (a = b))) := rfl
theorem eNeI : qNe (.int i) (.int j) k = k (.bl (!decide (i = j))) := rfl
theorem eNeS : qNe (.str s) (.str t) k = k (.bl (!decide (s = t))) := rfl
theorem eNeL : qNe (.bl a) (.bl b) k = k (.bl (!decide (a = b))) := rfl
theorem eIx1 : qIx (.lst l) (.int n) k = onSome (atI l n) k := rfl
theorem eIx2 : qIx (.tup l) (.int n) k = onSome (atI l n) k := rfl
theorem eIx3 : qIx (.cst l) (.int n) k = onSome (atI l n) k := rfl
theorem eIxL : qIxL (.lst l) (.int n) k = onSome (atI l n) k := rfl
theorem eIxC : qIxL (.cst l) (.int n) k = onSome (atI l n) k := rfl
theorem eIxT : qIxT (.tup l) (.int n) k = onSome (atI l n) k := rfl
theorem eCat : qCat (.lst l) (.lst l') kl = (l.length + l'.length ≤ sizeLine ∧ kl (l ++ l')) := rfl
theorem eRep : qRep (.lst l) (.int n) kl = ((-(2 ^ 63) ≤ n ∧ n < 2 ^ 63 ∧ l.length * n.toNat ≤ sizeLine) ∧ kl (List.replicate n.toNat l).flatten) := rfl
theorem eLen1 : qLen [.lst l] k = k (.int (l.length : Nat)) := rfl
theorem eLen2 : qLen [.tup l] k = k (.int (l.length : Nat)) := rfl
theorem eLen3 : qLen [.cst l] k = k (.int (l.length : Nat)) := rfl
theorem eAbs : qAbs [.int n] k = k (.int (if n < 0 then -n else n)) := rfl
theorem eInt1 : qInt [.int n] k = k (.int n) := rfl
theorem eInt2 : qInt [.bl b] k = k (.int (if b then 1 else 0)) := rfl
theorem eMax : qMax2 [.int i, .int j] k = k (.int (if j > i then j else i)) := rfl
theorem eMin : qMin2 [.int i, .int j] k = k (.int (if j < i then j else i)) := rfl
theorem eList1 : qList [.lst l] kl = kl l := rfl
theorem eList2 : qList [.tup l] kl = kl l := rfl
theorem eList3 : qList [.cst l] kl = kl l := rfl
theorem eTupL : qTupL [.lst l] k = k (.tup l) := rfl
theorem eEqB {x y : Nat} : qEqB (.big x i) (.big y j) k = ((x ≠ 0 ∧ y ≠ 0) ∧ k (.bl (decide (x = y ∧ i = j)))) := rfl
theorem eNeB {x y : Nat} : qNeB (.big x i) (.big y j) k = ((x ≠ 0 ∧ y ≠ 0) ∧ k (.bl (!decide (x = y ∧ i = j)))) := rfl
theorem eIsB : isB (.bl b) kb = kb b := rfl
theorem eTup : tupOf (.tup l) kl = kl l := rfl
theorem eLst1 : lstOf (.lst l) kl = kl l := rfl
theorem eLst2 : lstOf (.cst l) kl = kl l := rfl
theorem eIntO : intOf (.int n) ki = ki n := rfl
theorem eSeq1 : seqOf (.lst l) kl = kl l := rfl
theorem eSeq2 : seqOf (.tup l) kl = kl l := rfl
theorem eSeq3 : seqOf (.cst l) kl = kl l := rfl
theorem eSome {α : Type} {x : α} {f : α → Prop} : onSome (some x) f = f x := rfl
theorem eWidthB {x : Nat} : pWidthB (pC (.big x i)) e w kq = kq (.int (x : Int)) e w := rfl
theorem at_nat {α : Type} {l : List α} {n : Nat} {x : α} (h : l[n]? = some x) : atI l (n : Int) = some x := by
  unfold atI ixN
  have hl := (List.getElem?_eq_some_iff.mp h).1
  rw [if_pos (by omega), if_pos (by omega)]
  show l[((n : Nat) : Int).toNat]? = some x
  rw [show ((n : Nat) : Int).toNat = n by omega]; exact h
theorem eAt0 {α : Type} {x : α} {r : List α} : atI (x :: r) 0 = some x := at_nat (n := 0) rfl
theorem eAt1 {α : Type} {x y : α} {r : List α} : atI (x :: y :: r) 1 = some y := at_nat (n := 1) rfl
theorem eAt2 {α : Type} {x y z : α} {r : List α} : atI (x :: y :: z :: r) 2 = some z := at_nat (n := 2) rfl
theorem eAt3 {α : Type} {x y z u : α} {r : List α} : atI (x :: y :: z :: u :: r) 3 = some u := at_nat (n := 3) rfl
theorem shl1 {b : Nat} (h : b ≤ 1000) : qShl (.int 1) (.int (b : Int)) k = k (.int ((2 ^ b : Nat) : Int)) := by
  rw [eShl]
  have e : (1 : Int) * 2 ^ ((b : Int)).toNat = ((2 ^ b : Nat) : Int) := by rw [Int.one_mul, Int.toNat_natCast, pwN]
  rw [e]
  exact propext ⟨fun h => h.2, fun h' => ⟨shl_one h, h'⟩⟩
/-! what stands at a name -/
def vOf (o : Option Slot) (k : Dat → Prop) : Prop := match o with | some (.val d) => k d | _ => False
def oOf (o : Option Slot) (k : Bool → List Dat → Prop) : Prop := match o with | some (.own f l) => k f l | _ => False
theorem eVar {x : Nat} : pVar x e w kq = vOf e[x]? fun d => kq d e w := by
  unfold pVar vOf
  cases e[x]? with
  | none => rfl
  | some z => cases z <;> rfl
theorem eVal {d : Dat} : vOf (some (.val d)) k = k d := rfl
theorem eOwnAt {x : Nat} {ko : Bool → List Dat → Prop} : ownAt e x ko = oOf e[x]? ko := rfl
theorem eOwn {f : Bool} {ko : Bool → List Dat → Prop} : oOf (some (.own f l)) ko = ko f l := rfl
/-! fields -/
def sideOf (d : Dat) (k : Dat → Prop) : Prop := match d with | .big _ n => k (.int (sgn n)) | _ => False
def rowOf (d : Dat) (k : Dat → Prop) : Prop := match d with | .big b n => k (.tup (dN (digs b n.natAbs))) | _ => False
def bitsOf (d : Dat) (k : Dat → Prop) : Prop := match d with | .big b _ => k (.int (b : Int)) | _ => False
def machOf (d : Dat) (k : Nat → Prop) : Prop := match d with | .mach i => k i | _ => False
def bigOf (d : Dat) (k : Nat → Int → Prop) : Prop := match d with | .big b n => k b n | _ => False
theorem eSide {p : PE} : pSide p e w kq = p e w fun x e w => sideOf x fun d => kq d e w := by
  unfold pSide; congr 1
theorem eRow {p : PE} : pRow p e w kq = p e w fun x e w => rowOf x fun d => kq d e w := by
  unfold pRow; congr 1
theorem eWidB {p : PE} : pWidthB p e w kq = p e w fun x e w => bitsOf x fun d => kq d e w := by
  unfold pWidthB; congr 1
theorem eWidM {p : PE} : pWidthM p e w kq = p e w fun x e w => machOf x fun i => onM w i fun m => kq (.int (m.b : Int)) e w := by
  unfold pWidthM; congr 1
theorem eCut {p : PE} : pCut p e w kq = p e w fun x e w => machOf x fun i => onM w i fun m => kq (.int m.cut) e w := by
  unfold pCut; congr 1
theorem eBase {p : PE} : pBase p e w kq = p e w fun x e w => machOf x fun i => onM w i fun m => kq (.int (2 ^ m.b)) e w := by
  unfold pBase; congr 1
theorem eMethM {P : PSp} {p : PE} {r : PA} : pMethM P p r e w kq = p e w fun x e w => machOf x fun i => r e w fun ds e w => P (.mach i :: ds) w fun d w => kq d e w := by
  unfold pMethM; congr 1
theorem eMethB {P : PSp} {p : PE} {r : PA} : pMethB P p r e w kq = p e w fun x e w => bigOf x fun b n => r e w fun ds e w => P (.big b n :: ds) w fun d w => kq d e w := by
  unfold pMethB; congr 1
theorem eSideB {x : Nat} : sideOf (.big x i) k = k (.int (sgn i)) := rfl
theorem eRowB {x : Nat} : rowOf (.big x i) k = k (.tup (dN (digs x i.natAbs))) := rfl
theorem eBitsB {x : Nat} : bitsOf (.big x i) k = k (.int (x : Int)) := rfl
theorem eMachO {x : Nat} {km : Nat → Prop} : machOf (.mach x) km = km x := rfl
theorem eBigO {x : Nat} {km : Nat → Int → Prop} : bigOf (.big x i) km = km x i := rfl
theorem frz_nil : frz e [] = e := rfl
theorem frz_own {x : Nat} {is : List Nat} (h : e[x]? = some (.own true l)) : frz e (x :: is) = frz (e.set x (.val (.lst l))) is := by
  rw [frz, h]; rfl
theorem frz_val {x : Nat} {is : List Nat} {d : Dat} (h : e[x]? = some (.val d)) : frz e (x :: is) = frz e is := by
  rw [frz, h]
  have hs : e.set x (.val d) = e := by
    obtain ⟨h1, h2⟩ := List.getElem?_eq_some_iff.mp h
    rw [← h2]; exact List.set_getElem_self h1
  show frz (e.set x (fz (.val d))) is = _
  show frz (e.set x (.val d)) is = _
  rw [hs]
/-! promises at known data -/
variable {x y : Nat} {kw : Dat → Wld → Prop} {cut : Int}
theorem e_count {v : Int} : P_Machine_count [.mach x, .str s, .int v] w kw = onM w x fun m => ∃ j, words[j]? = some s ∧ kw .non (w.put x (m.cnt j v)) := rfl
theorem e_reset : P_Machine_reset [.mach x] w kw = onM w x fun m => kw .non (w.put x m.rst) := rfl
theorem e_parts : P_Machine_parts [.mach x] w kw = onM w x fun m => kw (.tup [.int (m.b : Int), .int m.cut]) w := rfl
theorem e_walk : P_Machine_walk [.mach x] w kw = onM w x fun m => kw (.lst (m.walk.map dW)) w := rfl
theorem e_tally : P_Machine_tally [.mach x] w kw = onM w x fun m => kw (.lst (dRows m.ns)) w := rfl
theorem e_check_machine : P_check_machine [.mach x] w kw = onM w x fun _ => kw .non w := rfl
theorem e_Machine : P_Machine [.int n, .int cut] w kw = ((8 ≤ n ∧ n ≤ 30 ∧ 2 ≤ cut ∧ cut ≤ 1000) ∧ kw (.mach w.ms.length) ⟨w.ms ++ [⟨n.toNat, cut, zeros, []⟩], w.ss⟩) := rfl
theorem e_made : P_made [.mach x, .int i, .lst l] w kw = onM w x fun m => ∃ es : List Nat, l = dN es ∧ m.b ≠ 0 ∧ Digs m.b es ∧ es.length < 2 ^ 23 ∧ sgnOk i (val m.b es) ∧ kw (.big m.b (i * (val m.b es : Nat))) w := rfl
theorem e_big_of : P_big_of [.mach x, .int n] w kw = onM w x fun m => m.b ≠ 0 ∧ (digs m.b n.natAbs).length < 2 ^ 23 ∧ kw (.big m.b n) w := rfl
theorem e_big : P_big [.mach x, .int n] w kw = onM w x fun m => m.b ≠ 0 ∧ (digs m.b n.natAbs).length < 2 ^ 23 ∧ kw (.big m.b n) w := rfl
theorem e_value_of : P_value_of [.big x n] w kw = (bigL x n ∧ kw (.int n) w) := rfl
theorem e_plain : P_plain [.big x n] w kw = (bigL x n ∧ kw (.int n) w) := rfl
theorem e_check_any : P_check_any [.big x n] w kw = kw .non w := rfl
theorem e_check_big : P_check_big [.mach x, .str s, .big y n] w kw = onM w x fun m => m.b = y ∧ kw .non w := rfl
theorem e_check_bigs {y' : Nat} : P_check_bigs [.mach x, .big y n, .big y' i] w kw = onM w x fun m => m.b = y ∧ m.b = y' ∧ kw .non w := rfl
theorem e_is_compact : P_is_compact [.big x n] w kw = kw (.bl (decide ((digs x n.natAbs).length ≤ 1))) w := rfl
theorem e_sign : P_Big_sign [.big x n] w kw = kw (.int (sgn n)) w := rfl
theorem e_bits : P_Big_bits [.big x n] w kw = kw (.int (x : Int)) w := rfl
theorem e_digits : P_Big_digits [.big x n] w kw = kw (.lst (dN (digs x n.natAbs))) w := rfl
theorem e_bit_length : P_bit_length [.big x n] w kw = (bigL x n ∧ kw (.int (Builtin.Int.intBits n : Nat)) w) := rfl
theorem e_is_digits : P_is_digits [.mach x, .lst l] w kw = onM w x fun m => ∃ es : List Nat, l = dN es ∧ Digs m.b es ∧ es.length < 2 ^ 23 ∧ kw (.bl true) w := rfl
theorem e_Big : P_Big [.int n, .int i, .tup l] w kw = ∃ (b' : Nat) (z : Int), n = (b' : Int) ∧ i = sgn z ∧ l = dN (digs b' z.natAbs) ∧ kw (.big b' z) w := rfl
theorem e_source_of : P_law_source_of [.int n] w kw = kw (.src w.ss) ⟨w.ms, w.ss + 1⟩ := rfl
theorem e_next : P_law_next [.src x, .int n] w kw = (x < w.ss ∧ (0 < n ∧ NxtB n) ∧ ∀ r, 0 ≤ r → r < n → kw (.int r) w) := rfl
theorem e_one : P_law_one [.src x, .lst l] w kw = (x < w.ss ∧ (l ≠ [] ∧ l.length ≤ 1000) ∧ ∀ d ∈ l, kw d w) := rfl
theorem e_cell_at : P_law_cell_at [.cst l, .int i] w kw = ∃ ns : List Int, l = ns.map Dat.int ∧ ns.length ≤ 1000 ∧ ∀ n, kw (.int n) w := rfl
theorem e_counted {d : List (Str × Int)} : P_law_counted [.mach x, .dic d] w kw = onM w x fun m => Due d m.ns ∧ kw (.bl true) (w.put x m.rst) := rfl
theorem e_cnt {v : Int} {j : Nat} (hj : words[j]? = some s) : P_Machine_count [.mach x, .str s, .int v] w kw = onM w x fun m => kw .non (w.put x (m.cnt j v)) := by
  rw [e_count]
  congr 1
  funext m
  refine propext ⟨fun ⟨j', h1, h2⟩ => ?_, fun h => ⟨j, hj, h⟩⟩
  have hi : j < words.length := (List.getElem?_eq_some_iff.mp hj).1
  have : j = j' := (List.getElem?_inj hi (by decide +kernel)).mp (hj.trans h1.symm)
  rw [this]; exact h2
theorem e_cnt0 {v : Int} : P_Machine_count [.mach x, .str "short", .int v] w kw = onM w x fun m => kw .non (w.put x (m.cnt 0 v)) := e_cnt rfl
theorem e_cnt1 {v : Int} : P_Machine_count [.mach x, .str "sum", .int v] w kw = onM w x fun m => kw .non (w.put x (m.cnt 1 v)) := e_cnt rfl
theorem e_cnt2 {v : Int} : P_Machine_count [.mach x, .str "product", .int v] w kw = onM w x fun m => kw .non (w.put x (m.cnt 2 v)) := e_cnt rfl
theorem e_cnt3 {v : Int} : P_Machine_count [.mach x, .str "quotient", .int v] w kw = onM w x fun m => kw .non (w.put x (m.cnt 3 v)) := e_cnt rfl
theorem e_cnt4 {v : Int} : P_Machine_count [.mach x, .str "corrected", .int v] w kw = onM w x fun m => kw .non (w.put x (m.cnt 4 v)) := e_cnt rfl
theorem e_cnt5 {v : Int} : P_Machine_count [.mach x, .str "restored", .int v] w kw = onM w x fun m => kw .non (w.put x (m.cnt 5 v)) := e_cnt rfl
theorem e_cnt6 {v : Int} : P_Machine_count [.mach x, .str "shifted", .int v] w kw = onM w x fun m => kw .non (w.put x (m.cnt 6 v)) := e_cnt rfl
theorem e_cnt7 {v : Int} : P_Machine_count [.mach x, .str "combined", .int v] w kw = onM w x fun m => kw .non (w.put x (m.cnt 7 v)) := e_cnt rfl
theorem e_cnt8 {v : Int} : P_Machine_count [.mach x, .str "complemented", .int v] w kw = onM w x fun m => kw .non (w.put x (m.cnt 8 v)) := e_cnt rfl
theorem e_cnt9 {v : Int} : P_Machine_count [.mach x, .str "looked", .int v] w kw = onM w x fun m => kw .non (w.put x (m.cnt 9 v)) := e_cnt rfl
/-! machines that stand -/
theorem onM_is {m : Mach} {km : Mach → Prop} (h : w.ms[x]? = some m) : onM w x km = km m := by unfold onM; rw [h]
theorem put_at {m m' : Mach} (h : w.ms[x]? = some m) : (w.put x m').ms[x]? = some m' := by
  show (w.ms.set x m')[x]? = _
  exact List.getElem?_set_self (List.getElem?_eq_some_iff.mp h).1
theorem put_put {m m' : Mach} : (w.put x m).put x m' = w.put x m' := by
  unfold Wld.put; simp
theorem put_ss {m : Mach} : (w.put x m).ss = w.ss := rfl
theorem put_self {m : Mach} (h : w.ms[x]? = some m) : w.put x m = w := by
  unfold Wld.put
  obtain ⟨h1, h2⟩ := List.getElem?_eq_some_iff.mp h
  have : w.ms.set x m = w.ms := by rw [← h2]; exact List.set_getElem_self h1
  rw [this]
theorem onM_put {m m' : Mach} {km : Mach → Prop} (h : w.ms[x]? = some m) : onM (w.put x m') x km = km m' := onM_is (put_at h)
theorem put_ne {m : Mach} (h : y ≠ x) : (w.put x m).ms[y]? = w.ms[y]? := List.getElem?_set_ne (Ne.symm h)
end
/-! ### tests of two parts -/
theorem ite_and {p q A B : Prop} [Decidable p] [Decidable q] (ha : p → q → A) (hb : ¬ (p ∧ q) → B) : if p then if q then A else B else B := by
  by_cases h1 : p
  · rw [if_pos h1]
    by_cases h2 : q
    · rw [if_pos h2]; exact ha h1 h2
    · rw [if_neg h2]; exact hb fun z => h2 z.2
  · rw [if_neg h1]; exact hb fun z => h1 z.1
theorem ite_or {p q A B : Prop} [Decidable p] [Decidable q] (ha : p ∨ q → A) (hb : ¬ p → ¬ q → B) : if p then A else if q then A else B := by
  by_cases h1 : p
  · rw [if_pos h1]; exact ha (.inl h1)
  · rw [if_neg h1]
    by_cases h2 : q
    · rw [if_pos h2]; exact ha (.inr h2)
    · rw [if_neg h2]; exact hb h1 h2
theorem ite_2 {p A B : Prop} [Decidable p] (ha : p → A) (hb : ¬ p → B) : if p then A else B := by
  by_cases h1 : p
  · rw [if_pos h1]; exact ha h1
  · rw [if_neg h1]; exact hb h1
/-! ### loops by what holds between turns -/
theorem lp_ind {g : PG} {b : PS} {D : PEnds} {ds : List Dat} {e : Env} {w : Wld} (Iv : Nat → Env → Wld → Prop) (h0 : Iv 0 e w)
    (hs : ∀ (i : Nat) (d : Dat) (e : Env) (w : Wld) (nx : Env → Wld → Prop), ds[i]? = some d → Iv i e w → (∀ e w, Iv (i + 1) e w → nx e w) → g d e w fun e w => b ⟨nx, D.rt, D.nx, nx⟩ e w)
    (hd : ∀ e w, Iv ds.length e w → D.nx e w) : lp g b D ds e w := by
  have key : ∀ n i e w, n + i = ds.length → Iv i e w → lp g b D (ds.drop i) e w := by
    intro n
    induction n with
    | zero =>
      intro i e w hi hI
      have : i = ds.length := by omega
      subst this
      rw [List.drop_length]
      exact hd e w hI
    | succ n ih =>
      intro i e w hi hI
      have hlt : i < ds.length := by omega
      rw [List.drop_eq_getElem_cons hlt]
      exact hs i _ e w _ (List.getElem?_eq_getElem hlt) hI fun e w h => ih (i + 1) e w (by omega) h
  exact key ds.length 0 e w rfl h0
theorem lcp_ind {g : PG} {t : PT} {a : PE} {vs : List Nat} {k : List Dat → Env → Wld → Prop} {ds : List Dat} {e : Env} {w : Wld} (Iv : Nat → List Dat → Env → Wld → Prop) (h0 : Iv 0 [] e w)
    (hs : ∀ (i : Nat) (d : Dat) (acc : List Dat) (e : Env) (w : Wld) (nx : List Dat → Env → Wld → Prop), ds[i]? = some d → Iv i acc e w → (∀ acc e w, Iv (i + 1) acc e w → nx acc e w) →
      g d e w fun e w => t e w fun b e w => if b = true then a e w fun y e w => acc.length < sizeLine ∧ nx (acc ++ [y]) (wip e vs) w else nx acc (wip e vs) w)
    (hd : ∀ acc e w, Iv ds.length acc e w → k acc e w) : lcp g t a vs k ds [] e w := by
  have key : ∀ n i acc e w, n + i = ds.length → Iv i acc e w → lcp g t a vs k (ds.drop i) acc e w := by
    intro n
    induction n with
    | zero =>
      intro i acc e w hi hI
      have : i = ds.length := by omega
      subst this
      rw [List.drop_length]
      exact hd acc e w hI
    | succ n ih =>
      intro i acc e w hi hI
      have hlt : i < ds.length := by omega
      rw [List.drop_eq_getElem_cons hlt]
      exact hs i _ acc e w (fun acc e w => lcp g t a vs k (ds.drop (i + 1)) acc e w) (List.getElem?_eq_getElem hlt) hI fun acc e w h => ih (i + 1) acc e w (by omega) h
  exact key ds.length 0 [] e w rfl h0
theorem whl_ind {c : PT} {b : PS} {D : PEnds} {e : Env} {w : Wld} (Iv : Nat → Env → Wld → Prop) (m : Nat) (h0 : Iv m e w)
    (hs : ∀ (m : Nat) (e : Env) (w : Wld) (nx : Env → Wld → Prop), Iv m e w → (∀ m' e w, m' < m → Iv m' e w → nx e w) → c e w fun t e w => if t = true then b ⟨nx, D.rt, D.nx, nx⟩ e w else D.nx e w) : pWhile c b D e w := by
  have key : ∀ n m e w, m < n → Iv m e w → whl c b D n e w := by
    intro n
    induction n with
    | zero => intro m e w h _; omega
    | succ n ih => intro m e w h hI; exact hs m e w _ hI fun m' e w hm h' => ih m' e w (by omega) h'
  exact ⟨m + 1, key (m + 1) m e w (Nat.lt_succ_self m) h0⟩
/-! length of a promise's arguments -/
theorem lif_len {K : PySem.W.Frag} {c : Pc} {P : PSp} {n : Nat} {vs : List V} {H : Hp} {Q : VK} {E : XK} (hP : ∀ ds w k, P ds w k → ds.length = n) (h : lif K c P vs H Q E) : vs.length = n := by
  obtain ⟨g, w, ds, k, _, r, hp, _⟩ := h
  rw [r.length]; exact hP ds w k hp
end Pu

/-! Mono: meanings that keep what follows; a value once for all behind it. -/
namespace Pu
open PySem L2 Eng
def Mo (p : PE) : Prop := ∀ (e : Env) (w : Wld) (k k' : PQ), (∀ d e w, k d e w → k' d e w) → p e w k → p e w k'
def MoF (p : PF) : Prop := ∀ (e : Env) (w : Wld) (k k' : List Dat → Env → Wld → Prop), (∀ d e w, k d e w → k' d e w) → p e w k → p e w k'
def MoT (p : PT) : Prop := ∀ (e : Env) (w : Wld) (k k' : Bool → Env → Wld → Prop), (∀ d e w, k d e w → k' d e w) → p e w k → p e w k'
def MoA (p : PA) : Prop := ∀ (e : Env) (w : Wld) (k k' : List Dat → Env → Wld → Prop), (∀ d e w, k d e w → k' d e w) → p e w k → p e w k'
def MoQ (q : Q2) : Prop := ∀ (x y : Dat) (k k' : Dat → Prop), (∀ d, k d → k' d) → q x y k → q x y k'
def MoP (P : PSp) : Prop := ∀ (ds : List Dat) (w : Wld) (k k' : Dat → Wld → Prop), (∀ d w, k d w → k' d w) → P ds w k → P ds w k'
section
variable {a b : PE} {c d : PT} {r : PA} {q : Q2} {i : Nat} {x : Dat} {P : PSp}
theorem mo_var : Mo (pVar i) := fun e w k k' h hp => by
  rw [eVar] at hp ⊢
  unfold vOf at hp ⊢
  split
  · rename_i z
    rw [z] at hp; exact h _ _ _ hp
  · rename_i z
    split at hp
    · rename_i z'; exact (z _ z').elim
    · exact hp
theorem mo_c : Mo (pC x) := fun e w k k' h hp => h _ _ _ hp
theorem mo_op (hq : MoQ q) (ha : Mo a) (hb : Mo b) : Mo (pOp q a b) := fun e w k k' h hp => ha _ _ _ _ (fun x e w hx => hb _ _ _ _ (fun y e w hy => hq _ _ _ _ (fun z hz => h _ _ _ hz) hy) hx) hp
theorem mo_neg (ha : Mo a) : Mo (pUn qNeg a) := fun e w k k' h hp => ha _ _ _ _ (fun x e w hx => by
  cases x with
  | int n => exact h _ _ _ hx
  | _ => exact hx.elim) hp
theorem mo_test (ha : Mo a) : MoT (pTest a) := fun e w k k' h hp => ha _ _ _ _ (fun x e w hx => by
  cases x with
  | bl n => exact h _ _ _ hx
  | _ => exact hx.elim) hp
theorem mo_not (hc : MoT c) : MoT (pNot c) := fun e w k k' h hp => hc _ _ _ _ (fun x e w hx => h _ _ _ hx) hp
theorem mo_and (hc : MoT c) (hd : MoT d) : MoT (pAnd c d) := fun e w k k' h hp => hc _ _ _ _ (fun x e w hx => by
  split
  · rename_i z; rw [if_pos z] at hx; exact hd _ _ _ _ h hx
  · rename_i z; rw [if_neg z] at hx; exact h _ _ _ hx) hp
theorem mo_or (hc : MoT c) (hd : MoT d) : MoT (pOr c d) := fun e w k k' h hp => hc _ _ _ _ (fun x e w hx => by
  split
  · rename_i z; rw [if_pos z] at hx; exact h _ _ _ hx
  · rename_i z; rw [if_neg z] at hx; exact hd _ _ _ _ h hx) hp
theorem mo_if (hc : MoT c) (ha : Mo a) (hb : Mo b) : Mo (pIf c a b) := fun e w k k' h hp => hc _ _ _ _ (fun x e w hx => by
  split
  · rename_i z; rw [if_pos z] at hx; exact ha _ _ _ _ h hx
  · rename_i z; rw [if_neg z] at hx; exact hb _ _ _ _ h hx) hp
theorem mo_nil : MoA pNil := fun e w k k' h hp => h _ _ _ hp
theorem mo_cons (ha : Mo a) (hr : MoA r) : MoA (pCons a r) := fun e w k k' h hp => ha _ _ _ _ (fun x e w hx => hr _ _ _ _ (fun y e w hy => h _ _ _ hy) hx) hp
theorem mo_call (hP : MoP P) (hr : MoA r) : Mo (pCall P r) := fun e w k k' h hp => hr _ _ _ _ (fun x e w hx => hP _ _ _ _ (fun d w hd => h _ _ _ hd) hx) hp
theorem mo_tup (hr : MoA r) : Mo (pTup r) := fun e w k k' h hp => hr _ _ _ _ (fun x e w hx => ⟨hx.1, h _ _ _ hx.2⟩) hp
theorem mo_fz {f : PF} (hf : MoF f) : Mo (pFz f) := fun e w k k' h hp => hf _ _ _ _ (fun x e w hx => h _ _ _ hx) hp
theorem mo_lst (hr : MoA r) : MoF (pLst r) := fun e w k k' h hp => hr _ _ _ _ (fun x e w hx => ⟨hx.1, h _ _ _ hx.2⟩) hp
theorem moq_I {C : Int → Int → Prop} {g : Int → Int → Dat} : MoQ (qI C g) := fun x y k k' h hq => by
  cases x with
  | int i =>
    cases y with
    | int j => exact ⟨hq.1, h _ hq.2⟩
    | _ => exact hq.elim
  | _ => exact hq.elim
theorem moq_I0 {g : Int → Int → Dat} : MoQ (qI0 g) := fun x y k k' h hq => by
  cases x with
  | int i =>
    cases y with
    | int j => exact h _ hq
    | _ => exact hq.elim
  | _ => exact hq.elim
theorem moq_eq : MoQ qEq := fun x y k k' h hq => by
  cases x <;> cases y <;> first | exact h _ hq | exact hq.elim
theorem moq_ne : MoQ qNe := fun x y k k' h hq => by
  cases x <;> cases y <;> first | exact h _ hq | exact hq.elim
/-- a name's value, known once for all behind it -/
theorem asg_cut {s : PS} {D : PEnds} {e : Env} {w : Wld} (V : Dat) (ha : Mo a) (h : a e w fun d e' w' => d = V ∧ e' = e ∧ w' = w) (hs : s D (e.set i (.val V)) w) : pSeq (pAsg a i) s D e w :=
  ha _ _ _ _ (fun d e' w' ⟨h1, h2, h3⟩ => by subst h1; subst h2; subst h3; exact hs) h
theorem asg_cutP {s : PS} {D : PEnds} {e : Env} {w : Wld} (V : Dat → Prop) (ha : Mo a) (h : a e w fun d e' w' => V d ∧ e' = e ∧ w' = w) (hs : ∀ d, V d → s D (e.set i (.val d)) w) : pSeq (pAsg a i) s D e w :=
  ha _ _ _ _ (fun d e' w' ⟨h1, h2, h3⟩ => by subst h2; subst h3; exact hs d h1) h
theorem ev_cut {k : PQ} {e : Env} {w : Wld} (V : Dat) (ha : Mo a) (h : a e w fun d e' w' => d = V ∧ e' = e ∧ w' = w) (hs : k V e w) : a e w k :=
  ha _ _ _ _ (fun d e' w' ⟨h1, h2, h3⟩ => by subst h1; subst h2; subst h3; exact hs) h
/-- a test, known once for all behind it -/
theorem if_cut {s t : PS} {D : PEnds} {e : Env} {w : Wld} (p : Prop) [Decidable p] (hc : MoT c) (h : c e w fun b e' w' => b = decide p ∧ e' = e ∧ w' = w) (hs : p → s D e w) (ht : ¬ p → t D e w) : pIfS c s t D e w :=
  hc _ _ _ _ (fun b e' w' ⟨h1, h2, h3⟩ => by
    subst h2; subst h3
    by_cases hp : p
    · rw [h1, decide_eq_true hp, if_pos rfl]; exact hs hp
    · rw [h1, decide_eq_false hp, if_neg Bool.false_ne_true]; exact ht hp) h
end
/-! ### a law -/
def P_law0 : PSp := fun ds w k => match ds with
  | [.cst l] => ∃ ns : List Int, l = ns.map Dat.int ∧ ns.length ≤ 63 ∧ ∀ w', k (.bl true) w'
  | _ => False
theorem law_lif {K : PySem.W.Frag} {c : Pc} {vs : List V} {H : Hp} {Q : VK} {E : XK} (h : sp_law0 K vs H Q E) : lif K c P_law0 vs H Q E := by
  obtain ⟨a, ns, rfl, hs, hl, hq⟩ := h
  refine ⟨⟨H, [], []⟩, ⟨[], 0⟩, [.cst (ns.map Dat.int)], fun d _ => d = .bl true, ⟨fun _ _ h => h, List.nodup_nil, (fun _ h => nomatch h), rfl, (fun i q m h => by simp at h), (fun _ h => nomatch h), rfl⟩, .cons (.cst hs (Reps.ofInts ns)) .nil, ⟨ns, rfl, hl, fun _ => rfl⟩, fun v d g' H' w' _ _ r hd => ?_⟩
  subst hd
  rw [r.blI]
  exact hq H'
theorem cut_all {P : Dat → Prop} {l : List Dat} (h : ∀ d ∈ l, P d) (lo hi : Option Int) : ∀ d ∈ cutD l lo hi, P d := fun d hd => h d (List.mem_of_mem_drop (List.mem_of_mem_take hd))
theorem cut_len {l : List Dat} (lo hi : Option Int) : (cutD l lo hi).length ≤ l.length := by
  unfold cutD
  rw [List.length_take, List.length_drop]; omega
/-- the loop over the script's cells -/
theorem lp_cells {g : PG} {b : PS} {D : PEnds} {e : Env} {w : Wld} {ns : List Int} {n : Int} {lo hi : Option Int} (Pe : Env → Prop) (h0 : Pe e)
    (hs : ∀ (z : Int) (e : Env) (w : Wld) (nx : Env → Wld → Prop), Pe e → (∀ e w, Pe e → nx e w) → g (.int z) e w fun e w => b ⟨nx, D.rt, D.nx, nx⟩ e w)
    (hd : ∀ e w, Pe e → D.nx e w) : lp g b D (.int n :: cutD (ns.map Dat.int) lo hi) e w := by
  have hall : ∀ d ∈ Dat.int n :: cutD (ns.map Dat.int) lo hi, ∃ z, d = .int z := fun d hd => by
    rcases List.mem_cons.mp hd with rfl | hd
    · exact ⟨n, rfl⟩
    · exact cut_all (P := fun d => ∃ z, d = .int z) (fun d hd => by obtain ⟨z, _, rfl⟩ := List.mem_map.mp hd; exact ⟨z, rfl⟩) lo hi d hd
  refine lp_ind (fun _ e _ => Pe e) h0 (fun i d e w nx hd hP hn => ?_) (fun e w hP => hd e w hP)
  obtain ⟨z, rfl⟩ := hall d (List.mem_of_getElem? hd)
  exact hs z e w nx hP hn
/-! ### what is due -/
theorem due_zero : Due [] zeros := ⟨List.nodup_nil, by decide, (fun _ z => nomatch z), fun j s hj => zero_get (List.getElem?_eq_some_iff.mp hj).1⟩
theorem due_one {s : Str} {j : Nat} {v : Int} (hj : words[j]? = some s) : Due [(s, v)] (zeros.modify j (· + v)) := by
  refine ⟨by simp, by simp, fun p hp => by rw [List.mem_singleton.mp hp]; exact List.mem_of_getElem? hj, fun j' s' hj' => ?_⟩
  have hi : j' < 10 := (List.getElem?_eq_some_iff.mp hj').1
  rw [List.getElem?_modify, zero_get hi]
  by_cases e : j = j'
  · subst e
    rw [hj] at hj'; cases hj'
    simp [List.lookup]
  · have ne : s' ≠ s := fun z => by
      subst z
      have hlt : j < words.length := (List.getElem?_eq_some_iff.mp hj).1
      exact e ((List.getElem?_inj hlt (by decide +kernel)).mp (hj.trans hj'.symm))
    have : (s' == s) = false := by simpa using ne
    simp [List.lookup, this, e]
theorem zeros_zero (j : Nat) : zeros.modify j (· + 0) = zeros := by
  apply List.ext_getElem?
  intro i
  rw [List.getElem?_modify]
  cases zeros[i]? with
  | none => rfl
  | some x => simp
end Pu

/-! Sop3: Machine.enter, parts of tuples, enumerate over lists and tuples. -/
namespace Pu
open PySem L2 Eng
def P_Machine_enter : PSp := fun ds w k => match ds with
  | [.mach i, .str s, .int m, .int n] => onM w i fun M => k .non (w.put i (M.ent s m n))
  | _ => False
theorem e_enter {x : Nat} {s : Str} {m n : Int} {w : Wld} {kw : Dat → Wld → Prop} : P_Machine_enter [.mach x, .str s, .int m, .int n] w kw = onM w x fun M => kw .non (w.put x (M.ent s m n)) := rfl
def pSlT (a : PE) (lo hi : PO) : PE := fun e w k => a e w fun x e w => lo e w fun l e w => hi e w fun u e w => tupOf x fun ds => k (.tup (cutD ds l u)) e w
section
variable {K : PySem.W.Frag} {c : Pc} {ta tb : TE} {pa pb : PE}
theorem four_arg {g : Gh} {vs : List V} {d e f f' : Dat} (r : Reps K c g vs [d, e, f, f']) : ∃ v v' v'' v3, vs = [v, v', v'', v3] ∧ Rep K c g v d ∧ Rep K c g v' e ∧ Rep K c g v'' f ∧ Rep K c g v3 f' := by
  cases r with
  | cons r t =>
    obtain ⟨v, v', v'', rfl, h, h', h''⟩ := three_arg t
    exact ⟨_, _, _, _, rfl, r, h, h', h''⟩
theorem u_Machine_enter : SndP K c (sp_Machine_enter K c) P_Machine_enter := by
  intro g H w vs ds k Q E W r h hQ
  unfold P_Machine_enter at h
  split at h
  · rename_i i s m n
    obtain ⟨M, hM, h⟩ := onM_of h
    obtain ⟨a, b, d, d', rfl, r1, r2, r3, r4⟩ := four_arg r
    obtain ⟨q, m', dx, hq, hm', rfl, hi, R⟩ := W.ins r1
    rw [hM] at hm'; cases hm'
    obtain ⟨ws, hw1, hw2⟩ := R.wlk
    have hlen : ws.length = M.walk.length := by rw [hw2.length, List.length_map]
    have hfew := R.few
    refine ⟨q.1, dx, M.b, M.cut, q.2.1, q.2.2, ws, s, m, n, by rw [r2.strI, r3.intI, r4.intI], hi, hw1, by omega, fun hlt p H' ch => ?_, fun hge => ?_⟩
    · obtain ⟨W', A⟩ := W.goM (fr := [(p, .tup [.str s, .int m, .int n])]) (m := M.ent s m n) hq ch (fun a ha => .inr (List.mem_singleton.mp ha)) (fun q hq => by rw [List.mem_singleton.mp hq]; exact ⟨_, ch.chg List.mem_cons_self⟩) (fun _ z => z) fun le => by
        obtain ⟨dx, hin⟩ := R.ins
        refine ⟨⟨dx, le.G _ _ hin⟩, ch.keep _ _ R.cnt (fun z => W.de hq hq (List.mem_singleton.mp z)), R.ten, ⟨_, ch.chg List.mem_cons_self, ?_⟩, ?_⟩
        · show Reps K c _ (ws ++ [.ref p]) ((if M.walk.length < 1000 then M.walk ++ [(s, m, n)] else M.walk).map dW)
          rw [if_pos (by omega), List.map_append]
          exact (hw2.mono le).app (.cons (.tup (gAdd_in (q := (p, HO.tup [.str s, .int m, .int n])) ch.nd List.mem_cons_self) (.cons (.str _) (.cons (.int _) (.cons (.int _) .nil)))) .nil)
        · show (if M.walk.length < 1000 then M.walk ++ [(s, m, n)] else M.walk).length ≤ 1000
          rw [if_pos (by omega), List.length_append]
          simp only [List.length_cons, List.length_nil]; omega
      exact hQ .non .non _ H' _ A W' .non h
    · have e : M.ent s m n = M := by unfold Mach.ent; rw [if_neg (by omega)]
      rw [e, put_self hM] at h
      exact hQ .non .non g H w (Aft.refl _ _) W .non h
  · exact h.elim
theorem snd_slT {tlo thi : TO} {plo phi : PO} (ha : SndE K c ta pa) (h1 : SndO K c tlo plo) (h2 : SndO K c thi phi) : SndE K c (tSl (rSlA K) ta tlo thi) (pSlT pa plo phi) := by
  intro X F σ s k Q I h hQ
  refine ha X F σ s _ _ I h fun x dx s1 l1 I1 r1 hA => ?_
  refine h1 X F σ s1 _ _ I1 hA fun l s2 l2 I2 hB => ?_
  refine h2 X F σ s2 _ _ I2 hB fun u s3 l3 I3 h' => ?_
  clear hA hB
  replace h' := tupOf_of h'
  obtain ⟨ds, rfl, h'⟩ := h'
  have r3 := (r1.mono l2).mono l3
  obtain ⟨a, vs, rfl, hH, hR⟩ := RepW.tup (.inl r3) I3
  refine ⟨a, vs, rfl, hH, fun hw => ?_, fun hw p hp => ?_⟩
  · have e : cutD ds l u = ds := by
      unfold cutD
      rw [hR.length] at hw
      rw [hw.1, hw.2, List.drop_zero, Nat.sub_zero, List.take_length]
    rw [e] at h'
    exact hQ _ _ s3 ((l1.trans l2).trans l3) I3 r3 h'
  · have le := gUpd_le (o := .tup (cutV vs l u)) (I3.offG hp)
    exact hQ _ _ ⟨gUpd s3.g p (.tup _), upd s3.H p (.tup _), s3.e, s3.w, s3.os⟩ (((l1.trans l2).trans l3).trans le) (I3.newG hp) (.tup (show upd s3.g.G p _ p = _ from upd_same) ((reps_cut hR l u).mono le)) h'
theorem ItD.enumT {g : Gh} {a : Addr} {vs : List V} {l : List Dat} (h : SqT K g.G a vs) (r : Reps K c g vs l) : ItD K c (IteT K a) g (enm 0 l) where
  go := fun X F σ s i d le I hd => by
    obtain ⟨x, hx, rfl⟩ := enm_get hd
    obtain ⟨v, hv, rv⟩ := r.get hx
    have hs : SqT K s.H a vs := sqT_mono I.wr.sub (sqT_mono le.G h)
    refine ⟨⟨vs, v, hs, hv⟩, fun z H' ⟨T, z1, e, hT, e2, q1⟩ => ?_⟩
    have e3 := q1 vs hs
    rw [hv] at e3; cases e3
    have le2 := gUpd_le (o := .tup [.int (i : Nat), v]) (I.offG hT)
    refine ⟨⟨gUpd s.g T (.tup [.int (i : Nat), v]), upd s.H T (.tup [.int (i : Nat), v]), s.e, s.w, s.os⟩, e2.symm, le2, I.newG hT, rfl, rfl, ?_⟩
    rw [e, Nat.zero_add]
    exact .tup (show upd s.g.G T _ T = _ from upd_same) (.cons (.int _) (.cons ((rv.mono le).mono le2) .nil))
  stop := fun X F σ s le I => ⟨vs, sqT_mono I.wr.sub (sqT_mono le.G h), by rw [r.length, enm_len]; exact Nat.le_refl _⟩
theorem snd_iEnumA (ha : SndE K c ta pa) : SndI K c (iEnumA K (tCons ta tNil)) (pIEnum pa) := by
  intro X F σ s k R I h hR
  refine ha X F σ s _ _ I h fun x dx s1 l1 I1 r1 h1 => ?_
  cases r1 with
  | lst h2 r2 => exact ⟨_, _, rfl, .inl ⟨SqL.of (I1.wr.sub _ _ h2), hR _ _ s1 l1 I1 (ItD.enum (SqL.of h2) r2) h1⟩⟩
  | cst h2 r2 => exact ⟨_, _, rfl, .inl ⟨sqL_mono I1.wr.sub h2, hR _ _ s1 l1 I1 (ItD.enum h2 r2) h1⟩⟩
  | tup h2 r2 => exact ⟨_, _, rfl, .inr ⟨SqT.of (I1.wr.sub _ _ h2), hR _ _ s1 l1 I1 (ItD.enumT (SqT.of h2) r2) h1⟩⟩
  | _ => exact h1.elim
end
end Pu

/-! Sop4: divmod; dicts of pairs, a dict's positive items, equal dicts. -/
namespace Pu
open PySem L2 Eng
def qDivmod : QL
  | [.int i, .int j], k => oDiv i j ∧ k (.tup [.int (i / j), .int (i % j)])
  | _, _ => False
def qAnyT : QL
  | [.tup l], k => ∃ ns : List Int, l = ns.map Dat.int ∧ k (.bl (ns.any fun n => n != 0))
  | _, _ => False
def pExtend (i : Nat) (a : PE) : PS := fun D e w => ownAt e i fun _ _ => a e w fun d e w => match d with
  | .lst zs => ownAt e i fun f l => l.length + zs.length ≤ sizeLine ∧ D.nx (e.set i (.own f (l ++ zs))) w
  | _ => False
def pIA (a : PE) : PA := fun e w k => a e w fun d e w => seqOf d fun l => k l e w
def dP (p : Str × Int) : Dat := .tup [.str p.1, .int p.2]
def qDict : QL
  | [.lst l], k => ∃ prs : List (Str × Int), l = prs.map dP ∧ (prs.map (·.1)).Nodup ∧ k (.dic prs)
  | _, _ => False
/-- the same pairs -/
def EqDs (l l' : List (Str × Int)) : Prop := l.length = l'.length ∧ (l'.map (·.1)).Nodup ∧ ∀ p ∈ l, p ∈ l'
def qEqDA : Q2
  | .dic l, .dic l', k => EqDs l l' ∧ k (.bl true)
  | _, _, _ => False
def pos (l : List (Str × Int)) : List (Str × Int) := l.filter fun p => decide (0 < p.2)
def pPosD : PE := fun e w k => match e with
  | [_, .val (.dic l), _, _, _, _, _, _] => ((l.map (·.1)).Nodup ∧ l.length < 100) ∧ k (.dic (pos l)) e w
  | _ => False
theorem dKs_nd {l : List (Str × Int)} (h : (l.map (·.1)).Nodup) : ((dKs l).map (·.1)).Nodup := by
  have e2 : (dKs l).map (·.1) = (l.map (·.1)).map fun z => (Sum.inr z : Key) := by unfold dKs; simp
  rw [e2]
  exact List.Pairwise.map (fun z => (Sum.inr z : Key)) (fun a b hne e => hne (Sum.inr.inj e)) h
theorem dKs_pos (l : List (Str × Int)) : posK (dKs l) = dKs (pos l) := by
  induction l with
  | nil => rfl
  | cons q l ih =>
    show posK ((Sum.inr q.1, V.int q.2) :: dKs l) = _
    have e1 : posK ((Sum.inr q.1, V.int q.2) :: dKs l) = if decide (0 < q.2) = true then (Sum.inr q.1, V.int q.2) :: posK (dKs l) else posK (dKs l) := List.filter_cons
    have e2 : pos (q :: l) = if decide (0 < q.2) = true then q :: pos l else pos l := List.filter_cons
    rw [e1, e2, ih]
    split <;> rfl
section
variable {K : PySem.W.Frag} {c : Pc}
theorem s_divmod : SndRL K c rDivmod qDivmod := by
  intro X F σ s vs ds k Q I r h hQ
  unfold qDivmod at h
  split at h
  · rename_i i j
    obtain ⟨h0, h⟩ := h
    refine ⟨i, j, two_of r rfl, h0, fun p hp => ?_⟩
    have le := gUpd_le (o := .tup [.int (i / j), .int (i % j)]) (I.offG hp)
    exact hQ _ _ ⟨gUpd s.g p (.tup [.int (i / j), .int (i % j)]), upd s.H p (.tup [.int (i / j), .int (i % j)]), s.e, s.w, s.os⟩ le (I.newG hp) rfl rfl (.tup (show upd s.g.G p _ p = _ from upd_same) (.cons (.int _) (.cons (.int _) .nil))) h
  · exact h.elim
theorem snd_iAny {ta : TE} {pa : PE} (ha : SndE K c ta pa) : SndI K c (iAny K ta) (pIA pa) := by
  intro X F σ s k R I h hR
  refine ha X F σ s _ _ I h fun x dx s1 l1 I1 r1 h1 => ?_
  cases r1 with
  | lst h2 r2 => exact ⟨_, rfl, .inl ⟨⟨_, SqL.of (I1.wr.sub _ _ h2)⟩, hR _ _ s1 l1 I1 (ItD.list (SqL.of h2) r2) h1⟩⟩
  | cst h2 r2 => exact ⟨_, rfl, .inl ⟨⟨_, sqL_mono I1.wr.sub h2⟩, hR _ _ s1 l1 I1 (ItD.list h2 r2) h1⟩⟩
  | tup h2 r2 => exact ⟨_, rfl, .inr ⟨⟨_, SqT.of (I1.wr.sub _ _ h2)⟩, hR _ _ s1 l1 I1 (ItD.tup (SqT.of h2) r2) h1⟩⟩
  | _ => exact h1.elim
theorem ints_rep {g : Gh} : ∀ {ns : List Int} {ws : List V}, Reps K c g ws (ns.map Dat.int) → ws = ns.map V.int
  | [], _, .nil => rfl
  | n :: ns, _, .cons r rs => by
    rw [ints_rep rs]
    cases r
    rfl
theorem s_anyT : SndRL K c (rAnyT K) qAnyT := by
  intro X F σ s vs ds k Q I r h hQ
  unfold qAnyT at h
  split at h
  · replace r := one_of r
    obtain ⟨v, rfl, r⟩ := r
    obtain ⟨ns, rfl, h⟩ := h
    obtain ⟨a, ws, rfl, hH, hR⟩ := r.tup I
    rw [ints_rep hR] at hH
    exact ⟨a, ns, rfl, hH, hQ _ _ s (Gh.le.refl _) I rfl rfl (.bl _) h⟩
  · exact h.elim
theorem snd_extend {ta : TE} {pa : PE} {i : Nat} (ha : SndE K c ta pa) : SndS K c (tDrop (tBM K "list" rExtend (tVar i) (tCons ta tNil))) (pExtend i pa) := by
  intro X F σ s D Dp I h hE
  obtain ⟨f0, l0, e0, h⟩ := ownAt_of h
  obtain ⟨a, vs0, hs, ho, hH0, _, _⟩ := I.own e0
  refine ⟨.ref a, hs, .inl ⟨rfl, _, SqL.of hH0⟩, ?_⟩
  refine ha X F σ s _ _ I h fun y dy s2 l2 I2 r2 h2 => ?_
  split at h2
  · obtain ⟨f, l, e1, hz, h2⟩ := ownAt_of h2
    obtain ⟨a', vs, hs', ho', hH, hR, hf⟩ := I2.own e1
    rw [hs] at hs'; cases hs'
    cases r2 with
    | lst hb rb =>
      exact ⟨a, _, vs, _, rfl, rfl, hH, I2.wr.sub _ _ hb, by rw [hR.length, rb.length]; exact hz, hE.nx σ ⟨s2.g, upd s2.H a _, s2.e.set i (.own f (l ++ _)), s2.w, s2.os⟩ l2 (I2.ownPut hs ho' (hR.app rb) hf) h2⟩
  · exact h2.elim
theorem prs_of {g : Gh} {H : Hp} (sub : ∀ a o, g.G a = some o → H a = some o) : ∀ {prs : List (Str × Int)} {ws : List V}, Reps K c g ws (prs.map dP) → ∃ ps : List Addr, ws = ps.map V.ref ∧ Paired (fun p kv => SqT K H p [kV kv.1, kv.2]) ps (dKs prs)
  | [], _, .nil => ⟨[], rfl, .nil⟩
  | q :: prs, _, .cons r rs => by
    obtain ⟨ps, rfl, h⟩ := prs_of sub rs
    unfold dP at r
    cases r with
    | tup h1 r1 =>
      cases r1 with
      | cons r2 r3 =>
        cases r3 with
        | cons r4 r5 =>
          cases r5
          cases r2
          cases r4
          exact ⟨_ :: ps, rfl, .cons (SqT.of (sub _ _ h1)) h⟩
theorem s_dict : SndRL K c (rDict K) qDict := by
  intro X F σ s vs ds k Q I r h hQ
  unfold qDict at h
  split at h
  · replace r := one_of r
    obtain ⟨v, rfl, r⟩ := r
    obtain ⟨prs, rfl, hn, h⟩ := h
    obtain ⟨a, ws, rfl, hH, hR⟩ := r.lst I
    obtain ⟨ps, rfl, hp⟩ := prs_of I.wr.sub hR
    refine ⟨a, ps, dKs prs, rfl, SqL.of hH, hp, fun p hp => ?_⟩
    rw [mergeK_nil (dKs_nd hn)]
    have le := gUpd_le (o := .dK (dKs prs)) (I.offG hp)
    exact hQ _ _ ⟨gUpd s.g p (.dK (dKs prs)), upd s.H p (.dK (dKs prs)), s.e, s.w, s.os⟩ le (I.newG hp) rfl rfl (.dic (show upd s.g.G p _ p = _ from upd_same)) h
  · exact h.elim
theorem RepW.dic {s : Cf} {v : V} {l : List (Str × Int)} {X : En} {F : List (Addr × HO)} {σ : L2.St} (I : In K c X F σ s) (h : RepW K c s v (.dic l)) : ∃ a, v = .ref a ∧ s.H a = some (.dK (dKs l)) := by
  rcases h with h | ⟨_, _, _, _, e, _⟩
  · cases h with
    | dic h => exact ⟨_, rfl, I.wr.sub _ _ h⟩
  · cases e
theorem s_eqDA : SndR2 K c rEqDA qEqDA := by
  intro X F σ s x y dx dy k Q I rx ry h hQ
  cases dx with
  | dic l =>
    cases dy with
    | dic l' =>
      obtain ⟨⟨h1, h2, h3⟩, h⟩ := h
      obtain ⟨a, rfl, ha⟩ := RepW.dic I rx
      obtain ⟨a', rfl, ha'⟩ := RepW.dic I ry
      refine ⟨a, a', _, _, rfl, rfl, ha, ha', by unfold dKs; rw [List.length_map, List.length_map]; exact h1, fun p hp => ?_, hQ _ _ s (Gh.le.refl _) I rfl rfl (.bl _) h⟩
      obtain ⟨q, hq, rfl⟩ := List.mem_map.mp hp
      exact ⟨valV_mem (dKs_nd h2) (List.mem_map.mpr ⟨q, h3 q hq, rfl⟩), rfl⟩
    | _ => exact h.elim
  | _ => exact h.elim
theorem snd_posD : SndE K c (tPosD K) pPosD := by
  intro X F σ s k Q I h hQ
  unfold pPosD at h
  split at h
  · rename_i e0 x0 l x2 x3 x4 x5 x6 x7 he
    obtain ⟨⟨hnd, hfew⟩, h⟩ := h
    have hlen := I.len
    rw [he] at hlen
    match σ, hlen with
    | [a0, a1, a2, a3, a4, a5, a6, a7], _ =>
      obtain ⟨v, h1, h2⟩ := I.env 1 (.val (.dic l)) (by rw [he]; rfl)
      obtain ⟨a, rfl, ha⟩ := RepW.dic I (.inl h2)
      obtain rfl : a1 = some (.ref a) := Option.some.inj h1
      refine rd_posD ha (dKs_nd hnd) (by unfold dKs; rw [List.length_map]; exact hfew) (fun kv hkv => ?_) fun p H' hp sm => ?_
      · obtain ⟨⟨s, n⟩, _, rfl⟩ := List.mem_map.mp hkv
        exact ⟨s, n, rfl⟩
      · have I1 := I.same sm
        rw [dKs_pos]
        have le := gUpd_le (o := .dK (dKs (pos l))) (I1.offG hp)
        exact hQ _ _ ⟨gUpd s.g p (.dK (dKs (pos l))), upd H' p (.dK (dKs (pos l))), s.e, s.w, s.os⟩ le (I1.newG hp) (.dic (show upd s.g.G p _ p = _ from upd_same)) h
  · exact h.elim
def P_is_integer : PSp := fun ds w k => match ds with
  | [.int _] => k (.bl true) w
  | _ => False
theorem u_is_integer : SndP K c (sp_is_integer K c) P_is_integer := by
  intro g H w vs ds k Q E W r h hQ
  unfold P_is_integer at h
  split at h
  · obtain ⟨v, rfl, r1⟩ := one_arg r
    cases r1
    exact ⟨_, true, rfl, .inl ⟨_, rfl, rfl⟩, hQ _ _ g H w (Aft.refl _ _) W (.bl _) h⟩
  · exact h.elim
end
theorem e_is_integer {n : Int} {w : Wld} {k : Dat → Wld → Prop} : P_is_integer [.int n] w k = k (.bl true) w := rfl
section
variable {kd : Dat → Prop} {kq : PQ} {w : Wld}
theorem eDivmod {i j : Int} : qDivmod [.int i, .int j] kd = (oDiv i j ∧ kd (.tup [.int (i / j), .int (i % j)])) := rfl
theorem eAnyT {l : List Dat} : qAnyT [.tup l] kd = ∃ ns : List Int, l = ns.map Dat.int ∧ kd (.bl (ns.any fun n => n != 0)) := rfl
theorem eDict {l : List Dat} : qDict [.lst l] kd = ∃ prs : List (Str × Int), l = prs.map dP ∧ (prs.map (·.1)).Nodup ∧ kd (.dic prs) := rfl
theorem eEqDA {l l' : List (Str × Int)} : qEqDA (.dic l) (.dic l') kd = (EqDs l l' ∧ kd (.bl true)) := rfl
theorem ePosD {x0 x2 x3 x4 x5 x6 x7 : Slot} {l : List (Str × Int)} : pPosD [x0, .val (.dic l), x2, x3, x4, x5, x6, x7] w kq = (((l.map (·.1)).Nodup ∧ l.length < 100) ∧ kq (.dic (pos l)) [x0, .val (.dic l), x2, x3, x4, x5, x6, x7] w) := rfl
end
end Pu

/-! Thw: lists that a call has told and that only the caller holds: read, and changed. -/
namespace Pu
open PySem L2 Eng
/-- free of lists -/
def lf : Dat → Prop
  | .int _ => True
  | .bl _ => True
  | .str _ => True
  | .non => True
  | _ => False
def noOwn : Env → Prop
  | [] => True
  | .no :: e => noOwn e
  | .val _ :: e => noOwn e
  | _ :: _ => False
theorem noOwn_get : ∀ {e : Env} {j : Nat} {z : Slot}, noOwn e → e[j]? = some z → z = .no ∨ ∃ d, z = .val d
  | .no :: _, 0, _, _, h => .inl (Option.some.inj h).symm
  | .val d :: _, 0, _, _, h => .inr ⟨d, (Option.some.inj h).symm⟩
  | .no :: e, j + 1, _, hn, h => noOwn_get (e := e) (j := j) hn h
  | .val _ :: e, j + 1, _, hn, h => noOwn_get (e := e) (j := j) hn h
  | .own _ _ :: _, _, _, hn, _ => hn.elim
  | .ownT _ _ :: _, _, _, hn, _ => hn.elim
  | [], _, _, _, h => by simp at h
/-- what a name with a list of its own is, looked at -/
def bview (e : Env) (i : Nat) (k : Dat → Prop) : Prop := match e[i]? with
  | some (.own true l) => k (.lst l)
  | some (.ownT l r) => k (.tup (.lst l :: r))
  | _ => False
def pBor (i : Nat) (p : PE) : PE := fun e w k => noOwn (e.set i .no) ∧ bview e i fun d => p (e.set i (.val d)) w fun v e' w' => lf v ∧ e' = e.set i (.val d) ∧ k v e w'
def pBorT (i : Nat) (p : PT) : PT := fun e w k => noOwn (e.set i .no) ∧ bview e i fun d => p (e.set i (.val d)) w fun v e' w' => e' = e.set i (.val d) ∧ k v e w'
def gDel (g : Gh) (a : Addr) : Gh := ⟨fun x => if x = a then none else g.G x, g.ms, g.ss⟩
section
variable {K : PySem.W.Frag} {c : Pc} {X : En} {F : List (Addr × HO)} {σ : L2.St} {s s1 : Cf} {g g1 : Gh} {H : Hp} {w : Wld} {a : Addr} {vs : List V} {i : Nat} {ta tb : TE} {pa pb : PE} {tT : TT} {pT : PT} {tr : TA} {pr : PA} {sp : Sp} {P : PSp} {E : XK} {ts tu : TS} {ps pu : PS}
theorem le_del (h : g.le g1) (hn : g.G a = none) : g.le (gDel g1 a) := ⟨fun x o e => by
  show (if x = a then none else g1.G x) = some o
  rw [if_neg (fun z => by rw [z, hn] at e; cases e)]; exact h.G x o e, h.ms, h.ss⟩
theorem walk_del (ha : g.G a = some (.lst vs)) : ∀ {l : List (Str × Int × Int)} {us : List V}, Reps K c g us (l.map dW) → Reps K c (gDel g a) us (l.map dW)
  | [], _, .nil => .nil
  | x :: l, _, .cons r t => by
    refine .cons ?_ (walk_del ha t)
    unfold dW at r ⊢
    cases r with
    | tup h1 h2 =>
      have h1' : (gDel g a).G _ = some (HO.tup _) := (if_neg (fun z => by rw [z, ha] at h1; cases h1)).trans h1
      refine .tup h1' ?_
      cases h2 with
      | cons q1 h3 =>
        cases h3 with
        | cons q2 h4 =>
          cases h4 with
          | cons q3 h5 =>
            cases h5
            cases q1
            cases q2
            cases q3
            exact .cons (.str _) (.cons (.int _) (.cons (.int _) .nil))
theorem Wr.del (W : Wr K c g H w) (ha : g.G a = some (.lst vs)) : Wr K c (gDel g a) H w := by
  refine ⟨fun x o e => ?_, W.nd, fun x hx => ?_, W.mlen, fun i q m h1 h2 => ?_, W.srcs, W.nss⟩
  · have e : (if x = a then none else g.G x) = some o := e
    by_cases z : x = a
    · rw [if_pos z] at e; cases e
    · rw [if_neg z] at e; exact W.sub x o e
  · show (if x = a then none else g.G x) = none
    split
    · rfl
    · exact W.off x hx
  · have M := W.mach i q m h1 h2
    obtain ⟨dx, e⟩ := M.ins
    obtain ⟨us, u1, u2⟩ := M.wlk
    refine ⟨⟨dx, ?_⟩, M.cnt, M.ten, ⟨us, u1, walk_del ha u2⟩, M.few⟩
    show (if q.1 = a then none else g.G q.1) = _
    rw [if_neg (fun z => by rw [z, ha] at e; cases e)]; exact e
/-- a name's list, held -/
theorem In.toF (I : In K c X F σ s) (ho : (i, a) ∈ s.os) (hH : s.H a = some (.lst vs)) (hno : noOwn (s.e.set i .no)) : In K c X ((a, .lst vs) :: F) σ ⟨s.g, s.H, s.e.set i .no, s.w, []⟩ := by
  have hsub : List.Sublist ((⟨s.g, s.H, s.e.set i .no, s.w, []⟩ : Cf).mu ((a, .lst vs) :: F)) (s.mu F) := by
    unfold Cf.mu
    refine List.Sublist.append (List.Sublist.refl _) ?_
    show List.Sublist ([a] ++ F.map (·.1)) (s.os.map (·.2) ++ F.map (·.1))
    refine List.Sublist.append (List.singleton_sublist.mpr (List.mem_map.mpr ⟨_, ho, rfl⟩)) (List.Sublist.refl _)
  refine ⟨I.wr, I.nd.sublist hsub, fun b hb => I.off b (hsub.subset hb), by show (s.e.set i _).length = _; rw [List.length_set]; exact I.len, fun j z hz => ?_, fun q hq => ?_, (fun _ z => nomatch z), I.le, I.keep, I.frz, fun b hb => I.new b (hsub.subset hb), I.dom⟩
  · have hz' : (s.e.set i .no)[j]? = some z := hz
    rcases noOwn_get hno hz' with rfl | ⟨d, rfl⟩
    · trivial
    · rcases set_get hz' with ⟨_, e⟩ | ⟨ne, hz''⟩
      · cases e
      · exact I.env j _ hz''
  · rcases List.mem_cons.mp hq with rfl | hq
    · exact hH
    · exact I.held q hq
/-- looked at -/
theorem In.lend {v : V} {d : Dat} (I : In K c X F σ s) (ho : (i, a) ∈ s.os) (hH : s.H a = some (.lst vs)) (hx : X.H a = none) (hno : noOwn (s.e.set i .no)) (hs : σ[i]? = some (some v)) (hr : Rep K c (gUpd s.g a (.lst vs)) v d) : In K c X F σ ⟨gUpd s.g a (.lst vs), s.H, s.e.set i (.val d), s.w, []⟩ := by
  have I1 := ((I.toF ho hH hno).frzF hx).setV (i := i) hr
  have hσ : σ.set i (some v) = σ := by
    obtain ⟨h1, h2⟩ := List.getElem?_eq_some_iff.mp hs
    rw [← h2]; exact List.set_getElem_self h1
  rw [hσ] at I1
  have I2 : In K c X F σ ⟨gUpd s.g a (.lst vs), s.H, (s.e.set i .no).set i (.val d), s.w, []⟩ := I1
  rw [List.set_set] at I2
  exact I2
/-- given back -/
theorem In.back (I : In K c X F σ s) (ho : (i, a) ∈ s.os) (hx : X.H a = none) (hno : noOwn (s.e.set i .no)) (I1 : In K c X F σ s1) (hle : (gUpd s.g a (.lst vs)).le s1.g)
    (hz : ∀ s' : Cf, s.g.le s'.g → (i, a) ∈ s'.os → s'.H a = some (.lst vs) → ∀ z, s.e[i]? = some z → RSl K c X s' i σ[i]? z) : In K c X F σ ⟨gDel s1.g a, s1.H, s.e, s1.w, (i, a) :: s1.os⟩ ∧ s.g.le (gDel s1.g a) := by
  have hg0 : s.g.G a = none := I.off a (I.osMu ho)
  have hg1 : s1.g.G a = some (.lst vs) := hle.G a _ (show upd s.g.G a _ a = _ from upd_same)
  have le := le_del ((gUpd_le (o := .lst vs) hg0).trans hle) hg0
  have hna : a ∉ s1.mu F := fun z => by rw [I1.off a z] at hg1; cases hg1
  have hp : ((⟨gDel s1.g a, s1.H, s.e, s1.w, (i, a) :: s1.os⟩ : Cf).mu F).Perm (a :: s1.mu F) := by
    show (s1.g.mu ++ (a :: (s1.os.map (·.2) ++ F.map (·.1)))).Perm _
    exact List.perm_middle
  have hHa := I1.wr.sub a _ hg1
  refine ⟨⟨I1.wr.del hg1, hp.nodup_iff.mpr (List.nodup_cons.mpr ⟨hna, I1.nd⟩), fun b hb => ?_, I.len, fun j z hj => ?_, I1.held, fun q hq => ?_, I.le.trans le, I1.keep, fun b o e => ?_, fun b hb => ?_, I1.dom⟩, le⟩
  · show (if b = a then none else s1.g.G b) = none
    split
    · rfl
    · rename_i ne
      rcases List.mem_cons.mp (hp.mem_iff.mp hb) with z | z
      · exact absurd z ne
      · exact I1.off b z
  · by_cases e : j = i
    · subst e
      exact hz ⟨gDel s1.g a, s1.H, s.e, s1.w, (j, a) :: s1.os⟩ le List.mem_cons_self hHa z hj
    · have hj' : (s.e.set i .no)[j]? = some z := by rw [List.getElem?_set_ne (Ne.symm e)]; exact hj
      rcases noOwn_get hno hj' with rfl | ⟨d, rfl⟩
      · trivial
      · obtain ⟨v, h1, h2⟩ := I.env j _ hj
        exact ⟨v, h1, h2.mono le⟩
  · rcases List.mem_cons.mp hq with rfl | hq
    · exact ⟨_, hHa⟩
    · exact I1.oal q hq
  · show (if b = a then none else s1.g.G b) = _
    rw [if_neg (fun z => by rw [z, hx] at e; cases e)]
    exact I1.frz b o e
  · rcases List.mem_cons.mp (hp.mem_iff.mp hb) with z | z
    · rw [z]; exact .inr (.inr hx)
    · exact I1.new b z
/-- what a borrowed name is -/
theorem In.view (I : In K c X F σ s) {k : Dat → Prop} (h : bview s.e i k) : ∃ a vs v d, (i, a) ∈ s.os ∧ s.H a = some (.lst vs) ∧ X.H a = none ∧ σ[i]? = some (some v) ∧ Rep K c (gUpd s.g a (.lst vs)) v d ∧ k d ∧
    ∀ s' : Cf, s.g.le s'.g → (i, a) ∈ s'.os → s'.H a = some (.lst vs) → ∀ z, s.e[i]? = some z → RSl K c X s' i σ[i]? z := by
  unfold bview at h
  split at h
  · rename_i l e
    obtain ⟨a, vs, h1, h2, h3, h4, h5⟩ := I.env i _ e
    have le := gUpd_le (o := .lst vs) (I.off a (I.osMu h2))
    refine ⟨a, vs, .ref a, .lst l, h2, h3, h5.1 rfl, h1, .lst (show upd s.g.G a _ a = _ from upd_same) (h4.mono le), h, fun s' le' ho' hH' z hz => ?_⟩
    rw [e] at hz
    cases hz
    exact ⟨a, vs, h1, ho', hH', h4.mono le', h5⟩
  · rename_i l r e
    obtain ⟨p, a, us, vs, h1, h2, h3, h4, h5, h6, h7⟩ := I.env i _ e
    have le := gUpd_le (o := .lst vs) (I.off a (I.osMu h2))
    refine ⟨a, vs, .ref p, .tup (.lst l :: r), h2, h5, h7, h1, .tup (le.G _ _ h3) (.cons (.lst (show upd s.g.G a _ a = _ from upd_same) (h6.mono le)) (h4.mono le)), h, fun s' le' ho' hH' z hz => ?_⟩
    rw [e] at hz
    cases hz
    exact ⟨p, a, us, vs, h1, ho', le'.G _ _ h3, h4.mono le', hH', h6.mono le', h7⟩
  · exact h.elim
theorem lf_rep {g' : Gh} {v : V} {d : Dat} (hl : lf d) (h : Rep K c g v d) : Rep K c g' v d := by
  cases h with
  | non => exact .non
  | bl b => exact .bl b
  | int n => exact .int n
  | str s => exact .str s
  | _ => exact hl.elim
theorem snd_bor (ha : SndE K c ta pa) : SndE K c ta (pBor i pa) := by
  intro X F σ s k Q I h hQ
  obtain ⟨hno, h⟩ := h
  obtain ⟨a, vs, v, d, ho, hH, hx, hs, hr, h, hz⟩ := I.view h
  refine ha X F σ ⟨gUpd s.g a (.lst vs), s.H, s.e.set i (.val d), s.w, []⟩ _ _ (I.lend ho hH hx hno hs hr) h fun u du s1 l1 I1 r1 h1 => ?_
  obtain ⟨hl, _, h1⟩ := h1
  obtain ⟨I2, le⟩ := I.back ho hx hno I1 l1 hz
  exact hQ u du ⟨gDel s1.g a, s1.H, s.e, s1.w, (i, a) :: s1.os⟩ le I2 (lf_rep hl r1) h1
theorem snd_borT (ha : SndT K c tT pT) : SndT K c tT (pBorT i pT) := by
  intro X F σ s k Q I h hQ
  obtain ⟨hno, h⟩ := h
  obtain ⟨a, vs, v, d, ho, hH, hx, hs, hr, h, hz⟩ := I.view h
  refine ha X F σ ⟨gUpd s.g a (.lst vs), s.H, s.e.set i (.val d), s.w, []⟩ _ _ (I.lend ho hH hx hno hs hr) h fun u s1 l1 I1 h1 => ?_
  obtain ⟨_, h1⟩ := h1
  obtain ⟨I2, le⟩ := I.back ho hx hno I1 l1 hz
  exact hQ u ⟨gDel s1.g a, s1.H, s.e, s1.w, (i, a) :: s1.os⟩ le I2 h1
/-! ### changed -/
def ownTAt (e : Env) (i : Nat) (k : List Dat → List Dat → Prop) : Prop := match e[i]? with | some (.ownT l r) => k l r | _ => False
theorem ownTAt_of {e : Env} {k : List Dat → List Dat → Prop} (h : ownTAt e i k) : ∃ l r, e[i]? = some (.ownT l r) ∧ k l r := by
  unfold ownTAt at h
  split at h
  · exact ⟨_, _, by assumption, h⟩
  · exact h.elim
/-- a name's own list is changed; the name stands as z -/
theorem In.ownPutZ (I : In K c X F σ s) {z : Slot} (ha : (i, a) ∈ s.os) (hz : RSl K c X ⟨s.g, upd s.H a (.lst vs), s.e.set i z, s.w, s.os⟩ i σ[i]? z) : In K c X F σ ⟨s.g, upd s.H a (.lst vs), s.e.set i z, s.w, s.os⟩ := by
  have hm := I.osMu ha
  have hg : s.g.G a = none := I.off a hm
  have ng := I.osG ha
  have nF : ∀ q ∈ F, q.1 ≠ a := fun q hq e =>
    (List.nodup_append.mp (List.nodup_append.mp I.nd).2.1).2.2 a (List.mem_map.mpr ⟨_, ha, rfl⟩) q.1 (List.mem_map.mpr ⟨q, hq, rfl⟩) e.symm
  refine ⟨I.wr.mono (Gh.le.refl _) rfl rfl (fun b u e => ?_) (fun b hb => I.wr.off b hb) (fun b hb => upd_ne (fun e => ng (e ▸ hb))), I.nd, I.off, by show (s.e.set i _).length = _; rw [List.length_set]; exact I.len, fun j y hj => ?_, fun q hq => ?_, fun q hq => ?_, I.le, fun b u e n1 n2 => ?_, I.frz, I.new, fun b u e => ?_⟩
  · have e' := I.wr.sub b u e
    show upd s.H a _ b = some u
    rw [upd_ne (fun z => by subst z; rw [hg] at e; cases e)]; exact e'
  · rcases set_get hj with ⟨rfl, rfl⟩ | ⟨ne, hj'⟩
    · exact hz
    · have h' := I.env j y hj'
      cases y with
      | no => trivial
      | val d => exact h'
      | own f' dl =>
        obtain ⟨b, ws, h1, h2, h3, h4, h5⟩ := h'
        refine ⟨b, ws, h1, h2, ?_, h4, h5⟩
        show upd s.H a _ b = _
        rw [upd_ne (fun (e : b = a) => ne (os_inj I.osNd (by rw [← e]; exact h2) ha))]; exact h3
      | ownT dl dr =>
        obtain ⟨p, b, us, ws, h1, h2, h3, h4, h5, h6, h7⟩ := h'
        refine ⟨p, b, us, ws, h1, h2, h3, h4, ?_, h6, h7⟩
        show upd s.H a _ b = _
        rw [upd_ne (fun (e : b = a) => ne (os_inj I.osNd (by rw [← e]; exact h2) ha))]; exact h5
  · show upd s.H a _ q.1 = _
    rw [upd_ne (nF q hq)]; exact I.held q hq
  · by_cases e : q.2 = a
    · exact ⟨_, by show upd s.H a _ q.2 = _; rw [e]; exact upd_same⟩
    · obtain ⟨u, hu⟩ := I.oal q hq
      exact ⟨u, by show upd s.H a _ q.2 = _; rw [upd_ne e]; exact hu⟩
  · have e' := I.keep b u e n1 n2
    show upd s.H a _ b = some u
    rw [upd_ne (fun z => by
      subst z
      rcases I.new b hm with z | z | z
      · exact n1 z
      · exact n2 z
      · rw [z] at e; cases e)]
    exact e'
  · by_cases z : b = a
    · exact ⟨_, by show upd s.H a _ b = _; rw [z]; exact upd_same⟩
    · obtain ⟨u', e'⟩ := I.dom b u e
      exact ⟨u', by show upd s.H a _ b = _; rw [upd_ne z]; exact e'⟩
/-- x[0].append(y) of a told tuple x -/
def pAppT (i : Nat) (a : PE) : PS := fun D e w => ownTAt e i fun _ _ => a e w fun d e w => ownTAt e i fun l r => l.length < sizeLine ∧ D.nx (e.set i (.ownT (l ++ [d]) r)) w
theorem snd_appT (ha : SndE K c ta pa) : SndS K c (tDrop (tBM K "list" rAppend (tOp (rIxT K) (tVar i) (tC (.int 0))) (tCons ta tNil))) (pAppT i pa) := by
  intro X F σ s D Dp I h hE
  obtain ⟨l0, r0, e0, h⟩ := ownTAt_of h
  obtain ⟨p, a, us, vs0, hs, ho, hp, hu, hH0, hv0, hx⟩ := I.env i _ e0
  refine ⟨.ref p, hs, p, .ref a :: us, 0, .ref a, rfl, rfl, SqT.of (I.wr.sub _ _ hp), eAt0, .inl ⟨rfl, _, SqL.of hH0⟩, ?_⟩
  refine ha X F σ s _ _ I h fun y dy s2 l2 I2 r2 h2 => ?_
  obtain ⟨l, r, e1, hz, h2⟩ := ownTAt_of h2
  obtain ⟨p', a', us', vs, hs', ho', hp', hu', hH, hv, hx'⟩ := I2.env i _ e1
  rw [hs] at hs'; cases hs'
  have hpe := l2.G _ _ hp
  rw [hpe] at hp'
  cases hp'
  refine ⟨a, vs, y, rfl, rfl, hH, by rw [hv.length]; exact hz, hE.nx σ ⟨s2.g, upd s2.H a _, s2.e.set i (.ownT (l ++ [dy]) r), s2.w, s2.os⟩ l2 (I2.ownPutZ ho' ?_) h2⟩
  exact ⟨p, a, us, vs ++ [y], hs, ho', hpe, hu', upd_same, hv.app (.cons r2 .nil), hx⟩
/-! ### told -/
/-- a promise that tells a new tuple whose first thing is a new list -/
def SndPS (K : PySem.W.Frag) (c : Pc) (sp : Sp) (P : PSp) : Prop := ∀ (g : Gh) (H : Hp) (w : Wld) (vs : List V) (ds : List Dat) (k : Dat → Wld → Prop) (Q : VK) (E : XK), Wr K c g H w → Reps K c g vs ds → P ds w k →
  (∀ p a us ws l r g' H' w', Aft g H g' H' → Wr K c g' H' w' → H a = none → g'.G a = none → a ∉ g'.mu → H' a = some (.lst ws) → Reps K c g' ws l → g'.G p = some (.tup (.ref a :: us)) → Reps K c g' us r → k (.tup (.lst l :: r)) w' → Q (.ref p) H') → sp vs H Q E
def lifS (K : PySem.W.Frag) (c : Pc) (P : PSp) : Sp := fun vs H Q _ => ∃ (g : Gh) (w : Wld) (ds : List Dat) (k : Dat → Wld → Prop), Wr K c g H w ∧ Reps K c g vs ds ∧ P ds w k ∧
  ∀ p a us ws l r g' H' w', Aft g H g' H' → Wr K c g' H' w' → H a = none → g'.G a = none → a ∉ g'.mu → H' a = some (.lst ws) → Reps K c g' ws l → g'.G p = some (.tup (.ref a :: us)) → Reps K c g' us r → k (.tup (.lst l :: r)) w' → Q (.ref p) H'
theorem SndPS.lif : SndPS K c (lifS K c P) P := fun g _ w _ ds k _ _ h1 h2 h3 h4 => ⟨g, w, ds, k, h1, h2, h3, h4⟩
/-- what is told, frozen -/
theorem SndP.lifS : SndP K c (lifS K c P) P := fun g H w vs ds k Q E W r h hQ => ⟨g, w, ds, k, W, r, h, fun p a us ws l r' g' H' w' A W' ha hg hm hH hw hp hu hk => by
  have le := gUpd_le (o := .lst ws) hg
  have W2 : Wr K c (gUpd g' a (.lst ws)) H' w' := W'.mono le rfl rfl (fun x o e => by
    have e : upd g'.G a (.lst ws) x = some o := e
    by_cases z : x = a
    · subst z; rw [upd_same] at e; rw [← e]; exact hH
    · rw [upd_ne z] at e; exact W'.sub x o e) (fun x hx => by
    have ne : x ≠ a := fun z => hm (by rw [← z]; exact hx)
    show upd g'.G a _ x = none
    rw [upd_ne ne]; exact W'.off x hx) (fun _ _ => rfl)
  have A2 : Aft g H (gUpd g' a (.lst ws)) H' := ⟨A.le.trans le, A.keep, fun x o e => by
    show upd g'.G a _ x = _
    rw [upd_ne (fun z => by rw [z, ha] at e; cases e)]; exact A.frz x o e, A.new, A.dom⟩
  exact hQ (.ref p) _ _ H' w' A2 W2 (.tup (le.G _ _ hp) (.cons (.lst (show upd g'.G a _ a = _ from upd_same) (hw.mono le)) (hu.mono le))) hk⟩
/-- behind a call that tells a list -/
theorem In.callH (I : In K c X F σ s) {g' : Gh} {H' : Hp} {w' : Wld} {ws : List V} (A : Aft s.g s.H g' H') (W : Wr K c g' H' w') (ha : s.H a = none) (hg : g'.G a = none) (hm : a ∉ g'.mu) (hH : H' a = some (.lst ws)) : In K c X ((a, .lst ws) :: F) σ ⟨g', H', s.e, w', s.os⟩ := by
  have I1 := I.call A W
  have hn : a ∉ (⟨g', H', s.e, w', s.os⟩ : Cf).mu F := fun z => by
    rcases List.mem_append.mp z with z | z
    · exact hm z
    · obtain ⟨o, e⟩ := I.al (List.mem_append_right _ z)
      rw [ha] at e; cases e
  have hp := mu_cons (⟨g', H', s.e, w', s.os⟩ : Cf) (a, .lst ws) F
  refine ⟨W, hp.nodup_iff.mpr (List.nodup_cons.mpr ⟨hn, I1.nd⟩), fun b hb => ?_, I1.len, I1.env, fun q hq => ?_, I1.oal, I1.le, I1.keep, I1.frz, fun b hb => ?_, I1.dom⟩
  · rcases List.mem_cons.mp (hp.mem_iff.mp hb) with z | z
    · rw [z]; exact hg
    · exact I1.off b z
  · rcases List.mem_cons.mp hq with rfl | hq
    · exact hH
    · exact I1.held q hq
  · rcases List.mem_cons.mp (hp.mem_iff.mp hb) with z | z
    · rw [z]; exact .inr (.inr (I.fresh ha))
    · exact I1.new b z
/-- a name gets a told tuple -/
theorem In.setT {p : Addr} {us : List V} {l r : List Dat} (I : In K c X ((a, .lst vs) :: F) σ s) (hx : X.H a = none) (hp : s.g.G p = some (.tup (.ref a :: us))) (hu : Reps K c s.g us r) (hv : Reps K c s.g vs l) : In K c X F (σ.set i (some (.ref p))) ⟨s.g, s.H, s.e.set i (.ownT l r), s.w, (i, a) :: s.os⟩ := by
  have hpm := mu_cons s (a, .lst vs) F
  have hp2 : ((⟨s.g, s.H, s.e.set i (.ownT l r), s.w, (i, a) :: s.os⟩ : Cf).mu F).Perm (s.mu ((a, .lst vs) :: F)) := (List.perm_middle).trans hpm.symm
  refine ⟨I.wr, hp2.nodup_iff.mpr I.nd, fun b hb => I.off b (hp2.mem_iff.mp hb), by simp only [List.length_set]; exact I.len, fun j z hz => ?_, fun q hq => I.held q (List.mem_cons_of_mem _ hq), fun q hq => ?_, I.le, I.keep, I.frz, fun b hb => I.new b (hp2.mem_iff.mp hb), I.dom⟩
  · rcases set_get hz with ⟨rfl, rfl⟩ | ⟨ne, hz'⟩
    · exact ⟨p, a, us, vs, set_len I.len hz _, List.mem_cons_self, hp, hu, I.held _ List.mem_cons_self, hv, hx⟩
    · rw [List.getElem?_set_ne (Ne.symm ne)]
      exact (I.env j z hz').mono (Gh.le.refl _) (fun q hq => List.mem_cons_of_mem _ hq) fun _ _ => rfl
  · rcases List.mem_cons.mp hq with rfl | hq
    · exact ⟨_, I.held _ List.mem_cons_self⟩
    · exact I.oal q hq
def tldOf : Dat → (List Dat → List Dat → Prop) → Prop
  | .tup (.lst l :: r), k => k l r
  | _, _ => False
/-- x = f(..), told -/
def pAsgT (P : PSp) (a : PA) (i : Nat) : PS := fun D e w => a e w fun ds e w => P ds w fun d w => tldOf d fun l r => D.nx (e.set i (.ownT l r)) w
theorem snd_asgT (hp : SndPS K c sp P) (hr : SndA K c tr pr) : SndS K c (tAsg (tCall sp [] E tr) (gName i)) (pAsgT P pr i) := by
  intro X F σ s D Dp I h hE
  refine hr X F σ s _ _ I h fun vs ds s1 l1 I1 r1 h1 => ?_
  rw [List.append_nil]
  refine hp s1.g s1.H s1.w vs ds _ _ E I1.wr r1 h1 fun p a us ws l r g' H' w' A W ha hg hm hH hw hpp hu hk => ?_
  exact hE.nx _ ⟨g', H', s1.e.set i (.ownT l r), w', (i, a) :: s1.os⟩ (l1.trans A.le) ((I1.callH A W ha hg hm hH).setT (I1.fresh ha) hpp hu hw) hk
/-- x, y = f(..), z -/
def pParT (P : PSp) (a : PA) (b : PE) (i j : Nat) : PS := fun D e w => a e w fun ds e w => P ds w fun d w => tldOf d fun l r => b e w fun d2 e w => D.nx ((e.set i (.ownT l r)).set j (.val d2)) w
theorem snd_parT {j : Nat} (hp : SndPS K c sp P) (hr : SndA K c tr pr) (hb : SndE K c tb pb) : SndS K c (tPar i j (tCons (tCall sp [] E tr) (tCons tb tNil))) (pParT P pr pb i j) := by
  intro X F σ s D Dp I h hE
  refine hr X F σ s _ _ I h fun vs ds s1 l1 I1 r1 h1 => ?_
  rw [List.append_nil]
  refine hp s1.g s1.H s1.w vs ds _ _ E I1.wr r1 h1 fun p a us ws l r g' H' w' A W ha hg hm hH hw hpp hu hk => ?_
  refine hb X _ σ ⟨g', H', s1.e, w', s1.os⟩ _ _ (I1.callH A W ha hg hm hH) hk fun v d2 s2 l2 I2 r2 h2 => ?_
  refine ⟨.ref p, v, rfl, ?_⟩
  have I3 := I2.setT (i := i) (I1.fresh ha) (l2.G _ _ hpp) (hu.mono l2) (hw.mono l2)
  exact hE.nx _ ⟨s2.g, s2.H, (s2.e.set i (.ownT l r)).set j (.val d2), s2.w, (i, a) :: s2.os⟩ ((l1.trans A.le).trans l2) (I3.setV r2) h2
/-- x, y = z, z told -/
def pTake (i x y : Nat) : PS := fun D e w => noOwn (e.set i .no) ∧ ownTAt e i fun l r => match r with
  | [d] => D.nx (((e.set i .no).set x (.own true l)).set y (.val d)) w
  | _ => False
theorem snd_take {x y : Nat} : SndS K c (tAsg (tVar i) (gTup K 2 (gNames [x, y]))) (pTake i x y) := by
  intro X F σ s D Dp I h hE
  obtain ⟨hno, h⟩ := h
  obtain ⟨l, r, e0, h⟩ := ownTAt_of h
  obtain ⟨p, a, us, vs, hs, ho, hp, hu, hH, hv, hx⟩ := I.env i _ e0
  split at h
  · rename_i d
    cases hu with
    | cons r1 t =>
      cases t
      rename_i u
      have I1 := ((I.toF ho hH hno).setO (i := x) hv hx).setV (i := y) r1
      refine ⟨.ref p, hs, p, [.ref a, u], rfl, SqT.of (I.wr.sub _ _ hp), rfl, ?_⟩
      exact ⟨.ref a, [u], rfl, u, [], rfl, rfl, hE.nx _ ⟨s.g, s.H, ((s.e.set i .no).set x (.own true l)).set y (.val d), s.w, [(x, a)]⟩ (Gh.le.refl _) I1 h⟩
  · exact h.elim
/-! ### bodies that tell -/
structure SEndsS (K : PySem.W.Frag) (c : Pc) (X : En) (F : List (Addr × HO)) (g : Gh) (D : Ends) (Dp : PEnds) : Prop where
  rt : ∀ σ s p a us ws l r, g.le s.g → In K c X ((a, .lst ws) :: F) σ s → X.H a = none → s.g.G p = some (.tup (.ref a :: us)) → Reps K c s.g us r → Reps K c s.g ws l → Dp.rt (.tup (.lst l :: r)) s.e s.w → D.rt (.ref p) s.H
theorem SEndsS.mono {D : Ends} {Dp : PEnds} {g' : Gh} (h : SEndsS K c X F g D Dp) (le : g.le g') : SEndsS K c X F g' D Dp := ⟨fun σ s p a us ws l r l' => h.rt σ s p a us ws l r (le.trans l')⟩
def SndSS (K : PySem.W.Frag) (c : Pc) (t : TS) (p : PS) : Prop := ∀ (X : En) (F : List (Addr × HO)) (σ : L2.St) (s : Cf) (D : Ends) (Dp : PEnds), In K c X F σ s → p Dp s.e s.w → SEndsS K c X F s.g D Dp → t D σ s.H
def pSeqN (a b : PS) : PS := fun D e w => a ⟨b D, fun _ _ _ => False, fun _ _ => False, fun _ _ => False⟩ e w
theorem snd_seqN (ha : SndS K c ts ps) (hb : SndSS K c tu pu) : SndSS K c (tSeq ts tu) (pSeqN ps pu) := by
  intro X F σ s D Dp I h hE
  exact ha X F σ s _ _ I h ⟨fun σ' s' l I' h' => hb X F σ' s' D Dp I' h' (hE.mono l), (fun _ _ _ _ _ _ _ z => z.elim), (fun _ _ _ _ z => z.elim), fun _ _ _ _ z => z.elim⟩
theorem snd_frzS {is : List Nat} (ha : SndSS K c ts ps) : SndSS K c ts (pFrz is ps) := by
  intro X F σ s D Dp I h hE
  obtain ⟨g', l', os', _, I'⟩ := I.frzs (is := is)
  exact ha X F σ ⟨g', s.H, Pu.frz s.e is, s.w, os'⟩ D Dp I' h (hE.mono l')
def pRetT (f : PF) (b : PE) : PS := fun D e w => f e w fun l e w => b e w fun d e w => 2 ≤ sizeLine ∧ D.rt (.tup [.lst l, d]) e w
theorem snd_retT {pf : PF} (hf : SndF K c ta pf) (hb : SndE K c tb pb) : SndSS K c (tRet (tTup (tCons ta (tCons tb tNil)))) (pRetT pf pb) := by
  intro X F σ s D Dp I h hE
  refine hf X F σ s _ _ I h fun a vs ds s1 l1 hx I1 r1 h1 => ?_
  refine hb X _ σ s1 _ _ I1 h1 fun v d s2 l2 I2 r2 h2 => ⟨h2.1, fun p hp => ?_⟩
  have le := gUpd_le (o := .tup [.ref a, v]) (I2.offG hp)
  exact hE.rt σ ⟨gUpd s2.g p (.tup [.ref a, v]), upd s2.H p (.tup [.ref a, v]), s2.e, s2.w, s2.os⟩ p a [v] vs ds [d] ((l1.trans l2).trans le) (I2.newG hp) hx (show upd s2.g.G p _ p = _ from upd_same) (.cons (r2.mono le) .nil) ((r1.mono l2).mono le) h2.2
def pRetO (i : Nat) (b : PE) : PS := fun D e w => ownAt e i fun _ _ => b e w fun d e w => ownAt e i fun f l => (f = true ∧ noOwn (e.set i .no)) ∧ 2 ≤ sizeLine ∧ D.rt (.tup [.lst l, d]) (e.set i .no) w
theorem snd_retO (hb : SndE K c tb pb) : SndSS K c (tRet (tTup (tCons (tVar i) (tCons tb tNil)))) (pRetO i pb) := by
  intro X F σ s D Dp I h hE
  obtain ⟨f0, l0, e0, h⟩ := ownAt_of h
  obtain ⟨a, vs0, hs, _, _, _, _⟩ := I.own e0
  refine ⟨.ref a, hs, ?_⟩
  refine hb X F σ s _ _ I h fun v d s2 l2 I2 r2 h2 => ?_
  obtain ⟨f, l, e1, ⟨hf, hno⟩, hz, h2⟩ := ownAt_of h2
  obtain ⟨a', vs, hs', ho, hH, hR, hfx⟩ := I2.own e1
  rw [hs] at hs'; cases hs'
  refine ⟨hz, fun p hp => ?_⟩
  have hx := hfx.1 hf
  have I3 := (I2.toF ho hH hno).newG (o := .tup [.ref a, v]) hp
  have le := gUpd_le (o := .tup [.ref a, v]) (I2.offG hp)
  exact hE.rt σ _ p a [v] vs l [d] (l2.trans le) I3 hx (show upd s2.g.G p _ p = _ from upd_same) (.cons (r2.mono le) .nil) (hR.mono le) h2
def pRetC (P : PSp) (a : PA) : PS := fun D e w => a e w fun ds e w => P ds w fun d w => tldOf d fun l r => D.rt (.tup (.lst l :: r)) e w
theorem snd_retC (hp : SndPS K c sp P) (hr : SndA K c tr pr) : SndSS K c (tRet (tCall sp [] E tr)) (pRetC P pr) := by
  intro X F σ s D Dp I h hE
  refine hr X F σ s _ _ I h fun vs ds s1 l1 I1 r1 h1 => ?_
  rw [List.append_nil]
  refine hp s1.g s1.H s1.w vs ds _ _ E I1.wr r1 h1 fun p a us ws l r g' H' w' A W ha hg hm hH hw hpp hu hk => ?_
  exact hE.rt σ ⟨g', H', s1.e, w', s1.os⟩ p a us ws l r (l1.trans A.le) (I1.callH A W ha hg hm hH) (I1.fresh ha) hpp hu hw hk
theorem def_okS {n : Nat} {t : TS} {p : PS} {Q : VK} {us : List V} (hs : SndSS K c t p) (hP : ∀ ds w k, P ds w k → p (pen k) (env0 n ds) w) (h : lifS K c P us H Q E) : t (en0 Q) (st0 n us) H := by
  obtain ⟨g, w, ds, k, W, r, hp, hq⟩ := h
  refine hs ⟨H, g, []⟩ [] (st0 n us) ⟨g, H, env0 n ds, w, []⟩ _ _ (In.start W r) (hP ds w k hp) ⟨fun σ s p a us ws l r le I hx hpp hu hw hk => ?_⟩
  have hpm := mu_cons s (a, .lst ws) []
  have hin : a ∈ s.mu [(a, .lst ws)] := hpm.mem_iff.mpr List.mem_cons_self
  have hn : a ∉ s.g.mu := fun z => (List.nodup_cons.mp (hpm.nodup_iff.mp I.nd)).1 (List.mem_append_left _ z)
  refine hq p a us ws l r s.g s.H s.w ⟨I.le, fun b o e n => I.keep b o e n (fun z => nomatch z), I.frz, fun b hb => ?_, I.dom⟩ I.wr hx (I.off a hin) hn (I.held _ List.mem_cons_self) hw hpp hu hk
  rcases I.new b (List.mem_append_left _ hb) with z | z | z
  · exact .inl z
  · cases z
  · exact .inr z
theorem lifS_len {n : Nat} {us : List V} {Q : VK} (hP : ∀ ds w k, P ds w k → ds.length = n) (h : lifS K c P us H Q E) : us.length = n := by
  obtain ⟨g, w, ds, k, _, r, hp, _⟩ := h
  rw [r.length]; exact hP ds w k hp
/-! ### isinstance -/
/-- of a plain thing: the name of its type -/
def tyN : Dat → Option String
  | .int _ => some "int"
  | .bl _ => some "bool"
  | .str _ => some "str"
  | .lst _ => some "list"
  | .tup _ => some "tuple"
  | _ => none
def qIsi : QL
  | [d, .opq (.ty t)], k => ∃ a b, tyN d = some a ∧ kitB a t = some b ∧ k (.bl b)
  | _, _ => False
theorem s_isi : SndRL K c (rIsi K) qIsi := by
  intro X F σ s vs ds k Q I r h hQ
  unfold qIsi at h
  split at h
  · rename_i d t
    obtain ⟨v, v', rfl, r1, r2⟩ : ∃ v v', vs = [v, v'] ∧ RepW K c s v d ∧ RepW K c s v' (.opq (.ty t)) := by
      cases r with
      | cons q1 q =>
        cases q with
        | cons q2 q' =>
          cases q'
          exact ⟨_, _, rfl, q1, q2⟩
    obtain ⟨a, b, ht, hk, h⟩ := h
    have e2 : v' = .ty t := by
      rcases r2 with r2 | ⟨_, _, _, _, e, _⟩
      · cases r2; rfl
      · cases e
    subst e2
    have ty : TyX K s.H v (.type a) := by
      cases d with
      | int n => cases ht; rw [r1.int]; exact .base (.int n)
      | bl n => cases ht; rw [r1.bl]; exact .base (.bl n)
      | str n => cases ht; rw [r1.str]; exact .base (.str n)
      | lst l =>
        cases ht
        obtain ⟨x, ws, rfl, hH, _⟩ := r1.lst I
        exact .base (.lst hH)
      | tup l =>
        cases ht
        rcases r1 with r1 | ⟨_, _, _, _, e, _⟩
        · cases r1 with
          | tup h1 _ => exact .base (.tup (I.wr.sub _ _ h1))
        · cases e
      | _ => cases ht
    exact isi_ty ty hk (hQ _ _ s (Gh.le.refl _) I rfl rfl (.bl _) h)
  · exact h.elim
/-! ### equations -/
def bvO (o : Option Slot) (k : Dat → Prop) : Prop := match o with
  | some (.own true l) => k (.lst l)
  | some (.ownT l r) => k (.tup (.lst l :: r))
  | _ => False
variable {l r : List Dat} {k : Dat → Prop} {kk : List Dat → List Dat → Prop} {e : Env} {d : Dat} {n : Int} {b : Bool}
theorem eBv : bview e i k = bvO e[i]? k := rfl
theorem eBv1 : bvO (some (.own true l)) k = k (.lst l) := rfl
theorem eBv2 : bvO (some (.ownT l r)) k = k (.tup (.lst l :: r)) := rfl
def otO (o : Option Slot) (k : List Dat → List Dat → Prop) : Prop := match o with | some (.ownT l r) => k l r | _ => False
theorem eOt : ownTAt e i kk = otO e[i]? kk := rfl
theorem eOt1 : otO (some (.ownT l r)) kk = kk l r := rfl
theorem eNo0 : noOwn [] = True := rfl
theorem eNo1 : noOwn (.no :: e) = noOwn e := rfl
theorem eNo2 : noOwn (.val d :: e) = noOwn e := rfl
theorem eTld : tldOf (.tup (.lst l :: r)) kk = kk l r := rfl
theorem eIsi {t : String} : qIsi [d, .opq (.ty t)] k = ∃ a b, tyN d = some a ∧ kitB a t = some b ∧ k (.bl b) := rfl
theorem eLf1 : lf (.int n) = True := rfl
theorem eLf2 : lf (.bl b) = True := rfl
end
end Pu

/-! Own2: a list that is handed to a def, which may change it; a list that a call tells. -/
namespace Pu
open PySem L2 Eng
/-- what a call leaves that may change the list at a -/
structure AftO (a : Addr) (g : Gh) (H : Hp) (g' : Gh) (H' : Hp) : Prop where
  le : g.le g'
  keep : ∀ x o, H x = some o → x ∉ g.mu → x ≠ a → H' x = some o
  frz : ∀ x o, H x = some o → g'.G x = g.G x
  new : ∀ x ∈ g'.mu, x ∈ g.mu ∨ H x = none
  dom : ∀ x o, H x = some o → ∃ o', H' x = some o'
/-- a promise with the caller's list as the first argument -/
def SndPO (K : PySem.W.Frag) (c : Pc) (sp : Sp) (P : PSpO) : Prop := ∀ (g : Gh) (H : Hp) (w : Wld) (a : Addr) (ws : List V) (l : List Dat) (vs : List V) (ds : List Dat) (k : Dat → List Dat → Wld → Prop) (Q : VK) (E : XK),
  Wr K c g H w → H a = some (.lst ws) → g.G a = none → a ∉ g.mu → Reps K c g ws l → Reps K c g vs ds → P ds l w k →
  (∀ v d ws' l' g' H' w', AftO a g H g' H' → Wr K c g' H' w' → H' a = some (.lst ws') → Reps K c g' ws' l' → Rep K c g' v d → k d l' w' → Q v H') → sp (.ref a :: vs) H Q E
def lifO (K : PySem.W.Frag) (c : Pc) (P : PSpO) : Sp := fun us H Q _ => ∃ (g : Gh) (w : Wld) (a : Addr) (ws : List V) (l : List Dat) (vs : List V) (ds : List Dat) (k : Dat → List Dat → Wld → Prop), us = .ref a :: vs ∧
  Wr K c g H w ∧ H a = some (.lst ws) ∧ g.G a = none ∧ a ∉ g.mu ∧ Reps K c g ws l ∧ Reps K c g vs ds ∧ P ds l w k ∧
  ∀ v d ws' l' g' H' w', AftO a g H g' H' → Wr K c g' H' w' → H' a = some (.lst ws') → Reps K c g' ws' l' → Rep K c g' v d → k d l' w' → Q v H'
section
variable {K : PySem.W.Frag} {c : Pc} {X : En} {F : List (Addr × HO)} {σ : L2.St} {s s1 : Cf} {g g1 : Gh} {H : Hp} {w : Wld} {a : Addr} {vs ws : List V} {i : Nat} {ta tb : TE} {pa pb : PE} {tr : TA} {pr : PA} {sp : Sp} {P : PSp} {O : PSpO} {E : XK} {Q : VK} {l : List Dat}
theorem SndPO.lif : SndPO K c (lifO K c O) O := fun g _ w a ws l vs ds k _ _ h1 h2 h3 h4 h5 h6 h7 h8 => ⟨g, w, a, ws, l, vs, ds, k, rfl, h1, h2, h3, h4, h5, h6, h7, h8⟩
/-- behind a call that may have changed a name's list -/
theorem In.callO (I : In K c X F σ s) {f : Bool} {ws' : List V} {l' : List Dat} {g' : Gh} {H' : Hp} {w' : Wld} (hi : s.e[i]? = some (.own f l)) (ho : (i, a) ∈ s.os) (hs : σ[i]? = some (some (.ref a))) (hf : OwnF X f a)
    (A : AftO a s.g s.H g' H') (W : Wr K c g' H' w') (hH : H' a = some (.lst ws')) (hr : Reps K c g' ws' l') : In K c X F σ ⟨g', H', s.e.set i (.own f l'), w', s.os⟩ := by
  have hmu := I.osMu ho
  have hk : ∀ x ∈ s.os.map (·.2) ++ F.map (·.1), x ≠ a → ∀ o, s.H x = some o → H' x = some o := fun x hx ne o e => A.keep x o e (fun z => (List.nodup_append.mp I.nd).2.2 x z x hx rfl) ne
  have hal : ∀ x ∈ s.os.map (·.2) ++ F.map (·.1), ∃ o, s.H x = some o := fun x hx => I.al (List.mem_append_right _ hx)
  have nF : ∀ q ∈ F, q.1 ≠ a := fun q hq e =>
    (List.nodup_append.mp (List.nodup_append.mp I.nd).2.1).2.2 a (List.mem_map.mpr ⟨_, ho, rfl⟩) q.1 (List.mem_map.mpr ⟨q, hq, rfl⟩) e.symm
  refine ⟨W, ?_, fun x hx => ?_, by show (s.e.set i _).length = _; rw [List.length_set]; exact I.len, fun j z hz => ?_, fun q hq => ?_, fun q hq => ?_, I.le.trans A.le, fun x u e n1 n2 => ?_, fun x u e => ?_, fun x hx => ?_, fun x u e => ?_⟩
  · refine List.nodup_append.mpr ⟨W.nd, (List.nodup_append.mp I.nd).2.1, fun x hx y hy e => ?_⟩
    subst e
    rcases A.new x hx with z | z
    · exact (List.nodup_append.mp I.nd).2.2 x z x hy rfl
    · obtain ⟨o, e⟩ := hal x hy
      rw [z] at e; cases e
  · rcases List.mem_append.mp hx with hx | hx
    · exact W.off x hx
    · obtain ⟨o, e⟩ := hal x hx
      show g'.G x = none
      rw [A.frz x o e]
      exact I.off x (List.mem_append_right _ hx)
  · rcases set_get hz with ⟨rfl, rfl⟩ | ⟨ne, hz'⟩
    · exact ⟨a, ws', hs, ho, hH, hr, hf⟩
    · have h' := I.env j z hz'
      cases z with
      | no => trivial
      | val d => obtain ⟨v, h1, h2⟩ := h'; exact ⟨v, h1, h2.mono A.le⟩
      | own f' dl =>
        obtain ⟨b, us, h1, h2, h3, h4, h5⟩ := h'
        have hb : b ≠ a := fun e => ne (os_inj I.osNd (by rw [← e]; exact h2) ho)
        exact ⟨b, us, h1, h2, hk b (List.mem_append_left _ (List.mem_map.mpr ⟨_, h2, rfl⟩)) hb _ h3, h4.mono A.le, h5⟩
      | ownT dl dr =>
        obtain ⟨p, b, us, xs, h1, h2, h3, h4, h5, h6, h7⟩ := h'
        have hb : b ≠ a := fun e => ne (os_inj I.osNd (by rw [← e]; exact h2) ho)
        exact ⟨p, b, us, xs, h1, h2, A.le.G _ _ h3, h4.mono A.le, hk b (List.mem_append_left _ (List.mem_map.mpr ⟨_, h2, rfl⟩)) hb _ h5, h6.mono A.le, h7⟩
  · exact hk _ (List.mem_append_right _ (List.mem_map.mpr ⟨q, hq, rfl⟩)) (nF q hq) _ (I.held q hq)
  · obtain ⟨o, e⟩ := I.oal q hq
    exact A.dom _ o e
  · refine A.keep x u (I.keep x u e n1 n2) (fun z => ?_) fun z => ?_
    · rcases I.new x (List.mem_append_left _ z) with z | z | z
      · exact n1 z
      · exact n2 z
      · rw [z] at e; cases e
    · subst z
      rcases I.new x hmu with z | z | z
      · exact n1 z
      · exact n2 z
      · rw [z] at e; cases e
  · obtain ⟨u', e'⟩ := I.dom x u e
    show g'.G x = _
    rw [A.frz x u' e', I.frz x u e]
  · rcases List.mem_append.mp hx with hx | hx
    · rcases A.new x hx with z | z
      · exact I.new x (List.mem_append_left _ z)
      · exact .inr (.inr (I.fresh z))
    · exact I.new x (List.mem_append_right _ hx)
  · obtain ⟨u', e'⟩ := I.dom x u e
    exact A.dom x u' e'
/-- f(x, ..), x a name with a list of its own, which f may change -/
def pCallO (P : PSpO) (i : Nat) (a : PA) : PE := fun e w k => ownAt e i fun _ _ => a e w fun ds e w => ownAt e i fun f l => P ds l w fun d l' w => k d (e.set i (.own f l')) w
theorem snd_callO (hp : SndPO K c sp O) (hr : SndA K c tr pr) : SndE K c (tCall sp [] E (tCons (tVar i) tr)) (pCallO O i pr) := by
  intro X F σ s k Q I h hQ
  obtain ⟨f0, l0, e0, h⟩ := ownAt_of h
  obtain ⟨a, vs0, hs, _, _, _, _⟩ := I.own e0
  refine ⟨.ref a, hs, ?_⟩
  refine hr X F σ s _ _ I h fun vs ds s1 l1 I1 r1 h1 => ?_
  obtain ⟨f, l, e1, h1⟩ := ownAt_of h1
  obtain ⟨a', ws, hs', ho, hH, hR, hf⟩ := I1.own e1
  rw [hs] at hs'; cases hs'
  rw [List.append_nil]
  refine hp s1.g s1.H s1.w a ws l vs ds _ _ E I1.wr hH (I1.off a (I1.osMu ho)) (I1.osG ho) hR r1 h1 fun v d ws' l' g' H' w' A W hH' hR' r2 h2 => ?_
  exact hQ v d ⟨g', H', s1.e.set i (.own f l'), w', s1.os⟩ (l1.trans A.le) (I1.callO e1 ho hs hf A W hH' hR') r2 h2
/-! ### a def whose first argument is the caller's list -/
def env0O (n : Nat) (l : List Dat) (ds : List Dat) : Env := .own false l :: (ds.map Slot.val ++ List.replicate (n - 1 - ds.length) .no)
theorem In.startO {n : Nat} {ds : List Dat} (hn : ds.length < n) (W : Wr K c g H w) (hH : H a = some (.lst ws)) (hg : g.G a = none) (hm : a ∉ g.mu) (hl : Reps K c g ws l) (r : Reps K c g vs ds) :
    In K c ⟨H, g, [a]⟩ [] (st0 n (.ref a :: vs)) ⟨g, H, env0O n l ds, w, [(0, a)]⟩ := by
  have e : (⟨g, H, env0O n l ds, w, [(0, a)]⟩ : Cf).mu [] = g.mu ++ [a] := rfl
  refine ⟨W, ?_, fun x hx => ?_, ?_, fun i z hz => ?_, (fun q h => nomatch h), fun q hq => ?_, Gh.le.refl _, fun _ _ h _ _ => h, fun _ _ _ => rfl, fun x hx => ?_, fun a o h => ⟨o, h⟩⟩
  · rw [e]
    exact List.nodup_append.mpr ⟨W.nd, by simp, fun x hx y hy z => by rw [List.mem_singleton.mp hy] at z; exact hm (z ▸ hx)⟩
  · rw [e] at hx
    rcases List.mem_append.mp hx with z | z
    · exact W.off x z
    · rw [List.mem_singleton.mp z]; exact hg
  · show (env0O n l ds).length = (st0 n (.ref a :: vs)).length
    unfold env0O st0
    simp only [List.length_cons, List.length_append, List.length_map, List.length_replicate, r.length]
    omega
  · have hz : (env0O n l ds)[i]? = some z := hz
    unfold env0O at hz
    unfold st0
    cases i with
    | zero =>
      cases hz
      exact ⟨a, ws, rfl, List.mem_cons_self, hH, hl, (fun z => nomatch z), fun _ => List.mem_cons_self⟩
    | succ i =>
      simp only [List.getElem?_cons_succ] at hz
      have e3 : n - (V.ref a :: vs).length = n - 1 - ds.length := by rw [List.length_cons, r.length]; omega
      show RSl K c _ _ (i + 1) ((V.ref a :: vs).map some ++ List.replicate (n - (V.ref a :: vs).length) none)[i + 1]? z
      rw [e3]
      simp only [List.map_cons, List.cons_append, List.getElem?_cons_succ]
      have h' := reps_env (X := ⟨H, g, [a]⟩) (s := ⟨g, H, env0O n l ds, w, [(0, a)]⟩) r i z hz
      cases z with
      | no => trivial
      | val d => exact h'
      | own f dl =>
        exfalso
        rcases List.mem_append.mp (List.mem_of_getElem? hz) with q | q
        · obtain ⟨d, _, e⟩ := List.mem_map.mp q; cases e
        · exact nomatch (List.mem_replicate.mp q).2
      | ownT dl dr =>
        exfalso
        rcases List.mem_append.mp (List.mem_of_getElem? hz) with q | q
        · obtain ⟨d, _, e⟩ := List.mem_map.mp q; cases e
        · exact nomatch (List.mem_replicate.mp q).2
  · rw [List.mem_singleton.mp hq]; exact ⟨_, hH⟩
  · rw [e] at hx
    rcases List.mem_append.mp hx with z | z
    · exact .inl z
    · exact .inr (.inl z)
theorem In.aftO {σ : L2.St} {s : Cf} (I : In K c ⟨H, g, [a]⟩ [] σ s) {j : Nat} (ho : (j, a) ∈ s.os) : AftO a g H s.g s.H :=
  ⟨I.le, fun x o h n ne => I.keep x o h n (fun z => ne (List.mem_singleton.mp z)), I.frz, fun x hx => by
    rcases I.new x (List.mem_append_left _ hx) with z | z | z
    · exact .inl z
    · rw [List.mem_singleton.mp z] at hx
      exact absurd hx (I.osG ho)
    · exact .inr z, I.dom⟩
def penF (k : Dat → List Dat → Wld → Prop) : PEnds := ⟨fun e w => ownAt e 0 fun f l => f = false ∧ k .non l w, fun d e w => ownAt e 0 fun f l => f = false ∧ k d l w, fun _ _ => False, fun _ _ => False⟩
/-- a def that may change its first argument keeps its promise -/
theorem def_okO {n : Nat} {t : TS} {p : PS} {us : List V} (hs : SndS K c t p) (hn : ∀ ds l w k, O ds l w k → ds.length < n) (hP : ∀ ds l w k, O ds l w k → p (penF k) (env0O n l ds) w) (h : lifO K c O us H Q E) : t (en0 Q) (st0 n us) H := by
  obtain ⟨g, w, a, ws, l, vs, ds, k, rfl, W, hH, hg, hm, hl, r, hp, hq⟩ := h
  have fin : ∀ {σ : L2.St} {s : Cf} {v : V} {d : Dat}, In K c ⟨H, g, [a]⟩ [] σ s → Rep K c s.g v d → (ownAt s.e 0 fun f l => f = false ∧ k d l s.w) → Q v s.H := fun {σ s v d} I r h => by
    obtain ⟨f, l', e1, hf, h⟩ := ownAt_of h
    obtain ⟨a', ws', h1, h2, h3, h4, h5⟩ := I.own e1
    have ha : a' = a := List.mem_singleton.mp (h5.2 hf)
    subst ha
    exact hq v d ws' l' s.g s.H s.w (I.aftO h2) I.wr h3 h4 r h
  refine hs ⟨H, g, [a]⟩ [] (st0 n (.ref a :: vs)) ⟨g, H, env0O n l ds, w, [(0, a)]⟩ _ _ (In.startO (hn ds l w k hp) W hH hg hm hl r) (hP ds l w k hp) ⟨fun σ s _ I h => fin I .non h, fun σ s v d _ I r h => fin I r h, fun _ _ _ _ h => h.elim, fun _ _ _ _ h => h.elim⟩
theorem lifO_len {n : Nat} {us : List V} (hO : ∀ ds l w k, O ds l w k → ds.length + 1 = n) (h : lifO K c O us H Q E) : us.length = n := by
  obtain ⟨g, w, a, ws, l, vs, ds, k, rfl, _, _, _, _, _, r, hp, _⟩ := h
  rw [List.length_cons, r.length]; exact hO ds l w k hp
end
end Pu

/-! Kwd: calls of a def that has defaults: all by keywords; some values and the rest by keywords. -/
namespace Eng
open PySem PySem.Spec PyProof.Rows L2
def app2 (a b : List V) : List V := a ++ b
def app2V (a b : List Value) : List Value := a ++ b
section
variable {K : PySem.W.Frag} {x qual : Str} {params : Arguments} {body : List Stmt} {scope : Scope} {dvs : List V} {kws : List (Str × V)} {f : Addr} {fd : FuncData} {ps ks : List Str} {ix : List Nat} {n : Nat}
theorem kb_ofD (F : FunD K x qual params body scope dvs kws f fd) (hd : dvs ≠ [])
    (h : ∀ (T : Addr) (kV doc pm : Value) (an : Option Addr) (cdv ct : Value) (its ws : List Value), its.length = dvs.length → ws.length = ks.length →
      ∃ k, bindArgs (PySem.W.fnOf x qual params body scope (.ref T) kV doc pm an cdv ct) ⟨[], ks.zip ws⟩ = seqItems? (.ref T) >>= k ∧ k (some its.toArray) = pure (ps.zip (permV ix ws))) : KB0 K fd ps ks (permV ix) (perm ix) := by
  obtain ⟨oc, od, dV, kV, doc, pm, an, cdv, ct, osl, rfl, lk, hcd, hD, hK⟩ := F.ex
  rcases hD with ⟨e, _⟩ | ⟨_, T, o, its, m, rfl, lT, oT, rT⟩
  · exact absurd e hd
  · refine ⟨fun s ws X hl => ?_, fun r => perm_rel ix r⟩
    obtain ⟨k, e1, e2⟩ := h T kV doc pm an cdv ct its ws rT.length.symm hl
    refine BindsTo.of_looks fun M => ?_
    rw [e1]
    exact looks_items X lT oT (.of_pure e2)
theorem kn_ofD (F : FunD K x qual params body scope dvs kws f fd) (hd : dvs ≠ [])
    (h : ∀ (T : Addr) (kV doc pm : Value) (an : Option Addr) (cdv ct : Value) (us its ws : List Value), us.length = n → its.length = dvs.length → ws.length = ks.length →
      ∃ k, bindArgs (PySem.W.fnOf x qual params body scope (.ref T) kV doc pm an cdv ct) ⟨us, ks.zip ws⟩ = seqItems? (.ref T) >>= k ∧ k (some its.toArray) = pure (ps.zip (app2V us ws))) : KBn K fd ps n ks app2V app2 := by
  obtain ⟨oc, od, dV, kV, doc, pm, an, cdv, ct, osl, rfl, lk, hcd, hD, hK⟩ := F.ex
  rcases hD with ⟨e, _⟩ | ⟨_, T, o, its, m, rfl, lT, oT, rT⟩
  · exact absurd e hd
  · refine ⟨fun s us ws X hu hl => ?_, fun r1 r2 => r1.append r2⟩
    obtain ⟨k, e1, e2⟩ := h T kV doc pm an cdv ct us its ws hu rT.length.symm hl
    refine BindsTo.of_looks fun M => ?_
    rw [e1]
    exact looks_items X lT oT (.of_pure e2)
end
section
variable {X : Cx} {CX : CXT} {k n m : Nat} {f : Addr} {fd : FuncData} {ps ks : List Str} {sp : Sp} {E : XK} {x : Str} {p pos : Pos} {e : Expr} {es : List Expr} {kws : List Keyword} {t tk : TA} {g : List Value → List Value → List Value} {gV : List V → List V → List V}
theorem pe_callM (F : FnOk X.prog X.w X.K X.mg X.base CX k f fd ps sp) (hr : Room k X.A) (hg : Gl X x) (hm : X.mg x = some (.ref f)) (hk : PySem.W.keepIn X.K (.ref f) = true) (hb : KBn X.K fd ps n ks g gV) (hx : Passes CX X E)
    (ha : PA X (e :: es) t) (hkw : PK X kws tk) (hall : (backToKw pos (keywordEach kws X.env)).all (·.1.isSome) = true := by rfl) (hks : (backToKw pos (keywordEach kws X.env)).filterMap (·.1) = ks := by rfl)
    (hdb : (x == ("__debug__" : Str)) = false := by decide) (he : starEach (e :: es) X.env = (false, eval e X.env) :: starEach es X.env := by rfl)
    (hpl : ((backTo pos (starEach (e :: es) X.env)).any (·.1) || (backToKw pos (keywordEach kws X.env)).any (·.1.isNone)) = false := by rfl) (hl : m = ks.length := by rfl) :
    PE X (.Call (.Name x p) (e :: es) kws pos) (tCallN n m sp gV E t tk) := by
  subst hl
  exact pe_callN F hr hg hm hk hb hx ha hkw hall hks hdb he hpl
end
end Eng
namespace Pu
open PySem L2 Eng
def pCallN (n m : Nat) (P : PSp) (a r : PA) : PE := fun e w k => a e w fun ds e w => r e w fun zs e w => ds.length = n ∧ zs.length = m ∧ P (ds ++ zs) w fun d w => k d e w
section
variable {K : PySem.W.Frag} {c : Pc} {sp : Sp} {P : PSp} {E : XK} {tr tl : TA} {pr pl : PA} {n m : Nat}
theorem snd_callN (hp : SndP K c sp P) (hr : SndA K c tr pr) (hl : SndA K c tl pl) : SndE K c (tCallN n m sp app2 E tr tl) (pCallN n m P pr pl) := by
  intro X F σ s k Q I h hQ
  refine hr X F σ s _ _ I h fun vs ds s1 l1 I1 r1 h1 => ?_
  refine hl X F σ s1 _ _ I1 h1 fun us zs s2 l2 I2 r2 h2 => ?_
  refine ⟨r1.length.trans h2.1, r2.length.trans h2.2.1, ?_⟩
  refine hp s2.g s2.H s2.w _ _ _ _ E I2.wr ((r1.mono l2).app r2) h2.2.2 fun v d g' H' w' A W r3 h3 => ?_
  exact hQ v d ⟨g', H', s2.e, w', s2.os⟩ ((l1.trans l2).trans A.le) (I2.call A W) r3 h3
/-- x, y, .. = [..], e, ..  (four names or more: by a tuple) -/
def pTupO (x : Nat) (is : List Nat) (f : PF) (r : PA) : PS := fun D e w => f e w fun l e w => r e w fun ds e w => ds.length + 1 ≤ sizeLine ∧ onSome (setAll (e.set x (.own true l)) is ds) fun e => D.nx e w
theorem snd_tupO {x : Nat} {is : List Nat} {n : Nat} {ta : TE} {pf : PF} (hn : is.length + 1 = n) (hf : SndF K c ta pf) (hr : SndA K c tr pr) : SndS K c (tAsg (tTup (tCons ta tr)) (gTup K n (gNames (x :: is)))) (pTupO x is pf pr) := by
  intro X F σ s D Dp I h hE
  refine hf X F σ s _ _ I h fun a vs l s1 l1 hx I1 r1 h1 => ?_
  refine hr X _ σ s1 _ _ I1 h1 fun us ds s2 l2 I2 r2 h2 => ?_
  obtain ⟨hz, h2⟩ := h2
  obtain ⟨e, he, h2⟩ := onSome_of h2
  refine ⟨by rw [List.length_cons, r2.length]; exact hz, fun p hp => ?_⟩
  have le := gUpd_le (o := .tup (.ref a :: us)) (I2.offG hp)
  have I3 := (I2.newG (o := .tup (.ref a :: us)) hp).setO (i := x) ((r1.mono l2).mono le) hx
  refine ⟨p, .ref a :: us, rfl, SqT.of upd_same, ?_, .ref a, us, rfl, ?_⟩
  · rw [List.length_cons, r2.length, setAll_len he]; exact hn
  · exact In.setAll I3 (r2.mono le) he fun σ' I' => hE.nx σ' ⟨gUpd s2.g p (.tup (.ref a :: us)), upd s2.H p (.tup (.ref a :: us)), e, s2.w, _⟩ ((l1.trans l2).trans le) I' h2
/-! ### in, not in: a tuple of flat things -/
def fl : Dat → Option V
  | .non => some .non
  | .bl b => some (.bl b)
  | .int n => some (.int n)
  | .str t => some (.str t)
  | _ => none
def fls : List Dat → Option (List V)
  | [] => some []
  | d :: l => match fl d, fls l with
    | some v, some vs => some (v :: vs)
    | _, _ => none
theorem fl_rep {g : Gh} {x v : V} {d : Dat} (r : Rep K c g x d) (h : fl d = some v) : x = v ∧ flatV v = true := by
  cases r <;> simp only [fl, Option.some.injEq, reduceCtorEq] at h <;> subst h <;> exact ⟨rfl, rfl⟩
theorem fls_rep {g : Gh} : ∀ {xs vs : List V} {l : List Dat}, Reps K c g xs l → fls l = some vs → xs = vs ∧ vs.all flatV = true
  | _, vs, _, .nil, h => by cases (show some [] = some vs from h); exact ⟨rfl, rfl⟩
  | _, vs, _, .cons r rs, h => by
    unfold fls at h
    split at h
    · rename_i v vs' h1 h2
      cases h
      obtain ⟨rfl, e1⟩ := fl_rep r h1
      obtain ⟨rfl, e2⟩ := fls_rep rs h2
      exact ⟨rfl, by rw [List.all_cons, e1, e2]; rfl⟩
    · cases h
def qInN (neg : Bool) : Q2
  | d, .tup l, k => onSome (fl d) fun v => onSome (fls l) fun vs => k (.bl (if neg then !inV v vs else inV v vs))
  | _, _, _ => False
def qIn : Q2 := qInN false
def qNotIn : Q2 := qInN true
theorem s_inN {neg : Bool} : SndR2 K c (rIn K neg) (qInN neg) := by
  intro X F σ s x y dx dy k Q I rx ry h hQ
  cases dy with
  | tup l =>
    obtain ⟨v, hv, h⟩ := onSome_of h
    obtain ⟨vs, hvs, h⟩ := onSome_of h
    obtain ⟨a, us, rfl, hH, hR⟩ := ry.tup I
    obtain ⟨rfl, e2⟩ := fls_rep hR hvs
    have e1 : x = v ∧ flatV v = true := by
      rcases rx with rx | rx
      · exact fl_rep rx hv
      · obtain ⟨_, _, _, _, rfl, _⟩ := rx; cases hv
    obtain ⟨rfl, e1⟩ := e1
    exact ⟨a, us, rfl, .inr hH, e1, e2, hQ _ _ s (Gh.le.refl _) I rfl rfl (.bl _) h⟩
  | _ => exact h.elim
theorem s_in : SndR2 K c (rIn K false) qIn := s_inN
theorem s_notIn : SndR2 K c (rIn K true) qNotIn := s_inN
/-! ### all(..) of truths -/
def qAll : QL
  | [.lst l], k => ∃ bs : List Bool, l = bs.map Dat.bl ∧ k (.bl (bs.all id))
  | _, _ => False
theorem bls_rep {g : Gh} : ∀ {vs : List V} {bs : List Bool}, Reps K c g vs (bs.map Dat.bl) → vs = bs.map V.bl
  | _, [], .nil => rfl
  | _, b :: bs, .cons r rs => by cases r; rw [bls_rep rs]; rfl
theorem s_all : SndRL K c (rAll K) qAll := by
  intro X F σ s vs ds k Q I r h hQ
  unfold qAll at h
  split at h
  · replace r := one_of r
    obtain ⟨v, rfl, r⟩ := r
    obtain ⟨bs, rfl, h⟩ := h
    obtain ⟨a, ws, rfl, hH, hR⟩ := r.lst I
    rw [bls_rep hR] at hH
    exact ⟨a, bs, rfl, SqL.of hH, hQ _ _ s (Gh.le.refl _) I rfl rfl (.bl _) h⟩
  · exact h.elim
theorem eAll {l : List Dat} {k : Dat → Prop} : qAll [.lst l] k = ∃ bs : List Bool, l = bs.map Dat.bl ∧ k (.bl (bs.all id)) := rfl
theorem e_callN {a r : PA} {e : Env} {w : Wld} {k : PQ} : pCallN n m P a r e w k = (a e w fun ds e w => r e w fun zs e w => ds.length = n ∧ zs.length = m ∧ P (ds ++ zs) w fun d w => k d e w) := rfl
end
end Pu

/-! Tde: == and != of two pairs (dict, plain thing) that are alike. -/
namespace Eng
open PySem PySem.Spec PyProof.Rows L2
section
open PySem.SeqAt PySem.W MeetsSeq MeetsSeq2 MeetsSeq3 SeqRoads2
open AutoSeq1 (wpAny_loadPart')
variable {prog : Program} {w : World} {A : Around} {s : Shared}
/-- != of two tuples whose things are alike -/
theorem tne_alike (p q : Addr) (xs ys : Array Value) (n n2 : Nat) (dd dd2 : Option Addr) (sl sl2 : Array (Option Value)) (hz : xs.size = ys.size) :
    MeetsIn prog w (Builtin.«tuple.__ne__» ⟨[.ref p, .ref q], []⟩)
      (fun A R s => s.heap.get? p = some { cls := .type "tuple", dict := dd, data := .seq xs n, slots := sl } ∧ s.heap.get? q = some { cls := .type "tuple", dict := dd2, data := .seq ys n2, slots := sl2 } ∧
        (∀ j (h1 : j < xs.size) (h2 : j < ys.size), EqIn prog w A.in1 s xs[j] ys[j] true) ∧ R (.ok (.ret (.bool false))) s) :=
  .of_wp fun A R s h => by
    obtain ⟨hp, g, d, tk, os⟩ := s
    obtain ⟨gp, gq, he, h⟩ := h
    have sub := AutoSeq1.sub_tuple_tuple
    wp_walk using wpAny_loadPart' gp, wpAny_loadPart' gq, wpAny_forIn_list _ (fun rest b s' => b.1 = none ∧ s' = ⟨hp, g, d, tk, os⟩ ∧ ∃ i, rest = (xs.toList.zip ys.toList).drop i) _
    case turn =>
      rintro ⟨y, x⟩ rest b s' ⟨hb', rfl, i, hr⟩
      have hlt : i < (xs.toList.zip ys.toList).length := by
        rcases Nat.lt_or_ge i (xs.toList.zip ys.toList).length with z | z
        · exact z
        · rw [List.drop_of_length_le z] at hr; cases hr
      have hlt' : i < min xs.size ys.size := by simpa using hlt
      have h1 : i < xs.size := by omega
      have h2 : i < ys.size := by omega
      rw [List.drop_eq_getElem_cons hlt] at hr
      injection hr with hyx hrest
      have hy : y = xs[i] := by have := congrArg Prod.fst hyx; simpa using this
      have hx : x = ys[i] := by have := congrArg Prod.snd hyx; simpa using this
      subst hy hx
      refine wpAny_bind (he i h1 h2 _ _ ?_)
      wp_walk
      exact ⟨rfl, rfl, i + 1, hrest⟩
    case fin =>
      rintro ⟨b1, b2⟩ s' ⟨hb', rfl, i, hr⟩
      simp only at hb'
      subst hb'
      wp_walk
      exact ⟨_, rfl, by simpa [Builtin.Tuple.tupleCompareSizes, hz] using h⟩
    case h =>
      exact ⟨rfl, rfl, 0, rfl⟩
theorem rc_tne {E : Value → Shared → Prop} {p q : Addr} {xs ys : Array Value} {Q : Value → Shared → Prop} (hp : s.heap.IsTuple p xs) (hq : s.heap.IsTuple q ys) (hz : xs.size = ys.size) (hu : A.units < cLine)
    (he : ∀ j (h1 : j < xs.size) (h2 : j < ys.size), EqIn prog w A.in1 s xs[j] ys[j] true) (h : Q (.bool false) s) : wpAny (model prog w) A (richCompare .NotEq (.ref p) (.ref q)) Q E s := by
  obtain ⟨⟨c1, dd, data, sl⟩, ho, hc, n, hd⟩ := id hp
  obtain ⟨⟨c2, dd2, data2, sl2⟩, ho2, hc2, n2, hd2⟩ := id hq
  simp only at hc hd hc2 hd2
  subst hc hd hc2 hd2
  exact wpAny_richCompare_same_room (T := "tuple") (op := .NotEq) ⟨_, ho, rfl⟩ ⟨_, ho2, rfl⟩ F.slot_tuple_ne (call_meetsIn F.slot_tuple_ne ⟨_, ho, rfl⟩ F.entry_tuple_ne (F.args_tuple_ne_2 _ _) (tne_alike p q xs ys n n2 dd dd2 sl sl2 hz)
    ⟨ho, ho2, he, show Value.bool false ≠ Value.notImplemented ∧ Q (.bool false) s from ⟨(fun x => nomatch x), h⟩⟩) hu
end
/-- two pairs (dict, plain thing), alike -/
def TdSame (K : PySem.W.Frag) (H : Hp) (x y : V) : Prop := ∃ p q a b u v ks ls d, x = .ref p ∧ y = .ref q ∧ SqT K H p [.ref a, u] ∧ SqT K H q [.ref b, v] ∧ H a = some (.dK ks) ∧ H b = some (.dK ls) ∧ ks.length = ls.length ∧ (∀ z ∈ ks, valV ls z.1 = some z.2 ∧ flatB z.2 = true) ∧ Dp K H u d ∧ Dp K H v d ∧ SeqAt.shaped d = true ∧ PyData.eqv d d = true
def rEqTD (K : PySem.W.Frag) : R2 := fun x y H Q => TdSame K H x y ∧ Q (.bl true) H
def rNeTD (K : PySem.W.Frag) : R2 := fun x y H Q => TdSame K H x y ∧ Q (.bl false) H
section
variable {X : Cx}
theorem td_parts {pins : List (Addr × Obj)} {σ : L2.St} {H : Hp} {s : Shared} (I : L2.Inv X pins σ H s) {x y : V} (h : TdSame X.K H x y) :
    ∃ (p q : Addr) (v0 v1 w0 w1 : Value), x = .ref p ∧ y = .ref q ∧ IsTup s.heap p #[v0, v1] ∧ IsTup s.heap q #[w0, w1] ∧ ∀ A : Around, A.units + 64 < cLine → SeqAt.EqIn X.prog X.w A s v0 w0 true ∧ SeqAt.EqIn X.prog X.w A s v1 w1 true := by
  obtain ⟨p, q, a, b, u, v, ks, ls, d, rfl, rfl, hp, hq, ha, hb, hl, hm, hu, hv, hd, hee⟩ := h
  obtain ⟨is1, r1, t1, _⟩ := I.tuple hp
  obtain ⟨is2, r2, t2, _⟩ := I.tuple hq
  cases r1 with
  | cons e1 r1 =>
    cases r1 with
    | cons f1 r1 =>
      cases r1
      cases r2 with
      | cons e2 r2 =>
        cases r2 with
        | cons f2 r2 =>
          cases r2
          rename_i v0 v1 w0 w1
          refine ⟨p, q, v0, v1, w0, w1, rfl, rfl, t1, t2, fun A hA => ⟨?_, ?_⟩⟩
          · obtain rfl : v0 = Value.ref a := e1
            obtain rfl : w0 = Value.ref b := e2
            by_cases hab : a = b
            · subst hab
              exact (SeqAt.EqAt.same _).inModel _ _
            · refine SeqAt.EqIn.of_refs hab fun E Q hq => ?_
              obtain ⟨_, ya, va, ra, da⟩ := (show ObjOk X.prog X.w H s.heap a (.dK ks) from I.hok a _ ha)
              obtain ⟨_, yb, vb, rb, db⟩ := (show ObjOk X.prog X.w H s.heap b (.dK ls) from I.hok b _ hb)
              have hl2 : va.length = vb.length := by rw [← ra.length, ← rb.length]; exact hl
              exact PySem.W.keq_eq (knd := mixKind X.prog X.w) (r := true) ya yb da db (by omega) (fun _ => hits_all rb ra hm) (by simpa [hl2] using hq)
          · obtain ⟨as, r3⟩ := Dp.reads I d u v1 hu f1
            obtain ⟨bs, r4⟩ := Dp.reads I d v w1 hv f2
            have := (SeqAt.eqAt_reads d d A s v1 w1 as bs r3 r4 (SeqAt.canLay_of_shaped hd) (SeqAt.canLay_of_shaped hd) (SeqAt.room_of_shaped hd hA)).inModel X.prog X.w
            rw [hee] at this
            exact this
theorem room66 {k : Nat} {A : Around} (r : Room k A) : A.units + 66 < cLine := by have := r.un; omega
theorem o_eqTD (hu : X.A.units + 66 < cLine) : OpR X (compareOp .Eq) (rEqTD X.K) := by
  intro pins s σ H x y v u Q I rx ry h
  obtain ⟨h, q⟩ := h
  obtain ⟨p, p', v0, v1, w0, w1, rfl, rfl, t1, t2, hE⟩ := td_parts I h
  obtain rfl : v = Value.ref p := rx
  obtain rfl : u = Value.ref p' := ry
  have he := hE X.A.in1 (by show X.A.units + 1 + 64 < cLine; omega)
  refine SeqAt.rcIn_tuples (e := fun _ => true) t1 t2 (by omega) (fun j h1 h2 => ?_) ⟨.bl true, H, I, rfl, q⟩
  match j, h1 with
  | 0, _ => exact he.1
  | 1, _ => exact he.2
theorem o_neTD (hu : X.A.units + 66 < cLine) : OpR X (compareOp .NotEq) (rNeTD X.K) := by
  intro pins s σ H x y v u Q I rx ry h
  obtain ⟨h, q⟩ := h
  obtain ⟨p, p', v0, v1, w0, w1, rfl, rfl, t1, t2, hE⟩ := td_parts I h
  obtain rfl : v = Value.ref p := rx
  obtain rfl : u = Value.ref p' := ry
  have he := hE X.A.in1 (by show X.A.units + 1 + 64 < cLine; omega)
  refine rc_tne t1 t2 rfl (by omega) (fun j h1 h2 => ?_) ⟨.bl _, H, I, rfl, q⟩
  match j, h1 with
  | 0, _ => exact he.1
  | 1, _ => exact he.2
end
end Eng

/-! Tll: a def that tells a new list, which the caller then has as its own; pairs with dicts compared. -/
namespace Pu
open PySem L2 Eng
section
variable {K : PySem.W.Frag} {c : Pc} {X : En} {F : List (Addr × HO)} {σ : L2.St} {s s1 : Cf} {g g1 : Gh} {H : Hp} {w : Wld} {a : Addr} {vs ws : List V} {i : Nat} {ta tb : TE} {pa pb : PE} {tr : TA} {pr : PA} {ts tu : TS} {ps pu : PS} {sp : Sp} {P : PSp} {E : XK} {Q : VK} {l : List Dat}
def SndPL (K : PySem.W.Frag) (c : Pc) (sp : Sp) (P : PSp) : Prop := ∀ (g : Gh) (H : Hp) (w : Wld) (vs : List V) (ds : List Dat) (k : Dat → Wld → Prop) (Q : VK) (E : XK), Wr K c g H w → Reps K c g vs ds → P ds w k →
  (∀ a ws l g' H' w', Aft g H g' H' → Wr K c g' H' w' → H a = none → g'.G a = none → a ∉ g'.mu → H' a = some (.lst ws) → Reps K c g' ws l → k (.lst l) w' → Q (.ref a) H') → sp vs H Q E
def lifL (K : PySem.W.Frag) (c : Pc) (P : PSp) : Sp := fun vs H Q _ => ∃ (g : Gh) (w : Wld) (ds : List Dat) (k : Dat → Wld → Prop), Wr K c g H w ∧ Reps K c g vs ds ∧ P ds w k ∧
  ∀ a ws l g' H' w', Aft g H g' H' → Wr K c g' H' w' → H a = none → g'.G a = none → a ∉ g'.mu → H' a = some (.lst ws) → Reps K c g' ws l → k (.lst l) w' → Q (.ref a) H'
theorem SndPL.lif : SndPL K c (lifL K c P) P := fun g _ w _ ds k _ _ h1 h2 h3 h4 => ⟨g, w, ds, k, h1, h2, h3, h4⟩
def lsOf : Dat → (List Dat → Prop) → Prop
  | .lst l, k => k l
  | _, _ => False
/-- f(..), told -/
def pCallL (P : PSp) (a : PA) : PF := fun e w k => a e w fun ds e w => P ds w fun d w => lsOf d fun l => k l e w
theorem snd_callL (hp : SndPL K c sp P) (hr : SndA K c tr pr) : SndF K c (tCall sp [] E tr) (pCallL P pr) := by
  intro X F σ s k Q I h hQ
  refine hr X F σ s _ _ I h fun vs ds s1 l1 I1 r1 h1 => ?_
  rw [List.append_nil]
  refine hp s1.g s1.H s1.w vs ds _ _ E I1.wr r1 h1 fun a ws l g' H' w' A W ha hg hm hH hw hk => ?_
  exact hQ a ws l ⟨g', H', s1.e, w', s1.os⟩ (l1.trans A.le) (I1.fresh ha) (I1.callH A W ha hg hm hH) hw hk
/-! ### bodies that tell -/
structure SEndsL (K : PySem.W.Frag) (c : Pc) (X : En) (F : List (Addr × HO)) (g : Gh) (D : Ends) (Dp : PEnds) : Prop where
  rt : ∀ σ s a ws l, g.le s.g → In K c X ((a, .lst ws) :: F) σ s → X.H a = none → Reps K c s.g ws l → Dp.rt (.lst l) s.e s.w → D.rt (.ref a) s.H
theorem SEndsL.mono {D : Ends} {Dp : PEnds} {g' : Gh} (h : SEndsL K c X F g D Dp) (le : g.le g') : SEndsL K c X F g' D Dp := ⟨fun σ s a ws l l' => h.rt σ s a ws l (le.trans l')⟩
def SndSL (K : PySem.W.Frag) (c : Pc) (t : TS) (p : PS) : Prop := ∀ (X : En) (F : List (Addr × HO)) (σ : L2.St) (s : Cf) (D : Ends) (Dp : PEnds), In K c X F σ s → p Dp s.e s.w → SEndsL K c X F s.g D Dp → t D σ s.H
theorem snd_seqL (ha : SndS K c ts ps) (hb : SndSL K c tu pu) : SndSL K c (tSeq ts tu) (pSeqN ps pu) := by
  intro X F σ s D Dp I h hE
  exact ha X F σ s _ _ I h ⟨fun σ' s' l I' h' => hb X F σ' s' D Dp I' h' (hE.mono l), (fun _ _ _ _ _ _ _ z => z.elim), (fun _ _ _ _ z => z.elim), fun _ _ _ _ z => z.elim⟩
theorem snd_frzL {is : List Nat} (ha : SndSL K c ts ps) : SndSL K c ts (pFrz is ps) := by
  intro X F σ s D Dp I h hE
  obtain ⟨g', l', os', _, I'⟩ := I.frzs (is := is)
  exact ha X F σ ⟨g', s.H, Pu.frz s.e is, s.w, os'⟩ D Dp I' h (hE.mono l')
def pRetL (f : PF) : PS := fun D e w => f e w fun l e w => D.rt (.lst l) e w
theorem snd_retL {pf : PF} (hf : SndF K c ta pf) : SndSL K c (tRet ta) (pRetL pf) := by
  intro X F σ s D Dp I h hE
  exact hf X F σ s _ _ I h fun a vs ds s1 l1 hx I1 r1 h1 => hE.rt σ s1 a vs ds l1 I1 hx r1 h1
theorem def_okL {n : Nat} {t : TS} {p : PS} {us : List V} (hs : SndSL K c t p) (hP : ∀ ds w k, P ds w k → p (pen k) (env0 n ds) w) (h : lifL K c P us H Q E) : t (en0 Q) (st0 n us) H := by
  obtain ⟨g, w, ds, k, W, r, hp, hq⟩ := h
  refine hs ⟨H, g, []⟩ [] (st0 n us) ⟨g, H, env0 n ds, w, []⟩ _ _ (In.start W r) (hP ds w k hp) ⟨fun σ s a ws l le I hx hw hk => ?_⟩
  have hpm := mu_cons s (a, .lst ws) []
  have hin : a ∈ s.mu [(a, .lst ws)] := hpm.mem_iff.mpr List.mem_cons_self
  have hn : a ∉ s.g.mu := fun z => (List.nodup_cons.mp (hpm.nodup_iff.mp I.nd)).1 (List.mem_append_left _ z)
  refine hq a ws l s.g s.H s.w ⟨I.le, fun b o e n => I.keep b o e n (fun z => nomatch z), I.frz, fun b hb => ?_, I.dom⟩ I.wr hx (I.off a hin) hn (I.held _ List.mem_cons_self) hw hk
  rcases I.new b (List.mem_append_left _ hb) with z | z | z
  · exact .inl z
  · cases z
  · exact .inr z
theorem lifL_len {n : Nat} {us : List V} (hP : ∀ ds w k, P ds w k → ds.length = n) (h : lifL K c P us H Q E) : us.length = n := by
  obtain ⟨g, w, ds, k, _, r, hp, _⟩ := h
  rw [r.length]; exact hP ds w k hp
/-! ### pairs (dict, plain thing) -/
def qTD (r : Bool) : Q2
  | .tup [.dic l, d], .tup [.dic l', d'], k => EqDs l l' ∧ d = d' ∧ pl d ∧ k (.bl r)
  | _, _, _ => False
def qEqTD : Q2 := qTD true
def qNeTD : Q2 := qTD false
theorem td_same {x y : V} {l l' : List (Str × Int)} {d : Dat} (I : In K c X F σ s) (rx : RepW K c s x (.tup [.dic l, d])) (ry : RepW K c s y (.tup [.dic l', d])) (h : EqDs l l') (hp : pl d) : TdSame K s.H x y := by
  obtain ⟨p, vs, rfl, hv, rv⟩ := rx.tup I
  obtain ⟨q, us, rfl, hu, ru⟩ := ry.tup I
  cases rv with
  | cons e1 rv =>
    cases rv with
    | cons f1 rv =>
      cases rv
      cases ru with
      | cons e2 ru =>
        cases ru with
        | cons f2 ru =>
          cases ru
          obtain ⟨a, rfl, ha⟩ := RepW.dic I (.inl e1)
          obtain ⟨b, rfl, hb⟩ := RepW.dic I (.inl e2)
          obtain ⟨h1, h2, h3⟩ := h
          refine ⟨p, q, a, b, _, _, dKs l, dKs l', py d, rfl, rfl, hv, hu, ha, hb, by unfold dKs; rw [List.length_map, List.length_map]; exact h1, fun z hz => ?_, dpW hp (.inl f1) I.wr.sub, dpW hp (.inl f2) I.wr.sub, py_shaped hp, SeqAt.eqv_refl _ (py_shape hp).1⟩
          obtain ⟨q, hq, rfl⟩ := List.mem_map.mp hz
          exact ⟨valV_mem (dKs_nd h2) (List.mem_map.mpr ⟨q, h3 q hq, rfl⟩), rfl⟩
theorem s_TD {r : Bool} {rr : R2} (hr : ∀ x y H Q, TdSame K H x y → Q (.bl r) H → rr x y H Q) : SndR2 K c rr (qTD r) := by
  intro X F σ s x y dx dy k Q I rx ry h hQ
  unfold qTD at h
  split at h
  · obtain ⟨h1, rfl, hp, h⟩ := h
    exact hr _ _ _ _ (td_same I rx ry h1 hp) (hQ _ _ s (Gh.le.refl _) I rfl rfl (.bl _) h)
  · exact h.elim
theorem s_eqTD : SndR2 K c (rEqTD K) qEqTD := s_TD fun _ _ _ _ h q => ⟨h, q⟩
theorem s_neTD : SndR2 K c (rNeTD K) qNeTD := s_TD fun _ _ _ _ h q => ⟨h, q⟩
theorem eEqTD {l l' : List (Str × Int)} {d d' : Dat} {k : Dat → Prop} : qEqTD (.tup [.dic l, d]) (.tup [.dic l', d']) k = (EqDs l l' ∧ d = d' ∧ pl d ∧ k (.bl true)) := rfl
theorem eNeTD {l l' : List (Str × Int)} {d d' : Dat} {k : Dat → Prop} : qNeTD (.tup [.dic l, d]) (.tup [.dic l', d']) k = (EqDs l l' ∧ d = d' ∧ pl d ∧ k (.bl false)) := rfl
theorem eLsOf {l : List Dat} {k : List Dat → Prop} : lsOf (.lst l) k = k l := rfl
end
end Pu
namespace Eng
open PySem L2 Pu
/-! ### a list taken apart; == of plain data -/
def pgUnl (is : List Nat) : PG := fun d e w k => lstOf d fun ds => onSome (setAll e is ds) fun e => k e w
theorem snd_gUnl {K : PySem.W.Frag} {c : Pc} {is : List Nat} {n : Nat} (hn : is.length = n) : SndG K c (gUnl K n (gNames is)) (pgUnl is) := by
  intro X F σ s v d k Q I r h hQ
  cases r with
  | lst hs hr =>
    obtain ⟨e, he, h⟩ := onSome_of h
    refine ⟨_, _, rfl, SqL.of (I.wr.sub _ _ hs), by rw [hr.length, setAll_len he]; exact hn, ?_⟩
    exact In.setAll I hr he fun σ' I' => hQ σ' ⟨s.g, s.H, e, s.w, s.os⟩ (Gh.le.refl _) I' h
  | cst hs hr =>
    obtain ⟨e, he, h⟩ := onSome_of h
    refine ⟨_, _, rfl, sqL_mono I.wr.sub hs, by rw [hr.length, setAll_len he]; exact hn, ?_⟩
    exact In.setAll I hr he fun σ' I' => hQ σ' ⟨s.g, s.H, e, s.w, s.os⟩ (Gh.le.refl _) I' h
  | _ => exact h.elim
/-! ### == of plain data, whatever it answers -/
def qEqE : Q2 := fun x y k => (pl x ∧ pl y) ∧ k (.bl (PyData.eqv (py x) (py y)))
def qNeE : Q2 := fun x y k => (pl x ∧ pl y) ∧ k (.bl (!PyData.eqv (py x) (py y)))
theorem s_eqE {K : PySem.W.Frag} {c : Pc} : SndR2 K c (rEqD K) qEqE := by
  intro X F σ s x y dx dy k Q I rx ry h hQ
  exact ⟨py dx, py dy, dpW h.1.1 rx I.wr.sub, dpW h.1.2 ry I.wr.sub, py_shaped h.1.1, py_shaped h.1.2, hQ _ _ s (Gh.le.refl _) I rfl rfl (.bl _) h.2⟩
theorem s_neE {K : PySem.W.Frag} {c : Pc} : SndR2 K c (rNeD K) qNeE := by
  intro X F σ s x y dx dy k Q I rx ry h hQ
  exact ⟨py dx, py dy, dpW h.1.1 rx I.wr.sub, dpW h.1.2 ry I.wr.sub, py_shaped h.1.1, py_shaped h.1.2, hQ _ _ s (Gh.le.refl _) I rfl rfl (.bl _) h.2⟩
end Eng

/-! Lw1: the helpers that many laws have. -/
namespace Eng
open PySem L2 Pu
local macro_rules | `(tactic| walk_at "pu") => `(tactic| try simp only [pSeq, pNext, pBreak, pCont, pAsg, pAsgO, pAsgG, pPar, pParO, pParO2, pRet, pRetN, pDrop, pIfS, pAppend, pSetI, pFrz, pFor, pC, pOp, pUn, pTest, pNot, pAnd, pOr, pAndV, pOrV, pNotV, pIf, pChain, pNil, pCons, pCall, pCallD, pKw, pTup, pCB, pLst, pFz, pOpF, pCBF, pOpO, pCBO, pgName, pgTup, pLc, pYes, pIL, pIT, pIR1, pIR2, pIEnum, pIZip, pNoPart, pPart, pSlL, pSlT, pRevL, pRevT, pDisp, dVals, pDNew, setAll, wip, env0, pen, frz, fz,
  eAdd, eSub, eAnd, eOr, eXor, eLt, eLe, eGt, eGe, eMul, eDiv, eMod, ePow, eShr, eNeg, eEqI, eEqS, eEqL, eNeI, eNeS, eNeL, eIx1, eIx2, eIx3, eIxL, eIxC, eIxT, eCat, eRep, eLen1, eLen2, eLen3, eAbs, eInt1, eInt2, eMax, eMin, eDivmod, eAnyT, pExtend, pIA, e_is_integer, eDict, eEqDA, ePosD, eList1, eList2, eList3, eTupL, eEqB, eNeB, eIsB, qEqD, qNeD, eTup, eLst1, eLst2, eIntO, eSeq1, eSeq2, eSeq3, eSome, eAt0, eAt1, eAt2, eAt3, eVar, eVal, eOwnAt, eOwn, eSide, eRow, eWidB, eWidM, eCut, eBase, eMethM, eMethB, eSideB, eRowB, eBitsB, eMachO, eBigO,
  pCallN, pTupO, eAll, pCallO, pCallL, pRetL, pgUnl, eLsOf, eEqTD, eNeTD, penF, env0O, pBor, pBorT, pAppT, pAsgT, pParT, pTake, pSeqN, pRetT, pRetO, pRetC, eBv, eBv1, eBv2, eOt, eOt1, eNo0, eNo1, eNo2, eTld, eLf1, eLf2, eIsi, eq_self,
  e_cnt0, e_cnt1, e_cnt2, e_cnt3, e_cnt4, e_cnt5, e_cnt6, e_cnt7, e_cnt8, e_cnt9, e_enter, e_reset, e_parts, e_walk, e_tally, e_check_machine, e_Machine, e_made, e_big_of, e_big, e_value_of, e_plain, e_check_any, e_check_big, e_check_bigs, e_is_compact, e_sign, e_bits, e_digits, e_bit_length, e_is_digits, e_Big, e_source_of, e_next, e_one, e_cell_at, e_counted,
  List.map_cons, List.map_nil, List.length_cons, List.length_nil, List.cons_append, List.nil_append, List.append_nil, List.replicate_succ, List.replicate_zero, List.set_cons_zero, List.set_cons_succ, List.getElem?_cons_zero, List.getElem?_cons_succ, List.getD_cons_zero, List.getD_cons_succ, Nat.reduceSub, Nat.reduceAdd, Bool.not_true, Bool.not_false, Bool.false_eq_true, reduceIte, reduceCtorEq, true_and, and_true, decide_eq_true_eq, Bool.not_eq_true, Bool.not_eq_eq_eq_not, decide_eq_false_iff_not, Bool.not_not])
local macro_rules | `(tactic| walk_at "mo") => `(tactic| repeat (first | exact mo_var | exact mo_c | exact moq_I | exact moq_I0 | exact moq_eq | exact moq_ne | exact mo_nil | refine mo_op ?_ ?_ ?_ | refine mo_neg ?_ | refine mo_test ?_ | refine mo_not ?_ | refine mo_and ?_ ?_ | refine mo_or ?_ ?_ | refine mo_if ?_ ?_ ?_ | refine mo_cons ?_ ?_ | refine mo_tup ?_ | refine mo_fz ?_ | refine mo_lst ?_))
def P_z_machine : PSp := fun ds w k => match ds with
  | [.src j] => j < w.ss ∧ ∀ (b : Nat) (cut : Int), 8 ≤ b → b ≤ 30 → 2 ≤ cut → cut ≤ 1000 → k (.mach w.ms.length) ⟨w.ms ++ [⟨b, cut, zeros, []⟩], w.ss⟩
  | _ => False
def sp_z_machine (K : PySem.W.Frag) (c : Pc) : Sp := lif K c P_z_machine
theorem u_z_machine {K : PySem.W.Frag} {c : Pc} : SndP K c (sp_z_machine K c) P_z_machine := SndP.lif
/-- 0:_law_source 1:_law_bits -/
def t_z_machine (K : PySem.W.Frag) (c : Pc) : TS :=
  (tSeq (tAsg (tCall (sp_law_one K c) [] E0 (tCons (tVar 0) (tCons (tLst (tCons (tC (.int 8)) (tCons (tC (.int 8)) (tCons (tC (.int 9)) (tCons (tC (.int 15)) (tCons (tC (.int 30)) (tCons (tC (.int 30)) (tCons (tOp rAdd (tC (.int 8)) (tCall (sp_law_next K c) [] E0 (tCons (tVar 0) (tCons (tC (.int 23)) tNil)))) tNil)))))))) tNil))) (gName 1))
  (tRet (tMake c.CMachine (sp_Machine_init K c) [] E0 (tCons (tVar 1) (tCons (tOp rAdd (tC (.int 2)) (tCall (sp_law_next K c) [] E0 (tCons (tVar 0) (tCons (tC (.int 8)) tNil)))) tNil)))))
def p_z_machine : PS :=
  (pSeq (pAsg (pCall P_law_one (pCons (pVar 0) (pCons (pFz (pLst (pCons (pC (.int 8)) (pCons (pC (.int 8)) (pCons (pC (.int 9)) (pCons (pC (.int 15)) (pCons (pC (.int 30)) (pCons (pC (.int 30)) (pCons (pOp qAdd (pC (.int 8)) (pCall P_law_next (pCons (pVar 0) (pCons (pC (.int 23)) pNil)))) pNil))))))))) pNil))) 1)
  (pRet (pCallD P_Machine [] (pCons (pVar 1) (pCons (pOp qAdd (pC (.int 2)) (pCall P_law_next (pCons (pVar 0) (pCons (pC (.int 8)) pNil)))) pNil)))))
theorem sn_z_machine {K : PySem.W.Frag} {c : Pc} {α : Prop} (PM : PM K c) (PB : α) : SndS K c (t_z_machine K c) p_z_machine :=
  (snd_seq (snd_asg (snd_call u_law_one (snd_cons snd_var (snd_cons (snd_fz (snd_lst (snd_cons (snd_int 8) (snd_cons (snd_int 8) (snd_cons (snd_int 9) (snd_cons (snd_int 15) (snd_cons (snd_int 30) (snd_cons (snd_int 30) (snd_cons (snd_op s_add (snd_int 8) (snd_call u_law_next (snd_cons snd_var (snd_cons (snd_int 23) snd_nil)))) snd_nil))))))))) snd_nil))))
  (snd_ret (snd_mkM (fun _ => .nil) (snd_cons snd_var (snd_cons (snd_op s_add (snd_int 2) (snd_call u_law_next (snd_cons snd_var (snd_cons (snd_int 8) snd_nil)))) snd_nil)))))
theorem n_z_machine : ∀ ds w k, P_z_machine ds w k → ds.length = 1 := fun ds w k h => by
  unfold P_z_machine at h
  split at h
  · rfl
  · exact h.elim
theorem w_z_machine : ∀ ds w k, P_z_machine ds w k → p_z_machine (pen k) (env0 2 ds) w := by
  intro ds w k h
  unfold P_z_machine at h
  split at h
  · rename_i j
    unfold p_z_machine
    walk_at "pu"
    refine ⟨h.1, nxOk (by decide) (by decide), fun r h0 h1 => ⟨by decide, h.1, ⟨by simp, by decide⟩, fun d hd => ⟨h.1, nxOk (by decide) (by decide), fun r2 h2 h3 => ?_⟩⟩⟩
    obtain ⟨n, rfl, n1, n2⟩ : ∃ n : Int, d = .int n ∧ 8 ≤ n ∧ n ≤ 30 := by
      simp only [List.mem_cons, List.not_mem_nil, or_false] at hd
      rcases hd with rfl | rfl | rfl | rfl | rfl | rfl | rfl <;> exact ⟨_, rfl, by omega, by omega⟩
    walk_at "pu"
    exact ⟨by omega, h.2 n.toNat (2 + r2) (by omega) (by omega) (by omega) (by omega)⟩
  · exact h.elim
theorem b_z_machine {K : PySem.W.Frag} {c : Pc} {vs : List V} {H : Hp} {Q : VK} {E : XK} {α : Prop} (PM : PM K c) (PB : α) (h : sp_z_machine K c vs H Q E) : t_z_machine K c (en0 Q) (st0 2 vs) H := def_ok (sn_z_machine PM PB) w_z_machine h
def P_z_power : PSp := fun ds w k => match ds with
  | [.int b, .int n] => (0 ≤ b ∧ b < 2 ^ 64 ∧ 0 ≤ n ∧ n < 2 ^ 62) ∧ k (.int (b ^ n.toNat)) w
  | _ => False
def sp_z_power (K : PySem.W.Frag) (c : Pc) : Sp := lif K c P_z_power
theorem u_z_power {K : PySem.W.Frag} {c : Pc} : SndP K c (sp_z_power K c) P_z_power := SndP.lif
/-- 0:_law_base 1:_law_n 2:_law_found 3:_law_k -/
def t_z_power (K : PySem.W.Frag) (c : Pc) : TS :=
  (tSeq (tAsg (tC (.int 1)) (gName 2))
  (tSeq (tFor (iRng1 (tCons (tVar 1) tNil)) (gName 3) (tAsg (tOp rMul (tVar 2) (tVar 0)) (gName 2)))
  (tRet (tVar 2))))
def p_z_power : PS :=
  (pSeq (pAsg (pC (.int 1)) 2)
  (pSeq (pFor (pIR1 (pVar 1)) (pgName 3) (pAsg (pOp qMul (pVar 2) (pVar 0)) 2))
  (pRet (pVar 2))))
theorem sn_z_power {K : PySem.W.Frag} {c : Pc} {α : Prop} (PM : PM K c) (PB : α) : SndS K c (t_z_power K c) p_z_power :=
  (snd_seq (snd_asg (snd_int 1))
  (snd_seq (snd_for (snd_iR1 snd_var) snd_gName (snd_asg (snd_op s_mul snd_var snd_var)))
  (snd_ret snd_var)))
theorem n_z_power : ∀ ds w k, P_z_power ds w k → ds.length = 2 := fun ds w k h => by
  unfold P_z_power at h
  split at h
  · rfl
  · exact h.elim
theorem w_z_power : ∀ ds w k, P_z_power ds w k → p_z_power (pen k) (env0 4 ds) w := by
  intro ds w k h
  unfold P_z_power at h
  split at h
  · rename_i b n
    obtain ⟨⟨b1, b2, n1, n2⟩, h⟩ := h
    unfold p_z_power
    walk_at "pu"
    refine ⟨by omega, lp_ind (fun i e w' => w' = w ∧ ∃ z, e = [.val (.int b), .val (.int n), .val (.int (b ^ i)), z]) ⟨rfl, .no, by rw [Int.pow_zero]⟩ ?_ ?_⟩
    · rintro i d e w' nx hd ⟨rfl, z, rfl⟩ hn
      walk_at "pu"
      exact ⟨mul_okR (by omega) b2, hn _ _ ⟨rfl, _, by rw [Int.pow_succ]⟩⟩
    · rintro e w' ⟨rfl, z, rfl⟩
      walk_at "pu"
      rw [rng_len]
      exact h
  · exact h.elim
theorem b_z_power {K : PySem.W.Frag} {c : Pc} {vs : List V} {H : Hp} {Q : VK} {E : XK} {α : Prop} (PM : PM K c) (PB : α) (h : sp_z_power K c vs H Q E) : t_z_power K c (en0 Q) (st0 4 vs) H := def_ok (sn_z_power PM PB) w_z_power h
/-! lists of digits -/
theorem dN_app (ds es : List Nat) : dN ds ++ dN es = dN (ds ++ es) := by unfold dN; rw [List.map_append]
theorem dN_len (ds : List Nat) : (dN ds).length = ds.length := by unfold dN; rw [List.length_map]
theorem dN_rev (ds : List Nat) : (dN ds).reverse = dN ds.reverse := by unfold dN; rw [List.map_reverse]
theorem dN_get {ds : List Nat} {i : Nat} {d : Dat} (h : (dN ds)[i]? = some d) : ∃ n : Nat, ds[i]? = some n ∧ d = .int (n : Int) := by
  unfold dN at h
  rw [List.getElem?_map] at h
  cases e : ds[i]? with
  | none => rw [e] at h; cases h
  | some n => rw [e] at h; exact ⟨n, rfl, (Option.some.inj h).symm⟩
theorem dN_inj {ds es : List Nat} (h : dN ds = dN es) : ds = es := by
  unfold dN at h
  exact (List.map_inj_right (fun a b e => by injection e with e; omega)).mp h
theorem dN_one (d : Nat) : [Dat.int (d : Int)] = dN [d] := rfl
theorem dN_nil : ([] : List Dat) = dN [] := rfl
theorem pl_ints {n : Nat} (ns : List Int) : (ns.map Dat.int).all (plF n) = true := by
  rw [List.all_map]
  exact List.all_eq_true.mpr fun x _ => by cases n <;> rfl
theorem pl_dN {n : Nat} (ds : List Nat) : (dN ds).all (plF n) = true := by
  unfold dN
  rw [List.all_map]
  exact List.all_eq_true.mpr fun x _ => by cases n <;> rfl
theorem nb_dN {n : Nat} (ds : List Nat) : (dN ds).all (nbF n) = true := by
  unfold dN
  rw [List.all_map]
  exact List.all_eq_true.mpr fun x _ => by cases n <;> rfl
theorem pl_L (ds : List Nat) : pl (.lst (dN ds)) := pl_dN ds
theorem nb_L (ds : List Nat) : nbF 9 (.lst (dN ds)) = true := nb_dN ds
theorem pl_nil : pl (.lst []) := rfl
def P_z_digits : PSp := fun ds w k => match ds with
  | [.src j, .int base, .int most] => j < w.ss ∧ (2 ≤ base ∧ base ≤ 2 ^ 30) ∧ (0 ≤ most ∧ most ≤ 10000) ∧ ∀ ds : List Nat, ds.length ≤ most.toNat + 1 → (∀ d ∈ ds, (d : Int) < base) → k (.lst (dN ds)) w
  | _ => False
def sp_z_digits (K : PySem.W.Frag) (c : Pc) : Sp := lif K c P_z_digits
theorem u_z_digits {K : PySem.W.Frag} {c : Pc} : SndP K c (sp_z_digits K c) P_z_digits := SndP.lif
/-- 0:_law_source 1:_law_base 2:_law_most 3:_law_found 4:_law_k 5:_law_drawn -/
def t_z_digits (K : PySem.W.Frag) (c : Pc) : TS :=
  (tSeq (tAsg (tLst tNil) (gName 3))
  (tSeq (tFor (iRng1 (tCons (tCall (sp_law_next K c) [] E0 (tCons (tVar 0) (tCons (tOp rAdd (tVar 2) (tC (.int 1))) tNil))) tNil)) (gName 4) (tSeq (tAsg (tCall (sp_law_next K c) [] E0 (tCons (tVar 0) (tCons (tVar 1) tNil))) (gName 5))
  (tDrop (tBM K "list" rAppend (tVar 3) (tCons (tCall (sp_law_one K c) [] E0 (tCons (tVar 0) (tCons (tLst (tCons (tVar 5) (tCons (tVar 5) (tCons (tC (.int 0)) (tCons (tOp rSub (tVar 1) (tC (.int 1))) (tCons (tC (.int 1)) (tCons (tOp rDiv (tVar 1) (tC (.int 2))) tNil))))))) tNil))) tNil)))))
  (tRet (tIf (tTest (tOp (rNeD K) (tVar 3) (tLst tNil))) (tOp rCat (tVar 3) (tLst (tCons (tOp rAdd (tC (.int 1)) (tCall (sp_law_next K c) [] E0 (tCons (tVar 0) (tCons (tOp rSub (tVar 1) (tC (.int 1))) tNil)))) tNil))) (tVar 3)))))
def b1_z_digits : PS :=
  (pSeq (pAsg (pCall P_law_next (pCons (pVar 0) (pCons (pVar 1) pNil))) 5)
  (pAppend 3 (pCall P_law_one (pCons (pVar 0) (pCons (pFz (pLst (pCons (pVar 5) (pCons (pVar 5) (pCons (pC (.int 0)) (pCons (pOp qSub (pVar 1) (pC (.int 1))) (pCons (pC (.int 1)) (pCons (pOp qDiv (pVar 1) (pC (.int 2))) pNil)))))))) pNil)))))
def p_z_digits : PS :=
  (pSeq (pAsgO (pLst pNil) 3)
  (pSeq (pFor (pIR1 (pCall P_law_next (pCons (pVar 0) (pCons (pOp qAdd (pVar 2) (pC (.int 1))) pNil)))) (pgName 4) b1_z_digits)
  (pFrz [3] (pRet (pIf (pTest (pOp qNeD (pVar 3) (pFz (pLst pNil)))) (pFz (pOpF qCat (pVar 3) (pFz (pLst (pCons (pOp qAdd (pC (.int 1)) (pCall P_law_next (pCons (pVar 0) (pCons (pOp qSub (pVar 1) (pC (.int 1))) pNil)))) pNil))))) (pVar 3))))))
theorem sn_z_digits {K : PySem.W.Frag} {c : Pc} {α : Prop} (PM : PM K c) (PB : α) : SndS K c (t_z_digits K c) p_z_digits :=
  (snd_seq (snd_asgO (snd_lst snd_nil))
  (snd_seq (snd_for (snd_iR1 (snd_call u_law_next (snd_cons snd_var (snd_cons (snd_op s_add snd_var (snd_int 1)) snd_nil)))) snd_gName (snd_seq (snd_asg (snd_call u_law_next (snd_cons snd_var (snd_cons snd_var snd_nil))))
  (snd_append (snd_call u_law_one (snd_cons snd_var (snd_cons (snd_fz (snd_lst (snd_cons snd_var (snd_cons snd_var (snd_cons (snd_int 0) (snd_cons (snd_op s_sub snd_var (snd_int 1)) (snd_cons (snd_int 1) (snd_cons (snd_op s_div snd_var (snd_int 2)) snd_nil)))))))) snd_nil))))))
  (snd_frz (snd_ret (snd_if (snd_test (snd_op s_neD snd_var (snd_fz (snd_lst snd_nil)))) (snd_fz (snd_opF s_cat snd_var (snd_fz (snd_lst (snd_cons (snd_op s_add (snd_int 1) (snd_call u_law_next (snd_cons snd_var (snd_cons (snd_op s_sub snd_var (snd_int 1)) snd_nil)))) snd_nil))))) snd_var)))))
theorem n_z_digits : ∀ ds w k, P_z_digits ds w k → ds.length = 3 := fun ds w k h => by
  unfold P_z_digits at h
  split at h
  · rfl
  · exact h.elim
theorem w_z_digits : ∀ ds w k, P_z_digits ds w k → p_z_digits (pen k) (env0 6 ds) w := by
  intro ds w k h
  unfold P_z_digits at h
  split at h
  · rename_i j base most
    obtain ⟨hj, ⟨b1, b2⟩, ⟨m1, m2⟩, h⟩ := h
    have hz := sizeLine_eq
    unfold p_z_digits
    walk_at "pu"
    refine ⟨by omega, hj, nxOk (by omega) (by omega), fun r r0 r1 => ⟨by omega, ?_⟩⟩
    refine lp_ind (fun i e w' => w' = w ∧ ∃ (es : List Nat) (y z : Slot), es.length = i ∧ (∀ d ∈ es, (d : Int) < base) ∧ e = [.val (.src j), .val (.int base), .val (.int most), .own true (dN es), y, z]) ⟨rfl, [], _, _, rfl, (fun _ z => nomatch z), rfl⟩ ?_ ?_
    · rintro i d e w' nx hd ⟨rfl, es, y, z, hl, hes, rfl⟩ hn
      have hi := (rng_get hd).1
      unfold b1_z_digits
      walk_at "pu"
      refine ⟨hj, nxOk (by omega) (by omega), fun x x0 x1 => ⟨div_ok64 (by decide) (by decide), by omega, hj, ⟨by simp, by decide⟩, fun d' hd' => ?_⟩⟩
      obtain ⟨n, rfl, hn'⟩ : ∃ n : Nat, d' = .int (n : Int) ∧ (n : Int) < base := by
        simp only [List.mem_cons, List.not_mem_nil, or_false] at hd'
        rcases hd' with rfl | rfl | rfl | rfl | rfl | rfl
        · exact ⟨x.toNat, by congr 1; omega, by omega⟩
        · exact ⟨x.toNat, by congr 1; omega, by omega⟩
        · exact ⟨0, rfl, by omega⟩
        · exact ⟨(base - 1).toNat, by congr 1; omega, by omega⟩
        · exact ⟨1, rfl, by omega⟩
        · exact ⟨(base / 2).toNat, by congr 1; omega, by omega⟩
      refine ⟨by rw [dN_len, hl]; omega, hn _ _ ⟨rfl, es ++ [n], _, _, by rw [List.length_append, hl]; rfl, fun d hd => ?_, by rw [dN_one, dN_app]⟩⟩
      rcases List.mem_append.mp hd with q | q
      · exact hes d q
      · rw [List.mem_singleton.mp q]; exact hn'
    · rintro e w' ⟨rfl, es, y, z, hl, hes, rfl⟩
      rw [rng_len] at hl
      walk_at "pu"
      refine ⟨by omega, ⟨pl_L es, pl_nil⟩, fun b hb1 hb2 => ?_⟩
      split
      · refine ⟨hj, nxOk (by omega) (by omega), fun x x0 x1 => ⟨by omega, by rw [dN_len]; omega, ?_⟩⟩
        have e1 : (1 + x : Int) = ((1 + x.toNat : Nat) : Int) := by omega
        rw [e1, dN_one, dN_app]
        refine h _ (by rw [List.length_append, hl]; simp only [List.length_cons, List.length_nil]; omega) fun d hd => ?_
        rcases List.mem_append.mp hd with q | q
        · exact hes d q
        · rw [List.mem_singleton.mp q]; omega
      · exact h _ (by omega) hes
  · exact h.elim
theorem b_z_digits {K : PySem.W.Frag} {c : Pc} {vs : List V} {H : Hp} {Q : VK} {E : XK} {α : Prop} (PM : PM K c) (PB : α) (h : sp_z_digits K c vs H Q E) : t_z_digits K c (en0 Q) (st0 6 vs) H := def_ok (sn_z_digits PM PB) w_z_digits h
def P_z_value : PSp := fun ds w k => match ds with
  | [.lst l, .int base] => ∃ ds : List Nat, l = dN ds ∧ (0 ≤ base ∧ base ≤ 2 ^ 60) ∧ k (.int (valB base.toNat ds : Nat)) w
  | _ => False
def sp_z_value (K : PySem.W.Frag) (c : Pc) : Sp := lif K c P_z_value
theorem u_z_value {K : PySem.W.Frag} {c : Pc} : SndP K c (sp_z_value K c) P_z_value := SndP.lif
/-- 0:_law_digits_here 1:_law_base 2:_law_found 3:_law_digit -/
def t_z_value (K : PySem.W.Frag) (c : Pc) : TS :=
  (tSeq (tAsg (tC (.int 0)) (gName 2))
  (tSeq (tFor (iList K (tRevL K (tVar 0))) (gName 3) (tAsg (tOp rAdd (tOp rMul (tVar 1) (tVar 2)) (tVar 3)) (gName 2)))
  (tRet (tVar 2))))
def p_z_value : PS :=
  (pSeq (pAsg (pC (.int 0)) 2)
  (pSeq (pFor (pIL (pFz (pRevL (pVar 0)))) (pgName 3) (pAsg (pOp qAdd (pOp qMul (pVar 1) (pVar 2)) (pVar 3)) 2))
  (pRet (pVar 2))))
theorem sn_z_value {K : PySem.W.Frag} {c : Pc} {α : Prop} (PM : PM K c) (PB : α) : SndS K c (t_z_value K c) p_z_value :=
  (snd_seq (snd_asg (snd_int 0))
  (snd_seq (snd_for (snd_iList (snd_fz (snd_revL snd_var))) snd_gName (snd_asg (snd_op s_add (snd_op s_mul snd_var snd_var) snd_var)))
  (snd_ret snd_var)))
theorem n_z_value : ∀ ds w k, P_z_value ds w k → ds.length = 2 := fun ds w k h => by
  unfold P_z_value at h
  split at h
  · rfl
  · exact h.elim
theorem w_z_value : ∀ ds w k, P_z_value ds w k → p_z_value (pen k) (env0 4 ds) w := by
  intro ds w k h
  unfold P_z_value at h
  split at h
  · rename_i l base
    obtain ⟨ds, rfl, ⟨b1, b2⟩, h⟩ := h
    unfold p_z_value
    walk_at "pu"
    rw [dN_rev]
    obtain ⟨B, rfl⟩ : ∃ B : Nat, base = (B : Int) := ⟨base.toNat, by omega⟩
    refine lp_ind (fun i e w' => w' = w ∧ ∃ z, e = [.val (.lst (dN ds)), .val (.int (B : Int)), .val (.int (((ds.reverse.take i).foldl (fun r d => B * r + d) 0 : Nat) : Int)), z]) ⟨rfl, _, rfl⟩ ?_ ?_
    · rintro i d e w' nx hd ⟨rfl, z, rfl⟩ hn
      obtain ⟨n, hn', rfl⟩ := dN_get hd
      walk_at "pu"
      refine ⟨mul_okL (by omega) (by omega), hn _ _ ⟨rfl, .val (.int (n : Int)), ?_⟩⟩
      have e1 : ds.reverse.take (i + 1) = ds.reverse.take i ++ [n] := by rw [List.take_succ, hn']; rfl
      rw [e1, List.foldl_append]
      simp only [List.foldl_cons, List.foldl_nil, Int.natCast_add, Int.natCast_mul]
    · rintro e w' ⟨rfl, z, rfl⟩
      walk_at "pu"
      rw [dN_len, List.take_length, valB_fold]
      have e2 : ((B : Int)).toNat = B := by omega
      rw [e2] at h
      exact h
  · exact h.elim
theorem b_z_value {K : PySem.W.Frag} {c : Pc} {vs : List V} {H : Hp} {Q : VK} {E : XK} {α : Prop} (PM : PM K c) (PB : α) (h : sp_z_value K c vs H Q E) : t_z_value K c (en0 Q) (st0 4 vs) H := def_ok (sn_z_value PM PB) w_z_value h
def P_z_number : PSp := fun ds w k => match ds with
  | [.src j, .int base, .int most] => j < w.ss ∧ (2 ≤ base ∧ base ≤ 2 ^ 30) ∧ (0 ≤ most ∧ most ≤ 10000) ∧ ∀ n : Int, n.natAbs < base.toNat ^ (most.toNat + 1) → k (.int n) w
  | _ => False
def sp_z_number (K : PySem.W.Frag) (c : Pc) : Sp := lif K c P_z_number
theorem u_z_number {K : PySem.W.Frag} {c : Pc} : SndP K c (sp_z_number K c) P_z_number := SndP.lif
/-- 0:_law_source 1:_law_base 2:_law_most 3:_law_found -/
def t_z_number (K : PySem.W.Frag) (c : Pc) : TS :=
  (tSeq (tAsg (tCall (sp_z_value K c) [] E0 (tCons (tCall (sp_z_digits K c) [] E0 (tCons (tVar 0) (tCons (tVar 1) (tCons (tVar 2) tNil)))) (tCons (tVar 1) tNil))) (gName 3))
  (tSeq (tAsg (tIf (tTest (tOp rGt (tVar 3) (tC (.int 0)))) (tVar 3) (tCall (sp_law_next K c) [] E0 (tCons (tVar 0) (tCons (tVar 1) tNil)))) (gName 3))
  (tRet (tCall (sp_law_one K c) [] E0 (tCons (tVar 0) (tCons (tLst (tCons (tVar 3) (tCons (tVar 3) (tCons (tOp rSub (tC (.int 0)) (tVar 3)) tNil)))) tNil))))))
def p_z_number : PS :=
  (pSeq (pAsg (pCall P_z_value (pCons (pCall P_z_digits (pCons (pVar 0) (pCons (pVar 1) (pCons (pVar 2) pNil)))) (pCons (pVar 1) pNil))) 3)
  (pSeq (pAsg (pIf (pTest (pOp qGt (pVar 3) (pC (.int 0)))) (pVar 3) (pCall P_law_next (pCons (pVar 0) (pCons (pVar 1) pNil)))) 3)
  (pRet (pCall P_law_one (pCons (pVar 0) (pCons (pFz (pLst (pCons (pVar 3) (pCons (pVar 3) (pCons (pOp qSub (pC (.int 0)) (pVar 3)) pNil))))) pNil))))))
theorem sn_z_number {K : PySem.W.Frag} {c : Pc} {α : Prop} (PM : PM K c) (PB : α) : SndS K c (t_z_number K c) p_z_number :=
  (snd_seq (snd_asg (snd_call u_z_value (snd_cons (snd_call u_z_digits (snd_cons snd_var (snd_cons snd_var (snd_cons snd_var snd_nil)))) (snd_cons snd_var snd_nil))))
  (snd_seq (snd_asg (snd_if (snd_test (snd_op s_gt snd_var (snd_int 0))) snd_var (snd_call u_law_next (snd_cons snd_var (snd_cons snd_var snd_nil)))))
  (snd_ret (snd_call u_law_one (snd_cons snd_var (snd_cons (snd_fz (snd_lst (snd_cons snd_var (snd_cons snd_var (snd_cons (snd_op s_sub (snd_int 0) snd_var) snd_nil))))) snd_nil))))))
theorem n_z_number : ∀ ds w k, P_z_number ds w k → ds.length = 3 := fun ds w k h => by
  unfold P_z_number at h
  split at h
  · rfl
  · exact h.elim
theorem e_z_digits {j : Nat} {base most : Int} {w : Wld} {k : Dat → Wld → Prop} : P_z_digits [.src j, .int base, .int most] w k = (j < w.ss ∧ (2 ≤ base ∧ base ≤ 2 ^ 30) ∧ (0 ≤ most ∧ most ≤ 10000) ∧ ∀ ds : List Nat, ds.length ≤ most.toNat + 1 → (∀ d ∈ ds, (d : Int) < base) → k (.lst (dN ds)) w) := rfl
theorem e_z_value {l : List Dat} {base : Int} {w : Wld} {k : Dat → Wld → Prop} : P_z_value [.lst l, .int base] w k = ∃ ds : List Nat, l = dN ds ∧ (0 ≤ base ∧ base ≤ 2 ^ 60) ∧ k (.int (valB base.toNat ds : Nat)) w := rfl
theorem e_z_number {j : Nat} {base most : Int} {w : Wld} {k : Dat → Wld → Prop} : P_z_number [.src j, .int base, .int most] w k = (j < w.ss ∧ (2 ≤ base ∧ base ≤ 2 ^ 30) ∧ (0 ≤ most ∧ most ≤ 10000) ∧ ∀ n : Int, n.natAbs < base.toNat ^ (most.toNat + 1) → k (.int n) w) := rfl
theorem e_z_machine {j : Nat} {w : Wld} {k : Dat → Wld → Prop} : P_z_machine [.src j] w k = (j < w.ss ∧ ∀ (b : Nat) (cut : Int), 8 ≤ b → b ≤ 30 → 2 ≤ cut → cut ≤ 1000 → k (.mach w.ms.length) ⟨w.ms ++ [⟨b, cut, zeros, []⟩], w.ss⟩) := rfl
theorem e_z_power {b n : Int} {w : Wld} {k : Dat → Wld → Prop} : P_z_power [.int b, .int n] w k = ((0 ≤ b ∧ b < 2 ^ 64 ∧ 0 ≤ n ∧ n < 2 ^ 62) ∧ k (.int (b ^ n.toNat)) w) := rfl
theorem w_z_number : ∀ ds w k, P_z_number ds w k → p_z_number (pen k) (env0 4 ds) w := by
  intro ds w k h
  unfold P_z_number at h
  split at h
  · rename_i j base most
    obtain ⟨hj, ⟨b1, b2⟩, ⟨m1, m2⟩, h⟩ := h
    unfold p_z_number
    walk_at "pu"
    rw [e_z_digits]
    refine ⟨hj, ⟨b1, b2⟩, ⟨m1, m2⟩, fun ds hl hd => ?_⟩
    rw [e_z_value]
    refine ⟨ds, rfl, by omega, ?_⟩
    walk_at "pu"
    have hv : valB base.toNat ds < base.toNat ^ (most.toNat + 1) := Nat.lt_of_lt_of_le (valB_lt fun d z => by have := hd d z; omega) (Nat.pow_le_pow_right (by omega) hl)
    have hb : base.toNat ≤ base.toNat ^ (most.toNat + 1) := by
      rw [Nat.pow_succ]
      exact Nat.le_mul_of_pos_left _ (Nat.pow_pos (by omega))
    have fin : ∀ v : Int, 0 ≤ v → v.toNat < base.toNat ^ (most.toNat + 1) → 3 ≤ sizeLine ∧ j < w.ss ∧ ([Dat.int v, Dat.int v, Dat.int (0 - v)] ≠ [] ∧ 3 ≤ 1000) ∧ ∀ d ∈ [Dat.int v, Dat.int v, Dat.int (0 - v)], k d w := fun v v0 v1 => by
      refine ⟨by decide, hj, ⟨by simp, by decide⟩, fun d hd => ?_⟩
      simp only [List.mem_cons, List.not_mem_nil, or_false] at hd
      rcases hd with rfl | rfl | rfl
      · exact h v (by omega)
      · exact h v (by omega)
      · exact h (0 - v) (by omega)
    split
    · exact fin _ (by omega) (by omega)
    · exact ⟨hj, nxOk (by omega) (by omega), fun r r0 r1 => fin r r0 (by omega)⟩
  · exact h.elim
theorem b_z_number {K : PySem.W.Frag} {c : Pc} {vs : List V} {H : Hp} {Q : VK} {E : XK} {α : Prop} (PM : PM K c) (PB : α) (h : sp_z_number K c vs H Q E) : t_z_number K c (en0 Q) (st0 4 vs) H := def_ok (sn_z_number PM PB) w_z_number h
def P_z_split : PSp := fun ds w k => match ds with
  | [.int n, .int base] => ∃ b : Nat, base = ((2 ^ b : Nat) : Int) ∧ b ≠ 0 ∧ b ≤ 60 ∧ (digs b n.natAbs).length < 2 ^ 23 ∧ k (.lst (dN (digs b n.natAbs))) w
  | _ => False
def sp_z_split (K : PySem.W.Frag) (c : Pc) : Sp := lif K c P_z_split
theorem u_z_split {K : PySem.W.Frag} {c : Pc} : SndP K c (sp_z_split K c) P_z_split := SndP.lif
/-- 0:_law_n 1:_law_base 2:_law_found -/
def t_z_split (K : PySem.W.Frag) (c : Pc) : TS :=
  (tSeq (tPar 0 2 (tCons (tCB rAbs (tCons (tVar 0) tNil)) (tCons (tLst tNil) tNil)))
  (tSeq (tWhile (tTest (tOp rGt (tVar 0) (tC (.int 0)))) (tSeq (tDrop (tBM K "list" rAppend (tVar 2) (tCons (tOp rMod (tCB rInt (tCons (tVar 0) tNil)) (tVar 1)) tNil)))
  (tAsg (tOp rDiv (tVar 0) (tVar 1)) (gName 0))))
  (tRet (tVar 2))))
def b1_z_split : PS :=
  (pSeq (pAppend 2 (pOp qMod (pCB qInt (pCons (pVar 0) pNil)) (pVar 1)))
  (pAsg (pOp qDiv (pVar 0) (pVar 1)) 0))
def p_z_split : PS :=
  (pSeq (pParO2 0 2 (pCB qAbs (pCons (pVar 0) pNil)) (pLst pNil))
  (pSeq (pWhile (pTest (pOp qGt (pVar 0) (pC (.int 0)))) b1_z_split)
  (pFrz [2] (pRet (pVar 2)))))
theorem sn_z_split {K : PySem.W.Frag} {c : Pc} {α : Prop} (PM : PM K c) (PB : α) : SndS K c (t_z_split K c) p_z_split :=
  (snd_seq (snd_parO2 (snd_cb s_abs (snd_cons snd_var snd_nil)) (snd_lst snd_nil))
  (snd_seq (snd_while (snd_test (snd_op s_gt snd_var (snd_int 0))) (snd_seq (snd_append (snd_op s_mod (snd_cb s_int (snd_cons snd_var snd_nil)) snd_var))
  (snd_asg (snd_op s_div snd_var snd_var))))
  (snd_frz (snd_ret snd_var))))
theorem n_z_split : ∀ ds w k, P_z_split ds w k → ds.length = 2 := fun ds w k h => by
  unfold P_z_split at h
  split at h
  · rfl
  · exact h.elim
theorem e_z_split {n base : Int} {w : Wld} {k : Dat → Wld → Prop} : P_z_split [.int n, .int base] w k = ∃ b : Nat, base = ((2 ^ b : Nat) : Int) ∧ b ≠ 0 ∧ b ≤ 60 ∧ (digs b n.natAbs).length < 2 ^ 23 ∧ k (.lst (dN (digs b n.natAbs))) w := rfl
theorem w_z_split : ∀ ds w k, P_z_split ds w k → p_z_split (pen k) (env0 3 ds) w := by
  intro ds w k h
  unfold P_z_split at h
  split at h
  · rename_i n base
    obtain ⟨b, rfl, hb, hb2, hl, h⟩ := h
    have hz := sizeLine_eq
    have hp := Nat.two_pow_pos b
    have hp2 : 2 ^ b ≤ 2 ^ 60 := Nat.pow_le_pow_right (by decide) hb2
    unfold p_z_split
    walk_at "pu"
    have e0 : (if n < 0 then -n else n) = ((n.natAbs : Nat) : Int) := by split <;> omega
    refine ⟨by omega, ?_⟩
    rw [e0]
    refine whl_ind (fun m e w' => w' = w ∧ ∃ es : List Nat, es ++ digs b m = digs b n.natAbs ∧ e = [.val (.int (m : Int)), .val (.int ((2 ^ b : Nat) : Int)), .own true (dN es)]) n.natAbs ⟨rfl, [], rfl, rfl⟩ ?_
    rintro m e w' nx ⟨rfl, es, he, rfl⟩ hn
    unfold b1_z_split
    walk_at "pu"
    split
    · rename_i hm
      have hm0 : m ≠ 0 := by omega
      have hlen : es.length < 2 ^ 23 := by
        have := congrArg List.length he
        rw [List.length_append] at this; omega
      rw [digs_pos hb hm0] at he
      refine ⟨by omega, by rw [dN_len]; omega, div_ok64 (by omega) (by omega), hn (m / 2 ^ b) _ _ (Nat.div_lt_self (by omega) (Nat.one_lt_two_pow hb)) ⟨rfl, es ++ [m % 2 ^ b], by rw [List.append_assoc]; exact he, ?_⟩⟩
      rw [← Int.natCast_emod, ← Int.natCast_ediv, dN_one, dN_app]
    · rename_i hm
      have hm0 : m = 0 := by omega
      subst hm0
      rw [digs_zero, List.append_nil] at he
      rw [he]
      exact h
  · exact h.elim
theorem b_z_split {K : PySem.W.Frag} {c : Pc} {vs : List V} {H : Hp} {Q : VK} {E : XK} {α : Prop} (PM : PM K c) (PB : α) (h : sp_z_split K c vs H Q E) : t_z_split K c (en0 Q) (st0 3 vs) H := def_ok (sn_z_split PM PB) w_z_split h
/-- a pair of integers below 2 ^ 500 -/
def IsPr (d : Dat) : Prop := ∃ n n' : Int, d = .tup [.int n, .int n'] ∧ n.natAbs < 2 ^ 500 ∧ n'.natAbs < 2 ^ 500

/-! Hlp: helpers of the laws k35 to k44, k72 to k75. -/
def P_z_machine2 : PSp := P_z_machine
def sp_z_machine2 (K : PySem.W.Frag) (c : Pc) : Sp := lif K c P_z_machine2
theorem u_z_machine2 {K : PySem.W.Frag} {c : Pc} : SndP K c (sp_z_machine2 K c) P_z_machine2 := SndP.lif
/-- 0:_law_source 1:_law_drawn_here 2:_law_cut -/
def t_z_machine2 (K : PySem.W.Frag) (c : Pc) : TS :=
  (tSeq (tAsg (tOp rAdd (tC (.int 8)) (tCall (sp_law_next K c) [] E0 (tCons (tVar 0) (tCons (tC (.int 23)) tNil)))) (gName 1))
  (tSeq (tAsg (tCall (sp_law_one K c) [] E0 (tCons (tVar 0) (tCons (tLst (tCons (tOp rAdd (tC (.int 2)) (tCall (sp_law_next K c) [] E0 (tCons (tVar 0) (tCons (tC (.int 8)) tNil)))) (tCons (tC (.int 70)) (tCons (tOp rAdd (tC (.int 2)) (tCall (sp_law_next K c) [] E0 (tCons (tVar 0) (tCons (tC (.int 999)) tNil)))) tNil)))) tNil))) (gName 2))
  (tRet (tMake c.CMachine (sp_Machine_init K c) [] E0 (tCons (tCall (sp_law_one K c) [] E0 (tCons (tVar 0) (tCons (tLst (tCons (tC (.int 8)) (tCons (tC (.int 8)) (tCons (tC (.int 9)) (tCons (tC (.int 15)) (tCons (tC (.int 30)) (tCons (tC (.int 30)) (tCons (tVar 1) tNil)))))))) tNil))) (tCons (tVar 2) tNil))))))
def p_z_machine2 : PS :=
  (pSeq (pAsg (pOp qAdd (pC (.int 8)) (pCall P_law_next (pCons (pVar 0) (pCons (pC (.int 23)) pNil)))) 1)
  (pSeq (pAsg (pCall P_law_one (pCons (pVar 0) (pCons (pFz (pLst (pCons (pOp qAdd (pC (.int 2)) (pCall P_law_next (pCons (pVar 0) (pCons (pC (.int 8)) pNil)))) (pCons (pC (.int 70)) (pCons (pOp qAdd (pC (.int 2)) (pCall P_law_next (pCons (pVar 0) (pCons (pC (.int 999)) pNil)))) pNil))))) pNil))) 2)
  (pRet (pCallD P_Machine [] (pCons (pCall P_law_one (pCons (pVar 0) (pCons (pFz (pLst (pCons (pC (.int 8)) (pCons (pC (.int 8)) (pCons (pC (.int 9)) (pCons (pC (.int 15)) (pCons (pC (.int 30)) (pCons (pC (.int 30)) (pCons (pVar 1) pNil))))))))) pNil))) (pCons (pVar 2) pNil))))))
theorem sn_z_machine2 {K : PySem.W.Frag} {c : Pc} {α : Prop} (PM : PM K c) (PB : α) : SndS K c (t_z_machine2 K c) p_z_machine2 :=
  (snd_seq (snd_asg (snd_op s_add (snd_int 8) (snd_call u_law_next (snd_cons snd_var (snd_cons (snd_int 23) snd_nil)))))
  (snd_seq (snd_asg (snd_call u_law_one (snd_cons snd_var (snd_cons (snd_fz (snd_lst (snd_cons (snd_op s_add (snd_int 2) (snd_call u_law_next (snd_cons snd_var (snd_cons (snd_int 8) snd_nil)))) (snd_cons (snd_int 70) (snd_cons (snd_op s_add (snd_int 2) (snd_call u_law_next (snd_cons snd_var (snd_cons (snd_int 999) snd_nil)))) snd_nil))))) snd_nil))))
  (snd_ret (snd_mkM (fun _ => .nil) (snd_cons (snd_call u_law_one (snd_cons snd_var (snd_cons (snd_fz (snd_lst (snd_cons (snd_int 8) (snd_cons (snd_int 8) (snd_cons (snd_int 9) (snd_cons (snd_int 15) (snd_cons (snd_int 30) (snd_cons (snd_int 30) (snd_cons snd_var snd_nil))))))))) snd_nil))) (snd_cons snd_var snd_nil))))))
theorem n_z_machine2 : ∀ ds w k, P_z_machine2 ds w k → ds.length = 1 := n_z_machine
theorem e_z_machine2 {j : Nat} {w : Wld} {k : Dat → Wld → Prop} : P_z_machine2 [.src j] w k = (j < w.ss ∧ ∀ (b : Nat) (cut : Int), 8 ≤ b → b ≤ 30 → 2 ≤ cut → cut ≤ 1000 → k (.mach w.ms.length) ⟨w.ms ++ [⟨b, cut, zeros, []⟩], w.ss⟩) := rfl
theorem w_z_machine2 : ∀ ds w k, P_z_machine2 ds w k → p_z_machine2 (pen k) (env0 3 ds) w := by
  intro ds w k h
  unfold P_z_machine2 P_z_machine at h
  split at h
  · rename_i j
    unfold p_z_machine2
    walk_at "pu"
    refine ⟨h.1, nxOk (by decide) (by decide), fun r h0 h1 => ⟨h.1, nxOk (by decide) (by decide), fun r2 h2 h3 => ⟨h.1, nxOk (by decide) (by decide), fun r3 h4 h5 => ⟨by decide, h.1, ⟨by simp, by decide⟩, fun d hd => ⟨by decide, h.1, ⟨by simp, by decide⟩, fun d' hd' => ?_⟩⟩⟩⟩⟩
    obtain ⟨n, rfl, n1, n2⟩ : ∃ n : Int, d' = .int n ∧ 8 ≤ n ∧ n ≤ 30 := by
      simp only [List.mem_cons, List.not_mem_nil, or_false] at hd'
      rcases hd' with rfl | rfl | rfl | rfl | rfl | rfl | rfl <;> exact ⟨_, rfl, by omega, by omega⟩
    obtain ⟨c, rfl, c1, c2⟩ : ∃ c : Int, d = .int c ∧ 2 ≤ c ∧ c ≤ 1000 := by
      simp only [List.mem_cons, List.not_mem_nil, or_false] at hd
      rcases hd with rfl | rfl | rfl <;> exact ⟨_, rfl, by omega, by omega⟩
    walk_at "pu"
    exact ⟨by omega, h.2 n.toNat c (by omega) (by omega) (by omega) (by omega)⟩
  · exact h.elim
theorem b_z_machine2 {K : PySem.W.Frag} {c : Pc} {vs : List V} {H : Hp} {Q : VK} {E : XK} {α : Prop} (PM : PM K c) (PB : α) (h : sp_z_machine2 K c vs H Q E) : t_z_machine2 K c (en0 Q) (st0 3 vs) H := def_ok (sn_z_machine2 PM PB) w_z_machine2 h
def P_z_split2 : PSp := P_z_split
def sp_z_split2 (K : PySem.W.Frag) (c : Pc) : Sp := lif K c P_z_split2
theorem u_z_split2 {K : PySem.W.Frag} {c : Pc} : SndP K c (sp_z_split2 K c) P_z_split2 := SndP.lif
/-- 0:_law_whole 1:_law_base 2:_law_left 3:_law_found -/
def t_z_split2 (K : PySem.W.Frag) (c : Pc) : TS :=
  (tSeq (tPar 2 3 (tCons (tCB rAbs (tCons (tVar 0) tNil)) (tCons (tLst tNil) tNil)))
  (tSeq (tWhile (tTest (tOp rGt (tVar 2) (tC (.int 0)))) (tSeq (tDrop (tBM K "list" rAppend (tVar 3) (tCons (tOp rMod (tCB rInt (tCons (tVar 2) tNil)) (tVar 1)) tNil)))
  (tAsg (tOp rDiv (tVar 2) (tVar 1)) (gName 2))))
  (tRet (tVar 3))))
def b1_z_split2 : PS :=
  (pSeq (pAppend 3 (pOp qMod (pCB qInt (pCons (pVar 2) pNil)) (pVar 1)))
  (pAsg (pOp qDiv (pVar 2) (pVar 1)) 2))
def p_z_split2 : PS :=
  (pSeq (pParO2 2 3 (pCB qAbs (pCons (pVar 0) pNil)) (pLst pNil))
  (pSeq (pWhile (pTest (pOp qGt (pVar 2) (pC (.int 0)))) b1_z_split2)
  (pFrz [3] (pRet (pVar 3)))))
theorem sn_z_split2 {K : PySem.W.Frag} {c : Pc} {α : Prop} (PM : PM K c) (PB : α) : SndS K c (t_z_split2 K c) p_z_split2 :=
  (snd_seq (snd_parO2 (snd_cb s_abs (snd_cons snd_var snd_nil)) (snd_lst snd_nil))
  (snd_seq (snd_while (snd_test (snd_op s_gt snd_var (snd_int 0))) (snd_seq (snd_append (snd_op s_mod (snd_cb s_int (snd_cons snd_var snd_nil)) snd_var))
  (snd_asg (snd_op s_div snd_var snd_var))))
  (snd_frz (snd_ret snd_var))))
theorem n_z_split2 : ∀ ds w k, P_z_split2 ds w k → ds.length = 2 := n_z_split
theorem e_z_split2 {n base : Int} {w : Wld} {k : Dat → Wld → Prop} : P_z_split2 [.int n, .int base] w k = ∃ b : Nat, base = ((2 ^ b : Nat) : Int) ∧ b ≠ 0 ∧ b ≤ 60 ∧ (digs b n.natAbs).length < 2 ^ 23 ∧ k (.lst (dN (digs b n.natAbs))) w := rfl
theorem w_z_split2 : ∀ ds w k, P_z_split2 ds w k → p_z_split2 (pen k) (env0 4 ds) w := by
  intro ds w k h
  unfold P_z_split2 P_z_split at h
  split at h
  · rename_i n base
    obtain ⟨b, rfl, hb, hb2, hl, h⟩ := h
    have hz := sizeLine_eq
    have hp := Nat.two_pow_pos b
    have hp2 : 2 ^ b ≤ 2 ^ 60 := Nat.pow_le_pow_right (by decide) hb2
    unfold p_z_split2
    walk_at "pu"
    have e0 : (if n < 0 then -n else n) = ((n.natAbs : Nat) : Int) := by split <;> omega
    refine ⟨by omega, ?_⟩
    rw [e0]
    refine whl_ind (fun m e w' => w' = w ∧ ∃ es : List Nat, es ++ digs b m = digs b n.natAbs ∧ e = [.val (.int n), .val (.int ((2 ^ b : Nat) : Int)), .val (.int (m : Int)), .own true (dN es)]) n.natAbs ⟨rfl, [], rfl, rfl⟩ ?_
    rintro m e w' nx ⟨rfl, es, he, rfl⟩ hn
    unfold b1_z_split2
    walk_at "pu"
    split
    · rename_i hm
      have hm0 : m ≠ 0 := by omega
      have hlen : es.length < 2 ^ 23 := by
        have := congrArg List.length he
        rw [List.length_append] at this; omega
      rw [digs_pos hb hm0] at he
      refine ⟨by omega, by rw [dN_len]; omega, div_ok64 (by omega) (by omega), hn (m / 2 ^ b) _ _ (Nat.div_lt_self (by omega) (Nat.one_lt_two_pow hb)) ⟨rfl, es ++ [m % 2 ^ b], by rw [List.append_assoc]; exact he, ?_⟩⟩
      rw [← Int.natCast_emod, ← Int.natCast_ediv, dN_one, dN_app]
    · rename_i hm
      have hm0 : m = 0 := by omega
      subst hm0
      rw [digs_zero, List.append_nil] at he
      rw [he]
      exact h
  · exact h.elim
theorem b_z_split2 {K : PySem.W.Frag} {c : Pc} {vs : List V} {H : Hp} {Q : VK} {E : XK} {α : Prop} (PM : PM K c) (PB : α) (h : sp_z_split2 K c vs H Q E) : t_z_split2 K c (en0 Q) (st0 4 vs) H := def_ok (sn_z_split2 PM PB) w_z_split2 h

/-! Row: rows of digits. -/
theorem dN_at {ds : List Nat} {n : Nat} {i : Int} {d : Nat} (hi : i = (n : Int)) (h : ds[n]? = some d) : atI (dN ds) i = some (.int (d : Int)) := by
  subst hi
  refine at_nat ?_
  unfold dN
  rw [List.getElem?_map, h]; rfl
theorem val_take (b : Nat) (ds : List Nat) (i : Nat) : val b (ds.take (i + 1)) = val b (ds.take i) + 2 ^ (b * i) * ds.getD i 0 := by
  rw [List.take_succ, val_app]
  by_cases h : i < ds.length
  · rw [List.getElem?_eq_getElem h, List.length_take, Nat.min_eq_left (Nat.le_of_lt h), List.getD_eq_getElem?_getD, List.getElem?_eq_getElem h]
    simp [val]
  · rw [List.getElem?_eq_none_iff.mpr (by omega), List.getD_eq_getElem?_getD, List.getElem?_eq_none_iff.mpr (by omega)]
    simp [val]
theorem val_snoc (b : Nat) (es : List Nat) (d : Nat) : val b (es ++ [d]) = val b es + 2 ^ (b * es.length) * d := by
  rw [val_app]; simp [val]
theorem Digs.snoc {b : Nat} {es : List Nat} {d : Nat} (h : Digs b es) (hd : d < 2 ^ b) : Digs b (es ++ [d]) := fun x hx => by
  rcases List.mem_append.mp hx with z | z
  · exact h x z
  · rw [List.mem_singleton.mp z]; exact hd
theorem Digs.getD {b : Nat} {ds : List Nat} (h : Digs b ds) (i : Nat) : ds.getD i 0 < 2 ^ b := by
  rw [List.getD_eq_getElem?_getD]
  cases e : ds[i]? with
  | none => exact Nat.two_pow_pos b
  | some d => exact h d (List.mem_of_getElem? e)
/-- a list or a tuple of digits -/
def IsRow (d : Dat) (xs : List Nat) : Prop := d = .tup (dN xs) ∨ d = .lst (dN xs)
theorem IsRow.len {d : Dat} {xs : List Nat} (h : IsRow d xs) {k : Dat → Prop} : qLen [d] k = k (.int (xs.length : Nat)) := by
  rcases h with rfl | rfl
  · rw [eLen2, dN_len]
  · rw [eLen1, dN_len]
theorem IsRow.ix {d : Dat} {xs : List Nat} (h : IsRow d xs) {i : Nat} (hi : i < xs.length) {k : Dat → Prop} : qIx d (.int (i : Int)) k = k (.int (xs.getD i 0 : Nat)) := by
  have g : xs[i]? = some (xs[i]'hi) := List.getElem?_eq_getElem _
  have e : xs.getD i 0 = xs[i]'hi := by rw [List.getD_eq_getElem?_getD, g]; rfl
  rcases h with rfl | rfl
  · rw [eIx2, dN_at rfl g, eSome, e]
  · rw [eIx1, dN_at rfl g, eSome, e]
theorem IsRow.seq {d : Dat} {xs : List Nat} (h : IsRow d xs) {k : List Dat → Prop} : seqOf d k = k (dN xs) := by
  rcases h with rfl | rfl <;> rfl
theorem enm_dN {xs : List Nat} {i : Nat} {d : Dat} (h : (enm 0 (dN xs))[i]? = some d) : i < xs.length ∧ d = .tup [.int (i : Int), .int (xs.getD i 0 : Nat)] := by
  obtain ⟨x, hx, rfl⟩ := enm_get h
  obtain ⟨n, hn, rfl⟩ := dN_get hx
  refine ⟨(List.getElem?_eq_some_iff.mp hn).1, ?_⟩
  rw [List.getD_eq_getElem?_getD, hn, Nat.zero_add]; rfl
theorem due_snoc {l : List (Str × Int)} {ns : List Int} {s : Str} {j : Nat} {v : Int} (h : Due l ns) (hj : words[j]? = some s) (hs : s ∉ l.map (·.1)) (hf : l.length < 99) : Due (l ++ [(s, v)]) (ns.modify j (· + v)) := by
  refine ⟨?_, by rw [List.length_append]; simp only [List.length_cons, List.length_nil]; omega, fun p hp => ?_, fun j' s' hj' => ?_⟩
  · rw [List.map_append]
    exact List.nodup_append.mpr ⟨h.nd, by simp, fun a ha b hb e => by
      simp only [List.map_cons, List.map_nil, List.mem_singleton] at hb
      subst hb; subst e; exact hs ha⟩
  · rcases List.mem_append.mp hp with z | z
    · exact h.inw p z
    · rw [List.mem_singleton.mp z]; exact List.mem_of_getElem? hj
  · rw [List.getElem?_modify, h.at_ j' s' hj', List.lookup_append]
    by_cases e : j = j'
    · subst e
      rw [hj] at hj'; cases hj'
      have hn : l.lookup s = none := by
        cases z : l.lookup s with
        | none => rfl
        | some x => exact absurd (List.mem_map.mpr ⟨(s, x), Pu.mem_of_lookup z, rfl⟩) hs
      rw [hn]
      simp [List.lookup]
    · have ne : s' ≠ s := fun z => by
        subst z
        have hlt : j < words.length := (List.getElem?_eq_some_iff.mp hj).1
        exact e ((List.getElem?_inj hlt (by decide +kernel)).mp (hj.trans hj'.symm))
      have : (s' == s) = false := by simpa using ne
      cases l.lookup s' with
      | none => simp [List.lookup, this, e]
      | some x => simp [e]
theorem or_high {r q : Int} {k : Nat} (h0 : 0 ≤ r) (h1 : r < 2 ^ k) (hq : 0 ≤ q) : Builtin.bitOr r (q * 2 ^ k) = r + q * 2 ^ k := by
  rw [PyProof.Rows.bitOr_comm, or_low hq h0 h1, Int.add_comm]

/-! Cn3: what a machine has counted, and its walk, against what is due. -/
/-- a tally as pairs -/
def tal (ns : List Int) : List (Str × Int) := List.zipWith Prod.mk words ns
theorem dRows_tal (ns : List Int) : dRows ns = (tal ns).map dP := by
  unfold dRows tal
  rw [List.map_zipWith]
  rfl
theorem tal_get {ns : List Int} {p : Str × Int} (h : p ∈ tal ns) : ∃ j : Nat, words[j]? = some p.1 ∧ ns[j]? = some p.2 := by
  obtain ⟨j, hj⟩ := List.mem_iff_getElem?.mp h
  unfold tal at hj
  rw [List.getElem?_zipWith] at hj
  refine ⟨j, ?_⟩
  cases h1 : words[j]? with
  | none => rw [h1] at hj; cases hj
  | some s =>
    cases h2 : ns[j]? with
    | none => rw [h1, h2] at hj; cases hj
    | some n => rw [h1, h2] at hj; cases hj; exact ⟨rfl, rfl⟩
theorem tal_mem {ns : List Int} {j : Nat} {s : Str} {n : Int} (h1 : words[j]? = some s) (h2 : ns[j]? = some n) : (s, n) ∈ tal ns := by
  refine List.mem_of_getElem? (i := j) ?_
  unfold tal
  rw [List.getElem?_zipWith, h1, h2]
theorem tal_nd {ns : List Int} : ((tal ns).map (·.1)).Nodup := by
  have e : ((tal ns).map (·.1)) <+: words := by
    unfold tal
    rw [List.map_zipWith]
    have : ∀ (ws : List Str) (ns : List Int), List.zipWith (fun (a : Str) (b : Int) => (a, b).1) ws ns <+: ws := by
      intro ws
      induction ws with
      | nil => intro ns; simp
      | cons a ws ih =>
        intro ns
        cases ns with
        | nil => simp
        | cons n ns => rw [List.zipWith_cons_cons]; exact (List.prefix_cons_inj a).mpr (ih ns)
    exact this words ns
  exact (show words.Nodup from by decide +kernel).sublist e.sublist
theorem pos_nd {l : List (Str × Int)} (h : (l.map (·.1)).Nodup) : ((pos l).map (·.1)).Nodup := h.sublist (List.Sublist.map _ List.filter_sublist)
theorem pos_mem {l : List (Str × Int)} {p : Str × Int} : p ∈ pos l ↔ p ∈ l ∧ 0 < p.2 := by
  unfold pos
  rw [List.mem_filter, decide_eq_true_eq]
theorem nd_of_keys {l : List (Str × Int)} (h : (l.map (·.1)).Nodup) : l.Nodup := List.Pairwise.imp (fun {a b} hne e => hne (congrArg _ e)) (List.pairwise_map.mp h)
theorem due_eq {l : List (Str × Int)} {ns : List Int} (h : Due l ns) : EqDs (pos (tal ns)) (pos l) := by
  have h1 : ∀ p, p ∈ pos (tal ns) → p ∈ pos l := fun p hp => by
    obtain ⟨ha, hb⟩ := pos_mem.mp hp
    obtain ⟨j, hj, hn⟩ := tal_get ha
    have h3 := h.at_ j _ hj
    rw [hn] at h3
    cases e : l.lookup p.1 with
    | none => rw [e] at h3; simp at h3; omega
    | some m =>
      rw [e] at h3
      simp at h3
      exact pos_mem.mpr ⟨by rw [show p = (p.1, m) from by rw [← h3]]; exact Pu.mem_of_lookup e, hb⟩
  have h2 : ∀ p, p ∈ pos l → p ∈ pos (tal ns) := fun p hp => by
    obtain ⟨ha, hb⟩ := pos_mem.mp hp
    obtain ⟨j, hj⟩ := List.mem_iff_getElem?.mp (h.inw p ha)
    have h3 := h.at_ j _ hj
    rw [Pu.lookup_mem h.nd (show (p.1, p.2) ∈ l from ha)] at h3
    exact pos_mem.mpr ⟨tal_mem hj h3, hb⟩
  exact ⟨((List.perm_ext_iff_of_nodup (nd_of_keys (pos_nd tal_nd)) (nd_of_keys (pos_nd h.nd))).mpr fun p => ⟨h1 p, h2 p⟩).length_eq, pos_nd h.nd, h1⟩
theorem tal_len {ns : List Int} : (tal ns).length ≤ 10 := by
  unfold tal
  rw [List.length_zipWith]
  have : words.length = 10 := by decide +kernel
  omega
theorem pos_snoc {l : List (Str × Int)} {p : Str × Int} {i : Nat} (h : l[i]? = some p) : pos (l.take (i + 1)) = if 0 < p.2 then pos (l.take i) ++ [p] else pos (l.take i) := by
  rw [List.take_add_one, h]
  unfold pos
  rw [List.filter_append]
  simp only [Option.toList, List.filter_cons, List.filter_nil, decide_eq_true_eq]
  split
  · rfl
  · rw [List.append_nil]
def P_z_counted3 : PSp := fun ds w k => match ds with
  | [.mach i, .dic l, .lst wl] => onM w i fun m => Due l m.ns ∧ wl = m.walk.map dW ∧ pl (.lst wl) ∧ k (.bl true) (w.put i m.rst)
  | _ => False
def sp_z_counted3 (K : PySem.W.Frag) (c : Pc) : Sp := lif K c P_z_counted3
theorem u_z_counted3 {K : PySem.W.Frag} {c : Pc} : SndP K c (sp_z_counted3 K c) P_z_counted3 := SndP.lif
/-- 0:_law_machine_here 1:_law_got 2:_law_entered 3:_law_found 4:_law_word 5:_law_number 6:_law_due 7:_law_is_same -/
def t_z_counted3 (K : PySem.W.Frag) (c : Pc) : TS :=
  (tSeq (tAsg (tCB (rDict K) (tCons (tLc (iList K (tMeth c.CMachine "tally" (sp_Machine_tally K c) [] E0 (tVar 0) tNil)) (gTup K 2 (gCons (gName 4) (gCons (gName 5) gNil))) (tTest (tOp rGt (tVar 5) (tC (.int 0)))) (tTup (tCons (tVar 4) (tCons (tVar 5) tNil))) [4, 5]) tNil)) (gName 3))
  (tSeq (tAsg (tCB (rDict K) (tCons (tLockE (tLc (iItems (tVar 1)) (gTup K 2 (gCons (gName 4) (gCons (gName 5) gNil))) (tTest (tOp rGt (tVar 5) (tC (.int 0)))) (tTup (tCons (tVar 4) (tCons (tVar 5) tNil))) [4, 5])) tNil)) (gName 6))
  (tSeq (tAsg (tAndV (tOp rEqDA (tVar 3) (tVar 6)) (tOp (rEqD K) (tMeth c.CMachine "walk" (sp_Machine_walk K c) [] E0 (tVar 0) tNil) (tVar 2))) (gName 7))
  (tSeq (tDrop (tMeth c.CMachine "reset" (sp_Machine_reset K c) [] E0 (tVar 0) tNil))
  (tRet (tVar 7))))))
def p_z_counted3 : PS :=
  (pSeq (pAsg (pCB qDict (pCons (pFz (pLc (pIL (pMethM P_Machine_tally (pVar 0) pNil)) (pgTup [4, 5]) (pTest (pOp qGt (pVar 5) (pC (.int 0)))) (pTup (pCons (pVar 4) (pCons (pVar 5) pNil))) [4, 5])) pNil)) 3)
  (pSeq (pAsg pPosD 6)
  (pSeq (pAsg (pAndV (pOp qEqDA (pVar 3) (pVar 6)) (pOp qEqD (pMethM P_Machine_walk (pVar 0) pNil) (pVar 2))) 7)
  (pSeq (pDrop (pMethM P_Machine_reset (pVar 0) pNil))
  (pRet (pVar 7))))))
theorem sn_z_counted3 {K : PySem.W.Frag} {c : Pc} {α : Prop} (PM : PM K c) (PB : α) : SndS K c (t_z_counted3 K c) p_z_counted3 :=
  (snd_seq (snd_asg (snd_cb s_dict (snd_cons (snd_fz (snd_lc (snd_iList (snd_methM (by decide) u_Machine_tally snd_var snd_nil)) (snd_gTup (is := [4, 5]) rfl) (tgt_two _ _) (snd_test (snd_op s_gt snd_var (snd_int 0))) (snd_tup (snd_cons snd_var (snd_cons snd_var snd_nil))))) snd_nil)))
  (snd_seq (snd_asg snd_posD)
  (snd_seq (snd_asg (snd_andV (snd_op s_eqDA snd_var snd_var) (snd_op s_eqD (snd_methM (by decide) u_Machine_walk snd_var snd_nil) snd_var)))
  (snd_seq (snd_drop (snd_methM (by decide) u_Machine_reset snd_var snd_nil))
  (snd_ret snd_var)))))
theorem n_z_counted3 : ∀ ds w k, P_z_counted3 ds w k → ds.length = 3 := fun ds w k h => by
  unfold P_z_counted3 at h
  split at h
  · rfl
  · exact h.elim
theorem e_z_counted3 {i : Nat} {l : List (Str × Int)} {wl : List Dat} {w : Wld} {k : Dat → Wld → Prop} : P_z_counted3 [.mach i, .dic l, .lst wl] w k = onM w i fun m => Due l m.ns ∧ wl = m.walk.map dW ∧ pl (.lst wl) ∧ k (.bl true) (w.put i m.rst) := rfl
theorem w_z_counted3 : ∀ ds w k, P_z_counted3 ds w k → p_z_counted3 (pen k) (env0 8 ds) w := by
  intro ds w k h
  unfold P_z_counted3 at h
  split at h
  · rename_i i l wl
    replace h := onM_of h
    obtain ⟨m, hm, hD, rfl, hpl, h⟩ := h
    have hz := sizeLine_eq
    unfold p_z_counted3
    walk_at "pu"
    rw [onM_is hm]
    rw [dRows_tal]
    refine lcp_ind (fun i' acc e w' => w' = w ∧ acc = (pos ((tal m.ns).take i')).map dP ∧ e = [.val (.mach i), .val (.dic l), .val (.lst (m.walk.map dW)), .no, .no, .no, .no, .no]) ⟨rfl, by simp [pos], rfl⟩ ?_ ?_
    · rintro j d acc e w' nx hd ⟨rfl, rfl, rfl⟩ hn
      rw [List.getElem?_map] at hd
      cases hp : (tal m.ns)[j]? with
      | none => rw [hp] at hd; cases hd
      | some p =>
        rw [hp] at hd
        cases hd
        have h10 : j < 10 := Nat.lt_of_lt_of_le (List.getElem?_eq_some_iff.mp hp).1 tal_len
        have hs := pos_snoc hp
        unfold dP
        walk_at "pu"
        refine ite_2 (fun h0 => ?_) fun h0 => ?_
        · refine ⟨by omega, ?_, hn _ _ _ ⟨rfl, ?_, rfl⟩⟩
          · rw [List.length_map]
            have h1 : (pos ((tal m.ns).take j)).length ≤ ((tal m.ns).take j).length := List.length_filter_le _ _
            have h2 : ((tal m.ns).take j).length ≤ j := List.length_take_le _ _
            omega
          · rw [hs, if_pos h0, List.map_append]
            rfl
        · exact hn _ _ _ ⟨rfl, by rw [hs, if_neg h0]; rfl, rfl⟩
    · rintro acc e w' ⟨rfl, rfl, rfl⟩
      rw [List.length_map, List.take_length]
      refine ⟨_, rfl, pos_nd tal_nd, ?_⟩
      walk_at "pu"
      refine ⟨⟨hD.nd, hD.few⟩, due_eq hD, ?_⟩
      rw [onM_is hm]
      refine ⟨⟨hpl, hpl⟩, fun b hb _ => ?_⟩
      rw [onM_is hm, hb rfl]
      exact h
  · exact h.elim
theorem b_z_counted3 {K : PySem.W.Frag} {c : Pc} {vs : List V} {H : Hp} {Q : VK} {E : XK} {α : Prop} (PM : PM K c) (PB : α) (h : sp_z_counted3 K c vs H Q E) : t_z_counted3 K c (en0 Q) (st0 8 vs) H := def_ok (sn_z_counted3 PM PB) w_z_counted3 h

/-! Prs: draws out of a purse, a list of three numbers that the defs change. -/
/-- a purse: z bounds the number of draws so far -/
def Prs (z : Nat) (l : List Dat) : Prop := ∃ a b c : Int, l = [.int a, .int b, .int c] ∧ 0 ≤ a ∧ (0 ≤ b ∧ b < 2 ^ 31) ∧ 0 ≤ c ∧ c ≤ (z : Int)
theorem Prs.mono {z z' : Nat} {l : List Dat} (h : Prs z l) (le : z ≤ z') : Prs z' l := by
  obtain ⟨a, b, c, rfl, h1, h2, h3, h4⟩ := h
  exact ⟨a, b, c, rfl, h1, h2, h3, by omega⟩
def P_z_purse : PSp := fun ds w k => match ds with
  | [.int _] => ∀ l, Prs 7 l → k (.lst l) w
  | _ => False
def sp_z_purse (K : PySem.W.Frag) (c : Pc) : Sp := lifL K c P_z_purse
theorem ul_z_purse {K : PySem.W.Frag} {c : Pc} : SndPL K c (sp_z_purse K c) P_z_purse := SndPL.lif
/-- 0:_law_cell -/
def t_z_purse (K : PySem.W.Frag) (c : Pc) : TS :=
  (tRet (tLst (tCons (tOp rMul (tVar 0) (tCB rInt (tCons (tOp rGe (tVar 0) (tOp rPow (tC (.int 10)) (tC (.int 18)))) tNil))) (tCons (tOp rMod (tCB rInt (tCons (tVar 0) tNil)) (tC (.int 2147483563))) (tCons (tC (.int 7)) tNil)))))
def p_z_purse : PS :=
  (pRetL (pLst (pCons (pOp qMul (pVar 0) (pCB qInt (pCons (pOp qGe (pVar 0) (pOp qPow (pC (.int 10)) (pC (.int 18)))) pNil))) (pCons (pOp qMod (pCB qInt (pCons (pVar 0) pNil)) (pC (.int 2147483563))) (pCons (pC (.int 7)) pNil)))))
theorem sn_z_purse {K : PySem.W.Frag} {c : Pc} {α : Prop} (PM : PM K c) (PB : α) : SndSL K c (t_z_purse K c) p_z_purse :=
  (snd_retL (snd_lst (snd_cons (snd_op s_mul snd_var (snd_cb s_int (snd_cons (snd_op s_ge snd_var (snd_op s_pow (snd_int 10) (snd_int 18))) snd_nil))) (snd_cons (snd_op s_mod (snd_cb s_int (snd_cons snd_var snd_nil)) (snd_int 2147483563)) (snd_cons (snd_int 7) snd_nil)))))
theorem n_z_purse : ∀ ds w k, P_z_purse ds w k → ds.length = 1 := fun ds w k h => by
  unfold P_z_purse at h
  split at h
  · rfl
  · exact h.elim
theorem e_z_purse {n : Int} {w : Wld} {k : Dat → Wld → Prop} : P_z_purse [.int n] w k = ∀ l, Prs 7 l → k (.lst l) w := rfl
theorem w_z_purse : ∀ ds w k, P_z_purse ds w k → p_z_purse (pen k) (env0 1 ds) w := by
  intro ds w k h
  unfold P_z_purse at h
  split at h
  · rename_i n
    have hz := sizeLine_eq
    unfold p_z_purse
    walk_at "pu"
    refine ⟨pow18, (show L2.CMul _ _ from .inr (by split <;> decide)).ok, by decide, by omega, h _ ⟨_, _, _, rfl, ?_, ⟨Int.emod_nonneg _ (by decide), ?_⟩, by decide, by decide⟩⟩
    · split
      · rename_i z
        have : (0 : Int) ≤ 10 ^ Int.toNat 18 := by decide
        omega
      · omega
    · have := Int.emod_lt_of_pos n (show (0 : Int) < 2147483563 by decide)
      omega
  · exact h.elim
theorem b_z_purse {K : PySem.W.Frag} {c : Pc} {vs : List V} {H : Hp} {Q : VK} {E : XK} {α : Prop} (PM : PM K c) (PB : α) (h : sp_z_purse K c vs H Q E) : t_z_purse K c (en0 Q) (st0 1 vs) H := def_okL (sn_z_purse PM PB) w_z_purse h
def P_z_coin : PSpO := fun ds l w k => match ds with
  | [.int n] => ∃ z, Prs z l ∧ z < 2 ^ 40 ∧ (0 < n ∧ NxtB n) ∧ ∀ r l', 0 ≤ r → r < n → Prs (z + 1) l' → k (.int r) l' w
  | _ => False
def sp_z_coin (K : PySem.W.Frag) (c : Pc) : Sp := lifO K c P_z_coin
theorem uO_z_coin {K : PySem.W.Frag} {c : Pc} : SndPO K c (sp_z_coin K c) P_z_coin := SndPO.lif
/-- 0:_law_purse_here 1:_law_amount 2:_law_coin_here 3:_law_mixed -/
def t_z_coin (K : PySem.W.Frag) (c : Pc) : TS :=
  (tSeq (tIfS (tTest (tOp rGt (tOp (rIxL K) (tVar 0) (tC (.int 0))) (tC (.int 0)))) (tSeq (tAsg (tOp rMod (tCB rInt (tCons (tOp (rIxL K) (tVar 0) (tC (.int 0))) tNil)) (tVar 1)) (gName 2))
  (tSeq (tAsg (tOp rDiv (tOp (rIxL K) (tVar 0) (tC (.int 0))) (tVar 1)) (gSub (tVar 0) (tC (.int 0)) rSetL))
  (tRet (tVar 2)))) tNext)
  (tSeq (tAsg (tOp rAdd (tOp (rIxL K) (tVar 0) (tC (.int 2))) (tC (.int 1))) (gSub (tVar 0) (tC (.int 2)) rSetL))
  (tSeq (tAsg (tOp rMod (tCB rInt (tCons (tOp rPow (tOp rAdd (tOp rAdd (tOp (rIxL K) (tVar 0) (tC (.int 1))) (tOp rMul (tC (.int 80021)) (tOp (rIxL K) (tVar 0) (tC (.int 2))))) (tC (.int 9))) (tC (.int 3))) tNil)) (tC (.int 2147483587))) (gName 3))
  (tSeq (tAsg (tOp rMod (tCB rInt (tCons (tOp rMul (tOp rAdd (tVar 3) (tOp rMul (tC (.int 7)) (tOp (rIxL K) (tVar 0) (tC (.int 2))))) (tOp rAdd (tOp rDiv (tVar 3) (tC (.int 1031))) (tC (.int 60089)))) tNil)) (tC (.int 2147483549))) (gName 3))
  (tRet (tOp rMod (tCB rInt (tCons (tOp rDiv (tOp rMod (tCB rInt (tCons (tOp rMul (tVar 3) (tOp rAdd (tOp rDiv (tVar 3) (tC (.int 2027))) (tC (.int 50069)))) tNil)) (tC (.int 2147483543))) (tC (.int 3))) tNil)) (tVar 1)))))))
def p_z_coin : PS :=
  (pSeq (pIfS (pTest (pOp qGt (pOpO qIxL 0 (pC (.int 0))) (pC (.int 0)))) (pSeq (pAsg (pOp qMod (pCB qInt (pCons (pOpO qIxL 0 (pC (.int 0))) pNil)) (pVar 1)) 2)
  (pSeq (pSetI 0 (pC (.int 0)) (pOp qDiv (pOpO qIxL 0 (pC (.int 0))) (pVar 1)))
  (pRet (pVar 2)))) pNext)
  (pSeq (pSetI 0 (pC (.int 2)) (pOp qAdd (pOpO qIxL 0 (pC (.int 2))) (pC (.int 1))))
  (pSeq (pAsg (pOp qMod (pCB qInt (pCons (pOp qPow (pOp qAdd (pOp qAdd (pOpO qIxL 0 (pC (.int 1))) (pOp qMul (pC (.int 80021)) (pOpO qIxL 0 (pC (.int 2))))) (pC (.int 9))) (pC (.int 3))) pNil)) (pC (.int 2147483587))) 3)
  (pSeq (pAsg (pOp qMod (pCB qInt (pCons (pOp qMul (pOp qAdd (pVar 3) (pOp qMul (pC (.int 7)) (pOpO qIxL 0 (pC (.int 2))))) (pOp qAdd (pOp qDiv (pVar 3) (pC (.int 1031))) (pC (.int 60089)))) pNil)) (pC (.int 2147483549))) 3)
  (pRet (pOp qMod (pCB qInt (pCons (pOp qDiv (pOp qMod (pCB qInt (pCons (pOp qMul (pVar 3) (pOp qAdd (pOp qDiv (pVar 3) (pC (.int 2027))) (pC (.int 50069)))) pNil)) (pC (.int 2147483543))) (pC (.int 3))) pNil)) (pVar 1)))))))
theorem sn_z_coin {K : PySem.W.Frag} {c : Pc} {α : Prop} (PM : PM K c) (PB : α) : SndS K c (t_z_coin K c) p_z_coin :=
  (snd_seq (snd_ifS (snd_test (snd_op s_gt (snd_opO s_ixL (snd_int 0)) (snd_int 0))) (snd_seq (snd_asg (snd_op s_mod (snd_cb s_int (snd_cons (snd_opO s_ixL (snd_int 0)) snd_nil)) snd_var))
  (snd_seq (snd_setI (snd_int 0) (snd_op s_div (snd_opO s_ixL (snd_int 0)) snd_var))
  (snd_ret snd_var))) snd_next)
  (snd_seq (snd_setI (snd_int 2) (snd_op s_add (snd_opO s_ixL (snd_int 2)) (snd_int 1)))
  (snd_seq (snd_asg (snd_op s_mod (snd_cb s_int (snd_cons (snd_op s_pow (snd_op s_add (snd_op s_add (snd_opO s_ixL (snd_int 1)) (snd_op s_mul (snd_int 80021) (snd_opO s_ixL (snd_int 2)))) (snd_int 9)) (snd_int 3)) snd_nil)) (snd_int 2147483587)))
  (snd_seq (snd_asg (snd_op s_mod (snd_cb s_int (snd_cons (snd_op s_mul (snd_op s_add snd_var (snd_op s_mul (snd_int 7) (snd_opO s_ixL (snd_int 2)))) (snd_op s_add (snd_op s_div snd_var (snd_int 1031)) (snd_int 60089))) snd_nil)) (snd_int 2147483549)))
  (snd_ret (snd_op s_mod (snd_cb s_int (snd_cons (snd_op s_div (snd_op s_mod (snd_cb s_int (snd_cons (snd_op s_mul snd_var (snd_op s_add (snd_op s_div snd_var (snd_int 2027)) (snd_int 50069))) snd_nil)) (snd_int 2147483543)) (snd_int 3)) snd_nil)) snd_var))))))
theorem n_z_coin : ∀ ds l w k, P_z_coin ds l w k → ds.length + 1 = 2 := fun ds l w k h => by
  unfold P_z_coin at h
  split at h
  · rfl
  · exact h.elim
theorem e_z_coin {n : Int} {l : List Dat} {w : Wld} {k : Dat → List Dat → Wld → Prop} : P_z_coin [.int n] l w k = ∃ z, Prs z l ∧ z < 2 ^ 40 ∧ (0 < n ∧ NxtB n) ∧ ∀ r l', 0 ≤ r → r < n → Prs (z + 1) l' → k (.int r) l' w := rfl
theorem w_z_coin : ∀ ds l w k, P_z_coin ds l w k → p_z_coin (penF k) (env0O 4 l ds) w := by
  intro ds l w k h
  unfold P_z_coin at h
  split at h
  · rename_i n
    obtain ⟨z, hp, hz40, ⟨hn, hnb⟩, h⟩ := h
    obtain ⟨a, b, c, rfl, ha, hb, hc, hcz⟩ := hp
    have hz := sizeLine_eq
    unfold p_z_coin
    walk_at "pu"
    have e0 : ixN 3 0 = some 0 := rfl
    have e2 : ixN 3 2 = some 2 := rfl
    rw [e0, e2]
    refine ite_2 (fun h0 => ?_) fun h0 => ?_
    · walk_at "pu"
      refine ⟨hn, div_ok (k := 8000) hn hnb (by decide) (by decide), h _ _ (Int.emod_nonneg _ (by omega)) (Int.emod_lt_of_pos _ hn) ⟨_, _, _, rfl, Int.ediv_nonneg ha (by omega), hb, hc, by omega⟩⟩
    · walk_at "pu"
      have q1 : oPow (b + 80021 * (c + 1) + 9) 3 := ⟨by decide, by
        have := PyProof.Rows.intBits_le (a := b + 80021 * (c + 1) + 9) (k := 64) (by omega)
        omega⟩
      have m1 : ∀ x : Int, 0 ≤ x % 2147483587 ∧ x % 2147483587 < 2147483587 := fun x => ⟨Int.emod_nonneg _ (by decide), Int.emod_lt_of_pos _ (by decide)⟩
      have m2 : ∀ x : Int, 0 ≤ x % 2147483549 ∧ x % 2147483549 < 2147483549 := fun x => ⟨Int.emod_nonneg _ (by decide), Int.emod_lt_of_pos _ (by decide)⟩
      refine ⟨mul_okL (by omega) (by omega), q1, by decide, mul_okL (by omega) (by omega), div_ok64 (by decide) (by decide), mul_okL ?_ ?_, by decide, div_ok64 (by decide) (by decide), mul_okL ?_ ?_, by decide, div_ok64 (by decide) (by decide), hn, h _ _ (Int.emod_nonneg _ (by omega)) (Int.emod_lt_of_pos _ hn) ⟨_, _, _, rfl, ha, hb, by omega, by omega⟩⟩
      · have := m1 ((b + 80021 * (c + 1) + 9) ^ Int.toNat 3); omega
      · have := m1 ((b + 80021 * (c + 1) + 9) ^ Int.toNat 3); omega
      · exact Int.lt_of_lt_of_le (by decide) (m2 _).1
      · exact Int.lt_of_lt_of_le (m2 _).2 (by decide)
  · exact h.elim
theorem b_z_coin {K : PySem.W.Frag} {c : Pc} {vs : List V} {H : Hp} {Q : VK} {E : XK} {α : Prop} (PM : PM K c) (PB : α) (h : sp_z_coin K c vs H Q E) : t_z_coin K c (en0 Q) (st0 4 vs) H := def_okO (sn_z_coin PM PB) (fun ds l w k h => by have := n_z_coin ds l w k h; omega) w_z_coin h
def P_z_pick : PSpO := fun ds l w k => match ds with
  | [.lst s] => ∃ z, Prs z l ∧ z < 2 ^ 40 ∧ (s ≠ [] ∧ s.length ≤ 1000) ∧ ∀ d l', d ∈ s → Prs (z + 1) l' → k d l' w
  | _ => False
def sp_z_pick (K : PySem.W.Frag) (c : Pc) : Sp := lifO K c P_z_pick
theorem uO_z_pick {K : PySem.W.Frag} {c : Pc} : SndPO K c (sp_z_pick K c) P_z_pick := SndPO.lif
/-- 0:_law_purse_here 1:_law_some -/
def t_z_pick (K : PySem.W.Frag) (c : Pc) : TS :=
  (tRet (tOp (rIxL K) (tVar 1) (tCall (sp_z_coin K c) [] E0 (tCons (tVar 0) (tCons (tCB (rLen K) (tCons (tVar 1) tNil)) tNil)))))
def p_z_pick : PS :=
  (pRet (pOp qIxL (pVar 1) (pCallO P_z_coin 0 (pCons (pCB qLen (pCons (pVar 1) pNil)) pNil))))
theorem sn_z_pick {K : PySem.W.Frag} {c : Pc} {α : Prop} (PM : PM K c) (PB : α) : SndS K c (t_z_pick K c) p_z_pick :=
  (snd_ret (snd_op s_ixL snd_var (snd_callO uO_z_coin (snd_cons (snd_cb s_len (snd_cons snd_var snd_nil)) snd_nil))))
theorem n_z_pick : ∀ ds l w k, P_z_pick ds l w k → ds.length + 1 = 2 := fun ds l w k h => by
  unfold P_z_pick at h
  split at h
  · rfl
  · exact h.elim
theorem e_z_pick {s : List Dat} {l : List Dat} {w : Wld} {k : Dat → List Dat → Wld → Prop} : P_z_pick [.lst s] l w k = ∃ z, Prs z l ∧ z < 2 ^ 40 ∧ (s ≠ [] ∧ s.length ≤ 1000) ∧ ∀ d l', d ∈ s → Prs (z + 1) l' → k d l' w := rfl
theorem w_z_pick : ∀ ds l w k, P_z_pick ds l w k → p_z_pick (penF k) (env0O 2 l ds) w := by
  intro ds l w k h
  unfold P_z_pick at h
  split at h
  · rename_i s
    obtain ⟨z, hp, hz40, ⟨hn, hnb⟩, h⟩ := h
    have hz := sizeLine_eq
    unfold p_z_pick
    walk_at "pu"
    rw [e_z_coin]
    have hl : 0 < s.length := List.length_pos_iff.mpr hn
    refine ⟨z, hp, hz40, nxOk (by omega) (by omega), fun r l' r0 r1 hp' => ?_⟩
    obtain ⟨j, rfl⟩ := Int.eq_ofNat_of_zero_le r0
    have hj : j < s.length := by omega
    rw [eIxL, at_nat (List.getElem?_eq_getElem hj), eSome]
    exact h _ _ (List.getElem_mem hj) hp'
  · exact h.elim
theorem b_z_pick {K : PySem.W.Frag} {c : Pc} {vs : List V} {H : Hp} {Q : VK} {E : XK} {α : Prop} (PM : PM K c) (PB : α) (h : sp_z_pick K c vs H Q E) : t_z_pick K c (en0 Q) (st0 2 vs) H := def_okO (sn_z_pick PM PB) (fun ds l w k h => by have := n_z_pick ds l w k h; omega) w_z_pick h
/-! ### a drawn row -/
theorem norm_snoc {d : Nat} (hd : d ≠ 0) : ∀ ys : List Nat, Norm (ys ++ [d])
  | [] => by
    show strip (d :: []) = [d]
    rw [strip_cons, strip_nil, if_pos rfl, if_neg hd]
  | y :: ys => by
    have ih : strip (ys ++ [d]) = ys ++ [d] := norm_snoc hd ys
    show strip (y :: (ys ++ [d])) = y :: (ys ++ [d])
    rw [strip_cons, ih, if_neg (by simp)]
theorem cut_snoc (xs : List Nat) (x : Nat) : cutD (dN (xs ++ [x])) none (some (-1)) = dN xs := by
  unfold cutD
  have hl : (dN (xs ++ [x])).length = xs.length + 1 := by rw [dN_len, List.length_append]; rfl
  rw [hl, HT.sIx_none, List.drop_zero, Nat.sub_zero]
  have e : HT.sIx (xs.length + 1) (xs.length + 1) (some (-1)) = xs.length := by
    unfold HT.sIx
    simp
    omega
  rw [e, ← dN_app, List.take_append_of_le_length (by rw [dN_len]; exact Nat.le_refl _), List.take_of_length_le (by rw [dN_len]; exact Nat.le_refl _)]
theorem at_snoc (xs : List Nat) (x : Nat) : atI (dN (xs ++ [x])) (-1) = some (.int (x : Int)) := by
  have g : (dN (xs ++ [x]))[xs.length]? = some (.int (x : Int)) := by
    unfold dN
    rw [List.getElem?_map]
    simp
  unfold atI ixN
  rw [if_neg (by decide), dN_len, List.length_append, if_pos (by simp; omega)]
  show (dN (xs ++ [x]))[(((xs.length + 1 : Nat) : Int) + -1).toNat]? = _
  rw [show (((xs.length + 1 : Nat) : Int) + -1).toNat = xs.length by omega]
  exact g
def P_z_prow : PSpO := fun ds l w k => match ds with
  | [.int b, .int n] => ∃ (z B N : Nat), b = (B : Int) ∧ n = (N : Int) ∧ Prs z l ∧ z + 3 * N < 2 ^ 40 ∧ (0 < B ∧ B ≤ 60) ∧ N ≤ 10000 ∧ ∀ (xs : List Nat) l', Digs B xs → xs.length = N → Norm xs → Prs (z + 3 * N) l' → k (.lst (dN xs)) l' w
  | _ => False
def sp_z_prow (K : PySem.W.Frag) (c : Pc) : Sp := lifO K c P_z_prow
theorem uO_z_prow {K : PySem.W.Frag} {c : Pc} : SndPO K c (sp_z_prow K c) P_z_prow := SndPO.lif
/-- 0:_law_purse_here 1:_law_bits 2:_law_size 3:_law_found 4:_law_k -/
def t_z_prow (K : PySem.W.Frag) (c : Pc) : TS :=
  (tSeq (tAsg (tLst tNil) (gName 3))
  (tSeq (tFor (iRng1 (tCons (tVar 2) tNil)) (gName 4) (tDrop (tBM K "list" rAppend (tVar 3) (tCons (tCall (sp_z_pick K c) [] E0 (tCons (tVar 0) (tCons (tLst (tCons (tCall (sp_z_coin K c) [] E0 (tCons (tVar 0) (tCons (tOp rShl (tC (.int 1)) (tVar 1)) tNil))) (tCons (tCall (sp_z_coin K c) [] E0 (tCons (tVar 0) (tCons (tOp rShl (tC (.int 1)) (tVar 1)) tNil))) (tCons (tC (.int 0)) (tCons (tOp rSub (tOp rShl (tC (.int 1)) (tVar 1)) (tC (.int 1))) tNil))))) tNil))) tNil))))
  (tRet (tIf (tTest (tOp (rNeD K) (tVar 3) (tLst tNil))) (tOp rCat (tSl (rSlL K) (tVar 3) tNoPart (tPart (tUn rNeg (tC (.int 1))))) (tLst (tCons (tCB rMax2 (tCons (tC (.int 1)) (tCons (tOp (rIxL K) (tVar 3) (tUn rNeg (tC (.int 1)))) tNil))) tNil))) (tLst tNil)))))
def b1_z_prow : PS :=
  (pAppend 3 (pCallO P_z_pick 0 (pCons (pFz (pLst (pCons (pCallO P_z_coin 0 (pCons (pOp qShl (pC (.int 1)) (pVar 1)) pNil)) (pCons (pCallO P_z_coin 0 (pCons (pOp qShl (pC (.int 1)) (pVar 1)) pNil)) (pCons (pC (.int 0)) (pCons (pOp qSub (pOp qShl (pC (.int 1)) (pVar 1)) (pC (.int 1))) pNil)))))) pNil)))
def r2_z_prow : PS :=
  (pFrz [3] (pRet (pIf (pTest (pOp qNeD (pVar 3) (pFz (pLst pNil)))) (pFz (pOpF qCat (pFz (pSlL (pVar 3) pNoPart (pPart (pUn qNeg (pC (.int 1)))))) (pFz (pLst (pCons (pCB qMax2 (pCons (pC (.int 1)) (pCons (pOp qIxL (pVar 3) (pUn qNeg (pC (.int 1)))) pNil))) pNil))))) (pFz (pLst pNil)))))
def p_z_prow : PS :=
  (pSeq (pAsgO (pLst pNil) 3)
  (pSeq (pFor (pIR1 (pVar 2)) (pgName 4) b1_z_prow)
  r2_z_prow))
theorem sn_z_prow {K : PySem.W.Frag} {c : Pc} {α : Prop} (PM : PM K c) (PB : α) : SndS K c (t_z_prow K c) p_z_prow :=
  (snd_seq (snd_asgO (snd_lst snd_nil))
  (snd_seq (snd_for (snd_iR1 snd_var) snd_gName (snd_append (snd_callO uO_z_pick (snd_cons (snd_fz (snd_lst (snd_cons (snd_callO uO_z_coin (snd_cons (snd_op s_shl (snd_int 1) snd_var) snd_nil)) (snd_cons (snd_callO uO_z_coin (snd_cons (snd_op s_shl (snd_int 1) snd_var) snd_nil)) (snd_cons (snd_int 0) (snd_cons (snd_op s_sub (snd_op s_shl (snd_int 1) snd_var) (snd_int 1)) snd_nil)))))) snd_nil))))
  (snd_frz (snd_ret (snd_if (snd_test (snd_op s_neD snd_var (snd_fz (snd_lst snd_nil)))) (snd_fz (snd_opF s_cat (snd_fz (snd_slL snd_var snd_noPart (snd_part (snd_neg (snd_int 1))))) (snd_fz (snd_lst (snd_cons (snd_cb s_max2 (snd_cons (snd_int 1) (snd_cons (snd_op s_ixL snd_var (snd_neg (snd_int 1))) snd_nil))) snd_nil))))) (snd_fz (snd_lst snd_nil)))))))
theorem n_z_prow : ∀ ds l w k, P_z_prow ds l w k → ds.length + 1 = 3 := fun ds l w k h => by
  unfold P_z_prow at h
  split at h
  · rfl
  · exact h.elim
theorem e_z_prow {b n : Int} {l : List Dat} {w : Wld} {k : Dat → List Dat → Wld → Prop} : P_z_prow [.int b, .int n] l w k = ∃ (z B N : Nat), b = (B : Int) ∧ n = (N : Int) ∧ Prs z l ∧ z + 3 * N < 2 ^ 40 ∧ (0 < B ∧ B ≤ 60) ∧ N ≤ 10000 ∧ ∀ (xs : List Nat) l', Digs B xs → xs.length = N → Norm xs → Prs (z + 3 * N) l' → k (.lst (dN xs)) l' w := rfl
theorem w_z_prow : ∀ ds l w k, P_z_prow ds l w k → p_z_prow (penF k) (env0O 5 l ds) w := by
  intro ds l w k h
  unfold P_z_prow at h
  split at h
  · obtain ⟨z, B, N, rfl, rfl, hp, hz40, hB, hN, h⟩ := h
    have hz := sizeLine_eq
    unfold p_z_prow
    walk_at "pu"
    refine ⟨by omega, ⟨by omega, by omega⟩, ?_⟩
    have hp60 : 2 ^ B ≤ 2 ^ 60 := Nat.pow_le_pow_right (by decide) hB.2
    have hpos := Nat.two_pow_pos B
    refine lp_ind (fun c e w' => w' = w ∧ ∃ (l : List Dat) (xs : List Nat) (y4 : Slot), Prs (z + 3 * c) l ∧ Digs B xs ∧ xs.length = c ∧ e = [.own false l, .val (.int (B : Int)), .val (.int (N : Int)), .own true (dN xs), y4]) ⟨rfl, l, [], .no, hp, (fun _ z => nomatch z), rfl, rfl⟩ ?_ ?_
    · rintro c d e w' nx hd ⟨rfl, l1, xs, y4, hp1, hdg, hlx, rfl⟩ hn
      have hc : c < N := by have := (rng_get hd).1; omega
      unfold b1_z_prow
      walk_at "pu"
      have hn64 : 0 < ((2 ^ B : Nat) : Int) ∧ NxtB ((2 ^ B : Nat) : Int) := nxOk (by omega) (by omega)
      rw [shl1 (by omega), e_z_coin]
      refine ⟨_, hp1, by omega, hn64, fun r1 l2 r10 r11 hp2 => ?_⟩
      rw [shl1 (by omega), e_z_coin]
      refine ⟨_, hp2, by omega, hn64, fun r2 l3 r20 r21 hp3 => ?_⟩
      rw [shl1 (by omega)]
      walk_at "pu"
      rw [e_z_pick]
      refine ⟨by omega, _, hp3, by omega, ⟨by simp, by simp⟩, fun d' l4 hd' hp4 => ?_⟩
      obtain ⟨u, rfl, hu⟩ : ∃ u : Nat, d' = .int (u : Int) ∧ u < 2 ^ B := by
        simp only [List.mem_cons, List.not_mem_nil, or_false] at hd'
        rcases hd' with rfl | rfl | rfl | rfl
        · exact ⟨r1.toNat, by rw [Int.toNat_of_nonneg r10], by omega⟩
        · exact ⟨r2.toNat, by rw [Int.toNat_of_nonneg r20], by omega⟩
        · exact ⟨0, rfl, hpos⟩
        · exact ⟨2 ^ B - 1, by congr 1; omega, by omega⟩
      refine ⟨by rw [dN_len]; omega, hn _ _ ⟨rfl, l4, xs ++ [u], .val d, hp4, hdg.snoc hu, by rw [List.length_append, hlx]; rfl, ?_⟩⟩
      rw [dN_one, dN_app]
    · rintro e w' ⟨rfl, l1, xs, y4, hp1, hdg, hlx, rfl⟩
      rw [rng_len, Int.toNat_natCast] at hlx hp1
      unfold r2_z_prow
      walk_at "pu"
      refine ⟨by omega, ⟨pl_L _, pl_nil⟩, fun b hb1 hb2 => ?_⟩
      by_cases hx : xs = []
      · subst hx
        rw [hb1 rfl]
        walk_at "pu"
        exact ⟨by omega, h [] l1 hdg hlx rfl hp1⟩
      · have e : xs = xs.dropLast ++ [xs.getLast hx] := (List.dropLast_concat_getLast hx).symm
        generalize xs.dropLast = ys at e
        generalize xs.getLast hx = y at e
        subst e
        rw [hb2 (fun z => by
          injection z with z
          exact absurd (congrArg List.length z) (by rw [dN_len]; simp)) (nb_L _) rfl]
        walk_at "pu"
        rw [at_snoc, cut_snoc]
        walk_at "pu"
        rw [List.length_append] at hlx
        simp only [List.length_cons, List.length_nil] at hlx
        have hyb : y < 2 ^ B := hdg y (List.mem_append_right _ (List.mem_singleton.mpr rfl))
        have hysd : Digs B ys := fun x hx => hdg x (List.mem_append_left _ hx)
        have h2B : 1 < 2 ^ B := Nat.one_lt_two_pow (by omega)
        have em : (if (y : Int) > 1 then (y : Int) else 1) = ((max 1 y : Nat) : Int) := by split <;> omega
        rw [em, dN_len]
        refine ⟨by omega, by omega, ?_⟩
        rw [dN_one, dN_app]
        exact h (ys ++ [max 1 y]) l1 (hysd.snoc (by omega)) (by rw [List.length_append]; exact hlx) (norm_snoc (by omega) ys) hp1
  · exact h.elim
theorem b_z_prow {K : PySem.W.Frag} {c : Pc} {vs : List V} {H : Hp} {Q : VK} {E : XK} {α : Prop} (PM : PM K c) (PB : α) (h : sp_z_prow K c vs H Q E) : t_z_prow K c (en0 Q) (st0 5 vs) H := def_okO (sn_z_prow PM PB) (fun ds l w k h => by have := n_z_prow ds l w k h; omega) w_z_prow h
/-! ### a row's worth, a number's digits -/
theorem valB_pow (B : Nat) : ∀ xs : List Nat, valB (2 ^ B) xs = val B xs
  | [] => rfl
  | x :: xs => by
    show x + 2 ^ B * valB (2 ^ B) xs = x + 2 ^ B * val B xs
    rw [valB_pow B xs]
def P_z_worth : PSp := fun ds w k => match ds with
  | [.int b, .lst l] => ∃ (B : Nat) (xs : List Nat), b = (B : Int) ∧ l = dN xs ∧ (0 < B ∧ B ≤ 60) ∧ (Digs B xs ∧ xs.length ≤ 10000) ∧ k (.int (val B xs : Nat)) w
  | _ => False
def sp_z_worth (K : PySem.W.Frag) (c : Pc) : Sp := lif K c P_z_worth
theorem u_z_worth {K : PySem.W.Frag} {c : Pc} : SndP K c (sp_z_worth K c) P_z_worth := SndP.lif
/-- 0:_law_bits 1:_law_row_here 2:_law_found 3:_law_digit -/
def t_z_worth (K : PySem.W.Frag) (c : Pc) : TS :=
  (tSeq (tAsg (tC (.int 0)) (gName 2))
  (tSeq (tFor (iList K (tRevL K (tVar 1))) (gName 3) (tAsg (tOp rAdd (tOp rShl (tVar 2) (tVar 0)) (tVar 3)) (gName 2)))
  (tRet (tVar 2))))
def p_z_worth : PS :=
  (pSeq (pAsg (pC (.int 0)) 2)
  (pSeq (pFor (pIL (pFz (pRevL (pVar 1)))) (pgName 3) (pAsg (pOp qAdd (pOp qShl (pVar 2) (pVar 0)) (pVar 3)) 2))
  (pRet (pVar 2))))
theorem sn_z_worth {K : PySem.W.Frag} {c : Pc} {α : Prop} (PM : PM K c) (PB : α) : SndS K c (t_z_worth K c) p_z_worth :=
  (snd_seq (snd_asg (snd_int 0))
  (snd_seq (snd_for (snd_iList (snd_fz (snd_revL snd_var))) snd_gName (snd_asg (snd_op s_add (snd_op s_shl snd_var snd_var) snd_var)))
  (snd_ret snd_var)))
theorem n_z_worth : ∀ ds w k, P_z_worth ds w k → ds.length = 2 := fun ds w k h => by
  unfold P_z_worth at h
  split at h
  · rfl
  · exact h.elim
theorem e_z_worth {b : Int} {l : List Dat} {w : Wld} {k : Dat → Wld → Prop} : P_z_worth [.int b, .lst l] w k = ∃ (B : Nat) (xs : List Nat), b = (B : Int) ∧ l = dN xs ∧ (0 < B ∧ B ≤ 60) ∧ (Digs B xs ∧ xs.length ≤ 10000) ∧ k (.int (val B xs : Nat)) w := rfl
theorem w_z_worth : ∀ ds w k, P_z_worth ds w k → p_z_worth (pen k) (env0 4 ds) w := by
  intro ds w k h
  unfold P_z_worth at h
  split at h
  · obtain ⟨B, xs, rfl, rfl, hB, ⟨hdg, hl⟩, h⟩ := h
    have hz := sizeLine_eq
    unfold p_z_worth
    walk_at "pu"
    rw [dN_rev]
    refine lp_ind (fun i e w' => w' = w ∧ ∃ (z : Slot) (f : Nat), f = (xs.reverse.take i).foldl (fun r d => 2 ^ B * r + d) 0 ∧ f < 2 ^ (B * i) ∧ e = [.val (.int (B : Int)), .val (.lst (dN xs)), .val (.int (f : Int)), z]) ⟨rfl, _, 0, rfl, Nat.two_pow_pos _, rfl⟩ ?_ ?_
    · rintro i d e w' nx hd ⟨rfl, z, f, hf, hlt, rfl⟩ hn
      obtain ⟨n, hn', rfl⟩ := dN_get hd
      have hi : i < xs.length := by
        have := (List.getElem?_eq_some_iff.mp hn').1
        rwa [List.length_reverse] at this
      have hd1 : n < 2 ^ B := hdg _ (List.mem_reverse.mp (List.mem_of_getElem? hn'))
      walk_at "pu"
      rw [eShl]
      refine ⟨shl_ok (n := B * i) (by simpa using hlt) (by
        have : B * i ≤ 60 * 10000 := Nat.mul_le_mul hB.2 (by omega)
        omega), ?_⟩
      walk_at "pu"
      have e2 : ((2 : Int) ^ ((B : Int)).toNat) = ((2 ^ B : Nat) : Int) := by rw [Int.toNat_natCast, Int.natCast_pow]; rfl
      rw [e2, ← Int.natCast_mul, ← Int.natCast_add]
      refine hn _ _ ⟨rfl, .val (.int (n : Int)), f * 2 ^ B + n, ?_, ?_, rfl⟩
      · have e1 : xs.reverse.take (i + 1) = xs.reverse.take i ++ [n] := by rw [List.take_succ, hn']; rfl
        rw [e1, List.foldl_append, ← hf]
        simp only [List.foldl_cons, List.foldl_nil]
        rw [Nat.mul_comm]
      · rw [Nat.mul_succ, Nat.pow_add]
        have : (f + 1) * 2 ^ B ≤ 2 ^ (B * i) * 2 ^ B := Nat.mul_le_mul_right _ hlt
        rw [Nat.add_mul] at this
        omega
    · rintro e w' ⟨rfl, z, f, hf, hlt, rfl⟩
      walk_at "pu"
      rw [dN_len, List.take_length, valB_fold, valB_pow] at hf
      rw [hf]
      exact h
  · exact h.elim
theorem b_z_worth {K : PySem.W.Frag} {c : Pc} {vs : List V} {H : Hp} {Q : VK} {E : XK} {α : Prop} (PM : PM K c) (PB : α) (h : sp_z_worth K c vs H Q E) : t_z_worth K c (en0 Q) (st0 4 vs) H := def_ok (sn_z_worth PM PB) w_z_worth h
def P_z_pdigits : PSp := fun ds w k => match ds with
  | [.int b, .int n] => ∃ (B N : Nat), b = (B : Int) ∧ n = (N : Int) ∧ (0 < B ∧ B ≤ 60) ∧ (digs B N).length ≤ 100000 ∧ k (.lst (dN (digs B N))) w
  | _ => False
def sp_z_pdigits (K : PySem.W.Frag) (c : Pc) : Sp := lif K c P_z_pdigits
theorem u_z_pdigits {K : PySem.W.Frag} {c : Pc} : SndP K c (sp_z_pdigits K c) P_z_pdigits := SndP.lif
/-- 0:_law_bits 1:_law_n 2:_law_found -/
def t_z_pdigits (K : PySem.W.Frag) (c : Pc) : TS :=
  (tSeq (tAsg (tLst tNil) (gName 2))
  (tSeq (tWhile (tTest (tOp rGt (tVar 1) (tC (.int 0)))) (tSeq (tDrop (tBM K "list" rAppend (tVar 2) (tCons (tOp rMod (tCB rInt (tCons (tVar 1) tNil)) (tOp rShl (tC (.int 1)) (tVar 0))) tNil)))
  (tAsg (tOp rShr (tVar 1) (tVar 0)) (gName 1))))
  (tRet (tVar 2))))
def b1_z_pdigits : PS :=
  (pSeq (pAppend 2 (pOp qMod (pCB qInt (pCons (pVar 1) pNil)) (pOp qShl (pC (.int 1)) (pVar 0))))
  (pAsg (pOp qShr (pVar 1) (pVar 0)) 1))
def p_z_pdigits : PS :=
  (pSeq (pAsgO (pLst pNil) 2)
  (pSeq (pWhile (pTest (pOp qGt (pVar 1) (pC (.int 0)))) b1_z_pdigits)
  (pFrz [2] (pRet (pVar 2)))))
theorem sn_z_pdigits {K : PySem.W.Frag} {c : Pc} {α : Prop} (PM : PM K c) (PB : α) : SndS K c (t_z_pdigits K c) p_z_pdigits :=
  (snd_seq (snd_asgO (snd_lst snd_nil))
  (snd_seq (snd_while (snd_test (snd_op s_gt snd_var (snd_int 0))) (snd_seq (snd_append (snd_op s_mod (snd_cb s_int (snd_cons snd_var snd_nil)) (snd_op s_shl (snd_int 1) snd_var)))
  (snd_asg (snd_op s_shr snd_var snd_var))))
  (snd_frz (snd_ret snd_var))))
theorem n_z_pdigits : ∀ ds w k, P_z_pdigits ds w k → ds.length = 2 := fun ds w k h => by
  unfold P_z_pdigits at h
  split at h
  · rfl
  · exact h.elim
theorem e_z_pdigits {b n : Int} {w : Wld} {k : Dat → Wld → Prop} : P_z_pdigits [.int b, .int n] w k = ∃ (B N : Nat), b = (B : Int) ∧ n = (N : Int) ∧ (0 < B ∧ B ≤ 60) ∧ (digs B N).length ≤ 100000 ∧ k (.lst (dN (digs B N))) w := rfl
theorem w_z_pdigits : ∀ ds w k, P_z_pdigits ds w k → p_z_pdigits (pen k) (env0 3 ds) w := by
  intro ds w k h
  unfold P_z_pdigits at h
  split at h
  · obtain ⟨B, N, rfl, rfl, hB, hl, h⟩ := h
    have hz := sizeLine_eq
    unfold p_z_pdigits
    walk_at "pu"
    have hp := Nat.two_pow_pos B
    have hp60 : 2 ^ B ≤ 2 ^ 60 := Nat.pow_le_pow_right (by decide) hB.2
    have hb : B ≠ 0 := by omega
    refine ⟨by omega, ?_⟩
    refine whl_ind (fun m e w' => w' = w ∧ ∃ es : List Nat, es ++ digs B m = digs B N ∧ e = [.val (.int (B : Int)), .val (.int (m : Int)), .own true (dN es)]) N ⟨rfl, [], rfl, rfl⟩ ?_
    rintro m e w' nx ⟨rfl, es, he, rfl⟩ hn
    unfold b1_z_pdigits
    walk_at "pu"
    split
    · rename_i hm
      have hm0 : m ≠ 0 := by omega
      have hlen : es.length < 2 ^ 23 := by
        have := congrArg List.length he
        rw [List.length_append] at this; omega
      rw [digs_pos hb hm0] at he
      rw [shl1 (by omega)]
      walk_at "pu"
      have e2 : ((2 : Int) ^ ((B : Int)).toNat) = ((2 ^ B : Nat) : Int) := by rw [Int.toNat_natCast, Int.natCast_pow]; rfl
      rw [e2]
      refine ⟨by omega, by rw [dN_len]; omega, by omega, hn (m / 2 ^ B) _ _ (Nat.div_lt_self (by omega) (Nat.one_lt_two_pow hb)) ⟨rfl, es ++ [m % 2 ^ B], by rw [List.append_assoc]; exact he, ?_⟩⟩
      rw [← Int.natCast_emod, ← Int.natCast_ediv, dN_one, dN_app]
    · rename_i hm
      have hm0 : m = 0 := by omega
      subst hm0
      rw [digs_zero, List.append_nil] at he
      rw [he]
      exact h
  · exact h.elim
theorem b_z_pdigits {K : PySem.W.Frag} {c : Pc} {vs : List V} {H : Hp} {Q : VK} {E : XK} {α : Prop} (PM : PM K c) (PB : α) (h : sp_z_pdigits K c vs H Q E) : t_z_pdigits K c (en0 Q) (st0 3 vs) H := def_ok (sn_z_pdigits PM PB) w_z_pdigits h
def P_z_is : PSp := fun ds w k => match ds with
  | [.big b n, .int b', .int n'] => bigL b n ∧ b ≠ 0 ∧ b ≤ 60 ∧ (digs b n.natAbs).length ≤ 100000 ∧ b' = (b : Int) ∧ n' = n ∧ k (.bl true) w
  | _ => False
def sp_z_is (K : PySem.W.Frag) (c : Pc) : Sp := lif K c P_z_is
theorem u_z_is {K : PySem.W.Frag} {c : Pc} : SndP K c (sp_z_is K c) P_z_is := SndP.lif
/-- 0:_law_held 1:_law_bits 2:_law_n 3:_law_side -/
def t_z_is (K : PySem.W.Frag) (c : Pc) : TS :=
  (tSeq (tAsg (tOp rSub (tCB rInt (tCons (tOp rGt (tVar 2) (tC (.int 0))) tNil)) (tCB rInt (tCons (tOp rLt (tVar 2) (tC (.int 0))) tNil))) (gName 3))
  (tRet (tOp (rEqD K) (tTup (tCons (tMeth c.CBig "sign" (sp_Big_sign K c) [] E0 (tVar 0) tNil) (tCons (tMeth c.CBig "digits" (sp_Big_digits K c) [] E0 (tVar 0) tNil) (tCons (tMeth c.CBig "bits" (sp_Big_bits K c) [] E0 (tVar 0) tNil) (tCons (tCall (sp_plain K c) [] E0 (tCons (tVar 0) tNil)) tNil))))) (tTup (tCons (tVar 3) (tCons (tCall (sp_z_pdigits K c) [] E0 (tCons (tVar 1) (tCons (tCB rAbs (tCons (tVar 2) tNil)) tNil))) (tCons (tVar 1) (tCons (tVar 2) tNil))))))))
def p_z_is : PS :=
  (pSeq (pAsg (pOp qSub (pCB qInt (pCons (pOp qGt (pVar 2) (pC (.int 0))) pNil)) (pCB qInt (pCons (pOp qLt (pVar 2) (pC (.int 0))) pNil))) 3)
  (pRet (pOp qEqD (pTup (pCons (pMethB P_Big_sign (pVar 0) pNil) (pCons (pMethB P_Big_digits (pVar 0) pNil) (pCons (pMethB P_Big_bits (pVar 0) pNil) (pCons (pCall P_plain (pCons (pVar 0) pNil)) pNil))))) (pTup (pCons (pVar 3) (pCons (pCall P_z_pdigits (pCons (pVar 1) (pCons (pCB qAbs (pCons (pVar 2) pNil)) pNil))) (pCons (pVar 1) (pCons (pVar 2) pNil))))))))
theorem sn_z_is {K : PySem.W.Frag} {c : Pc} {α : Prop} (PM : PM K c) (PB : α) : SndS K c (t_z_is K c) p_z_is :=
  (snd_seq (snd_asg (snd_op s_sub (snd_cb s_int (snd_cons (snd_op s_gt snd_var (snd_int 0)) snd_nil)) (snd_cb s_int (snd_cons (snd_op s_lt snd_var (snd_int 0)) snd_nil))))
  (snd_ret (snd_op s_eqD (snd_tup (snd_cons (snd_methB (by decide) u_Big_sign snd_var snd_nil) (snd_cons (snd_methB (by decide) u_Big_digits snd_var snd_nil) (snd_cons (snd_methB (by decide) u_Big_bits snd_var snd_nil) (snd_cons (snd_call u_plain (snd_cons snd_var snd_nil)) snd_nil))))) (snd_tup (snd_cons snd_var (snd_cons (snd_call u_z_pdigits (snd_cons snd_var (snd_cons (snd_cb s_abs (snd_cons snd_var snd_nil)) snd_nil))) (snd_cons snd_var (snd_cons snd_var snd_nil))))))))
theorem n_z_is : ∀ ds w k, P_z_is ds w k → ds.length = 3 := fun ds w k h => by
  unfold P_z_is at h
  split at h
  · rfl
  · exact h.elim
theorem w_z_is : ∀ ds w k, P_z_is ds w k → p_z_is (pen k) (env0 4 ds) w := by
  intro ds w k h
  unfold P_z_is at h
  split at h
  · rename_i b n b' n'
    obtain ⟨hL, hb0, hb60, hl, rfl, rfl, h⟩ := h
    have hz := sizeLine_eq
    unfold p_z_is
    walk_at "pu"
    have e0 : (if n' < 0 then -n' else n') = ((n'.natAbs : Nat) : Int) := by split <;> omega
    rw [e0]
    refine ⟨hL, by omega, ?_⟩
    rw [e_z_pdigits]
    refine ⟨b, n'.natAbs, rfl, rfl, ⟨by omega, hb60⟩, hl, ?_⟩
    have e1 : ((if 0 < n' then (1 : Int) else 0) - if n' < 0 then 1 else 0) = sgn n' := by
      unfold sgn
      rcases Int.lt_trichotomy n' 0 with z | z | z
      · simp [z, Int.not_lt.mpr (Int.le_of_lt z)]
      · subst z; decide
      · rw [if_pos z, if_neg (by omega), if_neg (by omega)]
        first
          | rfl
          | (rw [if_neg (by omega)]; rfl)
          | (rw [if_neg (by omega), if_neg (by omega)]; rfl)
    rw [e1]
    have hpl : pl (Dat.tup [Dat.int (sgn n'), Dat.lst (dN (digs b n'.natAbs)), Dat.int (b : Int), Dat.int n']) := by
      unfold pl
      simp only [plF, List.all_cons, List.all_nil, pl_dN, Bool.and_self]
    refine ⟨by omega, ⟨hpl, hpl⟩, fun b1 h1 _ => ?_⟩
    rw [h1 rfl]
    exact h
  · exact h.elim
theorem b_z_is {K : PySem.W.Frag} {c : Pc} {vs : List V} {H : Hp} {Q : VK} {E : XK} {α : Prop} (PM : PM K c) (PB : α) (h : sp_z_is K c vs H Q E) : t_z_is K c (en0 Q) (st0 4 vs) H := def_ok (sn_z_is PM PB) w_z_is h
/-- the words of the tally that are not 0 -/
def nz (ns : List Int) : List (Str × Int) := (tal ns).filter fun p => decide (p.2 ≠ 0)
def P_z_pcounted : PSp := fun ds w k => match ds with
  | [.mach i] => onM w i fun m => k (.tup [.dic (nz m.ns), .lst (m.walk.map dW)]) (w.put i m.rst)
  | _ => False
def sp_z_pcounted (K : PySem.W.Frag) (c : Pc) : Sp := lif K c P_z_pcounted
theorem u_z_pcounted {K : PySem.W.Frag} {c : Pc} : SndP K c (sp_z_pcounted K c) P_z_pcounted := SndP.lif
/-- 0:_law_engine 1:_law_found 2:_law_row_here -/
def t_z_pcounted (K : PySem.W.Frag) (c : Pc) : TS :=
  (tSeq (tAsg (tTup (tCons (tCB (rDict K) (tCons (tLc (iList K (tMeth c.CMachine "tally" (sp_Machine_tally K c) [] E0 (tVar 0) tNil)) (gName 2) (tTest (tOp rNe (tOp (rIxT K) (tVar 2) (tC (.int 1))) (tC (.int 0)))) (tVar 2) [2]) tNil)) (tCons (tMeth c.CMachine "walk" (sp_Machine_walk K c) [] E0 (tVar 0) tNil) tNil))) (gName 1))
  (tSeq (tDrop (tMeth c.CMachine "reset" (sp_Machine_reset K c) [] E0 (tVar 0) tNil))
  (tRet (tVar 1))))
def p_z_pcounted : PS :=
  (pSeq (pAsg (pTup (pCons (pCB qDict (pCons (pFz (pLc (pIL (pMethM P_Machine_tally (pVar 0) pNil)) (pgName 2) (pTest (pOp qNe (pOp qIxT (pVar 2) (pC (.int 1))) (pC (.int 0)))) (pVar 2) [2])) pNil)) (pCons (pMethM P_Machine_walk (pVar 0) pNil) pNil))) 1)
  (pSeq (pDrop (pMethM P_Machine_reset (pVar 0) pNil))
  (pRet (pVar 1))))
theorem sn_z_pcounted {K : PySem.W.Frag} {c : Pc} {α : Prop} (PM : PM K c) (PB : α) : SndS K c (t_z_pcounted K c) p_z_pcounted :=
  (snd_seq (snd_asg (snd_tup (snd_cons (snd_cb s_dict (snd_cons (snd_fz (snd_lc (snd_iList (snd_methM (by decide) u_Machine_tally snd_var snd_nil)) snd_gName (tgt_name _) (snd_test (snd_op s_ne (snd_op s_ixT snd_var (snd_int 1)) (snd_int 0))) snd_var)) snd_nil)) (snd_cons (snd_methM (by decide) u_Machine_walk snd_var snd_nil) snd_nil))))
  (snd_seq (snd_drop (snd_methM (by decide) u_Machine_reset snd_var snd_nil))
  (snd_ret snd_var)))
theorem n_z_pcounted : ∀ ds w k, P_z_pcounted ds w k → ds.length = 1 := fun ds w k h => by
  unfold P_z_pcounted at h
  split at h
  · rfl
  · exact h.elim
theorem w_z_pcounted : ∀ ds w k, P_z_pcounted ds w k → p_z_pcounted (pen k) (env0 3 ds) w := by
  intro ds w k h
  unfold P_z_pcounted at h
  split at h
  · rename_i i
    replace h := onM_of h
    obtain ⟨m, hm, h⟩ := h
    have hz := sizeLine_eq
    unfold p_z_pcounted
    walk_at "pu"
    rw [onM_is hm]
    rw [dRows_tal]
    refine lcp_ind (fun i' acc e w' => w' = w ∧ acc = (((tal m.ns).take i').filter fun p => decide (p.2 ≠ 0)).map dP ∧ e = [.val (.mach i), .no, .no]) ⟨rfl, by simp, rfl⟩ ?_ ?_
    · rintro j d acc e w' nx hd ⟨rfl, rfl, rfl⟩ hn
      rw [List.getElem?_map] at hd
      cases hp : (tal m.ns)[j]? with
      | none => rw [hp] at hd; cases hd
      | some p =>
        rw [hp] at hd
        cases hd
        have h10 : j < 10 := Nat.lt_of_lt_of_le (List.getElem?_eq_some_iff.mp hp).1 tal_len
        have hs : ((tal m.ns).take (j + 1)).filter (fun p => decide (p.2 ≠ 0)) = ((tal m.ns).take j).filter (fun p => decide (p.2 ≠ 0)) ++ if p.2 ≠ 0 then [p] else [] := by
          rw [List.take_add_one, hp, List.filter_append]
          simp only [Option.toList, List.filter_cons, List.filter_nil, decide_eq_true_eq]
        unfold dP
        walk_at "pu"
        refine ite_2 (fun h0 => ?_) fun h0 => ?_
        · refine ⟨?_, hn _ _ _ ⟨rfl, ?_, rfl⟩⟩
          · rw [List.length_map]
            have h1 : (((tal m.ns).take j).filter fun p => decide (p.2 ≠ 0)).length ≤ ((tal m.ns).take j).length := List.length_filter_le _ _
            have h2 : ((tal m.ns).take j).length ≤ j := List.length_take_le _ _
            omega
          · rw [hs, if_pos h0, List.map_append]
            rfl
        · exact hn _ _ _ ⟨rfl, by rw [hs, if_neg h0, List.append_nil]; rfl, rfl⟩
    · rintro acc e w' ⟨rfl, rfl, rfl⟩
      rw [List.length_map, List.take_length]
      refine ⟨_, rfl, ?_, ?_⟩
      · exact List.Nodup.sublist (List.Sublist.map _ List.filter_sublist) tal_nd
      · walk_at "pu"
        rw [onM_is hm]
        refine ⟨by omega, ?_⟩
        rw [onM_is hm]
        exact h
  · exact h.elim
theorem b_z_pcounted {K : PySem.W.Frag} {c : Pc} {vs : List V} {H : Hp} {Q : VK} {E : XK} {α : Prop} (PM : PM K c) (PB : α) (h : sp_z_pcounted K c vs H Q E) : t_z_pcounted K c (en0 Q) (st0 3 vs) H := def_ok (sn_z_pcounted PM PB) w_z_pcounted h

/-! Prd: products by rows. -/
/-! ### mathematics -/
theorem val_set {b : Nat} : ∀ {rs : List Nat} {j d : Nat}, j < rs.length → val b (rs.set j d) + 2 ^ (b * j) * rs.getD j 0 = val b rs + 2 ^ (b * j) * d
  | [], _, _, h => absurd h (Nat.not_lt_zero _)
  | r :: rs, 0, d, _ => by
    show d + 2 ^ b * val b rs + 2 ^ (b * 0) * r = r + 2 ^ b * val b rs + 2 ^ (b * 0) * d
    rw [Nat.mul_zero, Nat.pow_zero]; omega
  | r :: rs, j + 1, d, h => by
    have ih := val_set (b := b) (rs := rs) (j := j) (d := d) (Nat.lt_of_succ_lt_succ h)
    show r + 2 ^ b * val b (rs.set j d) + 2 ^ (b * (j + 1)) * rs.getD j 0 = r + 2 ^ b * val b rs + 2 ^ (b * (j + 1)) * d
    rw [Nat.mul_succ, Nat.pow_add, Nat.mul_comm (2 ^ (b * j)), Nat.mul_assoc, Nat.mul_assoc, Nat.add_assoc, Nat.add_assoc, ← Nat.mul_add, ← Nat.mul_add, ih]
theorem digs_set {b : Nat} {rs : List Nat} {j d : Nat} (h : Digs b rs) (hd : d < 2 ^ b) : Digs b (rs.set j d) := fun x hx => by
  rcases List.mem_or_eq_of_mem_set hx with z | z
  · exact h x z
  · rw [z]; exact hd
theorem val_ge {b : Nat} : ∀ {rs : List Nat} (j : Nat), 2 ^ (b * j) * rs.getD j 0 ≤ val b rs
  | [], _ => by simp
  | r :: rs, 0 => by
    show 2 ^ (b * 0) * r ≤ r + 2 ^ b * val b rs
    rw [Nat.mul_zero, Nat.pow_zero]; omega
  | r :: rs, j + 1 => by
    have ih := val_ge (b := b) (rs := rs) j
    show 2 ^ (b * (j + 1)) * rs.getD j 0 ≤ r + 2 ^ b * val b rs
    rw [Nat.mul_succ, Nat.pow_add, Nat.mul_comm (2 ^ (b * j)), Nat.mul_assoc]
    have := Nat.mul_le_mul_left (2 ^ b) ih
    omega
theorem dN_set (rs : List Nat) (j d : Nat) : (dN rs).set j (.int (d : Int)) = dN (rs.set j d) := by
  unfold dN; rw [List.map_set]
theorem dN_get0 {rs : List Nat} {p : Nat} (h : p < rs.length) : atI (dN rs) (p : Int) = some (.int (rs.getD p 0 : Nat)) := dN_at rfl (by rw [List.getD_eq_getElem?_getD, List.getElem?_eq_getElem h]; rfl)
theorem ix_nat {n p : Nat} (h : p < n) : ixN n (p : Int) = some p := by
  unfold ixN
  rw [if_pos (by omega), if_pos (by omega)]
  rfl
theorem val_zero_rep (b n : Nat) : val b (List.replicate n 0) = 0 := val_zeros b fun d hd => (List.mem_replicate.mp hd).2
/-- a row with a carry c at the place p: together they are T -/
structure Car (b : Nat) (rs : List Nat) (L c p T : Nat) : Prop where
  len : rs.length = L
  dig : Digs b rs
  eq : val b rs + 2 ^ (b * p) * c = T
theorem Car.step {b : Nat} {rs : List Nat} {L c p T : Nat} (h : Car b rs L c p T) (hp : p < L) (x : Nat) : Car b (rs.set p ((rs.getD p 0 + x + c) % 2 ^ b)) L ((rs.getD p 0 + x + c) / 2 ^ b) (p + 1) (T + 2 ^ (b * p) * x) := by
  have hl := h.len
  have e := val_set (b := b) (rs := rs) (j := p) (d := (rs.getD p 0 + x + c) % 2 ^ b) (by omega)
  have e2 := Nat.mod_add_div (rs.getD p 0 + x + c) (2 ^ b)
  have e3 := h.eq
  refine ⟨by rw [List.length_set]; exact hl, digs_set h.dig (Nat.mod_lt _ (Nat.two_pow_pos b)), ?_⟩
  generalize (rs.getD p 0 + x + c) % 2 ^ b = r at *
  generalize (rs.getD p 0 + x + c) / 2 ^ b = q at *
  rw [Nat.mul_succ, Nat.pow_add, Nat.mul_assoc]
  have e4 : 2 ^ (b * p) * r + 2 ^ (b * p) * (2 ^ b * q) = 2 ^ (b * p) * rs.getD p 0 + 2 ^ (b * p) * x + 2 ^ (b * p) * c := by
    rw [← Nat.mul_add, e2, Nat.mul_add, Nat.mul_add]
  omega
theorem Car.top {b : Nat} {rs : List Nat} {L c p T : Nat} (h : Car b rs L c p T) (hp : p < L) (hT : T < 2 ^ (b * (p + 1))) : Car b (rs.set p (rs.getD p 0 + c)) L 0 (p + 1) T := by
  have hl := h.len
  have e := val_set (b := b) (rs := rs) (j := p) (d := rs.getD p 0 + c) (by omega)
  have e3 := h.eq
  have g := val_ge (b := b) (rs := rs) p
  have hlt : rs.getD p 0 + c < 2 ^ b := by
    rcases Nat.lt_or_ge (rs.getD p 0 + c) (2 ^ b) with z | z
    · exact z
    · have h1 := Nat.mul_le_mul_left (2 ^ (b * p)) z
      rw [← Nat.pow_add, ← Nat.mul_succ, Nat.mul_add] at h1
      have h2 : b * (p + 1) = b * p.succ := rfl
      rw [h2] at hT
      omega
  refine ⟨by rw [List.length_set]; exact hl, digs_set h.dig hlt, ?_⟩
  rw [Nat.mul_add] at e
  omega
def P_z_rows_of : PSp := fun ds w k => match ds with
  | [.mach i, .tup l, .tup l'] => onM w i fun m => ∃ xs ys : List Nat, l = dN xs ∧ l' = dN ys ∧ (m.b ≠ 0 ∧ m.b ≤ 60) ∧ (Digs m.b xs ∧ Digs m.b ys) ∧ (xs.length ≤ 2 ^ 20 ∧ ys.length ≤ 2 ^ 20) ∧
      ∀ rs : List Nat, Digs m.b rs → rs.length = xs.length + ys.length → val m.b rs = val m.b xs * val m.b ys → k (.lst (dN rs)) (w.put i ((m.ent "rows" xs.length ys.length).cnt 2 ((xs.length : Int) * (ys.length : Int))))
  | _ => False
def sp_z_rows_of (K : PySem.W.Frag) (c : Pc) : Sp := lif K c P_z_rows_of
theorem u_z_rows_of {K : PySem.W.Frag} {c : Pc} : SndP K c (sp_z_rows_of K c) P_z_rows_of := SndP.lif
/-- 0:machine 1:a 2:b 3:room 4:i 5:digit 6:carry 7:k 8:other -/
def t_z_rows_of (K : PySem.W.Frag) (c : Pc) : TS :=
  (tSeq (tDrop (tMeth c.CMachine "enter" (sp_Machine_enter K c) [] E0 (tVar 0) (tCons (tC (.str "rows")) (tCons (tCB (rLen K) (tCons (tVar 1) tNil)) (tCons (tCB (rLen K) (tCons (tVar 2) tNil)) tNil)))))
  (tSeq (tAsg (tOp rRep (tLst (tCons (tC (.int 0)) tNil)) (tOp rAdd (tCB (rLen K) (tCons (tVar 1) tNil)) (tCB (rLen K) (tCons (tVar 2) tNil)))) (gName 3))
  (tSeq (tFor (iEnumA K (tCons (tVar 1) tNil)) (gTup K 2 (gCons (gName 4) (gCons (gName 5) gNil))) (tSeq (tAsg (tC (.int 0)) (gName 6))
  (tSeq (tFor (iEnumA K (tCons (tVar 2) tNil)) (gTup K 2 (gCons (gName 7) (gCons (gName 8) gNil))) (tSeq (tAsg (tOp rAdd (tOp rAdd (tOp (rIxL K) (tVar 3) (tOp rAdd (tVar 4) (tVar 7))) (tOp rMul (tVar 5) (tVar 8))) (tVar 6)) (gName 6))
  (tSeq (tAsg (tOp rMod (tVar 6) (tFld K (tVar 0) "base")) (gSub (tVar 3) (tOp rAdd (tVar 4) (tVar 7)) rSetL))
  (tAsg (tOp rShr (tVar 6) (tFld K (tVar 0) "width")) (gName 6)))))
  (tAsg (tOp rAdd (tOp (rIxL K) (tVar 3) (tOp rAdd (tVar 4) (tCB (rLen K) (tCons (tVar 2) tNil)))) (tVar 6)) (gSub (tVar 3) (tOp rAdd (tVar 4) (tCB (rLen K) (tCons (tVar 2) tNil))) rSetL)))))
  (tSeq (tDrop (tMeth c.CMachine "count" (sp_Machine_count K c) [] E0 (tVar 0) (tCons (tC (.str "product")) (tCons (tOp rMul (tCB (rLen K) (tCons (tVar 1) tNil)) (tCB (rLen K) (tCons (tVar 2) tNil))) tNil))))
  (tRet (tVar 3))))))
def b1_z_rows_of : PS :=
  (pSeq (pAsg (pOp qAdd (pOp qAdd (pOpO qIxL 3 (pOp qAdd (pVar 4) (pVar 7))) (pOp qMul (pVar 5) (pVar 8))) (pVar 6)) 6)
  (pSeq (pSetI 3 (pOp qAdd (pVar 4) (pVar 7)) (pOp qMod (pVar 6) (pBase (pVar 0))))
  (pAsg (pOp qShr (pVar 6) (pWidthM (pVar 0))) 6)))
def q1_z_rows_of : PS :=
  (pSeq (pFor (pIEnum (pVar 2)) (pgTup [7, 8]) b1_z_rows_of)
  (pSetI 3 (pOp qAdd (pVar 4) (pCB qLen (pCons (pVar 2) pNil))) (pOp qAdd (pOpO qIxL 3 (pOp qAdd (pVar 4) (pCB qLen (pCons (pVar 2) pNil)))) (pVar 6))))
def b2_z_rows_of : PS :=
  (pSeq (pAsg (pC (.int 0)) 6)
  q1_z_rows_of)
def p_z_rows_of : PS :=
  (pSeq (pDrop (pMethM P_Machine_enter (pVar 0) (pCons (pC (.str "rows")) (pCons (pCB qLen (pCons (pVar 1) pNil)) (pCons (pCB qLen (pCons (pVar 2) pNil)) pNil)))))
  (pSeq (pAsgO (pOpF qRep (pFz (pLst (pCons (pC (.int 0)) pNil))) (pOp qAdd (pCB qLen (pCons (pVar 1) pNil)) (pCB qLen (pCons (pVar 2) pNil)))) 3)
  (pSeq (pFor (pIEnum (pVar 1)) (pgTup [4, 5]) b2_z_rows_of)
  (pSeq (pDrop (pMethM P_Machine_count (pVar 0) (pCons (pC (.str "product")) (pCons (pOp qMul (pCB qLen (pCons (pVar 1) pNil)) (pCB qLen (pCons (pVar 2) pNil))) pNil))))
  (pFrz [3] (pRet (pVar 3)))))))
theorem sn_z_rows_of {K : PySem.W.Frag} {c : Pc} {α : Prop} (PM : PM K c) (PB : α) : SndS K c (t_z_rows_of K c) p_z_rows_of :=
  (snd_seq (snd_drop (snd_methM (by decide) u_Machine_enter snd_var (snd_cons (snd_str "rows") (snd_cons (snd_cb s_len (snd_cons snd_var snd_nil)) (snd_cons (snd_cb s_len (snd_cons snd_var snd_nil)) snd_nil)))))
  (snd_seq (snd_asgO (snd_opF s_rep (snd_fz (snd_lst (snd_cons (snd_int 0) snd_nil))) (snd_op s_add (snd_cb s_len (snd_cons snd_var snd_nil)) (snd_cb s_len (snd_cons snd_var snd_nil)))))
  (snd_seq (snd_for (snd_iEnumA snd_var) (snd_gTup (is := [4, 5]) rfl) (snd_seq (snd_asg (snd_int 0))
  (snd_seq (snd_for (snd_iEnumA snd_var) (snd_gTup (is := [7, 8]) rfl) (snd_seq (snd_asg (snd_op s_add (snd_op s_add (snd_opO s_ixL (snd_op s_add snd_var snd_var)) (snd_op s_mul snd_var snd_var)) snd_var))
  (snd_seq (snd_setI (snd_op s_add snd_var snd_var) (snd_op s_mod snd_var (snd_base PM snd_var)))
  (snd_asg (snd_op s_shr snd_var (snd_widthM PM snd_var))))))
  (snd_setI (snd_op s_add snd_var (snd_cb s_len (snd_cons snd_var snd_nil))) (snd_op s_add (snd_opO s_ixL (snd_op s_add snd_var (snd_cb s_len (snd_cons snd_var snd_nil)))) snd_var)))))
  (snd_seq (snd_drop (snd_methM (by decide) u_Machine_count snd_var (snd_cons (snd_str "product") (snd_cons (snd_op s_mul (snd_cb s_len (snd_cons snd_var snd_nil)) (snd_cb s_len (snd_cons snd_var snd_nil))) snd_nil))))
  (snd_frz (snd_ret snd_var))))))
theorem n_z_rows_of : ∀ ds w k, P_z_rows_of ds w k → ds.length = 3 := fun ds w k h => by
  unfold P_z_rows_of at h
  split at h
  · rfl
  · exact h.elim
theorem e_z_rows_of {i : Nat} {l l' : List Dat} {w : Wld} {k : Dat → Wld → Prop} : P_z_rows_of [.mach i, .tup l, .tup l'] w k = onM w i fun m => ∃ xs ys : List Nat, l = dN xs ∧ l' = dN ys ∧ (m.b ≠ 0 ∧ m.b ≤ 60) ∧ (Digs m.b xs ∧ Digs m.b ys) ∧ (xs.length ≤ 2 ^ 20 ∧ ys.length ≤ 2 ^ 20) ∧
      ∀ rs : List Nat, Digs m.b rs → rs.length = xs.length + ys.length → val m.b rs = val m.b xs * val m.b ys → k (.lst (dN rs)) (w.put i ((m.ent "rows" xs.length ys.length).cnt 2 ((xs.length : Int) * (ys.length : Int)))) := rfl
theorem zeros_dN (n : Nat) : (List.replicate n [Dat.int 0]).flatten = dN (List.replicate n 0) := by
  induction n with
  | zero => rfl
  | succ n ih => rw [List.replicate_succ, List.flatten_cons, ih]; rfl
theorem w_z_rows_of : ∀ ds w k, P_z_rows_of ds w k → p_z_rows_of (pen k) (env0 9 ds) w := by
  intro ds w k h
  unfold P_z_rows_of at h
  split at h
  · rename_i i l l'
    replace h := onM_of h
    obtain ⟨m, hm, xs, ys, rfl, rfl, hb, ⟨hdx, hdy⟩, ⟨hlx, hly⟩, h⟩ := h
    have hz := sizeLine_eq
    have hp60 : 2 ^ m.b ≤ 2 ^ 60 := Nat.pow_le_pow_right (by decide) hb.2
    have hpos := Nat.two_pow_pos m.b
    unfold p_z_rows_of
    walk_at "pu"
    rw [onM_is hm, dN_len, dN_len]
    refine ⟨by omega, ⟨by omega, by omega, by omega⟩, ?_⟩
    have hm2 : (w.put i (m.ent "rows" (xs.length : Int) (ys.length : Int))).ms[i]? = some (m.ent "rows" (xs.length : Int) (ys.length : Int)) := put_at hm
    have hmb : (m.ent "rows" (xs.length : Int) (ys.length : Int)).b = m.b := rfl
    generalize hW : w.put i (m.ent "rows" (xs.length : Int) (ys.length : Int)) = W at hm2
    have et : ((xs.length : Int) + (ys.length : Int)).toNat = xs.length + ys.length := by omega
    rw [et, zeros_dN]
    have e1 : ((2 : Int) ^ m.b) = ((2 ^ m.b : Nat) : Int) := by rw [Int.natCast_pow]; rfl
    refine lp_ind (fun j e w' => w' = W ∧ ∃ (rs : List Nat) (y4 y5 y6 y7 y8 : Slot), Car m.b rs (xs.length + ys.length) 0 0 (val m.b (xs.take j) * val m.b ys) ∧ e = [.val (.mach i), .val (.tup (dN xs)), .val (.tup (dN ys)), .own true (dN rs), y4, y5, y6, y7, y8])
      ⟨rfl, List.replicate (xs.length + ys.length) 0, _, _, _, _, _, ⟨List.length_replicate, (fun d hd => by rw [(List.mem_replicate.mp hd).2]; exact hpos), by rw [val_zero_rep]; simp [val]⟩, rfl⟩ ?_ ?_
    · rintro j d e w' nx hd ⟨rfl, rs, y4, y5, y6, y7, y8, hC, rfl⟩ hn
      obtain ⟨hj, rfl⟩ := enm_dN hd
      have hxd := hdx.getD j
      generalize hxx : xs.getD j 0 = x at hxd
      unfold b2_z_rows_of
      walk_at "pu"
      unfold q1_z_rows_of
      walk_at "pu"
      refine lp_ind (fun q e w2 => w2 = w' ∧ ∃ (rs : List Nat) (c : Nat) (y7 y8 : Slot), Car m.b rs (xs.length + ys.length) c (j + q) (val m.b (xs.take j) * val m.b ys + 2 ^ (m.b * j) * x * val m.b (ys.take q)) ∧ e = [.val (.mach i), .val (.tup (dN xs)), .val (.tup (dN ys)), .own true (dN rs), .val (.int (j : Int)), .val (.int (x : Int)), .val (.int (c : Int)), y7, y8])
        ⟨rfl, rs, 0, _, _, ⟨hC.len, hC.dig, by have := hC.eq; simp [val] at this ⊢; exact this⟩, rfl⟩ ?_ ?_
      · rintro q d e w' nx' hd ⟨rfl, rs, c, y7, y8, hC, rfl⟩ hn'
        obtain ⟨hq, rfl⟩ := enm_dN hd
        have hyd := hdy.getD q
        have hlen := hC.len
        have hstep := hC.step (show j + q < xs.length + ys.length by omega) (x * ys.getD q 0)
        have eT : val m.b (xs.take j) * val m.b ys + 2 ^ (m.b * j) * x * val m.b (ys.take q) + 2 ^ (m.b * (j + q)) * (x * ys.getD q 0) = val m.b (xs.take j) * val m.b ys + 2 ^ (m.b * j) * x * val m.b (ys.take (q + 1)) := by
          rw [val_take, Nat.mul_add m.b, Nat.pow_add, Nat.mul_add (2 ^ (m.b * j) * x), Nat.add_assoc]
          congr 2
          rw [Nat.mul_assoc, Nat.mul_assoc]
          congr 1
          rw [Nat.mul_left_comm]
        rw [eT] at hstep
        unfold b1_z_rows_of
        walk_at "pu"
        have ep : (j : Int) + (q : Int) = ((j + q : Nat) : Int) := by omega
        rw [ep, dN_get0 (by omega), dN_len]
        walk_at "pu"
        rw [ix_nat (by omega)]
        walk_at "pu"
        simp only [onM_is hm2, hmb]
        have et : ((rs.getD (j + q) 0 : Nat) : Int) + (x : Int) * ((ys.getD q 0 : Nat) : Int) + (c : Int) = ((rs.getD (j + q) 0 + x * ys.getD q 0 + c : Nat) : Int) := by
          rw [Int.natCast_add, Int.natCast_add, Int.natCast_mul]
        rw [et, Int.toNat_natCast, e1, ← Int.natCast_emod, ← Int.natCast_ediv, dN_set]
        refine ⟨mul_okL (by omega) (by omega), by omega, by omega, hn' _ _ ⟨rfl, _, _, _, _, hstep, rfl⟩⟩
      · rintro e w' ⟨rfl, rs, c, y7, y8, hC, rfl⟩
        rw [enm_len, dN_len, List.take_length] at hC
        have hlen := hC.len
        have eT : val m.b (xs.take j) * val m.b ys + 2 ^ (m.b * j) * x * val m.b ys = val m.b (xs.take (j + 1)) * val m.b ys := by
          rw [val_take, Nat.add_mul, hxx]
        rw [eT] at hC
        have hT : val m.b (xs.take (j + 1)) * val m.b ys < 2 ^ (m.b * (j + ys.length + 1)) := by
          have h1 : val m.b (xs.take (j + 1)) < 2 ^ (m.b * (j + 1)) := by
            have := val_lt (b := m.b) (ds := xs.take (j + 1)) (fun d hd => hdx d (List.mem_of_mem_take hd))
            rw [List.length_take, Nat.min_eq_left (by omega)] at this
            exact this
          have h2 := val_lt hdy
          have h3 : m.b * (j + ys.length + 1) = m.b * (j + 1) + m.b * ys.length := by
            rw [← Nat.mul_add]; congr 1; omega
          rw [h3, Nat.pow_add]
          exact Nat.mul_lt_mul'' h1 h2
        have htop := hC.top (by omega) hT
        walk_at "pu"
        have ep : (j : Int) + ((dN ys).length : Int) = ((j + ys.length : Nat) : Int) := by rw [dN_len]; omega
        rw [ep, dN_get0 (by omega), dN_len]
        walk_at "pu"
        rw [ix_nat (by omega)]
        walk_at "pu"
        rw [← Int.natCast_add, dN_set]
        exact hn _ _ ⟨rfl, _, _, _, _, _, _, ⟨htop.len, htop.dig, by have := htop.eq; simpa using this⟩, rfl⟩
    · rintro e w' ⟨rfl, rs, y4, y5, y6, y7, y8, hC, rfl⟩
      rw [enm_len, dN_len, List.take_length] at hC
      walk_at "pu"
      rw [onM_is hm2, dN_len, dN_len]
      have hv : val m.b rs = val m.b xs * val m.b ys := by have := hC.eq; simpa using this
      have := h rs hC.dig hC.len hv
      rw [← hW, put_put]
      exact ⟨(show L2.CMul _ _ from .inl (by omega)).ok, this⟩
  · exact h.elim
theorem b_z_rows_of {K : PySem.W.Frag} {c : Pc} {vs : List V} {H : Hp} {Q : VK} {E : XK} {α : Prop} (PM : PM K c) (PB : α) (h : sp_z_rows_of K c vs H Q E) : t_z_rows_of K c (en0 Q) (st0 9 vs) H := def_ok (sn_z_rows_of PM PB) w_z_rows_of h
def P_z_square_rows_of : PSp := fun ds w k => match ds with
  | [.mach i, .tup l] => onM w i fun m => ∃ xs : List Nat, l = dN xs ∧ (m.b ≠ 0 ∧ m.b ≤ 60) ∧ Digs m.b xs ∧ xs.length ≤ 2 ^ 20 ∧
      ∀ rs : List Nat, Digs m.b rs → rs.length = 2 * xs.length → val m.b rs = val m.b xs * val m.b xs → k (.lst (dN rs)) (w.put i ((m.ent "square" xs.length xs.length).cnt 2 ((xs.length : Int) * ((xs.length : Int) + 1) / 2)))
  | _ => False
def sp_z_square_rows_of (K : PySem.W.Frag) (c : Pc) : Sp := lif K c P_z_square_rows_of
theorem u_z_square_rows_of {K : PySem.W.Frag} {c : Pc} : SndP K c (sp_z_square_rows_of K c) P_z_square_rows_of := SndP.lif
/-- 0:machine 1:a 2:size 3:room 4:i 5:digit 6:carry 7:k 8:place -/
def t_z_square_rows_of (K : PySem.W.Frag) (c : Pc) : TS :=
  (tSeq (tAsg (tCB (rLen K) (tCons (tVar 1) tNil)) (gName 2))
  (tSeq (tDrop (tMeth c.CMachine "enter" (sp_Machine_enter K c) [] E0 (tVar 0) (tCons (tC (.str "square")) (tCons (tVar 2) (tCons (tVar 2) tNil)))))
  (tSeq (tAsg (tOp rRep (tLst (tCons (tC (.int 0)) tNil)) (tOp rMul (tC (.int 2)) (tVar 2))) (gName 3))
  (tSeq (tFor (iEnumA K (tCons (tVar 1) tNil)) (gTup K 2 (gCons (gName 4) (gCons (gName 5) gNil))) (tSeq (tAsg (tOp rAdd (tOp (rIxL K) (tVar 3) (tOp rMul (tC (.int 2)) (tVar 4))) (tOp rMul (tVar 5) (tVar 5))) (gName 6))
  (tSeq (tAsg (tOp rMod (tVar 6) (tFld K (tVar 0) "base")) (gSub (tVar 3) (tOp rMul (tC (.int 2)) (tVar 4)) rSetL))
  (tSeq (tAsg (tOp rShr (tVar 6) (tFld K (tVar 0) "width")) (gName 6))
  (tSeq (tFor (iRng2 (tCons (tOp rAdd (tVar 4) (tC (.int 1))) (tCons (tVar 2) tNil))) (gName 7) (tSeq (tAsg (tOp rAdd (tOp rAdd (tOp (rIxL K) (tVar 3) (tOp rAdd (tVar 4) (tVar 7))) (tOp rMul (tOp rMul (tC (.int 2)) (tVar 5)) (tOp (rIxT K) (tVar 1) (tVar 7)))) (tVar 6)) (gName 6))
  (tSeq (tAsg (tOp rMod (tVar 6) (tFld K (tVar 0) "base")) (gSub (tVar 3) (tOp rAdd (tVar 4) (tVar 7)) rSetL))
  (tAsg (tOp rShr (tVar 6) (tFld K (tVar 0) "width")) (gName 6)))))
  (tSeq (tAsg (tOp rAdd (tVar 4) (tVar 2)) (gName 8))
  (tWhile (tTest (tOp rGt (tVar 6) (tC (.int 0)))) (tSeq (tAsg (tOp rAdd (tVar 6) (tOp (rIxL K) (tVar 3) (tVar 8))) (gName 6))
  (tSeq (tAsg (tOp rMod (tVar 6) (tFld K (tVar 0) "base")) (gSub (tVar 3) (tVar 8) rSetL))
  (tSeq (tAsg (tOp rShr (tVar 6) (tFld K (tVar 0) "width")) (gName 6))
  (tAsg (tOp rAdd (tVar 8) (tC (.int 1))) (gName 8))))))))))))
  (tSeq (tDrop (tMeth c.CMachine "count" (sp_Machine_count K c) [] E0 (tVar 0) (tCons (tC (.str "product")) (tCons (tOp rDiv (tOp rMul (tVar 2) (tOp rAdd (tVar 2) (tC (.int 1)))) (tC (.int 2))) tNil))))
  (tRet (tVar 3)))))))
def b1_z_square_rows_of : PS :=
  (pSeq (pAsg (pOp qAdd (pOp qAdd (pOpO qIxL 3 (pOp qAdd (pVar 4) (pVar 7))) (pOp qMul (pOp qMul (pC (.int 2)) (pVar 5)) (pOp qIxT (pVar 1) (pVar 7)))) (pVar 6)) 6)
  (pSeq (pSetI 3 (pOp qAdd (pVar 4) (pVar 7)) (pOp qMod (pVar 6) (pBase (pVar 0))))
  (pAsg (pOp qShr (pVar 6) (pWidthM (pVar 0))) 6)))
def b2_z_square_rows_of : PS :=
  (pSeq (pAsg (pOp qAdd (pVar 6) (pOpO qIxL 3 (pVar 8))) 6)
  (pSeq (pSetI 3 (pVar 8) (pOp qMod (pVar 6) (pBase (pVar 0))))
  (pSeq (pAsg (pOp qShr (pVar 6) (pWidthM (pVar 0))) 6)
  (pAsg (pOp qAdd (pVar 8) (pC (.int 1))) 8))))
def q4_z_square_rows_of : PS :=
  (pSeq (pAsg (pOp qAdd (pVar 4) (pVar 2)) 8)
  (pWhile (pTest (pOp qGt (pVar 6) (pC (.int 0)))) b2_z_square_rows_of))
def q1_z_square_rows_of : PS :=
  (pSeq (pSetI 3 (pOp qMul (pC (.int 2)) (pVar 4)) (pOp qMod (pVar 6) (pBase (pVar 0))))
  (pSeq (pAsg (pOp qShr (pVar 6) (pWidthM (pVar 0))) 6)
  (pSeq (pFor (pIR2 (pOp qAdd (pVar 4) (pC (.int 1))) (pVar 2)) (pgName 7) b1_z_square_rows_of)
  q4_z_square_rows_of)))
def b3_z_square_rows_of : PS :=
  (pSeq (pAsg (pOp qAdd (pOpO qIxL 3 (pOp qMul (pC (.int 2)) (pVar 4))) (pOp qMul (pVar 5) (pVar 5))) 6)
  q1_z_square_rows_of)
def r4_z_square_rows_of : PS :=
  (pSeq (pDrop (pMethM P_Machine_count (pVar 0) (pCons (pC (.str "product")) (pCons (pOp qDiv (pOp qMul (pVar 2) (pOp qAdd (pVar 2) (pC (.int 1)))) (pC (.int 2))) pNil))))
  (pFrz [3] (pRet (pVar 3))))
def p_z_square_rows_of : PS :=
  (pSeq (pAsg (pCB qLen (pCons (pVar 1) pNil)) 2)
  (pSeq (pDrop (pMethM P_Machine_enter (pVar 0) (pCons (pC (.str "square")) (pCons (pVar 2) (pCons (pVar 2) pNil)))))
  (pSeq (pAsgO (pOpF qRep (pFz (pLst (pCons (pC (.int 0)) pNil))) (pOp qMul (pC (.int 2)) (pVar 2))) 3)
  (pSeq (pFor (pIEnum (pVar 1)) (pgTup [4, 5]) b3_z_square_rows_of)
  r4_z_square_rows_of))))
theorem sn_z_square_rows_of {K : PySem.W.Frag} {c : Pc} {α : Prop} (PM : PM K c) (PB : α) : SndS K c (t_z_square_rows_of K c) p_z_square_rows_of :=
  (snd_seq (snd_asg (snd_cb s_len (snd_cons snd_var snd_nil)))
  (snd_seq (snd_drop (snd_methM (by decide) u_Machine_enter snd_var (snd_cons (snd_str "square") (snd_cons snd_var (snd_cons snd_var snd_nil)))))
  (snd_seq (snd_asgO (snd_opF s_rep (snd_fz (snd_lst (snd_cons (snd_int 0) snd_nil))) (snd_op s_mul (snd_int 2) snd_var)))
  (snd_seq (snd_for (snd_iEnumA snd_var) (snd_gTup (is := [4, 5]) rfl) (snd_seq (snd_asg (snd_op s_add (snd_opO s_ixL (snd_op s_mul (snd_int 2) snd_var)) (snd_op s_mul snd_var snd_var)))
  (snd_seq (snd_setI (snd_op s_mul (snd_int 2) snd_var) (snd_op s_mod snd_var (snd_base PM snd_var)))
  (snd_seq (snd_asg (snd_op s_shr snd_var (snd_widthM PM snd_var)))
  (snd_seq (snd_for (snd_iR2 (snd_op s_add snd_var (snd_int 1)) snd_var) snd_gName (snd_seq (snd_asg (snd_op s_add (snd_op s_add (snd_opO s_ixL (snd_op s_add snd_var snd_var)) (snd_op s_mul (snd_op s_mul (snd_int 2) snd_var) (snd_op s_ixT snd_var snd_var))) snd_var))
  (snd_seq (snd_setI (snd_op s_add snd_var snd_var) (snd_op s_mod snd_var (snd_base PM snd_var)))
  (snd_asg (snd_op s_shr snd_var (snd_widthM PM snd_var))))))
  (snd_seq (snd_asg (snd_op s_add snd_var snd_var))
  (snd_while (snd_test (snd_op s_gt snd_var (snd_int 0))) (snd_seq (snd_asg (snd_op s_add snd_var (snd_opO s_ixL snd_var)))
  (snd_seq (snd_setI snd_var (snd_op s_mod snd_var (snd_base PM snd_var)))
  (snd_seq (snd_asg (snd_op s_shr snd_var (snd_widthM PM snd_var)))
  (snd_asg (snd_op s_add snd_var (snd_int 1)))))))))))))
  (snd_seq (snd_drop (snd_methM (by decide) u_Machine_count snd_var (snd_cons (snd_str "product") (snd_cons (snd_op s_div (snd_op s_mul snd_var (snd_op s_add snd_var (snd_int 1))) (snd_int 2)) snd_nil))))
  (snd_frz (snd_ret snd_var)))))))
theorem n_z_square_rows_of : ∀ ds w k, P_z_square_rows_of ds w k → ds.length = 2 := fun ds w k h => by
  unfold P_z_square_rows_of at h
  split at h
  · rfl
  · exact h.elim
theorem e_z_square_rows_of {i : Nat} {l : List Dat} {w : Wld} {k : Dat → Wld → Prop} : P_z_square_rows_of [.mach i, .tup l] w k = onM w i fun m => ∃ xs : List Nat, l = dN xs ∧ (m.b ≠ 0 ∧ m.b ≤ 60) ∧ Digs m.b xs ∧ xs.length ≤ 2 ^ 20 ∧
      ∀ rs : List Nat, Digs m.b rs → rs.length = 2 * xs.length → val m.b rs = val m.b xs * val m.b xs → k (.lst (dN rs)) (w.put i ((m.ent "square" xs.length xs.length).cnt 2 ((xs.length : Int) * ((xs.length : Int) + 1) / 2))) := rfl
/-- the carry goes up -/
theorem sq_up {D : PEnds} {w : Wld} {i : Nat} {m : Mach} {d1 d5 : Dat} {y7 y8 : Slot} {rs : List Nat} {L c u v T : Nat} (hm : w.ms[i]? = some m) (hb : m.b ≠ 0 ∧ m.b ≤ 60) (hC : Car m.b rs L c (u + v) T) (hp : u + v ≤ L) (hT : T < 2 ^ (m.b * L))
    (h : ∀ rs' y6 y8, Car m.b rs' L 0 0 T → D.nx [.val (.mach i), .val d1, .val (.int (v : Int)), .own true (dN rs'), .val (.int (u : Int)), .val d5, y6, y7, y8] w) :
    q4_z_square_rows_of D [.val (.mach i), .val d1, .val (.int (v : Int)), .own true (dN rs), .val (.int (u : Int)), .val d5, .val (.int (c : Int)), y7, y8] w := by
  have hz := sizeLine_eq
  have hp60 : 2 ^ m.b ≤ 2 ^ 60 := Nat.pow_le_pow_right (by decide) hb.2
  have hpos := Nat.two_pow_pos m.b
  have e1 : ((2 : Int) ^ m.b) = ((2 ^ m.b : Nat) : Int) := by rw [Int.natCast_pow]; rfl
  unfold q4_z_square_rows_of
  walk_at "pu"
  have e0 : (u : Int) + (v : Int) = ((u + v : Nat) : Int) := by omega
  rw [e0]
  refine whl_ind (fun n e w' => w' = w ∧ ∃ (rs : List Nat) (c p : Nat), Car m.b rs L c p T ∧ p + n = L ∧ e = [.val (.mach i), .val d1, .val (.int (v : Int)), .own true (dN rs), .val (.int (u : Int)), .val d5, .val (.int (c : Int)), y7, .val (.int (p : Int))]) (L - (u + v)) ⟨rfl, rs, c, u + v, hC, by omega, rfl⟩ ?_
  rintro n e w' nx ⟨rfl, rs, c, p, hC, hn, rfl⟩ hnx
  walk_at "pu"
  refine ite_2 (fun hc => ?_) fun hc => ?_
  · have hpL : p < L := by
      rcases Nat.lt_or_ge p L with z | z
      · exact z
      · have h1 : 2 ^ (m.b * L) ≤ 2 ^ (m.b * p) := Nat.pow_le_pow_right (by decide) (Nat.mul_le_mul_left _ z)
        have h2 : 2 ^ (m.b * p) * 1 ≤ 2 ^ (m.b * p) * c := Nat.mul_le_mul_left _ (by omega)
        have := hC.eq
        omega
    have hlen := hC.len
    have hstep := hC.step hpL 0
    rw [Nat.mul_zero, Nat.add_zero, Nat.add_zero] at hstep
    unfold b2_z_square_rows_of
    walk_at "pu"
    rw [dN_get0 (by omega), dN_len]
    walk_at "pu"
    rw [ix_nat (by omega)]
    walk_at "pu"
    simp only [onM_is hm]
    have et : (c : Int) + ((rs.getD p 0 : Nat) : Int) = ((rs.getD p 0 + c : Nat) : Int) := by omega
    have ep : (p : Int) + 1 = ((p + 1 : Nat) : Int) := by omega
    rw [et, ep, Int.toNat_natCast, e1, ← Int.natCast_emod, ← Int.natCast_ediv, dN_set]
    exact ⟨by omega, by omega, hnx (n - 1) _ _ (by omega) ⟨rfl, _, _, _, hstep, by omega, rfl⟩⟩
  · have hc0 : c = 0 := by omega
    subst hc0
    exact h rs _ _ ⟨hC.len, hC.dig, by have := hC.eq; simpa using this⟩
theorem w_z_square_rows_of : ∀ ds w k, P_z_square_rows_of ds w k → p_z_square_rows_of (pen k) (env0 9 ds) w := by
  intro ds w k h
  unfold P_z_square_rows_of at h
  split at h
  · rename_i i l
    replace h := onM_of h
    obtain ⟨m, hm, xs, rfl, hb, hdx, hlx, h⟩ := h
    have hz := sizeLine_eq
    have hp60 : 2 ^ m.b ≤ 2 ^ 60 := Nat.pow_le_pow_right (by decide) hb.2
    have hpos := Nat.two_pow_pos m.b
    unfold p_z_square_rows_of
    walk_at "pu"
    rw [onM_is hm, dN_len]
    refine ⟨by omega, mul_okL (by decide) (by decide), ⟨by omega, by omega, by omega⟩, ?_⟩
    have hm2 : (w.put i (m.ent "square" (xs.length : Int) (xs.length : Int))).ms[i]? = some (m.ent "square" (xs.length : Int) (xs.length : Int)) := put_at hm
    have hmb : (m.ent "square" (xs.length : Int) (xs.length : Int)).b = m.b := rfl
    generalize hW : w.put i (m.ent "square" (xs.length : Int) (xs.length : Int)) = W at hm2
    have et : (2 * (xs.length : Int)).toNat = 2 * xs.length := by omega
    rw [et, zeros_dN]
    have e1 : ((2 : Int) ^ m.b) = ((2 ^ m.b : Nat) : Int) := by rw [Int.natCast_pow]; rfl
    have hV := val_lt hdx
    refine lp_ind (fun j e w' => w' = W ∧ ∃ (rs : List Nat) (S : Nat) (y4 y5 y6 y7 y8 : Slot), Car m.b rs (2 * xs.length) 0 0 S ∧ S + (2 ^ (m.b * j) * val m.b (xs.drop j)) * (2 ^ (m.b * j) * val m.b (xs.drop j)) = val m.b xs * val m.b xs ∧ e = [.val (.mach i), .val (.tup (dN xs)), .val (.int (xs.length : Int)), .own true (dN rs), y4, y5, y6, y7, y8])
      ⟨rfl, List.replicate (2 * xs.length) 0, 0, _, _, _, _, _, ⟨List.length_replicate, (fun d hd => by rw [(List.mem_replicate.mp hd).2]; exact hpos), by rw [val_zero_rep]; simp⟩, by simp, rfl⟩ ?_ ?_
    · rintro j d e w' nx hd ⟨rfl, rs, S, y4, y5, y6, y7, y8, hC, hS, rfl⟩ hn
      obtain ⟨hj, rfl⟩ := enm_dN hd
      have hxd := hdx.getD j
      have hdr : val m.b (xs.drop j) = xs.getD j 0 + 2 ^ m.b * val m.b (xs.drop (j + 1)) := by
        rw [List.drop_eq_getElem_cons hj, List.getD_eq_getElem?_getD, List.getElem?_eq_getElem hj]
        rfl
      have hsp : val m.b (xs.take (j + 1)) + 2 ^ (m.b * (j + 1)) * val m.b (xs.drop (j + 1)) = val m.b xs := by
        have := val_app m.b (xs.take (j + 1)) (xs.drop (j + 1))
        rw [List.take_append_drop, List.length_take, Nat.min_eq_left (by omega)] at this
        exact this.symm
      generalize hxx : xs.getD j 0 = x at hxd hdr
      have hlen := hC.len
      unfold b3_z_square_rows_of
      walk_at "pu"
      have ep : 2 * (j : Int) = ((2 * j : Nat) : Int) := by omega
      rw [ep, dN_get0 (by omega)]
      walk_at "pu"
      refine ⟨mul_okL (by decide) (by decide), mul_okL (by omega) (by omega), ?_⟩
      have ex : ((rs.getD (2 * j) 0 : Nat) : Int) + (x : Int) * (x : Int) = ((rs.getD (2 * j) 0 + x * x + 0 : Nat) : Int) := by rw [Nat.add_zero, Int.natCast_add, Int.natCast_mul]
      rw [ex]
      have hC0 : Car m.b rs (2 * xs.length) 0 (2 * j) S := ⟨hC.len, hC.dig, by have := hC.eq; simpa using this⟩
      have hst := hC0.step (by omega) (x * x)
      unfold q1_z_square_rows_of
      walk_at "pu"
      rw [ep, dN_len, ix_nat (by omega)]
      walk_at "pu"
      simp only [onM_is hm2, hmb]
      rw [Int.toNat_natCast, e1, ← Int.natCast_emod, ← Int.natCast_ediv, dN_set]
      refine ⟨by omega, mul_okL (by decide) (by decide), by omega, by omega, ?_⟩
      have hsq : ∀ a c : Nat, (a + c) * (a + c) = a * a + 2 * a * c + c * c := fun a c => by
        rw [Nat.add_mul, Nat.mul_add, Nat.mul_add, Nat.mul_assoc 2 a c, Nat.mul_comm c a]; omega
      have eDD : 2 ^ (m.b * (2 * j)) * (x * x) = (2 ^ (m.b * j) * x) * (2 ^ (m.b * j) * x) := by
        rw [show m.b * (2 * j) = m.b * j + m.b * j by rw [Nat.two_mul, Nat.mul_add], Nat.pow_add]
        rw [Nat.mul_mul_mul_comm]
      rw [eDD] at hst
      have eU : 2 ^ (m.b * j) * val m.b (xs.drop j) = 2 ^ (m.b * j) * x + 2 ^ (m.b * (j + 1)) * val m.b (xs.drop (j + 1)) := by
        rw [hdr, Nat.mul_add, Nat.mul_succ, Nat.pow_add, Nat.mul_assoc]
      rw [eU, hsq] at hS
      generalize hD : 2 ^ (m.b * j) * x = D at *
      generalize hU : 2 ^ (m.b * (j + 1)) * val m.b (xs.drop (j + 1)) = U at *
      refine lp_ind (fun q e w2 => w2 = w' ∧ ∃ (rs : List Nat) (c T : Nat) (y7 : Slot), Car m.b rs (2 * xs.length) c (j + (j + 1 + q)) T ∧ T + 2 * D * val m.b (xs.take (j + 1)) = S + D * D + 2 * D * val m.b (xs.take (j + 1 + q)) ∧
          e = [.val (.mach i), .val (.tup (dN xs)), .val (.int (xs.length : Int)), .own true (dN rs), .val (.int (j : Int)), .val (.int (x : Int)), .val (.int (c : Int)), y7, y8]) ⟨rfl, _, _, _, _, (show j + (j + 1 + 0) = 2 * j + 1 by omega) ▸ hst, rfl, rfl⟩ ?_ ?_
      · rintro q d e w2 nx' hd ⟨rfl, rs, c, T, y7, hC, hTT, rfl⟩ hn'
        obtain ⟨hq, rfl⟩ := rng_get hd
        have hq2 : j + 1 + q < xs.length := by omega
        have hyd := hdx.getD (j + 1 + q)
        have hlen := hC.len
        have hstep := hC.step (show j + (j + 1 + q) < 2 * xs.length by omega) (2 * x * xs.getD (j + 1 + q) 0)
        unfold b1_z_square_rows_of
        walk_at "pu"
        have ep : (j : Int) + ((j : Int) + 1 + (q : Int)) = ((j + (j + 1 + q) : Nat) : Int) := by omega
        have ek : (j : Int) + 1 + (q : Int) = ((j + 1 + q : Nat) : Int) := by omega
        rw [ep, ek, dN_get0 (by omega), dN_get0 (by omega), dN_len]
        walk_at "pu"
        rw [ix_nat (by omega)]
        walk_at "pu"
        simp only [onM_is hm2, hmb]
        have et : ((rs.getD (j + (j + 1 + q)) 0 : Nat) : Int) + 2 * (x : Int) * ((xs.getD (j + 1 + q) 0 : Nat) : Int) + (c : Int) = ((rs.getD (j + (j + 1 + q)) 0 + 2 * x * xs.getD (j + 1 + q) 0 + c : Nat) : Int) := by
          rw [Int.natCast_add, Int.natCast_add, Int.natCast_mul, Int.natCast_mul]; rfl
        rw [et, Int.toNat_natCast, e1, ← Int.natCast_emod, ← Int.natCast_ediv, dN_set]
        refine ⟨mul_okL (by decide) (by decide), mul_okL (by omega) (by omega), by omega, by omega, hn' _ _ ⟨rfl, _, _, _, _, hstep, ?_, rfl⟩⟩
        have eV : val m.b (xs.take (j + 1 + (q + 1))) = val m.b (xs.take (j + 1 + q)) + 2 ^ (m.b * (j + 1 + q)) * xs.getD (j + 1 + q) 0 := val_take m.b xs (j + 1 + q)
        rw [eV, Nat.mul_add (2 * D)]
        have eX : 2 ^ (m.b * (j + (j + 1 + q))) * (2 * x * xs.getD (j + 1 + q) 0) = 2 * D * (2 ^ (m.b * (j + 1 + q)) * xs.getD (j + 1 + q) 0) := by
          rw [← hD, Nat.mul_add m.b j, Nat.pow_add]
          generalize 2 ^ (m.b * j) = A
          generalize 2 ^ (m.b * (j + 1 + q)) = B
          generalize xs.getD (j + 1 + q) 0 = y
          have h1 : 2 * x * y = x * (2 * y) := by rw [Nat.mul_comm 2 x, Nat.mul_assoc]
          have h2 : 2 * (A * x) = A * x * 2 := Nat.mul_comm _ _
          rw [h1, h2, Nat.mul_mul_mul_comm, Nat.mul_assoc (A * x) 2]
          congr 1
          rw [Nat.mul_left_comm]
        omega
      · rintro e w2 ⟨rfl, rs, c, T, y7, hC, hTT, rfl⟩
        rw [rng_len] at hC hTT
        have eL : j + 1 + ((xs.length : Int) - ((j : Int) + 1)).toNat = xs.length := by omega
        rw [eL] at hC hTT
        rw [List.take_length, ← hsp, Nat.mul_add] at hTT
        have hT1 : T = S + D * D + 2 * D * U := by omega
        have hT2 : T + U * U = val m.b xs * val m.b xs := by rw [hT1, ← hS]; omega
        have hTl : T < 2 ^ (m.b * (2 * xs.length)) := by
          have h1 : val m.b xs * val m.b xs < 2 ^ (m.b * xs.length) * 2 ^ (m.b * xs.length) := Nat.mul_lt_mul'' hV hV
          rw [← Nat.pow_add, ← Nat.mul_add, ← Nat.two_mul] at h1
          omega
        exact sq_up hm2 hb hC (by omega) hTl fun rs' y6 y8 hC' => hn _ _ ⟨rfl, rs', T, _, _, _, _, _, hC', hT2, rfl⟩
    · rintro e w' ⟨rfl, rs, S, y4, y5, y6, y7, y8, hC, hS, rfl⟩
      rw [enm_len, dN_len, List.drop_length] at hS
      unfold r4_z_square_rows_of
      walk_at "pu"
      rw [onM_is hm2]
      have hv : val m.b rs = val m.b xs * val m.b xs := by
        have := hC.eq
        simp [val] at this hS
        omega
      have := h rs hC.dig hC.len hv
      rw [← hW, put_put]
      refine ⟨(show L2.CMul _ _ from .inl (by omega)).ok, div_ok64 (by decide) (by decide), this⟩
  · exact h.elim
theorem b_z_square_rows_of {K : PySem.W.Frag} {c : Pc} {vs : List V} {H : Hp} {Q : VK} {E : XK} {α : Prop} (PM : PM K c) (PB : α) (h : sp_z_square_rows_of K c vs H Q E) : t_z_square_rows_of K c (en0 Q) (st0 9 vs) H := def_ok (sn_z_square_rows_of PM PB) w_z_square_rows_of h
/-! ### products of Bigs -/
def rowsM (m : Mach) (n n' : Int) : Mach := (m.ent "rows" (digs m.b n.natAbs).length (digs m.b n'.natAbs).length).cnt 2 (((digs m.b n.natAbs).length : Int) * ((digs m.b n'.natAbs).length : Int))
def sqrM (m : Mach) (n : Int) : Mach := (m.ent "square" (digs m.b n.natAbs).length (digs m.b n.natAbs).length).cnt 2 (((digs m.b n.natAbs).length : Int) * (((digs m.b n.natAbs).length : Int) + 1) / 2)
def P_z_multiply_by_rows : PSp := fun ds w k => match ds with
  | [.mach i, .big b n, .big b' n'] => onM w i fun m => (b = m.b ∧ b' = m.b) ∧ (m.b ≠ 0 ∧ m.b ≤ 60) ∧ ((digs m.b n.natAbs).length ≤ 2 ^ 20 ∧ (digs m.b n'.natAbs).length ≤ 2 ^ 20) ∧ k (.big m.b (n * n')) (w.put i (rowsM m n n'))
  | _ => False
def sp_z_multiply_by_rows (K : PySem.W.Frag) (c : Pc) : Sp := lif K c P_z_multiply_by_rows
theorem u_z_multiply_by_rows {K : PySem.W.Frag} {c : Pc} : SndP K c (sp_z_multiply_by_rows K c) P_z_multiply_by_rows := SndP.lif
/-- 0:machine 1:x 2:y -/
def t_z_multiply_by_rows (K : PySem.W.Frag) (c : Pc) : TS :=
  (tSeq (tDrop (tCall (sp_check_bigs K c) [] E0 (tCons (tVar 0) (tCons (tVar 1) (tCons (tVar 2) tNil)))))
  (tRet (tCall (sp_made K c) [] E0 (tCons (tVar 0) (tCons (tOp rMul (tFld K (tVar 1) "side") (tFld K (tVar 2) "side")) (tCons (tCall (sp_z_rows_of K c) [] E0 (tCons (tVar 0) (tCons (tFld K (tVar 1) "row") (tCons (tFld K (tVar 2) "row") tNil)))) tNil))))))
def p_z_multiply_by_rows : PS :=
  (pSeq (pDrop (pCall P_check_bigs (pCons (pVar 0) (pCons (pVar 1) (pCons (pVar 2) pNil)))))
  (pRet (pCall P_made (pCons (pVar 0) (pCons (pOp qMul (pSide (pVar 1)) (pSide (pVar 2))) (pCons (pCall P_z_rows_of (pCons (pVar 0) (pCons (pRow (pVar 1)) (pCons (pRow (pVar 2)) pNil)))) pNil))))))
theorem sn_z_multiply_by_rows {K : PySem.W.Frag} {c : Pc} (PM : PM K c) (PB : PB K c) : SndS K c (t_z_multiply_by_rows K c) p_z_multiply_by_rows :=
  (snd_seq (snd_drop (snd_call u_check_bigs (snd_cons snd_var (snd_cons snd_var (snd_cons snd_var snd_nil)))))
  (snd_ret (snd_call u_made (snd_cons snd_var (snd_cons (snd_op s_mul (snd_side PB snd_var) (snd_side PB snd_var)) (snd_cons (snd_call u_z_rows_of (snd_cons snd_var (snd_cons (snd_row PB snd_var) (snd_cons (snd_row PB snd_var) snd_nil)))) snd_nil))))))
theorem n_z_multiply_by_rows : ∀ ds w k, P_z_multiply_by_rows ds w k → ds.length = 3 := fun ds w k h => by
  unfold P_z_multiply_by_rows at h
  split at h
  · rfl
  · exact h.elim
theorem e_z_multiply_by_rows {i b b' : Nat} {n n' : Int} {w : Wld} {k : Dat → Wld → Prop} : P_z_multiply_by_rows [.mach i, .big b n, .big b' n'] w k = onM w i fun m => (b = m.b ∧ b' = m.b) ∧ (m.b ≠ 0 ∧ m.b ≤ 60) ∧ ((digs m.b n.natAbs).length ≤ 2 ^ 20 ∧ (digs m.b n'.natAbs).length ≤ 2 ^ 20) ∧ k (.big m.b (n * n')) (w.put i (rowsM m n n')) := rfl
theorem w_z_multiply_by_rows : ∀ ds w k, P_z_multiply_by_rows ds w k → p_z_multiply_by_rows (pen k) (env0 3 ds) w := by
  intro ds w k h
  unfold P_z_multiply_by_rows at h
  split at h
  · rename_i i b n b' n'
    replace h := onM_of h
    obtain ⟨m, hm, ⟨rfl, rfl⟩, hb, ⟨hl1, hl2⟩, h⟩ := h
    have hz := sizeLine_eq
    have hs : ∀ z : Int, sgn z = 1 ∨ sgn z = -1 ∨ (sgn z = 0 ∧ z.natAbs = 0) := fun z => by
      unfold sgn
      split
      · exact .inr (.inl rfl)
      · split
        · rename_i _ e
          exact .inr (.inr ⟨rfl, by rw [e]; rfl⟩)
        · exact .inl rfl
    unfold p_z_multiply_by_rows
    walk_at "pu"
    rw [onM_is hm]
    refine ⟨rfl, rfl, (show L2.CMul _ _ from .inl (by rcases hs n with z | z | ⟨z, _⟩ <;> rw [z] <;> decide)).ok, ?_⟩
    rw [e_z_rows_of, onM_is hm]
    refine ⟨_, _, rfl, rfl, hb, ⟨digs_lt hb.1 _, digs_lt hb.1 _⟩, ⟨hl1, hl2⟩, fun rs hd hl hv => ?_⟩
    rw [e_made, onM_put hm]
    rw [val_digs hb.1, val_digs hb.1] at hv
    refine ⟨rs, rfl, hb.1, hd, by omega, ?_, ?_⟩
    · show sgnOk _ (val m.b rs)
      rw [hv]
      unfold sgnOk
      rcases hs n with z | z | ⟨z, z2⟩ <;> rcases hs n' with y | y | ⟨y, y2⟩ <;> rw [z, y] <;> simp [*]
    · show k (.big m.b (sgn n * sgn n' * ((val m.b rs : Nat) : Int))) _
      have e : sgn n * sgn n' * ((val m.b rs : Nat) : Int) = n * n' := by
        rw [hv, Int.natCast_mul, Int.mul_assoc, Int.mul_left_comm (sgn n') _ _, ← Int.mul_assoc, sgn_mul, sgn_mul]
      rw [e]
      exact h
  · exact h.elim
theorem b_z_multiply_by_rows {K : PySem.W.Frag} {c : Pc} {vs : List V} {H : Hp} {Q : VK} {E : XK} (PM : PM K c) (PB : PB K c) (h : sp_z_multiply_by_rows K c vs H Q E) : t_z_multiply_by_rows K c (en0 Q) (st0 3 vs) H := def_ok (sn_z_multiply_by_rows PM PB) w_z_multiply_by_rows h
def P_z_square_by_rows : PSp := fun ds w k => match ds with
  | [.mach i, .big b n] => onM w i fun m => b = m.b ∧ (m.b ≠ 0 ∧ m.b ≤ 60) ∧ (digs m.b n.natAbs).length ≤ 2 ^ 20 ∧ k (.big m.b (n * n)) (w.put i (sqrM m n))
  | _ => False
def sp_z_square_by_rows (K : PySem.W.Frag) (c : Pc) : Sp := lif K c P_z_square_by_rows
theorem u_z_square_by_rows {K : PySem.W.Frag} {c : Pc} : SndP K c (sp_z_square_by_rows K c) P_z_square_by_rows := SndP.lif
/-- 0:machine 1:x -/
def t_z_square_by_rows (K : PySem.W.Frag) (c : Pc) : TS :=
  (tSeq (tDrop (tCall (sp_check_machine K c) [] E0 (tCons (tVar 0) tNil)))
  (tSeq (tDrop (tCall (sp_check_big K c) [] E0 (tCons (tVar 0) (tCons (tC (.str "x")) (tCons (tVar 1) tNil)))))
  (tRet (tCall (sp_made K c) [] E0 (tCons (tVar 0) (tCons (tC (.int 1)) (tCons (tCall (sp_z_square_rows_of K c) [] E0 (tCons (tVar 0) (tCons (tFld K (tVar 1) "row") tNil))) tNil)))))))
def p_z_square_by_rows : PS :=
  (pSeq (pDrop (pCall P_check_machine (pCons (pVar 0) pNil)))
  (pSeq (pDrop (pCall P_check_big (pCons (pVar 0) (pCons (pC (.str "x")) (pCons (pVar 1) pNil)))))
  (pRet (pCall P_made (pCons (pVar 0) (pCons (pC (.int 1)) (pCons (pCall P_z_square_rows_of (pCons (pVar 0) (pCons (pRow (pVar 1)) pNil))) pNil)))))))
theorem sn_z_square_by_rows {K : PySem.W.Frag} {c : Pc} (PM : PM K c) (PB : PB K c) : SndS K c (t_z_square_by_rows K c) p_z_square_by_rows :=
  (snd_seq (snd_drop (snd_call u_check_machine (snd_cons snd_var snd_nil)))
  (snd_seq (snd_drop (snd_call u_check_big (snd_cons snd_var (snd_cons (snd_str "x") (snd_cons snd_var snd_nil)))))
  (snd_ret (snd_call u_made (snd_cons snd_var (snd_cons (snd_int 1) (snd_cons (snd_call u_z_square_rows_of (snd_cons snd_var (snd_cons (snd_row PB snd_var) snd_nil))) snd_nil)))))))
theorem n_z_square_by_rows : ∀ ds w k, P_z_square_by_rows ds w k → ds.length = 2 := fun ds w k h => by
  unfold P_z_square_by_rows at h
  split at h
  · rfl
  · exact h.elim
theorem e_z_square_by_rows {i b : Nat} {n : Int} {w : Wld} {k : Dat → Wld → Prop} : P_z_square_by_rows [.mach i, .big b n] w k = onM w i fun m => b = m.b ∧ (m.b ≠ 0 ∧ m.b ≤ 60) ∧ (digs m.b n.natAbs).length ≤ 2 ^ 20 ∧ k (.big m.b (n * n)) (w.put i (sqrM m n)) := rfl
theorem w_z_square_by_rows : ∀ ds w k, P_z_square_by_rows ds w k → p_z_square_by_rows (pen k) (env0 2 ds) w := by
  intro ds w k h
  unfold P_z_square_by_rows at h
  split at h
  · rename_i i b n
    replace h := onM_of h
    obtain ⟨m, hm, rfl, hb, hl1, h⟩ := h
    have hz := sizeLine_eq
    unfold p_z_square_by_rows
    walk_at "pu"
    simp only [onM_is hm]
    refine ⟨trivial, ?_⟩
    rw [e_z_square_rows_of, onM_is hm]
    refine ⟨_, rfl, hb, digs_lt hb.1 _, hl1, fun rs hd hl hv => ?_⟩
    rw [e_made, onM_put hm]
    rw [val_digs hb.1] at hv
    refine ⟨rs, rfl, hb.1, hd, by omega, .inl rfl, ?_⟩
    show k (.big m.b (1 * ((val m.b rs : Nat) : Int))) _
    have e : 1 * ((val m.b rs : Nat) : Int) = n * n := by
      rw [hv, Int.one_mul, Int.natCast_mul, Int.natAbs_mul_self']
    rw [e]
    exact h
  · exact h.elim
theorem b_z_square_by_rows {K : PySem.W.Frag} {c : Pc} {vs : List V} {H : Hp} {Q : VK} {E : XK} (PM : PM K c) (PB : PB K c) (h : sp_z_square_by_rows K c vs H Q E) : t_z_square_by_rows K c (en0 Q) (st0 2 vs) H := def_ok (sn_z_square_by_rows PM PB) w_z_square_by_rows h

/-! K13: products by rows. -/
def P_k13_right : PSpO := fun ds l w k => match ds with
  | [] => ∃ z, Prs z l ∧ z + 200 < 2 ^ 40 ∧ ∀ l' w', Prs (z + 200) l' → k (.bl true) l' w'
  | _ => False
def sp_k13_right (K : PySem.W.Frag) (c : Pc) : Sp := lifO K c P_k13_right
theorem uO_k13_right {K : PySem.W.Frag} {c : Pc} : SndPO K c (sp_k13_right K c) P_k13_right := SndPO.lif
/-- 0:_law_purse_here 1:_law_bits 2:_law_engine 3:_law_rows 4:_law_turn 5:_law_one 6:_law_two 7:_law_row_here 8:_law_m 9:_law_n 10:_law_left 11:_law_right_here 12:_law_due 13:_law_got -/
def t_k13_right (K : PySem.W.Frag) (c : Pc) : TS :=
  (tSeq (tAsg (tCall (sp_z_pick K c) [] E0 (tCons (tVar 0) (tCons (tLst (tCons (tC (.int 8)) (tCons (tC (.int 9)) (tCons (tC (.int 15)) (tCons (tC (.int 30)) (tCons (tOp rAdd (tC (.int 8)) (tCall (sp_z_coin K c) [] E0 (tCons (tVar 0) (tCons (tC (.int 23)) tNil)))) tNil)))))) tNil))) (gName 1))
  (tSeq (tAsg (tMake c.CMachine (sp_Machine_init K c) [] E0 (tCons (tVar 1) (tCons (tOp rAdd (tC (.int 2)) (tCall (sp_z_coin K c) [] E0 (tCons (tVar 0) (tCons (tC (.int 9)) tNil)))) tNil))) (gName 2))
  (tSeq (tAsg (tLc (iRng1 (tCons (tC (.int 2)) tNil)) (gName 4) tYes (tCall (sp_z_prow K c) [] E0 (tCons (tVar 0) (tCons (tVar 1) (tCons (tCall (sp_z_coin K c) [] E0 (tCons (tVar 0) (tCons (tC (.int 15)) tNil))) tNil)))) [4]) (gName 3))
  (tSeq (tAsg (tLc (iList K (tVar 3)) (gName 7) tYes (tOp rMul (tCall (sp_z_worth K c) [] E0 (tCons (tVar 1) (tCons (tVar 7) tNil))) (tCall (sp_z_pick K c) [] E0 (tCons (tVar 0) (tCons (tLst (tCons (tC (.int 1)) (tCons (tC (.int 1)) (tCons (tUn rNeg (tC (.int 1))) tNil)))) tNil)))) [7]) (gUnl K 2 (gCons (gName 5) (gCons (gName 6) gNil))))
  (tSeq (tAsg (tTup (tCons (tCB (rLen K) (tCons (tOp (rIxL K) (tVar 3) (tC (.int 0))) tNil)) (tCons (tCB (rLen K) (tCons (tOp (rIxL K) (tVar 3) (tC (.int 1))) tNil)) (tCons (tCall (sp_big K c) [] E0 (tCons (tVar 2) (tCons (tVar 5) tNil))) (tCons (tCall (sp_big K c) [] E0 (tCons (tVar 2) (tCons (tVar 6) tNil))) tNil))))) (gTup K 4 (gCons (gName 8) (gCons (gName 9) (gCons (gName 10) (gCons (gName 11) gNil))))))
  (tSeq (tIfS (tNot (L2.tB (tCall (sp_z_is K c) [] E0 (tCons (tCall (sp_z_multiply_by_rows K c) [] E0 (tCons (tVar 2) (tCons (tVar 10) (tCons (tVar 11) tNil)))) (tCons (tVar 1) (tCons (tOp rMul (tVar 5) (tVar 6)) tNil)))))) (tRet (tC (.bl false))) tNext)
  (tSeq (tAsg (tTup (tCons (tIf (tTest (tOp rGt (tOp rMul (tVar 8) (tVar 9)) (tC (.int 0)))) (tDisp [((tC (.str "product")), (tOp rMul (tVar 8) (tVar 9)))]) tDNewK) (tCons (tLst (tCons (tTup (tCons (tC (.str "rows")) (tCons (tVar 8) (tCons (tVar 9) tNil)))) tNil)) tNil))) (gName 12))
  (tSeq (tIfS (tTest (tOp (rNeTD K) (tCall (sp_z_pcounted K c) [] E0 (tCons (tVar 2) tNil)) (tVar 12))) (tRet (tC (.bl false))) tNext)
  (tSeq (tAsg (tKw 3 (sp_z_multiply_by_rows K c) (perm [2, 1, 0]) E0 (tCons (tVar 11) (tCons (tVar 10) (tCons (tVar 2) tNil)))) (gName 13))
  (tSeq (tIfS (tOr (tTest (tOp (rOwnNe K c.CBig (sp_Big_eq K c) E0) (tVar 13) (tCall (sp_big K c) [] E0 (tCons (tVar 2) (tCons (tOp rMul (tVar 5) (tVar 6)) tNil))))) (tTest (tOp (rNeTD K) (tCall (sp_z_pcounted K c) [] E0 (tCons (tVar 2) tNil)) (tVar 12)))) (tRet (tC (.bl false))) tNext)
  (tSeq (tIfS (tNot (L2.tB (tCall (sp_z_is K c) [] E0 (tCons (tCall (sp_z_square_by_rows K c) [] E0 (tCons (tVar 2) (tCons (tVar 10) tNil))) (tCons (tVar 1) (tCons (tOp rMul (tVar 5) (tVar 5)) tNil)))))) (tRet (tC (.bl false))) tNext)
  (tSeq (tAsg (tTup (tCons (tIf (tTest (tOp rGt (tVar 8) (tC (.int 0)))) (tDisp [((tC (.str "product")), (tOp rDiv (tOp rMul (tVar 8) (tOp rAdd (tVar 8) (tC (.int 1)))) (tC (.int 2))))]) tDNewK) (tCons (tLst (tCons (tTup (tCons (tC (.str "square")) (tCons (tVar 8) (tCons (tVar 8) tNil)))) tNil)) tNil))) (gName 12))
  (tSeq (tIfS (tOr (tTest (tOp (rNeTD K) (tCall (sp_z_pcounted K c) [] E0 (tCons (tVar 2) tNil)) (tVar 12))) (tTest (tOp (rOwnNe K c.CBig (sp_Big_eq K c) E0) (tKw 2 (sp_z_square_by_rows K c) (perm [1, 0]) E0 (tCons (tVar 10) (tCons (tVar 2) tNil))) (tCall (sp_big K c) [] E0 (tCons (tVar 2) (tCons (tOp rMul (tVar 5) (tVar 5)) tNil)))))) (tRet (tC (.bl false))) tNext)
  (tSeq (tIfS (tTest (tOp (rNeTD K) (tCall (sp_z_pcounted K c) [] E0 (tCons (tVar 2) tNil)) (tVar 12))) (tRet (tC (.bl false))) tNext)
  (tRet (tOp (rEqD K) (tTup (tCons (tCall (sp_plain K c) [] E0 (tCons (tVar 10) tNil)) (tCons (tCall (sp_plain K c) [] E0 (tCons (tVar 11) tNil)) tNil))) (tTup (tCons (tVar 5) (tCons (tVar 6) tNil)))))))))))))))))))
def r13_k13_right : PS :=
  (pSeq (pIfS (pTest (pOp qNeTD (pCall P_z_pcounted (pCons (pVar 2) pNil)) (pVar 12))) (pRet (pC (.bl false))) pNext)
  (pRet (pOp qEqD (pTup (pCons (pCall P_plain (pCons (pVar 10) pNil)) (pCons (pCall P_plain (pCons (pVar 11) pNil)) pNil))) (pTup (pCons (pVar 5) (pCons (pVar 6) pNil))))))
def r12_k13_right : PS :=
  (pSeq (pIfS (pOr (pTest (pOp qNeTD (pCall P_z_pcounted (pCons (pVar 2) pNil)) (pVar 12))) (pTest (pOp qNeB (pKw 2 P_z_square_by_rows [1, 0] (pCons (pVar 10) (pCons (pVar 2) pNil))) (pCall P_big (pCons (pVar 2) (pCons (pOp qMul (pVar 5) (pVar 5)) pNil)))))) (pRet (pC (.bl false))) pNext)
  r13_k13_right)
def r11_k13_right : PS :=
  (pSeq (pAsg (pTup (pCons (pIf (pTest (pOp qGt (pVar 8) (pC (.int 0)))) (pDisp [("product", (pOp qDiv (pOp qMul (pVar 8) (pOp qAdd (pVar 8) (pC (.int 1)))) (pC (.int 2))))]) pDNew) (pCons (pFz (pLst (pCons (pTup (pCons (pC (.str "square")) (pCons (pVar 8) (pCons (pVar 8) pNil)))) pNil))) pNil))) 12)
  r12_k13_right)
def r10_k13_right : PS :=
  (pSeq (pIfS (pNot (pTest (pCall P_z_is (pCons (pCall P_z_square_by_rows (pCons (pVar 2) (pCons (pVar 10) pNil))) (pCons (pVar 1) (pCons (pOp qMul (pVar 5) (pVar 5)) pNil)))))) (pRet (pC (.bl false))) pNext)
  r11_k13_right)
def r8_k13_right : PS :=
  (pSeq (pAsg (pKw 3 P_z_multiply_by_rows [2, 1, 0] (pCons (pVar 11) (pCons (pVar 10) (pCons (pVar 2) pNil)))) 13)
  (pSeq (pIfS (pOr (pTest (pOp qNeB (pVar 13) (pCall P_big (pCons (pVar 2) (pCons (pOp qMul (pVar 5) (pVar 6)) pNil))))) (pTest (pOp qNeTD (pCall P_z_pcounted (pCons (pVar 2) pNil)) (pVar 12)))) (pRet (pC (.bl false))) pNext)
  r10_k13_right))
def r7_k13_right : PS :=
  (pSeq (pIfS (pTest (pOp qNeTD (pCall P_z_pcounted (pCons (pVar 2) pNil)) (pVar 12))) (pRet (pC (.bl false))) pNext)
  r8_k13_right)
def r6_k13_right : PS :=
  (pSeq (pAsg (pTup (pCons (pIf (pTest (pOp qGt (pOp qMul (pVar 8) (pVar 9)) (pC (.int 0)))) (pDisp [("product", (pOp qMul (pVar 8) (pVar 9)))]) pDNew) (pCons (pFz (pLst (pCons (pTup (pCons (pC (.str "rows")) (pCons (pVar 8) (pCons (pVar 9) pNil)))) pNil))) pNil))) 12)
  r7_k13_right)
def r5_k13_right : PS :=
  (pSeq (pIfS (pNot (pTest (pCall P_z_is (pCons (pCall P_z_multiply_by_rows (pCons (pVar 2) (pCons (pVar 10) (pCons (pVar 11) pNil)))) (pCons (pVar 1) (pCons (pOp qMul (pVar 5) (pVar 6)) pNil)))))) (pRet (pC (.bl false))) pNext)
  r6_k13_right)
def r4_k13_right : PS :=
  (pSeq (pAsgG (pTup (pCons (pCB qLen (pCons (pOp qIxL (pVar 3) (pC (.int 0))) pNil)) (pCons (pCB qLen (pCons (pOp qIxL (pVar 3) (pC (.int 1))) pNil)) (pCons (pCall P_big (pCons (pVar 2) (pCons (pVar 5) pNil))) (pCons (pCall P_big (pCons (pVar 2) (pCons (pVar 6) pNil))) pNil))))) (pgTup [8, 9, 10, 11]))
  r5_k13_right)
def r3_k13_right : PS :=
  (pSeq (pAsgG (pFz (pLc (pIL (pVar 3)) (pgName 7) pYes (pOp qMul (pCall P_z_worth (pCons (pVar 1) (pCons (pVar 7) pNil))) (pCallO P_z_pick 0 (pCons (pFz (pLst (pCons (pC (.int 1)) (pCons (pC (.int 1)) (pCons (pUn qNeg (pC (.int 1))) pNil))))) pNil))) [7])) (pgUnl [5, 6]))
  r4_k13_right)
def r2_k13_right : PS :=
  (pSeq (pAsg (pFz (pLc (pIR1 (pC (.int 2))) (pgName 4) pYes (pCallO P_z_prow 0 (pCons (pVar 1) (pCons (pCallO P_z_coin 0 (pCons (pC (.int 15)) pNil)) pNil))) [4])) 3)
  r3_k13_right)
def p_k13_right : PS :=
  (pSeq (pAsg (pCallO P_z_pick 0 (pCons (pFz (pLst (pCons (pC (.int 8)) (pCons (pC (.int 9)) (pCons (pC (.int 15)) (pCons (pC (.int 30)) (pCons (pOp qAdd (pC (.int 8)) (pCallO P_z_coin 0 (pCons (pC (.int 23)) pNil))) pNil))))))) pNil)) 1)
  (pSeq (pAsg (pCallD P_Machine [] (pCons (pVar 1) (pCons (pOp qAdd (pC (.int 2)) (pCallO P_z_coin 0 (pCons (pC (.int 9)) pNil))) pNil))) 2)
  r2_k13_right))
theorem sn_k13_right {K : PySem.W.Frag} {c : Pc} {α : Prop} (PM : PM K c) (PB : α) : SndS K c (t_k13_right K c) p_k13_right :=
  (snd_seq (snd_asg (snd_callO uO_z_pick (snd_cons (snd_fz (snd_lst (snd_cons (snd_int 8) (snd_cons (snd_int 9) (snd_cons (snd_int 15) (snd_cons (snd_int 30) (snd_cons (snd_op s_add (snd_int 8) (snd_callO uO_z_coin (snd_cons (snd_int 23) snd_nil))) snd_nil))))))) snd_nil)))
  (snd_seq (snd_asg (snd_mkM (fun _ => .nil) (snd_cons snd_var (snd_cons (snd_op s_add (snd_int 2) (snd_callO uO_z_coin (snd_cons (snd_int 9) snd_nil))) snd_nil))))
  (snd_seq (snd_asg (snd_fz (snd_lc (snd_iR1 (snd_int 2)) snd_gName (tgt_name _) snd_yes (snd_callO uO_z_prow (snd_cons snd_var (snd_cons (snd_callO uO_z_coin (snd_cons (snd_int 15) snd_nil)) snd_nil))))))
  (snd_seq (snd_asgG (snd_fz (snd_lc (snd_iList snd_var) snd_gName (tgt_name _) snd_yes (snd_op s_mul (snd_call u_z_worth (snd_cons snd_var (snd_cons snd_var snd_nil))) (snd_callO uO_z_pick (snd_cons (snd_fz (snd_lst (snd_cons (snd_int 1) (snd_cons (snd_int 1) (snd_cons (snd_neg (snd_int 1)) snd_nil))))) snd_nil))))) (snd_gUnl (is := [5, 6]) rfl))
  (snd_seq (snd_asgG (snd_tup (snd_cons (snd_cb s_len (snd_cons (snd_op s_ixL snd_var (snd_int 0)) snd_nil)) (snd_cons (snd_cb s_len (snd_cons (snd_op s_ixL snd_var (snd_int 1)) snd_nil)) (snd_cons (snd_call u_big (snd_cons snd_var (snd_cons snd_var snd_nil))) (snd_cons (snd_call u_big (snd_cons snd_var (snd_cons snd_var snd_nil))) snd_nil))))) (snd_gTup (is := [8, 9, 10, 11]) rfl))
  (snd_seq (snd_ifS (snd_not (snd_tB (snd_call u_z_is (snd_cons (snd_call u_z_multiply_by_rows (snd_cons snd_var (snd_cons snd_var (snd_cons snd_var snd_nil)))) (snd_cons snd_var (snd_cons (snd_op s_mul snd_var snd_var) snd_nil)))))) (snd_ret (snd_bl false)) snd_next)
  (snd_seq (snd_asg (snd_tup (snd_cons (snd_if (snd_test (snd_op s_gt (snd_op s_mul snd_var snd_var) (snd_int 0))) (snd_disp (show SndD K c _ _ from ⟨rfl, (snd_op s_mul snd_var snd_var), trivial⟩)) snd_dnew) (snd_cons (snd_fz (snd_lst (snd_cons (snd_tup (snd_cons (snd_str "rows") (snd_cons snd_var (snd_cons snd_var snd_nil)))) snd_nil))) snd_nil))))
  (snd_seq (snd_ifS (snd_test (snd_op s_neTD (snd_call u_z_pcounted (snd_cons snd_var snd_nil)) snd_var)) (snd_ret (snd_bl false)) snd_next)
  (snd_seq (snd_asg (snd_kw u_z_multiply_by_rows (snd_cons snd_var (snd_cons snd_var (snd_cons snd_var snd_nil)))))
  (snd_seq (snd_ifS (snd_or (snd_test (snd_op s_neB snd_var (snd_call u_big (snd_cons snd_var (snd_cons (snd_op s_mul snd_var snd_var) snd_nil))))) (snd_test (snd_op s_neTD (snd_call u_z_pcounted (snd_cons snd_var snd_nil)) snd_var))) (snd_ret (snd_bl false)) snd_next)
  (snd_seq (snd_ifS (snd_not (snd_tB (snd_call u_z_is (snd_cons (snd_call u_z_square_by_rows (snd_cons snd_var (snd_cons snd_var snd_nil))) (snd_cons snd_var (snd_cons (snd_op s_mul snd_var snd_var) snd_nil)))))) (snd_ret (snd_bl false)) snd_next)
  (snd_seq (snd_asg (snd_tup (snd_cons (snd_if (snd_test (snd_op s_gt snd_var (snd_int 0))) (snd_disp (show SndD K c _ _ from ⟨rfl, (snd_op s_div (snd_op s_mul snd_var (snd_op s_add snd_var (snd_int 1))) (snd_int 2)), trivial⟩)) snd_dnew) (snd_cons (snd_fz (snd_lst (snd_cons (snd_tup (snd_cons (snd_str "square") (snd_cons snd_var (snd_cons snd_var snd_nil)))) snd_nil))) snd_nil))))
  (snd_seq (snd_ifS (snd_or (snd_test (snd_op s_neTD (snd_call u_z_pcounted (snd_cons snd_var snd_nil)) snd_var)) (snd_test (snd_op s_neB (snd_kw u_z_square_by_rows (snd_cons snd_var (snd_cons snd_var snd_nil))) (snd_call u_big (snd_cons snd_var (snd_cons (snd_op s_mul snd_var snd_var) snd_nil)))))) (snd_ret (snd_bl false)) snd_next)
  (snd_seq (snd_ifS (snd_test (snd_op s_neTD (snd_call u_z_pcounted (snd_cons snd_var snd_nil)) snd_var)) (snd_ret (snd_bl false)) snd_next)
  (snd_ret (snd_op s_eqD (snd_tup (snd_cons (snd_call u_plain (snd_cons snd_var snd_nil)) (snd_cons (snd_call u_plain (snd_cons snd_var snd_nil)) snd_nil))) (snd_tup (snd_cons snd_var (snd_cons snd_var snd_nil)))))))))))))))))))
theorem n_k13_right : ∀ ds l w k, P_k13_right ds l w k → ds.length + 1 = 1 := fun ds l w k h => by
  unfold P_k13_right at h
  split at h
  · rfl
  · exact h.elim
theorem eqDs_refl {l : List (Str × Int)} (h : (l.map (·.1)).Nodup) : EqDs l l := ⟨rfl, h, fun _ hp => hp⟩
def due1 (v : Int) : List (Str × Int) := if v = 0 then [] else [("product", v)]
theorem nz_two (v : Int) : nz (zeros.modify 2 (· + v)) = due1 v := by
  unfold nz tal due1
  have e : zeros.modify 2 (· + v) = [0, 0, 0 + v, 0, 0, 0, 0, 0, 0, 0] := rfl
  have e2 : words = (["short", "sum", "product", "quotient", "corrected", "restored", "shifted", "combined", "complemented", "looked"] : List Str) := by decide +kernel
  rw [e, e2]
  simp only [List.zipWith_cons_cons, List.zipWith_nil_left, List.filter_cons, List.filter_nil, Int.zero_add, ne_eq, not_true_eq_false, decide_false, Bool.false_eq_true, if_false, decide_not]
  by_cases h : v = 0
  · simp [h]
  · simp [h]
theorem due1_nd (v : Int) : ((due1 v).map (·.1)).Nodup := by
  unfold due1; split <;> simp
theorem pcnt {w : Wld} {i b : Nat} {cut : Int} {s : Str} {x y v : Int} {k : Dat → Wld → Prop} (hm : w.ms[i]? = some ⟨b, cut, zeros, []⟩) (h : k (.tup [.dic (due1 v), .lst [.tup [.str s, .int x, .int y]]]) w) :
    P_z_pcounted [.mach i] (w.put i ((Mach.ent ⟨b, cut, zeros, []⟩ s x y).cnt 2 v)) k := by
  show onM _ i _
  rw [onM_put hm, put_put]
  show k (.tup [.dic (nz (zeros.modify 2 (· + v))), .lst [.tup [.str s, .int x, .int y]]]) (w.put i ⟨b, cut, zeros, []⟩)
  rw [nz_two, put_self hm]
  exact h
theorem pl_rt {s : Str} {x y : Int} (hs : PyData.strOk s = true) : pl (.lst [.tup [.str s, .int x, .int y]]) := by
  unfold pl
  simp only [plF, List.all_cons, List.all_nil, hs, Bool.and_self]
/-- what stands behind the draws -/
structure C13 (w : Wld) (i b : Nat) (cut one two : Int) (M N : Nat) : Prop where
  hm : w.ms[i]? = some ⟨b, cut, zeros, []⟩
  lo : 8 ≤ b
  hi : b ≤ 30
  l1 : (digs b one.natAbs).length = M
  l2 : (digs b two.natAbs).length = N
  m : M ≤ 20
  n : N ≤ 20
section
variable {w : Wld} {i b : Nat} {cut one two : Int} {M N : Nat} {k : Dat → List Dat → Wld → Prop} {l : List Dat} {y3 y4 y7 y12 y13 : Slot}
theorem C13.L1 (C : C13 w i b cut one two M N) : bigL b one := ⟨by have := C.lo; omega, C.hi, by rw [C.l1]; have := C.m; omega⟩
theorem C13.L2 (C : C13 w i b cut one two M N) : bigL b two := ⟨by have := C.lo; omega, C.hi, by rw [C.l2]; have := C.n; omega⟩
theorem k13_r13 (C : C13 w i b cut one two M N) (h : k (.bl true) l w) :
    r13_k13_right (penF k) [.own false l, .val (.int (b : Int)), .val (.mach i), y3, y4, .val (.int one), .val (.int two), y7, .val (.int (M : Int)), .val (.int (N : Int)), .val (.big b one), .val (.big b two), .val (.tup [.dic (due1 ((M : Int) * ((M : Int) + 1) / 2)), .lst [.tup [.str "square", .int (M : Int), .int (M : Int)]]]), y13] (w.put i (sqrM ⟨b, cut, zeros, []⟩ one)) := by
  have hz := sizeLine_eq
  unfold r13_k13_right sqrM
  walk_at "pu"
  rw [C.l1]
  refine pcnt C.hm ?_
  walk_at "pu"
  refine ⟨eqDs_refl (due1_nd _), pl_rt (by decide +kernel), C.L1, C.L2, by omega, by omega, ?_⟩
  have hpl : pl (Dat.tup [Dat.int one, Dat.int two]) := rfl
  refine ⟨⟨hpl, hpl⟩, fun b1 h1 _ => ?_⟩
  rw [h1 trivial]
  exact h
theorem C13.big1 (C : C13 w i b cut one two M N) {x : Int} (h : x.natAbs ≤ one.natAbs * one.natAbs ∨ x.natAbs ≤ one.natAbs * two.natAbs) : (digs b x.natAbs).length ≤ 40 := by
  have h1 : one.natAbs < 2 ^ (b * M) := by have := digs_upper (b := b) (n := one.natAbs) (by have := C.lo; omega); rw [C.l1] at this; exact this
  have h2 : two.natAbs < 2 ^ (b * N) := by have := digs_upper (b := b) (n := two.natAbs) (by have := C.lo; omega); rw [C.l2] at this; exact this
  have hm := C.m
  have hn := C.n
  have g1 : 2 ^ (b * M) ≤ 2 ^ (b * 20) := Nat.pow_le_pow_right (by decide) (Nat.mul_le_mul_left _ hm)
  have g2 : 2 ^ (b * N) ≤ 2 ^ (b * 20) := Nat.pow_le_pow_right (by decide) (Nat.mul_le_mul_left _ hn)
  have g3 : 2 ^ (b * 40) = 2 ^ (b * 20) * 2 ^ (b * 20) := by rw [← Nat.pow_add, ← Nat.mul_add]
  have hx : x.natAbs < 2 ^ (b * 40) := by
    rw [g3]
    rcases h with z | z
    · exact Nat.lt_of_le_of_lt z (Nat.mul_lt_mul'' (by omega) (by omega))
    · exact Nat.lt_of_le_of_lt z (Nat.mul_lt_mul'' (by omega) (by omega))
  exact digs_length_le (by have := C.lo; omega) _ hx
theorem C13.b12 (C : C13 w i b cut one two M N) : (digs b (one * two).natAbs).length ≤ 40 := C.big1 (.inr (by rw [Int.natAbs_mul]; exact Nat.le_refl _))
theorem C13.b11 (C : C13 w i b cut one two M N) : (digs b (one * one).natAbs).length ≤ 40 := C.big1 (.inl (by rw [Int.natAbs_mul]; exact Nat.le_refl _))
/-- the two numbers may be multiplied -/
theorem bits20 {b : Nat} {x : Int} (h0 : b ≠ 0) (hb : b ≤ 30) (h : (digs b x.natAbs).length ≤ 1000) : Builtin.Int.intBits x ≤ 2 ^ 20 := by
  have h1 := digs_upper (b := b) (n := x.natAbs) h0
  have h2 : 2 ^ (b * (digs b x.natAbs).length) ≤ 2 ^ 30000 := Nat.pow_le_pow_right (by decide) (Nat.le_trans (Nat.mul_le_mul hb h) (by decide))
  exact Nat.le_trans (PyProof.Rows.intBits_le (k := 30000) (Nat.lt_of_lt_of_le h1 h2)) (by decide)
theorem C13.mul (C : C13 w i b cut one two M N) : IntMulOk one two := .of_bits (bits20 (by have := C.lo; omega) C.hi (by rw [C.l1]; have := C.m; omega)) (bits20 (by have := C.lo; omega) C.hi (by rw [C.l2]; have := C.n; omega))
theorem C13.sqr (C : C13 w i b cut one two M N) : IntMulOk one one := .of_bits (bits20 (by have := C.lo; omega) C.hi (by rw [C.l1]; have := C.m; omega)) (bits20 (by have := C.lo; omega) C.hi (by rw [C.l1]; have := C.m; omega))
theorem C13.b0 (C : C13 w i b cut one two M N) : b ≠ 0 := by have := C.lo; omega
theorem k_rows (C : C13 w i b cut one two M N) {k' : Dat → Wld → Prop} (h : k' (.big b (one * two)) (w.put i (rowsM ⟨b, cut, zeros, []⟩ one two))) : P_z_multiply_by_rows [.mach i, .big b one, .big b two] w k' := by
  rw [e_z_multiply_by_rows, onM_is C.hm]
  have := C.m
  have := C.n
  have := C.hi
  exact ⟨⟨rfl, rfl⟩, ⟨C.b0, by show b ≤ 60; omega⟩, ⟨by show (digs b one.natAbs).length ≤ _; rw [C.l1]; omega, by show (digs b two.natAbs).length ≤ _; rw [C.l2]; omega⟩, h⟩
theorem k_sqr (C : C13 w i b cut one two M N) {k' : Dat → Wld → Prop} (h : k' (.big b (one * one)) (w.put i (sqrM ⟨b, cut, zeros, []⟩ one))) : P_z_square_by_rows [.mach i, .big b one] w k' := by
  rw [e_z_square_by_rows, onM_is C.hm]
  have := C.m
  have := C.hi
  exact ⟨rfl, ⟨C.b0, by show b ≤ 60; omega⟩, by show (digs b one.natAbs).length ≤ _; rw [C.l1]; omega, h⟩
theorem k_is (C : C13 w i b cut one two M N) {x : Int} {W : Wld} (hx : (digs b x.natAbs).length ≤ 40) {k' : Dat → Wld → Prop} (h : k' (.bl true) W) : P_z_is [.big b x, .int (b : Int), .int x] W k' :=
  ⟨⟨C.b0, C.hi, by omega⟩, C.b0, by have := C.hi; omega, by omega, rfl, rfl, h⟩
theorem k13_r12 (C : C13 w i b cut one two M N) (h : k (.bl true) l w) :
    r12_k13_right (penF k) [.own false l, .val (.int (b : Int)), .val (.mach i), y3, y4, .val (.int one), .val (.int two), y7, .val (.int (M : Int)), .val (.int (N : Int)), .val (.big b one), .val (.big b two), .val (.tup [.dic (due1 ((M : Int) * ((M : Int) + 1) / 2)), .lst [.tup [.str "square", .int (M : Int), .int (M : Int)]]]), y13] (w.put i (sqrM ⟨b, cut, zeros, []⟩ one)) := by
  have hz := sizeLine_eq
  have r13 := k13_r13 (y3 := y3) (y4 := y4) (y7 := y7) (y13 := y13) C h
  unfold r12_k13_right
  walk_at "pu"
  unfold sqrM
  show P_z_pcounted _ _ _
  rw [show (digs (Mach.b ⟨b, cut, zeros, []⟩) one.natAbs).length = M from C.l1]
  refine pcnt C.hm ?_
  walk_at "pu"
  refine ⟨eqDs_refl (due1_nd _), pl_rt (by decide +kernel), ?_⟩
  refine k_sqr C ⟨C.sqr, ?_⟩
  rw [onM_put C.hm]
  refine ⟨C.b0, by have := C.b11; show (digs b _).length < _; omega, ?_⟩
  walk_at "pu"
  refine ⟨⟨C.b0, C.b0⟩, ?_⟩
  rw [if_neg (fun z => z rfl)]
  exact r13
theorem k13_r11 (C : C13 w i b cut one two M N) (h : k (.bl true) l w) :
    r11_k13_right (penF k) [.own false l, .val (.int (b : Int)), .val (.mach i), y3, y4, .val (.int one), .val (.int two), y7, .val (.int (M : Int)), .val (.int (N : Int)), .val (.big b one), .val (.big b two), y12, y13] (w.put i (sqrM ⟨b, cut, zeros, []⟩ one)) := by
  have hz := sizeLine_eq
  have r12 := k13_r12 (y3 := y3) (y4 := y4) (y7 := y7) (y13 := y13) C h
  have hm := C.m
  unfold r11_k13_right
  walk_at "pu"
  refine ite_2 (fun h0 => ?_) fun h0 => ?_
  · refine ⟨⟨by decide +kernel, by decide⟩, mul_okL (by omega) (by omega), div_ok64 (by decide) (by decide), by omega, by omega, by omega, ?_⟩
    have e : due1 ((M : Int) * ((M : Int) + 1) / 2) = ([("product", (M : Int) * ((M : Int) + 1) / 2)] : List (Str × Int)) := by
      unfold due1
      have h1 : (1 : Int) * 2 ≤ (M : Int) * ((M : Int) + 1) := Int.mul_le_mul (by omega) (by omega) (by omega) (by omega)
      have : (1 : Int) ≤ (M : Int) * ((M : Int) + 1) / 2 := Int.le_ediv_of_mul_le (by decide) h1
      rw [if_neg (by omega)]
    rw [e] at r12
    exact r12
  · refine ⟨by omega, by omega, by omega, ?_⟩
    have e0 : M = 0 := by omega
    subst e0
    exact r12
theorem k13_r10 (C : C13 w i b cut one two M N) (h : k (.bl true) l w) :
    r10_k13_right (penF k) [.own false l, .val (.int (b : Int)), .val (.mach i), y3, y4, .val (.int one), .val (.int two), y7, .val (.int (M : Int)), .val (.int (N : Int)), .val (.big b one), .val (.big b two), y12, y13] w := by
  have hz := sizeLine_eq
  have r11 := k13_r11 (y3 := y3) (y4 := y4) (y7 := y7) (y12 := y12) (y13 := y13) C h
  unfold r10_k13_right
  walk_at "pu"
  refine k_sqr C ⟨C.sqr, k_is C C.b11 ?_⟩
  walk_at "pu"
  exact r11
theorem k13_r8 (C : C13 w i b cut one two M N) (h : k (.bl true) l w) :
    r8_k13_right (penF k) [.own false l, .val (.int (b : Int)), .val (.mach i), y3, y4, .val (.int one), .val (.int two), y7, .val (.int (M : Int)), .val (.int (N : Int)), .val (.big b one), .val (.big b two), .val (.tup [.dic (due1 ((M : Int) * (N : Int))), .lst [.tup [.str "rows", .int (M : Int), .int (N : Int)]]]), y13] w := by
  have hz := sizeLine_eq
  unfold r8_k13_right
  walk_at "pu"
  refine k_rows C ?_
  walk_at "pu"
  rw [onM_put C.hm]
  refine ⟨C.mul, C.b0, by have := C.b12; show (digs b _).length < _; omega, ?_⟩
  walk_at "pu"
  refine ⟨⟨C.b0, C.b0⟩, ?_⟩
  rw [if_neg (fun z => z rfl)]
  unfold rowsM
  rw [show (digs (Mach.b ⟨b, cut, zeros, []⟩) one.natAbs).length = M from C.l1, show (digs (Mach.b ⟨b, cut, zeros, []⟩) two.natAbs).length = N from C.l2]
  refine pcnt C.hm ?_
  walk_at "pu"
  exact ⟨eqDs_refl (due1_nd _), pl_rt (by decide +kernel), k13_r10 C h⟩
theorem k13_r7 (C : C13 w i b cut one two M N) (h : k (.bl true) l w) :
    r7_k13_right (penF k) [.own false l, .val (.int (b : Int)), .val (.mach i), y3, y4, .val (.int one), .val (.int two), y7, .val (.int (M : Int)), .val (.int (N : Int)), .val (.big b one), .val (.big b two), .val (.tup [.dic (due1 ((M : Int) * (N : Int))), .lst [.tup [.str "rows", .int (M : Int), .int (N : Int)]]]), y13] (w.put i (rowsM ⟨b, cut, zeros, []⟩ one two)) := by
  have hz := sizeLine_eq
  have r8 := k13_r8 (y3 := y3) (y4 := y4) (y7 := y7) (y13 := y13) C h
  unfold r7_k13_right
  walk_at "pu"
  unfold rowsM
  rw [show (digs (Mach.b ⟨b, cut, zeros, []⟩) one.natAbs).length = M from C.l1, show (digs (Mach.b ⟨b, cut, zeros, []⟩) two.natAbs).length = N from C.l2]
  refine pcnt C.hm ?_
  walk_at "pu"
  exact ⟨eqDs_refl (due1_nd _), pl_rt (by decide +kernel), r8⟩
theorem k13_r6 (C : C13 w i b cut one two M N) (h : k (.bl true) l w) :
    r6_k13_right (penF k) [.own false l, .val (.int (b : Int)), .val (.mach i), y3, y4, .val (.int one), .val (.int two), y7, .val (.int (M : Int)), .val (.int (N : Int)), .val (.big b one), .val (.big b two), y12, y13] (w.put i (rowsM ⟨b, cut, zeros, []⟩ one two)) := by
  have hz := sizeLine_eq
  have r7 := k13_r7 (y3 := y3) (y4 := y4) (y7 := y7) (y13 := y13) C h
  have hm := C.m
  have hn := C.n
  unfold r6_k13_right
  walk_at "pu"
  refine ⟨mul_okL (by omega) (by omega), ?_⟩
  refine ite_2 (fun h0 => ?_) fun h0 => ?_
  · refine ⟨⟨by decide +kernel, by decide⟩, mul_okL (by omega) (by omega), by omega, by omega, by omega, ?_⟩
    have e : due1 ((M : Int) * (N : Int)) = ([("product", (M : Int) * (N : Int))] : List (Str × Int)) := by
      unfold due1
      rw [if_neg (by omega)]
    rw [e] at r7
    exact r7
  · refine ⟨by omega, by omega, by omega, ?_⟩
    have e : due1 ((M : Int) * (N : Int)) = [] := by
      unfold due1
      have : (0 : Int) ≤ (M : Int) * (N : Int) := Int.mul_nonneg (by omega) (by omega)
      rw [if_pos (by omega)]
    rw [e] at r7
    exact r7
theorem k13_r5 (C : C13 w i b cut one two M N) (h : k (.bl true) l w) :
    r5_k13_right (penF k) [.own false l, .val (.int (b : Int)), .val (.mach i), y3, y4, .val (.int one), .val (.int two), y7, .val (.int (M : Int)), .val (.int (N : Int)), .val (.big b one), .val (.big b two), y12, y13] w := by
  have hz := sizeLine_eq
  have r6 := k13_r6 (y3 := y3) (y4 := y4) (y7 := y7) (y12 := y12) (y13 := y13) C h
  unfold r5_k13_right
  walk_at "pu"
  refine k_rows C ⟨C.mul, k_is C C.b12 ?_⟩
  walk_at "pu"
  exact r6
end
theorem k13_r4 {W : Wld} {i b : Nat} {cut : Int} {k : Dat → List Dat → Wld → Prop} {l : List Dat} {xs ys : List Nat} {s1 s2 : Int} {y4 y7 y8 y9 y10 y11 y12 y13 : Slot} (hm : W.ms[i]? = some ⟨b, cut, zeros, []⟩) (hb1 : 8 ≤ b) (hb2 : b ≤ 30) (hx : Digs b xs ∧ xs.length ≤ 14 ∧ Norm xs) (hy : Digs b ys ∧ ys.length ≤ 14 ∧ Norm ys)
    (hs1 : s1 = 1 ∨ s1 = -1) (hs2 : s2 = 1 ∨ s2 = -1) (h : k (.bl true) l W) :
    r4_k13_right (penF k) [.own false l, .val (.int (b : Int)), .val (.mach i), .val (.lst [.lst (dN xs), .lst (dN ys)]), y4, .val (.int ((val b xs : Nat) * s1)), .val (.int ((val b ys : Nat) * s2)), y7, y8, y9, y10, y11, y12, y13] W := by
  have hz := sizeLine_eq
  have hb0 : b ≠ 0 := by omega
  have ab : ∀ (v : Nat) (s : Int), s = 1 ∨ s = -1 → ((v : Int) * s).natAbs = v := fun v s hs => by
    rcases hs with rfl | rfl <;> omega
  have C : C13 W i b cut ((val b xs : Nat) * s1) ((val b ys : Nat) * s2) xs.length ys.length := ⟨hm, hb1, hb2, by rw [ab _ _ hs1, digs_val hb0 hx.1 hx.2.2], by rw [ab _ _ hs2, digs_val hb0 hy.1 hy.2.2], by omega, by omega⟩
  unfold r4_k13_right
  walk_at "pu"
  simp only [onM_is hm]
  rw [dN_len, dN_len]
  have h1 := C.L1.2.2
  have h2 := C.L2.2.2
  refine ⟨hb0, by show (digs b _).length < _; omega, hb0, by show (digs b _).length < _; omega, by omega, ?_⟩
  exact k13_r5 C h
theorem k13_r3 {W : Wld} {i b z : Nat} {cut : Int} {k : Dat → List Dat → Wld → Prop} {l : List Dat} {xs ys : List Nat} {y4 y5 y6 y7 y8 y9 y10 y11 y12 y13 : Slot} (hm : W.ms[i]? = some ⟨b, cut, zeros, []⟩) (hb1 : 8 ≤ b) (hb2 : b ≤ 30) (hx : Digs b xs ∧ xs.length ≤ 14 ∧ Norm xs) (hy : Digs b ys ∧ ys.length ≤ 14 ∧ Norm ys)
    (hp : Prs z l) (hz40 : z + 2 < 2 ^ 40) (h : ∀ l' w', Prs (z + 2) l' → k (.bl true) l' w') :
    r3_k13_right (penF k) [.own false l, .val (.int (b : Int)), .val (.mach i), .val (.lst [.lst (dN xs), .lst (dN ys)]), y4, y5, y6, y7, y8, y9, y10, y11, y12, y13] W := by
  have hz := sizeLine_eq
  unfold r3_k13_right
  walk_at "pu"
  refine lcp_ind (fun q acc e w2 => w2 = W ∧ ∃ (l : List Dat) (us : List Int), Prs (z + q) l ∧ acc = us.map Dat.int ∧ us.length = q ∧ (∀ (j : Nat) (u : Int), us[j]? = some u → ∃ (r : List Nat) (s : Int), ([xs, ys] : List (List Nat))[j]? = some r ∧ (s = 1 ∨ s = -1) ∧ u = (val b r : Nat) * s) ∧ e = [.own false l, .val (.int (b : Int)), .val (.mach i), .val (.lst [.lst (dN xs), .lst (dN ys)]), y4, y5, y6, .no, y8, y9, y10, y11, y12, y13]) ⟨rfl, l, [], hp, rfl, rfl, (fun j u hj => by simp at hj), rfl⟩ ?_ ?_
  · rintro q d acc e w2 nx hd ⟨rfl, l, us, hp, rfl, hul, hus, rfl⟩ hn
    have hq : q < 2 := (List.getElem?_eq_some_iff.mp hd).1
    obtain ⟨r, hr, rfl, hrd, hrl⟩ : ∃ r : List Nat, [xs, ys][q]? = some r ∧ d = .lst (dN r) ∧ Digs b r ∧ r.length ≤ 14 := by
      match q, hq with
      | 0, _ => cases hd; exact ⟨xs, rfl, rfl, hx.1, hx.2.1⟩
      | 1, _ => cases hd; exact ⟨ys, rfl, rfl, hy.1, hy.2.1⟩
    walk_at "pu"
    rw [e_z_worth]
    refine ⟨b, r, rfl, rfl, ⟨by omega, by omega⟩, ⟨hrd, by omega⟩, ?_⟩
    walk_at "pu"
    rw [e_z_pick]
    refine ⟨by omega, _, hp, by omega, ⟨by simp, by simp⟩, fun d l' hd' hp' => ?_⟩
    obtain ⟨s, rfl, hs⟩ : ∃ s : Int, d = .int s ∧ (s = 1 ∨ s = -1) := by
      simp only [List.mem_cons, List.not_mem_nil, or_false] at hd'
      rcases hd' with rfl | rfl | rfl
      · exact ⟨1, rfl, .inl rfl⟩
      · exact ⟨1, rfl, .inl rfl⟩
      · exact ⟨-1, rfl, .inr rfl⟩
    rw [eMul]
    refine ⟨mul_okR (by omega) (by omega), by rw [List.length_map]; omega, hn _ _ _ ⟨rfl, l', us ++ [(val b r : Nat) * s], hp', by rw [List.map_append]; rfl, by rw [List.length_append, hul]; rfl, fun j u hj => ?_, rfl⟩⟩
    by_cases hjq : j < us.length
    · rw [List.getElem?_append_left hjq] at hj
      exact hus j u hj
    · rw [List.getElem?_append_right (by omega)] at hj
      have hj0 : j - us.length = 0 := by
        have := (List.getElem?_eq_some_iff.mp hj).1
        simp at this
        omega
      rw [hj0] at hj
      cases hj
      have : j = q := by omega
      rw [this]
      exact ⟨r, s, hr, hs, rfl⟩
  · rintro acc e w2 ⟨rfl, l, us, hp, rfl, hul, hus, rfl⟩
    have hul : us.length = 2 := hul
    match us, hul with
    | [u, v], _ =>
      obtain ⟨r1, s1, e1, hs1, rfl⟩ := hus 0 u rfl
      obtain ⟨r2, s2, e2, hs2, rfl⟩ := hus 1 v rfl
      cases e1
      cases e2
      walk_at "pu"
      exact k13_r4 hm hb1 hb2 hx hy hs1 hs2 (h _ _ hp)
theorem k13_r2 {W : Wld} {i b z : Nat} {cut : Int} {k : Dat → List Dat → Wld → Prop} {l : List Dat} (hm : W.ms[i]? = some ⟨b, cut, zeros, []⟩) (hb1 : 8 ≤ b) (hb2 : b ≤ 30) (hp : Prs (z + 3) l) (hz40 : z + 200 < 2 ^ 40) (h : ∀ l' w', Prs (z + 200) l' → k (.bl true) l' w') :
    r2_k13_right (penF k) [.own false l, .val (.int (b : Int)), .val (.mach i), .no, .no, .no, .no, .no, .no, .no, .no, .no, .no, .no] W := by
  have hz := sizeLine_eq
  unfold r2_k13_right
  walk_at "pu"
  refine ⟨⟨by decide, by decide⟩, ?_⟩
  refine lcp_ind (fun q acc e w2 => w2 = W ∧ ∃ (l : List Dat) (rows : List (List Nat)), Prs (z + 3 + 43 * q) l ∧ acc = rows.map (fun r => Dat.lst (dN r)) ∧ rows.length = q ∧ (∀ r ∈ rows, Digs b r ∧ r.length ≤ 14 ∧ Norm r) ∧ e = [.own false l, .val (.int (b : Int)), .val (.mach i), .no, .no, .no, .no, .no, .no, .no, .no, .no, .no, .no]) ⟨rfl, l, [], hp, rfl, rfl, (fun _ z => nomatch z), rfl⟩ ?_ ?_
  · rintro q d acc e w2 nx hd ⟨rfl, l, rows, hp, rfl, hrl, hrs, rfl⟩ hn
    have hq : q < 2 := (rng_get hd).1
    walk_at "pu"
    rw [e_z_coin]
    refine ⟨_, hp, by omega, nxOk (by decide) (by decide), fun n l1 n0 n1 hp1 => ?_⟩
    obtain ⟨N, rfl⟩ := Int.eq_ofNat_of_zero_le n0
    walk_at "pu"
    rw [e_z_prow]
    refine ⟨_, b, N, rfl, rfl, hp1, by omega, ⟨by omega, by omega⟩, by omega, fun xs l2 hdg hxl hnm hp2 => ?_⟩
    refine ⟨by rw [List.length_map]; omega, hn _ _ _ ⟨rfl, l2, rows ++ [xs], hp2.mono (by omega), by rw [List.map_append]; rfl, by rw [List.length_append, hrl]; rfl, fun r hr => ?_, rfl⟩⟩
    rcases List.mem_append.mp hr with y | y
    · exact hrs r y
    · rw [List.mem_singleton.mp y]; exact ⟨hdg, by omega, hnm⟩
  · rintro acc e w2 ⟨rfl, l, rows, hp, rfl, hrl, hrs, rfl⟩
    have hrl : rows.length = 2 := hrl
    match rows, hrl with
    | [xs, ys], _ =>
      walk_at "pu"
      have hp : Prs (z + 3 + 43 * 2) l := hp
      exact k13_r3 hm hb1 hb2 (hrs xs (by simp)) (hrs ys (by simp)) hp (by omega) fun l' w' hp' => h l' w' (hp'.mono (by omega))
theorem e_k13_right {l : List Dat} {w : Wld} {k : Dat → List Dat → Wld → Prop} : P_k13_right [] l w k = ∃ z, Prs z l ∧ z + 200 < 2 ^ 40 ∧ ∀ l' w', Prs (z + 200) l' → k (.bl true) l' w' := rfl
theorem w_k13_right : ∀ ds l w k, P_k13_right ds l w k → p_k13_right (penF k) (env0O 14 l ds) w := by
  intro ds l w k h
  unfold P_k13_right at h
  split at h
  · obtain ⟨z, hp, hz40, h⟩ := h
    have hz := sizeLine_eq
    unfold p_k13_right
    walk_at "pu"
    rw [e_z_coin]
    refine ⟨z, hp, by omega, nxOk (by decide) (by decide), fun r l1 r0 r1 hp1 => ?_⟩
    walk_at "pu"
    rw [e_z_pick]
    refine ⟨by omega, _, hp1, by omega, ⟨by simp, by simp⟩, fun d l2 hd hp2 => ?_⟩
    obtain ⟨b, rfl, hb1, hb2⟩ : ∃ b : Nat, d = .int (b : Int) ∧ 8 ≤ b ∧ b ≤ 30 := by
      simp only [List.mem_cons, List.not_mem_nil, or_false] at hd
      rcases hd with rfl | rfl | rfl | rfl | rfl
      · exact ⟨8, rfl, by omega, by omega⟩
      · exact ⟨9, rfl, by omega, by omega⟩
      · exact ⟨15, rfl, by omega, by omega⟩
      · exact ⟨30, rfl, by omega, by omega⟩
      · exact ⟨(8 + r).toNat, by rw [Int.toNat_of_nonneg (by omega)], by omega, by omega⟩
    rw [e_z_coin]
    refine ⟨_, hp2, by omega, nxOk (by decide) (by decide), fun c l3 c0 c1 hp3 => ?_⟩
    walk_at "pu"
    refine ⟨⟨by omega, by omega, by omega, by omega⟩, ?_⟩
    have hm : (⟨w.ms ++ [⟨b, 2 + c, zeros, []⟩], w.ss⟩ : Wld).ms[w.ms.length]? = some ⟨b, 2 + c, zeros, []⟩ := List.getElem?_concat_length
    rw [Int.toNat_natCast]
    generalize (⟨w.ms ++ [⟨b, 2 + c, zeros, []⟩], w.ss⟩ : Wld) = W at hm
    generalize w.ms.length = i at hm
    exact k13_r2 hm hb1 hb2 (hp3.mono (by omega)) (by omega) (fun l' w' hp' => h l' w' hp')
  · exact h.elim
theorem b_k13_right {K : PySem.W.Frag} {c : Pc} {vs : List V} {H : Hp} {Q : VK} {E : XK} {α : Prop} (PM : PM K c) (PB : α) (h : sp_k13_right K c vs H Q E) : t_k13_right K c (en0 Q) (st0 14 vs) H := def_okO (sn_k13_right PM PB) (fun ds l w k h => by have := n_k13_right ds l w k h; omega) w_k13_right h
def P_k13_law : PSp := P_law0
def sp_k13_law (K : PySem.W.Frag) (c : Pc) : Sp := sp_law0 K
/-- 0:_law_script 1:_law_cell 2:_law_purse_here 3:_law_turn 4:_law_tiny 5:_law_got -/
def t_k13_law (K : PySem.W.Frag) (c : Pc) : TS :=
  (tSeq (tFor (iList K (tOp rCat (tSl (rSlL K) (tVar 0) tNoPart (tPart (tC (.int 4)))) (tLst (tCons (tC (.int 0)) tNil)))) (gName 1) (tSeq (tAsg (tCall (sp_z_purse K c) [] E0 (tCons (tVar 1) tNil)) (gName 2))
  (tFor (iRng1 (tCons (tC (.int 4)) tNil)) (gName 3) (tIfS (tNot (L2.tB (tCall (sp_k13_right K c) [] E0 (tCons (tVar 2) tNil)))) (tRet (tC (.bl false))) tNext))))
  (tSeq (tAsg (tMake c.CMachine (sp_Machine_init K c) [] E0 (tCons (tC (.int 8)) (tCons (tC (.int 4)) tNil))) (gName 4))
  (tSeq (tIfS (tTest (tOp (rOwnNe K c.CBig (sp_Big_eq K c) E0) (tCall (sp_z_multiply_by_rows K c) [] E0 (tCons (tVar 4) (tCons (tCall (sp_big K c) [] E0 (tCons (tVar 4) (tCons (tUn rNeg (tC (.int 1000))) tNil))) (tCons (tCall (sp_big K c) [] E0 (tCons (tVar 4) (tCons (tC (.int 70000)) tNil))) tNil)))) (tCall (sp_big K c) [] E0 (tCons (tVar 4) (tCons (tUn rNeg (tC (.int 70000000))) tNil))))) (tRet (tC (.bl false))) tNext)
  (tSeq (tIfS (tTest (tOp (rNeTD K) (tCall (sp_z_pcounted K c) [] E0 (tCons (tVar 4) tNil)) (tTup (tCons (tDisp [((tC (.str "product")), (tC (.int 6)))]) (tCons (tLst (tCons (tTup (tCons (tC (.str "rows")) (tCons (tC (.int 2)) (tCons (tC (.int 3)) tNil)))) tNil)) tNil))))) (tRet (tC (.bl false))) tNext)
  (tSeq (tAsg (tCall (sp_z_square_by_rows K c) [] E0 (tCons (tVar 4) (tCons (tCall (sp_big K c) [] E0 (tCons (tVar 4) (tCons (tC (.int 16777215)) tNil))) tNil))) (gName 5))
  (tRet (tAndV (tOp (rEqTD K) (tCall (sp_z_pcounted K c) [] E0 (tCons (tVar 4) tNil)) (tTup (tCons (tDisp [((tC (.str "product")), (tC (.int 6)))]) (tCons (tLst (tCons (tTup (tCons (tC (.str "square")) (tCons (tC (.int 3)) (tCons (tC (.int 3)) tNil)))) tNil)) tNil)))) (tOp rEq (tCall (sp_plain K c) [] E0 (tCons (tVar 5) tNil)) (tOp rMul (tC (.int 16777215)) (tC (.int 16777215)))))))))))
def b1_k13_law : PS :=
  (pIfS (pNot (pTest (pCallO P_k13_right 2 pNil))) (pRet (pC (.bl false))) pNext)
def b2_k13_law : PS :=
  (pSeq (pAsgO (pCallL P_z_purse (pCons (pVar 1) pNil)) 2)
  (pFor (pIR1 (pC (.int 4))) (pgName 3) b1_k13_law))
def r1_k13_law : PS :=
  (pSeq (pAsg (pCallD P_Machine [] (pCons (pC (.int 8)) (pCons (pC (.int 4)) pNil))) 4)
  (pSeq (pIfS (pTest (pOp qNeB (pCall P_z_multiply_by_rows (pCons (pVar 4) (pCons (pCall P_big (pCons (pVar 4) (pCons (pUn qNeg (pC (.int 1000))) pNil))) (pCons (pCall P_big (pCons (pVar 4) (pCons (pC (.int 70000)) pNil))) pNil)))) (pCall P_big (pCons (pVar 4) (pCons (pUn qNeg (pC (.int 70000000))) pNil))))) (pRet (pC (.bl false))) pNext)
  (pSeq (pIfS (pTest (pOp qNeTD (pCall P_z_pcounted (pCons (pVar 4) pNil)) (pTup (pCons (pDisp [("product", (pC (.int 6)))]) (pCons (pFz (pLst (pCons (pTup (pCons (pC (.str "rows")) (pCons (pC (.int 2)) (pCons (pC (.int 3)) pNil)))) pNil))) pNil))))) (pRet (pC (.bl false))) pNext)
  (pSeq (pAsg (pCall P_z_square_by_rows (pCons (pVar 4) (pCons (pCall P_big (pCons (pVar 4) (pCons (pC (.int 16777215)) pNil))) pNil))) 5)
  (pRet (pAndV (pOp qEqTD (pCall P_z_pcounted (pCons (pVar 4) pNil)) (pTup (pCons (pDisp [("product", (pC (.int 6)))]) (pCons (pFz (pLst (pCons (pTup (pCons (pC (.str "square")) (pCons (pC (.int 3)) (pCons (pC (.int 3)) pNil)))) pNil))) pNil)))) (pOp qEq (pCall P_plain (pCons (pVar 5) pNil)) (pOp qMul (pC (.int 16777215)) (pC (.int 16777215))))))))))
def p_k13_law : PS :=
  (pSeq (pFor (pIL (pFz (pOpF qCat (pFz (pSlL (pVar 0) pNoPart (pPart (pC (.int 4))))) (pFz (pLst (pCons (pC (.int 0)) pNil)))))) (pgName 1) b2_k13_law)
  r1_k13_law)
theorem sn_k13_law {K : PySem.W.Frag} {c : Pc} {α : Prop} (PM : PM K c) (PB : α) : SndS K c (t_k13_law K c) p_k13_law :=
  (snd_seq (snd_for (snd_iList (snd_fz (snd_opF s_cat (snd_fz (snd_slL snd_var snd_noPart (snd_part (snd_int 4)))) (snd_fz (snd_lst (snd_cons (snd_int 0) snd_nil)))))) snd_gName (snd_seq (snd_asgO (snd_callL ul_z_purse (snd_cons snd_var snd_nil)))
  (snd_for (snd_iR1 (snd_int 4)) snd_gName (snd_ifS (snd_not (snd_tB (snd_callO uO_k13_right snd_nil))) (snd_ret (snd_bl false)) snd_next))))
  (snd_seq (snd_asg (snd_mkM (fun _ => .nil) (snd_cons (snd_int 8) (snd_cons (snd_int 4) snd_nil))))
  (snd_seq (snd_ifS (snd_test (snd_op s_neB (snd_call u_z_multiply_by_rows (snd_cons snd_var (snd_cons (snd_call u_big (snd_cons snd_var (snd_cons (snd_neg (snd_int 1000)) snd_nil))) (snd_cons (snd_call u_big (snd_cons snd_var (snd_cons (snd_int 70000) snd_nil))) snd_nil)))) (snd_call u_big (snd_cons snd_var (snd_cons (snd_neg (snd_int 70000000)) snd_nil))))) (snd_ret (snd_bl false)) snd_next)
  (snd_seq (snd_ifS (snd_test (snd_op s_neTD (snd_call u_z_pcounted (snd_cons snd_var snd_nil)) (snd_tup (snd_cons (snd_disp (show SndD K c _ _ from ⟨rfl, (snd_int 6), trivial⟩)) (snd_cons (snd_fz (snd_lst (snd_cons (snd_tup (snd_cons (snd_str "rows") (snd_cons (snd_int 2) (snd_cons (snd_int 3) snd_nil)))) snd_nil))) snd_nil))))) (snd_ret (snd_bl false)) snd_next)
  (snd_seq (snd_asg (snd_call u_z_square_by_rows (snd_cons snd_var (snd_cons (snd_call u_big (snd_cons snd_var (snd_cons (snd_int 16777215) snd_nil))) snd_nil))))
  (snd_ret (snd_andV (snd_op s_eqTD (snd_call u_z_pcounted (snd_cons snd_var snd_nil)) (snd_tup (snd_cons (snd_disp (show SndD K c _ _ from ⟨rfl, (snd_int 6), trivial⟩)) (snd_cons (snd_fz (snd_lst (snd_cons (snd_tup (snd_cons (snd_str "square") (snd_cons (snd_int 3) (snd_cons (snd_int 3) snd_nil)))) snd_nil))) snd_nil)))) (snd_op s_eq (snd_call u_plain (snd_cons snd_var snd_nil)) (snd_op s_mul (snd_int 16777215) (snd_int 16777215))))))))))
theorem w_k13_law : ∀ ds w k, P_k13_law ds w k → p_k13_law (pen k) (env0 6 ds) w := by
  intro ds w k h
  unfold P_k13_law P_law0 at h
  split at h
  · rename_i l
    obtain ⟨ns, rfl, hl, h⟩ := h
    have hz := sizeLine_eq
    unfold p_k13_law
    walk_at "pu"
    have hcl := cut_len (l := ns.map Dat.int) none (some 4)
    rw [List.length_map] at hcl
    refine ⟨by omega, by omega, ?_⟩
    have hall : ∀ d ∈ cutD (ns.map Dat.int) none (some 4) ++ [Dat.int 0], ∃ z : Int, d = .int z := fun d hd => by
      rcases List.mem_append.mp hd with y | y
      · exact cut_all (P := fun d => ∃ z, d = .int z) (fun d hd => by obtain ⟨z, _, rfl⟩ := List.mem_map.mp hd; exact ⟨z, rfl⟩) _ _ d y
      · exact ⟨0, List.mem_singleton.mp y⟩
    refine lp_ind (fun _ e _ => ∃ y1 y2 y3, e = [.val (.cst (ns.map Dat.int)), y1, y2, y3, .no, .no]) ⟨_, _, _, rfl⟩ ?_ ?_
    · rintro j d e w nx hd ⟨y1, y2, y3, rfl⟩ hn
      obtain ⟨z, rfl⟩ := hall d (List.mem_of_getElem? hd)
      unfold b2_k13_law
      walk_at "pu"
      rw [e_z_purse]
      intro l hp
      walk_at "pu"
      refine ⟨⟨by decide, by decide⟩, ?_⟩
      refine lp_ind (fun q e _ => ∃ (l : List Dat) (y3 : Slot), Prs (7 + 200 * q) l ∧ e = [.val (.cst (ns.map Dat.int)), .val (.int z), .own true l, y3, .no, .no]) ⟨l, _, hp, rfl⟩ ?_ ?_
      · rintro q d e w nx' hd ⟨l, y3, hp, rfl⟩ hn'
        have hq : q < 4 := (rng_get hd).1
        unfold b1_k13_law
        walk_at "pu"
        rw [e_k13_right]
        refine ⟨_, hp, by omega, fun l' w' hp' => ?_⟩
        walk_at "pu"
        exact hn' _ _ ⟨l', _, hp'.mono (by omega), rfl⟩
      · rintro e w ⟨l, y3, hp, rfl⟩
        exact hn _ _ ⟨_, _, _, rfl⟩
    · rintro e w ⟨y1, y2, y3, rfl⟩
      unfold r1_k13_law
      walk_at "pu"
      refine ⟨by decide, ?_⟩
      have hm : (⟨w.ms ++ [⟨8, 4, zeros, []⟩], w.ss⟩ : Wld).ms[w.ms.length]? = some ⟨8, 4, zeros, []⟩ := List.getElem?_concat_length
      show onM (⟨w.ms ++ [⟨8, 4, zeros, []⟩], w.ss⟩ : Wld) w.ms.length _
      show onM _ _ fun m => _ ∧ _ ∧ onM (⟨w.ms ++ [⟨8, 4, zeros, []⟩], w.ss⟩ : Wld) w.ms.length fun m_1 => _ ∧ _ ∧ P_z_multiply_by_rows _ (⟨w.ms ++ [⟨8, 4, zeros, []⟩], w.ss⟩ : Wld) _
      generalize (⟨w.ms ++ [⟨8, 4, zeros, []⟩], w.ss⟩ : Wld) = W at hm
      generalize w.ms.length = i at hm
      have d1 : digs 8 1000 = [232, 3] := digs_val (b := 8) (ds := [232, 3]) (by decide) (fun d hd => by simp only [List.mem_cons, List.not_mem_nil, or_false] at hd; rcases hd with rfl | rfl <;> decide) (norm_snoc (by decide) [232])
      have d2 : digs 8 70000 = [112, 17, 1] := digs_val (b := 8) (ds := [112, 17, 1]) (by decide) (fun d hd => by simp only [List.mem_cons, List.not_mem_nil, or_false] at hd; rcases hd with rfl | rfl | rfl <;> decide) (norm_snoc (by decide) [112, 17])
      have d3 : digs 8 16777215 = [255, 255, 255] := digs_val (b := 8) (ds := [255, 255, 255]) (by decide) (fun d hd => by simp only [List.mem_cons, List.not_mem_nil, or_false] at hd; rcases hd with rfl | rfl | rfl <;> decide) (norm_snoc (by decide) [255, 255])
      have C : C13 W i 8 4 (-1000) 70000 2 3 := ⟨hm, by decide, by decide, by show (digs 8 1000).length = 2; rw [d1]; rfl, by show (digs 8 70000).length = 3; rw [d2]; rfl, by decide, by decide⟩
      have C3 : C13 W i 8 4 16777215 70000 3 3 := ⟨hm, by decide, by decide, by show (digs 8 16777215).length = 3; rw [d3]; rfl, by show (digs 8 70000).length = 3; rw [d2]; rfl, by decide, by decide⟩
      simp only [onM_is hm]
      refine ⟨by decide, by have := C.L1.2.2; omega, by decide, by have := C.L2.2.2; omega, k_rows C ?_⟩
      rw [onM_put hm]
      refine ⟨by show (8 : Nat) ≠ 0; decide, by have := C.b12; rw [show (-1000 * 70000 : Int) = -70000000 by decide] at this; show (digs 8 _).length < _; omega, ?_⟩
      walk_at "pu"
      refine ⟨⟨by decide, by show (8 : Nat) ≠ 0; decide⟩, ?_⟩
      rw [if_neg (fun z => z ⟨rfl, by decide⟩)]
      unfold rowsM
      rw [show (digs (Mach.b ⟨8, 4, zeros, []⟩) (Int.natAbs (-1000))).length = 2 from C.l1, show (digs (Mach.b ⟨8, 4, zeros, []⟩) (Int.natAbs 70000)).length = 3 from C.l2]
      refine pcnt hm ⟨⟨by decide +kernel, by decide⟩, by omega, by omega, by omega, ?_⟩
      rw [eNeTD]
      refine ⟨eqDs_refl (due1_nd _), rfl, pl_rt (by decide +kernel), ?_⟩
      walk_at "pu"
      rw [onM_is hm]
      refine ⟨by decide, by have := C3.L1.2.2; show (digs 8 (Int.natAbs 16777215)).length < _; omega, k_sqr C3 ?_⟩
      unfold sqrM
      rw [show (digs (Mach.b ⟨8, 4, zeros, []⟩) (Int.natAbs 16777215)).length = 3 from C3.l1]
      refine pcnt hm ⟨⟨by decide +kernel, by decide⟩, by omega, by omega, by omega, ?_⟩
      rw [eEqTD]
      refine ⟨eqDs_refl (due1_nd _), rfl, pl_rt (by decide +kernel), ?_⟩
      walk_at "pu"
      refine ⟨⟨C3.b0, C3.hi, by have := C3.b11; omega⟩, mul_okL (by decide) (by decide), h W⟩
  · exact h.elim
theorem b_k13_law {K : PySem.W.Frag} {c : Pc} {vs : List V} {H : Hp} {Q : VK} {E : XK} {α : Prop} (PM : PM K c) (PB : α) (h : sp_k13_law K c vs H Q E) : t_k13_law K c (en0 Q) (st0 6 vs) H := def_ok (sn_k13_law PM PB) w_k13_law (law_lif h)

end Eng
namespace Law
open PySem PySem.Spec PyProof.Rows L2 Eng
def top (i : Nat) : Stmt := PySem.Challenge.pw_thirtybits_k13_products_by_rows.main.body.getD i (.Pass ⟨0, 0, 0, 0⟩)
abbrev s_is_integer : Stmt := top 5
abbrev N_is_integer : List Str := ["value"]
theorem sc_is_integer : FnScope N_is_integer ["value"] (defScope s_is_integer) := ⟨rfl, rfl, rfl, by decide +kernel, rfl, by decide +kernel, by decide +kernel⟩
abbrev s_is_between : Stmt := top 6
abbrev N_is_between : List Str := ["value", "low", "high"]
theorem sc_is_between : FnScope N_is_between ["value", "low", "high"] (defScope s_is_between) := ⟨rfl, rfl, rfl, by decide +kernel, rfl, by decide +kernel, by decide +kernel⟩
abbrev s_check_integer : Stmt := top 7
abbrev N_check_integer : List Str := ["argument", "value"]
theorem sc_check_integer : FnScope N_check_integer ["argument", "value"] (defScope s_check_integer) := ⟨rfl, rfl, rfl, by decide +kernel, rfl, by decide +kernel, by decide +kernel⟩
abbrev s_Machine_init : Stmt := inClass (top 15) 0
abbrev N_Machine_init : List Str := ["self", "bits", "cutoff", "word"]
theorem sc_Machine_init : FnScope N_Machine_init ["self", "bits", "cutoff"] (defScope s_Machine_init) := ⟨rfl, rfl, rfl, by decide +kernel, rfl, by decide +kernel, by decide +kernel⟩
abbrev s_Machine_tally : Stmt := inClass (top 15) 3
abbrev N_Machine_tally : List Str := ["self", "word"]
theorem sc_Machine_tally : FnScope N_Machine_tally ["self"] (defScope s_Machine_tally) := ⟨rfl, rfl, rfl, by decide +kernel, rfl, by decide +kernel, by decide +kernel⟩
abbrev s_Machine_walk : Stmt := inClass (top 15) 4
abbrev N_Machine_walk : List Str := ["self"]
theorem sc_Machine_walk : FnScope N_Machine_walk ["self"] (defScope s_Machine_walk) := ⟨rfl, rfl, rfl, by decide +kernel, rfl, by decide +kernel, by decide +kernel⟩
abbrev s_Machine_reset : Stmt := inClass (top 15) 5
abbrev N_Machine_reset : List Str := ["self", "word"]
theorem sc_Machine_reset : FnScope N_Machine_reset ["self"] (defScope s_Machine_reset) := ⟨rfl, rfl, rfl, by decide +kernel, rfl, by decide +kernel, by decide +kernel⟩
abbrev s_Machine_count : Stmt := inClass (top 15) 6
abbrev N_Machine_count : List Str := ["self", "word", "number"]
theorem sc_Machine_count : FnScope N_Machine_count ["self", "word", "number"] (defScope s_Machine_count) := ⟨rfl, rfl, rfl, by decide +kernel, rfl, by decide +kernel, by decide +kernel⟩
abbrev s_Machine_enter : Stmt := inClass (top 15) 7
abbrev N_Machine_enter : List Str := ["self", "word", "m", "n"]
theorem sc_Machine_enter : FnScope N_Machine_enter ["self", "word", "m", "n"] (defScope s_Machine_enter) := ⟨rfl, rfl, rfl, by decide +kernel, rfl, by decide +kernel, by decide +kernel⟩
abbrev s_check_machine : Stmt := top 16
abbrev N_check_machine : List Str := ["value"]
theorem sc_check_machine : FnScope N_check_machine ["value"] (defScope s_check_machine) := ⟨rfl, rfl, rfl, by decide +kernel, rfl, by decide +kernel, by decide +kernel⟩
abbrev s_Big_init : Stmt := inClass (top 18) 0
abbrev N_Big_init : List Str := ["self", "width", "side", "row"]
theorem sc_Big_init : FnScope N_Big_init ["self", "width", "side", "row"] (defScope s_Big_init) := ⟨rfl, rfl, rfl, by decide +kernel, rfl, by decide +kernel, by decide +kernel⟩
abbrev s_Big_eq : Stmt := inClass (top 18) 1
abbrev N_Big_eq : List Str := ["self", "other"]
theorem sc_Big_eq : FnScope N_Big_eq ["self", "other"] (defScope s_Big_eq) := ⟨rfl, rfl, rfl, by decide +kernel, rfl, by decide +kernel, by decide +kernel⟩
abbrev s_Big_sign : Stmt := inClass (top 18) 2
abbrev N_Big_sign : List Str := ["self"]
theorem sc_Big_sign : FnScope N_Big_sign ["self"] (defScope s_Big_sign) := ⟨rfl, rfl, rfl, by decide +kernel, rfl, by decide +kernel, by decide +kernel⟩
abbrev s_Big_digits : Stmt := inClass (top 18) 3
abbrev N_Big_digits : List Str := ["self"]
theorem sc_Big_digits : FnScope N_Big_digits ["self"] (defScope s_Big_digits) := ⟨rfl, rfl, rfl, by decide +kernel, rfl, by decide +kernel, by decide +kernel⟩
abbrev s_Big_bits : Stmt := inClass (top 18) 4
abbrev N_Big_bits : List Str := ["self"]
theorem sc_Big_bits : FnScope N_Big_bits ["self"] (defScope s_Big_bits) := ⟨rfl, rfl, rfl, by decide +kernel, rfl, by decide +kernel, by decide +kernel⟩
abbrev s_made : Stmt := top 19
abbrev N_made : List Str := ["machine", "side", "digits", "size"]
theorem sc_made : FnScope N_made ["machine", "side", "digits"] (defScope s_made) := ⟨rfl, rfl, rfl, by decide +kernel, rfl, by decide +kernel, by decide +kernel⟩
abbrev s_digits_of : Stmt := top 20
abbrev N_digits_of : List Str := ["machine", "n", "found"]
theorem sc_digits_of : FnScope N_digits_of ["machine", "n"] (defScope s_digits_of) := ⟨rfl, rfl, rfl, by decide +kernel, rfl, by decide +kernel, by decide +kernel⟩
abbrev s_big_of : Stmt := top 21
abbrev N_big_of : List Str := ["machine", "n"]
theorem sc_big_of : FnScope N_big_of ["machine", "n"] (defScope s_big_of) := ⟨rfl, rfl, rfl, by decide +kernel, rfl, by decide +kernel, by decide +kernel⟩
abbrev s_value_of : Stmt := top 22
abbrev N_value_of : List Str := ["x", "found", "digit"]
theorem sc_value_of : FnScope N_value_of ["x"] (defScope s_value_of) := ⟨rfl, rfl, rfl, by decide +kernel, rfl, by decide +kernel, by decide +kernel⟩
abbrev s_check_big : Stmt := top 23
abbrev N_check_big : List Str := ["machine", "argument", "value"]
theorem sc_check_big : FnScope N_check_big ["machine", "argument", "value"] (defScope s_check_big) := ⟨rfl, rfl, rfl, by decide +kernel, rfl, by decide +kernel, by decide +kernel⟩
abbrev s_check_bigs : Stmt := top 24
abbrev N_check_bigs : List Str := ["machine", "x", "y"]
theorem sc_check_bigs : FnScope N_check_bigs ["machine", "x", "y"] (defScope s_check_bigs) := ⟨rfl, rfl, rfl, by decide +kernel, rfl, by decide +kernel, by decide +kernel⟩
abbrev s_check_any : Stmt := top 25
abbrev N_check_any : List Str := ["value"]
theorem sc_check_any : FnScope N_check_any ["value"] (defScope s_check_any) := ⟨rfl, rfl, rfl, by decide +kernel, rfl, by decide +kernel, by decide +kernel⟩
abbrev s_big : Stmt := top 26
abbrev N_big : List Str := ["machine", "n"]
theorem sc_big : FnScope N_big ["machine", "n"] (defScope s_big) := ⟨rfl, rfl, rfl, by decide +kernel, rfl, by decide +kernel, by decide +kernel⟩
abbrev s_plain : Stmt := top 27
abbrev N_plain : List Str := ["x"]
theorem sc_plain : FnScope N_plain ["x"] (defScope s_plain) := ⟨rfl, rfl, rfl, by decide +kernel, rfl, by decide +kernel, by decide +kernel⟩
abbrev s_rows_of : Stmt := top 29
abbrev N_rows_of : List Str := ["machine", "a", "b", "room", "i", "digit", "carry", "k", "other"]
theorem sc_rows_of : FnScope N_rows_of ["machine", "a", "b"] (defScope s_rows_of) := ⟨rfl, rfl, rfl, by decide +kernel, rfl, by decide +kernel, by decide +kernel⟩
abbrev s_square_rows_of : Stmt := top 30
abbrev N_square_rows_of : List Str := ["machine", "a", "size", "room", "i", "digit", "carry", "k", "place"]
theorem sc_square_rows_of : FnScope N_square_rows_of ["machine", "a"] (defScope s_square_rows_of) := ⟨rfl, rfl, rfl, by decide +kernel, rfl, by decide +kernel, by decide +kernel⟩
abbrev s_multiply_by_rows : Stmt := top 31
abbrev N_multiply_by_rows : List Str := ["machine", "x", "y"]
theorem sc_multiply_by_rows : FnScope N_multiply_by_rows ["machine", "x", "y"] (defScope s_multiply_by_rows) := ⟨rfl, rfl, rfl, by decide +kernel, rfl, by decide +kernel, by decide +kernel⟩
abbrev s_square_by_rows : Stmt := top 32
abbrev N_square_by_rows : List Str := ["machine", "x"]
theorem sc_square_by_rows : FnScope N_square_by_rows ["machine", "x"] (defScope s_square_by_rows) := ⟨rfl, rfl, rfl, by decide +kernel, rfl, by decide +kernel, by decide +kernel⟩
abbrev s_law_purse : Stmt := top 34
abbrev N_law_purse : List Str := ["_law_cell"]
theorem sc_law_purse : FnScope N_law_purse ["_law_cell"] (defScope s_law_purse) := ⟨rfl, rfl, rfl, by decide +kernel, rfl, by decide +kernel, by decide +kernel⟩
abbrev s_law_coin : Stmt := top 35
abbrev N_law_coin : List Str := ["_law_purse_here", "_law_amount", "_law_coin_here", "_law_mixed"]
theorem sc_law_coin : FnScope N_law_coin ["_law_purse_here", "_law_amount"] (defScope s_law_coin) := ⟨rfl, rfl, rfl, by decide +kernel, rfl, by decide +kernel, by decide +kernel⟩
abbrev s_law_pick : Stmt := top 36
abbrev N_law_pick : List Str := ["_law_purse_here", "_law_some"]
theorem sc_law_pick : FnScope N_law_pick ["_law_purse_here", "_law_some"] (defScope s_law_pick) := ⟨rfl, rfl, rfl, by decide +kernel, rfl, by decide +kernel, by decide +kernel⟩
abbrev s_law_row : Stmt := top 37
abbrev N_law_row : List Str := ["_law_purse_here", "_law_bits", "_law_size", "_law_found", "_law_k"]
theorem sc_law_row : FnScope N_law_row ["_law_purse_here", "_law_bits", "_law_size"] (defScope s_law_row) := ⟨rfl, rfl, rfl, by decide +kernel, rfl, by decide +kernel, by decide +kernel⟩
abbrev s_law_worth : Stmt := top 38
abbrev N_law_worth : List Str := ["_law_bits", "_law_row_here", "_law_found", "_law_digit"]
theorem sc_law_worth : FnScope N_law_worth ["_law_bits", "_law_row_here"] (defScope s_law_worth) := ⟨rfl, rfl, rfl, by decide +kernel, rfl, by decide +kernel, by decide +kernel⟩
abbrev s_law_digits : Stmt := top 39
abbrev N_law_digits : List Str := ["_law_bits", "_law_n", "_law_found"]
theorem sc_law_digits : FnScope N_law_digits ["_law_bits", "_law_n"] (defScope s_law_digits) := ⟨rfl, rfl, rfl, by decide +kernel, rfl, by decide +kernel, by decide +kernel⟩
abbrev s_law_is : Stmt := top 40
abbrev N_law_is : List Str := ["_law_held", "_law_bits", "_law_n", "_law_side"]
theorem sc_law_is : FnScope N_law_is ["_law_held", "_law_bits", "_law_n"] (defScope s_law_is) := ⟨rfl, rfl, rfl, by decide +kernel, rfl, by decide +kernel, by decide +kernel⟩
abbrev s_law_counted : Stmt := top 41
abbrev N_law_counted : List Str := ["_law_engine", "_law_found", "_law_row_here"]
theorem sc_law_counted : FnScope N_law_counted ["_law_engine"] (defScope s_law_counted) := ⟨rfl, rfl, rfl, by decide +kernel, rfl, by decide +kernel, by decide +kernel⟩
abbrev s_law_right : Stmt := top 42
abbrev N_law_right : List Str := ["_law_purse_here", "_law_bits", "_law_engine", "_law_rows", "_law_turn", "_law_one", "_law_two", "_law_row_here", "_law_m", "_law_n", "_law_left", "_law_right_here", "_law_due", "_law_got"]
theorem sc_law_right : FnScope N_law_right ["_law_purse_here"] (defScope s_law_right) := ⟨rfl, rfl, rfl, by decide +kernel, rfl, by decide +kernel, by decide +kernel⟩
abbrev s_law : Stmt := top 43
abbrev N_law : List Str := ["_law_script", "_law_cell", "_law_purse_here", "_law_turn", "_law_tiny", "_law_got"]
theorem sc_law : FnScope N_law ["_law_script"] (defScope s_law) := ⟨rfl, rfl, rfl, by decide +kernel, rfl, by decide +kernel, by decide +kernel⟩
/-- where all stands -/
structure Ad where
  c : Pc
  f_is_integer : Addr
  fd_is_integer : FuncData
  f_is_between : Addr
  fd_is_between : FuncData
  f_check_integer : Addr
  fd_check_integer : FuncData
  f_Machine_init : Addr
  fd_Machine_init : FuncData
  f_Machine_tally : Addr
  fd_Machine_tally : FuncData
  f_Machine_walk : Addr
  fd_Machine_walk : FuncData
  f_Machine_reset : Addr
  fd_Machine_reset : FuncData
  f_Machine_count : Addr
  fd_Machine_count : FuncData
  f_Machine_enter : Addr
  fd_Machine_enter : FuncData
  f_check_machine : Addr
  fd_check_machine : FuncData
  f_Big_init : Addr
  fd_Big_init : FuncData
  f_Big_eq : Addr
  fd_Big_eq : FuncData
  f_Big_sign : Addr
  fd_Big_sign : FuncData
  f_Big_digits : Addr
  fd_Big_digits : FuncData
  f_Big_bits : Addr
  fd_Big_bits : FuncData
  f_made : Addr
  fd_made : FuncData
  f_digits_of : Addr
  fd_digits_of : FuncData
  f_big_of : Addr
  fd_big_of : FuncData
  f_value_of : Addr
  fd_value_of : FuncData
  f_check_big : Addr
  fd_check_big : FuncData
  f_check_bigs : Addr
  fd_check_bigs : FuncData
  f_check_any : Addr
  fd_check_any : FuncData
  f_big : Addr
  fd_big : FuncData
  f_plain : Addr
  fd_plain : FuncData
  f_rows_of : Addr
  fd_rows_of : FuncData
  f_square_rows_of : Addr
  fd_square_rows_of : FuncData
  f_multiply_by_rows : Addr
  fd_multiply_by_rows : FuncData
  f_square_by_rows : Addr
  fd_square_by_rows : FuncData
  f_law_purse : Addr
  fd_law_purse : FuncData
  f_law_coin : Addr
  fd_law_coin : FuncData
  f_law_pick : Addr
  fd_law_pick : FuncData
  f_law_row : Addr
  fd_law_row : FuncData
  f_law_worth : Addr
  fd_law_worth : FuncData
  f_law_digits : Addr
  fd_law_digits : FuncData
  f_law_is : Addr
  fd_law_is : FuncData
  f_law_counted : Addr
  fd_law_counted : FuncData
  f_law_right : Addr
  fd_law_right : FuncData
  f_law : Addr
  fd_law : FuncData
/-- what the top has left -/
structure Txt (K : PySem.W.Frag) (mg : Str → Option Value) (a : Ad) : Prop where
  PM : Eng.PM K a.c
  PB : Eng.PB K a.c
  g_Machine : mg "Machine" = some (.ref a.c.CMachine)
  cl_Machine : Cls K a.c.CMachine
  mk_Machine : Mk K a.c.CMachine a.f_Machine_init
  g_Big : mg "Big" = some (.ref a.c.CBig)
  cl_Big : Cls K a.c.CBig
  mk_Big : Mk K a.c.CBig a.f_Big_init
  ne_Big : NeTxt K a.c.CBig a.f_Big_eq
  g_LEAST_BITS : ∃ u, mg "LEAST_BITS" = some u ∧ RelV (.int 8) u
  g_MOST_BITS : ∃ u, mg "MOST_BITS" = some u ∧ RelV (.int 30) u
  g_MOST_CUTOFF : ∃ u, mg "MOST_CUTOFF" = some u ∧ RelV (.int 1000) u
  g_MOST_WALK : ∃ u, mg "MOST_WALK" = some u ∧ RelV (.int 1000) u
  g_WORDS : mg "WORDS" = some (.ref a.c.aWORDS)
  F_is_integer : Fun K "is_integer" "is_integer" s_is_integer a.f_is_integer a.fd_is_integer
  m_is_integer : mg "is_integer" = some (.ref a.f_is_integer)
  b_is_integer : Binds K a.fd_is_integer ["value"] []
  F_is_between : Fun K "is_between" "is_between" s_is_between a.f_is_between a.fd_is_between
  m_is_between : mg "is_between" = some (.ref a.f_is_between)
  b_is_between : Binds K a.fd_is_between ["value", "low", "high"] []
  F_check_integer : Fun K "check_integer" "check_integer" s_check_integer a.f_check_integer a.fd_check_integer
  m_check_integer : mg "check_integer" = some (.ref a.f_check_integer)
  b_check_integer : Binds K a.fd_check_integer ["argument", "value"] []
  F_Machine_init : FunD K "__init__" "Machine.__init__" (defArgs s_Machine_init) (defBody s_Machine_init) (defScope s_Machine_init) [(.int 30), (.int 70)] [] a.f_Machine_init a.fd_Machine_init
  b_Machine_init : Binds K a.fd_Machine_init ["self", "bits", "cutoff"] []
  F_Machine_tally : Fun K "tally" "Machine.tally" s_Machine_tally a.f_Machine_tally a.fd_Machine_tally
  me_Machine_tally : Meth K a.c.CMachine "tally" a.f_Machine_tally
  b_Machine_tally : Binds K a.fd_Machine_tally ["self"] []
  F_Machine_walk : Fun K "walk" "Machine.walk" s_Machine_walk a.f_Machine_walk a.fd_Machine_walk
  me_Machine_walk : Meth K a.c.CMachine "walk" a.f_Machine_walk
  b_Machine_walk : Binds K a.fd_Machine_walk ["self"] []
  F_Machine_reset : Fun K "reset" "Machine.reset" s_Machine_reset a.f_Machine_reset a.fd_Machine_reset
  me_Machine_reset : Meth K a.c.CMachine "reset" a.f_Machine_reset
  b_Machine_reset : Binds K a.fd_Machine_reset ["self"] []
  F_Machine_count : Fun K "count" "Machine.count" s_Machine_count a.f_Machine_count a.fd_Machine_count
  me_Machine_count : Meth K a.c.CMachine "count" a.f_Machine_count
  b_Machine_count : Binds K a.fd_Machine_count ["self", "word", "number"] []
  F_Machine_enter : Fun K "enter" "Machine.enter" s_Machine_enter a.f_Machine_enter a.fd_Machine_enter
  me_Machine_enter : Meth K a.c.CMachine "enter" a.f_Machine_enter
  b_Machine_enter : Binds K a.fd_Machine_enter ["self", "word", "m", "n"] []
  F_check_machine : Fun K "check_machine" "check_machine" s_check_machine a.f_check_machine a.fd_check_machine
  m_check_machine : mg "check_machine" = some (.ref a.f_check_machine)
  b_check_machine : Binds K a.fd_check_machine ["value"] []
  F_Big_init : Fun K "__init__" "Big.__init__" s_Big_init a.f_Big_init a.fd_Big_init
  b_Big_init : Binds K a.fd_Big_init ["self", "width", "side", "row"] []
  F_Big_eq : Fun K "__eq__" "Big.__eq__" s_Big_eq a.f_Big_eq a.fd_Big_eq
  me_Big_eq : Meth K a.c.CBig "__eq__" a.f_Big_eq
  b_Big_eq : Binds K a.fd_Big_eq ["self", "other"] []
  F_Big_sign : Fun K "sign" "Big.sign" s_Big_sign a.f_Big_sign a.fd_Big_sign
  me_Big_sign : Meth K a.c.CBig "sign" a.f_Big_sign
  b_Big_sign : Binds K a.fd_Big_sign ["self"] []
  F_Big_digits : Fun K "digits" "Big.digits" s_Big_digits a.f_Big_digits a.fd_Big_digits
  me_Big_digits : Meth K a.c.CBig "digits" a.f_Big_digits
  b_Big_digits : Binds K a.fd_Big_digits ["self"] []
  F_Big_bits : Fun K "bits" "Big.bits" s_Big_bits a.f_Big_bits a.fd_Big_bits
  me_Big_bits : Meth K a.c.CBig "bits" a.f_Big_bits
  b_Big_bits : Binds K a.fd_Big_bits ["self"] []
  F_made : Fun K "made" "made" s_made a.f_made a.fd_made
  m_made : mg "made" = some (.ref a.f_made)
  b_made : Binds K a.fd_made ["machine", "side", "digits"] []
  F_digits_of : Fun K "digits_of" "digits_of" s_digits_of a.f_digits_of a.fd_digits_of
  m_digits_of : mg "digits_of" = some (.ref a.f_digits_of)
  b_digits_of : Binds K a.fd_digits_of ["machine", "n"] []
  F_big_of : Fun K "big_of" "big_of" s_big_of a.f_big_of a.fd_big_of
  m_big_of : mg "big_of" = some (.ref a.f_big_of)
  b_big_of : Binds K a.fd_big_of ["machine", "n"] []
  F_value_of : Fun K "value_of" "value_of" s_value_of a.f_value_of a.fd_value_of
  m_value_of : mg "value_of" = some (.ref a.f_value_of)
  b_value_of : Binds K a.fd_value_of ["x"] []
  F_check_big : Fun K "check_big" "check_big" s_check_big a.f_check_big a.fd_check_big
  m_check_big : mg "check_big" = some (.ref a.f_check_big)
  b_check_big : Binds K a.fd_check_big ["machine", "argument", "value"] []
  F_check_bigs : Fun K "check_bigs" "check_bigs" s_check_bigs a.f_check_bigs a.fd_check_bigs
  m_check_bigs : mg "check_bigs" = some (.ref a.f_check_bigs)
  b_check_bigs : Binds K a.fd_check_bigs ["machine", "x", "y"] []
  F_check_any : Fun K "check_any" "check_any" s_check_any a.f_check_any a.fd_check_any
  m_check_any : mg "check_any" = some (.ref a.f_check_any)
  b_check_any : Binds K a.fd_check_any ["value"] []
  F_big : Fun K "big" "big" s_big a.f_big a.fd_big
  m_big : mg "big" = some (.ref a.f_big)
  b_big : Binds K a.fd_big ["machine", "n"] []
  F_plain : Fun K "plain" "plain" s_plain a.f_plain a.fd_plain
  m_plain : mg "plain" = some (.ref a.f_plain)
  b_plain : Binds K a.fd_plain ["x"] []
  F_rows_of : Fun K "rows_of" "rows_of" s_rows_of a.f_rows_of a.fd_rows_of
  m_rows_of : mg "rows_of" = some (.ref a.f_rows_of)
  b_rows_of : Binds K a.fd_rows_of ["machine", "a", "b"] []
  F_square_rows_of : Fun K "square_rows_of" "square_rows_of" s_square_rows_of a.f_square_rows_of a.fd_square_rows_of
  m_square_rows_of : mg "square_rows_of" = some (.ref a.f_square_rows_of)
  b_square_rows_of : Binds K a.fd_square_rows_of ["machine", "a"] []
  F_multiply_by_rows : Fun K "multiply_by_rows" "multiply_by_rows" s_multiply_by_rows a.f_multiply_by_rows a.fd_multiply_by_rows
  m_multiply_by_rows : mg "multiply_by_rows" = some (.ref a.f_multiply_by_rows)
  b_multiply_by_rows : Binds K a.fd_multiply_by_rows ["machine", "x", "y"] []
  F_square_by_rows : Fun K "square_by_rows" "square_by_rows" s_square_by_rows a.f_square_by_rows a.fd_square_by_rows
  m_square_by_rows : mg "square_by_rows" = some (.ref a.f_square_by_rows)
  b_square_by_rows : Binds K a.fd_square_by_rows ["machine", "x"] []
  F_law_purse : Fun K "_law_purse" "_law_purse" s_law_purse a.f_law_purse a.fd_law_purse
  m_law_purse : mg "_law_purse" = some (.ref a.f_law_purse)
  b_law_purse : Binds K a.fd_law_purse ["_law_cell"] []
  F_law_coin : Fun K "_law_coin" "_law_coin" s_law_coin a.f_law_coin a.fd_law_coin
  m_law_coin : mg "_law_coin" = some (.ref a.f_law_coin)
  b_law_coin : Binds K a.fd_law_coin ["_law_purse_here", "_law_amount"] []
  F_law_pick : Fun K "_law_pick" "_law_pick" s_law_pick a.f_law_pick a.fd_law_pick
  m_law_pick : mg "_law_pick" = some (.ref a.f_law_pick)
  b_law_pick : Binds K a.fd_law_pick ["_law_purse_here", "_law_some"] []
  F_law_row : Fun K "_law_row" "_law_row" s_law_row a.f_law_row a.fd_law_row
  m_law_row : mg "_law_row" = some (.ref a.f_law_row)
  b_law_row : Binds K a.fd_law_row ["_law_purse_here", "_law_bits", "_law_size"] []
  F_law_worth : Fun K "_law_worth" "_law_worth" s_law_worth a.f_law_worth a.fd_law_worth
  m_law_worth : mg "_law_worth" = some (.ref a.f_law_worth)
  b_law_worth : Binds K a.fd_law_worth ["_law_bits", "_law_row_here"] []
  F_law_digits : Fun K "_law_digits" "_law_digits" s_law_digits a.f_law_digits a.fd_law_digits
  m_law_digits : mg "_law_digits" = some (.ref a.f_law_digits)
  b_law_digits : Binds K a.fd_law_digits ["_law_bits", "_law_n"] []
  F_law_is : Fun K "_law_is" "_law_is" s_law_is a.f_law_is a.fd_law_is
  m_law_is : mg "_law_is" = some (.ref a.f_law_is)
  b_law_is : Binds K a.fd_law_is ["_law_held", "_law_bits", "_law_n"] []
  F_law_counted : Fun K "_law_counted" "_law_counted" s_law_counted a.f_law_counted a.fd_law_counted
  m_law_counted : mg "_law_counted" = some (.ref a.f_law_counted)
  b_law_counted : Binds K a.fd_law_counted ["_law_engine"] []
  F_law_right : Fun K "_law_right" "_law_right" s_law_right a.f_law_right a.fd_law_right
  m_law_right : mg "_law_right" = some (.ref a.f_law_right)
  b_law_right : Binds K a.fd_law_right ["_law_purse_here"] []
  F_law : Fun K "law" "law" s_law a.f_law a.fd_law
  m_law : mg "law" = some (.ref a.f_law)
  b_law : Binds K a.fd_law ["_law_script"] []
  kb_multiply_by_rows_y_x_machine : KB0 K a.fd_multiply_by_rows ["machine", "x", "y"] ["y", "x", "machine"] (permV [2, 1, 0]) (perm [2, 1, 0])
  kb_square_by_rows_x_machine : KB0 K a.fd_square_by_rows ["machine", "x"] ["x", "machine"] (permV [1, 0]) (perm [1, 0])
  n_abs : mg "abs" = none
  n_bool : mg "bool" = none
  n_dict : mg "dict" = none
  n_enumerate : mg "enumerate" = none
  n_int : mg "int" = none
  n_isinstance : mg "isinstance" = none
  n_len : mg "len" = none
  n_list : mg "list" = none
  n_max : mg "max" = none
  n_range : mg "range" = none
  n_tuple : mg "tuple" = none
section
variable {P : Program} {w : World} {K : PySem.W.Frag} {mg : Str → Option Value} {base : Heap} {a : Ad}
theorem dv_is_integer {cdv : Value} {A : Around} {outer : List Env} {s : Shared} {H : Hp} {E : XK} (T : Txt K mg a) (hr : Room 0 (A.deeper (envOfC "is_integer" (defScope s_is_integer) s.heap.objs.size a.f_is_integer cdv))) :
    PSs (cxOf CX0 P w K mg base N_is_integer "is_integer" (defScope s_is_integer) a.f_is_integer cdv A outer s H E).nox (defBody s_is_integer) (t_is_integer K a.c) := by
  unfold t_is_integer
  exact (pss_one (ps_ret (pe_and (pe_callB call_isi (by rfl) T.n_isinstance (by decide +kernel) (pa_cons (pv 0) (pa_cons (pe_bltn (v := .ty "int") (by rfl) T.n_int (by decide +kernel) rfl) pa_nil))) (pe_one (pe_not (pe_callB call_isi (by rfl) T.n_isinstance (by decide +kernel) (pa_cons (pv 0) (pa_cons (pe_bltn (v := .ty "bool") (by rfl) T.n_bool (by decide +kernel) rfl) pa_nil))))))))
theorem ok_is_integer (T : Txt K mg a) : FnOk P w K mg base CX0 1 a.f_is_integer a.fd_is_integer ["value"] (sp_is_integer K a.c) := by
  refine T.F_is_integer.ok sc_is_integer (fun vs H Q E h => ?_) (fun cdv A outer s H vs Q E hr h => ⟨_, dv_is_integer T hr, b_is_integer h⟩)
  (repeat (obtain ⟨_, h⟩ := h)); all_goals (subst_vars; rfl)
theorem dv_Machine_tally {cdv : Value} {A : Around} {outer : List Env} {s : Shared} {H : Hp} {E : XK} (T : Txt K mg a) (hr : Room 0 (A.deeper (envOfC "Machine.tally" (defScope s_Machine_tally) s.heap.objs.size a.f_Machine_tally cdv))) :
    PSs (cxOf CX0 P w K mg base N_Machine_tally "Machine.tally" (defScope s_Machine_tally) a.f_Machine_tally cdv A outer s H E).nox (defBody s_Machine_tally) (t_Machine_tally K a.c) := by
  unfold t_Machine_tally
  exact (pss_one (ps_ret (pe_lc (own := [("word", 1)]) (g := (gName 1)) rfl sc_Machine_tally.nd (pi_tup (pe_glob rfl T.g_WORDS rfl)) (blkOk_by (own := [("word", 1)]) (N := N_Machine_tally) (sc := defScope s_Machine_tally) (by decide +kernel)) (fun _ _ _ _ _ => (pg_name (i := 1) sc_Machine_tally.nd rfl (by first | exact Or.inl rfl | exact Or.inr rfl))) (fun _ _ _ _ _ => pts_nil) (fun _ _ _ _ _ => (pe_tup (pa_cons (pv 1) (pa_cons (pe_dget (hu_of hr) (pe_fld (pv 0) rfl) (pv 1) (fun _ _ => rfl)) pa_nil)))))))
theorem ok_Machine_tally (T : Txt K mg a) : FnOk P w K mg base CX0 1 a.f_Machine_tally a.fd_Machine_tally ["self"] (sp_Machine_tally K a.c) := by
  refine T.F_Machine_tally.ok sc_Machine_tally (fun vs H Q E h => ?_) (fun cdv A outer s H vs Q E hr h => ⟨_, dv_Machine_tally T hr, b_Machine_tally T.PM h⟩)
  (repeat (obtain ⟨_, h⟩ := h)); all_goals (subst_vars; rfl)
theorem dv_Machine_walk {cdv : Value} {A : Around} {outer : List Env} {s : Shared} {H : Hp} {E : XK} (T : Txt K mg a) (hr : Room 0 (A.deeper (envOfC "Machine.walk" (defScope s_Machine_walk) s.heap.objs.size a.f_Machine_walk cdv))) :
    PSs (cxOf CX0 P w K mg base N_Machine_walk "Machine.walk" (defScope s_Machine_walk) a.f_Machine_walk cdv A outer s H E).nox (defBody s_Machine_walk) (t_Machine_walk K a.c) := by
  unfold t_Machine_walk
  exact (pss_one (ps_ret (pe_callTy c_list (by rfl) T.n_list (by decide +kernel) (pa_cons (pe_fld (pv 0) rfl) pa_nil))))
theorem ok_Machine_walk (T : Txt K mg a) : FnOk P w K mg base CX0 1 a.f_Machine_walk a.fd_Machine_walk ["self"] (sp_Machine_walk K a.c) := by
  refine T.F_Machine_walk.ok sc_Machine_walk (fun vs H Q E h => ?_) (fun cdv A outer s H vs Q E hr h => ⟨_, dv_Machine_walk T hr, b_Machine_walk T.PM h⟩)
  (repeat (obtain ⟨_, h⟩ := h)); all_goals (subst_vars; rfl)
theorem dv_Machine_reset {cdv : Value} {A : Around} {outer : List Env} {s : Shared} {H : Hp} {E : XK} (T : Txt K mg a) (hr : Room 0 (A.deeper (envOfC "Machine.reset" (defScope s_Machine_reset) s.heap.objs.size a.f_Machine_reset cdv))) :
    PSs (cxOf CX0 P w K mg base N_Machine_reset "Machine.reset" (defScope s_Machine_reset) a.f_Machine_reset cdv A outer s H E).nox (defBody s_Machine_reset) (t_Machine_reset K a.c) := by
  unfold t_Machine_reset
  exact (pss_cons (ps_for PassesOwn.never rfl (pi_tup (pe_glob rfl T.g_WORDS rfl)) (pg_name (i := 1) sc_Machine_reset.nd rfl (by first | exact Or.inl rfl | exact Or.inr rfl)) (pss_one (ps_dput (hu_of hr) (pe_fld (pv 0) rfl) (pv 1) pe_int rfl)))
      (pss_one (ps_expr (pe_bm0 PySem.F.plainAttrs_list PySem.F.slot_list_clear PySem.F.type_list_clear mt_clear (pe_fld (pv 0) rfl)))))
theorem ok_Machine_reset (T : Txt K mg a) : FnOk P w K mg base CX0 1 a.f_Machine_reset a.fd_Machine_reset ["self"] (sp_Machine_reset K a.c) := by
  refine T.F_Machine_reset.ok sc_Machine_reset (fun vs H Q E h => ?_) (fun cdv A outer s H vs Q E hr h => ⟨_, dv_Machine_reset T hr, b_Machine_reset T.PM h⟩)
  (repeat (obtain ⟨_, h⟩ := h)); all_goals (subst_vars; rfl)
theorem dv_Machine_count {cdv : Value} {A : Around} {outer : List Env} {s : Shared} {H : Hp} {E : XK} (T : Txt K mg a) (hr : Room 0 (A.deeper (envOfC "Machine.count" (defScope s_Machine_count) s.heap.objs.size a.f_Machine_count cdv))) :
    PSs (cxOf CX0 P w K mg base N_Machine_count "Machine.count" (defScope s_Machine_count) a.f_Machine_count cdv A outer s H E).nox (defBody s_Machine_count) (t_Machine_count K a.c) := by
  unfold t_Machine_count
  exact (pss_one (ps_dput (hu_of hr) (pe_fld (pv 0) rfl) (pv 1) (pe_op o_add (pe_dget (hu_of hr) (pe_fld (pv 0) rfl) (pv 1) (fun _ _ => rfl)) (pv 2)) rfl))
theorem ok_Machine_count (T : Txt K mg a) : FnOk P w K mg base CX0 1 a.f_Machine_count a.fd_Machine_count ["self", "word", "number"] (sp_Machine_count K a.c) := by
  refine T.F_Machine_count.ok sc_Machine_count (fun vs H Q E h => ?_) (fun cdv A outer s H vs Q E hr h => ⟨_, dv_Machine_count T hr, b_Machine_count T.PM h⟩)
  (repeat (obtain ⟨_, h⟩ := h)); all_goals (subst_vars; rfl)
theorem dv_Machine_enter {cdv : Value} {A : Around} {outer : List Env} {s : Shared} {H : Hp} {E : XK} (T : Txt K mg a) (hr : Room 0 (A.deeper (envOfC "Machine.enter" (defScope s_Machine_enter) s.heap.objs.size a.f_Machine_enter cdv))) :
    PSs (cxOf CX0 P w K mg base N_Machine_enter "Machine.enter" (defScope s_Machine_enter) a.f_Machine_enter cdv A outer s H E).nox (defBody s_Machine_enter) (t_Machine_enter K a.c) := by
  unfold t_Machine_enter
  exact (pss_one (ps_if (pt_cmpR o_lt (pe_callB c_len (by rfl) T.n_len (by decide +kernel) (pa_cons (pe_fld (pv 0) rfl) pa_nil)) (C8.pe_gc rfl T.g_MOST_WALK) (nomark _)) (pss_one (ps_expr (pe_bm PySem.F.plainAttrs_list PySem.F.slot_list_append PySem.F.type_list_append mt_append (pe_fld (pv 0) rfl) (pa_cons (pe_tup (pa_cons (pv 1) (pa_cons (pv 2) (pa_cons (pv 3) pa_nil)))) pa_nil)))) pss_nil))
theorem ok_Machine_enter (T : Txt K mg a) : FnOk P w K mg base CX0 1 a.f_Machine_enter a.fd_Machine_enter ["self", "word", "m", "n"] (sp_Machine_enter K a.c) := by
  refine T.F_Machine_enter.ok sc_Machine_enter (fun vs H Q E h => ?_) (fun cdv A outer s H vs Q E hr h => ⟨_, dv_Machine_enter T hr, b_Machine_enter T.PM h⟩)
  (repeat (obtain ⟨_, h⟩ := h)); all_goals (subst_vars; rfl)
theorem dv_check_machine {cdv : Value} {A : Around} {outer : List Env} {s : Shared} {H : Hp} {E : XK} (T : Txt K mg a) (hr : Room 0 (A.deeper (envOfC "check_machine" (defScope s_check_machine) s.heap.objs.size a.f_check_machine cdv))) :
    PSs (cxOf CX0 P w K mg base N_check_machine "check_machine" (defScope s_check_machine) a.f_check_machine cdv A outer s H E).nox (defBody s_check_machine) (t_check_machine K a.c) := by
  unfold t_check_machine
  exact (pss_one (ps_if (pt_not (pt_val (pe_callB call_isi (by rfl) T.n_isinstance (by decide +kernel) (pa_cons (pv 0) (pa_cons (pe_glob rfl T.g_Machine rfl) pa_nil))))) (pss_one ps_never) pss_nil))
theorem ok_check_machine (T : Txt K mg a) : FnOk P w K mg base CX0 1 a.f_check_machine a.fd_check_machine ["value"] (sp_check_machine K a.c) := by
  refine T.F_check_machine.ok sc_check_machine (fun vs H Q E h => ?_) (fun cdv A outer s H vs Q E hr h => ⟨_, dv_check_machine T hr, b_check_machine T.PM h⟩)
  (repeat (obtain ⟨_, h⟩ := h)); all_goals (subst_vars; rfl)
theorem dv_Big_init {cdv : Value} {A : Around} {outer : List Env} {s : Shared} {H : Hp} {E : XK} (T : Txt K mg a) (hr : Room 0 (A.deeper (envOfC "Big.__init__" (defScope s_Big_init) s.heap.objs.size a.f_Big_init cdv))) :
    PSs (cxOf CX0 P w K mg base N_Big_init "Big.__init__" (defScope s_Big_init) a.f_Big_init cdv A outer s H E).nox (defBody s_Big_init) (t_Big_init K a.c) := by
  unfold t_Big_init
  exact (pss_cons (ps_fld (pv 0) (pv 1) rfl)
      (pss_cons (ps_fld (pv 0) (pv 2) rfl)
      (pss_one (ps_fld (pv 0) (pv 3) rfl))))
theorem ok_Big_init (T : Txt K mg a) : FnOk P w K mg base CX0 1 a.f_Big_init a.fd_Big_init ["self", "width", "side", "row"] (sp_Big_init K a.c) := by
  refine T.F_Big_init.ok sc_Big_init (fun vs H Q E h => ?_) (fun cdv A outer s H vs Q E hr h => ⟨_, dv_Big_init T hr, b_Big_init T.PB h⟩)
  (repeat (obtain ⟨_, h⟩ := h)); all_goals (subst_vars; rfl)
theorem dv_Big_eq {cdv : Value} {A : Around} {outer : List Env} {s : Shared} {H : Hp} {E : XK} (T : Txt K mg a) (hr : Room 0 (A.deeper (envOfC "Big.__eq__" (defScope s_Big_eq) s.heap.objs.size a.f_Big_eq cdv))) :
    PSs (cxOf CX0 P w K mg base N_Big_eq "Big.__eq__" (defScope s_Big_eq) a.f_Big_eq cdv A outer s H E).nox (defBody s_Big_eq) (t_Big_eq K a.c) := by
  unfold t_Big_eq
  exact (pss_one (ps_ret (pe_and (pe_callB call_isi (by rfl) T.n_isinstance (by decide +kernel) (pa_cons (pv 1) (pa_cons (pe_glob rfl T.g_Big rfl) pa_nil))) (pe_one (pe_cmpR (op_eqD hr.units) (pe_tup (pa_cons (pe_fld (pv 0) rfl) (pa_cons (pe_fld (pv 0) rfl) (pa_cons (pe_fld (pv 0) rfl) pa_nil)))) (pe_tup (pa_cons (pe_fld (pv 1) rfl) (pa_cons (pe_fld (pv 1) rfl) (pa_cons (pe_fld (pv 1) rfl) pa_nil)))) (nomark _))))))
theorem ok_Big_eq (T : Txt K mg a) : FnOk P w K mg base CX0 1 a.f_Big_eq a.fd_Big_eq ["self", "other"] (sp_Big_eq K a.c) := by
  refine T.F_Big_eq.ok sc_Big_eq (fun vs H Q E h => ?_) (fun cdv A outer s H vs Q E hr h => ⟨_, dv_Big_eq T hr, b_Big_eq T.PB h⟩)
  (repeat (obtain ⟨_, h⟩ := h)); all_goals (subst_vars; rfl)
theorem dv_Big_sign {cdv : Value} {A : Around} {outer : List Env} {s : Shared} {H : Hp} {E : XK} (T : Txt K mg a) (hr : Room 0 (A.deeper (envOfC "Big.sign" (defScope s_Big_sign) s.heap.objs.size a.f_Big_sign cdv))) :
    PSs (cxOf CX0 P w K mg base N_Big_sign "Big.sign" (defScope s_Big_sign) a.f_Big_sign cdv A outer s H E).nox (defBody s_Big_sign) (t_Big_sign K a.c) := by
  unfold t_Big_sign
  exact (pss_one (ps_ret (pe_fld (pv 0) rfl)))
theorem ok_Big_sign (T : Txt K mg a) : FnOk P w K mg base CX0 1 a.f_Big_sign a.fd_Big_sign ["self"] (sp_Big_sign K a.c) := by
  refine T.F_Big_sign.ok sc_Big_sign (fun vs H Q E h => ?_) (fun cdv A outer s H vs Q E hr h => ⟨_, dv_Big_sign T hr, b_Big_sign T.PB h⟩)
  (repeat (obtain ⟨_, h⟩ := h)); all_goals (subst_vars; rfl)
theorem dv_Big_digits {cdv : Value} {A : Around} {outer : List Env} {s : Shared} {H : Hp} {E : XK} (T : Txt K mg a) (hr : Room 0 (A.deeper (envOfC "Big.digits" (defScope s_Big_digits) s.heap.objs.size a.f_Big_digits cdv))) :
    PSs (cxOf CX0 P w K mg base N_Big_digits "Big.digits" (defScope s_Big_digits) a.f_Big_digits cdv A outer s H E).nox (defBody s_Big_digits) (t_Big_digits K a.c) := by
  unfold t_Big_digits
  exact (pss_one (ps_ret (pe_callTy c_list (by rfl) T.n_list (by decide +kernel) (pa_cons (pe_fld (pv 0) rfl) pa_nil))))
theorem ok_Big_digits (T : Txt K mg a) : FnOk P w K mg base CX0 1 a.f_Big_digits a.fd_Big_digits ["self"] (sp_Big_digits K a.c) := by
  refine T.F_Big_digits.ok sc_Big_digits (fun vs H Q E h => ?_) (fun cdv A outer s H vs Q E hr h => ⟨_, dv_Big_digits T hr, b_Big_digits T.PB h⟩)
  (repeat (obtain ⟨_, h⟩ := h)); all_goals (subst_vars; rfl)
theorem dv_Big_bits {cdv : Value} {A : Around} {outer : List Env} {s : Shared} {H : Hp} {E : XK} (T : Txt K mg a) (hr : Room 0 (A.deeper (envOfC "Big.bits" (defScope s_Big_bits) s.heap.objs.size a.f_Big_bits cdv))) :
    PSs (cxOf CX0 P w K mg base N_Big_bits "Big.bits" (defScope s_Big_bits) a.f_Big_bits cdv A outer s H E).nox (defBody s_Big_bits) (t_Big_bits K a.c) := by
  unfold t_Big_bits
  exact (pss_one (ps_ret (pe_fld (pv 0) rfl)))
theorem ok_Big_bits (T : Txt K mg a) : FnOk P w K mg base CX0 1 a.f_Big_bits a.fd_Big_bits ["self"] (sp_Big_bits K a.c) := by
  refine T.F_Big_bits.ok sc_Big_bits (fun vs H Q E h => ?_) (fun cdv A outer s H vs Q E hr h => ⟨_, dv_Big_bits T hr, b_Big_bits T.PB h⟩)
  (repeat (obtain ⟨_, h⟩ := h)); all_goals (subst_vars; rfl)
theorem dv_digits_of {cdv : Value} {A : Around} {outer : List Env} {s : Shared} {H : Hp} {E : XK} (T : Txt K mg a) (hr : Room 0 (A.deeper (envOfC "digits_of" (defScope s_digits_of) s.heap.objs.size a.f_digits_of cdv))) :
    PSs (cxOf CX0 P w K mg base N_digits_of "digits_of" (defScope s_digits_of) a.f_digits_of cdv A outer s H E).nox (defBody s_digits_of) (t_digits_of K a.c) := by
  unfold t_digits_of
  exact (pss_cons (ps_set (i := 2) sc_digits_of.nd rfl (by first | exact Or.inl rfl | exact Or.inr rfl) (pe_lst pa_nil))
      (pss_cons (ps_while PassesOwn.never (pt_cmpR o_gt (pv 1) pe_int (nomark _)) (pss_cons (ps_expr (pe_bm PySem.F.plainAttrs_list PySem.F.slot_list_append PySem.F.type_list_append mt_append (pv 2) (pa_cons (pe_op o_mod (pv 1) (pe_fld (pv 0) rfl)) pa_nil)))
      (pss_one (ps_set (i := 1) sc_digits_of.nd rfl (by first | exact Or.inl rfl | exact Or.inr rfl) (pe_op o_shr (pv 1) (pe_fld (pv 0) rfl))))))
      (pss_one (ps_ret (pv 2)))))
theorem ok_digits_of (T : Txt K mg a) : FnOk P w K mg base CX0 1 a.f_digits_of a.fd_digits_of ["machine", "n"] (sp_digits_of K a.c) := by
  refine T.F_digits_of.ok sc_digits_of (fun vs H Q E h => ?_) (fun cdv A outer s H vs Q E hr h => ⟨_, dv_digits_of T hr, b_digits_of T.PM h⟩)
  (repeat (obtain ⟨_, h⟩ := h)); all_goals (subst_vars; rfl)
theorem dv_value_of {cdv : Value} {A : Around} {outer : List Env} {s : Shared} {H : Hp} {E : XK} (T : Txt K mg a) (hr : Room 0 (A.deeper (envOfC "value_of" (defScope s_value_of) s.heap.objs.size a.f_value_of cdv))) :
    PSs (cxOf CX0 P w K mg base N_value_of "value_of" (defScope s_value_of) a.f_value_of cdv A outer s H E).nox (defBody s_value_of) (t_value_of K a.c) := by
  unfold t_value_of
  exact (pss_cons (ps_set (i := 1) sc_value_of.nd rfl (by first | exact Or.inl rfl | exact Or.inr rfl) pe_int)
      (pss_cons (ps_for PassesOwn.never rfl (pi_tup (pe_revT (pe_fld (pv 0) rfl))) (pg_name (i := 2) sc_value_of.nd rfl (by first | exact Or.inl rfl | exact Or.inr rfl)) (pss_one (ps_set (i := 1) sc_value_of.nd rfl (by first | exact Or.inl rfl | exact Or.inr rfl) (pe_op o_or (pe_op o_shl (pv 1) (pe_fld (pv 0) rfl)) (pv 2)))))
      (pss_one (ps_ret (pe_op o_mul (pe_fld (pv 0) rfl) (pv 1))))))
theorem ok_value_of (T : Txt K mg a) : FnOk P w K mg base CX0 1 a.f_value_of a.fd_value_of ["x"] (sp_value_of K a.c) := by
  refine T.F_value_of.ok sc_value_of (fun vs H Q E h => ?_) (fun cdv A outer s H vs Q E hr h => ⟨_, dv_value_of T hr, b_value_of T.PB h⟩)
  (repeat (obtain ⟨_, h⟩ := h)); all_goals (subst_vars; rfl)
theorem dv_check_big {cdv : Value} {A : Around} {outer : List Env} {s : Shared} {H : Hp} {E : XK} (T : Txt K mg a) (hr : Room 0 (A.deeper (envOfC "check_big" (defScope s_check_big) s.heap.objs.size a.f_check_big cdv))) :
    PSs (cxOf CX0 P w K mg base N_check_big "check_big" (defScope s_check_big) a.f_check_big cdv A outer s H E).nox (defBody s_check_big) (t_check_big K a.c) := by
  unfold t_check_big
  exact (pss_one (ps_if (PW.pt (pw_or (pt_not (pt_val (pe_callB call_isi (by rfl) T.n_isinstance (by decide +kernel) (pa_cons (pv 2) (pa_cons (pe_glob rfl T.g_Big rfl) pa_nil))))) (pw_or1 (pt_cmpR op_ne (pe_fld (pv 2) rfl) (pe_fld (pv 0) rfl) (nomark _))))) (pss_one ps_never) pss_nil))
theorem ok_check_big (T : Txt K mg a) : FnOk P w K mg base CX0 1 a.f_check_big a.fd_check_big ["machine", "argument", "value"] (sp_check_big K a.c) := by
  refine T.F_check_big.ok sc_check_big (fun vs H Q E h => ?_) (fun cdv A outer s H vs Q E hr h => ⟨_, dv_check_big T hr, b_check_big T.PM T.PB h⟩)
  (repeat (obtain ⟨_, h⟩ := h)); all_goals (subst_vars; rfl)
theorem dv_check_any {cdv : Value} {A : Around} {outer : List Env} {s : Shared} {H : Hp} {E : XK} (T : Txt K mg a) (hr : Room 0 (A.deeper (envOfC "check_any" (defScope s_check_any) s.heap.objs.size a.f_check_any cdv))) :
    PSs (cxOf CX0 P w K mg base N_check_any "check_any" (defScope s_check_any) a.f_check_any cdv A outer s H E).nox (defBody s_check_any) (t_check_any K a.c) := by
  unfold t_check_any
  exact (pss_one (ps_if (pt_not (pt_val (pe_callB call_isi (by rfl) T.n_isinstance (by decide +kernel) (pa_cons (pv 0) (pa_cons (pe_glob rfl T.g_Big rfl) pa_nil))))) (pss_one ps_never) pss_nil))
theorem ok_check_any (T : Txt K mg a) : FnOk P w K mg base CX0 1 a.f_check_any a.fd_check_any ["value"] (sp_check_any K a.c) := by
  refine T.F_check_any.ok sc_check_any (fun vs H Q E h => ?_) (fun cdv A outer s H vs Q E hr h => ⟨_, dv_check_any T hr, b_check_any T.PB h⟩)
  (repeat (obtain ⟨_, h⟩ := h)); all_goals (subst_vars; rfl)
theorem dv_law_purse {cdv : Value} {A : Around} {outer : List Env} {s : Shared} {H : Hp} {E : XK} (T : Txt K mg a) (hr : Room 0 (A.deeper (envOfC "_law_purse" (defScope s_law_purse) s.heap.objs.size a.f_law_purse cdv))) :
    PSs (cxOf CX0 P w K mg base N_law_purse "_law_purse" (defScope s_law_purse) a.f_law_purse cdv A outer s H E).nox (defBody s_law_purse) (t_z_purse K a.c) := by
  unfold t_z_purse
  exact (pss_one (ps_ret (pe_lst (pa_cons (pe_op o_mul (pv 0) (pe_callTy c_int (by rfl) T.n_int (by decide +kernel) (pa_cons (pe_cmpR o_ge (pv 0) (pe_op o_pow pe_int pe_int) (nomark _)) pa_nil))) (pa_cons (pe_op o_mod (pe_callTy c_int (by rfl) T.n_int (by decide +kernel) (pa_cons (pv 0) pa_nil)) pe_int) (pa_cons pe_int pa_nil))))))
theorem ok_law_purse (T : Txt K mg a) : FnOk P w K mg base CX0 1 a.f_law_purse a.fd_law_purse ["_law_cell"] (sp_z_purse K a.c) := by
  refine T.F_law_purse.ok sc_law_purse (fun vs H Q E h => ?_) (fun cdv A outer s H vs Q E hr h => ⟨_, dv_law_purse T hr, b_z_purse T.PM T.PB h⟩)
  first | exact Pu.lif_len n_z_purse h | exact Pu.lifS_len n_z_purse h | exact Pu.lifL_len n_z_purse h | exact Pu.lifO_len n_z_purse h
theorem dv_law_coin {cdv : Value} {A : Around} {outer : List Env} {s : Shared} {H : Hp} {E : XK} (T : Txt K mg a) (hr : Room 0 (A.deeper (envOfC "_law_coin" (defScope s_law_coin) s.heap.objs.size a.f_law_coin cdv))) :
    PSs (cxOf CX0 P w K mg base N_law_coin "_law_coin" (defScope s_law_coin) a.f_law_coin cdv A outer s H E).nox (defBody s_law_coin) (t_z_coin K a.c) := by
  unfold t_z_coin
  exact (pss_cons (ps_if (pt_cmpR o_gt (pe_ix ix_list (pv 0) pe_int (fun _ _ => rfl)) pe_int (nomark _)) (pss_cons (ps_set (i := 2) sc_law_coin.nd rfl (by first | exact Or.inl rfl | exact Or.inr rfl) (pe_op o_mod (pe_callTy c_int (by rfl) T.n_int (by decide +kernel) (pa_cons (pe_ix ix_list (pv 0) pe_int (fun _ _ => rfl)) pa_nil)) (pv 1)))
      (pss_cons (ps_asg (pe_op o_div (pe_ix ix_list (pv 0) pe_int (fun _ _ => rfl)) (pv 1)) (pg_sub (pv 0) pe_int set_list))
      (pss_one (ps_ret (pv 2))))) pss_nil)
      (pss_cons (ps_asg (pe_op o_add (pe_ix ix_list (pv 0) pe_int (fun _ _ => rfl)) pe_int) (pg_sub (pv 0) pe_int set_list))
      (pss_cons (ps_set (i := 3) sc_law_coin.nd rfl (by first | exact Or.inl rfl | exact Or.inr rfl) (pe_op o_mod (pe_callTy c_int (by rfl) T.n_int (by decide +kernel) (pa_cons (pe_op o_pow (pe_op o_add (pe_op o_add (pe_ix ix_list (pv 0) pe_int (fun _ _ => rfl)) (pe_op o_mul pe_int (pe_ix ix_list (pv 0) pe_int (fun _ _ => rfl)))) pe_int) pe_int) pa_nil)) pe_int))
      (pss_cons (ps_set (i := 3) sc_law_coin.nd rfl (by first | exact Or.inl rfl | exact Or.inr rfl) (pe_op o_mod (pe_callTy c_int (by rfl) T.n_int (by decide +kernel) (pa_cons (pe_op o_mul (pe_op o_add (pv 3) (pe_op o_mul pe_int (pe_ix ix_list (pv 0) pe_int (fun _ _ => rfl)))) (pe_op o_add (pe_op o_div (pv 3) pe_int) pe_int)) pa_nil)) pe_int))
      (pss_one (ps_ret (pe_op o_mod (pe_callTy c_int (by rfl) T.n_int (by decide +kernel) (pa_cons (pe_op o_div (pe_op o_mod (pe_callTy c_int (by rfl) T.n_int (by decide +kernel) (pa_cons (pe_op o_mul (pv 3) (pe_op o_add (pe_op o_div (pv 3) pe_int) pe_int)) pa_nil)) pe_int) pe_int) pa_nil)) (pv 1))))))))
theorem ok_law_coin (T : Txt K mg a) : FnOk P w K mg base CX0 1 a.f_law_coin a.fd_law_coin ["_law_purse_here", "_law_amount"] (sp_z_coin K a.c) := by
  refine T.F_law_coin.ok sc_law_coin (fun vs H Q E h => ?_) (fun cdv A outer s H vs Q E hr h => ⟨_, dv_law_coin T hr, b_z_coin T.PM T.PB h⟩)
  first | exact Pu.lif_len n_z_coin h | exact Pu.lifS_len n_z_coin h | exact Pu.lifL_len n_z_coin h | exact Pu.lifO_len n_z_coin h
theorem dv_law_worth {cdv : Value} {A : Around} {outer : List Env} {s : Shared} {H : Hp} {E : XK} (T : Txt K mg a) (hr : Room 0 (A.deeper (envOfC "_law_worth" (defScope s_law_worth) s.heap.objs.size a.f_law_worth cdv))) :
    PSs (cxOf CX0 P w K mg base N_law_worth "_law_worth" (defScope s_law_worth) a.f_law_worth cdv A outer s H E).nox (defBody s_law_worth) (t_z_worth K a.c) := by
  unfold t_z_worth
  exact (pss_cons (ps_set (i := 2) sc_law_worth.nd rfl (by first | exact Or.inl rfl | exact Or.inr rfl) pe_int)
      (pss_cons (ps_for PassesOwn.never rfl (pi_list (pe_revL (pv 1))) (pg_name (i := 3) sc_law_worth.nd rfl (by first | exact Or.inl rfl | exact Or.inr rfl)) (pss_one (ps_set (i := 2) sc_law_worth.nd rfl (by first | exact Or.inl rfl | exact Or.inr rfl) (pe_op o_add (pe_op o_shl (pv 2) (pv 0)) (pv 3)))))
      (pss_one (ps_ret (pv 2)))))
theorem ok_law_worth (T : Txt K mg a) : FnOk P w K mg base CX0 1 a.f_law_worth a.fd_law_worth ["_law_bits", "_law_row_here"] (sp_z_worth K a.c) := by
  refine T.F_law_worth.ok sc_law_worth (fun vs H Q E h => ?_) (fun cdv A outer s H vs Q E hr h => ⟨_, dv_law_worth T hr, b_z_worth T.PM T.PB h⟩)
  first | exact Pu.lif_len n_z_worth h | exact Pu.lifS_len n_z_worth h | exact Pu.lifL_len n_z_worth h | exact Pu.lifO_len n_z_worth h
theorem dv_law_digits {cdv : Value} {A : Around} {outer : List Env} {s : Shared} {H : Hp} {E : XK} (T : Txt K mg a) (hr : Room 0 (A.deeper (envOfC "_law_digits" (defScope s_law_digits) s.heap.objs.size a.f_law_digits cdv))) :
    PSs (cxOf CX0 P w K mg base N_law_digits "_law_digits" (defScope s_law_digits) a.f_law_digits cdv A outer s H E).nox (defBody s_law_digits) (t_z_pdigits K a.c) := by
  unfold t_z_pdigits
  exact (pss_cons (ps_set (i := 2) sc_law_digits.nd rfl (by first | exact Or.inl rfl | exact Or.inr rfl) (pe_lst pa_nil))
      (pss_cons (ps_while PassesOwn.never (pt_cmpR o_gt (pv 1) pe_int (nomark _)) (pss_cons (ps_expr (pe_bm PySem.F.plainAttrs_list PySem.F.slot_list_append PySem.F.type_list_append mt_append (pv 2) (pa_cons (pe_op o_mod (pe_callTy c_int (by rfl) T.n_int (by decide +kernel) (pa_cons (pv 1) pa_nil)) (pe_op o_shl pe_int (pv 0))) pa_nil)))
      (pss_one (ps_set (i := 1) sc_law_digits.nd rfl (by first | exact Or.inl rfl | exact Or.inr rfl) (pe_op o_shr (pv 1) (pv 0))))))
      (pss_one (ps_ret (pv 2)))))
theorem ok_law_digits (T : Txt K mg a) : FnOk P w K mg base CX0 1 a.f_law_digits a.fd_law_digits ["_law_bits", "_law_n"] (sp_z_pdigits K a.c) := by
  refine T.F_law_digits.ok sc_law_digits (fun vs H Q E h => ?_) (fun cdv A outer s H vs Q E hr h => ⟨_, dv_law_digits T hr, b_z_pdigits T.PM T.PB h⟩)
  first | exact Pu.lif_len n_z_pdigits h | exact Pu.lifS_len n_z_pdigits h | exact Pu.lifL_len n_z_pdigits h | exact Pu.lifO_len n_z_pdigits h
theorem dv_is_between {cdv : Value} {A : Around} {outer : List Env} {s : Shared} {H : Hp} {E : XK} (T : Txt K mg a) (hr : Room 1 (A.deeper (envOfC "is_between" (defScope s_is_between) s.heap.objs.size a.f_is_between cdv))) :
    PSs (cxOf CX0 P w K mg base N_is_between "is_between" (defScope s_is_between) a.f_is_between cdv A outer s H E).nox (defBody s_is_between) (t_is_between K a.c) := by
  unfold t_is_between
  exact (pss_one (ps_ret (pe_and (pe_call (ok_is_integer T) (hr.mono (by decide)) rfl T.m_is_integer T.F_is_integer.kp T.b_is_integer .nil pass0 (pa_cons (pv 0) pa_nil)) (pe_one (pe_chain o_le o_le (pv 1) (pv 0) (pv 2))))))
theorem ok_is_between (T : Txt K mg a) : FnOk P w K mg base CX0 2 a.f_is_between a.fd_is_between ["value", "low", "high"] (sp_is_between K a.c) := by
  refine T.F_is_between.ok sc_is_between (fun vs H Q E h => ?_) (fun cdv A outer s H vs Q E hr h => ⟨_, dv_is_between T hr, b_is_between h⟩)
  (repeat (obtain ⟨_, h⟩ := h)); all_goals (subst_vars; rfl)
theorem dv_check_integer {cdv : Value} {A : Around} {outer : List Env} {s : Shared} {H : Hp} {E : XK} (T : Txt K mg a) (hr : Room 1 (A.deeper (envOfC "check_integer" (defScope s_check_integer) s.heap.objs.size a.f_check_integer cdv))) :
    PSs (cxOf CX0 P w K mg base N_check_integer "check_integer" (defScope s_check_integer) a.f_check_integer cdv A outer s H E).nox (defBody s_check_integer) (t_check_integer K a.c) := by
  unfold t_check_integer
  exact (pss_one (ps_if (pt_not (pt_val (pe_call (ok_is_integer T) (hr.mono (by decide)) rfl T.m_is_integer T.F_is_integer.kp T.b_is_integer .nil pass0 (pa_cons (pv 1) pa_nil)))) (pss_one ps_never) pss_nil))
theorem ok_check_integer (T : Txt K mg a) : FnOk P w K mg base CX0 2 a.f_check_integer a.fd_check_integer ["argument", "value"] (sp_check_integer K a.c) := by
  refine T.F_check_integer.ok sc_check_integer (fun vs H Q E h => ?_) (fun cdv A outer s H vs Q E hr h => ⟨_, dv_check_integer T hr, b_check_integer h⟩)
  (repeat (obtain ⟨_, h⟩ := h)); all_goals (subst_vars; rfl)
theorem dv_check_bigs {cdv : Value} {A : Around} {outer : List Env} {s : Shared} {H : Hp} {E : XK} (T : Txt K mg a) (hr : Room 1 (A.deeper (envOfC "check_bigs" (defScope s_check_bigs) s.heap.objs.size a.f_check_bigs cdv))) :
    PSs (cxOf CX0 P w K mg base N_check_bigs "check_bigs" (defScope s_check_bigs) a.f_check_bigs cdv A outer s H E).nox (defBody s_check_bigs) (t_check_bigs K a.c) := by
  unfold t_check_bigs
  exact (pss_cons (ps_expr (pe_call (ok_check_machine T) (hr.mono (by decide)) rfl T.m_check_machine T.F_check_machine.kp T.b_check_machine .nil pass0 (pa_cons (pv 0) pa_nil)))
      (pss_cons (ps_expr (pe_call (ok_check_big T) (hr.mono (by decide)) rfl T.m_check_big T.F_check_big.kp T.b_check_big .nil pass0 (pa_cons (pv 0) (pa_cons pe_str (pa_cons (pv 1) pa_nil)))))
      (pss_one (ps_expr (pe_call (ok_check_big T) (hr.mono (by decide)) rfl T.m_check_big T.F_check_big.kp T.b_check_big .nil pass0 (pa_cons (pv 0) (pa_cons pe_str (pa_cons (pv 2) pa_nil))))))))
theorem ok_check_bigs (T : Txt K mg a) : FnOk P w K mg base CX0 2 a.f_check_bigs a.fd_check_bigs ["machine", "x", "y"] (sp_check_bigs K a.c) := by
  refine T.F_check_bigs.ok sc_check_bigs (fun vs H Q E h => ?_) (fun cdv A outer s H vs Q E hr h => ⟨_, dv_check_bigs T hr, b_check_bigs h⟩)
  (repeat (obtain ⟨_, h⟩ := h)); all_goals (subst_vars; rfl)
theorem dv_plain {cdv : Value} {A : Around} {outer : List Env} {s : Shared} {H : Hp} {E : XK} (T : Txt K mg a) (hr : Room 1 (A.deeper (envOfC "plain" (defScope s_plain) s.heap.objs.size a.f_plain cdv))) :
    PSs (cxOf CX0 P w K mg base N_plain "plain" (defScope s_plain) a.f_plain cdv A outer s H E).nox (defBody s_plain) (t_plain K a.c) := by
  unfold t_plain
  exact (pss_cons (ps_expr (pe_call (ok_check_any T) (hr.mono (by decide)) rfl T.m_check_any T.F_check_any.kp T.b_check_any .nil pass0 (pa_cons (pv 0) pa_nil)))
      (pss_one (ps_ret (pe_call (ok_value_of T) (hr.mono (by decide)) rfl T.m_value_of T.F_value_of.kp T.b_value_of .nil pass0 (pa_cons (pv 0) pa_nil)))))
theorem ok_plain (T : Txt K mg a) : FnOk P w K mg base CX0 2 a.f_plain a.fd_plain ["x"] (sp_plain K a.c) := by
  refine T.F_plain.ok sc_plain (fun vs H Q E h => ?_) (fun cdv A outer s H vs Q E hr h => ⟨_, dv_plain T hr, b_plain h⟩)
  (repeat (obtain ⟨_, h⟩ := h)); all_goals (subst_vars; rfl)
theorem dv_rows_of {cdv : Value} {A : Around} {outer : List Env} {s : Shared} {H : Hp} {E : XK} (T : Txt K mg a) (hr : Room 1 (A.deeper (envOfC "rows_of" (defScope s_rows_of) s.heap.objs.size a.f_rows_of cdv))) :
    PSs (cxOf CX0 P w K mg base N_rows_of "rows_of" (defScope s_rows_of) a.f_rows_of cdv A outer s H E).nox (defBody s_rows_of) (t_z_rows_of K a.c) := by
  unfold t_z_rows_of
  exact (pss_cons (ps_expr (pe_meth (pv 0) T.cl_Machine T.me_Machine_enter (ok_Machine_enter T) (hr.mono (by decide)) T.b_Machine_enter .nil pass0 (pa_cons pe_str (pa_cons (pe_callB c_len (by rfl) T.n_len (by decide +kernel) (pa_cons (pv 1) pa_nil)) (pa_cons (pe_callB c_len (by rfl) T.n_len (by decide +kernel) (pa_cons (pv 2) pa_nil)) pa_nil)))))
      (pss_cons (ps_set (i := 3) sc_rows_of.nd rfl (by first | exact Or.inl rfl | exact Or.inr rfl) (pe_op op_rep (pe_lst (pa_cons pe_int pa_nil)) (pe_op o_add (pe_callB c_len (by rfl) T.n_len (by decide +kernel) (pa_cons (pv 1) pa_nil)) (pe_callB c_len (by rfl) T.n_len (by decide +kernel) (pa_cons (pv 2) pa_nil)))))
      (pss_cons (ps_for PassesOwn.never rfl (pi_enumA (by rfl) T.n_enumerate (pa_cons (pv 1) pa_nil)) (pg_tup rfl (pgs_cons (pg_name (i := 4) sc_rows_of.nd rfl (by first | exact Or.inl rfl | exact Or.inr rfl)) (pgs_cons (pg_name (i := 5) sc_rows_of.nd rfl (by first | exact Or.inl rfl | exact Or.inr rfl)) pgs_nil))) (pss_cons (ps_set (i := 6) sc_rows_of.nd rfl (by first | exact Or.inl rfl | exact Or.inr rfl) pe_int)
      (pss_cons (ps_for PassesOwn.never rfl (pi_enumA (by rfl) T.n_enumerate (pa_cons (pv 2) pa_nil)) (pg_tup rfl (pgs_cons (pg_name (i := 7) sc_rows_of.nd rfl (by first | exact Or.inl rfl | exact Or.inr rfl)) (pgs_cons (pg_name (i := 8) sc_rows_of.nd rfl (by first | exact Or.inl rfl | exact Or.inr rfl)) pgs_nil))) (pss_cons (ps_set (i := 6) sc_rows_of.nd rfl (by first | exact Or.inl rfl | exact Or.inr rfl) (pe_op o_add (pe_op o_add (pe_ix ix_list (pv 3) (pe_op o_add (pv 4) (pv 7)) (fun _ _ => rfl)) (pe_op o_mul (pv 5) (pv 8))) (pv 6)))
      (pss_cons (ps_asg (pe_op o_mod (pv 6) (pe_fld (pv 0) rfl)) (pg_sub (pv 3) (pe_op o_add (pv 4) (pv 7)) set_list))
      (pss_one (ps_set (i := 6) sc_rows_of.nd rfl (by first | exact Or.inl rfl | exact Or.inr rfl) (pe_op o_shr (pv 6) (pe_fld (pv 0) rfl)))))))
      (pss_one (ps_asg (pe_op o_add (pe_ix ix_list (pv 3) (pe_op o_add (pv 4) (pe_callB c_len (by rfl) T.n_len (by decide +kernel) (pa_cons (pv 2) pa_nil))) (fun _ _ => rfl)) (pv 6)) (pg_sub (pv 3) (pe_op o_add (pv 4) (pe_callB c_len (by rfl) T.n_len (by decide +kernel) (pa_cons (pv 2) pa_nil))) set_list))))))
      (pss_cons (ps_expr (pe_meth (pv 0) T.cl_Machine T.me_Machine_count (ok_Machine_count T) (hr.mono (by decide)) T.b_Machine_count .nil pass0 (pa_cons pe_str (pa_cons (pe_op o_mul (pe_callB c_len (by rfl) T.n_len (by decide +kernel) (pa_cons (pv 1) pa_nil)) (pe_callB c_len (by rfl) T.n_len (by decide +kernel) (pa_cons (pv 2) pa_nil))) pa_nil))))
      (pss_one (ps_ret (pv 3)))))))
theorem ok_rows_of (T : Txt K mg a) : FnOk P w K mg base CX0 2 a.f_rows_of a.fd_rows_of ["machine", "a", "b"] (sp_z_rows_of K a.c) := by
  refine T.F_rows_of.ok sc_rows_of (fun vs H Q E h => ?_) (fun cdv A outer s H vs Q E hr h => ⟨_, dv_rows_of T hr, b_z_rows_of T.PM T.PB h⟩)
  first | exact Pu.lif_len n_z_rows_of h | exact Pu.lifS_len n_z_rows_of h | exact Pu.lifL_len n_z_rows_of h | exact Pu.lifO_len n_z_rows_of h
theorem dv_square_rows_of {cdv : Value} {A : Around} {outer : List Env} {s : Shared} {H : Hp} {E : XK} (T : Txt K mg a) (hr : Room 1 (A.deeper (envOfC "square_rows_of" (defScope s_square_rows_of) s.heap.objs.size a.f_square_rows_of cdv))) :
    PSs (cxOf CX0 P w K mg base N_square_rows_of "square_rows_of" (defScope s_square_rows_of) a.f_square_rows_of cdv A outer s H E).nox (defBody s_square_rows_of) (t_z_square_rows_of K a.c) := by
  unfold t_z_square_rows_of
  exact (pss_cons (ps_set (i := 2) sc_square_rows_of.nd rfl (by first | exact Or.inl rfl | exact Or.inr rfl) (pe_callB c_len (by rfl) T.n_len (by decide +kernel) (pa_cons (pv 1) pa_nil)))
      (pss_cons (ps_expr (pe_meth (pv 0) T.cl_Machine T.me_Machine_enter (ok_Machine_enter T) (hr.mono (by decide)) T.b_Machine_enter .nil pass0 (pa_cons pe_str (pa_cons (pv 2) (pa_cons (pv 2) pa_nil)))))
      (pss_cons (ps_set (i := 3) sc_square_rows_of.nd rfl (by first | exact Or.inl rfl | exact Or.inr rfl) (pe_op op_rep (pe_lst (pa_cons pe_int pa_nil)) (pe_op o_mul pe_int (pv 2))))
      (pss_cons (ps_for PassesOwn.never rfl (pi_enumA (by rfl) T.n_enumerate (pa_cons (pv 1) pa_nil)) (pg_tup rfl (pgs_cons (pg_name (i := 4) sc_square_rows_of.nd rfl (by first | exact Or.inl rfl | exact Or.inr rfl)) (pgs_cons (pg_name (i := 5) sc_square_rows_of.nd rfl (by first | exact Or.inl rfl | exact Or.inr rfl)) pgs_nil))) (pss_cons (ps_set (i := 6) sc_square_rows_of.nd rfl (by first | exact Or.inl rfl | exact Or.inr rfl) (pe_op o_add (pe_ix ix_list (pv 3) (pe_op o_mul pe_int (pv 4)) (fun _ _ => rfl)) (pe_op o_mul (pv 5) (pv 5))))
      (pss_cons (ps_asg (pe_op o_mod (pv 6) (pe_fld (pv 0) rfl)) (pg_sub (pv 3) (pe_op o_mul pe_int (pv 4)) set_list))
      (pss_cons (ps_set (i := 6) sc_square_rows_of.nd rfl (by first | exact Or.inl rfl | exact Or.inr rfl) (pe_op o_shr (pv 6) (pe_fld (pv 0) rfl)))
      (pss_cons (ps_for PassesOwn.never rfl (pi_range2 rfl T.n_range (pa_cons (pe_op o_add (pv 4) pe_int) (pa_cons (pv 2) pa_nil))) (pg_name (i := 7) sc_square_rows_of.nd rfl (by first | exact Or.inl rfl | exact Or.inr rfl)) (pss_cons (ps_set (i := 6) sc_square_rows_of.nd rfl (by first | exact Or.inl rfl | exact Or.inr rfl) (pe_op o_add (pe_op o_add (pe_ix ix_list (pv 3) (pe_op o_add (pv 4) (pv 7)) (fun _ _ => rfl)) (pe_op o_mul (pe_op o_mul pe_int (pv 5)) (pe_ix ix_tup (pv 1) (pv 7) (fun _ _ => rfl)))) (pv 6)))
      (pss_cons (ps_asg (pe_op o_mod (pv 6) (pe_fld (pv 0) rfl)) (pg_sub (pv 3) (pe_op o_add (pv 4) (pv 7)) set_list))
      (pss_one (ps_set (i := 6) sc_square_rows_of.nd rfl (by first | exact Or.inl rfl | exact Or.inr rfl) (pe_op o_shr (pv 6) (pe_fld (pv 0) rfl)))))))
      (pss_cons (ps_set (i := 8) sc_square_rows_of.nd rfl (by first | exact Or.inl rfl | exact Or.inr rfl) (pe_op o_add (pv 4) (pv 2)))
      (pss_one (ps_while PassesOwn.never (pt_cmpR o_gt (pv 6) pe_int (nomark _)) (pss_cons (ps_set (i := 6) sc_square_rows_of.nd rfl (by first | exact Or.inl rfl | exact Or.inr rfl) (pe_op o_add (pv 6) (pe_ix ix_list (pv 3) (pv 8) (fun _ _ => rfl))))
      (pss_cons (ps_asg (pe_op o_mod (pv 6) (pe_fld (pv 0) rfl)) (pg_sub (pv 3) (pv 8) set_list))
      (pss_cons (ps_set (i := 6) sc_square_rows_of.nd rfl (by first | exact Or.inl rfl | exact Or.inr rfl) (pe_op o_shr (pv 6) (pe_fld (pv 0) rfl)))
      (pss_one (ps_set (i := 8) sc_square_rows_of.nd rfl (by first | exact Or.inl rfl | exact Or.inr rfl) (pe_op o_add (pv 8) pe_int))))))))))))))
      (pss_cons (ps_expr (pe_meth (pv 0) T.cl_Machine T.me_Machine_count (ok_Machine_count T) (hr.mono (by decide)) T.b_Machine_count .nil pass0 (pa_cons pe_str (pa_cons (pe_op o_div (pe_op o_mul (pv 2) (pe_op o_add (pv 2) pe_int)) pe_int) pa_nil))))
      (pss_one (ps_ret (pv 3))))))))
theorem ok_square_rows_of (T : Txt K mg a) : FnOk P w K mg base CX0 2 a.f_square_rows_of a.fd_square_rows_of ["machine", "a"] (sp_z_square_rows_of K a.c) := by
  refine T.F_square_rows_of.ok sc_square_rows_of (fun vs H Q E h => ?_) (fun cdv A outer s H vs Q E hr h => ⟨_, dv_square_rows_of T hr, b_z_square_rows_of T.PM T.PB h⟩)
  first | exact Pu.lif_len n_z_square_rows_of h | exact Pu.lifS_len n_z_square_rows_of h | exact Pu.lifL_len n_z_square_rows_of h | exact Pu.lifO_len n_z_square_rows_of h
theorem dv_law_pick {cdv : Value} {A : Around} {outer : List Env} {s : Shared} {H : Hp} {E : XK} (T : Txt K mg a) (hr : Room 1 (A.deeper (envOfC "_law_pick" (defScope s_law_pick) s.heap.objs.size a.f_law_pick cdv))) :
    PSs (cxOf CX0 P w K mg base N_law_pick "_law_pick" (defScope s_law_pick) a.f_law_pick cdv A outer s H E).nox (defBody s_law_pick) (t_z_pick K a.c) := by
  unfold t_z_pick
  exact (pss_one (ps_ret (pe_ix ix_list (pv 1) (pe_call (ok_law_coin T) (hr.mono (by decide)) rfl T.m_law_coin T.F_law_coin.kp T.b_law_coin .nil pass0 (pa_cons (pv 0) (pa_cons (pe_callB c_len (by rfl) T.n_len (by decide +kernel) (pa_cons (pv 1) pa_nil)) pa_nil))) (fun _ _ => rfl))))
theorem ok_law_pick (T : Txt K mg a) : FnOk P w K mg base CX0 2 a.f_law_pick a.fd_law_pick ["_law_purse_here", "_law_some"] (sp_z_pick K a.c) := by
  refine T.F_law_pick.ok sc_law_pick (fun vs H Q E h => ?_) (fun cdv A outer s H vs Q E hr h => ⟨_, dv_law_pick T hr, b_z_pick T.PM T.PB h⟩)
  first | exact Pu.lif_len n_z_pick h | exact Pu.lifS_len n_z_pick h | exact Pu.lifL_len n_z_pick h | exact Pu.lifO_len n_z_pick h
theorem dv_law_counted {cdv : Value} {A : Around} {outer : List Env} {s : Shared} {H : Hp} {E : XK} (T : Txt K mg a) (hr : Room 1 (A.deeper (envOfC "_law_counted" (defScope s_law_counted) s.heap.objs.size a.f_law_counted cdv))) :
    PSs (cxOf CX0 P w K mg base N_law_counted "_law_counted" (defScope s_law_counted) a.f_law_counted cdv A outer s H E).nox (defBody s_law_counted) (t_z_pcounted K a.c) := by
  unfold t_z_pcounted
  exact (pss_cons (ps_set (i := 1) sc_law_counted.nd rfl (by first | exact Or.inl rfl | exact Or.inr rfl) (pe_tup (pa_cons (pe_callTy (c_dict rfl) (by rfl) T.n_dict (by decide +kernel) (pa_cons (pe_lc (own := [("_law_row_here", 2)]) (g := (gName 2)) rfl sc_law_counted.nd (pi_list (pe_meth0 (pv 0) T.cl_Machine T.me_Machine_tally (ok_Machine_tally T) (hr.mono (by decide)) T.b_Machine_tally .nil pass0)) (blkOk_by (own := [("_law_row_here", 2)]) (N := N_law_counted) (sc := defScope s_law_counted) (by decide +kernel)) (fun _ _ _ _ _ => (pg_name (i := 2) sc_law_counted.nd rfl (by first | exact Or.inl rfl | exact Or.inr rfl))) (fun _ _ _ _ _ => pts_one (pt_cmpR op_ne (pe_ix ix_tup (pv 2) pe_int (fun _ _ => rfl)) pe_int (nomark _))) (fun _ _ _ _ _ => (pv 2))) pa_nil)) (pa_cons (pe_meth0 (pv 0) T.cl_Machine T.me_Machine_walk (ok_Machine_walk T) (hr.mono (by decide)) T.b_Machine_walk .nil pass0) pa_nil))))
      (pss_cons (ps_expr (pe_meth0 (pv 0) T.cl_Machine T.me_Machine_reset (ok_Machine_reset T) (hr.mono (by decide)) T.b_Machine_reset .nil pass0))
      (pss_one (ps_ret (pv 1)))))
theorem ok_law_counted (T : Txt K mg a) : FnOk P w K mg base CX0 2 a.f_law_counted a.fd_law_counted ["_law_engine"] (sp_z_pcounted K a.c) := by
  refine T.F_law_counted.ok sc_law_counted (fun vs H Q E h => ?_) (fun cdv A outer s H vs Q E hr h => ⟨_, dv_law_counted T hr, b_z_pcounted T.PM T.PB h⟩)
  first | exact Pu.lif_len n_z_pcounted h | exact Pu.lifS_len n_z_pcounted h | exact Pu.lifL_len n_z_pcounted h | exact Pu.lifO_len n_z_pcounted h
theorem dv_Machine_init {cdv : Value} {A : Around} {outer : List Env} {s : Shared} {H : Hp} {E : XK} (T : Txt K mg a) (hr : Room 2 (A.deeper (envOfC "Machine.__init__" (defScope s_Machine_init) s.heap.objs.size a.f_Machine_init cdv))) :
    PSs (cxOf CX0 P w K mg base N_Machine_init "Machine.__init__" (defScope s_Machine_init) a.f_Machine_init cdv A outer s H E).nox (defBody s_Machine_init) (t_Machine_init K a.c) := by
  unfold t_Machine_init
  exact (pss_cons (ps_if (pt_not (pt_val (pe_call (ok_is_between T) (hr.mono (by decide)) rfl T.m_is_between T.F_is_between.kp T.b_is_between .nil pass0 (pa_cons (pv 1) (pa_cons (C8.pe_gc rfl T.g_LEAST_BITS) (pa_cons (C8.pe_gc rfl T.g_MOST_BITS) pa_nil)))))) (pss_one ps_never) pss_nil)
      (pss_cons (ps_if (pt_not (pt_val (pe_call (ok_is_between T) (hr.mono (by decide)) rfl T.m_is_between T.F_is_between.kp T.b_is_between .nil pass0 (pa_cons (pv 2) (pa_cons pe_int (pa_cons (C8.pe_gc rfl T.g_MOST_CUTOFF) pa_nil)))))) (pss_one ps_never) pss_nil)
      (pss_cons (ps_fld (pv 0) (pv 1) rfl)
      (pss_cons (ps_fld (pv 0) (pv 2) rfl)
      (pss_cons (ps_fld (pv 0) (pe_op o_shl pe_int (pv 1)) rfl)
      (pss_cons (ps_fld (pv 0) (pe_callTy (c_dict rfl) (by rfl) T.n_dict (by decide +kernel) (pa_cons (pe_lc (own := [("word", 3)]) (g := (gName 3)) rfl sc_Machine_init.nd (pi_tup (pe_glob rfl T.g_WORDS rfl)) (blkOk_by (own := [("word", 3)]) (N := N_Machine_init) (sc := defScope s_Machine_init) (by decide +kernel)) (fun _ _ _ _ _ => (pg_name (i := 3) sc_Machine_init.nd rfl (by first | exact Or.inl rfl | exact Or.inr rfl))) (fun _ _ _ _ _ => pts_nil) (fun _ _ _ _ _ => (pe_tup (pa_cons (pv 3) (pa_cons pe_int pa_nil))))) pa_nil)) rfl)
      (pss_one (ps_fld (pv 0) (pe_lst pa_nil) rfl))))))))
theorem ok_Machine_init (T : Txt K mg a) : FnOk P w K mg base CX0 3 a.f_Machine_init a.fd_Machine_init ["self", "bits", "cutoff"] (sp_Machine_init K a.c) := by
  refine FunD.ok T.F_Machine_init sc_Machine_init (fun vs H Q E h => ?_) (fun cdv A outer s H vs Q E hr h => ⟨_, (dv_Machine_init T hr).nox, b_Machine_init T.PM h⟩)
  (repeat (obtain ⟨_, h⟩ := h)); all_goals (subst_vars; rfl)
theorem dv_made {cdv : Value} {A : Around} {outer : List Env} {s : Shared} {H : Hp} {E : XK} (T : Txt K mg a) (hr : Room 2 (A.deeper (envOfC "made" (defScope s_made) s.heap.objs.size a.f_made cdv))) :
    PSs (cxOf CX0 P w K mg base N_made "made" (defScope s_made) a.f_made cdv A outer s H E).nox (defBody s_made) (t_made K a.c) := by
  unfold t_made
  exact (pss_cons (ps_set (i := 3) sc_made.nd rfl (by first | exact Or.inl rfl | exact Or.inr rfl) (pe_callB c_len (by rfl) T.n_len (by decide +kernel) (pa_cons (pv 2) pa_nil)))
      (pss_cons (ps_while PassesOwn.never (PW.pt (pw_and (pt_cmpR o_gt (pv 3) pe_int (nomark _)) (pw_and1 (pt_cmpR op_eq (pe_ix ix_list (pv 2) (pe_op o_sub (pv 3) pe_int) (fun _ _ => rfl)) pe_int (nomark _))))) (pss_one (ps_set (i := 3) sc_made.nd rfl (by first | exact Or.inl rfl | exact Or.inr rfl) (pe_op o_sub (pv 3) pe_int))))
      (pss_one (ps_ret (pe_make T.mk_Big (ok_Big_init T) (hr.mono (by decide)) rfl T.g_Big T.b_Big_init .nil pass0 (pa_cons (pe_fld (pv 0) rfl) (pa_cons (pe_ifExp (pt_cmpR o_gt (pv 3) pe_int (nomark _)) (pv 1) pe_int) (pa_cons (pe_callTy c_tupL (by rfl) T.n_tuple (by decide +kernel) (pa_cons (pe_slice sl_list (pv 2) po_none (po_some (pv 3))) pa_nil)) pa_nil))))))))
theorem ok_made (T : Txt K mg a) : FnOk P w K mg base CX0 3 a.f_made a.fd_made ["machine", "side", "digits"] (sp_made K a.c) := by
  refine T.F_made.ok sc_made (fun vs H Q E h => ?_) (fun cdv A outer s H vs Q E hr h => ⟨_, dv_made T hr, b_made T.PM T.PB h⟩)
  (repeat (obtain ⟨_, h⟩ := h)); all_goals (subst_vars; rfl)
theorem dv_law_row {cdv : Value} {A : Around} {outer : List Env} {s : Shared} {H : Hp} {E : XK} (T : Txt K mg a) (hr : Room 2 (A.deeper (envOfC "_law_row" (defScope s_law_row) s.heap.objs.size a.f_law_row cdv))) :
    PSs (cxOf CX0 P w K mg base N_law_row "_law_row" (defScope s_law_row) a.f_law_row cdv A outer s H E).nox (defBody s_law_row) (t_z_prow K a.c) := by
  unfold t_z_prow
  exact (pss_cons (ps_set (i := 3) sc_law_row.nd rfl (by first | exact Or.inl rfl | exact Or.inr rfl) (pe_lst pa_nil))
      (pss_cons (ps_for PassesOwn.never rfl (pi_range1 rfl T.n_range (pa_cons (pv 2) pa_nil)) (pg_name (i := 4) sc_law_row.nd rfl (by first | exact Or.inl rfl | exact Or.inr rfl)) (pss_one (ps_expr (pe_bm PySem.F.plainAttrs_list PySem.F.slot_list_append PySem.F.type_list_append mt_append (pv 3) (pa_cons (pe_call (ok_law_pick T) (hr.mono (by decide)) rfl T.m_law_pick T.F_law_pick.kp T.b_law_pick .nil pass0 (pa_cons (pv 0) (pa_cons (pe_lst (pa_cons (pe_call (ok_law_coin T) (hr.mono (by decide)) rfl T.m_law_coin T.F_law_coin.kp T.b_law_coin .nil pass0 (pa_cons (pv 0) (pa_cons (pe_op o_shl pe_int (pv 1)) pa_nil))) (pa_cons (pe_call (ok_law_coin T) (hr.mono (by decide)) rfl T.m_law_coin T.F_law_coin.kp T.b_law_coin .nil pass0 (pa_cons (pv 0) (pa_cons (pe_op o_shl pe_int (pv 1)) pa_nil))) (pa_cons pe_int (pa_cons (pe_op o_sub (pe_op o_shl pe_int (pv 1)) pe_int) pa_nil))))) pa_nil))) pa_nil)))))
      (pss_one (ps_ret (pe_ifExp (pt_cmpR (op_neD hr.units) (pv 3) (pe_lst pa_nil) (nomark _)) (pe_op op_cat (pe_slice sl_list (pv 3) po_none (po_some (pe_un o_neg pe_int))) (pe_lst (pa_cons (pe_callB (c_max rfl) (by rfl) T.n_max (by decide +kernel) (pa_cons pe_int (pa_cons (pe_ix ix_list (pv 3) (pe_un o_neg pe_int) (fun _ _ => rfl)) pa_nil))) pa_nil))) (pe_lst pa_nil))))))
theorem ok_law_row (T : Txt K mg a) : FnOk P w K mg base CX0 3 a.f_law_row a.fd_law_row ["_law_purse_here", "_law_bits", "_law_size"] (sp_z_prow K a.c) := by
  refine T.F_law_row.ok sc_law_row (fun vs H Q E h => ?_) (fun cdv A outer s H vs Q E hr h => ⟨_, dv_law_row T hr, b_z_prow T.PM T.PB h⟩)
  first | exact Pu.lif_len n_z_prow h | exact Pu.lifS_len n_z_prow h | exact Pu.lifL_len n_z_prow h | exact Pu.lifO_len n_z_prow h
theorem dv_law_is {cdv : Value} {A : Around} {outer : List Env} {s : Shared} {H : Hp} {E : XK} (T : Txt K mg a) (hr : Room 2 (A.deeper (envOfC "_law_is" (defScope s_law_is) s.heap.objs.size a.f_law_is cdv))) :
    PSs (cxOf CX0 P w K mg base N_law_is "_law_is" (defScope s_law_is) a.f_law_is cdv A outer s H E).nox (defBody s_law_is) (t_z_is K a.c) := by
  unfold t_z_is
  exact (pss_cons (ps_set (i := 3) sc_law_is.nd rfl (by first | exact Or.inl rfl | exact Or.inr rfl) (pe_op o_sub (pe_callTy c_int (by rfl) T.n_int (by decide +kernel) (pa_cons (pe_cmpR o_gt (pv 2) pe_int (nomark _)) pa_nil)) (pe_callTy c_int (by rfl) T.n_int (by decide +kernel) (pa_cons (pe_cmpR o_lt (pv 2) pe_int (nomark _)) pa_nil))))
      (pss_one (ps_ret (pe_cmpR (op_eqD hr.units) (pe_tup (pa_cons (pe_meth0 (pv 0) T.cl_Big T.me_Big_sign (ok_Big_sign T) (hr.mono (by decide)) T.b_Big_sign .nil pass0) (pa_cons (pe_meth0 (pv 0) T.cl_Big T.me_Big_digits (ok_Big_digits T) (hr.mono (by decide)) T.b_Big_digits .nil pass0) (pa_cons (pe_meth0 (pv 0) T.cl_Big T.me_Big_bits (ok_Big_bits T) (hr.mono (by decide)) T.b_Big_bits .nil pass0) (pa_cons (pe_call (ok_plain T) (hr.mono (by decide)) rfl T.m_plain T.F_plain.kp T.b_plain .nil pass0 (pa_cons (pv 0) pa_nil)) pa_nil))))) (pe_tup (pa_cons (pv 3) (pa_cons (pe_call (ok_law_digits T) (hr.mono (by decide)) rfl T.m_law_digits T.F_law_digits.kp T.b_law_digits .nil pass0 (pa_cons (pv 1) (pa_cons (pe_callB c_abs (by rfl) T.n_abs (by decide +kernel) (pa_cons (pv 2) pa_nil)) pa_nil))) (pa_cons (pv 1) (pa_cons (pv 2) pa_nil))))) (nomark _)))))
theorem ok_law_is (T : Txt K mg a) : FnOk P w K mg base CX0 3 a.f_law_is a.fd_law_is ["_law_held", "_law_bits", "_law_n"] (sp_z_is K a.c) := by
  refine T.F_law_is.ok sc_law_is (fun vs H Q E h => ?_) (fun cdv A outer s H vs Q E hr h => ⟨_, dv_law_is T hr, b_z_is T.PM T.PB h⟩)
  first | exact Pu.lif_len n_z_is h | exact Pu.lifS_len n_z_is h | exact Pu.lifL_len n_z_is h | exact Pu.lifO_len n_z_is h
theorem dv_big_of {cdv : Value} {A : Around} {outer : List Env} {s : Shared} {H : Hp} {E : XK} (T : Txt K mg a) (hr : Room 3 (A.deeper (envOfC "big_of" (defScope s_big_of) s.heap.objs.size a.f_big_of cdv))) :
    PSs (cxOf CX0 P w K mg base N_big_of "big_of" (defScope s_big_of) a.f_big_of cdv A outer s H E).nox (defBody s_big_of) (t_big_of K a.c) := by
  unfold t_big_of
  exact (pss_one (ps_ret (pe_call (ok_made T) (hr.mono (by decide)) rfl T.m_made T.F_made.kp T.b_made .nil pass0 (pa_cons (pv 0) (pa_cons (pe_ifExp (pt_cmpR o_lt (pv 1) pe_int (nomark _)) (pe_un o_neg pe_int) pe_int) (pa_cons (pe_call (ok_digits_of T) (hr.mono (by decide)) rfl T.m_digits_of T.F_digits_of.kp T.b_digits_of .nil pass0 (pa_cons (pv 0) (pa_cons (pe_callB c_abs (by rfl) T.n_abs (by decide +kernel) (pa_cons (pv 1) pa_nil)) pa_nil))) pa_nil))))))
theorem ok_big_of (T : Txt K mg a) : FnOk P w K mg base CX0 4 a.f_big_of a.fd_big_of ["machine", "n"] (sp_big_of K a.c) := by
  refine T.F_big_of.ok sc_big_of (fun vs H Q E h => ?_) (fun cdv A outer s H vs Q E hr h => ⟨_, dv_big_of T hr, b_big_of T.PM h⟩)
  (repeat (obtain ⟨_, h⟩ := h)); all_goals (subst_vars; rfl)
theorem dv_multiply_by_rows {cdv : Value} {A : Around} {outer : List Env} {s : Shared} {H : Hp} {E : XK} (T : Txt K mg a) (hr : Room 3 (A.deeper (envOfC "multiply_by_rows" (defScope s_multiply_by_rows) s.heap.objs.size a.f_multiply_by_rows cdv))) :
    PSs (cxOf CX0 P w K mg base N_multiply_by_rows "multiply_by_rows" (defScope s_multiply_by_rows) a.f_multiply_by_rows cdv A outer s H E).nox (defBody s_multiply_by_rows) (t_z_multiply_by_rows K a.c) := by
  unfold t_z_multiply_by_rows
  exact (pss_cons (ps_expr (pe_call (ok_check_bigs T) (hr.mono (by decide)) rfl T.m_check_bigs T.F_check_bigs.kp T.b_check_bigs .nil pass0 (pa_cons (pv 0) (pa_cons (pv 1) (pa_cons (pv 2) pa_nil)))))
      (pss_one (ps_ret (pe_call (ok_made T) (hr.mono (by decide)) rfl T.m_made T.F_made.kp T.b_made .nil pass0 (pa_cons (pv 0) (pa_cons (pe_op o_mul (pe_fld (pv 1) rfl) (pe_fld (pv 2) rfl)) (pa_cons (pe_call (ok_rows_of T) (hr.mono (by decide)) rfl T.m_rows_of T.F_rows_of.kp T.b_rows_of .nil pass0 (pa_cons (pv 0) (pa_cons (pe_fld (pv 1) rfl) (pa_cons (pe_fld (pv 2) rfl) pa_nil)))) pa_nil)))))))
theorem ok_multiply_by_rows (T : Txt K mg a) : FnOk P w K mg base CX0 4 a.f_multiply_by_rows a.fd_multiply_by_rows ["machine", "x", "y"] (sp_z_multiply_by_rows K a.c) := by
  refine T.F_multiply_by_rows.ok sc_multiply_by_rows (fun vs H Q E h => ?_) (fun cdv A outer s H vs Q E hr h => ⟨_, dv_multiply_by_rows T hr, b_z_multiply_by_rows T.PM T.PB h⟩)
  first | exact Pu.lif_len n_z_multiply_by_rows h | exact Pu.lifS_len n_z_multiply_by_rows h | exact Pu.lifL_len n_z_multiply_by_rows h | exact Pu.lifO_len n_z_multiply_by_rows h
theorem dv_square_by_rows {cdv : Value} {A : Around} {outer : List Env} {s : Shared} {H : Hp} {E : XK} (T : Txt K mg a) (hr : Room 3 (A.deeper (envOfC "square_by_rows" (defScope s_square_by_rows) s.heap.objs.size a.f_square_by_rows cdv))) :
    PSs (cxOf CX0 P w K mg base N_square_by_rows "square_by_rows" (defScope s_square_by_rows) a.f_square_by_rows cdv A outer s H E).nox (defBody s_square_by_rows) (t_z_square_by_rows K a.c) := by
  unfold t_z_square_by_rows
  exact (pss_cons (ps_expr (pe_call (ok_check_machine T) (hr.mono (by decide)) rfl T.m_check_machine T.F_check_machine.kp T.b_check_machine .nil pass0 (pa_cons (pv 0) pa_nil)))
      (pss_cons (ps_expr (pe_call (ok_check_big T) (hr.mono (by decide)) rfl T.m_check_big T.F_check_big.kp T.b_check_big .nil pass0 (pa_cons (pv 0) (pa_cons pe_str (pa_cons (pv 1) pa_nil)))))
      (pss_one (ps_ret (pe_call (ok_made T) (hr.mono (by decide)) rfl T.m_made T.F_made.kp T.b_made .nil pass0 (pa_cons (pv 0) (pa_cons pe_int (pa_cons (pe_call (ok_square_rows_of T) (hr.mono (by decide)) rfl T.m_square_rows_of T.F_square_rows_of.kp T.b_square_rows_of .nil pass0 (pa_cons (pv 0) (pa_cons (pe_fld (pv 1) rfl) pa_nil))) pa_nil))))))))
theorem ok_square_by_rows (T : Txt K mg a) : FnOk P w K mg base CX0 4 a.f_square_by_rows a.fd_square_by_rows ["machine", "x"] (sp_z_square_by_rows K a.c) := by
  refine T.F_square_by_rows.ok sc_square_by_rows (fun vs H Q E h => ?_) (fun cdv A outer s H vs Q E hr h => ⟨_, dv_square_by_rows T hr, b_z_square_by_rows T.PM T.PB h⟩)
  first | exact Pu.lif_len n_z_square_by_rows h | exact Pu.lifS_len n_z_square_by_rows h | exact Pu.lifL_len n_z_square_by_rows h | exact Pu.lifO_len n_z_square_by_rows h
theorem dv_big {cdv : Value} {A : Around} {outer : List Env} {s : Shared} {H : Hp} {E : XK} (T : Txt K mg a) (hr : Room 4 (A.deeper (envOfC "big" (defScope s_big) s.heap.objs.size a.f_big cdv))) :
    PSs (cxOf CX0 P w K mg base N_big "big" (defScope s_big) a.f_big cdv A outer s H E).nox (defBody s_big) (t_big K a.c) := by
  unfold t_big
  exact (pss_cons (ps_expr (pe_call (ok_check_machine T) (hr.mono (by decide)) rfl T.m_check_machine T.F_check_machine.kp T.b_check_machine .nil pass0 (pa_cons (pv 0) pa_nil)))
      (pss_cons (ps_expr (pe_call (ok_check_integer T) (hr.mono (by decide)) rfl T.m_check_integer T.F_check_integer.kp T.b_check_integer .nil pass0 (pa_cons pe_str (pa_cons (pv 1) pa_nil))))
      (pss_one (ps_ret (pe_call (ok_big_of T) (hr.mono (by decide)) rfl T.m_big_of T.F_big_of.kp T.b_big_of .nil pass0 (pa_cons (pv 0) (pa_cons (pv 1) pa_nil)))))))
theorem ok_big (T : Txt K mg a) : FnOk P w K mg base CX0 5 a.f_big a.fd_big ["machine", "n"] (sp_big K a.c) := by
  refine T.F_big.ok sc_big (fun vs H Q E h => ?_) (fun cdv A outer s H vs Q E hr h => ⟨_, dv_big T hr, b_big h⟩)
  (repeat (obtain ⟨_, h⟩ := h)); all_goals (subst_vars; rfl)
theorem dv_law_right {cdv : Value} {A : Around} {outer : List Env} {s : Shared} {H : Hp} {E : XK} (T : Txt K mg a) (hr : Room 5 (A.deeper (envOfC "_law_right" (defScope s_law_right) s.heap.objs.size a.f_law_right cdv))) :
    PSs (cxOf CX0 P w K mg base N_law_right "_law_right" (defScope s_law_right) a.f_law_right cdv A outer s H E).nox (defBody s_law_right) (t_k13_right K a.c) := by
  unfold t_k13_right
  exact (pss_cons (ps_set (i := 1) sc_law_right.nd rfl (by first | exact Or.inl rfl | exact Or.inr rfl) (pe_call (ok_law_pick T) (hr.mono (by decide)) rfl T.m_law_pick T.F_law_pick.kp T.b_law_pick .nil pass0 (pa_cons (pv 0) (pa_cons (pe_lst (pa_cons pe_int (pa_cons pe_int (pa_cons pe_int (pa_cons pe_int (pa_cons (pe_op o_add pe_int (pe_call (ok_law_coin T) (hr.mono (by decide)) rfl T.m_law_coin T.F_law_coin.kp T.b_law_coin .nil pass0 (pa_cons (pv 0) (pa_cons pe_int pa_nil)))) pa_nil)))))) pa_nil))))
      (pss_cons (ps_set (i := 2) sc_law_right.nd rfl (by first | exact Or.inl rfl | exact Or.inr rfl) (pe_make T.mk_Machine (ok_Machine_init T) (hr.mono (by decide)) rfl T.g_Machine T.b_Machine_init .nil pass0 (pa_cons (pv 1) (pa_cons (pe_op o_add pe_int (pe_call (ok_law_coin T) (hr.mono (by decide)) rfl T.m_law_coin T.F_law_coin.kp T.b_law_coin .nil pass0 (pa_cons (pv 0) (pa_cons pe_int pa_nil)))) pa_nil))))
      (pss_cons (ps_setLc (i := 3) (own := [("_law_turn", 4)]) (g := (gName 4)) rfl sc_law_right.nd rfl rfl (sw_true rfl rfl rfl (by decide +kernel)) (pi_range1 rfl T.n_range (pa_cons pe_int pa_nil)) (blkOk_by (own := [("_law_turn", 4)]) (N := N_law_right) (sc := defScope s_law_right) (by decide +kernel)) (fun _ _ _ _ _ => (pg_name (i := 4) sc_law_right.nd rfl (by first | exact Or.inl rfl | exact Or.inr rfl))) (fun _ _ _ _ _ => pts_nil) (fun _ _ _ _ _ => (pe_call (ok_law_row T) (hr.mono (by decide)) rfl T.m_law_row T.F_law_row.kp T.b_law_row .nil pass0 (pa_cons (pv 0) (pa_cons (pv 1) (pa_cons (pe_call (ok_law_coin T) (hr.mono (by decide)) rfl T.m_law_coin T.F_law_coin.kp T.b_law_coin .nil pass0 (pa_cons (pv 0) (pa_cons pe_int pa_nil))) pa_nil))))))
      (pss_cons (ps_asg (pe_lc (own := [("_law_row_here", 7)]) (g := (gName 7)) rfl sc_law_right.nd (pi_list (pv 3)) (blkOk_by (own := [("_law_row_here", 7)]) (N := N_law_right) (sc := defScope s_law_right) (by decide +kernel)) (fun _ _ _ _ _ => (pg_name (i := 7) sc_law_right.nd rfl (by first | exact Or.inl rfl | exact Or.inr rfl))) (fun _ _ _ _ _ => pts_nil) (fun _ _ _ _ _ => (pe_op o_mul (pe_call (ok_law_worth T) (hr.mono (by decide)) rfl T.m_law_worth T.F_law_worth.kp T.b_law_worth .nil pass0 (pa_cons (pv 1) (pa_cons (pv 7) pa_nil))) (pe_call (ok_law_pick T) (hr.mono (by decide)) rfl T.m_law_pick T.F_law_pick.kp T.b_law_pick .nil pass0 (pa_cons (pv 0) (pa_cons (pe_lst (pa_cons pe_int (pa_cons pe_int (pa_cons (pe_un o_neg pe_int) pa_nil)))) pa_nil)))))) (pg_unl rfl (pgs_cons (pg_name (i := 5) sc_law_right.nd rfl (by first | exact Or.inl rfl | exact Or.inr rfl)) (pgs_cons (pg_name (i := 6) sc_law_right.nd rfl (by first | exact Or.inl rfl | exact Or.inr rfl)) pgs_nil))))
      (pss_cons (ps_asg (pe_tup (pa_cons (pe_callB c_len (by rfl) T.n_len (by decide +kernel) (pa_cons (pe_ix ix_list (pv 3) pe_int (fun _ _ => rfl)) pa_nil)) (pa_cons (pe_callB c_len (by rfl) T.n_len (by decide +kernel) (pa_cons (pe_ix ix_list (pv 3) pe_int (fun _ _ => rfl)) pa_nil)) (pa_cons (pe_call (ok_big T) (hr.mono (by decide)) rfl T.m_big T.F_big.kp T.b_big .nil pass0 (pa_cons (pv 2) (pa_cons (pv 5) pa_nil))) (pa_cons (pe_call (ok_big T) (hr.mono (by decide)) rfl T.m_big T.F_big.kp T.b_big .nil pass0 (pa_cons (pv 2) (pa_cons (pv 6) pa_nil))) pa_nil))))) (pg_tup rfl (pgs_cons (pg_name (i := 8) sc_law_right.nd rfl (by first | exact Or.inl rfl | exact Or.inr rfl)) (pgs_cons (pg_name (i := 9) sc_law_right.nd rfl (by first | exact Or.inl rfl | exact Or.inr rfl)) (pgs_cons (pg_name (i := 10) sc_law_right.nd rfl (by first | exact Or.inl rfl | exact Or.inr rfl)) (pgs_cons (pg_name (i := 11) sc_law_right.nd rfl (by first | exact Or.inl rfl | exact Or.inr rfl)) pgs_nil))))))
      (pss_cons (ps_if (pt_not (pt_val (pe_call (ok_law_is T) (hr.mono (by decide)) rfl T.m_law_is T.F_law_is.kp T.b_law_is .nil pass0 (pa_cons (pe_call (ok_multiply_by_rows T) (hr.mono (by decide)) rfl T.m_multiply_by_rows T.F_multiply_by_rows.kp T.b_multiply_by_rows .nil pass0 (pa_cons (pv 2) (pa_cons (pv 10) (pa_cons (pv 11) pa_nil)))) (pa_cons (pv 1) (pa_cons (pe_op o_mul (pv 5) (pv 6)) pa_nil)))))) (pss_one (ps_ret pe_bl)) pss_nil)
      (pss_cons (ps_set (i := 12) sc_law_right.nd rfl (by first | exact Or.inl rfl | exact Or.inr rfl) (pe_tup (pa_cons (pe_ifExp (pt_cmpR o_gt (pe_op o_mul (pv 8) (pv 9)) pe_int (nomark _)) (pe_disp (pps_cons pe_str (pe_op o_mul (pv 8) (pv 9)) pps_nil) (by rfl) (by rfl) (fun z => by cases z) (by decide)) pe_dnewK) (pa_cons (pe_lst (pa_cons (pe_tup (pa_cons pe_str (pa_cons (pv 8) (pa_cons (pv 9) pa_nil)))) pa_nil)) pa_nil))))
      (pss_cons (ps_if (pt_cmpR (o_neTD (room66 hr)) (pe_call (ok_law_counted T) (hr.mono (by decide)) rfl T.m_law_counted T.F_law_counted.kp T.b_law_counted .nil pass0 (pa_cons (pv 2) pa_nil)) (pv 12) (nomark _)) (pss_one (ps_ret pe_bl)) pss_nil)
      (pss_cons (ps_set (i := 13) sc_law_right.nd rfl (by first | exact Or.inl rfl | exact Or.inr rfl) (pe_kw (ok_multiply_by_rows T) (hr.mono (by decide)) rfl T.m_multiply_by_rows T.F_multiply_by_rows.kp T.kb_multiply_by_rows_y_x_machine pass0 (pk_cons (pv 11) (pk_cons (pv 10) (pk_cons (pv 2) pk_nil)))))
      (pss_cons (ps_if (PW.pt (pw_or (pt_cmpR (o_ownNe T.ne_Big (ok_Big_eq T) (hr.mono (by decide)) T.b_Big_eq pass0) (pv 13) (pe_call (ok_big T) (hr.mono (by decide)) rfl T.m_big T.F_big.kp T.b_big .nil pass0 (pa_cons (pv 2) (pa_cons (pe_op o_mul (pv 5) (pv 6)) pa_nil))) (nomark _)) (pw_or1 (pt_cmpR (o_neTD (room66 hr)) (pe_call (ok_law_counted T) (hr.mono (by decide)) rfl T.m_law_counted T.F_law_counted.kp T.b_law_counted .nil pass0 (pa_cons (pv 2) pa_nil)) (pv 12) (nomark _))))) (pss_one (ps_ret pe_bl)) pss_nil)
      (pss_cons (ps_if (pt_not (pt_val (pe_call (ok_law_is T) (hr.mono (by decide)) rfl T.m_law_is T.F_law_is.kp T.b_law_is .nil pass0 (pa_cons (pe_call (ok_square_by_rows T) (hr.mono (by decide)) rfl T.m_square_by_rows T.F_square_by_rows.kp T.b_square_by_rows .nil pass0 (pa_cons (pv 2) (pa_cons (pv 10) pa_nil))) (pa_cons (pv 1) (pa_cons (pe_op o_mul (pv 5) (pv 5)) pa_nil)))))) (pss_one (ps_ret pe_bl)) pss_nil)
      (pss_cons (ps_set (i := 12) sc_law_right.nd rfl (by first | exact Or.inl rfl | exact Or.inr rfl) (pe_tup (pa_cons (pe_ifExp (pt_cmpR o_gt (pv 8) pe_int (nomark _)) (pe_disp (pps_cons pe_str (pe_op o_div (pe_op o_mul (pv 8) (pe_op o_add (pv 8) pe_int)) pe_int) pps_nil) (by rfl) (by rfl) (fun z => by cases z) (by decide)) pe_dnewK) (pa_cons (pe_lst (pa_cons (pe_tup (pa_cons pe_str (pa_cons (pv 8) (pa_cons (pv 8) pa_nil)))) pa_nil)) pa_nil))))
      (pss_cons (ps_if (PW.pt (pw_or (pt_cmpR (o_neTD (room66 hr)) (pe_call (ok_law_counted T) (hr.mono (by decide)) rfl T.m_law_counted T.F_law_counted.kp T.b_law_counted .nil pass0 (pa_cons (pv 2) pa_nil)) (pv 12) (nomark _)) (pw_or1 (pt_cmpR (o_ownNe T.ne_Big (ok_Big_eq T) (hr.mono (by decide)) T.b_Big_eq pass0) (pe_kw (ok_square_by_rows T) (hr.mono (by decide)) rfl T.m_square_by_rows T.F_square_by_rows.kp T.kb_square_by_rows_x_machine pass0 (pk_cons (pv 10) (pk_cons (pv 2) pk_nil))) (pe_call (ok_big T) (hr.mono (by decide)) rfl T.m_big T.F_big.kp T.b_big .nil pass0 (pa_cons (pv 2) (pa_cons (pe_op o_mul (pv 5) (pv 5)) pa_nil))) (nomark _))))) (pss_one (ps_ret pe_bl)) pss_nil)
      (pss_cons (ps_if (pt_cmpR (o_neTD (room66 hr)) (pe_call (ok_law_counted T) (hr.mono (by decide)) rfl T.m_law_counted T.F_law_counted.kp T.b_law_counted .nil pass0 (pa_cons (pv 2) pa_nil)) (pv 12) (nomark _)) (pss_one (ps_ret pe_bl)) pss_nil)
      (pss_one (ps_ret (pe_cmpR (op_eqD hr.units) (pe_tup (pa_cons (pe_call (ok_plain T) (hr.mono (by decide)) rfl T.m_plain T.F_plain.kp T.b_plain .nil pass0 (pa_cons (pv 10) pa_nil)) (pa_cons (pe_call (ok_plain T) (hr.mono (by decide)) rfl T.m_plain T.F_plain.kp T.b_plain .nil pass0 (pa_cons (pv 11) pa_nil)) pa_nil))) (pe_tup (pa_cons (pv 5) (pa_cons (pv 6) pa_nil))) (nomark _))))))))))))))))))
theorem ok_law_right (T : Txt K mg a) : FnOk P w K mg base CX0 6 a.f_law_right a.fd_law_right ["_law_purse_here"] (sp_k13_right K a.c) := by
  refine T.F_law_right.ok sc_law_right (fun vs H Q E h => ?_) (fun cdv A outer s H vs Q E hr h => ⟨_, dv_law_right T hr, b_k13_right T.PM T.PB h⟩)
  first | exact Pu.lif_len n_k13_right h | exact Pu.lifS_len n_k13_right h | exact Pu.lifL_len n_k13_right h | exact Pu.lifO_len n_k13_right h
theorem dv_law {cdv : Value} {A : Around} {outer : List Env} {s : Shared} {H : Hp} {E : XK} (T : Txt K mg a) (hr : Room 6 (A.deeper (envOfC "law" (defScope s_law) s.heap.objs.size a.f_law cdv))) :
    PSs (cxOf CX0 P w K mg base N_law "law" (defScope s_law) a.f_law cdv A outer s H E).nox (defBody s_law) (t_k13_law K a.c) := by
  unfold t_k13_law
  exact (pss_cons (ps_for PassesOwn.never rfl (pi_list (pe_op op_cat (pe_slice sl_list (pv 0) po_none (po_some pe_int)) (pe_lst (pa_cons pe_int pa_nil)))) (pg_name (i := 1) sc_law.nd rfl (by first | exact Or.inl rfl | exact Or.inr rfl)) (pss_cons (ps_set (i := 2) sc_law.nd rfl (by first | exact Or.inl rfl | exact Or.inr rfl) (pe_call (ok_law_purse T) (hr.mono (by decide)) rfl T.m_law_purse T.F_law_purse.kp T.b_law_purse .nil pass0 (pa_cons (pv 1) pa_nil)))
      (pss_one (ps_for PassesOwn.never rfl (pi_range1 rfl T.n_range (pa_cons pe_int pa_nil)) (pg_name (i := 3) sc_law.nd rfl (by first | exact Or.inl rfl | exact Or.inr rfl)) (pss_one (ps_if (pt_not (pt_val (pe_call (ok_law_right T) (hr.mono (by decide)) rfl T.m_law_right T.F_law_right.kp T.b_law_right .nil pass0 (pa_cons (pv 2) pa_nil)))) (pss_one (ps_ret pe_bl)) pss_nil))))))
      (pss_cons (ps_set (i := 4) sc_law.nd rfl (by first | exact Or.inl rfl | exact Or.inr rfl) (pe_make T.mk_Machine (ok_Machine_init T) (hr.mono (by decide)) rfl T.g_Machine T.b_Machine_init .nil pass0 (pa_cons pe_int (pa_cons pe_int pa_nil))))
      (pss_cons (ps_if (pt_cmpR (o_ownNe T.ne_Big (ok_Big_eq T) (hr.mono (by decide)) T.b_Big_eq pass0) (pe_call (ok_multiply_by_rows T) (hr.mono (by decide)) rfl T.m_multiply_by_rows T.F_multiply_by_rows.kp T.b_multiply_by_rows .nil pass0 (pa_cons (pv 4) (pa_cons (pe_call (ok_big T) (hr.mono (by decide)) rfl T.m_big T.F_big.kp T.b_big .nil pass0 (pa_cons (pv 4) (pa_cons (pe_un o_neg pe_int) pa_nil))) (pa_cons (pe_call (ok_big T) (hr.mono (by decide)) rfl T.m_big T.F_big.kp T.b_big .nil pass0 (pa_cons (pv 4) (pa_cons pe_int pa_nil))) pa_nil)))) (pe_call (ok_big T) (hr.mono (by decide)) rfl T.m_big T.F_big.kp T.b_big .nil pass0 (pa_cons (pv 4) (pa_cons (pe_un o_neg pe_int) pa_nil))) (nomark _)) (pss_one (ps_ret pe_bl)) pss_nil)
      (pss_cons (ps_if (pt_cmpR (o_neTD (room66 hr)) (pe_call (ok_law_counted T) (hr.mono (by decide)) rfl T.m_law_counted T.F_law_counted.kp T.b_law_counted .nil pass0 (pa_cons (pv 4) pa_nil)) (pe_tup (pa_cons (pe_disp (pps_cons pe_str pe_int pps_nil) (by rfl) (by rfl) (fun z => by cases z) (by decide)) (pa_cons (pe_lst (pa_cons (pe_tup (pa_cons pe_str (pa_cons pe_int (pa_cons pe_int pa_nil)))) pa_nil)) pa_nil))) (nomark _)) (pss_one (ps_ret pe_bl)) pss_nil)
      (pss_cons (ps_set (i := 5) sc_law.nd rfl (by first | exact Or.inl rfl | exact Or.inr rfl) (pe_call (ok_square_by_rows T) (hr.mono (by decide)) rfl T.m_square_by_rows T.F_square_by_rows.kp T.b_square_by_rows .nil pass0 (pa_cons (pv 4) (pa_cons (pe_call (ok_big T) (hr.mono (by decide)) rfl T.m_big T.F_big.kp T.b_big .nil pass0 (pa_cons (pv 4) (pa_cons pe_int pa_nil))) pa_nil))))
      (pss_one (ps_ret (pe_and (pe_cmpR (o_eqTD (room66 hr)) (pe_call (ok_law_counted T) (hr.mono (by decide)) rfl T.m_law_counted T.F_law_counted.kp T.b_law_counted .nil pass0 (pa_cons (pv 4) pa_nil)) (pe_tup (pa_cons (pe_disp (pps_cons pe_str pe_int pps_nil) (by rfl) (by rfl) (fun z => by cases z) (by decide)) (pa_cons (pe_lst (pa_cons (pe_tup (pa_cons pe_str (pa_cons pe_int (pa_cons pe_int pa_nil)))) pa_nil)) pa_nil))) (nomark _)) (pe_one (pe_cmpR op_eq (pe_call (ok_plain T) (hr.mono (by decide)) rfl T.m_plain T.F_plain.kp T.b_plain .nil pass0 (pa_cons (pv 5) pa_nil)) (pe_op o_mul pe_int pe_int) (nomark _)))))))))))
theorem ok_law (T : Txt K mg a) : FnOk P w K mg base CX0 7 a.f_law a.fd_law ["_law_script"] (sp_k13_law K a.c) := by
  refine T.F_law.ok sc_law (fun vs H Q E h => ?_) (fun cdv A outer s H vs Q E hr h => ⟨_, dv_law T hr, b_k13_law T.PM T.PB h⟩)
  (repeat (obtain ⟨_, h⟩ := h)); all_goals (subst_vars; rfl)
end
theorem all_mk {l : PySem.W.OpenLaw} {w : World} {K : PySem.W.Frag} {h : Heap} {mg : Str → Option Value} {fa : Addr} {CMachine : Addr} {CBig : Addr} {nmBig qBig : Str} {NBig : Addr} {bsBig : List Value} {hdctBig : Bool} {snBig : List Str} {subBig : List Value} {abBig : Bool} {colBig : Option Bool} {ddBig : Option Addr} {k0Big k1Big k2Big k3Big k5Big : Option Value} {newIdBig : String} {ocNBig : Value} {odNBig : Option Addr} {esNBig : Array DictEntry} {epNBig : Nat} {slNBig : Array (Option Value)} {t_LEAST_BITS : Tok} {t_MOST_BITS : Tok} {t_MOST_CUTOFF : Tok} {t_MOST_WALK : Tok} {aWORDS : Addr} {oW1 : Option Addr} {itW : Array Value} {nW : Nat} {slW : Array (Option Value)} {f_is_integer : Addr} {oc_is_integer kV_is_integer dc_is_integer pm_is_integer cd_is_integer ct_is_integer : Value} {od_is_integer an_is_integer : Option Addr} {sl_is_integer : Array (Option Value)} {f_is_between : Addr} {oc_is_between kV_is_between dc_is_between pm_is_between cd_is_between ct_is_between : Value} {od_is_between an_is_between : Option Addr} {sl_is_between : Array (Option Value)} {f_check_integer : Addr} {oc_check_integer kV_check_integer dc_check_integer pm_check_integer cd_check_integer ct_check_integer : Value} {od_check_integer an_check_integer : Option Addr} {sl_check_integer : Array (Option Value)} {f_Machine_init : Addr} {oc_Machine_init kV_Machine_init dc_Machine_init pm_Machine_init cd_Machine_init ct_Machine_init : Value} {od_Machine_init an_Machine_init : Option Addr} {sl_Machine_init : Array (Option Value)} {dT_Machine_init : Addr} {ocT_Machine_init : Value} {odT_Machine_init : Option Addr} {nT_Machine_init : Nat} {slT_Machine_init : Array (Option Value)} {itT_Machine_init : Array Value} {f_Machine_tally : Addr} {oc_Machine_tally kV_Machine_tally dc_Machine_tally pm_Machine_tally cd_Machine_tally ct_Machine_tally : Value} {od_Machine_tally an_Machine_tally : Option Addr} {sl_Machine_tally : Array (Option Value)} {f_Machine_walk : Addr} {oc_Machine_walk kV_Machine_walk dc_Machine_walk pm_Machine_walk cd_Machine_walk ct_Machine_walk : Value} {od_Machine_walk an_Machine_walk : Option Addr} {sl_Machine_walk : Array (Option Value)} {f_Machine_reset : Addr} {oc_Machine_reset kV_Machine_reset dc_Machine_reset pm_Machine_reset cd_Machine_reset ct_Machine_reset : Value} {od_Machine_reset an_Machine_reset : Option Addr} {sl_Machine_reset : Array (Option Value)} {f_Machine_count : Addr} {oc_Machine_count kV_Machine_count dc_Machine_count pm_Machine_count cd_Machine_count ct_Machine_count : Value} {od_Machine_count an_Machine_count : Option Addr} {sl_Machine_count : Array (Option Value)} {f_Machine_enter : Addr} {oc_Machine_enter kV_Machine_enter dc_Machine_enter pm_Machine_enter cd_Machine_enter ct_Machine_enter : Value} {od_Machine_enter an_Machine_enter : Option Addr} {sl_Machine_enter : Array (Option Value)} {f_check_machine : Addr} {oc_check_machine kV_check_machine dc_check_machine pm_check_machine cd_check_machine ct_check_machine : Value} {od_check_machine an_check_machine : Option Addr} {sl_check_machine : Array (Option Value)} {f_Big_init : Addr} {oc_Big_init kV_Big_init dc_Big_init pm_Big_init cd_Big_init ct_Big_init : Value} {od_Big_init an_Big_init : Option Addr} {sl_Big_init : Array (Option Value)} {f_Big_eq : Addr} {oc_Big_eq kV_Big_eq dc_Big_eq pm_Big_eq cd_Big_eq ct_Big_eq : Value} {od_Big_eq an_Big_eq : Option Addr} {sl_Big_eq : Array (Option Value)} {f_Big_sign : Addr} {oc_Big_sign kV_Big_sign dc_Big_sign pm_Big_sign cd_Big_sign ct_Big_sign : Value} {od_Big_sign an_Big_sign : Option Addr} {sl_Big_sign : Array (Option Value)} {f_Big_digits : Addr} {oc_Big_digits kV_Big_digits dc_Big_digits pm_Big_digits cd_Big_digits ct_Big_digits : Value} {od_Big_digits an_Big_digits : Option Addr} {sl_Big_digits : Array (Option Value)} {f_Big_bits : Addr} {oc_Big_bits kV_Big_bits dc_Big_bits pm_Big_bits cd_Big_bits ct_Big_bits : Value} {od_Big_bits an_Big_bits : Option Addr} {sl_Big_bits : Array (Option Value)} {f_made : Addr} {oc_made kV_made dc_made pm_made cd_made ct_made : Value} {od_made an_made : Option Addr} {sl_made : Array (Option Value)} {f_digits_of : Addr} {oc_digits_of kV_digits_of dc_digits_of pm_digits_of cd_digits_of ct_digits_of : Value} {od_digits_of an_digits_of : Option Addr} {sl_digits_of : Array (Option Value)} {f_big_of : Addr} {oc_big_of kV_big_of dc_big_of pm_big_of cd_big_of ct_big_of : Value} {od_big_of an_big_of : Option Addr} {sl_big_of : Array (Option Value)} {f_value_of : Addr} {oc_value_of kV_value_of dc_value_of pm_value_of cd_value_of ct_value_of : Value} {od_value_of an_value_of : Option Addr} {sl_value_of : Array (Option Value)} {f_check_big : Addr} {oc_check_big kV_check_big dc_check_big pm_check_big cd_check_big ct_check_big : Value} {od_check_big an_check_big : Option Addr} {sl_check_big : Array (Option Value)} {f_check_bigs : Addr} {oc_check_bigs kV_check_bigs dc_check_bigs pm_check_bigs cd_check_bigs ct_check_bigs : Value} {od_check_bigs an_check_bigs : Option Addr} {sl_check_bigs : Array (Option Value)} {f_check_any : Addr} {oc_check_any kV_check_any dc_check_any pm_check_any cd_check_any ct_check_any : Value} {od_check_any an_check_any : Option Addr} {sl_check_any : Array (Option Value)} {f_big : Addr} {oc_big kV_big dc_big pm_big cd_big ct_big : Value} {od_big an_big : Option Addr} {sl_big : Array (Option Value)} {f_plain : Addr} {oc_plain kV_plain dc_plain pm_plain cd_plain ct_plain : Value} {od_plain an_plain : Option Addr} {sl_plain : Array (Option Value)} {f_rows_of : Addr} {oc_rows_of kV_rows_of dc_rows_of pm_rows_of cd_rows_of ct_rows_of : Value} {od_rows_of an_rows_of : Option Addr} {sl_rows_of : Array (Option Value)} {f_square_rows_of : Addr} {oc_square_rows_of kV_square_rows_of dc_square_rows_of pm_square_rows_of cd_square_rows_of ct_square_rows_of : Value} {od_square_rows_of an_square_rows_of : Option Addr} {sl_square_rows_of : Array (Option Value)} {f_multiply_by_rows : Addr} {oc_multiply_by_rows kV_multiply_by_rows dc_multiply_by_rows pm_multiply_by_rows cd_multiply_by_rows ct_multiply_by_rows : Value} {od_multiply_by_rows an_multiply_by_rows : Option Addr} {sl_multiply_by_rows : Array (Option Value)} {f_square_by_rows : Addr} {oc_square_by_rows kV_square_by_rows dc_square_by_rows pm_square_by_rows cd_square_by_rows ct_square_by_rows : Value} {od_square_by_rows an_square_by_rows : Option Addr} {sl_square_by_rows : Array (Option Value)} {f_law_purse : Addr} {oc_law_purse kV_law_purse dc_law_purse pm_law_purse cd_law_purse ct_law_purse : Value} {od_law_purse an_law_purse : Option Addr} {sl_law_purse : Array (Option Value)} {f_law_coin : Addr} {oc_law_coin kV_law_coin dc_law_coin pm_law_coin cd_law_coin ct_law_coin : Value} {od_law_coin an_law_coin : Option Addr} {sl_law_coin : Array (Option Value)} {f_law_pick : Addr} {oc_law_pick kV_law_pick dc_law_pick pm_law_pick cd_law_pick ct_law_pick : Value} {od_law_pick an_law_pick : Option Addr} {sl_law_pick : Array (Option Value)} {f_law_row : Addr} {oc_law_row kV_law_row dc_law_row pm_law_row cd_law_row ct_law_row : Value} {od_law_row an_law_row : Option Addr} {sl_law_row : Array (Option Value)} {f_law_worth : Addr} {oc_law_worth kV_law_worth dc_law_worth pm_law_worth cd_law_worth ct_law_worth : Value} {od_law_worth an_law_worth : Option Addr} {sl_law_worth : Array (Option Value)} {f_law_digits : Addr} {oc_law_digits kV_law_digits dc_law_digits pm_law_digits cd_law_digits ct_law_digits : Value} {od_law_digits an_law_digits : Option Addr} {sl_law_digits : Array (Option Value)} {f_law_is : Addr} {oc_law_is kV_law_is dc_law_is pm_law_is cd_law_is ct_law_is : Value} {od_law_is an_law_is : Option Addr} {sl_law_is : Array (Option Value)} {f_law_counted : Addr} {oc_law_counted kV_law_counted dc_law_counted pm_law_counted cd_law_counted ct_law_counted : Value} {od_law_counted an_law_counted : Option Addr} {sl_law_counted : Array (Option Value)} {f_law_right : Addr} {oc_law_right kV_law_right dc_law_right pm_law_right cd_law_right ct_law_right : Value} {od_law_right an_law_right : Option Addr} {sl_law_right : Array (Option Value)} {f_law : Addr} {oc_law kV_law dc_law pm_law cd_law ct_law : Value} {od_law an_law : Option Addr} {sl_law : Array (Option Value)} (X : K.In h) (G : h.Ns mainGlobals mg) (hfa : mg "law" = some (.ref fa))
    (aMachine : PySem.W.nsIn K mainGlobals "Machine" = some (some (.ref CMachine)))
    (pgMachine : PySem.W.plainGet K CMachine Str.empty = true)
    (hdMachine : PySem.W.hasDictIn K CMachine = true)
    (poMachine : PySem.W.plainOver K CMachine = true)
    (saMachine : PySem.W.findIn K (.ref CMachine) "__setattr__" = some (some (.builtin "object.__setattr__")))
    (mkMachine : PySem.W.makesIn K CMachine = true)
    (kcMachine : PySem.W.keepIn K (.ref CMachine) = true)
    (haMachine : PySem.W.findIn K (.ref CMachine) "__class__" = some (some (.builtin "object.__class__")))
    (hmMachine : PySem.W.mroIn K CMachine (.type "object") = some true)
    (nfMachine_entered : PySem.W.findIn K (.ref CMachine) "entered" = some none)
    (nfMachine_counts : PySem.W.findIn K (.ref CMachine) "counts" = some none)
    (nfMachine_base : PySem.W.findIn K (.ref CMachine) "base" = some none)
    (nfMachine_limit_of_rows : PySem.W.findIn K (.ref CMachine) "limit_of_rows" = some none)
    (nfMachine_width : PySem.W.findIn K (.ref CMachine) "width" = some none)
    (aBig : PySem.W.nsIn K mainGlobals "Big" = some (some (.ref CBig)))
    (pgBig : PySem.W.plainGet K CBig Str.empty = true)
    (hdBig : PySem.W.hasDictIn K CBig = true)
    (poBig : PySem.W.plainOver K CBig = true)
    (saBig : PySem.W.findIn K (.ref CBig) "__setattr__" = some (some (.builtin "object.__setattr__")))
    (mkBig : PySem.W.makesIn K CBig = true)
    (kcBig : PySem.W.keepIn K (.ref CBig) = true)
    (haBig : PySem.W.findIn K (.ref CBig) "__class__" = some (some (.builtin "object.__class__")))
    (hmBig : PySem.W.mroIn K CBig (.type "object") = some true)
    (lcBig : K.lookup CBig = some (excClassObj nmBig qBig CBig NBig bsBig [.type "object"] hdctBig snBig subBig abBig colBig ddBig k0Big k1Big k2Big k3Big k5Big newIdBig))
    (lNBig : K.lookup NBig = some ⟨ocNBig, odNBig, .dict esNBig epNBig, slNBig⟩)
    (skBig : strKeysB esNBig = true)
    (nfBig_row : PySem.W.findIn K (.ref CBig) "row" = some none)
    (nfBig_side : PySem.W.findIn K (.ref CBig) "side" = some none)
    (nfBig_width : PySem.W.findIn K (.ref CBig) "width" = some none)
    (hsp : PySem.W.specialIn K (.builtin "object.__class__") "__get__" = some (some (.builtin "getset_descriptor.__get__")))
    (htk : PySem.W.takesIn K (.builtin "object.__class__") = some true)
    (g_LEAST_BITS : PySem.W.nsIn K mainGlobals "LEAST_BITS" = some (some (.int 8 t_LEAST_BITS)))
    (g_MOST_BITS : PySem.W.nsIn K mainGlobals "MOST_BITS" = some (some (.int 30 t_MOST_BITS)))
    (g_MOST_CUTOFF : PySem.W.nsIn K mainGlobals "MOST_CUTOFF" = some (some (.int 1000 t_MOST_CUTOFF)))
    (g_MOST_WALK : PySem.W.nsIn K mainGlobals "MOST_WALK" = some (some (.int 1000 t_MOST_WALK)))
    (g_WORDS : PySem.W.nsIn K mainGlobals "WORDS" = some (some (.ref aWORDS)))
    (l_WORDS : K.lookup aWORDS = some ⟨.type "tuple", oW1, .seq itW nW, slW⟩)
    (z_WORDS : itW.size ≤ sizeLine)
    (v_WORDS : Vals (words.map V.str) itW.toList)
    (a_is_integer : PySem.W.nsIn K mainGlobals "is_integer" = some (some (.ref f_is_integer)))
    (l_is_integer : K.lookup f_is_integer = some ⟨oc_is_integer, od_is_integer, .func (PySem.W.fnOf "is_integer" "is_integer" (defArgs s_is_integer) (defBody s_is_integer) (defScope s_is_integer) .none kV_is_integer dc_is_integer pm_is_integer an_is_integer cd_is_integer ct_is_integer), sl_is_integer⟩)
    (c_is_integer : PySem.W.codeIn K cd_is_integer "is_integer" = true)
    (k_is_integer : PySem.W.keepIn K (.ref f_is_integer) = true)
    (a_is_between : PySem.W.nsIn K mainGlobals "is_between" = some (some (.ref f_is_between)))
    (l_is_between : K.lookup f_is_between = some ⟨oc_is_between, od_is_between, .func (PySem.W.fnOf "is_between" "is_between" (defArgs s_is_between) (defBody s_is_between) (defScope s_is_between) .none kV_is_between dc_is_between pm_is_between an_is_between cd_is_between ct_is_between), sl_is_between⟩)
    (c_is_between : PySem.W.codeIn K cd_is_between "is_between" = true)
    (k_is_between : PySem.W.keepIn K (.ref f_is_between) = true)
    (a_check_integer : PySem.W.nsIn K mainGlobals "check_integer" = some (some (.ref f_check_integer)))
    (l_check_integer : K.lookup f_check_integer = some ⟨oc_check_integer, od_check_integer, .func (PySem.W.fnOf "check_integer" "check_integer" (defArgs s_check_integer) (defBody s_check_integer) (defScope s_check_integer) .none kV_check_integer dc_check_integer pm_check_integer an_check_integer cd_check_integer ct_check_integer), sl_check_integer⟩)
    (c_check_integer : PySem.W.codeIn K cd_check_integer "check_integer" = true)
    (k_check_integer : PySem.W.keepIn K (.ref f_check_integer) = true)
    (a_Machine_init : PySem.W.findIn K (.ref CMachine) "__init__" = some (some (.ref f_Machine_init)))
    (i_Machine_init : PySem.W.isFn K (.ref f_Machine_init) = true)
    (l_Machine_init : K.lookup f_Machine_init = some ⟨oc_Machine_init, od_Machine_init, .func (PySem.W.fnOf "__init__" "Machine.__init__" (defArgs s_Machine_init) (defBody s_Machine_init) (defScope s_Machine_init) (.ref dT_Machine_init) kV_Machine_init dc_Machine_init pm_Machine_init an_Machine_init cd_Machine_init ct_Machine_init), sl_Machine_init⟩)
    (c_Machine_init : PySem.W.codeIn K cd_Machine_init "Machine.__init__" = true)
    (k_Machine_init : PySem.W.keepIn K (.ref f_Machine_init) = true)
    (lT_Machine_init : K.lookup dT_Machine_init = some ⟨ocT_Machine_init, odT_Machine_init, .seq itT_Machine_init nT_Machine_init, slT_Machine_init⟩)
    (vT_Machine_init : Vals [(.int 30), (.int 70)] itT_Machine_init.toList)
    (a_Machine_tally : PySem.W.findIn K (.ref CMachine) "tally" = some (some (.ref f_Machine_tally)))
    (i_Machine_tally : PySem.W.isFn K (.ref f_Machine_tally) = true)
    (l_Machine_tally : K.lookup f_Machine_tally = some ⟨oc_Machine_tally, od_Machine_tally, .func (PySem.W.fnOf "tally" "Machine.tally" (defArgs s_Machine_tally) (defBody s_Machine_tally) (defScope s_Machine_tally) .none kV_Machine_tally dc_Machine_tally pm_Machine_tally an_Machine_tally cd_Machine_tally ct_Machine_tally), sl_Machine_tally⟩)
    (c_Machine_tally : PySem.W.codeIn K cd_Machine_tally "Machine.tally" = true)
    (k_Machine_tally : PySem.W.keepIn K (.ref f_Machine_tally) = true)
    (a_Machine_walk : PySem.W.findIn K (.ref CMachine) "walk" = some (some (.ref f_Machine_walk)))
    (i_Machine_walk : PySem.W.isFn K (.ref f_Machine_walk) = true)
    (l_Machine_walk : K.lookup f_Machine_walk = some ⟨oc_Machine_walk, od_Machine_walk, .func (PySem.W.fnOf "walk" "Machine.walk" (defArgs s_Machine_walk) (defBody s_Machine_walk) (defScope s_Machine_walk) .none kV_Machine_walk dc_Machine_walk pm_Machine_walk an_Machine_walk cd_Machine_walk ct_Machine_walk), sl_Machine_walk⟩)
    (c_Machine_walk : PySem.W.codeIn K cd_Machine_walk "Machine.walk" = true)
    (k_Machine_walk : PySem.W.keepIn K (.ref f_Machine_walk) = true)
    (a_Machine_reset : PySem.W.findIn K (.ref CMachine) "reset" = some (some (.ref f_Machine_reset)))
    (i_Machine_reset : PySem.W.isFn K (.ref f_Machine_reset) = true)
    (l_Machine_reset : K.lookup f_Machine_reset = some ⟨oc_Machine_reset, od_Machine_reset, .func (PySem.W.fnOf "reset" "Machine.reset" (defArgs s_Machine_reset) (defBody s_Machine_reset) (defScope s_Machine_reset) .none kV_Machine_reset dc_Machine_reset pm_Machine_reset an_Machine_reset cd_Machine_reset ct_Machine_reset), sl_Machine_reset⟩)
    (c_Machine_reset : PySem.W.codeIn K cd_Machine_reset "Machine.reset" = true)
    (k_Machine_reset : PySem.W.keepIn K (.ref f_Machine_reset) = true)
    (a_Machine_count : PySem.W.findIn K (.ref CMachine) "count" = some (some (.ref f_Machine_count)))
    (i_Machine_count : PySem.W.isFn K (.ref f_Machine_count) = true)
    (l_Machine_count : K.lookup f_Machine_count = some ⟨oc_Machine_count, od_Machine_count, .func (PySem.W.fnOf "count" "Machine.count" (defArgs s_Machine_count) (defBody s_Machine_count) (defScope s_Machine_count) .none kV_Machine_count dc_Machine_count pm_Machine_count an_Machine_count cd_Machine_count ct_Machine_count), sl_Machine_count⟩)
    (c_Machine_count : PySem.W.codeIn K cd_Machine_count "Machine.count" = true)
    (k_Machine_count : PySem.W.keepIn K (.ref f_Machine_count) = true)
    (a_Machine_enter : PySem.W.findIn K (.ref CMachine) "enter" = some (some (.ref f_Machine_enter)))
    (i_Machine_enter : PySem.W.isFn K (.ref f_Machine_enter) = true)
    (l_Machine_enter : K.lookup f_Machine_enter = some ⟨oc_Machine_enter, od_Machine_enter, .func (PySem.W.fnOf "enter" "Machine.enter" (defArgs s_Machine_enter) (defBody s_Machine_enter) (defScope s_Machine_enter) .none kV_Machine_enter dc_Machine_enter pm_Machine_enter an_Machine_enter cd_Machine_enter ct_Machine_enter), sl_Machine_enter⟩)
    (c_Machine_enter : PySem.W.codeIn K cd_Machine_enter "Machine.enter" = true)
    (k_Machine_enter : PySem.W.keepIn K (.ref f_Machine_enter) = true)
    (a_check_machine : PySem.W.nsIn K mainGlobals "check_machine" = some (some (.ref f_check_machine)))
    (l_check_machine : K.lookup f_check_machine = some ⟨oc_check_machine, od_check_machine, .func (PySem.W.fnOf "check_machine" "check_machine" (defArgs s_check_machine) (defBody s_check_machine) (defScope s_check_machine) .none kV_check_machine dc_check_machine pm_check_machine an_check_machine cd_check_machine ct_check_machine), sl_check_machine⟩)
    (c_check_machine : PySem.W.codeIn K cd_check_machine "check_machine" = true)
    (k_check_machine : PySem.W.keepIn K (.ref f_check_machine) = true)
    (a_Big_init : PySem.W.findIn K (.ref CBig) "__init__" = some (some (.ref f_Big_init)))
    (i_Big_init : PySem.W.isFn K (.ref f_Big_init) = true)
    (l_Big_init : K.lookup f_Big_init = some ⟨oc_Big_init, od_Big_init, .func (PySem.W.fnOf "__init__" "Big.__init__" (defArgs s_Big_init) (defBody s_Big_init) (defScope s_Big_init) .none kV_Big_init dc_Big_init pm_Big_init an_Big_init cd_Big_init ct_Big_init), sl_Big_init⟩)
    (c_Big_init : PySem.W.codeIn K cd_Big_init "Big.__init__" = true)
    (k_Big_init : PySem.W.keepIn K (.ref f_Big_init) = true)
    (a_Big_eq : PySem.W.findIn K (.ref CBig) "__eq__" = some (some (.ref f_Big_eq)))
    (i_Big_eq : PySem.W.isFn K (.ref f_Big_eq) = true)
    (l_Big_eq : K.lookup f_Big_eq = some ⟨oc_Big_eq, od_Big_eq, .func (PySem.W.fnOf "__eq__" "Big.__eq__" (defArgs s_Big_eq) (defBody s_Big_eq) (defScope s_Big_eq) .none kV_Big_eq dc_Big_eq pm_Big_eq an_Big_eq cd_Big_eq ct_Big_eq), sl_Big_eq⟩)
    (c_Big_eq : PySem.W.codeIn K cd_Big_eq "Big.__eq__" = true)
    (k_Big_eq : PySem.W.keepIn K (.ref f_Big_eq) = true)
    (a_Big_sign : PySem.W.findIn K (.ref CBig) "sign" = some (some (.ref f_Big_sign)))
    (i_Big_sign : PySem.W.isFn K (.ref f_Big_sign) = true)
    (l_Big_sign : K.lookup f_Big_sign = some ⟨oc_Big_sign, od_Big_sign, .func (PySem.W.fnOf "sign" "Big.sign" (defArgs s_Big_sign) (defBody s_Big_sign) (defScope s_Big_sign) .none kV_Big_sign dc_Big_sign pm_Big_sign an_Big_sign cd_Big_sign ct_Big_sign), sl_Big_sign⟩)
    (c_Big_sign : PySem.W.codeIn K cd_Big_sign "Big.sign" = true)
    (k_Big_sign : PySem.W.keepIn K (.ref f_Big_sign) = true)
    (a_Big_digits : PySem.W.findIn K (.ref CBig) "digits" = some (some (.ref f_Big_digits)))
    (i_Big_digits : PySem.W.isFn K (.ref f_Big_digits) = true)
    (l_Big_digits : K.lookup f_Big_digits = some ⟨oc_Big_digits, od_Big_digits, .func (PySem.W.fnOf "digits" "Big.digits" (defArgs s_Big_digits) (defBody s_Big_digits) (defScope s_Big_digits) .none kV_Big_digits dc_Big_digits pm_Big_digits an_Big_digits cd_Big_digits ct_Big_digits), sl_Big_digits⟩)
    (c_Big_digits : PySem.W.codeIn K cd_Big_digits "Big.digits" = true)
    (k_Big_digits : PySem.W.keepIn K (.ref f_Big_digits) = true)
    (a_Big_bits : PySem.W.findIn K (.ref CBig) "bits" = some (some (.ref f_Big_bits)))
    (i_Big_bits : PySem.W.isFn K (.ref f_Big_bits) = true)
    (l_Big_bits : K.lookup f_Big_bits = some ⟨oc_Big_bits, od_Big_bits, .func (PySem.W.fnOf "bits" "Big.bits" (defArgs s_Big_bits) (defBody s_Big_bits) (defScope s_Big_bits) .none kV_Big_bits dc_Big_bits pm_Big_bits an_Big_bits cd_Big_bits ct_Big_bits), sl_Big_bits⟩)
    (c_Big_bits : PySem.W.codeIn K cd_Big_bits "Big.bits" = true)
    (k_Big_bits : PySem.W.keepIn K (.ref f_Big_bits) = true)
    (a_made : PySem.W.nsIn K mainGlobals "made" = some (some (.ref f_made)))
    (l_made : K.lookup f_made = some ⟨oc_made, od_made, .func (PySem.W.fnOf "made" "made" (defArgs s_made) (defBody s_made) (defScope s_made) .none kV_made dc_made pm_made an_made cd_made ct_made), sl_made⟩)
    (c_made : PySem.W.codeIn K cd_made "made" = true)
    (k_made : PySem.W.keepIn K (.ref f_made) = true)
    (a_digits_of : PySem.W.nsIn K mainGlobals "digits_of" = some (some (.ref f_digits_of)))
    (l_digits_of : K.lookup f_digits_of = some ⟨oc_digits_of, od_digits_of, .func (PySem.W.fnOf "digits_of" "digits_of" (defArgs s_digits_of) (defBody s_digits_of) (defScope s_digits_of) .none kV_digits_of dc_digits_of pm_digits_of an_digits_of cd_digits_of ct_digits_of), sl_digits_of⟩)
    (c_digits_of : PySem.W.codeIn K cd_digits_of "digits_of" = true)
    (k_digits_of : PySem.W.keepIn K (.ref f_digits_of) = true)
    (a_big_of : PySem.W.nsIn K mainGlobals "big_of" = some (some (.ref f_big_of)))
    (l_big_of : K.lookup f_big_of = some ⟨oc_big_of, od_big_of, .func (PySem.W.fnOf "big_of" "big_of" (defArgs s_big_of) (defBody s_big_of) (defScope s_big_of) .none kV_big_of dc_big_of pm_big_of an_big_of cd_big_of ct_big_of), sl_big_of⟩)
    (c_big_of : PySem.W.codeIn K cd_big_of "big_of" = true)
    (k_big_of : PySem.W.keepIn K (.ref f_big_of) = true)
    (a_value_of : PySem.W.nsIn K mainGlobals "value_of" = some (some (.ref f_value_of)))
    (l_value_of : K.lookup f_value_of = some ⟨oc_value_of, od_value_of, .func (PySem.W.fnOf "value_of" "value_of" (defArgs s_value_of) (defBody s_value_of) (defScope s_value_of) .none kV_value_of dc_value_of pm_value_of an_value_of cd_value_of ct_value_of), sl_value_of⟩)
    (c_value_of : PySem.W.codeIn K cd_value_of "value_of" = true)
    (k_value_of : PySem.W.keepIn K (.ref f_value_of) = true)
    (a_check_big : PySem.W.nsIn K mainGlobals "check_big" = some (some (.ref f_check_big)))
    (l_check_big : K.lookup f_check_big = some ⟨oc_check_big, od_check_big, .func (PySem.W.fnOf "check_big" "check_big" (defArgs s_check_big) (defBody s_check_big) (defScope s_check_big) .none kV_check_big dc_check_big pm_check_big an_check_big cd_check_big ct_check_big), sl_check_big⟩)
    (c_check_big : PySem.W.codeIn K cd_check_big "check_big" = true)
    (k_check_big : PySem.W.keepIn K (.ref f_check_big) = true)
    (a_check_bigs : PySem.W.nsIn K mainGlobals "check_bigs" = some (some (.ref f_check_bigs)))
    (l_check_bigs : K.lookup f_check_bigs = some ⟨oc_check_bigs, od_check_bigs, .func (PySem.W.fnOf "check_bigs" "check_bigs" (defArgs s_check_bigs) (defBody s_check_bigs) (defScope s_check_bigs) .none kV_check_bigs dc_check_bigs pm_check_bigs an_check_bigs cd_check_bigs ct_check_bigs), sl_check_bigs⟩)
    (c_check_bigs : PySem.W.codeIn K cd_check_bigs "check_bigs" = true)
    (k_check_bigs : PySem.W.keepIn K (.ref f_check_bigs) = true)
    (a_check_any : PySem.W.nsIn K mainGlobals "check_any" = some (some (.ref f_check_any)))
    (l_check_any : K.lookup f_check_any = some ⟨oc_check_any, od_check_any, .func (PySem.W.fnOf "check_any" "check_any" (defArgs s_check_any) (defBody s_check_any) (defScope s_check_any) .none kV_check_any dc_check_any pm_check_any an_check_any cd_check_any ct_check_any), sl_check_any⟩)
    (c_check_any : PySem.W.codeIn K cd_check_any "check_any" = true)
    (k_check_any : PySem.W.keepIn K (.ref f_check_any) = true)
    (a_big : PySem.W.nsIn K mainGlobals "big" = some (some (.ref f_big)))
    (l_big : K.lookup f_big = some ⟨oc_big, od_big, .func (PySem.W.fnOf "big" "big" (defArgs s_big) (defBody s_big) (defScope s_big) .none kV_big dc_big pm_big an_big cd_big ct_big), sl_big⟩)
    (c_big : PySem.W.codeIn K cd_big "big" = true)
    (k_big : PySem.W.keepIn K (.ref f_big) = true)
    (a_plain : PySem.W.nsIn K mainGlobals "plain" = some (some (.ref f_plain)))
    (l_plain : K.lookup f_plain = some ⟨oc_plain, od_plain, .func (PySem.W.fnOf "plain" "plain" (defArgs s_plain) (defBody s_plain) (defScope s_plain) .none kV_plain dc_plain pm_plain an_plain cd_plain ct_plain), sl_plain⟩)
    (c_plain : PySem.W.codeIn K cd_plain "plain" = true)
    (k_plain : PySem.W.keepIn K (.ref f_plain) = true)
    (a_rows_of : PySem.W.nsIn K mainGlobals "rows_of" = some (some (.ref f_rows_of)))
    (l_rows_of : K.lookup f_rows_of = some ⟨oc_rows_of, od_rows_of, .func (PySem.W.fnOf "rows_of" "rows_of" (defArgs s_rows_of) (defBody s_rows_of) (defScope s_rows_of) .none kV_rows_of dc_rows_of pm_rows_of an_rows_of cd_rows_of ct_rows_of), sl_rows_of⟩)
    (c_rows_of : PySem.W.codeIn K cd_rows_of "rows_of" = true)
    (k_rows_of : PySem.W.keepIn K (.ref f_rows_of) = true)
    (a_square_rows_of : PySem.W.nsIn K mainGlobals "square_rows_of" = some (some (.ref f_square_rows_of)))
    (l_square_rows_of : K.lookup f_square_rows_of = some ⟨oc_square_rows_of, od_square_rows_of, .func (PySem.W.fnOf "square_rows_of" "square_rows_of" (defArgs s_square_rows_of) (defBody s_square_rows_of) (defScope s_square_rows_of) .none kV_square_rows_of dc_square_rows_of pm_square_rows_of an_square_rows_of cd_square_rows_of ct_square_rows_of), sl_square_rows_of⟩)
    (c_square_rows_of : PySem.W.codeIn K cd_square_rows_of "square_rows_of" = true)
    (k_square_rows_of : PySem.W.keepIn K (.ref f_square_rows_of) = true)
    (a_multiply_by_rows : PySem.W.nsIn K mainGlobals "multiply_by_rows" = some (some (.ref f_multiply_by_rows)))
    (l_multiply_by_rows : K.lookup f_multiply_by_rows = some ⟨oc_multiply_by_rows, od_multiply_by_rows, .func (PySem.W.fnOf "multiply_by_rows" "multiply_by_rows" (defArgs s_multiply_by_rows) (defBody s_multiply_by_rows) (defScope s_multiply_by_rows) .none kV_multiply_by_rows dc_multiply_by_rows pm_multiply_by_rows an_multiply_by_rows cd_multiply_by_rows ct_multiply_by_rows), sl_multiply_by_rows⟩)
    (c_multiply_by_rows : PySem.W.codeIn K cd_multiply_by_rows "multiply_by_rows" = true)
    (k_multiply_by_rows : PySem.W.keepIn K (.ref f_multiply_by_rows) = true)
    (a_square_by_rows : PySem.W.nsIn K mainGlobals "square_by_rows" = some (some (.ref f_square_by_rows)))
    (l_square_by_rows : K.lookup f_square_by_rows = some ⟨oc_square_by_rows, od_square_by_rows, .func (PySem.W.fnOf "square_by_rows" "square_by_rows" (defArgs s_square_by_rows) (defBody s_square_by_rows) (defScope s_square_by_rows) .none kV_square_by_rows dc_square_by_rows pm_square_by_rows an_square_by_rows cd_square_by_rows ct_square_by_rows), sl_square_by_rows⟩)
    (c_square_by_rows : PySem.W.codeIn K cd_square_by_rows "square_by_rows" = true)
    (k_square_by_rows : PySem.W.keepIn K (.ref f_square_by_rows) = true)
    (a_law_purse : PySem.W.nsIn K mainGlobals "_law_purse" = some (some (.ref f_law_purse)))
    (l_law_purse : K.lookup f_law_purse = some ⟨oc_law_purse, od_law_purse, .func (PySem.W.fnOf "_law_purse" "_law_purse" (defArgs s_law_purse) (defBody s_law_purse) (defScope s_law_purse) .none kV_law_purse dc_law_purse pm_law_purse an_law_purse cd_law_purse ct_law_purse), sl_law_purse⟩)
    (c_law_purse : PySem.W.codeIn K cd_law_purse "_law_purse" = true)
    (k_law_purse : PySem.W.keepIn K (.ref f_law_purse) = true)
    (a_law_coin : PySem.W.nsIn K mainGlobals "_law_coin" = some (some (.ref f_law_coin)))
    (l_law_coin : K.lookup f_law_coin = some ⟨oc_law_coin, od_law_coin, .func (PySem.W.fnOf "_law_coin" "_law_coin" (defArgs s_law_coin) (defBody s_law_coin) (defScope s_law_coin) .none kV_law_coin dc_law_coin pm_law_coin an_law_coin cd_law_coin ct_law_coin), sl_law_coin⟩)
    (c_law_coin : PySem.W.codeIn K cd_law_coin "_law_coin" = true)
    (k_law_coin : PySem.W.keepIn K (.ref f_law_coin) = true)
    (a_law_pick : PySem.W.nsIn K mainGlobals "_law_pick" = some (some (.ref f_law_pick)))
    (l_law_pick : K.lookup f_law_pick = some ⟨oc_law_pick, od_law_pick, .func (PySem.W.fnOf "_law_pick" "_law_pick" (defArgs s_law_pick) (defBody s_law_pick) (defScope s_law_pick) .none kV_law_pick dc_law_pick pm_law_pick an_law_pick cd_law_pick ct_law_pick), sl_law_pick⟩)
    (c_law_pick : PySem.W.codeIn K cd_law_pick "_law_pick" = true)
    (k_law_pick : PySem.W.keepIn K (.ref f_law_pick) = true)
    (a_law_row : PySem.W.nsIn K mainGlobals "_law_row" = some (some (.ref f_law_row)))
    (l_law_row : K.lookup f_law_row = some ⟨oc_law_row, od_law_row, .func (PySem.W.fnOf "_law_row" "_law_row" (defArgs s_law_row) (defBody s_law_row) (defScope s_law_row) .none kV_law_row dc_law_row pm_law_row an_law_row cd_law_row ct_law_row), sl_law_row⟩)
    (c_law_row : PySem.W.codeIn K cd_law_row "_law_row" = true)
    (k_law_row : PySem.W.keepIn K (.ref f_law_row) = true)
    (a_law_worth : PySem.W.nsIn K mainGlobals "_law_worth" = some (some (.ref f_law_worth)))
    (l_law_worth : K.lookup f_law_worth = some ⟨oc_law_worth, od_law_worth, .func (PySem.W.fnOf "_law_worth" "_law_worth" (defArgs s_law_worth) (defBody s_law_worth) (defScope s_law_worth) .none kV_law_worth dc_law_worth pm_law_worth an_law_worth cd_law_worth ct_law_worth), sl_law_worth⟩)
    (c_law_worth : PySem.W.codeIn K cd_law_worth "_law_worth" = true)
    (k_law_worth : PySem.W.keepIn K (.ref f_law_worth) = true)
    (a_law_digits : PySem.W.nsIn K mainGlobals "_law_digits" = some (some (.ref f_law_digits)))
    (l_law_digits : K.lookup f_law_digits = some ⟨oc_law_digits, od_law_digits, .func (PySem.W.fnOf "_law_digits" "_law_digits" (defArgs s_law_digits) (defBody s_law_digits) (defScope s_law_digits) .none kV_law_digits dc_law_digits pm_law_digits an_law_digits cd_law_digits ct_law_digits), sl_law_digits⟩)
    (c_law_digits : PySem.W.codeIn K cd_law_digits "_law_digits" = true)
    (k_law_digits : PySem.W.keepIn K (.ref f_law_digits) = true)
    (a_law_is : PySem.W.nsIn K mainGlobals "_law_is" = some (some (.ref f_law_is)))
    (l_law_is : K.lookup f_law_is = some ⟨oc_law_is, od_law_is, .func (PySem.W.fnOf "_law_is" "_law_is" (defArgs s_law_is) (defBody s_law_is) (defScope s_law_is) .none kV_law_is dc_law_is pm_law_is an_law_is cd_law_is ct_law_is), sl_law_is⟩)
    (c_law_is : PySem.W.codeIn K cd_law_is "_law_is" = true)
    (k_law_is : PySem.W.keepIn K (.ref f_law_is) = true)
    (a_law_counted : PySem.W.nsIn K mainGlobals "_law_counted" = some (some (.ref f_law_counted)))
    (l_law_counted : K.lookup f_law_counted = some ⟨oc_law_counted, od_law_counted, .func (PySem.W.fnOf "_law_counted" "_law_counted" (defArgs s_law_counted) (defBody s_law_counted) (defScope s_law_counted) .none kV_law_counted dc_law_counted pm_law_counted an_law_counted cd_law_counted ct_law_counted), sl_law_counted⟩)
    (c_law_counted : PySem.W.codeIn K cd_law_counted "_law_counted" = true)
    (k_law_counted : PySem.W.keepIn K (.ref f_law_counted) = true)
    (a_law_right : PySem.W.nsIn K mainGlobals "_law_right" = some (some (.ref f_law_right)))
    (l_law_right : K.lookup f_law_right = some ⟨oc_law_right, od_law_right, .func (PySem.W.fnOf "_law_right" "_law_right" (defArgs s_law_right) (defBody s_law_right) (defScope s_law_right) .none kV_law_right dc_law_right pm_law_right an_law_right cd_law_right ct_law_right), sl_law_right⟩)
    (c_law_right : PySem.W.codeIn K cd_law_right "_law_right" = true)
    (k_law_right : PySem.W.keepIn K (.ref f_law_right) = true)
    (a_law : PySem.W.nsIn K mainGlobals "law" = some (some (.ref f_law)))
    (l_law : K.lookup f_law = some ⟨oc_law, od_law, .func (PySem.W.fnOf "law" "law" (defArgs s_law) (defBody s_law) (defScope s_law) .none kV_law dc_law pm_law an_law cd_law ct_law), sl_law⟩)
    (c_law : PySem.W.codeIn K cd_law "law" = true)
    (k_law : PySem.W.keepIn K (.ref f_law) = true)
    (qeBig : nsFind esNBig "__eq__" = some (.ref f_Big_eq))
    (qnBig : nsFind esNBig "__ne__" = none)
    (qfBig : oc_Big_eq = .type "function")
    (z_abs : PySem.W.nsIn K mainGlobals "abs" = some none)
    (z_bool : PySem.W.nsIn K mainGlobals "bool" = some none)
    (z_dict : PySem.W.nsIn K mainGlobals "dict" = some none)
    (z_enumerate : PySem.W.nsIn K mainGlobals "enumerate" = some none)
    (z_int : PySem.W.nsIn K mainGlobals "int" = some none)
    (z_isinstance : PySem.W.nsIn K mainGlobals "isinstance" = some none)
    (z_len : PySem.W.nsIn K mainGlobals "len" = some none)
    (z_list : PySem.W.nsIn K mainGlobals "list" = some none)
    (z_max : PySem.W.nsIn K mainGlobals "max" = some none)
    (z_range : PySem.W.nsIn K mainGlobals "range" = some none)
    (z_tuple : PySem.W.nsIn K mainGlobals "tuple" = some none)
    : ∃ fd : FuncData, (∀ (s : Shared) (v : Value), BindsTo s fd ⟨[v], []⟩ [("_law_script", v)]) ∧ ∀ base : Heap, K.In base → base.Ns mainGlobals mg → FnOk l.prog w K mg base CX0 7 fa fd ["_law_script"] (sp_law0 K) := by
  have e : f_law = fa := by
    have q := (PySem.W.mg_of X G a_law).symm.trans hfa
    exact Value.ref.inj (Option.some.inj q)
  subst e
  have F_is_integer := fun_mk (st := s_is_integer) l_is_integer c_is_integer k_is_integer
  have b_is_integer := F_is_integer.binds (ps := ["value"]) fun _ _ _ _ _ _ us hl => match us, hl with | [_], _ => rfl
  have F_is_between := fun_mk (st := s_is_between) l_is_between c_is_between k_is_between
  have b_is_between := F_is_between.binds (ps := ["value", "low", "high"]) fun _ _ _ _ _ _ us hl => match us, hl with | [_, _, _], _ => rfl
  have F_check_integer := fun_mk (st := s_check_integer) l_check_integer c_check_integer k_check_integer
  have b_check_integer := F_check_integer.binds (ps := ["argument", "value"]) fun _ _ _ _ _ _ us hl => match us, hl with | [_, _], _ => rfl
  have F_Machine_init : FunD K "__init__" "Machine.__init__" (defArgs s_Machine_init) (defBody s_Machine_init) (defScope s_Machine_init) [(.int 30), (.int 70)] [] f_Machine_init _ := ⟨⟨_, _, _, _, _, _, _, _, _, _, rfl, l_Machine_init, c_Machine_init, .inr ⟨by simp, dT_Machine_init, _, itT_Machine_init.toList, nT_Machine_init, rfl, lT_Machine_init, by simp, vT_Machine_init⟩, .inl rfl⟩, k_Machine_init⟩
  obtain ⟨dsf_Machine_init, vf_Machine_init, b_Machine_init⟩ := F_Machine_init.binds1 (ps := ["self", "bits", "cutoff"]) 3 2 (by simp) (by decide) (fun _ _ _ _ _ _ _ us its h1 h2 => match us, its, h1, h2 with | [_, _, _], [_, _], _, _ => ⟨_, rfl, rfl⟩)
  cases vf_Machine_init
  have F_Machine_tally := fun_mk (st := s_Machine_tally) l_Machine_tally c_Machine_tally k_Machine_tally
  have b_Machine_tally := F_Machine_tally.binds (ps := ["self"]) fun _ _ _ _ _ _ us hl => match us, hl with | [_], _ => rfl
  have F_Machine_walk := fun_mk (st := s_Machine_walk) l_Machine_walk c_Machine_walk k_Machine_walk
  have b_Machine_walk := F_Machine_walk.binds (ps := ["self"]) fun _ _ _ _ _ _ us hl => match us, hl with | [_], _ => rfl
  have F_Machine_reset := fun_mk (st := s_Machine_reset) l_Machine_reset c_Machine_reset k_Machine_reset
  have b_Machine_reset := F_Machine_reset.binds (ps := ["self"]) fun _ _ _ _ _ _ us hl => match us, hl with | [_], _ => rfl
  have F_Machine_count := fun_mk (st := s_Machine_count) l_Machine_count c_Machine_count k_Machine_count
  have b_Machine_count := F_Machine_count.binds (ps := ["self", "word", "number"]) fun _ _ _ _ _ _ us hl => match us, hl with | [_, _, _], _ => rfl
  have F_Machine_enter := fun_mk (st := s_Machine_enter) l_Machine_enter c_Machine_enter k_Machine_enter
  have b_Machine_enter := F_Machine_enter.binds (ps := ["self", "word", "m", "n"]) fun _ _ _ _ _ _ us hl => match us, hl with | [_, _, _, _], _ => rfl
  have F_check_machine := fun_mk (st := s_check_machine) l_check_machine c_check_machine k_check_machine
  have b_check_machine := F_check_machine.binds (ps := ["value"]) fun _ _ _ _ _ _ us hl => match us, hl with | [_], _ => rfl
  have F_Big_init := fun_mk (st := s_Big_init) l_Big_init c_Big_init k_Big_init
  have b_Big_init := F_Big_init.binds (ps := ["self", "width", "side", "row"]) fun _ _ _ _ _ _ us hl => match us, hl with | [_, _, _, _], _ => rfl
  have F_Big_eq := fun_mk (st := s_Big_eq) l_Big_eq c_Big_eq k_Big_eq
  have b_Big_eq := F_Big_eq.binds (ps := ["self", "other"]) fun _ _ _ _ _ _ us hl => match us, hl with | [_, _], _ => rfl
  have F_Big_sign := fun_mk (st := s_Big_sign) l_Big_sign c_Big_sign k_Big_sign
  have b_Big_sign := F_Big_sign.binds (ps := ["self"]) fun _ _ _ _ _ _ us hl => match us, hl with | [_], _ => rfl
  have F_Big_digits := fun_mk (st := s_Big_digits) l_Big_digits c_Big_digits k_Big_digits
  have b_Big_digits := F_Big_digits.binds (ps := ["self"]) fun _ _ _ _ _ _ us hl => match us, hl with | [_], _ => rfl
  have F_Big_bits := fun_mk (st := s_Big_bits) l_Big_bits c_Big_bits k_Big_bits
  have b_Big_bits := F_Big_bits.binds (ps := ["self"]) fun _ _ _ _ _ _ us hl => match us, hl with | [_], _ => rfl
  have F_made := fun_mk (st := s_made) l_made c_made k_made
  have b_made := F_made.binds (ps := ["machine", "side", "digits"]) fun _ _ _ _ _ _ us hl => match us, hl with | [_, _, _], _ => rfl
  have F_digits_of := fun_mk (st := s_digits_of) l_digits_of c_digits_of k_digits_of
  have b_digits_of := F_digits_of.binds (ps := ["machine", "n"]) fun _ _ _ _ _ _ us hl => match us, hl with | [_, _], _ => rfl
  have F_big_of := fun_mk (st := s_big_of) l_big_of c_big_of k_big_of
  have b_big_of := F_big_of.binds (ps := ["machine", "n"]) fun _ _ _ _ _ _ us hl => match us, hl with | [_, _], _ => rfl
  have F_value_of := fun_mk (st := s_value_of) l_value_of c_value_of k_value_of
  have b_value_of := F_value_of.binds (ps := ["x"]) fun _ _ _ _ _ _ us hl => match us, hl with | [_], _ => rfl
  have F_check_big := fun_mk (st := s_check_big) l_check_big c_check_big k_check_big
  have b_check_big := F_check_big.binds (ps := ["machine", "argument", "value"]) fun _ _ _ _ _ _ us hl => match us, hl with | [_, _, _], _ => rfl
  have F_check_bigs := fun_mk (st := s_check_bigs) l_check_bigs c_check_bigs k_check_bigs
  have b_check_bigs := F_check_bigs.binds (ps := ["machine", "x", "y"]) fun _ _ _ _ _ _ us hl => match us, hl with | [_, _, _], _ => rfl
  have F_check_any := fun_mk (st := s_check_any) l_check_any c_check_any k_check_any
  have b_check_any := F_check_any.binds (ps := ["value"]) fun _ _ _ _ _ _ us hl => match us, hl with | [_], _ => rfl
  have F_big := fun_mk (st := s_big) l_big c_big k_big
  have b_big := F_big.binds (ps := ["machine", "n"]) fun _ _ _ _ _ _ us hl => match us, hl with | [_, _], _ => rfl
  have F_plain := fun_mk (st := s_plain) l_plain c_plain k_plain
  have b_plain := F_plain.binds (ps := ["x"]) fun _ _ _ _ _ _ us hl => match us, hl with | [_], _ => rfl
  have F_rows_of := fun_mk (st := s_rows_of) l_rows_of c_rows_of k_rows_of
  have b_rows_of := F_rows_of.binds (ps := ["machine", "a", "b"]) fun _ _ _ _ _ _ us hl => match us, hl with | [_, _, _], _ => rfl
  have F_square_rows_of := fun_mk (st := s_square_rows_of) l_square_rows_of c_square_rows_of k_square_rows_of
  have b_square_rows_of := F_square_rows_of.binds (ps := ["machine", "a"]) fun _ _ _ _ _ _ us hl => match us, hl with | [_, _], _ => rfl
  have F_multiply_by_rows := fun_mk (st := s_multiply_by_rows) l_multiply_by_rows c_multiply_by_rows k_multiply_by_rows
  have b_multiply_by_rows := F_multiply_by_rows.binds (ps := ["machine", "x", "y"]) fun _ _ _ _ _ _ us hl => match us, hl with | [_, _, _], _ => rfl
  have F_square_by_rows := fun_mk (st := s_square_by_rows) l_square_by_rows c_square_by_rows k_square_by_rows
  have b_square_by_rows := F_square_by_rows.binds (ps := ["machine", "x"]) fun _ _ _ _ _ _ us hl => match us, hl with | [_, _], _ => rfl
  have F_law_purse := fun_mk (st := s_law_purse) l_law_purse c_law_purse k_law_purse
  have b_law_purse := F_law_purse.binds (ps := ["_law_cell"]) fun _ _ _ _ _ _ us hl => match us, hl with | [_], _ => rfl
  have F_law_coin := fun_mk (st := s_law_coin) l_law_coin c_law_coin k_law_coin
  have b_law_coin := F_law_coin.binds (ps := ["_law_purse_here", "_law_amount"]) fun _ _ _ _ _ _ us hl => match us, hl with | [_, _], _ => rfl
  have F_law_pick := fun_mk (st := s_law_pick) l_law_pick c_law_pick k_law_pick
  have b_law_pick := F_law_pick.binds (ps := ["_law_purse_here", "_law_some"]) fun _ _ _ _ _ _ us hl => match us, hl with | [_, _], _ => rfl
  have F_law_row := fun_mk (st := s_law_row) l_law_row c_law_row k_law_row
  have b_law_row := F_law_row.binds (ps := ["_law_purse_here", "_law_bits", "_law_size"]) fun _ _ _ _ _ _ us hl => match us, hl with | [_, _, _], _ => rfl
  have F_law_worth := fun_mk (st := s_law_worth) l_law_worth c_law_worth k_law_worth
  have b_law_worth := F_law_worth.binds (ps := ["_law_bits", "_law_row_here"]) fun _ _ _ _ _ _ us hl => match us, hl with | [_, _], _ => rfl
  have F_law_digits := fun_mk (st := s_law_digits) l_law_digits c_law_digits k_law_digits
  have b_law_digits := F_law_digits.binds (ps := ["_law_bits", "_law_n"]) fun _ _ _ _ _ _ us hl => match us, hl with | [_, _], _ => rfl
  have F_law_is := fun_mk (st := s_law_is) l_law_is c_law_is k_law_is
  have b_law_is := F_law_is.binds (ps := ["_law_held", "_law_bits", "_law_n"]) fun _ _ _ _ _ _ us hl => match us, hl with | [_, _, _], _ => rfl
  have F_law_counted := fun_mk (st := s_law_counted) l_law_counted c_law_counted k_law_counted
  have b_law_counted := F_law_counted.binds (ps := ["_law_engine"]) fun _ _ _ _ _ _ us hl => match us, hl with | [_], _ => rfl
  have F_law_right := fun_mk (st := s_law_right) l_law_right c_law_right k_law_right
  have b_law_right := F_law_right.binds (ps := ["_law_purse_here"]) fun _ _ _ _ _ _ us hl => match us, hl with | [_], _ => rfl
  have F_law := fun_mk (st := s_law) l_law c_law k_law
  have b_law := F_law.binds (ps := ["_law_script"]) fun _ _ _ _ _ _ us hl => match us, hl with | [_], _ => rfl
  have kb_multiply_by_rows_y_x_machine : KB0 K _ ["machine", "x", "y"] ["y", "x", "machine"] (permV [2, 1, 0]) (perm [2, 1, 0]) := kb_of F_multiply_by_rows fun _ _ _ _ _ _ ws hl => match ws, hl with | [_, _, _], _ => rfl
  have kb_square_by_rows_x_machine : KB0 K _ ["machine", "x"] ["x", "machine"] (permV [1, 0]) (perm [1, 0]) := kb_of F_square_by_rows fun _ _ _ _ _ _ ws hl => match ws, hl with | [_, _], _ => rfl
  let c : Pc := ⟨CMachine, CBig, 0, aWORDS, 0⟩
  let a : Ad := ⟨c, f_is_integer, (PySem.W.fnOf "is_integer" "is_integer" (defArgs s_is_integer) (defBody s_is_integer) (defScope s_is_integer) .none kV_is_integer dc_is_integer pm_is_integer an_is_integer cd_is_integer ct_is_integer), f_is_between, (PySem.W.fnOf "is_between" "is_between" (defArgs s_is_between) (defBody s_is_between) (defScope s_is_between) .none kV_is_between dc_is_between pm_is_between an_is_between cd_is_between ct_is_between), f_check_integer, (PySem.W.fnOf "check_integer" "check_integer" (defArgs s_check_integer) (defBody s_check_integer) (defScope s_check_integer) .none kV_check_integer dc_check_integer pm_check_integer an_check_integer cd_check_integer ct_check_integer), f_Machine_init, (PySem.W.fnOf "__init__" "Machine.__init__" (defArgs s_Machine_init) (defBody s_Machine_init) (defScope s_Machine_init) (.ref dT_Machine_init) kV_Machine_init dc_Machine_init pm_Machine_init an_Machine_init cd_Machine_init ct_Machine_init), f_Machine_tally, (PySem.W.fnOf "tally" "Machine.tally" (defArgs s_Machine_tally) (defBody s_Machine_tally) (defScope s_Machine_tally) .none kV_Machine_tally dc_Machine_tally pm_Machine_tally an_Machine_tally cd_Machine_tally ct_Machine_tally), f_Machine_walk, (PySem.W.fnOf "walk" "Machine.walk" (defArgs s_Machine_walk) (defBody s_Machine_walk) (defScope s_Machine_walk) .none kV_Machine_walk dc_Machine_walk pm_Machine_walk an_Machine_walk cd_Machine_walk ct_Machine_walk), f_Machine_reset, (PySem.W.fnOf "reset" "Machine.reset" (defArgs s_Machine_reset) (defBody s_Machine_reset) (defScope s_Machine_reset) .none kV_Machine_reset dc_Machine_reset pm_Machine_reset an_Machine_reset cd_Machine_reset ct_Machine_reset), f_Machine_count, (PySem.W.fnOf "count" "Machine.count" (defArgs s_Machine_count) (defBody s_Machine_count) (defScope s_Machine_count) .none kV_Machine_count dc_Machine_count pm_Machine_count an_Machine_count cd_Machine_count ct_Machine_count), f_Machine_enter, (PySem.W.fnOf "enter" "Machine.enter" (defArgs s_Machine_enter) (defBody s_Machine_enter) (defScope s_Machine_enter) .none kV_Machine_enter dc_Machine_enter pm_Machine_enter an_Machine_enter cd_Machine_enter ct_Machine_enter), f_check_machine, (PySem.W.fnOf "check_machine" "check_machine" (defArgs s_check_machine) (defBody s_check_machine) (defScope s_check_machine) .none kV_check_machine dc_check_machine pm_check_machine an_check_machine cd_check_machine ct_check_machine), f_Big_init, (PySem.W.fnOf "__init__" "Big.__init__" (defArgs s_Big_init) (defBody s_Big_init) (defScope s_Big_init) .none kV_Big_init dc_Big_init pm_Big_init an_Big_init cd_Big_init ct_Big_init), f_Big_eq, (PySem.W.fnOf "__eq__" "Big.__eq__" (defArgs s_Big_eq) (defBody s_Big_eq) (defScope s_Big_eq) .none kV_Big_eq dc_Big_eq pm_Big_eq an_Big_eq cd_Big_eq ct_Big_eq), f_Big_sign, (PySem.W.fnOf "sign" "Big.sign" (defArgs s_Big_sign) (defBody s_Big_sign) (defScope s_Big_sign) .none kV_Big_sign dc_Big_sign pm_Big_sign an_Big_sign cd_Big_sign ct_Big_sign), f_Big_digits, (PySem.W.fnOf "digits" "Big.digits" (defArgs s_Big_digits) (defBody s_Big_digits) (defScope s_Big_digits) .none kV_Big_digits dc_Big_digits pm_Big_digits an_Big_digits cd_Big_digits ct_Big_digits), f_Big_bits, (PySem.W.fnOf "bits" "Big.bits" (defArgs s_Big_bits) (defBody s_Big_bits) (defScope s_Big_bits) .none kV_Big_bits dc_Big_bits pm_Big_bits an_Big_bits cd_Big_bits ct_Big_bits), f_made, (PySem.W.fnOf "made" "made" (defArgs s_made) (defBody s_made) (defScope s_made) .none kV_made dc_made pm_made an_made cd_made ct_made), f_digits_of, (PySem.W.fnOf "digits_of" "digits_of" (defArgs s_digits_of) (defBody s_digits_of) (defScope s_digits_of) .none kV_digits_of dc_digits_of pm_digits_of an_digits_of cd_digits_of ct_digits_of), f_big_of, (PySem.W.fnOf "big_of" "big_of" (defArgs s_big_of) (defBody s_big_of) (defScope s_big_of) .none kV_big_of dc_big_of pm_big_of an_big_of cd_big_of ct_big_of), f_value_of, (PySem.W.fnOf "value_of" "value_of" (defArgs s_value_of) (defBody s_value_of) (defScope s_value_of) .none kV_value_of dc_value_of pm_value_of an_value_of cd_value_of ct_value_of), f_check_big, (PySem.W.fnOf "check_big" "check_big" (defArgs s_check_big) (defBody s_check_big) (defScope s_check_big) .none kV_check_big dc_check_big pm_check_big an_check_big cd_check_big ct_check_big), f_check_bigs, (PySem.W.fnOf "check_bigs" "check_bigs" (defArgs s_check_bigs) (defBody s_check_bigs) (defScope s_check_bigs) .none kV_check_bigs dc_check_bigs pm_check_bigs an_check_bigs cd_check_bigs ct_check_bigs), f_check_any, (PySem.W.fnOf "check_any" "check_any" (defArgs s_check_any) (defBody s_check_any) (defScope s_check_any) .none kV_check_any dc_check_any pm_check_any an_check_any cd_check_any ct_check_any), f_big, (PySem.W.fnOf "big" "big" (defArgs s_big) (defBody s_big) (defScope s_big) .none kV_big dc_big pm_big an_big cd_big ct_big), f_plain, (PySem.W.fnOf "plain" "plain" (defArgs s_plain) (defBody s_plain) (defScope s_plain) .none kV_plain dc_plain pm_plain an_plain cd_plain ct_plain), f_rows_of, (PySem.W.fnOf "rows_of" "rows_of" (defArgs s_rows_of) (defBody s_rows_of) (defScope s_rows_of) .none kV_rows_of dc_rows_of pm_rows_of an_rows_of cd_rows_of ct_rows_of), f_square_rows_of, (PySem.W.fnOf "square_rows_of" "square_rows_of" (defArgs s_square_rows_of) (defBody s_square_rows_of) (defScope s_square_rows_of) .none kV_square_rows_of dc_square_rows_of pm_square_rows_of an_square_rows_of cd_square_rows_of ct_square_rows_of), f_multiply_by_rows, (PySem.W.fnOf "multiply_by_rows" "multiply_by_rows" (defArgs s_multiply_by_rows) (defBody s_multiply_by_rows) (defScope s_multiply_by_rows) .none kV_multiply_by_rows dc_multiply_by_rows pm_multiply_by_rows an_multiply_by_rows cd_multiply_by_rows ct_multiply_by_rows), f_square_by_rows, (PySem.W.fnOf "square_by_rows" "square_by_rows" (defArgs s_square_by_rows) (defBody s_square_by_rows) (defScope s_square_by_rows) .none kV_square_by_rows dc_square_by_rows pm_square_by_rows an_square_by_rows cd_square_by_rows ct_square_by_rows), f_law_purse, (PySem.W.fnOf "_law_purse" "_law_purse" (defArgs s_law_purse) (defBody s_law_purse) (defScope s_law_purse) .none kV_law_purse dc_law_purse pm_law_purse an_law_purse cd_law_purse ct_law_purse), f_law_coin, (PySem.W.fnOf "_law_coin" "_law_coin" (defArgs s_law_coin) (defBody s_law_coin) (defScope s_law_coin) .none kV_law_coin dc_law_coin pm_law_coin an_law_coin cd_law_coin ct_law_coin), f_law_pick, (PySem.W.fnOf "_law_pick" "_law_pick" (defArgs s_law_pick) (defBody s_law_pick) (defScope s_law_pick) .none kV_law_pick dc_law_pick pm_law_pick an_law_pick cd_law_pick ct_law_pick), f_law_row, (PySem.W.fnOf "_law_row" "_law_row" (defArgs s_law_row) (defBody s_law_row) (defScope s_law_row) .none kV_law_row dc_law_row pm_law_row an_law_row cd_law_row ct_law_row), f_law_worth, (PySem.W.fnOf "_law_worth" "_law_worth" (defArgs s_law_worth) (defBody s_law_worth) (defScope s_law_worth) .none kV_law_worth dc_law_worth pm_law_worth an_law_worth cd_law_worth ct_law_worth), f_law_digits, (PySem.W.fnOf "_law_digits" "_law_digits" (defArgs s_law_digits) (defBody s_law_digits) (defScope s_law_digits) .none kV_law_digits dc_law_digits pm_law_digits an_law_digits cd_law_digits ct_law_digits), f_law_is, (PySem.W.fnOf "_law_is" "_law_is" (defArgs s_law_is) (defBody s_law_is) (defScope s_law_is) .none kV_law_is dc_law_is pm_law_is an_law_is cd_law_is ct_law_is), f_law_counted, (PySem.W.fnOf "_law_counted" "_law_counted" (defArgs s_law_counted) (defBody s_law_counted) (defScope s_law_counted) .none kV_law_counted dc_law_counted pm_law_counted an_law_counted cd_law_counted ct_law_counted), f_law_right, (PySem.W.fnOf "_law_right" "_law_right" (defArgs s_law_right) (defBody s_law_right) (defScope s_law_right) .none kV_law_right dc_law_right pm_law_right an_law_right cd_law_right ct_law_right), f_law, (PySem.W.fnOf "law" "law" (defArgs s_law) (defBody s_law) (defScope s_law) .none kV_law dc_law pm_law an_law cd_law ct_law)⟩
  have cl_Machine : Cls K CMachine := ⟨pgMachine, hdMachine, poMachine, saMachine⟩
  have ic_Machine : C8.InsC K CMachine := ⟨cl_Machine, haMachine, hsp, htk, hmMachine, kit_self K CMachine⟩
  have cl_Big : Cls K CBig := ⟨pgBig, hdBig, poBig, saBig⟩
  have ic_Big : C8.InsC K CBig := ⟨cl_Big, haBig, hsp, htk, hmBig, kit_self K CBig⟩
  have pm : Eng.PM K c := ⟨ic_Machine, nfMachine_entered, nfMachine_counts, nfMachine_base, nfMachine_limit_of_rows, nfMachine_width, fun H => .inr ⟨_, itW, nW, l_WORDS, rfl, rfl, z_WORDS, v_WORDS⟩⟩
  have pb : Eng.PB K c := ⟨ic_Big, nfBig_row, nfBig_side, nfBig_width⟩
  have T : Txt K mg a := {
      PM := pm,
      PB := pb,
      g_Machine := PySem.W.mg_of X G aMachine,
      cl_Machine := cl_Machine,
      mk_Machine := ⟨mkMachine, a_Machine_init, i_Machine_init, kcMachine⟩,
      g_Big := PySem.W.mg_of X G aBig,
      cl_Big := cl_Big,
      mk_Big := ⟨mkBig, a_Big_init, i_Big_init, kcBig⟩,
      ne_Big := ⟨⟨_, _, _, _, _, _, _, _, _, _, _, _, _, _, _, _, _, _, _, lcBig, lNBig, rfl, strKeys_of skBig, qeBig, qnBig⟩, ⟨_, l_Big_eq, qfBig⟩⟩,
      g_LEAST_BITS := ⟨_, PySem.W.mg_of X G g_LEAST_BITS, ⟨_, rfl⟩⟩,
      g_MOST_BITS := ⟨_, PySem.W.mg_of X G g_MOST_BITS, ⟨_, rfl⟩⟩,
      g_MOST_CUTOFF := ⟨_, PySem.W.mg_of X G g_MOST_CUTOFF, ⟨_, rfl⟩⟩,
      g_MOST_WALK := ⟨_, PySem.W.mg_of X G g_MOST_WALK, ⟨_, rfl⟩⟩,
      g_WORDS := PySem.W.mg_of X G g_WORDS,
      F_is_integer := F_is_integer,
      m_is_integer := PySem.W.mg_of X G a_is_integer,
      b_is_integer := b_is_integer,
      F_is_between := F_is_between,
      m_is_between := PySem.W.mg_of X G a_is_between,
      b_is_between := b_is_between,
      F_check_integer := F_check_integer,
      m_check_integer := PySem.W.mg_of X G a_check_integer,
      b_check_integer := b_check_integer,
      F_Machine_init := F_Machine_init,
      b_Machine_init := b_Machine_init,
      F_Machine_tally := F_Machine_tally,
      me_Machine_tally := ⟨a_Machine_tally, i_Machine_tally, k_Machine_tally⟩,
      b_Machine_tally := b_Machine_tally,
      F_Machine_walk := F_Machine_walk,
      me_Machine_walk := ⟨a_Machine_walk, i_Machine_walk, k_Machine_walk⟩,
      b_Machine_walk := b_Machine_walk,
      F_Machine_reset := F_Machine_reset,
      me_Machine_reset := ⟨a_Machine_reset, i_Machine_reset, k_Machine_reset⟩,
      b_Machine_reset := b_Machine_reset,
      F_Machine_count := F_Machine_count,
      me_Machine_count := ⟨a_Machine_count, i_Machine_count, k_Machine_count⟩,
      b_Machine_count := b_Machine_count,
      F_Machine_enter := F_Machine_enter,
      me_Machine_enter := ⟨a_Machine_enter, i_Machine_enter, k_Machine_enter⟩,
      b_Machine_enter := b_Machine_enter,
      F_check_machine := F_check_machine,
      m_check_machine := PySem.W.mg_of X G a_check_machine,
      b_check_machine := b_check_machine,
      F_Big_init := F_Big_init,
      b_Big_init := b_Big_init,
      F_Big_eq := F_Big_eq,
      me_Big_eq := ⟨a_Big_eq, i_Big_eq, k_Big_eq⟩,
      b_Big_eq := b_Big_eq,
      F_Big_sign := F_Big_sign,
      me_Big_sign := ⟨a_Big_sign, i_Big_sign, k_Big_sign⟩,
      b_Big_sign := b_Big_sign,
      F_Big_digits := F_Big_digits,
      me_Big_digits := ⟨a_Big_digits, i_Big_digits, k_Big_digits⟩,
      b_Big_digits := b_Big_digits,
      F_Big_bits := F_Big_bits,
      me_Big_bits := ⟨a_Big_bits, i_Big_bits, k_Big_bits⟩,
      b_Big_bits := b_Big_bits,
      F_made := F_made,
      m_made := PySem.W.mg_of X G a_made,
      b_made := b_made,
      F_digits_of := F_digits_of,
      m_digits_of := PySem.W.mg_of X G a_digits_of,
      b_digits_of := b_digits_of,
      F_big_of := F_big_of,
      m_big_of := PySem.W.mg_of X G a_big_of,
      b_big_of := b_big_of,
      F_value_of := F_value_of,
      m_value_of := PySem.W.mg_of X G a_value_of,
      b_value_of := b_value_of,
      F_check_big := F_check_big,
      m_check_big := PySem.W.mg_of X G a_check_big,
      b_check_big := b_check_big,
      F_check_bigs := F_check_bigs,
      m_check_bigs := PySem.W.mg_of X G a_check_bigs,
      b_check_bigs := b_check_bigs,
      F_check_any := F_check_any,
      m_check_any := PySem.W.mg_of X G a_check_any,
      b_check_any := b_check_any,
      F_big := F_big,
      m_big := PySem.W.mg_of X G a_big,
      b_big := b_big,
      F_plain := F_plain,
      m_plain := PySem.W.mg_of X G a_plain,
      b_plain := b_plain,
      F_rows_of := F_rows_of,
      m_rows_of := PySem.W.mg_of X G a_rows_of,
      b_rows_of := b_rows_of,
      F_square_rows_of := F_square_rows_of,
      m_square_rows_of := PySem.W.mg_of X G a_square_rows_of,
      b_square_rows_of := b_square_rows_of,
      F_multiply_by_rows := F_multiply_by_rows,
      m_multiply_by_rows := PySem.W.mg_of X G a_multiply_by_rows,
      b_multiply_by_rows := b_multiply_by_rows,
      F_square_by_rows := F_square_by_rows,
      m_square_by_rows := PySem.W.mg_of X G a_square_by_rows,
      b_square_by_rows := b_square_by_rows,
      F_law_purse := F_law_purse,
      m_law_purse := PySem.W.mg_of X G a_law_purse,
      b_law_purse := b_law_purse,
      F_law_coin := F_law_coin,
      m_law_coin := PySem.W.mg_of X G a_law_coin,
      b_law_coin := b_law_coin,
      F_law_pick := F_law_pick,
      m_law_pick := PySem.W.mg_of X G a_law_pick,
      b_law_pick := b_law_pick,
      F_law_row := F_law_row,
      m_law_row := PySem.W.mg_of X G a_law_row,
      b_law_row := b_law_row,
      F_law_worth := F_law_worth,
      m_law_worth := PySem.W.mg_of X G a_law_worth,
      b_law_worth := b_law_worth,
      F_law_digits := F_law_digits,
      m_law_digits := PySem.W.mg_of X G a_law_digits,
      b_law_digits := b_law_digits,
      F_law_is := F_law_is,
      m_law_is := PySem.W.mg_of X G a_law_is,
      b_law_is := b_law_is,
      F_law_counted := F_law_counted,
      m_law_counted := PySem.W.mg_of X G a_law_counted,
      b_law_counted := b_law_counted,
      F_law_right := F_law_right,
      m_law_right := PySem.W.mg_of X G a_law_right,
      b_law_right := b_law_right,
      F_law := F_law,
      m_law := PySem.W.mg_of X G a_law,
      b_law := b_law,
      kb_multiply_by_rows_y_x_machine := kb_multiply_by_rows_y_x_machine,
      kb_square_by_rows_x_machine := kb_square_by_rows_x_machine,
      n_abs := PySem.W.mg_none_of X G z_abs,
      n_bool := PySem.W.mg_none_of X G z_bool,
      n_dict := PySem.W.mg_none_of X G z_dict,
      n_enumerate := PySem.W.mg_none_of X G z_enumerate,
      n_int := PySem.W.mg_none_of X G z_int,
      n_isinstance := PySem.W.mg_none_of X G z_isinstance,
      n_len := PySem.W.mg_none_of X G z_len,
      n_list := PySem.W.mg_none_of X G z_list,
      n_max := PySem.W.mg_none_of X G z_max,
      n_range := PySem.W.mg_none_of X G z_range,
      n_tuple := PySem.W.mg_none_of X G z_tuple }
  exact ⟨_, fun s v => .of_eq rfl, fun base _ _ => ok_law (a := a) T⟩
theorem walk {l : PySem.W.OpenLaw} {q : Program} {loose : List Str} {XP : (Str → Option Value) → Heap → Prop} {YP : World → Heap → Prop} {d : DefRec} {K : Params → PySem.W.Frag} (hn : l.most = some 63) (hdf : d.params.defaults = [])
    (hY : ∀ (w : World) (h : Heap), YP w h → (K w.params).In h)
    (F : ∀ (w : World) (mg : Str → Option Value) (fa : Addr) (h : Heap), (K w.params).In h → h.Ns mainGlobals mg → mg d.name = some (.ref fa) →
      ∃ fd : FuncData, (∀ (s : Shared) (u : Value), BindsTo s fd ⟨[u], []⟩ [("_law_script", u)]) ∧ ∀ base : Heap, (K w.params).In base → base.Ns mainGlobals mg → FnOk l.prog w (K w.params) mg base CX0 7 fa fd ["_law_script"] (sp_law0 (K w.params))) :
    PySem.W.WalkO q loose XP YP l.row.toRowW d [] (fun f vs => PySem.call f vs) :=
  L2.walk_of (n := 63) (k := 7) (x := "_law_script") (CX := fun _ => CX0) (sp := fun w => sp_law0 (K w.params)) hn (by decide) hdf ⟨rfl, by decide, by decide⟩ hY F (fun _ _ a ns hl _ hS => ⟨a, ns, rfl, hS, hl, fun _ => rfl⟩) fun _ _ _ _ _ z => z
end Law
open PySem PySem.W PyProof.Rows
set_option maxRecDepth 100000 in
set_option maxHeartbeats 0 in
theorem PySem.Challenge.cw_thirtybits_k13_products_by_rows_holds : PySem.Challenge.rw_thirtybits_k13_products_by_rows.Holds := by
  w_on; o_law; k_head; (case hw => w_witness2)
  k_fill
  refine Law.walk (l := PySem.Challenge.rw_thirtybits_k13_products_by_rows) rfl rfl (fun w h Y => PySem.W.kIn_of Y) ?F
  case F =>
    intro w mg fa h KX G hmg
    refine' Law.all_mk KX G hmg ?aMachine ?pgMachine ?hdMachine ?poMachine ?saMachine ?mkMachine ?kcMachine ?haMachine ?hmMachine ?nfMachine_entered ?nfMachine_counts ?nfMachine_base ?nfMachine_limit_of_rows ?nfMachine_width ?aBig ?pgBig ?hdBig ?poBig ?saBig ?mkBig ?kcBig ?haBig ?hmBig ?lcBig ?lNBig ?skBig ?nfBig_row ?nfBig_side ?nfBig_width ?hsp ?htk ?g_LEAST_BITS ?g_MOST_BITS ?g_MOST_CUTOFF ?g_MOST_WALK ?g_WORDS ?l_WORDS ?z_WORDS ?v_WORDS ?a_is_integer ?l_is_integer ?c_is_integer ?k_is_integer ?a_is_between ?l_is_between ?c_is_between ?k_is_between ?a_check_integer ?l_check_integer ?c_check_integer ?k_check_integer ?a_Machine_init ?i_Machine_init ?l_Machine_init ?c_Machine_init ?k_Machine_init ?lT_Machine_init ?vT_Machine_init ?a_Machine_tally ?i_Machine_tally ?l_Machine_tally ?c_Machine_tally ?k_Machine_tally ?a_Machine_walk ?i_Machine_walk ?l_Machine_walk ?c_Machine_walk ?k_Machine_walk ?a_Machine_reset ?i_Machine_reset ?l_Machine_reset ?c_Machine_reset ?k_Machine_reset ?a_Machine_count ?i_Machine_count ?l_Machine_count ?c_Machine_count ?k_Machine_count ?a_Machine_enter ?i_Machine_enter ?l_Machine_enter ?c_Machine_enter ?k_Machine_enter ?a_check_machine ?l_check_machine ?c_check_machine ?k_check_machine ?a_Big_init ?i_Big_init ?l_Big_init ?c_Big_init ?k_Big_init ?a_Big_eq ?i_Big_eq ?l_Big_eq ?c_Big_eq ?k_Big_eq ?a_Big_sign ?i_Big_sign ?l_Big_sign ?c_Big_sign ?k_Big_sign ?a_Big_digits ?i_Big_digits ?l_Big_digits ?c_Big_digits ?k_Big_digits ?a_Big_bits ?i_Big_bits ?l_Big_bits ?c_Big_bits ?k_Big_bits ?a_made ?l_made ?c_made ?k_made ?a_digits_of ?l_digits_of ?c_digits_of ?k_digits_of ?a_big_of ?l_big_of ?c_big_of ?k_big_of ?a_value_of ?l_value_of ?c_value_of ?k_value_of ?a_check_big ?l_check_big ?c_check_big ?k_check_big ?a_check_bigs ?l_check_bigs ?c_check_bigs ?k_check_bigs ?a_check_any ?l_check_any ?c_check_any ?k_check_any ?a_big ?l_big ?c_big ?k_big ?a_plain ?l_plain ?c_plain ?k_plain ?a_rows_of ?l_rows_of ?c_rows_of ?k_rows_of ?a_square_rows_of ?l_square_rows_of ?c_square_rows_of ?k_square_rows_of ?a_multiply_by_rows ?l_multiply_by_rows ?c_multiply_by_rows ?k_multiply_by_rows ?a_square_by_rows ?l_square_by_rows ?c_square_by_rows ?k_square_by_rows ?a_law_purse ?l_law_purse ?c_law_purse ?k_law_purse ?a_law_coin ?l_law_coin ?c_law_coin ?k_law_coin ?a_law_pick ?l_law_pick ?c_law_pick ?k_law_pick ?a_law_row ?l_law_row ?c_law_row ?k_law_row ?a_law_worth ?l_law_worth ?c_law_worth ?k_law_worth ?a_law_digits ?l_law_digits ?c_law_digits ?k_law_digits ?a_law_is ?l_law_is ?c_law_is ?k_law_is ?a_law_counted ?l_law_counted ?c_law_counted ?k_law_counted ?a_law_right ?l_law_right ?c_law_right ?k_law_right ?a_law ?l_law ?c_law ?k_law ?qeBig ?qnBig ?qfBig ?z_abs ?z_bool ?z_dict ?z_enumerate ?z_int ?z_isinstance ?z_len ?z_list ?z_max ?z_range ?z_tuple
    (case aMachine => k_is)
    (case pgMachine => k_is)
    (case hdMachine => k_is)
    (case poMachine => k_is)
    (case saMachine => k_is)
    (case mkMachine => k_is)
    (case kcMachine => k_is)
    (case haMachine => k_is)
    (case hmMachine => k_is)
    (case nfMachine_entered => k_is)
    (case nfMachine_counts => k_is)
    (case nfMachine_base => k_is)
    (case nfMachine_limit_of_rows => k_is)
    (case nfMachine_width => k_is)
    (case aBig => k_is)
    (case pgBig => k_is)
    (case hdBig => k_is)
    (case poBig => k_is)
    (case saBig => k_is)
    (case mkBig => k_is)
    (case kcBig => k_is)
    (case haBig => k_is)
    (case hmBig => k_is)
    (case lcBig => k_is)
    (case lNBig => k_is)
    (case skBig => exact rfl)
    (case nfBig_row => k_is)
    (case nfBig_side => k_is)
    (case nfBig_width => k_is)
    (case hsp => k_is)
    (case htk => k_is)
    (case g_LEAST_BITS => k_is)
    (case g_MOST_BITS => k_is)
    (case g_MOST_CUTOFF => k_is)
    (case g_MOST_WALK => k_is)
    (case g_WORDS => k_is)
    (case l_WORDS => k_is)
    (case z_WORDS => decide)
    (case v_WORDS => exact .cons ⟨_, rfl⟩ (.cons ⟨_, rfl⟩ (.cons ⟨_, rfl⟩ (.cons ⟨_, rfl⟩ (.cons ⟨_, rfl⟩ (.cons ⟨_, rfl⟩ (.cons ⟨_, rfl⟩ (.cons ⟨_, rfl⟩ (.cons ⟨_, rfl⟩ (.cons ⟨_, rfl⟩ .nil))))))))))
    (case a_is_integer => k_is)
    (case l_is_integer => k_is)
    (case c_is_integer => k_is)
    (case k_is_integer => k_is)
    (case a_is_between => k_is)
    (case l_is_between => k_is)
    (case c_is_between => k_is)
    (case k_is_between => k_is)
    (case a_check_integer => k_is)
    (case l_check_integer => k_is)
    (case c_check_integer => k_is)
    (case k_check_integer => k_is)
    (case a_Machine_init => k_is)
    (case i_Machine_init => k_is)
    (case l_Machine_init => k_is)
    (case c_Machine_init => k_is)
    (case k_Machine_init => k_is)
    (case lT_Machine_init => k_is)
    (case vT_Machine_init => exact (.cons ⟨_, rfl⟩ (.cons ⟨_, rfl⟩ .nil)))
    (case a_Machine_tally => k_is)
    (case i_Machine_tally => k_is)
    (case l_Machine_tally => k_is)
    (case c_Machine_tally => k_is)
    (case k_Machine_tally => k_is)
    (case a_Machine_walk => k_is)
    (case i_Machine_walk => k_is)
    (case l_Machine_walk => k_is)
    (case c_Machine_walk => k_is)
    (case k_Machine_walk => k_is)
    (case a_Machine_reset => k_is)
    (case i_Machine_reset => k_is)
    (case l_Machine_reset => k_is)
    (case c_Machine_reset => k_is)
    (case k_Machine_reset => k_is)
    (case a_Machine_count => k_is)
    (case i_Machine_count => k_is)
    (case l_Machine_count => k_is)
    (case c_Machine_count => k_is)
    (case k_Machine_count => k_is)
    (case a_Machine_enter => k_is)
    (case i_Machine_enter => k_is)
    (case l_Machine_enter => k_is)
    (case c_Machine_enter => k_is)
    (case k_Machine_enter => k_is)
    (case a_check_machine => k_is)
    (case l_check_machine => k_is)
    (case c_check_machine => k_is)
    (case k_check_machine => k_is)
    (case a_Big_init => k_is)
    (case i_Big_init => k_is)
    (case l_Big_init => k_is)
    (case c_Big_init => k_is)
    (case k_Big_init => k_is)
    (case a_Big_eq => k_is)
    (case i_Big_eq => k_is)
    (case l_Big_eq => k_is)
    (case c_Big_eq => k_is)
    (case k_Big_eq => k_is)
    (case a_Big_sign => k_is)
    (case i_Big_sign => k_is)
    (case l_Big_sign => k_is)
    (case c_Big_sign => k_is)
    (case k_Big_sign => k_is)
    (case a_Big_digits => k_is)
    (case i_Big_digits => k_is)
    (case l_Big_digits => k_is)
    (case c_Big_digits => k_is)
    (case k_Big_digits => k_is)
    (case a_Big_bits => k_is)
    (case i_Big_bits => k_is)
    (case l_Big_bits => k_is)
    (case c_Big_bits => k_is)
    (case k_Big_bits => k_is)
    (case a_made => k_is)
    (case l_made => k_is)
    (case c_made => k_is)
    (case k_made => k_is)
    (case a_digits_of => k_is)
    (case l_digits_of => k_is)
    (case c_digits_of => k_is)
    (case k_digits_of => k_is)
    (case a_big_of => k_is)
    (case l_big_of => k_is)
    (case c_big_of => k_is)
    (case k_big_of => k_is)
    (case a_value_of => k_is)
    (case l_value_of => k_is)
    (case c_value_of => k_is)
    (case k_value_of => k_is)
    (case a_check_big => k_is)
    (case l_check_big => k_is)
    (case c_check_big => k_is)
    (case k_check_big => k_is)
    (case a_check_bigs => k_is)
    (case l_check_bigs => k_is)
    (case c_check_bigs => k_is)
    (case k_check_bigs => k_is)
    (case a_check_any => k_is)
    (case l_check_any => k_is)
    (case c_check_any => k_is)
    (case k_check_any => k_is)
    (case a_big => k_is)
    (case l_big => k_is)
    (case c_big => k_is)
    (case k_big => k_is)
    (case a_plain => k_is)
    (case l_plain => k_is)
    (case c_plain => k_is)
    (case k_plain => k_is)
    (case a_rows_of => k_is)
    (case l_rows_of => k_is)
    (case c_rows_of => k_is)
    (case k_rows_of => k_is)
    (case a_square_rows_of => k_is)
    (case l_square_rows_of => k_is)
    (case c_square_rows_of => k_is)
    (case k_square_rows_of => k_is)
    (case a_multiply_by_rows => k_is)
    (case l_multiply_by_rows => k_is)
    (case c_multiply_by_rows => k_is)
    (case k_multiply_by_rows => k_is)
    (case a_square_by_rows => k_is)
    (case l_square_by_rows => k_is)
    (case c_square_by_rows => k_is)
    (case k_square_by_rows => k_is)
    (case a_law_purse => k_is)
    (case l_law_purse => k_is)
    (case c_law_purse => k_is)
    (case k_law_purse => k_is)
    (case a_law_coin => k_is)
    (case l_law_coin => k_is)
    (case c_law_coin => k_is)
    (case k_law_coin => k_is)
    (case a_law_pick => k_is)
    (case l_law_pick => k_is)
    (case c_law_pick => k_is)
    (case k_law_pick => k_is)
    (case a_law_row => k_is)
    (case l_law_row => k_is)
    (case c_law_row => k_is)
    (case k_law_row => k_is)
    (case a_law_worth => k_is)
    (case l_law_worth => k_is)
    (case c_law_worth => k_is)
    (case k_law_worth => k_is)
    (case a_law_digits => k_is)
    (case l_law_digits => k_is)
    (case c_law_digits => k_is)
    (case k_law_digits => k_is)
    (case a_law_is => k_is)
    (case l_law_is => k_is)
    (case c_law_is => k_is)
    (case k_law_is => k_is)
    (case a_law_counted => k_is)
    (case l_law_counted => k_is)
    (case c_law_counted => k_is)
    (case k_law_counted => k_is)
    (case a_law_right => k_is)
    (case l_law_right => k_is)
    (case c_law_right => k_is)
    (case k_law_right => k_is)
    (case a_law => k_is)
    (case l_law => k_is)
    (case c_law => k_is)
    (case k_law => k_is)
    (case qeBig => first | rfl | decide +kernel)
    (case qnBig => first | rfl | decide +kernel)
    (case qfBig => rfl)
    (case z_abs => k_is)
    (case z_bool => k_is)
    (case z_dict => k_is)
    (case z_enumerate => k_is)
    (case z_int => k_is)
    (case z_isinstance => k_is)
    (case z_len => k_is)
    (case z_list => k_is)
    (case z_max => k_is)
    (case z_range => k_is)
    (case z_tuple => k_is)
