import PyProof.Rows.All
import Wide.All
import OpenK.AllK
import Wide.FinOn
import HandS.ForMost
import HandS.WideBits
import HandS.Style
import HandS.Defaults
import HandS.IsInst
import HandS.Codes
import HandS.Evl
import HandS.Flow
import HandS.OwnEq
import KE.IntBitsLaws
import PyProof.Rows.RuleB_pow
import PyProof.InstNe
import PySem.Challenge.RW_thirtybits_k01_digits_and_signs
set_option Elab.async false
set_option linter.all false
set_option maxRecDepth 100000
set_option maxHeartbeats 4000000
/-! Eng: what is owned of the heap (Wd), and the readings' steps as rules (rd_..). -/
namespace Eng
open PySem L2

/-! ### what is known of the heap -/
/-- H0 the heap at the entry, H now; M: what of H0 may change; L: what is known, each place once -/
structure Wd (H0 H : Hp) (M : List Addr) (L : List (Addr × HO)) : Prop where
  get : ∀ {a : Addr} {o : HO}, (a, o) ∈ L → H a = some o
  nd : (L.map (·.1)).Nodup
  keep : ∀ b o, H0 b = some o → b ∉ M → H b = some o
  sub : ∀ a ∈ M, a ∈ L.map (·.1)
/-- L' is L with the thing at a turned from o to u -/
inductive Rp (a : Addr) (o u : HO) : List (Addr × HO) → List (Addr × HO) → Prop where
  | here {L} : Rp a o u ((a, o) :: L) ((a, u) :: L)
  | there {q L L'} : Rp a o u L L' → Rp a o u (q :: L) (q :: L')
theorem Rp.app {a : Addr} {o u : HO} {L L' : List (Addr × HO)} (r : Rp a o u L L') : ∀ {N : List (Addr × HO)}, Rp a o u (N ++ L) (N ++ L')
  | [] => r
  | _ :: _ => .there r.app
theorem Rp.mem {a : Addr} {o u : HO} : ∀ {L L' : List (Addr × HO)}, Rp a o u L L' → (a, o) ∈ L
  | _, _, .here => List.mem_cons_self
  | _, _, .there r => List.mem_cons_of_mem _ r.mem
theorem Rp.keys {a : Addr} {o u : HO} : ∀ {L L' : List (Addr × HO)}, Rp a o u L L' → L'.map (·.1) = L.map (·.1)
  | _, _, .here => rfl
  | _, _, .there (q := q) (L := L) (L' := L') r => by
    show q.1 :: L'.map (·.1) = q.1 :: L.map (·.1)
    rw [r.keys]
theorem Rp.get {a : Addr} {o u : HO} : ∀ {L L' : List (Addr × HO)}, Rp a o u L L' → (L.map (·.1)).Nodup → ∀ {b : Addr} {v : HO}, (b, v) ∈ L' → (b = a ∧ v = u) ∨ (b ≠ a ∧ (b, v) ∈ L)
  | _, _, .here (L := L), hn, b, v, hm => by
    rcases List.mem_cons.mp hm with e | hm
    · cases e
      exact .inl ⟨rfl, rfl⟩
    · refine .inr ⟨fun e => ?_, List.mem_cons_of_mem _ hm⟩
      have h1 : a ∉ L.map (·.1) := (List.nodup_cons.mp (show (a :: L.map (·.1)).Nodup from hn)).1
      exact h1 (e ▸ List.mem_map.mpr ⟨(b, v), hm, rfl⟩)
  | _, _, .there (q := q) (L := L) (L' := L') r, hn, b, v, hm => by
    have hq := List.nodup_cons.mp (show (q.1 :: L.map (·.1)).Nodup from hn)
    rcases List.mem_cons.mp hm with e | hm
    · refine .inr ⟨fun e2 => ?_, by rw [← e]; exact List.mem_cons_self⟩
      have h2 : q.1 = a := by rw [← e]; exact e2
      exact hq.1 (h2 ▸ List.mem_map.mpr ⟨(a, o), r.mem, rfl⟩)
    · rcases r.get hq.2 hm with z | ⟨z1, z2⟩
      · exact .inl z
      · exact .inr ⟨z1, List.mem_cons_of_mem _ z2⟩

section
variable {H0 H H' : Hp} {M : List Addr} {L L' : List (Addr × HO)} {a p : Addr} {o u : HO}
theorem Wd.start (h : ∀ {a : Addr} {o : HO}, (a, o) ∈ L → H a = some o) (nd : (L.map (·.1)).Nodup) (sub : ∀ a ∈ M, a ∈ L.map (·.1)) : Wd H H M L := ⟨h, nd, fun _ _ e _ => e, sub⟩
theorem Wd.nil (H : Hp) : Wd H H [] [] := ⟨(fun h => nomatch h), List.nodup_nil, fun _ _ e _ => e, (fun _ h => nomatch h)⟩
/-- a further thing that stands in the entry's heap -/
theorem Wd.old (W : Wd H0 H M L) (h : H a = some o) (ha : a ∉ L.map (·.1)) : Wd H0 H M ((a, o) :: L) where
  get := fun hm => by
    rcases List.mem_cons.mp hm with e | hm
    · cases e; exact h
    · exact W.get hm
  nd := List.nodup_cons.mpr ⟨ha, W.nd⟩
  keep := W.keep
  sub := fun a h => List.mem_cons_of_mem _ (W.sub a h)
theorem Wd.one (h : H a = some o) : Wd H H [] [(a, o)] := (Wd.nil H).old h (fun z => nomatch z)
theorem Wd.may (W : Wd H0 H M L) (h : a ∈ L.map (·.1)) : Wd H0 H (a :: M) L where
  get := W.get
  nd := W.nd
  keep := fun b o e hb => W.keep b o e fun z => hb (List.mem_cons_of_mem _ z)
  sub := fun b hb => by
    rcases List.mem_cons.mp hb with e | hb
    · rw [e]; exact h
    · exact W.sub b hb
theorem Wd.there (W : Wd H0 H M L) (h : p ∈ L.map (·.1)) : ∃ o, H p = some o := by
  obtain ⟨⟨b, v⟩, hm, rfl⟩ := List.mem_map.mp h
  exact ⟨v, W.get hm⟩
theorem Wd.out (W : Wd H0 H M L) (h : H p = none) : p ∉ L.map (·.1) := fun z => by
  obtain ⟨o, e⟩ := W.there z
  rw [h] at e
  cases e
theorem Wd.fresh (W : Wd H0 H M L) (h : H p = none) : H0 p = none := by
  cases e : H0 p with
  | none => rfl
  | some o =>
    by_cases hm : p ∈ M
    · exact absurd (W.sub p hm) (W.out h)
    · rw [W.keep p o e hm] at h
      cases h
theorem Wd.new (W : Wd H0 H M L) (h : H p = none) : Wd H0 (upd H p o) M ((p, o) :: L) where
  get := fun {a v} hm => by
    rcases List.mem_cons.mp hm with e | hm
    · cases e; exact upd_same
    · rw [upd_ne (ne_of_none (W.get hm) h)]
      exact W.get hm
  nd := List.nodup_cons.mpr ⟨W.out h, W.nd⟩
  keep := fun b v e hb => by
    rw [upd_ne (ne_of_none (W.keep b v e hb) h)]
    exact W.keep b v e hb
  sub := fun a h => List.mem_cons_of_mem _ (W.sub a h)
theorem Wd.put (W : Wd H0 H M L) (r : Rp a o u L L') (h : H0 a = none ∨ a ∈ M) : Wd H0 (upd H a u) M L' where
  get := fun {b v} hm => by
    rcases r.get W.nd hm with ⟨e1, e2⟩ | ⟨e1, e2⟩
    · rw [e1, e2]; exact upd_same
    · rw [upd_ne e1]; exact W.get e2
  nd := by rw [r.keys]; exact W.nd
  keep := fun b v e hb => by
    have ne : b ≠ a := fun z => by
      subst z
      rcases h with h | h
      · rw [h] at e; cases e
      · exact hb h
    rw [upd_ne ne]
    exact W.keep b v e hb
  sub := fun b hb => by rw [r.keys]; exact W.sub b hb
theorem Wd.same (W : Wd H0 H M L) (s : Same H H') : Wd H0 H' M L := ⟨fun hm => s _ _ (W.get hm), W.nd, fun b o e hb => s _ _ (W.keep b o e hb), W.sub⟩
/-- a shorter list -/
theorem Wd.drop (W : Wd H0 H [] L) (hs : L'.Sublist L) : Wd H0 H [] L' := ⟨fun hm => W.get (hs.subset hm), (hs.map _).nodup W.nd, W.keep, (fun _ h => nomatch h)⟩
theorem Wd.drop1 {q : Addr × HO} (W : Wd H0 H M (q :: L)) (h : q.1 ∉ M) : Wd H0 H M L := ⟨fun hm => W.get (List.mem_cons_of_mem _ hm), (List.nodup_cons.mp (show (q.1 :: L.map (·.1)).Nodup from W.nd)).2, W.keep, fun a ha => by
  rcases List.mem_cons.mp (show a ∈ q.1 :: L.map (·.1) from W.sub a ha) with e | z
  · exact absurd (e ▸ ha) h
  · exact z⟩
theorem Wd.perm (W : Wd H0 H M L) (h : L.Perm L') : Wd H0 H M L' := ⟨fun hm => W.get (h.mem_iff.mpr hm), (h.map _).nodup_iff.mp W.nd, W.keep, fun a ha => (h.map _).mem_iff.mp (W.sub a ha)⟩
/-- the first to the end -/
theorem Wd.move {q : Addr × HO} {A B : List (Addr × HO)} (W : Wd H0 H M (q :: (A ++ B))) : Wd H0 H M (A ++ (B ++ [q])) := W.perm (by
  rw [← List.append_assoc]
  exact (List.perm_append_singleton q (A ++ B)).symm)
theorem Wd.toSame (W : Wd H0 H [] L) : Same H0 H := fun b o e => W.keep b o e (fun h => nomatch h)
end

/-! ### what a call leaves: cs changed to these, ns new, all else as it was -/
structure Chg (H H' : Hp) (cs ns : List (Addr × HO)) : Prop where
  chg : ∀ {a : Addr} {o : HO}, (a, o) ∈ cs → H' a = some o
  new : ∀ {a : Addr} {o : HO}, (a, o) ∈ ns → H a = none ∧ H' a = some o
  nd : (ns.map (·.1)).Nodup
  keep : ∀ b o, H b = some o → b ∉ cs.map (·.1) → H' b = some o
section
variable {H0 H H' : Hp} {M : List Addr} {L L' L'' cs ns : List (Addr × HO)} {a b : Addr} {o u o2 u2 : HO}
theorem Wd.chg0 (W : Wd H0 H M L) (c : Chg H H' [] ns) : Wd H0 H' M (ns ++ L) where
  get := fun hm => by
    rcases List.mem_append.mp hm with h | h
    · exact (c.new h).2
    · exact c.keep _ _ (W.get h) (fun z => nomatch z)
  nd := by
    rw [List.map_append]
    refine List.nodup_append.mpr ⟨c.nd, W.nd, fun x hx y hy e => ?_⟩
    subst e
    obtain ⟨⟨p, v⟩, hm, rfl⟩ := List.mem_map.mp hx
    exact W.out (c.new hm).1 hy
  keep := fun b v e hb => c.keep _ _ (W.keep b v e hb) (fun z => nomatch z)
  sub := fun a h => by rw [List.map_append]; exact List.mem_append_right _ (W.sub a h)
theorem Wd.chg1 (W : Wd H0 H M L) (r : Rp a o u L L') (c : Chg H H' [(a, u)] ns) (h : H0 a = none ∨ a ∈ M) : Wd H0 H' M (ns ++ L') where
  get := fun {b v} hm => by
    rcases List.mem_append.mp hm with z | z
    · exact (c.new z).2
    · rcases r.get W.nd z with ⟨e1, e2⟩ | ⟨e1, e2⟩
      · rw [e1, e2]; exact c.chg List.mem_cons_self
      · exact c.keep _ _ (W.get e2) (fun z => by rcases List.mem_cons.mp z with q | q; exact e1 q; exact nomatch q)
  nd := by
    rw [List.map_append, r.keys]
    refine List.nodup_append.mpr ⟨c.nd, W.nd, fun x hx y hy e => ?_⟩
    subst e
    obtain ⟨⟨p, v⟩, hm, rfl⟩ := List.mem_map.mp hx
    exact W.out (c.new hm).1 hy
  keep := fun b v e hb => by
    have ne : b ≠ a := fun z => by
      subst z
      rcases h with h | h
      · rw [h] at e; cases e
      · exact hb h
    exact c.keep _ _ (W.keep b v e hb) (fun z => by rcases List.mem_cons.mp z with q | q; exact ne q; exact nomatch q)
  sub := fun a h => by rw [List.map_append, r.keys]; exact List.mem_append_right _ (W.sub a h)
theorem Chg.of_same (s : Same H H') : Chg H H' [] [] := ⟨(fun h => nomatch h), (fun h => nomatch h), List.nodup_nil, fun b o e _ => s b o e⟩
/-- what a def has done, told to its caller -/
theorem Wd.done (W : Wd H H' M L) (hc : ∀ q ∈ cs, q ∈ L) (hM : ∀ a ∈ M, a ∈ cs.map (·.1)) (hn : ∀ q ∈ ns, q ∈ L ∧ H q.1 = none) (nd : (ns.map (·.1)).Nodup) : Chg H H' cs ns :=
  ⟨fun h => W.get (hc _ h), fun h => ⟨(hn _ h).2, W.get (hn _ h).1⟩, nd, fun b o e hb => W.keep b o e fun z => hb (hM b z)⟩
end
end Eng

/-! Rd: the readings' steps, one rule a form; a rule's last premise is what is left. -/
namespace Eng
open PySem L2

/-! ### what waits for a value -/
def kB (Q : Bool → Hp → Prop) : VK := fun x H => ∃ k, x = .bl k ∧ Q k H
def kIf (A B : Hp → Prop) : Bool → Hp → Prop := fun b H => if b = true then A H else B H
def kFld (K : PySem.W.Frag) (f : Str) (Q : VK) : VK := fun x H => ∃ a C dx fs v, x = .ref a ∧ H a = some (.ins C dx fs) ∧ Cls K C ∧ NoAttr K C f ∧ fs.lookup f = some v ∧ Q v H
def kMeth (C : Addr) (m : Str) (sp : Sp) (dvs : List V) (E : XK) (t : TA) (σ : L2.St) (Q : VK) : VK := fun x H1 => ∃ a dx fs, x = .ref a ∧ H1 a = some (.ins C dx fs) ∧ fs.lookup m = none ∧ t σ H1 fun vs H2 => sp (x :: (vs ++ dvs)) H2 Q E
def kBM (K : PySem.W.Frag) (T : String) (r : V → List V → Hp → VK → Prop) (t : TA) (σ : L2.St) (Q : VK) : VK := fun x H1 => tyV K T x H1 ∧ t σ H1 fun xs H2 => r x xs H2 Q
def kIL (K : PySem.W.Frag) (R : It → Hp → Prop) : VK := fun x H1 => ∃ a, x = .ref a ∧ (∃ xs, SqL K H1 a xs) ∧ R (Itl K a) H1
def kIT (K : PySem.W.Frag) (R : It → Hp → Prop) : VK := fun x H1 => ∃ a, x = .ref a ∧ (∃ xs, SqT K H1 a xs) ∧ R (Itt K a) H1
def kR1 (R : It → Hp → Prop) : List V → Hp → Prop := fun vs H1 => ∃ j : Int, vs = [.int j] ∧ -(2 ^ 62) ≤ j ∧ j < 2 ^ 62 ∧ R (Itr 0 j.toNat) H1
def kR2 (R : It → Hp → Prop) : List V → Hp → Prop := fun vs H1 => ∃ i j : Int, vs = [.int i, .int j] ∧ (-(2 ^ 62) ≤ i ∧ i < 2 ^ 62 ∧ -(2 ^ 62) ≤ j ∧ j < 2 ^ 62) ∧ R (Itr i (j - i).toNat) H1
def kFor (g : TG) (tb : TS) (D : Ends) (σ : L2.St) : It → Hp → Prop := fun J H1 => ∃ W : Nat → Nat → L2.St → Hp → Prop, (∃ m, W 0 m σ H1) ∧ ∀ i m σ H, W i m σ H →
  (J.stop i H ∧ D.nx σ H) ∨ (J.go i H ∧ ∃ N : L2.St → Hp → Prop, (∀ σ' H', N σ' H' → ∃ m', m' < m ∧ W (i + 1) m' σ' H') ∧ ∀ x H', J.yld i H x H' → g x σ H' fun σ2 H2 => tb { D with nx := N, ct := N, bk := D.nx } σ2 H2)
def kWh (W : Nat → L2.St → Hp → Prop) (m : Nat) (tb : TS) (nx : L2.St → Hp → Prop) (rt : VK) (σ : L2.St) : Bool → Hp → Prop := fun b H1 =>
  if b = true then ∃ N : L2.St → Hp → Prop, (∀ σ' H', N σ' H' → ∃ m', m' < m ∧ W m' σ' H') ∧ tb ⟨N, rt, nx, N⟩ σ H1 else nx σ H1
def kLc (g : TG) (tt : TT) (te : TE) (vs : List Nat) (σ : L2.St) (Q : VK) : It → Hp → Prop := fun J H1 => ∀ D, H1 D = none → ∃ W : Nat → Nat → Hp → Prop, (∃ m, W 0 m (upd H1 D (.lst []))) ∧ ∀ i m H, W i m H →
  (J.stop i H ∧ Q (.ref D) H) ∨ (J.go i H ∧ ∃ Nx : Hp → Prop, (∀ H', Nx H' → ∃ m', m' < m ∧ W (i + 1) m' H') ∧ ∀ x H', J.yld i H x H' → g x (wipe σ vs) H' fun σ2 H2 => wipe σ2 vs = wipe σ vs ∧ tt σ2 H2 fun b H3 =>
    if b = true then te σ2 H3 fun y H4 => ∃ acc, H4 D = some (.lst acc) ∧ acc.length < sizeLine ∧ Nx (upd H4 D (.lst (acc ++ [y]))) else Nx H3)
/-- what stands behind a turn of a comprehension -/
def kAcc (D : Addr) (Nx : Hp → Prop) : VK := fun y H4 => ∃ acc, H4 D = some (.lst acc) ∧ acc.length < sizeLine ∧ Nx (upd H4 D (.lst (acc ++ [y])))
def kPar (i j : Nat) (σ : L2.St) (nx : L2.St → Hp → Prop) : List V → Hp → Prop := fun vs H1 => ∃ v w, vs = [v, w] ∧ nx ((σ.set i (some v)).set j (some w)) H1
def kPar3 (i j l : Nat) (σ : L2.St) (nx : L2.St → Hp → Prop) : List V → Hp → Prop := fun vs H1 => ∃ u v w, vs = [u, v, w] ∧ nx (((σ.set i (some u)).set j (some v)).set l (some w)) H1
def kTup (Q : VK) : List V → Hp → Prop := fun xs H1 => xs.length ≤ sizeLine ∧ ∀ p, H1 p = none → Q (.ref p) (upd H1 p (.tup xs))
def kLst (Q : VK) : List V → Hp → Prop := fun xs H1 => xs.length ≤ sizeLine ∧ ∀ p, H1 p = none → Q (.ref p) (upd H1 p (.lst xs))
def kMake (C : Addr) (sp : Sp) (dvs : List V) (E : XK) (Q : VK) : List V → Hp → Prop := fun vs H1 => ∀ x dx, H1 x = none → H1 dx = none → dx ≠ x →
  sp (.ref x :: (vs ++ dvs)) (upd (upd H1 dx (.own x)) x (.ins C dx [])) (fun v H2 => v = .non ∧ Q (.ref x) H2) E
def kPart (Q : Option Int → Hp → Prop) : VK := fun x H1 => ∃ i, x = .int i ∧ Q (some i) H1
def kSFld (K : PySem.W.Frag) (f : Str) (y : V) (nx : L2.St → Hp → Prop) (σ : L2.St) : VK := fun x H2 => ∃ a C dx fs, x = .ref a ∧ H2 a = some (.ins C dx fs) ∧ Cls K C ∧ NoAttr K C f ∧ fs.length < 1000 ∧ nx σ (upd H2 a (.ins C dx (putF f y fs)))
def kDG (Q : VK) : V → V → Hp → Prop := fun x y H2 => ∃ a v, x = .ref a ∧ DGet H2 a y (some v) ∧ Q v H2
def kDP (nx : L2.St → Hp → Prop) (σ : L2.St) (v : V) : V → V → Hp → Prop := fun x y H3 => ∃ a H4, x = .ref a ∧ DPut H3 a y v H4 ∧ nx σ H4
def kTru (K : PySem.W.Frag) (Q : Bool → Hp → Prop) : VK := fun x H' => ∃ k, TruV K x H' k ∧ Q k H'
def kBits (Q : VK) : VK := fun x H1 => ∃ i, x = .int i ∧ Q (.int (Builtin.Int.intBits i : Nat)) H1
def kCh (r' : R2) (y : V) (tc : TE) (σ : L2.St) (Q : VK) : VK := fun z H3 => ∃ k, z = .bl k ∧ (if k = true then tc σ H3 fun w' H4 => r' y w' H4 Q else Q (.bl false) H3)
def kRev (K : PySem.W.Frag) (Q : VK) : VK := fun x H1 => ∃ a xs, x = .ref a ∧ SqL K H1 a xs ∧ ∀ p, H1 p = none → Q (.ref p) (upd H1 p (.lst xs.reverse))

/-- the slot i holds v from here on -/
inductive Sets (v : Option V) : L2.St → Nat → L2.St → Prop where
  | here {a l} : Sets v (a :: l) 0 (v :: l)
  | there {a l i l'} : Sets v l i l' → Sets v (a :: l) (i + 1) (a :: l')
theorem Sets.eq {v : Option V} : ∀ {σ : L2.St} {i : Nat} {σ' : L2.St}, Sets v σ i σ' → σ.set i v = σ'
  | _, _, _, .here => rfl
  | _, _, _, .there r => congrArg (List.cons _) r.eq
section
variable {K : PySem.W.Frag} {σ σ' σ1 σ2 : L2.St} {H H' H0 : Hp} {Q : VK} {QB : Bool → Hp → Prop} {QA : List V → Hp → Prop} {nx bk ct : L2.St → Hp → Prop} {rt : VK} {D : Ends} {M : List Addr} {L L' : List (Addr × HO)}
  {ta tb tc te : TE} {tA tB' tT tU : TT} {ts tu : TS} {tr tl : TA} {v w x y : V} {i j : Nat} {n m : Int} {b c : Bool} {A B : Hp → Prop} {a l p C dx : Addr} {fs : List (Str × V)} {f : Str} {xs ys : List V} {r : R2} {o u : HO}
/-! ### statements -/
theorem rd_seq (q : ts ⟨tu ⟨nx, rt, bk, ct⟩, rt, bk, ct⟩ σ H) : tSeq ts tu ⟨nx, rt, bk, ct⟩ σ H := q
theorem rd_next (q : nx σ H) : tNext ⟨nx, rt, bk, ct⟩ σ H := q
theorem rd_break (q : bk σ H) : tBreak ⟨nx, rt, bk, ct⟩ σ H := q
theorem rd_cont (q : ct σ H) : tCont ⟨nx, rt, bk, ct⟩ σ H := q
theorem rd_asg {g : TG} (q : te σ H fun x H1 => g x σ H1 nx) : tAsg te g ⟨nx, rt, bk, ct⟩ σ H := q
theorem rd_name {k : L2.St → Hp → Prop} (hs : Sets (some v) σ i σ') (q : k σ' H) : gName i v σ H k := by unfold gName; rw [hs.eq]; exact q
theorem rd_ret (q : te σ H rt) : tRet te ⟨nx, rt, bk, ct⟩ σ H := q
theorem rd_retN (q : rt .non H) : tRetN ⟨nx, rt, bk, ct⟩ σ H := q
theorem rd_drop (q : te σ H fun _ H1 => nx σ H1) : tDrop te ⟨nx, rt, bk, ct⟩ σ H := q
theorem rd_ifS (q : tT σ H (kIf (fun H1 => ts D σ H1) (fun H1 => tu D σ H1))) : tIfS tT ts tu D σ H := q
theorem rd_T (h : b = true) (q : A H) : kIf A B b H := by unfold kIf; rw [if_pos h]; exact q
theorem rd_F (h : b = false) (q : B H) : kIf A B b H := by unfold kIf; rw [h, if_neg Bool.false_ne_true]; exact q
theorem rd_2 (h : b = true → A H) (k : b = false → B H) : kIf A B b H := by
  cases b with
  | true => exact rd_T rfl (h rfl)
  | false => exact rd_F rfl (k rfl)
theorem rd_Td {P : Prop} [Decidable P] (h : P) (q : A H) : kIf A B (decide P) H := rd_T (decide_eq_true h) q
theorem rd_Fd {P : Prop} [Decidable P] (h : ¬ P) (q : B H) : kIf A B (decide P) H := rd_F (decide_eq_false h) q
theorem rd_2d {P : Prop} [Decidable P] (h : P → A H) (k : ¬ P → B H) : kIf A B (decide P) H := rd_2 (fun e => h (of_decide_eq_true e)) (fun e => k (of_decide_eq_false e))
theorem rd_Tn {P : Prop} [Decidable P] (h : ¬ P) (q : A H) : kIf A B (!decide P) H := rd_T (by rw [decide_eq_false h]; rfl) q
theorem rd_Fn {P : Prop} [Decidable P] (h : P) (q : B H) : kIf A B (!decide P) H := rd_F (by rw [decide_eq_true h]; rfl) q
theorem rd_par (q : tr σ H (kPar i j σ nx)) : tPar i j tr ⟨nx, rt, bk, ct⟩ σ H := q
theorem rd_kPar (h1 : Sets (some v) σ i σ1) (h2 : Sets (some w) σ1 j σ') (q : nx σ' H) : kPar i j σ nx [v, w] H := ⟨v, w, rfl, by rw [h1.eq, h2.eq]; exact q⟩
theorem rd_par3 {k : Nat} (q : tr σ H (kPar3 i j k σ nx)) : tPar3 i j k tr ⟨nx, rt, bk, ct⟩ σ H := q
theorem rd_kPar3 {k : Nat} (h1 : Sets (some v) σ i σ1) (h2 : Sets (some w) σ1 j σ2) (h3 : Sets (some x) σ2 k σ') (q : nx σ' H) : kPar3 i j k σ nx [v, w, x] H := ⟨v, w, x, rfl, by rw [h1.eq, h2.eq, h3.eq]; exact q⟩
theorem rd_sFld (q : te σ H fun y H1 => ta σ H1 (kSFld K f y nx σ)) : sFld K ta te f ⟨nx, rt, bk, ct⟩ σ H := q
theorem rd_sDPut {td ty tv : TE} (q : tv σ H fun v H1 => td σ H1 fun x H2 => ty σ H2 fun y H3 => kDP nx σ v x y H3) : sDPut td ty tv ⟨nx, rt, bk, ct⟩ σ H := q
theorem rd_for {wi : TI} {g : TG} (q : wi σ H (kFor g ts D σ)) : tFor wi g ts D σ H := q
theorem rd_while (W : Nat → L2.St → Hp → Prop) (m0 : Nat) (h0 : W m0 σ H) (q : ∀ m σ H, W m σ H → tT σ H (kWh W m ts nx rt σ)) : tWhile tT ts ⟨nx, rt, bk, ct⟩ σ H := ⟨W, ⟨m0, h0⟩, q⟩
theorem rd_whT {W : Nat → L2.St → Hp → Prop} {m : Nat} (h : b = true) (q : ts ⟨fun σ' H' => ∃ m', m' < m ∧ W m' σ' H', rt, nx, fun σ' H' => ∃ m', m' < m ∧ W m' σ' H'⟩ σ H) : kWh W m ts nx rt σ b H := by
  unfold kWh; rw [if_pos h]; exact ⟨_, fun _ _ z => z, q⟩
theorem rd_whF {W : Nat → L2.St → Hp → Prop} {m : Nat} (h : b = false) (q : nx σ H) : kWh W m ts nx rt σ b H := by
  unfold kWh; rw [h, if_neg Bool.false_ne_true]; exact q
theorem rd_wh2 {W : Nat → L2.St → Hp → Prop} {m : Nat} {P : Prop} [Decidable P] (q : P → ts ⟨fun σ' H' => ∃ m', m' < m ∧ W m' σ' H', rt, nx, fun σ' H' => ∃ m', m' < m ∧ W m' σ' H'⟩ σ H) (q' : ¬ P → nx σ H) : kWh W m ts nx rt σ (decide P) H := by
  by_cases h : P
  · exact rd_whT (decide_eq_true h) (q h)
  · exact rd_whF (decide_eq_false h) (q' h)
/-! ### values -/
theorem rd_var (h : σ[i]? = some (some v)) (q : Q v H) : tVar i σ H Q := ⟨v, h, q⟩
theorem rd_c (q : Q v H) : tC v σ H Q := q
theorem rd_op (q : ta σ H fun x H1 => tb σ H1 fun y H2 => r x y H2 Q) : tOp r ta tb σ H Q := q
theorem rd_un {ru : V → Hp → VK → Prop} (q : ta σ H fun x H1 => ru x H1 Q) : tUn ru ta σ H Q := q
theorem rd_I0 {g : Int → Int → V} (q : Q (g n m) H) : rI0 g (.int n) (.int m) H Q := ⟨n, m, rfl, rfl, q⟩
theorem rd_I {g : Int → Int → V} {P : Int → Int → Prop} (h : P n m) (q : Q (g n m) H) : rI P g (.int n) (.int m) H Q := ⟨n, m, rfl, rfl, h, q⟩
theorem rd_U {g : Int → V} (q : Q (g n) H) : rU g (.int n) H Q := ⟨n, rfl, q⟩
theorem dec_int : decide (V.int n = V.int m) = decide (n = m) := by simp
theorem dec_str {s t : Str} : decide (V.str s = V.str t) = decide (s = t) := by simp
theorem dec_bl : decide (V.bl b = V.bl c) = decide (b = c) := by simp
theorem rd_eqI (q : Q (.bl (decide (n = m))) H) : rEq (.int n) (.int m) H Q := ⟨rfl, by rw [dec_int]; exact q⟩
theorem rd_neI (q : Q (.bl (!decide (n = m))) H) : rNe (.int n) (.int m) H Q := ⟨rfl, by rw [dec_int]; exact q⟩
theorem rd_eqS {s t : Str} (q : Q (.bl (decide (s = t))) H) : rEq (.str s) (.str t) H Q := ⟨rfl, by rw [dec_str]; exact q⟩
theorem rd_neS {s t : Str} (q : Q (.bl (!decide (s = t))) H) : rNe (.str s) (.str t) H Q := ⟨rfl, by rw [dec_str]; exact q⟩
theorem rd_eqB (q : Q (.bl (decide (b = c))) H) : rEq (.bl b) (.bl c) H Q := ⟨rfl, by rw [dec_bl]; exact q⟩
theorem rd_neB (q : Q (.bl (!decide (b = c))) H) : rNe (.bl b) (.bl c) H Q := ⟨rfl, by rw [dec_bl]; exact q⟩
theorem rd_test (q : te σ H (kB QB)) : tTest te σ H QB := q
theorem rd_tB (q : te σ H (kB QB)) : L2.tB te σ H QB := q
theorem rd_kB (q : QB b H) : kB QB (.bl b) H := ⟨b, rfl, q⟩
theorem rd_and (q : tT σ H (kIf (fun H1 => tU σ H1 QB) (fun H1 => QB false H1))) : tAnd tT tU σ H QB := q
theorem rd_or (q : tT σ H (kIf (fun H1 => QB true H1) (fun H1 => tU σ H1 QB))) : tOr tT tU σ H QB := q
theorem rd_not (q : tT σ H fun c H1 => QB (!c) H1) : tNot tT σ H QB := q
theorem rd_andV (q : ta σ H (kB (kIf (fun H1 => tb σ H1 Q) (fun H1 => Q (.bl false) H1)))) : tAndV ta tb σ H Q := q
theorem rd_orV (q : ta σ H (kB (kIf (fun H1 => Q (.bl true) H1) (fun H1 => tb σ H1 Q)))) : tOrV ta tb σ H Q := q
theorem rd_notV (q : ta σ H (kB fun c H1 => Q (.bl (!c)) H1)) : tNotV ta σ H Q := q
theorem rd_ifE (q : tT σ H (kIf (fun H1 => ta σ H1 Q) (fun H1 => tb σ H1 Q))) : tIf tT ta tb σ H Q := q
theorem rd_chain {r' : R2} (q : ta σ H fun x H1 => tb σ H1 fun y H2 => r x y H2 (kCh r' y tc σ Q)) : tChain r r' ta tb tc σ H Q := q
theorem rd_kChT {r' : R2} (h : b = true) (q : tc σ H fun w' H4 => r' y w' H4 Q) : kCh r' y tc σ Q (.bl b) H := ⟨b, rfl, by rw [if_pos h]; exact q⟩
theorem rd_kChF {r' : R2} (h : b = false) (q : Q (.bl false) H) : kCh r' y tc σ Q (.bl b) H := ⟨b, rfl, by rw [h, if_neg Bool.false_ne_true]; exact q⟩
theorem rd_tru (q : ta σ H (kTru K QB)) : (fun σ H Q => ta σ H fun x H' => ∃ k, TruV K x H' k ∧ Q k H' : TT) σ H QB := q
/-! ### arguments and calls -/
theorem rd_bits (q : ta σ H (kBits Q)) : tBits ta σ H Q := q
theorem rd_kBits (q : Q (.int (Builtin.Int.intBits n : Nat)) H) : kBits Q (.int n) H := ⟨n, rfl, q⟩
theorem rd_nil (q : QA [] H) : tNil σ H QA := q
theorem rd_cons (q : ta σ H fun x H1 => tr σ H1 fun xs H2 => QA (x :: xs) H2) : tCons ta tr σ H QA := q
theorem rd_call {sp : Sp} {E : XK} (q : tr σ H fun vs H1 => sp vs H1 Q E) : tCall sp [] E tr σ H Q := by
  unfold tCall
  simp only [List.append_nil]
  exact q
theorem rd_callD {sp : Sp} {E : XK} {dvs : List V} (q : tr σ H fun vs H1 => sp (vs ++ dvs) H1 Q E) : tCall sp dvs E tr σ H Q := q
theorem rd_callN {sp : Sp} {E : XK} {k1 k2 : Nat} {gV : List V → List V → List V} (q : tr σ H fun vs H1 => tl σ H1 fun zs H2 => vs.length = k1 ∧ zs.length = k2 ∧ sp (gV vs zs) H2 Q E) : tCallN k1 k2 sp gV E tr tl σ H Q := q
theorem rd_cb {rc : List V → Hp → VK → Prop} (q : tr σ H fun vs H1 => rc vs H1 Q) : tCB rc tr σ H Q := q
theorem rd_meth {sp : Sp} {E : XK} {dvs : List V} (q : ta σ H (kMeth C f sp dvs E tr σ Q)) : tMeth C f sp dvs E ta tr σ H Q := q
theorem rd_kMeth {sp : Sp} {E : XK} (h : H a = some (.ins C dx fs)) (hl : fs.lookup f = none) (q : tr σ H fun vs H2 => sp (.ref a :: vs) H2 Q E) : kMeth C f sp [] E tr σ Q (.ref a) H := by
  refine ⟨a, dx, fs, rfl, h, hl, ?_⟩
  simp only [List.append_nil]
  exact q
theorem rd_make {sp : Sp} {E : XK} {dvs : List V} (q : tr σ H (kMake C sp dvs E Q)) : tMake C sp dvs E tr σ H Q := q
theorem rd_bm {T : String} {rm : V → List V → Hp → VK → Prop} (q : ta σ H (kBM K T rm tr σ Q)) : tBM K T rm ta tr σ H Q := q
theorem rd_bm0 {T : String} {rm : V → List V → Hp → VK → Prop} (q : ta σ H fun x H1 => tyV K T x H1 ∧ rm x [] H1 Q) : tBM0 K T rm ta σ H Q := q
theorem rd_kBMl {rm : V → List V → Hp → VK → Prop} (h : H l = some (.lst xs)) (q : tr σ H fun ys H2 => rm (.ref l) ys H2 Q) : kBM K "list" rm tr σ Q (.ref l) H := ⟨.inl ⟨rfl, _, SqL.of h⟩, q⟩
theorem rd_append (W : Wd H0 H M L) (r : Rp l (.lst xs) (.lst (xs ++ [y])) L L') (hm : H0 l = none ∨ l ∈ M) (hl : xs.length < sizeLine) (q : ∀ H', Wd H0 H' M L' → Q .non H') : rAppend (.ref l) [y] H Q :=
  ⟨l, xs, y, rfl, rfl, W.get r.mem, hl, q _ (W.put r hm)⟩
theorem rd_fld (q : ta σ H (kFld K f Q)) : tFld K ta f σ H Q := q
theorem rd_kFld (c : Cls K C) (n : NoAttr K C f) (h : H a = some (.ins C dx fs)) (hl : fs.lookup f = some v) (q : Q v H) : kFld K f Q (.ref a) H := ⟨a, C, dx, fs, v, rfl, h, c, n, hl, q⟩
theorem rd_kSFld (W : Wd H0 H M L) (c : Cls K C) (n : NoAttr K C f) (r : Rp a (.ins C dx fs) (.ins C dx (putF f y fs)) L L') (hm : H0 a = none ∨ a ∈ M) (hl : fs.length < 1000) (q : ∀ H', Wd H0 H' M L' → nx σ H') : kSFld K f y nx σ (.ref a) H :=
  ⟨a, C, dx, fs, rfl, W.get r.mem, c, n, hl, q _ (W.put r hm)⟩
/-! ### lists, tuples -/
theorem rd_tup (q : tr σ H (kTup Q)) : tTup tr σ H Q := q
theorem rd_lst (q : tr σ H (kLst Q)) : tLst tr σ H Q := q
theorem rd_kTup (W : Wd H0 H M L) (hl : xs.length ≤ sizeLine) (q : ∀ p H', H0 p = none → Wd H0 H' M ((p, .tup xs) :: L) → Q (.ref p) H') : kTup Q xs H := ⟨hl, fun p hp => q p _ (W.fresh hp) (W.new hp)⟩
theorem rd_kLst (W : Wd H0 H M L) (hl : xs.length ≤ sizeLine) (q : ∀ p H', H0 p = none → Wd H0 H' M ((p, .lst xs) :: L) → Q (.ref p) H') : kLst Q xs H := ⟨hl, fun p hp => q p _ (W.fresh hp) (W.new hp)⟩
theorem rd_ixL (h : SqL K H p xs) (hv : atI xs n = some v) (q : Q v H) : rIxL K (.ref p) (.int n) H Q := ⟨p, xs, n, v, rfl, rfl, h, hv, q⟩
theorem rd_ixT (h : SqT K H p xs) (hv : atI xs n = some v) (q : Q v H) : rIxT K (.ref p) (.int n) H Q := ⟨p, xs, n, v, rfl, rfl, h, hv, q⟩
theorem rd_sub {tS : TSet} {k : L2.St → Hp → Prop} (q : ta σ H fun o H1 => tb σ H1 fun i H2 => tS o i v H2 fun H3 => k σ H3) : gSub ta tb tS v σ H k := q
theorem rd_setL {k : Hp → Prop} (W : Wd H0 H M L) (hj : ixN xs.length n = some j) (r : Rp p (.lst xs) (.lst (xs.set j v)) L L') (hm : H0 p = none ∨ p ∈ M) (q : ∀ H', Wd H0 H' M L' → k H') : rSetL (.ref p) (.int n) v H k :=
  ⟨p, xs, n, j, rfl, rfl, W.get r.mem, hj, q _ (W.put r hm)⟩
theorem rd_sl {rs : V → Option Int → Option Int → Hp → VK → Prop} {to1 to2 : TO} (q : te σ H fun x H1 => to1 σ H1 fun l H2 => to2 σ H2 fun u H3 => rs x l u H3 Q) : tSl rs te to1 to2 σ H Q := q
theorem rd_noPart {QO : Option Int → Hp → Prop} (q : QO none H) : tNoPart σ H QO := q
theorem rd_part {QO : Option Int → Hp → Prop} (q : te σ H (kPart QO)) : tPart te σ H QO := q
theorem rd_kPart {QO : Option Int → Hp → Prop} (q : QO (some n) H) : kPart QO (.int n) H := ⟨n, rfl, q⟩
theorem rd_slL {lo hi : Option Int} (W : Wd H0 H M L) (h : SqL K H a xs) (hc : cutV xs lo hi = ys) (q : ∀ p H', H0 p = none → Wd H0 H' M ((p, .lst ys) :: L) → Q (.ref p) H') : rSlL K (.ref a) lo hi H Q :=
  ⟨a, xs, rfl, h, fun p hp => by subst hc; exact q p _ (W.fresh hp) (W.new hp)⟩
theorem rd_cat (W : Wd H0 H M L) (h1 : H a = some (.lst xs)) (h2 : H l = some (.lst ys)) (hl : xs.length + ys.length ≤ sizeLine) (q : ∀ p H', H0 p = none → Wd H0 H' M ((p, .lst (xs ++ ys)) :: L) → Q (.ref p) H') : rCat (.ref a) (.ref l) H Q :=
  ⟨a, l, xs, ys, rfl, rfl, h1, h2, hl, fun p hp => q p _ (W.fresh hp) (W.new hp)⟩
theorem rd_revL (q : te σ H (kRev K Q)) : tRevL K te σ H Q := q
theorem rd_kRev (W : Wd H0 H M L) (h : SqL K H a xs) (q : ∀ p H', H0 p = none → Wd H0 H' M ((p, .lst xs.reverse) :: L) → Q (.ref p) H') : kRev K Q (.ref a) H :=
  ⟨a, xs, rfl, h, fun p hp => q p _ (W.fresh hp) (W.new hp)⟩
theorem rd_gTup {k : Nat} {gs : TGs} {kk : L2.St → Hp → Prop} (h : SqT K H a xs) (hl : xs.length = k) (q : gs xs σ H kk) : gTup K k gs (.ref a) σ H kk := ⟨a, xs, rfl, h, hl, q⟩
theorem rd_gCons {g : TG} {gs : TGs} {kk : L2.St → Hp → Prop} (q : g v σ H fun σ' H' => gs xs σ' H' kk) : gCons g gs (v :: xs) σ H kk := ⟨v, xs, rfl, q⟩
theorem rd_gNil {kk : L2.St → Hp → Prop} (q : kk σ H) : gNil [] σ H kk := ⟨rfl, q⟩
/-! ### dicts -/
theorem rd_dget {td ty : TE} (q : td σ H fun x H1 => ty σ H1 fun y H2 => kDG Q x y H2) : tDGet td ty σ H Q := q
theorem rd_kDGs {kvs : List (Key × V)} {s : Str} (h : H a = some (.dK kvs)) (hv : valV kvs (Sum.inr s : Key) = some v) (q : Q v H) : kDG Q (.ref a) (.str s) H := ⟨a, v, rfl, hv ▸ DGet.k (k := Sum.inr s) h, q⟩
theorem rd_kDPs {kvs : List (Key × V)} {s : Str} (W : Wd H0 H M L) (r : Rp a (.dK kvs) (.dK (putK kvs (Sum.inr s : Key) v)) L L') (hm : H0 a = none ∨ a ∈ M) (hl : kvs.length < sizeLine) (q : ∀ H', Wd H0 H' M L' → nx σ H') : kDP nx σ v (.ref a) (.str s) H :=
  ⟨a, _, rfl, DPut.k (k := Sum.inr s) (W.get r.mem) hl, q _ (W.put r hm)⟩
/-! ### loops -/
theorem rd_iList {R : It → Hp → Prop} (q : te σ H (kIL K R)) : iList K te σ H R := q
theorem rd_kIL {R : It → Hp → Prop} (h : SqL K H a xs) (q : R (Itl K a) H) : kIL K R (.ref a) H := ⟨a, rfl, ⟨_, h⟩, q⟩
theorem rd_iTup {R : It → Hp → Prop} (q : te σ H (kIT K R)) : iTup K te σ H R := q
theorem rd_kIT {R : It → Hp → Prop} (h : SqT K H a xs) (q : R (Itt K a) H) : kIT K R (.ref a) H := ⟨a, rfl, ⟨_, h⟩, q⟩
theorem rd_iR1 {R : It → Hp → Prop} (q : tr σ H (kR1 R)) : iRng1 tr σ H R := q
theorem rd_kR1 {R : It → Hp → Prop} (h1 : -(2 ^ 62) ≤ n) (h2 : n < 2 ^ 62) (q : R (Itr 0 n.toNat) H) : kR1 R [.int n] H := ⟨n, rfl, h1, h2, q⟩
theorem rd_iR2 {R : It → Hp → Prop} (q : tr σ H (kR2 R)) : iRng2 tr σ H R := q
theorem rd_kR2 {R : It → Hp → Prop} (h1 : -(2 ^ 62) ≤ n) (h2 : n < 2 ^ 62) (h3 : -(2 ^ 62) ≤ m) (h4 : m < 2 ^ 62) (q : R (Itr n (m - n).toNat) H) : kR2 R [.int n, .int m] H := ⟨n, m, rfl, ⟨h1, h2, h3, h4⟩, q⟩
/-- for over a list of xs: Pv (items taken, slots, heap) -/
theorem rd_forL {g : TG} (Pv : Nat → L2.St → Hp → Prop) (h0 : Pv 0 σ H) (hl : ∀ i σ H, i ≤ xs.length → Pv i σ H → SqL K H a xs)
    (hs : ∀ i x σ H, xs[i]? = some x → Pv i σ H → g x σ H fun σ2 H2 => ts ⟨Pv (i + 1), rt, nx, Pv (i + 1)⟩ σ2 H2) (hd : ∀ σ H, Pv xs.length σ H → nx σ H) : kFor g ts ⟨nx, rt, bk, ct⟩ σ (Itl K a) H :=
  for_list (D := ⟨nx, rt, bk, ct⟩) Pv h0 hl hs hd
theorem rd_forT {g : TG} (Pv : Nat → L2.St → Hp → Prop) (h0 : Pv 0 σ H) (hl : ∀ i σ H, i ≤ xs.length → Pv i σ H → SqT K H a xs)
    (hs : ∀ i x σ H, xs[i]? = some x → Pv i σ H → g x σ H fun σ2 H2 => ts ⟨Pv (i + 1), rt, nx, Pv (i + 1)⟩ σ2 H2) (hd : ∀ σ H, Pv xs.length σ H → nx σ H) : kFor g ts ⟨nx, rt, bk, ct⟩ σ (Itt K a) H :=
  for_tup (D := ⟨nx, rt, bk, ct⟩) Pv h0 hl hs hd
theorem rd_forR {g : TG} {lo : Int} {k : Nat} (Pv : Nat → L2.St → Hp → Prop) (h0 : Pv 0 σ H)
    (hs : ∀ i σ H, i < k → Pv i σ H → g (.int (lo + i)) σ H fun σ2 H2 => ts ⟨Pv (i + 1), rt, nx, Pv (i + 1)⟩ σ2 H2) (hd : ∀ σ H, Pv k σ H → nx σ H) : kFor g ts ⟨nx, rt, bk, ct⟩ σ (Itr lo k) H :=
  for_range (D := ⟨nx, rt, bk, ct⟩) Pv h0 hs hd
/-! ### comprehensions -/
theorem rd_lc {wi : TI} {g : TG} {vs : List Nat} (q : wi σ H (kLc g tT te vs σ Q)) : tLc wi g tT te vs σ H Q := q
theorem rd_yes (q : QB true H) : tYes σ H QB := q
/-- over a list: Pv (items taken, heap); D the list that grows -/
theorem rd_lcL {g : TG} {vs : List Nat} (hq : ∀ D, H D = none → ∃ Pv : Nat → Hp → Prop, Pv 0 (upd H D (.lst [])) ∧ (∀ i H, i ≤ xs.length → Pv i H → SqL K H a xs) ∧
    (∀ i x H, xs[i]? = some x → Pv i H → g x (wipe σ vs) H fun σ2 H2 => wipe σ2 vs = wipe σ vs ∧ tT σ2 H2 (kIf (fun H3 => te σ2 H3 (kAcc D (Pv (i + 1)))) (fun H3 => Pv (i + 1) H3))) ∧ ∀ H, Pv xs.length H → Q (.ref D) H) : kLc g tT te vs σ Q (Itl K a) H := fun D hD => by
  obtain ⟨Pv, h0, hl, hs, hd⟩ := hq D hD
  exact lc_list Pv h0 hl hs hd
theorem rd_lcT {g : TG} {vs : List Nat} (hq : ∀ D, H D = none → ∃ Pv : Nat → Hp → Prop, Pv 0 (upd H D (.lst [])) ∧ (∀ i H, i ≤ xs.length → Pv i H → SqT K H a xs) ∧
    (∀ i x H, xs[i]? = some x → Pv i H → g x (wipe σ vs) H fun σ2 H2 => wipe σ2 vs = wipe σ vs ∧ tT σ2 H2 (kIf (fun H3 => te σ2 H3 (kAcc D (Pv (i + 1)))) (fun H3 => Pv (i + 1) H3))) ∧ ∀ H, Pv xs.length H → Q (.ref D) H) : kLc g tT te vs σ Q (Itt K a) H := fun D hD => by
  obtain ⟨Pv, h0, hl, hs, hd⟩ := hq D hD
  exact lc_tup Pv h0 hl hs hd
theorem rd_lcR {g : TG} {vs : List Nat} {lo : Int} {k : Nat} (hq : ∀ D, H D = none → ∃ Pv : Nat → Hp → Prop, Pv 0 (upd H D (.lst [])) ∧
    (∀ i H, i < k → Pv i H → g (.int (lo + i)) (wipe σ vs) H fun σ2 H2 => wipe σ2 vs = wipe σ vs ∧ tT σ2 H2 (kIf (fun H3 => te σ2 H3 (kAcc D (Pv (i + 1)))) (fun H3 => Pv (i + 1) H3))) ∧ ∀ H, Pv k H → Q (.ref D) H) : kLc g tT te vs σ Q (Itr lo k) H := fun D hD => by
  obtain ⟨Pv, h0, hs, hd⟩ := hq D hD
  exact lc_range Pv h0 hs hd
theorem rd_kAcc {Nx : Hp → Prop} (W : Wd H0 H M L) (r : Rp l (.lst xs) (.lst (xs ++ [y])) L L') (hm : H0 l = none ∨ l ∈ M) (hl : xs.length < sizeLine) (q : ∀ H', Wd H0 H' M L' → Nx H') : kAcc l Nx y H :=
  ⟨xs, W.get r.mem, hl, q _ (W.put r hm)⟩
/-! ### built-ins by name -/
def rAbs : List V → Hp → VK → Prop := fun xs H Q => ∃ i, xs = [.int i] ∧ Q (.int (if i < 0 then -i else i)) H
def rInt : List V → Hp → VK → Prop := fun xs H Q => (∃ i, xs = [.int i] ∧ Q (.int i) H) ∨ ∃ k, xs = [.bl k] ∧ Q (.int (if k then 1 else 0)) H
def rLen (K : PySem.W.Frag) : List V → Hp → VK → Prop := fun xs H Q => ∃ p ys, xs = [.ref p] ∧ (SqL K H p ys ∨ SqT K H p ys) ∧ Q (.int ys.length) H
def rList (K : PySem.W.Frag) : List V → Hp → VK → Prop := fun xs H Q => ∃ p ys, xs = [.ref p] ∧ (SqL K H p ys ∨ SqT K H p ys) ∧ ∀ l, H l = none → Q (.ref l) (upd H l (.lst ys))
def rTupL (K : PySem.W.Frag) : List V → Hp → VK → Prop := fun xs H Q => ∃ p ys, xs = [.ref p] ∧ SqL K H p ys ∧ ∀ l, H l = none → Q (.ref l) (upd H l (.tup ys))
def rDict (K : PySem.W.Frag) : List V → Hp → VK → Prop := fun xs H Q => ∃ (a : Addr) (ps : List Addr) (kvs : List (Key × V)), xs = [.ref a] ∧ SqL K H a (ps.map V.ref) ∧ Paired (fun p kv => SqT K H p [kV kv.1, kv.2]) ps kvs ∧ ∀ p, H p = none → Q (.ref p) (upd H p (.dK (mergeK [] kvs)))
theorem rd_abs (q : Q (.int (if n < 0 then -n else n)) H) : rAbs [.int n] H Q := ⟨n, rfl, q⟩
theorem rd_int (q : Q (.int n) H) : rInt [.int n] H Q := .inl ⟨n, rfl, q⟩
theorem rd_intB (q : Q (.int (if b then 1 else 0)) H) : rInt [.bl b] H Q := .inr ⟨b, rfl, q⟩
theorem rd_lenL (h : SqL K H p xs) (q : Q (.int xs.length) H) : rLen K [.ref p] H Q := ⟨p, xs, rfl, .inl h, q⟩
theorem rd_lenT (h : SqT K H p xs) (q : Q (.int xs.length) H) : rLen K [.ref p] H Q := ⟨p, xs, rfl, .inr h, q⟩
theorem rd_list (W : Wd H0 H M L) (h : SqL K H a xs ∨ SqT K H a xs) (q : ∀ p H', H0 p = none → Wd H0 H' M ((p, .lst xs) :: L) → Q (.ref p) H') : rList K [.ref a] H Q := ⟨a, xs, rfl, h, fun p hp => q p _ (W.fresh hp) (W.new hp)⟩
theorem rd_tupL (W : Wd H0 H M L) (h : SqL K H a xs) (q : ∀ p H', H0 p = none → Wd H0 H' M ((p, .tup xs) :: L) → Q (.ref p) H') : rTupL K [.ref a] H Q := ⟨a, xs, rfl, h, fun p hp => q p _ (W.fresh hp) (W.new hp)⟩
end
section
variable {X : Cx}
theorem c_abs : CallR X (.builtin "abs") rAbs := call_abs
theorem c_int : CallR X (.type "int") rInt := call_int1
theorem c_len : CallR X (.builtin "len") (rLen X.K) := call_len_seq
theorem c_list : CallR X (.type "list") (rList X.K) := call_list_of
theorem c_tupL : CallR X (.type "tuple") (rTupL X.K) := fun pins s σ H xs us Q I r h => by
  obtain ⟨p, ys, e, h1, q⟩ := h
  exact call_tuple_of pins s σ H xs us Q I r ⟨p, ys, e, .inl ⟨h1, q⟩⟩
theorem c_dict (h : X.calm = true) : CallR X (.type "dict") (rDict X.K) := call_dictP h
end
end Eng

/-! Ops: the operators by names of their own, with what each asks. -/
namespace Eng
open PySem L2
def oDiv (i j : Int) : Prop := 0 < j ∧ Builtin.divisionGoesByPylong i j = false
def oPow (i j : Int) : Prop := 0 ≤ j ∧ (Builtin.Int.intBits i : Int) * j ≤ 2 ^ 27
def rAdd : R2 := rI0 fun i j => .int (i + j)
def rSub : R2 := rI0 fun i j => .int (i - j)
def rMul : R2 := rI IntMulOk fun i j => .int (i * j)
def rDiv : R2 := rI oDiv fun i j => .int (i / j)
def rMod : R2 := rI (fun _ j => 0 < j) fun i j => .int (i % j)
def rPow : R2 := rI oPow fun i j => .int (i ^ j.toNat)
def rShl : R2 := rI CShl fun i j => .int (i * 2 ^ j.toNat)
def rShr : R2 := rI (fun _ j => 0 ≤ j) fun i j => .int (i / 2 ^ j.toNat)
def rAnd : R2 := rI0 fun i j => .int (Builtin.bitAnd i j)
def rOr : R2 := rI0 fun i j => .int (Builtin.bitOr i j)
def rXor : R2 := rI0 fun i j => .int (Builtin.bitXor i j)
def rLt : R2 := rI0 fun i j => .bl (decide (i < j))
def rLe : R2 := rI0 fun i j => .bl (decide (i ≤ j))
def rGt : R2 := rI0 fun i j => .bl (decide (j < i))
def rGe : R2 := rI0 fun i j => .bl (decide (j ≤ i))
def rNeg : V → Hp → VK → Prop := rU fun i => .int (-i)
section
variable {X : Cx}
theorem o_add : OpR X (binaryOp .Add) rAdd := op_add
theorem o_sub : OpR X (binaryOp .Sub) rSub := op_sub
theorem o_mul : OpR X (binaryOp .Mult) rMul := opI fun _ _ _ _ _ _ _ hc q => PyProof.Rows.mul_int q hc
theorem o_div : OpR X (binaryOp .FloorDiv) rDiv := opI fun i j _ _ _ _ _ hc q => by
  have h1 : (0 : Int) < j := hc.1
  exact PyProof.Rows.floordiv_int (by omega) (by rw [Int.fdiv_eq_ediv_of_nonneg i (by omega)]; exact q) (.inl hc.2)
theorem o_mod : OpR X (binaryOp .Mod) rMod := op_mod
theorem o_pow : OpR X (binaryOp .Pow) rPow := opI fun _ _ _ _ _ _ _ hc q => PyProof.Rows.pow_int hc.1 hc.2 q
theorem o_shl : OpR X (binaryOp .LShift) rShl := op_shlW
theorem o_shr : OpR X (binaryOp .RShift) rShr := op_shr
theorem o_and : OpR X (binaryOp .BitAnd) rAnd := op_and
theorem o_or : OpR X (binaryOp .BitOr) rOr := op_or
theorem o_xor : OpR X (binaryOp .BitXor) rXor := op_xor
theorem o_lt : OpR X (compareOp .Lt) rLt := op_lt
theorem o_le : OpR X (compareOp .LtE) rLe := op_le
theorem o_gt : OpR X (compareOp .Gt) rGt := op_gt
theorem o_ge : OpR X (compareOp .GtE) rGe := op_ge
theorem o_neg : UnR X (unaryOp .USub) rNeg := un_neg
end
section
variable {H : Hp} {Q : VK} {n m : Int}
theorem rd_add (q : Q (.int (n + m)) H) : rAdd (.int n) (.int m) H Q := ⟨n, m, rfl, rfl, q⟩
theorem rd_subI (q : Q (.int (n - m)) H) : rSub (.int n) (.int m) H Q := ⟨n, m, rfl, rfl, q⟩
theorem rd_mul (h : IntMulOk n m) (q : Q (.int (n * m)) H) : rMul (.int n) (.int m) H Q := ⟨n, m, rfl, rfl, h, q⟩
theorem rd_div (h : oDiv n m) (q : Q (.int (n / m)) H) : rDiv (.int n) (.int m) H Q := ⟨n, m, rfl, rfl, h, q⟩
theorem rd_mod (h : 0 < m) (q : Q (.int (n % m)) H) : rMod (.int n) (.int m) H Q := ⟨n, m, rfl, rfl, h, q⟩
theorem rd_pow (h : oPow n m) (q : Q (.int (n ^ m.toNat)) H) : rPow (.int n) (.int m) H Q := ⟨n, m, rfl, rfl, h, q⟩
theorem rd_shl (h : CShl n m) (q : Q (.int (n * 2 ^ m.toNat)) H) : rShl (.int n) (.int m) H Q := ⟨n, m, rfl, rfl, h, q⟩
theorem rd_shr (h : 0 ≤ m) (q : Q (.int (n / 2 ^ m.toNat)) H) : rShr (.int n) (.int m) H Q := ⟨n, m, rfl, rfl, h, q⟩
theorem rd_andI (q : Q (.int (Builtin.bitAnd n m)) H) : rAnd (.int n) (.int m) H Q := ⟨n, m, rfl, rfl, q⟩
theorem rd_orI (q : Q (.int (Builtin.bitOr n m)) H) : rOr (.int n) (.int m) H Q := ⟨n, m, rfl, rfl, q⟩
theorem rd_xorI (q : Q (.int (Builtin.bitXor n m)) H) : rXor (.int n) (.int m) H Q := ⟨n, m, rfl, rfl, q⟩
theorem rd_lt (q : Q (.bl (decide (n < m))) H) : rLt (.int n) (.int m) H Q := ⟨n, m, rfl, rfl, q⟩
theorem rd_le (q : Q (.bl (decide (n ≤ m))) H) : rLe (.int n) (.int m) H Q := ⟨n, m, rfl, rfl, q⟩
theorem rd_gt (q : Q (.bl (decide (m < n))) H) : rGt (.int n) (.int m) H Q := ⟨n, m, rfl, rfl, q⟩
theorem rd_ge (q : Q (.bl (decide (m ≤ n))) H) : rGe (.int n) (.int m) H Q := ⟨n, m, rfl, rfl, q⟩
theorem rd_neg (q : Q (.int (-n)) H) : rNeg (.int n) H Q := ⟨n, rfl, q⟩
end
theorem mul_okL {n m : Int} (h1 : -(2 ^ 64) < n) (h2 : n < 2 ^ 64) : IntMulOk n m := .of_left (intBits_le_64 h1 h2)
theorem mul_okR {n m : Int} (h1 : -(2 ^ 64) < m) (h2 : m < 2 ^ 64) : IntMulOk n m := .of_right (intBits_le_64 h1 h2)
theorem div_ok {n m : Int} {k : Nat} (h : 0 < m) (hm : m.natAbs < 2 ^ k) (hk : k ≤ 9000) (hp : 0 < k) : oDiv n m := ⟨h, PyProof.noPylong_of_log2 (Nat.lt_of_lt_of_le (PySem.Flt.log2_lt_of hp hm) hk)⟩
theorem div_ok64 {n m : Int} (h : 0 < m) (hm : m < 2 ^ 64) : oDiv n m := div_ok (k := 64) h (by omega) (by decide) (by decide)
end Eng

/-! Ext: rules that the layer lacks: calls by keywords alone, t[::-1] of a tuple. -/
namespace Eng
open PySem PySem.Spec PyProof.Rows L2
section
variable {X : Cx} {CX : CXT} {k : Nat} {f : Addr} {fd : FuncData} {ps ks : List Str} {sp : Sp} {E : XK} {x : Str} {p pos : Pos} {kws : List Keyword} {tk : TA} {g : List Value → List Value} {gV : List V → List V} {n : Nat}
/-- f(k = v, ..): how the keywords' values come to the parameters -/
structure KB0 (K : PySem.W.Frag) (fd : FuncData) (ps ks : List Str) (g : List Value → List Value) (gV : List V → List V) : Prop where
  to : ∀ (s : Shared) (ws : List Value), K.In s.heap → ws.length = ks.length → BindsTo s fd ⟨[], ks.zip ws⟩ (ps.zip (g ws))
  rel : ∀ {zs : List V} {ws : List Value}, Vals zs ws → Vals (gV zs) (g ws)
def tKw (n : Nat) (sp : Sp) (gV : List V → List V) (E : XK) (tk : TA) : TE := fun σ H Q => tk σ H fun zs H1 => zs.length = n ∧ sp (gV zs) H1 Q E
theorem pe_kw (F : FnOk X.prog X.w X.K X.mg X.base CX k f fd ps sp) (hr : Room k X.A) (hg : Gl X x) (hm : X.mg x = some (.ref f)) (hk : PySem.W.keepIn X.K (.ref f) = true) (hb : KB0 X.K fd ps ks g gV) (hx : Passes CX X E)
    (hkw : PK X kws tk) (hall : (backToKw pos (keywordEach kws X.env)).all (·.1.isSome) = true := by rfl) (hks : (backToKw pos (keywordEach kws X.env)).filterMap (·.1) = ks := by rfl)
    (hdb : (x == ("__debug__" : Str)) = false := by decide)
    (hpl : ((backTo pos (starEach [] X.env)).any (·.1) || (backToKw pos (keywordEach kws X.env)).any (·.1.isNone)) = false := by rfl) (hn : n = ks.length := by rfl) :
    PE X (.Call (.Name x p) [] kws pos) (tKw n sp gV E tk) := by
  refine ⟨fun pins s σ H Q I h => ?_⟩
  refine wpAny_Call_Name_kw (ld_glob I hg hm ?_ hdb)
  refine PySem.W.callWith_KW0 (h₀ := X.base) I.ok.mod.kin hk hall (thn (hkw.run pos pins s σ H _ I h) fun ws s2 ⟨zs, H2, I2, rz, l2, q2⟩ => ⟨I2.kIn, ?_⟩) hpl
  rw [hks]
  have r2 := hb.rel rz
  show wpAny _ _ (call (.ref f) [] (ks.zip ws)) _ _ _
  refine wpAny_call (codeAny_mono (F.run X.A X.stack s2 H2 ⟨[], ks.zip ws⟩ (g ws) (gV zs) Q E hr I2.env0 (hb.to s2 ws I2.kIn (rz.length.symm.trans (l2.trans hn))) r2 q2) fun r s' hq => ?_)
  cases r with
  | error e => exact hx pins σ H2 s2 e s' I2 hq
  | ok fl =>
    cases fl with
    | ret u => exact I2.after hq
    | next => exact False.elim hq
    | brk => exact False.elim hq
    | cont => exact False.elim hq
end
/-! ### t[::-1] -/
theorem adj_rev (n : Nat) : Builtin.Slice.sliceAdjust none none (-1) (n : Int) = ((n : Int) - 1, -1) := by
  unfold Builtin.Slice.sliceAdjust
  simp
theorem places_rev (n : Nat) : Builtin.Slice.slicePlaces ((n : Int) - 1) (-1) (-1) = n := by
  unfold Builtin.Slice.slicePlaces
  have h1 : ¬ ((-1 : Int) > 0) := by omega
  simp only [h1, if_false]
  have e : (-(-1) : Int) = 1 := by decide
  rw [e, Int.ediv_one]
  split <;> omega
theorem fm_congr {α β : Type} {f g : α → Option β} : ∀ {l : List α}, (∀ m ∈ l, f m = g m) → l.filterMap f = l.filterMap g
  | [], _ => rfl
  | a :: l, h => by
    rw [List.filterMap_cons, List.filterMap_cons, h a List.mem_cons_self, fm_congr fun m hm => h m (List.mem_cons_of_mem _ hm)]
theorem fm_all {α : Type} : ∀ (ys : List α), List.filterMap (fun m => ys[m]?) (List.range ys.length) = ys
  | [] => rfl
  | y :: ys => by
    rw [List.length_cons, List.range_succ_eq_map, List.filterMap_cons]
    have e : (y :: ys)[0]? = some y := rfl
    rw [e, List.filterMap_map]
    have e2 : ((fun m => (y :: ys)[m]?) ∘ Nat.succ) = fun m => ys[m]? := by funext m; simp
    show y :: List.filterMap ((fun m => (y :: ys)[m]?) ∘ Nat.succ) (List.range ys.length) = y :: ys
    rw [e2, fm_all ys]
theorem getElem?_rev (xs : List Value) (m : Nat) (h : m < xs.length) : xs[xs.length - 1 - m]? = xs.reverse[m]? := by
  rw [List.getElem?_reverse h]
theorem pick_rev (xs : Array Value) : ((List.range xs.size).filterMap fun (m : Nat) => xs[(((xs.size : Int) - 1) + (m : Int) * (-1)).toNat]?).toArray = xs.toList.reverse.toArray := by
  congr 1
  have e : ∀ m ∈ List.range xs.size, (fun (m : Nat) => xs[(((xs.size : Int) - 1) + (m : Int) * (-1)).toNat]?) m = (fun m => xs.toList.reverse[m]?) m := fun m hm => by
    have hm' : m < xs.size := List.mem_range.mp hm
    have e1 : (((xs.size : Int) - 1) + (m : Int) * (-1)).toNat = xs.toList.length - 1 - m := by rw [Array.length_toList]; omega
    show xs[(((xs.size : Int) - 1) + (m : Int) * (-1)).toNat]? = xs.toList.reverse[m]?
    rw [e1, ← getElem?_rev xs.toList m (by rw [Array.length_toList]; exact hm')]
    simp
  rw [fm_congr e]
  have hl : xs.size = xs.toList.reverse.length := by rw [List.length_reverse, Array.length_toList]
  rw [hl]
  exact fm_all _
section
variable {prog : Program} {w : World} {A : Around} {E : Value → Shared → Prop} {s : Shared}
theorem sliceApplied_rev {sl : Addr} {vs : Value} {n : Nat} {Q : Int × Int × Nat → Shared → Prop} (hs : s.heap.IsSliceOf sl .none .none vs) (ps : IsPart vs (some (-1)))
    (h : Q ((n : Int) - 1, -1, n) s) : wpAny (model prog w) A (Builtin.Slice.sliceApplied (.ref sl) (pure (n : Int))) Q E s := by
  obtain ⟨os, hos, hcs, hds⟩ := id hs
  unfold Builtin.Slice.sliceApplied Builtin.Slice.sliceFields
  refine wpAny_bind (wpAny_bind (wpAny_field hos hds (x := .none) rfl (wpAny_bind (wpAny_field hos hds (x := .none) rfl (wpAny_bind (wpAny_field hos hds (x := vs) rfl (wpAny_pure ?_)))))))
  refine wpAny_bind (HT.slicePart_ ps ?_)
  show wpAny _ _ (if ((-1 : Int) == 0) = true then _ else _) _ _ s
  rw [if_neg (by decide)]
  refine wpAny_bind (HT.slicePart_ .none (wpAny_bind (HT.slicePart_ .none (wpAny_bind (wpAny_pure ?_)))))
  show wpAny _ _ (match Builtin.Slice.sliceAdjust none none (-1) (n : Int) with | (lo, hi) => pure (lo, (-1 : Int), Builtin.Slice.slicePlaces lo hi (-1))) _ _ s
  rw [adj_rev n]
  show wpAny _ _ (pure ((n : Int) - 1, (-1 : Int), Builtin.Slice.slicePlaces ((n : Int) - 1) (-1) (-1))) _ _ s
  rw [places_rev]
  exact wpAny_pure h
theorem getItem_tuple_rev {t sl : Addr} {items : Array Value} {vs : Value} {Q : Value → Shared → Prop} (ht : IsTup s.heap t items) (hs : s.heap.IsSliceOf sl .none .none vs) (ps : IsPart vs (some (-1)))
    (h : Q (.ref s.heap.objs.size) { s with heap := s.heap.push { cls := .type "tuple", data := .seq items.toList.reverse.toArray } }) (hsz : items.size ≤ sizeLine) : wpAny (model prog w) A (getItem (.ref t) (.ref sl)) Q E s := by
  have htake : sizeOk (.seq items.toList.reverse.toArray) := by
    show items.toList.reverse.toArray.size ≤ sizeLine
    rw [List.size_toArray, List.length_reverse, Array.length_toList]
    exact hsz
  obtain ⟨os, hos, hcs, hds⟩ := id hs
  have hTs : s.TypeIs (.ref sl) "slice" := ⟨os, hos, hcs⟩
  unfold getItem
  try with_reducible refine wpAny_holding ?_
  first | refine wpAny_bind (wpAny_pure ?_) | skip
  refine wpAny_bind (wpAny_sequenceKey ht.typeIs (by decide) ?_)
  refine wpAny_bind (wpAny_callSpecial?_slot (name := Str.ofString "__getitem__") ht.typeIs PyProof.Rows.slot_tuple_getitem
    (wpAny_call_entry PyProof.Rows.slot_tuple_getitem ht.typeIs entry_tuple_getitem ?_ (args_tuple_getitem _ _)))
  show wpAny _ _ (Builtin.Tuple.tupleItemsOf (.ref t) >>= _) _ _ s
  refine wpAny_bind (tupleItemsOf_ ht ?_)
  refine wpAny_bind (wpAny_typeOf hTs ?_)
  rw [if_pos (by decide)]
  refine wpAny_bind (sliceApplied_rev hs ps ?_)
  have hno : ¬ ((((items.size : Int) - 1) == 0 && (-1 : Int) == 1 && items.size == items.size) = true) := by simp
  show wpAny _ _ (if (((items.size : Int) - 1) == 0 && (-1 : Int) == 1 && items.size == items.size) = true then _ else _) _ _ s
  rw [if_neg hno, pick_rev]
  first
    | exact wpAny_bind (m := Builtin.Tuple.tupleExact _) (wpAny_newObj_type (wpAny_pure ⟨_, rfl, wpAny_pure h⟩) htake)
    | exact wpAny_bind (m := Builtin.Tuple.tupleExact _) (wpAny_newObj_type (wpAny_bind (wpAny_pure (wpAny_pure ⟨_, rfl, wpAny_pure h⟩))) htake)
    | exact wpAny_bind (wpAny_bind (m := Builtin.Tuple.tupleExact _) (wpAny_newObj_type (wpAny_pure (wpAny_pure ⟨_, rfl, wpAny_pure h⟩)) htake))
    | exact wpAny_bind (wpAny_bind (m := Builtin.Tuple.tupleExact _) (wpAny_newObj_type (wpAny_pure ⟨_, rfl, wpAny_pure h⟩) htake))
end
section
variable {X : Cx}
def kRevT (K : PySem.W.Frag) (Q : VK) : VK := fun x H1 => ∃ a xs, x = .ref a ∧ SqT K H1 a xs ∧ ∀ p, H1 p = none → Q (.ref p) (upd H1 p (.tup xs.reverse))
def tRevT (K : PySem.W.Frag) (te : TE) : TE := fun σ H Q => te σ H (kRevT K Q)
theorem pe_revT {e : Expr} {te : TE} {k : Nat} {p1 p2 p3 pos : Pos} (he : PE X e te) : PE X (.Subscript e (.Slice none none (some (.UnaryOp .USub (.Constant (.int 1) k p1) p2)) p3) pos) (tRevT X.K te) := by
  refine ⟨fun pins s σ H Q I h => ?_⟩
  refine Subscript_ (thn (he.run pins s σ H _ I h) fun v s1 ⟨x, H1, I1, r1, q1⟩ => ?_)
  obtain ⟨a, xs, ex, hx, q⟩ := q1
  subst ex
  cases r1
  have hst : PO X (some (.UnaryOp .USub (.Constant (.int 1) k p1) p2)) (tPart (tUn (rU fun i => .int (-i)) (tC (.int 1)))) := po_some (pe_un un_neg pe_int)
  refine wpAny_Slice ?_
  rw [evalPart_none]
  refine wpAny_pure ?_
  refine wpAny_pure ?_
  refine thn (hst.run pins s1 σ H1 (fun o H4 => o = some (-1) ∧ H4 = H1) I1 ⟨1, rfl, -1, rfl, rfl, rfl⟩) fun vs s4 ⟨o, H4, I4, ps, eo, e4⟩ => ?_
  subst eo e4
  have I5 : Inv X pins σ H4 { s4 with heap := s4.heap.push { cls := .type "slice", data := .fields #[.none, .none, vs] } } := I4.kept (t' := s4.toks) fun b ob q => Heap.get?_push_of_some _ q
  obtain ⟨its, r, ht, hz⟩ := I5.tuple hx
  have hlen := r.length
  show wpAny (model X.prog X.w) X.A (subscriptTail e (.Slice none none (some (.UnaryOp .USub (.Constant (.int 1) k p1) p2)) p3) (.ref a) (.ref s4.heap.objs.size)) (EP X pins σ Q) X.xe { s4 with heap := s4.heap.push { cls := .type "slice", data := .fields #[.none, .none, vs] } }
  refine tail_any (ops := [.ref a, .ref s4.heap.objs.size]) ht.typeIs (PyProof.Rows.slot_tuple_getitem.lookup) ?_ (by with_unfolding_all rfl)
  refine getItem_tuple_rev ht (Heap.IsSliceOf.new _ .none .none vs) ps ?_ (by rw [List.size_toArray]; omega)
  refine ⟨.ref _, _, I5.laid (t' := s4.toks) (o := .tup xs.reverse) (fun b ob q => Heap.get?_push_of_some _ q) (Nat.le_refl _) ?_, rfl, q _ (I5.hok.fresh (Nat.le_refl _))⟩
  exact ⟨by rw [List.length_reverse]; exact hz, _, r.reverse, IsTup.new _ _⟩
end
section
variable {K : PySem.W.Frag} {σ : L2.St} {H H0 : Hp} {Q : VK} {te : TE} {a : Addr} {xs : List V} {M : List Addr} {L : List (Addr × HO)} {tl : TA} {n : Nat} {sp : Sp} {gV : List V → List V} {E : XK}
theorem rd_revT (q : te σ H (kRevT K Q)) : tRevT K te σ H Q := q
theorem rd_kRevT (W : Wd H0 H M L) (h : SqT K H a xs) (q : ∀ p H', H0 p = none → Wd H0 H' M ((p, .tup xs.reverse) :: L) → Q (.ref p) H') : kRevT K Q (.ref a) H :=
  ⟨a, xs, rfl, h, fun p hp => q p _ (W.fresh hp) (W.new hp)⟩
theorem rd_kw (q : tl σ H fun zs H1 => zs.length = n ∧ sp (gV zs) H1 Q E) : tKw n sp gV E tl σ H Q := q
end
end Eng

/-! Own: == and != by an own __eq__, whatever it answers. -/
namespace Eng
open PySem PySem.Spec PyProof.Rows L2
/-- x == y by the promise sp of the class's own __eq__ -/
def rOwnEq (K : PySem.W.Frag) (C : Addr) (sp : Sp) (E : XK) : R2 := fun x y H Q => ∃ a dx fs tb, x = .ref a ∧ H a = some (.ins C dx fs) ∧ TyX K H y tb ∧ PySem.W.notFirst K C tb = true ∧ sp [x, y] H (fun v H' => ∃ b, v = .bl b ∧ Q (.bl b) H') E
/-- x != y of two of the class -/
def rOwnNe (K : PySem.W.Frag) (C : Addr) (sp : Sp) (E : XK) : R2 := fun x y H Q => ∃ a dx fs a' dx' fs', x = .ref a ∧ y = .ref a' ∧ H a = some (.ins C dx fs) ∧ H a' = some (.ins C dx' fs') ∧ sp [x, y] H (fun v H' => ∃ b, v = .bl b ∧ Q (.bl (!b)) H') E
/-- what the top tells of a class with an own __eq__ and no __ne__ -/
structure NeTxt (K : PySem.W.Frag) (C f : Addr) : Prop where
  ex : ∃ (nm q : Str) (N : Addr) (bs : List Value) (hdct : Bool) (sn : List Str) (sub : List Value) (ab : Bool) (col : Option Bool) (dd : Option Addr) (k0 k1 k2 k3 k5 : Option Value) (newId : String) (oN : Obj) (es : Array DictEntry) (ep : Nat),
    K.lookup C = some (excClassObj nm q C N bs [.type "object"] hdct sn sub ab col dd k0 k1 k2 k3 k5 newId) ∧ K.lookup N = some oN ∧ oN.data = .dict es ep ∧ StrKeys es ∧ nsFind es "__eq__" = some (.ref f) ∧ nsFind es "__ne__" = none
  fn : ∃ fo, K.lookup f = some fo ∧ fo.cls = .type "function"
section
variable {X : Cx} {CX : CXT} {n : Nat} {C f : Addr} {fd : FuncData} {ps : List Str} {sp : Sp} {E : XK} {pins : List (Addr × Obj)} {σ : L2.St} {H : Hp} {s : Shared}
theorem run_own {A : Around} {x y : V} {u v : Value} {Q : VK} (F : FnOk X.prog X.w X.K X.mg X.base CX n f fd ps sp) (sb : Sub X n A) (hb : Binds X.K fd ps []) (hx : Passes CX X E) (I : Inv X pins σ H s) (rx : RelV x u) (ry : RelV y v)
    (h : sp [x, y] H Q E) : wpAny (model X.prog X.w) A (call (.ref f) [u, v]) (fun z s' => EP X pins σ Q z s') X.xe s := by
  have e0 : Env0 X.prog X.w X.K X.mg X.base A X.stack s H := by
    have e := I.env0
    exact ⟨by rw [sb.fr]; exact e.frames, e.mod, e.bs, e.bsz, e.funs, e.frf, e.hok, e.bare⟩
  have hl := F.len _ _ _ _ h
  have r2 : Vals [x, y] [u, v] := .cons rx (.cons ry .nil)
  refine wpAny_call (codeAny_mono (F.run A X.stack s H ⟨[u, v], []⟩ [u, v] [x, y] _ E sb.room e0 (by
    have := hb s [u, v] I.kIn (by simpa using hl)
    simpa using this) r2 h) fun r s' hq => ?_)
  cases r with
  | error e => exact hx pins σ H s e s' I hq
  | ok fl =>
    cases fl with
    | ret w => exact I.after hq
    | next => exact False.elim hq
    | brk => exact False.elim hq
    | cont => exact False.elim hq
theorem o_ownEq (F : FnOk X.prog X.w X.K X.mg X.base CX n f fd ps sp) (hr : Room n X.A) (hs : PySem.W.findIn X.K (.ref C) "__eq__" = some (some (.ref f))) (hf : PySem.W.isFn X.K (.ref f) = true) (hb : Binds X.K fd ps []) (hx : Passes CX X E) :
    OpR X (compareOp .Eq) (rOwnEq X.K C sp E) := by
  intro pins s σ H x y u v Q I rx ry h
  obtain ⟨a, dx, fs, tb, rfl, ha, ty, hn, h⟩ := h
  cases rx
  obtain ⟨P, Z, p, _⟩ := kit_of I ry ty
  obtain ⟨mA, J, _⟩ := ins_get I.hok ha
  obtain ⟨od, J, _⟩ := J.look
  obtain ⟨m, hF⟩ := I.fr
  show wpAny (model X.prog X.w) X.A (richCompare .Eq (.ref a) v) (EP X pins σ Q) X.xe s
  refine PySem.W.cmp_K (op := .Eq) (tb := tb) hr.units0 hF I.ok.mod.kin J (Z.ty _ _ I.kIn p) hn hs hf ?_
  refine wpAny_mono (run_own F ⟨hr, rfl⟩ hb hx I (x := .ref a) rfl ry h) (fun z s' hz => ?_) fun _ _ e => e
  obtain ⟨zv, H', I', rz, b, rfl, q⟩ := hz
  cases rz
  exact ⟨.bl b, H', I', rfl, q⟩
theorem o_ownNe (T : NeTxt X.K C f) (F : FnOk X.prog X.w X.K X.mg X.base CX n f fd ps sp) (hr : Room (n + 1) X.A) (hb : Binds X.K fd ps []) (hx : Passes CX X E) :
    OpR X (compareOp .NotEq) (rOwnNe X.K C sp E) := by
  intro pins s σ H x y u v Q I rx ry h
  obtain ⟨a, dx, fs, a', dx', fs', rfl, rfl, ha, ha', h⟩ := h
  cases rx
  cases ry
  obtain ⟨_, _, _, e1, _⟩ := (show ObjOk X.prog X.w H s.heap a (.ins C dx fs) from I.hok a _ ha)
  obtain ⟨_, _, _, e2, _⟩ := (show ObjOk X.prog X.w H s.heap a' (.ins C dx' fs') from I.hok a' _ ha')
  obtain ⟨nm, q, N, bs, hdct, sn, sub, ab, col, dd, k0, k1, k2, k3, k5, newId, oN, es, ep, lC, lN, hd, hk, h1, h2⟩ := T.ex
  obtain ⟨fo, lf, hfo⟩ := T.fn
  have XX : s.heap.OwnEqNoNe a C f "object" [.type "object"] :=
    ⟨_, fo, nm, q, N, bs, hdct, sn, sub, ab, col, dd, k0, k1, k2, k3, k5, newId, nsFind es, some (.builtin "object.__eq__"), e1, rfl, I.kIn _ _ lC, ⟨oN, es, ep, I.kIn _ _ lN, hd, hk, fun _ => rfl⟩, h1, I.kIn _ _ lf, hfo, PySem.F.cmp_object.mro, PySem.F.cmp_object.eq.lookup, h2⟩
  obtain ⟨hp, g, d, t, os⟩ := s
  have hu : X.A.units + 1 < cLine := hu_of hr
  refine compareOp_ne_ownEq PySem.F.cmp_object XX e2 rfl hu ?_
  refine wpAny_mono (run_own F ⟨hr.in1, rfl⟩ hb hx I (x := .ref a) (y := .ref a') rfl rfl h) (fun z s' hz => ?_) fun _ _ e => e
  obtain ⟨zv, H', I', rz, b, rfl, q⟩ := hz
  cases rz
  exact ⟨b, rfl, .bl (!b), H', I', rfl, q⟩
end
section
variable {K : PySem.W.Frag} {C a a' dx dx' : Addr} {fs fs' : List (Str × V)} {sp : Sp} {E : XK} {H : Hp} {Q : VK} {y : V} {tb : Value}
theorem rd_ownEq (h : H a = some (.ins C dx fs)) (ty : TyX K H y tb) (hn : PySem.W.notFirst K C tb = true) (q : sp [.ref a, y] H (fun v H' => ∃ b, v = .bl b ∧ Q (.bl b) H') E) : rOwnEq K C sp E (.ref a) y H Q := ⟨a, dx, fs, tb, rfl, h, ty, hn, q⟩
theorem rd_ownNe (h : H a = some (.ins C dx fs)) (h' : H a' = some (.ins C dx' fs')) (q : sp [.ref a, .ref a'] H (fun v H' => ∃ b, v = .bl b ∧ Q (.bl (!b)) H') E) : rOwnNe K C sp E (.ref a) (.ref a') H Q := ⟨a, dx, fs, a', dx', fs', rfl, rfl, h, h', q⟩
end
/-! ### any(xs) of integers; max, min of two -/
def rAnyI (K : PySem.W.Frag) : List V → Hp → VK → Prop := fun vs H Q => ∃ (a : Addr) (ns : List Int), vs = [V.ref a] ∧ SqL K H a (ns.map V.int) ∧ Q (.bl (ns.any fun n => n != 0)) H
def rMax2 : List V → Hp → VK → Prop := fun xs H Q => ∃ i j, xs = [.int i, .int j] ∧ Q (.int (if j > i then j else i)) H
def rMin2 : List V → Hp → VK → Prop := fun xs H Q => ∃ i j, xs = [.int i, .int j] ∧ Q (.int (if j < i then j else i)) H
theorem ints_of : ∀ {ns : List Int} {us : List Value}, Vals (ns.map V.int) us → ∀ (i : Nat) v, us[i]? = some v → ∃ n t, ns[i]? = some n ∧ v = .int n t
  | [], _, .nil, i, v, h => by simp at h
  | n :: ns, _, .cons r t, 0, v, h => by
    obtain ⟨k, e⟩ := r
    have : v = .int n k := by simpa [e] using h.symm
    exact ⟨n, k, rfl, this⟩
  | n :: ns, _, .cons r t, i + 1, v, h => by
    obtain ⟨m, k, e1, e2⟩ := ints_of (ns := ns) t i v (by simpa using h)
    exact ⟨m, k, by simpa using e1, e2⟩
theorem truth_ints {prog : Program} {w : World} {A : Around} {ns : List Int} {its : List Value} (r : Vals (ns.map V.int) its) :
    TruthOf prog w A (fun i v => its.toArray[i]? = some v) (fun i => (ns.map fun n => n != 0).getD i false) := fun i v s Q E hv hq => by
  have hv' : its[i]? = some v := by simpa using hv
  obtain ⟨n, t, hn, rfl⟩ := ints_of r i v hv'
  have hg : (ns.map fun n => n != 0).getD i false = (n != 0) := by rw [List.getD_eq_getElem?_getD, List.getElem?_map, hn] <;> rfl
  have hq' : Q ((ns.map fun n => n != 0).getD i false) s := hq
  rw [hg] at hq'
  exact PySem.P.truthy_int hq'
section
variable {X : Cx}
theorem c_anyI (hc : X.calm = true) : CallR X (.builtin "any") (rAnyI X.K) := by
  intro pins s σ H vs us Q I r h
  obtain ⟨a, ns, rfl, hs, q⟩ := h
  obtain ⟨its, rv, hl, _⟩ := I.list hs
  rw [Vals.ref1 r]
  refine call_any_walk (iter_any hl.isList fun s₂ e2 st hne => ?_)
  subst e2
  refine ⟨_, _, _, _, _, _, _, rfl, Walks.list (A := X.A.in1) (I.ok.hd hc) _ a hne its.toArray, st, truth_ints rv, fun h' tk hk => ?_⟩
  refine ⟨.bl _, H, I.kept fun b o eo => hk b o (fun hmem => ?_) (Heap.get?_push_of_some _ eo), ?_, q⟩
  · rcases List.mem_cons.mp hmem with e1 | hmem
    · exact absurd (e1 ▸ Heap.lt_size eo) (Nat.lt_irrefl _)
    · cases hmem
  · show Value.bool _ = Value.bool _
    have e : (ns.any fun n => n != 0) = (ns.map fun n => n != 0).any id := by rw [List.any_map]; rfl
    have el := rv.length
    rw [List.length_map] at el
    rw [e, ← L2.any_range, List.size_toArray, List.length_map, el]
theorem c_max (hc : X.calm = true) : CallR X (.builtin "max") rMax2 := call_max2 hc
theorem c_min (hc : X.calm = true) : CallR X (.builtin "min") rMin2 := call_min2 hc
theorem c_all (hc : X.calm = true) : CallR X (.builtin "all") (rAll X.K) := cr_all hc
end
section
variable {K : PySem.W.Frag} {H H0 : Hp} {Q : VK} {a : Addr} {ns : List Int} {bs : List Bool} {n m : Int} {M : List Addr} {L : List (Addr × HO)} {xs : List V}
theorem rd_anyI (h : SqL K H a (ns.map V.int)) (q : Q (.bl (ns.any fun n => n != 0)) H) : rAnyI K [.ref a] H Q := ⟨a, ns, rfl, h, q⟩
theorem rd_max (q : Q (.int (if m > n then m else n)) H) : rMax2 [.int n, .int m] H Q := ⟨n, m, rfl, q⟩
theorem rd_min (q : Q (.int (if m < n then m else n)) H) : rMin2 [.int n, .int m] H Q := ⟨n, m, rfl, q⟩
theorem rd_all (h : SqL K H a (bs.map V.bl)) (q : Q (.bl (bs.all id)) H) : rAll K [.ref a] H Q := ⟨a, bs, rfl, h, q⟩
/-- xs * k -/
theorem rd_rep (W : Wd H0 H M L) (h : H a = some (.lst xs)) (h1 : -(2 ^ 63) ≤ n) (h2 : n < 2 ^ 63) (h3 : xs.length * n.toNat ≤ sizeLine) (q : ∀ p H', H0 p = none → Wd H0 H' M ((p, .lst (List.replicate n.toNat xs).flatten) :: L) → Q (.ref p) H') : rRep (.ref a) (.int n) H Q :=
  ⟨a, n, xs, rfl, rfl, h, h1, h2, h3, fun p hp => q p _ (W.fresh hp) (W.new hp)⟩
end
end Eng

/-! Num: digits of naturals, plain mathematics. -/
namespace Eng
/-- without zeros at the end -/
def strip : List Nat → List Nat
  | [] => []
  | d :: ds => match strip ds with
    | [] => if d = 0 then [] else [d]
    | e :: es => d :: e :: es
theorem strip_nil : strip [] = [] := rfl
theorem strip_cons (d : Nat) (ds : List Nat) : strip (d :: ds) = if strip ds = [] then (if d = 0 then [] else [d]) else d :: strip ds := by
  show (match strip ds with | [] => if d = 0 then [] else [d] | e :: es => d :: e :: es) = _
  cases h : strip ds with
  | nil => simp
  | cons e es => simp
theorem strip_zeros : ∀ {ds : List Nat}, (∀ d ∈ ds, d = 0) → strip ds = []
  | [], _ => rfl
  | d :: ds, h => by
    rw [strip_cons, strip_zeros (fun x hx => h x (List.mem_cons_of_mem _ hx)), if_pos rfl, if_pos (h d List.mem_cons_self)]
theorem strip_app_zeros : ∀ (ds : List Nat) {zs : List Nat}, (∀ d ∈ zs, d = 0) → strip (ds ++ zs) = strip ds
  | [], zs, h => by rw [List.nil_append, strip_zeros h]; rfl
  | d :: ds, zs, h => by rw [List.cons_append, strip_cons, strip_cons, strip_app_zeros ds h]
theorem strip_app_ne : ∀ (ds : List Nat) {d : Nat}, d ≠ 0 → strip (ds ++ [d]) = ds ++ [d]
  | [], d, h => by rw [List.nil_append, strip_cons, strip_nil, if_pos rfl, if_neg h]
  | e :: ds, d, h => by rw [List.cons_append, strip_cons, strip_app_ne ds h, if_neg (by simp)]
theorem strip_length : ∀ ds : List Nat, (strip ds).length ≤ ds.length
  | [] => Nat.le_refl _
  | d :: ds => by
    have ih := strip_length ds
    rw [strip_cons]
    split
    · split <;> simp
    · simp; exact ih
theorem strip_mem : ∀ {ds : List Nat} {d : Nat}, d ∈ strip ds → d ∈ ds
  | [], _, h => h
  | e :: ds, d, h => by
    rw [strip_cons] at h
    split at h
    · split at h
      · cases h
      · rw [List.mem_singleton.mp h]; exact List.mem_cons_self
    · rcases List.mem_cons.mp h with z | z
      · rw [z]; exact List.mem_cons_self
      · exact List.mem_cons_of_mem _ (strip_mem z)
/-- in normal form -/
def Norm (ds : List Nat) : Prop := strip ds = ds
theorem strip_norm : ∀ ds : List Nat, Norm (strip ds)
  | [] => rfl
  | d :: ds => by
    unfold Norm
    have ih : strip (strip ds) = strip ds := strip_norm ds
    rw [strip_cons]
    by_cases h : strip ds = []
    · rw [if_pos h]
      by_cases h0 : d = 0
      · rw [if_pos h0]; rfl
      · rw [if_neg h0, strip_cons, strip_nil, if_pos rfl, if_neg h0]
    · rw [if_neg h, strip_cons, ih, if_neg h]
theorem Norm.tail {d : Nat} {ds : List Nat} (h : Norm (d :: ds)) : Norm ds := by
  unfold Norm at *
  rw [strip_cons] at h
  by_cases h1 : strip ds = []
  · rw [if_pos h1] at h
    by_cases h0 : d = 0
    · rw [if_pos h0] at h; cases h
    · rw [if_neg h0] at h
      have : ds = [] := by simpa using h.symm
      rw [this]; rfl
  · rw [if_neg h1] at h
    exact (List.cons.inj h).2
theorem Norm.last {ds : List Nat} (h : Norm ds) (hn : ds ≠ []) : ∃ es d, ds = es ++ [d] ∧ d ≠ 0 := by
  have e : ds = ds.dropLast ++ [ds.getLast hn] := (List.dropLast_concat_getLast hn).symm
  refine ⟨ds.dropLast, ds.getLast hn, e, fun z => ?_⟩
  unfold Norm at h
  have h2 : strip (ds.dropLast ++ [ds.getLast hn]) = ds := by rw [← e]; exact h
  rw [z, strip_app_zeros _ (by simp)] at h2
  have l := strip_length ds.dropLast
  rw [h2, List.length_dropLast] at l
  have : 0 < ds.length := List.length_pos_iff.mpr hn
  omega
/-- the value of a row of digits of b bits -/
def val (b : Nat) : List Nat → Nat
  | [] => 0
  | d :: ds => d + 2 ^ b * val b ds
theorem val_nil (b : Nat) : val b [] = 0 := rfl
theorem val_cons (b d : Nat) (ds : List Nat) : val b (d :: ds) = d + 2 ^ b * val b ds := rfl
theorem val_app (b : Nat) : ∀ (ds es : List Nat), val b (ds ++ es) = val b ds + 2 ^ (b * ds.length) * val b es
  | [], es => by simp [val]
  | d :: ds, es => by
    rw [List.cons_append, val_cons, val_cons, val_app b ds es, List.length_cons, Nat.mul_add, Nat.mul_add, Nat.mul_one, Nat.pow_add, Nat.add_assoc, Nat.mul_comm (2 ^ (b * ds.length)) (2 ^ b), Nat.mul_assoc]
theorem val_zeros (b : Nat) : ∀ {ds : List Nat}, (∀ d ∈ ds, d = 0) → val b ds = 0
  | [], _ => rfl
  | d :: ds, h => by rw [val_cons, val_zeros b (fun x hx => h x (List.mem_cons_of_mem _ hx)), h d List.mem_cons_self]; rfl
theorem val_strip (b : Nat) : ∀ ds : List Nat, val b (strip ds) = val b ds
  | [] => rfl
  | d :: ds => by
    have ih := val_strip b ds
    rw [strip_cons, val_cons]
    by_cases h : strip ds = []
    · rw [if_pos h]
      rw [h] at ih
      rw [← ih]
      by_cases h0 : d = 0
      · rw [if_pos h0, h0]; rfl
      · rw [if_neg h0]; rfl
    · rw [if_neg h, val_cons, ih]
/-- all below 2 ^ b -/
def Digs (b : Nat) (ds : List Nat) : Prop := ∀ d ∈ ds, d < 2 ^ b
theorem val_lt {b : Nat} : ∀ {ds : List Nat}, Digs b ds → val b ds < 2 ^ (b * ds.length)
  | [], _ => by simp [val]
  | d :: ds, h => by
    have ih := val_lt (b := b) (ds := ds) fun x hx => h x (List.mem_cons_of_mem _ hx)
    have hd := h d List.mem_cons_self
    rw [val_cons, List.length_cons, Nat.mul_add, Nat.mul_one, Nat.pow_add]
    have h1 : 2 ^ b * (val b ds + 1) ≤ 2 ^ b * 2 ^ (b * ds.length) := Nat.mul_le_mul_left _ ih
    rw [Nat.mul_add, Nat.mul_one] at h1
    rw [Nat.mul_comm (2 ^ (b * ds.length))]
    omega
/-- the digits of n -/
def digs (b n : Nat) : List Nat := if h : n = 0 ∨ b = 0 then [] else n % 2 ^ b :: digs b (n / 2 ^ b)
termination_by n
decreasing_by
  have hn : 0 < n := Nat.pos_of_ne_zero fun z => h (.inl z)
  have hb : 1 < 2 ^ b := Nat.one_lt_two_pow fun z => h (.inr z)
  exact Nat.div_lt_self hn hb
theorem digs_zero (b : Nat) : digs b 0 = [] := by rw [digs, dif_pos (.inl rfl)]
theorem digs_pos {b n : Nat} (hb : b ≠ 0) (hn : n ≠ 0) : digs b n = n % 2 ^ b :: digs b (n / 2 ^ b) := by
  rw [digs, dif_neg (fun z => z.elim hn hb)]
theorem digs_ind {b : Nat} (hb : b ≠ 0) {P : Nat → Prop} (h0 : P 0) (hs : ∀ n, n ≠ 0 → P (n / 2 ^ b) → P n) (n : Nat) : P n := by
  induction n using Nat.strongRecOn with
  | _ n ih =>
    by_cases hn : n = 0
    · rw [hn]; exact h0
    · exact hs n hn (ih _ (Nat.div_lt_self (Nat.pos_of_ne_zero hn) (Nat.one_lt_two_pow hb)))
theorem val_digs {b : Nat} (hb : b ≠ 0) (n : Nat) : val b (digs b n) = n := by
  refine digs_ind hb (P := fun n => val b (digs b n) = n) ?_ (fun n hn ih => ?_) n
  · rw [digs_zero]; rfl
  · rw [digs_pos hb hn, val_cons, ih]
    exact Nat.mod_add_div n (2 ^ b)
theorem digs_lt {b : Nat} (hb : b ≠ 0) (n : Nat) : Digs b (digs b n) := by
  refine digs_ind hb (P := fun n => Digs b (digs b n)) ?_ (fun n hn ih => ?_) n
  · rw [digs_zero]; intro d h; cases h
  · rw [digs_pos hb hn]
    intro d h
    rcases List.mem_cons.mp h with z | z
    · rw [z]; exact Nat.mod_lt _ (Nat.two_pow_pos b)
    · exact ih d z
theorem digs_norm {b : Nat} (hb : b ≠ 0) (n : Nat) : Norm (digs b n) := by
  refine digs_ind hb (P := fun n => Norm (digs b n)) ?_ (fun n hn ih => ?_) n
  · rw [digs_zero]; rfl
  · rw [digs_pos hb hn]
    unfold Norm at *
    rw [strip_cons, ih]
    by_cases h : digs b (n / 2 ^ b) = []
    · rw [if_pos h, h]
      have hv := val_digs hb (n / 2 ^ b)
      rw [h] at hv
      have hm := Nat.mod_add_div n (2 ^ b)
      rw [← hv, val_nil, Nat.mul_zero, Nat.add_zero] at hm
      rw [if_neg (by rw [hm]; exact hn)]
    · rw [if_neg h]
theorem digs_eq_nil {b n : Nat} (hb : b ≠ 0) : digs b n = [] ↔ n = 0 := by
  constructor
  · intro h
    have hv := val_digs hb n
    rw [h] at hv
    exact hv.symm
  · intro h; rw [h, digs_zero]
/-- rows in normal form are the digits of their value -/
theorem digs_val {b : Nat} (hb : b ≠ 0) : ∀ {ds : List Nat}, Digs b ds → Norm ds → digs b (val b ds) = ds
  | [], _, _ => by rw [val_nil, digs_zero]
  | d :: ds, hd, hn => by
    have h1 : d < 2 ^ b := hd d List.mem_cons_self
    have h2 : Digs b ds := fun x hx => hd x (List.mem_cons_of_mem _ hx)
    have ih := digs_val hb h2 hn.tail
    have hz : val b (d :: ds) ≠ 0 := fun z => by
      have e := (val_strip b (d :: ds)).symm
      obtain ⟨es, x, e1, e2⟩ := hn.last (by simp)
      rw [e1, val_app] at z
      have := Nat.two_pow_pos (b * es.length)
      have : 2 ^ (b * es.length) * val b [x] = 0 := by omega
      rcases Nat.mul_eq_zero.mp this with q | q
      · omega
      · rw [val_cons, val_nil, Nat.mul_zero, Nat.add_zero] at q
        exact e2 q
    rw [digs_pos hb hz]
    have e1 : val b (d :: ds) % 2 ^ b = d := by rw [val_cons, Nat.add_mul_mod_self_left, Nat.mod_eq_of_lt h1]
    have e2 : val b (d :: ds) / 2 ^ b = val b ds := by
      rw [val_cons, Nat.add_mul_div_left _ _ (Nat.two_pow_pos b), Nat.div_eq_of_lt h1, Nat.zero_add]
    rw [e1, e2, ih]
/-- the sign of an integer -/
def sgn (n : Int) : Int := if n < 0 then -1 else if n = 0 then 0 else 1
theorem sgn_mul (n : Int) : sgn n * (n.natAbs : Int) = n := by
  unfold sgn
  split
  · omega
  · split <;> omega
theorem digs_length_le {b : Nat} (hb : b ≠ 0) (n : Nat) {k : Nat} (h : n < 2 ^ (b * k)) : (digs b n).length ≤ k := by
  have key : ∀ (k n : Nat), n < 2 ^ (b * k) → (digs b n).length ≤ k := by
    intro k
    induction k with
    | zero =>
      intro n h
      rw [Nat.mul_zero, Nat.pow_zero] at h
      have : n = 0 := by omega
      rw [this, digs_zero]; exact Nat.le_refl _
    | succ k ih =>
      intro n h
      by_cases hn : n = 0
      · rw [hn, digs_zero]; exact Nat.zero_le _
      · rw [digs_pos hb hn, List.length_cons]
        refine Nat.succ_le_succ (ih _ ?_)
        rw [Nat.mul_add, Nat.mul_one, Nat.pow_add] at h
        exact Nat.div_lt_of_lt_mul (by rw [Nat.mul_comm]; exact h)
  exact key k n h
/-! ### bits -/
/-- how many bits of n are 1 -/
def pop (n : Nat) : Nat := if h : n = 0 then 0 else n % 2 + pop (n / 2)
termination_by n
decreasing_by omega
theorem pop_zero : pop 0 = 0 := by rw [pop, dif_pos rfl]
theorem pop_eq (n : Nat) : pop n = n % 2 + pop (n / 2) := by
  by_cases h : n = 0
  · rw [h, pop_zero]
  · rw [pop, dif_neg h]
theorem pop_bit (a k : Nat) (h : a < 2) : pop (a + 2 * k) = a + pop k := by
  rw [pop_eq]
  have e1 : (a + 2 * k) % 2 = a := by omega
  have e2 : (a + 2 * k) / 2 = k := by omega
  rw [e1, e2]
theorem and_pred_odd (k : Nat) : (2 * k + 1) &&& (2 * k) = 2 * k := by
  apply Nat.eq_of_testBit_eq
  intro i
  rw [Nat.testBit_and]
  cases i with
  | zero => simp
  | succ i =>
    have e : (2 * k + 1) / 2 = k := by omega
    have e1 : 2 * k / 2 = k := by omega
    rw [Nat.testBit_succ, Nat.testBit_succ, e, e1, Bool.and_self]
theorem and_pred_even (k : Nat) (hk : 0 < k) : (2 * k) &&& (2 * k - 1) = 2 * (k &&& (k - 1)) := by
  apply Nat.eq_of_testBit_eq
  intro i
  rw [Nat.testBit_and]
  cases i with
  | zero => simp
  | succ i =>
    rw [Nat.testBit_succ, Nat.testBit_succ, Nat.testBit_succ]
    have e1 : 2 * k / 2 = k := by omega
    have e2 : (2 * k - 1) / 2 = k - 1 := by omega
    have e3 : 2 * (k &&& (k - 1)) / 2 = k &&& (k - 1) := by omega
    rw [e1, e2, e3, Nat.testBit_and]
/-- the last 1 is left out -/
theorem pop_and (n : Nat) (h : 0 < n) : pop (n &&& (n - 1)) + 1 = pop n := by
  induction n using Nat.strongRecOn with
  | _ n ih =>
    by_cases ho : n % 2 = 1
    · obtain ⟨k, rfl⟩ : ∃ k, n = 2 * k + 1 := ⟨n / 2, by omega⟩
      rw [Nat.add_sub_cancel, and_pred_odd]
      have e1 := pop_bit 0 k (by decide)
      have e2 := pop_bit 1 k (by decide)
      rw [Nat.zero_add] at e1
      rw [Nat.add_comm] at e2
      rw [e1, e2]
      omega
    · obtain ⟨k, rfl⟩ : ∃ k, n = 2 * k := ⟨n / 2, by omega⟩
      have hk : 0 < k := by omega
      rw [and_pred_even k hk]
      have e1 := pop_bit 0 (k &&& (k - 1)) (by decide)
      have e2 := pop_bit 0 k (by decide)
      rw [Nat.zero_add] at e1 e2
      rw [e1, e2, Nat.zero_add, Nat.zero_add]
      exact ih k (by omega) hk
theorem and_pred_lt (n : Nat) (h : 0 < n) : n &&& (n - 1) < n := Nat.lt_of_le_of_lt Nat.and_le_right (by omega)
theorem pop_add : ∀ (b d m : Nat), d < 2 ^ b → pop (d + 2 ^ b * m) = pop d + pop m
  | 0, d, m, h => by
    have : d = 0 := by simpa using h
    rw [this, pop_zero, Nat.pow_zero, Nat.one_mul, Nat.zero_add, Nat.zero_add]
  | b + 1, d, m, h => by
    have e0 : d + 2 ^ (b + 1) * m = d % 2 + 2 * (d / 2 + 2 ^ b * m) := by
      rw [Nat.pow_succ, Nat.mul_add, ← Nat.mul_assoc, Nat.mul_comm 2 (2 ^ b)]
      omega
    have h2 : d / 2 < 2 ^ b := by rw [Nat.pow_succ] at h; omega
    rw [e0, pop_bit _ _ (Nat.mod_lt _ (by decide)), pop_add b (d / 2) m h2, pop_eq d, Nat.add_assoc]
theorem pop_digs {b : Nat} (hb : b ≠ 0) (n : Nat) : ((digs b n).map pop).sum = pop n := by
  refine digs_ind hb (P := fun n => ((digs b n).map pop).sum = pop n) ?_ (fun n hn ih => ?_) n
  · rw [digs_zero, pop_zero]; rfl
  · rw [digs_pos hb hn, List.map_cons, List.sum_cons, ih, ← pop_add b _ _ (Nat.mod_lt _ (Nat.two_pow_pos b)), Nat.mod_add_div]
theorem log2_app {b l : Nat} {v d : Nat} (hv : v < 2 ^ l) (hd : d ≠ 0) : (v + 2 ^ l * d).log2 = l + d.log2 := by
  have h1 : 2 ^ d.log2 ≤ d := Nat.log2_self_le hd
  have h2 : d < 2 ^ (d.log2 + 1) := Nat.lt_log2_self
  have hz : v + 2 ^ l * d ≠ 0 := by
    have := Nat.two_pow_pos l
    have : 0 < 2 ^ l * d := Nat.mul_pos this (Nat.pos_of_ne_zero hd)
    omega
  refine (Nat.log2_eq_iff hz).mpr ⟨?_, ?_⟩
  · rw [Nat.pow_add]
    exact Nat.le_trans (Nat.mul_le_mul_left _ h1) (Nat.le_add_left _ _)
  · rw [Nat.add_assoc, Nat.pow_add]
    have : 2 ^ l * (d + 1) ≤ 2 ^ l * 2 ^ (d.log2 + 1) := Nat.mul_le_mul_left _ h2
    rw [Nat.mul_add, Nat.mul_one] at this
    omega
/-- the rest by p, digit by digit from the top -/
theorem fold_mod (b p : Nat) (ds : List Nat) : ds.reverse.foldl (fun r d => (r * 2 ^ b + d) % p) 0 = val b ds % p := by
  rw [List.foldl_reverse]
  induction ds with
  | nil => show 0 = 0 % p; rw [Nat.zero_mod]
  | cons d ds ih =>
    rw [List.foldr_cons, ih, val_cons]
    rw [Nat.add_mod, Nat.mod_mul_mod, ← Nat.add_mod, Nat.add_comm, Nat.mul_comm]
end Eng

/-! Mach: integers and machines. -/
namespace Eng
open PySem L2
local macro_rules | `(tactic| walk_at "len") => `(tactic| first | decide | (simp only [List.length_cons, List.length_nil, List.length_append]; decide))
local macro_rules | `(tactic| walk_at "mem") => `(tactic| repeat (first | exact List.mem_cons_self | refine List.mem_cons_of_mem _ ?_ | refine List.mem_append_right _ ?_))
local macro_rules | `(tactic| walk_at "own") => `(tactic| first | assumption | (refine Wd.get (by assumption) ?_; walk_at "mem"))
local macro_rules | `(tactic| walk_at "rp") => `(tactic| repeat (first | exact Rp.here | apply Rp.there | apply Rp.app))
local macro_rules | `(tactic| walk_at "may") => `(tactic| first | exact Or.inl (by assumption) | exact Or.inr (by walk_at "mem"))
local macro_rules | `(tactic| walk_at "sq") => `(tactic| first | assumption | exact SqL.of (by walk_at "own") | exact SqT.of (by walk_at "own"))
local macro_rules | `(tactic| walk_at "ari") => `(tactic| first | assumption | omega | decide)
local macro_rules | `(tactic| walk_at "set") => `(tactic| repeat (first | exact Sets.here | apply Sets.there))
local macro_rules | `(tactic| walk_at "rd1") => `(tactic| first
  | with_reducible refine' rd_seq ?_
  | with_reducible refine' rd_asg ?_
  | ((with_reducible refine' rd_var ?h ?_); case h => exact rfl)
  | with_reducible refine' rd_c ?_
  | with_reducible refine' rd_op ?_
  | ((with_reducible refine' rd_name ?h ?_); case h => walk_at "set")
  | with_reducible refine' rd_cons ?_
  | with_reducible refine' rd_nil ?_
  | with_reducible refine' rd_add ?_
  | with_reducible refine' rd_subI ?_
  | ((with_reducible refine' rd_mod ?h ?_); case h => walk_at "ari")
  | with_reducible refine' rd_lt ?_
  | with_reducible refine' rd_le ?_
  | with_reducible refine' rd_gt ?_
  | with_reducible refine' rd_ge ?_
  | with_reducible refine' rd_eqI ?_
  | with_reducible refine' rd_neI ?_
  | with_reducible refine' rd_test ?_
  | with_reducible refine' rd_tB ?_
  | with_reducible refine' rd_kB ?_
  | with_reducible refine' rd_ret ?_
  | with_reducible refine' rd_retN ?_
  | with_reducible refine' rd_next ?_
  | with_reducible refine' rd_drop ?_
  | with_reducible refine' rd_ifS ?_
  | with_reducible refine' rd_ifE ?_
  | with_reducible refine' rd_call ?_
  | with_reducible refine' rd_cb ?_
  | with_reducible refine' rd_not ?_
  | with_reducible refine' rd_and ?_
  | with_reducible refine' rd_or ?_
  | with_reducible refine' rd_andV ?_
  | with_reducible refine' rd_orV ?_
  | with_reducible refine' rd_notV ?_
  | with_reducible refine' rd_un ?_
  | with_reducible refine' rd_neg ?_
  | with_reducible refine' rd_fld ?_
  | with_reducible refine' rd_tup ?_
  | with_reducible refine' rd_lst ?_
  | with_reducible refine' rd_bm ?_
  | ((with_reducible refine' rd_kBMl ?h ?_); case h => walk_at "own")
  | with_reducible refine' rd_meth ?_
  | with_reducible refine' rd_make ?_
  | with_reducible refine' rd_chain ?_
  | with_reducible refine' rd_int ?_
  | with_reducible refine' rd_intB ?_
  | with_reducible refine' rd_abs ?_
  | ((with_reducible refine' rd_lenL ?h ?_); case h => walk_at "sq")
  | ((with_reducible refine' rd_lenT ?h ?_); case h => walk_at "sq")
  | with_reducible refine' rd_sub ?_
  | with_reducible refine' rd_sl ?_
  | with_reducible refine' rd_noPart ?_
  | with_reducible refine' rd_part ?_
  | with_reducible refine' rd_kPart ?_
  | with_reducible refine' rd_for ?_
  | with_reducible refine' rd_iList ?_
  | with_reducible refine' rd_iTup ?_
  | with_reducible refine' rd_iR1 ?_
  | with_reducible refine' rd_iR2 ?_
  | ((with_reducible refine' rd_kIL ?h ?_); case h => walk_at "sq")
  | ((with_reducible refine' rd_kIT ?h ?_); case h => walk_at "sq")
  | with_reducible refine' rd_revL ?_
  | with_reducible refine' rd_revT ?_
  | with_reducible refine' rd_par ?_
  | ((with_reducible refine' rd_kPar ?h ?k ?_); (case h => walk_at "set"); case k => walk_at "set")
  | with_reducible refine' rd_par3 ?_
  | ((with_reducible refine' rd_kPar3 ?h ?k ?l ?_); (case h => walk_at "set"); (case k => walk_at "set"); case l => walk_at "set")
  | with_reducible refine' rd_lc ?_
  | with_reducible refine' rd_yes ?_
  | with_reducible refine' rd_sFld ?_
  | with_reducible refine' rd_dget ?_
  | with_reducible refine' rd_sDPut ?_
  | with_reducible refine' rd_gCons ?_
  | with_reducible refine' rd_gNil ?_
  | with_reducible refine' rd_kw ?_
  | with_reducible refine' rd_bits ?_
  | with_reducible refine' rd_kBits ?_
  | ((with_reducible refine' rd_anyI ?h ?_); case h => walk_at "sq")
  | with_reducible refine' rd_max ?_
  | with_reducible refine' rd_min ?_
  | with_reducible refine' rd_bm0 ?_
  | with_reducible refine' rd_andI ?_
  | with_reducible refine' rd_orI ?_
  | with_reducible refine' rd_xorI ?_)
local macro_rules | `(tactic| walk_at "rd") => `(tactic| repeat (walk_at "rd1"))
/-- the program's places -/
structure Pc where
  CMachine : Addr
  CBig : Addr
  CDesk : Addr
  aWORDS : Addr
  aBITS_OF_BASES : Addr
/-- a def's first slots -/
abbrev st0 (n : Nat) (vs : List V) : L2.St := vs.map some ++ List.replicate (n - vs.length) none
abbrev en0 (Q : VK) : Ends := ⟨fun _ H' => Q .non H', Q, fun _ _ => False, fun _ _ => False⟩
/-- the keywords' values by the parameters' order -/
def perm (ix : List Nat) (zs : List V) : List V := ix.map fun i => zs.getD i .non

def permV (ix : List Nat) (ws : List Value) : List Value := ix.map fun i => ws.getD i .none
theorem vals_getD {zs : List V} {ws : List Value} (r : Vals zs ws) (i : Nat) : RelV (zs.getD i .non) (ws.getD i .none) := by
  rw [List.getD_eq_getElem?_getD, List.getD_eq_getElem?_getD]
  cases e : zs[i]? with
  | none => rw [r.none_of e]; rfl
  | some v =>
    obtain ⟨u, e2, r2⟩ := r.get e
    rw [e2]
    exact r2
theorem perm_rel (ix : List Nat) {zs : List V} {ws : List Value} (r : Vals zs ws) : Vals (perm ix zs) (permV ix ws) := by
  unfold perm permV
  induction ix with
  | nil => exact .nil
  | cons i ix ih => exact .cons (vals_getD r i) ih
theorem kb_of {K : PySem.W.Frag} {x qual : Str} {st : Stmt} {f : Addr} {fd : FuncData} {ps ks : List Str} {ix : List Nat} (F : Fun K x qual st f fd)
    (h : ∀ (kV doc pm : Value) (an : Option Addr) (cdv ct : Value) (ws : List Value), ws.length = ks.length → bindArgs (PySem.W.fnOf x qual (defArgs st) (defBody st) (defScope st) .none kV doc pm an cdv ct) ⟨[], ks.zip ws⟩ = pure (ps.zip (permV ix ws))) : KB0 K fd ps ks (permV ix) (perm ix) := by
  obtain ⟨oc, od, kV, doc, pm, an, cdv, ct, osl, rfl, lk, hcd⟩ := F.ex
  exact ⟨fun s ws _ hl => .of_eq (h kV doc pm an cdv ct ws hl), fun r => perm_rel ix r⟩
theorem kit_self (K : PySem.W.Frag) (C : Addr) : PySem.W.kitOne K (.ref C) (.ref C) = some true := by
  unfold PySem.W.kitOne
  simp
def strKeysB (es : Array DictEntry) : Bool := es.toList.all fun e => match e.key with | .str _ _ => true | _ => false
theorem strKeys_of {es : Array DictEntry} (h : strKeysB es = true) : StrKeys es := by
  intro e he
  unfold strKeysB at h
  have := List.all_eq_true.mp h e (Array.mem_toList_iff.mpr he)
  cases hk : e.key <;> rw [hk] at this <;> first | exact ⟨_, _, rfl⟩ | cases this
/-- what is built in is none of the class -/
structure NoSub (K : PySem.W.Frag) (C : Addr) : Prop where
  ic : PySem.W.isClsIn K C = true
  ty : PySem.W.typeIn K (.ref C) = some (.type "type")
  sb : ∀ b ∈ (["int", "list", "str", "NoneType", "bool", "tuple", "dict"] : List String), PySem.W.subIn K (.type b) (.ref C) = some false
theorem NoSub.kit {K : PySem.W.Frag} {C : Addr} (h : NoSub K C) {b : String} (hb : b ∈ (["int", "list", "str", "NoneType", "bool", "tuple", "dict"] : List String)) : PySem.W.kitOne K (.type b) (.ref C) = some false := by
  unfold PySem.W.kitOne
  have e : (Value.type b == Value.ref C) = false := rfl
  rw [e, if_neg Bool.false_ne_true]
  unfold PySem.W.kitCls
  have e2 : ((PySem.W.clsIn K C).isSome && PySem.W.typeIn K (.ref C) == some (.type "type")) = true := by
    have h2 : (PySem.W.clsIn K C).isSome = true := h.ic
    rw [h2, h.ty]
    rfl
  show (if ((PySem.W.clsIn K C).isSome && PySem.W.typeIn K (.ref C) == some (.type "type")) = true then PySem.W.subIn K (.type b) (.ref C) else none) = some false
  rw [if_pos e2]
  exact h.sb b hb
theorem NoSub.nf {K : PySem.W.Frag} {C : Addr} (h : NoSub K C) {b : String} (hb : b ∈ (["int", "list", "str", "NoneType", "bool", "tuple", "dict"] : List String)) : PySem.W.notFirst K C (.type b) = true := by
  unfold PySem.W.notFirst
  rw [h.sb b hb]
  simp
theorem nf_self (K : PySem.W.Frag) (C : Addr) : PySem.W.notFirst K C (.ref C) = true := by
  unfold PySem.W.notFirst
  simp
/-! ### integers -/
def IsI (K : PySem.W.Frag) (H : Hp) (x : V) (b : Bool) : Prop := (∃ i, x = .int i ∧ b = true) ∨ (b = false ∧ ((∃ k, x = .bl k) ∨ ∃ t, TyX K H x t ∧ PySem.W.kitOne K t (.type "int") = some false))
def sp_is_integer (K : PySem.W.Frag) (c : Pc) : Sp := fun vs H Q _ => ∃ x b, vs = [x] ∧ IsI K H x b ∧ Q (.bl b) H
def t_is_integer (K : PySem.W.Frag) (c : Pc) : TS :=
  (tRet (tAndV (tCB (rIsi K) (tCons (tVar 0) (tCons (tC (.ty "int")) tNil))) (tNotV (tCB (rIsi K) (tCons (tVar 0) (tCons (tC (.ty "bool")) tNil))))))
section
variable {K : PySem.W.Frag} {c : Pc} {vs : List V} {H H0 : Hp} {Q : VK} {E : XK} {M : List Addr} {L : List (Addr × HO)} {x : V} {i lo hi : Int}
theorem isi_ty {a b : String} {r : Bool} (ty : TyX K H x (.type a)) (h : kitB a b = some r) (q : Q (.bl r) H) : rIsi K [x, .ty b] H Q := ⟨x, .ty b, _, _, r, rfl, .ty b, ty, kit_ty h, q⟩
theorem b_is_integer (h : sp_is_integer K c vs H Q E) : t_is_integer K c (en0 Q) (st0 1 vs) H := by
  obtain ⟨x, b, rfl, hx, q⟩ := h
  unfold t_is_integer
  walk_at "rd"
  rcases hx with ⟨i, rfl, rfl⟩ | ⟨rfl, ⟨k, rfl⟩ | ⟨t, ty, e⟩⟩
  · refine isi_ty (.base (.int i)) (by decide +kernel : kitB "int" "int" = some true) ?_
    walk_at "rd"
    refine rd_T rfl ?_
    walk_at "rd"
    refine isi_ty (.base (.int i)) (by decide +kernel : kitB "int" "bool" = some false) ?_
    walk_at "rd"
    exact q
  · refine isi_ty (.base (.bl k)) (by decide +kernel : kitB "bool" "int" = some true) ?_
    walk_at "rd"
    refine rd_T rfl ?_
    walk_at "rd"
    refine isi_ty (.base (.bl k)) (by decide +kernel : kitB "bool" "bool" = some true) ?_
    walk_at "rd"
    exact q
  · refine (show rIsi K [x, .ty "int"] H _ from ⟨x, _, t, _, false, rfl, .ty _, ty, e, ?_⟩)
    walk_at "rd"
    refine rd_F rfl ?_
    exact q

def Btw (K : PySem.W.Frag) (H : Hp) (x : V) (lo hi : Int) (r : Bool) : Prop := (∃ i, x = .int i ∧ r = (decide (lo ≤ i) && decide (i ≤ hi))) ∨ (IsI K H x false ∧ r = false)
def sp_is_between (K : PySem.W.Frag) (c : Pc) : Sp := fun vs H Q _ => ∃ x lo hi r, vs = [x, .int lo, .int hi] ∧ Btw K H x lo hi r ∧ Q (.bl r) H
def t_is_between (K : PySem.W.Frag) (c : Pc) : TS :=
  (tRet (tAndV (tCall (sp_is_integer K c) [] E0 (tCons (tVar 0) tNil)) (tChain rLe rLe (tVar 1) (tVar 0) (tVar 2))))
theorem b_is_between (h : sp_is_between K c vs H Q E) : t_is_between K c (en0 Q) (st0 3 vs) H := by
  obtain ⟨x, lo, hi, r, rfl, hx, q⟩ := h
  unfold t_is_between
  walk_at "rd"
  rcases hx with ⟨i, rfl, rfl⟩ | ⟨hx, rfl⟩
  · refine ⟨_, true, rfl, .inl ⟨i, rfl, rfl⟩, ?_⟩
    walk_at "rd"
    refine rd_T rfl ?_
    walk_at "rd"
    by_cases h1 : lo ≤ i
    · rw [decide_eq_true h1] at q ⊢
      refine rd_kChT rfl ?_
      walk_at "rd"
      exact q
    · rw [decide_eq_false h1] at q ⊢
      refine rd_kChF rfl ?_
      exact q
  · refine ⟨_, false, rfl, hx, ?_⟩
    walk_at "rd"
    refine rd_F rfl ?_
    exact q
theorem u_between (h1 : lo ≤ i) (h2 : i ≤ hi) (q : Q (.bl true) H) : sp_is_between K c [.int i, .int lo, .int hi] H Q E :=
  ⟨_, lo, hi, true, rfl, .inl ⟨i, rfl, by rw [decide_eq_true h1, decide_eq_true h2]; rfl⟩, q⟩
theorem u_integer (q : Q (.bl true) H) : sp_is_integer K c [.int i] H Q E := ⟨_, true, rfl, .inl ⟨i, rfl, rfl⟩, q⟩
def sp_check_integer (K : PySem.W.Frag) (c : Pc) : Sp := fun vs H Q _ => ∃ a i, vs = [.str a, .int i] ∧ Q .non H
def t_check_integer (K : PySem.W.Frag) (c : Pc) : TS :=
  (tIfS (tNot (L2.tB (tCall (sp_is_integer K c) [] E0 (tCons (tVar 1) tNil)))) tNever tNext)
theorem b_check_integer (h : sp_check_integer K c vs H Q E) : t_check_integer K c (en0 Q) (st0 2 vs) H := by
  obtain ⟨a, i, rfl, q⟩ := h
  unfold t_check_integer
  walk_at "rd"
  refine u_integer ?_
  walk_at "rd"
  refine rd_F rfl ?_
  walk_at "rd"
  exact q
end
/-! ### machines -/
def words : List Str := ["short", "sum", "product", "quotient", "corrected", "restored", "shifted", "combined", "complemented", "looked"]
/-- a machine's attributes: bits, cutoff, the places of its counts and of its walk -/
def mF (b : Nat) (cut : Int) (d e : Addr) : List (Str × V) := putF "entered" (.ref e) (putF "counts" (.ref d) (putF "base" (.int (2 ^ b)) (putF "limit_of_rows" (.int cut) (putF "width" (.int (b : Int)) []))))
section
variable {b : Nat} {cut : Int} {d e : Addr}
theorem mF_entered : (mF b cut d e).lookup ("entered" : Str) = some (.ref e) := by
  unfold mF
  rw [lookup_putF, if_pos rfl]
theorem mF_counts : (mF b cut d e).lookup ("counts" : Str) = some (.ref d) := by
  unfold mF
  rw [lookup_putF, if_neg (by decide +kernel), lookup_putF, if_pos rfl]
theorem mF_base : (mF b cut d e).lookup ("base" : Str) = some (.int (2 ^ b)) := by
  unfold mF
  rw [lookup_putF, if_neg (by decide +kernel), lookup_putF, if_neg (by decide +kernel), lookup_putF, if_pos rfl]
theorem mF_limit : (mF b cut d e).lookup ("limit_of_rows" : Str) = some (.int cut) := by
  unfold mF
  rw [lookup_putF, if_neg (by decide +kernel), lookup_putF, if_neg (by decide +kernel), lookup_putF, if_neg (by decide +kernel), lookup_putF, if_pos rfl]
theorem mF_width : (mF b cut d e).lookup ("width" : Str) = some (.int (b : Int)) := by
  unfold mF
  rw [lookup_putF, if_neg (by decide +kernel), lookup_putF, if_neg (by decide +kernel), lookup_putF, if_neg (by decide +kernel), lookup_putF, if_neg (by decide +kernel), lookup_putF, if_pos rfl]
theorem mF_none {m : Str} (h1 : ¬ m = "entered") (h2 : ¬ m = "counts") (h3 : ¬ m = "base") (h4 : ¬ m = "limit_of_rows") (h5 : ¬ m = "width") : (mF b cut d e).lookup m = none := by
  unfold mF
  rw [lookup_putF, if_neg h1, lookup_putF, if_neg h2, lookup_putF, if_neg h3, lookup_putF, if_neg h4, lookup_putF, if_neg h5]
  rfl
end
/-- the counts -/
def cK (ns : List Int) : List (Key × V) := List.zipWith (fun (w : Str) n => ((Sum.inr w : Key), V.int n)) words ns
def zeros : List Int := [0, 0, 0, 0, 0, 0, 0, 0, 0, 0]
/-- what the top tells of machines -/
structure PM (K : PySem.W.Frag) (c : Pc) : Prop where
  isc : C8.InsC K c.CMachine
  nE : NoAttr K c.CMachine "entered"
  nC : NoAttr K c.CMachine "counts"
  nB : NoAttr K c.CMachine "base"
  nL : NoAttr K c.CMachine "limit_of_rows"
  nW : NoAttr K c.CMachine "width"
  words : ∀ H : Hp, SqT K H c.aWORDS (words.map V.str)
section
variable {K : PySem.W.Frag} {c : Pc} {vs : List V} {H H0 : Hp} {Q : VK} {E : XK} {M : List Addr} {L : List (Addr × HO)} {b : Nat} {cut : Int} {a m d e dx : Addr}
theorem rd_Mwidth (P : PM K c) (h : H a = some (.ins c.CMachine dx (mF b cut d e))) (q : Q (.int (b : Int)) H) : kFld K "width" Q (.ref a) H := rd_kFld P.isc.cl P.nW h mF_width q
theorem rd_Mbase (P : PM K c) (h : H a = some (.ins c.CMachine dx (mF b cut d e))) (q : Q (.int (2 ^ b)) H) : kFld K "base" Q (.ref a) H := rd_kFld P.isc.cl P.nB h mF_base q
theorem rd_Mlimit (P : PM K c) (h : H a = some (.ins c.CMachine dx (mF b cut d e))) (q : Q (.int cut) H) : kFld K "limit_of_rows" Q (.ref a) H := rd_kFld P.isc.cl P.nL h mF_limit q
theorem rd_Mcounts (P : PM K c) (h : H a = some (.ins c.CMachine dx (mF b cut d e))) (q : Q (.ref d) H) : kFld K "counts" Q (.ref a) H := rd_kFld P.isc.cl P.nC h mF_counts q
theorem rd_Mentered (P : PM K c) (h : H a = some (.ins c.CMachine dx (mF b cut d e))) (q : Q (.ref e) H) : kFld K "entered" Q (.ref a) H := rd_kFld P.isc.cl P.nE h mF_entered q
theorem isi_own {C x : Addr} {fs : List (Str × V)} (I : C8.InsC K C) (h : H x = some (.ins C dx fs)) (q : Q (.bl true) H) : rIsi K [.ref x, .ref C] H Q :=
  ⟨.ref x, .ref C, _, _, true, rfl, .own C, .base (.ins h I.cl I.ha I.hn I.htk I.hm), I.me, q⟩
/-! check_machine -/
def sp_check_machine (K : PySem.W.Frag) (c : Pc) : Sp := fun vs H Q _ => ∃ a dx fs, vs = [.ref a] ∧ H a = some (.ins c.CMachine dx fs) ∧ Q .non H
def t_check_machine (K : PySem.W.Frag) (c : Pc) : TS :=
  (tIfS (tNot (L2.tB (tCB (rIsi K) (tCons (tVar 0) (tCons (tC (.ref c.CMachine)) tNil))))) tNever tNext)
theorem b_check_machine (P : PM K c) (h : sp_check_machine K c vs H Q E) : t_check_machine K c (en0 Q) (st0 1 vs) H := by
  obtain ⟨a, dx, fs, rfl, ha, q⟩ := h
  unfold t_check_machine
  walk_at "rd"
  refine isi_own P.isc ha ?_
  walk_at "rd"
  refine rd_F rfl ?_
  walk_at "rd"
  exact q
/-! the words with their numbers, as tuples -/
def tl2 (ps : List Addr) (ts : List (List V)) : List (Addr × HO) := List.zipWith (fun p t => (p, HO.tup t)) ps ts
theorem tl2_snoc {ps : List Addr} {ts : List (List V)} {p : Addr} {t : List V} (h : ps.length = ts.length) : tl2 (ps ++ [p]) (ts ++ [t]) = tl2 ps ts ++ [(p, .tup t)] := by
  unfold tl2
  rw [List.zipWith_append h]
  rfl
def rowsOf (ns : List Int) : List (List V) := List.zipWith (fun (w : Str) n => [V.str w, V.int n]) words ns
theorem take_snoc {α : Type} {l : List α} {i : Nat} {x : α} (h : l[i]? = some x) : l.take (i + 1) = l.take i ++ [x] := by
  rw [List.take_succ, h]
  rfl
theorem rows_get {ns : List Int} {i : Nat} {w : Str} {n : Int} (h1 : words[i]? = some w) (h2 : ns[i]? = some n) : (rowsOf ns)[i]? = some [.str w, .int n] := by
  unfold rowsOf
  rw [List.getElem?_zipWith, h1, h2]
theorem str_of_words {i : Nat} {x : V} (h : (words.map V.str)[i]? = some x) : ∃ w, words[i]? = some w ∧ x = .str w ∧ i < 10 := by
  rw [List.getElem?_map] at h
  cases e : words[i]? with
  | none => rw [e] at h; cases h
  | some w =>
    rw [e] at h
    refine ⟨w, rfl, (Option.some.inj h).symm, ?_⟩
    have := (List.getElem?_eq_some_iff.mp e).1
    exact this
theorem cK_val {ns : List Int} {i : Nat} {w : Str} {n : Int} (h1 : words[i]? = some w) (h2 : ns[i]? = some n) : valV (cK ns) (Sum.inr w : Key) = some (.int n) := by
  have hi : i < 10 := (List.getElem?_eq_some_iff.mp h1).1
  have hn : i < ns.length := (List.getElem?_eq_some_iff.mp h2).1
  have key : ∀ (ws : List Str) (ms : List Int) (j : Nat), ws.Nodup → ws[j]? = some w → ms[j]? = some n → valV (List.zipWith (fun (w : Str) n => ((Sum.inr w : Key), V.int n)) ws ms) (Sum.inr w : Key) = some (.int n) := by
    intro ws
    induction ws with
    | nil => intro ms j _ h _; simp at h
    | cons u ws ih =>
      intro ms j nd h h'
      cases ms with
      | nil => simp at h'
      | cons z ms =>
        cases j with
        | zero =>
          have e1 : u = w := by simpa using h
          have e2 : z = n := by simpa using h'
          subst e1 e2
          exact valV_pos rfl
        | succ j =>
          have hw : w ∈ ws := List.mem_of_getElem? (by simpa using h)
          have ne : ¬ (Sum.inr u : Key) = Sum.inr w := fun z => by
            have z' := Sum.inr.inj z
            subst z'
            exact (List.nodup_cons.mp nd).1 hw
          rw [List.zipWith_cons_cons, valV_neg (p := ((Sum.inr u : Key), V.int z)) ne]
          exact ih ms j (List.nodup_cons.mp nd).2 (by simpa using h) (by simpa using h')
  exact key words ns i (by decide +kernel) h1 h2
/-! Machine.tally -/
def sp_Machine_tally (K : PySem.W.Frag) (c : Pc) : Sp := fun vs H Q _ => ∃ a dx b cut d e ns, vs = [.ref a] ∧ H a = some (.ins c.CMachine dx (mF b cut d e)) ∧ H d = some (.dK (cK ns)) ∧ ns.length = 10 ∧
  ∀ p ps H', ps.length = 10 → Chg H H' [] ((p, .lst (ps.map V.ref)) :: tl2 ps (rowsOf ns)) → Q (.ref p) H'
def t_Machine_tally (K : PySem.W.Frag) (c : Pc) : TS :=
  (tRet (tLc (iTup K (tC (.ref c.aWORDS))) (gName 1) tYes (tTup (tCons (tVar 1) (tCons (tDGet (tFld K (tVar 0) "counts") (tVar 1)) tNil))) [1]))
theorem b_Machine_tally (P : PM K c) (h : sp_Machine_tally K c vs H Q E) : t_Machine_tally K c (en0 Q) (st0 2 vs) H := by
  obtain ⟨a, dx, b, cut, d, e, ns, rfl, ha, hd, hn, k⟩ := h
  have nad : a ≠ d := ne_of ha hd (by intro z; cases z)
  have W : Wd H H [] [(a, .ins c.CMachine dx (mF b cut d e)), (d, .dK (cK ns))] := (Wd.one hd).old ha (by simpa using nad)
  have hr : (rowsOf ns).length = 10 := by unfold rowsOf; rw [List.length_zipWith, hn]; rfl
  unfold t_Machine_tally
  walk_at "rd"
  refine rd_kIT (P.words H) ?_
  refine rd_lcT (xs := words.map V.str) fun D hD => ⟨fun i H' => ∃ ps : List Addr, ps.length = i ∧ (∀ p ∈ ps, H p = none) ∧ Wd H H' [] ([(D, .lst (ps.map V.ref)), (a, .ins c.CMachine dx (mF b cut d e)), (d, .dK (cK ns))] ++ tl2 ps ((rowsOf ns).take i)), ?_, ?_, ?_, ?_⟩
  · exact ⟨[], rfl, (fun _ z => nomatch z), W.new hD⟩
  · intro i H' _ _
    exact P.words H'
  · rintro i x H1 hx ⟨ps, hps, hfr, W1⟩
    obtain ⟨w, hw, rfl, hi⟩ := str_of_words hx
    have hD0 : H D = none := hD
    obtain ⟨n, hni⟩ : ∃ n, ns[i]? = some n := ⟨ns[i]'(by omega), List.getElem?_eq_getElem _⟩
    have hrow := rows_get hw hni
    walk_at "rd"
    refine ⟨rfl, ?_⟩
    walk_at "rd"
    refine rd_T rfl ?_
    walk_at "rd"
    refine rd_Mcounts P (W1.get (by walk_at "mem")) ?_
    walk_at "rd"
    refine rd_kDGs (W1.get (by walk_at "mem")) (cK_val hw hni) ?_
    walk_at "rd"
    refine rd_kTup W1 (by show 2 ≤ sizeLine; decide) fun p H2 hp W2 => ?_
    refine rd_kAcc W2 (by walk_at "rp") (.inl hD0) (by rw [List.length_map, hps]; exact small1000 (by omega)) fun H3 W3 => ?_
    refine ⟨ps ++ [p], by rw [List.length_append, hps]; rfl, fun q hq => ?_, ?_⟩
    · rcases List.mem_append.mp hq with z | z
      · exact hfr q z
      · rw [List.mem_singleton.mp z]; exact hp
    · rw [take_snoc hrow, tl2_snoc (by rw [hps, List.length_take, hr]; omega), List.map_append]
      exact W3.move (A := [_, _, _])
  · rintro H1 ⟨ps, hps, hfr, W1⟩
    have hl : ps.length = 10 := hps
    have e10 : (rowsOf ns).take (words.map V.str).length = rowsOf ns := List.take_of_length_le (by rw [hr]; decide)
    rw [e10] at W1
    refine k D ps H1 hl ?_
    have nd := W1.nd
    refine W1.done (fun q z => nomatch z) (fun q z => nomatch z) (fun q hq => ?_) ?_
    · rcases List.mem_cons.mp hq with z | z
      · rw [z]; exact ⟨List.mem_cons_self, hD⟩
      · refine ⟨List.mem_append_right _ z, ?_⟩
        unfold tl2 at z
        obtain ⟨i, hi⟩ := List.mem_iff_getElem?.mp z
        rw [List.getElem?_zipWith] at hi
        cases e1 : ps[i]? with
        | none => rw [e1] at hi; cases hi
        | some p =>
          cases e2 : (rowsOf ns)[i]? with
          | none => rw [e1, e2] at hi; cases hi
          | some t =>
            rw [e1, e2] at hi
            have := Option.some.inj hi
            rw [← this]
            exact hfr p (List.mem_of_getElem? e1)
    · refine nd.sublist (List.Sublist.map _ ?_)
      exact (List.Sublist.cons _ (List.Sublist.cons _ (List.Sublist.refl _))).cons₂ _
theorem tl2_get {ps : List Addr} {ts : List (List V)} {q : Addr × HO} (h : q ∈ tl2 ps ts) : ∃ (i : Nat) (p : Addr) (t : List V), ps[i]? = some p ∧ ts[i]? = some t ∧ q = (p, .tup t) := by
  unfold tl2 at h
  obtain ⟨i, hi⟩ := List.mem_iff_getElem?.mp h
  rw [List.getElem?_zipWith] at hi
  cases e1 : ps[i]? with
  | none => rw [e1] at hi; cases hi
  | some p =>
    cases e2 : ts[i]? with
    | none => rw [e1, e2] at hi; cases hi
    | some t =>
      rw [e1, e2] at hi
      exact ⟨i, p, t, e1, e2, (Option.some.inj hi).symm⟩
theorem tl2_mem {ps : List Addr} {ts : List (List V)} {i : Nat} {p : Addr} {t : List V} (h1 : ps[i]? = some p) (h2 : ts[i]? = some t) : (p, HO.tup t) ∈ tl2 ps ts := by
  unfold tl2
  refine List.mem_iff_getElem?.mpr ⟨i, ?_⟩
  rw [List.getElem?_zipWith, h1, h2]
theorem paired_of {α β : Type} {R : α → β → Prop} : ∀ {l : List α} {k : List β}, l.length = k.length → (∀ (i : Nat) x y, l[i]? = some x → k[i]? = some y → R x y) → Paired R l k
  | [], [], _, _ => .nil
  | [], _ :: _, h, _ => by simp at h
  | _ :: _, [], h, _ => by simp at h
  | x :: l, y :: k, h, f => .cons (f 0 x y rfl rfl) (paired_of (by simpa using h) fun i a b h1 h2 => f (i + 1) a b (by simpa using h1) (by simpa using h2))
theorem rd_dict {ps : List Addr} {kvs kvs' : List (Key × V)} (W : Wd H0 H M L) (h : H a = some (.lst (ps.map V.ref))) (hp : Paired (fun p kv => SqT K H p [kV kv.1, kv.2]) ps kvs) (he : mergeK [] kvs = kvs')
    (q : ∀ p H', H0 p = none → Wd H0 H' M ((p, .dK kvs') :: L) → Q (.ref p) H') : rDict K [.ref a] H Q :=
  ⟨a, ps, kvs, rfl, SqL.of h, hp, fun p hp => by subst he; exact q p _ (W.fresh hp) (W.new hp)⟩
theorem cK_get {ns : List Int} {i : Nat} {w : Str} {n : Int} (h1 : words[i]? = some w) (h2 : ns[i]? = some n) : (cK ns)[i]? = some (Sum.inr w, .int n) := by
  unfold cK
  rw [List.getElem?_zipWith, h1, h2]
theorem rows_cK {ns : List Int} (hn : ns.length = 10) {i : Nat} {t : List V} {kv : Key × V} (h1 : (rowsOf ns)[i]? = some t) (h2 : (cK ns)[i]? = some kv) : t = [kV kv.1, kv.2] := by
  have hi : i < 10 := by
    have := (List.getElem?_eq_some_iff.mp h1).1
    unfold rowsOf at this
    rw [List.length_zipWith, hn] at this
    exact Nat.lt_of_lt_of_le this (by decide)
  have hw : words[i]? = some (words[i]'hi) := List.getElem?_eq_getElem _
  have hz : ns[i]? = some (ns[i]'(by omega)) := List.getElem?_eq_getElem _
  rw [rows_get hw hz] at h1
  rw [cK_get hw hz] at h2
  cases h1
  cases h2
  rfl
theorem len_putF (f : Str) (v : V) : ∀ fs : List (Str × V), (putF f v fs).length ≤ fs.length + 1
  | [] => Nat.le_refl _
  | (g, x) :: r => by
    show (if g = f then (g, v) :: r else (g, x) :: putF f v r).length ≤ _
    by_cases h : g = f
    · rw [if_pos h]; exact Nat.le_succ _
    · rw [if_neg h]; exact Nat.succ_le_succ (len_putF f v r)
/-! Machine.__init__ -/
def sp_Machine_init (K : PySem.W.Frag) (c : Pc) : Sp := fun vs H Q _ => ∃ (x dx : Addr) (b : Nat) (cut : Int), vs = [.ref x, .int (b : Int), .int cut] ∧ 8 ≤ b ∧ b ≤ 30 ∧ 2 ≤ cut ∧ cut ≤ 1000 ∧ H x = some (.ins c.CMachine dx []) ∧
  ∀ d e H', Chg H H' [(x, .ins c.CMachine dx (mF b cut d e))] [(d, .dK (cK zeros)), (e, .lst [])] → Q .non H'
def t_Machine_init (K : PySem.W.Frag) (c : Pc) : TS :=
  (tSeq (tIfS (tNot (L2.tB (tCall (sp_is_between K c) [] E0 (tCons (tVar 1) (tCons (tC (.int 8)) (tCons (tC (.int 30)) tNil)))))) tNever tNext)
  (tSeq (tIfS (tNot (L2.tB (tCall (sp_is_between K c) [] E0 (tCons (tVar 2) (tCons (tC (.int 2)) (tCons (tC (.int 1000)) tNil)))))) tNever tNext)
  (tSeq (sFld K (tVar 0) (tVar 1) "width")
  (tSeq (sFld K (tVar 0) (tVar 2) "limit_of_rows")
  (tSeq (sFld K (tVar 0) (tOp rShl (tC (.int 1)) (tVar 1)) "base")
  (tSeq (sFld K (tVar 0) (tCB (rDict K) (tCons (tLc (iTup K (tC (.ref c.aWORDS))) (gName 3) tYes (tTup (tCons (tVar 3) (tCons (tC (.int 0)) tNil))) [3]) tNil)) "counts")
  (sFld K (tVar 0) (tLst tNil) "entered")))))))
theorem zero_get {i : Nat} (h : i < 10) : zeros[i]? = some 0 := by
  have : ∀ i : Fin 10, zeros[i.val]? = some 0 := by decide
  exact this ⟨i, h⟩
theorem shl_one {b : Nat} (h : b ≤ 1000) : CShl 1 (b : Int) := shl_ok (n := 1) (by decide) (by omega)
theorem b_Machine_init (P : PM K c) (h : sp_Machine_init K c vs H Q E) : t_Machine_init K c (en0 Q) (st0 4 vs) H := by
  obtain ⟨x, dx, b, cut, rfl, hb1, hb2, hc1, hc2, hx, k⟩ := h
  have W : Wd H H [x] [(x, .ins c.CMachine dx [])] := (Wd.one hx).may List.mem_cons_self
  unfold t_Machine_init
  walk_at "rd"
  refine u_between (by omega) (by omega) ?_
  walk_at "rd"
  refine rd_F rfl ?_
  walk_at "rd"
  refine u_between hc1 hc2 ?_
  walk_at "rd"
  refine rd_F rfl ?_
  walk_at "rd"
  refine rd_kSFld W P.isc.cl P.nW (by walk_at "rp") (by walk_at "may") (by decide) fun H1 W1 => ?_
  walk_at "rd"
  refine rd_kSFld W1 P.isc.cl P.nL (by walk_at "rp") (by walk_at "may") (Nat.lt_of_le_of_lt (len_putF _ _ _) (by decide)) fun H2 W2 => ?_
  walk_at "rd"
  refine rd_shl (shl_one (by omega)) ?_
  rw [Int.toNat_natCast, Int.one_mul]
  walk_at "rd"
  refine rd_kSFld W2 P.isc.cl P.nB (by walk_at "rp") (by walk_at "may") (Nat.lt_of_le_of_lt (len_putF _ _ _) (Nat.lt_of_le_of_lt (Nat.succ_le_succ (len_putF _ _ _)) (by decide))) fun H3 W3 => ?_
  walk_at "rd"
  refine rd_kIT (P.words H3) ?_
  refine rd_lcT (xs := words.map V.str) fun D hD => ⟨fun i H' => ∃ ps : List Addr, ps.length = i ∧ Wd H H' [x] ([(D, .lst (ps.map V.ref)), (x, .ins c.CMachine dx (putF "base" (.int (2 ^ b)) (putF "limit_of_rows" (.int cut) (putF "width" (.int (b : Int)) []))))] ++ tl2 ps ((rowsOf zeros).take i)), ?_, ?_, ?_, ?_⟩
  · exact ⟨[], rfl, W3.new hD⟩
  · intro i H' _ _
    exact P.words H'
  · rintro i y H4 hy ⟨ps, hps, W4⟩
    obtain ⟨w, hw, rfl, hi⟩ := str_of_words hy
    have hrow := rows_get hw (zero_get hi)
    have hD0 : H D = none := W3.fresh hD
    walk_at "rd"
    refine ⟨rfl, ?_⟩
    walk_at "rd"
    refine rd_T rfl ?_
    walk_at "rd"
    refine rd_kTup W4 (by show 2 ≤ sizeLine; decide) fun p H5 hp W5 => ?_
    refine rd_kAcc W5 (by walk_at "rp") (.inl hD0) (by rw [List.length_map, hps]; exact small1000 (by omega)) fun H6 W6 => ?_
    refine ⟨ps ++ [p], by rw [List.length_append, hps]; rfl, ?_⟩
    rw [take_snoc hrow, tl2_snoc (by rw [hps, List.length_take]; show i = min i 10; omega), List.map_append]
    exact W6.move (A := [_, _])
  · rintro H4 ⟨ps, hps, W4⟩
    have hl : ps.length = 10 := hps
    have e10 : (rowsOf zeros).take (words.map V.str).length = rowsOf zeros := List.take_of_length_le (by decide)
    rw [e10] at W4
    have hD0 : H D = none := W3.fresh hD
    walk_at "rd"
    refine rd_dict (kvs := cK zeros) (kvs' := cK zeros) W4 (W4.get List.mem_cons_self) (paired_of (by rw [hl]; decide) fun i p kv h1 h2 => ?_) (by decide +kernel) fun d H5 hd W5 => ?_
    · have hi : i < 10 := by have := (List.getElem?_eq_some_iff.mp h1).1; omega
      have hr : (rowsOf zeros)[i]? = some ((rowsOf zeros)[i]'hi) := List.getElem?_eq_getElem _
      have e := rows_cK (by decide) hr h2
      have := W4.get (List.mem_append_right _ (tl2_mem h1 hr))
      rw [e] at this
      exact SqT.of this
    · walk_at "rd"
      refine rd_kSFld W5 P.isc.cl P.nC (by walk_at "rp") (by walk_at "may") (Nat.lt_of_le_of_lt (len_putF _ _ _) (Nat.lt_of_le_of_lt (Nat.succ_le_succ (Nat.le_trans (len_putF _ _ _) (Nat.succ_le_succ (len_putF _ _ _)))) (by decide))) fun H6 W6 => ?_
      walk_at "rd"
      refine rd_kLst W6 (by decide) fun e H7 he W7 => ?_
      walk_at "rd"
      refine rd_kSFld W7 P.isc.cl P.nE (by walk_at "rp") (by walk_at "may") (Nat.lt_of_le_of_lt (len_putF _ _ _) (Nat.lt_of_le_of_lt (Nat.succ_le_succ (Nat.le_trans (len_putF _ _ _) (Nat.succ_le_succ (Nat.le_trans (len_putF _ _ _) (Nat.succ_le_succ (len_putF _ _ _)))))) (by decide))) fun H8 W8 => ?_
      have nd := W8.nd
      refine k d e H8 (W8.done (fun q hq => ?_) (fun q hq => hq) (fun q hq => ?_) ?_)
      · rw [List.mem_singleton.mp hq]
        walk_at "mem"
      · rcases List.mem_cons.mp hq with z | z
        · rw [z]; exact ⟨by walk_at "mem", hd⟩
        · rw [List.mem_singleton.mp z]; exact ⟨by walk_at "mem", he⟩
      · have ne : e ≠ d := fun z => by
          subst z
          have h1 := (List.nodup_cons.mp nd).1
          exact h1 List.mem_cons_self
        exact List.nodup_cons.mpr ⟨by simpa using Ne.symm ne, by simp⟩
end

/-! Bigs: numbers as signs and rows. -/
/-- a row of digits as values -/
def iN (ds : List Nat) : List V := ds.map fun (d : Nat) => V.int (d : Int)
theorem iN_length (ds : List Nat) : (iN ds).length = ds.length := List.length_map _
theorem iN_get {ds : List Nat} {i d : Nat} (h : ds[i]? = some d) : (iN ds)[i]? = some (.int (d : Int)) := by unfold iN; rw [List.getElem?_map, h]; rfl
theorem iN_of {ds : List Nat} {i : Nat} {x : V} (h : (iN ds)[i]? = some x) : ∃ d, ds[i]? = some d ∧ x = .int (d : Int) := by
  unfold iN at h
  rw [List.getElem?_map] at h
  cases e : ds[i]? with
  | none => rw [e] at h; cases h
  | some d => rw [e] at h; exact ⟨d, rfl, (Option.some.inj h).symm⟩
theorem iN_take (ds : List Nat) (n : Nat) : (iN ds).take n = iN (ds.take n) := by unfold iN; rw [List.map_take]
theorem iN_rev (ds : List Nat) : (iN ds).reverse = iN ds.reverse := by unfold iN; rw [List.map_reverse]
theorem iN_app (ds es : List Nat) : iN ds ++ iN es = iN (ds ++ es) := by unfold iN; rw [List.map_append]
/-- a Big's attributes -/
def bF (b : Nat) (s : Int) (r : Addr) : List (Str × V) := putF "row" (.ref r) (putF "side" (.int s) (putF "width" (.int (b : Int)) []))
section
variable {b : Nat} {s : Int} {r : Addr}
theorem bF_row : (bF b s r).lookup ("row" : Str) = some (.ref r) := by
  unfold bF
  rw [lookup_putF, if_pos rfl]
theorem bF_side : (bF b s r).lookup ("side" : Str) = some (.int s) := by
  unfold bF
  rw [lookup_putF, if_neg (by decide +kernel), lookup_putF, if_pos rfl]
theorem bF_width : (bF b s r).lookup ("width" : Str) = some (.int (b : Int)) := by
  unfold bF
  rw [lookup_putF, if_neg (by decide +kernel), lookup_putF, if_neg (by decide +kernel), lookup_putF, if_pos rfl]
theorem bF_none {m : Str} (h1 : ¬ m = "row") (h2 : ¬ m = "side") (h3 : ¬ m = "width") : (bF b s r).lookup m = none := by
  unfold bF
  rw [lookup_putF, if_neg h1, lookup_putF, if_neg h2, lookup_putF, if_neg h3]
  rfl
end
/-- what the top tells of Bigs -/
structure PB (K : PySem.W.Frag) (c : Pc) : Prop where
  isc : C8.InsC K c.CBig
  nR : NoAttr K c.CBig "row"
  nS : NoAttr K c.CBig "side"
  nW : NoAttr K c.CBig "width"
section
variable {K : PySem.W.Frag} {c : Pc} {vs : List V} {H H0 : Hp} {Q : VK} {E : XK} {M : List Addr} {L : List (Addr × HO)} {b : Nat} {s cut : Int} {a m d e dx r x l : Addr} {ds : List Nat}
theorem rd_Bwidth (P : PB K c) (h : H a = some (.ins c.CBig dx (bF b s r))) (q : Q (.int (b : Int)) H) : kFld K "width" Q (.ref a) H := rd_kFld P.isc.cl P.nW h bF_width q
theorem rd_Bside (P : PB K c) (h : H a = some (.ins c.CBig dx (bF b s r))) (q : Q (.int s) H) : kFld K "side" Q (.ref a) H := rd_kFld P.isc.cl P.nS h bF_side q
theorem rd_Brow (P : PB K c) (h : H a = some (.ins c.CBig dx (bF b s r))) (q : Q (.ref r) H) : kFld K "row" Q (.ref a) H := rd_kFld P.isc.cl P.nR h bF_row q
/-! Big.__init__ -/
def sp_Big_init (K : PySem.W.Frag) (c : Pc) : Sp := fun vs H Q _ => ∃ (x dx : Addr) (b : Nat) (s : Int) (r : Addr), vs = [.ref x, .int (b : Int), .int s, .ref r] ∧ H x = some (.ins c.CBig dx []) ∧
  ∀ H', Chg H H' [(x, .ins c.CBig dx (bF b s r))] [] → Q .non H'
def t_Big_init (K : PySem.W.Frag) (c : Pc) : TS :=
  (tSeq (sFld K (tVar 0) (tVar 1) "width")
  (tSeq (sFld K (tVar 0) (tVar 2) "side")
  (sFld K (tVar 0) (tVar 3) "row")))
theorem b_Big_init (P : PB K c) (h : sp_Big_init K c vs H Q E) : t_Big_init K c (en0 Q) (st0 4 vs) H := by
  obtain ⟨x, dx, b, s, r, rfl, hx, k⟩ := h
  have W : Wd H H [x] [(x, .ins c.CBig dx [])] := (Wd.one hx).may List.mem_cons_self
  unfold t_Big_init
  walk_at "rd"
  refine rd_kSFld W P.isc.cl P.nW (by walk_at "rp") (by walk_at "may") (by decide) fun H1 W1 => ?_
  walk_at "rd"
  refine rd_kSFld W1 P.isc.cl P.nS (by walk_at "rp") (by walk_at "may") (Nat.lt_of_le_of_lt (len_putF _ _ _) (by decide)) fun H2 W2 => ?_
  walk_at "rd"
  refine rd_kSFld W2 P.isc.cl P.nR (by walk_at "rp") (by walk_at "may") (Nat.lt_of_le_of_lt (len_putF _ _ _) (Nat.lt_of_le_of_lt (Nat.succ_le_succ (len_putF _ _ _)) (by decide))) fun H3 W3 => ?_
  exact k H3 (W3.done (fun q hq => hq) (fun q hq => hq) (fun q hq => nomatch hq) List.nodup_nil)
/-- Big(b, s, r) -/
theorem rd_mkBig (W : Wd H0 H M L) (q : ∀ x dx H', H0 x = none → Wd H0 H' M ((x, .ins c.CBig dx (bF b s r)) :: L) → Q (.ref x) H') : kMake c.CBig (sp_Big_init K c) [] E Q [.int (b : Int), .int s, .ref r] H := by
  intro x dx hx hdx ne
  have W1 := W.new (o := .own x) hdx
  have hx1 : upd H dx (.own x) x = none := by rw [upd_ne (Ne.symm ne)]; exact hx
  have W2 := W1.new (o := .ins c.CBig dx []) hx1
  refine ⟨x, dx, b, s, r, rfl, upd_same, fun H' ch => ⟨rfl, ?_⟩⟩
  have W3 := W2.chg1 Rp.here ch (.inl (W.fresh hx))
  have hno : dx ∉ M := fun z => W.out hdx (W.sub dx z)
  refine q x dx H' (W.fresh hx) ?_
  have W4 : Wd H0 H' M ((dx, .own x) :: (x, .ins c.CBig dx (bF b s r)) :: L) := W3.perm (List.Perm.swap _ _ _)
  exact W4.drop1 hno
/-! made -/
def sp_made (K : PySem.W.Frag) (c : Pc) : Sp := fun vs H Q _ => ∃ (m dx : Addr) (b : Nat) (cut : Int) (d e : Addr) (s : Int) (l : Addr) (ds : List Nat), vs = [.ref m, .int s, .ref l] ∧ H m = some (.ins c.CMachine dx (mF b cut d e)) ∧ H l = some (.lst (iN ds)) ∧ ds.length < 2 ^ 23 ∧
  ∀ x dx r H', Chg H H' [] [(x, .ins c.CBig dx (bF b (if strip ds = [] then 0 else s) r)), (r, .tup (iN (strip ds)))] → Q (.ref x) H'
def t_made (K : PySem.W.Frag) (c : Pc) : TS :=
  (tSeq (tAsg (tCB (rLen K) (tCons (tVar 2) tNil)) (gName 3))
  (tSeq (tWhile (tAnd (tTest (tOp rGt (tVar 3) (tC (.int 0)))) (tTest (tOp rEq (tOp (rIxL K) (tVar 2) (tOp rSub (tVar 3) (tC (.int 1)))) (tC (.int 0))))) (tAsg (tOp rSub (tVar 3) (tC (.int 1))) (gName 3)))
  (tRet (tMake c.CBig (sp_Big_init K c) [] E0 (tCons (tFld K (tVar 0) "width") (tCons (tIf (tTest (tOp rGt (tVar 3) (tC (.int 0)))) (tVar 1) (tC (.int 0))) (tCons (tCB (rTupL K) (tCons (tSl (rSlL K) (tVar 2) tNoPart (tPart (tVar 3))) tNil)) tNil)))))))
theorem strip_take {ds : List Nat} {n : Nat} (hz : ∀ d ∈ ds.drop n, d = 0) (hn : n = 0 ∨ ∃ d, ds[n - 1]? = some d ∧ d ≠ 0) : strip ds = ds.take n := by
  have e : ds = ds.take n ++ ds.drop n := (List.take_append_drop n ds).symm
  rw [e, strip_app_zeros _ hz, ← e]
  rcases hn with h | ⟨d, h1, h2⟩
  · rw [h]; rfl
  · have hl : n - 1 < ds.length := (List.getElem?_eq_some_iff.mp h1).1
    cases n with
    | zero => rfl
    | succ n =>
      have h1' : ds[n]? = some d := by simpa using h1
      rw [take_snoc h1', strip_app_ne _ h2]
theorem b_made (P : PM K c) (PB : PB K c) (h : sp_made K c vs H Q E) : t_made K c (en0 Q) (st0 4 vs) H := by
  obtain ⟨m, dx, b, cut, d, e, s, l, ds, rfl, hm, hl, hlen, k⟩ := h
  have nml : m ≠ l := ne_of hm hl (by intro z; cases z)
  have W : Wd H H [] [(m, .ins c.CMachine dx (mF b cut d e)), (l, .lst (iN ds))] := (Wd.one hl).old hm (by simpa using nml)
  unfold t_made
  walk_at "rd"
  refine rd_while (fun n σ' H' => σ' = [some (.ref m), some (.int s), some (.ref l), some (.int (n : Int))] ∧ H' = H ∧ n ≤ ds.length ∧ ∀ d ∈ ds.drop n, d = 0) ds.length ⟨by rw [iN_length]; rfl, rfl, Nat.le_refl _, by rw [List.drop_length]; intro d z; cases z⟩ ?_
  rintro n σ' H' ⟨rfl, rfl, hn, hz⟩
  have fin : (n = 0 ∨ ∃ d, ds[n - 1]? = some d ∧ d ≠ 0) → tRet (tMake c.CBig (sp_Big_init K c) [] E0 (tCons (tFld K (tVar 0) "width") (tCons (tIf (tTest (tOp rGt (tVar 3) (tC (.int 0)))) (tVar 1) (tC (.int 0))) (tCons (tCB (rTupL K) (tCons (tSl (rSlL K) (tVar 2) tNoPart (tPart (tVar 3))) tNil)) tNil)))) (en0 Q) [some (.ref m), some (.int s), some (.ref l), some (.int (n : Int))] H' := by
    intro hend
    have es := strip_take hz hend
    have hsid : (if strip ds = [] then (0 : Int) else s) = if 0 < n then s else 0 := by
      rw [es]
      rcases Nat.eq_zero_or_pos n with z | z
      · rw [z]; rfl
      · rw [if_neg (fun q => ?_), if_pos z]
        have := congrArg List.length q
        rw [List.length_take] at this
        simp only [List.length_nil] at this
        omega
    walk_at "rd"
    refine rd_Mwidth P (by walk_at "own") ?_
    walk_at "rd"
    have cont : ∀ (s' : Int), s' = (if strip ds = [] then (0 : Int) else s) → tCons (tCB (rTupL K) (tCons (tSl (rSlL K) (tVar 2) tNoPart (tPart (tVar 3))) tNil)) tNil [some (.ref m), some (.int s), some (.ref l), some (.int (n : Int))] H' (fun xs H2 => kMake c.CBig (sp_Big_init K c) [] E0 Q (.int (b : Int) :: .int s' :: xs) H2) := by
      intro s' hs'
      subst hs'
      walk_at "rd"
      refine rd_slL (ys := iN (strip ds)) W (by walk_at "sq") ?_ fun p H1 hp W1 => ?_
      · rw [es, ← iN_take]
        unfold cutV
        rw [HT.sIx_none, HT.sIx_nat, List.drop_zero, Nat.sub_zero, iN_length, Nat.min_eq_left hn]
      walk_at "rd"
      refine rd_tupL W1 (by walk_at "sq") fun r H2 hr W2 => ?_
      walk_at "rd"
      refine rd_mkBig W2 fun x dx' H3 hx W3 => ?_
      refine k x dx' r H3 (W3.done (fun q z => nomatch z) (fun q z => nomatch z) (fun q hq => ?_) ?_)
      · rcases List.mem_cons.mp hq with z | z
        · rw [z]; exact ⟨by walk_at "mem", hx⟩
        · rw [List.mem_singleton.mp z]; exact ⟨by walk_at "mem", hr⟩
      · have nd := W3.nd
        exact nd.sublist (List.Sublist.map _ (List.Sublist.cons₂ _ (List.Sublist.cons₂ _ (List.nil_sublist _))))
    refine rd_2d (fun h1 => ?_) fun h1 => ?_
    · refine rd_var rfl ?_
      exact cont s (by rw [hsid, if_pos (by omega)])
    · refine rd_c ?_
      exact cont 0 (by rw [hsid, if_neg (by omega)])
  walk_at "rd"
  refine rd_2d (fun h1 => ?_) fun h1 => ?_
  · obtain ⟨d1, hd1⟩ : ∃ d1, ds[n - 1]? = some d1 := ⟨ds[n - 1]'(by omega), List.getElem?_eq_getElem _⟩
    walk_at "rd"
    refine rd_ixL (by walk_at "sq") (at_of (j := n - 1) (by omega) (iN_get hd1)) ?_
    walk_at "rd"
    refine rd_wh2 (fun h2 => ?_) fun h2 => ?_
    · walk_at "rd"
      refine ⟨n - 1, by omega, ?_, rfl, by omega, ?_⟩
      · rw [show ((n : Int) - 1) = ((n - 1 : Nat) : Int) by omega]
      · intro x hx
        have e1 : ds.drop (n - 1) = d1 :: ds.drop n := by
          have hlt : n - 1 < ds.length := by omega
          have e2 := List.drop_eq_getElem_cons hlt
          rw [e2]
          have e3 : ds[n - 1]'hlt = d1 := by
            have := (List.getElem?_eq_some_iff.mp hd1).2
            exact this
          rw [e3]
          congr 2
          omega
        rw [e1] at hx
        rcases List.mem_cons.mp hx with z | z
        · rw [z]; omega
        · exact hz x z
    · exact fin (.inr ⟨d1, hd1, by omega⟩)
  · refine rd_whF rfl ?_
    exact fin (.inl (by omega))
/-! numbers -/
theorem pwN (b : Nat) : (2 : Int) ^ b = ((2 ^ b : Nat) : Int) := by simp
theorem pwPos (b : Nat) : (0 : Int) < 2 ^ b := by rw [pwN]; exact Int.ofNat_lt.mpr (Nat.two_pow_pos b)
theorem modN (n b : Nat) : (n : Int) % 2 ^ b = ((n % 2 ^ b : Nat) : Int) := by rw [pwN]; rfl
theorem divN (n b : Nat) : (n : Int) / 2 ^ b = ((n / 2 ^ b : Nat) : Int) := by rw [pwN]; rfl
theorem absN (n : Int) : (if n < 0 then -n else n) = (n.natAbs : Int) := by split <;> omega
theorem two_nd {α : Type} {p q : Addr} {o u : α} {L : List (Addr × α)} (h : (((p, o) :: (q, u) :: L).map (·.1)).Nodup) : ([(p, o), (q, u)].map (·.1)).Nodup := h.sublist (List.Sublist.map _ (List.Sublist.cons₂ _ (List.Sublist.cons₂ _ (List.nil_sublist _))))
/-! digits_of -/
def sp_digits_of (K : PySem.W.Frag) (c : Pc) : Sp := fun vs H Q _ => ∃ (m dx : Addr) (b : Nat) (cut : Int) (d e : Addr) (n : Nat), vs = [.ref m, .int (n : Int)] ∧ H m = some (.ins c.CMachine dx (mF b cut d e)) ∧ b ≠ 0 ∧ (digs b n).length < 2 ^ 23 ∧
  ∀ l H', Chg H H' [] [(l, .lst (iN (digs b n)))] → Q (.ref l) H'
def t_digits_of (K : PySem.W.Frag) (c : Pc) : TS :=
  (tSeq (tAsg (tLst tNil) (gName 2))
  (tSeq (tWhile (tTest (tOp rGt (tVar 1) (tC (.int 0)))) (tSeq (tDrop (tBM K "list" rAppend (tVar 2) (tCons (tOp rMod (tVar 1) (tFld K (tVar 0) "base")) tNil)))
  (tAsg (tOp rShr (tVar 1) (tFld K (tVar 0) "width")) (gName 1))))
  (tRet (tVar 2))))
theorem b_digits_of (P : PM K c) (h : sp_digits_of K c vs H Q E) : t_digits_of K c (en0 Q) (st0 3 vs) H := by
  obtain ⟨m, dx, b, cut, d, e, n, rfl, hm, hb, hlen, kq⟩ := h
  have W : Wd H H [] [(m, .ins c.CMachine dx (mF b cut d e))] := Wd.one hm
  unfold t_digits_of
  walk_at "rd"
  refine rd_kLst W (by decide) fun l H1 hl W1 => ?_
  walk_at "rd"
  refine rd_while (fun k σ' H' => ∃ ds, σ' = [some (.ref m), some (.int (k : Int)), some (.ref l)] ∧ Wd H H' [] [(l, .lst (iN ds)), (m, .ins c.CMachine dx (mF b cut d e))] ∧ ds ++ digs b k = digs b n) n ⟨[], rfl, W1, rfl⟩ ?_
  rintro k σ' H' ⟨ds, rfl, W2, hds⟩
  walk_at "rd"
  refine rd_wh2 (fun h1 => ?_) fun h1 => ?_
  · have hk : k ≠ 0 := by omega
    have e1 := digs_pos hb hk
    walk_at "rd"
    refine rd_Mbase P (by walk_at "own") ?_
    refine rd_mod (pwPos b) ?_
    rw [modN]
    walk_at "rd"
    have hdl : ds.length < 2 ^ 23 := by
      have := congrArg List.length hds
      rw [List.length_append] at this
      omega
    refine rd_append W2 (by walk_at "rp") (by walk_at "may") (by rw [iN_length]; exact Nat.lt_of_lt_of_le hdl (by decide)) fun H3 W3 => ?_
    walk_at "rd"
    refine rd_Mwidth P (by walk_at "own") ?_
    refine rd_shr (Int.natCast_nonneg _) ?_
    rw [Int.toNat_natCast, divN]
    walk_at "rd"
    refine ⟨k / 2 ^ b, Nat.div_lt_self (Nat.pos_of_ne_zero hk) (Nat.one_lt_two_pow hb), ds ++ [k % 2 ^ b], rfl, ?_, ?_⟩
    · rw [← iN_app]
      exact W3
    · rw [← hds, e1, List.append_assoc]
      rfl
  · have hk : k = 0 := by omega
    rw [hk, digs_zero, List.append_nil] at hds
    subst hds
    walk_at "rd"
    exact kq l H' (W2.done (fun q z => nomatch z) (fun q z => nomatch z) (fun q hq => by rw [List.mem_singleton.mp hq]; exact ⟨List.mem_cons_self, hl⟩) (by simp))
/-! big_of, big -/
/-- what a new Big is -/
def NewBig (c : Pc) (Q : VK) (H : Hp) (b : Nat) (s : Int) (ds : List Nat) : Prop := ∀ x dx r H', Chg H H' [] [(x, .ins c.CBig dx (bF b s r)), (r, .tup (iN ds))] → Q (.ref x) H'
def sp_big_of (K : PySem.W.Frag) (c : Pc) : Sp := fun vs H Q _ => ∃ (m dx : Addr) (b : Nat) (cut : Int) (d e : Addr) (n : Int), vs = [.ref m, .int n] ∧ H m = some (.ins c.CMachine dx (mF b cut d e)) ∧ b ≠ 0 ∧ (digs b n.natAbs).length < 2 ^ 23 ∧
  NewBig c Q H b (sgn n) (digs b n.natAbs)
def t_big_of (K : PySem.W.Frag) (c : Pc) : TS :=
  (tRet (tCall (sp_made K c) [] E0 (tCons (tVar 0) (tCons (tIf (tTest (tOp rLt (tVar 1) (tC (.int 0)))) (tUn rNeg (tC (.int 1))) (tC (.int 1))) (tCons (tCall (sp_digits_of K c) [] E0 (tCons (tVar 0) (tCons (tCB rAbs (tCons (tVar 1) tNil)) tNil))) tNil)))))
theorem b_big_of (P : PM K c) (h : sp_big_of K c vs H Q E) : t_big_of K c (en0 Q) (st0 2 vs) H := by
  obtain ⟨m, dx, b, cut, d, e, n, rfl, hm, hb, hlen, k⟩ := h
  have W : Wd H H [] [(m, .ins c.CMachine dx (mF b cut d e))] := Wd.one hm
  unfold t_big_of
  walk_at "rd"
  have cont : ∀ s : Int, (if digs b n.natAbs = [] then 0 else s) = sgn n → tCons (tCall (sp_digits_of K c) [] E0 (tCons (tVar 0) (tCons (tCB rAbs (tCons (tVar 1) tNil)) tNil))) tNil (st0 2 [.ref m, .int n]) H (fun xs H2 => sp_made K c (.ref m :: .int s :: xs) H2 Q E0) := by
    intro s hs
    walk_at "rd"
    rw [absN]
    refine ⟨m, dx, b, cut, d, e, n.natAbs, rfl, hm, hb, hlen, fun l H1 ch => ?_⟩
    have W1 := W.chg0 ch
    walk_at "rd"
    refine ⟨m, dx, b, cut, d, e, s, l, digs b n.natAbs, rfl, W1.get (by walk_at "mem"), W1.get (by walk_at "mem"), hlen, fun x dx r H2 ch2 => ?_⟩
    rw [digs_norm hb, hs] at ch2
    have W2 := W1.chg0 ch2
    refine k x dx r H2 (W2.done (fun q z => nomatch z) (fun q z => nomatch z) (fun q hq => ?_) (two_nd W2.nd))
    have h0 : ∀ {p o}, (p, o) ∈ [(x, HO.ins c.CBig dx (bF b (sgn n) r)), (r, HO.tup (iN (digs b n.natAbs)))] → H p = none := fun hp => W1.fresh (ch2.new hp).1
    exact ⟨List.mem_append_left _ hq, h0 (p := q.1) (o := q.2) hq⟩
  refine rd_2d (fun h1 => ?_) fun h1 => ?_
  · refine rd_un (rd_c (rd_neg ?_))
    refine cont (-1) ?_
    rw [if_neg (fun z => by have := (digs_eq_nil hb).mp z; omega)]
    unfold sgn
    rw [if_pos h1]
  · refine rd_c ?_
    refine cont 1 ?_
    unfold sgn
    rw [if_neg h1]
    by_cases h2 : n = 0
    · rw [if_pos ((digs_eq_nil hb).mpr (by omega)), if_pos h2]
    · rw [if_neg (fun z => by have := (digs_eq_nil hb).mp z; omega), if_neg h2]
def sp_big (K : PySem.W.Frag) (c : Pc) : Sp := sp_big_of K c
def t_big (K : PySem.W.Frag) (c : Pc) : TS :=
  (tSeq (tDrop (tCall (sp_check_machine K c) [] E0 (tCons (tVar 0) tNil)))
  (tSeq (tDrop (tCall (sp_check_integer K c) [] E0 (tCons (tC (.str "n")) (tCons (tVar 1) tNil))))
  (tRet (tCall (sp_big_of K c) [] E0 (tCons (tVar 0) (tCons (tVar 1) tNil))))))
theorem b_big (h : sp_big K c vs H Q E) : t_big K c (en0 Q) (st0 2 vs) H := by
  obtain ⟨m, dx, b, cut, d, e, n, rfl, hm, hb, hlen, k⟩ := h
  unfold t_big
  walk_at "rd"
  refine ⟨m, dx, _, rfl, hm, ?_⟩
  walk_at "rd"
  refine ⟨_, n, rfl, ?_⟩
  walk_at "rd"
  exact ⟨m, dx, b, cut, d, e, n, rfl, hm, hb, hlen, k⟩
/-! check_any -/
def sp_check_any (K : PySem.W.Frag) (c : Pc) : Sp := fun vs H Q _ => ∃ a dx fs, vs = [.ref a] ∧ H a = some (.ins c.CBig dx fs) ∧ Q .non H
def t_check_any (K : PySem.W.Frag) (c : Pc) : TS :=
  (tIfS (tNot (L2.tB (tCB (rIsi K) (tCons (tVar 0) (tCons (tC (.ref c.CBig)) tNil))))) tNever tNext)
theorem b_check_any (P : PB K c) (h : sp_check_any K c vs H Q E) : t_check_any K c (en0 Q) (st0 1 vs) H := by
  obtain ⟨a, dx, fs, rfl, ha, q⟩ := h
  unfold t_check_any
  walk_at "rd"
  refine isi_own P.isc ha ?_
  walk_at "rd"
  refine rd_F rfl ?_
  walk_at "rd"
  exact q
/-! bit_length, bit_count, hash_of: of the Big of an integer n -/
/-- the Big of n at x, its row at r -/
structure BigAt (c : Pc) (H : Hp) (x : Addr) (b : Nat) (n : Int) : Prop where
  at_ : ∃ dx r, H x = some (.ins c.CBig dx (bF b (sgn n) r)) ∧ H r = some (.tup (iN (digs b n.natAbs)))
theorem BigAt.same {H' : Hp} {n : Int} (h : BigAt c H x b n) (hs : Same H H') : BigAt c H' x b n := by
  obtain ⟨dx, r, h1, h2⟩ := h.at_
  exact ⟨dx, r, hs _ _ h1, hs _ _ h2⟩
def bigL (b : Nat) (n : Int) : Prop := b ≠ 0 ∧ b ≤ 30 ∧ (digs b n.natAbs).length < 2 ^ 22
def sp_bit_length (K : PySem.W.Frag) (c : Pc) : Sp := fun vs H Q _ => ∃ x b n, vs = [.ref x] ∧ BigAt c H x b n ∧ bigL b n ∧ Q (.int (Builtin.Int.intBits n : Nat)) H
def t_bit_length (K : PySem.W.Frag) (c : Pc) : TS :=
  (tSeq (tDrop (tCall (sp_check_any K c) [] E0 (tCons (tVar 0) tNil)))
  (tRet (tIf (tTest (tOp rEq (tFld K (tVar 0) "side") (tC (.int 0)))) (tC (.int 0)) (tOp rAdd (tOp rMul (tOp rSub (tCB (rLen K) (tCons (tFld K (tVar 0) "row") tNil)) (tC (.int 1))) (tFld K (tVar 0) "width")) (tBits (tOp (rIxT K) (tFld K (tVar 0) "row") (tUn rNeg (tC (.int 1)))))))))
theorem sgn_zero {n : Int} : sgn n = 0 ↔ n = 0 := by
  unfold sgn
  split
  · constructor <;> intro h <;> omega
  · split
    · constructor <;> intro _ <;> first | assumption | rfl
    · constructor <;> intro h <;> omega
theorem b_bit_length (P : PB K c) (h : sp_bit_length K c vs H Q E) : t_bit_length K c (en0 Q) (st0 1 vs) H := by
  obtain ⟨x, b, n, rfl, ⟨dx, r, hx, hr⟩, ⟨hb, hb30, hl⟩, q⟩ := h
  unfold t_bit_length
  walk_at "rd"
  refine ⟨x, dx, _, rfl, hx, ?_⟩
  walk_at "rd"
  refine rd_Bside P hx ?_
  walk_at "rd"
  refine rd_2d (fun h1 => ?_) fun h1 => ?_
  · have h0 := sgn_zero.mp h1
    walk_at "rd"
    rw [h0] at q
    exact q
  · have hn : n ≠ 0 := fun z => h1 (sgn_zero.mpr z)
    have hne : digs b n.natAbs ≠ [] := fun z => by have := (digs_eq_nil hb).mp z; omega
    obtain ⟨es, d, e1, e2⟩ := (digs_norm hb n.natAbs).last hne
    walk_at "rd"
    refine rd_Brow P hx ?_
    walk_at "rd"
    refine rd_Bwidth P hx ?_
    rw [iN_length]
    refine rd_mul (mul_okL (by omega) (by omega)) ?_
    walk_at "rd"
    refine rd_Brow P hx ?_
    walk_at "rd"
    refine rd_ixT (by walk_at "sq") (v := .int (d : Int)) (by rw [e1, ← iN_app]; exact atI_last _ _) ?_
    walk_at "rd"
    have hv := val_digs hb n.natAbs
    have hlt := digs_lt hb n.natAbs
    rw [e1] at hv hlt
    have h2 : val b es < 2 ^ (b * es.length) := val_lt fun y hy => hlt y (List.mem_append_left _ hy)
    rw [val_app, val_cons, val_nil, Nat.mul_zero, Nat.add_zero] at hv
    have h3 := log2_app (b := b) h2 e2
    rw [hv] at h3
    have e4 : (((digs b n.natAbs).length : Int) - 1) * (b : Int) + ((Builtin.Int.intBits (d : Int) : Nat) : Int) = ((Builtin.Int.intBits n : Nat) : Int) := by
      unfold Builtin.Int.intBits
      rw [if_neg (by simpa using e2), if_neg (by simpa using hn), h3, e1, List.length_append, Int.natAbs_natCast]
      simp only [List.length_cons, List.length_nil]
      have e5 : ((es.length + (0 + 1) : Nat) : Int) - 1 = (es.length : Int) := by omega
      rw [e5, Nat.mul_comm]
      omega
    rw [e4]
    exact q
def sp_bit_count (K : PySem.W.Frag) (c : Pc) : Sp := fun vs H Q _ => ∃ x b n, vs = [.ref x] ∧ BigAt c H x b n ∧ bigL b n ∧ Q (.int (pop n.natAbs : Nat)) H
def t_bit_count (K : PySem.W.Frag) (c : Pc) : TS :=
  (tSeq (tDrop (tCall (sp_check_any K c) [] E0 (tCons (tVar 0) tNil)))
  (tSeq (tAsg (tC (.int 0)) (gName 1))
  (tSeq (tFor (iTup K (tFld K (tVar 0) "row")) (gName 2) (tWhile (tTest (tOp rGt (tVar 2) (tC (.int 0)))) (tSeq (tAsg (tOp rAnd (tVar 2) (tOp rSub (tVar 2) (tC (.int 1)))) (gName 2))
  (tAsg (tOp rAdd (tVar 1) (tC (.int 1))) (gName 1)))))
  (tRet (tVar 1)))))
theorem and_nat (n m : Nat) : Builtin.bitAnd (n : Int) (m : Int) = ((n &&& m : Nat) : Int) := rfl
theorem sum_take1 {l : List Nat} {i d : Nat} (h : l[i]? = some d) : ((l.take (i + 1)).map pop).sum = ((l.take i).map pop).sum + pop d := by
  rw [take_snoc h, List.map_append, List.sum_append]
  simp
theorem b_bit_count (P : PB K c) (h : sp_bit_count K c vs H Q E) : t_bit_count K c (en0 Q) (st0 3 vs) H := by
  obtain ⟨x, b, n, rfl, ⟨dx, r, hx, hr⟩, ⟨hb, hb30, hl⟩, q⟩ := h
  unfold t_bit_count
  walk_at "rd"
  refine ⟨x, dx, _, rfl, hx, ?_⟩
  walk_at "rd"
  refine rd_Brow P hx ?_
  walk_at "rd"
  refine rd_forT (xs := iN (digs b n.natAbs)) (fun i σ' H' => ∃ v, σ' = [some (.ref x), some (.int (((digs b n.natAbs).take i).map pop).sum), v] ∧ H' = H) ⟨_, rfl, rfl⟩ ?_ ?_ ?_
  · rintro i σ' H' _ ⟨v, _, rfl⟩
    exact SqT.of hr
  · rintro i y σ' H' hy ⟨v, rfl, rfl⟩
    obtain ⟨d, hd, rfl⟩ := iN_of hy
    walk_at "rd"
    refine rd_while (fun k σ2 H2 => ∃ z : Nat, σ2 = [some (.ref x), some (.int (z : Int)), some (.int (k : Int))] ∧ H2 = H' ∧ z + pop k = (((digs b n.natAbs).take (i + 1)).map pop).sum) d ⟨_, rfl, rfl, (sum_take1 hd).symm⟩ ?_
    rintro k σ2 H2 ⟨z, rfl, rfl, hz⟩
    walk_at "rd"
    refine rd_wh2 (fun h1 => ?_) fun h1 => ?_
    · have hk : 0 < k := by omega
      walk_at "rd"
      rw [show ((k : Int) - 1) = ((k - 1 : Nat) : Int) by omega, and_nat]
      have := pop_and k hk
      exact ⟨k &&& (k - 1), and_pred_lt k hk, z + 1, rfl, rfl, by omega⟩
    · have hk : k = 0 := by omega
      rw [hk, pop_zero, Nat.add_zero] at hz
      exact ⟨_, by rw [hz], rfl⟩
  · rintro σ' H' ⟨v, rfl, rfl⟩
    walk_at "rd"
    rw [iN_length, List.take_length, pop_digs hb]
    exact q
/-- the hash of an integer -/
def hashN (n : Int) : Int := if sgn n * ((n.natAbs % (2 ^ 61 - 1) : Nat) : Int) = -1 then -2 else sgn n * ((n.natAbs % (2 ^ 61 - 1) : Nat) : Int)
def sp_hash_of (K : PySem.W.Frag) (c : Pc) : Sp := fun vs H Q _ => ∃ x b n, vs = [.ref x] ∧ BigAt c H x b n ∧ bigL b n ∧ ∀ H', Same H H' → Q (.int (hashN n)) H'
def t_hash_of (K : PySem.W.Frag) (c : Pc) : TS :=
  (tSeq (tDrop (tCall (sp_check_any K c) [] E0 (tCons (tVar 0) tNil)))
  (tSeq (tAsg (tC (.int 0)) (gName 1))
  (tSeq (tFor (iTup K (tRevT K (tFld K (tVar 0) "row"))) (gName 2) (tAsg (tOp rMod (tOp rAdd (tOp rShl (tVar 1) (tFld K (tVar 0) "width")) (tVar 2)) (tOp rSub (tOp rShl (tC (.int 1)) (tC (.int 61))) (tC (.int 1)))) (gName 1)))
  (tRet (tIf (tTest (tOp rEq (tOp rMul (tFld K (tVar 0) "side") (tVar 1)) (tUn rNeg (tC (.int 1))))) (tUn rNeg (tC (.int 2))) (tOp rMul (tFld K (tVar 0) "side") (tVar 1)))))))
theorem sgn_small (n : Int) : -1 ≤ sgn n ∧ sgn n ≤ 1 := by
  unfold sgn
  split
  · omega
  · split <;> omega
theorem b_hash_of (P : PB K c) (h : sp_hash_of K c vs H Q E) : t_hash_of K c (en0 Q) (st0 3 vs) H := by
  obtain ⟨x, b, n, rfl, ⟨dx, r, hx, hr⟩, ⟨hb, hb30, hl⟩, q⟩ := h
  have nxr : x ≠ r := ne_of hx hr (by intro z; cases z)
  have W : Wd H H [] [(x, .ins c.CBig dx (bF b (sgn n) r)), (r, .tup (iN (digs b n.natAbs)))] := (Wd.one hr).old hx (by simpa using nxr)
  have hp : (1 : Int) * 2 ^ (61 : Int).toNat - 1 = ((2 ^ 61 - 1 : Nat) : Int) := by decide
  unfold t_hash_of
  walk_at "rd"
  refine ⟨x, dx, _, rfl, hx, ?_⟩
  walk_at "rd"
  refine rd_Brow P hx ?_
  refine rd_kRevT W (by walk_at "sq") fun t H1 ht W1 => ?_
  rw [iN_rev] at W1
  walk_at "rd"
  refine rd_forT (xs := iN (digs b n.natAbs).reverse) (fun i σ' H' => ∃ v, σ' = [some (.ref x), some (.int (((digs b n.natAbs).reverse.take i).foldl (fun r d => (r * 2 ^ b + d) % (2 ^ 61 - 1)) 0 : Nat)), v] ∧ H' = H1) ⟨_, rfl, rfl⟩ ?_ ?_ ?_
  · rintro i σ' H' _ ⟨v, _, rfl⟩
    walk_at "sq"
  · rintro i y σ' H' hy ⟨v, rfl, rfl⟩
    obtain ⟨d, hd, rfl⟩ := iN_of hy
    have hrest : ((digs b n.natAbs).reverse.take i).foldl (fun r d => (r * 2 ^ b + d) % (2 ^ 61 - 1)) 0 < 2 ^ 61 := by
      rcases Nat.eq_zero_or_pos i with z | z
      · rw [z, List.take_zero]; exact Nat.two_pow_pos 61
      · obtain ⟨j, rfl⟩ : ∃ j, i = j + 1 := ⟨i - 1, by omega⟩
        have hj : j < (digs b n.natAbs).reverse.length := by
          have := (List.getElem?_eq_some_iff.mp hd).1
          omega
        rw [take_snoc (List.getElem?_eq_getElem hj), List.foldl_append]
        exact Nat.lt_of_lt_of_le (Nat.mod_lt _ (by decide)) (by decide)
    generalize hR : ((digs b n.natAbs).reverse.take i).foldl (fun r d => (r * 2 ^ b + d) % (2 ^ 61 - 1)) 0 = R at hrest
    walk_at "rd"
    refine rd_Bwidth P (by walk_at "own") ?_
    refine rd_shl (shl_ok (n := 61) (by simpa using hrest) (by omega)) ?_
    walk_at "rd"
    refine rd_shl (shl_ok (j := 61) (n := 1) (by decide) (by decide)) ?_
    walk_at "rd"
    refine ⟨some (.int (d : Int)), ?_, rfl⟩
    rw [take_snoc hd, List.foldl_append, hR, Int.toNat_natCast, pwN, hp]
    rfl
  · rintro σ' H' ⟨v, rfl, rfl⟩
    rw [iN_length, List.take_length, fold_mod, val_digs hb]
    have hm : n.natAbs % (2 ^ 61 - 1) < 2 ^ 61 := Nat.lt_of_lt_of_le (Nat.mod_lt _ (by decide)) (by decide)
    have hs := sgn_small n
    walk_at "rd"
    refine rd_Bside P (by walk_at "own") ?_
    walk_at "rd"
    refine rd_mul (mul_okL (by omega) (by omega)) ?_
    walk_at "rd"
    unfold hashN at q
    refine rd_2d (fun h1 => ?_) fun h1 => ?_
    · walk_at "rd"
      rw [if_pos h1] at q
      exact q H' W1.toSame
    · walk_at "rd"
      refine rd_Bside P (by walk_at "own") ?_
      walk_at "rd"
      refine rd_mul (mul_okL (by omega) (by omega)) ?_
      rw [if_neg h1] at q
      exact q H' W1.toSame
end

/-! Rnd: the laws' draws. -/
/-- the state of a source of draws -/
def SrcO (o : HO) : Prop := ∃ z0 z1 z2 : Int, o = .lst [.int z0, .int z1, .int z2]
section
variable {K : PySem.W.Frag} {c : Pc} {vs : List V} {H H0 : Hp} {Q : VK} {E : XK} {M : List Addr} {L : List (Addr × HO)} {L' : HO → List (Addr × HO)} {n : Int} {a p : Addr} {o : HO}
def sp_law_source_of (K : PySem.W.Frag) (c : Pc) : Sp := fun vs H Q _ => ∃ n, vs = [.int n] ∧ ∀ p o H', SrcO o → Chg H H' [] [(p, o)] → Q (.ref p) H'
def t_law_source_of (K : PySem.W.Frag) (c : Pc) : TS :=
  (tSeq (tAsg (tIf (tTest (tOp rGe (tVar 0) (tC (.int 0)))) (tVar 0) (tOp rSub (tOp rSub (tC (.int 0)) (tOp rMul (tC (.int 3)) (tVar 0))) (tC (.int 1)))) (gName 0))
  (tRet (tLst (tCons (tOp rMul (tVar 0) (tCB rInt (tCons (tOp rGe (tVar 0) (tOp rPow (tC (.int 10)) (tC (.int 18)))) tNil))) (tCons (tOp rMod (tCB rInt (tCons (tVar 0) tNil)) (tC (.int 2147483647))) (tCons (tC (.int 0)) tNil))))))
theorem one_nd {α : Type} {p : Addr} {o : α} : ([(p, o)].map (·.1)).Nodup := List.nodup_cons.mpr ⟨by simp, List.nodup_nil⟩
theorem Wd.new1 {H' : Hp} {o : HO} (W : Wd H H' [] ((p, o) :: L)) (hp : H p = none) : Chg H H' [] [(p, o)] :=
  W.done (fun q z => nomatch z) (fun q z => nomatch z) (fun q hq => by rw [List.mem_singleton.mp hq]; exact ⟨List.mem_cons_self, hp⟩) one_nd
theorem pow18 : oPow 10 18 := ⟨by decide, by decide⟩
theorem b_law_source_of (h : sp_law_source_of K c vs H Q E) : t_law_source_of K c (en0 Q) (st0 1 vs) H := by
  obtain ⟨n, rfl, k⟩ := h
  unfold t_law_source_of
  walk_at "rd"
  have cont : ∀ n : Int, tRet (tLst (tCons (tOp rMul (tVar 0) (tCB rInt (tCons (tOp rGe (tVar 0) (tOp rPow (tC (.int 10)) (tC (.int 18)))) tNil))) (tCons (tOp rMod (tCB rInt (tCons (tVar 0) tNil)) (tC (.int 2147483647))) (tCons (tC (.int 0)) tNil)))) (en0 Q) [some (.int n)] H := by
    intro n
    walk_at "rd"
    refine rd_pow pow18 ?_
    walk_at "rd"
    refine rd_mul (mul_okR (by split <;> decide) (by split <;> decide)) ?_
    walk_at "rd"
    refine rd_kLst (Wd.nil H) (by walk_at "len") fun p H1 hp W => ?_
    exact k p _ H1 ⟨_, _, _, rfl⟩ (W.new1 hp)
  refine rd_2d (fun h1 => ?_) fun h1 => ?_
  · refine rd_var rfl ?_
    refine rd_name Sets.here ?_
    exact cont n
  · refine rd_op (rd_op (rd_c (rd_op (rd_c (rd_var rfl (rd_mul (mul_okL (by decide) (by decide)) (rd_subI (rd_c (rd_subI ?_)))))))))
    refine rd_name Sets.here ?_
    exact cont _
/-! a draw: an integer from 0 to n - 1 -/
def sp_law_next (K : PySem.W.Frag) (c : Pc) : Sp := fun vs H Q _ => ∃ a o n, vs = [.ref a, .int n] ∧ H a = some o ∧ SrcO o ∧ 0 < n ∧ n < 2 ^ 64 ∧ ∀ r o' H', 0 ≤ r → r < n → SrcO o' → Chg H H' [(a, o')] [] → Q (.int r) H'
def t_law_next (K : PySem.W.Frag) (c : Pc) : TS :=
  (tSeq (tIfS (tTest (tOp rGt (tOp (rIxL K) (tVar 0) (tC (.int 0))) (tC (.int 0)))) (tSeq (tAsg (tOp rMod (tCB rInt (tCons (tOp (rIxL K) (tVar 0) (tC (.int 0))) tNil)) (tVar 1)) (gName 2))
  (tSeq (tAsg (tOp rDiv (tOp (rIxL K) (tVar 0) (tC (.int 0))) (tVar 1)) (gSub (tVar 0) (tC (.int 0)) rSetL))
  (tRet (tVar 2)))) tNext)
  (tSeq (tAsg (tOp rAdd (tOp (rIxL K) (tVar 0) (tC (.int 2))) (tC (.int 1))) (gSub (tVar 0) (tC (.int 2)) rSetL))
  (tSeq (tAsg (tC (.int 2147483647)) (gName 3))
  (tSeq (tAsg (tOp rMod (tCB rInt (tCons (tOp rAdd (tOp rAdd (tOp (rIxL K) (tVar 0) (tC (.int 1))) (tOp rMul (tC (.int 104729)) (tOp (rIxL K) (tVar 0) (tC (.int 2))))) (tC (.int 7919))) tNil)) (tVar 3)) (gName 4))
  (tSeq (tAsg (tOp rMod (tCB rInt (tCons (tOp rMul (tVar 4) (tC (.int 48271))) tNil)) (tVar 3)) (gName 4))
  (tSeq (tAsg (tOp rMod (tCB rInt (tCons (tOp rMul (tVar 4) (tOp rAdd (tOp rDiv (tVar 4) (tC (.int 1009))) (tC (.int 69621)))) tNil)) (tVar 3)) (gName 4))
  (tSeq (tAsg (tOp rMod (tCB rInt (tCons (tOp rMul (tVar 4) (tOp rAdd (tOp rDiv (tVar 4) (tC (.int 2003))) (tC (.int 40692)))) tNil)) (tC (.int 2147483399))) (gName 4))
  (tRet (tOp rMod (tCB rInt (tCons (tOp rDiv (tVar 4) (tC (.int 7))) tNil)) (tVar 1))))))))))
theorem Wd.chg_one {H' : Hp} {o : HO} {a : Addr} (W : Wd H H' [a] ((a, o) :: L)) : Chg H H' [(a, o)] [] :=
  W.done (fun q hq => by rw [List.mem_singleton.mp hq]; exact List.mem_cons_self) (fun q hq => hq) (fun q z => nomatch z) List.nodup_nil
theorem b_law_next (h : sp_law_next K c vs H Q E) : t_law_next K c (en0 Q) (st0 5 vs) H := by
  obtain ⟨a, o, n, rfl, ha, ⟨z0, z1, z2, rfl⟩, h0, hn, k⟩ := h
  have W : Wd H H [a] [(a, .lst [.int z0, .int z1, .int z2])] := (Wd.one ha).may List.mem_cons_self
  unfold t_law_next
  walk_at "rd"
  refine rd_ixL (by walk_at "sq") (v := .int z0) rfl ?_
  walk_at "rd"
  refine rd_2d (fun h1 => ?_) fun h1 => ?_
  · walk_at "rd"
    refine rd_ixL (by walk_at "sq") (v := .int z0) rfl ?_
    walk_at "rd"
    refine rd_ixL (by walk_at "sq") (v := .int z0) rfl ?_
    walk_at "rd"
    refine rd_div (div_ok64 h0 hn) ?_
    walk_at "rd"
    refine rd_setL W (j := 0) rfl (by walk_at "rp") (by walk_at "may") fun H1 W1 => ?_
    walk_at "rd"
    exact k _ _ H1 (Int.emod_nonneg _ (by omega)) (Int.emod_lt_of_pos _ h0) ⟨_, _, _, rfl⟩ W1.chg_one
  · walk_at "rd"
    refine rd_ixL (by walk_at "sq") (v := .int z2) rfl ?_
    walk_at "rd"
    refine rd_setL W (j := 2) rfl (by walk_at "rp") (by walk_at "may") fun H1 W1 => ?_
    walk_at "rd"
    refine rd_ixL (by walk_at "sq") (v := .int z1) rfl ?_
    walk_at "rd"
    refine rd_ixL (by walk_at "sq") (v := .int (z2 + 1)) rfl ?_
    refine rd_mul (mul_okL (by decide) (by decide)) ?_
    walk_at "rd"
    generalize h4 : (z1 + 104729 * (z2 + 1) + 7919) % 2147483647 = y1
    have b1 : 0 ≤ y1 ∧ y1 < 2147483647 := by omega
    refine rd_mul (mul_okR (by decide) (by decide)) ?_
    walk_at "rd"
    generalize h5 : y1 * 48271 % 2147483647 = y2
    have b2 : 0 ≤ y2 ∧ y2 < 2147483647 := by omega
    refine rd_div (div_ok64 (by decide) (by decide)) ?_
    walk_at "rd"
    refine rd_mul (mul_okL (by omega) (by omega)) ?_
    walk_at "rd"
    generalize h6 : y2 * (y2 / 1009 + 69621) % 2147483647 = y3
    have b3 : 0 ≤ y3 ∧ y3 < 2147483647 := ⟨by rw [← h6]; exact Int.emod_nonneg _ (by decide), by rw [← h6]; exact Int.emod_lt_of_pos _ (by decide)⟩
    refine rd_div (div_ok64 (by decide) (by decide)) ?_
    walk_at "rd"
    refine rd_mul (mul_okL (by omega) (by omega)) ?_
    walk_at "rd"
    refine rd_div (div_ok64 (by decide) (by decide)) ?_
    walk_at "rd"
    exact k _ _ H1 (Int.emod_nonneg _ (by omega)) (Int.emod_lt_of_pos _ h0) ⟨_, _, _, rfl⟩ W1.chg_one
/-- a draw, for those who call -/
theorem u_next (W : Wd H0 H M L) (hr : ∀ u, Rp a o u L (L' u)) (ho : SrcO o) (hm : H0 a = none ∨ a ∈ M) (h0 : 0 < n) (hn : n < 2 ^ 64) (q : ∀ r o' H', 0 ≤ r → r < n → SrcO o' → Wd H0 H' M (L' o') → Q (.int r) H') : sp_law_next K c [.ref a, .int n] H Q E :=
  ⟨a, o, n, rfl, W.get (hr o).mem, ho, h0, hn, fun r o' H' h1 h2 h3 ch => q r o' H' h1 h2 h3 (W.chg1 (hr o') ch hm)⟩
/-! one of some -/
def sp_law_one (K : PySem.W.Frag) (c : Pc) : Sp := fun vs H Q _ => ∃ a o l xs, vs = [.ref a, .ref l] ∧ H a = some o ∧ SrcO o ∧ H l = some (.lst xs) ∧ xs ≠ [] ∧ xs.length ≤ 1000 ∧ a ≠ l ∧ ∀ v o' H', v ∈ xs → SrcO o' → Chg H H' [(a, o')] [] → Q v H'
def t_law_one (K : PySem.W.Frag) (c : Pc) : TS :=
  (tRet (tOp (rIxL K) (tVar 1) (tCall (sp_law_next K c) [] E0 (tCons (tVar 0) (tCons (tCB (rLen K) (tCons (tVar 1) tNil)) tNil)))))
theorem b_law_one (h : sp_law_one K c vs H Q E) : t_law_one K c (en0 Q) (st0 2 vs) H := by
  obtain ⟨a, o, l, xs, rfl, ha, ho, hl, hne, hlen, nal, k⟩ := h
  have W : Wd H H [a] [(a, o), (l, .lst xs)] := ((Wd.one hl).old ha (by simpa using nal)).may List.mem_cons_self
  have hpos : 0 < xs.length := List.length_pos_iff.mpr hne
  unfold t_law_one
  walk_at "rd"
  refine u_next W (fun u => by walk_at "rp") ho (by walk_at "may") (by omega) (by omega) fun r o' H1 h1 h2 ho' W1 => ?_
  have hlt : r.toNat < xs.length := by omega
  refine rd_ixL (by walk_at "sq") (v := xs[r.toNat]'hlt) (at_of (j := r.toNat) (by omega) (List.getElem?_eq_getElem _)) ?_
  exact k _ o' H1 (List.getElem_mem _) ho' W1.chg_one
theorem u_one {l : Addr} {xs : List V} (W : Wd H0 H M L) (hr : ∀ u, Rp a o u L (L' u)) (ho : SrcO o) (hm : H0 a = none ∨ a ∈ M) (hl : (l, .lst xs) ∈ L) (nal : a ≠ l) (hne : xs ≠ []) (hlen : xs.length ≤ 1000) (q : ∀ v o' H', v ∈ xs → SrcO o' → Wd H0 H' M (L' o') → Q v H') : sp_law_one K c [.ref a, .ref l] H Q E :=
  ⟨a, o, l, xs, rfl, W.get (hr o).mem, ho, W.get hl, hne, hlen, nal, fun v o' H' h1 h2 ch => q v o' H' h1 h2 (W.chg1 (hr o') ch hm)⟩
end

/-! Eqs: == of lists of integers; further draws. -/
/-! ### lists of integers compared -/
def dI (ns : List Int) : List PyData := ns.map PyData.int
theorem dI_lay : ∀ ns : List Int, PyData.canLayAll0 (dI ns) = true
  | [] => by simp [dI, PyData.canLayAll0]
  | n :: ns => by
    show PyData.canLayAll0 (PyData.int n :: dI ns) = true
    rw [PyData.canLayAll0, dI_lay ns]
    simp [PyData.canLay0]
theorem dI_depth : ∀ ns : List Int, PyData.depthAll (dI ns) = 0
  | [] => by simp [dI, PyData.depthAll]
  | n :: ns => by
    show PyData.depthAll (PyData.int n :: dI ns) = 0
    rw [PyData.depthAll, dI_depth ns]
    simp [PyData.depth]
theorem dI_eqv : ∀ ns ms : List Int, PyData.eqvAll (dI ns) (dI ms) = decide (ns = ms)
  | [], [] => by simp [dI, PyData.eqvAll]
  | [], _ :: _ => by simp [dI, PyData.eqvAll]
  | _ :: _, [] => by simp [dI, PyData.eqvAll]
  | n :: ns, m :: ms => by
    show PyData.eqvAll (PyData.int n :: dI ns) (PyData.int m :: dI ms) = _
    rw [PyData.eqvAll, dI_eqv ns ms, PyData.eqv]
    by_cases h1 : n = m
    · by_cases h2 : ns = ms
      · simp [h1, h2]
      · simp [h1, h2]
    · simp [h1]
theorem shaped_list (ns : List Int) : SeqAt.shaped (.list (dI ns)) = true := by
  unfold SeqAt.shaped
  rw [PyData.canLay0, dI_lay, PyData.depth, dI_depth]
  rfl
theorem dpI {K : PySem.W.Frag} {H : Hp} : ∀ ns : List Int, DpAll K H (ns.map V.int) (dI ns)
  | [] => .nil
  | n :: ns => .cons (.int n) (dpI ns)
section
variable {K : PySem.W.Frag} {c : Pc} {vs : List V} {H H0 : Hp} {Q : VK} {E : XK} {M : List Addr} {L : List (Addr × HO)} {L' : HO → List (Addr × HO)} {n : Int} {a p l : Addr} {o : HO} {ns ms : List Int} {ds : List Nat}
theorem rd_neLI (h1 : SqL K H l (ns.map V.int)) (h2 : SqL K H p (ms.map V.int)) (q : Q (.bl (!decide (ns = ms))) H) : rNeD K (.ref l) (.ref p) H Q :=
  ⟨_, _, .lst h1 (dpI ns), .lst h2 (dpI ms), shaped_list ns, shaped_list ms, by rw [PyData.eqv, dI_eqv]; exact q⟩
theorem rd_eqLI (h1 : SqL K H l (ns.map V.int)) (h2 : SqL K H p (ms.map V.int)) (q : Q (.bl (decide (ns = ms))) H) : rEqD K (.ref l) (.ref p) H Q :=
  ⟨_, _, .lst h1 (dpI ns), .lst h2 (dpI ms), shaped_list ns, shaped_list ms, by rw [PyData.eqv, dI_eqv]; exact q⟩
theorem iN_int (ds : List Nat) : iN ds = (ds.map fun (d : Nat) => (d : Int)).map V.int := by unfold iN; rw [List.map_map]; rfl
theorem rd_neN (h1 : SqL K H l (iN ds)) (h2 : SqL K H p []) (q : Q (.bl (!decide (ds = []))) H) : rNeD K (.ref l) (.ref p) H Q := by
  rw [iN_int] at h1
  refine rd_neLI (ms := []) h1 h2 ?_
  have e : (ds.map fun (d : Nat) => (d : Int)) = [] ↔ ds = [] := by simp
  have e2 : decide ((ds.map fun (d : Nat) => (d : Int)) = []) = decide (ds = []) := by
    by_cases h : ds = []
    · rw [decide_eq_true h, decide_eq_true (e.mpr h)]
    · rw [decide_eq_false h, decide_eq_false (fun z => h (e.mp z))]
  rw [e2]
  exact q
/-! ### a number of the script -/
def sp_law_cell_at (K : PySem.W.Frag) (c : Pc) : Sp := fun vs H Q _ => ∃ (a : Addr) (ns : List Int) (i : Int), vs = [.ref a, .int i] ∧ SqL K H a (ns.map V.int) ∧ ns.length ≤ 1000 ∧ ∀ n H', Same H H' → Q (.int n) H'
def t_law_cell_at (K : PySem.W.Frag) (c : Pc) : TS :=
  (tRet (tOp (rIxL K) (tOp rCat (tSl (rSlL K) (tVar 0) (tPart (tVar 1)) (tPart (tOp rAdd (tVar 1) (tC (.int 1))))) (tLst (tCons (tC (.int 0)) tNil))) (tC (.int 0))))
theorem cut_ints (ns : List Int) (lo hi : Option Int) : ∃ ms : List Int, cutV (ns.map V.int) lo hi = ms.map V.int ∧ ms.length ≤ ns.length := by
  unfold cutV
  rw [← List.map_drop, ← List.map_take]
  exact ⟨_, rfl, by rw [List.length_take, List.length_drop]; omega⟩
theorem b_law_cell_at (h : sp_law_cell_at K c vs H Q E) : t_law_cell_at K c (en0 Q) (st0 2 vs) H := by
  obtain ⟨a, ns, i, rfl, ha, hl, k⟩ := h
  unfold t_law_cell_at
  walk_at "rd"
  obtain ⟨ms, e, hm⟩ := cut_ints ns (some i) (some (i + 1))
  refine rd_slL (Wd.nil H) ha e fun p H1 hp W1 => ?_
  walk_at "rd"
  refine rd_kLst W1 (by walk_at "len") fun q H2 hq W2 => ?_
  refine rd_cat W2 (by walk_at "own") (by walk_at "own") (by rw [List.length_map]; exact Evl.sz_of (by simp; omega)) fun r H3 hr W3 => ?_
  walk_at "rd"
  cases ms with
  | nil =>
    refine rd_ixL (by walk_at "sq") (v := .int 0) rfl ?_
    exact k _ H3 W3.toSame
  | cons m ms =>
    refine rd_ixL (by walk_at "sq") (v := .int m) (at_of (j := 0) rfl rfl) ?_
    exact k _ H3 W3.toSame
/-! ### new machines -/
theorem rd_mkMachine {b : Nat} {cut : Int} (W : Wd H0 H M L) (h1 : 8 ≤ b) (h2 : b ≤ 30) (h3 : 2 ≤ cut) (h4 : cut ≤ 1000)
    (q : ∀ x dx d e H', H0 x = none → H0 d = none → H0 e = none → Wd H0 H' M ((d, .dK (cK zeros)) :: (e, .lst []) :: (x, .ins c.CMachine dx (mF b cut d e)) :: L) → Q (.ref x) H') : kMake c.CMachine (sp_Machine_init K c) [] E Q [.int (b : Int), .int cut] H := by
  intro x dx hx hdx ne
  have W1 := W.new (o := .own x) hdx
  have hx1 : upd H dx (.own x) x = none := by rw [upd_ne (Ne.symm ne)]; exact hx
  have W2 := W1.new (o := .ins c.CMachine dx []) hx1
  refine ⟨x, dx, b, cut, rfl, h1, h2, h3, h4, upd_same, fun d e H' ch => ⟨rfl, ?_⟩⟩
  have W3 := W2.chg1 Rp.here ch (.inl (W.fresh hx))
  have hno : dx ∉ M := fun z => W.out hdx (W.sub dx z)
  have hd0 : H0 d = none := W2.fresh (ch.new (o := .dK (cK zeros)) (by walk_at "mem")).1
  have he0 : H0 e = none := W2.fresh (ch.new (o := .lst []) (by walk_at "mem")).1
  refine q x dx d e H' (W.fresh hx) hd0 he0 ?_
  have W4 : Wd H0 H' M ((dx, .own x) :: (d, .dK (cK zeros)) :: (e, .lst []) :: (x, .ins c.CMachine dx (mF b cut d e)) :: L) := W3.perm (List.perm_middle (l₁ := [_, _, _]) (l₂ := L))
  exact W4.drop1 hno
def sp_law_machine (K : PySem.W.Frag) (c : Pc) : Sp := fun vs H Q _ => ∃ a o, vs = [.ref a] ∧ H a = some o ∧ SrcO o ∧
  ∀ (x dx : Addr) (b : Nat) (cut : Int) (d e : Addr) o' H', 8 ≤ b → b ≤ 30 → 2 ≤ cut → cut ≤ 1000 → SrcO o' → Chg H H' [(a, o')] [(d, .dK (cK zeros)), (e, .lst []), (x, .ins c.CMachine dx (mF b cut d e))] → Q (.ref x) H'
def t_law_machine (K : PySem.W.Frag) (c : Pc) : TS :=
  (tSeq (tAsg (tCall (sp_law_one K c) [] E0 (tCons (tVar 0) (tCons (tLst (tCons (tC (.int 8)) (tCons (tC (.int 8)) (tCons (tC (.int 9)) (tCons (tC (.int 15)) (tCons (tC (.int 30)) (tCons (tC (.int 30)) (tCons (tOp rAdd (tC (.int 8)) (tCall (sp_law_next K c) [] E0 (tCons (tVar 0) (tCons (tC (.int 23)) tNil)))) tNil)))))))) tNil))) (gName 1))
  (tRet (tMake c.CMachine (sp_Machine_init K c) [] E0 (tCons (tVar 1) (tCons (tOp rAdd (tC (.int 2)) (tCall (sp_law_next K c) [] E0 (tCons (tVar 0) (tCons (tC (.int 8)) tNil)))) tNil)))))
theorem Wd.ne_new {H' : Hp} {a p : Addr} {u : HO} (W : Wd H0 H' M L) (h1 : (a, o) ∈ L) (h2 : (p, u) ∈ L) (h : o ≠ u) : a ≠ p := fun z => by
  have e1 := W.get h1
  have e2 := W.get h2
  rw [z, e2] at e1
  exact h (Option.some.inj e1).symm
theorem Wd.ne2 {H' : Hp} {q r : Addr × HO} (W : Wd H0 H' M (q :: r :: L)) : q.1 ≠ r.1 := fun z => by
  have := (List.nodup_cons.mp (show (q.1 :: r.1 :: L.map (·.1)).Nodup from W.nd)).1
  exact this (by rw [z]; exact List.mem_cons_self)
theorem b_law_machine (h : sp_law_machine K c vs H Q E) : t_law_machine K c (en0 Q) (st0 2 vs) H := by
  obtain ⟨a, o, rfl, ha, ho, k⟩ := h
  have W : Wd H H [a] [(a, o)] := (Wd.one ha).may List.mem_cons_self
  unfold t_law_machine
  walk_at "rd"
  refine u_next W (fun u => by walk_at "rp") ho (by walk_at "may") (by decide) (by decide) fun r o1 H1 h1 h2 ho1 W1 => ?_
  walk_at "rd"
  refine rd_kLst W1 (by walk_at "len") fun l H2 hl W2 => ?_
  walk_at "rd"
  refine u_one W2 (fun u => by walk_at "rp") ho1 (by walk_at "may") (by walk_at "mem") (Ne.symm W2.ne2) (by simp) (by simp) fun v o2 H3 hv ho2 W3 => ?_
  obtain ⟨b, rfl, hb1, hb2⟩ : ∃ b : Nat, v = .int (b : Int) ∧ 8 ≤ b ∧ b ≤ 30 := by
    simp only [List.mem_cons, List.not_mem_nil, or_false] at hv
    rcases hv with rfl | rfl | rfl | rfl | rfl | rfl | rfl
    · exact ⟨8, rfl, by decide, by decide⟩
    · exact ⟨8, rfl, by decide, by decide⟩
    · exact ⟨9, rfl, by decide, by decide⟩
    · exact ⟨15, rfl, by decide, by decide⟩
    · exact ⟨30, rfl, by decide, by decide⟩
    · exact ⟨30, rfl, by decide, by decide⟩
    · exact ⟨(8 + r).toNat, by congr 1; omega, by omega, by omega⟩
  walk_at "rd"
  refine u_next W3 (fun u => by walk_at "rp") ho2 (by walk_at "may") (by decide) (by decide) fun r2 o3 H4 h3 h4 ho3 W4 => ?_
  walk_at "rd"
  refine rd_mkMachine W4 hb1 hb2 (by omega) (by omega) fun x dx d e H5 hx hd he W5 => ?_
  refine k x dx b (2 + r2) d e o3 H5 hb1 hb2 (by omega) (by omega) ho3 (W5.done (fun q hq => ?_) (fun q hq => hq) (fun q hq => ?_) ?_)
  · rw [List.mem_singleton.mp hq]; walk_at "mem"
  · simp only [List.mem_cons, List.not_mem_nil, or_false] at hq
    rcases hq with rfl | rfl | rfl
    · exact ⟨by walk_at "mem", hd⟩
    · exact ⟨by walk_at "mem", he⟩
    · exact ⟨by walk_at "mem", hx⟩
  · exact W5.nd.sublist (List.Sublist.map _ (List.Sublist.cons₂ _ (List.Sublist.cons₂ _ (List.Sublist.cons₂ _ (List.nil_sublist _)))))
theorem u_machine (W : Wd H0 H M L) (hr : ∀ u, Rp a o u L (L' u)) (ho : SrcO o) (hm : H0 a = none ∨ a ∈ M)
    (q : ∀ (x dx : Addr) (b : Nat) (cut : Int) (d e : Addr) o' H', 8 ≤ b → b ≤ 30 → 2 ≤ cut → cut ≤ 1000 → SrcO o' → Wd H0 H' M ((d, .dK (cK zeros)) :: (e, .lst []) :: (x, .ins c.CMachine dx (mF b cut d e)) :: L' o') → Q (.ref x) H') : sp_law_machine K c [.ref a] H Q E :=
  ⟨a, o, rfl, W.get (hr o).mem, ho, fun x dx b cut d e o' H' h1 h2 h3 h4 h5 ch => q x dx b cut d e o' H' h1 h2 h3 h4 h5 (W.chg1 (hr o') ch hm)⟩
end

/-! Bigs2: further of machines and Bigs. -/
/-! ### what stays of a Big -/
/-- a thing that calls may change: a list or a dict -/
def Chb (o : HO) : Prop := (∃ xs, o = .lst xs) ∨ ∃ kvs, o = .dK kvs
section
variable {K : PySem.W.Frag} {c : Pc} {vs : List V} {H H0 H' : Hp} {Q : VK} {E : XK} {M : List Addr} {L : List (Addr × HO)} {b : Nat} {s cut n : Int} {a m d e dx r x l p : Addr} {ds : List Nat} {cs ns : List (Addr × HO)}
theorem BigAt.chg (h : BigAt c H x b n) (ch : Chg H H' cs ns) (hc : ∀ q ∈ cs, ∃ o, H q.1 = some o ∧ Chb o) : BigAt c H' x b n := by
  obtain ⟨dx, r, h1, h2⟩ := h.at_
  refine ⟨dx, r, ch.keep _ _ h1 fun z => ?_, ch.keep _ _ h2 fun z => ?_⟩
  · obtain ⟨q, hq, e⟩ := List.mem_map.mp z
    obtain ⟨o, ho, hb⟩ := hc q hq
    rw [e, h1] at ho
    rcases hb with ⟨xs, rfl⟩ | ⟨kvs, rfl⟩ <;> cases ho
  · obtain ⟨q, hq, e⟩ := List.mem_map.mp z
    obtain ⟨o, ho, hb⟩ := hc q hq
    rw [e, h2] at ho
    rcases hb with ⟨xs, rfl⟩ | ⟨kvs, rfl⟩ <;> cases ho
theorem NewBig.at (h : ∀ x H', Chg H H' [] [] → H x = none → BigAt c H' x b n → Q (.ref x) H') : NewBig c Q H b (sgn n) (digs b n.natAbs) := fun x dx r H' ch =>
  h x H' (.of_same fun q o z => ch.keep q o z fun y => nomatch y) (ch.new List.mem_cons_self).1 ⟨dx, r, (ch.new List.mem_cons_self).2, (ch.new (List.mem_cons_of_mem _ List.mem_cons_self)).2⟩
/-! ### parts, walk -/
def sp_Machine_parts (K : PySem.W.Frag) (c : Pc) : Sp := fun vs H Q _ => ∃ (a dx : Addr) (b : Nat) (cut : Int) (d e : Addr), vs = [.ref a] ∧ H a = some (.ins c.CMachine dx (mF b cut d e)) ∧ ∀ p H', Chg H H' [] [(p, .tup [.int (b : Int), .int cut])] → Q (.ref p) H'
def t_Machine_parts (K : PySem.W.Frag) (c : Pc) : TS :=
  (tRet (tTup (tCons (tFld K (tVar 0) "width") (tCons (tFld K (tVar 0) "limit_of_rows") tNil))))
theorem b_Machine_parts (P : PM K c) (h : sp_Machine_parts K c vs H Q E) : t_Machine_parts K c (en0 Q) (st0 1 vs) H := by
  obtain ⟨a, dx, b, cut, d, e, rfl, ha, k⟩ := h
  unfold t_Machine_parts
  walk_at "rd"
  refine rd_Mwidth P ha ?_
  walk_at "rd"
  refine rd_Mlimit P ha ?_
  walk_at "rd"
  refine rd_kTup (Wd.nil H) (by walk_at "len") fun p H1 hp W => ?_
  exact k p H1 (W.new1 hp)
def sp_Machine_walk (K : PySem.W.Frag) (c : Pc) : Sp := fun vs H Q _ => ∃ (a dx : Addr) (b : Nat) (cut : Int) (d e : Addr) (xs : List V), vs = [.ref a] ∧ H a = some (.ins c.CMachine dx (mF b cut d e)) ∧ H e = some (.lst xs) ∧ ∀ p H', Chg H H' [] [(p, .lst xs)] → Q (.ref p) H'
def t_Machine_walk (K : PySem.W.Frag) (c : Pc) : TS :=
  (tRet (tCB (rList K) (tCons (tFld K (tVar 0) "entered") tNil)))
theorem b_Machine_walk (P : PM K c) (h : sp_Machine_walk K c vs H Q E) : t_Machine_walk K c (en0 Q) (st0 1 vs) H := by
  obtain ⟨a, dx, b, cut, d, e, xs, rfl, ha, he, k⟩ := h
  unfold t_Machine_walk
  walk_at "rd"
  refine rd_Mentered P ha ?_
  walk_at "rd"
  refine rd_list (Wd.nil H) (.inl (SqL.of he)) fun p H1 hp W => ?_
  exact k p H1 (W.new1 hp)
/-! ### sign, digits, bits -/
def sp_Big_sign (K : PySem.W.Frag) (c : Pc) : Sp := fun vs H Q _ => ∃ x b n, vs = [.ref x] ∧ BigAt c H x b n ∧ Q (.int (sgn n)) H
def t_Big_sign (K : PySem.W.Frag) (c : Pc) : TS := (tRet (tFld K (tVar 0) "side"))
theorem b_Big_sign (P : PB K c) (h : sp_Big_sign K c vs H Q E) : t_Big_sign K c (en0 Q) (st0 1 vs) H := by
  obtain ⟨x, b, n, rfl, ⟨dx, r, hx, hr⟩, q⟩ := h
  unfold t_Big_sign
  walk_at "rd"
  exact rd_Bside P hx q
def sp_Big_bits (K : PySem.W.Frag) (c : Pc) : Sp := fun vs H Q _ => ∃ x b n, vs = [.ref x] ∧ BigAt c H x b n ∧ Q (.int (b : Int)) H
def t_Big_bits (K : PySem.W.Frag) (c : Pc) : TS := (tRet (tFld K (tVar 0) "width"))
theorem b_Big_bits (P : PB K c) (h : sp_Big_bits K c vs H Q E) : t_Big_bits K c (en0 Q) (st0 1 vs) H := by
  obtain ⟨x, b, n, rfl, ⟨dx, r, hx, hr⟩, q⟩ := h
  unfold t_Big_bits
  walk_at "rd"
  exact rd_Bwidth P hx q
def sp_Big_digits (K : PySem.W.Frag) (c : Pc) : Sp := fun vs H Q _ => ∃ x b n, vs = [.ref x] ∧ BigAt c H x b n ∧ ∀ p H', Chg H H' [] [(p, .lst (iN (digs b n.natAbs)))] → Q (.ref p) H'
def t_Big_digits (K : PySem.W.Frag) (c : Pc) : TS := (tRet (tCB (rList K) (tCons (tFld K (tVar 0) "row") tNil)))
theorem b_Big_digits (P : PB K c) (h : sp_Big_digits K c vs H Q E) : t_Big_digits K c (en0 Q) (st0 1 vs) H := by
  obtain ⟨x, b, n, rfl, ⟨dx, r, hx, hr⟩, k⟩ := h
  unfold t_Big_digits
  walk_at "rd"
  refine rd_Brow P hx ?_
  walk_at "rd"
  refine rd_list (Wd.nil H) (.inr (SqT.of hr)) fun p H1 hp W => ?_
  exact k p H1 (W.new1 hp)
/-! ### == of Bigs -/
theorem shaped_tri (b s : Int) (ns : List Int) : SeqAt.shaped (.tuple [.int b, .int s, .tuple (dI ns)]) = true := by
  unfold SeqAt.shaped
  simp only [PyData.canLay0, PyData.canLayAll0, dI_lay, PyData.depth, PyData.depthAll, dI_depth]
  decide
theorem eqv_tri (b s b' s' : Int) (ns ms : List Int) : PyData.eqv (.tuple [.int b, .int s, .tuple (dI ns)]) (.tuple [.int b', .int s', .tuple (dI ms)]) = decide (b = b' ∧ s = s' ∧ ns = ms) := by
  simp only [PyData.eqv, PyData.eqvAll, dI_eqv]
  by_cases h1 : b = b' <;> by_cases h2 : s = s' <;> by_cases h3 : ns = ms <;> simp [h1, h2, h3]
def sp_Big_eq (K : PySem.W.Frag) (c : Pc) : Sp := fun vs H Q _ => ∃ x b n y, vs = [.ref x, y] ∧ BigAt c H x b n ∧ b ≠ 0 ∧
  ((∃ x' b' n', y = .ref x' ∧ BigAt c H x' b' n' ∧ b' ≠ 0 ∧ ∀ H', Same H H' → Q (.bl (decide (b = b' ∧ n = n'))) H') ∨ (∃ t, TyX K H y t ∧ PySem.W.kitOne K t (.ref c.CBig) = some false ∧ Q (.bl false) H))
def t_Big_eq (K : PySem.W.Frag) (c : Pc) : TS :=
  (tRet (tAndV (tCB (rIsi K) (tCons (tVar 1) (tCons (tC (.ref c.CBig)) tNil))) (tOp (rEqD K) (tTup (tCons (tFld K (tVar 0) "width") (tCons (tFld K (tVar 0) "side") (tCons (tFld K (tVar 0) "row") tNil)))) (tTup (tCons (tFld K (tVar 1) "width") (tCons (tFld K (tVar 1) "side") (tCons (tFld K (tVar 1) "row") tNil)))))))
theorem castL_inj : ∀ {xs ys : List Nat}, (xs.map fun (d : Nat) => (d : Int)) = (ys.map fun (d : Nat) => (d : Int)) → xs = ys
  | [], [], _ => rfl
  | [], _ :: _, h => by simp at h
  | _ :: _, [], h => by simp at h
  | x :: xs, y :: ys, h => by
    rw [List.map_cons, List.map_cons] at h
    obtain ⟨h1, h2⟩ := List.cons.inj h
    rw [castL_inj h2, Int.ofNat.inj h1]
theorem big_eq_iff {b b' : Nat} {n n' : Int} (hb : b ≠ 0) (hb' : b' ≠ 0) : ((b : Int) = (b' : Int) ∧ sgn n = sgn n' ∧ ((digs b n.natAbs).map fun (d : Nat) => (d : Int)) = ((digs b' n'.natAbs).map fun (d : Nat) => (d : Int))) ↔ (b = b' ∧ n = n') := by
  constructor
  · rintro ⟨h1, h2, h3⟩
    have e : b = b' := by omega
    subst e
    refine ⟨rfl, ?_⟩
    have h4 : digs b n.natAbs = digs b n'.natAbs := by
      exact castL_inj h3
    have h5 := congrArg (val b) h4
    rw [val_digs hb, val_digs hb] at h5
    rw [← sgn_mul n, ← sgn_mul n', h2, h5]
  · rintro ⟨rfl, rfl⟩
    exact ⟨rfl, rfl, rfl⟩
theorem b_Big_eq (P : PB K c) (h : sp_Big_eq K c vs H Q E) : t_Big_eq K c (en0 Q) (st0 2 vs) H := by
  obtain ⟨x, b, n, y, rfl, ⟨dx, r, hx, hr⟩, hb, h⟩ := h
  unfold t_Big_eq
  walk_at "rd"
  rcases h with ⟨x', b', n', rfl, ⟨dx', r', hx', hr'⟩, hb', k⟩ | ⟨t, ty, ht, q⟩
  · refine isi_own P.isc hx' ?_
    walk_at "rd"
    refine rd_T rfl ?_
    walk_at "rd"
    refine rd_Bwidth P hx ?_
    walk_at "rd"
    refine rd_Bside P hx ?_
    walk_at "rd"
    refine rd_Brow P hx ?_
    walk_at "rd"
    refine rd_kTup (Wd.nil H) (by walk_at "len") fun p H1 hp W1 => ?_
    have s1 := W1.toSame
    walk_at "rd"
    refine rd_Bwidth P (s1 _ _ hx') ?_
    walk_at "rd"
    refine rd_Bside P (s1 _ _ hx') ?_
    walk_at "rd"
    refine rd_Brow P (s1 _ _ hx') ?_
    walk_at "rd"
    refine rd_kTup W1 (by walk_at "len") fun p2 H2 hp2 W2 => ?_
    have s2 := W2.toSame
    have r1 : SqT K H2 r (((digs b n.natAbs).map fun (d : Nat) => (d : Int)).map V.int) := by rw [← iN_int]; exact SqT.of (s2 _ _ hr)
    have r2 : SqT K H2 r' (((digs b' n'.natAbs).map fun (d : Nat) => (d : Int)).map V.int) := by rw [← iN_int]; exact SqT.of (s2 _ _ hr')
    refine ⟨_, _, .tup (SqT.of (W2.get (by walk_at "mem"))) (.cons (.int _) (.cons (.int _) (.cons (.tup r1 (dpI _)) .nil))), .tup (SqT.of (W2.get (by walk_at "mem"))) (.cons (.int _) (.cons (.int _) (.cons (.tup r2 (dpI _)) .nil))), shaped_tri _ _ _, shaped_tri _ _ _, ?_⟩
    rw [eqv_tri]
    have e : decide ((b : Int) = (b' : Int) ∧ sgn n = sgn n' ∧ ((digs b n.natAbs).map fun (d : Nat) => (d : Int)) = ((digs b' n'.natAbs).map fun (d : Nat) => (d : Int))) = decide (b = b' ∧ n = n') := decide_eq_decide.mpr (big_eq_iff hb hb')
    rw [e]
    exact k H2 s2
  · refine (show rIsi K [y, .ref c.CBig] H _ from ⟨y, _, t, _, false, rfl, .own _, ty, ht, ?_⟩)
    walk_at "rd"
    refine rd_F rfl ?_
    exact q
/-! ### plain -/
def sp_value_of (K : PySem.W.Frag) (c : Pc) : Sp := fun vs H Q _ => ∃ x b n, vs = [.ref x] ∧ BigAt c H x b n ∧ bigL b n ∧ ∀ H', Same H H' → Q (.int n) H'
def t_value_of (K : PySem.W.Frag) (c : Pc) : TS :=
  (tSeq (tAsg (tC (.int 0)) (gName 1))
  (tSeq (tFor (iTup K (tRevT K (tFld K (tVar 0) "row"))) (gName 2) (tAsg (tOp rOr (tOp rShl (tVar 1) (tFld K (tVar 0) "width")) (tVar 2)) (gName 1)))
  (tRet (tOp rMul (tFld K (tVar 0) "side") (tVar 1)))))
theorem fold_val (b : Nat) (ds : List Nat) : ds.reverse.foldl (fun r d => r * 2 ^ b + d) 0 = val b ds := by
  rw [List.foldl_reverse]
  induction ds with
  | nil => rfl
  | cons d ds ih => rw [List.foldr_cons, ih, val_cons, Nat.add_comm, Nat.mul_comm]
theorem fold_lt {b : Nat} : ∀ {ds : List Nat} (k : Nat), Digs b ds → k < 2 ^ 0 → ds.foldl (fun r d => r * 2 ^ b + d) k < 2 ^ (b * ds.length) := by
  have key : ∀ (ds : List Nat) (k j : Nat), Digs b ds → k < 2 ^ j → ds.foldl (fun r d => r * 2 ^ b + d) k < 2 ^ (b * ds.length + j) := by
    intro ds
    induction ds with
    | nil => intro k j _ hk; simpa using hk
    | cons d ds ih =>
      intro k j hd hk
      have h1 := ih (k * 2 ^ b + d) (b + j) (fun y hy => hd y (List.mem_cons_of_mem _ hy)) (by
        have hdl := hd d List.mem_cons_self
        have : (k + 1) * 2 ^ b ≤ 2 ^ j * 2 ^ b := Nat.mul_le_mul_right _ hk
        rw [Nat.add_mul, Nat.one_mul] at this
        rw [Nat.pow_add, Nat.mul_comm (2 ^ b)]
        omega)
      rw [List.foldl_cons, List.length_cons, Nat.mul_add, Nat.mul_one]
      rw [show b * ds.length + b + j = b * ds.length + (b + j) by omega]
      exact h1
  intro ds k hd hk
  have := key ds k 0 hd hk
  simpa using this
theorem b_value_of (P : PB K c) (h : sp_value_of K c vs H Q E) : t_value_of K c (en0 Q) (st0 3 vs) H := by
  obtain ⟨x, b, n, rfl, ⟨dx, r, hx, hr⟩, ⟨hb, hb30, hl⟩, q⟩ := h
  have nxr : x ≠ r := ne_of hx hr (by intro z; cases z)
  have W : Wd H H [] [(x, .ins c.CBig dx (bF b (sgn n) r)), (r, .tup (iN (digs b n.natAbs)))] := (Wd.one hr).old hx (by simpa using nxr)
  have hdg : Digs b (digs b n.natAbs).reverse := fun d hd => digs_lt hb _ d (List.mem_reverse.mp hd)
  unfold t_value_of
  walk_at "rd"
  refine rd_Brow P hx ?_
  refine rd_kRevT W (by walk_at "sq") fun t H1 ht W1 => ?_
  rw [iN_rev] at W1
  walk_at "rd"
  refine rd_forT (xs := iN (digs b n.natAbs).reverse) (fun i σ' H' => ∃ v, σ' = [some (.ref x), some (.int (((digs b n.natAbs).reverse.take i).foldl (fun r d => r * 2 ^ b + d) 0 : Nat)), v] ∧ H' = H1) ⟨none, rfl, rfl⟩ ?_ ?_ ?_
  · rintro i σ' H' _ ⟨v, _, rfl⟩
    walk_at "sq"
  · rintro i y σ' H' hy ⟨v, rfl, rfl⟩
    obtain ⟨d, hd, rfl⟩ := iN_of hy
    have hil : i < (digs b n.natAbs).length := by
      have := (List.getElem?_eq_some_iff.mp hd).1
      rwa [List.length_reverse] at this
    have hR := fold_lt (b := b) (ds := (digs b n.natAbs).reverse.take i) 0 (fun y hy => hdg y (List.mem_of_mem_take hy)) (by decide)
    rw [List.length_take, List.length_reverse, Nat.min_eq_left (by omega)] at hR
    have hdl : d < 2 ^ b := hdg d (List.mem_of_getElem? hd)
    generalize hRR : ((digs b n.natAbs).reverse.take i).foldl (fun r d => r * 2 ^ b + d) 0 = R at hR
    have hbi : b * i ≤ 30 * i := Nat.mul_le_mul_right _ hb30
    walk_at "rd"
    refine rd_Bwidth P (by walk_at "own") ?_
    refine rd_shl (shl_ok (n := b * i) (by simpa using hR) (by omega)) ?_
    walk_at "rd"
    rw [Int.toNat_natCast, or_low (Int.natCast_nonneg _) (Int.natCast_nonneg _) (by rw [pwN]; exact Int.ofNat_lt.mpr hdl)]
    refine ⟨some (.int (d : Int)), ?_, rfl⟩
    rw [take_snoc hd, List.foldl_append, hRR, pwN]
    rfl
  · rintro σ' H' ⟨v, rfl, rfl⟩
    rw [iN_length, List.take_length, fold_val, val_digs hb]
    have hs := sgn_small n
    walk_at "rd"
    refine rd_Bside P (by walk_at "own") ?_
    walk_at "rd"
    refine rd_mul (mul_okL (by omega) (by omega)) ?_
    rw [sgn_mul]
    exact q _ W1.toSame
def sp_plain (K : PySem.W.Frag) (c : Pc) : Sp := sp_value_of K c
def t_plain (K : PySem.W.Frag) (c : Pc) : TS :=
  (tSeq (tDrop (tCall (sp_check_any K c) [] E0 (tCons (tVar 0) tNil)))
  (tRet (tCall (sp_value_of K c) [] E0 (tCons (tVar 0) tNil))))
theorem b_plain (h : sp_plain K c vs H Q E) : t_plain K c (en0 Q) (st0 1 vs) H := by
  obtain ⟨x, b, n, rfl, B, hL, q⟩ := h
  obtain ⟨dx, r, hx, hr⟩ := B.at_
  unfold t_plain
  walk_at "rd"
  refine ⟨x, dx, _, rfl, hx, ?_⟩
  walk_at "rd"
  exact ⟨x, b, n, rfl, B, hL, q⟩
/-! ### negative, absolute -/
def sp_negative (K : PySem.W.Frag) (c : Pc) : Sp := fun vs H Q _ => ∃ x b n, vs = [.ref x] ∧ BigAt c H x b n ∧ ∀ x' H', H x' = none → Chg H H' [] [] → BigAt c H' x' b (-n) → Q (.ref x') H'
def t_negative (K : PySem.W.Frag) (c : Pc) : TS :=
  (tSeq (tDrop (tCall (sp_check_any K c) [] E0 (tCons (tVar 0) tNil)))
  (tRet (tMake c.CBig (sp_Big_init K c) [] E0 (tCons (tFld K (tVar 0) "width") (tCons (tOp rSub (tC (.int 0)) (tFld K (tVar 0) "side")) (tCons (tFld K (tVar 0) "row") tNil))))))
theorem sgn_neg (n : Int) : sgn (-n) = 0 - sgn n := by
  unfold sgn
  split <;> split <;> (try split) <;> (try split) <;> omega
theorem sgn_abs (n : Int) : sgn (n.natAbs : Int) = (if sgn n < 0 then -sgn n else sgn n) := by
  unfold sgn
  split <;> split <;> (try split) <;> (try split) <;> (try split) <;> omega
theorem b_negative (P : PB K c) (h : sp_negative K c vs H Q E) : t_negative K c (en0 Q) (st0 1 vs) H := by
  obtain ⟨x, b, n, rfl, ⟨dx, r, hx, hr⟩, k⟩ := h
  unfold t_negative
  walk_at "rd"
  refine ⟨x, dx, _, rfl, hx, ?_⟩
  walk_at "rd"
  refine rd_Bwidth P hx ?_
  walk_at "rd"
  refine rd_Bside P hx ?_
  walk_at "rd"
  refine rd_Brow P hx ?_
  walk_at "rd"
  refine rd_mkBig (Wd.nil H) fun x' dx' H' hx' W => ?_
  refine k x' H' hx' (.of_same W.toSame) ⟨dx', r, ?_, ?_⟩
  · rw [sgn_neg]; exact W.get List.mem_cons_self
  · rw [Int.natAbs_neg]; exact W.toSame _ _ hr
def sp_absolute (K : PySem.W.Frag) (c : Pc) : Sp := fun vs H Q _ => ∃ x b n, vs = [.ref x] ∧ BigAt c H x b n ∧ ∀ x' H', H x' = none → Chg H H' [] [] → BigAt c H' x' b (n.natAbs : Int) → Q (.ref x') H'
def t_absolute (K : PySem.W.Frag) (c : Pc) : TS :=
  (tSeq (tDrop (tCall (sp_check_any K c) [] E0 (tCons (tVar 0) tNil)))
  (tRet (tMake c.CBig (sp_Big_init K c) [] E0 (tCons (tFld K (tVar 0) "width") (tCons (tCB rAbs (tCons (tFld K (tVar 0) "side") tNil)) (tCons (tFld K (tVar 0) "row") tNil))))))
theorem b_absolute (P : PB K c) (h : sp_absolute K c vs H Q E) : t_absolute K c (en0 Q) (st0 1 vs) H := by
  obtain ⟨x, b, n, rfl, ⟨dx, r, hx, hr⟩, k⟩ := h
  unfold t_absolute
  walk_at "rd"
  refine ⟨x, dx, _, rfl, hx, ?_⟩
  walk_at "rd"
  refine rd_Bwidth P hx ?_
  walk_at "rd"
  refine rd_Bside P hx ?_
  walk_at "rd"
  refine rd_Brow P hx ?_
  walk_at "rd"
  refine rd_mkBig (Wd.nil H) fun x' dx' H' hx' W => ?_
  refine k x' H' hx' (.of_same W.toSame) ⟨dx', r, ?_, ?_⟩
  · rw [sgn_abs]; exact W.get List.mem_cons_self
  · rw [Int.natAbs_natCast]; exact W.toSame _ _ hr
end

/-! Rnd2: drawn rows of digits and numbers. -/
section
variable {K : PySem.W.Frag} {c : Pc} {vs : List V} {H H0 : Hp} {Q : VK} {E : XK} {M : List Addr} {L : List (Addr × HO)} {L' : HO → List (Addr × HO)} {n : Int} {a p l : Addr} {o : HO} {base most : Nat} {ds : List Nat}
def sp_law_digits (K : PySem.W.Frag) (c : Pc) : Sp := fun vs H Q _ => ∃ (a : Addr) (o : HO) (base most : Nat), vs = [.ref a, .int (base : Int), .int (most : Int)] ∧ H a = some o ∧ SrcO o ∧ 2 ≤ base ∧ base ≤ 2 ^ 30 ∧ most ≤ 10000 ∧
  ∀ (l : Addr) (ds : List Nat) o' H', ds.length ≤ most + 1 → (∀ d ∈ ds, d < base) → SrcO o' → Chg H H' [(a, o')] [(l, .lst (iN ds))] → Q (.ref l) H'
def t_law_digits (K : PySem.W.Frag) (c : Pc) : TS :=
  (tSeq (tAsg (tLst tNil) (gName 3))
  (tSeq (tFor (iRng1 (tCons (tCall (sp_law_next K c) [] E0 (tCons (tVar 0) (tCons (tOp rAdd (tVar 2) (tC (.int 1))) tNil))) tNil)) (gName 4) (tSeq (tAsg (tCall (sp_law_next K c) [] E0 (tCons (tVar 0) (tCons (tVar 1) tNil))) (gName 5))
  (tDrop (tBM K "list" rAppend (tVar 3) (tCons (tCall (sp_law_one K c) [] E0 (tCons (tVar 0) (tCons (tLst (tCons (tVar 5) (tCons (tVar 5) (tCons (tC (.int 0)) (tCons (tOp rSub (tVar 1) (tC (.int 1))) (tCons (tC (.int 1)) (tCons (tOp rDiv (tVar 1) (tC (.int 2))) tNil))))))) tNil))) tNil)))))
  (tRet (tIf (tTest (tOp (rNeD K) (tVar 3) (tLst tNil))) (tOp rCat (tVar 3) (tLst (tCons (tOp rAdd (tC (.int 1)) (tCall (sp_law_next K c) [] E0 (tCons (tVar 0) (tCons (tOp rSub (tVar 1) (tC (.int 1))) tNil)))) tNil))) (tVar 3)))))
/-- what a def has done: one thing changed, one new -/
theorem Wd.done11 {H' : Hp} {a p : Addr} {o u : HO} (W : Wd H H' [a] L) (h1 : (a, o) ∈ L) (h2 : (p, u) ∈ L) (hp : H p = none) : Chg H H' [(a, o)] [(p, u)] :=
  W.done (fun q hq => by rw [List.mem_singleton.mp hq]; exact h1) (fun q hq => hq) (fun q hq => by rw [List.mem_singleton.mp hq]; exact ⟨h2, hp⟩) one_nd
theorem b_law_digits (h : sp_law_digits K c vs H Q E) : t_law_digits K c (en0 Q) (st0 6 vs) H := by
  obtain ⟨a, o, base, most, rfl, ha, ho, hb1, hb2, hm, k⟩ := h
  have W : Wd H H [a] [(a, o)] := (Wd.one ha).may List.mem_cons_self
  unfold t_law_digits
  walk_at "rd"
  refine rd_kLst W (by decide) fun l H1 hl W1 => ?_
  walk_at "rd"
  refine u_next W1 (fun u => by walk_at "rp") ho (by walk_at "may") (by omega) (by omega) fun r o1 H2 h1 h2 ho1 W2 => ?_
  walk_at "rd"
  refine rd_kR1 (by omega) (by omega) ?_
  refine rd_forR (fun i σ' H' => ∃ v4 v5 o' ds, σ' = [some (.ref a), some (.int (base : Int)), some (.int (most : Int)), some (.ref l), v4, v5] ∧ SrcO o' ∧ ds.length = i ∧ (∀ d ∈ ds, d < base) ∧ Wd H H' [a] [(l, .lst (iN ds)), (a, o')]) ⟨none, none, o1, [], rfl, ho1, rfl, (fun d z => nomatch z), W2⟩ ?_ ?_
  · rintro i σ' H3 hi ⟨v4, v5, o2, ds, rfl, ho2, hds, hlt, W3⟩
    walk_at "rd"
    refine u_next W3 (fun u => by walk_at "rp") ho2 (by walk_at "may") (by omega) (by omega) fun r2 o3 H4 h3 h4 ho3 W4 => ?_
    walk_at "rd"
    refine rd_div (div_ok64 (by decide) (by decide)) ?_
    walk_at "rd"
    refine rd_kLst W4 (by walk_at "len") fun t H5 ht W5 => ?_
    walk_at "rd"
    have W6 := W5
    have nat : a ≠ t := fun z => by
      have e := W.get (a := a) (o := o) List.mem_cons_self
      rw [z, ht] at e
      cases e
    refine u_one W5 (fun u => by walk_at "rp") ho3 (by walk_at "may") (by walk_at "mem") nat (by simp) (by simp) fun v o4 H6 hv ho4 W7 => ?_
    obtain ⟨d, rfl, hd⟩ : ∃ d : Nat, v = .int (d : Int) ∧ d < base := by
      simp only [List.mem_cons, List.not_mem_nil, or_false] at hv
      rcases hv with rfl | rfl | rfl | rfl | rfl | rfl
      · exact ⟨r2.toNat, by congr 1; omega, by omega⟩
      · exact ⟨r2.toNat, by congr 1; omega, by omega⟩
      · exact ⟨0, rfl, by omega⟩
      · exact ⟨base - 1, by congr 1; omega, by omega⟩
      · exact ⟨1, rfl, by omega⟩
      · exact ⟨base / 2, by congr 1, by omega⟩
    walk_at "rd"
    refine rd_append W7 (by walk_at "rp") (by walk_at "may") (by rw [iN_length]; exact Evl.sz_lt (by omega)) fun H7 W8 => ?_
    refine ⟨_, _, o4, ds ++ [d], rfl, ho4, by rw [List.length_append, hds]; rfl, fun x hx => ?_, ?_⟩
    · rcases List.mem_append.mp hx with z | z
      · exact hlt x z
      · rw [List.mem_singleton.mp z]; exact hd
    · rw [← iN_app]
      exact W8.drop1 (fun z => nat (List.mem_singleton.mp z).symm)
  · rintro σ' H3 ⟨v4, v5, o2, ds, rfl, ho2, hds, hlt, W3⟩
    walk_at "rd"
    refine rd_kLst W3 (by decide) fun t H4 ht W4 => ?_
    refine rd_neN (ds := ds) (by walk_at "sq") (by walk_at "sq") ?_
    walk_at "rd"
    by_cases he : ds = []
    · refine rd_Fn he ?_
      walk_at "rd"
      refine k l ds o2 H4 (by omega) hlt ho2 (W4.done11 (by walk_at "mem") (by walk_at "mem") hl)
    · refine rd_Tn he ?_
      walk_at "rd"
      refine u_next W4 (fun u => by walk_at "rp") ho2 (by walk_at "may") (by omega) (by omega) fun r3 o3 H5 h3 h4 ho3 W5 => ?_
      walk_at "rd"
      refine rd_kLst W5 (by walk_at "len") fun s H6 hs W6 => ?_
      refine rd_cat W6 (by walk_at "own") (by walk_at "own") (by rw [iN_length]; exact Evl.sz_of (by simp; omega)) fun p H7 hp W7 => ?_
      have e : iN ds ++ [V.int (1 + r3)] = iN (ds ++ [(1 + r3).toNat]) := by
        rw [← iN_app]
        congr 1
        show [V.int (1 + r3)] = [V.int (((1 + r3).toNat : Nat) : Int)]
        congr 2
        omega
      rw [e] at W7
      refine k p (ds ++ [(1 + r3).toNat]) o3 H7 (by rw [List.length_append]; simp; omega) (fun d hd => ?_) ho3 (W7.done11 (by walk_at "mem") (by walk_at "mem") hp)
      rcases List.mem_append.mp hd with z | z
      · exact hlt d z
      · rw [List.mem_singleton.mp z]; omega
theorem u_digits (W : Wd H0 H M L) (hr : ∀ u, Rp a o u L (L' u)) (ho : SrcO o) (hm : H0 a = none ∨ a ∈ M) (h1 : 2 ≤ base) (h2 : base ≤ 2 ^ 30) (h3 : most ≤ 10000)
    (q : ∀ (l : Addr) (ds : List Nat) o' H', H0 l = none → ds.length ≤ most + 1 → (∀ d ∈ ds, d < base) → SrcO o' → Wd H0 H' M ((l, .lst (iN ds)) :: L' o') → Q (.ref l) H') : sp_law_digits K c [.ref a, .int (base : Int), .int (most : Int)] H Q E :=
  ⟨a, o, base, most, rfl, W.get (hr o).mem, ho, h1, h2, h3, fun l ds o' H' h4 h5 h6 ch => q l ds o' H' (W.fresh (ch.new List.mem_cons_self).1) h4 h5 h6 (W.chg1 (hr o') ch hm)⟩
/-! the number of a row -/
def valB (base : Nat) : List Nat → Nat
  | [] => 0
  | d :: ds => d + base * valB base ds
theorem valB_lt : ∀ {ds : List Nat}, (∀ d ∈ ds, d < base) → valB base ds < base ^ ds.length
  | [], _ => by simp [valB]
  | d :: ds, h => by
    have ih := valB_lt (ds := ds) fun x hx => h x (List.mem_cons_of_mem _ hx)
    have hd := h d List.mem_cons_self
    show d + base * valB base ds < base ^ (ds.length + 1)
    have h1 : base * (valB base ds + 1) ≤ base * base ^ ds.length := Nat.mul_le_mul_left _ ih
    rw [Nat.mul_add, Nat.mul_one] at h1
    rw [Nat.pow_succ, Nat.mul_comm (base ^ ds.length)]
    omega
theorem valB_fold (ds : List Nat) : ds.reverse.foldl (fun r d => base * r + d) 0 = valB base ds := by
  rw [List.foldl_reverse]
  induction ds with
  | nil => rfl
  | cons d ds ih => rw [List.foldr_cons, ih]; show _ = d + base * valB base ds; omega
theorem valB_two (b : Nat) : ∀ ds : List Nat, valB (2 ^ b) ds = val b ds
  | [] => rfl
  | d :: ds => by show d + 2 ^ b * valB (2 ^ b) ds = d + 2 ^ b * val b ds; rw [valB_two b ds]
def sp_law_value (K : PySem.W.Frag) (c : Pc) : Sp := fun vs H Q _ => ∃ (l : Addr) (base : Nat) (ds : List Nat), vs = [.ref l, .int (base : Int)] ∧ H l = some (.lst (iN ds)) ∧ base ≤ 2 ^ 30 ∧ ∀ H', Same H H' → Q (.int (valB base ds : Nat)) H'
def t_law_value (K : PySem.W.Frag) (c : Pc) : TS :=
  (tSeq (tAsg (tC (.int 0)) (gName 2))
  (tSeq (tFor (iList K (tRevL K (tVar 0))) (gName 3) (tAsg (tOp rAdd (tOp rMul (tVar 1) (tVar 2)) (tVar 3)) (gName 2)))
  (tRet (tVar 2))))
theorem b_law_value (h : sp_law_value K c vs H Q E) : t_law_value K c (en0 Q) (st0 4 vs) H := by
  obtain ⟨l, base, ds, rfl, hl, hb, k⟩ := h
  unfold t_law_value
  walk_at "rd"
  refine rd_kRev (Wd.one hl) (by walk_at "sq") fun p H1 hp W1 => ?_
  rw [iN_rev] at W1
  walk_at "rd"
  refine rd_forL (xs := iN ds.reverse) (fun i σ' H' => ∃ v, σ' = [some (.ref l), some (.int (base : Int)), some (.int ((ds.reverse.take i).foldl (fun r d => base * r + d) 0 : Nat)), v] ∧ H' = H1) ⟨none, rfl, rfl⟩ ?_ ?_ ?_
  · rintro i σ' H' _ ⟨v, _, rfl⟩
    walk_at "sq"
  · rintro i y σ' H' hy ⟨v, rfl, rfl⟩
    obtain ⟨d, hd, rfl⟩ := iN_of hy
    walk_at "rd"
    refine rd_mul (mul_okL (by omega) (by omega)) ?_
    walk_at "rd"
    refine ⟨some (.int (d : Int)), ?_, rfl⟩
    rw [take_snoc hd, List.foldl_append]
    rfl
  · rintro σ' H' ⟨v, rfl, rfl⟩
    walk_at "rd"
    rw [iN_length, List.take_length, valB_fold]
    exact k _ W1.toSame
/-! a drawn integer -/
def sp_law_number (K : PySem.W.Frag) (c : Pc) : Sp := fun vs H Q _ => ∃ (a : Addr) (o : HO) (base most : Nat), vs = [.ref a, .int (base : Int), .int (most : Int)] ∧ H a = some o ∧ SrcO o ∧ 2 ≤ base ∧ base ≤ 2 ^ 30 ∧ most ≤ 10000 ∧
  ∀ (n : Int) o' H', n.natAbs < base ^ (most + 1) → SrcO o' → Chg H H' [(a, o')] [] → Q (.int n) H'
def t_law_number (K : PySem.W.Frag) (c : Pc) : TS :=
  (tSeq (tAsg (tCall (sp_law_value K c) [] E0 (tCons (tCall (sp_law_digits K c) [] E0 (tCons (tVar 0) (tCons (tVar 1) (tCons (tVar 2) tNil)))) (tCons (tVar 1) tNil))) (gName 3))
  (tSeq (tAsg (tIf (tTest (tOp rGt (tVar 3) (tC (.int 0)))) (tVar 3) (tCall (sp_law_next K c) [] E0 (tCons (tVar 0) (tCons (tVar 1) tNil)))) (gName 3))
  (tRet (tCall (sp_law_one K c) [] E0 (tCons (tVar 0) (tCons (tLst (tCons (tVar 3) (tCons (tVar 3) (tCons (tOp rSub (tC (.int 0)) (tVar 3)) tNil)))) tNil))))))
theorem b_law_number (h : sp_law_number K c vs H Q E) : t_law_number K c (en0 Q) (st0 4 vs) H := by
  obtain ⟨a, o, base, most, rfl, ha, ho, hb1, hb2, hm, k⟩ := h
  have W : Wd H H [a] [(a, o)] := (Wd.one ha).may List.mem_cons_self
  unfold t_law_number
  walk_at "rd"
  refine u_digits W (fun u => by walk_at "rp") ho (by walk_at "may") hb1 hb2 hm fun l ds o1 H1 hl hds hlt ho1 W1 => ?_
  walk_at "rd"
  refine ⟨l, base, ds, rfl, W1.get (by walk_at "mem"), hb2, fun H2 hs => ?_⟩
  have W2 := W1.same hs
  have hv := valB_lt hlt
  have hv2 : valB base ds < base ^ (most + 1) := Nat.lt_of_lt_of_le hv (Nat.pow_le_pow_right (by omega) hds)
  generalize valB base ds = v at hv2
  walk_at "rd"
  have cont : ∀ (v : Nat) (o2 : HO) (H3 : Hp), v < base ^ (most + 1) → SrcO o2 → Wd H H3 [a] [(l, .lst (iN ds)), (a, o2)] →
      tRet (tCall (sp_law_one K c) [] E0 (tCons (tVar 0) (tCons (tLst (tCons (tVar 3) (tCons (tVar 3) (tCons (tOp rSub (tC (.int 0)) (tVar 3)) tNil)))) tNil))) (en0 Q) [some (.ref a), some (.int (base : Int)), some (.int (most : Int)), some (.int (v : Int))] H3 := by
    intro v o2 H3 hv ho2 W3
    walk_at "rd"
    refine rd_kLst W3 (by walk_at "len") fun t H4 ht W4 => ?_
    walk_at "rd"
    have nat : a ≠ t := fun z => by
      rw [z, ht] at ha
      cases ha
    refine u_one W4 (fun u => by walk_at "rp") ho2 (by walk_at "may") (by walk_at "mem") nat (by simp) (by simp) fun w o3 H5 hw ho3 W5 => ?_
    have ch : Chg H H5 [(a, o3)] [] := W5.done (fun q hq => by rw [List.mem_singleton.mp hq]; walk_at "mem") (fun q hq => hq) (fun q z => nomatch z) List.nodup_nil
    simp only [List.mem_cons, List.not_mem_nil, or_false] at hw
    rcases hw with rfl | rfl | rfl
    · exact k _ o3 H5 (by omega) ho3 ch
    · exact k _ o3 H5 (by omega) ho3 ch
    · exact k _ o3 H5 (by omega) ho3 ch
  refine rd_2d (fun h1 => ?_) fun h1 => ?_
  · refine rd_var rfl (rd_name (by walk_at "set") ?_)
    exact cont v o1 H2 hv2 ho1 W2
  · refine rd_call (rd_cons (rd_var rfl (rd_cons (rd_var rfl (rd_nil ?_)))))
    refine u_next W2 (fun u => by walk_at "rp") ho1 (by walk_at "may") (by omega) (by omega) fun r o2 H3 h3 h4 ho2 W3 => ?_
    obtain ⟨r', rfl⟩ := Int.eq_ofNat_of_zero_le h3
    refine rd_name (by walk_at "set") ?_
    refine cont r' o2 H3 ?_ ho2 W3
    have : base ^ 1 ≤ base ^ (most + 1) := Nat.pow_le_pow_right (by omega) (by omega)
    rw [Nat.pow_one] at this
    omega
theorem u_number (W : Wd H0 H M L) (hr : ∀ u, Rp a o u L (L' u)) (ho : SrcO o) (hm : H0 a = none ∨ a ∈ M) (h1 : 2 ≤ base) (h2 : base ≤ 2 ^ 30) (h3 : most ≤ 10000)
    (q : ∀ (n : Int) o' H', n.natAbs < base ^ (most + 1) → SrcO o' → Wd H0 H' M (L' o') → Q (.int n) H') : sp_law_number K c [.ref a, .int (base : Int), .int (most : Int)] H Q E :=
  ⟨a, o, base, most, rfl, W.get (hr o).mem, ho, h1, h2, h3, fun n o' H' h4 h6 ch => q n o' H' h4 h6 (W.chg1 (hr o') ch hm)⟩
end

/-! Lw: the world of a law's own defs: what is owned (L) and the Bigs (B); the steps as rules that need no names. -/
/-- B: the Bigs that stand: place, width, number -/
structure Wb (c : Pc) (H0 H : Hp) (M : List Addr) (L : List (Addr × HO)) (B : List (Addr × Nat × Int)) : Prop where
  wd : Wd H0 H M L
  big : ∀ {x : Addr} {b : Nat} {n : Int}, (x, b, n) ∈ B → BigAt c H x b n ∧ bigL b n
/-- a list of integers -/
def AllI (xs : List V) : Prop := ∃ ns : List Int, xs = ns.map V.int
theorem AllI.nil : AllI [] := ⟨[], rfl⟩
theorem AllI.cons {n : Int} {xs : List V} (h : AllI xs) : AllI (.int n :: xs) := by obtain ⟨ns, rfl⟩ := h; exact ⟨n :: ns, rfl⟩
theorem AllI.n (ds : List Nat) : AllI (iN ds) := ⟨_, iN_int ds⟩
theorem AllI.m (ns : List Int) : AllI (ns.map V.int) := ⟨ns, rfl⟩
theorem AllI.app {xs ys : List V} (h : AllI xs) (k : AllI ys) : AllI (xs ++ ys) := by
  obtain ⟨ns, rfl⟩ := h
  obtain ⟨ms, rfl⟩ := k
  exact ⟨ns ++ ms, by rw [List.map_append]⟩
theorem AllI.rep {n : Nat} {xs : List V} (h : AllI xs) : AllI (List.replicate n xs).flatten := by
  induction n with
  | zero => exact AllI.nil
  | succ n ih => rw [List.replicate_succ, List.flatten_cons]; exact h.app ih
theorem SrcO.chb {o : HO} (h : SrcO o) : Chb o := by obtain ⟨a, b, d, rfl⟩ := h; exact .inl ⟨_, rfl⟩
theorem Chb.lst {xs : List V} : Chb (.lst xs) := .inl ⟨_, rfl⟩
theorem Chb.dK {kvs : List (Key × V)} : Chb (.dK kvs) := .inr ⟨_, rfl⟩
section
variable {K : PySem.W.Frag} {c : Pc} {vs xs ys : List V} {H H0 H' : Hp} {Q : VK} {E : XK} {M : List Addr} {L L' ns cs : List (Addr × HO)} {L1 : HO → List (Addr × HO)} {B : List (Addr × Nat × Int)} {b b' : Nat} {cut n m : Int} {a d e dx r x x' l p : Addr} {o u : HO} {σ : L2.St} {y : V} {tr : TA}
theorem Wb.self (W : Wb c H0 H M L B) : Wd H H [] L := ⟨W.wd.get, W.wd.nd, fun _ _ e _ => e, fun _ h => nomatch h⟩
theorem Wb.get (W : Wb c H0 H M L B) (h : (a, o) ∈ L) : H a = some o := W.wd.get h
theorem Wb.chg0 (W : Wb c H0 H M L B) (ch : Chg H H' [] ns) : Wb c H0 H' M (ns ++ L) B := ⟨W.wd.chg0 ch, fun h => ⟨(W.big h).1.chg ch (fun _ z => nomatch z), (W.big h).2⟩⟩
theorem Wb.chg1 (W : Wb c H0 H M L B) (r : Rp a o u L L') (hb : Chb o) (ch : Chg H H' [(a, u)] ns) (hm : H0 a = none ∨ a ∈ M) : Wb c H0 H' M (ns ++ L') B := ⟨W.wd.chg1 r ch hm, fun h => ⟨(W.big h).1.chg ch (fun q z => by
  rw [List.mem_singleton.mp z]; exact ⟨o, W.wd.get r.mem, hb⟩), (W.big h).2⟩⟩
theorem Wb.same (W : Wb c H0 H M L B) (s : Same H H') : Wb c H0 H' M L B := ⟨W.wd.same s, fun h => ⟨(W.big h).1.same s, (W.big h).2⟩⟩
theorem Wb.add (W : Wb c H0 H M L B) (h : BigAt c H x b n) (l : bigL b n) : Wb c H0 H M L ((x, b, n) :: B) := ⟨W.wd, fun z => by
  rcases List.mem_cons.mp z with z | z
  · cases z; exact ⟨h, l⟩
  · exact W.big z⟩
theorem Wb.new (W : Wb c H0 H M L B) (h : H p = none) : Wb c H0 (upd H p o) M ((p, o) :: L) B :=
  W.chg0 (ns := [(p, o)]) (((Wd.nil H).new h).new1 h)
theorem Wb.put (W : Wb c H0 H M L B) (r : Rp a o u L L') (hb : Chb o) (hm : H0 a = none ∨ a ∈ M) : Wb c H0 (upd H a u) M L' B :=
  W.chg1 (ns := []) r hb (⟨fun z => by cases List.mem_singleton.mp z; exact upd_same, (fun z => nomatch z), List.nodup_nil, fun b o e hb => by rw [upd_ne (fun z => hb (by rw [z]; exact List.mem_cons_self))]; exact e⟩) hm
theorem Wb.one (W : Wb c H H' [a] L B) (h : (a, o) ∈ L) : Chg H H' [(a, o)] [] :=
  W.wd.done (fun q z => by rw [List.mem_singleton.mp z]; exact h) (fun q z => by rw [List.mem_singleton.mp z]; exact List.mem_cons_self) (fun q z => nomatch z) List.nodup_nil
theorem Wb.toSame (W : Wb c H H' [] L B) : Same H H' := W.wd.toSame
theorem Wb.start (W : Wd H0 H M L) : Wb c H0 H M L [] := ⟨W, fun z => nomatch z⟩
/-! ### lists, tuples -/
theorem lw_lst (W : Wb c H0 H M L B) (hl : xs.length ≤ sizeLine) (q : ∀ p H', H0 p = none → Wb c H0 H' M ((p, .lst xs) :: L) B → Q (.ref p) H') : kLst Q xs H := ⟨hl, fun p hp => q p _ (W.wd.fresh hp) (W.new hp)⟩
theorem lw_tup (W : Wb c H0 H M L B) (hl : xs.length ≤ sizeLine) (q : ∀ p H', H0 p = none → Wb c H0 H' M ((p, .tup xs) :: L) B → Q (.ref p) H') : kTup Q xs H := ⟨hl, fun p hp => q p _ (W.wd.fresh hp) (W.new hp)⟩
theorem lw_cat (W : Wb c H0 H M L B) (h1 : (a, .lst xs) ∈ L) (h2 : (l, .lst ys) ∈ L) (hl : xs.length + ys.length ≤ sizeLine) (q : ∀ p H', H0 p = none → Wb c H0 H' M ((p, .lst (xs ++ ys)) :: L) B → Q (.ref p) H') : rCat (.ref a) (.ref l) H Q :=
  ⟨a, l, xs, ys, rfl, rfl, W.get h1, W.get h2, hl, fun p hp => q p _ (W.wd.fresh hp) (W.new hp)⟩
theorem lw_rep (W : Wb c H0 H M L B) (h : (a, .lst xs) ∈ L) (h1 : -(2 ^ 63) ≤ n) (h2 : n < 2 ^ 63) (h3 : xs.length * n.toNat ≤ sizeLine) (q : ∀ p H', H0 p = none → Wb c H0 H' M ((p, .lst (List.replicate n.toNat xs).flatten) :: L) B → Q (.ref p) H') : rRep (.ref a) (.int n) H Q :=
  ⟨a, n, xs, rfl, rfl, W.get h, h1, h2, h3, fun p hp => q p _ (W.wd.fresh hp) (W.new hp)⟩
theorem lw_catN {ds es : List Nat} (W : Wb c H0 H M L B) (h1 : (a, .lst (iN ds)) ∈ L) (h2 : (l, .lst (iN es)) ∈ L) (hl : (iN ds).length + (iN es).length ≤ sizeLine) (q : ∀ p H', H0 p = none → Wb c H0 H' M ((p, .lst (iN (ds ++ es))) :: L) B → Q (.ref p) H') : rCat (.ref a) (.ref l) H Q :=
  lw_cat W h1 h2 hl (by rw [iN_app]; exact q)
theorem rep_zero (k : Nat) : (List.replicate k [V.int 0]).flatten = iN (List.replicate k 0) := by
  induction k with
  | zero => rfl
  | succ k ih => rw [List.replicate_succ, List.flatten_cons, ih]; rfl
theorem lw_repZ (W : Wb c H0 H M L B) (h : (a, .lst [.int 0]) ∈ L) (h1 : 0 ≤ n) (h2 : n < 10000) (q : ∀ p H', H0 p = none → Wb c H0 H' M ((p, .lst (iN (List.replicate n.toNat 0))) :: L) B → Q (.ref p) H') : rRep (.ref a) (.int n) H Q :=
  lw_rep W h (by omega) (by omega) (Evl.sz_of (by rw [List.length_singleton]; omega)) (by rw [rep_zero]; exact q)
theorem lw_append (W : Wb c H0 H M L B) (r : Rp l (.lst xs) (.lst (xs ++ [y])) L L') (hm : H0 l = none ∨ l ∈ M) (hl : xs.length < sizeLine) (q : ∀ H', Wb c H0 H' M L' B → Q .non H') : rAppend (.ref l) [y] H Q :=
  ⟨l, xs, y, rfl, rfl, W.get r.mem, hl, q _ (W.put r .lst hm)⟩
theorem lw_kAcc {Nx : Hp → Prop} (W : Wb c H0 H M L B) (r : Rp l (.lst xs) (.lst (xs ++ [y])) L L') (hm : H0 l = none ∨ l ∈ M) (hl : xs.length < sizeLine) (q : ∀ H', Wb c H0 H' M L' B → Nx H') : kAcc l Nx y H :=
  ⟨xs, W.get r.mem, hl, q _ (W.put r .lst hm)⟩
theorem lw_slL {lo hi : Option Int} (W : Wb c H0 H M L B) (h : (a, .lst xs) ∈ L) (q : ∀ p H', H0 p = none → Wb c H0 H' M ((p, .lst (cutV xs lo hi)) :: L) B → Q (.ref p) H') : rSlL K (.ref a) lo hi H Q :=
  ⟨a, xs, rfl, SqL.of (W.get h), fun p hp => q p _ (W.wd.fresh hp) (W.new hp)⟩
theorem lw_list (W : Wb c H0 H M L B) (h : (a, .lst xs) ∈ L) (q : ∀ p H', H0 p = none → Wb c H0 H' M ((p, .lst xs) :: L) B → Q (.ref p) H') : rList K [.ref a] H Q := ⟨a, xs, rfl, .inl (SqL.of (W.get h)), fun p hp => q p _ (W.wd.fresh hp) (W.new hp)⟩
theorem lw_ixT (W : Wb c H0 H M L B) (h : (a, .tup xs) ∈ L) (hv : atI xs n = some y) (q : Q y H) : rIxT K (.ref a) (.int n) H Q := rd_ixT (SqT.of (W.get h)) hv q
theorem lw_ixL (W : Wb c H0 H M L B) (h : (a, .lst xs) ∈ L) (hv : atI xs n = some y) (q : Q y H) : rIxL K (.ref a) (.int n) H Q := rd_ixL (SqL.of (W.get h)) hv q
theorem lw_kBMl {rm : V → List V → Hp → VK → Prop} (W : Wb c H0 H M L B) (h : (l, .lst xs) ∈ L) (q : tr σ H fun ys H2 => rm (.ref l) ys H2 Q) : kBM K "list" rm tr σ Q (.ref l) H := rd_kBMl (W.get h) q
/-- two lists of integers, alike or not -/
theorem mapI_inj : ∀ {ns ms : List Int}, ns.map V.int = ms.map V.int → ns = ms
  | [], [], _ => rfl
  | [], _ :: _, h => by simp at h
  | _ :: _, [], h => by simp at h
  | x :: xs, y :: ys, h => by
    rw [List.map_cons, List.map_cons] at h
    obtain ⟨h1, h2⟩ := List.cons.inj h
    rw [mapI_inj h2, V.int.inj h1]
theorem lw_neL (W : Wb c H0 H M L B) (h1 : (a, .lst xs) ∈ L) (h2 : (l, .lst ys) ∈ L) (a1 : AllI xs) (a2 : AllI ys) (q : ∀ k : Bool, (xs = ys → k = false) → (xs ≠ ys → k = true) → Q (.bl k) H) : rNeD K (.ref a) (.ref l) H Q := by
  obtain ⟨ns, rfl⟩ := a1
  obtain ⟨ms, rfl⟩ := a2
  refine rd_neLI (SqL.of (W.get h1)) (SqL.of (W.get h2)) (q _ (fun z => ?_) (fun z => ?_))
  · rw [mapI_inj z, decide_eq_true rfl]; rfl
  · rw [decide_eq_false (fun e => z (by rw [e]))]; rfl
theorem lw_eqL (W : Wb c H0 H M L B) (h1 : (a, .lst xs) ∈ L) (h2 : (l, .lst ys) ∈ L) (a1 : AllI xs) (a2 : AllI ys) (q : ∀ k : Bool, (xs = ys → k = true) → (xs ≠ ys → k = false) → Q (.bl k) H) : rEqD K (.ref a) (.ref l) H Q := by
  obtain ⟨ns, rfl⟩ := a1
  obtain ⟨ms, rfl⟩ := a2
  refine rd_eqLI (SqL.of (W.get h1)) (SqL.of (W.get h2)) (q _ (fun z => ?_) (fun z => ?_))
  · rw [mapI_inj z, decide_eq_true rfl]
  · rw [decide_eq_false (fun e => z (by rw [e]))]
/-- where they are alike -/
theorem lw_neLF (W : Wb c H0 H M L B) (h1 : (a, .lst xs) ∈ L) (h2 : (l, .lst ys) ∈ L) (e : xs = ys) (a1 : AllI xs) (q : Q (.bl false) H) : rNeD K (.ref a) (.ref l) H Q :=
  lw_neL W h1 h2 a1 (e ▸ a1) fun k z _ => by rw [z e]; exact q
theorem lw_eqLT (W : Wb c H0 H M L B) (h1 : (a, .lst xs) ∈ L) (h2 : (l, .lst ys) ∈ L) (e : xs = ys) (a1 : AllI xs) (q : Q (.bl true) H) : rEqD K (.ref a) (.ref l) H Q :=
  lw_eqL W h1 h2 a1 (e ▸ a1) fun k z _ => by rw [z e]; exact q
/-! ### draws -/
theorem lw_source_of (W : Wb c H0 H M L B) (q : ∀ p o H', H0 p = none → SrcO o → Wb c H0 H' M ((p, o) :: L) B → Q (.ref p) H') : sp_law_source_of K c [.int n] H Q E :=
  ⟨n, rfl, fun p o H' ho ch => q p o H' (W.wd.fresh (ch.new List.mem_cons_self).1) ho (W.chg0 ch)⟩
theorem lw_next (W : Wb c H0 H M L B) (hr : ∀ u, Rp a o u L (L1 u)) (ho : SrcO o) (hm : H0 a = none ∨ a ∈ M) (h0 : 0 < n) (hn : n < 2 ^ 64) (q : ∀ r o' H', 0 ≤ r → r < n → SrcO o' → Wb c H0 H' M (L1 o') B → Q (.int r) H') : sp_law_next K c [.ref a, .int n] H Q E :=
  ⟨a, o, n, rfl, W.get (hr o).mem, ho, h0, hn, fun r o' H' h1 h2 h3 ch => q r o' H' h1 h2 h3 (W.chg1 (hr o') ho.chb ch hm)⟩
theorem lw_one (W : Wb c H0 H M L B) (hr : ∀ u, Rp a o u L (L1 u)) (ho : SrcO o) (hm : H0 a = none ∨ a ∈ M) (hl : (l, .lst xs) ∈ L) (nal : a ≠ l) (hne : xs ≠ []) (hlen : xs.length ≤ 1000) (q : ∀ v o' H', v ∈ xs → SrcO o' → Wb c H0 H' M (L1 o') B → Q v H') : sp_law_one K c [.ref a, .ref l] H Q E :=
  ⟨a, o, l, xs, rfl, W.get (hr o).mem, ho, W.get hl, hne, hlen, nal, fun v o' H' h1 h2 ch => q v o' H' h1 h2 (W.chg1 (hr o') ho.chb ch hm)⟩
theorem lw_machine (W : Wb c H0 H M L B) (hr : ∀ u, Rp a o u L (L1 u)) (ho : SrcO o) (hm : H0 a = none ∨ a ∈ M)
    (q : ∀ (x dx : Addr) (b : Nat) (cut : Int) (d e : Addr) o' H', 8 ≤ b → b ≤ 30 → 2 ≤ cut → cut ≤ 1000 → H0 x = none → H0 d = none → H0 e = none → SrcO o' → Wb c H0 H' M ((d, .dK (cK zeros)) :: (e, .lst []) :: (x, .ins c.CMachine dx (mF b cut d e)) :: L1 o') B → Q (.ref x) H') : sp_law_machine K c [.ref a] H Q E :=
  ⟨a, o, rfl, W.get (hr o).mem, ho, fun x dx b cut d e o' H' h1 h2 h3 h4 h5 ch => q x dx b cut d e o' H' h1 h2 h3 h4 (W.wd.fresh (ch.new (o := .ins c.CMachine dx (mF b cut d e)) (by walk_at "mem")).1) (W.wd.fresh (ch.new (o := .dK (cK zeros)) (by walk_at "mem")).1) (W.wd.fresh (ch.new (o := .lst []) (by walk_at "mem")).1) h5 (W.chg1 (hr o') ho.chb ch hm)⟩
theorem lw_number {base most : Nat} (W : Wb c H0 H M L B) (hr : ∀ u, Rp a o u L (L1 u)) (ho : SrcO o) (hm : H0 a = none ∨ a ∈ M) (h1 : 2 ≤ base) (h2 : base ≤ 2 ^ 30) (h3 : most ≤ 10000)
    (q : ∀ (n : Int) o' H', n.natAbs < base ^ (most + 1) → SrcO o' → Wb c H0 H' M (L1 o') B → Q (.int n) H') : sp_law_number K c [.ref a, .int (base : Int), .int (most : Int)] H Q E :=
  ⟨a, o, base, most, rfl, W.get (hr o).mem, ho, h1, h2, h3, fun n o' H' h4 h5 ch => q n o' H' h4 h5 (W.chg1 (hr o') ho.chb ch hm)⟩
theorem lw_mkMachine (W : Wb c H0 H M L B) (h1 : 8 ≤ b) (h2 : b ≤ 30) (h3 : 2 ≤ cut) (h4 : cut ≤ 1000)
    (q : ∀ x dx d e H', H0 x = none → H0 d = none → H0 e = none → Wb c H0 H' M ((d, .dK (cK zeros)) :: (e, .lst []) :: (x, .ins c.CMachine dx (mF b cut d e)) :: L) B → Q (.ref x) H') : kMake c.CMachine (sp_Machine_init K c) [] E Q [.int (b : Int), .int cut] H := 
  rd_mkMachine W.self h1 h2 h3 h4 fun x dx d e H' hx hd he S => q x dx d e H' (W.wd.fresh hx) (W.wd.fresh hd) (W.wd.fresh he) ⟨⟨S.get, S.nd, fun b o e hb => S.keep _ _ (W.wd.keep b o e hb) (fun z => nomatch z), fun a h => List.mem_cons_of_mem _ (List.mem_cons_of_mem _ (List.mem_cons_of_mem _ (W.wd.sub a h)))⟩, fun z => ⟨(W.big z).1.same S.toSame, (W.big z).2⟩⟩
theorem lw_shl1 (h : b ≤ 1000) (q : Q (.int ((2 ^ b : Nat) : Int)) H) : rShl (.int 1) (.int (b : Int)) H Q := rd_shl (shl_one h) (by rw [Int.one_mul, Int.toNat_natCast, pwN]; exact q)
theorem lw_kw {P : List V → Prop} {i j : Nat} {ix : List Nat} {zs vs : List V} (h : i = j) (e : perm ix zs = vs) (q : P vs) : i = j ∧ P (perm ix zs) := ⟨h, by rw [e]; exact q⟩
theorem lw_kwS {sp : Sp} {i j : Nat} {ix : List Nat} {zs vs : List V} (h : i = j) (e : perm ix zs = vs) (q : sp vs H Q E) : i = j ∧ sp (perm ix zs) H Q E := ⟨h, by rw [e]; exact q⟩
theorem rd_nT {A A' : Hp → Prop} (q : A' H) : kIf A A' (!true) H := rd_F rfl q
theorem rd_nF {A A' : Hp → Prop} (q : A H) : kIf A A' (!false) H := rd_T rfl q
theorem rd_isB {k k' : Bool} (q : Q (.bl (decide (k = k'))) H) : rIsB (.bl k) (.bl k') H Q := ⟨k, k', rfl, rfl, q⟩
theorem rd_ifZ {P : Prop} [Decidable P] {ta tb : TE} (za zb : Int) (h1 : ∀ Q : VK, Q (.int za) H → ta σ H Q) (h2 : ∀ Q : VK, Q (.int zb) H → tb σ H Q) (q : ∀ z : Int, (P → z = za) → (¬ P → z = zb) → Q (.int z) H) : kIf (fun H1 => ta σ H1 Q) (fun H1 => tb σ H1 Q) (decide P) H :=
  rd_2d (fun h => h1 _ (q za (fun _ => rfl) (fun k => absurd h k))) (fun h => h2 _ (q zb (fun k => absurd k h) (fun _ => rfl)))
theorem bigL_of {b : Nat} {n : Int} (h1 : 8 ≤ b) (h2 : b ≤ 30) (hn : n.natAbs < 2 ^ 4000) : bigL b n := by
  refine ⟨by omega, h2, Nat.lt_of_le_of_lt (digs_length_le (by omega) _ (k := 500) (Nat.lt_of_lt_of_le hn (Nat.pow_le_pow_right (by decide) ?_))) (by decide)⟩
  omega
theorem iN_digs0 : iN (digs b (Int.natAbs 0)) = [] := by rw [Int.natAbs_zero, digs_zero]; rfl
/-- N is L with more ahead of it -/
def Sfx {α : Type} (L N : List α) : Prop := ∃ P, N = P ++ L
theorem Sfx.refl {α : Type} {L : List α} : Sfx L L := ⟨[], rfl⟩
theorem Sfx.cons {α : Type} {L N : List α} {q : α} (h : Sfx L N) : Sfx L (q :: N) := by obtain ⟨P, rfl⟩ := h; exact ⟨q :: P, rfl⟩
theorem Sfx.app {α : Type} {L N P : List α} (h : Sfx L N) : Sfx L (P ++ N) := by obtain ⟨P', rfl⟩ := h; exact ⟨P ++ P', by rw [List.append_assoc]⟩
/-- a number by one of two ways -/
theorem lw_if {P : Prop} [Decidable P] {ta tb : TE} (za zb : Int) (W : Wb c H0 H M L B) (h1 : P → ∀ Q' : VK, (∀ H1 L2 B2, Wb c H0 H1 M L2 B2 → Sfx L L2 → Sfx B B2 → Q' (.int za) H1) → ta σ H Q')
    (h2 : ¬ P → ∀ Q' : VK, (∀ H1 L2 B2, Wb c H0 H1 M L2 B2 → Sfx L L2 → Sfx B B2 → Q' (.int zb) H1) → tb σ H Q')
    (q : ∀ z H1 L' B', (P → z = za) → (¬ P → z = zb) → Wb c H0 H1 M (L' ++ L) (B' ++ B) → Q (.int z) H1) : kIf (fun H1 => ta σ H1 Q) (fun H1 => tb σ H1 Q) (decide P) H :=
  rd_2d (fun h => h1 h Q fun H1 L2 B2 W s1 s2 => by
    obtain ⟨L', rfl⟩ := s1
    obtain ⟨B', rfl⟩ := s2
    exact q za H1 L' B' (fun _ => rfl) (fun k => absurd h k) W) (fun h => h2 h Q fun H1 L2 B2 W s1 s2 => by
    obtain ⟨L', rfl⟩ := s1
    obtain ⟨B', rfl⟩ := s2
    exact q zb H1 L' B' (fun k => absurd k h) (fun _ => rfl) W)
/-- a test that may be made or not, and is false -/
theorem lw_and {k : Bool} {tU : TT} {QB : Bool → Hp → Prop} (W : Wb c H0 H M L B) (h : k = true → ∀ QB' : Bool → Hp → Prop, (∀ H1 L2 B2, Wb c H0 H1 M L2 B2 → Sfx L L2 → Sfx B B2 → QB' false H1) → tU σ H QB')
    (q : ∀ H1 L' B', Wb c H0 H1 M (L' ++ L) (B' ++ B) → QB false H1) : kIf (fun H1 => tU σ H1 QB) (fun H1 => QB false H1) k H := by
  cases k with
  | true => exact rd_T rfl (h rfl QB fun H1 L2 B2 W s1 s2 => by
    obtain ⟨L', rfl⟩ := s1
    obtain ⟨B', rfl⟩ := s2
    exact q H1 L' B' W)
  | false => exact rd_F rfl (q H [] [] W)
theorem lw_kIT {R : It → Hp → Prop} (W : Wb c H0 H M L B) (h : (a, .tup xs) ∈ L) (q : R (Itt K a) H) : kIT K R (.ref a) H := rd_kIT (SqT.of (W.get h)) q
theorem lw_kIL {R : It → Hp → Prop} (W : Wb c H0 H M L B) (h : (a, .lst xs) ∈ L) (q : R (Itl K a) H) : kIL K R (.ref a) H := rd_kIL (SqL.of (W.get h)) q
/-- a loop that draws nothing and changes nothing -/
def LInv (c : Pc) (H0 : Hp) (M : List Addr) (L : List (Addr × HO)) (B : List (Addr × Nat × Int)) (Ps : L2.St → Prop) : L2.St → Hp → Prop := fun σ H => Ps σ ∧ ∃ L' B', Wb c H0 H M (L' ++ L) (B' ++ B)
theorem lw_forT {g : TG} {ts : TS} {nx bk ct : L2.St → Hp → Prop} {rt : VK} (Ps : Nat → L2.St → Prop) (W : Wb c H0 H M L B) (h : (a, .tup xs) ∈ L) (h0 : Ps 0 σ)
    (hs : ∀ i x σ H L' B', xs[i]? = some x → Ps i σ → Wb c H0 H M (L' ++ L) (B' ++ B) → g x σ H fun σ2 H2 => ts ⟨LInv c H0 M L B (Ps (i + 1)), rt, nx, LInv c H0 M L B (Ps (i + 1))⟩ σ2 H2)
    (hd : ∀ σ H L' B', Ps xs.length σ → Wb c H0 H M (L' ++ L) (B' ++ B) → nx σ H) : kFor g ts ⟨nx, rt, bk, ct⟩ σ (Itt K a) H :=
  rd_forT (fun i => LInv c H0 M L B (Ps i)) ⟨h0, [], [], W⟩ (fun i σ H _ ⟨_, L', B', W'⟩ => SqT.of (W'.get (List.mem_append_right _ h))) (fun i x σ H hx ⟨hp, L', B', W'⟩ => hs i x σ H L' B' hx hp W') (fun σ H ⟨hp, L', B', W'⟩ => hd σ H L' B' hp W')
theorem lw_forL {g : TG} {ts : TS} {nx bk ct : L2.St → Hp → Prop} {rt : VK} (Ps : Nat → L2.St → Prop) (W : Wb c H0 H M L B) (h : (a, .lst xs) ∈ L) (h0 : Ps 0 σ)
    (hs : ∀ i x σ H L' B', xs[i]? = some x → Ps i σ → Wb c H0 H M (L' ++ L) (B' ++ B) → g x σ H fun σ2 H2 => ts ⟨LInv c H0 M L B (Ps (i + 1)), rt, nx, LInv c H0 M L B (Ps (i + 1))⟩ σ2 H2)
    (hd : ∀ σ H L' B', Ps xs.length σ → Wb c H0 H M (L' ++ L) (B' ++ B) → nx σ H) : kFor g ts ⟨nx, rt, bk, ct⟩ σ (Itl K a) H :=
  rd_forL (fun i => LInv c H0 M L B (Ps i)) ⟨h0, [], [], W⟩ (fun i σ H _ ⟨_, L', B', W'⟩ => SqL.of (W'.get (List.mem_append_right _ h))) (fun i x σ H hx ⟨hp, L', B', W'⟩ => hs i x σ H L' B' hx hp W') (fun σ H ⟨hp, L', B', W'⟩ => hd σ H L' B' hp W')
theorem lw_end {Ps : L2.St → Prop} {N : List (Addr × HO)} {C : List (Addr × Nat × Int)} (W : Wb c H0 H M N C) (s1 : Sfx L N) (s2 : Sfx B C) (h : Ps σ) : LInv c H0 M L B Ps σ H := by
  obtain ⟨L', rfl⟩ := s1
  obtain ⟨B', rfl⟩ := s2
  exact ⟨h, L', B', W⟩
theorem kMake_dvs {C : Addr} {sp : Sp} {dvs : List V} (q : kMake C sp [] E Q (vs ++ dvs) H) : kMake C sp dvs E Q vs H := fun x dx h1 h2 h3 => by
  have := q x dx h1 h2 h3
  rwa [List.append_nil] at this
theorem lw_mkM1 (W : Wb c H0 H M L B) (h1 : 8 ≤ b) (h2 : b ≤ 30) (h3 : 2 ≤ cut) (h4 : cut ≤ 1000)
    (q : ∀ x dx d e H', H0 x = none → H0 d = none → H0 e = none → Wb c H0 H' M ((d, .dK (cK zeros)) :: (e, .lst []) :: (x, .ins c.CMachine dx (mF b cut d e)) :: L) B → Q (.ref x) H') : kMake c.CMachine (sp_Machine_init K c) [.int cut] E Q [.int (b : Int)] H :=
  kMake_dvs (lw_mkMachine W h1 h2 h3 h4 q)
theorem lw_mkM0 (W : Wb c H0 H M L B) 
    (q : ∀ x dx d e H', H0 x = none → H0 d = none → H0 e = none → Wb c H0 H' M ((d, .dK (cK zeros)) :: (e, .lst []) :: (x, .ins c.CMachine dx (mF 30 70 d e)) :: L) B → Q (.ref x) H') : kMake c.CMachine (sp_Machine_init K c) [.int 30, .int 70] E Q [] H :=
  kMake_dvs (lw_mkMachine (b := 30) W (by decide) (by decide) (by decide) (by decide) q)
/-! ### machines and Bigs -/
theorem mF_meth' {m : Str} (h : (m == "entered" || m == "counts" || m == "base" || m == "limit_of_rows" || m == "width") = false) : (mF b cut d e).lookup m = none := by
  simp only [Bool.or_eq_false_iff, beq_eq_false_iff_ne] at h
  exact mF_none h.1.1.1.1 h.1.1.1.2 h.1.1.2 h.1.2 h.2
theorem bF_meth' {s : Int} {m : Str} (h : (m == "row" || m == "side" || m == "width") = false) : (bF b s r).lookup m = none := by
  simp only [Bool.or_eq_false_iff, beq_eq_false_iff_ne] at h
  exact bF_none h.1.1 h.1.2 h.2
theorem lw_methM {sp : Sp} {f : Str} (W : Wb c H0 H M L B) (h : (a, .ins c.CMachine dx (mF b cut d e)) ∈ L) (hl : (f == "entered" || f == "counts" || f == "base" || f == "limit_of_rows" || f == "width") = false) (q : tr σ H fun vs H2 => sp (.ref a :: vs) H2 Q E) : kMeth c.CMachine f sp [] E tr σ Q (.ref a) H :=
  rd_kMeth (W.get h) (mF_meth' hl) q
theorem lw_methB {sp : Sp} {f : Str} (W : Wb c H0 H M L B) (h : (x, b, n) ∈ B) (hl : (f == "row" || f == "side" || f == "width") = false) (q : tr σ H fun vs H2 => sp (.ref x :: vs) H2 Q E) : kMeth c.CBig f sp [] E tr σ Q (.ref x) H := by
  obtain ⟨dx, r, h1, _⟩ := (W.big h).1.at_
  exact rd_kMeth h1 (bF_meth' hl) q
theorem lw_parts (W : Wb c H0 H M L B) (h : (a, .ins c.CMachine dx (mF b cut d e)) ∈ L) (q : ∀ p H', H0 p = none → Wb c H0 H' M ((p, .tup [.int (b : Int), .int cut]) :: L) B → Q (.ref p) H') : sp_Machine_parts K c [.ref a] H Q E :=
  ⟨a, dx, b, cut, d, e, rfl, W.get h, fun p H' ch => q p H' (W.wd.fresh (ch.new List.mem_cons_self).1) (W.chg0 ch)⟩
theorem lw_walk (W : Wb c H0 H M L B) (h : (a, .ins c.CMachine dx (mF b cut d e)) ∈ L) (h2 : (e, .lst xs) ∈ L) (q : ∀ p H', H0 p = none → Wb c H0 H' M ((p, .lst xs) :: L) B → Q (.ref p) H') : sp_Machine_walk K c [.ref a] H Q E :=
  ⟨a, dx, b, cut, d, e, xs, rfl, W.get h, W.get h2, fun p H' ch => q p H' (W.wd.fresh (ch.new List.mem_cons_self).1) (W.chg0 ch)⟩
theorem lw_big (W : Wb c H0 H M L B) (h : (a, .ins c.CMachine dx (mF b cut d e)) ∈ L) (hl : bigL b n) (q : ∀ x H', H0 x = none → Wb c H0 H' M L ((x, b, n) :: B) → Q (.ref x) H') : sp_big K c [.ref a, .int n] H Q E :=
  ⟨a, dx, b, cut, d, e, n, rfl, W.get h, hl.1, Nat.lt_trans hl.2.2 (by decide), NewBig.at fun x H' ch hx hB => q x H' (W.wd.fresh hx) ((W.chg0 ch).add hB hl)⟩
theorem lw_sign (W : Wb c H0 H M L B) (h : (x, b, n) ∈ B) (q : Q (.int (sgn n)) H) : sp_Big_sign K c [.ref x] H Q E := ⟨x, b, n, rfl, (W.big h).1, q⟩
theorem lw_bits (W : Wb c H0 H M L B) (h : (x, b, n) ∈ B) (q : Q (.int (b : Int)) H) : sp_Big_bits K c [.ref x] H Q E := ⟨x, b, n, rfl, (W.big h).1, q⟩
theorem lw_digits (W : Wb c H0 H M L B) (h : (x, b, n) ∈ B) (q : ∀ p H', H0 p = none → Wb c H0 H' M ((p, .lst (iN (digs b n.natAbs))) :: L) B → Q (.ref p) H') : sp_Big_digits K c [.ref x] H Q E :=
  ⟨x, b, n, rfl, (W.big h).1, fun p H' ch => q p H' (W.wd.fresh (ch.new List.mem_cons_self).1) (W.chg0 ch)⟩
theorem lw_plain (W : Wb c H0 H M L B) (h : (x, b, n) ∈ B) (q : ∀ H', Wb c H0 H' M L B → Q (.int n) H') : sp_plain K c [.ref x] H Q E := ⟨x, b, n, rfl, (W.big h).1, (W.big h).2, fun H' s => q H' (W.same s)⟩
theorem bigL_neg (h : bigL b n) : bigL b (-n) := ⟨h.1, h.2.1, by rw [Int.natAbs_neg]; exact h.2.2⟩
theorem bigL_abs (h : bigL b n) : bigL b (n.natAbs : Int) := ⟨h.1, h.2.1, by rw [Int.natAbs_natCast]; exact h.2.2⟩
theorem lw_negative (W : Wb c H0 H M L B) (h : (x, b, n) ∈ B) (q : ∀ x' H', H0 x' = none → Wb c H0 H' M L ((x', b, -n) :: B) → Q (.ref x') H') : sp_negative K c [.ref x] H Q E :=
  ⟨x, b, n, rfl, (W.big h).1, fun x' H' hx ch hB => q x' H' (W.wd.fresh hx) ((W.chg0 ch).add hB (bigL_neg (W.big h).2))⟩
theorem lw_absolute (W : Wb c H0 H M L B) (h : (x, b, n) ∈ B) (q : ∀ x' H', H0 x' = none → Wb c H0 H' M L ((x', b, (n.natAbs : Int)) :: B) → Q (.ref x') H') : sp_absolute K c [.ref x] H Q E :=
  ⟨x, b, n, rfl, (W.big h).1, fun x' H' hx ch hB => q x' H' (W.wd.fresh hx) ((W.chg0 ch).add hB (bigL_abs (W.big h).2))⟩
theorem lw_ownEq (P : PB K c) (W : Wb c H0 H M L B) (h : (x, b, n) ∈ B) (h' : (x', b', m) ∈ B) (q : ∀ H', Wb c H0 H' M L B → Q (.bl (decide (b = b' ∧ n = m))) H') : rOwnEq K c.CBig (sp_Big_eq K c) E (.ref x) (.ref x') H Q := by
  obtain ⟨dx, r, h1, _⟩ := (W.big h).1.at_
  obtain ⟨dx', r', h1', _⟩ := (W.big h').1.at_
  exact rd_ownEq h1 (.base (.ins h1' P.isc.cl P.isc.ha P.isc.hn P.isc.htk P.isc.hm)) (nf_self _ _) ⟨x, b, n, .ref x', rfl, (W.big h).1, (W.big h).2.1, .inl ⟨x', b', m, rfl, (W.big h').1, (W.big h').2.1, fun H' s => ⟨_, rfl, q H' (W.same s)⟩⟩⟩
theorem lw_ownNe (W : Wb c H0 H M L B) (h : (x, b, n) ∈ B) (h' : (x', b', m) ∈ B) (q : ∀ H', Wb c H0 H' M L B → Q (.bl (!decide (b = b' ∧ n = m))) H') : rOwnNe K c.CBig (sp_Big_eq K c) E (.ref x) (.ref x') H Q := by
  obtain ⟨dx, r, h1, _⟩ := (W.big h).1.at_
  obtain ⟨dx', r', h1', _⟩ := (W.big h').1.at_
  exact rd_ownNe h1 h1' ⟨x, b, n, .ref x', rfl, (W.big h).1, (W.big h).2.1, .inl ⟨x', b', m, rfl, (W.big h').1, (W.big h').2.1, fun H' s => ⟨_, rfl, q H' (W.same s)⟩⟩⟩
theorem lw_ownEqI (N : NoSub K c.CBig) (W : Wb c H0 H M L B) (h : (x, b, n) ∈ B) (q : Q (.bl false) H) : rOwnEq K c.CBig (sp_Big_eq K c) E (.ref x) (.int m) H Q := by
  obtain ⟨dx, r, h1, _⟩ := (W.big h).1.at_
  exact rd_ownEq h1 (.base (.int m)) (N.nf (by decide)) ⟨x, b, n, .int m, rfl, (W.big h).1, (W.big h).2.1, .inr ⟨_, .base (.int m), N.kit (by decide), ⟨_, rfl, q⟩⟩⟩
theorem lw_ownEqL (N : NoSub K c.CBig) (W : Wb c H0 H M L B) (h : (x, b, n) ∈ B) (h' : (l, .lst xs) ∈ L) (q : Q (.bl false) H) : rOwnEq K c.CBig (sp_Big_eq K c) E (.ref x) (.ref l) H Q := by
  obtain ⟨dx, r, h1, _⟩ := (W.big h).1.at_
  exact rd_ownEq h1 (.base (.lst (W.get h'))) (N.nf (by decide)) ⟨x, b, n, .ref l, rfl, (W.big h).1, (W.big h).2.1, .inr ⟨_, .base (.lst (W.get h')), N.kit (by decide), ⟨_, rfl, q⟩⟩⟩
/-- a law's promise -/
def sp_law0 (K : PySem.W.Frag) : Sp := fun vs H Q _ => ∃ (a : Addr) (ns : List Int), vs = [.ref a] ∧ SqL K H a (ns.map V.int) ∧ ns.length ≤ 63 ∧ ∀ H', Q (.bl true) H'
theorem Chg.same {H' : Hp} {ns : List (Addr × HO)} (h : Chg H H' [] ns) : Same H H' := fun b o e => h.keep b o e (fun z => nomatch z)
/-- what is left of a tally of zeros: nothing -/
theorem zero_rows {i : Nat} {t : List V} (h : (rowsOf zeros)[i]? = some t) : ∃ w, t = [.str w, .int 0] := by
  have hi : i < 10 := (List.getElem?_eq_some_iff.mp h).1
  have hw : words[i]? = some (words[i]'hi) := List.getElem?_eq_getElem _
  rw [rows_get hw (zero_get hi)] at h
  exact ⟨_, (Option.some.inj h).symm⟩
theorem zero_tups {H1 : Hp} {p : Addr} {ps : List Addr} (hl : ps.length = 10) (ch : Chg H H1 [] ((p, .lst (ps.map V.ref)) :: tl2 ps (rowsOf zeros))) : ∀ q ∈ ps, ∃ w, H1 q = some (.tup [.str w, .int 0]) := fun q hq => by
  obtain ⟨i, hi⟩ := List.mem_iff_getElem?.mp hq
  have hlt : i < 10 := by rw [← hl]; exact (List.getElem?_eq_some_iff.mp hi).1
  have hr : (rowsOf zeros)[i]? = some ((rowsOf zeros)[i]'hlt) := List.getElem?_eq_getElem _
  obtain ⟨w, hw⟩ := zero_rows hr
  have := (ch.new (List.mem_cons_of_mem _ (tl2_mem hi hr))).2
  rw [hw] at this
  exact ⟨w, this⟩
/-- the loop over the script's cells -/
theorem rd_cells {ns : List Int} {g : TG} {ts : TS} {nx bk ct : L2.St → Hp → Prop} {rt : VK} {lo hi : Int} (Ps : L2.St → Prop) (h0 : σ[0]? = some (some (.ref a))) (ha : SqL K H a (ns.map V.int)) (hlen : ns.length ≤ 63) (hp : Ps σ)
    (hs : ∀ H4 z σ' H', Same H4 H' → Ps σ' → g (.int z) σ' H' fun σ2 H2 => ts ⟨fun σ3 H3 => Ps σ3 ∧ Same H4 H3, rt, nx, fun σ3 H3 => Ps σ3 ∧ Same H4 H3⟩ σ2 H2) (hd : ∀ σ' H', Ps σ' → nx σ' H') :
    tFor (iList K (tOp rCat (tLst (tCons (tCall (sp_law_cell_at K c) [] E0 (tCons (tVar 0) (tCons (tC (.int 0)) tNil))) tNil)) (tSl (rSlL K) (tVar 0) (tPart (tC (.int lo))) (tPart (tC (.int hi)))))) g ts ⟨nx, rt, bk, ct⟩ σ H := by
  refine rd_for (rd_iList (rd_op (rd_lst (rd_cons (rd_call (rd_cons (rd_var h0 (rd_cons (rd_c (rd_nil ?_)))))))))) 
  refine ⟨a, ns, 0, rfl, ha, by omega, fun n0 H1 hs1 => ?_⟩
  walk_at "rd"
  refine rd_kLst (Wd.nil H1) (by walk_at "len") fun l1 H2 hl1 W2 => ?_
  refine rd_sl (rd_var h0 ?_)
  walk_at "rd"
  obtain ⟨ms, e, hms⟩ := cut_ints ns (some lo) (some hi)
  refine rd_slL W2 ((hs1.trans W2.toSame).seq ha) e fun l2 H3 hl2 W3 => ?_
  refine rd_cat W3 (by walk_at "own") (by walk_at "own") (Evl.sz_of (by simp; omega)) fun l3 H4 hl3 W4 => ?_
  walk_at "rd"
  have hl3' : H4 l3 = some (.lst ((n0 :: ms).map V.int)) := W4.get (by walk_at "mem")
  refine rd_forL (xs := (n0 :: ms).map V.int) (fun i σ' H' => Ps σ' ∧ Same H4 H') ⟨hp, Same.refl _⟩ ?_ ?_ ?_
  · rintro i σ' H' _ ⟨_, hs⟩
    exact SqL.of (hs _ _ hl3')
  · rintro i y σ' H5 hy ⟨hp5, hs5⟩
    obtain ⟨z, rfl⟩ : ∃ z, y = .int z := by
      obtain ⟨z, _, rfl⟩ := List.mem_map.mp (List.mem_of_getElem? hy)
      exact ⟨z, rfl⟩
    exact hs H4 z σ' H5 hs5 hp5
  · rintro σ' H5 ⟨hp5, _⟩
    exact hd σ' H5 hp5
theorem Rp.same : ∀ {L L' : List (Addr × HO)}, Rp a o o L L' → L' = L
  | _, _, .here => rfl
  | _, _, .there r => congrArg (List.cons _) r.same
/-- a comprehension over a range, each turn with draws -/
theorem lw_lcR {te : TE} {j k : Nat} {lo : Int} (Pn : V → Prop) (W : Wb c H0 H M L B) (hr : ∀ u, Rp a o u L (L1 u)) (ho : SrcO o) (hk : k ≤ 10000) (hw : ∀ v, wipe ((wipe σ [j]).set j (some v)) [j] = wipe σ [j])
    (hs : ∀ (i : Nat) (D : Addr) (xs : List V) (o' : HO) (H' : Hp) (L' : List (Addr × HO)) (B' : List (Addr × Nat × Int)), i < k → SrcO o' → H0 D = none → Wb c H0 H' M (L' ++ (D, .lst xs) :: L1 o') (B' ++ B) → ∀ Q' : VK, (∀ y o'' H'' L2 B2, Pn y → SrcO o'' → Wb c H0 H'' M L2 B2 → Sfx ((D, .lst xs) :: L1 o'') L2 → Sfx B B2 → Q' y H'') → te ((wipe σ [j]).set j (some (.int (lo + i)))) H' Q')
    (q : ∀ (D : Addr) (H' : Hp) (ys : List V) (o' : HO) (L' : List (Addr × HO)) (B' : List (Addr × Nat × Int)), ys.length = k → (∀ y ∈ ys, Pn y) → SrcO o' → H0 D = none → Wb c H0 H' M (L' ++ (D, .lst ys) :: L1 o') (B' ++ B) → Q (.ref D) H') : kLc (gName j) tYes te [j] σ Q (Itr lo k) H := by
  have eL : L1 o = L := (hr o).same
  refine rd_lcR fun D hD => ⟨fun i H' => ∃ ys o' L' B', ys.length = i ∧ (∀ y ∈ ys, Pn y) ∧ SrcO o' ∧ Wb c H0 H' M (L' ++ (D, .lst ys) :: L1 o') (B' ++ B), ⟨[], o, [], [], rfl, (fun y z => nomatch z), ho, by rw [eL]; exact W.new hD⟩, ?_, ?_⟩
  · rintro i H1 hi ⟨ys, o', L', B', hl, hy, ho', W1⟩
    refine ⟨hw _, ?_⟩
    refine rd_yes (rd_T rfl ?_)
    refine hs i D ys o' H1 L' B' hi ho' (W.wd.fresh hD) W1 _ fun y o'' H2 L2 B2 py ho'' W2 s1 s2 => ?_
    obtain ⟨L3, rfl⟩ := s1
    obtain ⟨B3, rfl⟩ := s2
    refine lw_kAcc W2 (Rp.app Rp.here) (.inl (W.wd.fresh hD)) (by rw [hl]; exact Nat.lt_of_lt_of_le hi (Evl.sz_of (by omega))) fun H3 W3 => ?_
    refine ⟨ys ++ [y], o'', L3, B3, by rw [List.length_append, hl]; rfl, fun w hw => ?_, ho'', W3⟩
    rcases List.mem_append.mp hw with z | z
    · exact hy w z
    · rw [List.mem_singleton.mp z]; exact py
  · rintro H1 ⟨ys, o', L', B', hl, hy, ho', W1⟩
    exact q D H1 ys o' L' B' hl hy ho' (W.wd.fresh hD) W1
/-- a loop whose turns draw -/
def SInv (c : Pc) (H0 : Hp) (M : List Addr) (L1 : HO → List (Addr × HO)) (B : List (Addr × Nat × Int)) (Ps : L2.St → Prop) : L2.St → Hp → Prop := fun σ H => Ps σ ∧ ∃ o' L' B', SrcO o' ∧ Wb c H0 H M (L' ++ L1 o') (B' ++ B)
theorem lw_forLS {g : TG} {ts : TS} {nx bk ct : L2.St → Hp → Prop} {rt : VK} (Ps : Nat → L2.St → Prop) (W : Wb c H0 H M L B) (hr : ∀ u, Rp a o u L (L1 u)) (ho : SrcO o) (h : ∀ u, (l, .lst xs) ∈ L1 u) (h0 : Ps 0 σ)
    (hs : ∀ i x σ H o' L' B', xs[i]? = some x → Ps i σ → SrcO o' → Wb c H0 H M (L' ++ L1 o') (B' ++ B) → g x σ H fun σ2 H2 => ts ⟨SInv c H0 M L1 B (Ps (i + 1)), rt, nx, SInv c H0 M L1 B (Ps (i + 1))⟩ σ2 H2)
    (hd : ∀ σ H o' L' B', Ps xs.length σ → SrcO o' → Wb c H0 H M (L' ++ L1 o') (B' ++ B) → nx σ H) : kFor g ts ⟨nx, rt, bk, ct⟩ σ (Itl K l) H :=
  rd_forL (fun i => SInv c H0 M L1 B (Ps i)) ⟨h0, o, [], [], ho, by rw [(hr o).same]; exact W⟩ (fun i σ H _ ⟨_, o', L', B', _, W'⟩ => SqL.of (W'.get (List.mem_append_right _ (h o')))) (fun i x σ H hx ⟨hp, o', L', B', ho', W'⟩ => hs i x σ H o' L' B' hx hp ho' W') (fun σ H ⟨hp, o', L', B', ho', W'⟩ => hd σ H o' L' B' hp ho' W')
theorem lw_endS {Ps : L2.St → Prop} {N : List (Addr × HO)} {C : List (Addr × Nat × Int)} (W : Wb c H0 H M N C) (ho : SrcO o) (s1 : Sfx (L1 o) N) (s2 : Sfx B C) (h : Ps σ) : SInv c H0 M L1 B Ps σ H := by
  obtain ⟨L', rfl⟩ := s1
  obtain ⟨B', rfl⟩ := s2
  exact ⟨h, o, L', B', ho, W⟩
/-- the tally of a machine that has counted nothing, what of it is not 0 -/
theorem lw_tally0 (W : Wb c H0 H M L B) (h : (a, .ins c.CMachine dx (mF b cut d e)) ∈ L) (h2 : (d, .dK (cK zeros)) ∈ L)
    (q : ∀ p (ps : List Addr) H', ps.length = 10 → H0 p = none → (∀ q ∈ ps, ∃ w, H' q = some (.tup [.str w, .int 0])) → Wb c H0 H' M ((p, .lst (ps.map V.ref)) :: (tl2 ps (rowsOf zeros) ++ L)) B → Q (.ref p) H') : sp_Machine_tally K c [.ref a] H Q E :=
  ⟨a, dx, b, cut, d, e, zeros, rfl, W.get h, W.get h2, rfl, fun p ps H' hl ch => q p ps H' hl (W.wd.fresh (ch.new List.mem_cons_self).1) (zero_tups hl ch) (W.chg0 ch)⟩
theorem lw_lc0 {te : TE} {i j : Nat} {ps : List Addr} (W : Wb c H0 H M L B) (h : (p, .lst (ps.map V.ref)) ∈ L) (hz : ∀ q ∈ ps, ∃ w, H q = some (.tup [.str w, .int 0])) (hw : ∀ v w, wipe (((wipe σ [i, j]).set i (some v)).set j (some w)) [i, j] = wipe σ [i, j])
    (hv : ∀ v w, (((wipe σ [i, j]).set i (some v)).set j (some w))[j]? = some (some w))
    (q : ∀ D H', H0 D = none → Wb c H0 H' M ((D, .lst []) :: L) B → Q (.ref D) H') : kLc (gTup K 2 (gCons (gName i) (gCons (gName j) gNil))) (tTest (tOp rNe (tVar j) (tC (.int 0)))) te [i, j] σ Q (Itl K p) H := by
  refine rd_lcL (xs := ps.map V.ref) fun D hD => ⟨fun i H' => H' = upd H D (.lst []), rfl, ?_, ?_, ?_⟩
  · rintro i H' _ rfl
    have W1 := W.new (o := .lst []) hD
    exact SqL.of (W1.get (List.mem_cons_of_mem _ h))
  · rintro i' x H' hx rfl
    obtain ⟨z, hz1, rfl⟩ := List.mem_map.mp (List.mem_of_getElem? hx)
    obtain ⟨w, hw1⟩ := hz z hz1
    have hne : z ≠ D := fun e => by rw [e, hD] at hw1; cases hw1
    refine rd_gTup (xs := [.str w, .int 0]) (SqT.of (by rw [upd_ne hne]; exact hw1)) rfl ?_
    refine rd_gCons ?_
    unfold gName
    refine rd_gCons ?_
    refine rd_gNil ?_
    refine ⟨hw _ _, ?_⟩
    refine rd_test (rd_op (rd_var (hv _ _) (rd_c ?_)))
    refine rd_neI (rd_kB ?_)
    exact rd_Fn rfl rfl
  · rintro H' rfl
    exact q D _ (W.wd.fresh hD) (W.new hD)
end

/-! K01a: is_digits, normal; the law's split. -/
local macro_rules | `(tactic| walk_at "sfx") => `(tactic| repeat (first | exact Sfx.refl | with_reducible refine Sfx.cons ?_ | with_reducible refine Sfx.app ?_))
local macro_rules | `(tactic| walk_at "len2") => `(tactic| first | walk_at "len" | exact Nat.le_trans (m := 2 ^ 23) (by simp only [iN_length, List.length_append, List.length_replicate, List.length_cons, List.length_nil, List.length_map]; omega) (by decide) | exact Nat.lt_of_lt_of_le (m := 2 ^ 23) (by simp only [iN_length, List.length_append, List.length_replicate, List.length_cons, List.length_nil, List.length_map]; omega) (by decide))
local macro_rules | `(tactic| walk_at "al") => `(tactic| repeat (first | with_reducible exact AllI.nil | with_reducible exact AllI.n _ | with_reducible exact AllI.m _ | with_reducible refine AllI.app ?_ ?_ | with_reducible refine AllI.cons ?_ | with_reducible refine AllI.rep ?_))
local macro_rules | `(tactic| walk_at "tst") => `(tactic| first | with_reducible exact rfl | assumption | with_reducible exact ⟨rfl, rfl⟩ | omega)
local macro_rules | `(tactic| walk_at "bl") => `(tactic| first | assumption | exact bigL_of (by omega) (by omega) (by first | assumption | decide +kernel))
set_option hygiene false in
local macro_rules | `(tactic| walk_at "lw1") => `(tactic| first
  | walk_at "rd1"
  | ((with_reducible refine' lw_lst (by assumption) ?hh1 ?_); (case hh1 => walk_at "len2"); intro p H' hp W)
  | ((with_reducible refine' lw_tup (by assumption) ?hh1 ?_); (case hh1 => walk_at "len2"); intro p H' hp W)
  | ((with_reducible refine' lw_catN (by assumption) ?hh1 ?hh2 ?hh3 ?_); (case hh1 => walk_at "mem"); (case hh2 => walk_at "mem"); (case hh3 => walk_at "len2"); intro p H' hp W)
  | ((with_reducible refine' lw_repZ (by assumption) ?hh1 ?hh2 ?hh3 ?_); (case hh1 => walk_at "mem"); (case hh2 => omega); (case hh3 => omega); intro p H' hp W)
  | ((with_reducible refine' lw_cat (by assumption) ?hh1 ?hh2 ?hh3 ?_); (case hh1 => walk_at "mem"); (case hh2 => walk_at "mem"); (case hh3 => walk_at "len2"); intro p H' hp W)
  | ((with_reducible refine' lw_append (by assumption) ?hh1 ?hh2 ?hh3 ?_); (case hh1 => walk_at "rp"); (case hh2 => walk_at "may"); (case hh3 => walk_at "len2"); intro H' W)
  | ((with_reducible refine' lw_slL (by assumption) ?hh1 ?_); (case hh1 => walk_at "mem"); intro p H' hp W)
  | ((with_reducible refine' lw_list (by assumption) ?hh1 ?_); (case hh1 => walk_at "mem"); intro p H' hp W)
  | ((with_reducible refine' lw_ixT (by assumption) ?hh1 ?hh2 ?_); (case hh1 => walk_at "mem"); (case hh2 => exact rfl))
  | ((with_reducible refine' rd_mul ?hh1 ?_); (case hh1 => first | exact mul_okR (by omega) (by omega) | exact mul_okL (by omega) (by omega)))
  | ((with_reducible refine' lw_kBMl (by assumption) ?hh1 ?_); (case hh1 => walk_at "mem"))
  | ((with_reducible refine' lw_neLF (by assumption) ?hh1 ?hh2 ?hh6 ?hh3 ?_); (case hh1 => walk_at "mem"); (case hh2 => walk_at "mem"); (case hh6 => first | with_reducible exact rfl | assumption | exact iN_digs0); (case hh3 => walk_at "al"))
  | ((with_reducible refine' lw_eqLT (by assumption) ?hh1 ?hh2 ?hh6 ?hh3 ?_); (case hh1 => walk_at "mem"); (case hh2 => walk_at "mem"); (case hh6 => first | with_reducible exact rfl | assumption | exact iN_digs0); (case hh3 => walk_at "al"))
  | ((with_reducible refine' lw_source_of (by assumption) ?_); intro p o H' hp ho W)
  | ((with_reducible refine' lw_next (by assumption) ?hh1 ?hh2 ?hh3 ?hh4 ?hh5 ?_); (case hh1 => (intro u; walk_at "rp")); (case hh2 => assumption); (case hh3 => walk_at "may"); (case hh4 => walk_at "ari"); (case hh5 => walk_at "ari"); intro r o H' hr0 hr1 ho W)
  | ((with_reducible refine' lw_machine (by assumption) ?hh1 ?hh2 ?hh3 ?_); (case hh1 => (intro u; walk_at "rp")); (case hh2 => assumption); (case hh3 => walk_at "may"); intro x dx b cut d e o H' hb1 hb2 hc1 hc2 hx hd he ho W)
  | ((with_reducible refine' lw_methM (by assumption) ?hh1 ?hh2 ?_); (case hh1 => walk_at "mem"); (case hh2 => decide))
  | ((with_reducible refine' lw_methB (by assumption) ?hh1 ?hh2 ?_); (case hh1 => walk_at "mem"); (case hh2 => decide))
  | ((with_reducible refine' lw_parts (by assumption) ?hh1 ?_); (case hh1 => walk_at "mem"); intro p H' hp W)
  | ((with_reducible refine' lw_walk (by assumption) ?hh1 ?hh2 ?_); (case hh1 => walk_at "mem"); (case hh2 => walk_at "mem"); intro p H' hp W)
  | ((with_reducible refine' lw_big (by assumption) ?hh1 ?hh2 ?_); (case hh1 => walk_at "mem"); (case hh2 => walk_at "bl"); intro x H' hx W)
  | ((with_reducible refine' lw_normalP (by assumption) ?hh1 ?hh2 ?hh3 ?hh4 ?_); (case hh1 => walk_at "mem"); (case hh2 => walk_at "mem"); (case hh3 => walk_at "bl"); (case hh4 => omega); intro x H' hx W)
  | ((with_reducible refine' lw_normalD (by assumption) ?hh1 ?hh2 ?hh3 ?_); (case hh1 => walk_at "mem"); (case hh2 => walk_at "mem"); (case hh3 => walk_at "bl"); intro x H' hx W)
  | ((with_reducible refine' lw_normalN (by assumption) ?hh1 ?hh2 ?hh3 ?_); (case hh1 => walk_at "mem"); (case hh2 => walk_at "mem"); (case hh3 => walk_at "bl"); intro x H' hx W)
  | ((with_reducible refine' lw_normalZ (by assumption) ?hh1 ?hh2 ?hh3 ?hh4 ?hh5 ?hh6 ?_); (case hh1 => walk_at "mem"); (case hh2 => walk_at "mem"); (case hh3 => omega); (case hh4 => omega); (case hh5 => omega); (case hh6 => omega); intro x H' hx W)
  | ((with_reducible refine' lw_normalE (by assumption) ?hh1 ?hh2 ?hh3 ?hh4 ?hh6 ?_); (case hh1 => walk_at "mem"); (case hh2 => walk_at "mem"); (case hh3 => omega); (case hh4 => omega); (case hh6 => omega); intro x H' hx W)
  | ((with_reducible refine' lw_split (by assumption) ?hh1 ?hh2 ?hh3 ?_); (case hh1 => omega); (case hh2 => omega); (case hh3 => omega); intro p H' hp W)
  | ((with_reducible refine' lw_sign (by assumption) ?hh1 ?_); (case hh1 => walk_at "mem"))
  | ((with_reducible refine' lw_bits (by assumption) ?hh1 ?_); (case hh1 => walk_at "mem"))
  | ((with_reducible refine' lw_digits (by assumption) ?hh1 ?_); (case hh1 => walk_at "mem"); intro p H' hp W)
  | ((with_reducible refine' lw_plain (by assumption) ?hh1 ?_); (case hh1 => walk_at "mem"); intro H' W)
  | ((with_reducible refine' lw_negative (by assumption) ?hh1 ?_); (case hh1 => walk_at "mem"); intro x H' hx W)
  | ((with_reducible refine' lw_absolute (by assumption) ?hh1 ?_); (case hh1 => walk_at "mem"); intro x H' hx W)
  | ((with_reducible refine' lw_ownNe (by assumption) ?hh1 ?hh2 ?_); (case hh1 => walk_at "mem"); (case hh2 => walk_at "mem"); intro H' W)
  | ((with_reducible refine' lw_ownEq (by assumption) (by assumption) ?hh1 ?hh2 ?_); (case hh1 => walk_at "mem"); (case hh2 => walk_at "mem"); intro H' W)
  | ((with_reducible refine' lw_ownEqI (by assumption) (by assumption) ?hh1 ?_); (case hh1 => walk_at "mem"))
  | ((with_reducible refine' lw_ownEqL (by assumption) (by assumption) ?hh1 ?hh2 ?_); (case hh1 => walk_at "mem"); (case hh2 => walk_at "mem"))
  | ((with_reducible refine' lw_kIT (by assumption) ?hh1 ?_); (case hh1 => walk_at "mem"))
  | ((with_reducible refine' lw_kIL (by assumption) ?hh1 ?_); (case hh1 => walk_at "mem"))
  | ((with_reducible refine' lw_mkMachine (by assumption) ?hh1 ?hh2 ?hh3 ?hh4 ?_); (case hh1 => omega); (case hh2 => omega); (case hh3 => omega); (case hh4 => omega); intro x dx d e H' hx hd he W)
  | ((with_reducible refine' lw_mkM1 (by assumption) ?hh1 ?hh2 ?hh3 ?hh4 ?_); (case hh1 => omega); (case hh2 => omega); (case hh3 => omega); (case hh4 => omega); intro x dx d e H' hx hd he W)
  | ((with_reducible refine' lw_mkM0 (by assumption) ?_); intro x dx d e H' hx hd he W)
  | ((with_reducible refine' lw_tally0 (by assumption) ?hh1 ?hh2 ?_); (case hh1 => walk_at "mem"); (case hh2 => walk_at "mem"); intro p ps H' hpl hp hz W)
  | ((with_reducible refine' lw_lc0 (by assumption) ?hh1 ?hh2 ?hh3 ?hh4 ?_); (case hh1 => walk_at "mem"); (case hh2 => assumption); (case hh3 => (intro _ _; exact rfl)); (case hh4 => (intro _ _; exact rfl)); intro p H' hp W)
  | ((with_reducible refine' lw_shl1 ?hh1 ?_); (case hh1 => omega))
  | (with_reducible refine' rd_isB ?_)
  | ((with_reducible refine' lw_kwS ?hh1 ?hh2 ?_); (case hh1 => exact rfl); (case hh2 => (simp only [perm, List.map_cons, List.map_nil, List.getD_cons_zero, List.getD_cons_succ]; try rfl)))
  | (with_reducible refine' rd_nT ?_)
  | (with_reducible refine' rd_nF ?_)
  | (with_reducible refine' rd_T rfl ?_)
  | (with_reducible refine' rd_F rfl ?_)
  | ((with_reducible refine' rd_Fn ?hh1 ?_); (case hh1 => walk_at "tst"))
  | ((with_reducible refine' rd_Td ?hh1 ?_); (case hh1 => walk_at "tst"))
  | ((with_reducible refine' rd_Fd ?hh1 ?_); (case hh1 => walk_at "tst"))
  | ((with_reducible refine' rd_Tn ?hh1 ?_); (case hh1 => walk_at "tst")))
local macro_rules | `(tactic| walk_at "lw") => `(tactic| repeat (walk_at "lw1"))
section
variable {K : PySem.W.Frag} {c : Pc} {vs xs ys : List V} {H H0 H' : Hp} {Q : VK} {E : XK} {M : List Addr} {L L' ns cs : List (Addr × HO)} {L1 : HO → List (Addr × HO)} {B : List (Addr × Nat × Int)} {b b' : Nat} {cut n m : Int} {a d e dx r x x' l p : Addr} {o u : HO} {σ : L2.St} {y : V} {tr : TA}
theorem nosub_mk {C : Addr} (h1 : PySem.W.isClsIn K C = true) (h2 : PySem.W.typeIn K (.ref C) = some (.type "type")) (s1 : PySem.W.subIn K (.type "int") (.ref C) = some false) (s2 : PySem.W.subIn K (.type "list") (.ref C) = some false) (s3 : PySem.W.subIn K (.type "str") (.ref C) = some false) (s4 : PySem.W.subIn K (.type "NoneType") (.ref C) = some false) (s5 : PySem.W.subIn K (.type "bool") (.ref C) = some false) (s6 : PySem.W.subIn K (.type "tuple") (.ref C) = some false) (s7 : PySem.W.subIn K (.type "dict") (.ref C) = some false) : NoSub K C :=
  ⟨h1, h2, fun b hb => by
    simp only [List.mem_cons, List.not_mem_nil, or_false] at hb
    rcases hb with rfl | rfl | rfl | rfl | rfl | rfl | rfl
    · exact s1
    · exact s2
    · exact s3
    · exact s4
    · exact s5
    · exact s6
    · exact s7⟩
/-! is_digits -/
def sp_is_digits (K : PySem.W.Frag) (c : Pc) : Sp := fun vs H Q _ => ∃ (m dx : Addr) (b : Nat) (cut : Int) (d e l : Addr) (ds : List Nat), vs = [.ref m, .ref l] ∧ H m = some (.ins c.CMachine dx (mF b cut d e)) ∧ H l = some (.lst (iN ds)) ∧ Digs b ds ∧ ds.length < 2 ^ 23 ∧ ∀ H', Same H H' → Q (.bl true) H'
def t_is_digits (K : PySem.W.Frag) (c : Pc) : TS :=
  (tRet (tAndV (tCB (rIsi K) (tCons (tVar 1) (tCons (tC (.ty "list")) tNil))) (tCB (rAll K) (tCons (tLc (iList K (tVar 1)) (gName 2) tYes (tCall (sp_is_between K c) [] E0 (tCons (tVar 2) (tCons (tC (.int 0)) (tCons (tOp rSub (tFld K (tVar 0) "base") (tC (.int 1))) tNil)))) [2]) tNil))))
theorem all_true (n : Nat) : (List.replicate n true).all id = true := by
  induction n with
  | zero => rfl
  | succ n ih => rw [List.replicate_succ, List.all_cons, ih]; rfl
theorem b_is_digits (P : PM K c) (h : sp_is_digits K c vs H Q E) : t_is_digits K c (en0 Q) (st0 3 vs) H := by
  obtain ⟨m, dx, b, cut, d, e, l, ds, rfl, hm, hl, hd, hlen, k⟩ := h
  have nml : m ≠ l := ne_of hm hl (by intro z; cases z)
  have W : Wd H H [] [(m, .ins c.CMachine dx (mF b cut d e)), (l, .lst (iN ds))] := (Wd.one hl).old hm (by simpa using nml)
  unfold t_is_digits
  walk_at "rd"
  refine isi_ty (.base (.lst hl)) rfl ?_
  walk_at "rd"
  refine rd_T rfl ?_
  walk_at "rd"
  refine rd_lcL (xs := iN ds) fun D hD => ⟨fun i H' => Wd H H' [] [(D, .lst ((List.replicate i true).map V.bl)), (m, .ins c.CMachine dx (mF b cut d e)), (l, .lst (iN ds))], W.new hD, ?_, ?_, ?_⟩
  · intro i H' _ W1
    walk_at "sq"
  · intro i x H' hx W1
    obtain ⟨d1, hd1, rfl⟩ := iN_of hx
    have hil : i < ds.length := (List.getElem?_eq_some_iff.mp hd1).1
    have hdl : d1 < 2 ^ b := hd d1 (List.mem_of_getElem? hd1)
    walk_at "rd"
    refine ⟨rfl, ?_⟩
    walk_at "rd"
    refine rd_T rfl ?_
    walk_at "rd"
    refine rd_Mbase P (by walk_at "own") ?_
    walk_at "rd"
    refine u_between (Int.natCast_nonneg _) (by rw [pwN]; have := Int.ofNat_lt.mpr hdl; omega) ?_
    refine rd_kAcc W1 (by walk_at "rp") (.inl hD) ?_ fun H2 W2 => ?_
    · rw [List.length_map, List.length_replicate]; exact Nat.lt_of_lt_of_le (Nat.lt_trans hil hlen) (by decide)
    · have e1 : (List.replicate i true).map V.bl ++ [V.bl true] = (List.replicate (i + 1) true).map V.bl := by
        rw [List.replicate_succ', List.map_append]; rfl
      rw [e1] at W2
      exact W2
  · intro H' W1
    walk_at "rd"
    refine rd_all (bs := List.replicate (iN ds).length true) (by walk_at "sq") ?_
    rw [all_true]
    exact k H' W1.toSame
/-! normal -/
def sgnOk (s : Int) (v : Nat) : Prop := s = 1 ∨ s = -1 ∨ (s = 0 ∧ v = 0)
def sp_normal (K : PySem.W.Frag) (c : Pc) : Sp := fun vs H Q _ => ∃ (m dx : Addr) (b : Nat) (cut : Int) (d e l : Addr) (s : Int) (ds : List Nat), vs = [.ref m, .int s, .ref l] ∧ H m = some (.ins c.CMachine dx (mF b cut d e)) ∧ H l = some (.lst (iN ds)) ∧ b ≠ 0 ∧ Digs b ds ∧ ds.length < 2 ^ 22 ∧ sgnOk s (val b ds) ∧
  ∀ x H', H x = none → Chg H H' [] [] → BigAt c H' x b (s * (val b ds : Nat)) → Q (.ref x) H'
def t_normal (K : PySem.W.Frag) (c : Pc) : TS :=
  (tSeq (tDrop (tCall (sp_check_machine K c) [] E0 (tCons (tVar 0) tNil)))
  (tSeq (tAsg (tCall (sp_is_digits K c) [] E0 (tCons (tVar 0) (tCons (tVar 2) tNil))) (gName 3))
  (tSeq (tIfS (tOr (tNot (L2.tB (tCall (sp_is_between K c) [] E0 (tCons (tVar 1) (tCons (tUn rNeg (tC (.int 1))) (tCons (tC (.int 1)) tNil)))))) (tAnd (tTest (tOp rEq (tVar 1) (tC (.int 0)))) (tAnd (L2.tB (tVar 3)) (L2.tB (tCB (rAnyI K) (tCons (tVar 2) tNil)))))) tNever tNext)
  (tSeq (tIfS (tNot (L2.tB (tVar 3))) tNever tNext)
  (tRet (tCall (sp_made K c) [] E0 (tCons (tVar 0) (tCons (tVar 1) (tCons (tVar 2) tNil)))))))))
theorem strip_eq_nil {b : Nat} {ds : List Nat} (hb : b ≠ 0) (hd : Digs b ds) : strip ds = [] ↔ val b ds = 0 := by
  rw [← val_strip b ds]
  have h := digs_val hb (fun d z => hd d (strip_mem z)) (strip_norm ds)
  constructor
  · intro z; rw [z]; rfl
  · intro z; rw [z, digs_zero] at h; exact h.symm
theorem norm_at {s : Int} {ds : List Nat} {x dx r : Addr} (hb : b ≠ 0) (hd : Digs b ds) (hs : sgnOk s (val b ds)) (h1 : H x = some (.ins c.CBig dx (bF b (if strip ds = [] then 0 else s) r))) (h2 : H r = some (.tup (iN (strip ds)))) : BigAt c H x b (s * (val b ds : Nat)) := by
  have e1 : sgn (s * (val b ds : Nat)) = if strip ds = [] then 0 else s := by
    by_cases h0 : val b ds = 0
    · rw [if_pos ((strip_eq_nil hb hd).mpr h0), h0]
      simp [sgn]
    · rw [if_neg (fun z => h0 ((strip_eq_nil hb hd).mp z))]
      rcases hs with rfl | rfl | ⟨_, z⟩
      · unfold sgn; split <;> (try split) <;> omega
      · unfold sgn; split <;> (try split) <;> omega
      · exact absurd z h0
  have e2 : digs b (s * (val b ds : Nat)).natAbs = strip ds := by
    have e3 : (s * (val b ds : Nat)).natAbs = val b ds := by
      rcases hs with rfl | rfl | ⟨rfl, z⟩
      · omega
      · omega
      · omega
    rw [e3, ← val_strip b ds]
    exact digs_val hb (fun d z => hd d (strip_mem z)) (strip_norm ds)
  refine ⟨dx, r, ?_, ?_⟩
  · rw [e1]; exact h1
  · rw [e2]; exact h2
theorem any_zero {ds : List Nat} (h : val b ds = 0) : ((ds.map fun (d : Nat) => (d : Int)).any fun n => n != 0) = false := by
  induction ds with
  | nil => rfl
  | cons d ds ih =>
    rw [val_cons] at h
    have h1 : d = 0 := by omega
    have h2 : val b ds = 0 := by
      have h3 : 2 ^ b * val b ds = 0 := by omega
      rcases Nat.mul_eq_zero.mp h3 with z | z
      · exact absurd z (Nat.ne_of_gt (Nat.two_pow_pos b))
      · exact z
    rw [List.map_cons, List.any_cons, ih h2, h1]
    rfl
theorem b_normal (h : sp_normal K c vs H Q E) : t_normal K c (en0 Q) (st0 4 vs) H := by
  obtain ⟨m, dx, b, cut, d, e, l, s, ds, rfl, hm, hl, hb, hd, hlen, hs, k⟩ := h
  unfold t_normal
  walk_at "rd"
  refine ⟨m, dx, _, rfl, hm, ?_⟩
  walk_at "rd"
  refine ⟨m, dx, b, cut, d, e, l, ds, rfl, hm, hl, hd, by omega, fun H1 s1 => ?_⟩
  walk_at "rd"
  refine u_between (by rcases hs with z | z | z <;> omega) (by rcases hs with z | z | z <;> omega) ?_
  walk_at "rd"
  refine rd_F rfl ?_
  walk_at "rd"
  have fin : tSeq (tIfS (tNot (L2.tB (tVar 3))) tNever tNext) (tRet (tCall (sp_made K c) [] E0 (tCons (tVar 0) (tCons (tVar 1) (tCons (tVar 2) tNil))))) (en0 Q) [some (.ref m), some (.int s), some (.ref l), some (.bl true)] H1 := by
    walk_at "rd"
    refine rd_F rfl ?_
    walk_at "rd"
    refine ⟨m, dx, b, cut, d, e, s, l, ds, rfl, s1 _ _ hm, s1 _ _ hl, by omega, fun x dx' r H' ch => ?_⟩
    have hx := (ch.new List.mem_cons_self).1
    refine k x H' ?_ (.of_same fun q o z => ch.keep q o (s1 _ _ z) fun y => nomatch y) (norm_at hb hd hs (ch.new List.mem_cons_self).2 (ch.new (List.mem_cons_of_mem _ List.mem_cons_self)).2)
    cases hx0 : H x with
    | none => rfl
    | some o => rw [s1 _ _ hx0] at hx; cases hx
  refine rd_2d (fun h0 => ?_) fun h0 => ?_
  · have hv : val b ds = 0 := by rcases hs with z | z | z <;> omega
    walk_at "rd"
    refine rd_T rfl ?_
    walk_at "rd"
    refine rd_anyI (ns := ds.map fun (d : Nat) => (d : Int)) (by rw [← iN_int]; exact SqL.of (s1 _ _ hl)) ?_
    rw [any_zero hv]
    walk_at "rd"
    refine rd_F rfl ?_
    exact fin
  · refine rd_F rfl ?_
    exact fin
theorem lw_normal {ds : List Nat} {s : Int} (W : Wb c H0 H M L B) (h : (a, .ins c.CMachine dx (mF b cut d e)) ∈ L) (hl : (l, .lst (iN ds)) ∈ L) (hb : b ≠ 0) (hb' : b ≤ 30) (hd : Digs b ds) (hlen : ds.length < 2 ^ 22) (hs : sgnOk s (val b ds))
    (q : ∀ x H', H0 x = none → Wb c H0 H' M L ((x, b, s * (val b ds : Nat)) :: B) → Q (.ref x) H') : sp_normal K c [.ref a, .int s, .ref l] H Q E :=
  ⟨a, dx, b, cut, d, e, l, s, ds, rfl, W.get h, W.get hl, hb, hd, hlen, hs, fun x H' hx ch hB => q x H' (W.wd.fresh hx) ((W.chg0 ch).add hB ⟨hb, hb', by
    have e3 : (s * (val b ds : Nat)).natAbs = val b ds := by
      rcases hs with rfl | rfl | ⟨rfl, z⟩
      · omega
      · omega
      · omega
    rw [e3, ← val_strip b ds, digs_val hb (fun d z => hd d (strip_mem z)) (strip_norm ds)]
    exact Nat.lt_of_le_of_lt (strip_length ds) hlen⟩)⟩
theorem digs_len {b : Nat} {n : Int} (h1 : 8 ≤ b) (hn : n.natAbs < 2 ^ 4000) : (digs b n.natAbs).length ≤ 500 :=
  digs_length_le (by omega) _ (k := 500) (Nat.lt_of_lt_of_le hn (Nat.pow_le_pow_right (by decide) (by omega)))
theorem Digs.pad {ds : List Nat} {k : Nat} (h : Digs b ds) : Digs b (ds ++ List.replicate k 0) := fun d hd => by
  rcases List.mem_append.mp hd with z | z
  · exact h d z
  · rw [(List.mem_replicate.mp z).2]; exact Nat.two_pow_pos b
theorem val_pad (ds : List Nat) (k : Nat) : val b (ds ++ List.replicate k 0) = val b ds := by
  rw [← val_strip, strip_app_zeros _ (fun d z => (List.mem_replicate.mp z).2), val_strip]
theorem sgn_ok (n : Int) : sgnOk (sgn n) n.natAbs := by
  unfold sgnOk sgn
  split
  · exact .inr (.inl rfl)
  · split
    · rename_i h; subst h; exact .inr (.inr ⟨rfl, rfl⟩)
    · exact .inl rfl
theorem lw_normalP {k : Nat} (W : Wb c H0 H M L B) (h : (a, .ins c.CMachine dx (mF b cut d e)) ∈ L) (hl : (l, .lst (iN (digs b n.natAbs ++ List.replicate k 0))) ∈ L) (hL : bigL b n) (hk : (digs b n.natAbs).length + k < 2 ^ 22)
    (q : ∀ x H', H0 x = none → Wb c H0 H' M L ((x, b, n) :: B) → Q (.ref x) H') : sp_normal K c [.ref a, .int (sgn n), .ref l] H Q E :=
  lw_normal W h hl hL.1 hL.2.1 (digs_lt hL.1 _).pad (by rw [List.length_append, List.length_replicate]; exact hk) (by rw [val_pad, val_digs hL.1]; exact sgn_ok n) (by rw [val_pad, val_digs hL.1, sgn_mul]; exact q)
theorem lw_normalD (W : Wb c H0 H M L B) (h : (a, .ins c.CMachine dx (mF b cut d e)) ∈ L) (hl : (l, .lst (iN (digs b n.natAbs))) ∈ L) (hL : bigL b n)
    (q : ∀ x H', H0 x = none → Wb c H0 H' M L ((x, b, n) :: B) → Q (.ref x) H') : sp_normal K c [.ref a, .int (sgn n), .ref l] H Q E :=
  lw_normal W h hl hL.1 hL.2.1 (digs_lt hL.1 _) hL.2.2 (by rw [val_digs hL.1]; exact sgn_ok n) (by rw [val_digs hL.1, sgn_mul]; exact q)
theorem lw_normalN (W : Wb c H0 H M L B) (h : (a, .ins c.CMachine dx (mF b cut d e)) ∈ L) (hl : (l, .lst (iN (digs b n.natAbs))) ∈ L) (hL : bigL b n)
    (q : ∀ x H', H0 x = none → Wb c H0 H' M L ((x, b, -n) :: B) → Q (.ref x) H') : sp_normal K c [.ref a, .int (0 - sgn n), .ref l] H Q E := by
  rw [← sgn_neg]
  refine lw_normalD (n := -n) W h ?_ (bigL_neg hL) q
  rw [Int.natAbs_neg]; exact hl
theorem lw_normalZ {s : Int} {k : Nat} (W : Wb c H0 H M L B) (h : (a, .ins c.CMachine dx (mF b cut d e)) ∈ L) (hl : (l, .lst (iN (List.replicate k 0))) ∈ L) (hb : b ≠ 0) (hb' : b ≤ 30) (hk : k < 2 ^ 22) (hs : -1 ≤ s ∧ s ≤ 1)
    (q : ∀ x H', H0 x = none → Wb c H0 H' M L ((x, b, 0) :: B) → Q (.ref x) H') : sp_normal K c [.ref a, .int s, .ref l] H Q E := by
  have hv : val b (List.replicate k 0) = 0 := val_zeros b fun d z => (List.mem_replicate.mp z).2
  refine lw_normal W h hl hb hb' (fun d z => by rw [(List.mem_replicate.mp z).2]; exact Nat.two_pow_pos b) (by rw [List.length_replicate]; exact hk) (by rw [hv]; unfold sgnOk; omega) ?_
  rw [hv]
  have e : s * ((0 : Nat) : Int) = 0 := by simp
  rw [e]
  exact q
theorem lw_normalE {s : Int} (W : Wb c H0 H M L B) (h : (a, .ins c.CMachine dx (mF b cut d e)) ∈ L) (hl : (l, .lst []) ∈ L) (hb : b ≠ 0) (hb' : b ≤ 30) (hs : -1 ≤ s ∧ s ≤ 1)
    (q : ∀ x H', H0 x = none → Wb c H0 H' M L ((x, b, 0) :: B) → Q (.ref x) H') : sp_normal K c [.ref a, .int s, .ref l] H Q E :=
  lw_normalZ (k := 0) W h hl hb hb' (by decide) hs q
/-! the law's split -/
def sp_law_split (K : PySem.W.Frag) (c : Pc) : Sp := fun vs H Q _ => ∃ (n : Int) (b : Nat), vs = [.int n, .int ((2 ^ b : Nat) : Int)] ∧ b ≠ 0 ∧ b ≤ 60 ∧ (digs b n.natAbs).length < 2 ^ 23 ∧ ∀ l H', Chg H H' [] [(l, .lst (iN (digs b n.natAbs)))] → Q (.ref l) H'
def t_law_split (K : PySem.W.Frag) (c : Pc) : TS :=
  (tSeq (tPar 0 2 (tCons (tCB rAbs (tCons (tVar 0) tNil)) (tCons (tLst tNil) tNil)))
  (tSeq (tWhile (tTest (tOp rGt (tVar 0) (tC (.int 0)))) (tSeq (tDrop (tBM K "list" rAppend (tVar 2) (tCons (tOp rMod (tCB rInt (tCons (tVar 0) tNil)) (tVar 1)) tNil)))
  (tAsg (tOp rDiv (tVar 0) (tVar 1)) (gName 0))))
  (tRet (tVar 2))))
theorem b_law_split (h : sp_law_split K c vs H Q E) : t_law_split K c (en0 Q) (st0 3 vs) H := by
  obtain ⟨n, b, rfl, hb, hb60, hlen, k⟩ := h
  have h2b : 0 < 2 ^ b := Nat.two_pow_pos b
  have h2c : 2 ^ b ≤ 2 ^ 60 := Nat.pow_le_pow_right (by decide) hb60
  unfold t_law_split
  walk_at "rd"
  rw [absN]
  refine rd_kLst (Wd.nil H) (by decide) fun l H1 hl W1 => ?_
  walk_at "rd"
  refine rd_while (fun k σ' H' => ∃ ds, σ' = [some (.int (k : Int)), some (.int ((2 ^ b : Nat) : Int)), some (.ref l)] ∧ Wd H H' [] [(l, .lst (iN ds))] ∧ ds ++ digs b k = digs b n.natAbs) n.natAbs ⟨[], rfl, W1, rfl⟩ ?_
  rintro z σ' H' ⟨ds, rfl, W2, hds⟩
  walk_at "rd"
  refine rd_wh2 (fun h1 => ?_) fun h1 => ?_
  · have hz : z ≠ 0 := by omega
    have e1 := digs_pos hb hz
    walk_at "rd"
    refine rd_append W2 (by walk_at "rp") (.inl hl) ?_ fun H2 W3 => ?_
    · rw [iN_length]
      have := congrArg List.length hds
      rw [List.length_append] at this
      exact Nat.lt_of_lt_of_le (show ds.length < 2 ^ 23 by omega) (by decide)
    walk_at "rd"
    refine rd_div (div_ok64 (by omega) (by omega)) ?_
    walk_at "rd"
    refine ⟨z / 2 ^ b, Nat.div_lt_self (by omega) (Nat.one_lt_two_pow hb), ds ++ [z % 2 ^ b], rfl, ?_, ?_⟩
    · rw [← iN_app]; exact W3
    · rw [List.append_assoc, List.singleton_append, ← e1]; exact hds
  · have hz : z = 0 := by omega
    subst hz
    rw [digs_zero, List.append_nil] at hds
    subst hds
    walk_at "rd"
    exact k l H' (W2.new1 hl)
theorem lw_split (W : Wb c H0 H M L B) (hb : b ≠ 0) (hb' : b ≤ 60) (hl : (digs b n.natAbs).length < 2 ^ 23) (q : ∀ p H', H0 p = none → Wb c H0 H' M ((p, .lst (iN (digs b n.natAbs))) :: L) B → Q (.ref p) H') : sp_law_split K c [.int n, .int ((2 ^ b : Nat) : Int)] H Q E :=
  ⟨n, b, rfl, hb, hb', hl, fun p H' ch => q p H' (W.wd.fresh (ch.new List.mem_cons_self).1) (W.chg0 ch)⟩
end

/-! K01b: the law's own defs. -/
section
variable {K : PySem.W.Frag} {c : Pc} {vs xs ys : List V} {H H0 H' : Hp} {Q : VK} {E : XK} {M : List Addr} {L L' ns cs : List (Addr × HO)} {L1 : HO → List (Addr × HO)} {B : List (Addr × Nat × Int)} {b b' : Nat} {cut n m : Int} {a d e dx r x x' l p : Addr} {o u : HO} {σ : L2.St} {y : V} {tr : TA}
def sp_k01_normal_right (K : PySem.W.Frag) (c : Pc) : Sp := fun vs H Q _ => ∃ (a m dx : Addr) (o : HO) (b : Nat) (cut : Int) (d e x : Addr) (n : Int), vs = [.ref a, .ref m, .ref x, .int n] ∧ H a = some o ∧ SrcO o ∧ H m = some (.ins c.CMachine dx (mF b cut d e)) ∧ 8 ≤ b ∧ b ≤ 30 ∧ BigAt c H x b n ∧ n.natAbs < 2 ^ 1300 ∧
  ∀ o' H', SrcO o' → Chg H H' [(a, o')] [] → Q (.bl true) H'
def t_k01_normal_right (K : PySem.W.Frag) (c : Pc) : TS :=
  (tSeq (tPar 4 5 (tCons (tMeth c.CBig "digits" (sp_Big_digits K c) [] E0 (tVar 2) tNil) (tCons (tMeth c.CBig "sign" (sp_Big_sign K c) [] E0 (tVar 2) tNil) tNil)))
  (tSeq (tAsg (tCall (sp_law_next K c) [] E0 (tCons (tVar 0) (tCons (tC (.int 4)) tNil))) (gName 6))
  (tSeq (tAsg (tOp rCat (tVar 4) (tOp rRep (tLst (tCons (tC (.int 0)) tNil)) (tVar 6))) (gName 7))
  (tSeq (tIfS (tTest (tOp (rOwnNe K c.CBig (sp_Big_eq K c) E0) (tCall (sp_normal K c) [] E0 (tCons (tVar 1) (tCons (tVar 5) (tCons (tVar 7) tNil)))) (tVar 2))) (tRet (tC (.bl false))) tNext)
  (tSeq (tIfS (tTest (tOp (rOwnNe K c.CBig (sp_Big_eq K c) E0) (tKw 3 (sp_normal K c) (perm [2, 1, 0]) E0 (tCons (tVar 7) (tCons (tVar 5) (tCons (tVar 1) tNil)))) (tVar 2))) (tRet (tC (.bl false))) tNext)
  (tSeq (tIfS (tTest (tOp (rNeD K) (tVar 7) (tOp rCat (tVar 4) (tOp rRep (tLst (tCons (tC (.int 0)) tNil)) (tVar 6))))) (tRet (tC (.bl false))) tNext)
  (tSeq (tIfS (tTest (tOp rNe (tMeth c.CBig "sign" (sp_Big_sign K c) [] E0 (tCall (sp_normal K c) [] E0 (tCons (tVar 1) (tCons (tVar 5) (tCons (tOp rRep (tLst (tCons (tC (.int 0)) tNil)) (tVar 6)) tNil)))) tNil) (tC (.int 0)))) (tRet (tC (.bl false))) tNext)
  (tSeq (tIfS (tTest (tOp (rNeD K) (tMeth c.CBig "digits" (sp_Big_digits K c) [] E0 (tCall (sp_normal K c) [] E0 (tCons (tVar 1) (tCons (tC (.int 0)) (tCons (tOp rRep (tLst (tCons (tC (.int 0)) tNil)) (tVar 6)) tNil)))) tNil) (tLst tNil))) (tRet (tC (.bl false))) tNext)
  (tSeq (tAsg (tCall (sp_normal K c) [] E0 (tCons (tVar 1) (tCons (tVar 5) (tCons (tVar 7) tNil)))) (gName 8))
  (tSeq (tDrop (tBM K "list" rAppend (tVar 7) (tCons (tC (.int 7)) tNil)))
  (tSeq (tIfS (tOr (tTest (tOp (rOwnNe K c.CBig (sp_Big_eq K c) E0) (tVar 8) (tVar 2))) (tOr (tTest (tOp (rNeD K) (tMeth c.CBig "digits" (sp_Big_digits K c) [] E0 (tVar 8) tNil) (tVar 4))) (tAnd (tTest (tOp rNe (tVar 3) (tC (.int 0)))) (tTest (tOp (rOwnEq K c.CBig (sp_Big_eq K c) E0) (tCall (sp_normal K c) [] E0 (tCons (tVar 1) (tCons (tOp rSub (tC (.int 0)) (tVar 5)) (tCons (tVar 4) tNil)))) (tVar 2)))))) (tRet (tC (.bl false))) tNext)
  (tSeq (tFor (iTup K (tTup (tCons (tC (.int 1)) (tCons (tC (.int 2)) (tCons (tC (.int 3)) tNil))))) (gName 9) (tIfS (tTest (tOp (rOwnEq K c.CBig (sp_Big_eq K c) E0) (tCall (sp_big K c) [] E0 (tCons (tVar 1) (tCons (tOp rAdd (tVar 3) (tOp rShl (tC (.int 1)) (tOp rMul (tOp (rIxT K) (tMeth c.CMachine "parts" (sp_Machine_parts K c) [] E0 (tVar 1) tNil) (tC (.int 0))) (tVar 9)))) tNil))) (tVar 2))) (tRet (tC (.bl false))) tNext))
  (tSeq (tAsg (tMake c.CMachine (sp_Machine_init K c) [(.int 70)] E0 (tCons (tIf (tTest (tOp rLt (tOp (rIxT K) (tMeth c.CMachine "parts" (sp_Machine_parts K c) [] E0 (tVar 1) tNil) (tC (.int 0))) (tC (.int 30)))) (tOp rAdd (tOp (rIxT K) (tMeth c.CMachine "parts" (sp_Machine_parts K c) [] E0 (tVar 1) tNil) (tC (.int 0))) (tC (.int 1))) (tC (.int 29))) tNil)) (gName 10))
  (tSeq (tIfS (tOr (tTest (tOp (rOwnEq K c.CBig (sp_Big_eq K c) E0) (tCall (sp_big K c) [] E0 (tCons (tVar 10) (tCons (tVar 3) tNil))) (tVar 2))) (tAnd (tTest (tOp rEq (tVar 3) (tC (.int 0)))) (tTest (tOp (rOwnEq K c.CBig (sp_Big_eq K c) E0) (tCall (sp_normal K c) [] E0 (tCons (tVar 10) (tCons (tC (.int 0)) (tCons (tLst tNil) tNil)))) (tVar 2))))) (tRet (tC (.bl false))) tNext)
  (tSeq (tAsg (tCall (sp_big K c) [] E0 (tCons (tVar 1) (tCons (tOp rAdd (tVar 3) (tC (.int 1))) tNil))) (gName 11))
  (tSeq (tAsg (tMake c.CMachine (sp_Machine_init K c) [] E0 (tCons (tOp (rIxT K) (tMeth c.CMachine "parts" (sp_Machine_parts K c) [] E0 (tVar 1) tNil) (tC (.int 0))) (tCons (tC (.int 99)) tNil))) (gName 12))
  (tRet (tAndV (tOp (rOwnNe K c.CBig (sp_Big_eq K c) E0) (tVar 11) (tVar 2)) (tAndV (tOp rIsB (tOp (rOwnEq K c.CBig (sp_Big_eq K c) E0) (tVar 11) (tVar 2)) (tC (.bl false))) (tOp (rOwnEq K c.CBig (sp_Big_eq K c) E0) (tCall (sp_big K c) [] E0 (tCons (tVar 12) (tCons (tVar 3) tNil))) (tVar 2)))))))))))))))))))))
theorem Wb.open2 {a m : Addr} {o : HO} {u : HO} (h1 : H a = some o) (h2 : H m = some u) (ne : o ≠ u) : Wb c H H [a] [(a, o), (m, u)] [] :=
  .start (((Wd.one h2).old h1 (by
    simp only [List.map_cons, List.map_nil, List.mem_singleton]
    intro z; rw [z, h2] at h1; exact ne (Option.some.inj h1).symm)).may List.mem_cons_self)
theorem SrcO.ne_ins {o : HO} {C dx : Addr} {fs : List (Str × V)} (h : SrcO o) : o ≠ .ins C dx fs := by
  obtain ⟨_, _, _, rfl⟩ := h
  intro z; cases z
theorem b_k01_normal_right (PB : PB K c) (h : sp_k01_normal_right K c vs H Q E) : t_k01_normal_right K c (en0 Q) (st0 13 vs) H := by
  obtain ⟨a, m, dx, o, b, cut, d, e, x, n, rfl, ha, ho, hm, hb1, hb2, hx, hn, k⟩ := h
  have bl : ∀ z : Int, z.natAbs < 2 ^ 1400 → bigL b z := fun z hz => bigL_of hb1 hb2 (Nat.lt_trans hz (by decide +kernel))
  have bn : bigL b n := bl n (Nat.lt_trans hn (by decide +kernel))
  have W : Wb c H H [a] _ _ := (Wb.open2 ha hm ho.ne_ins).add hx bn
  unfold t_k01_normal_right
  have hdl := digs_len hb1 (n := n) (Nat.lt_trans hn (by decide +kernel))
  have hsg := sgn_small n
  walk_at "lw"
  refine lw_and W (fun hk QB' hq => ?_) fun H1 L1 B1 W => ?_
  · have hn0 : n ≠ 0 := by simpa using hk
    walk_at "lw"
    rw [decide_eq_false (show ¬ (b = b ∧ -n = n) by omega)]
    exact hq _ _ _ W (by walk_at "sfx") (by walk_at "sfx")
  walk_at "lw"
  refine lw_forT (xs := [.int 1, .int 2, .int 3]) (fun _ σ' => ∃ v, σ' = [_, _, _, _, _, _, _, _, _, v, none, none, none]) W (by walk_at "mem") ⟨none, rfl⟩ ?_ ?_
  · rintro i y σ' H2 L2 B2 hy ⟨v, rfl⟩ W
    obtain ⟨z, rfl, hz1, hz2⟩ : ∃ z : Nat, y = .int (z : Int) ∧ 1 ≤ z ∧ z ≤ 3 := by
      have hm := List.mem_of_getElem? hy
      simp only [List.mem_cons, List.not_mem_nil, or_false] at hm
      rcases hm with rfl | rfl | rfl
      · exact ⟨1, rfl, by decide, by decide⟩
      · exact ⟨2, rfl, by decide, by decide⟩
      · exact ⟨3, rfl, by decide, by decide⟩
    walk_at "lw"
    have hbz : b * z ≤ 90 := by
      have := Nat.mul_le_mul hb2 hz2
      omega
    rw [← Int.natCast_mul]
    walk_at "lw"
    have hpz : 2 ^ (b * z) ≤ 2 ^ 90 := Nat.pow_le_pow_right (by decide) hbz
    have hpz' := Nat.two_pow_pos (b * z)
    have hbig : bigL b (n + ((2 ^ (b * z) : Nat) : Int)) := bl _ (Nat.lt_of_le_of_lt (Int.natAbs_add_le _ _) (by
      rw [Int.natAbs_natCast]
      exact Nat.lt_of_lt_of_le (Nat.add_lt_add_of_lt_of_le hn hpz) (by decide +kernel)))
    walk_at "lw"
    exact lw_end W (by walk_at "sfx") (by walk_at "sfx") ⟨_, rfl⟩
  · rintro σ' H2 L2 B2 ⟨v, rfl⟩ W
    walk_at "lw"
    refine lw_if ((b : Int) + 1) 29 W (fun h1 Q' hq => ?_) (fun h1 Q' hq => ?_) fun z H3 L3 B3 hz1 hz2 W => ?_
    · walk_at "lw"
      exact hq _ _ _ W (by walk_at "sfx") (by walk_at "sfx")
    · walk_at "lw"
      exact hq _ _ _ W (by walk_at "sfx") (by walk_at "sfx")
    obtain ⟨b2, rfl, hb3, hb4, hbb⟩ : ∃ b2 : Nat, z = (b2 : Int) ∧ 8 ≤ b2 ∧ b2 ≤ 30 ∧ b2 ≠ b := ⟨z.toNat, by omega, by omega, by omega, by omega⟩
    have bn2 : bigL b2 n := bigL_of hb3 hb4 (Nat.lt_trans hn (by decide +kernel))
    walk_at "lw"
    refine lw_and W (fun hk QB' hq => ?_) fun H4 L4 B4 W => ?_
    · walk_at "lw"
      rw [decide_eq_false (show ¬ (b2 = b ∧ 0 = n) by omega)]
      exact hq _ _ _ W (by walk_at "sfx") (by walk_at "sfx")
    have bn1 : bigL b (n + 1) := bl _ (Nat.lt_of_le_of_lt (Int.natAbs_add_le _ _) (Nat.lt_of_lt_of_le (Nat.add_lt_add_right hn 1) (by decide +kernel)))
    walk_at "lw"
    refine rd_Td (by rw [decide_eq_false (show ¬ (b = b ∧ n + 1 = n) by omega)]) ?_
    walk_at "lw"
    rw [decide_eq_true (show b = b ∧ n = n from ⟨rfl, rfl⟩)]
    exact k _ _ ho (W.one (by walk_at "mem"))
def sp_k01_right (K : PySem.W.Frag) (c : Pc) : Sp := fun vs H Q _ => ∃ (a m dx : Addr) (o : HO) (b : Nat) (cut : Int) (d e : Addr) (n : Int), vs = [.ref a, .ref m, .int n] ∧ H a = some o ∧ SrcO o ∧ H m = some (.ins c.CMachine dx (mF b cut d e)) ∧ 8 ≤ b ∧ b ≤ 30 ∧ n.natAbs < 2 ^ 1300 ∧
  ∀ o' H', SrcO o' → Chg H H' [(a, o')] [] → Q (.bl true) H'
def t_k01_right (K : PySem.W.Frag) (c : Pc) : TS :=
  (tSeq (tPar 3 4 (tCons (tOp rShl (tC (.int 1)) (tOp (rIxT K) (tMeth c.CMachine "parts" (sp_Machine_parts K c) [] E0 (tVar 1) tNil) (tC (.int 0)))) (tCons (tCall (sp_big K c) [] E0 (tCons (tVar 1) (tCons (tVar 2) tNil))) tNil)))
  (tSeq (tPar 5 6 (tCons (tCall (sp_law_split K c) [] E0 (tCons (tVar 2) (tCons (tVar 3) tNil))) (tCons (tIf (tTest (tOp rEq (tVar 2) (tC (.int 0)))) (tC (.int 0)) (tIf (tTest (tOp rLt (tVar 2) (tC (.int 0)))) (tUn rNeg (tC (.int 1))) (tC (.int 1)))) tNil)))
  (tSeq (tAsg (tMeth c.CBig "digits" (sp_Big_digits K c) [] E0 (tVar 4) tNil) (gName 7))
  (tSeq (tDrop (tBM K "list" rAppend (tVar 7) (tCons (tC (.int 5)) tNil)))
  (tSeq (tIfS (tOr (tTest (tOp (rNeD K) (tMeth c.CBig "digits" (sp_Big_digits K c) [] E0 (tVar 4) tNil) (tVar 5))) (tOr (tTest (tOp rNe (tMeth c.CBig "sign" (sp_Big_sign K c) [] E0 (tVar 4) tNil) (tVar 6))) (tTest (tOp rNe (tMeth c.CBig "bits" (sp_Big_bits K c) [] E0 (tVar 4) tNil) (tOp (rIxT K) (tMeth c.CMachine "parts" (sp_Machine_parts K c) [] E0 (tVar 1) tNil) (tC (.int 0))))))) (tRet (tC (.bl false))) tNext)
  (tSeq (tIfS (tTest (tOp rNe (tKw 1 (sp_plain K c) (perm [0]) E0 (tCons (tVar 4) tNil)) (tVar 2))) (tRet (tC (.bl false))) tNext)
  (tSeq (tIfS (tTest (tOp rNe (tCall (sp_plain K c) [] E0 (tCons (tKw 2 (sp_big K c) (perm [1, 0]) E0 (tCons (tVar 2) (tCons (tVar 1) tNil))) tNil)) (tVar 2))) (tRet (tC (.bl false))) tNext)
  (tSeq (tIfS (tTest (tOp (rOwnNe K c.CBig (sp_Big_eq K c) E0) (tVar 4) (tCall (sp_big K c) [] E0 (tCons (tVar 1) (tCons (tVar 2) tNil))))) (tRet (tC (.bl false))) tNext)
  (tSeq (tIfS (tTest (tOp (rOwnEq K c.CBig (sp_Big_eq K c) E0) (tVar 4) (tVar 2))) (tRet (tC (.bl false))) tNext)
  (tSeq (tIfS (tTest (tOp (rOwnEq K c.CBig (sp_Big_eq K c) E0) (tVar 4) (tVar 5))) (tRet (tC (.bl false))) tNext)
  (tSeq (tIfS (tTest (tOp rNe (tCall (sp_plain K c) [] E0 (tCons (tCall (sp_negative K c) [] E0 (tCons (tVar 4) tNil)) tNil)) (tOp rSub (tC (.int 0)) (tVar 2)))) (tRet (tC (.bl false))) tNext)
  (tSeq (tIfS (tTest (tOp rNe (tCall (sp_plain K c) [] E0 (tCons (tKw 1 (sp_absolute K c) (perm [0]) E0 (tCons (tVar 4) tNil)) tNil)) (tCB rAbs (tCons (tVar 2) tNil)))) (tRet (tC (.bl false))) tNext)
  (tSeq (tIfS (tTest (tOp (rNeD K) (tMeth c.CBig "digits" (sp_Big_digits K c) [] E0 (tKw 1 (sp_negative K c) (perm [0]) E0 (tCons (tVar 4) tNil)) tNil) (tVar 5))) (tRet (tC (.bl false))) tNext)
  (tRet (tCall (sp_k01_normal_right K c) [] E0 (tCons (tVar 0) (tCons (tVar 1) (tCons (tVar 4) (tCons (tVar 2) tNil)))))))))))))))))))
theorem b_k01_right (PB : PB K c) (N : NoSub K c.CBig) (h : sp_k01_right K c vs H Q E) : t_k01_right K c (en0 Q) (st0 8 vs) H := by
  obtain ⟨a, m, dx, o, b, cut, d, e, n, rfl, ha, ho, hm, hb1, hb2, hn, k⟩ := h
  have bl : ∀ z : Int, z.natAbs < 2 ^ 1400 → bigL b z := fun z hz => bigL_of hb1 hb2 (Nat.lt_trans hz (by decide +kernel))
  have bn : bigL b n := bl n (Nat.lt_trans hn (by decide +kernel))
  have W : Wb c H H [a] _ _ := (Wb.open2 ha hm ho.ne_ins)
  unfold t_k01_right
  have hdl := digs_len hb1 (n := n) (Nat.lt_trans hn (by decide +kernel))
  have hsg := sgn_small n
  walk_at "lw"
  refine lw_if 0 (sgn n) W (fun h1 Q' hq => ?_) (fun h1 Q' hq => ?_) fun z H3 L3 B3 hz1 hz2 W => ?_
  · walk_at "lw"
    exact hq _ _ _ W (by walk_at "sfx") (by walk_at "sfx")
  · walk_at "lw"
    refine rd_2d (fun h2 => ?_) fun h2 => ?_
    · walk_at "lw"
      have e : sgn n = -1 := by unfold sgn; rw [if_pos h2]
      rw [e] at hq
      exact hq _ _ _ W (by walk_at "sfx") (by walk_at "sfx")
    · walk_at "lw"
      have e : sgn n = 1 := by unfold sgn; rw [if_neg h2, if_neg h1]
      rw [e] at hq
      exact hq _ _ _ W (by walk_at "sfx") (by walk_at "sfx")
  have ez : z = sgn n := by
    by_cases h0 : n = 0
    · rw [hz1 h0, h0]; rfl
    · exact hz2 h0
  subst ez
  walk_at "lw"
  refine lw_neLF W (by walk_at "mem") (by walk_at "mem") (by rw [Int.natAbs_neg]) (by walk_at "al") ?_
  walk_at "lw"
  refine ⟨a, m, dx, o, b, cut, d, e, _, n, rfl, W.get (by walk_at "mem"), ho, W.get (by walk_at "mem"), hb1, hb2, (W.big (by walk_at "mem")).1, hn, fun o' H' ho' ch => k o' H' ho' ?_⟩
  exact (W.chg1 (by walk_at "rp") ho.chb ch (by walk_at "may")).one (by walk_at "mem")
end

/-! K01c: the law itself. -/
section
variable {K : PySem.W.Frag} {c : Pc} {vs xs ys : List V} {H H0 H' : Hp} {Q : VK} {E : XK} {M : List Addr} {L L' ns cs : List (Addr × HO)} {L1 : HO → List (Addr × HO)} {B : List (Addr × Nat × Int)} {b b' : Nat} {cut n m : Int} {a d e dx r x x' l p : Addr} {o u : HO} {σ : L2.St} {y : V} {tr : TA}
def sp_k01_law (K : PySem.W.Frag) (c : Pc) : Sp := sp_law0 K
def t_k01_law (K : PySem.W.Frag) (c : Pc) : TS :=
  (tSeq (tFor (iList K (tOp rCat (tLst (tCons (tCall (sp_law_cell_at K c) [] E0 (tCons (tVar 0) (tCons (tC (.int 0)) tNil))) tNil)) (tSl (rSlL K) (tVar 0) (tPart (tC (.int 1))) (tPart (tC (.int 5)))))) (gName 1) (tSeq (tAsg (tCall (sp_law_source_of K c) [] E0 (tCons (tVar 1) tNil)) (gName 2))
  (tSeq (tAsg (tCall (sp_law_machine K c) [] E0 (tCons (tVar 2) tNil)) (gName 3))
  (tSeq (tAsg (tOp rShl (tC (.int 1)) (tOp (rIxT K) (tMeth c.CMachine "parts" (sp_Machine_parts K c) [] E0 (tVar 3) tNil) (tC (.int 0)))) (gName 4))
  (tSeq (tAsg (tOp rCat (tLst (tCons (tC (.int 0)) (tCons (tC (.int 1)) (tCons (tUn rNeg (tC (.int 1))) (tCons (tOp rSub (tVar 4) (tC (.int 1))) (tCons (tVar 4) (tCons (tOp rSub (tC (.int 0)) (tVar 4)) (tCons (tOp rSub (tOp rMul (tVar 4) (tVar 4)) (tC (.int 1))) tNil)))))))) (tLc (iRng1 (tCons (tC (.int 8)) tNil)) (gName 6) tYes (tCall (sp_law_number K c) [] E0 (tCons (tVar 2) (tCons (tVar 4) (tCons (tC (.int 40)) tNil)))) [6])) (gName 5))
  (tSeq (tFor (iList K (tVar 5)) (gName 7) (tIfS (tNot (L2.tB (tCall (sp_k01_right K c) [] E0 (tCons (tVar 2) (tCons (tVar 3) (tCons (tVar 7) tNil)))))) (tRet (tC (.bl false))) tNext))
  (tSeq (tIfS (tTest (tOp (rNeD K) (tLc (iList K (tMeth c.CMachine "tally" (sp_Machine_tally K c) [] E0 (tVar 3) tNil)) (gTup K 2 (gCons (gName 8) (gCons (gName 9) gNil))) (tTest (tOp rNe (tVar 9) (tC (.int 0)))) (tVar 9) [8, 9]) (tLst tNil))) (tRet (tC (.bl false))) tNext)
  (tSeq (tIfS (tTest (tOp (rNeD K) (tMeth c.CMachine "walk" (sp_Machine_walk K c) [] E0 (tVar 3) tNil) (tLst tNil))) (tRet (tC (.bl false))) tNext)
  (tSeq (tAsg (tMake c.CMachine (sp_Machine_init K c) [(.int 70)] E0 (tCons (tIf (tTest (tOp rLt (tOp (rIxT K) (tMeth c.CMachine "parts" (sp_Machine_parts K c) [] E0 (tVar 3) tNil) (tC (.int 0))) (tC (.int 30)))) (tOp rAdd (tOp (rIxT K) (tMeth c.CMachine "parts" (sp_Machine_parts K c) [] E0 (tVar 3) tNil) (tC (.int 0))) (tC (.int 1))) (tC (.int 8))) tNil)) (gName 10))
  (tIfS (tOr (tTest (tOp (rOwnEq K c.CBig (sp_Big_eq K c) E0) (tCall (sp_big K c) [] E0 (tCons (tVar 10) (tCons (tC (.int 5)) tNil))) (tCall (sp_big K c) [] E0 (tCons (tVar 3) (tCons (tC (.int 5)) tNil))))) (tTest (tOp (rOwnEq K c.CBig (sp_Big_eq K c) E0) (tCall (sp_big K c) [] E0 (tCons (tVar 10) (tCons (tC (.int 0)) tNil))) (tCall (sp_big K c) [] E0 (tCons (tVar 3) (tCons (tC (.int 0)) tNil)))))) (tRet (tC (.bl false))) tNext))))))))))
  (tSeq (tIfS (tNot (tTest (tOp (rEqD K) (tMeth c.CBig "digits" (sp_Big_digits K c) [] E0 (tCall (sp_big K c) [] E0 (tCons (tMake c.CMachine (sp_Machine_init K c) [(.int 30), (.int 70)] E0 tNil) (tCons (tOp rPow (tC (.int 2)) (tC (.int 60))) tNil))) tNil) (tLst (tCons (tC (.int 0)) (tCons (tC (.int 0)) (tCons (tC (.int 1)) tNil))))))) (tRet (tC (.bl false))) tNext)
  (tRet (tOp (rEqD K) (tMeth c.CBig "digits" (sp_Big_digits K c) [] E0 (tCall (sp_big K c) [] E0 (tCons (tMake c.CMachine (sp_Machine_init K c) [] E0 (tCons (tC (.int 8)) (tCons (tC (.int 4)) tNil))) (tCons (tUn rNeg (tC (.int 2000))) tNil))) tNil) (tLst (tCons (tC (.int 208)) (tCons (tC (.int 7)) tNil)))))))
theorem digs_is {b n : Nat} {ds : List Nat} (hb : b ≠ 0) (hd : Digs b ds) (hn : Norm ds) (e : val b ds = n) : digs b n = ds := by rw [← e]; exact digs_val hb hd hn
theorem b_k01_law (PB : PB K c) (h : sp_k01_law K c vs H Q E) : t_k01_law K c (en0 Q) (st0 11 vs) H := by
  obtain ⟨a, ns, rfl, ha, hlen, k⟩ := h
  unfold t_k01_law
  refine rd_seq (rd_cells (fun σ' => ∃ v1 v2 v3 v4 v5 v6 v7 v8 v9 v10, σ' = [some (.ref a), v1, v2, v3, v4, v5, v6, v7, v8, v9, v10]) rfl ha hlen ⟨none, none, none, none, none, none, none, none, none, none, rfl⟩ ?_ ?_)
  · rintro H4 z σ' H5 hs5 ⟨v1, v2, v3, v4, v5, v6, v7, v8, v9, v10, rfl⟩
    have W : Wb c H5 H5 [] [] [] := .start (Wd.nil H5)
    walk_at "lw"
    have hp30 : 2 ^ b ≤ 2 ^ 30 := Nat.pow_le_pow_right (by decide) hb2
    have hp8 : 2 ^ 8 ≤ 2 ^ b := Nat.pow_le_pow_right (by decide) hb1
    walk_at "lw"
    refine rd_kR1 (by decide) (by decide) ?_
    refine lw_lcR (fun y => ∃ n : Int, y = .int n ∧ n.natAbs < 2 ^ 1300) W (fun u => by walk_at "rp") ho (by decide) (fun _ => rfl) ?_ ?_
    · intro i D xs o' H' L' B' hi ho' hD W Q' hq
      walk_at "lw"
      refine lw_number (most := 40) W (fun u => by walk_at "rp") ho' (by walk_at "may") (by omega) hp30 (by decide) fun n o'' H'' hn ho'' W => ?_
      exact hq _ _ _ _ _ ⟨n, rfl, Nat.lt_of_lt_of_le hn (by
        rw [← Nat.pow_mul]
        exact Nat.pow_le_pow_right (by decide) (by omega))⟩ ho'' W (by walk_at "sfx") (by walk_at "sfx")
    intro D H' ys o' L' B' hyl hys ho' hD W
    walk_at "lw"
    refine lw_forLS (fun _ σ' => ∃ v, σ' = [_, _, _, _, _, _, _, v, _, _, _]) W (fun u => by walk_at "rp") ho' (fun u => by walk_at "mem") ⟨_, rfl⟩ ?_ ?_
    · rintro i y σ' H' o1 L' B' hy ⟨v, rfl⟩ ho1 W
      obtain ⟨n, rfl, hn⟩ : ∃ n : Int, y = .int n ∧ n.natAbs < 2 ^ 1300 := by
        rcases List.mem_append.mp (List.mem_of_getElem? hy) with z | z
        · have e9 : (2 : Nat) ^ 70 < 2 ^ 1300 := by decide +kernel
          have hpp : ((2 ^ b : Nat) : Int) * ((2 ^ b : Nat) : Int) = ((2 ^ (b + b) : Nat) : Int) := by rw [← Int.natCast_mul, ← Nat.pow_add]
          have hp60 : 2 ^ (b + b) ≤ 2 ^ 60 := Nat.pow_le_pow_right (by decide) (by omega)
          obtain ⟨PP, hPP⟩ : ∃ PP, PP = 2 ^ (b + b) := ⟨_, rfl⟩
          rw [← hPP] at hpp hp60
          rw [hpp] at z
          clear hPP
          simp only [List.mem_cons, List.not_mem_nil, or_false] at z
          rcases z with rfl | rfl | rfl | rfl | rfl | rfl | rfl <;> exact ⟨_, rfl, Nat.lt_trans (by omega) e9⟩
        · exact hys y z
      walk_at "lw"
      refine ⟨_, _, _, _, _, _, _, _, n, rfl, W.get (by walk_at "mem"), ho1, W.get (by walk_at "mem"), hb1, hb2, hn, fun o2 H2 ho2 ch => ?_⟩
      have W := W.chg1 (by walk_at "rp") ho1.chb ch (by walk_at "may")
      walk_at "lw"
      exact lw_endS W ho2 (by walk_at "sfx") (by walk_at "sfx") ⟨_, rfl⟩
    · rintro σ' H' o1 L' B' ⟨v, rfl⟩ ho1 W
      walk_at "lw"
      refine lw_if ((b : Int) + 1) 8 W (fun h1 Q' hq => ?_) (fun h1 Q' hq => ?_) fun z2 H3 L3 B3 hz1 hz2 W => ?_
      · walk_at "lw"
        exact hq _ _ _ W (by walk_at "sfx") (by walk_at "sfx")
      · walk_at "lw"
        exact hq _ _ _ W (by walk_at "sfx") (by walk_at "sfx")
      obtain ⟨b2, rfl, hb3, hb4, hbb⟩ : ∃ b2 : Nat, z2 = (b2 : Int) ∧ 8 ≤ b2 ∧ b2 ≤ 30 ∧ b2 ≠ b := ⟨z2.toNat, by omega, by omega, by omega, by omega⟩
      walk_at "lw"
      exact ⟨⟨_, _, _, _, _, _, _, _, _, _, rfl⟩, hs5.trans W.toSame⟩
  · rintro σ' H5 ⟨v1, v2, v3, v4, v5, v6, v7, v8, v9, v10, rfl⟩
    have W : Wb c H5 H5 [] [] [] := .start (Wd.nil H5)
    walk_at "lw"
    refine rd_pow ⟨by decide, by decide⟩ ?_
    walk_at "lw"
    refine lw_eqLT W (by walk_at "mem") (by walk_at "mem") ?_ (by walk_at "al") ?_
    · rw [digs_is (ds := [0, 0, 1]) (by decide) (by unfold Digs; decide) rfl (by decide)]; rfl
    walk_at "lw"
    refine lw_mkMachine (b := 8) W (by decide) (by decide) (by decide) (by decide) fun x dx d e H' hx hd he W => ?_
    walk_at "lw"
    refine lw_eqLT W (by walk_at "mem") (by walk_at "mem") ?_ (by walk_at "al") ?_
    · rw [digs_is (ds := [208, 7]) (by decide) (by unfold Digs; decide) rfl (by decide)]; rfl
    exact k _
end

end Eng
namespace Law
open PySem PySem.Spec PyProof.Rows L2 Eng
def top (i : Nat) : Stmt := PySem.Challenge.pw_thirtybits_k01_digits_and_signs.main.body.getD i (.Pass ⟨0, 0, 0, 0⟩)
abbrev s_is_integer : Stmt := top 6
abbrev N_is_integer : List Str := ["value"]
theorem sc_is_integer : FnScope N_is_integer ["value"] (defScope s_is_integer) := ⟨rfl, rfl, rfl, by decide +kernel, rfl, by decide +kernel, by decide +kernel⟩
abbrev s_is_between : Stmt := top 7
abbrev N_is_between : List Str := ["value", "low", "high"]
theorem sc_is_between : FnScope N_is_between ["value", "low", "high"] (defScope s_is_between) := ⟨rfl, rfl, rfl, by decide +kernel, rfl, by decide +kernel, by decide +kernel⟩
abbrev s_check_integer : Stmt := top 8
abbrev N_check_integer : List Str := ["argument", "value"]
theorem sc_check_integer : FnScope N_check_integer ["argument", "value"] (defScope s_check_integer) := ⟨rfl, rfl, rfl, by decide +kernel, rfl, by decide +kernel, by decide +kernel⟩
abbrev s_Machine_init : Stmt := inClass (top 15) 0
abbrev N_Machine_init : List Str := ["self", "bits", "cutoff", "word"]
theorem sc_Machine_init : FnScope N_Machine_init ["self", "bits", "cutoff"] (defScope s_Machine_init) := ⟨rfl, rfl, rfl, by decide +kernel, rfl, by decide +kernel, by decide +kernel⟩
abbrev s_Machine_parts : Stmt := inClass (top 15) 2
abbrev N_Machine_parts : List Str := ["self"]
theorem sc_Machine_parts : FnScope N_Machine_parts ["self"] (defScope s_Machine_parts) := ⟨rfl, rfl, rfl, by decide +kernel, rfl, by decide +kernel, by decide +kernel⟩
abbrev s_Machine_tally : Stmt := inClass (top 15) 3
abbrev N_Machine_tally : List Str := ["self", "word"]
theorem sc_Machine_tally : FnScope N_Machine_tally ["self"] (defScope s_Machine_tally) := ⟨rfl, rfl, rfl, by decide +kernel, rfl, by decide +kernel, by decide +kernel⟩
abbrev s_Machine_walk : Stmt := inClass (top 15) 4
abbrev N_Machine_walk : List Str := ["self"]
theorem sc_Machine_walk : FnScope N_Machine_walk ["self"] (defScope s_Machine_walk) := ⟨rfl, rfl, rfl, by decide +kernel, rfl, by decide +kernel, by decide +kernel⟩
abbrev s_check_machine : Stmt := top 16
abbrev N_check_machine : List Str := ["value"]
theorem sc_check_machine : FnScope N_check_machine ["value"] (defScope s_check_machine) := ⟨rfl, rfl, rfl, by decide +kernel, rfl, by decide +kernel, by decide +kernel⟩
abbrev s_Big_init : Stmt := inClass (top 18) 0
abbrev N_Big_init : List Str := ["self", "width", "side", "row"]
theorem sc_Big_init : FnScope N_Big_init ["self", "width", "side", "row"] (defScope s_Big_init) := ⟨rfl, rfl, rfl, by decide +kernel, rfl, by decide +kernel, by decide +kernel⟩
abbrev s_Big_eq : Stmt := inClass (top 18) 1
abbrev N_Big_eq : List Str := ["self", "other"]
theorem sc_Big_eq : FnScope N_Big_eq ["self", "other"] (defScope s_Big_eq) := ⟨rfl, rfl, rfl, by decide +kernel, rfl, by decide +kernel, by decide +kernel⟩
abbrev s_Big_sign : Stmt := inClass (top 18) 2
abbrev N_Big_sign : List Str := ["self"]
theorem sc_Big_sign : FnScope N_Big_sign ["self"] (defScope s_Big_sign) := ⟨rfl, rfl, rfl, by decide +kernel, rfl, by decide +kernel, by decide +kernel⟩
abbrev s_Big_digits : Stmt := inClass (top 18) 3
abbrev N_Big_digits : List Str := ["self"]
theorem sc_Big_digits : FnScope N_Big_digits ["self"] (defScope s_Big_digits) := ⟨rfl, rfl, rfl, by decide +kernel, rfl, by decide +kernel, by decide +kernel⟩
abbrev s_Big_bits : Stmt := inClass (top 18) 4
abbrev N_Big_bits : List Str := ["self"]
theorem sc_Big_bits : FnScope N_Big_bits ["self"] (defScope s_Big_bits) := ⟨rfl, rfl, rfl, by decide +kernel, rfl, by decide +kernel, by decide +kernel⟩
abbrev s_made : Stmt := top 19
abbrev N_made : List Str := ["machine", "side", "digits", "size"]
theorem sc_made : FnScope N_made ["machine", "side", "digits"] (defScope s_made) := ⟨rfl, rfl, rfl, by decide +kernel, rfl, by decide +kernel, by decide +kernel⟩
abbrev s_digits_of : Stmt := top 20
abbrev N_digits_of : List Str := ["machine", "n", "found"]
theorem sc_digits_of : FnScope N_digits_of ["machine", "n"] (defScope s_digits_of) := ⟨rfl, rfl, rfl, by decide +kernel, rfl, by decide +kernel, by decide +kernel⟩
abbrev s_big_of : Stmt := top 21
abbrev N_big_of : List Str := ["machine", "n"]
theorem sc_big_of : FnScope N_big_of ["machine", "n"] (defScope s_big_of) := ⟨rfl, rfl, rfl, by decide +kernel, rfl, by decide +kernel, by decide +kernel⟩
abbrev s_value_of : Stmt := top 22
abbrev N_value_of : List Str := ["x", "found", "digit"]
theorem sc_value_of : FnScope N_value_of ["x"] (defScope s_value_of) := ⟨rfl, rfl, rfl, by decide +kernel, rfl, by decide +kernel, by decide +kernel⟩
abbrev s_check_any : Stmt := top 23
abbrev N_check_any : List Str := ["value"]
theorem sc_check_any : FnScope N_check_any ["value"] (defScope s_check_any) := ⟨rfl, rfl, rfl, by decide +kernel, rfl, by decide +kernel, by decide +kernel⟩
abbrev s_is_digits : Stmt := top 24
abbrev N_is_digits : List Str := ["machine", "value", "one"]
theorem sc_is_digits : FnScope N_is_digits ["machine", "value"] (defScope s_is_digits) := ⟨rfl, rfl, rfl, by decide +kernel, rfl, by decide +kernel, by decide +kernel⟩
abbrev s_big : Stmt := top 25
abbrev N_big : List Str := ["machine", "n"]
theorem sc_big : FnScope N_big ["machine", "n"] (defScope s_big) := ⟨rfl, rfl, rfl, by decide +kernel, rfl, by decide +kernel, by decide +kernel⟩
abbrev s_plain : Stmt := top 26
abbrev N_plain : List Str := ["x"]
theorem sc_plain : FnScope N_plain ["x"] (defScope s_plain) := ⟨rfl, rfl, rfl, by decide +kernel, rfl, by decide +kernel, by decide +kernel⟩
abbrev s_normal : Stmt := top 27
abbrev N_normal : List Str := ["machine", "sign", "digits", "is_row"]
theorem sc_normal : FnScope N_normal ["machine", "sign", "digits"] (defScope s_normal) := ⟨rfl, rfl, rfl, by decide +kernel, rfl, by decide +kernel, by decide +kernel⟩
abbrev s_negative : Stmt := top 28
abbrev N_negative : List Str := ["x"]
theorem sc_negative : FnScope N_negative ["x"] (defScope s_negative) := ⟨rfl, rfl, rfl, by decide +kernel, rfl, by decide +kernel, by decide +kernel⟩
abbrev s_absolute : Stmt := top 29
abbrev N_absolute : List Str := ["x"]
theorem sc_absolute : FnScope N_absolute ["x"] (defScope s_absolute) := ⟨rfl, rfl, rfl, by decide +kernel, rfl, by decide +kernel, by decide +kernel⟩
abbrev s_law_source_of : Stmt := top 31
abbrev N_law_source_of : List Str := ["_law_cell"]
theorem sc_law_source_of : FnScope N_law_source_of ["_law_cell"] (defScope s_law_source_of) := ⟨rfl, rfl, rfl, by decide +kernel, rfl, by decide +kernel, by decide +kernel⟩
abbrev s_law_next : Stmt := top 32
abbrev N_law_next : List Str := ["_law_source", "_law_count_of", "_law_found", "_law_prime", "_law_number_here"]
theorem sc_law_next : FnScope N_law_next ["_law_source", "_law_count_of"] (defScope s_law_next) := ⟨rfl, rfl, rfl, by decide +kernel, rfl, by decide +kernel, by decide +kernel⟩
abbrev s_law_one : Stmt := top 33
abbrev N_law_one : List Str := ["_law_source", "_law_some"]
theorem sc_law_one : FnScope N_law_one ["_law_source", "_law_some"] (defScope s_law_one) := ⟨rfl, rfl, rfl, by decide +kernel, rfl, by decide +kernel, by decide +kernel⟩
abbrev s_law_cell_at : Stmt := top 34
abbrev N_law_cell_at : List Str := ["_law_script", "_law_index"]
theorem sc_law_cell_at : FnScope N_law_cell_at ["_law_script", "_law_index"] (defScope s_law_cell_at) := ⟨rfl, rfl, rfl, by decide +kernel, rfl, by decide +kernel, by decide +kernel⟩
abbrev s_law_machine : Stmt := top 35
abbrev N_law_machine : List Str := ["_law_source", "_law_bits"]
theorem sc_law_machine : FnScope N_law_machine ["_law_source"] (defScope s_law_machine) := ⟨rfl, rfl, rfl, by decide +kernel, rfl, by decide +kernel, by decide +kernel⟩
abbrev s_law_digits : Stmt := top 36
abbrev N_law_digits : List Str := ["_law_source", "_law_base", "_law_most", "_law_found", "_law_k", "_law_drawn"]
theorem sc_law_digits : FnScope N_law_digits ["_law_source", "_law_base", "_law_most"] (defScope s_law_digits) := ⟨rfl, rfl, rfl, by decide +kernel, rfl, by decide +kernel, by decide +kernel⟩
abbrev s_law_value : Stmt := top 37
abbrev N_law_value : List Str := ["_law_digits_here", "_law_base", "_law_found", "_law_digit"]
theorem sc_law_value : FnScope N_law_value ["_law_digits_here", "_law_base"] (defScope s_law_value) := ⟨rfl, rfl, rfl, by decide +kernel, rfl, by decide +kernel, by decide +kernel⟩
abbrev s_law_number : Stmt := top 38
abbrev N_law_number : List Str := ["_law_source", "_law_base", "_law_most", "_law_found"]
theorem sc_law_number : FnScope N_law_number ["_law_source", "_law_base", "_law_most"] (defScope s_law_number) := ⟨rfl, rfl, rfl, by decide +kernel, rfl, by decide +kernel, by decide +kernel⟩
abbrev s_law_split : Stmt := top 39
abbrev N_law_split : List Str := ["_law_n_here", "_law_base", "_law_found"]
theorem sc_law_split : FnScope N_law_split ["_law_n_here", "_law_base"] (defScope s_law_split) := ⟨rfl, rfl, rfl, by decide +kernel, rfl, by decide +kernel, by decide +kernel⟩
abbrev s_law_right : Stmt := top 40
abbrev N_law_right : List Str := ["_law_source", "_law_machine_here", "_law_n_here", "_law_base", "_law_x_here", "_law_due", "_law_sign_here", "_law_heard"]
theorem sc_law_right : FnScope N_law_right ["_law_source", "_law_machine_here", "_law_n_here"] (defScope s_law_right) := ⟨rfl, rfl, rfl, by decide +kernel, rfl, by decide +kernel, by decide +kernel⟩
abbrev s_law_normal_right : Stmt := top 41
abbrev N_law_normal_right : List Str := ["_law_source", "_law_machine_here", "_law_x_here", "_law_n_here", "_law_due", "_law_sign_here", "_law_count_of", "_law_row", "_law_kept", "_law_place", "_law_wide", "_law_near_here", "_law_other"]
theorem sc_law_normal_right : FnScope N_law_normal_right ["_law_source", "_law_machine_here", "_law_x_here", "_law_n_here"] (defScope s_law_normal_right) := ⟨rfl, rfl, rfl, by decide +kernel, rfl, by decide +kernel, by decide +kernel⟩
abbrev s_law : Stmt := top 42
abbrev N_law : List Str := ["_law_script", "_law_cell", "_law_source", "_law_machine_here", "_law_base", "_law_some", "_law_k", "_law_n_here", "_law_word", "_law_number_here", "_law_wide"]
theorem sc_law : FnScope N_law ["_law_script"] (defScope s_law) := ⟨rfl, rfl, rfl, by decide +kernel, rfl, by decide +kernel, by decide +kernel⟩
/-- where all stands -/
structure Ad where
  c : Pc
  f_is_integer : Addr
  fd_is_integer : FuncData
  f_is_between : Addr
  fd_is_between : FuncData
  f_check_integer : Addr
  fd_check_integer : FuncData
  f_Machine_init : Addr
  fd_Machine_init : FuncData
  f_Machine_parts : Addr
  fd_Machine_parts : FuncData
  f_Machine_tally : Addr
  fd_Machine_tally : FuncData
  f_Machine_walk : Addr
  fd_Machine_walk : FuncData
  f_check_machine : Addr
  fd_check_machine : FuncData
  f_Big_init : Addr
  fd_Big_init : FuncData
  f_Big_eq : Addr
  fd_Big_eq : FuncData
  f_Big_sign : Addr
  fd_Big_sign : FuncData
  f_Big_digits : Addr
  fd_Big_digits : FuncData
  f_Big_bits : Addr
  fd_Big_bits : FuncData
  f_made : Addr
  fd_made : FuncData
  f_digits_of : Addr
  fd_digits_of : FuncData
  f_big_of : Addr
  fd_big_of : FuncData
  f_value_of : Addr
  fd_value_of : FuncData
  f_check_any : Addr
  fd_check_any : FuncData
  f_is_digits : Addr
  fd_is_digits : FuncData
  f_big : Addr
  fd_big : FuncData
  f_plain : Addr
  fd_plain : FuncData
  f_normal : Addr
  fd_normal : FuncData
  f_negative : Addr
  fd_negative : FuncData
  f_absolute : Addr
  fd_absolute : FuncData
  f_law_source_of : Addr
  fd_law_source_of : FuncData
  f_law_next : Addr
  fd_law_next : FuncData
  f_law_one : Addr
  fd_law_one : FuncData
  f_law_cell_at : Addr
  fd_law_cell_at : FuncData
  f_law_machine : Addr
  fd_law_machine : FuncData
  f_law_digits : Addr
  fd_law_digits : FuncData
  f_law_value : Addr
  fd_law_value : FuncData
  f_law_number : Addr
  fd_law_number : FuncData
  f_law_split : Addr
  fd_law_split : FuncData
  f_law_right : Addr
  fd_law_right : FuncData
  f_law_normal_right : Addr
  fd_law_normal_right : FuncData
  f_law : Addr
  fd_law : FuncData
  ds_Machine_init_0 : List Value
  ds_Machine_init_1 : List Value
/-- what the top has left -/
structure Txt (K : PySem.W.Frag) (mg : Str → Option Value) (a : Ad) : Prop where
  PM : Eng.PM K a.c
  PB : Eng.PB K a.c
  NBig : Eng.NoSub K a.c.CBig
  g_Machine : mg "Machine" = some (.ref a.c.CMachine)
  cl_Machine : Cls K a.c.CMachine
  mk_Machine : Mk K a.c.CMachine a.f_Machine_init
  g_Big : mg "Big" = some (.ref a.c.CBig)
  cl_Big : Cls K a.c.CBig
  mk_Big : Mk K a.c.CBig a.f_Big_init
  eq_Big : PySem.W.findIn K (.ref a.c.CBig) "__eq__" = some (some (.ref a.f_Big_eq))
  ie_Big : PySem.W.isFn K (.ref a.f_Big_eq) = true
  ne_Big : NeTxt K a.c.CBig a.f_Big_eq
  g_LEAST_BITS : ∃ u, mg "LEAST_BITS" = some u ∧ RelV (.int 8) u
  g_MOST_BITS : ∃ u, mg "MOST_BITS" = some u ∧ RelV (.int 30) u
  g_MOST_CUTOFF : ∃ u, mg "MOST_CUTOFF" = some u ∧ RelV (.int 1000) u
  g_WORDS : mg "WORDS" = some (.ref a.c.aWORDS)
  F_is_integer : Fun K "is_integer" "is_integer" s_is_integer a.f_is_integer a.fd_is_integer
  m_is_integer : mg "is_integer" = some (.ref a.f_is_integer)
  b_is_integer : Binds K a.fd_is_integer ["value"] []
  F_is_between : Fun K "is_between" "is_between" s_is_between a.f_is_between a.fd_is_between
  m_is_between : mg "is_between" = some (.ref a.f_is_between)
  b_is_between : Binds K a.fd_is_between ["value", "low", "high"] []
  F_check_integer : Fun K "check_integer" "check_integer" s_check_integer a.f_check_integer a.fd_check_integer
  m_check_integer : mg "check_integer" = some (.ref a.f_check_integer)
  b_check_integer : Binds K a.fd_check_integer ["argument", "value"] []
  F_Machine_init : FunD K "__init__" "Machine.__init__" (defArgs s_Machine_init) (defBody s_Machine_init) (defScope s_Machine_init) [(.int 30), (.int 70)] [] a.f_Machine_init a.fd_Machine_init
  b_Machine_init : Binds K a.fd_Machine_init ["self", "bits", "cutoff"] []
  F_Machine_parts : Fun K "parts" "Machine.parts" s_Machine_parts a.f_Machine_parts a.fd_Machine_parts
  me_Machine_parts : Meth K a.c.CMachine "parts" a.f_Machine_parts
  b_Machine_parts : Binds K a.fd_Machine_parts ["self"] []
  F_Machine_tally : Fun K "tally" "Machine.tally" s_Machine_tally a.f_Machine_tally a.fd_Machine_tally
  me_Machine_tally : Meth K a.c.CMachine "tally" a.f_Machine_tally
  b_Machine_tally : Binds K a.fd_Machine_tally ["self"] []
  F_Machine_walk : Fun K "walk" "Machine.walk" s_Machine_walk a.f_Machine_walk a.fd_Machine_walk
  me_Machine_walk : Meth K a.c.CMachine "walk" a.f_Machine_walk
  b_Machine_walk : Binds K a.fd_Machine_walk ["self"] []
  F_check_machine : Fun K "check_machine" "check_machine" s_check_machine a.f_check_machine a.fd_check_machine
  m_check_machine : mg "check_machine" = some (.ref a.f_check_machine)
  b_check_machine : Binds K a.fd_check_machine ["value"] []
  F_Big_init : Fun K "__init__" "Big.__init__" s_Big_init a.f_Big_init a.fd_Big_init
  b_Big_init : Binds K a.fd_Big_init ["self", "width", "side", "row"] []
  F_Big_eq : Fun K "__eq__" "Big.__eq__" s_Big_eq a.f_Big_eq a.fd_Big_eq
  me_Big_eq : Meth K a.c.CBig "__eq__" a.f_Big_eq
  b_Big_eq : Binds K a.fd_Big_eq ["self", "other"] []
  F_Big_sign : Fun K "sign" "Big.sign" s_Big_sign a.f_Big_sign a.fd_Big_sign
  me_Big_sign : Meth K a.c.CBig "sign" a.f_Big_sign
  b_Big_sign : Binds K a.fd_Big_sign ["self"] []
  F_Big_digits : Fun K "digits" "Big.digits" s_Big_digits a.f_Big_digits a.fd_Big_digits
  me_Big_digits : Meth K a.c.CBig "digits" a.f_Big_digits
  b_Big_digits : Binds K a.fd_Big_digits ["self"] []
  F_Big_bits : Fun K "bits" "Big.bits" s_Big_bits a.f_Big_bits a.fd_Big_bits
  me_Big_bits : Meth K a.c.CBig "bits" a.f_Big_bits
  b_Big_bits : Binds K a.fd_Big_bits ["self"] []
  F_made : Fun K "made" "made" s_made a.f_made a.fd_made
  m_made : mg "made" = some (.ref a.f_made)
  b_made : Binds K a.fd_made ["machine", "side", "digits"] []
  F_digits_of : Fun K "digits_of" "digits_of" s_digits_of a.f_digits_of a.fd_digits_of
  m_digits_of : mg "digits_of" = some (.ref a.f_digits_of)
  b_digits_of : Binds K a.fd_digits_of ["machine", "n"] []
  F_big_of : Fun K "big_of" "big_of" s_big_of a.f_big_of a.fd_big_of
  m_big_of : mg "big_of" = some (.ref a.f_big_of)
  b_big_of : Binds K a.fd_big_of ["machine", "n"] []
  F_value_of : Fun K "value_of" "value_of" s_value_of a.f_value_of a.fd_value_of
  m_value_of : mg "value_of" = some (.ref a.f_value_of)
  b_value_of : Binds K a.fd_value_of ["x"] []
  F_check_any : Fun K "check_any" "check_any" s_check_any a.f_check_any a.fd_check_any
  m_check_any : mg "check_any" = some (.ref a.f_check_any)
  b_check_any : Binds K a.fd_check_any ["value"] []
  F_is_digits : Fun K "is_digits" "is_digits" s_is_digits a.f_is_digits a.fd_is_digits
  m_is_digits : mg "is_digits" = some (.ref a.f_is_digits)
  b_is_digits : Binds K a.fd_is_digits ["machine", "value"] []
  F_big : Fun K "big" "big" s_big a.f_big a.fd_big
  m_big : mg "big" = some (.ref a.f_big)
  b_big : Binds K a.fd_big ["machine", "n"] []
  F_plain : Fun K "plain" "plain" s_plain a.f_plain a.fd_plain
  m_plain : mg "plain" = some (.ref a.f_plain)
  b_plain : Binds K a.fd_plain ["x"] []
  F_normal : Fun K "normal" "normal" s_normal a.f_normal a.fd_normal
  m_normal : mg "normal" = some (.ref a.f_normal)
  b_normal : Binds K a.fd_normal ["machine", "sign", "digits"] []
  F_negative : Fun K "negative" "negative" s_negative a.f_negative a.fd_negative
  m_negative : mg "negative" = some (.ref a.f_negative)
  b_negative : Binds K a.fd_negative ["x"] []
  F_absolute : Fun K "absolute" "absolute" s_absolute a.f_absolute a.fd_absolute
  m_absolute : mg "absolute" = some (.ref a.f_absolute)
  b_absolute : Binds K a.fd_absolute ["x"] []
  F_law_source_of : Fun K "_law_source_of" "_law_source_of" s_law_source_of a.f_law_source_of a.fd_law_source_of
  m_law_source_of : mg "_law_source_of" = some (.ref a.f_law_source_of)
  b_law_source_of : Binds K a.fd_law_source_of ["_law_cell"] []
  F_law_next : Fun K "_law_next" "_law_next" s_law_next a.f_law_next a.fd_law_next
  m_law_next : mg "_law_next" = some (.ref a.f_law_next)
  b_law_next : Binds K a.fd_law_next ["_law_source", "_law_count_of"] []
  F_law_one : Fun K "_law_one" "_law_one" s_law_one a.f_law_one a.fd_law_one
  m_law_one : mg "_law_one" = some (.ref a.f_law_one)
  b_law_one : Binds K a.fd_law_one ["_law_source", "_law_some"] []
  F_law_cell_at : Fun K "_law_cell_at" "_law_cell_at" s_law_cell_at a.f_law_cell_at a.fd_law_cell_at
  m_law_cell_at : mg "_law_cell_at" = some (.ref a.f_law_cell_at)
  b_law_cell_at : Binds K a.fd_law_cell_at ["_law_script", "_law_index"] []
  F_law_machine : Fun K "_law_machine" "_law_machine" s_law_machine a.f_law_machine a.fd_law_machine
  m_law_machine : mg "_law_machine" = some (.ref a.f_law_machine)
  b_law_machine : Binds K a.fd_law_machine ["_law_source"] []
  F_law_digits : Fun K "_law_digits" "_law_digits" s_law_digits a.f_law_digits a.fd_law_digits
  m_law_digits : mg "_law_digits" = some (.ref a.f_law_digits)
  b_law_digits : Binds K a.fd_law_digits ["_law_source", "_law_base", "_law_most"] []
  F_law_value : Fun K "_law_value" "_law_value" s_law_value a.f_law_value a.fd_law_value
  m_law_value : mg "_law_value" = some (.ref a.f_law_value)
  b_law_value : Binds K a.fd_law_value ["_law_digits_here", "_law_base"] []
  F_law_number : Fun K "_law_number" "_law_number" s_law_number a.f_law_number a.fd_law_number
  m_law_number : mg "_law_number" = some (.ref a.f_law_number)
  b_law_number : Binds K a.fd_law_number ["_law_source", "_law_base", "_law_most"] []
  F_law_split : Fun K "_law_split" "_law_split" s_law_split a.f_law_split a.fd_law_split
  m_law_split : mg "_law_split" = some (.ref a.f_law_split)
  b_law_split : Binds K a.fd_law_split ["_law_n_here", "_law_base"] []
  F_law_right : Fun K "_law_right" "_law_right" s_law_right a.f_law_right a.fd_law_right
  m_law_right : mg "_law_right" = some (.ref a.f_law_right)
  b_law_right : Binds K a.fd_law_right ["_law_source", "_law_machine_here", "_law_n_here"] []
  F_law_normal_right : Fun K "_law_normal_right" "_law_normal_right" s_law_normal_right a.f_law_normal_right a.fd_law_normal_right
  m_law_normal_right : mg "_law_normal_right" = some (.ref a.f_law_normal_right)
  b_law_normal_right : Binds K a.fd_law_normal_right ["_law_source", "_law_machine_here", "_law_x_here", "_law_n_here"] []
  F_law : Fun K "law" "law" s_law a.f_law a.fd_law
  m_law : mg "law" = some (.ref a.f_law)
  b_law : Binds K a.fd_law ["_law_script"] []
  bd_Machine_init_0 : Vals [(.int 30), (.int 70)] a.ds_Machine_init_0 ∧ Binds K a.fd_Machine_init ["self", "bits", "cutoff"] a.ds_Machine_init_0
  bd_Machine_init_1 : Vals [(.int 70)] a.ds_Machine_init_1 ∧ Binds K a.fd_Machine_init ["self", "bits", "cutoff"] a.ds_Machine_init_1
  kb_absolute_x : KB0 K a.fd_absolute ["x"] ["x"] (permV [0]) (perm [0])
  kb_big_n_machine : KB0 K a.fd_big ["machine", "n"] ["n", "machine"] (permV [1, 0]) (perm [1, 0])
  kb_negative_x : KB0 K a.fd_negative ["x"] ["x"] (permV [0]) (perm [0])
  kb_normal_digits_sign_machine : KB0 K a.fd_normal ["machine", "sign", "digits"] ["digits", "sign", "machine"] (permV [2, 1, 0]) (perm [2, 1, 0])
  kb_plain_x : KB0 K a.fd_plain ["x"] ["x"] (permV [0]) (perm [0])
  n_abs : mg "abs" = none
  n_all : mg "all" = none
  n_any : mg "any" = none
  n_bool : mg "bool" = none
  n_dict : mg "dict" = none
  n_int : mg "int" = none
  n_isinstance : mg "isinstance" = none
  n_len : mg "len" = none
  n_list : mg "list" = none
  n_range : mg "range" = none
  n_tuple : mg "tuple" = none
section
variable {P : Program} {w : World} {K : PySem.W.Frag} {mg : Str → Option Value} {base : Heap} {a : Ad}
theorem dv_is_integer {cdv : Value} {A : Around} {outer : List Env} {s : Shared} {H : Hp} {E : XK} (T : Txt K mg a) (hr : Room 0 (A.deeper (envOfC "is_integer" (defScope s_is_integer) s.heap.objs.size a.f_is_integer cdv))) :
    PSs (cxOf CX0 P w K mg base N_is_integer "is_integer" (defScope s_is_integer) a.f_is_integer cdv A outer s H E).nox (defBody s_is_integer) (t_is_integer K a.c) := by
  unfold t_is_integer
  exact (pss_one (ps_ret (pe_and (pe_callB call_isi (by rfl) T.n_isinstance (by decide +kernel) (pa_cons (pv 0) (pa_cons (pe_bltn (v := .ty "int") (by rfl) T.n_int (by decide +kernel) rfl) pa_nil))) (pe_one (pe_not (pe_callB call_isi (by rfl) T.n_isinstance (by decide +kernel) (pa_cons (pv 0) (pa_cons (pe_bltn (v := .ty "bool") (by rfl) T.n_bool (by decide +kernel) rfl) pa_nil))))))))
theorem ok_is_integer (T : Txt K mg a) : FnOk P w K mg base CX0 1 a.f_is_integer a.fd_is_integer ["value"] (sp_is_integer K a.c) := by
  refine T.F_is_integer.ok sc_is_integer (fun vs H Q E h => ?_) (fun cdv A outer s H vs Q E hr h => ⟨_, dv_is_integer T hr, b_is_integer h⟩)
  (repeat (obtain ⟨_, h⟩ := h)); all_goals (subst_vars; rfl)
theorem dv_Machine_parts {cdv : Value} {A : Around} {outer : List Env} {s : Shared} {H : Hp} {E : XK} (T : Txt K mg a) (hr : Room 0 (A.deeper (envOfC "Machine.parts" (defScope s_Machine_parts) s.heap.objs.size a.f_Machine_parts cdv))) :
    PSs (cxOf CX0 P w K mg base N_Machine_parts "Machine.parts" (defScope s_Machine_parts) a.f_Machine_parts cdv A outer s H E).nox (defBody s_Machine_parts) (t_Machine_parts K a.c) := by
  unfold t_Machine_parts
  exact (pss_one (ps_ret (pe_tup (pa_cons (pe_fld (pv 0) rfl) (pa_cons (pe_fld (pv 0) rfl) pa_nil)))))
theorem ok_Machine_parts (T : Txt K mg a) : FnOk P w K mg base CX0 1 a.f_Machine_parts a.fd_Machine_parts ["self"] (sp_Machine_parts K a.c) := by
  refine T.F_Machine_parts.ok sc_Machine_parts (fun vs H Q E h => ?_) (fun cdv A outer s H vs Q E hr h => ⟨_, dv_Machine_parts T hr, b_Machine_parts T.PM h⟩)
  (repeat (obtain ⟨_, h⟩ := h)); all_goals (subst_vars; rfl)
theorem dv_Machine_tally {cdv : Value} {A : Around} {outer : List Env} {s : Shared} {H : Hp} {E : XK} (T : Txt K mg a) (hr : Room 0 (A.deeper (envOfC "Machine.tally" (defScope s_Machine_tally) s.heap.objs.size a.f_Machine_tally cdv))) :
    PSs (cxOf CX0 P w K mg base N_Machine_tally "Machine.tally" (defScope s_Machine_tally) a.f_Machine_tally cdv A outer s H E).nox (defBody s_Machine_tally) (t_Machine_tally K a.c) := by
  unfold t_Machine_tally
  exact (pss_one (ps_ret (pe_lc (own := [("word", 1)]) (g := (gName 1)) rfl sc_Machine_tally.nd (pi_tup (pe_glob rfl T.g_WORDS rfl)) (blkOk_by (own := [("word", 1)]) (N := N_Machine_tally) (sc := defScope s_Machine_tally) (by decide +kernel)) (fun _ _ _ _ _ => (pg_name (i := 1) sc_Machine_tally.nd rfl (by first | exact Or.inl rfl | exact Or.inr rfl))) (fun _ _ _ _ _ => pts_nil) (fun _ _ _ _ _ => (pe_tup (pa_cons (pv 1) (pa_cons (pe_dget (hu_of hr) (pe_fld (pv 0) rfl) (pv 1) (fun _ _ => rfl)) pa_nil)))))))
theorem ok_Machine_tally (T : Txt K mg a) : FnOk P w K mg base CX0 1 a.f_Machine_tally a.fd_Machine_tally ["self"] (sp_Machine_tally K a.c) := by
  refine T.F_Machine_tally.ok sc_Machine_tally (fun vs H Q E h => ?_) (fun cdv A outer s H vs Q E hr h => ⟨_, dv_Machine_tally T hr, b_Machine_tally T.PM h⟩)
  (repeat (obtain ⟨_, h⟩ := h)); all_goals (subst_vars; rfl)
theorem dv_Machine_walk {cdv : Value} {A : Around} {outer : List Env} {s : Shared} {H : Hp} {E : XK} (T : Txt K mg a) (hr : Room 0 (A.deeper (envOfC "Machine.walk" (defScope s_Machine_walk) s.heap.objs.size a.f_Machine_walk cdv))) :
    PSs (cxOf CX0 P w K mg base N_Machine_walk "Machine.walk" (defScope s_Machine_walk) a.f_Machine_walk cdv A outer s H E).nox (defBody s_Machine_walk) (t_Machine_walk K a.c) := by
  unfold t_Machine_walk
  exact (pss_one (ps_ret (pe_callTy c_list (by rfl) T.n_list (by decide +kernel) (pa_cons (pe_fld (pv 0) rfl) pa_nil))))
theorem ok_Machine_walk (T : Txt K mg a) : FnOk P w K mg base CX0 1 a.f_Machine_walk a.fd_Machine_walk ["self"] (sp_Machine_walk K a.c) := by
  refine T.F_Machine_walk.ok sc_Machine_walk (fun vs H Q E h => ?_) (fun cdv A outer s H vs Q E hr h => ⟨_, dv_Machine_walk T hr, b_Machine_walk T.PM h⟩)
  (repeat (obtain ⟨_, h⟩ := h)); all_goals (subst_vars; rfl)
theorem dv_check_machine {cdv : Value} {A : Around} {outer : List Env} {s : Shared} {H : Hp} {E : XK} (T : Txt K mg a) (hr : Room 0 (A.deeper (envOfC "check_machine" (defScope s_check_machine) s.heap.objs.size a.f_check_machine cdv))) :
    PSs (cxOf CX0 P w K mg base N_check_machine "check_machine" (defScope s_check_machine) a.f_check_machine cdv A outer s H E).nox (defBody s_check_machine) (t_check_machine K a.c) := by
  unfold t_check_machine
  exact (pss_one (ps_if (pt_not (pt_val (pe_callB call_isi (by rfl) T.n_isinstance (by decide +kernel) (pa_cons (pv 0) (pa_cons (pe_glob rfl T.g_Machine rfl) pa_nil))))) (pss_one ps_never) pss_nil))
theorem ok_check_machine (T : Txt K mg a) : FnOk P w K mg base CX0 1 a.f_check_machine a.fd_check_machine ["value"] (sp_check_machine K a.c) := by
  refine T.F_check_machine.ok sc_check_machine (fun vs H Q E h => ?_) (fun cdv A outer s H vs Q E hr h => ⟨_, dv_check_machine T hr, b_check_machine T.PM h⟩)
  (repeat (obtain ⟨_, h⟩ := h)); all_goals (subst_vars; rfl)
theorem dv_Big_init {cdv : Value} {A : Around} {outer : List Env} {s : Shared} {H : Hp} {E : XK} (T : Txt K mg a) (hr : Room 0 (A.deeper (envOfC "Big.__init__" (defScope s_Big_init) s.heap.objs.size a.f_Big_init cdv))) :
    PSs (cxOf CX0 P w K mg base N_Big_init "Big.__init__" (defScope s_Big_init) a.f_Big_init cdv A outer s H E).nox (defBody s_Big_init) (t_Big_init K a.c) := by
  unfold t_Big_init
  exact (pss_cons (ps_fld (pv 0) (pv 1) rfl)
      (pss_cons (ps_fld (pv 0) (pv 2) rfl)
      (pss_one (ps_fld (pv 0) (pv 3) rfl))))
theorem ok_Big_init (T : Txt K mg a) : FnOk P w K mg base CX0 1 a.f_Big_init a.fd_Big_init ["self", "width", "side", "row"] (sp_Big_init K a.c) := by
  refine T.F_Big_init.ok sc_Big_init (fun vs H Q E h => ?_) (fun cdv A outer s H vs Q E hr h => ⟨_, dv_Big_init T hr, b_Big_init T.PB h⟩)
  (repeat (obtain ⟨_, h⟩ := h)); all_goals (subst_vars; rfl)
theorem dv_Big_eq {cdv : Value} {A : Around} {outer : List Env} {s : Shared} {H : Hp} {E : XK} (T : Txt K mg a) (hr : Room 0 (A.deeper (envOfC "Big.__eq__" (defScope s_Big_eq) s.heap.objs.size a.f_Big_eq cdv))) :
    PSs (cxOf CX0 P w K mg base N_Big_eq "Big.__eq__" (defScope s_Big_eq) a.f_Big_eq cdv A outer s H E).nox (defBody s_Big_eq) (t_Big_eq K a.c) := by
  unfold t_Big_eq
  exact (pss_one (ps_ret (pe_and (pe_callB call_isi (by rfl) T.n_isinstance (by decide +kernel) (pa_cons (pv 1) (pa_cons (pe_glob rfl T.g_Big rfl) pa_nil))) (pe_one (pe_cmpR (op_eqD hr.units) (pe_tup (pa_cons (pe_fld (pv 0) rfl) (pa_cons (pe_fld (pv 0) rfl) (pa_cons (pe_fld (pv 0) rfl) pa_nil)))) (pe_tup (pa_cons (pe_fld (pv 1) rfl) (pa_cons (pe_fld (pv 1) rfl) (pa_cons (pe_fld (pv 1) rfl) pa_nil)))) (nomark _))))))
theorem ok_Big_eq (T : Txt K mg a) : FnOk P w K mg base CX0 1 a.f_Big_eq a.fd_Big_eq ["self", "other"] (sp_Big_eq K a.c) := by
  refine T.F_Big_eq.ok sc_Big_eq (fun vs H Q E h => ?_) (fun cdv A outer s H vs Q E hr h => ⟨_, dv_Big_eq T hr, b_Big_eq T.PB h⟩)
  (repeat (obtain ⟨_, h⟩ := h)); all_goals (subst_vars; rfl)
theorem dv_Big_sign {cdv : Value} {A : Around} {outer : List Env} {s : Shared} {H : Hp} {E : XK} (T : Txt K mg a) (hr : Room 0 (A.deeper (envOfC "Big.sign" (defScope s_Big_sign) s.heap.objs.size a.f_Big_sign cdv))) :
    PSs (cxOf CX0 P w K mg base N_Big_sign "Big.sign" (defScope s_Big_sign) a.f_Big_sign cdv A outer s H E).nox (defBody s_Big_sign) (t_Big_sign K a.c) := by
  unfold t_Big_sign
  exact (pss_one (ps_ret (pe_fld (pv 0) rfl)))
theorem ok_Big_sign (T : Txt K mg a) : FnOk P w K mg base CX0 1 a.f_Big_sign a.fd_Big_sign ["self"] (sp_Big_sign K a.c) := by
  refine T.F_Big_sign.ok sc_Big_sign (fun vs H Q E h => ?_) (fun cdv A outer s H vs Q E hr h => ⟨_, dv_Big_sign T hr, b_Big_sign T.PB h⟩)
  (repeat (obtain ⟨_, h⟩ := h)); all_goals (subst_vars; rfl)
theorem dv_Big_digits {cdv : Value} {A : Around} {outer : List Env} {s : Shared} {H : Hp} {E : XK} (T : Txt K mg a) (hr : Room 0 (A.deeper (envOfC "Big.digits" (defScope s_Big_digits) s.heap.objs.size a.f_Big_digits cdv))) :
    PSs (cxOf CX0 P w K mg base N_Big_digits "Big.digits" (defScope s_Big_digits) a.f_Big_digits cdv A outer s H E).nox (defBody s_Big_digits) (t_Big_digits K a.c) := by
  unfold t_Big_digits
  exact (pss_one (ps_ret (pe_callTy c_list (by rfl) T.n_list (by decide +kernel) (pa_cons (pe_fld (pv 0) rfl) pa_nil))))
theorem ok_Big_digits (T : Txt K mg a) : FnOk P w K mg base CX0 1 a.f_Big_digits a.fd_Big_digits ["self"] (sp_Big_digits K a.c) := by
  refine T.F_Big_digits.ok sc_Big_digits (fun vs H Q E h => ?_) (fun cdv A outer s H vs Q E hr h => ⟨_, dv_Big_digits T hr, b_Big_digits T.PB h⟩)
  (repeat (obtain ⟨_, h⟩ := h)); all_goals (subst_vars; rfl)
theorem dv_Big_bits {cdv : Value} {A : Around} {outer : List Env} {s : Shared} {H : Hp} {E : XK} (T : Txt K mg a) (hr : Room 0 (A.deeper (envOfC "Big.bits" (defScope s_Big_bits) s.heap.objs.size a.f_Big_bits cdv))) :
    PSs (cxOf CX0 P w K mg base N_Big_bits "Big.bits" (defScope s_Big_bits) a.f_Big_bits cdv A outer s H E).nox (defBody s_Big_bits) (t_Big_bits K a.c) := by
  unfold t_Big_bits
  exact (pss_one (ps_ret (pe_fld (pv 0) rfl)))
theorem ok_Big_bits (T : Txt K mg a) : FnOk P w K mg base CX0 1 a.f_Big_bits a.fd_Big_bits ["self"] (sp_Big_bits K a.c) := by
  refine T.F_Big_bits.ok sc_Big_bits (fun vs H Q E h => ?_) (fun cdv A outer s H vs Q E hr h => ⟨_, dv_Big_bits T hr, b_Big_bits T.PB h⟩)
  (repeat (obtain ⟨_, h⟩ := h)); all_goals (subst_vars; rfl)
theorem dv_digits_of {cdv : Value} {A : Around} {outer : List Env} {s : Shared} {H : Hp} {E : XK} (T : Txt K mg a) (hr : Room 0 (A.deeper (envOfC "digits_of" (defScope s_digits_of) s.heap.objs.size a.f_digits_of cdv))) :
    PSs (cxOf CX0 P w K mg base N_digits_of "digits_of" (defScope s_digits_of) a.f_digits_of cdv A outer s H E).nox (defBody s_digits_of) (t_digits_of K a.c) := by
  unfold t_digits_of
  exact (pss_cons (ps_set (i := 2) sc_digits_of.nd rfl (by first | exact Or.inl rfl | exact Or.inr rfl) (pe_lst pa_nil))
      (pss_cons (ps_while PassesOwn.never (pt_cmpR o_gt (pv 1) pe_int (nomark _)) (pss_cons (ps_expr (pe_bm PySem.F.plainAttrs_list PySem.F.slot_list_append PySem.F.type_list_append mt_append (pv 2) (pa_cons (pe_op o_mod (pv 1) (pe_fld (pv 0) rfl)) pa_nil)))
      (pss_one (ps_set (i := 1) sc_digits_of.nd rfl (by first | exact Or.inl rfl | exact Or.inr rfl) (pe_op o_shr (pv 1) (pe_fld (pv 0) rfl))))))
      (pss_one (ps_ret (pv 2)))))
theorem ok_digits_of (T : Txt K mg a) : FnOk P w K mg base CX0 1 a.f_digits_of a.fd_digits_of ["machine", "n"] (sp_digits_of K a.c) := by
  refine T.F_digits_of.ok sc_digits_of (fun vs H Q E h => ?_) (fun cdv A outer s H vs Q E hr h => ⟨_, dv_digits_of T hr, b_digits_of T.PM h⟩)
  (repeat (obtain ⟨_, h⟩ := h)); all_goals (subst_vars; rfl)
theorem dv_value_of {cdv : Value} {A : Around} {outer : List Env} {s : Shared} {H : Hp} {E : XK} (T : Txt K mg a) (hr : Room 0 (A.deeper (envOfC "value_of" (defScope s_value_of) s.heap.objs.size a.f_value_of cdv))) :
    PSs (cxOf CX0 P w K mg base N_value_of "value_of" (defScope s_value_of) a.f_value_of cdv A outer s H E).nox (defBody s_value_of) (t_value_of K a.c) := by
  unfold t_value_of
  exact (pss_cons (ps_set (i := 1) sc_value_of.nd rfl (by first | exact Or.inl rfl | exact Or.inr rfl) pe_int)
      (pss_cons (ps_for PassesOwn.never rfl (pi_tup (pe_revT (pe_fld (pv 0) rfl))) (pg_name (i := 2) sc_value_of.nd rfl (by first | exact Or.inl rfl | exact Or.inr rfl)) (pss_one (ps_set (i := 1) sc_value_of.nd rfl (by first | exact Or.inl rfl | exact Or.inr rfl) (pe_op o_or (pe_op o_shl (pv 1) (pe_fld (pv 0) rfl)) (pv 2)))))
      (pss_one (ps_ret (pe_op o_mul (pe_fld (pv 0) rfl) (pv 1))))))
theorem ok_value_of (T : Txt K mg a) : FnOk P w K mg base CX0 1 a.f_value_of a.fd_value_of ["x"] (sp_value_of K a.c) := by
  refine T.F_value_of.ok sc_value_of (fun vs H Q E h => ?_) (fun cdv A outer s H vs Q E hr h => ⟨_, dv_value_of T hr, b_value_of T.PB h⟩)
  (repeat (obtain ⟨_, h⟩ := h)); all_goals (subst_vars; rfl)
theorem dv_check_any {cdv : Value} {A : Around} {outer : List Env} {s : Shared} {H : Hp} {E : XK} (T : Txt K mg a) (hr : Room 0 (A.deeper (envOfC "check_any" (defScope s_check_any) s.heap.objs.size a.f_check_any cdv))) :
    PSs (cxOf CX0 P w K mg base N_check_any "check_any" (defScope s_check_any) a.f_check_any cdv A outer s H E).nox (defBody s_check_any) (t_check_any K a.c) := by
  unfold t_check_any
  exact (pss_one (ps_if (pt_not (pt_val (pe_callB call_isi (by rfl) T.n_isinstance (by decide +kernel) (pa_cons (pv 0) (pa_cons (pe_glob rfl T.g_Big rfl) pa_nil))))) (pss_one ps_never) pss_nil))
theorem ok_check_any (T : Txt K mg a) : FnOk P w K mg base CX0 1 a.f_check_any a.fd_check_any ["value"] (sp_check_any K a.c) := by
  refine T.F_check_any.ok sc_check_any (fun vs H Q E h => ?_) (fun cdv A outer s H vs Q E hr h => ⟨_, dv_check_any T hr, b_check_any T.PB h⟩)
  (repeat (obtain ⟨_, h⟩ := h)); all_goals (subst_vars; rfl)
theorem dv_law_source_of {cdv : Value} {A : Around} {outer : List Env} {s : Shared} {H : Hp} {E : XK} (T : Txt K mg a) (hr : Room 0 (A.deeper (envOfC "_law_source_of" (defScope s_law_source_of) s.heap.objs.size a.f_law_source_of cdv))) :
    PSs (cxOf CX0 P w K mg base N_law_source_of "_law_source_of" (defScope s_law_source_of) a.f_law_source_of cdv A outer s H E).nox (defBody s_law_source_of) (t_law_source_of K a.c) := by
  unfold t_law_source_of
  exact (pss_cons (ps_set (i := 0) sc_law_source_of.nd rfl (by first | exact Or.inl rfl | exact Or.inr rfl) (pe_ifExp (pt_cmpR o_ge (pv 0) pe_int (nomark _)) (pv 0) (pe_op o_sub (pe_op o_sub pe_int (pe_op o_mul pe_int (pv 0))) pe_int)))
      (pss_one (ps_ret (pe_lst (pa_cons (pe_op o_mul (pv 0) (pe_callTy c_int (by rfl) T.n_int (by decide +kernel) (pa_cons (pe_cmpR o_ge (pv 0) (pe_op o_pow pe_int pe_int) (nomark _)) pa_nil))) (pa_cons (pe_op o_mod (pe_callTy c_int (by rfl) T.n_int (by decide +kernel) (pa_cons (pv 0) pa_nil)) pe_int) (pa_cons pe_int pa_nil)))))))
theorem ok_law_source_of (T : Txt K mg a) : FnOk P w K mg base CX0 1 a.f_law_source_of a.fd_law_source_of ["_law_cell"] (sp_law_source_of K a.c) := by
  refine T.F_law_source_of.ok sc_law_source_of (fun vs H Q E h => ?_) (fun cdv A outer s H vs Q E hr h => ⟨_, dv_law_source_of T hr, b_law_source_of h⟩)
  (repeat (obtain ⟨_, h⟩ := h)); all_goals (subst_vars; rfl)
theorem dv_law_next {cdv : Value} {A : Around} {outer : List Env} {s : Shared} {H : Hp} {E : XK} (T : Txt K mg a) (hr : Room 0 (A.deeper (envOfC "_law_next" (defScope s_law_next) s.heap.objs.size a.f_law_next cdv))) :
    PSs (cxOf CX0 P w K mg base N_law_next "_law_next" (defScope s_law_next) a.f_law_next cdv A outer s H E).nox (defBody s_law_next) (t_law_next K a.c) := by
  unfold t_law_next
  exact (pss_cons (ps_if (pt_cmpR o_gt (pe_ix ix_list (pv 0) pe_int (fun _ _ => rfl)) pe_int (nomark _)) (pss_cons (ps_set (i := 2) sc_law_next.nd rfl (by first | exact Or.inl rfl | exact Or.inr rfl) (pe_op o_mod (pe_callTy c_int (by rfl) T.n_int (by decide +kernel) (pa_cons (pe_ix ix_list (pv 0) pe_int (fun _ _ => rfl)) pa_nil)) (pv 1)))
      (pss_cons (ps_asg (pe_op o_div (pe_ix ix_list (pv 0) pe_int (fun _ _ => rfl)) (pv 1)) (pg_sub (pv 0) pe_int set_list))
      (pss_one (ps_ret (pv 2))))) pss_nil)
      (pss_cons (ps_asg (pe_op o_add (pe_ix ix_list (pv 0) pe_int (fun _ _ => rfl)) pe_int) (pg_sub (pv 0) pe_int set_list))
      (pss_cons (ps_set (i := 3) sc_law_next.nd rfl (by first | exact Or.inl rfl | exact Or.inr rfl) pe_int)
      (pss_cons (ps_set (i := 4) sc_law_next.nd rfl (by first | exact Or.inl rfl | exact Or.inr rfl) (pe_op o_mod (pe_callTy c_int (by rfl) T.n_int (by decide +kernel) (pa_cons (pe_op o_add (pe_op o_add (pe_ix ix_list (pv 0) pe_int (fun _ _ => rfl)) (pe_op o_mul pe_int (pe_ix ix_list (pv 0) pe_int (fun _ _ => rfl)))) pe_int) pa_nil)) (pv 3)))
      (pss_cons (ps_set (i := 4) sc_law_next.nd rfl (by first | exact Or.inl rfl | exact Or.inr rfl) (pe_op o_mod (pe_callTy c_int (by rfl) T.n_int (by decide +kernel) (pa_cons (pe_op o_mul (pv 4) pe_int) pa_nil)) (pv 3)))
      (pss_cons (ps_set (i := 4) sc_law_next.nd rfl (by first | exact Or.inl rfl | exact Or.inr rfl) (pe_op o_mod (pe_callTy c_int (by rfl) T.n_int (by decide +kernel) (pa_cons (pe_op o_mul (pv 4) (pe_op o_add (pe_op o_div (pv 4) pe_int) pe_int)) pa_nil)) (pv 3)))
      (pss_cons (ps_set (i := 4) sc_law_next.nd rfl (by first | exact Or.inl rfl | exact Or.inr rfl) (pe_op o_mod (pe_callTy c_int (by rfl) T.n_int (by decide +kernel) (pa_cons (pe_op o_mul (pv 4) (pe_op o_add (pe_op o_div (pv 4) pe_int) pe_int)) pa_nil)) pe_int))
      (pss_one (ps_ret (pe_op o_mod (pe_callTy c_int (by rfl) T.n_int (by decide +kernel) (pa_cons (pe_op o_div (pv 4) pe_int) pa_nil)) (pv 1)))))))))))
theorem ok_law_next (T : Txt K mg a) : FnOk P w K mg base CX0 1 a.f_law_next a.fd_law_next ["_law_source", "_law_count_of"] (sp_law_next K a.c) := by
  refine T.F_law_next.ok sc_law_next (fun vs H Q E h => ?_) (fun cdv A outer s H vs Q E hr h => ⟨_, dv_law_next T hr, b_law_next h⟩)
  (repeat (obtain ⟨_, h⟩ := h)); all_goals (subst_vars; rfl)
theorem dv_law_cell_at {cdv : Value} {A : Around} {outer : List Env} {s : Shared} {H : Hp} {E : XK} (T : Txt K mg a) (hr : Room 0 (A.deeper (envOfC "_law_cell_at" (defScope s_law_cell_at) s.heap.objs.size a.f_law_cell_at cdv))) :
    PSs (cxOf CX0 P w K mg base N_law_cell_at "_law_cell_at" (defScope s_law_cell_at) a.f_law_cell_at cdv A outer s H E).nox (defBody s_law_cell_at) (t_law_cell_at K a.c) := by
  unfold t_law_cell_at
  exact (pss_one (ps_ret (pe_ix ix_list (pe_op op_cat (pe_slice sl_list (pv 0) (po_some (pv 1)) (po_some (pe_op o_add (pv 1) pe_int))) (pe_lst (pa_cons pe_int pa_nil))) pe_int (fun _ _ => rfl))))
theorem ok_law_cell_at (T : Txt K mg a) : FnOk P w K mg base CX0 1 a.f_law_cell_at a.fd_law_cell_at ["_law_script", "_law_index"] (sp_law_cell_at K a.c) := by
  refine T.F_law_cell_at.ok sc_law_cell_at (fun vs H Q E h => ?_) (fun cdv A outer s H vs Q E hr h => ⟨_, dv_law_cell_at T hr, b_law_cell_at h⟩)
  (repeat (obtain ⟨_, h⟩ := h)); all_goals (subst_vars; rfl)
theorem dv_law_value {cdv : Value} {A : Around} {outer : List Env} {s : Shared} {H : Hp} {E : XK} (T : Txt K mg a) (hr : Room 0 (A.deeper (envOfC "_law_value" (defScope s_law_value) s.heap.objs.size a.f_law_value cdv))) :
    PSs (cxOf CX0 P w K mg base N_law_value "_law_value" (defScope s_law_value) a.f_law_value cdv A outer s H E).nox (defBody s_law_value) (t_law_value K a.c) := by
  unfold t_law_value
  exact (pss_cons (ps_set (i := 2) sc_law_value.nd rfl (by first | exact Or.inl rfl | exact Or.inr rfl) pe_int)
      (pss_cons (ps_for PassesOwn.never rfl (pi_list (pe_revL (pv 0))) (pg_name (i := 3) sc_law_value.nd rfl (by first | exact Or.inl rfl | exact Or.inr rfl)) (pss_one (ps_set (i := 2) sc_law_value.nd rfl (by first | exact Or.inl rfl | exact Or.inr rfl) (pe_op o_add (pe_op o_mul (pv 1) (pv 2)) (pv 3)))))
      (pss_one (ps_ret (pv 2)))))
theorem ok_law_value (T : Txt K mg a) : FnOk P w K mg base CX0 1 a.f_law_value a.fd_law_value ["_law_digits_here", "_law_base"] (sp_law_value K a.c) := by
  refine T.F_law_value.ok sc_law_value (fun vs H Q E h => ?_) (fun cdv A outer s H vs Q E hr h => ⟨_, dv_law_value T hr, b_law_value h⟩)
  (repeat (obtain ⟨_, h⟩ := h)); all_goals (subst_vars; rfl)
theorem dv_law_split {cdv : Value} {A : Around} {outer : List Env} {s : Shared} {H : Hp} {E : XK} (T : Txt K mg a) (hr : Room 0 (A.deeper (envOfC "_law_split" (defScope s_law_split) s.heap.objs.size a.f_law_split cdv))) :
    PSs (cxOf CX0 P w K mg base N_law_split "_law_split" (defScope s_law_split) a.f_law_split cdv A outer s H E).nox (defBody s_law_split) (t_law_split K a.c) := by
  unfold t_law_split
  exact (pss_cons (ps_par rfl sc_law_split.nd rfl rfl (by decide) rfl rfl (pa_cons (pe_callB c_abs (by rfl) T.n_abs (by decide +kernel) (pa_cons (pv 0) pa_nil)) (pa_cons (pe_lst pa_nil) pa_nil)) (by rfl))
      (pss_cons (ps_while PassesOwn.never (pt_cmpR o_gt (pv 0) pe_int (nomark _)) (pss_cons (ps_expr (pe_bm PySem.F.plainAttrs_list PySem.F.slot_list_append PySem.F.type_list_append mt_append (pv 2) (pa_cons (pe_op o_mod (pe_callTy c_int (by rfl) T.n_int (by decide +kernel) (pa_cons (pv 0) pa_nil)) (pv 1)) pa_nil)))
      (pss_one (ps_set (i := 0) sc_law_split.nd rfl (by first | exact Or.inl rfl | exact Or.inr rfl) (pe_op o_div (pv 0) (pv 1))))))
      (pss_one (ps_ret (pv 2)))))
theorem ok_law_split (T : Txt K mg a) : FnOk P w K mg base CX0 1 a.f_law_split a.fd_law_split ["_law_n_here", "_law_base"] (sp_law_split K a.c) := by
  refine T.F_law_split.ok sc_law_split (fun vs H Q E h => ?_) (fun cdv A outer s H vs Q E hr h => ⟨_, dv_law_split T hr, b_law_split h⟩)
  (repeat (obtain ⟨_, h⟩ := h)); all_goals (subst_vars; rfl)
theorem dv_is_between {cdv : Value} {A : Around} {outer : List Env} {s : Shared} {H : Hp} {E : XK} (T : Txt K mg a) (hr : Room 1 (A.deeper (envOfC "is_between" (defScope s_is_between) s.heap.objs.size a.f_is_between cdv))) :
    PSs (cxOf CX0 P w K mg base N_is_between "is_between" (defScope s_is_between) a.f_is_between cdv A outer s H E).nox (defBody s_is_between) (t_is_between K a.c) := by
  unfold t_is_between
  exact (pss_one (ps_ret (pe_and (pe_call (ok_is_integer T) (hr.mono (by decide)) rfl T.m_is_integer T.F_is_integer.kp T.b_is_integer .nil pass0 (pa_cons (pv 0) pa_nil)) (pe_one (pe_chain o_le o_le (pv 1) (pv 0) (pv 2))))))
theorem ok_is_between (T : Txt K mg a) : FnOk P w K mg base CX0 2 a.f_is_between a.fd_is_between ["value", "low", "high"] (sp_is_between K a.c) := by
  refine T.F_is_between.ok sc_is_between (fun vs H Q E h => ?_) (fun cdv A outer s H vs Q E hr h => ⟨_, dv_is_between T hr, b_is_between h⟩)
  (repeat (obtain ⟨_, h⟩ := h)); all_goals (subst_vars; rfl)
theorem dv_check_integer {cdv : Value} {A : Around} {outer : List Env} {s : Shared} {H : Hp} {E : XK} (T : Txt K mg a) (hr : Room 1 (A.deeper (envOfC "check_integer" (defScope s_check_integer) s.heap.objs.size a.f_check_integer cdv))) :
    PSs (cxOf CX0 P w K mg base N_check_integer "check_integer" (defScope s_check_integer) a.f_check_integer cdv A outer s H E).nox (defBody s_check_integer) (t_check_integer K a.c) := by
  unfold t_check_integer
  exact (pss_one (ps_if (pt_not (pt_val (pe_call (ok_is_integer T) (hr.mono (by decide)) rfl T.m_is_integer T.F_is_integer.kp T.b_is_integer .nil pass0 (pa_cons (pv 1) pa_nil)))) (pss_one ps_never) pss_nil))
theorem ok_check_integer (T : Txt K mg a) : FnOk P w K mg base CX0 2 a.f_check_integer a.fd_check_integer ["argument", "value"] (sp_check_integer K a.c) := by
  refine T.F_check_integer.ok sc_check_integer (fun vs H Q E h => ?_) (fun cdv A outer s H vs Q E hr h => ⟨_, dv_check_integer T hr, b_check_integer h⟩)
  (repeat (obtain ⟨_, h⟩ := h)); all_goals (subst_vars; rfl)
theorem dv_plain {cdv : Value} {A : Around} {outer : List Env} {s : Shared} {H : Hp} {E : XK} (T : Txt K mg a) (hr : Room 1 (A.deeper (envOfC "plain" (defScope s_plain) s.heap.objs.size a.f_plain cdv))) :
    PSs (cxOf CX0 P w K mg base N_plain "plain" (defScope s_plain) a.f_plain cdv A outer s H E).nox (defBody s_plain) (t_plain K a.c) := by
  unfold t_plain
  exact (pss_cons (ps_expr (pe_call (ok_check_any T) (hr.mono (by decide)) rfl T.m_check_any T.F_check_any.kp T.b_check_any .nil pass0 (pa_cons (pv 0) pa_nil)))
      (pss_one (ps_ret (pe_call (ok_value_of T) (hr.mono (by decide)) rfl T.m_value_of T.F_value_of.kp T.b_value_of .nil pass0 (pa_cons (pv 0) pa_nil)))))
theorem ok_plain (T : Txt K mg a) : FnOk P w K mg base CX0 2 a.f_plain a.fd_plain ["x"] (sp_plain K a.c) := by
  refine T.F_plain.ok sc_plain (fun vs H Q E h => ?_) (fun cdv A outer s H vs Q E hr h => ⟨_, dv_plain T hr, b_plain h⟩)
  (repeat (obtain ⟨_, h⟩ := h)); all_goals (subst_vars; rfl)
theorem dv_law_one {cdv : Value} {A : Around} {outer : List Env} {s : Shared} {H : Hp} {E : XK} (T : Txt K mg a) (hr : Room 1 (A.deeper (envOfC "_law_one" (defScope s_law_one) s.heap.objs.size a.f_law_one cdv))) :
    PSs (cxOf CX0 P w K mg base N_law_one "_law_one" (defScope s_law_one) a.f_law_one cdv A outer s H E).nox (defBody s_law_one) (t_law_one K a.c) := by
  unfold t_law_one
  exact (pss_one (ps_ret (pe_ix ix_list (pv 1) (pe_call (ok_law_next T) (hr.mono (by decide)) rfl T.m_law_next T.F_law_next.kp T.b_law_next .nil pass0 (pa_cons (pv 0) (pa_cons (pe_callB c_len (by rfl) T.n_len (by decide +kernel) (pa_cons (pv 1) pa_nil)) pa_nil))) (fun _ _ => rfl))))
theorem ok_law_one (T : Txt K mg a) : FnOk P w K mg base CX0 2 a.f_law_one a.fd_law_one ["_law_source", "_law_some"] (sp_law_one K a.c) := by
  refine T.F_law_one.ok sc_law_one (fun vs H Q E h => ?_) (fun cdv A outer s H vs Q E hr h => ⟨_, dv_law_one T hr, b_law_one h⟩)
  (repeat (obtain ⟨_, h⟩ := h)); all_goals (subst_vars; rfl)
theorem dv_Machine_init {cdv : Value} {A : Around} {outer : List Env} {s : Shared} {H : Hp} {E : XK} (T : Txt K mg a) (hr : Room 2 (A.deeper (envOfC "Machine.__init__" (defScope s_Machine_init) s.heap.objs.size a.f_Machine_init cdv))) :
    PSs (cxOf CX0 P w K mg base N_Machine_init "Machine.__init__" (defScope s_Machine_init) a.f_Machine_init cdv A outer s H E).nox (defBody s_Machine_init) (t_Machine_init K a.c) := by
  unfold t_Machine_init
  exact (pss_cons (ps_if (pt_not (pt_val (pe_call (ok_is_between T) (hr.mono (by decide)) rfl T.m_is_between T.F_is_between.kp T.b_is_between .nil pass0 (pa_cons (pv 1) (pa_cons (C8.pe_gc rfl T.g_LEAST_BITS) (pa_cons (C8.pe_gc rfl T.g_MOST_BITS) pa_nil)))))) (pss_one ps_never) pss_nil)
      (pss_cons (ps_if (pt_not (pt_val (pe_call (ok_is_between T) (hr.mono (by decide)) rfl T.m_is_between T.F_is_between.kp T.b_is_between .nil pass0 (pa_cons (pv 2) (pa_cons pe_int (pa_cons (C8.pe_gc rfl T.g_MOST_CUTOFF) pa_nil)))))) (pss_one ps_never) pss_nil)
      (pss_cons (ps_fld (pv 0) (pv 1) rfl)
      (pss_cons (ps_fld (pv 0) (pv 2) rfl)
      (pss_cons (ps_fld (pv 0) (pe_op o_shl pe_int (pv 1)) rfl)
      (pss_cons (ps_fld (pv 0) (pe_callTy (c_dict rfl) (by rfl) T.n_dict (by decide +kernel) (pa_cons (pe_lc (own := [("word", 3)]) (g := (gName 3)) rfl sc_Machine_init.nd (pi_tup (pe_glob rfl T.g_WORDS rfl)) (blkOk_by (own := [("word", 3)]) (N := N_Machine_init) (sc := defScope s_Machine_init) (by decide +kernel)) (fun _ _ _ _ _ => (pg_name (i := 3) sc_Machine_init.nd rfl (by first | exact Or.inl rfl | exact Or.inr rfl))) (fun _ _ _ _ _ => pts_nil) (fun _ _ _ _ _ => (pe_tup (pa_cons (pv 3) (pa_cons pe_int pa_nil))))) pa_nil)) rfl)
      (pss_one (ps_fld (pv 0) (pe_lst pa_nil) rfl))))))))
theorem ok_Machine_init (T : Txt K mg a) : FnOk P w K mg base CX0 3 a.f_Machine_init a.fd_Machine_init ["self", "bits", "cutoff"] (sp_Machine_init K a.c) := by
  refine FunD.ok T.F_Machine_init sc_Machine_init (fun vs H Q E h => ?_) (fun cdv A outer s H vs Q E hr h => ⟨_, (dv_Machine_init T hr).nox, b_Machine_init T.PM h⟩)
  (repeat (obtain ⟨_, h⟩ := h)); all_goals (subst_vars; rfl)
theorem dv_made {cdv : Value} {A : Around} {outer : List Env} {s : Shared} {H : Hp} {E : XK} (T : Txt K mg a) (hr : Room 2 (A.deeper (envOfC "made" (defScope s_made) s.heap.objs.size a.f_made cdv))) :
    PSs (cxOf CX0 P w K mg base N_made "made" (defScope s_made) a.f_made cdv A outer s H E).nox (defBody s_made) (t_made K a.c) := by
  unfold t_made
  exact (pss_cons (ps_set (i := 3) sc_made.nd rfl (by first | exact Or.inl rfl | exact Or.inr rfl) (pe_callB c_len (by rfl) T.n_len (by decide +kernel) (pa_cons (pv 2) pa_nil)))
      (pss_cons (ps_while PassesOwn.never (PW.pt (pw_and (pt_cmpR o_gt (pv 3) pe_int (nomark _)) (pw_and1 (pt_cmpR op_eq (pe_ix ix_list (pv 2) (pe_op o_sub (pv 3) pe_int) (fun _ _ => rfl)) pe_int (nomark _))))) (pss_one (ps_set (i := 3) sc_made.nd rfl (by first | exact Or.inl rfl | exact Or.inr rfl) (pe_op o_sub (pv 3) pe_int))))
      (pss_one (ps_ret (pe_make T.mk_Big (ok_Big_init T) (hr.mono (by decide)) rfl T.g_Big T.b_Big_init .nil pass0 (pa_cons (pe_fld (pv 0) rfl) (pa_cons (pe_ifExp (pt_cmpR o_gt (pv 3) pe_int (nomark _)) (pv 1) pe_int) (pa_cons (pe_callTy c_tupL (by rfl) T.n_tuple (by decide +kernel) (pa_cons (pe_slice sl_list (pv 2) po_none (po_some (pv 3))) pa_nil)) pa_nil))))))))
theorem ok_made (T : Txt K mg a) : FnOk P w K mg base CX0 3 a.f_made a.fd_made ["machine", "side", "digits"] (sp_made K a.c) := by
  refine T.F_made.ok sc_made (fun vs H Q E h => ?_) (fun cdv A outer s H vs Q E hr h => ⟨_, dv_made T hr, b_made T.PM T.PB h⟩)
  (repeat (obtain ⟨_, h⟩ := h)); all_goals (subst_vars; rfl)
theorem dv_is_digits {cdv : Value} {A : Around} {outer : List Env} {s : Shared} {H : Hp} {E : XK} (T : Txt K mg a) (hr : Room 2 (A.deeper (envOfC "is_digits" (defScope s_is_digits) s.heap.objs.size a.f_is_digits cdv))) :
    PSs (cxOf CX0 P w K mg base N_is_digits "is_digits" (defScope s_is_digits) a.f_is_digits cdv A outer s H E).nox (defBody s_is_digits) (t_is_digits K a.c) := by
  unfold t_is_digits
  exact (pss_one (ps_ret (pe_and (pe_callB call_isi (by rfl) T.n_isinstance (by decide +kernel) (pa_cons (pv 1) (pa_cons (pe_bltn (v := .ty "list") (by rfl) T.n_list (by decide +kernel) rfl) pa_nil))) (pe_one (pe_callB (c_all rfl) (by rfl) T.n_all (by decide +kernel) (pa_cons (pe_lc (own := [("one", 2)]) (g := (gName 2)) rfl sc_is_digits.nd (pi_list (pv 1)) (blkOk_by (own := [("one", 2)]) (N := N_is_digits) (sc := defScope s_is_digits) (by decide +kernel)) (fun _ _ _ _ _ => (pg_name (i := 2) sc_is_digits.nd rfl (by first | exact Or.inl rfl | exact Or.inr rfl))) (fun _ _ _ _ _ => pts_nil) (fun _ _ _ _ _ => (pe_call (ok_is_between T) (hr.mono (by decide)) rfl T.m_is_between T.F_is_between.kp T.b_is_between .nil pass0 (pa_cons (pv 2) (pa_cons pe_int (pa_cons (pe_op o_sub (pe_fld (pv 0) rfl) pe_int) pa_nil)))))) pa_nil))))))
theorem ok_is_digits (T : Txt K mg a) : FnOk P w K mg base CX0 3 a.f_is_digits a.fd_is_digits ["machine", "value"] (sp_is_digits K a.c) := by
  refine T.F_is_digits.ok sc_is_digits (fun vs H Q E h => ?_) (fun cdv A outer s H vs Q E hr h => ⟨_, dv_is_digits T hr, b_is_digits T.PM h⟩)
  (repeat (obtain ⟨_, h⟩ := h)); all_goals (subst_vars; rfl)
theorem dv_negative {cdv : Value} {A : Around} {outer : List Env} {s : Shared} {H : Hp} {E : XK} (T : Txt K mg a) (hr : Room 2 (A.deeper (envOfC "negative" (defScope s_negative) s.heap.objs.size a.f_negative cdv))) :
    PSs (cxOf CX0 P w K mg base N_negative "negative" (defScope s_negative) a.f_negative cdv A outer s H E).nox (defBody s_negative) (t_negative K a.c) := by
  unfold t_negative
  exact (pss_cons (ps_expr (pe_call (ok_check_any T) (hr.mono (by decide)) rfl T.m_check_any T.F_check_any.kp T.b_check_any .nil pass0 (pa_cons (pv 0) pa_nil)))
      (pss_one (ps_ret (pe_make T.mk_Big (ok_Big_init T) (hr.mono (by decide)) rfl T.g_Big T.b_Big_init .nil pass0 (pa_cons (pe_fld (pv 0) rfl) (pa_cons (pe_op o_sub pe_int (pe_fld (pv 0) rfl)) (pa_cons (pe_fld (pv 0) rfl) pa_nil)))))))
theorem ok_negative (T : Txt K mg a) : FnOk P w K mg base CX0 3 a.f_negative a.fd_negative ["x"] (sp_negative K a.c) := by
  refine T.F_negative.ok sc_negative (fun vs H Q E h => ?_) (fun cdv A outer s H vs Q E hr h => ⟨_, dv_negative T hr, b_negative T.PB h⟩)
  (repeat (obtain ⟨_, h⟩ := h)); all_goals (subst_vars; rfl)
theorem dv_absolute {cdv : Value} {A : Around} {outer : List Env} {s : Shared} {H : Hp} {E : XK} (T : Txt K mg a) (hr : Room 2 (A.deeper (envOfC "absolute" (defScope s_absolute) s.heap.objs.size a.f_absolute cdv))) :
    PSs (cxOf CX0 P w K mg base N_absolute "absolute" (defScope s_absolute) a.f_absolute cdv A outer s H E).nox (defBody s_absolute) (t_absolute K a.c) := by
  unfold t_absolute
  exact (pss_cons (ps_expr (pe_call (ok_check_any T) (hr.mono (by decide)) rfl T.m_check_any T.F_check_any.kp T.b_check_any .nil pass0 (pa_cons (pv 0) pa_nil)))
      (pss_one (ps_ret (pe_make T.mk_Big (ok_Big_init T) (hr.mono (by decide)) rfl T.g_Big T.b_Big_init .nil pass0 (pa_cons (pe_fld (pv 0) rfl) (pa_cons (pe_callB c_abs (by rfl) T.n_abs (by decide +kernel) (pa_cons (pe_fld (pv 0) rfl) pa_nil)) (pa_cons (pe_fld (pv 0) rfl) pa_nil)))))))
theorem ok_absolute (T : Txt K mg a) : FnOk P w K mg base CX0 3 a.f_absolute a.fd_absolute ["x"] (sp_absolute K a.c) := by
  refine T.F_absolute.ok sc_absolute (fun vs H Q E h => ?_) (fun cdv A outer s H vs Q E hr h => ⟨_, dv_absolute T hr, b_absolute T.PB h⟩)
  (repeat (obtain ⟨_, h⟩ := h)); all_goals (subst_vars; rfl)
theorem dv_law_digits {cdv : Value} {A : Around} {outer : List Env} {s : Shared} {H : Hp} {E : XK} (T : Txt K mg a) (hr : Room 2 (A.deeper (envOfC "_law_digits" (defScope s_law_digits) s.heap.objs.size a.f_law_digits cdv))) :
    PSs (cxOf CX0 P w K mg base N_law_digits "_law_digits" (defScope s_law_digits) a.f_law_digits cdv A outer s H E).nox (defBody s_law_digits) (t_law_digits K a.c) := by
  unfold t_law_digits
  exact (pss_cons (ps_set (i := 3) sc_law_digits.nd rfl (by first | exact Or.inl rfl | exact Or.inr rfl) (pe_lst pa_nil))
      (pss_cons (ps_for PassesOwn.never rfl (pi_range1 rfl T.n_range (pa_cons (pe_call (ok_law_next T) (hr.mono (by decide)) rfl T.m_law_next T.F_law_next.kp T.b_law_next .nil pass0 (pa_cons (pv 0) (pa_cons (pe_op o_add (pv 2) pe_int) pa_nil))) pa_nil)) (pg_name (i := 4) sc_law_digits.nd rfl (by first | exact Or.inl rfl | exact Or.inr rfl)) (pss_cons (ps_set (i := 5) sc_law_digits.nd rfl (by first | exact Or.inl rfl | exact Or.inr rfl) (pe_call (ok_law_next T) (hr.mono (by decide)) rfl T.m_law_next T.F_law_next.kp T.b_law_next .nil pass0 (pa_cons (pv 0) (pa_cons (pv 1) pa_nil))))
      (pss_one (ps_expr (pe_bm PySem.F.plainAttrs_list PySem.F.slot_list_append PySem.F.type_list_append mt_append (pv 3) (pa_cons (pe_call (ok_law_one T) (hr.mono (by decide)) rfl T.m_law_one T.F_law_one.kp T.b_law_one .nil pass0 (pa_cons (pv 0) (pa_cons (pe_lst (pa_cons (pv 5) (pa_cons (pv 5) (pa_cons pe_int (pa_cons (pe_op o_sub (pv 1) pe_int) (pa_cons pe_int (pa_cons (pe_op o_div (pv 1) pe_int) pa_nil))))))) pa_nil))) pa_nil))))))
      (pss_one (ps_ret (pe_ifExp (pt_cmpR (op_neD hr.units) (pv 3) (pe_lst pa_nil) (nomark _)) (pe_op op_cat (pv 3) (pe_lst (pa_cons (pe_op o_add pe_int (pe_call (ok_law_next T) (hr.mono (by decide)) rfl T.m_law_next T.F_law_next.kp T.b_law_next .nil pass0 (pa_cons (pv 0) (pa_cons (pe_op o_sub (pv 1) pe_int) pa_nil)))) pa_nil))) (pv 3))))))
theorem ok_law_digits (T : Txt K mg a) : FnOk P w K mg base CX0 3 a.f_law_digits a.fd_law_digits ["_law_source", "_law_base", "_law_most"] (sp_law_digits K a.c) := by
  refine T.F_law_digits.ok sc_law_digits (fun vs H Q E h => ?_) (fun cdv A outer s H vs Q E hr h => ⟨_, dv_law_digits T hr, b_law_digits h⟩)
  (repeat (obtain ⟨_, h⟩ := h)); all_goals (subst_vars; rfl)
theorem dv_big_of {cdv : Value} {A : Around} {outer : List Env} {s : Shared} {H : Hp} {E : XK} (T : Txt K mg a) (hr : Room 3 (A.deeper (envOfC "big_of" (defScope s_big_of) s.heap.objs.size a.f_big_of cdv))) :
    PSs (cxOf CX0 P w K mg base N_big_of "big_of" (defScope s_big_of) a.f_big_of cdv A outer s H E).nox (defBody s_big_of) (t_big_of K a.c) := by
  unfold t_big_of
  exact (pss_one (ps_ret (pe_call (ok_made T) (hr.mono (by decide)) rfl T.m_made T.F_made.kp T.b_made .nil pass0 (pa_cons (pv 0) (pa_cons (pe_ifExp (pt_cmpR o_lt (pv 1) pe_int (nomark _)) (pe_un o_neg pe_int) pe_int) (pa_cons (pe_call (ok_digits_of T) (hr.mono (by decide)) rfl T.m_digits_of T.F_digits_of.kp T.b_digits_of .nil pass0 (pa_cons (pv 0) (pa_cons (pe_callB c_abs (by rfl) T.n_abs (by decide +kernel) (pa_cons (pv 1) pa_nil)) pa_nil))) pa_nil))))))
theorem ok_big_of (T : Txt K mg a) : FnOk P w K mg base CX0 4 a.f_big_of a.fd_big_of ["machine", "n"] (sp_big_of K a.c) := by
  refine T.F_big_of.ok sc_big_of (fun vs H Q E h => ?_) (fun cdv A outer s H vs Q E hr h => ⟨_, dv_big_of T hr, b_big_of T.PM h⟩)
  (repeat (obtain ⟨_, h⟩ := h)); all_goals (subst_vars; rfl)
theorem dv_normal {cdv : Value} {A : Around} {outer : List Env} {s : Shared} {H : Hp} {E : XK} (T : Txt K mg a) (hr : Room 3 (A.deeper (envOfC "normal" (defScope s_normal) s.heap.objs.size a.f_normal cdv))) :
    PSs (cxOf CX0 P w K mg base N_normal "normal" (defScope s_normal) a.f_normal cdv A outer s H E).nox (defBody s_normal) (t_normal K a.c) := by
  unfold t_normal
  exact (pss_cons (ps_expr (pe_call (ok_check_machine T) (hr.mono (by decide)) rfl T.m_check_machine T.F_check_machine.kp T.b_check_machine .nil pass0 (pa_cons (pv 0) pa_nil)))
      (pss_cons (ps_set (i := 3) sc_normal.nd rfl (by first | exact Or.inl rfl | exact Or.inr rfl) (pe_call (ok_is_digits T) (hr.mono (by decide)) rfl T.m_is_digits T.F_is_digits.kp T.b_is_digits .nil pass0 (pa_cons (pv 0) (pa_cons (pv 2) pa_nil))))
      (pss_cons (ps_if (PW.pt (pw_or (pt_not (pt_val (pe_call (ok_is_between T) (hr.mono (by decide)) rfl T.m_is_between T.F_is_between.kp T.b_is_between .nil pass0 (pa_cons (pv 1) (pa_cons (pe_un o_neg pe_int) (pa_cons pe_int pa_nil)))))) (pw_or1 (PW.pt (pw_and (pt_cmpR op_eq (pv 1) pe_int (nomark _)) (pw_and (pt_val (pv 3)) (pw_and1 (pt_val (pe_callB (c_anyI rfl) (by rfl) T.n_any (by decide +kernel) (pa_cons (pv 2) pa_nil)))))))))) (pss_one ps_never) pss_nil)
      (pss_cons (ps_if (pt_not (pt_val (pv 3))) (pss_one ps_never) pss_nil)
      (pss_one (ps_ret (pe_call (ok_made T) (hr.mono (by decide)) rfl T.m_made T.F_made.kp T.b_made .nil pass0 (pa_cons (pv 0) (pa_cons (pv 1) (pa_cons (pv 2) pa_nil))))))))))
theorem ok_normal (T : Txt K mg a) : FnOk P w K mg base CX0 4 a.f_normal a.fd_normal ["machine", "sign", "digits"] (sp_normal K a.c) := by
  refine T.F_normal.ok sc_normal (fun vs H Q E h => ?_) (fun cdv A outer s H vs Q E hr h => ⟨_, dv_normal T hr, b_normal h⟩)
  (repeat (obtain ⟨_, h⟩ := h)); all_goals (subst_vars; rfl)
theorem dv_law_number {cdv : Value} {A : Around} {outer : List Env} {s : Shared} {H : Hp} {E : XK} (T : Txt K mg a) (hr : Room 3 (A.deeper (envOfC "_law_number" (defScope s_law_number) s.heap.objs.size a.f_law_number cdv))) :
    PSs (cxOf CX0 P w K mg base N_law_number "_law_number" (defScope s_law_number) a.f_law_number cdv A outer s H E).nox (defBody s_law_number) (t_law_number K a.c) := by
  unfold t_law_number
  exact (pss_cons (ps_set (i := 3) sc_law_number.nd rfl (by first | exact Or.inl rfl | exact Or.inr rfl) (pe_call (ok_law_value T) (hr.mono (by decide)) rfl T.m_law_value T.F_law_value.kp T.b_law_value .nil pass0 (pa_cons (pe_call (ok_law_digits T) (hr.mono (by decide)) rfl T.m_law_digits T.F_law_digits.kp T.b_law_digits .nil pass0 (pa_cons (pv 0) (pa_cons (pv 1) (pa_cons (pv 2) pa_nil)))) (pa_cons (pv 1) pa_nil))))
      (pss_cons (ps_set (i := 3) sc_law_number.nd rfl (by first | exact Or.inl rfl | exact Or.inr rfl) (pe_ifExp (pt_cmpR o_gt (pv 3) pe_int (nomark _)) (pv 3) (pe_call (ok_law_next T) (hr.mono (by decide)) rfl T.m_law_next T.F_law_next.kp T.b_law_next .nil pass0 (pa_cons (pv 0) (pa_cons (pv 1) pa_nil)))))
      (pss_one (ps_ret (pe_call (ok_law_one T) (hr.mono (by decide)) rfl T.m_law_one T.F_law_one.kp T.b_law_one .nil pass0 (pa_cons (pv 0) (pa_cons (pe_lst (pa_cons (pv 3) (pa_cons (pv 3) (pa_cons (pe_op o_sub pe_int (pv 3)) pa_nil)))) pa_nil)))))))
theorem ok_law_number (T : Txt K mg a) : FnOk P w K mg base CX0 4 a.f_law_number a.fd_law_number ["_law_source", "_law_base", "_law_most"] (sp_law_number K a.c) := by
  refine T.F_law_number.ok sc_law_number (fun vs H Q E h => ?_) (fun cdv A outer s H vs Q E hr h => ⟨_, dv_law_number T hr, b_law_number h⟩)
  (repeat (obtain ⟨_, h⟩ := h)); all_goals (subst_vars; rfl)
theorem dv_big {cdv : Value} {A : Around} {outer : List Env} {s : Shared} {H : Hp} {E : XK} (T : Txt K mg a) (hr : Room 4 (A.deeper (envOfC "big" (defScope s_big) s.heap.objs.size a.f_big cdv))) :
    PSs (cxOf CX0 P w K mg base N_big "big" (defScope s_big) a.f_big cdv A outer s H E).nox (defBody s_big) (t_big K a.c) := by
  unfold t_big
  exact (pss_cons (ps_expr (pe_call (ok_check_machine T) (hr.mono (by decide)) rfl T.m_check_machine T.F_check_machine.kp T.b_check_machine .nil pass0 (pa_cons (pv 0) pa_nil)))
      (pss_cons (ps_expr (pe_call (ok_check_integer T) (hr.mono (by decide)) rfl T.m_check_integer T.F_check_integer.kp T.b_check_integer .nil pass0 (pa_cons pe_str (pa_cons (pv 1) pa_nil))))
      (pss_one (ps_ret (pe_call (ok_big_of T) (hr.mono (by decide)) rfl T.m_big_of T.F_big_of.kp T.b_big_of .nil pass0 (pa_cons (pv 0) (pa_cons (pv 1) pa_nil)))))))
theorem ok_big (T : Txt K mg a) : FnOk P w K mg base CX0 5 a.f_big a.fd_big ["machine", "n"] (sp_big K a.c) := by
  refine T.F_big.ok sc_big (fun vs H Q E h => ?_) (fun cdv A outer s H vs Q E hr h => ⟨_, dv_big T hr, b_big h⟩)
  (repeat (obtain ⟨_, h⟩ := h)); all_goals (subst_vars; rfl)
theorem dv_law_machine {cdv : Value} {A : Around} {outer : List Env} {s : Shared} {H : Hp} {E : XK} (T : Txt K mg a) (hr : Room 4 (A.deeper (envOfC "_law_machine" (defScope s_law_machine) s.heap.objs.size a.f_law_machine cdv))) :
    PSs (cxOf CX0 P w K mg base N_law_machine "_law_machine" (defScope s_law_machine) a.f_law_machine cdv A outer s H E).nox (defBody s_law_machine) (t_law_machine K a.c) := by
  unfold t_law_machine
  exact (pss_cons (ps_set (i := 1) sc_law_machine.nd rfl (by first | exact Or.inl rfl | exact Or.inr rfl) (pe_call (ok_law_one T) (hr.mono (by decide)) rfl T.m_law_one T.F_law_one.kp T.b_law_one .nil pass0 (pa_cons (pv 0) (pa_cons (pe_lst (pa_cons pe_int (pa_cons pe_int (pa_cons pe_int (pa_cons pe_int (pa_cons pe_int (pa_cons pe_int (pa_cons (pe_op o_add pe_int (pe_call (ok_law_next T) (hr.mono (by decide)) rfl T.m_law_next T.F_law_next.kp T.b_law_next .nil pass0 (pa_cons (pv 0) (pa_cons pe_int pa_nil)))) pa_nil)))))))) pa_nil))))
      (pss_one (ps_ret (pe_make T.mk_Machine (ok_Machine_init T) (hr.mono (by decide)) rfl T.g_Machine T.b_Machine_init .nil pass0 (pa_cons (pv 1) (pa_cons (pe_op o_add pe_int (pe_call (ok_law_next T) (hr.mono (by decide)) rfl T.m_law_next T.F_law_next.kp T.b_law_next .nil pass0 (pa_cons (pv 0) (pa_cons pe_int pa_nil)))) pa_nil))))))
theorem ok_law_machine (T : Txt K mg a) : FnOk P w K mg base CX0 5 a.f_law_machine a.fd_law_machine ["_law_source"] (sp_law_machine K a.c) := by
  refine T.F_law_machine.ok sc_law_machine (fun vs H Q E h => ?_) (fun cdv A outer s H vs Q E hr h => ⟨_, dv_law_machine T hr, b_law_machine h⟩)
  (repeat (obtain ⟨_, h⟩ := h)); all_goals (subst_vars; rfl)
theorem dv_law_normal_right {cdv : Value} {A : Around} {outer : List Env} {s : Shared} {H : Hp} {E : XK} (T : Txt K mg a) (hr : Room 5 (A.deeper (envOfC "_law_normal_right" (defScope s_law_normal_right) s.heap.objs.size a.f_law_normal_right cdv))) :
    PSs (cxOf CX0 P w K mg base N_law_normal_right "_law_normal_right" (defScope s_law_normal_right) a.f_law_normal_right cdv A outer s H E).nox (defBody s_law_normal_right) (t_k01_normal_right K a.c) := by
  unfold t_k01_normal_right
  exact (pss_cons (ps_par rfl sc_law_normal_right.nd rfl rfl (by decide) rfl rfl (pa_cons (pe_meth0 (pv 2) T.cl_Big T.me_Big_digits (ok_Big_digits T) (hr.mono (by decide)) T.b_Big_digits .nil pass0) (pa_cons (pe_meth0 (pv 2) T.cl_Big T.me_Big_sign (ok_Big_sign T) (hr.mono (by decide)) T.b_Big_sign .nil pass0) pa_nil)) (by rfl))
      (pss_cons (ps_set (i := 6) sc_law_normal_right.nd rfl (by first | exact Or.inl rfl | exact Or.inr rfl) (pe_call (ok_law_next T) (hr.mono (by decide)) rfl T.m_law_next T.F_law_next.kp T.b_law_next .nil pass0 (pa_cons (pv 0) (pa_cons pe_int pa_nil))))
      (pss_cons (ps_set (i := 7) sc_law_normal_right.nd rfl (by first | exact Or.inl rfl | exact Or.inr rfl) (pe_op op_cat (pv 4) (pe_op op_rep (pe_lst (pa_cons pe_int pa_nil)) (pv 6))))
      (pss_cons (ps_if (pt_cmpR (o_ownNe T.ne_Big (ok_Big_eq T) (hr.mono (by decide)) T.b_Big_eq pass0) (pe_call (ok_normal T) (hr.mono (by decide)) rfl T.m_normal T.F_normal.kp T.b_normal .nil pass0 (pa_cons (pv 1) (pa_cons (pv 5) (pa_cons (pv 7) pa_nil)))) (pv 2) (nomark _)) (pss_one (ps_ret pe_bl)) pss_nil)
      (pss_cons (ps_if (pt_cmpR (o_ownNe T.ne_Big (ok_Big_eq T) (hr.mono (by decide)) T.b_Big_eq pass0) (pe_kw (ok_normal T) (hr.mono (by decide)) rfl T.m_normal T.F_normal.kp T.kb_normal_digits_sign_machine pass0 (pk_cons (pv 7) (pk_cons (pv 5) (pk_cons (pv 1) pk_nil)))) (pv 2) (nomark _)) (pss_one (ps_ret pe_bl)) pss_nil)
      (pss_cons (ps_if (pt_cmpR (op_neD hr.units) (pv 7) (pe_op op_cat (pv 4) (pe_op op_rep (pe_lst (pa_cons pe_int pa_nil)) (pv 6))) (nomark _)) (pss_one (ps_ret pe_bl)) pss_nil)
      (pss_cons (ps_if (pt_cmpR op_ne (pe_meth0 (pe_call (ok_normal T) (hr.mono (by decide)) rfl T.m_normal T.F_normal.kp T.b_normal .nil pass0 (pa_cons (pv 1) (pa_cons (pv 5) (pa_cons (pe_op op_rep (pe_lst (pa_cons pe_int pa_nil)) (pv 6)) pa_nil)))) T.cl_Big T.me_Big_sign (ok_Big_sign T) (hr.mono (by decide)) T.b_Big_sign .nil pass0) pe_int (nomark _)) (pss_one (ps_ret pe_bl)) pss_nil)
      (pss_cons (ps_if (pt_cmpR (op_neD hr.units) (pe_meth0 (pe_call (ok_normal T) (hr.mono (by decide)) rfl T.m_normal T.F_normal.kp T.b_normal .nil pass0 (pa_cons (pv 1) (pa_cons pe_int (pa_cons (pe_op op_rep (pe_lst (pa_cons pe_int pa_nil)) (pv 6)) pa_nil)))) T.cl_Big T.me_Big_digits (ok_Big_digits T) (hr.mono (by decide)) T.b_Big_digits .nil pass0) (pe_lst pa_nil) (nomark _)) (pss_one (ps_ret pe_bl)) pss_nil)
      (pss_cons (ps_set (i := 8) sc_law_normal_right.nd rfl (by first | exact Or.inl rfl | exact Or.inr rfl) (pe_call (ok_normal T) (hr.mono (by decide)) rfl T.m_normal T.F_normal.kp T.b_normal .nil pass0 (pa_cons (pv 1) (pa_cons (pv 5) (pa_cons (pv 7) pa_nil)))))
      (pss_cons (ps_expr (pe_bm PySem.F.plainAttrs_list PySem.F.slot_list_append PySem.F.type_list_append mt_append (pv 7) (pa_cons pe_int pa_nil)))
      (pss_cons (ps_if (PW.pt (pw_or (pt_cmpR (o_ownNe T.ne_Big (ok_Big_eq T) (hr.mono (by decide)) T.b_Big_eq pass0) (pv 8) (pv 2) (nomark _)) (pw_or (pt_cmpR (op_neD hr.units) (pe_meth0 (pv 8) T.cl_Big T.me_Big_digits (ok_Big_digits T) (hr.mono (by decide)) T.b_Big_digits .nil pass0) (pv 4) (nomark _)) (pw_or1 (PW.pt (pw_and (pt_cmpR op_ne (pv 3) pe_int (nomark _)) (pw_and1 (pt_cmpR (o_ownEq (ok_Big_eq T) (hr.mono (by decide)) T.eq_Big T.ie_Big T.b_Big_eq pass0) (pe_call (ok_normal T) (hr.mono (by decide)) rfl T.m_normal T.F_normal.kp T.b_normal .nil pass0 (pa_cons (pv 1) (pa_cons (pe_op o_sub pe_int (pv 5)) (pa_cons (pv 4) pa_nil)))) (pv 2) (nomark _))))))))) (pss_one (ps_ret pe_bl)) pss_nil)
      (pss_cons (ps_for PassesOwn.never rfl (pi_tup (pe_tup (pa_cons pe_int (pa_cons pe_int (pa_cons pe_int pa_nil))))) (pg_name (i := 9) sc_law_normal_right.nd rfl (by first | exact Or.inl rfl | exact Or.inr rfl)) (pss_one (ps_if (pt_cmpR (o_ownEq (ok_Big_eq T) (hr.mono (by decide)) T.eq_Big T.ie_Big T.b_Big_eq pass0) (pe_call (ok_big T) (hr.mono (by decide)) rfl T.m_big T.F_big.kp T.b_big .nil pass0 (pa_cons (pv 1) (pa_cons (pe_op o_add (pv 3) (pe_op o_shl pe_int (pe_op o_mul (pe_ix ix_tup (pe_meth0 (pv 1) T.cl_Machine T.me_Machine_parts (ok_Machine_parts T) (hr.mono (by decide)) T.b_Machine_parts .nil pass0) pe_int (fun _ _ => rfl)) (pv 9)))) pa_nil))) (pv 2) (nomark _)) (pss_one (ps_ret pe_bl)) pss_nil)))
      (pss_cons (ps_set (i := 10) sc_law_normal_right.nd rfl (by first | exact Or.inl rfl | exact Or.inr rfl) (pe_make T.mk_Machine (ok_Machine_init T) (hr.mono (by decide)) rfl T.g_Machine T.bd_Machine_init_1.2 T.bd_Machine_init_1.1 pass0 (pa_cons (pe_ifExp (pt_cmpR o_lt (pe_ix ix_tup (pe_meth0 (pv 1) T.cl_Machine T.me_Machine_parts (ok_Machine_parts T) (hr.mono (by decide)) T.b_Machine_parts .nil pass0) pe_int (fun _ _ => rfl)) pe_int (nomark _)) (pe_op o_add (pe_ix ix_tup (pe_meth0 (pv 1) T.cl_Machine T.me_Machine_parts (ok_Machine_parts T) (hr.mono (by decide)) T.b_Machine_parts .nil pass0) pe_int (fun _ _ => rfl)) pe_int) pe_int) pa_nil)))
      (pss_cons (ps_if (PW.pt (pw_or (pt_cmpR (o_ownEq (ok_Big_eq T) (hr.mono (by decide)) T.eq_Big T.ie_Big T.b_Big_eq pass0) (pe_call (ok_big T) (hr.mono (by decide)) rfl T.m_big T.F_big.kp T.b_big .nil pass0 (pa_cons (pv 10) (pa_cons (pv 3) pa_nil))) (pv 2) (nomark _)) (pw_or1 (PW.pt (pw_and (pt_cmpR op_eq (pv 3) pe_int (nomark _)) (pw_and1 (pt_cmpR (o_ownEq (ok_Big_eq T) (hr.mono (by decide)) T.eq_Big T.ie_Big T.b_Big_eq pass0) (pe_call (ok_normal T) (hr.mono (by decide)) rfl T.m_normal T.F_normal.kp T.b_normal .nil pass0 (pa_cons (pv 10) (pa_cons pe_int (pa_cons (pe_lst pa_nil) pa_nil)))) (pv 2) (nomark _)))))))) (pss_one (ps_ret pe_bl)) pss_nil)
      (pss_cons (ps_set (i := 11) sc_law_normal_right.nd rfl (by first | exact Or.inl rfl | exact Or.inr rfl) (pe_call (ok_big T) (hr.mono (by decide)) rfl T.m_big T.F_big.kp T.b_big .nil pass0 (pa_cons (pv 1) (pa_cons (pe_op o_add (pv 3) pe_int) pa_nil))))
      (pss_cons (ps_set (i := 12) sc_law_normal_right.nd rfl (by first | exact Or.inl rfl | exact Or.inr rfl) (pe_make T.mk_Machine (ok_Machine_init T) (hr.mono (by decide)) rfl T.g_Machine T.b_Machine_init .nil pass0 (pa_cons (pe_ix ix_tup (pe_meth0 (pv 1) T.cl_Machine T.me_Machine_parts (ok_Machine_parts T) (hr.mono (by decide)) T.b_Machine_parts .nil pass0) pe_int (fun _ _ => rfl)) (pa_cons pe_int pa_nil))))
      (pss_one (ps_ret (pe_and (pe_cmpR (o_ownNe T.ne_Big (ok_Big_eq T) (hr.mono (by decide)) T.b_Big_eq pass0) (pv 11) (pv 2) (nomark _)) (pe_and (pe_cmpR op_isBl (pe_cmpR (o_ownEq (ok_Big_eq T) (hr.mono (by decide)) T.eq_Big T.ie_Big T.b_Big_eq pass0) (pv 11) (pv 2) (nomark _)) pe_bl (nomark _)) (pe_one (pe_cmpR (o_ownEq (ok_Big_eq T) (hr.mono (by decide)) T.eq_Big T.ie_Big T.b_Big_eq pass0) (pe_call (ok_big T) (hr.mono (by decide)) rfl T.m_big T.F_big.kp T.b_big .nil pass0 (pa_cons (pv 12) (pa_cons (pv 3) pa_nil))) (pv 2) (nomark _)))))))))))))))))))))))
theorem ok_law_normal_right (T : Txt K mg a) : FnOk P w K mg base CX0 6 a.f_law_normal_right a.fd_law_normal_right ["_law_source", "_law_machine_here", "_law_x_here", "_law_n_here"] (sp_k01_normal_right K a.c) := by
  refine T.F_law_normal_right.ok sc_law_normal_right (fun vs H Q E h => ?_) (fun cdv A outer s H vs Q E hr h => ⟨_, dv_law_normal_right T hr, b_k01_normal_right T.PB h⟩)
  (repeat (obtain ⟨_, h⟩ := h)); all_goals (subst_vars; rfl)
theorem dv_law_right {cdv : Value} {A : Around} {outer : List Env} {s : Shared} {H : Hp} {E : XK} (T : Txt K mg a) (hr : Room 6 (A.deeper (envOfC "_law_right" (defScope s_law_right) s.heap.objs.size a.f_law_right cdv))) :
    PSs (cxOf CX0 P w K mg base N_law_right "_law_right" (defScope s_law_right) a.f_law_right cdv A outer s H E).nox (defBody s_law_right) (t_k01_right K a.c) := by
  unfold t_k01_right
  exact (pss_cons (ps_par rfl sc_law_right.nd rfl rfl (by decide) rfl rfl (pa_cons (pe_op o_shl pe_int (pe_ix ix_tup (pe_meth0 (pv 1) T.cl_Machine T.me_Machine_parts (ok_Machine_parts T) (hr.mono (by decide)) T.b_Machine_parts .nil pass0) pe_int (fun _ _ => rfl))) (pa_cons (pe_call (ok_big T) (hr.mono (by decide)) rfl T.m_big T.F_big.kp T.b_big .nil pass0 (pa_cons (pv 1) (pa_cons (pv 2) pa_nil))) pa_nil)) (by rfl))
      (pss_cons (ps_par rfl sc_law_right.nd rfl rfl (by decide) rfl rfl (pa_cons (pe_call (ok_law_split T) (hr.mono (by decide)) rfl T.m_law_split T.F_law_split.kp T.b_law_split .nil pass0 (pa_cons (pv 2) (pa_cons (pv 3) pa_nil))) (pa_cons (pe_ifExp (pt_cmpR op_eq (pv 2) pe_int (nomark _)) pe_int (pe_ifExp (pt_cmpR o_lt (pv 2) pe_int (nomark _)) (pe_un o_neg pe_int) pe_int)) pa_nil)) (by rfl))
      (pss_cons (ps_set (i := 7) sc_law_right.nd rfl (by first | exact Or.inl rfl | exact Or.inr rfl) (pe_meth0 (pv 4) T.cl_Big T.me_Big_digits (ok_Big_digits T) (hr.mono (by decide)) T.b_Big_digits .nil pass0))
      (pss_cons (ps_expr (pe_bm PySem.F.plainAttrs_list PySem.F.slot_list_append PySem.F.type_list_append mt_append (pv 7) (pa_cons pe_int pa_nil)))
      (pss_cons (ps_if (PW.pt (pw_or (pt_cmpR (op_neD hr.units) (pe_meth0 (pv 4) T.cl_Big T.me_Big_digits (ok_Big_digits T) (hr.mono (by decide)) T.b_Big_digits .nil pass0) (pv 5) (nomark _)) (pw_or (pt_cmpR op_ne (pe_meth0 (pv 4) T.cl_Big T.me_Big_sign (ok_Big_sign T) (hr.mono (by decide)) T.b_Big_sign .nil pass0) (pv 6) (nomark _)) (pw_or1 (pt_cmpR op_ne (pe_meth0 (pv 4) T.cl_Big T.me_Big_bits (ok_Big_bits T) (hr.mono (by decide)) T.b_Big_bits .nil pass0) (pe_ix ix_tup (pe_meth0 (pv 1) T.cl_Machine T.me_Machine_parts (ok_Machine_parts T) (hr.mono (by decide)) T.b_Machine_parts .nil pass0) pe_int (fun _ _ => rfl)) (nomark _)))))) (pss_one (ps_ret pe_bl)) pss_nil)
      (pss_cons (ps_if (pt_cmpR op_ne (pe_kw (ok_plain T) (hr.mono (by decide)) rfl T.m_plain T.F_plain.kp T.kb_plain_x pass0 (pk_cons (pv 4) pk_nil)) (pv 2) (nomark _)) (pss_one (ps_ret pe_bl)) pss_nil)
      (pss_cons (ps_if (pt_cmpR op_ne (pe_call (ok_plain T) (hr.mono (by decide)) rfl T.m_plain T.F_plain.kp T.b_plain .nil pass0 (pa_cons (pe_kw (ok_big T) (hr.mono (by decide)) rfl T.m_big T.F_big.kp T.kb_big_n_machine pass0 (pk_cons (pv 2) (pk_cons (pv 1) pk_nil))) pa_nil)) (pv 2) (nomark _)) (pss_one (ps_ret pe_bl)) pss_nil)
      (pss_cons (ps_if (pt_cmpR (o_ownNe T.ne_Big (ok_Big_eq T) (hr.mono (by decide)) T.b_Big_eq pass0) (pv 4) (pe_call (ok_big T) (hr.mono (by decide)) rfl T.m_big T.F_big.kp T.b_big .nil pass0 (pa_cons (pv 1) (pa_cons (pv 2) pa_nil))) (nomark _)) (pss_one (ps_ret pe_bl)) pss_nil)
      (pss_cons (ps_if (pt_cmpR (o_ownEq (ok_Big_eq T) (hr.mono (by decide)) T.eq_Big T.ie_Big T.b_Big_eq pass0) (pv 4) (pv 2) (nomark _)) (pss_one (ps_ret pe_bl)) pss_nil)
      (pss_cons (ps_if (pt_cmpR (o_ownEq (ok_Big_eq T) (hr.mono (by decide)) T.eq_Big T.ie_Big T.b_Big_eq pass0) (pv 4) (pv 5) (nomark _)) (pss_one (ps_ret pe_bl)) pss_nil)
      (pss_cons (ps_if (pt_cmpR op_ne (pe_call (ok_plain T) (hr.mono (by decide)) rfl T.m_plain T.F_plain.kp T.b_plain .nil pass0 (pa_cons (pe_call (ok_negative T) (hr.mono (by decide)) rfl T.m_negative T.F_negative.kp T.b_negative .nil pass0 (pa_cons (pv 4) pa_nil)) pa_nil)) (pe_op o_sub pe_int (pv 2)) (nomark _)) (pss_one (ps_ret pe_bl)) pss_nil)
      (pss_cons (ps_if (pt_cmpR op_ne (pe_call (ok_plain T) (hr.mono (by decide)) rfl T.m_plain T.F_plain.kp T.b_plain .nil pass0 (pa_cons (pe_kw (ok_absolute T) (hr.mono (by decide)) rfl T.m_absolute T.F_absolute.kp T.kb_absolute_x pass0 (pk_cons (pv 4) pk_nil)) pa_nil)) (pe_callB c_abs (by rfl) T.n_abs (by decide +kernel) (pa_cons (pv 2) pa_nil)) (nomark _)) (pss_one (ps_ret pe_bl)) pss_nil)
      (pss_cons (ps_if (pt_cmpR (op_neD hr.units) (pe_meth0 (pe_kw (ok_negative T) (hr.mono (by decide)) rfl T.m_negative T.F_negative.kp T.kb_negative_x pass0 (pk_cons (pv 4) pk_nil)) T.cl_Big T.me_Big_digits (ok_Big_digits T) (hr.mono (by decide)) T.b_Big_digits .nil pass0) (pv 5) (nomark _)) (pss_one (ps_ret pe_bl)) pss_nil)
      (pss_one (ps_ret (pe_call (ok_law_normal_right T) (hr.mono (by decide)) rfl T.m_law_normal_right T.F_law_normal_right.kp T.b_law_normal_right .nil pass0 (pa_cons (pv 0) (pa_cons (pv 1) (pa_cons (pv 4) (pa_cons (pv 2) pa_nil))))))))))))))))))))
theorem ok_law_right (T : Txt K mg a) : FnOk P w K mg base CX0 7 a.f_law_right a.fd_law_right ["_law_source", "_law_machine_here", "_law_n_here"] (sp_k01_right K a.c) := by
  refine T.F_law_right.ok sc_law_right (fun vs H Q E h => ?_) (fun cdv A outer s H vs Q E hr h => ⟨_, dv_law_right T hr, b_k01_right T.PB T.NBig h⟩)
  (repeat (obtain ⟨_, h⟩ := h)); all_goals (subst_vars; rfl)
theorem dv_law {cdv : Value} {A : Around} {outer : List Env} {s : Shared} {H : Hp} {E : XK} (T : Txt K mg a) (hr : Room 7 (A.deeper (envOfC "law" (defScope s_law) s.heap.objs.size a.f_law cdv))) :
    PSs (cxOf CX0 P w K mg base N_law "law" (defScope s_law) a.f_law cdv A outer s H E).nox (defBody s_law) (t_k01_law K a.c) := by
  unfold t_k01_law
  exact (pss_cons (ps_for PassesOwn.never rfl (pi_list (pe_op op_cat (pe_lst (pa_cons (pe_call (ok_law_cell_at T) (hr.mono (by decide)) rfl T.m_law_cell_at T.F_law_cell_at.kp T.b_law_cell_at .nil pass0 (pa_cons (pv 0) (pa_cons pe_int pa_nil))) pa_nil)) (pe_slice sl_list (pv 0) (po_some pe_int) (po_some pe_int)))) (pg_name (i := 1) sc_law.nd rfl (by first | exact Or.inl rfl | exact Or.inr rfl)) (pss_cons (ps_set (i := 2) sc_law.nd rfl (by first | exact Or.inl rfl | exact Or.inr rfl) (pe_call (ok_law_source_of T) (hr.mono (by decide)) rfl T.m_law_source_of T.F_law_source_of.kp T.b_law_source_of .nil pass0 (pa_cons (pv 1) pa_nil)))
      (pss_cons (ps_set (i := 3) sc_law.nd rfl (by first | exact Or.inl rfl | exact Or.inr rfl) (pe_call (ok_law_machine T) (hr.mono (by decide)) rfl T.m_law_machine T.F_law_machine.kp T.b_law_machine .nil pass0 (pa_cons (pv 2) pa_nil)))
      (pss_cons (ps_set (i := 4) sc_law.nd rfl (by first | exact Or.inl rfl | exact Or.inr rfl) (pe_op o_shl pe_int (pe_ix ix_tup (pe_meth0 (pv 3) T.cl_Machine T.me_Machine_parts (ok_Machine_parts T) (hr.mono (by decide)) T.b_Machine_parts .nil pass0) pe_int (fun _ _ => rfl))))
      (pss_cons (ps_set (i := 5) sc_law.nd rfl (by first | exact Or.inl rfl | exact Or.inr rfl) (pe_op op_cat (pe_lst (pa_cons pe_int (pa_cons pe_int (pa_cons (pe_un o_neg pe_int) (pa_cons (pe_op o_sub (pv 4) pe_int) (pa_cons (pv 4) (pa_cons (pe_op o_sub pe_int (pv 4)) (pa_cons (pe_op o_sub (pe_op o_mul (pv 4) (pv 4)) pe_int) pa_nil)))))))) (pe_lc (own := [("_law_k", 6)]) (g := (gName 6)) rfl sc_law.nd (pi_range1 rfl T.n_range (pa_cons pe_int pa_nil)) (blkOk_by (own := [("_law_k", 6)]) (N := N_law) (sc := defScope s_law) (by decide +kernel)) (fun _ _ _ _ _ => (pg_name (i := 6) sc_law.nd rfl (by first | exact Or.inl rfl | exact Or.inr rfl))) (fun _ _ _ _ _ => pts_nil) (fun _ _ _ _ _ => (pe_call (ok_law_number T) (hr.mono (by decide)) rfl T.m_law_number T.F_law_number.kp T.b_law_number .nil pass0 (pa_cons (pv 2) (pa_cons (pv 4) (pa_cons pe_int pa_nil))))))))
      (pss_cons (ps_for PassesOwn.never rfl (pi_list (pv 5)) (pg_name (i := 7) sc_law.nd rfl (by first | exact Or.inl rfl | exact Or.inr rfl)) (pss_one (ps_if (pt_not (pt_val (pe_call (ok_law_right T) (hr.mono (by decide)) rfl T.m_law_right T.F_law_right.kp T.b_law_right .nil pass0 (pa_cons (pv 2) (pa_cons (pv 3) (pa_cons (pv 7) pa_nil)))))) (pss_one (ps_ret pe_bl)) pss_nil)))
      (pss_cons (ps_if (pt_cmpR (op_neD hr.units) (pe_lc (own := [("_law_word", 8), ("_law_number_here", 9)]) (g := (gTup K 2 (gCons (gName 8) (gCons (gName 9) gNil)))) rfl sc_law.nd (pi_list (pe_meth0 (pv 3) T.cl_Machine T.me_Machine_tally (ok_Machine_tally T) (hr.mono (by decide)) T.b_Machine_tally .nil pass0)) (blkOk_by (own := [("_law_word", 8), ("_law_number_here", 9)]) (N := N_law) (sc := defScope s_law) (by decide +kernel)) (fun _ _ _ _ _ => (pg_tup rfl (pgs_cons (pg_name (i := 8) sc_law.nd rfl (by first | exact Or.inl rfl | exact Or.inr rfl)) (pgs_cons (pg_name (i := 9) sc_law.nd rfl (by first | exact Or.inl rfl | exact Or.inr rfl)) pgs_nil)))) (fun _ _ _ _ _ => pts_one (pt_cmpR op_ne (pv 9) pe_int (nomark _))) (fun _ _ _ _ _ => (pv 9))) (pe_lst pa_nil) (nomark _)) (pss_one (ps_ret pe_bl)) pss_nil)
      (pss_cons (ps_if (pt_cmpR (op_neD hr.units) (pe_meth0 (pv 3) T.cl_Machine T.me_Machine_walk (ok_Machine_walk T) (hr.mono (by decide)) T.b_Machine_walk .nil pass0) (pe_lst pa_nil) (nomark _)) (pss_one (ps_ret pe_bl)) pss_nil)
      (pss_cons (ps_set (i := 10) sc_law.nd rfl (by first | exact Or.inl rfl | exact Or.inr rfl) (pe_make T.mk_Machine (ok_Machine_init T) (hr.mono (by decide)) rfl T.g_Machine T.bd_Machine_init_1.2 T.bd_Machine_init_1.1 pass0 (pa_cons (pe_ifExp (pt_cmpR o_lt (pe_ix ix_tup (pe_meth0 (pv 3) T.cl_Machine T.me_Machine_parts (ok_Machine_parts T) (hr.mono (by decide)) T.b_Machine_parts .nil pass0) pe_int (fun _ _ => rfl)) pe_int (nomark _)) (pe_op o_add (pe_ix ix_tup (pe_meth0 (pv 3) T.cl_Machine T.me_Machine_parts (ok_Machine_parts T) (hr.mono (by decide)) T.b_Machine_parts .nil pass0) pe_int (fun _ _ => rfl)) pe_int) pe_int) pa_nil)))
      (pss_one (ps_if (PW.pt (pw_or (pt_cmpR (o_ownEq (ok_Big_eq T) (hr.mono (by decide)) T.eq_Big T.ie_Big T.b_Big_eq pass0) (pe_call (ok_big T) (hr.mono (by decide)) rfl T.m_big T.F_big.kp T.b_big .nil pass0 (pa_cons (pv 10) (pa_cons pe_int pa_nil))) (pe_call (ok_big T) (hr.mono (by decide)) rfl T.m_big T.F_big.kp T.b_big .nil pass0 (pa_cons (pv 3) (pa_cons pe_int pa_nil))) (nomark _)) (pw_or1 (pt_cmpR (o_ownEq (ok_Big_eq T) (hr.mono (by decide)) T.eq_Big T.ie_Big T.b_Big_eq pass0) (pe_call (ok_big T) (hr.mono (by decide)) rfl T.m_big T.F_big.kp T.b_big .nil pass0 (pa_cons (pv 10) (pa_cons pe_int pa_nil))) (pe_call (ok_big T) (hr.mono (by decide)) rfl T.m_big T.F_big.kp T.b_big .nil pass0 (pa_cons (pv 3) (pa_cons pe_int pa_nil))) (nomark _))))) (pss_one (ps_ret pe_bl)) pss_nil)))))))))))
      (pss_cons (ps_if (pt_not (pt_cmpR (op_eqD hr.units) (pe_meth0 (pe_call (ok_big T) (hr.mono (by decide)) rfl T.m_big T.F_big.kp T.b_big .nil pass0 (pa_cons (pe_make0 T.mk_Machine (ok_Machine_init T) (hr.mono (by decide)) rfl T.g_Machine T.bd_Machine_init_0.2 T.bd_Machine_init_0.1 pass0) (pa_cons (pe_op o_pow pe_int pe_int) pa_nil))) T.cl_Big T.me_Big_digits (ok_Big_digits T) (hr.mono (by decide)) T.b_Big_digits .nil pass0) (pe_lst (pa_cons pe_int (pa_cons pe_int (pa_cons pe_int pa_nil)))) (nomark _))) (pss_one (ps_ret pe_bl)) pss_nil)
      (pss_one (ps_ret (pe_cmpR (op_eqD hr.units) (pe_meth0 (pe_call (ok_big T) (hr.mono (by decide)) rfl T.m_big T.F_big.kp T.b_big .nil pass0 (pa_cons (pe_make T.mk_Machine (ok_Machine_init T) (hr.mono (by decide)) rfl T.g_Machine T.b_Machine_init .nil pass0 (pa_cons pe_int (pa_cons pe_int pa_nil))) (pa_cons (pe_un o_neg pe_int) pa_nil))) T.cl_Big T.me_Big_digits (ok_Big_digits T) (hr.mono (by decide)) T.b_Big_digits .nil pass0) (pe_lst (pa_cons pe_int (pa_cons pe_int pa_nil))) (nomark _))))))
theorem ok_law (T : Txt K mg a) : FnOk P w K mg base CX0 8 a.f_law a.fd_law ["_law_script"] (sp_k01_law K a.c) := by
  refine T.F_law.ok sc_law (fun vs H Q E h => ?_) (fun cdv A outer s H vs Q E hr h => ⟨_, dv_law T hr, b_k01_law T.PB h⟩)
  (repeat (obtain ⟨_, h⟩ := h)); all_goals (subst_vars; rfl)
end
theorem all_mk {l : PySem.W.OpenLaw} {w : World} {K : PySem.W.Frag} {h : Heap} {mg : Str → Option Value} {fa : Addr} {CMachine : Addr} {CBig : Addr} {nmBig qBig : Str} {NBig : Addr} {bsBig : List Value} {hdctBig : Bool} {snBig : List Str} {subBig : List Value} {abBig : Bool} {colBig : Option Bool} {ddBig : Option Addr} {k0Big k1Big k2Big k3Big k5Big : Option Value} {newIdBig : String} {ocNBig : Value} {odNBig : Option Addr} {esNBig : Array DictEntry} {epNBig : Nat} {slNBig : Array (Option Value)} {t_LEAST_BITS : Tok} {t_MOST_BITS : Tok} {t_MOST_CUTOFF : Tok} {aWORDS : Addr} {oW1 : Option Addr} {itW : Array Value} {nW : Nat} {slW : Array (Option Value)} {f_is_integer : Addr} {oc_is_integer kV_is_integer dc_is_integer pm_is_integer cd_is_integer ct_is_integer : Value} {od_is_integer an_is_integer : Option Addr} {sl_is_integer : Array (Option Value)} {f_is_between : Addr} {oc_is_between kV_is_between dc_is_between pm_is_between cd_is_between ct_is_between : Value} {od_is_between an_is_between : Option Addr} {sl_is_between : Array (Option Value)} {f_check_integer : Addr} {oc_check_integer kV_check_integer dc_check_integer pm_check_integer cd_check_integer ct_check_integer : Value} {od_check_integer an_check_integer : Option Addr} {sl_check_integer : Array (Option Value)} {f_Machine_init : Addr} {oc_Machine_init kV_Machine_init dc_Machine_init pm_Machine_init cd_Machine_init ct_Machine_init : Value} {od_Machine_init an_Machine_init : Option Addr} {sl_Machine_init : Array (Option Value)} {dT_Machine_init : Addr} {ocT_Machine_init : Value} {odT_Machine_init : Option Addr} {nT_Machine_init : Nat} {slT_Machine_init : Array (Option Value)} {itT_Machine_init : Array Value} {f_Machine_parts : Addr} {oc_Machine_parts kV_Machine_parts dc_Machine_parts pm_Machine_parts cd_Machine_parts ct_Machine_parts : Value} {od_Machine_parts an_Machine_parts : Option Addr} {sl_Machine_parts : Array (Option Value)} {f_Machine_tally : Addr} {oc_Machine_tally kV_Machine_tally dc_Machine_tally pm_Machine_tally cd_Machine_tally ct_Machine_tally : Value} {od_Machine_tally an_Machine_tally : Option Addr} {sl_Machine_tally : Array (Option Value)} {f_Machine_walk : Addr} {oc_Machine_walk kV_Machine_walk dc_Machine_walk pm_Machine_walk cd_Machine_walk ct_Machine_walk : Value} {od_Machine_walk an_Machine_walk : Option Addr} {sl_Machine_walk : Array (Option Value)} {f_check_machine : Addr} {oc_check_machine kV_check_machine dc_check_machine pm_check_machine cd_check_machine ct_check_machine : Value} {od_check_machine an_check_machine : Option Addr} {sl_check_machine : Array (Option Value)} {f_Big_init : Addr} {oc_Big_init kV_Big_init dc_Big_init pm_Big_init cd_Big_init ct_Big_init : Value} {od_Big_init an_Big_init : Option Addr} {sl_Big_init : Array (Option Value)} {f_Big_eq : Addr} {oc_Big_eq kV_Big_eq dc_Big_eq pm_Big_eq cd_Big_eq ct_Big_eq : Value} {od_Big_eq an_Big_eq : Option Addr} {sl_Big_eq : Array (Option Value)} {f_Big_sign : Addr} {oc_Big_sign kV_Big_sign dc_Big_sign pm_Big_sign cd_Big_sign ct_Big_sign : Value} {od_Big_sign an_Big_sign : Option Addr} {sl_Big_sign : Array (Option Value)} {f_Big_digits : Addr} {oc_Big_digits kV_Big_digits dc_Big_digits pm_Big_digits cd_Big_digits ct_Big_digits : Value} {od_Big_digits an_Big_digits : Option Addr} {sl_Big_digits : Array (Option Value)} {f_Big_bits : Addr} {oc_Big_bits kV_Big_bits dc_Big_bits pm_Big_bits cd_Big_bits ct_Big_bits : Value} {od_Big_bits an_Big_bits : Option Addr} {sl_Big_bits : Array (Option Value)} {f_made : Addr} {oc_made kV_made dc_made pm_made cd_made ct_made : Value} {od_made an_made : Option Addr} {sl_made : Array (Option Value)} {f_digits_of : Addr} {oc_digits_of kV_digits_of dc_digits_of pm_digits_of cd_digits_of ct_digits_of : Value} {od_digits_of an_digits_of : Option Addr} {sl_digits_of : Array (Option Value)} {f_big_of : Addr} {oc_big_of kV_big_of dc_big_of pm_big_of cd_big_of ct_big_of : Value} {od_big_of an_big_of : Option Addr} {sl_big_of : Array (Option Value)} {f_value_of : Addr} {oc_value_of kV_value_of dc_value_of pm_value_of cd_value_of ct_value_of : Value} {od_value_of an_value_of : Option Addr} {sl_value_of : Array (Option Value)} {f_check_any : Addr} {oc_check_any kV_check_any dc_check_any pm_check_any cd_check_any ct_check_any : Value} {od_check_any an_check_any : Option Addr} {sl_check_any : Array (Option Value)} {f_is_digits : Addr} {oc_is_digits kV_is_digits dc_is_digits pm_is_digits cd_is_digits ct_is_digits : Value} {od_is_digits an_is_digits : Option Addr} {sl_is_digits : Array (Option Value)} {f_big : Addr} {oc_big kV_big dc_big pm_big cd_big ct_big : Value} {od_big an_big : Option Addr} {sl_big : Array (Option Value)} {f_plain : Addr} {oc_plain kV_plain dc_plain pm_plain cd_plain ct_plain : Value} {od_plain an_plain : Option Addr} {sl_plain : Array (Option Value)} {f_normal : Addr} {oc_normal kV_normal dc_normal pm_normal cd_normal ct_normal : Value} {od_normal an_normal : Option Addr} {sl_normal : Array (Option Value)} {f_negative : Addr} {oc_negative kV_negative dc_negative pm_negative cd_negative ct_negative : Value} {od_negative an_negative : Option Addr} {sl_negative : Array (Option Value)} {f_absolute : Addr} {oc_absolute kV_absolute dc_absolute pm_absolute cd_absolute ct_absolute : Value} {od_absolute an_absolute : Option Addr} {sl_absolute : Array (Option Value)} {f_law_source_of : Addr} {oc_law_source_of kV_law_source_of dc_law_source_of pm_law_source_of cd_law_source_of ct_law_source_of : Value} {od_law_source_of an_law_source_of : Option Addr} {sl_law_source_of : Array (Option Value)} {f_law_next : Addr} {oc_law_next kV_law_next dc_law_next pm_law_next cd_law_next ct_law_next : Value} {od_law_next an_law_next : Option Addr} {sl_law_next : Array (Option Value)} {f_law_one : Addr} {oc_law_one kV_law_one dc_law_one pm_law_one cd_law_one ct_law_one : Value} {od_law_one an_law_one : Option Addr} {sl_law_one : Array (Option Value)} {f_law_cell_at : Addr} {oc_law_cell_at kV_law_cell_at dc_law_cell_at pm_law_cell_at cd_law_cell_at ct_law_cell_at : Value} {od_law_cell_at an_law_cell_at : Option Addr} {sl_law_cell_at : Array (Option Value)} {f_law_machine : Addr} {oc_law_machine kV_law_machine dc_law_machine pm_law_machine cd_law_machine ct_law_machine : Value} {od_law_machine an_law_machine : Option Addr} {sl_law_machine : Array (Option Value)} {f_law_digits : Addr} {oc_law_digits kV_law_digits dc_law_digits pm_law_digits cd_law_digits ct_law_digits : Value} {od_law_digits an_law_digits : Option Addr} {sl_law_digits : Array (Option Value)} {f_law_value : Addr} {oc_law_value kV_law_value dc_law_value pm_law_value cd_law_value ct_law_value : Value} {od_law_value an_law_value : Option Addr} {sl_law_value : Array (Option Value)} {f_law_number : Addr} {oc_law_number kV_law_number dc_law_number pm_law_number cd_law_number ct_law_number : Value} {od_law_number an_law_number : Option Addr} {sl_law_number : Array (Option Value)} {f_law_split : Addr} {oc_law_split kV_law_split dc_law_split pm_law_split cd_law_split ct_law_split : Value} {od_law_split an_law_split : Option Addr} {sl_law_split : Array (Option Value)} {f_law_right : Addr} {oc_law_right kV_law_right dc_law_right pm_law_right cd_law_right ct_law_right : Value} {od_law_right an_law_right : Option Addr} {sl_law_right : Array (Option Value)} {f_law_normal_right : Addr} {oc_law_normal_right kV_law_normal_right dc_law_normal_right pm_law_normal_right cd_law_normal_right ct_law_normal_right : Value} {od_law_normal_right an_law_normal_right : Option Addr} {sl_law_normal_right : Array (Option Value)} {f_law : Addr} {oc_law kV_law dc_law pm_law cd_law ct_law : Value} {od_law an_law : Option Addr} {sl_law : Array (Option Value)} (X : K.In h) (G : h.Ns mainGlobals mg) (hfa : mg "law" = some (.ref fa))
    (aMachine : PySem.W.nsIn K mainGlobals "Machine" = some (some (.ref CMachine)))
    (pgMachine : PySem.W.plainGet K CMachine Str.empty = true)
    (hdMachine : PySem.W.hasDictIn K CMachine = true)
    (poMachine : PySem.W.plainOver K CMachine = true)
    (saMachine : PySem.W.findIn K (.ref CMachine) "__setattr__" = some (some (.builtin "object.__setattr__")))
    (mkMachine : PySem.W.makesIn K CMachine = true)
    (kcMachine : PySem.W.keepIn K (.ref CMachine) = true)
    (haMachine : PySem.W.findIn K (.ref CMachine) "__class__" = some (some (.builtin "object.__class__")))
    (hmMachine : PySem.W.mroIn K CMachine (.type "object") = some true)
    (nfMachine_entered : PySem.W.findIn K (.ref CMachine) "entered" = some none)
    (nfMachine_counts : PySem.W.findIn K (.ref CMachine) "counts" = some none)
    (nfMachine_base : PySem.W.findIn K (.ref CMachine) "base" = some none)
    (nfMachine_limit_of_rows : PySem.W.findIn K (.ref CMachine) "limit_of_rows" = some none)
    (nfMachine_width : PySem.W.findIn K (.ref CMachine) "width" = some none)
    (aBig : PySem.W.nsIn K mainGlobals "Big" = some (some (.ref CBig)))
    (pgBig : PySem.W.plainGet K CBig Str.empty = true)
    (hdBig : PySem.W.hasDictIn K CBig = true)
    (poBig : PySem.W.plainOver K CBig = true)
    (saBig : PySem.W.findIn K (.ref CBig) "__setattr__" = some (some (.builtin "object.__setattr__")))
    (mkBig : PySem.W.makesIn K CBig = true)
    (kcBig : PySem.W.keepIn K (.ref CBig) = true)
    (haBig : PySem.W.findIn K (.ref CBig) "__class__" = some (some (.builtin "object.__class__")))
    (hmBig : PySem.W.mroIn K CBig (.type "object") = some true)
    (lcBig : K.lookup CBig = some (excClassObj nmBig qBig CBig NBig bsBig [.type "object"] hdctBig snBig subBig abBig colBig ddBig k0Big k1Big k2Big k3Big k5Big newIdBig))
    (lNBig : K.lookup NBig = some ⟨ocNBig, odNBig, .dict esNBig epNBig, slNBig⟩)
    (skBig : strKeysB esNBig = true)
    (nfBig_row : PySem.W.findIn K (.ref CBig) "row" = some none)
    (nfBig_side : PySem.W.findIn K (.ref CBig) "side" = some none)
    (nfBig_width : PySem.W.findIn K (.ref CBig) "width" = some none)
    (hsp : PySem.W.specialIn K (.builtin "object.__class__") "__get__" = some (some (.builtin "getset_descriptor.__get__")))
    (htk : PySem.W.takesIn K (.builtin "object.__class__") = some true)
    (g_LEAST_BITS : PySem.W.nsIn K mainGlobals "LEAST_BITS" = some (some (.int 8 t_LEAST_BITS)))
    (g_MOST_BITS : PySem.W.nsIn K mainGlobals "MOST_BITS" = some (some (.int 30 t_MOST_BITS)))
    (g_MOST_CUTOFF : PySem.W.nsIn K mainGlobals "MOST_CUTOFF" = some (some (.int 1000 t_MOST_CUTOFF)))
    (g_WORDS : PySem.W.nsIn K mainGlobals "WORDS" = some (some (.ref aWORDS)))
    (l_WORDS : K.lookup aWORDS = some ⟨.type "tuple", oW1, .seq itW nW, slW⟩)
    (z_WORDS : itW.size ≤ sizeLine)
    (v_WORDS : Vals (words.map V.str) itW.toList)
    (a_is_integer : PySem.W.nsIn K mainGlobals "is_integer" = some (some (.ref f_is_integer)))
    (l_is_integer : K.lookup f_is_integer = some ⟨oc_is_integer, od_is_integer, .func (PySem.W.fnOf "is_integer" "is_integer" (defArgs s_is_integer) (defBody s_is_integer) (defScope s_is_integer) .none kV_is_integer dc_is_integer pm_is_integer an_is_integer cd_is_integer ct_is_integer), sl_is_integer⟩)
    (c_is_integer : PySem.W.codeIn K cd_is_integer "is_integer" = true)
    (k_is_integer : PySem.W.keepIn K (.ref f_is_integer) = true)
    (a_is_between : PySem.W.nsIn K mainGlobals "is_between" = some (some (.ref f_is_between)))
    (l_is_between : K.lookup f_is_between = some ⟨oc_is_between, od_is_between, .func (PySem.W.fnOf "is_between" "is_between" (defArgs s_is_between) (defBody s_is_between) (defScope s_is_between) .none kV_is_between dc_is_between pm_is_between an_is_between cd_is_between ct_is_between), sl_is_between⟩)
    (c_is_between : PySem.W.codeIn K cd_is_between "is_between" = true)
    (k_is_between : PySem.W.keepIn K (.ref f_is_between) = true)
    (a_check_integer : PySem.W.nsIn K mainGlobals "check_integer" = some (some (.ref f_check_integer)))
    (l_check_integer : K.lookup f_check_integer = some ⟨oc_check_integer, od_check_integer, .func (PySem.W.fnOf "check_integer" "check_integer" (defArgs s_check_integer) (defBody s_check_integer) (defScope s_check_integer) .none kV_check_integer dc_check_integer pm_check_integer an_check_integer cd_check_integer ct_check_integer), sl_check_integer⟩)
    (c_check_integer : PySem.W.codeIn K cd_check_integer "check_integer" = true)
    (k_check_integer : PySem.W.keepIn K (.ref f_check_integer) = true)
    (a_Machine_init : PySem.W.findIn K (.ref CMachine) "__init__" = some (some (.ref f_Machine_init)))
    (i_Machine_init : PySem.W.isFn K (.ref f_Machine_init) = true)
    (l_Machine_init : K.lookup f_Machine_init = some ⟨oc_Machine_init, od_Machine_init, .func (PySem.W.fnOf "__init__" "Machine.__init__" (defArgs s_Machine_init) (defBody s_Machine_init) (defScope s_Machine_init) (.ref dT_Machine_init) kV_Machine_init dc_Machine_init pm_Machine_init an_Machine_init cd_Machine_init ct_Machine_init), sl_Machine_init⟩)
    (c_Machine_init : PySem.W.codeIn K cd_Machine_init "Machine.__init__" = true)
    (k_Machine_init : PySem.W.keepIn K (.ref f_Machine_init) = true)
    (lT_Machine_init : K.lookup dT_Machine_init = some ⟨ocT_Machine_init, odT_Machine_init, .seq itT_Machine_init nT_Machine_init, slT_Machine_init⟩)
    (vT_Machine_init : Vals [(.int 30), (.int 70)] itT_Machine_init.toList)
    (a_Machine_parts : PySem.W.findIn K (.ref CMachine) "parts" = some (some (.ref f_Machine_parts)))
    (i_Machine_parts : PySem.W.isFn K (.ref f_Machine_parts) = true)
    (l_Machine_parts : K.lookup f_Machine_parts = some ⟨oc_Machine_parts, od_Machine_parts, .func (PySem.W.fnOf "parts" "Machine.parts" (defArgs s_Machine_parts) (defBody s_Machine_parts) (defScope s_Machine_parts) .none kV_Machine_parts dc_Machine_parts pm_Machine_parts an_Machine_parts cd_Machine_parts ct_Machine_parts), sl_Machine_parts⟩)
    (c_Machine_parts : PySem.W.codeIn K cd_Machine_parts "Machine.parts" = true)
    (k_Machine_parts : PySem.W.keepIn K (.ref f_Machine_parts) = true)
    (a_Machine_tally : PySem.W.findIn K (.ref CMachine) "tally" = some (some (.ref f_Machine_tally)))
    (i_Machine_tally : PySem.W.isFn K (.ref f_Machine_tally) = true)
    (l_Machine_tally : K.lookup f_Machine_tally = some ⟨oc_Machine_tally, od_Machine_tally, .func (PySem.W.fnOf "tally" "Machine.tally" (defArgs s_Machine_tally) (defBody s_Machine_tally) (defScope s_Machine_tally) .none kV_Machine_tally dc_Machine_tally pm_Machine_tally an_Machine_tally cd_Machine_tally ct_Machine_tally), sl_Machine_tally⟩)
    (c_Machine_tally : PySem.W.codeIn K cd_Machine_tally "Machine.tally" = true)
    (k_Machine_tally : PySem.W.keepIn K (.ref f_Machine_tally) = true)
    (a_Machine_walk : PySem.W.findIn K (.ref CMachine) "walk" = some (some (.ref f_Machine_walk)))
    (i_Machine_walk : PySem.W.isFn K (.ref f_Machine_walk) = true)
    (l_Machine_walk : K.lookup f_Machine_walk = some ⟨oc_Machine_walk, od_Machine_walk, .func (PySem.W.fnOf "walk" "Machine.walk" (defArgs s_Machine_walk) (defBody s_Machine_walk) (defScope s_Machine_walk) .none kV_Machine_walk dc_Machine_walk pm_Machine_walk an_Machine_walk cd_Machine_walk ct_Machine_walk), sl_Machine_walk⟩)
    (c_Machine_walk : PySem.W.codeIn K cd_Machine_walk "Machine.walk" = true)
    (k_Machine_walk : PySem.W.keepIn K (.ref f_Machine_walk) = true)
    (a_check_machine : PySem.W.nsIn K mainGlobals "check_machine" = some (some (.ref f_check_machine)))
    (l_check_machine : K.lookup f_check_machine = some ⟨oc_check_machine, od_check_machine, .func (PySem.W.fnOf "check_machine" "check_machine" (defArgs s_check_machine) (defBody s_check_machine) (defScope s_check_machine) .none kV_check_machine dc_check_machine pm_check_machine an_check_machine cd_check_machine ct_check_machine), sl_check_machine⟩)
    (c_check_machine : PySem.W.codeIn K cd_check_machine "check_machine" = true)
    (k_check_machine : PySem.W.keepIn K (.ref f_check_machine) = true)
    (a_Big_init : PySem.W.findIn K (.ref CBig) "__init__" = some (some (.ref f_Big_init)))
    (i_Big_init : PySem.W.isFn K (.ref f_Big_init) = true)
    (l_Big_init : K.lookup f_Big_init = some ⟨oc_Big_init, od_Big_init, .func (PySem.W.fnOf "__init__" "Big.__init__" (defArgs s_Big_init) (defBody s_Big_init) (defScope s_Big_init) .none kV_Big_init dc_Big_init pm_Big_init an_Big_init cd_Big_init ct_Big_init), sl_Big_init⟩)
    (c_Big_init : PySem.W.codeIn K cd_Big_init "Big.__init__" = true)
    (k_Big_init : PySem.W.keepIn K (.ref f_Big_init) = true)
    (a_Big_eq : PySem.W.findIn K (.ref CBig) "__eq__" = some (some (.ref f_Big_eq)))
    (i_Big_eq : PySem.W.isFn K (.ref f_Big_eq) = true)
    (l_Big_eq : K.lookup f_Big_eq = some ⟨oc_Big_eq, od_Big_eq, .func (PySem.W.fnOf "__eq__" "Big.__eq__" (defArgs s_Big_eq) (defBody s_Big_eq) (defScope s_Big_eq) .none kV_Big_eq dc_Big_eq pm_Big_eq an_Big_eq cd_Big_eq ct_Big_eq), sl_Big_eq⟩)
    (c_Big_eq : PySem.W.codeIn K cd_Big_eq "Big.__eq__" = true)
    (k_Big_eq : PySem.W.keepIn K (.ref f_Big_eq) = true)
    (a_Big_sign : PySem.W.findIn K (.ref CBig) "sign" = some (some (.ref f_Big_sign)))
    (i_Big_sign : PySem.W.isFn K (.ref f_Big_sign) = true)
    (l_Big_sign : K.lookup f_Big_sign = some ⟨oc_Big_sign, od_Big_sign, .func (PySem.W.fnOf "sign" "Big.sign" (defArgs s_Big_sign) (defBody s_Big_sign) (defScope s_Big_sign) .none kV_Big_sign dc_Big_sign pm_Big_sign an_Big_sign cd_Big_sign ct_Big_sign), sl_Big_sign⟩)
    (c_Big_sign : PySem.W.codeIn K cd_Big_sign "Big.sign" = true)
    (k_Big_sign : PySem.W.keepIn K (.ref f_Big_sign) = true)
    (a_Big_digits : PySem.W.findIn K (.ref CBig) "digits" = some (some (.ref f_Big_digits)))
    (i_Big_digits : PySem.W.isFn K (.ref f_Big_digits) = true)
    (l_Big_digits : K.lookup f_Big_digits = some ⟨oc_Big_digits, od_Big_digits, .func (PySem.W.fnOf "digits" "Big.digits" (defArgs s_Big_digits) (defBody s_Big_digits) (defScope s_Big_digits) .none kV_Big_digits dc_Big_digits pm_Big_digits an_Big_digits cd_Big_digits ct_Big_digits), sl_Big_digits⟩)
    (c_Big_digits : PySem.W.codeIn K cd_Big_digits "Big.digits" = true)
    (k_Big_digits : PySem.W.keepIn K (.ref f_Big_digits) = true)
    (a_Big_bits : PySem.W.findIn K (.ref CBig) "bits" = some (some (.ref f_Big_bits)))
    (i_Big_bits : PySem.W.isFn K (.ref f_Big_bits) = true)
    (l_Big_bits : K.lookup f_Big_bits = some ⟨oc_Big_bits, od_Big_bits, .func (PySem.W.fnOf "bits" "Big.bits" (defArgs s_Big_bits) (defBody s_Big_bits) (defScope s_Big_bits) .none kV_Big_bits dc_Big_bits pm_Big_bits an_Big_bits cd_Big_bits ct_Big_bits), sl_Big_bits⟩)
    (c_Big_bits : PySem.W.codeIn K cd_Big_bits "Big.bits" = true)
    (k_Big_bits : PySem.W.keepIn K (.ref f_Big_bits) = true)
    (a_made : PySem.W.nsIn K mainGlobals "made" = some (some (.ref f_made)))
    (l_made : K.lookup f_made = some ⟨oc_made, od_made, .func (PySem.W.fnOf "made" "made" (defArgs s_made) (defBody s_made) (defScope s_made) .none kV_made dc_made pm_made an_made cd_made ct_made), sl_made⟩)
    (c_made : PySem.W.codeIn K cd_made "made" = true)
    (k_made : PySem.W.keepIn K (.ref f_made) = true)
    (a_digits_of : PySem.W.nsIn K mainGlobals "digits_of" = some (some (.ref f_digits_of)))
    (l_digits_of : K.lookup f_digits_of = some ⟨oc_digits_of, od_digits_of, .func (PySem.W.fnOf "digits_of" "digits_of" (defArgs s_digits_of) (defBody s_digits_of) (defScope s_digits_of) .none kV_digits_of dc_digits_of pm_digits_of an_digits_of cd_digits_of ct_digits_of), sl_digits_of⟩)
    (c_digits_of : PySem.W.codeIn K cd_digits_of "digits_of" = true)
    (k_digits_of : PySem.W.keepIn K (.ref f_digits_of) = true)
    (a_big_of : PySem.W.nsIn K mainGlobals "big_of" = some (some (.ref f_big_of)))
    (l_big_of : K.lookup f_big_of = some ⟨oc_big_of, od_big_of, .func (PySem.W.fnOf "big_of" "big_of" (defArgs s_big_of) (defBody s_big_of) (defScope s_big_of) .none kV_big_of dc_big_of pm_big_of an_big_of cd_big_of ct_big_of), sl_big_of⟩)
    (c_big_of : PySem.W.codeIn K cd_big_of "big_of" = true)
    (k_big_of : PySem.W.keepIn K (.ref f_big_of) = true)
    (a_value_of : PySem.W.nsIn K mainGlobals "value_of" = some (some (.ref f_value_of)))
    (l_value_of : K.lookup f_value_of = some ⟨oc_value_of, od_value_of, .func (PySem.W.fnOf "value_of" "value_of" (defArgs s_value_of) (defBody s_value_of) (defScope s_value_of) .none kV_value_of dc_value_of pm_value_of an_value_of cd_value_of ct_value_of), sl_value_of⟩)
    (c_value_of : PySem.W.codeIn K cd_value_of "value_of" = true)
    (k_value_of : PySem.W.keepIn K (.ref f_value_of) = true)
    (a_check_any : PySem.W.nsIn K mainGlobals "check_any" = some (some (.ref f_check_any)))
    (l_check_any : K.lookup f_check_any = some ⟨oc_check_any, od_check_any, .func (PySem.W.fnOf "check_any" "check_any" (defArgs s_check_any) (defBody s_check_any) (defScope s_check_any) .none kV_check_any dc_check_any pm_check_any an_check_any cd_check_any ct_check_any), sl_check_any⟩)
    (c_check_any : PySem.W.codeIn K cd_check_any "check_any" = true)
    (k_check_any : PySem.W.keepIn K (.ref f_check_any) = true)
    (a_is_digits : PySem.W.nsIn K mainGlobals "is_digits" = some (some (.ref f_is_digits)))
    (l_is_digits : K.lookup f_is_digits = some ⟨oc_is_digits, od_is_digits, .func (PySem.W.fnOf "is_digits" "is_digits" (defArgs s_is_digits) (defBody s_is_digits) (defScope s_is_digits) .none kV_is_digits dc_is_digits pm_is_digits an_is_digits cd_is_digits ct_is_digits), sl_is_digits⟩)
    (c_is_digits : PySem.W.codeIn K cd_is_digits "is_digits" = true)
    (k_is_digits : PySem.W.keepIn K (.ref f_is_digits) = true)
    (a_big : PySem.W.nsIn K mainGlobals "big" = some (some (.ref f_big)))
    (l_big : K.lookup f_big = some ⟨oc_big, od_big, .func (PySem.W.fnOf "big" "big" (defArgs s_big) (defBody s_big) (defScope s_big) .none kV_big dc_big pm_big an_big cd_big ct_big), sl_big⟩)
    (c_big : PySem.W.codeIn K cd_big "big" = true)
    (k_big : PySem.W.keepIn K (.ref f_big) = true)
    (a_plain : PySem.W.nsIn K mainGlobals "plain" = some (some (.ref f_plain)))
    (l_plain : K.lookup f_plain = some ⟨oc_plain, od_plain, .func (PySem.W.fnOf "plain" "plain" (defArgs s_plain) (defBody s_plain) (defScope s_plain) .none kV_plain dc_plain pm_plain an_plain cd_plain ct_plain), sl_plain⟩)
    (c_plain : PySem.W.codeIn K cd_plain "plain" = true)
    (k_plain : PySem.W.keepIn K (.ref f_plain) = true)
    (a_normal : PySem.W.nsIn K mainGlobals "normal" = some (some (.ref f_normal)))
    (l_normal : K.lookup f_normal = some ⟨oc_normal, od_normal, .func (PySem.W.fnOf "normal" "normal" (defArgs s_normal) (defBody s_normal) (defScope s_normal) .none kV_normal dc_normal pm_normal an_normal cd_normal ct_normal), sl_normal⟩)
    (c_normal : PySem.W.codeIn K cd_normal "normal" = true)
    (k_normal : PySem.W.keepIn K (.ref f_normal) = true)
    (a_negative : PySem.W.nsIn K mainGlobals "negative" = some (some (.ref f_negative)))
    (l_negative : K.lookup f_negative = some ⟨oc_negative, od_negative, .func (PySem.W.fnOf "negative" "negative" (defArgs s_negative) (defBody s_negative) (defScope s_negative) .none kV_negative dc_negative pm_negative an_negative cd_negative ct_negative), sl_negative⟩)
    (c_negative : PySem.W.codeIn K cd_negative "negative" = true)
    (k_negative : PySem.W.keepIn K (.ref f_negative) = true)
    (a_absolute : PySem.W.nsIn K mainGlobals "absolute" = some (some (.ref f_absolute)))
    (l_absolute : K.lookup f_absolute = some ⟨oc_absolute, od_absolute, .func (PySem.W.fnOf "absolute" "absolute" (defArgs s_absolute) (defBody s_absolute) (defScope s_absolute) .none kV_absolute dc_absolute pm_absolute an_absolute cd_absolute ct_absolute), sl_absolute⟩)
    (c_absolute : PySem.W.codeIn K cd_absolute "absolute" = true)
    (k_absolute : PySem.W.keepIn K (.ref f_absolute) = true)
    (a_law_source_of : PySem.W.nsIn K mainGlobals "_law_source_of" = some (some (.ref f_law_source_of)))
    (l_law_source_of : K.lookup f_law_source_of = some ⟨oc_law_source_of, od_law_source_of, .func (PySem.W.fnOf "_law_source_of" "_law_source_of" (defArgs s_law_source_of) (defBody s_law_source_of) (defScope s_law_source_of) .none kV_law_source_of dc_law_source_of pm_law_source_of an_law_source_of cd_law_source_of ct_law_source_of), sl_law_source_of⟩)
    (c_law_source_of : PySem.W.codeIn K cd_law_source_of "_law_source_of" = true)
    (k_law_source_of : PySem.W.keepIn K (.ref f_law_source_of) = true)
    (a_law_next : PySem.W.nsIn K mainGlobals "_law_next" = some (some (.ref f_law_next)))
    (l_law_next : K.lookup f_law_next = some ⟨oc_law_next, od_law_next, .func (PySem.W.fnOf "_law_next" "_law_next" (defArgs s_law_next) (defBody s_law_next) (defScope s_law_next) .none kV_law_next dc_law_next pm_law_next an_law_next cd_law_next ct_law_next), sl_law_next⟩)
    (c_law_next : PySem.W.codeIn K cd_law_next "_law_next" = true)
    (k_law_next : PySem.W.keepIn K (.ref f_law_next) = true)
    (a_law_one : PySem.W.nsIn K mainGlobals "_law_one" = some (some (.ref f_law_one)))
    (l_law_one : K.lookup f_law_one = some ⟨oc_law_one, od_law_one, .func (PySem.W.fnOf "_law_one" "_law_one" (defArgs s_law_one) (defBody s_law_one) (defScope s_law_one) .none kV_law_one dc_law_one pm_law_one an_law_one cd_law_one ct_law_one), sl_law_one⟩)
    (c_law_one : PySem.W.codeIn K cd_law_one "_law_one" = true)
    (k_law_one : PySem.W.keepIn K (.ref f_law_one) = true)
    (a_law_cell_at : PySem.W.nsIn K mainGlobals "_law_cell_at" = some (some (.ref f_law_cell_at)))
    (l_law_cell_at : K.lookup f_law_cell_at = some ⟨oc_law_cell_at, od_law_cell_at, .func (PySem.W.fnOf "_law_cell_at" "_law_cell_at" (defArgs s_law_cell_at) (defBody s_law_cell_at) (defScope s_law_cell_at) .none kV_law_cell_at dc_law_cell_at pm_law_cell_at an_law_cell_at cd_law_cell_at ct_law_cell_at), sl_law_cell_at⟩)
    (c_law_cell_at : PySem.W.codeIn K cd_law_cell_at "_law_cell_at" = true)
    (k_law_cell_at : PySem.W.keepIn K (.ref f_law_cell_at) = true)
    (a_law_machine : PySem.W.nsIn K mainGlobals "_law_machine" = some (some (.ref f_law_machine)))
    (l_law_machine : K.lookup f_law_machine = some ⟨oc_law_machine, od_law_machine, .func (PySem.W.fnOf "_law_machine" "_law_machine" (defArgs s_law_machine) (defBody s_law_machine) (defScope s_law_machine) .none kV_law_machine dc_law_machine pm_law_machine an_law_machine cd_law_machine ct_law_machine), sl_law_machine⟩)
    (c_law_machine : PySem.W.codeIn K cd_law_machine "_law_machine" = true)
    (k_law_machine : PySem.W.keepIn K (.ref f_law_machine) = true)
    (a_law_digits : PySem.W.nsIn K mainGlobals "_law_digits" = some (some (.ref f_law_digits)))
    (l_law_digits : K.lookup f_law_digits = some ⟨oc_law_digits, od_law_digits, .func (PySem.W.fnOf "_law_digits" "_law_digits" (defArgs s_law_digits) (defBody s_law_digits) (defScope s_law_digits) .none kV_law_digits dc_law_digits pm_law_digits an_law_digits cd_law_digits ct_law_digits), sl_law_digits⟩)
    (c_law_digits : PySem.W.codeIn K cd_law_digits "_law_digits" = true)
    (k_law_digits : PySem.W.keepIn K (.ref f_law_digits) = true)
    (a_law_value : PySem.W.nsIn K mainGlobals "_law_value" = some (some (.ref f_law_value)))
    (l_law_value : K.lookup f_law_value = some ⟨oc_law_value, od_law_value, .func (PySem.W.fnOf "_law_value" "_law_value" (defArgs s_law_value) (defBody s_law_value) (defScope s_law_value) .none kV_law_value dc_law_value pm_law_value an_law_value cd_law_value ct_law_value), sl_law_value⟩)
    (c_law_value : PySem.W.codeIn K cd_law_value "_law_value" = true)
    (k_law_value : PySem.W.keepIn K (.ref f_law_value) = true)
    (a_law_number : PySem.W.nsIn K mainGlobals "_law_number" = some (some (.ref f_law_number)))
    (l_law_number : K.lookup f_law_number = some ⟨oc_law_number, od_law_number, .func (PySem.W.fnOf "_law_number" "_law_number" (defArgs s_law_number) (defBody s_law_number) (defScope s_law_number) .none kV_law_number dc_law_number pm_law_number an_law_number cd_law_number ct_law_number), sl_law_number⟩)
    (c_law_number : PySem.W.codeIn K cd_law_number "_law_number" = true)
    (k_law_number : PySem.W.keepIn K (.ref f_law_number) = true)
    (a_law_split : PySem.W.nsIn K mainGlobals "_law_split" = some (some (.ref f_law_split)))
    (l_law_split : K.lookup f_law_split = some ⟨oc_law_split, od_law_split, .func (PySem.W.fnOf "_law_split" "_law_split" (defArgs s_law_split) (defBody s_law_split) (defScope s_law_split) .none kV_law_split dc_law_split pm_law_split an_law_split cd_law_split ct_law_split), sl_law_split⟩)
    (c_law_split : PySem.W.codeIn K cd_law_split "_law_split" = true)
    (k_law_split : PySem.W.keepIn K (.ref f_law_split) = true)
    (a_law_right : PySem.W.nsIn K mainGlobals "_law_right" = some (some (.ref f_law_right)))
    (l_law_right : K.lookup f_law_right = some ⟨oc_law_right, od_law_right, .func (PySem.W.fnOf "_law_right" "_law_right" (defArgs s_law_right) (defBody s_law_right) (defScope s_law_right) .none kV_law_right dc_law_right pm_law_right an_law_right cd_law_right ct_law_right), sl_law_right⟩)
    (c_law_right : PySem.W.codeIn K cd_law_right "_law_right" = true)
    (k_law_right : PySem.W.keepIn K (.ref f_law_right) = true)
    (a_law_normal_right : PySem.W.nsIn K mainGlobals "_law_normal_right" = some (some (.ref f_law_normal_right)))
    (l_law_normal_right : K.lookup f_law_normal_right = some ⟨oc_law_normal_right, od_law_normal_right, .func (PySem.W.fnOf "_law_normal_right" "_law_normal_right" (defArgs s_law_normal_right) (defBody s_law_normal_right) (defScope s_law_normal_right) .none kV_law_normal_right dc_law_normal_right pm_law_normal_right an_law_normal_right cd_law_normal_right ct_law_normal_right), sl_law_normal_right⟩)
    (c_law_normal_right : PySem.W.codeIn K cd_law_normal_right "_law_normal_right" = true)
    (k_law_normal_right : PySem.W.keepIn K (.ref f_law_normal_right) = true)
    (a_law : PySem.W.nsIn K mainGlobals "law" = some (some (.ref f_law)))
    (l_law : K.lookup f_law = some ⟨oc_law, od_law, .func (PySem.W.fnOf "law" "law" (defArgs s_law) (defBody s_law) (defScope s_law) .none kV_law dc_law pm_law an_law cd_law ct_law), sl_law⟩)
    (c_law : PySem.W.codeIn K cd_law "law" = true)
    (k_law : PySem.W.keepIn K (.ref f_law) = true)
    (qeBig : nsFind esNBig "__eq__" = some (.ref f_Big_eq))
    (qnBig : nsFind esNBig "__ne__" = none)
    (qfBig : oc_Big_eq = .type "function")
    (icBig : PySem.W.isClsIn K CBig = true)
    (tyBig : PySem.W.typeIn K (.ref CBig) = some (.type "type"))
    (sbBig_int : PySem.W.subIn K (.type "int") (.ref CBig) = some false)
    (sbBig_list : PySem.W.subIn K (.type "list") (.ref CBig) = some false)
    (sbBig_str : PySem.W.subIn K (.type "str") (.ref CBig) = some false)
    (sbBig_NoneType : PySem.W.subIn K (.type "NoneType") (.ref CBig) = some false)
    (sbBig_bool : PySem.W.subIn K (.type "bool") (.ref CBig) = some false)
    (sbBig_tuple : PySem.W.subIn K (.type "tuple") (.ref CBig) = some false)
    (sbBig_dict : PySem.W.subIn K (.type "dict") (.ref CBig) = some false)
    (z_abs : PySem.W.nsIn K mainGlobals "abs" = some none)
    (z_all : PySem.W.nsIn K mainGlobals "all" = some none)
    (z_any : PySem.W.nsIn K mainGlobals "any" = some none)
    (z_bool : PySem.W.nsIn K mainGlobals "bool" = some none)
    (z_dict : PySem.W.nsIn K mainGlobals "dict" = some none)
    (z_int : PySem.W.nsIn K mainGlobals "int" = some none)
    (z_isinstance : PySem.W.nsIn K mainGlobals "isinstance" = some none)
    (z_len : PySem.W.nsIn K mainGlobals "len" = some none)
    (z_list : PySem.W.nsIn K mainGlobals "list" = some none)
    (z_range : PySem.W.nsIn K mainGlobals "range" = some none)
    (z_tuple : PySem.W.nsIn K mainGlobals "tuple" = some none)
    : ∃ fd : FuncData, (∀ (s : Shared) (v : Value), BindsTo s fd ⟨[v], []⟩ [("_law_script", v)]) ∧ ∀ base : Heap, K.In base → base.Ns mainGlobals mg → FnOk l.prog w K mg base CX0 8 fa fd ["_law_script"] (sp_law0 K) := by
  have e : f_law = fa := by
    have q := (PySem.W.mg_of X G a_law).symm.trans hfa
    exact Value.ref.inj (Option.some.inj q)
  subst e
  have F_is_integer := fun_mk (st := s_is_integer) l_is_integer c_is_integer k_is_integer
  have b_is_integer := F_is_integer.binds (ps := ["value"]) fun _ _ _ _ _ _ us hl => match us, hl with | [_], _ => rfl
  have F_is_between := fun_mk (st := s_is_between) l_is_between c_is_between k_is_between
  have b_is_between := F_is_between.binds (ps := ["value", "low", "high"]) fun _ _ _ _ _ _ us hl => match us, hl with | [_, _, _], _ => rfl
  have F_check_integer := fun_mk (st := s_check_integer) l_check_integer c_check_integer k_check_integer
  have b_check_integer := F_check_integer.binds (ps := ["argument", "value"]) fun _ _ _ _ _ _ us hl => match us, hl with | [_, _], _ => rfl
  have F_Machine_init : FunD K "__init__" "Machine.__init__" (defArgs s_Machine_init) (defBody s_Machine_init) (defScope s_Machine_init) [(.int 30), (.int 70)] [] f_Machine_init _ := ⟨⟨_, _, _, _, _, _, _, _, _, _, rfl, l_Machine_init, c_Machine_init, .inr ⟨by simp, dT_Machine_init, _, itT_Machine_init.toList, nT_Machine_init, rfl, lT_Machine_init, by simp, vT_Machine_init⟩, .inl rfl⟩, k_Machine_init⟩
  obtain ⟨dsf_Machine_init, vf_Machine_init, b_Machine_init⟩ := F_Machine_init.binds1 (ps := ["self", "bits", "cutoff"]) 3 2 (by simp) (by decide) (fun _ _ _ _ _ _ _ us its h1 h2 => match us, its, h1, h2 with | [_, _, _], [_, _], _, _ => ⟨_, rfl, rfl⟩)
  cases vf_Machine_init
  have F_Machine_parts := fun_mk (st := s_Machine_parts) l_Machine_parts c_Machine_parts k_Machine_parts
  have b_Machine_parts := F_Machine_parts.binds (ps := ["self"]) fun _ _ _ _ _ _ us hl => match us, hl with | [_], _ => rfl
  have F_Machine_tally := fun_mk (st := s_Machine_tally) l_Machine_tally c_Machine_tally k_Machine_tally
  have b_Machine_tally := F_Machine_tally.binds (ps := ["self"]) fun _ _ _ _ _ _ us hl => match us, hl with | [_], _ => rfl
  have F_Machine_walk := fun_mk (st := s_Machine_walk) l_Machine_walk c_Machine_walk k_Machine_walk
  have b_Machine_walk := F_Machine_walk.binds (ps := ["self"]) fun _ _ _ _ _ _ us hl => match us, hl with | [_], _ => rfl
  have F_check_machine := fun_mk (st := s_check_machine) l_check_machine c_check_machine k_check_machine
  have b_check_machine := F_check_machine.binds (ps := ["value"]) fun _ _ _ _ _ _ us hl => match us, hl with | [_], _ => rfl
  have F_Big_init := fun_mk (st := s_Big_init) l_Big_init c_Big_init k_Big_init
  have b_Big_init := F_Big_init.binds (ps := ["self", "width", "side", "row"]) fun _ _ _ _ _ _ us hl => match us, hl with | [_, _, _, _], _ => rfl
  have F_Big_eq := fun_mk (st := s_Big_eq) l_Big_eq c_Big_eq k_Big_eq
  have b_Big_eq := F_Big_eq.binds (ps := ["self", "other"]) fun _ _ _ _ _ _ us hl => match us, hl with | [_, _], _ => rfl
  have F_Big_sign := fun_mk (st := s_Big_sign) l_Big_sign c_Big_sign k_Big_sign
  have b_Big_sign := F_Big_sign.binds (ps := ["self"]) fun _ _ _ _ _ _ us hl => match us, hl with | [_], _ => rfl
  have F_Big_digits := fun_mk (st := s_Big_digits) l_Big_digits c_Big_digits k_Big_digits
  have b_Big_digits := F_Big_digits.binds (ps := ["self"]) fun _ _ _ _ _ _ us hl => match us, hl with | [_], _ => rfl
  have F_Big_bits := fun_mk (st := s_Big_bits) l_Big_bits c_Big_bits k_Big_bits
  have b_Big_bits := F_Big_bits.binds (ps := ["self"]) fun _ _ _ _ _ _ us hl => match us, hl with | [_], _ => rfl
  have F_made := fun_mk (st := s_made) l_made c_made k_made
  have b_made := F_made.binds (ps := ["machine", "side", "digits"]) fun _ _ _ _ _ _ us hl => match us, hl with | [_, _, _], _ => rfl
  have F_digits_of := fun_mk (st := s_digits_of) l_digits_of c_digits_of k_digits_of
  have b_digits_of := F_digits_of.binds (ps := ["machine", "n"]) fun _ _ _ _ _ _ us hl => match us, hl with | [_, _], _ => rfl
  have F_big_of := fun_mk (st := s_big_of) l_big_of c_big_of k_big_of
  have b_big_of := F_big_of.binds (ps := ["machine", "n"]) fun _ _ _ _ _ _ us hl => match us, hl with | [_, _], _ => rfl
  have F_value_of := fun_mk (st := s_value_of) l_value_of c_value_of k_value_of
  have b_value_of := F_value_of.binds (ps := ["x"]) fun _ _ _ _ _ _ us hl => match us, hl with | [_], _ => rfl
  have F_check_any := fun_mk (st := s_check_any) l_check_any c_check_any k_check_any
  have b_check_any := F_check_any.binds (ps := ["value"]) fun _ _ _ _ _ _ us hl => match us, hl with | [_], _ => rfl
  have F_is_digits := fun_mk (st := s_is_digits) l_is_digits c_is_digits k_is_digits
  have b_is_digits := F_is_digits.binds (ps := ["machine", "value"]) fun _ _ _ _ _ _ us hl => match us, hl with | [_, _], _ => rfl
  have F_big := fun_mk (st := s_big) l_big c_big k_big
  have b_big := F_big.binds (ps := ["machine", "n"]) fun _ _ _ _ _ _ us hl => match us, hl with | [_, _], _ => rfl
  have F_plain := fun_mk (st := s_plain) l_plain c_plain k_plain
  have b_plain := F_plain.binds (ps := ["x"]) fun _ _ _ _ _ _ us hl => match us, hl with | [_], _ => rfl
  have F_normal := fun_mk (st := s_normal) l_normal c_normal k_normal
  have b_normal := F_normal.binds (ps := ["machine", "sign", "digits"]) fun _ _ _ _ _ _ us hl => match us, hl with | [_, _, _], _ => rfl
  have F_negative := fun_mk (st := s_negative) l_negative c_negative k_negative
  have b_negative := F_negative.binds (ps := ["x"]) fun _ _ _ _ _ _ us hl => match us, hl with | [_], _ => rfl
  have F_absolute := fun_mk (st := s_absolute) l_absolute c_absolute k_absolute
  have b_absolute := F_absolute.binds (ps := ["x"]) fun _ _ _ _ _ _ us hl => match us, hl with | [_], _ => rfl
  have F_law_source_of := fun_mk (st := s_law_source_of) l_law_source_of c_law_source_of k_law_source_of
  have b_law_source_of := F_law_source_of.binds (ps := ["_law_cell"]) fun _ _ _ _ _ _ us hl => match us, hl with | [_], _ => rfl
  have F_law_next := fun_mk (st := s_law_next) l_law_next c_law_next k_law_next
  have b_law_next := F_law_next.binds (ps := ["_law_source", "_law_count_of"]) fun _ _ _ _ _ _ us hl => match us, hl with | [_, _], _ => rfl
  have F_law_one := fun_mk (st := s_law_one) l_law_one c_law_one k_law_one
  have b_law_one := F_law_one.binds (ps := ["_law_source", "_law_some"]) fun _ _ _ _ _ _ us hl => match us, hl with | [_, _], _ => rfl
  have F_law_cell_at := fun_mk (st := s_law_cell_at) l_law_cell_at c_law_cell_at k_law_cell_at
  have b_law_cell_at := F_law_cell_at.binds (ps := ["_law_script", "_law_index"]) fun _ _ _ _ _ _ us hl => match us, hl with | [_, _], _ => rfl
  have F_law_machine := fun_mk (st := s_law_machine) l_law_machine c_law_machine k_law_machine
  have b_law_machine := F_law_machine.binds (ps := ["_law_source"]) fun _ _ _ _ _ _ us hl => match us, hl with | [_], _ => rfl
  have F_law_digits := fun_mk (st := s_law_digits) l_law_digits c_law_digits k_law_digits
  have b_law_digits := F_law_digits.binds (ps := ["_law_source", "_law_base", "_law_most"]) fun _ _ _ _ _ _ us hl => match us, hl with | [_, _, _], _ => rfl
  have F_law_value := fun_mk (st := s_law_value) l_law_value c_law_value k_law_value
  have b_law_value := F_law_value.binds (ps := ["_law_digits_here", "_law_base"]) fun _ _ _ _ _ _ us hl => match us, hl with | [_, _], _ => rfl
  have F_law_number := fun_mk (st := s_law_number) l_law_number c_law_number k_law_number
  have b_law_number := F_law_number.binds (ps := ["_law_source", "_law_base", "_law_most"]) fun _ _ _ _ _ _ us hl => match us, hl with | [_, _, _], _ => rfl
  have F_law_split := fun_mk (st := s_law_split) l_law_split c_law_split k_law_split
  have b_law_split := F_law_split.binds (ps := ["_law_n_here", "_law_base"]) fun _ _ _ _ _ _ us hl => match us, hl with | [_, _], _ => rfl
  have F_law_right := fun_mk (st := s_law_right) l_law_right c_law_right k_law_right
  have b_law_right := F_law_right.binds (ps := ["_law_source", "_law_machine_here", "_law_n_here"]) fun _ _ _ _ _ _ us hl => match us, hl with | [_, _, _], _ => rfl
  have F_law_normal_right := fun_mk (st := s_law_normal_right) l_law_normal_right c_law_normal_right k_law_normal_right
  have b_law_normal_right := F_law_normal_right.binds (ps := ["_law_source", "_law_machine_here", "_law_x_here", "_law_n_here"]) fun _ _ _ _ _ _ us hl => match us, hl with | [_, _, _, _], _ => rfl
  have F_law := fun_mk (st := s_law) l_law c_law k_law
  have b_law := F_law.binds (ps := ["_law_script"]) fun _ _ _ _ _ _ us hl => match us, hl with | [_], _ => rfl
  obtain ⟨ds_Machine_init_0, vd_Machine_init_0, bd_Machine_init_0⟩ := F_Machine_init.binds1 (ps := ["self", "bits", "cutoff"]) 1 0 (by simp) (by decide) (fun _ _ _ _ _ _ _ us its h1 h2 => match us, its, h1, h2 with | [_], [_, _], _, _ => ⟨_, rfl, rfl⟩)
  obtain ⟨ds_Machine_init_1, vd_Machine_init_1, bd_Machine_init_1⟩ := F_Machine_init.binds1 (ps := ["self", "bits", "cutoff"]) 2 1 (by simp) (by decide) (fun _ _ _ _ _ _ _ us its h1 h2 => match us, its, h1, h2 with | [_, _], [_, _], _, _ => ⟨_, rfl, rfl⟩)
  have kb_absolute_x : KB0 K _ ["x"] ["x"] (permV [0]) (perm [0]) := kb_of F_absolute fun _ _ _ _ _ _ ws hl => match ws, hl with | [_], _ => rfl
  have kb_big_n_machine : KB0 K _ ["machine", "n"] ["n", "machine"] (permV [1, 0]) (perm [1, 0]) := kb_of F_big fun _ _ _ _ _ _ ws hl => match ws, hl with | [_, _], _ => rfl
  have kb_negative_x : KB0 K _ ["x"] ["x"] (permV [0]) (perm [0]) := kb_of F_negative fun _ _ _ _ _ _ ws hl => match ws, hl with | [_], _ => rfl
  have kb_normal_digits_sign_machine : KB0 K _ ["machine", "sign", "digits"] ["digits", "sign", "machine"] (permV [2, 1, 0]) (perm [2, 1, 0]) := kb_of F_normal fun _ _ _ _ _ _ ws hl => match ws, hl with | [_, _, _], _ => rfl
  have kb_plain_x : KB0 K _ ["x"] ["x"] (permV [0]) (perm [0]) := kb_of F_plain fun _ _ _ _ _ _ ws hl => match ws, hl with | [_], _ => rfl
  let c : Pc := ⟨CMachine, CBig, 0, aWORDS, 0⟩
  let a : Ad := ⟨c, f_is_integer, (PySem.W.fnOf "is_integer" "is_integer" (defArgs s_is_integer) (defBody s_is_integer) (defScope s_is_integer) .none kV_is_integer dc_is_integer pm_is_integer an_is_integer cd_is_integer ct_is_integer), f_is_between, (PySem.W.fnOf "is_between" "is_between" (defArgs s_is_between) (defBody s_is_between) (defScope s_is_between) .none kV_is_between dc_is_between pm_is_between an_is_between cd_is_between ct_is_between), f_check_integer, (PySem.W.fnOf "check_integer" "check_integer" (defArgs s_check_integer) (defBody s_check_integer) (defScope s_check_integer) .none kV_check_integer dc_check_integer pm_check_integer an_check_integer cd_check_integer ct_check_integer), f_Machine_init, (PySem.W.fnOf "__init__" "Machine.__init__" (defArgs s_Machine_init) (defBody s_Machine_init) (defScope s_Machine_init) (.ref dT_Machine_init) kV_Machine_init dc_Machine_init pm_Machine_init an_Machine_init cd_Machine_init ct_Machine_init), f_Machine_parts, (PySem.W.fnOf "parts" "Machine.parts" (defArgs s_Machine_parts) (defBody s_Machine_parts) (defScope s_Machine_parts) .none kV_Machine_parts dc_Machine_parts pm_Machine_parts an_Machine_parts cd_Machine_parts ct_Machine_parts), f_Machine_tally, (PySem.W.fnOf "tally" "Machine.tally" (defArgs s_Machine_tally) (defBody s_Machine_tally) (defScope s_Machine_tally) .none kV_Machine_tally dc_Machine_tally pm_Machine_tally an_Machine_tally cd_Machine_tally ct_Machine_tally), f_Machine_walk, (PySem.W.fnOf "walk" "Machine.walk" (defArgs s_Machine_walk) (defBody s_Machine_walk) (defScope s_Machine_walk) .none kV_Machine_walk dc_Machine_walk pm_Machine_walk an_Machine_walk cd_Machine_walk ct_Machine_walk), f_check_machine, (PySem.W.fnOf "check_machine" "check_machine" (defArgs s_check_machine) (defBody s_check_machine) (defScope s_check_machine) .none kV_check_machine dc_check_machine pm_check_machine an_check_machine cd_check_machine ct_check_machine), f_Big_init, (PySem.W.fnOf "__init__" "Big.__init__" (defArgs s_Big_init) (defBody s_Big_init) (defScope s_Big_init) .none kV_Big_init dc_Big_init pm_Big_init an_Big_init cd_Big_init ct_Big_init), f_Big_eq, (PySem.W.fnOf "__eq__" "Big.__eq__" (defArgs s_Big_eq) (defBody s_Big_eq) (defScope s_Big_eq) .none kV_Big_eq dc_Big_eq pm_Big_eq an_Big_eq cd_Big_eq ct_Big_eq), f_Big_sign, (PySem.W.fnOf "sign" "Big.sign" (defArgs s_Big_sign) (defBody s_Big_sign) (defScope s_Big_sign) .none kV_Big_sign dc_Big_sign pm_Big_sign an_Big_sign cd_Big_sign ct_Big_sign), f_Big_digits, (PySem.W.fnOf "digits" "Big.digits" (defArgs s_Big_digits) (defBody s_Big_digits) (defScope s_Big_digits) .none kV_Big_digits dc_Big_digits pm_Big_digits an_Big_digits cd_Big_digits ct_Big_digits), f_Big_bits, (PySem.W.fnOf "bits" "Big.bits" (defArgs s_Big_bits) (defBody s_Big_bits) (defScope s_Big_bits) .none kV_Big_bits dc_Big_bits pm_Big_bits an_Big_bits cd_Big_bits ct_Big_bits), f_made, (PySem.W.fnOf "made" "made" (defArgs s_made) (defBody s_made) (defScope s_made) .none kV_made dc_made pm_made an_made cd_made ct_made), f_digits_of, (PySem.W.fnOf "digits_of" "digits_of" (defArgs s_digits_of) (defBody s_digits_of) (defScope s_digits_of) .none kV_digits_of dc_digits_of pm_digits_of an_digits_of cd_digits_of ct_digits_of), f_big_of, (PySem.W.fnOf "big_of" "big_of" (defArgs s_big_of) (defBody s_big_of) (defScope s_big_of) .none kV_big_of dc_big_of pm_big_of an_big_of cd_big_of ct_big_of), f_value_of, (PySem.W.fnOf "value_of" "value_of" (defArgs s_value_of) (defBody s_value_of) (defScope s_value_of) .none kV_value_of dc_value_of pm_value_of an_value_of cd_value_of ct_value_of), f_check_any, (PySem.W.fnOf "check_any" "check_any" (defArgs s_check_any) (defBody s_check_any) (defScope s_check_any) .none kV_check_any dc_check_any pm_check_any an_check_any cd_check_any ct_check_any), f_is_digits, (PySem.W.fnOf "is_digits" "is_digits" (defArgs s_is_digits) (defBody s_is_digits) (defScope s_is_digits) .none kV_is_digits dc_is_digits pm_is_digits an_is_digits cd_is_digits ct_is_digits), f_big, (PySem.W.fnOf "big" "big" (defArgs s_big) (defBody s_big) (defScope s_big) .none kV_big dc_big pm_big an_big cd_big ct_big), f_plain, (PySem.W.fnOf "plain" "plain" (defArgs s_plain) (defBody s_plain) (defScope s_plain) .none kV_plain dc_plain pm_plain an_plain cd_plain ct_plain), f_normal, (PySem.W.fnOf "normal" "normal" (defArgs s_normal) (defBody s_normal) (defScope s_normal) .none kV_normal dc_normal pm_normal an_normal cd_normal ct_normal), f_negative, (PySem.W.fnOf "negative" "negative" (defArgs s_negative) (defBody s_negative) (defScope s_negative) .none kV_negative dc_negative pm_negative an_negative cd_negative ct_negative), f_absolute, (PySem.W.fnOf "absolute" "absolute" (defArgs s_absolute) (defBody s_absolute) (defScope s_absolute) .none kV_absolute dc_absolute pm_absolute an_absolute cd_absolute ct_absolute), f_law_source_of, (PySem.W.fnOf "_law_source_of" "_law_source_of" (defArgs s_law_source_of) (defBody s_law_source_of) (defScope s_law_source_of) .none kV_law_source_of dc_law_source_of pm_law_source_of an_law_source_of cd_law_source_of ct_law_source_of), f_law_next, (PySem.W.fnOf "_law_next" "_law_next" (defArgs s_law_next) (defBody s_law_next) (defScope s_law_next) .none kV_law_next dc_law_next pm_law_next an_law_next cd_law_next ct_law_next), f_law_one, (PySem.W.fnOf "_law_one" "_law_one" (defArgs s_law_one) (defBody s_law_one) (defScope s_law_one) .none kV_law_one dc_law_one pm_law_one an_law_one cd_law_one ct_law_one), f_law_cell_at, (PySem.W.fnOf "_law_cell_at" "_law_cell_at" (defArgs s_law_cell_at) (defBody s_law_cell_at) (defScope s_law_cell_at) .none kV_law_cell_at dc_law_cell_at pm_law_cell_at an_law_cell_at cd_law_cell_at ct_law_cell_at), f_law_machine, (PySem.W.fnOf "_law_machine" "_law_machine" (defArgs s_law_machine) (defBody s_law_machine) (defScope s_law_machine) .none kV_law_machine dc_law_machine pm_law_machine an_law_machine cd_law_machine ct_law_machine), f_law_digits, (PySem.W.fnOf "_law_digits" "_law_digits" (defArgs s_law_digits) (defBody s_law_digits) (defScope s_law_digits) .none kV_law_digits dc_law_digits pm_law_digits an_law_digits cd_law_digits ct_law_digits), f_law_value, (PySem.W.fnOf "_law_value" "_law_value" (defArgs s_law_value) (defBody s_law_value) (defScope s_law_value) .none kV_law_value dc_law_value pm_law_value an_law_value cd_law_value ct_law_value), f_law_number, (PySem.W.fnOf "_law_number" "_law_number" (defArgs s_law_number) (defBody s_law_number) (defScope s_law_number) .none kV_law_number dc_law_number pm_law_number an_law_number cd_law_number ct_law_number), f_law_split, (PySem.W.fnOf "_law_split" "_law_split" (defArgs s_law_split) (defBody s_law_split) (defScope s_law_split) .none kV_law_split dc_law_split pm_law_split an_law_split cd_law_split ct_law_split), f_law_right, (PySem.W.fnOf "_law_right" "_law_right" (defArgs s_law_right) (defBody s_law_right) (defScope s_law_right) .none kV_law_right dc_law_right pm_law_right an_law_right cd_law_right ct_law_right), f_law_normal_right, (PySem.W.fnOf "_law_normal_right" "_law_normal_right" (defArgs s_law_normal_right) (defBody s_law_normal_right) (defScope s_law_normal_right) .none kV_law_normal_right dc_law_normal_right pm_law_normal_right an_law_normal_right cd_law_normal_right ct_law_normal_right), f_law, (PySem.W.fnOf "law" "law" (defArgs s_law) (defBody s_law) (defScope s_law) .none kV_law dc_law pm_law an_law cd_law ct_law), ds_Machine_init_0, ds_Machine_init_1⟩
  have cl_Machine : Cls K CMachine := ⟨pgMachine, hdMachine, poMachine, saMachine⟩
  have ic_Machine : C8.InsC K CMachine := ⟨cl_Machine, haMachine, hsp, htk, hmMachine, kit_self K CMachine⟩
  have cl_Big : Cls K CBig := ⟨pgBig, hdBig, poBig, saBig⟩
  have ic_Big : C8.InsC K CBig := ⟨cl_Big, haBig, hsp, htk, hmBig, kit_self K CBig⟩
  have pm : Eng.PM K c := ⟨ic_Machine, nfMachine_entered, nfMachine_counts, nfMachine_base, nfMachine_limit_of_rows, nfMachine_width, fun H => .inr ⟨_, itW, nW, l_WORDS, rfl, rfl, z_WORDS, v_WORDS⟩⟩
  have pb : Eng.PB K c := ⟨ic_Big, nfBig_row, nfBig_side, nfBig_width⟩
  have T : Txt K mg a := {
      PM := pm,
      PB := pb,
      NBig := nosub_mk icBig tyBig sbBig_int sbBig_list sbBig_str sbBig_NoneType sbBig_bool sbBig_tuple sbBig_dict,
      g_Machine := PySem.W.mg_of X G aMachine,
      cl_Machine := cl_Machine,
      mk_Machine := ⟨mkMachine, a_Machine_init, i_Machine_init, kcMachine⟩,
      g_Big := PySem.W.mg_of X G aBig,
      cl_Big := cl_Big,
      mk_Big := ⟨mkBig, a_Big_init, i_Big_init, kcBig⟩,
      eq_Big := a_Big_eq,
      ie_Big := i_Big_eq,
      ne_Big := ⟨⟨_, _, _, _, _, _, _, _, _, _, _, _, _, _, _, _, _, _, _, lcBig, lNBig, rfl, strKeys_of skBig, qeBig, qnBig⟩, ⟨_, l_Big_eq, qfBig⟩⟩,
      g_LEAST_BITS := ⟨_, PySem.W.mg_of X G g_LEAST_BITS, ⟨_, rfl⟩⟩,
      g_MOST_BITS := ⟨_, PySem.W.mg_of X G g_MOST_BITS, ⟨_, rfl⟩⟩,
      g_MOST_CUTOFF := ⟨_, PySem.W.mg_of X G g_MOST_CUTOFF, ⟨_, rfl⟩⟩,
      g_WORDS := PySem.W.mg_of X G g_WORDS,
      F_is_integer := F_is_integer,
      m_is_integer := PySem.W.mg_of X G a_is_integer,
      b_is_integer := b_is_integer,
      F_is_between := F_is_between,
      m_is_between := PySem.W.mg_of X G a_is_between,
      b_is_between := b_is_between,
      F_check_integer := F_check_integer,
      m_check_integer := PySem.W.mg_of X G a_check_integer,
      b_check_integer := b_check_integer,
      F_Machine_init := F_Machine_init,
      b_Machine_init := b_Machine_init,
      F_Machine_parts := F_Machine_parts,
      me_Machine_parts := ⟨a_Machine_parts, i_Machine_parts, k_Machine_parts⟩,
      b_Machine_parts := b_Machine_parts,
      F_Machine_tally := F_Machine_tally,
      me_Machine_tally := ⟨a_Machine_tally, i_Machine_tally, k_Machine_tally⟩,
      b_Machine_tally := b_Machine_tally,
      F_Machine_walk := F_Machine_walk,
      me_Machine_walk := ⟨a_Machine_walk, i_Machine_walk, k_Machine_walk⟩,
      b_Machine_walk := b_Machine_walk,
      F_check_machine := F_check_machine,
      m_check_machine := PySem.W.mg_of X G a_check_machine,
      b_check_machine := b_check_machine,
      F_Big_init := F_Big_init,
      b_Big_init := b_Big_init,
      F_Big_eq := F_Big_eq,
      me_Big_eq := ⟨a_Big_eq, i_Big_eq, k_Big_eq⟩,
      b_Big_eq := b_Big_eq,
      F_Big_sign := F_Big_sign,
      me_Big_sign := ⟨a_Big_sign, i_Big_sign, k_Big_sign⟩,
      b_Big_sign := b_Big_sign,
      F_Big_digits := F_Big_digits,
      me_Big_digits := ⟨a_Big_digits, i_Big_digits, k_Big_digits⟩,
      b_Big_digits := b_Big_digits,
      F_Big_bits := F_Big_bits,
      me_Big_bits := ⟨a_Big_bits, i_Big_bits, k_Big_bits⟩,
      b_Big_bits := b_Big_bits,
      F_made := F_made,
      m_made := PySem.W.mg_of X G a_made,
      b_made := b_made,
      F_digits_of := F_digits_of,
      m_digits_of := PySem.W.mg_of X G a_digits_of,
      b_digits_of := b_digits_of,
      F_big_of := F_big_of,
      m_big_of := PySem.W.mg_of X G a_big_of,
      b_big_of := b_big_of,
      F_value_of := F_value_of,
      m_value_of := PySem.W.mg_of X G a_value_of,
      b_value_of := b_value_of,
      F_check_any := F_check_any,
      m_check_any := PySem.W.mg_of X G a_check_any,
      b_check_any := b_check_any,
      F_is_digits := F_is_digits,
      m_is_digits := PySem.W.mg_of X G a_is_digits,
      b_is_digits := b_is_digits,
      F_big := F_big,
      m_big := PySem.W.mg_of X G a_big,
      b_big := b_big,
      F_plain := F_plain,
      m_plain := PySem.W.mg_of X G a_plain,
      b_plain := b_plain,
      F_normal := F_normal,
      m_normal := PySem.W.mg_of X G a_normal,
      b_normal := b_normal,
      F_negative := F_negative,
      m_negative := PySem.W.mg_of X G a_negative,
      b_negative := b_negative,
      F_absolute := F_absolute,
      m_absolute := PySem.W.mg_of X G a_absolute,
      b_absolute := b_absolute,
      F_law_source_of := F_law_source_of,
      m_law_source_of := PySem.W.mg_of X G a_law_source_of,
      b_law_source_of := b_law_source_of,
      F_law_next := F_law_next,
      m_law_next := PySem.W.mg_of X G a_law_next,
      b_law_next := b_law_next,
      F_law_one := F_law_one,
      m_law_one := PySem.W.mg_of X G a_law_one,
      b_law_one := b_law_one,
      F_law_cell_at := F_law_cell_at,
      m_law_cell_at := PySem.W.mg_of X G a_law_cell_at,
      b_law_cell_at := b_law_cell_at,
      F_law_machine := F_law_machine,
      m_law_machine := PySem.W.mg_of X G a_law_machine,
      b_law_machine := b_law_machine,
      F_law_digits := F_law_digits,
      m_law_digits := PySem.W.mg_of X G a_law_digits,
      b_law_digits := b_law_digits,
      F_law_value := F_law_value,
      m_law_value := PySem.W.mg_of X G a_law_value,
      b_law_value := b_law_value,
      F_law_number := F_law_number,
      m_law_number := PySem.W.mg_of X G a_law_number,
      b_law_number := b_law_number,
      F_law_split := F_law_split,
      m_law_split := PySem.W.mg_of X G a_law_split,
      b_law_split := b_law_split,
      F_law_right := F_law_right,
      m_law_right := PySem.W.mg_of X G a_law_right,
      b_law_right := b_law_right,
      F_law_normal_right := F_law_normal_right,
      m_law_normal_right := PySem.W.mg_of X G a_law_normal_right,
      b_law_normal_right := b_law_normal_right,
      F_law := F_law,
      m_law := PySem.W.mg_of X G a_law,
      b_law := b_law,
      bd_Machine_init_0 := ⟨vd_Machine_init_0, bd_Machine_init_0⟩,
      bd_Machine_init_1 := ⟨vd_Machine_init_1, bd_Machine_init_1⟩,
      kb_absolute_x := kb_absolute_x,
      kb_big_n_machine := kb_big_n_machine,
      kb_negative_x := kb_negative_x,
      kb_normal_digits_sign_machine := kb_normal_digits_sign_machine,
      kb_plain_x := kb_plain_x,
      n_abs := PySem.W.mg_none_of X G z_abs,
      n_all := PySem.W.mg_none_of X G z_all,
      n_any := PySem.W.mg_none_of X G z_any,
      n_bool := PySem.W.mg_none_of X G z_bool,
      n_dict := PySem.W.mg_none_of X G z_dict,
      n_int := PySem.W.mg_none_of X G z_int,
      n_isinstance := PySem.W.mg_none_of X G z_isinstance,
      n_len := PySem.W.mg_none_of X G z_len,
      n_list := PySem.W.mg_none_of X G z_list,
      n_range := PySem.W.mg_none_of X G z_range,
      n_tuple := PySem.W.mg_none_of X G z_tuple }
  exact ⟨_, fun s v => .of_eq rfl, fun base _ _ => ok_law (a := a) T⟩
theorem walk {l : PySem.W.OpenLaw} {q : Program} {loose : List Str} {XP : (Str → Option Value) → Heap → Prop} {YP : World → Heap → Prop} {d : DefRec} {K : Params → PySem.W.Frag} (hn : l.most = some 63) (hdf : d.params.defaults = [])
    (hY : ∀ (w : World) (h : Heap), YP w h → (K w.params).In h)
    (F : ∀ (w : World) (mg : Str → Option Value) (fa : Addr) (h : Heap), (K w.params).In h → h.Ns mainGlobals mg → mg d.name = some (.ref fa) →
      ∃ fd : FuncData, (∀ (s : Shared) (u : Value), BindsTo s fd ⟨[u], []⟩ [("_law_script", u)]) ∧ ∀ base : Heap, (K w.params).In base → base.Ns mainGlobals mg → FnOk l.prog w (K w.params) mg base CX0 8 fa fd ["_law_script"] (sp_law0 (K w.params))) :
    PySem.W.WalkO q loose XP YP l.row.toRowW d [] (fun f vs => PySem.call f vs) :=
  L2.walk_of (n := 63) (k := 8) (x := "_law_script") (CX := fun _ => CX0) (sp := fun w => sp_law0 (K w.params)) hn (by decide) hdf ⟨rfl, by decide, by decide⟩ hY F (fun _ _ a ns hl _ hS => ⟨a, ns, rfl, hS, hl, fun _ => rfl⟩) fun _ _ _ _ _ z => z
end Law
open PySem PySem.W PyProof.Rows
set_option maxRecDepth 100000 in
set_option maxHeartbeats 0 in
theorem PySem.Challenge.cw_thirtybits_k01_digits_and_signs_holds : PySem.Challenge.rw_thirtybits_k01_digits_and_signs.Holds := by
  w_on; o_law; k_head; (case hw => w_witness2)
  k_fill
  refine Law.walk (l := PySem.Challenge.rw_thirtybits_k01_digits_and_signs) rfl rfl (fun w h Y => PySem.W.kIn_of Y) ?F
  case F =>
    intro w mg fa h KX G hmg
    refine' Law.all_mk KX G hmg ?aMachine ?pgMachine ?hdMachine ?poMachine ?saMachine ?mkMachine ?kcMachine ?haMachine ?hmMachine ?nfMachine_entered ?nfMachine_counts ?nfMachine_base ?nfMachine_limit_of_rows ?nfMachine_width ?aBig ?pgBig ?hdBig ?poBig ?saBig ?mkBig ?kcBig ?haBig ?hmBig ?lcBig ?lNBig ?skBig ?nfBig_row ?nfBig_side ?nfBig_width ?hsp ?htk ?g_LEAST_BITS ?g_MOST_BITS ?g_MOST_CUTOFF ?g_WORDS ?l_WORDS ?z_WORDS ?v_WORDS ?a_is_integer ?l_is_integer ?c_is_integer ?k_is_integer ?a_is_between ?l_is_between ?c_is_between ?k_is_between ?a_check_integer ?l_check_integer ?c_check_integer ?k_check_integer ?a_Machine_init ?i_Machine_init ?l_Machine_init ?c_Machine_init ?k_Machine_init ?lT_Machine_init ?vT_Machine_init ?a_Machine_parts ?i_Machine_parts ?l_Machine_parts ?c_Machine_parts ?k_Machine_parts ?a_Machine_tally ?i_Machine_tally ?l_Machine_tally ?c_Machine_tally ?k_Machine_tally ?a_Machine_walk ?i_Machine_walk ?l_Machine_walk ?c_Machine_walk ?k_Machine_walk ?a_check_machine ?l_check_machine ?c_check_machine ?k_check_machine ?a_Big_init ?i_Big_init ?l_Big_init ?c_Big_init ?k_Big_init ?a_Big_eq ?i_Big_eq ?l_Big_eq ?c_Big_eq ?k_Big_eq ?a_Big_sign ?i_Big_sign ?l_Big_sign ?c_Big_sign ?k_Big_sign ?a_Big_digits ?i_Big_digits ?l_Big_digits ?c_Big_digits ?k_Big_digits ?a_Big_bits ?i_Big_bits ?l_Big_bits ?c_Big_bits ?k_Big_bits ?a_made ?l_made ?c_made ?k_made ?a_digits_of ?l_digits_of ?c_digits_of ?k_digits_of ?a_big_of ?l_big_of ?c_big_of ?k_big_of ?a_value_of ?l_value_of ?c_value_of ?k_value_of ?a_check_any ?l_check_any ?c_check_any ?k_check_any ?a_is_digits ?l_is_digits ?c_is_digits ?k_is_digits ?a_big ?l_big ?c_big ?k_big ?a_plain ?l_plain ?c_plain ?k_plain ?a_normal ?l_normal ?c_normal ?k_normal ?a_negative ?l_negative ?c_negative ?k_negative ?a_absolute ?l_absolute ?c_absolute ?k_absolute ?a_law_source_of ?l_law_source_of ?c_law_source_of ?k_law_source_of ?a_law_next ?l_law_next ?c_law_next ?k_law_next ?a_law_one ?l_law_one ?c_law_one ?k_law_one ?a_law_cell_at ?l_law_cell_at ?c_law_cell_at ?k_law_cell_at ?a_law_machine ?l_law_machine ?c_law_machine ?k_law_machine ?a_law_digits ?l_law_digits ?c_law_digits ?k_law_digits ?a_law_value ?l_law_value ?c_law_value ?k_law_value ?a_law_number ?l_law_number ?c_law_number ?k_law_number ?a_law_split ?l_law_split ?c_law_split ?k_law_split ?a_law_right ?l_law_right ?c_law_right ?k_law_right ?a_law_normal_right ?l_law_normal_right ?c_law_normal_right ?k_law_normal_right ?a_law ?l_law ?c_law ?k_law ?qeBig ?qnBig ?qfBig ?icBig ?tyBig ?sbBig_int ?sbBig_list ?sbBig_str ?sbBig_NoneType ?sbBig_bool ?sbBig_tuple ?sbBig_dict ?z_abs ?z_all ?z_any ?z_bool ?z_dict ?z_int ?z_isinstance ?z_len ?z_list ?z_range ?z_tuple
    (case aMachine => k_is)
    (case pgMachine => k_is)
    (case hdMachine => k_is)
    (case poMachine => k_is)
    (case saMachine => k_is)
    (case mkMachine => k_is)
    (case kcMachine => k_is)
    (case haMachine => k_is)
    (case hmMachine => k_is)
    (case nfMachine_entered => k_is)
    (case nfMachine_counts => k_is)
    (case nfMachine_base => k_is)
    (case nfMachine_limit_of_rows => k_is)
    (case nfMachine_width => k_is)
    (case aBig => k_is)
    (case pgBig => k_is)
    (case hdBig => k_is)
    (case poBig => k_is)
    (case saBig => k_is)
    (case mkBig => k_is)
    (case kcBig => k_is)
    (case haBig => k_is)
    (case hmBig => k_is)
    (case lcBig => k_is)
    (case lNBig => k_is)
    (case skBig => exact rfl)
    (case nfBig_row => k_is)
    (case nfBig_side => k_is)
    (case nfBig_width => k_is)
    (case hsp => k_is)
    (case htk => k_is)
    (case g_LEAST_BITS => k_is)
    (case g_MOST_BITS => k_is)
    (case g_MOST_CUTOFF => k_is)
    (case g_WORDS => k_is)
    (case l_WORDS => k_is)
    (case z_WORDS => decide)
    (case v_WORDS => exact .cons ⟨_, rfl⟩ (.cons ⟨_, rfl⟩ (.cons ⟨_, rfl⟩ (.cons ⟨_, rfl⟩ (.cons ⟨_, rfl⟩ (.cons ⟨_, rfl⟩ (.cons ⟨_, rfl⟩ (.cons ⟨_, rfl⟩ (.cons ⟨_, rfl⟩ (.cons ⟨_, rfl⟩ .nil))))))))))
    (case a_is_integer => k_is)
    (case l_is_integer => k_is)
    (case c_is_integer => k_is)
    (case k_is_integer => k_is)
    (case a_is_between => k_is)
    (case l_is_between => k_is)
    (case c_is_between => k_is)
    (case k_is_between => k_is)
    (case a_check_integer => k_is)
    (case l_check_integer => k_is)
    (case c_check_integer => k_is)
    (case k_check_integer => k_is)
    (case a_Machine_init => k_is)
    (case i_Machine_init => k_is)
    (case l_Machine_init => k_is)
    (case c_Machine_init => k_is)
    (case k_Machine_init => k_is)
    (case lT_Machine_init => k_is)
    (case vT_Machine_init => exact (.cons ⟨_, rfl⟩ (.cons ⟨_, rfl⟩ .nil)))
    (case a_Machine_parts => k_is)
    (case i_Machine_parts => k_is)
    (case l_Machine_parts => k_is)
    (case c_Machine_parts => k_is)
    (case k_Machine_parts => k_is)
    (case a_Machine_tally => k_is)
    (case i_Machine_tally => k_is)
    (case l_Machine_tally => k_is)
    (case c_Machine_tally => k_is)
    (case k_Machine_tally => k_is)
    (case a_Machine_walk => k_is)
    (case i_Machine_walk => k_is)
    (case l_Machine_walk => k_is)
    (case c_Machine_walk => k_is)
    (case k_Machine_walk => k_is)
    (case a_check_machine => k_is)
    (case l_check_machine => k_is)
    (case c_check_machine => k_is)
    (case k_check_machine => k_is)
    (case a_Big_init => k_is)
    (case i_Big_init => k_is)
    (case l_Big_init => k_is)
    (case c_Big_init => k_is)
    (case k_Big_init => k_is)
    (case a_Big_eq => k_is)
    (case i_Big_eq => k_is)
    (case l_Big_eq => k_is)
    (case c_Big_eq => k_is)
    (case k_Big_eq => k_is)
    (case a_Big_sign => k_is)
    (case i_Big_sign => k_is)
    (case l_Big_sign => k_is)
    (case c_Big_sign => k_is)
    (case k_Big_sign => k_is)
    (case a_Big_digits => k_is)
    (case i_Big_digits => k_is)
    (case l_Big_digits => k_is)
    (case c_Big_digits => k_is)
    (case k_Big_digits => k_is)
    (case a_Big_bits => k_is)
    (case i_Big_bits => k_is)
    (case l_Big_bits => k_is)
    (case c_Big_bits => k_is)
    (case k_Big_bits => k_is)
    (case a_made => k_is)
    (case l_made => k_is)
    (case c_made => k_is)
    (case k_made => k_is)
    (case a_digits_of => k_is)
    (case l_digits_of => k_is)
    (case c_digits_of => k_is)
    (case k_digits_of => k_is)
    (case a_big_of => k_is)
    (case l_big_of => k_is)
    (case c_big_of => k_is)
    (case k_big_of => k_is)
    (case a_value_of => k_is)
    (case l_value_of => k_is)
    (case c_value_of => k_is)
    (case k_value_of => k_is)
    (case a_check_any => k_is)
    (case l_check_any => k_is)
    (case c_check_any => k_is)
    (case k_check_any => k_is)
    (case a_is_digits => k_is)
    (case l_is_digits => k_is)
    (case c_is_digits => k_is)
    (case k_is_digits => k_is)
    (case a_big => k_is)
    (case l_big => k_is)
    (case c_big => k_is)
    (case k_big => k_is)
    (case a_plain => k_is)
    (case l_plain => k_is)
    (case c_plain => k_is)
    (case k_plain => k_is)
    (case a_normal => k_is)
    (case l_normal => k_is)
    (case c_normal => k_is)
    (case k_normal => k_is)
    (case a_negative => k_is)
    (case l_negative => k_is)
    (case c_negative => k_is)
    (case k_negative => k_is)
    (case a_absolute => k_is)
    (case l_absolute => k_is)
    (case c_absolute => k_is)
    (case k_absolute => k_is)
    (case a_law_source_of => k_is)
    (case l_law_source_of => k_is)
    (case c_law_source_of => k_is)
    (case k_law_source_of => k_is)
    (case a_law_next => k_is)
    (case l_law_next => k_is)
    (case c_law_next => k_is)
    (case k_law_next => k_is)
    (case a_law_one => k_is)
    (case l_law_one => k_is)
    (case c_law_one => k_is)
    (case k_law_one => k_is)
    (case a_law_cell_at => k_is)
    (case l_law_cell_at => k_is)
    (case c_law_cell_at => k_is)
    (case k_law_cell_at => k_is)
    (case a_law_machine => k_is)
    (case l_law_machine => k_is)
    (case c_law_machine => k_is)
    (case k_law_machine => k_is)
    (case a_law_digits => k_is)
    (case l_law_digits => k_is)
    (case c_law_digits => k_is)
    (case k_law_digits => k_is)
    (case a_law_value => k_is)
    (case l_law_value => k_is)
    (case c_law_value => k_is)
    (case k_law_value => k_is)
    (case a_law_number => k_is)
    (case l_law_number => k_is)
    (case c_law_number => k_is)
    (case k_law_number => k_is)
    (case a_law_split => k_is)
    (case l_law_split => k_is)
    (case c_law_split => k_is)
    (case k_law_split => k_is)
    (case a_law_right => k_is)
    (case l_law_right => k_is)
    (case c_law_right => k_is)
    (case k_law_right => k_is)
    (case a_law_normal_right => k_is)
    (case l_law_normal_right => k_is)
    (case c_law_normal_right => k_is)
    (case k_law_normal_right => k_is)
    (case a_law => k_is)
    (case l_law => k_is)
    (case c_law => k_is)
    (case k_law => k_is)
    (case qeBig => first | rfl | decide +kernel)
    (case qnBig => first | rfl | decide +kernel)
    (case qfBig => rfl)
    (case icBig => k_is)
    (case tyBig => k_is)
    (case sbBig_int => k_is)
    (case sbBig_list => k_is)
    (case sbBig_str => k_is)
    (case sbBig_NoneType => k_is)
    (case sbBig_bool => k_is)
    (case sbBig_tuple => k_is)
    (case sbBig_dict => k_is)
    (case z_abs => k_is)
    (case z_all => k_is)
    (case z_any => k_is)
    (case z_bool => k_is)
    (case z_dict => k_is)
    (case z_int => k_is)
    (case z_isinstance => k_is)
    (case z_len => k_is)
    (case z_list => k_is)
    (case z_range => k_is)
    (case z_tuple => k_is)
