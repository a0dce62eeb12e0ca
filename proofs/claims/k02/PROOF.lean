import PyProof.Rows.All
import Wide.All
import OpenK.AllK
import Wide.FinOn
import HandS.ForMost
import HandS.Style
import HandS.Wide
import HandS.StrMore
import HandS.Replace
import HandS.IsInst
import HandS.RaiseMore
import HandS.Walk
import PySem.Challenge.RW_undername_k02_whole_raised_texts_and_roo
set_option Elab.async false
set_option linter.all false
set_option maxRecDepth 100000
set_option maxHeartbeats 4000000
/-! U: own rules over the layer, and texts as lists of codes -/
namespace U
open PySem PySem.Spec PyProof.Rows L2
/-- a text from its codes -/
def S (l : List Nat) : Str := ⟨l.toArray⟩
theorem S_toList (l : List Nat) : (S l).cps.toList = l := by simp [S]
theorem S_cps (z : Str) : S z.cps.toList = z := by cases z; simp [S]
theorem S_len (l : List Nat) : (S l).length = l.length := by simp [S, Str.length]
theorem S_inj {a b : List Nat} : S a = S b ↔ a = b := by
  constructor
  · intro h
    have := congrArg (fun z => z.cps.toList) h
    simpa [S_toList] using this
  · rintro rfl; rfl
theorem S_app (a b : List Nat) : S a ++ S b = S (a ++ b) := by
  show Str.mk ((S a).cps ++ (S b).cps) = S (a ++ b)
  simp [S]
theorem str_of (z : Str) : ∃ l, z = S l := ⟨_, (S_cps z).symm⟩
/-- the signs of a text, each a text -/
def chars (l : List Nat) : List V := l.map fun c => V.str (S [c])
section
variable {X : Cx}
theorem items_chars : ∀ {l : List Nat} {acc : List Value}, acc.length = l.length → (∀ (j : Nat) (v : Value), acc[j]? = some v → ∃ (c : Nat) (t : Tok), l[j]? = some c ∧ v = Value.str (S [c]) t) → Vals (chars l) acc
  | [], [], _, _ => .nil
  | [], _ :: _, h, _ => by simp at h
  | _ :: _, [], h, _ => by simp at h
  | c :: l, v :: acc, h, k => by
    refine .cons ?_ (items_chars (by simpa using h) fun j v e => by simpa using k (j + 1) v (by simpa using e))
    obtain ⟨c', t, e, rfl⟩ := k 0 v rfl
    simp at e
    subst e
    exact ⟨t, rfl⟩
theorem call_listS (hc : X.calm = true) : CallR X (.type "list") (fun xs H Q => ∃ l : List Nat, xs = [.str (S l)] ∧ l.length ≤ sizeLine ∧ ∀ p, H p = none → Q (.ref p) (upd H p (.lst (chars l)))) := by
  intro pins s σ H xs us Q I r h
  obtain ⟨l, rfl, hz, q⟩ := h
  obtain ⟨u, rfl, t, rfl⟩ := vals1 r
  refine PySem.call_list_str (I.ok.hd hc) (S l) t (fun h' tk acc c' kp e hi => ?_) (by simpa [S] using hz)
  have hv : Vals (chars l) acc.toList := by
    refine items_chars (by simpa [S] using hi.1) fun j v e => ?_
    have := hi.2 j v (by simpa using e)
    obtain ⟨c, t, h1, h2⟩ := this
    exact ⟨c, t, by simpa [S] using h1, by simpa [S] using h2⟩
  refine ⟨.ref s.heap.objs.size, _, I.laid (t' := tk) kp (Nat.le_refl _) (show ObjOk X.prog X.w _ h' _ (.lst (chars l)) from ⟨by simpa [chars] using hz, acc.toList, c', hv, by simpa using e⟩), rfl, q _ (I.hok.fresh (Nat.le_refl _))⟩
/-- n times the list -/
def rep (l : List Nat) (n : Nat) : List Nat := (List.replicate n l).flatten
theorem rep_len (l : List Nat) (n : Nat) : (rep l n).length = n * l.length := by
  simp [rep, List.length_flatten]
theorem foldl_app (ls : List (Array Nat)) : ∀ acc : Array Nat, (ls.foldl (· ++ ·) acc).toList = acc.toList ++ (ls.map Array.toList).flatten := by
  induction ls with
  | nil => intro acc; simp
  | cons a ls ih => intro acc; simp [ih]
theorem mul_eq (l : List Nat) (n : Nat) : Txt.mul (S l) (n : Int) = S (rep l n) := by
  unfold Txt.mul
  by_cases h1 : (n : Int) < 1
  · have : n = 0 := by omega
    subst this
    simp [rep, S]
    rfl
  · rw [if_neg h1]
    split
    · rename_i h
      rcases Bool.or_eq_true_iff.mp h with h | h
      · have : n = 1 := by
          have := of_decide_eq_true h
          omega
        subst this
        simp [rep]
      · have : l = [] := by
          have := of_decide_eq_true h
          rw [S_len] at this
          exact List.length_eq_zero_iff.mp this
        subst this
        simp [rep, S]
    · show Str.mk _ = S _
      have := foldl_app (List.replicate (n : Int).toNat (S l).cps) #[]
      simp only [List.map_replicate, S_toList] at this
      rw [← S_cps (Str.mk _)]
      rw [this]
      simp [rep]
theorem op_mul_str : OpR X (binaryOp .Mult) (fun x y H Q => ∃ (l : List Nat) (n : Nat), x = .str (S l) ∧ y = .int (n : Int) ∧ l.length * n ≤ 1000000 ∧ n ≤ 1000000 ∧ Q (.str (S (rep l n))) H) := by
  intro pins s σ H x y u v Q I rx ry h
  obtain ⟨l, n, rfl, rfl, hb, hn, q⟩ := h
  obtain ⟨t, rfl⟩ := rx
  obtain ⟨t', rfl⟩ := ry
  refine PySem.SB.mul ⟨?_, ?_, ?_⟩ fun tk k => ⟨.str (S (rep l n)), H, I.tok _, ⟨tk, by rw [mul_eq]⟩, q⟩
  · rw [decide_eq_false (by omega), decide_eq_false (by omega)]; rfl
  · intro h1 _ h2
    rw [S_len] at h2
    have h3 : (1 : Int) ≤ n := by omega
    have h4 : (2 ^ 63 - 1 : Int) / n * n ≤ 2 ^ 63 - 1 := Int.ediv_mul_le _ (by omega)
    have h6 : (l.length : Int) * n ≤ 1000000 := by rw [← Int.natCast_mul]; omega
    have h7 : ((2 ^ 63 - 1 : Int) / n + 1) * n ≤ l.length * n := Int.mul_le_mul_of_nonneg_right (by omega) (by omega)
    have h8 : (2 ^ 63 - 1 : Int) < ((2 ^ 63 - 1 : Int) / n + 1) * n := Int.lt_ediv_add_one_mul_self _ (by omega)
    omega
  · intro _ _
    rw [S_len]
    have : l.length * (n : Int).toNat ≤ 1000000 := by simpa using hb
    have h2 := sizeLine_eq
    show decide (_ > sizeLine) = false
    exact decide_eq_false (by omega)
end
end U
namespace U
open PySem PySem.Spec PyProof.Rows L2
/-- the deal: its great cells at c, the mixed number -/
structure DealIs (H : Hp) (a c : Addr) (ns : List Int) (m : Int) : Prop where
  hd : H a = some (.lst [.ref c, .int m])
  cs : H c = some (.lst (ns.map V.int))
  pos : ∀ n ∈ ns, 0 ≤ n
  few : ns.length ≤ 63
  m0 : 0 ≤ m
  m1 : m < 2147483647
def Deal (H : Hp) (a c : Addr) : Prop := ∃ (ns : List Int) (m : Int), DealIs H a c ns m
/-- all but the deal is kept -/
def Kp (a c : Addr) (H H' : Hp) : Prop := ∀ b o, b ≠ a → b ≠ c → H b = some o → H' b = some o
theorem Kp.refl (a c : Addr) (H : Hp) : Kp a c H H := fun _ _ _ _ h => h
theorem Kp.trans {a c : Addr} {H H1 H2 : Hp} (x : Kp a c H H1) (y : Kp a c H1 H2) : Kp a c H H2 := fun b o h1 h2 h => y b o h1 h2 (x b o h1 h2 h)
theorem Kp.updA {a c : Addr} {H H1 : Hp} {o : HO} (x : Kp a c H H1) : Kp a c H (upd H1 a o) := fun b u h1 h2 h => by rw [upd_ne h1]; exact x b u h1 h2 h
theorem Kp.updC {a c : Addr} {H H1 : Hp} {o : HO} (x : Kp a c H H1) : Kp a c H (upd H1 c o) := fun b u h1 h2 h => by rw [upd_ne h2]; exact x b u h1 h2 h
theorem Kp.new {a c p : Addr} {H H1 : Hp} {o : HO} (x : Kp a c H H1) (hp : H p = none) : Kp a c H (upd H1 p o) := fun b u h1 h2 h => by rw [upd_ne (ne_of_none h hp)]; exact x b u h1 h2 h
theorem Kp.new' {a c p : Addr} {H H1 : Hp} {o : HO} (x : Kp a c H H1) (hp : H1 p = none) : Kp a c H (upd H1 p o) := fun b u h1 h2 h => by
  have := x b u h1 h2 h
  rw [upd_ne (ne_of_none this hp)]; exact this
theorem DealIs.nac {a c : Addr} {H : Hp} {ns : List Int} {m : Int} (d : DealIs H a c ns m) : a ≠ c := ne_of d.hd d.cs (by
  intro h
  have h := HO.lst.inj h
  cases ns with
  | nil => cases h
  | cons n ns => cases h)
theorem DealIs.upd {a c p : Addr} {H : Hp} {o : HO} {ns : List Int} {m : Int} (d : DealIs H a c ns m) (h1 : p ≠ a) (h2 : p ≠ c) : DealIs (L2.upd H p o) a c ns m :=
  ⟨by rw [upd_ne h1.symm]; exact d.hd, by rw [upd_ne h2.symm]; exact d.cs, d.pos, d.few, d.m0, d.m1⟩
theorem DealIs.ne {a c p : Addr} {H : Hp} {ns : List Int} {m : Int} (d : DealIs H a c ns m) (hp : H p = none) : p ≠ a ∧ p ≠ c := ⟨(ne_of_none d.hd hp).symm, (ne_of_none d.cs hp).symm⟩
theorem DealIs.new {a c p : Addr} {H : Hp} {o : HO} {ns : List Int} {m : Int} (d : DealIs H a c ns m) (hp : H p = none) : DealIs (L2.upd H p o) a c ns m := d.upd (d.ne hp).1 (d.ne hp).2
theorem DealIs.setC {a c : Addr} {H : Hp} {ns ns' : List Int} {m : Int} (d : DealIs H a c ns m) (h1 : ∀ n ∈ ns', 0 ≤ n) (h2 : ns'.length ≤ 63) : DealIs (L2.upd H c (.lst (ns'.map V.int))) a c ns' m :=
  ⟨by rw [upd_ne d.nac]; exact d.hd, upd_same, h1, h2, d.m0, d.m1⟩
theorem DealIs.setM {a c : Addr} {H : Hp} {ns : List Int} {m m' : Int} (d : DealIs H a c ns m) (h1 : 0 ≤ m') (h2 : m' < 2147483647) : DealIs (L2.upd H a (.lst [.ref c, .int m'])) a c ns m' :=
  ⟨upd_same, by rw [upd_ne d.nac.symm]; exact d.cs, d.pos, d.few, h1, h2⟩
theorem Deal.new {a c p : Addr} {H : Hp} {o : HO} (d : Deal H a c) (hp : H p = none) : Deal (L2.upd H p o) a c := by
  obtain ⟨ns, m, d⟩ := d
  exact ⟨ns, m, d.new hp⟩
theorem Deal.upd {a c p : Addr} {H : Hp} {o : HO} (d : Deal H a c) (h1 : p ≠ a) (h2 : p ≠ c) : Deal (L2.upd H p o) a c := by
  obtain ⟨ns, m, d⟩ := d
  exact ⟨ns, m, d.upd h1 h2⟩
theorem Deal.ne {a c p : Addr} {H : Hp} (d : Deal H a c) (hp : H p = none) : p ≠ a ∧ p ≠ c := by
  obtain ⟨ns, m, d⟩ := d
  exact d.ne hp
/-- a draw: any number from 0 on, less than many -/
def spDraw : Sp := fun vs H Q _ => ∃ (a c : Addr) (many : Int), vs = [.ref a, .int many] ∧ Deal H a c ∧ 1 ≤ many ∧ many < 2 ^ 200 ∧ ∀ (r : Int) H', 0 ≤ r → r < many → Deal H' a c → Kp a c H H' → Q (.int r) H'
theorem eqv_nil (ns : List Int) : PyData.eqv (.list (ns.map PyData.int)) (.list []) = decide (ns = []) := by
  cases ns <;> simp [PyData.eqv, PyData.eqvAll]
theorem dpInts {K : PySem.W.Frag} {H : Hp} : ∀ ns : List Int, DpAll K H (ns.map V.int) (ns.map PyData.int)
  | [] => .nil
  | n :: ns => .cons (.int n) (dpInts ns)
theorem layInts : ∀ ns : List Int, PyData.canLayAll0 (ns.map PyData.int) = true
  | [] => rfl
  | n :: ns => by simpa [PyData.canLayAll0, PyData.canLay0] using layInts ns
theorem depInts : ∀ ns : List Int, PyData.depthAll (ns.map PyData.int) = 0
  | [] => rfl
  | n :: ns => by simpa [PyData.depthAll, PyData.depth] using depInts ns
theorem shInts (ns : List Int) : SeqAt.shaped (.list (ns.map PyData.int)) = true := by
  simp [SeqAt.shaped, PyData.canLay0, PyData.depth, layInts, depInts]
theorem lt200 {x m : Int} (h0 : 1 ≤ m) (h : m < 2 ^ 200) : CDivW x m :=
  wide_div (b := 200) (by omega) (by omega) (by decide) (by decide)
section
variable {K : PySem.W.Frag} {σ : L2.St} {H : Hp} {a c : Addr} {ns : List Int} {m : Int}
theorem deal0 (d : DealIs H a c ns m) (h : σ[0]? = some (some (.ref a))) {Q : VK} (k : Q (.ref c) H) : tOp (rIxL K) (tVar 0) (tC (.int 0)) σ H Q :=
  ⟨_, h, a, _, 0, .ref c, rfl, rfl, SqL.of d.hd, rfl, k⟩
theorem deal1 (d : DealIs H a c ns m) (h : σ[0]? = some (some (.ref a))) {Q : VK} (k : Q (.int m) H) : tOp (rIxL K) (tVar 0) (tC (.int 1)) σ H Q :=
  ⟨_, h, a, _, 1, .int m, rfl, rfl, SqL.of d.hd, rfl, k⟩
theorem dealNe (d : DealIs H a c ns m) (h : σ[0]? = some (some (.ref a))) {Q : Bool → Hp → Prop} (k : ∀ p, H p = none → DealIs (upd H p (.lst [])) a c ns m → Q (!decide (ns = [])) (upd H p (.lst []))) :
    tTest (tOp (rNeD K) (tOp (rIxL K) (tVar 0) (tC (.int 0))) (tLst tNil)) σ H Q := by
  refine deal0 d h ?_
  refine ⟨Nat.zero_le _, fun p hp => ?_⟩
  have d' : DealIs (upd H p (.lst [])) a c ns m := d.new hp
  refine ⟨_, .list [], .lst (SqL.of d'.cs) (dpInts ns), .lst (SqL.of upd_same) .nil, shInts ns, rfl, _, rfl, ?_⟩
  rw [eqv_nil]
  exact k p hp d'
theorem rev_last {ns : List Int} (h : ns ≠ []) : ∃ l z, ns = l ++ [z] := ⟨ns.dropLast, ns.getLast h, (List.dropLast_concat_getLast h).symm⟩
end
end U
namespace U
open PySem PySem.Spec PyProof.Rows L2
theorem Same.new {H H1 : Hp} {p : Addr} {o : HO} (x : Same H H1) (hp : H1 p = none) : Same H (upd H1 p o) := fun b u h => by
  have := x b u h
  rw [upd_ne (ne_of_none this hp)]; exact this
theorem Same.mut {H H1 : Hp} {p : Addr} {o : HO} (x : Same H H1) (hp : H p = none) : Same H (upd H1 p o) := fun b u h => by
  rw [upd_ne (ne_of_none h hp)]; exact x b u h
theorem Same.rd {H H' : Hp} {a : Addr} {u : HO} (e : Same H H') (h : Rd H a u) : Rd H' a u := by
  rcases h with h | ⟨o, h⟩
  · exact .inl (e a _ h)
  · exact .inr ⟨o, e a _ h⟩
theorem Same.tup {K : PySem.W.Frag} {H H' : Hp} {a : Addr} {xs : List V} (e : Same H H') (h : SqT K H a xs) : SqT K H' a xs := by
  rcases h with h | h
  · exact .inl (Same.rd e h)
  · exact .inr h
theorem cut_map {α : Type} (f : α → V) (xs : List α) (lo hi : Option Int) : ∃ ys : List α, cutV (xs.map f) lo hi = ys.map f ∧ (∀ y ∈ ys, y ∈ xs) ∧ ys.length ≤ xs.length := by
  refine ⟨(xs.drop (HT.sIx xs.length 0 lo)).take (HT.sIx xs.length xs.length hi - HT.sIx xs.length 0 lo), ?_, fun y hy => List.mem_of_mem_drop (List.mem_of_mem_take hy), ?_⟩
  · unfold cutV
    rw [List.length_map, List.map_take, List.map_drop]
  · rw [List.length_take, List.length_drop]
    omega
/-- the deal of a script -/
def spDeal (K : PySem.W.Frag) : Sp := fun vs H Q _ => ∃ (a0 : Addr) (ns : List Int) (b : Int), vs = [.ref a0, .int b] ∧ SqL K H a0 (ns.map V.int) ∧ ns.length ≤ 63 ∧ 0 ≤ b ∧ b ≤ 63 ∧ ∀ a c H', Same H H' → H a = none → H c = none → Deal H' a c → Q (.ref a) H'
/-- something that is walked: its values, what must stand -/
structure Src (J : It) (xs : List V) (G : Hp → Prop) : Prop where
  w : Walk J xs.length G (YAt xs)
  mono : ∀ H H', Same H H' → G H → G H'
theorem src_list (K : PySem.W.Frag) (a : Addr) (xs : List V) : Src (Itl K a) xs (fun H => SqL K H a xs) := ⟨walk_list, fun _ _ e h => e.seq h⟩
theorem src_tup (K : PySem.W.Frag) (a : Addr) (xs : List V) : Src (Itt K a) xs (fun H => SqT K H a xs) := ⟨walk_tup, fun _ _ e h => Same.tup e h⟩
def rngV (lo : Int) (n : Nat) : List V := (List.range n).map fun (i : Nat) => V.int (lo + (i : Int))
theorem rngV_len (lo : Int) (n : Nat) : (rngV lo n).length = n := by simp [rngV]
theorem rngV_get {lo : Int} {n i : Nat} {x : V} : (rngV lo n)[i]? = some x ↔ i < n ∧ x = .int (lo + (i : Int)) := by
  simp only [rngV, List.getElem?_map, List.getElem?_range]
  constructor
  · intro h
    by_cases hi : i < n
    · rw [List.getElem?_range hi] at h
      exact ⟨hi, (Option.some.inj h).symm⟩
    · rw [List.getElem?_eq_none (by simpa using hi)] at h
      cases h
  · rintro ⟨hi, rfl⟩
    rw [List.getElem?_range hi]
    rfl
theorem src_range (lo : Int) (n : Nat) : Src (Itr lo n) (rngV lo n) (fun _ => True) := by
  refine ⟨⟨fun i H hi _ => ?_, fun H _ => ?_, fun i H x H' hi _ hy => ?_⟩, fun _ _ _ _ => trivial⟩
  · rw [rngV_len] at hi; exact hi
  · rw [rngV_len]; exact Nat.le_refl _
  · rw [rngV_len] at hi
    obtain ⟨e1, e2⟩ := hy
    exact ⟨e1, rngV_get.mpr ⟨hi, e2⟩⟩
theorem src_str (l : List Nat) : Src (Its (S l)) (chars l) (fun _ => True) := by
  have e : (S l).cps.size = l.length := S_len l
  have e2 : (chars l).length = l.length := by simp [chars]
  refine ⟨⟨fun i H hi _ => ?_, fun H _ => ?_, fun i H x H' hi _ hy => ?_⟩, fun _ _ _ _ => trivial⟩
  · rw [e2] at hi; show i < (S l).cps.size; omega
  · rw [e2]; show (S l).cps.size ≤ l.length; omega
  · obtain ⟨e1, c, e3, rfl⟩ := hy
    refine ⟨e1, ?_⟩
    have : l[i]? = some c := by simpa [S] using e3
    simp [chars, this, S]
section
variable {J : It} {xs : List V} {G : Hp → Prop} {σ : L2.St} {H H1 : Hp} {D : Addr} {Qd : Hp → Prop} {vs : List Nat} {tt : TT} {te : TE} {j : Nat}
/-- a comprehension whose tests and items leave what stood -/
theorem lcS (s : Src J xs G) (p : V → Bool) (f : V → V) (hG : G H1) (hD : H1 D = none) (hw : ∀ x, wipe ((wipe σ vs).set j (some x)) vs = wipe σ vs) (hl : xs.length ≤ 100000)
    (ht : ∀ x ∈ xs, ∀ H', Same H1 H' → ∀ Q : Bool → Hp → Prop, (∀ H'', Same H' H'' → Q (p x) H'') → tt ((wipe σ vs).set j (some x)) H' Q)
    (he : ∀ x ∈ xs, p x = true → ∀ H', Same H1 H' → ∀ Q : VK, (∀ H'', Same H' H'' → Q (f x) H'') → te ((wipe σ vs).set j (some x)) H' Q)
    (hd : ∀ H', Same H1 H' → H' D = some (.lst ((xs.filter p).map f)) → Qd H') :
    ∃ W : Nat → Nat → Hp → Prop, (∃ m, W 0 m (upd H1 D (.lst []))) ∧ ∀ i m H, W i m H →
      (J.stop i H ∧ Qd H) ∨ (J.go i H ∧ ∃ Nx : Hp → Prop, (∀ H', Nx H' → ∃ m', m' < m ∧ W (i + 1) m' H') ∧ ∀ x H', J.yld i H x H' → gName j x (wipe σ vs) H' fun σ2 H2 => wipe σ2 vs = wipe σ vs ∧ tt σ2 H2 fun b H3 =>
        if b = true then te σ2 H3 fun y H4 => ∃ acc, H4 D = some (.lst acc) ∧ acc.length < sizeLine ∧ Nx (upd H4 D (.lst (acc ++ [y]))) else Nx H3) := by
  refine lc_it s.w (fun i H' => Same H1 H' ∧ H' D = some (.lst (((xs.take i).filter p).map f))) ⟨Same.new (Same.refl _) hD, by rw [upd_same]; rfl⟩ (fun i H' _ h => s.mono _ _ h.1 hG) ?_ (fun H' h => hd H' h.1 (by have := h.2; rw [List.take_length] at this; exact this))
  rintro i x H2 H3 hi ⟨s1, e1⟩ ⟨rfl, hx⟩
  have hm : x ∈ xs := List.mem_of_getElem? hx
  have et : xs.take (i + 1) = xs.take i ++ [x] := by rw [List.take_add_one, hx]; rfl
  refine ⟨hw x, ht x hm _ s1 _ fun H4 s4 => ?_⟩
  cases hp : p x with
  | false =>
    refine iteF ⟨s1.trans s4, ?_⟩
    rw [et, List.filter_append, List.filter_cons_of_neg (by simp [hp]), List.filter_nil, List.append_nil]
    exact s4 _ _ e1
  | true =>
    refine iteT (he x hm hp _ (s1.trans s4) _ fun H5 s5 => ⟨_, s5 _ _ (s4 _ _ e1), ?_, Same.mut ((s1.trans s4).trans s5) hD, ?_⟩)
    · have h1 : (((xs.take i).filter p).map f).length ≤ xs.length := by
        rw [List.length_map]
        refine Nat.le_trans (List.length_filter_le _ _) ?_
        rw [List.length_take]
        omega
      have := sizeLine_eq
      omega
    · rw [upd_same, et, List.filter_append, List.filter_cons_of_pos (by simp [hp]), List.filter_nil, List.map_append]
      rfl
/-- the same without a test -/
theorem lcM (s : Src J xs G) (f : V → V) (hG : G H1) (hD : H1 D = none) (hw : ∀ x, wipe ((wipe σ vs).set j (some x)) vs = wipe σ vs) (hl : xs.length ≤ 100000)
    (he : ∀ x ∈ xs, ∀ H', Same H1 H' → ∀ Q : VK, (∀ H'', Same H' H'' → Q (f x) H'') → te ((wipe σ vs).set j (some x)) H' Q)
    (hd : ∀ H', Same H1 H' → H' D = some (.lst (xs.map f)) → Qd H') :
    ∃ W : Nat → Nat → Hp → Prop, (∃ m, W 0 m (upd H1 D (.lst []))) ∧ ∀ i m H, W i m H →
      (J.stop i H ∧ Qd H) ∨ (J.go i H ∧ ∃ Nx : Hp → Prop, (∀ H', Nx H' → ∃ m', m' < m ∧ W (i + 1) m' H') ∧ ∀ x H', J.yld i H x H' → gName j x (wipe σ vs) H' fun σ2 H2 => wipe σ2 vs = wipe σ vs ∧ tYes σ2 H2 fun b H3 =>
        if b = true then te σ2 H3 fun y H4 => ∃ acc, H4 D = some (.lst acc) ∧ acc.length < sizeLine ∧ Nx (upd H4 D (.lst (acc ++ [y]))) else Nx H3) :=
  lcS s (fun _ => true) f hG hD hw hl (fun x _ H' _ Q k => k H' (Same.refl _)) (fun x hx _ => he x hx) (fun H' s1 e => hd H' s1 (by rw [e, List.filter_eq_self.mpr (fun _ _ => rfl)]))
end
end U
namespace U
open PySem PySem.Spec PyProof.Rows L2
theorem Kp.rd {a c p : Addr} {H H' : Hp} {u : HO} (e : Kp a c H H') (h1 : p ≠ a) (h2 : p ≠ c) (h : Rd H p u) : Rd H' p u := by
  rcases h with h | ⟨o, h⟩
  · exact .inl (e p _ h1 h2 h)
  · exact .inr ⟨o, e p _ h1 h2 h⟩
theorem Kp.sqL {K : PySem.W.Frag} {a c p : Addr} {H H' : Hp} {xs : List V} (e : Kp a c H H') (h1 : p ≠ a) (h2 : p ≠ c) (h : SqL K H p xs) : SqL K H' p xs := by
  rcases h with h | h
  · exact .inl (e.rd h1 h2 h)
  · exact .inr h
theorem Kp.sqT {K : PySem.W.Frag} {a c p : Addr} {H H' : Hp} {xs : List V} (e : Kp a c H H') (h1 : p ≠ a) (h2 : p ≠ c) (h : SqT K H p xs) : SqT K H' p xs := by
  rcases h with h | h
  · exact .inl (e.rd h1 h2 h)
  · exact .inr h
theorem Same.kp {a c : Addr} {H H' : Hp} (e : Same H H') : Kp a c H H' := fun b o _ _ h => e b o h
theorem Deal.free {a c p : Addr} {H H' : Hp} (d : Deal H a c) (e : Kp a c H H') (d' : Deal H' a c) (hp : H' p = none) : H p = none := by
  cases q : H p with
  | none => rfl
  | some o =>
    have n := d'.ne hp
    rw [e p o n.1 n.2 q] at hp
    cases hp
theorem atI_int {α : Type} {xs : List α} {i : Int} {v : α} (h0 : 0 ≤ i) (h : xs[i.toNat]? = some v) : atI xs i = some v := by
  obtain ⟨n, rfl⟩ := Int.eq_ofNat_of_zero_le h0
  exact atI_nat (by simpa using h)
/-- one sign of a text; one thing of a list -/
def spPickS : Sp := fun vs H Q _ => ∃ (a c : Addr) (l : List Nat), vs = [.ref a, .str (S l)] ∧ Deal H a c ∧ l ≠ [] ∧ l.length ≤ 1000 ∧ ∀ (x : Nat) H', x ∈ l → Deal H' a c → Kp a c H H' → Q (.str (S [x])) H'
def spPickL (K : PySem.W.Frag) : Sp := fun vs H Q _ => ∃ (a c p : Addr) (xs : List V), vs = [.ref a, .ref p] ∧ Deal H a c ∧ SqL K H p xs ∧ p ≠ a ∧ p ≠ c ∧ xs ≠ [] ∧ xs.length ≤ 1000 ∧ ∀ (v : V) H', v ∈ xs → Deal H' a c → Kp a c H H' → Q v H'
/-- letters: some signs, each once, ascending -/
def signs : List Nat := (Str.ofString "-./0123456789_abcdefghijklmnopqrstuvwxyz").cps.toList
theorem signs_eq : signs = [45, 46, 47, 48, 49, 50, 51, 52, 53, 54, 55, 56, 57, 95, 97, 98, 99, 100, 101, 102, 103, 104, 105, 106, 107, 108, 109, 110, 111, 112, 113, 114, 115, 116, 117, 118, 119, 120, 121, 122] := by decide +kernel
theorem signs_S : Str.ofString "-./0123456789_abcdefghijklmnopqrstuvwxyz" = S signs := (S_cps _).symm
structure Letters (l : List Nat) (n : Nat) : Prop where
  len : l.length = n
  asc : l.Pairwise (· < ·)
  sub : ∀ x ∈ l, x ∈ signs
theorem nat_of {z : Int} (h : 0 ≤ z) : ∃ n : Nat, z = (n : Int) := ⟨z.toNat, (Int.toNat_of_nonneg h).symm⟩
def spLetters : Sp := fun vs H Q _ => ∃ (a c : Addr) (z : Int), vs = [.ref a, .int z] ∧ Deal H a c ∧ 0 ≤ z ∧ z ≤ 10 ∧ ∀ l H', Letters l z.toNat → Deal H' a c → Kp a c H H' → Q (.str (S l)) H'
/-! ### joined signs, sorted signs -/
theorem join_nil : ∀ ls : List (List Nat), Txt.join (S []) (ls.map S) = S ls.flatten := by
  intro ls
  rw [show Txt.join (S []) (ls.map S) = Str.join (S []) (ls.map S) from PySem.StrLaws.glued_eq_join _ _]
  induction ls with
  | nil => rfl
  | cons x r ih =>
    cases r with
    | nil => simp [Str.join]
    | cons y r =>
      show S x ++ S [] ++ Str.join (S []) (S y :: r.map S) = _
      rw [show (S y :: r.map S) = (y :: r).map S from rfl, ih, S_app, S_app]
      simp
theorem joinOnes (l : List Nat) : Txt.join (S []) (l.map fun c => S [c]) = S l := by
  have h := join_nil (l.map fun c => [c])
  rw [List.map_map] at h
  have e : ∀ l : List Nat, (l.map fun c => [c]).flatten = l := fun l => by
    induction l with
    | nil => rfl
    | cons x r ih => rw [List.map_cons, List.flatten_cons, ih]; rfl
  rw [e] at h
  exact h
theorem len_ones (l : List Nat) : ((l.map fun c => S [c]).map (·.length)).sum = l.length := by
  induction l with
  | nil => rfl
  | cons x r ih =>
    have e : (S [x]).length = 1 := S_len [x]
    simp only [List.map_cons, List.sum_cons, List.length_cons, e]
    omega
theorem chars_eq (l : List Nat) : chars l = (l.map fun c => S [c]).map V.str := by simp [chars]
theorem perm_ones {ys : List Str} {xs : List Nat} (h : ys.Perm (xs.map fun c => S [c])) : ∃ l : List Nat, l.Perm xs ∧ ys = l.map fun c => S [c] := by
  refine ⟨ys.map fun z => z.cps.toList.headD 0, ?_, ?_⟩
  · have h2 := h.map fun z : Str => z.cps.toList.headD 0
    rw [List.map_map] at h2
    have e : (xs.map ((fun z : Str => z.cps.toList.headD 0) ∘ fun c => S [c])) = xs := by
      conv => rhs; rw [← List.map_id xs]
      exact List.map_congr_left fun c _ => by simp [S]
    rw [e] at h2
    exact h2
  · rw [List.map_map]
    conv => lhs; rw [← List.map_id ys]
    refine List.map_congr_left fun z hz => ?_
    obtain ⟨c, _, rfl⟩ := List.mem_map.mp (h.mem_iff.mp hz)
    simp [S]
theorem sorted_ones : ∀ {l : List Nat}, sortedS (l.map fun c => S [c]) = true → l.Pairwise (· ≤ ·) := by
  have key : ∀ (l : List Nat) (p : Nat), risingS (S [p]) (l.map fun c => S [c]) = true → (∀ x ∈ l, p ≤ x) ∧ l.Pairwise (· ≤ ·) := by
    intro l
    induction l with
    | nil => intro p _; exact ⟨fun _ h => (nomatch h), .nil⟩
    | cons x r ih =>
      intro p h
      rw [List.map_cons] at h
      unfold risingS at h
      obtain ⟨h1, h2⟩ := Bool.and_eq_true_iff.mp h
      obtain ⟨h3, h4⟩ := ih x h2
      have h5 : p ≤ x := by
        rw [S_toList, S_toList, ltCps_eq] at h1
        have h1 : decide ([x] < [p]) = false := by simpa using h1
        have h1 := of_decide_eq_false h1
        rw [List.cons_lt_cons_iff] at h1
        omega
      refine ⟨fun y hy => ?_, .cons h3 h4⟩
      rcases List.mem_cons.mp hy with rfl | hy
      · exact h5
      · exact Nat.le_trans h5 (h3 y hy)
  intro l h
  cases l with
  | nil => exact .nil
  | cons x r =>
    obtain ⟨h3, h4⟩ := key r x h
    exact .cons h3 h4
theorem asc_of {l : List Nat} (h : l.Pairwise (· ≤ ·)) (n : l.Nodup) : l.Pairwise (· < ·) := by
  have := h.and n
  exact this.imp fun ⟨a, b⟩ => by omega
theorem seqIx {r : Int} {n : Nat} (h0 : 0 ≤ r) (h1 : r < n) : seqIndex? r n = some r.toNat := by
  have e : ixN n r = some r.toNat := by
    unfold ixN
    rw [if_pos h0, if_pos h1]
  exact (ixN_seq e).1
theorem map_erase {α β : Type} (f : α → β) : ∀ (l : List α) (i : Nat), (l.map f).eraseIdx i = (l.eraseIdx i).map f
  | [], _ => rfl
  | _ :: _, 0 => rfl
  | x :: l, i + 1 => by
    show f x :: (l.map f).eraseIdx i = f x :: (l.eraseIdx i).map f
    rw [map_erase f l i]
theorem erase_perm {α : Type} : ∀ (l : List α) (i : Nat) (h : i < l.length), (l[i] :: l.eraseIdx i).Perm l
  | x :: l, 0, _ => List.Perm.refl _
  | x :: l, i + 1, h => by
    have hi : i < l.length := by simpa using h
    have ih := erase_perm l i hi
    show (l[i] :: x :: l.eraseIdx i).Perm (x :: l)
    exact (List.Perm.swap x l[i] _).trans (ih.cons x)
theorem signs_nd : signs.Nodup := by rw [signs_eq]; decide +kernel
theorem signs_len : signs.length = 40 := by rw [signs_eq]; rfl
theorem empty_S : Str.ofString "" = S [] := rfl
/-- a word over letters -/
def spWord : Sp := fun vs H Q _ => ∃ (a c : Addr) (l : List Nat) (z : Int), vs = [.ref a, .str (S l), .int z] ∧ Deal H a c ∧ l ≠ [] ∧ l.length ≤ 1000 ∧ 0 ≤ z ∧ z ≤ 1000 ∧
  ∀ (x : List Nat) H', x.length ≤ z.toNat → (∀ y ∈ x, y ∈ l) → Deal H' a c → Kp a c H H' → Q (.str (S x)) H'
end U
/-! numbers of names: plain mathematics -/
namespace M3
/-- the place of a letter -/
def ix : List Nat → Nat → Nat
  | [], _ => 0
  | x :: r, c => if x = c then 0 else ix r c + 1
theorem ix_lt : ∀ {L : List Nat} {c : Nat}, c ∈ L → ix L c < L.length
  | x :: r, c, h => by
    unfold ix
    split
    · simp
    · rename_i hn
      have : c ∈ r := by
        rcases List.mem_cons.mp h with e | h
        · exact absurd e.symm hn
        · exact h
      have := ix_lt this
      simp; omega
theorem ix_get : ∀ {L : List Nat} {c : Nat}, c ∈ L → L[ix L c]? = some c
  | x :: r, c, h => by
    unfold ix
    split
    · rename_i e; simp [e]
    · rename_i hn
      have : c ∈ r := by
        rcases List.mem_cons.mp h with e | h
        · exact absurd e.symm hn
        · exact h
      simpa using ix_get this
theorem ix_of {L : List Nat} (nd : L.Nodup) {i c : Nat} (h : L[i]? = some c) : ix L c = i := by
  induction L generalizing i with
  | nil => simp at h
  | cons x r ih =>
    unfold ix
    cases i with
    | zero =>
      have e : x = c := by simpa using h
      simp [e]
    | succ i =>
      have h : r[i]? = some c := by simpa using h
      have hm : c ∈ r := List.mem_of_getElem? h
      have hx : x ∉ r := (List.nodup_cons.mp nd).1
      have hne : x ≠ c := fun e => hx (e ▸ hm)
      rw [if_neg hne, ih (List.nodup_cons.mp nd).2 h]
theorem ix_mono {L : List Nat} (asc : L.Pairwise (· < ·)) {c d : Nat} (hc : c ∈ L) (hd : d ∈ L) : c < d ↔ ix L c < ix L d := by
  have key : ∀ {c d : Nat}, c ∈ L → d ∈ L → ix L c < ix L d → c < d := by
    intro c d hc hd h
    have e1 := ix_get hc
    have e2 := ix_get hd
    have l1 := ix_lt hc
    have l2 := ix_lt hd
    have := List.pairwise_iff_getElem.mp asc (ix L c) (ix L d) l1 l2 h
    rw [List.getElem?_eq_getElem l1] at e1
    rw [List.getElem?_eq_getElem l2] at e2
    rw [Option.some.inj e1, Option.some.inj e2] at this
    exact this
  constructor
  · intro h
    rcases Nat.lt_trichotomy (ix L c) (ix L d) with h1 | h1 | h1
    · exact h1
    · have e1 := ix_get hc
      have e2 := ix_get hd
      rw [h1, e2] at e1
      have := Option.some.inj e1
      omega
    · have := key hd hc h1
      omega
  · exact key hc hd
theorem ix_inj {L : List Nat} {c d : Nat} (hc : c ∈ L) (hd : d ∈ L) (h : ix L c = ix L d) : c = d := by
  have e1 := ix_get hc
  have e2 := ix_get hd
  rw [h, e2] at e1
  exact (Option.some.inj e1).symm
def geo (n : Nat) : Nat → Nat
  | 0 => 0
  | m + 1 => geo n m + n ^ m
/-- digits, the first one the greatest place -/
def pv (n : Nat) : List Nat → Nat
  | [] => 0
  | x :: d => x * n ^ d.length + pv n d
def val (n : Nat) (d : List Nat) : Nat := d.foldl (fun a x => a * n + x + 1) 0
theorem val_app (n : Nat) (d : List Nat) (x : Nat) : val n (d ++ [x]) = val n d * n + x + 1 := by simp [val]
theorem geo_mul (n m : Nat) : geo n (m + 1) = geo n m * n + 1 := by
  induction m with
  | zero => simp [geo]
  | succ m ih =>
    show geo n (m + 1) + n ^ (m + 1) = geo n (m + 1) * n + 1
    conv => lhs; rw [ih]
    show geo n m * n + 1 + n ^ (m + 1) = (geo n m + n ^ m) * n + 1
    rw [Nat.add_mul, Nat.pow_succ]
    omega
theorem pv_app (n : Nat) (d : List Nat) (x : Nat) : pv n (d ++ [x]) = pv n d * n + x := by
  induction d with
  | nil => simp [pv]
  | cons y d ih =>
    show y * n ^ (d ++ [x]).length + pv n (d ++ [x]) = (y * n ^ d.length + pv n d) * n + x
    rw [ih, List.length_append, Nat.add_mul, Nat.mul_assoc, ← Nat.pow_succ]
    show y * n ^ (d.length + 1) + (pv n d * n + x) = y * n ^ (d.length + 1) + pv n d * n + x
    omega
theorem val_eq (n : Nat) (d : List Nat) : val n d = geo n d.length + pv n d := by
  generalize hm : d.length = m
  induction m generalizing d with
  | zero =>
    have : d = [] := List.length_eq_zero_iff.mp hm
    subst this
    rfl
  | succ m ih =>
    have hne : d ≠ [] := by intro e; subst e; simp at hm
    obtain ⟨l, x, rfl⟩ : ∃ l x, d = l ++ [x] := ⟨d.dropLast, d.getLast hne, (List.dropLast_concat_getLast hne).symm⟩
    have hl : l.length = m := by simpa using hm
    rw [val_app, pv_app, geo_mul, ih l hl, Nat.add_mul]
    omega
theorem pv_lt {n : Nat} (hn : 1 ≤ n) : ∀ d : List Nat, (∀ x ∈ d, x < n) → pv n d < n ^ d.length
  | [], _ => by simp [pv]
  | x :: d, h => by
    have h1 := pv_lt hn d fun y hy => h y (List.mem_cons_of_mem _ hy)
    have h2 : x < n := h x List.mem_cons_self
    show x * n ^ d.length + pv n d < n ^ (d.length + 1)
    have h3 : (x + 1) * n ^ d.length ≤ n * n ^ d.length := Nat.mul_le_mul_right _ h2
    rw [Nat.pow_succ, Nat.mul_comm (n ^ d.length) n]
    rw [Nat.add_mul] at h3
    omega
theorem geo_le {n : Nat} {a b : Nat} (h : a ≤ b) : geo n a ≤ geo n b := by
  induction h with
  | refl => exact Nat.le_refl _
  | step _ ih => exact Nat.le_trans ih (Nat.le_add_right _ _)
theorem val_len {n : Nat} (hn : 1 ≤ n) {a b : List Nat} (ha : ∀ x ∈ a, x < n) (h : a.length < b.length) : val n a < val n b := by
  rw [val_eq, val_eq]
  have h1 := pv_lt hn a ha
  have h2 : geo n (a.length + 1) ≤ geo n b.length := geo_le h
  have h3 : geo n (a.length + 1) = geo n a.length + n ^ a.length := rfl
  omega
/-- of one length: by the first unlike digit -/
theorem pv_lex {n : Nat} (hn : 1 ≤ n) : ∀ {a b : List Nat}, a.length = b.length → (∀ x ∈ a, x < n) → (∀ x ∈ b, x < n) → pv n a < pv n b → a < b
  | [], [], _, _, _, h => by simp [pv] at h
  | x :: a, y :: b, hl0, ha, hb, h0 => by
    have hl : a.length = b.length := by simpa using hl0
    have h1 := pv_lt hn a fun y hy => ha y (List.mem_cons_of_mem _ hy)
    have h2 := pv_lt hn b fun y hy => hb y (List.mem_cons_of_mem _ hy)
    have h : x * n ^ a.length + pv n a < y * n ^ b.length + pv n b := h0
    clear h0 hl0
    rw [List.cons_lt_cons_iff]
    rcases Nat.lt_trichotomy x y with e | e | e
    · exact .inl e
    · subst e
      rw [hl] at h
      exact .inr ⟨rfl, pv_lex hn hl (fun y hy => ha y (List.mem_cons_of_mem _ hy)) (fun y hy => hb y (List.mem_cons_of_mem _ hy)) (by omega)⟩
    · exfalso
      have h3 : (y + 1) * n ^ a.length ≤ x * n ^ a.length := Nat.mul_le_mul_right _ e
      rw [Nat.add_mul, hl] at h3
      rw [hl] at h
      omega
theorem pv_inj {n : Nat} (hn : 1 ≤ n) : ∀ {a b : List Nat}, a.length = b.length → (∀ x ∈ a, x < n) → (∀ x ∈ b, x < n) → pv n a = pv n b → a = b
  | [], [], _, _, _, h => rfl
  | x :: a, y :: b, hl0, ha, hb, h0 => by
    have hl : a.length = b.length := by simpa using hl0
    have h1 := pv_lt hn a fun y hy => ha y (List.mem_cons_of_mem _ hy)
    have h2 := pv_lt hn b fun y hy => hb y (List.mem_cons_of_mem _ hy)
    have h : x * n ^ a.length + pv n a = y * n ^ b.length + pv n b := h0
    clear h0 hl0
    rw [hl] at h h1
    rcases Nat.lt_trichotomy x y with e | e | e
    · exfalso
      have h3 : (x + 1) * n ^ b.length ≤ y * n ^ b.length := Nat.mul_le_mul_right _ e
      rw [Nat.add_mul] at h3
      omega
    · subst e
      rw [pv_inj hn hl (fun y hy => ha y (List.mem_cons_of_mem _ hy)) (fun y hy => hb y (List.mem_cons_of_mem _ hy)) (by omega)]
    · exfalso
      have h3 : (y + 1) * n ^ b.length ≤ x * n ^ b.length := Nat.mul_le_mul_right _ e
      rw [Nat.add_mul] at h3
      omega
theorem val_inj {n : Nat} (hn : 1 ≤ n) {a b : List Nat} (ha : ∀ x ∈ a, x < n) (hb : ∀ x ∈ b, x < n) (h : val n a = val n b) : a = b := by
  have hl : a.length = b.length := by
    rcases Nat.lt_trichotomy a.length b.length with e | e | e
    · have := val_len hn ha e; omega
    · exact e
    · have := val_len hn hb e; omega
  refine pv_inj hn hl ha hb ?_
  rw [val_eq, val_eq, hl] at h
  omega
/-- the name with a number: its digits -/
def nm (n : Nat) (k : Nat) : List Nat := if h : k = 0 ∨ n = 0 then [] else nm n ((k - 1) / n) ++ [(k - 1) % n]
termination_by k
decreasing_by
  have h1 : (k - 1) / n ≤ k - 1 := Nat.div_le_self _ _
  omega
theorem nm_zero (n : Nat) : nm n 0 = [] := by rw [nm]; simp
theorem nm_pos {n k : Nat} (hn : 1 ≤ n) (hk : 1 ≤ k) : nm n k = nm n ((k - 1) / n) ++ [(k - 1) % n] := by
  conv => lhs; rw [nm]
  rw [dif_neg (by omega)]
theorem nm_val {n : Nat} (hn : 1 ≤ n) (k : Nat) : val n (nm n k) = k ∧ ∀ x ∈ nm n k, x < n := by
  induction k using Nat.strongRecOn with
  | _ k ih =>
    by_cases hk : k = 0
    · subst hk
      rw [nm_zero]
      exact ⟨rfl, fun _ h => nomatch h⟩
    · rw [nm_pos hn (by omega)]
      have h1 : (k - 1) / n ≤ k - 1 := Nat.div_le_self _ _
      obtain ⟨h2, h3⟩ := ih ((k - 1) / n) (by omega)
      refine ⟨?_, fun x hx => ?_⟩
      · rw [val_app, h2]
        have := Nat.div_add_mod (k - 1) n
        rw [Nat.mul_comm] at this
        omega
      · rcases List.mem_append.mp hx with h | h
        · exact h3 x h
        · rw [List.mem_singleton.mp h]
          exact Nat.mod_lt _ hn
theorem nm_of {n : Nat} (hn : 1 ≤ n) {d : List Nat} (hd : ∀ x ∈ d, x < n) : nm n (val n d) = d :=
  val_inj hn (nm_val hn _).2 hd (nm_val hn _).1
theorem nm_len {n : Nat} (hn : 2 ≤ n) : ∀ (m k : Nat), k < 2 ^ m → (nm n k).length ≤ m
  | 0, k, h => by
    have : k = 0 := by simpa using h
    subst this
    rw [nm_zero]
    simp
  | m + 1, k, h => by
    by_cases hk : k = 0
    · subst hk
      rw [nm_zero]
      simp
    · rw [nm_pos (by omega) (by omega), List.length_append]
      have h1 : (k - 1) / n ≤ (k - 1) / 2 := Nat.div_le_div_left hn (by decide)
      have := nm_len hn m ((k - 1) / n) (by rw [Nat.pow_succ] at h; omega)
      simp; omega
/-- names beside each other -/
theorem nm_next {n : Nat} (hn : 1 ≤ n) (k : Nat) : (nm n k).length ≤ (nm n (k + 1)).length ∧ ((nm n k).length = (nm n (k + 1)).length → nm n k < nm n (k + 1)) := by
  obtain ⟨e1, d1⟩ := nm_val hn k
  obtain ⟨e2, d2⟩ := nm_val hn (k + 1)
  refine ⟨?_, fun hl => ?_⟩
  · apply Nat.le_of_not_lt
    intro h
    have := val_len hn d2 h
    omega
  · refine pv_lex hn hl d1 d2 ?_
    rw [val_eq, hl] at e1
    rw [val_eq] at e2
    omega
/-- digits and letters have one order -/
theorem lex_map {L : List Nat} (asc : L.Pairwise (· < ·)) : ∀ {a b : List Nat}, (∀ x ∈ a, x < L.length) → (∀ x ∈ b, x < L.length) → a < b → a.map (L.getD · 0) < b.map (L.getD · 0)
  | [], [], _, _, h => absurd h (by simp)
  | [], _ :: _, _, _, _ => by simp
  | _ :: _, [], _, _, h => absurd h (by simp)
  | x :: a, y :: b, ha, hb, h => by
    rw [List.cons_lt_cons_iff] at h
    rw [List.map_cons, List.map_cons, List.cons_lt_cons_iff]
    have hx := ha x List.mem_cons_self
    have hy := hb y List.mem_cons_self
    rcases h with h | ⟨e, h⟩
    · left
      have := List.pairwise_iff_getElem.mp asc x y hx hy h
      simpa [List.getD, List.getElem?_eq_getElem hx, List.getElem?_eq_getElem hy] using this
    · subst e
      exact .inr ⟨rfl, lex_map asc (fun y hy => ha y (List.mem_cons_of_mem _ hy)) (fun y hy => hb y (List.mem_cons_of_mem _ hy)) h⟩
theorem val_lt {n : Nat} (hn : 2 ≤ n) (h5 : n ≤ 5) : ∀ d : List Nat, (∀ x ∈ d, x < n) → val n d + 1 ≤ 6 ^ d.length := by
  intro d
  generalize hm : d.length = m
  induction m generalizing d with
  | zero =>
    have : d = [] := List.length_eq_zero_iff.mp hm
    subst this
    intro _
    exact Nat.le_refl _
  | succ m ih =>
    intro h
    have hne : d ≠ [] := by intro e; subst e; simp at hm
    obtain ⟨l, x, rfl⟩ : ∃ l x, d = l ++ [x] := ⟨d.dropLast, d.getLast hne, (List.dropLast_concat_getLast hne).symm⟩
    have hl : l.length = m := by simpa using hm
    have h1 := ih l hl fun y hy => h y (by simp [hy])
    have h2 := h x (by simp)
    rw [val_app, Nat.pow_succ]
    have h3 : val n l * n ≤ val n l * 5 := Nat.mul_le_mul_left _ h5
    omega
end M3
namespace U
open PySem PySem.Spec PyProof.Rows L2
theorem idx_occ {L : List Nat} (nd : L.Nodup) {c : Nat} (hc : c ∈ L) : ∃ rest, Builtin.Str.occurrences (S L) (S [c]) 0 (S L).length 1 = M3.ix L c :: rest := by
  have h := StrLaws.found_one (S L) c
  rw [S_toList, decide_eq_true hc] at h
  have e : (⟨#[c]⟩ : Str) = S [c] := rfl
  rw [e] at h
  cases ho : Builtin.Str.occurrences (S L) (S [c]) 0 (S L).length 1 with
  | nil => rw [ho] at h; cases h
  | cons i rest =>
    have h1 := StrLaws.occ_spec (S L) (S [c]) 0 (S L).length 1 i (by rw [ho]; exact List.mem_cons_self)
    have h2 := (StrLaws.subAt_one (S L) c i).mp h1
    rw [S_toList] at h2
    exact ⟨rest, by rw [M3.ix_of nd h2]⟩
theorem asc_nd {L : List Nat} (h : L.Pairwise (· < ·)) : L.Nodup := h.imp fun h => by omega
theorem getD_get {L : List Nat} {i : Nat} (h : i < L.length) : L[i]? = some (L.getD i 0) := by simp [List.getD, List.getElem?_eq_getElem h]
theorem map_ix_getD {L : List Nat} : ∀ {x : List Nat}, (∀ y ∈ x, y ∈ L) → (x.map (M3.ix L)).map (L.getD · 0) = x
  | [], _ => rfl
  | y :: x, h => by
    have h1 := M3.ix_get (h y List.mem_cons_self)
    rw [List.map_cons, List.map_cons, map_ix_getD fun z hz => h z (List.mem_cons_of_mem _ hz)]
    simp [List.getD, h1]
theorem map_getD_ix {L : List Nat} (nd : L.Nodup) : ∀ {d : List Nat}, (∀ y ∈ d, y < L.length) → (d.map (L.getD · 0)).map (M3.ix L) = d
  | [], _ => rfl
  | y :: d, h => by
    have h1 := M3.ix_of nd (getD_get (h y List.mem_cons_self))
    rw [List.map_cons, List.map_cons, map_getD_ix nd fun z hz => h z (List.mem_cons_of_mem _ hz), h1]
theorem lg {n : Nat} (h : n < 2 ^ 250) : n.log2 < 1920 := by
  by_cases h0 : n = 0
  · subst h0
    decide
  · refine Nat.lt_of_lt_of_le ((Nat.log2_lt h0).mpr h) (by decide)
theorem lgI {z : Int} (h0 : 0 ≤ z) (h : z < 2 ^ 250) : z.natAbs.log2 < 1920 := lg (by omega)
theorem Deal.same {a c : Addr} {H H' : Hp} (d : Deal H a c) (e : Same H H') : Deal H' a c := by
  obtain ⟨ns, m, d⟩ := d
  exact ⟨ns, m, ⟨e _ _ d.hd, e _ _ d.cs, d.pos, d.few, d.m0, d.m1⟩⟩
theorem cut_take (l : List Nat) {r : Int} (h : 0 ≤ r) : cutS (S l) none (some r) = S (l.take r.toNat) := by
  obtain ⟨n, rfl⟩ := nat_of h
  unfold cutS
  rw [S_toList, S_len, HT.sIx_none, HT.sIx_nat, List.drop_zero, Nat.sub_zero, Int.toNat_natCast]
  show S (l.take (min n l.length)) = _
  congr 1
  by_cases hl : n ≤ l.length
  · rw [Nat.min_eq_left hl]
  · rw [Nat.min_eq_right (by omega), List.take_length, List.take_of_length_le (by omega)]
theorem cut_drop (l : List Nat) {r : Int} (h : 0 ≤ r) : cutS (S l) (some r) none = S (l.drop r.toNat) := by
  obtain ⟨n, rfl⟩ := nat_of h
  unfold cutS
  rw [S_toList, S_len, HT.sIx_none, HT.sIx_nat, Int.toNat_natCast]
  show S ((l.drop (min n l.length)).take (l.length - min n l.length)) = _
  congr 1
  by_cases hl : n ≤ l.length
  · rw [Nat.min_eq_left hl, List.take_of_length_le (by rw [List.length_drop]; omega)]
  · rw [Nat.min_eq_right (by omega), List.drop_of_length_le (i := n) (by omega), List.drop_length, List.take_nil]
theorem rep_mem {x : List Nat} {n y : Nat} (h : y ∈ rep x n) : y ∈ x := by
  unfold rep at h
  obtain ⟨l, hl, hy⟩ := List.mem_flatten.mp h
  rw [(List.mem_replicate.mp hl).2] at hy
  exact hy
end U
namespace U
open PySem PySem.Spec PyProof.Rows L2
/-! ### repr of plain values -/
def reprT : V → Str
  | .non => "None"
  | .bl b => if b then "True" else "False"
  | .int i => toString i
  | .str x => reprText x
  | _ => ""
def reprOk : V → Prop
  | .non => True
  | .bl _ => True
  | .int i => i.natAbs.log2 < 1920
  | .str x => (reprText x).length ≤ sizeLine
  | _ => False
section
variable {X : Cx}
theorem call_repr : CallR X (.builtin "repr") (fun xs H Q => ∃ v, xs = [v] ∧ reprOk v ∧ Q (.str (reprT v)) H) := by
  intro pins s σ H xs us Q I r h
  obtain ⟨v, rfl, hz, q⟩ := h
  obtain ⟨u, rfl, rx⟩ := vals1 r
  cases v with
  | non =>
    cases rx
    exact PySem.P.repr_of_none ⟨.str _, H, I.tok _, ⟨_, rfl⟩, q⟩
  | bl b =>
    cases rx
    exact PySem.P.repr_of_bool ⟨.str _, H, I.tok _, ⟨_, by cases b <;> rfl⟩, q⟩
  | int i =>
    obtain ⟨t, rfl⟩ := rx
    exact PySem.P.repr_of_int hz ⟨.str _, H, I.tok _, ⟨_, rfl⟩, q⟩
  | str x =>
    obtain ⟨t, rfl⟩ := rx
    exact PySem.P.repr_of_str ⟨.str _, H, I.tok _, ⟨_, rfl⟩, q⟩ hz
  | byt _ => exact hz.elim
  | flt _ => exact hz.elim
  | ref _ => exact hz.elim
  | ty _ => exact hz.elim
end
/-! ### beginnings, stripped texts -/
theorem starts_eq (a b : List Nat) : Txt.startswith (S a) (S b) = decide (a.take b.length = b) := by
  unfold Txt.startswith
  rw [PySem.StrLaws.subAt_eq, S_toList, S_toList, S_len, S_len, List.drop_zero, Nat.zero_add]
  by_cases h : a.take b.length = b
  · have hl : b.length ≤ a.length := by
      have := congrArg List.length h
      rw [List.length_take] at this
      omega
    simp [h, hl]
  · simp [h]
theorem sub_S (l : List Nat) (i j : Nat) : Builtin.Str.strSub (S l) i j = S ((l.take j).drop i) := by
  show Str.mk ((S l).cps.extract i j) = _
  have : ((S l).cps.extract i j).toList = (l.take j).drop i := by
    simp [S, List.drop_take]
  rw [← S_cps (Str.mk _)]
  rw [this]
theorem goes_eq (g : Nat) : (S [g]).cps.contains = fun c => c == g := by
  funext c
  rw [Bool.eq_iff_iff]
  simp [S]
theorem tw_all {g : Nat} {l : List Nat} (h : ∀ x ∈ l, x = g) : l.takeWhile (fun c => c == g) = l := by
  induction l with
  | nil => rfl
  | cons x l ih =>
    have hx := h x List.mem_cons_self
    subst hx
    simp [List.takeWhile_cons, ih fun y hy => h y (List.mem_cons_of_mem _ hy)]
theorem tw_mem {g : Nat} : ∀ {l : List Nat}, ∀ x ∈ l.takeWhile (fun c => c == g), x = g
  | y :: l, x, h => by
    rw [List.takeWhile_cons] at h
    split at h
    · rename_i hy
      rcases List.mem_cons.mp h with rfl | h
      · simpa using hy
      · exact tw_mem x h
    · cases h
theorem eq_rep {g : Nat} {l : List Nat} (h : ∀ x ∈ l, x = g) : l = List.replicate l.length g := List.eq_replicate_iff.mpr ⟨rfl, h⟩
theorem dw_head {g : Nat} : ∀ {l : List Nat} {x : Nat} {r : List Nat}, l.dropWhile (fun c => c == g) = x :: r → x ≠ g
  | y :: l, x, r, h => by
    rw [List.dropWhile_cons] at h
    split at h
    · exact dw_head h
    · rename_i hy
      cases h
      simpa using hy
theorem rst_spec (l : List Nat) (g : Nat) : ∃ (kept : List Nat) (m : Nat), Txt.rstripChars (S l) (S [g]) = S kept ∧ l = kept ++ List.replicate m g ∧ (kept = [] ∨ ∃ k0 x, kept = k0 ++ [x] ∧ x ≠ g) := by
  have e : Txt.rstripChars (S l) (S [g]) = S (l.take (l.length - (l.reverse.takeWhile fun c => c == g).length)) := by
    unfold Txt.rstripChars
    rw [PySem.W.stripBy_eq, goes_eq]
    show Builtin.Str.strSub (S l) 0 ((S l).length - (((S l).cps.toList.drop 0).reverse.takeWhile _).length) = _
    rw [sub_S, S_toList, S_len, List.drop_zero, List.drop_zero]
  have h1 := List.takeWhile_append_dropWhile (p := fun c => c == g) (l := l.reverse)
  generalize ht : l.reverse.takeWhile (fun c => c == g) = t at *
  generalize hd : l.reverse.dropWhile (fun c => c == g) = d at *
  have h2 : l = d.reverse ++ t.reverse := by
    have := congrArg List.reverse h1
    rw [List.reverse_append, List.reverse_reverse] at this
    exact this.symm
  have ht2 : t.reverse = List.replicate t.length g := by
    have := eq_rep (l := t.reverse) (g := g) fun x hx => by
      rw [List.mem_reverse, ← ht] at hx
      exact tw_mem x hx
    rw [List.length_reverse] at this
    exact this
  have h3 : l.take (l.length - t.length) = d.reverse := by
    have : l.length - t.length = d.reverse.length := by
      rw [h2, List.length_append, List.length_reverse, List.length_reverse]
      omega
    rw [this, h2, List.take_left']
    rfl
  refine ⟨d.reverse, t.length, by rw [e, h3], by rw [← ht2]; exact h2, ?_⟩
  cases d with
  | nil => exact .inl rfl
  | cons x r => exact .inr ⟨r.reverse, x, by simp, dw_head hd⟩
theorem strip_nil (l : List Nat) (c : Nat) : Txt.stripChars (S l) (S [c]) = S [] ↔ ∀ x ∈ l, x = c := by
  have e : Txt.stripChars (S l) (S [c]) = S ((l.take (l.length - ((l.drop (l.takeWhile fun z => z == c).length).reverse.takeWhile fun z => z == c).length)).drop (l.takeWhile fun z => z == c).length) := by
    unfold Txt.stripChars
    rw [PySem.W.stripBy_eq, goes_eq]
    show Builtin.Str.strSub (S l) ((S l).cps.toList.takeWhile _).length ((S l).length - (((S l).cps.toList.drop ((S l).cps.toList.takeWhile _).length).reverse.takeWhile _).length) = _
    rw [sub_S, S_toList, S_len]
  rw [e, S_inj]
  constructor
  · intro h x hx
    have h1 := List.takeWhile_append_dropWhile (p := fun z => z == c) (l := l)
    generalize ht : l.takeWhile (fun z => z == c) = t at *
    generalize hd : l.dropWhile (fun z => z == c) = d at *
    have hdr : l.drop t.length = d := by rw [← h1, List.drop_left']; rfl
    rw [hdr] at h
    have hlen : l.length = t.length + d.length := by rw [← h1, List.length_append]
    cases d with
    | nil =>
      rw [List.append_nil] at h1
      rw [← h1, ← ht] at hx
      exact tw_mem x hx
    | cons y r =>
      exfalso
      have hy := dw_head hd
      have hlt : ((y :: r).reverse.takeWhile fun z => z == c).length < (y :: r).length := by
        have h5 := List.takeWhile_append_dropWhile (p := fun z => z == c) (l := (y :: r).reverse)
        have h6 := congrArg List.length h5
        rw [List.length_append, List.length_reverse] at h6
        by_cases hz : ((y :: r).reverse.dropWhile fun z => z == c).length = 0
        · have h7 := List.length_eq_zero_iff.mp hz
          rw [h7, List.append_nil] at h5
          have : y ∈ (y :: r).reverse := by simp
          rw [← h5] at this
          exact absurd (tw_mem y this) hy
        · omega
      have := congrArg List.length h
      rw [List.length_drop, List.length_take] at this
      simp only [List.length_nil] at this
      omega
  · intro h
    rw [tw_all h]
    exact List.drop_of_length_le (by rw [List.length_take]; omega)
theorem cut_init (l : List Nat) (x : Nat) : cutS (S (l ++ [x])) none (some (-1)) = S l := by
  unfold cutS
  rw [S_toList, S_len, HT.sIx_none, List.drop_zero, Nat.sub_zero]
  have e : HT.sIx (l ++ [x]).length (l ++ [x]).length (some (-1)) = l.length := by
    unfold HT.sIx
    simp only [List.length_append]
    rw [if_pos (by decide)]
    simp only [List.length_cons, List.length_nil]
    omega
  rw [e, List.take_left']
  · rfl
  · rfl
end U
/-! texts in order: plain mathematics -/
namespace M2
theorem lt_app {p : List Nat} {c : Nat} {r : List Nat} : p < p ++ c :: r := by
  induction p with
  | nil => simp
  | cons x p ih =>
    rw [List.cons_append, List.cons_lt_cons_iff]
    exact .inr ⟨rfl, ih⟩
theorem app_lt {p a b : List Nat} : p ++ a < p ++ b ↔ a < b := by
  induction p with
  | nil => simp
  | cons x p ih =>
    rw [List.cons_append, List.cons_append, List.cons_lt_cons_iff]
    constructor
    · rintro (h | ⟨_, h⟩)
      · omega
      · exact ih.mp h
    · intro h
      exact .inr ⟨rfl, ih.mpr h⟩
theorem rep_lt {c : Nat} : ∀ {j r : Nat}, List.replicate j c < List.replicate r c ↔ j < r
  | 0, 0 => by simp
  | 0, r + 1 => by simp [List.replicate_succ]
  | j + 1, 0 => by simp [List.replicate_succ]
  | j + 1, r + 1 => by
    rw [List.replicate_succ, List.replicate_succ, List.cons_lt_cons_iff]
    have := rep_lt (c := c) (j := j) (r := r)
    constructor
    · rintro (h | ⟨_, h⟩)
      · omega
      · have := this.mp h; omega
    · intro h
      exact .inr ⟨rfl, this.mpr (by omega)⟩
/-- the text behind a text -/
theorem next {c : Nat} : ∀ {p h : List Nat}, (∀ x ∈ h, c ≤ x) → p < h → ¬ (p ++ [c] < h) → h = p ++ [c]
  | [], [], _, h, _ => by simp at h
  | [], [x], hc, _, h => by
    have := hc x (by simp)
    rw [List.nil_append, List.cons_lt_cons_iff] at h
    have : x = c := by
      rcases Nat.lt_or_ge c x with h1 | h1
      · exact absurd (.inl h1) h
      · omega
    rw [this]
    rfl
  | [], x :: y :: r, hc, _, h => by
    exfalso
    have := hc x (by simp)
    rw [List.nil_append, List.cons_lt_cons_iff] at h
    apply h
    rcases Nat.lt_or_ge c x with h1 | h1
    · exact .inl h1
    · exact .inr ⟨by omega, by simp⟩
  | a :: p, [], _, h, _ => by simp at h
  | a :: p, b :: h, hc, h1, h2 => by
    rw [List.cons_lt_cons_iff] at h1
    rw [List.cons_append, List.cons_lt_cons_iff] at h2
    rcases h1 with h1 | ⟨rfl, h1⟩
    · exact absurd (.inl h1) h2
    · rw [List.cons_append, ← next (fun x hx => hc x (List.mem_cons_of_mem _ hx)) h1 (fun h => h2 (.inr ⟨rfl, h⟩))]
/-- whether a text is another one with least letters behind, and how many -/
def Form (c : Nat) (lo h : List Nat) : Prop := h.take lo.length = lo ∧ ∀ x ∈ h.drop lo.length, x = c
instance (c : Nat) (lo h : List Nat) : Decidable (Form c lo h) := by unfold Form; exact inferInstance
theorem Form.eq {c : Nat} {lo h : List Nat} (f : Form c lo h) : h = lo ++ List.replicate (h.drop lo.length).length c := by
  conv => lhs; rw [← List.take_append_drop lo.length h, f.1]
  congr 1
  exact List.eq_replicate_iff.mpr ⟨rfl, f.2⟩
theorem Form.of {c : Nat} {lo : List Nat} (r : Nat) : Form c lo (lo ++ List.replicate r c) := by
  refine ⟨by simp, fun x hx => ?_⟩
  rw [List.drop_left'] at hx
  · exact (List.mem_replicate.mp hx).2
  · rfl
theorem lt_tr {a b c : List Nat} (h1 : a < b) (h2 : b < c) : a < c := List.lt_trans h1 h2
theorem lo_lt {c : Nat} {lo h : List Nat} {j : Nat} (h1 : lo ++ List.replicate j c < h) : lo < h := by
  cases j with
  | zero => simpa using h1
  | succ j => exact lt_tr (by rw [List.replicate_succ]; exact lt_app) h1
/-- a text that begins so is below what is raised there -/
theorem lt_raised {k x y : Nat} (h : x < y) (k0 r s : List Nat) : k0 ++ x :: r < k0 ++ y :: s := by
  rw [app_lt, List.cons_lt_cons_iff]
  exact .inl h
end M2
namespace K02
open PySem PySem.Spec PyProof.Rows L2 U
def topS (i : Nat) : Stmt := PySem.Challenge.pw_undername_k02_whole_raised_texts_and_roo.main.body.getD i (.Pass ⟨0, 0, 0, 0⟩)
abbrev s_raised : Stmt := topS 1
theorem sc_raised : FnScope ["letters", "text", "kept"] ["letters", "text"] (defScope s_raised) := ⟨rfl, rfl, rfl, by decide +kernel, rfl, by decide +kernel, by decide +kernel⟩
abbrev s_room : Stmt := topS 2
theorem sc_room : FnScope ["letters", "low", "high", "rest"] ["letters", "low", "high"] (defScope s_room) := ⟨rfl, rfl, rfl, by decide +kernel, rfl, by decide +kernel, by decide +kernel⟩
abbrev s_l_deal : Stmt := topS 4
theorem sc_l_deal : FnScope ["_law_script", "_law_base", "_law_cells", "_law_mixed", "_law_cell"] ["_law_script", "_law_base"] (defScope s_l_deal) := ⟨rfl, rfl, rfl, by decide +kernel, rfl, by decide +kernel, by decide +kernel⟩
abbrev s_l_draw : Stmt := topS 5
theorem sc_l_draw : FnScope ["_law_deal_here", "_law_many", "_law_left"] ["_law_deal_here", "_law_many"] (defScope s_l_draw) := ⟨rfl, rfl, rfl, by decide +kernel, rfl, by decide +kernel, by decide +kernel⟩
abbrev s_l_pick : Stmt := topS 6
theorem sc_l_pick : FnScope ["_law_deal_here", "_law_some"] ["_law_deal_here", "_law_some"] (defScope s_l_pick) := ⟨rfl, rfl, rfl, by decide +kernel, rfl, by decide +kernel, by decide +kernel⟩
abbrev s_l_letters : Stmt := topS 7
theorem sc_l_letters : FnScope ["_law_deal_here", "_law_many", "_law_signs", "_law_found", "_law_turn", "_law_sign"] ["_law_deal_here", "_law_many"] (defScope s_l_letters) := ⟨rfl, rfl, rfl, by decide +kernel, rfl, by decide +kernel, by decide +kernel⟩
abbrev s_l_word : Stmt := topS 8
theorem sc_l_word : FnScope ["_law_deal_here", "_law_letters_here", "_law_most", "_law_k"] ["_law_deal_here", "_law_letters_here", "_law_most"] (defScope s_l_word) := ⟨rfl, rfl, rfl, by decide +kernel, rfl, by decide +kernel, by decide +kernel⟩
abbrev s_l_tail : Stmt := topS 9
theorem sc_l_tail : FnScope ["_law_deal_here", "_law_letters_here", "_law_sign"] ["_law_deal_here", "_law_letters_here"] (defScope s_l_tail) := ⟨rfl, rfl, rfl, by decide +kernel, rfl, by decide +kernel, by decide +kernel⟩
abbrev s_l_raised_right : Stmt := topS 10
theorem sc_l_raised_right : FnScope ["_law_deal_here", "_law_letters_here", "_law_text", "_law_told", "_law_others", "_law_near", "_law_below", "_law_turn", "_law_sign", "_law_one"] ["_law_deal_here", "_law_letters_here", "_law_text"] (defScope s_l_raised_right) := ⟨rfl, rfl, rfl, by decide +kernel, rfl, by decide +kernel, by decide +kernel⟩
abbrev s_l_walked : Stmt := topS 11
theorem sc_l_walked : FnScope ["_law_letters_here", "_law_low", "_law_high", "_law_many"] ["_law_letters_here", "_law_low", "_law_high"] (defScope s_l_walked) := ⟨rfl, rfl, rfl, by decide +kernel, rfl, by decide +kernel, by decide +kernel⟩
abbrev s_law : Stmt := topS 12
theorem sc_law : FnScope ["_law_script", "_law_deal_here", "_law_turn", "_law_letters_here", "_law_text", "_law_other", "_law_low", "_law_high"] ["_law_script"] (defScope s_law) := ⟨rfl, rfl, rfl, by decide +kernel, rfl, by decide +kernel, by decide +kernel⟩
structure Top (K : PySem.W.Frag) (mg : Str → Option Value) : Type where
  f_raised : Addr
  d_raised : FuncData
  F_raised : Fun K "raised" "raised" s_raised f_raised d_raised
  g_raised : mg "raised" = some (.ref f_raised)
  b_raised : Binds K d_raised ["letters", "text"] []
  f_room : Addr
  d_room : FuncData
  F_room : Fun K "room" "room" s_room f_room d_room
  g_room : mg "room" = some (.ref f_room)
  b_room : Binds K d_room ["letters", "low", "high"] []
  f_l_deal : Addr
  d_l_deal : FuncData
  F_l_deal : Fun K "_law_deal" "_law_deal" s_l_deal f_l_deal d_l_deal
  g_l_deal : mg "_law_deal" = some (.ref f_l_deal)
  b_l_deal : Binds K d_l_deal ["_law_script", "_law_base"] []
  f_l_draw : Addr
  d_l_draw : FuncData
  F_l_draw : Fun K "_law_draw" "_law_draw" s_l_draw f_l_draw d_l_draw
  g_l_draw : mg "_law_draw" = some (.ref f_l_draw)
  b_l_draw : Binds K d_l_draw ["_law_deal_here", "_law_many"] []
  f_l_pick : Addr
  d_l_pick : FuncData
  F_l_pick : Fun K "_law_pick" "_law_pick" s_l_pick f_l_pick d_l_pick
  g_l_pick : mg "_law_pick" = some (.ref f_l_pick)
  b_l_pick : Binds K d_l_pick ["_law_deal_here", "_law_some"] []
  f_l_letters : Addr
  d_l_letters : FuncData
  F_l_letters : Fun K "_law_letters" "_law_letters" s_l_letters f_l_letters d_l_letters
  g_l_letters : mg "_law_letters" = some (.ref f_l_letters)
  b_l_letters : Binds K d_l_letters ["_law_deal_here", "_law_many"] []
  f_l_word : Addr
  d_l_word : FuncData
  F_l_word : Fun K "_law_word" "_law_word" s_l_word f_l_word d_l_word
  g_l_word : mg "_law_word" = some (.ref f_l_word)
  b_l_word : Binds K d_l_word ["_law_deal_here", "_law_letters_here", "_law_most"] []
  f_l_tail : Addr
  d_l_tail : FuncData
  F_l_tail : Fun K "_law_tail" "_law_tail" s_l_tail f_l_tail d_l_tail
  g_l_tail : mg "_law_tail" = some (.ref f_l_tail)
  b_l_tail : Binds K d_l_tail ["_law_deal_here", "_law_letters_here"] []
  f_l_raised_right : Addr
  d_l_raised_right : FuncData
  F_l_raised_right : Fun K "_law_raised_right" "_law_raised_right" s_l_raised_right f_l_raised_right d_l_raised_right
  g_l_raised_right : mg "_law_raised_right" = some (.ref f_l_raised_right)
  b_l_raised_right : Binds K d_l_raised_right ["_law_deal_here", "_law_letters_here", "_law_text"] []
  f_l_walked : Addr
  d_l_walked : FuncData
  F_l_walked : Fun K "_law_walked" "_law_walked" s_l_walked f_l_walked d_l_walked
  g_l_walked : mg "_law_walked" = some (.ref f_l_walked)
  b_l_walked : Binds K d_l_walked ["_law_letters_here", "_law_low", "_law_high"] []
  f_law : Addr
  d_law : FuncData
  F_law : Fun K "law" "law" s_law f_law d_law
  g_law : mg "law" = some (.ref f_law)
  b_law : Binds K d_law ["_law_script"] []
  n_int : mg "int" = none
  n_len : mg "len" = none
  n_list : mg "list" = none
  n_range : mg "range" = none
  n_repr : mg "repr" = none
  n_sorted : mg "sorted" = none
  n_str : mg "str" = none
section
variable {P : Program} {w : World} {K : PySem.W.Frag} {mg : Str → Option Value} {base : Heap}
theorem ok_l_draw (T : Top K mg) : FnOk P w K mg base CX0 1 T.f_l_draw T.d_l_draw ["_law_deal_here", "_law_many"] spDraw := by
  refine T.F_l_draw.ok sc_l_draw (fun vs H Q E h => ?_) (fun cdv A outer s H vs Q E hr h => ?_)
  · obtain ⟨a, c, many, rfl, _⟩ := h
    rfl
  · obtain ⟨a, c, many, rfl, ⟨ns, m, d0⟩, hm1, hm2, q⟩ := h
    refine ⟨_, (pss_cons (ps_while PassesOwn.never (PW.pt (pw_and (pt_cmpR (op_neD hr.units) (pe_ix ix_list (pv 0) pe_int (fun _ _ => rfl)) (pe_lst pa_nil) (nomark _)) (pw_and1 (pt_cmpR op_eq (pe_ix ix_list (pe_ix ix_list (pv 0) pe_int (fun _ _ => rfl)) (pe_un un_neg pe_int) (fun _ _ => rfl)) pe_int (nomark _))))) (pss_one (ps_expr (pe_bm0 PySem.F.plainAttrs_list PySem.F.slot_list_pop PySem.F.type_list_pop mt_pop (pe_ix ix_list (pv 0) pe_int (fun _ _ => rfl))))))
        (pss_cons (ps_if (pt_cmpR (op_neD hr.units) (pe_ix ix_list (pv 0) pe_int (fun _ _ => rfl)) (pe_lst pa_nil) (nomark _)) (pss_cons (ps_set (i := 2) sc_l_draw.nd rfl (Or.inl rfl) (pe_bm0 PySem.F.plainAttrs_list PySem.F.slot_list_pop PySem.F.type_list_pop mt_pop (pe_ix ix_list (pv 0) pe_int (fun _ _ => rfl))))
        (pss_cons (ps_expr (pe_bm PySem.F.plainAttrs_list PySem.F.slot_list_append PySem.F.type_list_append mt_append (pe_ix ix_list (pv 0) pe_int (fun _ _ => rfl)) (pa_cons (pe_op op_fdivW (pv 2) (pv 1)) pa_nil)))
        (pss_one (ps_ret (pe_op op_mod (pe_callTy call_int1 (by rfl) T.n_int (by decide +kernel) (pa_cons (pv 2) pa_nil)) (pv 1)))))) pss_nil)
        (pss_cons (ps_asg (pe_op op_mod (pe_callTy call_int1 (by rfl) T.n_int (by decide +kernel) (pa_cons (pe_op op_mul (pe_ix ix_list (pv 0) pe_int (fun _ _ => rfl)) pe_int) pa_nil)) pe_int) (pg_sub (pv 0) pe_int set_list))
        (pss_one (ps_ret (pe_op op_mod (pe_callTy call_int1 (by rfl) T.n_int (by decide +kernel) (pa_cons (pe_op op_fdivW (pe_ix ix_list (pv 0) pe_int (fun _ _ => rfl)) pe_int) pa_nil)) (pv 1))))))), ?_⟩
    refine ⟨fun k σ H' => ∃ ns m, σ = [some (.ref a), some (.int many), none] ∧ k = ns.length ∧ DealIs H' a c ns m ∧ Kp a c H H', ⟨_, ns, m, rfl, rfl, d0, Kp.refl _ _ _⟩, ?_⟩
    rintro k σ H1 ⟨ns, m, rfl, rfl, d, kp⟩
    refine dealNe d rfl fun p hp d1 => ?_
    have kp1 : Kp a c H (upd H1 p (.lst [])) := kp.new' hp
    by_cases hn : ns = []
    · subst hn
      refine iteF ?_
      refine iteF ?_
      refine dealNe d1 rfl fun p2 hp2 d2 => ?_
      have kp2 := kp1.new' (o := .lst []) hp2
      refine iteF ?_
      refine deal1 d2 rfl ?_
      refine ⟨m, 48271, rfl, rfl, .inr ⟨by decide, by decide⟩, .inl ⟨_, rfl, ?_⟩⟩
      refine ⟨_, _, rfl, rfl, (by show (0 : Int) < 2147483647; decide), ?_⟩
      have hb1 : 0 ≤ m * 48271 % 2147483647 := Int.emod_nonneg _ (by decide)
      have hb2 : m * 48271 % 2147483647 < 2147483647 := Int.emod_lt_of_pos _ (by decide)
      refine ⟨_, rfl, a, _, 1, 1, rfl, rfl, d2.hd, rfl, ?_⟩
      have d3 := d2.setM hb1 hb2
      refine deal1 d3 rfl ?_
      refine ⟨_, 8, rfl, rfl, lt200 (by decide) (by decide), .inl ⟨_, rfl, ?_⟩⟩
      refine ⟨_, rfl, _, _, rfl, rfl, (by omega), ?_⟩
      exact q _ _ (Int.emod_nonneg _ (by omega)) (Int.emod_lt_of_pos _ (by omega)) ⟨_, _, d3⟩ kp2.updA
    · rw [decide_eq_false hn]
      refine iteT ?_
      obtain ⟨l, z, rfl⟩ := rev_last hn
      refine deal0 d1 rfl ?_
      have el : atI ((l ++ [z]).map V.int) (-1) = some (.int z) := by
        rw [List.map_append]
        exact atI_last _ _
      have ep : ((l ++ [z]).map V.int)[((l ++ [z]).map V.int).length - 1]? = some (.int z) := by simp
      have ed : ((l ++ [z]).map V.int).dropLast = l.map V.int := by simp
      have hl : l.length + 1 ≤ 63 := by simpa using d.few
      have hz : 0 ≤ z := d.pos z (by simp)
      have hlp : ∀ n ∈ l, 0 ≤ n := fun n hn => d.pos n (by simp [hn])
      refine ⟨1, rfl, c, _, -1, .int z, rfl, rfl, SqL.of d1.cs, el, rfl, _, rfl, ite2 (fun e => ?_) (fun e => ?_)⟩
      · refine ⟨fun σ' H' => ∃ m, σ' = [some (.ref a), some (.int many), none] ∧ DealIs H' a c l m ∧ Kp a c H H', fun σ' H' ⟨m, e1, e2, e3⟩ => ⟨l.length, by simp, l, m, e1, rfl, e2, e3⟩, ?_⟩
        refine deal0 d1 rfl ?_
        refine ⟨.inl ⟨rfl, _, SqL.of d1.cs⟩, c, _, _, rfl, rfl, d1.cs, ep, ?_⟩
        rw [ed]
        exact ⟨m, rfl, d1.setC hlp (by omega), kp1.updC⟩
      · refine dealNe d1 rfl fun p2 hp2 d2 => ?_
        have kp2 := kp1.new' (o := .lst []) hp2
        rw [decide_eq_false hn]
        refine iteT ?_
        refine deal0 d2 rfl ?_
        refine ⟨.inl ⟨rfl, _, SqL.of d2.cs⟩, c, _, _, rfl, rfl, d2.cs, ep, ?_⟩
        rw [ed]
        have d3 := d2.setC hlp (by omega)
        refine deal0 d3 rfl ?_
        refine ⟨.inl ⟨rfl, _, SqL.of d3.cs⟩, _, rfl, _, rfl, _, _, rfl, rfl, lt200 hm1 hm2, c, _, _, rfl, rfl, d3.cs, ?_, ?_⟩
        · rw [List.length_map]
          exact small1000 (by omega)
        · have d4 := d3.setC (ns' := l ++ [z / many]) (fun n hn => by
            rcases List.mem_append.mp hn with h | h
            · exact hlp n h
            · rw [List.mem_singleton.mp h]
              exact Int.ediv_nonneg hz (by omega)) (by simpa using hl)
          rw [List.map_append] at d4
          refine ⟨_, rfl, .inl ⟨_, rfl, ?_⟩⟩
          refine ⟨_, rfl, _, _, rfl, rfl, (by omega), ?_⟩
          exact q _ _ (Int.emod_nonneg _ (by omega)) (Int.emod_lt_of_pos _ (by omega)) ⟨_, _, d4⟩ kp2.updC.updC
theorem ok_l_deal (T : Top K mg) : FnOk P w K mg base CX0 1 T.f_l_deal T.d_l_deal ["_law_script", "_law_base"] (spDeal K) := by
  refine T.F_l_deal.ok sc_l_deal (fun vs H Q E h => ?_) (fun cdv A outer s H vs Q E hr h => ?_)
  · obtain ⟨a, ns, b, rfl, _⟩ := h
    rfl
  · obtain ⟨a, ns, b, rfl, hS, hl, hb0, hb1, q⟩ := h
    refine ⟨_, (pss_cons (ps_setLc (i := 2) (own := [("_law_cell", 4)]) (g := gName 4) (tt := tYes) (by rfl) sc_l_deal.nd rfl rfl (sw_true rfl rfl rfl (by decide +kernel)) (pi_list (pe_slice sl_list (pv 0) (po_some (pv 1)) (po_some pe_int))) (blkOk_by (own := [("_law_cell", 4)]) (N := ["_law_script", "_law_base", "_law_cells", "_law_mixed", "_law_cell"]) (sc := defScope s_l_deal) (by decide +kernel)) (fun _ _ _ _ _ => pg_name (i := 4) sc_l_deal.nd rfl (Or.inl rfl)) (fun _ _ _ _ _ => pts_nil) (fun _ _ _ _ _ => (pe_ifExp (pt_cmpR op_gt (pv 4) pe_int (nomark _)) (pv 4) (pe_op op_sub pe_int (pv 4)))))
        (pss_cons (ps_set (i := 3) sc_l_deal.nd rfl (Or.inl rfl) (pe_op op_add pe_int (pe_op op_mul pe_int (pv 1))))
        (pss_cons (ps_for PassesOwn.never rfl (pi_list (pv 2)) (pg_name (i := 4) sc_l_deal.nd rfl (Or.inl rfl)) (pss_one (ps_set (i := 3) sc_l_deal.nd rfl (Or.inl rfl) (pe_op op_mod (pe_callTy call_int1 (by rfl) T.n_int (by decide +kernel) (pa_cons (pe_op op_add (pe_op op_mul (pv 3) pe_int) (pe_op op_mod (pe_callTy call_int1 (by rfl) T.n_int (by decide +kernel) (pa_cons (pv 4) pa_nil)) pe_int)) pa_nil)) pe_int))))
        (pss_one (ps_ret (pe_lst (pa_cons (pe_revL (pe_lc (own := [("_law_cell", 4)]) (g := gName 4)  (by rfl) sc_l_deal.nd (pi_list (pv 2)) (blkOk_by (own := [("_law_cell", 4)]) (N := ["_law_script", "_law_base", "_law_cells", "_law_mixed", "_law_cell"]) (sc := defScope s_l_deal) (by decide +kernel)) (fun _ _ _ _ _ => pg_name (i := 4) sc_l_deal.nd rfl (Or.inl rfl)) (fun _ _ _ _ _ => pts_one (pt_cmpR op_ge (pv 4) (pe_op op_pow pe_int pe_int) (nomark _))) (fun _ _ _ _ _ => (pv 4)))) (pa_cons (pv 3) pa_nil)))))))), ?_⟩
    -- the cells
    refine ⟨_, rfl, _, rfl, b, rfl, 63, rfl, a, _, rfl, hS, fun p hp => ?_⟩
    obtain ⟨ms, ec, _, hml⟩ := cut_map V.int ns (some b) (some 63)
    rw [ec]
    have s1 : Same H (upd H p (.lst (ms.map V.int))) := Same.new (Same.refl _) hp
    refine ⟨p, rfl, ⟨_, SqL.of upd_same⟩, fun D hD => ?_⟩
    refine lcM (src_list K p (ms.map V.int)) (fun v => match v with | .int n => .int (if n > 0 then n else 0 - n) | v => v) (SqL.of upd_same) hD (fun _ => rfl) (by rw [List.length_map]; omega) ?_ ?_
    · intro x hx H' _ Q k
      obtain ⟨n, _, rfl⟩ := List.mem_map.mp hx
      refine ⟨_, rfl, _, _, rfl, rfl, _, rfl, ?_⟩
      by_cases hn : 0 < n
      · rw [decide_eq_true hn]
        refine iteT ⟨_, rfl, ?_⟩
        have := k H' (Same.refl _)
        simp only [gt_iff_lt, hn, if_true] at this
        exact this
      · rw [decide_eq_false hn]
        refine iteF ⟨_, rfl, _, _, rfl, rfl, ?_⟩
        have := k H' (Same.refl _)
        simp only [gt_iff_lt, hn, if_false] at this
        exact this
    · intro H2 s2 e2
      rw [List.map_map] at e2
      have s02 : Same H H2 := s1.trans s2
      generalize hcs : ms.map (fun n => if n > 0 then n else 0 - n) = cs at *
      have e2 : H2 D = some (.lst (cs.map V.int)) := by
        rw [e2, ← hcs, List.map_map]
        rfl
      have hcp : ∀ n ∈ cs, 0 ≤ n := by
        intro n hn
        rw [← hcs] at hn
        obtain ⟨z, _, rfl⟩ := List.mem_map.mp hn
        split <;> omega
      have hcl : cs.length ≤ 63 := by
        rw [← hcs, List.length_map]
        omega
      -- mixed
      refine ⟨_, rfl, 17, b, rfl, rfl, .inl ⟨by decide, by decide⟩, _, _, rfl, rfl, ?_⟩
      refine ⟨_, rfl, D, rfl, ⟨_, SqL.of e2⟩, ?_⟩
      refine for_it (src_list K D (cs.map V.int)).w (fun i σ H' => ∃ m v, σ = [some (.ref a), some (.int b), some (.ref D), some (.int m), v] ∧ 0 ≤ m ∧ m < 2147483647 ∧ H' = H2) ⟨_, none, rfl, by omega, by omega, rfl⟩ (fun i σ H' _ ⟨_, _, _, _, _, e⟩ => by rw [e]; exact SqL.of e2) ?_ ?_
      · rintro i x σ H3 H4 hi ⟨m, v, rfl, m0, m1, rfl⟩ ⟨rfl, hx⟩
        obtain ⟨z, hz, rfl⟩ : ∃ z, z ∈ cs ∧ V.int z = x := by
          obtain ⟨z, hz, rfl⟩ := List.mem_map.mp (List.mem_of_getElem? hx)
          exact ⟨z, hz, rfl⟩
        refine ⟨_, rfl, m, 16807, rfl, rfl, .inr ⟨by decide, by decide⟩, _, rfl, .inl ⟨_, rfl, ?_⟩⟩
        refine ⟨_, _, rfl, rfl, (by show (0 : Int) < 2147483629; decide), _, _, rfl, rfl, .inl ⟨_, rfl, ?_⟩⟩
        refine ⟨_, _, rfl, rfl, (by show (0 : Int) < 2147483647; decide), ?_⟩
        exact ⟨_, _, rfl, Int.emod_nonneg _ (by decide), Int.emod_lt_of_pos _ (by decide), rfl⟩
      · rintro σ H3 ⟨m, v, rfl, m0, m1, rfl⟩
        -- the great cells, turned about
        refine ⟨_, rfl, D, rfl, ⟨_, SqL.of e2⟩, fun D2 hD2 => ?_⟩
        refine lcS (src_list K D (cs.map V.int)) (fun v => match v with | .int n => decide ((10 : Int) ^ 18 ≤ n) | _ => true) id (SqL.of e2) hD2 (fun _ => rfl) (by rw [List.length_map]; omega) ?_ ?_ ?_
        · intro x hx H' _ Q k
          obtain ⟨n, _, rfl⟩ := List.mem_map.mp hx
          refine ⟨_, rfl, _, _, rfl, rfl, ⟨by decide, by decide, by decide⟩, _, _, rfl, rfl, _, rfl, ?_⟩
          exact k H' (Same.refl _)
        · intro x hx _ H' _ Q k
          exact ⟨_, rfl, k H' (Same.refl _)⟩
        · intro H4 s4 e4
          rw [List.map_id, List.filter_map] at e4
          refine ⟨D2, _, rfl, SqL.of e4, fun c hc => ?_⟩
          refine ⟨_, rfl, (by show 2 ≤ sizeLine; decide), fun d hd => ?_⟩
          generalize hgs : ((cs.filter ((fun v => match v with | .int n => decide ((10 : Int) ^ 18 ≤ n) | _ => true) ∘ V.int)).map V.int).reverse = gs at *
          have hgs' : gs = ((cs.filter ((fun v => match v with | .int n => decide ((10 : Int) ^ 18 ≤ n) | _ => true) ∘ V.int)).reverse).map V.int := by
            rw [← hgs, List.map_reverse]
          have f1 : H c = none := s02.free (s4.free hc)
          have f2 : H d = none := (Same.new (o := .lst gs) (s02.trans s4) hc).free hd
          have ncd : c ≠ d := ne_of_none (H := upd H4 c (.lst gs)) upd_same hd
          refine q d c _ (Same.new (Same.new (s02.trans s4) hc) hd) f2 f1 ⟨(cs.filter ((fun v => match v with | .int n => decide ((10 : Int) ^ 18 ≤ n) | _ => true) ∘ V.int)).reverse, m, ⟨upd_same, ?_, ?_, ?_, m0, m1⟩⟩
          · rw [upd_ne ncd, upd_same, hgs']
          · intro n hn
            exact hcp n (List.mem_filter.mp (List.mem_reverse.mp hn)).1
          · rw [List.length_reverse]
            exact Nat.le_trans (List.length_filter_le _ _) hcl
theorem ok_l_pickS (T : Top K mg) : FnOk P w K mg base CX0 2 T.f_l_pick T.d_l_pick ["_law_deal_here", "_law_some"] spPickS := by
  have G_l_draw : FnOk P w K mg base CX0 1 T.f_l_draw T.d_l_draw ["_law_deal_here", "_law_many"] spDraw := ok_l_draw T
  refine T.F_l_pick.ok sc_l_pick (fun vs H Q E h => ?_) (fun cdv A outer s H vs Q E hr h => ?_)
  · obtain ⟨a, c, l, rfl, _⟩ := h
    rfl
  · obtain ⟨a, c, l, rfl, d, hn, hl, q⟩ := h
    have hpos : 0 < l.length := List.length_pos_iff.mpr hn
    refine ⟨_, (pss_one (ps_ret (pe_ix ix_str (pv 1) (pe_call G_l_draw (hr.mono (by decide)) (by rfl) T.g_l_draw T.F_l_draw.kp T.b_l_draw .nil pass0 (pa_cons (pv 0) (pa_cons (pe_callB call_len_str (by rfl) T.n_len (by decide +kernel) (pa_cons (pv 1) pa_nil)) pa_nil))) (fun _ _ => rfl)))), ?_⟩
    refine ⟨_, rfl, _, rfl, _, rfl, _, rfl, (by rw [S_len, sizeLine_eq]; omega), a, c, _, rfl, d, ?_, ?_, fun r H' r0 r1 d' kp => ?_⟩
    · rw [S_len]; omega
    · rw [S_len]; omega
    · rw [S_len] at r1
      have hi : r.toNat < l.length := by omega
      refine ⟨_, _, l[r.toNat], rfl, rfl, (by rw [S_len, sizeLine_eq]; omega), ?_, q _ _ (List.getElem_mem hi) d' kp⟩
      rw [S_toList]
      exact atI_int r0 (List.getElem?_eq_getElem hi)
theorem ok_l_pickL (T : Top K mg) : FnOk P w K mg base CX0 2 T.f_l_pick T.d_l_pick ["_law_deal_here", "_law_some"] (spPickL K) := by
  have G_l_draw : FnOk P w K mg base CX0 1 T.f_l_draw T.d_l_draw ["_law_deal_here", "_law_many"] spDraw := ok_l_draw T
  refine T.F_l_pick.ok sc_l_pick (fun vs H Q E h => ?_) (fun cdv A outer s H vs Q E hr h => ?_)
  · obtain ⟨a, c, p, xs, rfl, _⟩ := h
    rfl
  · obtain ⟨a, c, p, xs, rfl, d, hp, n1, n2, hn, hl, q⟩ := h
    have hpos : 0 < xs.length := List.length_pos_iff.mpr hn
    refine ⟨_, (pss_one (ps_ret (pe_ix ix_list (pv 1) (pe_call G_l_draw (hr.mono (by decide)) (by rfl) T.g_l_draw T.F_l_draw.kp T.b_l_draw .nil pass0 (pa_cons (pv 0) (pa_cons (pe_callB call_len_seq (by rfl) T.n_len (by decide +kernel) (pa_cons (pv 1) pa_nil)) pa_nil))) (fun _ _ => rfl)))), ?_⟩
    refine ⟨_, rfl, _, rfl, _, rfl, p, _, rfl, .inl hp, a, c, _, rfl, d, (by omega), (by omega), fun r H' r0 r1 d' kp => ?_⟩
    have hi : r.toNat < xs.length := by omega
    exact ⟨p, xs, _, xs[r.toNat], rfl, rfl, kp.sqL n1 n2 hp, atI_int r0 (List.getElem?_eq_getElem hi), q _ _ (List.getElem_mem hi) d' kp⟩
theorem ok_l_letters (T : Top K mg) : FnOk P w K mg base CX0 2 T.f_l_letters T.d_l_letters ["_law_deal_here", "_law_many"] spLetters := by
  have G_l_draw : FnOk P w K mg base CX0 1 T.f_l_draw T.d_l_draw ["_law_deal_here", "_law_many"] spDraw := ok_l_draw T
  refine T.F_l_letters.ok sc_l_letters (fun vs H Q E h => ?_) (fun cdv A outer s H vs Q E hr h => ?_)
  · obtain ⟨a, c, z, rfl, _⟩ := h
    rfl
  · obtain ⟨a, c, z, rfl, d, hz0, hn, q⟩ := h
    obtain ⟨n, rfl⟩ := nat_of hz0
    rw [Int.toNat_natCast] at q
    refine ⟨_, (pss_cons (ps_par (i := 2) (j := 3) (by rfl) sc_l_letters.nd rfl rfl (by decide) rfl rfl (pa_cons (pe_callTy (U.call_listS rfl) (by rfl) T.n_list (by decide +kernel) (pa_cons pe_str pa_nil)) (pa_cons (pe_lst pa_nil) pa_nil)) (by rfl))
        (pss_cons (ps_for PassesOwn.never rfl (pi_range1 (by rfl) T.n_range (pa_cons (pv 1) pa_nil)) (pg_name (i := 4) sc_l_letters.nd rfl (Or.inl rfl)) (pss_one (ps_expr (pe_bm PySem.F.plainAttrs_list PySem.F.slot_list_append PySem.F.type_list_append mt_append (pv 3) (pa_cons (pe_bm PySem.F.plainAttrs_list PySem.F.slot_list_pop PySem.F.type_list_pop mt_popAt (pv 2) (pa_cons (pe_call G_l_draw (hr.mono (by decide)) (by rfl) T.g_l_draw T.F_l_draw.kp T.b_l_draw .nil pass0 (pa_cons (pv 0) (pa_cons (pe_callB call_len_seq (by rfl) T.n_len (by decide +kernel) (pa_cons (pv 2) pa_nil)) pa_nil))) pa_nil)) pa_nil)))))
        (pss_one (ps_ret (pe_join pe_str (pe_callB cr_sortedS (by rfl) T.n_sorted (by decide +kernel) (pa_cons (pe_lc (own := [("_law_sign", 5)]) (g := gName 5) (tt := tYes) (by rfl) sc_l_letters.nd (pi_list (pv 3)) (blkOk_by (own := [("_law_sign", 5)]) (N := ["_law_deal_here", "_law_many", "_law_signs", "_law_found", "_law_turn", "_law_sign"]) (sc := defScope s_l_letters) (by decide +kernel)) (fun _ _ _ _ _ => pg_name (i := 5) sc_l_letters.nd rfl (Or.inl rfl)) (fun _ _ _ _ _ => pts_nil) (fun _ _ _ _ _ => (pe_callTy SkE.call_str_str (by rfl) T.n_str (by decide +kernel) (pa_cons (pv 5) pa_nil)))) pa_nil))))))), ?_⟩
    refine ⟨signs, (by rw [signs_S]), (by rw [signs_len, sizeLine_eq]; omega), fun p hp => ⟨Nat.zero_le _, fun f hf => ⟨_, _, rfl, ?_⟩⟩⟩
    have d1 : Deal (upd (upd H p (.lst (chars signs))) f (.lst [])) a c := (d.new hp).new hf
    have npf : p ≠ f := ne_of_none (H := upd H p (.lst (chars signs))) upd_same hf
    have hf0 : H f = none := by
      rw [upd_ne npf.symm] at hf
      exact hf
    refine ⟨_, rfl, (n : Int), rfl, by omega, by omega, ?_⟩
    refine for_it (src_range 0 (n : Int).toNat).w (fun i σ H' => ∃ (v : Option V) (rest got : List Nat), σ = [some (.ref a), some (.int (n : Int)), some (.ref p), some (.ref f), v, none] ∧ Deal H' a c ∧ Kp a c H H' ∧ H' p = some (.lst (chars rest)) ∧ H' f = some (.lst (chars got)) ∧ (got ++ rest).Perm signs ∧ got.length = i)
      ⟨none, signs, [], rfl, d1, ((Kp.refl _ _ _).new hp).new hf0, by rw [upd_ne npf, upd_same], by rw [upd_same]; rfl, List.Perm.refl _, rfl⟩ (fun _ _ _ _ _ => trivial) ?_ ?_
    · rintro i x σ H1 H2 hi ⟨v, rest, got, rfl, d2, kp, e1, e2, pm, gl⟩ ⟨rfl, hx⟩
      rw [rngV_len] at hi
      have hrl : got.length + rest.length = 40 := by
        have := pm.length_eq
        rw [List.length_append, signs_len] at this
        exact this
      have hcl : (chars rest).length = rest.length := by simp [chars]
      have np := d.ne hp
      have nf := d.ne hf0
      refine ⟨_, rfl, .inl ⟨rfl, _, SqL.of e2⟩, _, rfl, .inl ⟨rfl, _, SqL.of e1⟩, _, rfl, _, rfl, p, _, rfl, .inl (SqL.of e1), a, c, _, rfl, d2, (by omega), (by omega), fun r H3 r0 r1 d3 kp3 => ?_⟩
      rw [hcl] at r1
      have e1' := kp3 _ _ np.1 np.2 e1
      have e2' := kp3 _ _ nf.1 nf.2 e2
      have hr : r.toNat < rest.length := by omega
      refine ⟨p, _, r, r.toNat, .str (S [rest[r.toNat]]), rfl, rfl, e1', (by omega), (by omega), seqIx r0 (by omega), by simp [chars, hr], ?_⟩
      have e2'' : (upd H3 p (.lst ((chars rest).eraseIdx r.toNat))) f = some (.lst (chars got)) := by
        rw [upd_ne npf.symm]
        exact e2'
      refine ⟨f, _, _, rfl, rfl, e2'', ?_, ?_⟩
      · have : (chars got).length = got.length := by simp [chars]
        rw [this]
        exact small1000 (by omega)
      · refine ⟨_, rest.eraseIdx r.toNat, got ++ [rest[r.toNat]], rfl, (d3.upd np.1 np.2).upd nf.1 nf.2, ((kp.trans kp3).new hp).new hf0, ?_, ?_, ?_, by simp [gl]⟩
        · rw [upd_ne npf, upd_same]
          rw [show (chars rest).eraseIdx r.toNat = chars (rest.eraseIdx r.toNat) from map_erase _ _ _]
        · rw [upd_same]
          simp [chars]
        · refine List.Perm.trans ?_ pm
          rw [List.append_assoc]
          refine List.Perm.append_left _ ?_
          exact erase_perm rest r.toNat hr
    · rintro σ H1 ⟨v, rest, got, rfl, d2, kp, e1, e2, pm, gl⟩
      rw [rngV_len] at gl
      have gl : got.length = n := by simpa using gl
      have hcl : (chars got).length = got.length := by simp [chars]
      refine ⟨⟨_, rfl⟩, _, rfl, f, rfl, ⟨_, SqL.of e2⟩, fun D hD => ?_⟩
      refine lcM (src_list K f (chars got)) id (SqL.of e2) hD (fun _ => rfl) (by omega) ?_ ?_
      · intro x hx H' _ Q k
        obtain ⟨z, _, rfl⟩ := List.mem_map.mp hx
        exact ⟨_, rfl, _, rfl, k H' (Same.refl _)⟩
      · intro H2 s2 eD
        rw [List.map_id, chars_eq] at eD
        refine ⟨D, _, rfl, SqL.of eD, (by rw [List.length_map]; omega), fun ys q1 pm2 hs hq1 => ?_⟩
        obtain ⟨l, pl, rfl⟩ := perm_ones pm2
        have hll : l.length = n := by rw [pl.length_eq, gl]
        refine ⟨S [], q1, _, rfl, rfl, .inl (SqL.of upd_same), ?_, ?_⟩
        · rw [len_ones, S_len, List.length_map]
          simp only [List.length_nil]
          omega
        · rw [joinOnes]
          have nd : got.Nodup := (List.nodup_append.mp (pm.nodup_iff.mpr signs_nd)).1
          refine q l _ ⟨hll, asc_of (sorted_ones hs) (pl.nodup_iff.mpr nd), fun x hx => pm.mem_iff.mp (List.mem_append_left _ (pl.mem_iff.mp hx))⟩ ?_ ?_
          · obtain ⟨ns, m, d2⟩ := d2
            refine ⟨ns, m, ⟨?_, ?_, d2.pos, d2.few, d2.m0, d2.m1⟩⟩
            · rw [upd_ne (ne_of_none (s2 _ _ d2.hd) hq1)]
              exact s2 _ _ d2.hd
            · rw [upd_ne (ne_of_none (s2 _ _ d2.cs) hq1)]
              exact s2 _ _ d2.cs
          · exact (kp.trans (Same.kp s2)).new' hq1
theorem ok_l_word (T : Top K mg) : FnOk P w K mg base CX0 3 T.f_l_word T.d_l_word ["_law_deal_here", "_law_letters_here", "_law_most"] spWord := by
  have G_l_draw : FnOk P w K mg base CX0 1 T.f_l_draw T.d_l_draw ["_law_deal_here", "_law_many"] spDraw := ok_l_draw T
  have G_l_pick : FnOk P w K mg base CX0 2 T.f_l_pick T.d_l_pick ["_law_deal_here", "_law_some"] spPickS := ok_l_pickS T
  refine T.F_l_word.ok sc_l_word (fun vs H Q E h => ?_) (fun cdv A outer s H vs Q E hr h => ?_)
  · obtain ⟨a, c, l, z, rfl, _⟩ := h
    rfl
  · obtain ⟨a, c, l, z, rfl, d, hne, hl, hz0, hn, q⟩ := h
    obtain ⟨n, rfl⟩ := nat_of hz0
    rw [Int.toNat_natCast] at q
    refine ⟨_, (pss_one (ps_ret (pe_join pe_str (pe_lc (own := [("_law_k", 3)]) (g := gName 3) (tt := tYes) (by rfl) sc_l_word.nd (pi_range1 (by rfl) T.n_range (pa_cons (pe_call G_l_draw (hr.mono (by decide)) (by rfl) T.g_l_draw T.F_l_draw.kp T.b_l_draw .nil pass0 (pa_cons (pv 0) (pa_cons (pe_op op_add (pv 2) pe_int) pa_nil))) pa_nil)) (blkOk_by (own := [("_law_k", 3)]) (N := ["_law_deal_here", "_law_letters_here", "_law_most", "_law_k"]) (sc := defScope s_l_word) (by decide +kernel)) (fun _ _ _ _ _ => pg_name (i := 3) sc_l_word.nd rfl (Or.inl rfl)) (fun _ _ _ _ _ => pts_nil) (fun _ _ _ _ _ => (pe_call G_l_pick (hr.mono (by decide)) (by rfl) T.g_l_pick T.F_l_pick.kp T.b_l_pick .nil pass0 (pa_cons (pv 0) (pa_cons (pv 1) pa_nil)))))))), ?_⟩
    refine ⟨⟨_, rfl⟩, _, rfl, _, rfl, _, _, rfl, rfl, a, c, _, rfl, d, (by omega), (by omega), fun r H1 r0 r1 d1 kp1 => ?_⟩
    refine ⟨r, rfl, by omega, by omega, fun D hD => ?_⟩
    have hD0 : H D = none := d.free kp1 d1 hD
    have nD := d1.ne hD
    refine lc_it (src_range 0 r.toNat).w (fun i H' => ∃ x : List Nat, Deal H' a c ∧ Kp a c H H' ∧ H' D = some (.lst (chars x)) ∧ x.length = i ∧ ∀ y ∈ x, y ∈ l) ⟨[], d1.new hD, kp1.new hD0, by rw [upd_same]; rfl, rfl, fun _ h => (nomatch h)⟩ (fun _ _ _ _ => trivial) ?_ ?_
    · rintro i x H2 H3 hi ⟨z, d2, kp2, e2, zl, zs⟩ ⟨rfl, hx⟩
      rw [rngV_len] at hi
      refine ⟨rfl, ?_⟩
      refine ⟨_, rfl, _, rfl, a, c, l, rfl, d2, hne, hl, fun y H4 hy d4 kp4 => ?_⟩
      refine ⟨_, kp4 _ _ nD.1 nD.2 e2, ?_, z ++ [y], d4.upd nD.1 nD.2, (kp2.trans kp4).new hD0, ?_, by simp [zl], ?_⟩
      · have : (chars z).length = z.length := by simp [chars]
        rw [this, zl, sizeLine_eq]
        omega
      · rw [upd_same]
        simp [chars]
      · intro u hu
        rcases List.mem_append.mp hu with h | h
        · exact zs u h
        · rw [List.mem_singleton.mp h]
          exact hy
    · rintro H2 ⟨z, d2, kp2, e2, zl, zs⟩
      rw [rngV_len] at zl
      rw [chars_eq] at e2
      refine ⟨S [], D, _, rfl, rfl, .inl (SqL.of e2), ?_, ?_⟩
      · rw [len_ones, S_len, List.length_map]
        simp only [List.length_nil]
        omega
      · rw [joinOnes]
        exact q z _ (by omega) zs d2 kp2
end
end K02
namespace K02
open PySem PySem.Spec PyProof.Rows L2 U
section
variable {P : Program} {w : World} {K : PySem.W.Frag} {mg : Str → Option Value} {base : Heap}
def Raised (L : List Nat) (g : Nat) (t : List Nat) (v : V) : Prop := (v = .non ∧ ∀ x ∈ t, x = g) ∨ ∃ (k0 : List Nat) (x m y : Nat), v = .str (S (k0 ++ [y])) ∧ t = k0 ++ x :: List.replicate m g ∧ x < y ∧ y ∈ L ∧ x ∈ L ∧ M3.ix L y = M3.ix L x + 1
def sp_raised : Sp := fun vs H Q _ => ∃ (L t : List Nat) (g : Nat), vs = [.str (S L), .str (S t)] ∧ L.Pairwise (· < ·) ∧ L.length ≤ 5 ∧ (∃ l', L = l' ++ [g]) ∧ (∀ x ∈ t, x ∈ L) ∧ t.length ≤ 1000 ∧ ∀ v, Raised L g t v → Q v H
theorem last_at (l : List Nat) (g : Nat) : atI (l ++ [g]) (-1) = some g := atI_last l g
theorem not_last {L l' : List Nat} {g x : Nat} (asc : L.Pairwise (· < ·)) (e : L = l' ++ [g]) (hx : x ∈ L) (hn : x ≠ g) : M3.ix L x + 1 < L.length := by
  have h1 := M3.ix_lt hx
  have h2 := M3.ix_get hx
  rcases Nat.lt_or_ge (M3.ix L x + 1) L.length with h | h
  · exact h
  · exfalso
    have h3 : M3.ix L x = L.length - 1 := by omega
    rw [h3, e] at h2
    simp at h2
    exact hn h2.symm
def roomV (c : Nat) (lo h : List Nat) : V := if lo < h then (if M2.Form c lo h then .int ((h.drop lo.length).length : Nat) else .non) else .int 0
def sp_room : Sp := fun vs H Q _ => ∃ (L lo : List Nat) (hi : V) (c : Nat), vs = [.str (S L), .str (S lo), hi] ∧ L.length ≤ 5 ∧ (∃ l', L = c :: l') ∧ lo.length ≤ 100000 ∧ ((hi = .non ∧ Q .non H) ∨ ∃ h, hi = .str (S h) ∧ h.length ≤ 100000 ∧ Q (roomV c lo h) H)
def sp_walked : Sp := fun vs H Q _ => ∃ (L lo h : List Nat) (c : Nat), vs = [.str (S L), .str (S lo), .str (S h)] ∧ L.length ≤ 5 ∧ (∃ l', L = c :: l') ∧ (∀ x ∈ h, c ≤ x) ∧ lo.length ≤ 100000 ∧ h.length ≤ 100000 ∧ Q (roomV c lo h) H
def sp_tail : Sp := fun vs H Q _ => ∃ (a c : Addr) (L : List Nat), vs = [.ref a, .str (S L)] ∧ Deal H a c ∧ L ≠ [] ∧ L.length ≤ 1000 ∧ ∀ (x : List Nat) H', x.length ≤ 4 → (∀ y ∈ x, y ∈ L) → Deal H' a c → Kp a c H H' → Q (.str (S x)) H'
def sp_rr : Sp := fun vs H Q _ => ∃ (a c : Addr) (L t : List Nat), vs = [.ref a, .str (S L), .str (S t)] ∧ Deal H a c ∧ L.Pairwise (· < ·) ∧ 2 ≤ L.length ∧ L.length ≤ 5 ∧ (∀ x ∈ t, x ∈ L) ∧ t.length ≤ 100 ∧ ∀ H', Deal H' a c → Kp a c H H' → Q (.bl true) H'
theorem ok_raised (T : Top K mg) : FnOk P w K mg base CX0 1 T.f_raised T.d_raised ["letters", "text"] sp_raised := by
  refine T.F_raised.ok sc_raised (fun vs H Q E h => ?_) (fun cdv A outer s H vs Q E hr h => ?_)
  · obtain ⟨L, t, g, rfl, _⟩ := h
    rfl
  · obtain ⟨L, t, g, rfl, asc, hl, ⟨l', eL⟩, ht, htl, q⟩ := h
    obtain ⟨kept, m, er, et, hk⟩ := rst_spec t g
    have nd := asc_nd asc
    have eg : atI L (-1) = some g := by rw [eL]; exact last_at l' g
    have hkl : kept.length ≤ 1000 := by
      rw [et, List.length_append] at htl
      omega
    refine ⟨_, (pss_cons (ps_set (i := 2) sc_raised.nd rfl (Or.inl rfl) (pe_bm PySem.F.plainAttrs_str PySem.F.slot_str_rstrip PySem.F.type_str_rstrip mt_rstripChars (pv 1) (pa_cons (pe_ix ix_str (pv 0) (pe_un un_neg pe_int) (fun _ _ => rfl)) pa_nil)))
        (pss_cons (ps_if (pt_cmpR op_eq (pv 2) pe_str (nomark _)) (pss_one (ps_ret pe_non)) pss_nil)
        (pss_one (ps_ret (pe_op op_add_str (pe_slice sl_str (pv 2) po_none (po_some (pe_un un_neg pe_int))) (pe_ix ix_str (pv 0) (pe_op op_add (pe_bm PySem.F.plainAttrs_str PySem.F.slot_str_index PySem.F.type_str_index mt_sindex (pv 0) (pa_cons (pe_ix ix_str (pv 2) (pe_un un_neg pe_int) (fun _ _ => rfl)) pa_nil)) pe_int) (fun _ _ => rfl))))))), ?_⟩
    refine ⟨_, rfl, rfl, _, rfl, _, rfl, _, -1, g, rfl, rfl, (by rw [S_len, sizeLine_eq]; omega), (by rw [S_toList]; exact eg), _, _, rfl, rfl, (by rw [S_len, sizeLine_eq]; omega), ?_⟩
    rw [show Txt.rstripChars (S t) ⟨#[g]⟩ = S kept from er]
    refine ⟨_, rfl, rfl, _, rfl, ite2 (fun e => ?_) (fun e => ?_)⟩
    · have e := V.str.inj (of_decide_eq_true e)
      rw [empty_S, S_inj] at e
      rw [e, List.nil_append] at et
      exact q _ (.inl ⟨rfl, fun x hx => by
        rw [et] at hx
        exact (List.mem_replicate.mp hx).2⟩)
    · rcases hk with hk | ⟨k0, x, hk, hx⟩
      · exact absurd (decide_eq_true (by rw [hk]; rfl)) e
      · subst hk
        have hxL : x ∈ L := ht x (by rw [et]; simp)
        have h1 := not_last asc eL hxL hx
        obtain ⟨rest, ho⟩ := idx_occ nd hxL
        have hy : L[M3.ix L x + 1]? = some (L.getD (M3.ix L x + 1) 0) := getD_get h1
        generalize L.getD (M3.ix L x + 1) 0 = y at hy
        have hyL : y ∈ L := List.mem_of_getElem? hy
        have iy : M3.ix L y = M3.ix L x + 1 := M3.ix_of nd hy
        refine ⟨_, rfl, 1, rfl, -1, rfl, _, rfl, (by rw [S_len, sizeLine_eq]; omega), ?_⟩
        rw [cut_init]
        refine ⟨_, rfl, _, rfl, rfl, _, rfl, 1, rfl, _, -1, x, rfl, rfl, (by rw [S_len, sizeLine_eq]; omega), (by rw [S_toList]; exact last_at k0 x), _, _, _, _, rfl, rfl, ho, _, _, rfl, rfl, _, _, y, rfl, rfl, (by rw [S_len, sizeLine_eq]; omega), (by rw [S_toList]; exact atI_nat hy), ?_⟩
        refine ⟨S k0, S [y], rfl, rfl, ?_, ?_⟩
        · rw [S_len, S_len, sizeLine_eq]
          rw [List.length_append] at hkl
          simp
          omega
        · rw [S_app]
          exact q _ (.inr ⟨k0, x, m, y, rfl, by rw [et]; simp, (M3.ix_mono asc hxL hyL).mpr (by omega), hyL, hxL, iy⟩)
theorem ok_room (T : Top K mg) : FnOk P w K mg base CX0 1 T.f_room T.d_room ["letters", "low", "high"] sp_room := by
  refine T.F_room.ok sc_room (fun vs H Q E h => ?_) (fun cdv A outer s H vs Q E hr h => ?_)
  · obtain ⟨L, lo, hi, c, rfl, _⟩ := h
    rfl
  · obtain ⟨L, lo, hi, c, rfl, hl, ⟨l', eL⟩, hlo, hh⟩ := h
    refine ⟨_, (pss_cons (ps_if (pt_cmpR op_isN (pv 2) pe_non (nomark _)) (pss_one (ps_ret pe_non)) pss_nil)
        (pss_cons (ps_if (pt_cmpR op_le_str (pv 2) (pv 1) (nomark _)) (pss_one (ps_ret pe_int)) pss_nil)
        (pss_cons (ps_set (i := 3) sc_room.nd rfl (Or.inl rfl) (pe_slice sl_str (pv 2) (po_some (pe_callB call_len_str (by rfl) T.n_len (by decide +kernel) (pa_cons (pv 1) pa_nil))) po_none))
        (pss_cons (ps_if (PW.pt (pw_and (pt_val (pe_bm PySem.F.plainAttrs_str PySem.F.slot_str_startswith PySem.F.type_str_startswith mt_startswith (pv 2) (pa_cons (pv 1) pa_nil))) (pw_and1 (pt_cmpR op_eq (pe_bm PySem.F.plainAttrs_str PySem.F.slot_str_strip PySem.F.type_str_strip mt_stripChars (pv 3) (pa_cons (pe_ix ix_str (pv 0) pe_int (fun _ _ => rfl)) pa_nil)) pe_str (nomark _))))) (pss_one (ps_ret (pe_callB call_len_str (by rfl) T.n_len (by decide +kernel) (pa_cons (pv 3) pa_nil)))) pss_nil)
        (pss_one (ps_ret pe_non)))))), ?_⟩
    rcases hh with ⟨rfl, q⟩ | ⟨h, rfl, hhl, q⟩
    · refine ⟨_, rfl, rfl, _, rfl, iteT ?_⟩
      exact q
    · refine ⟨_, rfl, rfl, _, rfl, iteF ?_⟩
      refine ⟨_, rfl, _, rfl, _, _, rfl, rfl, _, rfl, ?_⟩
      rw [S_toList, S_toList]
      unfold roomV at q
      by_cases h1 : lo < h
      · rw [if_pos h1] at q
        rw [decide_eq_true h1]
        refine iteF ?_
        refine ⟨_, rfl, _, rfl, _, rfl, (by rw [S_len, sizeLine_eq]; omega), _, rfl, _, rfl, (by rw [S_len, sizeLine_eq]; omega), ?_⟩
        rw [S_len, cut_drop _ (by omega), Int.toNat_natCast]
        have hdl : (h.drop lo.length).length ≤ 100000 := by rw [List.length_drop]; omega
        refine ⟨_, rfl, rfl, _, rfl, _, _, rfl, rfl, _, rfl, ?_⟩
        rw [starts_eq]
        by_cases h2 : h.take lo.length = lo
        · rw [decide_eq_true h2]
          refine iteT ?_
          refine ⟨_, rfl, rfl, _, rfl, _, 0, c, rfl, rfl, (by rw [S_len, sizeLine_eq]; omega), (by rw [S_toList, eL]; exact atI_nat (j := 0) rfl), _, _, rfl, rfl, (by rw [S_len, sizeLine_eq]; omega), rfl, _, rfl, ite2 (fun e => ?_) (fun e => ?_)⟩
          · have e := V.str.inj (of_decide_eq_true e)
            rw [empty_S] at e
            have h3 := (strip_nil _ _).mp e
            rw [if_pos ⟨h2, h3⟩] at q
            refine ⟨_, rfl, _, rfl, (by rw [S_len, sizeLine_eq]; omega), ?_⟩
            rw [S_len]
            exact q
          · have h3 : ¬ ∀ x ∈ h.drop lo.length, x = c := fun h3 => e (decide_eq_true (congrArg V.str ((strip_nil _ _).mpr h3)))
            rw [if_neg (fun f => h3 f.2)] at q
            exact q
        · rw [decide_eq_false h2]
          refine iteF ?_
          refine iteF ?_
          rw [if_neg (fun f => h2 f.1)] at q
          exact q
      · rw [if_neg h1] at q
        rw [decide_eq_false h1]
        refine iteT ?_
        exact q
theorem ok_l_walked (T : Top K mg) : FnOk P w K mg base CX0 1 T.f_l_walked T.d_l_walked ["_law_letters_here", "_law_low", "_law_high"] sp_walked := by
  refine T.F_l_walked.ok sc_l_walked (fun vs H Q E h => ?_) (fun cdv A outer s H vs Q E hr h => ?_)
  · obtain ⟨L, lo, h, c, rfl, _⟩ := h
    rfl
  · obtain ⟨L, lo, h, c, rfl, hl, ⟨l', eL⟩, hc, hlo, hh, q⟩ := h
    refine ⟨_, (pss_cons (ps_set (i := 3) sc_l_walked.nd rfl (Or.inl rfl) pe_int)
        (pss_cons (ps_while PassesOwn.never (pt_cmpR op_lt_str (pv 1) (pv 2) (nomark _)) (pss_cons (ps_if (pt_cmpR op_gt (pe_callB call_len_str (by rfl) T.n_len (by decide +kernel) (pa_cons (pv 1) pa_nil)) (pe_callB call_len_str (by rfl) T.n_len (by decide +kernel) (pa_cons (pv 2) pa_nil)) (nomark _)) (pss_one (ps_ret pe_non)) pss_nil)
        (pss_cons (ps_set (i := 1) sc_l_walked.nd rfl (Or.inl rfl) (pe_op op_add_str (pv 1) (pe_ix ix_str (pv 0) pe_int (fun _ _ => rfl))))
        (pss_one (ps_set (i := 3) sc_l_walked.nd rfl (Or.inl rfl) (pe_op op_add (pv 3) pe_int))))))
        (pss_one (ps_ret (pe_ifExp (PW.pt (pw_or (pt_cmpR op_eq (pv 1) (pv 2) (nomark _)) (pw_or1 (pt_cmpR op_eq (pv 3) pe_int (nomark _))))) (pv 3) pe_non))))), ?_⟩
    refine ⟨fun m σ H' => ∃ j : Nat, σ = [some (.str (S L)), some (.str (S (lo ++ List.replicate j c))), some (.str (S h)), some (.int (j : Int))] ∧ m = h.length + 1 - (lo.length + j) ∧ H' = H ∧ (lo.length + j ≤ h.length + 1 ∨ j = 0) ∧ (j = 0 ∨ lo ++ List.replicate (j - 1) c < h), ⟨_, 0, by rw [List.replicate_zero, List.append_nil]; rfl, rfl, rfl, .inr rfl, .inl rfl⟩, ?_⟩
    rintro m σ H1 ⟨j, rfl, rfl, rfl, hj, hp⟩
    have ll : (lo ++ List.replicate j c).length = lo.length + j := by simp
    have hsz : lo.length + j ≤ 200002 := by omega
    refine ⟨_, rfl, _, rfl, _, _, rfl, rfl, _, rfl, ?_⟩
    rw [S_toList, S_toList]
    by_cases h1 : lo ++ List.replicate j c < h
    · rw [decide_eq_true h1]
      refine iteT ?_
      have h0 := M2.lo_lt h1
      refine ⟨fun σ' H' => ∃ j' : Nat, j' = j + 1 ∧ σ' = [some (.str (S L)), some (.str (S (lo ++ List.replicate j' c))), some (.str (S h)), some (.int (j' : Int))] ∧ H' = H1 ∧ lo.length + j ≤ h.length, fun σ' H' ⟨j', e1, e2, e3, e4⟩ => ⟨h.length + 1 - (lo.length + j'), by omega, j', e2, rfl, e3, by omega, .inr (by rw [e1]; exact h1)⟩, ?_⟩
      refine ⟨_, rfl, _, rfl, (by rw [S_len, ll, sizeLine_eq]; omega), _, rfl, _, rfl, (by rw [S_len, sizeLine_eq]; omega), _, _, rfl, rfl, _, rfl, ?_⟩
      rw [S_len, S_len, ll]
      refine ite2 (fun e => ?_) (fun e => ?_)
      · have e := of_decide_eq_true e
        unfold roomV at q
        rw [if_pos h0, if_neg (fun f => ?_)] at q
        · exact q
        · have ef := M2.Form.eq f
          rw [ef, M2.app_lt, M2.rep_lt, List.length_drop] at h1
          omega
      · have e : ¬ ((h.length : Int) < ((lo.length + j : Nat) : Int)) := fun z => e (decide_eq_true z)
        refine ⟨_, rfl, _, rfl, _, 0, c, rfl, rfl, (by rw [S_len, sizeLine_eq]; omega), (by rw [S_toList, eL]; exact atI_nat (j := 0) rfl), _, _, rfl, rfl, ?_, ?_⟩
        · show (S _).length + (S [c]).length ≤ _
          rw [S_len, S_len, ll, sizeLine_eq]
          simp
          omega
        · refine ⟨_, rfl, _, _, rfl, rfl, j + 1, rfl, ?_, rfl, by omega⟩
          show [some (V.str (S L)), some (V.str (S (lo ++ List.replicate j c) ++ S [c])), some (V.str (S h)), some (V.int ((j : Int) + 1))] = _
          rw [S_app, List.append_assoc, ← List.replicate_succ']
          rfl
    · rw [decide_eq_false h1]
      refine iteF ?_
      by_cases j0 : j = 0
      · subst j0
        have h0 : ¬ lo < h := by simpa using h1
        unfold roomV at q
        rw [if_neg h0] at q
        refine ⟨_, rfl, _, rfl, rfl, _, rfl, ite2 (fun e => ?_) (fun e => ?_)⟩
        · exact iteT ⟨_, rfl, q⟩
        · refine ⟨_, rfl, rfl, _, rfl, iteT ⟨_, rfl, q⟩⟩
      · have hp : lo ++ List.replicate (j - 1) c < h := hp.resolve_left j0
        have ej : List.replicate j c = List.replicate (j - 1) c ++ [c] := by
          conv => lhs; rw [show j = (j - 1) + 1 by omega]
          rw [List.replicate_succ']
        have eh : h = lo ++ List.replicate j c := by
          rw [ej, ← List.append_assoc]
          refine M2.next hc hp ?_
          rw [List.append_assoc, ← ej]
          exact h1
        refine ⟨_, rfl, _, rfl, rfl, _, rfl, ?_⟩
        rw [decide_eq_true (congrArg V.str (congrArg S eh.symm))]
        refine iteT ⟨_, rfl, ?_⟩
        unfold roomV at q
        have f : M2.Form c lo h := by rw [eh]; exact M2.Form.of j
        rw [if_pos (M2.lo_lt hp), if_pos f] at q
        have : (h.drop lo.length).length = j := by rw [List.length_drop, eh, ll]; omega
        rw [this] at q
        exact q
theorem ok_l_tail (T : Top K mg) : FnOk P w K mg base CX0 3 T.f_l_tail T.d_l_tail ["_law_deal_here", "_law_letters_here"] sp_tail := by
  have G_l_draw : FnOk P w K mg base CX0 1 T.f_l_draw T.d_l_draw ["_law_deal_here", "_law_many"] spDraw := ok_l_draw T
  have G_l_pickS : FnOk P w K mg base CX0 2 T.f_l_pick T.d_l_pick ["_law_deal_here", "_law_some"] spPickS := ok_l_pickS T
  have G_l_pickL : FnOk P w K mg base CX0 2 T.f_l_pick T.d_l_pick ["_law_deal_here", "_law_some"] (spPickL K) := ok_l_pickL T
  refine T.F_l_tail.ok sc_l_tail (fun vs H Q E h => ?_) (fun cdv A outer s H vs Q E hr h => ?_)
  · obtain ⟨a, c, L, rfl, _⟩ := h
    rfl
  · obtain ⟨a, c, L, rfl, d, hne, hl, q⟩ := h
    have hpos : 0 < L.length := List.length_pos_iff.mpr hne
    obtain ⟨l', g, eL⟩ : ∃ l' g, L = l' ++ [g] := ⟨L.dropLast, L.getLast hne, (List.dropLast_concat_getLast hne).symm⟩
    obtain ⟨f, r, eL2⟩ : ∃ f r, L = f :: r := by
      cases L with
      | nil => exact absurd rfl hne
      | cons f r => exact ⟨f, r, rfl⟩
    have hfL : f ∈ L := by rw [eL2]; exact List.mem_cons_self
    have hgL : g ∈ L := by rw [eL]; simp
    refine ⟨_, (pss_cons (ps_set (i := 2) sc_l_tail.nd rfl (Or.inl rfl) (pe_call G_l_pickL (hr.mono (by decide)) (by rfl) T.g_l_pick T.F_l_pick.kp T.b_l_pick .nil pass0 (pa_cons (pv 0) (pa_cons (pe_lst (pa_cons (pe_ix ix_str (pv 1) pe_int (fun _ _ => rfl)) (pa_cons (pe_ix ix_str (pv 1) (pe_un un_neg pe_int) (fun _ _ => rfl)) (pa_cons (pe_call G_l_pickS (hr.mono (by decide)) (by rfl) T.g_l_pick T.F_l_pick.kp T.b_l_pick .nil pass0 (pa_cons (pv 0) (pa_cons (pv 1) pa_nil))) pa_nil)))) pa_nil))))
        (pss_one (ps_ret (pe_op U.op_mul_str (pv 2) (pe_call G_l_draw (hr.mono (by decide)) (by rfl) T.g_l_draw T.F_l_draw.kp T.b_l_draw .nil pass0 (pa_cons (pv 0) (pa_cons pe_int pa_nil))))))), ?_⟩
    refine ⟨_, rfl, _, rfl, _, 0, f, rfl, rfl, (by rw [S_len, sizeLine_eq]; omega), (by rw [S_toList, eL2]; exact atI_nat (j := 0) rfl), _, rfl, 1, rfl, _, -1, g, rfl, rfl, (by rw [S_len, sizeLine_eq]; omega), (by rw [S_toList, eL]; exact last_at l' g), _, rfl, _, rfl, a, c, L, rfl, d, hne, hl, fun z H1 hz d1 kp1 => ?_⟩
    refine ⟨(by show 3 ≤ sizeLine; decide), fun p hp => ?_⟩
    have np := d1.ne hp
    have hp0 := d.free kp1 d1 hp
    refine ⟨a, c, p, _, rfl, d1.new hp, SqL.of upd_same, np.1, np.2, by simp, by show 3 ≤ 1000; decide, fun v H2 hv d2 kp2 => ?_⟩
    obtain ⟨u, rfl, hu⟩ : ∃ u, v = .str (S [u]) ∧ u ∈ L := by
      simp only [List.mem_cons, List.not_mem_nil, or_false] at hv
      rcases hv with rfl | rfl | rfl
      · exact ⟨f, rfl, hfL⟩
      · exact ⟨g, rfl, hgL⟩
      · exact ⟨z, rfl, hz⟩
    refine ⟨_, rfl, _, rfl, a, c, 5, rfl, d2, by decide, by decide, fun t H3 t0 t1 d3 kp3 => ?_⟩
    obtain ⟨n, rfl⟩ := nat_of t0
    refine ⟨[u], n, rfl, rfl, by simp; omega, by omega, ?_⟩
    refine q _ _ (by rw [rep_len]; simp; omega) (fun y hy => ?_) d3 (((kp1.new hp0).trans kp2).trans kp3)
    rw [List.mem_singleton.mp (rep_mem hy)]
    exact hu
end
end K02
namespace K02
open PySem PySem.Spec PyProof.Rows L2 U
section
variable {P : Program} {w : World} {K : PySem.W.Frag} {mg : Str → Option Value} {base : Heap}
theorem ok_l_raised_right (T : Top K mg) : FnOk P w K mg base CX0 4 T.f_l_raised_right T.d_l_raised_right ["_law_deal_here", "_law_letters_here", "_law_text"] sp_rr := by
  have G_l_draw : FnOk P w K mg base CX0 1 T.f_l_draw T.d_l_draw ["_law_deal_here", "_law_many"] spDraw := ok_l_draw T
  have G_l_word : FnOk P w K mg base CX0 3 T.f_l_word T.d_l_word ["_law_deal_here", "_law_letters_here", "_law_most"] spWord := ok_l_word T
  have G_raised : FnOk P w K mg base CX0 1 T.f_raised T.d_raised ["letters", "text"] sp_raised := ok_raised T
  refine T.F_l_raised_right.ok sc_l_raised_right (fun vs H Q E h => ?_) (fun cdv A outer s H vs Q E hr h => ?_)
  · obtain ⟨a, c, L, t, rfl, _⟩ := h
    rfl
  · obtain ⟨a, c, L, t, rfl, d, asc, h2, h5, ht, htl, q⟩ := h
    have hne : L ≠ [] := fun e => by rw [e] at h2; simp at h2
    obtain ⟨l', g, eL⟩ : ∃ l' g, L = l' ++ [g] := ⟨L.dropLast, L.getLast hne, (List.dropLast_concat_getLast hne).symm⟩
    obtain ⟨f, r, eL2⟩ : ∃ f r, L = f :: r := by
      cases L with
      | nil => exact absurd rfl hne
      | cons f r => exact ⟨f, r, rfl⟩
    have nd := asc_nd asc
    have szL : (S L).length ≤ sizeLine := by rw [S_len, sizeLine_eq]; omega
    have szt : (S t).length ≤ sizeLine := by rw [S_len, sizeLine_eq]; omega
    have eg : atI (S L).cps.toList (-1) = some g := by rw [S_toList, eL]; exact last_at l' g
    refine ⟨_, (pss_cons (ps_set (i := 3) sc_l_raised_right.nd rfl (Or.inr rfl) (pe_call G_raised (hr.mono (by decide)) (by rfl) T.g_raised T.F_raised.kp T.b_raised .nil pass0 (pa_cons (pv 1) (pa_cons (pv 2) pa_nil))))
        (pss_cons (ps_setLc (i := 4) (own := [("_law_turn", 7)]) (g := gName 7) (tt := tYes) (by rfl) sc_l_raised_right.nd rfl rfl (sw_true rfl rfl rfl (by decide +kernel)) (pi_range1 (by rfl) T.n_range (pa_cons pe_int pa_nil)) (blkOk_by (own := [("_law_turn", 7)]) (N := ["_law_deal_here", "_law_letters_here", "_law_text", "_law_told", "_law_others", "_law_near", "_law_below", "_law_turn", "_law_sign", "_law_one"]) (sc := defScope s_l_raised_right) (by decide +kernel)) (fun _ _ _ _ _ => pg_name (i := 7) sc_l_raised_right.nd rfl (Or.inl rfl)) (fun _ _ _ _ _ => pts_nil) (fun _ _ _ _ _ => (pe_op op_add_str (pe_op op_add_str (pv 2) (pe_call G_l_word (hr.mono (by decide)) (by rfl) T.g_l_word T.F_l_word.kp T.b_l_word .nil pass0 (pa_cons (pv 0) (pa_cons (pv 1) (pa_cons pe_int pa_nil))))) (pe_op U.op_mul_str (pe_ix ix_str (pv 1) (pe_un un_neg pe_int) (fun _ _ => rfl)) (pe_call G_l_draw (hr.mono (by decide)) (by rfl) T.g_l_draw T.F_l_draw.kp T.b_l_draw .nil pass0 (pa_cons (pv 0) (pa_cons pe_int pa_nil)))))))
        (pss_cons (ps_if (pt_cmpR op_isN (pv 3) pe_non (nomark _)) (pss_one (ps_ret (pe_cmpR (op_eqD hr.units) (pe_lc (own := [("_law_sign", 8)]) (g := gName 8)  (by rfl) sc_l_raised_right.nd (pi_str (pv 2)) (blkOk_by (own := [("_law_sign", 8)]) (N := ["_law_deal_here", "_law_letters_here", "_law_text", "_law_told", "_law_others", "_law_near", "_law_below", "_law_turn", "_law_sign", "_law_one"]) (sc := defScope s_l_raised_right) (by decide +kernel)) (fun _ _ _ _ _ => pg_name (i := 8) sc_l_raised_right.nd rfl (Or.inl rfl)) (fun _ _ _ _ _ => pts_one (pt_cmpR op_ne (pv 8) (pe_ix ix_str (pv 1) (pe_un un_neg pe_int) (fun _ _ => rfl)) (nomark _))) (fun _ _ _ _ _ => (pv 8))) (pe_lst pa_nil) (nomark _)))) pss_nil)
        (pss_cons (ps_if (PW.pt (pw_or (pt_cmpR (op_neD hr.units) (pe_lc (own := [("_law_one", 9)]) (g := gName 9)  (by rfl) sc_l_raised_right.nd (pi_list (pv 4)) (blkOk_by (own := [("_law_one", 9)]) (N := ["_law_deal_here", "_law_letters_here", "_law_text", "_law_told", "_law_others", "_law_near", "_law_below", "_law_turn", "_law_sign", "_law_one"]) (sc := defScope s_l_raised_right) (by decide +kernel)) (fun _ _ _ _ _ => pg_name (i := 9) sc_l_raised_right.nd rfl (Or.inl rfl)) (fun _ _ _ _ _ => pts_one (pt_not (pt_cmpR op_lt_str (pv 9) (pv 3) (nomark _)))) (fun _ _ _ _ _ => (pv 9))) (pe_lst pa_nil) (nomark _)) (pw_or1 (pt_val (pe_bm PySem.F.plainAttrs_str PySem.F.slot_str_startswith PySem.F.type_str_startswith mt_startswith (pv 3) (pa_cons (pv 2) pa_nil)))))) (pss_one (ps_ret pe_bl)) pss_nil)
        (pss_cons (ps_if (pt_cmpR (op_neD hr.units) (pe_lc (own := [("_law_sign", 8)]) (g := gName 8)  (by rfl) sc_l_raised_right.nd (pi_str (pv 3)) (blkOk_by (own := [("_law_sign", 8)]) (N := ["_law_deal_here", "_law_letters_here", "_law_text", "_law_told", "_law_others", "_law_near", "_law_below", "_law_turn", "_law_sign", "_law_one"]) (sc := defScope s_l_raised_right) (by decide +kernel)) (fun _ _ _ _ _ => pg_name (i := 8) sc_l_raised_right.nd rfl (Or.inl rfl)) (fun _ _ _ _ _ => pts_one (pt_cmpR op_notIn_sign (pv 8) (pv 1) (by rfl))) (fun _ _ _ _ _ => (pv 8))) (pe_lst pa_nil) (nomark _)) (pss_one (ps_ret pe_bl)) pss_nil)
        (pss_cons (ps_if (PW.pt (pw_or (pt_cmpR op_eq (pv 3) pe_str (nomark _)) (pw_or1 (pt_cmpR op_eq (pe_ix ix_str (pv 3) (pe_un un_neg pe_int) (fun _ _ => rfl)) (pe_ix ix_str (pv 1) pe_int (fun _ _ => rfl)) (nomark _))))) (pss_one (ps_ret pe_bl)) pss_nil)
        (pss_cons (ps_set (i := 5) sc_l_raised_right.nd rfl (Or.inl rfl) (pe_ix ix_str (pv 1) (pe_op op_sub (pe_bm PySem.F.plainAttrs_str PySem.F.slot_str_index PySem.F.type_str_index mt_sindex (pv 1) (pa_cons (pe_ix ix_str (pv 3) (pe_un un_neg pe_int) (fun _ _ => rfl)) pa_nil)) pe_int) (fun _ _ => rfl)))
        (pss_cons (ps_set (i := 6) sc_l_raised_right.nd rfl (Or.inl rfl) (pe_op op_add_str (pe_op op_add_str (pe_slice sl_str (pv 3) po_none (po_some (pe_un un_neg pe_int))) (pv 5)) (pe_op U.op_mul_str (pe_ix ix_str (pv 1) (pe_un un_neg pe_int) (fun _ _ => rfl)) (pe_op op_sub (pe_op op_add (pe_callB call_len_str (by rfl) T.n_len (by decide +kernel) (pa_cons (pv 2) pa_nil)) pe_int) (pe_callB call_len_str (by rfl) T.n_len (by decide +kernel) (pa_cons (pv 3) pa_nil))))))
        (pss_one (ps_ret (pe_and (pe_bm PySem.F.plainAttrs_str PySem.F.slot_str_startswith PySem.F.type_str_startswith mt_startswith (pv 6) (pa_cons (pv 2) pa_nil)) (pe_one (pe_cmpR op_le (pe_callB call_len_str (by rfl) T.n_len (by decide +kernel) (pa_cons (pv 3) pa_nil)) (pe_callB call_len_str (by rfl) T.n_len (by decide +kernel) (pa_cons (pv 2) pa_nil)) (nomark _)))))))))))))), ?_⟩
    refine ⟨_, rfl, _, rfl, L, t, g, rfl, asc, h5, ⟨l', eL⟩, ht, by omega, fun told hT => ?_⟩
    -- the others
    refine ⟨6, rfl, by decide, by decide, fun D hD => ?_⟩
    have nD := d.ne hD
    refine lc_it (src_range 0 (6 : Int).toNat).w (fun i H' => ∃ zs : List (List Nat), Deal H' a c ∧ Kp a c H H' ∧ H' D = some (.lst (zs.map fun z => V.str (S z))) ∧ zs.length = i ∧ ∀ z ∈ zs, ∃ w, z = t ++ w) ⟨[], d.new hD, (Kp.refl _ _ _).new hD, upd_same, rfl, fun _ h => (nomatch h)⟩ (fun _ _ _ _ => trivial) ?_ ?_
    · rintro i v H1 H2 hi ⟨zs, d1, kp1, eD, zl, hz⟩ ⟨rfl, hv⟩
      rw [rngV_len] at hi
      have hi : i < 6 := hi
      refine ⟨rfl, ?_⟩
      refine ⟨_, rfl, _, rfl, _, rfl, a, c, L, 3, rfl, d1, hne, by omega, by decide, by decide, fun w H3 hw hws d3 kp3 => ?_⟩
      have hw3 : w.length ≤ 3 := hw
      refine ⟨_, _, rfl, rfl, by rw [S_len, S_len, sizeLine_eq]; omega, ?_⟩
      rw [S_app]
      refine ⟨_, rfl, 1, rfl, _, -1, g, rfl, rfl, szL, eg, _, rfl, a, c, 9, rfl, d3, by decide, by decide, fun z H4 z0 z1 d4 kp4 => ?_⟩
      obtain ⟨n, rfl⟩ := nat_of z0
      refine ⟨[g], n, rfl, rfl, by simp; omega, by omega, ?_⟩
      refine ⟨_, _, rfl, rfl, by rw [S_len, S_len, rep_len, List.length_append, sizeLine_eq]; simp; omega, ?_⟩
      rw [S_app]
      refine ⟨_, kp4 _ _ nD.1 nD.2 (kp3 _ _ nD.1 nD.2 eD), by rw [List.length_map, zl]; exact small1000 (by omega), zs ++ [t ++ w ++ rep [g] n], d4.upd nD.1 nD.2, ((kp1.trans kp3).trans kp4).new hD, ?_, by simp [zl], ?_⟩
      · rw [upd_same]
        simp
      · intro z hz2
        rcases List.mem_append.mp hz2 with h | h
        · exact hz z h
        · rw [List.mem_singleton.mp h]
          exact ⟨w ++ rep [g] n, by rw [List.append_assoc]⟩
    · rintro H1 ⟨zs, d1, kp1, eD, zl, hz⟩
      rw [rngV_len] at zl
      refine ⟨_, rfl, rfl, _, rfl, ?_⟩
      rcases hT with ⟨rfl, hall⟩ | ⟨k0, x, m, y, rfl, et, hxy, hyL, hxL, iy⟩
      · -- told is None
        refine iteT ?_
        refine ⟨_, rfl, _, rfl, fun D2 hD2 => ?_⟩
        refine lcS (src_str t) (fun v => !decide (v = .str (S [g]))) id trivial hD2 (fun _ => rfl) (by simp [chars]; omega) ?_ ?_ ?_
        · intro v hv H' _ Q k
          obtain ⟨u, hu, rfl⟩ := List.mem_map.mp hv
          exact ⟨_, rfl, _, rfl, 1, rfl, _, -1, g, rfl, rfl, szL, eg, rfl, _, rfl, k H' (Same.refl _)⟩
        · intro v hv _ H' _ Q k
          exact ⟨_, rfl, k H' (Same.refl _)⟩
        · intro H2 s2 e2
          have en : (chars t).filter (fun v => !decide (v = .str (S [g]))) = [] := by
            rw [List.filter_eq_nil_iff]
            intro v hv
            obtain ⟨u, hu, rfl⟩ := List.mem_map.mp hv
            rw [hall u hu]
            simp
          rw [en] at e2
          refine ⟨Nat.zero_le _, fun p hp => ?_⟩
          refine ⟨.list [], .list [], .lst (SqL.of (Same.new (Same.refl _) hp _ _ e2)) .nil, .lst (SqL.of upd_same) .nil, rfl, rfl, ?_⟩
          exact q _ ((d1.same s2).new hp) ((kp1.trans (Same.kp s2)).new' hp)
      · refine iteF ?_
        have ltT : t.length = k0.length + 1 + m := by rw [et]; simp; omega
        have lT : (k0 ++ [y]).length = k0.length + 1 := by simp
        have szT : (S (k0 ++ [y])).length ≤ sizeLine := by rw [S_len, lT, sizeLine_eq]; omega
        have ey : atI (S (k0 ++ [y])).cps.toList (-1) = some y := by rw [S_toList]; exact last_at k0 y
        have ef : atI (S L).cps.toList 0 = some f := by rw [S_toList, eL2]; exact atI_nat (j := 0) rfl
        -- none of the others is not less; told does not begin with the text
        refine ⟨_, rfl, D, rfl, ⟨_, SqL.of eD⟩, fun D2 hD2 => ?_⟩
        refine lcS (src_list K D (zs.map fun z => V.str (S z))) (fun _ => false) id (SqL.of eD) hD2 (fun _ => rfl) (by rw [List.length_map, zl]; decide) ?_ (fun _ _ h => by cases h) ?_
        · intro v hv H' _ Q k
          obtain ⟨z, hzz, rfl⟩ := List.mem_map.mp hv
          obtain ⟨w, rfl⟩ := hz z hzz
          refine ⟨_, rfl, _, rfl, _, _, rfl, rfl, true, ?_, k H' (Same.refl _)⟩
          rw [S_toList, S_toList, et, List.append_assoc, List.cons_append]
          exact congrArg V.bl (decide_eq_true (M2.lt_raised (k := 0) hxy k0 _ []))
        intro H2 s2 e2
        rw [List.filter_eq_nil_iff.mpr (fun _ _ h => by cases h)] at e2
        refine ⟨Nat.zero_le _, fun p hp => ?_⟩
        have d2 := (d1.same s2).new (o := .lst []) hp
        have kp2 := (kp1.trans (Same.kp s2)).new' (o := .lst []) hp
        refine ⟨.list [], .list [], .lst (SqL.of (Same.new (Same.refl _) hp _ _ e2)) .nil, .lst (SqL.of upd_same) .nil, rfl, rfl, false, rfl, iteF ?_⟩
        refine ⟨_, rfl, rfl, _, rfl, _, _, rfl, rfl, false, ?_, iteF ?_⟩
        · rw [starts_eq]
          refine congrArg V.bl (decide_eq_false fun h => ?_)
          have h := congrArg (fun l => l[k0.length]?) h
          have h : ((k0 ++ [y]).take t.length)[k0.length]? = t[k0.length]? := h
          rw [List.getElem?_take_of_lt (by omega), et] at h
          simp at h
          omega
        -- all are letters
        refine ⟨_, rfl, _, rfl, fun D3 hD3 => ?_⟩
        refine lcS (src_str (k0 ++ [y])) (fun _ => false) id trivial hD3 (fun _ => rfl) (by simp [chars]; omega) ?_ (fun _ _ h => by cases h) ?_
        · intro v hv H' _ Q k
          obtain ⟨u, hu, rfl⟩ := List.mem_map.mp hv
          refine ⟨_, rfl, _, rfl, u, _, rfl, rfl, false, ?_, k H' (Same.refl _)⟩
          rw [S_toList]
          have : u ∈ L := by
            rcases List.mem_append.mp hu with h | h
            · exact ht u (by rw [et]; simp [h])
            · rw [List.mem_singleton.mp h]
              exact hyL
          rw [decide_eq_true this]
          rfl
        intro H3 s3 e3
        rw [List.filter_eq_nil_iff.mpr (fun _ _ h => by cases h)] at e3
        refine ⟨Nat.zero_le _, fun p2 hp2 => ?_⟩
        have d3 := (d2.same s3).new (o := .lst []) hp2
        have kp3 := (kp2.trans (Same.kp s3)).new' (o := .lst []) hp2
        refine ⟨.list [], .list [], .lst (SqL.of (Same.new (Same.refl _) hp2 _ _ e3)) .nil, .lst (SqL.of upd_same) .nil, rfl, rfl, false, rfl, iteF ?_⟩
        -- its last letter
        refine ⟨_, rfl, rfl, false, ?_, iteF ?_⟩
        · refine congrArg V.bl (decide_eq_false fun h => ?_)
          have h := V.str.inj h
          rw [empty_S, S_inj] at h
          simp at h
        refine ⟨_, rfl, 1, rfl, _, -1, y, rfl, rfl, szT, ey, _, rfl, _, 0, f, rfl, rfl, szL, ef, rfl, false, ?_, iteF ?_⟩
        · refine congrArg V.bl (decide_eq_false fun h => ?_)
          have h : S [y] = S [f] := V.str.inj h
          rw [S_inj] at h
          have h : y = f := by simpa using h
          have i0 : M3.ix L f = 0 := by rw [eL2]; simp [M3.ix]
          rw [← h] at i0
          omega
        -- near
        obtain ⟨rest, ho⟩ := idx_occ nd hyL
        refine ⟨_, rfl, _, rfl, rfl, _, rfl, 1, rfl, _, -1, y, rfl, rfl, szT, ey, _, _, _, _, rfl, rfl, ho, _, _, rfl, rfl, _, _, x, rfl, rfl, szL, ?_, ?_⟩
        · rw [S_toList, iy]
          have : ((M3.ix L x + 1 : Nat) : Int) - 1 = (M3.ix L x : Int) := by omega
          rw [this]
          exact atI_nat (M3.ix_get hxL)
        -- below
        refine ⟨_, rfl, 1, rfl, -1, rfl, _, rfl, szT, ?_⟩
        rw [cut_init]
        refine ⟨_, rfl, S k0, S [x], rfl, rfl, by rw [S_len, S_len, sizeLine_eq]; simp; omega, ?_⟩
        rw [S_app]
        refine ⟨_, rfl, 1, rfl, _, -1, g, rfl, rfl, szL, eg, _, rfl, _, rfl, szt, _, _, rfl, rfl, _, rfl, _, rfl, szT, _, _, rfl, rfl, ?_⟩
        refine ⟨[g], m + 2, rfl, ?_, by simp; omega, by omega, ?_⟩
        · rw [S_len, S_len, lT, ltT]
          refine congrArg V.int ?_
          show ((k0.length + 1 + m : Nat) : Int) + 2 - ((k0.length + 1 : Nat) : Int) = _
          omega
        refine ⟨_, _, rfl, rfl, by rw [S_len, S_len, rep_len, List.length_append, sizeLine_eq]; simp; omega, ?_⟩
        rw [S_app]
        have ebelow : k0 ++ [x] ++ rep [g] (m + 2) = t ++ List.replicate 2 g := by
          have er : ∀ n, rep [g] n = List.replicate n g := fun n => by
            unfold rep
            induction n with
            | zero => rfl
            | succ n ih => rw [List.replicate_succ, List.replicate_succ, List.flatten_cons, ih]; rfl
          rw [er, et, List.append_assoc, List.append_assoc, List.cons_append, List.cons_append, List.replicate_append_replicate]
          rfl
        rw [ebelow]
        refine ⟨_, rfl, rfl, _, rfl, _, _, rfl, rfl, true, ?_, iteT ?_⟩
        · rw [starts_eq]
          refine congrArg V.bl (decide_eq_true ?_)
          rw [List.take_left']
          rfl
        refine ⟨_, rfl, _, rfl, szT, _, rfl, _, rfl, szt, _, _, rfl, rfl, ?_⟩
        show Q (.bl (decide (((S (k0 ++ [y])).length : Int) ≤ ((S t).length : Int)))) _
        rw [S_len, S_len, lT, ltT, decide_eq_true (by omega)]
        exact q _ d3 kp3
end
end K02
namespace K02
open PySem PySem.Spec PyProof.Rows L2 U
section
variable {P : Program} {w : World} {K : PySem.W.Frag} {mg : Str → Option Value} {base : Heap}
def spLaw (K : PySem.W.Frag) : Sp := fun vs H Q _ => ∃ (a : Addr) (ns : List Int), vs = [.ref a] ∧ SqL K H a (ns.map V.int) ∧ ns.length ≤ 63 ∧ ∀ H', Q (.bl true) H'
theorem ok_law (T : Top K mg) : FnOk P w K mg base CX0 5 T.f_law T.d_law ["_law_script"] (spLaw K) := by
  have G_l_deal : FnOk P w K mg base CX0 1 T.f_l_deal T.d_l_deal ["_law_script", "_law_base"] (spDeal K) := ok_l_deal T
  have G_l_draw : FnOk P w K mg base CX0 1 T.f_l_draw T.d_l_draw ["_law_deal_here", "_law_many"] spDraw := ok_l_draw T
  have G_l_letters : FnOk P w K mg base CX0 2 T.f_l_letters T.d_l_letters ["_law_deal_here", "_law_many"] spLetters := ok_l_letters T
  have G_l_word : FnOk P w K mg base CX0 3 T.f_l_word T.d_l_word ["_law_deal_here", "_law_letters_here", "_law_most"] spWord := ok_l_word T
  have G_l_tail : FnOk P w K mg base CX0 3 T.f_l_tail T.d_l_tail ["_law_deal_here", "_law_letters_here"] sp_tail := ok_l_tail T
  have G_l_raised_right : FnOk P w K mg base CX0 4 T.f_l_raised_right T.d_l_raised_right ["_law_deal_here", "_law_letters_here", "_law_text"] sp_rr := ok_l_raised_right T
  have G_l_pick : FnOk P w K mg base CX0 2 T.f_l_pick T.d_l_pick ["_law_deal_here", "_law_some"] (spPickL K) := ok_l_pickL T
  have G_room : FnOk P w K mg base CX0 1 T.f_room T.d_room ["letters", "low", "high"] sp_room := ok_room T
  have G_l_walked : FnOk P w K mg base CX0 1 T.f_l_walked T.d_l_walked ["_law_letters_here", "_law_low", "_law_high"] sp_walked := ok_l_walked T
  refine T.F_law.ok sc_law (fun vs H Q E h => ?_) (fun cdv A outer s H vs Q E hr h => ?_)
  · obtain ⟨a, ns, rfl, _⟩ := h
    rfl
  · obtain ⟨s0, ns, rfl, hS, hlen, q⟩ := h
    refine ⟨_, (pss_cons (ps_set (i := 1) sc_law.nd rfl (Or.inl rfl) (pe_call G_l_deal (hr.mono (by decide)) (by rfl) T.g_l_deal T.F_l_deal.kp T.b_l_deal .nil pass0 (pa_cons (pv 0) (pa_cons pe_int pa_nil))))
        (pss_cons (ps_for PassesOwn.never rfl (pi_range1 (by rfl) T.n_range (pa_cons pe_int pa_nil)) (pg_name (i := 2) sc_law.nd rfl (Or.inl rfl)) (pss_cons (ps_set (i := 3) sc_law.nd rfl (Or.inl rfl) (pe_call G_l_letters (hr.mono (by decide)) (by rfl) T.g_l_letters T.F_l_letters.kp T.b_l_letters .nil pass0 (pa_cons (pv 1) (pa_cons (pe_op op_add pe_int (pe_call G_l_draw (hr.mono (by decide)) (by rfl) T.g_l_draw T.F_l_draw.kp T.b_l_draw .nil pass0 (pa_cons (pv 1) (pa_cons pe_int pa_nil)))) pa_nil))))
        (pss_cons (ps_set (i := 4) sc_law.nd rfl (Or.inl rfl) (pe_op op_add_str (pe_call G_l_word (hr.mono (by decide)) (by rfl) T.g_l_word T.F_l_word.kp T.b_l_word .nil pass0 (pa_cons (pv 1) (pa_cons (pv 3) (pa_cons pe_int pa_nil)))) (pe_call G_l_tail (hr.mono (by decide)) (by rfl) T.g_l_tail T.F_l_tail.kp T.b_l_tail .nil pass0 (pa_cons (pv 1) (pa_cons (pv 3) pa_nil)))))
        (pss_cons (ps_if (PW.pt (pw_or (pt_not (pt_val (pe_call G_l_raised_right (hr.mono (by decide)) (by rfl) T.g_l_raised_right T.F_l_raised_right.kp T.b_l_raised_right .nil pass0 (pa_cons (pv 1) (pa_cons (pv 3) (pa_cons (pv 4) pa_nil)))))) (pw_or1 (pt_not (pt_val (pe_call G_l_raised_right (hr.mono (by decide)) (by rfl) T.g_l_raised_right T.F_l_raised_right.kp T.b_l_raised_right .nil pass0 (pa_cons (pv 1) (pa_cons (pv 3) (pa_cons (pe_op U.op_mul_str (pe_ix ix_str (pv 3) (pe_un un_neg pe_int) (fun _ _ => rfl)) (pv 2)) pa_nil))))))))) (pss_one (ps_ret pe_bl)) pss_nil)
        (pss_cons (ps_set (i := 5) sc_law.nd rfl (Or.inl rfl) (pe_lst (pa_cons (pe_op op_add_str (pv 4) (pe_call G_l_tail (hr.mono (by decide)) (by rfl) T.g_l_tail T.F_l_tail.kp T.b_l_tail .nil pass0 (pa_cons (pv 1) (pa_cons (pv 3) pa_nil)))) (pa_cons (pe_call G_l_word (hr.mono (by decide)) (by rfl) T.g_l_word T.F_l_word.kp T.b_l_word .nil pass0 (pa_cons (pv 1) (pa_cons (pv 3) (pa_cons pe_int pa_nil)))) (pa_cons (pe_slice sl_str (pv 4) po_none (po_some (pe_call G_l_draw (hr.mono (by decide)) (by rfl) T.g_l_draw T.F_l_draw.kp T.b_l_draw .nil pass0 (pa_cons (pv 1) (pa_cons pe_int pa_nil))))) pa_nil)))))
        (pss_cons (ps_set (i := 5) sc_law.nd rfl (Or.inl rfl) (pe_call G_l_pick (hr.mono (by decide)) (by rfl) T.g_l_pick T.F_l_pick.kp T.b_l_pick .nil pass0 (pa_cons (pv 1) (pa_cons (pe_op op_cat (pv 5) (pe_lst (pa_cons (pe_op op_add_str (pv 4) (pe_op U.op_mul_str (pe_ix ix_str (pv 3) pe_int (fun _ _ => rfl)) (pe_call G_l_draw (hr.mono (by decide)) (by rfl) T.g_l_draw T.F_l_draw.kp T.b_l_draw .nil pass0 (pa_cons (pv 1) (pa_cons pe_int pa_nil))))) pa_nil))) pa_nil))))
        (pss_cons (ps_for PassesOwn.never rfl (pi_tup (pe_tup (pa_cons (pe_tup (pa_cons (pv 4) (pa_cons (pv 5) pa_nil))) (pa_cons (pe_tup (pa_cons (pv 5) (pa_cons (pv 4) pa_nil))) (pa_cons (pe_tup (pa_cons (pv 4) (pa_cons (pv 4) pa_nil))) (pa_cons (pe_tup (pa_cons pe_str (pa_cons (pv 5) pa_nil))) pa_nil)))))) (pg_tup rfl (pgs_cons (pg_name (i := 6) sc_law.nd rfl (Or.inl rfl)) (pgs_cons (pg_name (i := 7) sc_law.nd rfl (Or.inl rfl)) pgs_nil))) (pss_one (ps_if (pt_cmpR op_ne (pe_callB U.call_repr (by rfl) T.n_repr (by decide +kernel) (pa_cons (pe_call G_room (hr.mono (by decide)) (by rfl) T.g_room T.F_room.kp T.b_room .nil pass0 (pa_cons (pv 3) (pa_cons (pv 6) (pa_cons (pv 7) pa_nil)))) pa_nil)) (pe_callB U.call_repr (by rfl) T.n_repr (by decide +kernel) (pa_cons (pe_call G_l_walked (hr.mono (by decide)) (by rfl) T.g_l_walked T.F_l_walked.kp T.b_l_walked .nil pass0 (pa_cons (pv 3) (pa_cons (pv 6) (pa_cons (pv 7) pa_nil)))) pa_nil)) (nomark _)) (pss_one (ps_ret pe_bl)) pss_nil)))
        (pss_one (ps_if (pt_cmpR op_notN (pe_call G_room (hr.mono (by decide)) (by rfl) T.g_room T.F_room.kp T.b_room .nil pass0 (pa_cons (pv 3) (pa_cons (pv 4) (pa_cons pe_non pa_nil)))) pe_non (nomark _)) (pss_one (ps_ret pe_bl)) pss_nil)))))))))
        (pss_one (ps_ret pe_bl)))), ?_⟩
    refine ⟨_, rfl, s0, ns, 0, rfl, hS, hlen, by decide, by decide, fun a c H1 s1 _ _ d1 => ?_⟩
    refine ⟨12, rfl, by decide, by decide, ?_⟩
    refine for_it (src_range 0 (12 : Int).toNat).w (fun i σ H' => ∃ v2 v3 v4 v5 v6 v7, σ = [some (.ref s0), some (.ref a), v2, v3, v4, v5, v6, v7] ∧ Deal H' a c)
      ⟨_, _, _, _, _, _, rfl, d1⟩ (fun _ _ _ _ _ => trivial) ?_ (fun σ H' _ => q _)
    rintro i v σ H2 H3 hi ⟨v2, v3, v4, v5, v6, v7, rfl, d2⟩ ⟨rfl, hv⟩
    rw [rngV_len] at hi
    have hi : i < 12 := hi
    obtain ⟨_, rfl⟩ := rngV_get.mp hv
    -- letters
    refine ⟨_, rfl, _, rfl, a, c, 4, rfl, d2, by decide, by decide, fun r H4 r0 r1 d4 _ => ?_⟩
    refine ⟨2, r, rfl, rfl, a, c, 2 + r, rfl, d4, by omega, by omega, fun L H5 hL d5 _ => ?_⟩
    have hn2 : 2 ≤ L.length := by have := hL.len; omega
    have hn5 : L.length ≤ 5 := by have := hL.len; omega
    have asc := hL.asc
    have hne : L ≠ [] := fun e => by rw [e] at hn2; simp at hn2
    obtain ⟨l', g, eL⟩ : ∃ l' g, L = l' ++ [g] := ⟨L.dropLast, L.getLast hne, (List.dropLast_concat_getLast hne).symm⟩
    obtain ⟨f, r', eL2⟩ : ∃ f r, L = f :: r := by
      cases L with
      | nil => exact absurd rfl hne
      | cons f r => exact ⟨f, r, rfl⟩
    have hfL : ∀ x ∈ L, f ≤ x := fun x hx => by
      rw [eL2] at hx asc
      rcases List.mem_cons.mp hx with rfl | hx
      · exact Nat.le_refl _
      · exact Nat.le_of_lt ((List.pairwise_cons.mp asc).1 x hx)
    have szL : (S L).length ≤ sizeLine := by rw [S_len, sizeLine_eq]; omega
    have eg : atI (S L).cps.toList (-1) = some g := by rw [S_toList, eL]; exact last_at l' g
    have ef : atI (S L).cps.toList 0 = some f := by rw [S_toList, eL2]; exact atI_nat (j := 0) rfl
    -- text
    refine ⟨_, rfl, _, rfl, a, c, L, 4, rfl, d5, hne, by omega, by decide, by decide, fun w H6 hw hws d6 _ => ?_⟩
    have hw4 : w.length ≤ 4 := hw
    refine ⟨_, rfl, _, rfl, a, c, L, rfl, d6, hne, by omega, fun w2 H7 hw2 hws2 d7 _ => ?_⟩
    refine ⟨_, _, rfl, rfl, by rw [S_len, S_len, sizeLine_eq]; omega, ?_⟩
    rw [S_app]
    generalize ht : w ++ w2 = t
    have htL : ∀ x ∈ t, x ∈ L := fun x hx => by
      rw [← ht] at hx
      rcases List.mem_append.mp hx with h | h
      · exact hws x h
      · exact hws2 x h
    have htl : t.length ≤ 8 := by rw [← ht, List.length_append]; omega
    -- raised
    refine ⟨_, rfl, _, rfl, _, rfl, a, c, L, t, rfl, d7, asc, hn2, hn5, htL, by omega, fun H8 d8 _ => ⟨true, rfl, iteF ?_⟩⟩
    refine ⟨_, rfl, _, rfl, _, rfl, 1, rfl, _, -1, g, rfl, rfl, szL, eg, _, rfl, [g], i, rfl, by rw [Int.zero_add], by simp; omega, by omega, ?_⟩
    refine ⟨a, c, L, rep [g] i, rfl, d8, asc, hn2, hn5, fun x hx => ?_, by rw [rep_len]; simp; omega, fun H9 d9 _ => ⟨true, rfl, iteF ?_⟩⟩
    · rw [List.mem_singleton.mp (rep_mem hx), eL]
      simp
    -- the other text
    refine ⟨_, rfl, _, rfl, _, rfl, a, c, L, rfl, d9, hne, by omega, fun x1 H10 lx1 mx1 d10 _ => ?_⟩
    refine ⟨_, _, rfl, rfl, by rw [S_len, S_len, sizeLine_eq]; omega, ?_⟩
    rw [S_app]
    refine ⟨_, rfl, _, rfl, a, c, L, 6, rfl, d10, hne, by omega, by decide, by decide, fun x2 H11 lx2 mx2 d11 _ => ?_⟩
    have lx2 : x2.length ≤ 6 := lx2
    refine ⟨_, rfl, _, rfl, a, c, 9, rfl, d11, by decide, by decide, fun z H12 z0 z1 d12 _ => ⟨z, rfl, _, rfl, by rw [S_len, sizeLine_eq]; omega, ?_⟩⟩
    rw [cut_take _ z0]
    refine ⟨(by show 3 ≤ sizeLine; decide), fun p hp => ?_⟩
    generalize e1 : t ++ x1 = o1
    generalize e3 : t.take z.toNat = o3
    have mo1 : ∀ x ∈ o1, x ∈ L := fun x hx => by
      rw [← e1] at hx
      rcases List.mem_append.mp hx with h | h
      · exact htL x h
      · exact mx1 x h
    have mo3 : ∀ x ∈ o3, x ∈ L := fun x hx => by
      rw [← e3] at hx
      exact htL x (List.mem_of_mem_take hx)
    have lo1 : o1.length ≤ 40 := by rw [← e1, List.length_append]; omega
    have lo3 : o3.length ≤ 40 := by rw [← e3, List.length_take]; omega
    have np := d12.ne hp
    have d13 := d12.new (o := .lst [.str (S o1), .str (S x2), .str (S o3)]) hp
    refine ⟨_, rfl, _, rfl, _, rfl, _, rfl, _, 0, f, rfl, rfl, szL, ef, _, rfl, a, c, 30, rfl, d13, by decide, by decide, fun z2 H14 z20 z21 d14 kp14 => ?_⟩
    obtain ⟨n, rfl⟩ := nat_of z20
    refine ⟨[f], n, rfl, rfl, by simp; omega, by omega, ?_⟩
    refine ⟨_, _, rfl, rfl, by rw [S_len, S_len, rep_len, sizeLine_eq]; simp; omega, ?_⟩
    rw [S_app]
    generalize e4 : t ++ rep [f] n = o4
    have mo4 : ∀ x ∈ o4, x ∈ L := fun x hx => by
      rw [← e4] at hx
      rcases List.mem_append.mp hx with h | h
      · exact htL x h
      · rw [List.mem_singleton.mp (rep_mem h), eL2]
        exact List.mem_cons_self
    have lo4 : o4.length ≤ 40 := by rw [← e4, List.length_append, rep_len]; simp; omega
    refine ⟨(by show 1 ≤ sizeLine; decide), fun p2 hp2 => ?_⟩
    have eP : H14 p = some (.lst [.str (S o1), .str (S x2), .str (S o3)]) := kp14 _ _ np.1 np.2 upd_same
    have npp : p ≠ p2 := ne_of_none eP hp2
    refine ⟨p, p2, _, _, rfl, rfl, by rw [upd_ne npp]; exact eP, upd_same, (by show 4 ≤ sizeLine; decide), fun p3 hp3 => ?_⟩
    have d15 := (d14.new (o := .lst [.str (S o4)]) hp2)
    have np3 := d15.ne hp3
    refine ⟨a, c, p3, _, rfl, d15.new hp3, SqL.of upd_same, np3.1, np3.2, by simp, by show 4 ≤ 1000; decide, fun v H16 hv d16 _ => ?_⟩
    obtain ⟨o, rfl, mo, lo⟩ : ∃ o, v = .str (S o) ∧ (∀ x ∈ o, x ∈ L) ∧ o.length ≤ 40 := by
      have hv : v ∈ [V.str (S o1), V.str (S x2), V.str (S o3), V.str (S o4)] := hv
      simp only [List.mem_cons, List.not_mem_nil, or_false] at hv
      rcases hv with rfl | rfl | rfl | rfl
      · exact ⟨o1, rfl, mo1, lo1⟩
      · exact ⟨x2, rfl, mx2, by omega⟩
      · exact ⟨o3, rfl, mo3, lo3⟩
      · exact ⟨o4, rfl, mo4, lo4⟩
    -- the pairs
    refine ⟨_, rfl, _, rfl, (by show 2 ≤ sizeLine; decide), fun q1 hq1 => ?_⟩
    refine ⟨_, rfl, _, rfl, (by show 2 ≤ sizeLine; decide), fun q2 hq2 => ?_⟩
    refine ⟨_, rfl, _, rfl, (by show 2 ≤ sizeLine; decide), fun q3 hq3 => ?_⟩
    refine ⟨_, rfl, (by show 2 ≤ sizeLine; decide), fun q4 hq4 => ?_⟩
    refine ⟨(by show 4 ≤ sizeLine; decide), fun q5 hq5 => ?_⟩
    have t1 := Same.new (o := .tup [.str (S o), .str (S t)]) (Same.refl _) hq2
    have t2 := Same.new (o := .tup [.str (S t), .str (S t)]) (Same.refl _) hq3
    have t3 := Same.new (o := .tup [.str (Str.ofString ""), .str (S o)]) (Same.refl _) hq4
    have t4 := Same.new (o := .tup [.ref q1, .ref q2, .ref q3, .ref q4]) (Same.refl _) hq5
    refine ⟨q5, rfl, ⟨_, SqT.of upd_same⟩, ?_⟩
    refine for_it (src_tup K q5 [.ref q1, .ref q2, .ref q3, .ref q4]).w (fun j σ H' => ∃ v6 v7, σ = [some (.ref s0), some (.ref a), some (.int (0 + (i : Int))), some (.str (S L)), some (.str (S t)), some (.str (S o)), v6, v7] ∧ Deal H' a c ∧ H' q1 = some (.tup [.str (S t), .str (S o)]) ∧ H' q2 = some (.tup [.str (S o), .str (S t)]) ∧ H' q3 = some (.tup [.str (S t), .str (S t)]) ∧ H' q4 = some (.tup [.str (S []), .str (S o)]) ∧ H' q5 = some (.tup [.ref q1, .ref q2, .ref q3, .ref q4]))
      ⟨_, _, rfl, ((((d16.new hq1).new hq2).new hq3).new hq4).new hq5, t4 _ _ (t3 _ _ (t2 _ _ (t1 _ _ upd_same))), t4 _ _ (t3 _ _ (t2 _ _ upd_same)), t4 _ _ (t3 _ _ upd_same), t4 _ _ upd_same, upd_same⟩ (fun _ _ _ _ ⟨_, _, _, _, _, _, _, _, e⟩ => SqT.of e) ?_ ?_
    · rintro j x σ H17 H18 hj ⟨v6, v7, rfl, d17, k1, k2, k3, k4, k5⟩ ⟨rfl, hx⟩
      obtain ⟨pp, lo', hi', rfl, kp, ml, mh, ll, lh⟩ : ∃ (pp : Addr) (lo' hi' : List Nat), x = .ref pp ∧ H18 pp = some (.tup [.str (S lo'), .str (S hi')]) ∧ (∀ x ∈ lo', x ∈ L) ∧ (∀ x ∈ hi', x ∈ L) ∧ lo'.length ≤ 40 ∧ hi'.length ≤ 40 := by
        have hx := List.mem_of_getElem? hx
        simp only [List.mem_cons, List.not_mem_nil, or_false] at hx
        rcases hx with rfl | rfl | rfl | rfl
        · exact ⟨q1, t, o, rfl, k1, htL, mo, by omega, lo⟩
        · exact ⟨q2, o, t, rfl, k2, mo, htL, lo, by omega⟩
        · exact ⟨q3, t, t, rfl, k3, htL, htL, by omega, by omega⟩
        · exact ⟨q4, [], o, rfl, k4, fun _ h => (nomatch h), mo, by simp, lo⟩
      refine ⟨pp, _, rfl, SqT.of kp, rfl, _, _, rfl, _, _, rfl, rfl, ?_⟩
      have rok : reprOk (roomV f lo' hi') := by
        unfold roomV
        split
        · split
          · refine lgI (by omega) ?_
            rw [List.length_drop]
            omega
          · trivial
        · exact lgI (by decide) (by decide)
      refine ⟨_, rfl, _, rfl, _, rfl, L, lo', .str (S hi'), f, rfl, hn5, ⟨_, eL2⟩, by omega, .inr ⟨hi', rfl, by omega, ?_⟩⟩
      refine ⟨_, rfl, rok, _, rfl, _, rfl, _, rfl, L, lo', hi', f, rfl, hn5, ⟨_, eL2⟩, fun x hx => hfL x (mh x hx), by omega, by omega, ?_⟩
      refine ⟨_, rfl, rok, rfl, false, by simp, iteF ?_⟩
      exact ⟨_, _, rfl, d17, k1, k2, k3, k4, k5⟩
    · rintro σ H17 ⟨v6, v7, rfl, d17, _⟩
      refine ⟨_, rfl, _, rfl, L, t, .non, f, rfl, hn5, ⟨_, eL2⟩, by omega, .inl ⟨rfl, ?_⟩⟩
      refine ⟨rfl, false, rfl, iteF ?_⟩
      exact ⟨_, _, _, _, _, _, rfl, d17⟩
end
end K02
namespace K02
open PySem PySem.Spec PyProof.Rows L2 U
theorem all_mk {l : PySem.W.OpenLaw} {w : World} {K : PySem.W.Frag} {h : Heap} {mg : Str → Option Value} {fa f0 f1 f2 f3 f4 f5 f6 f7 f8 f9 f10 : Addr} (X : K.In h) (G : h.Ns mainGlobals mg) (hfa : mg "law" = some (.ref fa))
    {od0 an0 od1 an1 od2 an2 od3 an3 od4 an4 od5 an5 od6 an6 od7 an7 od8 an8 od9 an9 od10 an10 : Option Addr} {sl0 sl1 sl2 sl3 sl4 sl5 sl6 sl7 sl8 sl9 sl10 : Array (Option Value)} {oc0 kV0 dc0 pm0 cd0 ct0 oc1 kV1 dc1 pm1 cd1 ct1 oc2 kV2 dc2 pm2 cd2 ct2 oc3 kV3 dc3 pm3 cd3 ct3 oc4 kV4 dc4 pm4 cd4 ct4 oc5 kV5 dc5 pm5 cd5 ct5 oc6 kV6 dc6 pm6 cd6 ct6 oc7 kV7 dc7 pm7 cd7 ct7 oc8 kV8 dc8 pm8 cd8 ct8 oc9 kV9 dc9 pm9 cd9 ct9 oc10 kV10 dc10 pm10 cd10 ct10 : Value}
    (a0 : PySem.W.nsIn K mainGlobals "raised" = some (some (.ref f0)))
    (l0 : K.lookup f0 = some ⟨oc0, od0, .func (PySem.W.fnOf "raised" "raised" (defArgs s_raised) (defBody s_raised) (defScope s_raised) .none kV0 dc0 pm0 an0 cd0 ct0), sl0⟩)
    (c0 : PySem.W.codeIn K cd0 "raised" = true) (k0 : PySem.W.keepIn K (.ref f0) = true)
    (a1 : PySem.W.nsIn K mainGlobals "room" = some (some (.ref f1)))
    (l1 : K.lookup f1 = some ⟨oc1, od1, .func (PySem.W.fnOf "room" "room" (defArgs s_room) (defBody s_room) (defScope s_room) .none kV1 dc1 pm1 an1 cd1 ct1), sl1⟩)
    (c1 : PySem.W.codeIn K cd1 "room" = true) (k1 : PySem.W.keepIn K (.ref f1) = true)
    (a2 : PySem.W.nsIn K mainGlobals "_law_deal" = some (some (.ref f2)))
    (l2 : K.lookup f2 = some ⟨oc2, od2, .func (PySem.W.fnOf "_law_deal" "_law_deal" (defArgs s_l_deal) (defBody s_l_deal) (defScope s_l_deal) .none kV2 dc2 pm2 an2 cd2 ct2), sl2⟩)
    (c2 : PySem.W.codeIn K cd2 "_law_deal" = true) (k2 : PySem.W.keepIn K (.ref f2) = true)
    (a3 : PySem.W.nsIn K mainGlobals "_law_draw" = some (some (.ref f3)))
    (l3 : K.lookup f3 = some ⟨oc3, od3, .func (PySem.W.fnOf "_law_draw" "_law_draw" (defArgs s_l_draw) (defBody s_l_draw) (defScope s_l_draw) .none kV3 dc3 pm3 an3 cd3 ct3), sl3⟩)
    (c3 : PySem.W.codeIn K cd3 "_law_draw" = true) (k3 : PySem.W.keepIn K (.ref f3) = true)
    (a4 : PySem.W.nsIn K mainGlobals "_law_pick" = some (some (.ref f4)))
    (l4 : K.lookup f4 = some ⟨oc4, od4, .func (PySem.W.fnOf "_law_pick" "_law_pick" (defArgs s_l_pick) (defBody s_l_pick) (defScope s_l_pick) .none kV4 dc4 pm4 an4 cd4 ct4), sl4⟩)
    (c4 : PySem.W.codeIn K cd4 "_law_pick" = true) (k4 : PySem.W.keepIn K (.ref f4) = true)
    (a5 : PySem.W.nsIn K mainGlobals "_law_letters" = some (some (.ref f5)))
    (l5 : K.lookup f5 = some ⟨oc5, od5, .func (PySem.W.fnOf "_law_letters" "_law_letters" (defArgs s_l_letters) (defBody s_l_letters) (defScope s_l_letters) .none kV5 dc5 pm5 an5 cd5 ct5), sl5⟩)
    (c5 : PySem.W.codeIn K cd5 "_law_letters" = true) (k5 : PySem.W.keepIn K (.ref f5) = true)
    (a6 : PySem.W.nsIn K mainGlobals "_law_word" = some (some (.ref f6)))
    (l6 : K.lookup f6 = some ⟨oc6, od6, .func (PySem.W.fnOf "_law_word" "_law_word" (defArgs s_l_word) (defBody s_l_word) (defScope s_l_word) .none kV6 dc6 pm6 an6 cd6 ct6), sl6⟩)
    (c6 : PySem.W.codeIn K cd6 "_law_word" = true) (k6 : PySem.W.keepIn K (.ref f6) = true)
    (a7 : PySem.W.nsIn K mainGlobals "_law_tail" = some (some (.ref f7)))
    (l7 : K.lookup f7 = some ⟨oc7, od7, .func (PySem.W.fnOf "_law_tail" "_law_tail" (defArgs s_l_tail) (defBody s_l_tail) (defScope s_l_tail) .none kV7 dc7 pm7 an7 cd7 ct7), sl7⟩)
    (c7 : PySem.W.codeIn K cd7 "_law_tail" = true) (k7 : PySem.W.keepIn K (.ref f7) = true)
    (a8 : PySem.W.nsIn K mainGlobals "_law_raised_right" = some (some (.ref f8)))
    (l8 : K.lookup f8 = some ⟨oc8, od8, .func (PySem.W.fnOf "_law_raised_right" "_law_raised_right" (defArgs s_l_raised_right) (defBody s_l_raised_right) (defScope s_l_raised_right) .none kV8 dc8 pm8 an8 cd8 ct8), sl8⟩)
    (c8 : PySem.W.codeIn K cd8 "_law_raised_right" = true) (k8 : PySem.W.keepIn K (.ref f8) = true)
    (a9 : PySem.W.nsIn K mainGlobals "_law_walked" = some (some (.ref f9)))
    (l9 : K.lookup f9 = some ⟨oc9, od9, .func (PySem.W.fnOf "_law_walked" "_law_walked" (defArgs s_l_walked) (defBody s_l_walked) (defScope s_l_walked) .none kV9 dc9 pm9 an9 cd9 ct9), sl9⟩)
    (c9 : PySem.W.codeIn K cd9 "_law_walked" = true) (k9 : PySem.W.keepIn K (.ref f9) = true)
    (a10 : PySem.W.nsIn K mainGlobals "law" = some (some (.ref f10)))
    (l10 : K.lookup f10 = some ⟨oc10, od10, .func (PySem.W.fnOf "law" "law" (defArgs s_law) (defBody s_law) (defScope s_law) .none kV10 dc10 pm10 an10 cd10 ct10), sl10⟩)
    (c10 : PySem.W.codeIn K cd10 "law" = true) (k10 : PySem.W.keepIn K (.ref f10) = true)
    (z0 : PySem.W.nsIn K mainGlobals "int" = some none)
    (z1 : PySem.W.nsIn K mainGlobals "len" = some none)
    (z2 : PySem.W.nsIn K mainGlobals "list" = some none)
    (z3 : PySem.W.nsIn K mainGlobals "range" = some none)
    (z4 : PySem.W.nsIn K mainGlobals "repr" = some none)
    (z5 : PySem.W.nsIn K mainGlobals "sorted" = some none)
    (z6 : PySem.W.nsIn K mainGlobals "str" = some none)
    : ∃ fd : FuncData, (∀ (s : Shared) (v : Value), BindsTo s fd ⟨[v], []⟩ [("_law_script", v)]) ∧ ∀ base : Heap, K.In base → base.Ns mainGlobals mg → FnOk l.prog w K mg base CX0 5 fa fd ["_law_script"] (spLaw K) := by
  have e := hfa.symm.trans (PySem.W.mg_of X G a10)
  cases e
  have F0 := fun_mk (st := s_raised) l0 c0 k0
  have F1 := fun_mk (st := s_room) l1 c1 k1
  have F2 := fun_mk (st := s_l_deal) l2 c2 k2
  have F3 := fun_mk (st := s_l_draw) l3 c3 k3
  have F4 := fun_mk (st := s_l_pick) l4 c4 k4
  have F5 := fun_mk (st := s_l_letters) l5 c5 k5
  have F6 := fun_mk (st := s_l_word) l6 c6 k6
  have F7 := fun_mk (st := s_l_tail) l7 c7 k7
  have F8 := fun_mk (st := s_l_raised_right) l8 c8 k8
  have F9 := fun_mk (st := s_l_walked) l9 c9 k9
  have F10 := fun_mk (st := s_law) l10 c10 k10
  have b0 := F0.binds (ps := ["letters", "text"]) fun _ _ _ _ _ _ us hl => match us, hl with | [_, _], _ => rfl
  have b1 := F1.binds (ps := ["letters", "low", "high"]) fun _ _ _ _ _ _ us hl => match us, hl with | [_, _, _], _ => rfl
  have b2 := F2.binds (ps := ["_law_script", "_law_base"]) fun _ _ _ _ _ _ us hl => match us, hl with | [_, _], _ => rfl
  have b3 := F3.binds (ps := ["_law_deal_here", "_law_many"]) fun _ _ _ _ _ _ us hl => match us, hl with | [_, _], _ => rfl
  have b4 := F4.binds (ps := ["_law_deal_here", "_law_some"]) fun _ _ _ _ _ _ us hl => match us, hl with | [_, _], _ => rfl
  have b5 := F5.binds (ps := ["_law_deal_here", "_law_many"]) fun _ _ _ _ _ _ us hl => match us, hl with | [_, _], _ => rfl
  have b6 := F6.binds (ps := ["_law_deal_here", "_law_letters_here", "_law_most"]) fun _ _ _ _ _ _ us hl => match us, hl with | [_, _, _], _ => rfl
  have b7 := F7.binds (ps := ["_law_deal_here", "_law_letters_here"]) fun _ _ _ _ _ _ us hl => match us, hl with | [_, _], _ => rfl
  have b8 := F8.binds (ps := ["_law_deal_here", "_law_letters_here", "_law_text"]) fun _ _ _ _ _ _ us hl => match us, hl with | [_, _, _], _ => rfl
  have b9 := F9.binds (ps := ["_law_letters_here", "_law_low", "_law_high"]) fun _ _ _ _ _ _ us hl => match us, hl with | [_, _, _], _ => rfl
  have b10 := F10.binds (ps := ["_law_script"]) fun _ _ _ _ _ _ us hl => match us, hl with | [_], _ => rfl
  have T : Top K mg := ⟨f0, _, F0, PySem.W.mg_of X G a0, b0, f1, _, F1, PySem.W.mg_of X G a1, b1, f2, _, F2, PySem.W.mg_of X G a2, b2, f3, _, F3, PySem.W.mg_of X G a3, b3, f4, _, F4, PySem.W.mg_of X G a4, b4, f5, _, F5, PySem.W.mg_of X G a5, b5, f6, _, F6, PySem.W.mg_of X G a6, b6, f7, _, F7, PySem.W.mg_of X G a7, b7, f8, _, F8, PySem.W.mg_of X G a8, b8, f9, _, F9, PySem.W.mg_of X G a9, b9, fa, _, F10, PySem.W.mg_of X G a10, b10, PySem.W.mg_none_of X G z0, PySem.W.mg_none_of X G z1, PySem.W.mg_none_of X G z2, PySem.W.mg_none_of X G z3, PySem.W.mg_none_of X G z4, PySem.W.mg_none_of X G z5, PySem.W.mg_none_of X G z6⟩
  exact ⟨PySem.W.fnOf "law" "law" (defArgs s_law) (defBody s_law) (defScope s_law) .none kV10 dc10 pm10 an10 cd10 ct10, fun s v => .of_eq rfl, fun base _ _ => ok_law ⟨f0, _, F0, PySem.W.mg_of X G a0, b0, f1, _, F1, PySem.W.mg_of X G a1, b1, f2, _, F2, PySem.W.mg_of X G a2, b2, f3, _, F3, PySem.W.mg_of X G a3, b3, f4, _, F4, PySem.W.mg_of X G a4, b4, f5, _, F5, PySem.W.mg_of X G a5, b5, f6, _, F6, PySem.W.mg_of X G a6, b6, f7, _, F7, PySem.W.mg_of X G a7, b7, f8, _, F8, PySem.W.mg_of X G a8, b8, f9, _, F9, PySem.W.mg_of X G a9, b9, fa, _, F10, PySem.W.mg_of X G a10, b10, PySem.W.mg_none_of X G z0, PySem.W.mg_none_of X G z1, PySem.W.mg_none_of X G z2, PySem.W.mg_none_of X G z3, PySem.W.mg_none_of X G z4, PySem.W.mg_none_of X G z5, PySem.W.mg_none_of X G z6⟩⟩
end K02
open PySem PySem.W PyProof.Rows
set_option maxHeartbeats 0 in
theorem PySem.Challenge.cw_undername_k02_whole_raised_texts_and_roo_holds : PySem.Challenge.rw_undername_k02_whole_raised_texts_and_roo.Holds := by
  w_on; o_law; k_head; (case hw => w_witness2)
  k_fill
  refine L2.walk_of (l := PySem.Challenge.rw_undername_k02_whole_raised_texts_and_roo) (n := 63) (k := 5) (x := "_law_script") (CX := fun _ => L2.CX0) (sp := fun w => K02.spLaw _) rfl (by decide) rfl ⟨rfl, by decide, by decide⟩ (fun w h Y => PySem.W.kIn_of Y) ?F (fun _ _ a ns hl _ hS => ⟨a, ns, rfl, hS, hl, fun _ => rfl⟩) (fun _ _ _ _ _ h => h)
  case F =>
    intro w mg fa h KX G hmg
    refine' K02.all_mk KX G hmg ?a0 ?l0 ?c0 ?k0 ?a1 ?l1 ?c1 ?k1 ?a2 ?l2 ?c2 ?k2 ?a3 ?l3 ?c3 ?k3 ?a4 ?l4 ?c4 ?k4 ?a5 ?l5 ?c5 ?k5 ?a6 ?l6 ?c6 ?k6 ?a7 ?l7 ?c7 ?k7 ?a8 ?l8 ?c8 ?k8 ?a9 ?l9 ?c9 ?k9 ?a10 ?l10 ?c10 ?k10 ?z0 ?z1 ?z2 ?z3 ?z4 ?z5 ?z6
    (case a0 => k_is)
    (case l0 => k_is)
    (case c0 => k_is)
    (case k0 => k_is)
    (case a1 => k_is)
    (case l1 => k_is)
    (case c1 => k_is)
    (case k1 => k_is)
    (case a2 => k_is)
    (case l2 => k_is)
    (case c2 => k_is)
    (case k2 => k_is)
    (case a3 => k_is)
    (case l3 => k_is)
    (case c3 => k_is)
    (case k3 => k_is)
    (case a4 => k_is)
    (case l4 => k_is)
    (case c4 => k_is)
    (case k4 => k_is)
    (case a5 => k_is)
    (case l5 => k_is)
    (case c5 => k_is)
    (case k5 => k_is)
    (case a6 => k_is)
    (case l6 => k_is)
    (case c6 => k_is)
    (case k6 => k_is)
    (case a7 => k_is)
    (case l7 => k_is)
    (case c7 => k_is)
    (case k7 => k_is)
    (case a8 => k_is)
    (case l8 => k_is)
    (case c8 => k_is)
    (case k8 => k_is)
    (case a9 => k_is)
    (case l9 => k_is)
    (case c9 => k_is)
    (case k9 => k_is)
    (case a10 => k_is)
    (case l10 => k_is)
    (case c10 => k_is)
    (case k10 => k_is)
    (case z0 => k_is)
    (case z1 => k_is)
    (case z2 => k_is)
    (case z3 => k_is)
    (case z4 => k_is)
    (case z5 => k_is)
    (case z6 => k_is)
#print axioms PySem.Challenge.cw_undername_k02_whole_raised_texts_and_roo_holds
