import PyProof.Rows.All
import Wide.All
import OpenK.AllK
import Wide.FinOn
import HandS.ForMost
import HandS.Style
import HandS.Wide
import HandS.StrMore
import HandS.Replace
import HandS.IsInst
import HandS.RaiseMore
import HandS.Walk
import PySem.Challenge.RW_undername_k03_whole_names_by_number
set_option Elab.async false
set_option linter.all false
set_option maxRecDepth 100000
set_option maxHeartbeats 4000000
/-! U: own rules over the layer, and texts as lists of codes -/
namespace U
open PySem PySem.Spec PyProof.Rows L2
/-- a text from its codes -/
def S (l : List Nat) : Str := ⟨l.toArray⟩
theorem S_toList (l : List Nat) : (S l).cps.toList = l := by simp [S]
theorem S_cps (z : Str) : S z.cps.toList = z := by cases z; simp [S]
theorem S_len (l : List Nat) : (S l).length = l.length := by simp [S, Str.length]
theorem S_inj {a b : List Nat} : S a = S b ↔ a = b := by
  constructor
  · intro h
    have := congrArg (fun z => z.cps.toList) h
    simpa [S_toList] using this
  · rintro rfl; rfl
theorem S_app (a b : List Nat) : S a ++ S b = S (a ++ b) := by
  show Str.mk ((S a).cps ++ (S b).cps) = S (a ++ b)
  simp [S]
theorem str_of (z : Str) : ∃ l, z = S l := ⟨_, (S_cps z).symm⟩
/-- the signs of a text, each a text -/
def chars (l : List Nat) : List V := l.map fun c => V.str (S [c])
section
variable {X : Cx}
theorem items_chars : ∀ {l : List Nat} {acc : List Value}, acc.length = l.length → (∀ (j : Nat) (v : Value), acc[j]? = some v → ∃ (c : Nat) (t : Tok), l[j]? = some c ∧ v = Value.str (S [c]) t) → Vals (chars l) acc
  | [], [], _, _ => .nil
  | [], _ :: _, h, _ => by simp at h
  | _ :: _, [], h, _ => by simp at h
  | c :: l, v :: acc, h, k => by
    refine .cons ?_ (items_chars (by simpa using h) fun j v e => by simpa using k (j + 1) v (by simpa using e))
    obtain ⟨c', t, e, rfl⟩ := k 0 v rfl
    simp at e
    subst e
    exact ⟨t, rfl⟩
theorem call_listS (hc : X.calm = true) : CallR X (.type "list") (fun xs H Q => ∃ l : List Nat, xs = [.str (S l)] ∧ l.length ≤ sizeLine ∧ ∀ p, H p = none → Q (.ref p) (upd H p (.lst (chars l)))) := by
  intro pins s σ H xs us Q I r h
  obtain ⟨l, rfl, hz, q⟩ := h
  obtain ⟨u, rfl, t, rfl⟩ := vals1 r
  refine PySem.call_list_str (I.ok.hd hc) (S l) t (fun h' tk acc c' kp e hi => ?_) (by simpa [S] using hz)
  have hv : Vals (chars l) acc.toList := by
    refine items_chars (by simpa [S] using hi.1) fun j v e => ?_
    have := hi.2 j v (by simpa using e)
    obtain ⟨c, t, h1, h2⟩ := this
    exact ⟨c, t, by simpa [S] using h1, by simpa [S] using h2⟩
  refine ⟨.ref s.heap.objs.size, _, I.laid (t' := tk) kp (Nat.le_refl _) (show ObjOk X.prog X.w _ h' _ (.lst (chars l)) from ⟨by simpa [chars] using hz, acc.toList, c', hv, by simpa using e⟩), rfl, q _ (I.hok.fresh (Nat.le_refl _))⟩
/-- n times the list -/
def rep (l : List Nat) (n : Nat) : List Nat := (List.replicate n l).flatten
theorem rep_len (l : List Nat) (n : Nat) : (rep l n).length = n * l.length := by
  simp [rep, List.length_flatten]
theorem foldl_app (ls : List (Array Nat)) : ∀ acc : Array Nat, (ls.foldl (· ++ ·) acc).toList = acc.toList ++ (ls.map Array.toList).flatten := by
  induction ls with
  | nil => intro acc; simp
  | cons a ls ih => intro acc; simp [ih]
theorem mul_eq (l : List Nat) (n : Nat) : Txt.mul (S l) (n : Int) = S (rep l n) := by
  unfold Txt.mul
  by_cases h1 : (n : Int) < 1
  · have : n = 0 := by omega
    subst this
    simp [rep, S]
    rfl
  · rw [if_neg h1]
    split
    · rename_i h
      rcases Bool.or_eq_true_iff.mp h with h | h
      · have : n = 1 := by
          have := of_decide_eq_true h
          omega
        subst this
        simp [rep]
      · have : l = [] := by
          have := of_decide_eq_true h
          rw [S_len] at this
          exact List.length_eq_zero_iff.mp this
        subst this
        simp [rep, S]
    · show Str.mk _ = S _
      have := foldl_app (List.replicate (n : Int).toNat (S l).cps) #[]
      simp only [List.map_replicate, S_toList] at this
      rw [← S_cps (Str.mk _)]
      rw [this]
      simp [rep]
theorem op_mul_str : OpR X (binaryOp .Mult) (fun x y H Q => ∃ (l : List Nat) (n : Nat), x = .str (S l) ∧ y = .int (n : Int) ∧ l.length * n ≤ 1000000 ∧ n ≤ 1000000 ∧ Q (.str (S (rep l n))) H) := by
  intro pins s σ H x y u v Q I rx ry h
  obtain ⟨l, n, rfl, rfl, hb, hn, q⟩ := h
  obtain ⟨t, rfl⟩ := rx
  obtain ⟨t', rfl⟩ := ry
  refine PySem.SB.mul ⟨?_, ?_, ?_⟩ fun tk k => ⟨.str (S (rep l n)), H, I.tok _, ⟨tk, by rw [mul_eq]⟩, q⟩
  · rw [decide_eq_false (by omega), decide_eq_false (by omega)]; rfl
  · intro h1 _ h2
    rw [S_len] at h2
    have h3 : (1 : Int) ≤ n := by omega
    have h4 : (2 ^ 63 - 1 : Int) / n * n ≤ 2 ^ 63 - 1 := Int.ediv_mul_le _ (by omega)
    have h6 : (l.length : Int) * n ≤ 1000000 := by rw [← Int.natCast_mul]; omega
    have h7 : ((2 ^ 63 - 1 : Int) / n + 1) * n ≤ l.length * n := Int.mul_le_mul_of_nonneg_right (by omega) (by omega)
    have h8 : (2 ^ 63 - 1 : Int) < ((2 ^ 63 - 1 : Int) / n + 1) * n := Int.lt_ediv_add_one_mul_self _ (by omega)
    omega
  · intro _ _
    rw [S_len]
    have : l.length * (n : Int).toNat ≤ 1000000 := by simpa using hb
    have h2 := sizeLine_eq
    show decide (_ > sizeLine) = false
    exact decide_eq_false (by omega)
end
end U
namespace U
open PySem PySem.Spec PyProof.Rows L2
/-- the deal: its great cells at c, the mixed number -/
structure DealIs (H : Hp) (a c : Addr) (ns : List Int) (m : Int) : Prop where
  hd : H a = some (.lst [.ref c, .int m])
  cs : H c = some (.lst (ns.map V.int))
  pos : ∀ n ∈ ns, 0 ≤ n
  few : ns.length ≤ 63
  m0 : 0 ≤ m
  m1 : m < 2147483647
def Deal (H : Hp) (a c : Addr) : Prop := ∃ (ns : List Int) (m : Int), DealIs H a c ns m
/-- all but the deal is kept -/
def Kp (a c : Addr) (H H' : Hp) : Prop := ∀ b o, b ≠ a → b ≠ c → H b = some o → H' b = some o
theorem Kp.refl (a c : Addr) (H : Hp) : Kp a c H H := fun _ _ _ _ h => h
theorem Kp.trans {a c : Addr} {H H1 H2 : Hp} (x : Kp a c H H1) (y : Kp a c H1 H2) : Kp a c H H2 := fun b o h1 h2 h => y b o h1 h2 (x b o h1 h2 h)
theorem Kp.updA {a c : Addr} {H H1 : Hp} {o : HO} (x : Kp a c H H1) : Kp a c H (upd H1 a o) := fun b u h1 h2 h => by rw [upd_ne h1]; exact x b u h1 h2 h
theorem Kp.updC {a c : Addr} {H H1 : Hp} {o : HO} (x : Kp a c H H1) : Kp a c H (upd H1 c o) := fun b u h1 h2 h => by rw [upd_ne h2]; exact x b u h1 h2 h
theorem Kp.new {a c p : Addr} {H H1 : Hp} {o : HO} (x : Kp a c H H1) (hp : H p = none) : Kp a c H (upd H1 p o) := fun b u h1 h2 h => by rw [upd_ne (ne_of_none h hp)]; exact x b u h1 h2 h
theorem Kp.new' {a c p : Addr} {H H1 : Hp} {o : HO} (x : Kp a c H H1) (hp : H1 p = none) : Kp a c H (upd H1 p o) := fun b u h1 h2 h => by
  have := x b u h1 h2 h
  rw [upd_ne (ne_of_none this hp)]; exact this
theorem DealIs.nac {a c : Addr} {H : Hp} {ns : List Int} {m : Int} (d : DealIs H a c ns m) : a ≠ c := ne_of d.hd d.cs (by
  intro h
  have h := HO.lst.inj h
  cases ns with
  | nil => cases h
  | cons n ns => cases h)
theorem DealIs.upd {a c p : Addr} {H : Hp} {o : HO} {ns : List Int} {m : Int} (d : DealIs H a c ns m) (h1 : p ≠ a) (h2 : p ≠ c) : DealIs (L2.upd H p o) a c ns m :=
  ⟨by rw [upd_ne h1.symm]; exact d.hd, by rw [upd_ne h2.symm]; exact d.cs, d.pos, d.few, d.m0, d.m1⟩
theorem DealIs.ne {a c p : Addr} {H : Hp} {ns : List Int} {m : Int} (d : DealIs H a c ns m) (hp : H p = none) : p ≠ a ∧ p ≠ c := ⟨(ne_of_none d.hd hp).symm, (ne_of_none d.cs hp).symm⟩
theorem DealIs.new {a c p : Addr} {H : Hp} {o : HO} {ns : List Int} {m : Int} (d : DealIs H a c ns m) (hp : H p = none) : DealIs (L2.upd H p o) a c ns m := d.upd (d.ne hp).1 (d.ne hp).2
theorem DealIs.setC {a c : Addr} {H : Hp} {ns ns' : List Int} {m : Int} (d : DealIs H a c ns m) (h1 : ∀ n ∈ ns', 0 ≤ n) (h2 : ns'.length ≤ 63) : DealIs (L2.upd H c (.lst (ns'.map V.int))) a c ns' m :=
  ⟨by rw [upd_ne d.nac]; exact d.hd, upd_same, h1, h2, d.m0, d.m1⟩
theorem DealIs.setM {a c : Addr} {H : Hp} {ns : List Int} {m m' : Int} (d : DealIs H a c ns m) (h1 : 0 ≤ m') (h2 : m' < 2147483647) : DealIs (L2.upd H a (.lst [.ref c, .int m'])) a c ns m' :=
  ⟨upd_same, by rw [upd_ne d.nac.symm]; exact d.cs, d.pos, d.few, h1, h2⟩
theorem Deal.new {a c p : Addr} {H : Hp} {o : HO} (d : Deal H a c) (hp : H p = none) : Deal (L2.upd H p o) a c := by
  obtain ⟨ns, m, d⟩ := d
  exact ⟨ns, m, d.new hp⟩
theorem Deal.upd {a c p : Addr} {H : Hp} {o : HO} (d : Deal H a c) (h1 : p ≠ a) (h2 : p ≠ c) : Deal (L2.upd H p o) a c := by
  obtain ⟨ns, m, d⟩ := d
  exact ⟨ns, m, d.upd h1 h2⟩
theorem Deal.ne {a c p : Addr} {H : Hp} (d : Deal H a c) (hp : H p = none) : p ≠ a ∧ p ≠ c := by
  obtain ⟨ns, m, d⟩ := d
  exact d.ne hp
/-- a draw: any number from 0 on, less than many -/
def spDraw : Sp := fun vs H Q _ => ∃ (a c : Addr) (many : Int), vs = [.ref a, .int many] ∧ Deal H a c ∧ 1 ≤ many ∧ many < 2 ^ 200 ∧ ∀ (r : Int) H', 0 ≤ r → r < many → Deal H' a c → Kp a c H H' → Q (.int r) H'
theorem eqv_nil (ns : List Int) : PyData.eqv (.list (ns.map PyData.int)) (.list []) = decide (ns = []) := by
  cases ns <;> simp [PyData.eqv, PyData.eqvAll]
theorem dpInts {K : PySem.W.Frag} {H : Hp} : ∀ ns : List Int, DpAll K H (ns.map V.int) (ns.map PyData.int)
  | [] => .nil
  | n :: ns => .cons (.int n) (dpInts ns)
theorem layInts : ∀ ns : List Int, PyData.canLayAll0 (ns.map PyData.int) = true
  | [] => rfl
  | n :: ns => by simpa [PyData.canLayAll0, PyData.canLay0] using layInts ns
theorem depInts : ∀ ns : List Int, PyData.depthAll (ns.map PyData.int) = 0
  | [] => rfl
  | n :: ns => by simpa [PyData.depthAll, PyData.depth] using depInts ns
theorem shInts (ns : List Int) : SeqAt.shaped (.list (ns.map PyData.int)) = true := by
  simp [SeqAt.shaped, PyData.canLay0, PyData.depth, layInts, depInts]
theorem lt200 {x m : Int} (h0 : 1 ≤ m) (h : m < 2 ^ 200) : CDivW x m :=
  wide_div (b := 200) (by omega) (by omega) (by decide) (by decide)
section
variable {K : PySem.W.Frag} {σ : L2.St} {H : Hp} {a c : Addr} {ns : List Int} {m : Int}
theorem deal0 (d : DealIs H a c ns m) (h : σ[0]? = some (some (.ref a))) {Q : VK} (k : Q (.ref c) H) : tOp (rIxL K) (tVar 0) (tC (.int 0)) σ H Q :=
  ⟨_, h, a, _, 0, .ref c, rfl, rfl, SqL.of d.hd, rfl, k⟩
theorem deal1 (d : DealIs H a c ns m) (h : σ[0]? = some (some (.ref a))) {Q : VK} (k : Q (.int m) H) : tOp (rIxL K) (tVar 0) (tC (.int 1)) σ H Q :=
  ⟨_, h, a, _, 1, .int m, rfl, rfl, SqL.of d.hd, rfl, k⟩
theorem dealNe (d : DealIs H a c ns m) (h : σ[0]? = some (some (.ref a))) {Q : Bool → Hp → Prop} (k : ∀ p, H p = none → DealIs (upd H p (.lst [])) a c ns m → Q (!decide (ns = [])) (upd H p (.lst []))) :
    tTest (tOp (rNeD K) (tOp (rIxL K) (tVar 0) (tC (.int 0))) (tLst tNil)) σ H Q := by
  refine deal0 d h ?_
  refine ⟨Nat.zero_le _, fun p hp => ?_⟩
  have d' : DealIs (upd H p (.lst [])) a c ns m := d.new hp
  refine ⟨_, .list [], .lst (SqL.of d'.cs) (dpInts ns), .lst (SqL.of upd_same) .nil, shInts ns, rfl, _, rfl, ?_⟩
  rw [eqv_nil]
  exact k p hp d'
theorem rev_last {ns : List Int} (h : ns ≠ []) : ∃ l z, ns = l ++ [z] := ⟨ns.dropLast, ns.getLast h, (List.dropLast_concat_getLast h).symm⟩
end
end U
namespace U
open PySem PySem.Spec PyProof.Rows L2
theorem Same.new {H H1 : Hp} {p : Addr} {o : HO} (x : Same H H1) (hp : H1 p = none) : Same H (upd H1 p o) := fun b u h => by
  have := x b u h
  rw [upd_ne (ne_of_none this hp)]; exact this
theorem Same.mut {H H1 : Hp} {p : Addr} {o : HO} (x : Same H H1) (hp : H p = none) : Same H (upd H1 p o) := fun b u h => by
  rw [upd_ne (ne_of_none h hp)]; exact x b u h
theorem Same.rd {H H' : Hp} {a : Addr} {u : HO} (e : Same H H') (h : Rd H a u) : Rd H' a u := by
  rcases h with h | ⟨o, h⟩
  · exact .inl (e a _ h)
  · exact .inr ⟨o, e a _ h⟩
theorem Same.tup {K : PySem.W.Frag} {H H' : Hp} {a : Addr} {xs : List V} (e : Same H H') (h : SqT K H a xs) : SqT K H' a xs := by
  rcases h with h | h
  · exact .inl (Same.rd e h)
  · exact .inr h
theorem cut_map {α : Type} (f : α → V) (xs : List α) (lo hi : Option Int) : ∃ ys : List α, cutV (xs.map f) lo hi = ys.map f ∧ (∀ y ∈ ys, y ∈ xs) ∧ ys.length ≤ xs.length := by
  refine ⟨(xs.drop (HT.sIx xs.length 0 lo)).take (HT.sIx xs.length xs.length hi - HT.sIx xs.length 0 lo), ?_, fun y hy => List.mem_of_mem_drop (List.mem_of_mem_take hy), ?_⟩
  · unfold cutV
    rw [List.length_map, List.map_take, List.map_drop]
  · rw [List.length_take, List.length_drop]
    omega
/-- the deal of a script -/
def spDeal (K : PySem.W.Frag) : Sp := fun vs H Q _ => ∃ (a0 : Addr) (ns : List Int) (b : Int), vs = [.ref a0, .int b] ∧ SqL K H a0 (ns.map V.int) ∧ ns.length ≤ 63 ∧ 0 ≤ b ∧ b ≤ 63 ∧ ∀ a c H', Same H H' → H a = none → H c = none → Deal H' a c → Q (.ref a) H'
/-- something that is walked: its values, what must stand -/
structure Src (J : It) (xs : List V) (G : Hp → Prop) : Prop where
  w : Walk J xs.length G (YAt xs)
  mono : ∀ H H', Same H H' → G H → G H'
theorem src_list (K : PySem.W.Frag) (a : Addr) (xs : List V) : Src (Itl K a) xs (fun H => SqL K H a xs) := ⟨walk_list, fun _ _ e h => e.seq h⟩
theorem src_tup (K : PySem.W.Frag) (a : Addr) (xs : List V) : Src (Itt K a) xs (fun H => SqT K H a xs) := ⟨walk_tup, fun _ _ e h => Same.tup e h⟩
def rngV (lo : Int) (n : Nat) : List V := (List.range n).map fun (i : Nat) => V.int (lo + (i : Int))
theorem rngV_len (lo : Int) (n : Nat) : (rngV lo n).length = n := by simp [rngV]
theorem rngV_get {lo : Int} {n i : Nat} {x : V} : (rngV lo n)[i]? = some x ↔ i < n ∧ x = .int (lo + (i : Int)) := by
  simp only [rngV, List.getElem?_map, List.getElem?_range]
  constructor
  · intro h
    by_cases hi : i < n
    · rw [List.getElem?_range hi] at h
      exact ⟨hi, (Option.some.inj h).symm⟩
    · rw [List.getElem?_eq_none (by simpa using hi)] at h
      cases h
  · rintro ⟨hi, rfl⟩
    rw [List.getElem?_range hi]
    rfl
theorem src_range (lo : Int) (n : Nat) : Src (Itr lo n) (rngV lo n) (fun _ => True) := by
  refine ⟨⟨fun i H hi _ => ?_, fun H _ => ?_, fun i H x H' hi _ hy => ?_⟩, fun _ _ _ _ => trivial⟩
  · rw [rngV_len] at hi; exact hi
  · rw [rngV_len]; exact Nat.le_refl _
  · rw [rngV_len] at hi
    obtain ⟨e1, e2⟩ := hy
    exact ⟨e1, rngV_get.mpr ⟨hi, e2⟩⟩
theorem src_str (l : List Nat) : Src (Its (S l)) (chars l) (fun _ => True) := by
  have e : (S l).cps.size = l.length := S_len l
  have e2 : (chars l).length = l.length := by simp [chars]
  refine ⟨⟨fun i H hi _ => ?_, fun H _ => ?_, fun i H x H' hi _ hy => ?_⟩, fun _ _ _ _ => trivial⟩
  · rw [e2] at hi; show i < (S l).cps.size; omega
  · rw [e2]; show (S l).cps.size ≤ l.length; omega
  · obtain ⟨e1, c, e3, rfl⟩ := hy
    refine ⟨e1, ?_⟩
    have : l[i]? = some c := by simpa [S] using e3
    simp [chars, this, S]
section
variable {J : It} {xs : List V} {G : Hp → Prop} {σ : L2.St} {H H1 : Hp} {D : Addr} {Qd : Hp → Prop} {vs : List Nat} {tt : TT} {te : TE} {j : Nat}
/-- a comprehension whose tests and items leave what stood -/
theorem lcS (s : Src J xs G) (p : V → Bool) (f : V → V) (hG : G H1) (hD : H1 D = none) (hw : ∀ x, wipe ((wipe σ vs).set j (some x)) vs = wipe σ vs) (hl : xs.length ≤ 100000)
    (ht : ∀ x ∈ xs, ∀ H', Same H1 H' → ∀ Q : Bool → Hp → Prop, (∀ H'', Same H' H'' → Q (p x) H'') → tt ((wipe σ vs).set j (some x)) H' Q)
    (he : ∀ x ∈ xs, p x = true → ∀ H', Same H1 H' → ∀ Q : VK, (∀ H'', Same H' H'' → Q (f x) H'') → te ((wipe σ vs).set j (some x)) H' Q)
    (hd : ∀ H', Same H1 H' → H' D = some (.lst ((xs.filter p).map f)) → Qd H') :
    ∃ W : Nat → Nat → Hp → Prop, (∃ m, W 0 m (upd H1 D (.lst []))) ∧ ∀ i m H, W i m H →
      (J.stop i H ∧ Qd H) ∨ (J.go i H ∧ ∃ Nx : Hp → Prop, (∀ H', Nx H' → ∃ m', m' < m ∧ W (i + 1) m' H') ∧ ∀ x H', J.yld i H x H' → gName j x (wipe σ vs) H' fun σ2 H2 => wipe σ2 vs = wipe σ vs ∧ tt σ2 H2 fun b H3 =>
        if b = true then te σ2 H3 fun y H4 => ∃ acc, H4 D = some (.lst acc) ∧ acc.length < sizeLine ∧ Nx (upd H4 D (.lst (acc ++ [y]))) else Nx H3) := by
  refine lc_it s.w (fun i H' => Same H1 H' ∧ H' D = some (.lst (((xs.take i).filter p).map f))) ⟨Same.new (Same.refl _) hD, by rw [upd_same]; rfl⟩ (fun i H' _ h => s.mono _ _ h.1 hG) ?_ (fun H' h => hd H' h.1 (by have := h.2; rw [List.take_length] at this; exact this))
  rintro i x H2 H3 hi ⟨s1, e1⟩ ⟨rfl, hx⟩
  have hm : x ∈ xs := List.mem_of_getElem? hx
  have et : xs.take (i + 1) = xs.take i ++ [x] := by rw [List.take_add_one, hx]; rfl
  refine ⟨hw x, ht x hm _ s1 _ fun H4 s4 => ?_⟩
  cases hp : p x with
  | false =>
    refine iteF ⟨s1.trans s4, ?_⟩
    rw [et, List.filter_append, List.filter_cons_of_neg (by simp [hp]), List.filter_nil, List.append_nil]
    exact s4 _ _ e1
  | true =>
    refine iteT (he x hm hp _ (s1.trans s4) _ fun H5 s5 => ⟨_, s5 _ _ (s4 _ _ e1), ?_, Same.mut ((s1.trans s4).trans s5) hD, ?_⟩)
    · have h1 : (((xs.take i).filter p).map f).length ≤ xs.length := by
        rw [List.length_map]
        refine Nat.le_trans (List.length_filter_le _ _) ?_
        rw [List.length_take]
        omega
      have := sizeLine_eq
      omega
    · rw [upd_same, et, List.filter_append, List.filter_cons_of_pos (by simp [hp]), List.filter_nil, List.map_append]
      rfl
/-- the same without a test -/
theorem lcM (s : Src J xs G) (f : V → V) (hG : G H1) (hD : H1 D = none) (hw : ∀ x, wipe ((wipe σ vs).set j (some x)) vs = wipe σ vs) (hl : xs.length ≤ 100000)
    (he : ∀ x ∈ xs, ∀ H', Same H1 H' → ∀ Q : VK, (∀ H'', Same H' H'' → Q (f x) H'') → te ((wipe σ vs).set j (some x)) H' Q)
    (hd : ∀ H', Same H1 H' → H' D = some (.lst (xs.map f)) → Qd H') :
    ∃ W : Nat → Nat → Hp → Prop, (∃ m, W 0 m (upd H1 D (.lst []))) ∧ ∀ i m H, W i m H →
      (J.stop i H ∧ Qd H) ∨ (J.go i H ∧ ∃ Nx : Hp → Prop, (∀ H', Nx H' → ∃ m', m' < m ∧ W (i + 1) m' H') ∧ ∀ x H', J.yld i H x H' → gName j x (wipe σ vs) H' fun σ2 H2 => wipe σ2 vs = wipe σ vs ∧ tYes σ2 H2 fun b H3 =>
        if b = true then te σ2 H3 fun y H4 => ∃ acc, H4 D = some (.lst acc) ∧ acc.length < sizeLine ∧ Nx (upd H4 D (.lst (acc ++ [y]))) else Nx H3) :=
  lcS s (fun _ => true) f hG hD hw hl (fun x _ H' _ Q k => k H' (Same.refl _)) (fun x hx _ => he x hx) (fun H' s1 e => hd H' s1 (by rw [e, List.filter_eq_self.mpr (fun _ _ => rfl)]))
end
end U
namespace U
open PySem PySem.Spec PyProof.Rows L2
theorem Kp.rd {a c p : Addr} {H H' : Hp} {u : HO} (e : Kp a c H H') (h1 : p ≠ a) (h2 : p ≠ c) (h : Rd H p u) : Rd H' p u := by
  rcases h with h | ⟨o, h⟩
  · exact .inl (e p _ h1 h2 h)
  · exact .inr ⟨o, e p _ h1 h2 h⟩
theorem Kp.sqL {K : PySem.W.Frag} {a c p : Addr} {H H' : Hp} {xs : List V} (e : Kp a c H H') (h1 : p ≠ a) (h2 : p ≠ c) (h : SqL K H p xs) : SqL K H' p xs := by
  rcases h with h | h
  · exact .inl (e.rd h1 h2 h)
  · exact .inr h
theorem Kp.sqT {K : PySem.W.Frag} {a c p : Addr} {H H' : Hp} {xs : List V} (e : Kp a c H H') (h1 : p ≠ a) (h2 : p ≠ c) (h : SqT K H p xs) : SqT K H' p xs := by
  rcases h with h | h
  · exact .inl (e.rd h1 h2 h)
  · exact .inr h
theorem Same.kp {a c : Addr} {H H' : Hp} (e : Same H H') : Kp a c H H' := fun b o _ _ h => e b o h
theorem Deal.free {a c p : Addr} {H H' : Hp} (d : Deal H a c) (e : Kp a c H H') (d' : Deal H' a c) (hp : H' p = none) : H p = none := by
  cases q : H p with
  | none => rfl
  | some o =>
    have n := d'.ne hp
    rw [e p o n.1 n.2 q] at hp
    cases hp
theorem atI_int {α : Type} {xs : List α} {i : Int} {v : α} (h0 : 0 ≤ i) (h : xs[i.toNat]? = some v) : atI xs i = some v := by
  obtain ⟨n, rfl⟩ := Int.eq_ofNat_of_zero_le h0
  exact atI_nat (by simpa using h)
/-- one sign of a text; one thing of a list -/
def spPickS : Sp := fun vs H Q _ => ∃ (a c : Addr) (l : List Nat), vs = [.ref a, .str (S l)] ∧ Deal H a c ∧ l ≠ [] ∧ l.length ≤ 1000 ∧ ∀ (x : Nat) H', x ∈ l → Deal H' a c → Kp a c H H' → Q (.str (S [x])) H'
def spPickL (K : PySem.W.Frag) : Sp := fun vs H Q _ => ∃ (a c p : Addr) (xs : List V), vs = [.ref a, .ref p] ∧ Deal H a c ∧ SqL K H p xs ∧ p ≠ a ∧ p ≠ c ∧ xs ≠ [] ∧ xs.length ≤ 1000 ∧ ∀ (v : V) H', v ∈ xs → Deal H' a c → Kp a c H H' → Q v H'
/-- letters: some signs, each once, ascending -/
def signs : List Nat := (Str.ofString "-./0123456789_abcdefghijklmnopqrstuvwxyz").cps.toList
theorem signs_eq : signs = [45, 46, 47, 48, 49, 50, 51, 52, 53, 54, 55, 56, 57, 95, 97, 98, 99, 100, 101, 102, 103, 104, 105, 106, 107, 108, 109, 110, 111, 112, 113, 114, 115, 116, 117, 118, 119, 120, 121, 122] := by decide +kernel
theorem signs_S : Str.ofString "-./0123456789_abcdefghijklmnopqrstuvwxyz" = S signs := (S_cps _).symm
structure Letters (l : List Nat) (n : Nat) : Prop where
  len : l.length = n
  asc : l.Pairwise (· < ·)
  sub : ∀ x ∈ l, x ∈ signs
theorem nat_of {z : Int} (h : 0 ≤ z) : ∃ n : Nat, z = (n : Int) := ⟨z.toNat, (Int.toNat_of_nonneg h).symm⟩
def spLetters : Sp := fun vs H Q _ => ∃ (a c : Addr) (z : Int), vs = [.ref a, .int z] ∧ Deal H a c ∧ 0 ≤ z ∧ z ≤ 10 ∧ ∀ l H', Letters l z.toNat → Deal H' a c → Kp a c H H' → Q (.str (S l)) H'
/-! ### joined signs, sorted signs -/
theorem join_nil : ∀ ls : List (List Nat), Txt.join (S []) (ls.map S) = S ls.flatten := by
  intro ls
  rw [show Txt.join (S []) (ls.map S) = Str.join (S []) (ls.map S) from PySem.StrLaws.glued_eq_join _ _]
  induction ls with
  | nil => rfl
  | cons x r ih =>
    cases r with
    | nil => simp [Str.join]
    | cons y r =>
      show S x ++ S [] ++ Str.join (S []) (S y :: r.map S) = _
      rw [show (S y :: r.map S) = (y :: r).map S from rfl, ih, S_app, S_app]
      simp
theorem joinOnes (l : List Nat) : Txt.join (S []) (l.map fun c => S [c]) = S l := by
  have h := join_nil (l.map fun c => [c])
  rw [List.map_map] at h
  have e : ∀ l : List Nat, (l.map fun c => [c]).flatten = l := fun l => by
    induction l with
    | nil => rfl
    | cons x r ih => rw [List.map_cons, List.flatten_cons, ih]; rfl
  rw [e] at h
  exact h
theorem len_ones (l : List Nat) : ((l.map fun c => S [c]).map (·.length)).sum = l.length := by
  induction l with
  | nil => rfl
  | cons x r ih =>
    have e : (S [x]).length = 1 := S_len [x]
    simp only [List.map_cons, List.sum_cons, List.length_cons, e]
    omega
theorem chars_eq (l : List Nat) : chars l = (l.map fun c => S [c]).map V.str := by simp [chars]
theorem perm_ones {ys : List Str} {xs : List Nat} (h : ys.Perm (xs.map fun c => S [c])) : ∃ l : List Nat, l.Perm xs ∧ ys = l.map fun c => S [c] := by
  refine ⟨ys.map fun z => z.cps.toList.headD 0, ?_, ?_⟩
  · have h2 := h.map fun z : Str => z.cps.toList.headD 0
    rw [List.map_map] at h2
    have e : (xs.map ((fun z : Str => z.cps.toList.headD 0) ∘ fun c => S [c])) = xs := by
      conv => rhs; rw [← List.map_id xs]
      exact List.map_congr_left fun c _ => by simp [S]
    rw [e] at h2
    exact h2
  · rw [List.map_map]
    conv => lhs; rw [← List.map_id ys]
    refine List.map_congr_left fun z hz => ?_
    obtain ⟨c, _, rfl⟩ := List.mem_map.mp (h.mem_iff.mp hz)
    simp [S]
theorem sorted_ones : ∀ {l : List Nat}, sortedS (l.map fun c => S [c]) = true → l.Pairwise (· ≤ ·) := by
  have key : ∀ (l : List Nat) (p : Nat), risingS (S [p]) (l.map fun c => S [c]) = true → (∀ x ∈ l, p ≤ x) ∧ l.Pairwise (· ≤ ·) := by
    intro l
    induction l with
    | nil => intro p _; exact ⟨fun _ h => (nomatch h), .nil⟩
    | cons x r ih =>
      intro p h
      rw [List.map_cons] at h
      unfold risingS at h
      obtain ⟨h1, h2⟩ := Bool.and_eq_true_iff.mp h
      obtain ⟨h3, h4⟩ := ih x h2
      have h5 : p ≤ x := by
        rw [S_toList, S_toList, ltCps_eq] at h1
        have h1 : decide ([x] < [p]) = false := by simpa using h1
        have h1 := of_decide_eq_false h1
        rw [List.cons_lt_cons_iff] at h1
        omega
      refine ⟨fun y hy => ?_, .cons h3 h4⟩
      rcases List.mem_cons.mp hy with rfl | hy
      · exact h5
      · exact Nat.le_trans h5 (h3 y hy)
  intro l h
  cases l with
  | nil => exact .nil
  | cons x r =>
    obtain ⟨h3, h4⟩ := key r x h
    exact .cons h3 h4
theorem asc_of {l : List Nat} (h : l.Pairwise (· ≤ ·)) (n : l.Nodup) : l.Pairwise (· < ·) := by
  have := h.and n
  exact this.imp fun ⟨a, b⟩ => by omega
theorem seqIx {r : Int} {n : Nat} (h0 : 0 ≤ r) (h1 : r < n) : seqIndex? r n = some r.toNat := by
  have e : ixN n r = some r.toNat := by
    unfold ixN
    rw [if_pos h0, if_pos h1]
  exact (ixN_seq e).1
theorem map_erase {α β : Type} (f : α → β) : ∀ (l : List α) (i : Nat), (l.map f).eraseIdx i = (l.eraseIdx i).map f
  | [], _ => rfl
  | _ :: _, 0 => rfl
  | x :: l, i + 1 => by
    show f x :: (l.map f).eraseIdx i = f x :: (l.eraseIdx i).map f
    rw [map_erase f l i]
theorem erase_perm {α : Type} : ∀ (l : List α) (i : Nat) (h : i < l.length), (l[i] :: l.eraseIdx i).Perm l
  | x :: l, 0, _ => List.Perm.refl _
  | x :: l, i + 1, h => by
    have hi : i < l.length := by simpa using h
    have ih := erase_perm l i hi
    show (l[i] :: x :: l.eraseIdx i).Perm (x :: l)
    exact (List.Perm.swap x l[i] _).trans (ih.cons x)
theorem signs_nd : signs.Nodup := by rw [signs_eq]; decide +kernel
theorem signs_len : signs.length = 40 := by rw [signs_eq]; rfl
theorem empty_S : Str.ofString "" = S [] := rfl
/-- a word over letters -/
def spWord : Sp := fun vs H Q _ => ∃ (a c : Addr) (l : List Nat) (z : Int), vs = [.ref a, .str (S l), .int z] ∧ Deal H a c ∧ l ≠ [] ∧ l.length ≤ 1000 ∧ 0 ≤ z ∧ z ≤ 1000 ∧
  ∀ (x : List Nat) H', x.length ≤ z.toNat → (∀ y ∈ x, y ∈ l) → Deal H' a c → Kp a c H H' → Q (.str (S x)) H'
end U
/-! numbers of names: plain mathematics -/
namespace M3
/-- the place of a letter -/
def ix : List Nat → Nat → Nat
  | [], _ => 0
  | x :: r, c => if x = c then 0 else ix r c + 1
theorem ix_lt : ∀ {L : List Nat} {c : Nat}, c ∈ L → ix L c < L.length
  | x :: r, c, h => by
    unfold ix
    split
    · simp
    · rename_i hn
      have : c ∈ r := by
        rcases List.mem_cons.mp h with e | h
        · exact absurd e.symm hn
        · exact h
      have := ix_lt this
      simp; omega
theorem ix_get : ∀ {L : List Nat} {c : Nat}, c ∈ L → L[ix L c]? = some c
  | x :: r, c, h => by
    unfold ix
    split
    · rename_i e; simp [e]
    · rename_i hn
      have : c ∈ r := by
        rcases List.mem_cons.mp h with e | h
        · exact absurd e.symm hn
        · exact h
      simpa using ix_get this
theorem ix_of {L : List Nat} (nd : L.Nodup) {i c : Nat} (h : L[i]? = some c) : ix L c = i := by
  induction L generalizing i with
  | nil => simp at h
  | cons x r ih =>
    unfold ix
    cases i with
    | zero =>
      have e : x = c := by simpa using h
      simp [e]
    | succ i =>
      have h : r[i]? = some c := by simpa using h
      have hm : c ∈ r := List.mem_of_getElem? h
      have hx : x ∉ r := (List.nodup_cons.mp nd).1
      have hne : x ≠ c := fun e => hx (e ▸ hm)
      rw [if_neg hne, ih (List.nodup_cons.mp nd).2 h]
theorem ix_mono {L : List Nat} (asc : L.Pairwise (· < ·)) {c d : Nat} (hc : c ∈ L) (hd : d ∈ L) : c < d ↔ ix L c < ix L d := by
  have key : ∀ {c d : Nat}, c ∈ L → d ∈ L → ix L c < ix L d → c < d := by
    intro c d hc hd h
    have e1 := ix_get hc
    have e2 := ix_get hd
    have l1 := ix_lt hc
    have l2 := ix_lt hd
    have := List.pairwise_iff_getElem.mp asc (ix L c) (ix L d) l1 l2 h
    rw [List.getElem?_eq_getElem l1] at e1
    rw [List.getElem?_eq_getElem l2] at e2
    rw [Option.some.inj e1, Option.some.inj e2] at this
    exact this
  constructor
  · intro h
    rcases Nat.lt_trichotomy (ix L c) (ix L d) with h1 | h1 | h1
    · exact h1
    · have e1 := ix_get hc
      have e2 := ix_get hd
      rw [h1, e2] at e1
      have := Option.some.inj e1
      omega
    · have := key hd hc h1
      omega
  · exact key hc hd
theorem ix_inj {L : List Nat} {c d : Nat} (hc : c ∈ L) (hd : d ∈ L) (h : ix L c = ix L d) : c = d := by
  have e1 := ix_get hc
  have e2 := ix_get hd
  rw [h, e2] at e1
  exact (Option.some.inj e1).symm
def geo (n : Nat) : Nat → Nat
  | 0 => 0
  | m + 1 => geo n m + n ^ m
/-- digits, the first one the greatest place -/
def pv (n : Nat) : List Nat → Nat
  | [] => 0
  | x :: d => x * n ^ d.length + pv n d
def val (n : Nat) (d : List Nat) : Nat := d.foldl (fun a x => a * n + x + 1) 0
theorem val_app (n : Nat) (d : List Nat) (x : Nat) : val n (d ++ [x]) = val n d * n + x + 1 := by simp [val]
theorem geo_mul (n m : Nat) : geo n (m + 1) = geo n m * n + 1 := by
  induction m with
  | zero => simp [geo]
  | succ m ih =>
    show geo n (m + 1) + n ^ (m + 1) = geo n (m + 1) * n + 1
    conv => lhs; rw [ih]
    show geo n m * n + 1 + n ^ (m + 1) = (geo n m + n ^ m) * n + 1
    rw [Nat.add_mul, Nat.pow_succ]
    omega
theorem pv_app (n : Nat) (d : List Nat) (x : Nat) : pv n (d ++ [x]) = pv n d * n + x := by
  induction d with
  | nil => simp [pv]
  | cons y d ih =>
    show y * n ^ (d ++ [x]).length + pv n (d ++ [x]) = (y * n ^ d.length + pv n d) * n + x
    rw [ih, List.length_append, Nat.add_mul, Nat.mul_assoc, ← Nat.pow_succ]
    show y * n ^ (d.length + 1) + (pv n d * n + x) = y * n ^ (d.length + 1) + pv n d * n + x
    omega
theorem val_eq (n : Nat) (d : List Nat) : val n d = geo n d.length + pv n d := by
  generalize hm : d.length = m
  induction m generalizing d with
  | zero =>
    have : d = [] := List.length_eq_zero_iff.mp hm
    subst this
    rfl
  | succ m ih =>
    have hne : d ≠ [] := by intro e; subst e; simp at hm
    obtain ⟨l, x, rfl⟩ : ∃ l x, d = l ++ [x] := ⟨d.dropLast, d.getLast hne, (List.dropLast_concat_getLast hne).symm⟩
    have hl : l.length = m := by simpa using hm
    rw [val_app, pv_app, geo_mul, ih l hl, Nat.add_mul]
    omega
theorem pv_lt {n : Nat} (hn : 1 ≤ n) : ∀ d : List Nat, (∀ x ∈ d, x < n) → pv n d < n ^ d.length
  | [], _ => by simp [pv]
  | x :: d, h => by
    have h1 := pv_lt hn d fun y hy => h y (List.mem_cons_of_mem _ hy)
    have h2 : x < n := h x List.mem_cons_self
    show x * n ^ d.length + pv n d < n ^ (d.length + 1)
    have h3 : (x + 1) * n ^ d.length ≤ n * n ^ d.length := Nat.mul_le_mul_right _ h2
    rw [Nat.pow_succ, Nat.mul_comm (n ^ d.length) n]
    rw [Nat.add_mul] at h3
    omega
theorem geo_le {n : Nat} {a b : Nat} (h : a ≤ b) : geo n a ≤ geo n b := by
  induction h with
  | refl => exact Nat.le_refl _
  | step _ ih => exact Nat.le_trans ih (Nat.le_add_right _ _)
theorem val_len {n : Nat} (hn : 1 ≤ n) {a b : List Nat} (ha : ∀ x ∈ a, x < n) (h : a.length < b.length) : val n a < val n b := by
  rw [val_eq, val_eq]
  have h1 := pv_lt hn a ha
  have h2 : geo n (a.length + 1) ≤ geo n b.length := geo_le h
  have h3 : geo n (a.length + 1) = geo n a.length + n ^ a.length := rfl
  omega
/-- of one length: by the first unlike digit -/
theorem pv_lex {n : Nat} (hn : 1 ≤ n) : ∀ {a b : List Nat}, a.length = b.length → (∀ x ∈ a, x < n) → (∀ x ∈ b, x < n) → pv n a < pv n b → a < b
  | [], [], _, _, _, h => by simp [pv] at h
  | x :: a, y :: b, hl0, ha, hb, h0 => by
    have hl : a.length = b.length := by simpa using hl0
    have h1 := pv_lt hn a fun y hy => ha y (List.mem_cons_of_mem _ hy)
    have h2 := pv_lt hn b fun y hy => hb y (List.mem_cons_of_mem _ hy)
    have h : x * n ^ a.length + pv n a < y * n ^ b.length + pv n b := h0
    clear h0 hl0
    rw [List.cons_lt_cons_iff]
    rcases Nat.lt_trichotomy x y with e | e | e
    · exact .inl e
    · subst e
      rw [hl] at h
      exact .inr ⟨rfl, pv_lex hn hl (fun y hy => ha y (List.mem_cons_of_mem _ hy)) (fun y hy => hb y (List.mem_cons_of_mem _ hy)) (by omega)⟩
    · exfalso
      have h3 : (y + 1) * n ^ a.length ≤ x * n ^ a.length := Nat.mul_le_mul_right _ e
      rw [Nat.add_mul, hl] at h3
      rw [hl] at h
      omega
theorem pv_inj {n : Nat} (hn : 1 ≤ n) : ∀ {a b : List Nat}, a.length = b.length → (∀ x ∈ a, x < n) → (∀ x ∈ b, x < n) → pv n a = pv n b → a = b
  | [], [], _, _, _, h => rfl
  | x :: a, y :: b, hl0, ha, hb, h0 => by
    have hl : a.length = b.length := by simpa using hl0
    have h1 := pv_lt hn a fun y hy => ha y (List.mem_cons_of_mem _ hy)
    have h2 := pv_lt hn b fun y hy => hb y (List.mem_cons_of_mem _ hy)
    have h : x * n ^ a.length + pv n a = y * n ^ b.length + pv n b := h0
    clear h0 hl0
    rw [hl] at h h1
    rcases Nat.lt_trichotomy x y with e | e | e
    · exfalso
      have h3 : (x + 1) * n ^ b.length ≤ y * n ^ b.length := Nat.mul_le_mul_right _ e
      rw [Nat.add_mul] at h3
      omega
    · subst e
      rw [pv_inj hn hl (fun y hy => ha y (List.mem_cons_of_mem _ hy)) (fun y hy => hb y (List.mem_cons_of_mem _ hy)) (by omega)]
    · exfalso
      have h3 : (y + 1) * n ^ b.length ≤ x * n ^ b.length := Nat.mul_le_mul_right _ e
      rw [Nat.add_mul] at h3
      omega
theorem val_inj {n : Nat} (hn : 1 ≤ n) {a b : List Nat} (ha : ∀ x ∈ a, x < n) (hb : ∀ x ∈ b, x < n) (h : val n a = val n b) : a = b := by
  have hl : a.length = b.length := by
    rcases Nat.lt_trichotomy a.length b.length with e | e | e
    · have := val_len hn ha e; omega
    · exact e
    · have := val_len hn hb e; omega
  refine pv_inj hn hl ha hb ?_
  rw [val_eq, val_eq, hl] at h
  omega
/-- the name with a number: its digits -/
def nm (n : Nat) (k : Nat) : List Nat := if h : k = 0 ∨ n = 0 then [] else nm n ((k - 1) / n) ++ [(k - 1) % n]
termination_by k
decreasing_by
  have h1 : (k - 1) / n ≤ k - 1 := Nat.div_le_self _ _
  omega
theorem nm_zero (n : Nat) : nm n 0 = [] := by rw [nm]; simp
theorem nm_pos {n k : Nat} (hn : 1 ≤ n) (hk : 1 ≤ k) : nm n k = nm n ((k - 1) / n) ++ [(k - 1) % n] := by
  conv => lhs; rw [nm]
  rw [dif_neg (by omega)]
theorem nm_val {n : Nat} (hn : 1 ≤ n) (k : Nat) : val n (nm n k) = k ∧ ∀ x ∈ nm n k, x < n := by
  induction k using Nat.strongRecOn with
  | _ k ih =>
    by_cases hk : k = 0
    · subst hk
      rw [nm_zero]
      exact ⟨rfl, fun _ h => nomatch h⟩
    · rw [nm_pos hn (by omega)]
      have h1 : (k - 1) / n ≤ k - 1 := Nat.div_le_self _ _
      obtain ⟨h2, h3⟩ := ih ((k - 1) / n) (by omega)
      refine ⟨?_, fun x hx => ?_⟩
      · rw [val_app, h2]
        have := Nat.div_add_mod (k - 1) n
        rw [Nat.mul_comm] at this
        omega
      · rcases List.mem_append.mp hx with h | h
        · exact h3 x h
        · rw [List.mem_singleton.mp h]
          exact Nat.mod_lt _ hn
theorem nm_of {n : Nat} (hn : 1 ≤ n) {d : List Nat} (hd : ∀ x ∈ d, x < n) : nm n (val n d) = d :=
  val_inj hn (nm_val hn _).2 hd (nm_val hn _).1
theorem nm_len {n : Nat} (hn : 2 ≤ n) : ∀ (m k : Nat), k < 2 ^ m → (nm n k).length ≤ m
  | 0, k, h => by
    have : k = 0 := by simpa using h
    subst this
    rw [nm_zero]
    simp
  | m + 1, k, h => by
    by_cases hk : k = 0
    · subst hk
      rw [nm_zero]
      simp
    · rw [nm_pos (by omega) (by omega), List.length_append]
      have h1 : (k - 1) / n ≤ (k - 1) / 2 := Nat.div_le_div_left hn (by decide)
      have := nm_len hn m ((k - 1) / n) (by rw [Nat.pow_succ] at h; omega)
      simp; omega
/-- names beside each other -/
theorem nm_next {n : Nat} (hn : 1 ≤ n) (k : Nat) : (nm n k).length ≤ (nm n (k + 1)).length ∧ ((nm n k).length = (nm n (k + 1)).length → nm n k < nm n (k + 1)) := by
  obtain ⟨e1, d1⟩ := nm_val hn k
  obtain ⟨e2, d2⟩ := nm_val hn (k + 1)
  refine ⟨?_, fun hl => ?_⟩
  · apply Nat.le_of_not_lt
    intro h
    have := val_len hn d2 h
    omega
  · refine pv_lex hn hl d1 d2 ?_
    rw [val_eq, hl] at e1
    rw [val_eq] at e2
    omega
/-- digits and letters have one order -/
theorem lex_map {L : List Nat} (asc : L.Pairwise (· < ·)) : ∀ {a b : List Nat}, (∀ x ∈ a, x < L.length) → (∀ x ∈ b, x < L.length) → a < b → a.map (L.getD · 0) < b.map (L.getD · 0)
  | [], [], _, _, h => absurd h (by simp)
  | [], _ :: _, _, _, _ => by simp
  | _ :: _, [], _, _, h => absurd h (by simp)
  | x :: a, y :: b, ha, hb, h => by
    rw [List.cons_lt_cons_iff] at h
    rw [List.map_cons, List.map_cons, List.cons_lt_cons_iff]
    have hx := ha x List.mem_cons_self
    have hy := hb y List.mem_cons_self
    rcases h with h | ⟨e, h⟩
    · left
      have := List.pairwise_iff_getElem.mp asc x y hx hy h
      simpa [List.getD, List.getElem?_eq_getElem hx, List.getElem?_eq_getElem hy] using this
    · subst e
      exact .inr ⟨rfl, lex_map asc (fun y hy => ha y (List.mem_cons_of_mem _ hy)) (fun y hy => hb y (List.mem_cons_of_mem _ hy)) h⟩
theorem val_lt {n : Nat} (hn : 2 ≤ n) (h5 : n ≤ 5) : ∀ d : List Nat, (∀ x ∈ d, x < n) → val n d + 1 ≤ 6 ^ d.length := by
  intro d
  generalize hm : d.length = m
  induction m generalizing d with
  | zero =>
    have : d = [] := List.length_eq_zero_iff.mp hm
    subst this
    intro _
    exact Nat.le_refl _
  | succ m ih =>
    intro h
    have hne : d ≠ [] := by intro e; subst e; simp at hm
    obtain ⟨l, x, rfl⟩ : ∃ l x, d = l ++ [x] := ⟨d.dropLast, d.getLast hne, (List.dropLast_concat_getLast hne).symm⟩
    have hl : l.length = m := by simpa using hm
    have h1 := ih l hl fun y hy => h y (by simp [hy])
    have h2 := h x (by simp)
    rw [val_app, Nat.pow_succ]
    have h3 : val n l * n ≤ val n l * 5 := Nat.mul_le_mul_left _ h5
    omega
end M3
namespace U
open PySem PySem.Spec PyProof.Rows L2
theorem idx_occ {L : List Nat} (nd : L.Nodup) {c : Nat} (hc : c ∈ L) : ∃ rest, Builtin.Str.occurrences (S L) (S [c]) 0 (S L).length 1 = M3.ix L c :: rest := by
  have h := StrLaws.found_one (S L) c
  rw [S_toList, decide_eq_true hc] at h
  have e : (⟨#[c]⟩ : Str) = S [c] := rfl
  rw [e] at h
  cases ho : Builtin.Str.occurrences (S L) (S [c]) 0 (S L).length 1 with
  | nil => rw [ho] at h; cases h
  | cons i rest =>
    have h1 := StrLaws.occ_spec (S L) (S [c]) 0 (S L).length 1 i (by rw [ho]; exact List.mem_cons_self)
    have h2 := (StrLaws.subAt_one (S L) c i).mp h1
    rw [S_toList] at h2
    exact ⟨rest, by rw [M3.ix_of nd h2]⟩
theorem asc_nd {L : List Nat} (h : L.Pairwise (· < ·)) : L.Nodup := h.imp fun h => by omega
theorem getD_get {L : List Nat} {i : Nat} (h : i < L.length) : L[i]? = some (L.getD i 0) := by simp [List.getD, List.getElem?_eq_getElem h]
theorem map_ix_getD {L : List Nat} : ∀ {x : List Nat}, (∀ y ∈ x, y ∈ L) → (x.map (M3.ix L)).map (L.getD · 0) = x
  | [], _ => rfl
  | y :: x, h => by
    have h1 := M3.ix_get (h y List.mem_cons_self)
    rw [List.map_cons, List.map_cons, map_ix_getD fun z hz => h z (List.mem_cons_of_mem _ hz)]
    simp [List.getD, h1]
theorem map_getD_ix {L : List Nat} (nd : L.Nodup) : ∀ {d : List Nat}, (∀ y ∈ d, y < L.length) → (d.map (L.getD · 0)).map (M3.ix L) = d
  | [], _ => rfl
  | y :: d, h => by
    have h1 := M3.ix_of nd (getD_get (h y List.mem_cons_self))
    rw [List.map_cons, List.map_cons, map_getD_ix nd fun z hz => h z (List.mem_cons_of_mem _ hz), h1]
theorem lg {n : Nat} (h : n < 2 ^ 250) : n.log2 < 1920 := by
  by_cases h0 : n = 0
  · subst h0
    decide
  · refine Nat.lt_of_lt_of_le ((Nat.log2_lt h0).mpr h) (by decide)
theorem lgI {z : Int} (h0 : 0 ≤ z) (h : z < 2 ^ 250) : z.natAbs.log2 < 1920 := lg (by omega)
theorem Deal.same {a c : Addr} {H H' : Hp} (d : Deal H a c) (e : Same H H') : Deal H' a c := by
  obtain ⟨ns, m, d⟩ := d
  exact ⟨ns, m, ⟨e _ _ d.hd, e _ _ d.cs, d.pos, d.few, d.m0, d.m1⟩⟩
theorem cut_take (l : List Nat) {r : Int} (h : 0 ≤ r) : cutS (S l) none (some r) = S (l.take r.toNat) := by
  obtain ⟨n, rfl⟩ := nat_of h
  unfold cutS
  rw [S_toList, S_len, HT.sIx_none, HT.sIx_nat, List.drop_zero, Nat.sub_zero, Int.toNat_natCast]
  show S (l.take (min n l.length)) = _
  congr 1
  by_cases hl : n ≤ l.length
  · rw [Nat.min_eq_left hl]
  · rw [Nat.min_eq_right (by omega), List.take_length, List.take_of_length_le (by omega)]
theorem cut_drop (l : List Nat) {r : Int} (h : 0 ≤ r) : cutS (S l) (some r) none = S (l.drop r.toNat) := by
  obtain ⟨n, rfl⟩ := nat_of h
  unfold cutS
  rw [S_toList, S_len, HT.sIx_none, HT.sIx_nat, Int.toNat_natCast]
  show S ((l.drop (min n l.length)).take (l.length - min n l.length)) = _
  congr 1
  by_cases hl : n ≤ l.length
  · rw [Nat.min_eq_left hl, List.take_of_length_le (by rw [List.length_drop]; omega)]
  · rw [Nat.min_eq_right (by omega), List.drop_of_length_le (i := n) (by omega), List.drop_length, List.take_nil]
theorem rep_mem {x : List Nat} {n y : Nat} (h : y ∈ rep x n) : y ∈ x := by
  unfold rep at h
  obtain ⟨l, hl, hy⟩ := List.mem_flatten.mp h
  rw [(List.mem_replicate.mp hl).2] at hy
  exact hy
end U
namespace K03
open PySem PySem.Spec PyProof.Rows L2 U
def topS (i : Nat) : Stmt := PySem.Challenge.pw_undername_k03_whole_names_by_number.main.body.getD i (.Pass ⟨0, 0, 0, 0⟩)
abbrev s_is_text : Stmt := topS 1
theorem sc_is_text : FnScope ["letters", "value", "letter"] ["letters", "value"] (defScope s_is_text) := ⟨rfl, rfl, rfl, by decide +kernel, rfl, by decide +kernel, by decide +kernel⟩
abbrev s_number_of : Stmt := topS 2
theorem sc_number_of : FnScope ["letters", "name", "number", "letter"] ["letters", "name"] (defScope s_number_of) := ⟨rfl, rfl, rfl, by decide +kernel, rfl, by decide +kernel, by decide +kernel⟩
abbrev s_name_at : Stmt := topS 3
theorem sc_name_at : FnScope ["letters", "number", "many", "name", "left"] ["letters", "number"] (defScope s_name_at) := ⟨rfl, rfl, rfl, by decide +kernel, rfl, by decide +kernel, by decide +kernel⟩
abbrev s_l_deal : Stmt := topS 5
theorem sc_l_deal : FnScope ["_law_script", "_law_base", "_law_cells", "_law_mixed", "_law_cell"] ["_law_script", "_law_base"] (defScope s_l_deal) := ⟨rfl, rfl, rfl, by decide +kernel, rfl, by decide +kernel, by decide +kernel⟩
abbrev s_l_draw : Stmt := topS 6
theorem sc_l_draw : FnScope ["_law_deal_here", "_law_many", "_law_left"] ["_law_deal_here", "_law_many"] (defScope s_l_draw) := ⟨rfl, rfl, rfl, by decide +kernel, rfl, by decide +kernel, by decide +kernel⟩
abbrev s_l_pick : Stmt := topS 7
theorem sc_l_pick : FnScope ["_law_deal_here", "_law_some"] ["_law_deal_here", "_law_some"] (defScope s_l_pick) := ⟨rfl, rfl, rfl, by decide +kernel, rfl, by decide +kernel, by decide +kernel⟩
abbrev s_l_letters : Stmt := topS 8
theorem sc_l_letters : FnScope ["_law_deal_here", "_law_many", "_law_signs", "_law_found", "_law_turn", "_law_sign"] ["_law_deal_here", "_law_many"] (defScope s_l_letters) := ⟨rfl, rfl, rfl, by decide +kernel, rfl, by decide +kernel, by decide +kernel⟩
abbrev s_l_word : Stmt := topS 9
theorem sc_l_word : FnScope ["_law_deal_here", "_law_letters_here", "_law_most", "_law_k"] ["_law_deal_here", "_law_letters_here", "_law_most"] (defScope s_l_word) := ⟨rfl, rfl, rfl, by decide +kernel, rfl, by decide +kernel, by decide +kernel⟩
abbrev s_l_count : Stmt := topS 10
theorem sc_l_count : FnScope ["_law_letters_here", "_law_name", "_law_found", "_law_wide", "_law_turn", "_law_letter"] ["_law_letters_here", "_law_name"] (defScope s_l_count) := ⟨rfl, rfl, rfl, by decide +kernel, rfl, by decide +kernel, by decide +kernel⟩
abbrev s_law : Stmt := topS 11
theorem sc_law : FnScope ["_law_script", "_law_deal_here", "_law_turn", "_law_letters_here", "_law_most", "_law_number", "_law_name", "_law_further", "_law_word_here"] ["_law_script"] (defScope s_law) := ⟨rfl, rfl, rfl, by decide +kernel, rfl, by decide +kernel, by decide +kernel⟩
structure Top (K : PySem.W.Frag) (mg : Str → Option Value) : Type where
  f_is_text : Addr
  d_is_text : FuncData
  F_is_text : Fun K "is_text" "is_text" s_is_text f_is_text d_is_text
  g_is_text : mg "is_text" = some (.ref f_is_text)
  b_is_text : Binds K d_is_text ["letters", "value"] []
  f_number_of : Addr
  d_number_of : FuncData
  F_number_of : Fun K "number_of" "number_of" s_number_of f_number_of d_number_of
  g_number_of : mg "number_of" = some (.ref f_number_of)
  b_number_of : Binds K d_number_of ["letters", "name"] []
  f_name_at : Addr
  d_name_at : FuncData
  F_name_at : Fun K "name_at" "name_at" s_name_at f_name_at d_name_at
  g_name_at : mg "name_at" = some (.ref f_name_at)
  b_name_at : Binds K d_name_at ["letters", "number"] []
  f_l_deal : Addr
  d_l_deal : FuncData
  F_l_deal : Fun K "_law_deal" "_law_deal" s_l_deal f_l_deal d_l_deal
  g_l_deal : mg "_law_deal" = some (.ref f_l_deal)
  b_l_deal : Binds K d_l_deal ["_law_script", "_law_base"] []
  f_l_draw : Addr
  d_l_draw : FuncData
  F_l_draw : Fun K "_law_draw" "_law_draw" s_l_draw f_l_draw d_l_draw
  g_l_draw : mg "_law_draw" = some (.ref f_l_draw)
  b_l_draw : Binds K d_l_draw ["_law_deal_here", "_law_many"] []
  f_l_pick : Addr
  d_l_pick : FuncData
  F_l_pick : Fun K "_law_pick" "_law_pick" s_l_pick f_l_pick d_l_pick
  g_l_pick : mg "_law_pick" = some (.ref f_l_pick)
  b_l_pick : Binds K d_l_pick ["_law_deal_here", "_law_some"] []
  f_l_letters : Addr
  d_l_letters : FuncData
  F_l_letters : Fun K "_law_letters" "_law_letters" s_l_letters f_l_letters d_l_letters
  g_l_letters : mg "_law_letters" = some (.ref f_l_letters)
  b_l_letters : Binds K d_l_letters ["_law_deal_here", "_law_many"] []
  f_l_word : Addr
  d_l_word : FuncData
  F_l_word : Fun K "_law_word" "_law_word" s_l_word f_l_word d_l_word
  g_l_word : mg "_law_word" = some (.ref f_l_word)
  b_l_word : Binds K d_l_word ["_law_deal_here", "_law_letters_here", "_law_most"] []
  f_l_count : Addr
  d_l_count : FuncData
  F_l_count : Fun K "_law_count" "_law_count" s_l_count f_l_count d_l_count
  g_l_count : mg "_law_count" = some (.ref f_l_count)
  b_l_count : Binds K d_l_count ["_law_letters_here", "_law_name"] []
  f_law : Addr
  d_law : FuncData
  F_law : Fun K "law" "law" s_law f_law d_law
  g_law : mg "law" = some (.ref f_law)
  b_law : Binds K d_law ["_law_script"] []
  n_isinstance : mg "isinstance" = none
  n_str : mg "str" = none
  n_all : mg "all" = none
  n_len : mg "len" = none
  n_max : mg "max" = none
  n_int : mg "int" = none
  n_list : mg "list" = none
  n_range : mg "range" = none
  n_sorted : mg "sorted" = none
  n_repr : mg "repr" = none
end K03
namespace K03
open PySem PySem.Spec PyProof.Rows L2 U
section
variable {P : Program} {w : World} {K : PySem.W.Frag} {mg : Str → Option Value} {base : Heap}
theorem ok_l_draw (T : Top K mg) : FnOk P w K mg base CX0 1 T.f_l_draw T.d_l_draw ["_law_deal_here", "_law_many"] spDraw := by
  refine T.F_l_draw.ok sc_l_draw (fun vs H Q E h => ?_) (fun cdv A outer s H vs Q E hr h => ?_)
  · obtain ⟨a, c, many, rfl, _⟩ := h
    rfl
  · obtain ⟨a, c, many, rfl, ⟨ns, m, d0⟩, hm1, hm2, q⟩ := h
    refine ⟨_, (pss_cons (ps_while PassesOwn.never (PW.pt (pw_and (pt_cmpR (op_neD hr.units) (pe_ix ix_list (pv 0) pe_int (fun _ _ => rfl)) (pe_lst pa_nil) (nomark _)) (pw_and1 (pt_cmpR op_eq (pe_ix ix_list (pe_ix ix_list (pv 0) pe_int (fun _ _ => rfl)) (pe_un un_neg pe_int) (fun _ _ => rfl)) pe_int (nomark _))))) (pss_one (ps_expr (pe_bm0 PySem.F.plainAttrs_list PySem.F.slot_list_pop PySem.F.type_list_pop mt_pop (pe_ix ix_list (pv 0) pe_int (fun _ _ => rfl))))))
        (pss_cons (ps_if (pt_cmpR (op_neD hr.units) (pe_ix ix_list (pv 0) pe_int (fun _ _ => rfl)) (pe_lst pa_nil) (nomark _)) (pss_cons (ps_set (i := 2) sc_l_draw.nd rfl (Or.inl rfl) (pe_bm0 PySem.F.plainAttrs_list PySem.F.slot_list_pop PySem.F.type_list_pop mt_pop (pe_ix ix_list (pv 0) pe_int (fun _ _ => rfl))))
        (pss_cons (ps_expr (pe_bm PySem.F.plainAttrs_list PySem.F.slot_list_append PySem.F.type_list_append mt_append (pe_ix ix_list (pv 0) pe_int (fun _ _ => rfl)) (pa_cons (pe_op op_fdivW (pv 2) (pv 1)) pa_nil)))
        (pss_one (ps_ret (pe_op op_mod (pe_callTy call_int1 (by rfl) T.n_int (by decide +kernel) (pa_cons (pv 2) pa_nil)) (pv 1)))))) pss_nil)
        (pss_cons (ps_asg (pe_op op_mod (pe_callTy call_int1 (by rfl) T.n_int (by decide +kernel) (pa_cons (pe_op op_mul (pe_ix ix_list (pv 0) pe_int (fun _ _ => rfl)) pe_int) pa_nil)) pe_int) (pg_sub (pv 0) pe_int set_list))
        (pss_one (ps_ret (pe_op op_mod (pe_callTy call_int1 (by rfl) T.n_int (by decide +kernel) (pa_cons (pe_op op_fdivW (pe_ix ix_list (pv 0) pe_int (fun _ _ => rfl)) pe_int) pa_nil)) (pv 1))))))), ?_⟩
    refine ⟨fun k σ H' => ∃ ns m, σ = [some (.ref a), some (.int many), none] ∧ k = ns.length ∧ DealIs H' a c ns m ∧ Kp a c H H', ⟨_, ns, m, rfl, rfl, d0, Kp.refl _ _ _⟩, ?_⟩
    rintro k σ H1 ⟨ns, m, rfl, rfl, d, kp⟩
    refine dealNe d rfl fun p hp d1 => ?_
    have kp1 : Kp a c H (upd H1 p (.lst [])) := kp.new' hp
    by_cases hn : ns = []
    · subst hn
      refine iteF ?_
      refine iteF ?_
      refine dealNe d1 rfl fun p2 hp2 d2 => ?_
      have kp2 := kp1.new' (o := .lst []) hp2
      refine iteF ?_
      refine deal1 d2 rfl ?_
      refine ⟨m, 48271, rfl, rfl, .inr ⟨by decide, by decide⟩, .inl ⟨_, rfl, ?_⟩⟩
      refine ⟨_, _, rfl, rfl, (by show (0 : Int) < 2147483647; decide), ?_⟩
      have hb1 : 0 ≤ m * 48271 % 2147483647 := Int.emod_nonneg _ (by decide)
      have hb2 : m * 48271 % 2147483647 < 2147483647 := Int.emod_lt_of_pos _ (by decide)
      refine ⟨_, rfl, a, _, 1, 1, rfl, rfl, d2.hd, rfl, ?_⟩
      have d3 := d2.setM hb1 hb2
      refine deal1 d3 rfl ?_
      refine ⟨_, 8, rfl, rfl, lt200 (by decide) (by decide), .inl ⟨_, rfl, ?_⟩⟩
      refine ⟨_, rfl, _, _, rfl, rfl, (by omega), ?_⟩
      exact q _ _ (Int.emod_nonneg _ (by omega)) (Int.emod_lt_of_pos _ (by omega)) ⟨_, _, d3⟩ kp2.updA
    · rw [decide_eq_false hn]
      refine iteT ?_
      obtain ⟨l, z, rfl⟩ := rev_last hn
      refine deal0 d1 rfl ?_
      have el : atI ((l ++ [z]).map V.int) (-1) = some (.int z) := by
        rw [List.map_append]
        exact atI_last _ _
      have ep : ((l ++ [z]).map V.int)[((l ++ [z]).map V.int).length - 1]? = some (.int z) := by simp
      have ed : ((l ++ [z]).map V.int).dropLast = l.map V.int := by simp
      have hl : l.length + 1 ≤ 63 := by simpa using d.few
      have hz : 0 ≤ z := d.pos z (by simp)
      have hlp : ∀ n ∈ l, 0 ≤ n := fun n hn => d.pos n (by simp [hn])
      refine ⟨1, rfl, c, _, -1, .int z, rfl, rfl, SqL.of d1.cs, el, rfl, _, rfl, ite2 (fun e => ?_) (fun e => ?_)⟩
      · refine ⟨fun σ' H' => ∃ m, σ' = [some (.ref a), some (.int many), none] ∧ DealIs H' a c l m ∧ Kp a c H H', fun σ' H' ⟨m, e1, e2, e3⟩ => ⟨l.length, by simp, l, m, e1, rfl, e2, e3⟩, ?_⟩
        refine deal0 d1 rfl ?_
        refine ⟨.inl ⟨rfl, _, SqL.of d1.cs⟩, c, _, _, rfl, rfl, d1.cs, ep, ?_⟩
        rw [ed]
        exact ⟨m, rfl, d1.setC hlp (by omega), kp1.updC⟩
      · refine dealNe d1 rfl fun p2 hp2 d2 => ?_
        have kp2 := kp1.new' (o := .lst []) hp2
        rw [decide_eq_false hn]
        refine iteT ?_
        refine deal0 d2 rfl ?_
        refine ⟨.inl ⟨rfl, _, SqL.of d2.cs⟩, c, _, _, rfl, rfl, d2.cs, ep, ?_⟩
        rw [ed]
        have d3 := d2.setC hlp (by omega)
        refine deal0 d3 rfl ?_
        refine ⟨.inl ⟨rfl, _, SqL.of d3.cs⟩, _, rfl, _, rfl, _, _, rfl, rfl, lt200 hm1 hm2, c, _, _, rfl, rfl, d3.cs, ?_, ?_⟩
        · rw [List.length_map]
          exact small1000 (by omega)
        · have d4 := d3.setC (ns' := l ++ [z / many]) (fun n hn => by
            rcases List.mem_append.mp hn with h | h
            · exact hlp n h
            · rw [List.mem_singleton.mp h]
              exact Int.ediv_nonneg hz (by omega)) (by simpa using hl)
          rw [List.map_append] at d4
          refine ⟨_, rfl, .inl ⟨_, rfl, ?_⟩⟩
          refine ⟨_, rfl, _, _, rfl, rfl, (by omega), ?_⟩
          exact q _ _ (Int.emod_nonneg _ (by omega)) (Int.emod_lt_of_pos _ (by omega)) ⟨_, _, d4⟩ kp2.updC.updC
end
end K03
namespace K03
open PySem PySem.Spec PyProof.Rows L2 U
section
variable {P : Program} {w : World} {K : PySem.W.Frag} {mg : Str → Option Value} {base : Heap}
theorem ok_l_deal (T : Top K mg) : FnOk P w K mg base CX0 1 T.f_l_deal T.d_l_deal ["_law_script", "_law_base"] (spDeal K) := by
  refine T.F_l_deal.ok sc_l_deal (fun vs H Q E h => ?_) (fun cdv A outer s H vs Q E hr h => ?_)
  · obtain ⟨a, ns, b, rfl, _⟩ := h
    rfl
  · obtain ⟨a, ns, b, rfl, hS, hl, hb0, hb1, q⟩ := h
    refine ⟨_, (pss_cons (ps_setLc (i := 2) (own := [("_law_cell", 4)]) (g := gName 4) (tt := tYes) (by rfl) sc_l_deal.nd rfl rfl (sw_true rfl rfl rfl (by decide +kernel)) (pi_list (pe_slice sl_list (pv 0) (po_some (pv 1)) (po_some pe_int))) (blkOk_by (own := [("_law_cell", 4)]) (N := ["_law_script", "_law_base", "_law_cells", "_law_mixed", "_law_cell"]) (sc := defScope s_l_deal) (by decide +kernel)) (fun _ _ _ _ _ => pg_name (i := 4) sc_l_deal.nd rfl (Or.inl rfl)) (fun _ _ _ _ _ => pts_nil) (fun _ _ _ _ _ => (pe_ifExp (pt_cmpR op_gt (pv 4) pe_int (nomark _)) (pv 4) (pe_op op_sub pe_int (pv 4)))))
        (pss_cons (ps_set (i := 3) sc_l_deal.nd rfl (Or.inl rfl) (pe_op op_add pe_int (pe_op op_mul pe_int (pv 1))))
        (pss_cons (ps_for PassesOwn.never rfl (pi_list (pv 2)) (pg_name (i := 4) sc_l_deal.nd rfl (Or.inl rfl)) (pss_one (ps_set (i := 3) sc_l_deal.nd rfl (Or.inl rfl) (pe_op op_mod (pe_callTy call_int1 (by rfl) T.n_int (by decide +kernel) (pa_cons (pe_op op_add (pe_op op_mul (pv 3) pe_int) (pe_op op_mod (pe_callTy call_int1 (by rfl) T.n_int (by decide +kernel) (pa_cons (pv 4) pa_nil)) pe_int)) pa_nil)) pe_int))))
        (pss_one (ps_ret (pe_lst (pa_cons (pe_revL (pe_lc (own := [("_law_cell", 4)]) (g := gName 4)  (by rfl) sc_l_deal.nd (pi_list (pv 2)) (blkOk_by (own := [("_law_cell", 4)]) (N := ["_law_script", "_law_base", "_law_cells", "_law_mixed", "_law_cell"]) (sc := defScope s_l_deal) (by decide +kernel)) (fun _ _ _ _ _ => pg_name (i := 4) sc_l_deal.nd rfl (Or.inl rfl)) (fun _ _ _ _ _ => pts_one (pt_cmpR op_ge (pv 4) (pe_op op_pow pe_int pe_int) (nomark _))) (fun _ _ _ _ _ => (pv 4)))) (pa_cons (pv 3) pa_nil)))))))), ?_⟩
    -- the cells
    refine ⟨_, rfl, _, rfl, b, rfl, 63, rfl, a, _, rfl, hS, fun p hp => ?_⟩
    obtain ⟨ms, ec, _, hml⟩ := cut_map V.int ns (some b) (some 63)
    rw [ec]
    have s1 : Same H (upd H p (.lst (ms.map V.int))) := Same.new (Same.refl _) hp
    refine ⟨p, rfl, ⟨_, SqL.of upd_same⟩, fun D hD => ?_⟩
    refine lcM (src_list K p (ms.map V.int)) (fun v => match v with | .int n => .int (if n > 0 then n else 0 - n) | v => v) (SqL.of upd_same) hD (fun _ => rfl) (by rw [List.length_map]; omega) ?_ ?_
    · intro x hx H' _ Q k
      obtain ⟨n, _, rfl⟩ := List.mem_map.mp hx
      refine ⟨_, rfl, _, _, rfl, rfl, _, rfl, ?_⟩
      by_cases hn : 0 < n
      · rw [decide_eq_true hn]
        refine iteT ⟨_, rfl, ?_⟩
        have := k H' (Same.refl _)
        simp only [gt_iff_lt, hn, if_true] at this
        exact this
      · rw [decide_eq_false hn]
        refine iteF ⟨_, rfl, _, _, rfl, rfl, ?_⟩
        have := k H' (Same.refl _)
        simp only [gt_iff_lt, hn, if_false] at this
        exact this
    · intro H2 s2 e2
      rw [List.map_map] at e2
      have s02 : Same H H2 := s1.trans s2
      generalize hcs : ms.map (fun n => if n > 0 then n else 0 - n) = cs at *
      have e2 : H2 D = some (.lst (cs.map V.int)) := by
        rw [e2, ← hcs, List.map_map]
        rfl
      have hcp : ∀ n ∈ cs, 0 ≤ n := by
        intro n hn
        rw [← hcs] at hn
        obtain ⟨z, _, rfl⟩ := List.mem_map.mp hn
        split <;> omega
      have hcl : cs.length ≤ 63 := by
        rw [← hcs, List.length_map]
        omega
      -- mixed
      refine ⟨_, rfl, 17, b, rfl, rfl, .inl ⟨by decide, by decide⟩, _, _, rfl, rfl, ?_⟩
      refine ⟨_, rfl, D, rfl, ⟨_, SqL.of e2⟩, ?_⟩
      refine for_it (src_list K D (cs.map V.int)).w (fun i σ H' => ∃ m v, σ = [some (.ref a), some (.int b), some (.ref D), some (.int m), v] ∧ 0 ≤ m ∧ m < 2147483647 ∧ H' = H2) ⟨_, none, rfl, by omega, by omega, rfl⟩ (fun i σ H' _ ⟨_, _, _, _, _, e⟩ => by rw [e]; exact SqL.of e2) ?_ ?_
      · rintro i x σ H3 H4 hi ⟨m, v, rfl, m0, m1, rfl⟩ ⟨rfl, hx⟩
        obtain ⟨z, hz, rfl⟩ : ∃ z, z ∈ cs ∧ V.int z = x := by
          obtain ⟨z, hz, rfl⟩ := List.mem_map.mp (List.mem_of_getElem? hx)
          exact ⟨z, hz, rfl⟩
        refine ⟨_, rfl, m, 16807, rfl, rfl, .inr ⟨by decide, by decide⟩, _, rfl, .inl ⟨_, rfl, ?_⟩⟩
        refine ⟨_, _, rfl, rfl, (by show (0 : Int) < 2147483629; decide), _, _, rfl, rfl, .inl ⟨_, rfl, ?_⟩⟩
        refine ⟨_, _, rfl, rfl, (by show (0 : Int) < 2147483647; decide), ?_⟩
        exact ⟨_, _, rfl, Int.emod_nonneg _ (by decide), Int.emod_lt_of_pos _ (by decide), rfl⟩
      · rintro σ H3 ⟨m, v, rfl, m0, m1, rfl⟩
        -- the great cells, turned about
        refine ⟨_, rfl, D, rfl, ⟨_, SqL.of e2⟩, fun D2 hD2 => ?_⟩
        refine lcS (src_list K D (cs.map V.int)) (fun v => match v with | .int n => decide ((10 : Int) ^ 18 ≤ n) | _ => true) id (SqL.of e2) hD2 (fun _ => rfl) (by rw [List.length_map]; omega) ?_ ?_ ?_
        · intro x hx H' _ Q k
          obtain ⟨n, _, rfl⟩ := List.mem_map.mp hx
          refine ⟨_, rfl, _, _, rfl, rfl, ⟨by decide, by decide, by decide⟩, _, _, rfl, rfl, _, rfl, ?_⟩
          exact k H' (Same.refl _)
        · intro x hx _ H' _ Q k
          exact ⟨_, rfl, k H' (Same.refl _)⟩
        · intro H4 s4 e4
          rw [List.map_id, List.filter_map] at e4
          refine ⟨D2, _, rfl, SqL.of e4, fun c hc => ?_⟩
          refine ⟨_, rfl, (by show 2 ≤ sizeLine; decide), fun d hd => ?_⟩
          generalize hgs : ((cs.filter ((fun v => match v with | .int n => decide ((10 : Int) ^ 18 ≤ n) | _ => true) ∘ V.int)).map V.int).reverse = gs at *
          have hgs' : gs = ((cs.filter ((fun v => match v with | .int n => decide ((10 : Int) ^ 18 ≤ n) | _ => true) ∘ V.int)).reverse).map V.int := by
            rw [← hgs, List.map_reverse]
          have f1 : H c = none := s02.free (s4.free hc)
          have f2 : H d = none := (Same.new (o := .lst gs) (s02.trans s4) hc).free hd
          have ncd : c ≠ d := ne_of_none (H := upd H4 c (.lst gs)) upd_same hd
          refine q d c _ (Same.new (Same.new (s02.trans s4) hc) hd) f2 f1 ⟨(cs.filter ((fun v => match v with | .int n => decide ((10 : Int) ^ 18 ≤ n) | _ => true) ∘ V.int)).reverse, m, ⟨upd_same, ?_, ?_, ?_, m0, m1⟩⟩
          · rw [upd_ne ncd, upd_same, hgs']
          · intro n hn
            exact hcp n (List.mem_filter.mp (List.mem_reverse.mp hn)).1
          · rw [List.length_reverse]
            exact Nat.le_trans (List.length_filter_le _ _) hcl
end
end K03
namespace K03
open PySem PySem.Spec PyProof.Rows L2 U
section
variable {P : Program} {w : World} {K : PySem.W.Frag} {mg : Str → Option Value} {base : Heap}
theorem ok_l_pickS (T : Top K mg) : FnOk P w K mg base CX0 2 T.f_l_pick T.d_l_pick ["_law_deal_here", "_law_some"] spPickS := by
  have G_l_draw : FnOk P w K mg base CX0 1 T.f_l_draw T.d_l_draw ["_law_deal_here", "_law_many"] spDraw := ok_l_draw T
  refine T.F_l_pick.ok sc_l_pick (fun vs H Q E h => ?_) (fun cdv A outer s H vs Q E hr h => ?_)
  · obtain ⟨a, c, l, rfl, _⟩ := h
    rfl
  · obtain ⟨a, c, l, rfl, d, hn, hl, q⟩ := h
    have hpos : 0 < l.length := List.length_pos_iff.mpr hn
    refine ⟨_, (pss_one (ps_ret (pe_ix ix_str (pv 1) (pe_call G_l_draw (hr.mono (by decide)) (by rfl) T.g_l_draw T.F_l_draw.kp T.b_l_draw .nil pass0 (pa_cons (pv 0) (pa_cons (pe_callB call_len_str (by rfl) T.n_len (by decide +kernel) (pa_cons (pv 1) pa_nil)) pa_nil))) (fun _ _ => rfl)))), ?_⟩
    refine ⟨_, rfl, _, rfl, _, rfl, _, rfl, (by rw [S_len, sizeLine_eq]; omega), a, c, _, rfl, d, ?_, ?_, fun r H' r0 r1 d' kp => ?_⟩
    · rw [S_len]; omega
    · rw [S_len]; omega
    · rw [S_len] at r1
      have hi : r.toNat < l.length := by omega
      refine ⟨_, _, l[r.toNat], rfl, rfl, (by rw [S_len, sizeLine_eq]; omega), ?_, q _ _ (List.getElem_mem hi) d' kp⟩
      rw [S_toList]
      exact atI_int r0 (List.getElem?_eq_getElem hi)
theorem ok_l_pickL (T : Top K mg) : FnOk P w K mg base CX0 2 T.f_l_pick T.d_l_pick ["_law_deal_here", "_law_some"] (spPickL K) := by
  have G_l_draw : FnOk P w K mg base CX0 1 T.f_l_draw T.d_l_draw ["_law_deal_here", "_law_many"] spDraw := ok_l_draw T
  refine T.F_l_pick.ok sc_l_pick (fun vs H Q E h => ?_) (fun cdv A outer s H vs Q E hr h => ?_)
  · obtain ⟨a, c, p, xs, rfl, _⟩ := h
    rfl
  · obtain ⟨a, c, p, xs, rfl, d, hp, n1, n2, hn, hl, q⟩ := h
    have hpos : 0 < xs.length := List.length_pos_iff.mpr hn
    refine ⟨_, (pss_one (ps_ret (pe_ix ix_list (pv 1) (pe_call G_l_draw (hr.mono (by decide)) (by rfl) T.g_l_draw T.F_l_draw.kp T.b_l_draw .nil pass0 (pa_cons (pv 0) (pa_cons (pe_callB call_len_seq (by rfl) T.n_len (by decide +kernel) (pa_cons (pv 1) pa_nil)) pa_nil))) (fun _ _ => rfl)))), ?_⟩
    refine ⟨_, rfl, _, rfl, _, rfl, p, _, rfl, .inl hp, a, c, _, rfl, d, (by omega), (by omega), fun r H' r0 r1 d' kp => ?_⟩
    have hi : r.toNat < xs.length := by omega
    exact ⟨p, xs, _, xs[r.toNat], rfl, rfl, kp.sqL n1 n2 hp, atI_int r0 (List.getElem?_eq_getElem hi), q _ _ (List.getElem_mem hi) d' kp⟩
end
end K03
namespace K03
open PySem PySem.Spec PyProof.Rows L2 U
section
variable {P : Program} {w : World} {K : PySem.W.Frag} {mg : Str → Option Value} {base : Heap}
theorem ok_l_letters (T : Top K mg) : FnOk P w K mg base CX0 2 T.f_l_letters T.d_l_letters ["_law_deal_here", "_law_many"] spLetters := by
  have G_l_draw : FnOk P w K mg base CX0 1 T.f_l_draw T.d_l_draw ["_law_deal_here", "_law_many"] spDraw := ok_l_draw T
  refine T.F_l_letters.ok sc_l_letters (fun vs H Q E h => ?_) (fun cdv A outer s H vs Q E hr h => ?_)
  · obtain ⟨a, c, n, rfl, _⟩ := h
    rfl
  · obtain ⟨a, c, z, rfl, d, hz0, hn, q⟩ := h
    obtain ⟨n, rfl⟩ := nat_of hz0
    rw [Int.toNat_natCast] at q
    refine ⟨_, (pss_cons (ps_par (i := 2) (j := 3) (by rfl) sc_l_letters.nd rfl rfl (by decide) rfl rfl (pa_cons (pe_callTy (U.call_listS rfl) (by rfl) T.n_list (by decide +kernel) (pa_cons pe_str pa_nil)) (pa_cons (pe_lst pa_nil) pa_nil)) (by rfl))
        (pss_cons (ps_for PassesOwn.never rfl (pi_range1 (by rfl) T.n_range (pa_cons (pv 1) pa_nil)) (pg_name (i := 4) sc_l_letters.nd rfl (Or.inl rfl)) (pss_one (ps_expr (pe_bm PySem.F.plainAttrs_list PySem.F.slot_list_append PySem.F.type_list_append mt_append (pv 3) (pa_cons (pe_bm PySem.F.plainAttrs_list PySem.F.slot_list_pop PySem.F.type_list_pop mt_popAt (pv 2) (pa_cons (pe_call G_l_draw (hr.mono (by decide)) (by rfl) T.g_l_draw T.F_l_draw.kp T.b_l_draw .nil pass0 (pa_cons (pv 0) (pa_cons (pe_callB call_len_seq (by rfl) T.n_len (by decide +kernel) (pa_cons (pv 2) pa_nil)) pa_nil))) pa_nil)) pa_nil)))))
        (pss_one (ps_ret (pe_join pe_str (pe_callB cr_sortedS (by rfl) T.n_sorted (by decide +kernel) (pa_cons (pe_lc (own := [("_law_sign", 5)]) (g := gName 5) (tt := tYes) (by rfl) sc_l_letters.nd (pi_list (pv 3)) (blkOk_by (own := [("_law_sign", 5)]) (N := ["_law_deal_here", "_law_many", "_law_signs", "_law_found", "_law_turn", "_law_sign"]) (sc := defScope s_l_letters) (by decide +kernel)) (fun _ _ _ _ _ => pg_name (i := 5) sc_l_letters.nd rfl (Or.inl rfl)) (fun _ _ _ _ _ => pts_nil) (fun _ _ _ _ _ => (pe_callTy SkE.call_str_str (by rfl) T.n_str (by decide +kernel) (pa_cons (pv 5) pa_nil)))) pa_nil))))))), ?_⟩
    refine ⟨signs, (by rw [signs_S]), (by rw [signs_len, sizeLine_eq]; omega), fun p hp => ⟨Nat.zero_le _, fun f hf => ⟨_, _, rfl, ?_⟩⟩⟩
    have d1 : Deal (upd (upd H p (.lst (chars signs))) f (.lst [])) a c := (d.new hp).new hf
    have npf : p ≠ f := ne_of_none (H := upd H p (.lst (chars signs))) upd_same hf
    have hf0 : H f = none := by
      rw [upd_ne npf.symm] at hf
      exact hf
    refine ⟨_, rfl, (n : Int), rfl, by omega, by omega, ?_⟩
    refine for_it (src_range 0 (n : Int).toNat).w (fun i σ H' => ∃ (v : Option V) (rest got : List Nat), σ = [some (.ref a), some (.int (n : Int)), some (.ref p), some (.ref f), v, none] ∧ Deal H' a c ∧ Kp a c H H' ∧ H' p = some (.lst (chars rest)) ∧ H' f = some (.lst (chars got)) ∧ (got ++ rest).Perm signs ∧ got.length = i)
      ⟨none, signs, [], rfl, d1, ((Kp.refl _ _ _).new hp).new hf0, by rw [upd_ne npf, upd_same], by rw [upd_same]; rfl, List.Perm.refl _, rfl⟩ (fun _ _ _ _ _ => trivial) ?_ ?_
    · rintro i x σ H1 H2 hi ⟨v, rest, got, rfl, d2, kp, e1, e2, pm, gl⟩ ⟨rfl, hx⟩
      rw [rngV_len] at hi
      have hrl : got.length + rest.length = 40 := by
        have := pm.length_eq
        rw [List.length_append, signs_len] at this
        exact this
      have hcl : (chars rest).length = rest.length := by simp [chars]
      have np := d.ne hp
      have nf := d.ne hf0
      refine ⟨_, rfl, .inl ⟨rfl, _, SqL.of e2⟩, _, rfl, .inl ⟨rfl, _, SqL.of e1⟩, _, rfl, _, rfl, p, _, rfl, .inl (SqL.of e1), a, c, _, rfl, d2, (by omega), (by omega), fun r H3 r0 r1 d3 kp3 => ?_⟩
      rw [hcl] at r1
      have e1' := kp3 _ _ np.1 np.2 e1
      have e2' := kp3 _ _ nf.1 nf.2 e2
      have hr : r.toNat < rest.length := by omega
      refine ⟨p, _, r, r.toNat, .str (S [rest[r.toNat]]), rfl, rfl, e1', (by omega), (by omega), seqIx r0 (by omega), by simp [chars, hr], ?_⟩
      have e2'' : (upd H3 p (.lst ((chars rest).eraseIdx r.toNat))) f = some (.lst (chars got)) := by
        rw [upd_ne npf.symm]
        exact e2'
      refine ⟨f, _, _, rfl, rfl, e2'', ?_, ?_⟩
      · have : (chars got).length = got.length := by simp [chars]
        rw [this]
        exact small1000 (by omega)
      · refine ⟨_, rest.eraseIdx r.toNat, got ++ [rest[r.toNat]], rfl, (d3.upd np.1 np.2).upd nf.1 nf.2, ((kp.trans kp3).new hp).new hf0, ?_, ?_, ?_, by simp [gl]⟩
        · rw [upd_ne npf, upd_same]
          rw [show (chars rest).eraseIdx r.toNat = chars (rest.eraseIdx r.toNat) from map_erase _ _ _]
        · rw [upd_same]
          simp [chars]
        · refine List.Perm.trans ?_ pm
          rw [List.append_assoc]
          refine List.Perm.append_left _ ?_
          exact erase_perm rest r.toNat hr
    · rintro σ H1 ⟨v, rest, got, rfl, d2, kp, e1, e2, pm, gl⟩
      rw [rngV_len] at gl
      have gl : got.length = n := by simpa using gl
      have hcl : (chars got).length = got.length := by simp [chars]
      refine ⟨⟨_, rfl⟩, _, rfl, f, rfl, ⟨_, SqL.of e2⟩, fun D hD => ?_⟩
      refine lcM (src_list K f (chars got)) id (SqL.of e2) hD (fun _ => rfl) (by omega) ?_ ?_
      · intro x hx H' _ Q k
        obtain ⟨z, _, rfl⟩ := List.mem_map.mp hx
        exact ⟨_, rfl, _, rfl, k H' (Same.refl _)⟩
      · intro H2 s2 eD
        rw [List.map_id, chars_eq] at eD
        refine ⟨D, _, rfl, SqL.of eD, (by rw [List.length_map]; omega), fun ys q1 pm2 hs hq1 => ?_⟩
        obtain ⟨l, pl, rfl⟩ := perm_ones pm2
        have hll : l.length = n := by rw [pl.length_eq, gl]
        refine ⟨S [], q1, _, rfl, rfl, .inl (SqL.of upd_same), ?_, ?_⟩
        · rw [len_ones, S_len, List.length_map]
          simp only [List.length_nil]
          omega
        · rw [joinOnes]
          have nd : got.Nodup := (List.nodup_append.mp (pm.nodup_iff.mpr signs_nd)).1
          refine q l _ ⟨hll, asc_of (sorted_ones hs) (pl.nodup_iff.mpr nd), fun x hx => pm.mem_iff.mp (List.mem_append_left _ (pl.mem_iff.mp hx))⟩ ?_ ?_
          · obtain ⟨ns, m, d2⟩ := d2
            refine ⟨ns, m, ⟨?_, ?_, d2.pos, d2.few, d2.m0, d2.m1⟩⟩
            · rw [upd_ne (ne_of_none (s2 _ _ d2.hd) hq1)]
              exact s2 _ _ d2.hd
            · rw [upd_ne (ne_of_none (s2 _ _ d2.cs) hq1)]
              exact s2 _ _ d2.cs
          · exact (kp.trans (Same.kp s2)).new' hq1
theorem ok_l_word (T : Top K mg) : FnOk P w K mg base CX0 3 T.f_l_word T.d_l_word ["_law_deal_here", "_law_letters_here", "_law_most"] spWord := by
  have G_l_draw : FnOk P w K mg base CX0 1 T.f_l_draw T.d_l_draw ["_law_deal_here", "_law_many"] spDraw := ok_l_draw T
  have G_l_pick : FnOk P w K mg base CX0 2 T.f_l_pick T.d_l_pick ["_law_deal_here", "_law_some"] spPickS := ok_l_pickS T
  refine T.F_l_word.ok sc_l_word (fun vs H Q E h => ?_) (fun cdv A outer s H vs Q E hr h => ?_)
  · obtain ⟨a, c, l, n, rfl, _⟩ := h
    rfl
  · obtain ⟨a, c, l, z, rfl, d, hne, hl, hz0, hn, q⟩ := h
    obtain ⟨n, rfl⟩ := nat_of hz0
    rw [Int.toNat_natCast] at q
    refine ⟨_, (pss_one (ps_ret (pe_join pe_str (pe_lc (own := [("_law_k", 3)]) (g := gName 3) (tt := tYes) (by rfl) sc_l_word.nd (pi_range1 (by rfl) T.n_range (pa_cons (pe_call G_l_draw (hr.mono (by decide)) (by rfl) T.g_l_draw T.F_l_draw.kp T.b_l_draw .nil pass0 (pa_cons (pv 0) (pa_cons (pe_op op_add (pv 2) pe_int) pa_nil))) pa_nil)) (blkOk_by (own := [("_law_k", 3)]) (N := ["_law_deal_here", "_law_letters_here", "_law_most", "_law_k"]) (sc := defScope s_l_word) (by decide +kernel)) (fun _ _ _ _ _ => pg_name (i := 3) sc_l_word.nd rfl (Or.inl rfl)) (fun _ _ _ _ _ => pts_nil) (fun _ _ _ _ _ => (pe_call G_l_pick (hr.mono (by decide)) (by rfl) T.g_l_pick T.F_l_pick.kp T.b_l_pick .nil pass0 (pa_cons (pv 0) (pa_cons (pv 1) pa_nil)))))))), ?_⟩
    refine ⟨⟨_, rfl⟩, _, rfl, _, rfl, _, _, rfl, rfl, a, c, _, rfl, d, (by omega), (by omega), fun r H1 r0 r1 d1 kp1 => ?_⟩
    refine ⟨r, rfl, by omega, by omega, fun D hD => ?_⟩
    have hD0 : H D = none := d.free kp1 d1 hD
    have nD := d1.ne hD
    refine lc_it (src_range 0 r.toNat).w (fun i H' => ∃ x : List Nat, Deal H' a c ∧ Kp a c H H' ∧ H' D = some (.lst (chars x)) ∧ x.length = i ∧ ∀ y ∈ x, y ∈ l) ⟨[], d1.new hD, kp1.new hD0, by rw [upd_same]; rfl, rfl, fun _ h => (nomatch h)⟩ (fun _ _ _ _ => trivial) ?_ ?_
    · rintro i x H2 H3 hi ⟨z, d2, kp2, e2, zl, zs⟩ ⟨rfl, hx⟩
      rw [rngV_len] at hi
      refine ⟨rfl, ?_⟩
      refine ⟨_, rfl, _, rfl, a, c, l, rfl, d2, hne, hl, fun y H4 hy d4 kp4 => ?_⟩
      refine ⟨_, kp4 _ _ nD.1 nD.2 e2, ?_, z ++ [y], d4.upd nD.1 nD.2, (kp2.trans kp4).new hD0, ?_, by simp [zl], ?_⟩
      · have : (chars z).length = z.length := by simp [chars]
        rw [this, zl, sizeLine_eq]
        omega
      · rw [upd_same]
        simp [chars]
      · intro u hu
        rcases List.mem_append.mp hu with h | h
        · exact zs u h
        · rw [List.mem_singleton.mp h]
          exact hy
    · rintro H2 ⟨z, d2, kp2, e2, zl, zs⟩
      rw [rngV_len] at zl
      rw [chars_eq] at e2
      refine ⟨S [], D, _, rfl, rfl, .inl (SqL.of e2), ?_, ?_⟩
      · rw [len_ones, S_len, List.length_map]
        simp only [List.length_nil]
        omega
      · rw [joinOnes]
        exact q z _ (by omega) zs d2 kp2
end
end K03
namespace K03
open PySem PySem.Spec PyProof.Rows L2 U
section
variable {P : Program} {w : World} {K : PySem.W.Frag} {mg : Str → Option Value} {base : Heap}
def sp_is_text : Sp := fun vs H Q _ => ∃ (L x : List Nat), vs = [.str (S L), .str (S x)] ∧ x.length ≤ 100000 ∧ ∀ H', Same H H' → Q (.bl (x.all fun c => decide (c ∈ L))) H'
theorem ok_is_text (T : Top K mg) : FnOk P w K mg base CX0 1 T.f_is_text T.d_is_text ["letters", "value"] sp_is_text := by
  refine T.F_is_text.ok sc_is_text (fun vs H Q E h => ?_) (fun cdv A outer s H vs Q E hr h => ?_)
  · obtain ⟨L, x, rfl, _⟩ := h
    rfl
  · obtain ⟨L, x, rfl, hl, q⟩ := h
    refine ⟨_, (pss_one (ps_ret (pe_and (pe_callB call_isi (by rfl) T.n_isinstance (by decide +kernel) (pa_cons (pv 1) (pa_cons (pe_bltn (v := .ty "str") (by rfl) T.n_str (by decide +kernel) rfl) pa_nil))) (pe_one (pe_callB (cr_all rfl) (by rfl) T.n_all (by decide +kernel) (pa_cons (pe_lc (own := [("letter", 2)]) (g := gName 2) (tt := tYes) (by rfl) sc_is_text.nd (pi_str (pv 1)) (blkOk_by (own := [("letter", 2)]) (N := ["letters", "value", "letter"]) (sc := defScope s_is_text) (by decide +kernel)) (fun _ _ _ _ _ => pg_name (i := 2) sc_is_text.nd rfl (Or.inl rfl)) (fun _ _ _ _ _ => pts_nil) (fun _ _ _ _ _ => (pe_cmpR op_in_sign (pv 2) (pv 0) (by rfl)))) pa_nil)))))), ?_⟩
    refine ⟨_, rfl, .str (S x), .ty "str", _, _, true, rfl, .ty _, .base (.str _), kit_ty (by decide +kernel), true, rfl, ?_⟩
    refine iteT ?_
    refine ⟨_, rfl, _, rfl, fun D hD => ?_⟩
    refine lcM (src_str x) (fun v => match v with | .str z => .bl (decide (z.cps.toList.headD 0 ∈ L)) | v => v) trivial hD (fun _ => rfl) (by simpa [chars] using hl) ?_ ?_
    · intro v hv H' _ Q k
      obtain ⟨c, hc, rfl⟩ := List.mem_map.mp hv
      refine ⟨_, rfl, _, rfl, c, _, rfl, rfl, ?_⟩
      rw [S_toList]
      exact k H' (Same.refl _)
    · intro H2 s2 e2
      refine ⟨D, x.map fun c => decide (c ∈ L), rfl, SqL.of ?_, ?_⟩
      · rw [e2, chars, List.map_map, List.map_map]
        simp [S]
        all_goals (intros; first | rfl | congr)
      · have := q H2 s2
        simpa [List.all_map] using this
def sp_number_of : Sp := fun vs H Q _ => ∃ (L x : List Nat), vs = [.str (S L), .str (S x)] ∧ L.Nodup ∧ L.length ≤ 5 ∧ (∀ y ∈ x, y ∈ L) ∧ Q (.int (M3.val L.length (x.map (M3.ix L)) : Nat)) H
theorem ok_number_of (T : Top K mg) : FnOk P w K mg base CX0 1 T.f_number_of T.d_number_of ["letters", "name"] sp_number_of := by
  refine T.F_number_of.ok sc_number_of (fun vs H Q E h => ?_) (fun cdv A outer s H vs Q E hr h => ?_)
  · obtain ⟨L, x, rfl, _⟩ := h
    rfl
  · obtain ⟨L, x, rfl, nd, hl, hx, q⟩ := h
    refine ⟨_, (pss_cons (ps_set (i := 2) sc_number_of.nd rfl (Or.inl rfl) pe_int)
        (pss_cons (ps_for PassesOwn.never rfl (pi_str (pv 1)) (pg_name (i := 3) sc_number_of.nd rfl (Or.inl rfl)) (pss_one (ps_set (i := 2) sc_number_of.nd rfl (Or.inl rfl) (pe_op op_add (pe_op op_add (pe_op op_mul (pv 2) (pe_callB call_len_str (by rfl) T.n_len (by decide +kernel) (pa_cons (pv 0) pa_nil))) (pe_bm PySem.F.plainAttrs_str PySem.F.slot_str_index PySem.F.type_str_index mt_sindex (pv 0) (pa_cons (pv 3) pa_nil))) pe_int))))
        (pss_one (ps_ret (pv 2))))), ?_⟩
    refine ⟨_, rfl, _, rfl, ?_⟩
    refine for_it (src_str x).w (fun i σ H' => ∃ v, σ = [some (.str (S L)), some (.str (S x)), some (.int (M3.val L.length ((x.take i).map (M3.ix L)) : Nat)), v] ∧ H' = H) ⟨none, rfl, rfl⟩ (fun _ _ _ _ _ => trivial) ?_ ?_
    · rintro i v σ H1 H2 hi ⟨u, rfl, rfl⟩ ⟨rfl, hv⟩
      have hv : ((x.map fun c => V.str (S [c])))[i]? = some v := hv
      rw [List.getElem?_map] at hv
      cases hc : x[i]? with
      | none => rw [hc] at hv; cases hv
      | some c =>
        rw [hc] at hv
        cases hv
        have hm := hx c (List.mem_of_getElem? hc)
        obtain ⟨rest, ho⟩ := idx_occ nd hm
        refine ⟨_, rfl, _, rfl, _, rfl, (by rw [S_len, sizeLine_eq]; omega), _, _, rfl, rfl, .inr ?_, ?_⟩
        · rw [S_len]
          constructor <;> omega
        · refine ⟨_, rfl, rfl, _, rfl, _, _, _, _, rfl, rfl, ho, _, _, rfl, rfl, _, _, rfl, rfl, ⟨some (.str (S [c])), ?_, rfl⟩⟩
          rw [List.take_add_one, hc, S_len]
          show _ = [_, _, some (V.int ((M3.val L.length (List.map (M3.ix L) (x.take i ++ [c])) : Nat) : Int)), _]
          rw [List.map_append, List.map_cons, List.map_nil, M3.val_app]
          simp only [Int.natCast_add, Int.natCast_mul]
          rfl
    · rintro σ H1 ⟨u, rfl, rfl⟩
      refine ⟨_, rfl, ?_⟩
      have e : x.take (chars x).length = x := List.take_of_length_le (by simp [chars])
      rw [e]
      exact q
def sp_name_at : Sp := fun vs H Q _ => ∃ (L : List Nat) (z : Int), vs = [.str (S L), .int z] ∧ 2 ≤ L.length ∧ L.length ≤ 5 ∧ 0 ≤ z ∧ z < 2 ^ 250 ∧ Q (.str (S ((M3.nm L.length z.toNat).map (L.getD · 0)))) H
theorem ok_name_at (T : Top K mg) : FnOk P w K mg base CX0 1 T.f_name_at T.d_name_at ["letters", "number"] sp_name_at := by
  refine T.F_name_at.ok sc_name_at (fun vs H Q E h => ?_) (fun cdv A outer s H vs Q E hr h => ?_)
  · obtain ⟨L, x, rfl, _⟩ := h
    rfl
  · obtain ⟨L, z, rfl, h2, h5, hz0, hk, q⟩ := h
    obtain ⟨k, rfl⟩ := nat_of hz0
    rw [Int.toNat_natCast] at q
    have hk : k < 2 ^ 250 := by omega
    refine ⟨_, (pss_cons (ps_set (i := 2) sc_name_at.nd rfl (Or.inl rfl) (pe_callB (call_max2 rfl) (by rfl) T.n_max (by decide +kernel) (pa_cons pe_int (pa_cons (pe_callB call_len_str (by rfl) T.n_len (by decide +kernel) (pa_cons (pv 0) pa_nil)) pa_nil))))
        (pss_cons (ps_par (i := 3) (j := 4) (by rfl) sc_name_at.nd rfl rfl (by decide) rfl rfl (pa_cons pe_str (pa_cons (pv 1) pa_nil)) (by rfl))
        (pss_cons (ps_while PassesOwn.never (pt_cmpR op_gt (pv 4) pe_int (nomark _)) (pss_cons (ps_aug (i := 4) sc_name_at.nd rfl (Or.inl rfl) pe_int ip_sub)
        (pss_cons (ps_set (i := 3) sc_name_at.nd rfl (Or.inl rfl) (pe_op op_add_str (pe_ix ix_str (pv 0) (pe_op op_mod (pv 4) (pv 2)) (fun _ _ => rfl)) (pv 3)))
        (pss_one (ps_set (i := 4) sc_name_at.nd rfl (Or.inl rfl) (pe_op op_fdivW (pv 4) (pv 2)))))))
        (pss_one (ps_ret (pv 3)))))), ?_⟩
    refine ⟨_, rfl, _, rfl, (by rw [S_len, sizeLine_eq]; omega), _, _, rfl, ?_⟩
    rw [S_len, if_pos (by omega)]
    refine ⟨_, rfl, _, _, rfl, ?_⟩
    refine ⟨fun m σ H' => ∃ (d : List Nat) (left : Nat), σ = [some (.str (S L)), some (.int (k : Int)), some (.int (L.length : Int)), some (.str (S (d.map (L.getD · 0)))), some (.int (left : Int))] ∧ left = m ∧ H' = H ∧ M3.nm L.length k = M3.nm L.length left ++ d ∧ d.length ≤ 250 ∧ left < 2 ^ (250 - d.length), ⟨k, [], k, rfl, rfl, rfl, by simp, by simp, hk⟩, ?_⟩
    rintro m σ H1 ⟨d, left, rfl, rfl, rfl, e, hd, hl⟩
    refine ⟨_, rfl, _, _, rfl, rfl, _, rfl, ?_⟩
    by_cases h0 : left = 0
    · subst h0
      refine iteF ?_
      refine ⟨_, rfl, ?_⟩
      rw [M3.nm_zero, List.nil_append] at e
      rw [e] at q
      exact q
    · have hp : (0 : Int) < (left : Int) := by omega
      rw [decide_eq_true hp]
      refine iteT ?_
      have hd2 : d.length < 250 := by
        apply Nat.lt_of_not_le
        intro h
        rw [show 250 - d.length = 0 by omega] at hl
        simp at hl
        omega
      have em := M3.nm_pos (n := L.length) (k := left) (by omega) (by omega)
      have hle : (left - 1) / L.length ≤ (left - 1) / 2 := Nat.div_le_div_left h2 (by decide)
      have hm : (left - 1) % L.length < L.length := Nat.mod_lt _ (by omega)
      have ed : (left : Int) - 1 = ((left - 1 : Nat) : Int) := by omega
      refine ⟨fun σ' H' => ∃ (d : List Nat) (left' : Nat), left' < left ∧ σ' = [some (.str (S L)), some (.int (k : Int)), some (.int (L.length : Int)), some (.str (S (d.map (L.getD · 0)))), some (.int (left' : Int))] ∧ H' = H1 ∧ M3.nm L.length k = M3.nm L.length left' ++ d ∧ d.length ≤ 250 ∧ left' < 2 ^ (250 - d.length), fun σ' H' ⟨d, l', h1, h2, h3, h4, h5, h6⟩ => ⟨l', h1, d, l', h2, rfl, h3, h4, h5, h6⟩, ?_⟩
      refine ⟨_, rfl, _, _, rfl, rfl, ?_⟩
      refine ⟨_, rfl, _, rfl, _, rfl, _, _, rfl, rfl, (by show (0 : Int) < (L.length : Int); omega), ?_⟩
      refine ⟨_, _, L.getD ((left - 1) % L.length) 0, rfl, rfl, (by rw [S_len, sizeLine_eq]; omega), ?_, ?_⟩
      · rw [S_toList]
        show atI L (((left : Int) - 1) % (L.length : Int)) = _
        rw [ed, ← Int.natCast_emod]
        exact atI_nat (getD_get hm)
      · refine ⟨_, rfl, _, _, rfl, rfl, ?_, ?_⟩
        · show (S [_]).length + _ ≤ _
          rw [S_len, S_len, List.length_map, sizeLine_eq]
          simp
          omega
        · refine ⟨_, rfl, _, rfl, _, _, rfl, rfl, lt200 (by omega) (by omega), ?_⟩
          refine ⟨(left - 1) % L.length :: d, (left - 1) / L.length, by omega, ?_, rfl, ?_, ?_, ?_⟩
          · show [some (V.str (S L)), some (V.int (k : Int)), some (V.int (L.length : Int)), some (V.str (S [L.getD ((left - 1) % L.length) 0] ++ S (d.map (L.getD · 0)))), some (V.int (((left : Int) - 1) / (L.length : Int)))] = _
            rw [ed, ← Int.natCast_ediv, S_app]
            rfl
          · rw [e, em, List.append_assoc]
            rfl
          · simp; omega
          · have h9 : 2 ^ (250 - d.length) = 2 ^ (250 - (d.length + 1)) * 2 := by
              rw [← Nat.pow_succ]
              congr 1
              omega
            simp only [List.length_cons]
            omega
def sp_count : Sp := fun vs H Q _ => ∃ (L x : List Nat), vs = [.str (S L), .str (S x)] ∧ L.Nodup ∧ 1 ≤ L.length ∧ L.length ≤ 5 ∧ x.length ≤ 1000 ∧ (∀ y ∈ x, y ∈ L) ∧ ∀ H', Same H H' → Q (.int (M3.val L.length (x.map (M3.ix L)) : Nat)) H'
theorem ok_l_count (T : Top K mg) : FnOk P w K mg base CX0 1 T.f_l_count T.d_l_count ["_law_letters_here", "_law_name"] sp_count := by
  refine T.F_l_count.ok sc_l_count (fun vs H Q E h => ?_) (fun cdv A outer s H vs Q E hr h => ?_)
  · obtain ⟨L, x, rfl, _⟩ := h
    rfl
  · obtain ⟨L, x, rfl, nd, h1, h5, hxl, hx, q⟩ := h
    refine ⟨_, (pss_cons (ps_asg (pe_tup (pa_cons pe_int (pa_cons pe_int pa_nil))) (pg_tup rfl (pgs_cons (pg_name (i := 2) sc_l_count.nd rfl (Or.inl rfl)) (pgs_cons (pg_name (i := 3) sc_l_count.nd rfl (Or.inl rfl)) pgs_nil))))
        (pss_cons (ps_for PassesOwn.never rfl (pi_range1 (by rfl) T.n_range (pa_cons (pe_callB call_len_str (by rfl) T.n_len (by decide +kernel) (pa_cons (pv 1) pa_nil)) pa_nil)) (pg_name (i := 4) sc_l_count.nd rfl (Or.inl rfl)) (pss_cons (ps_set (i := 2) sc_l_count.nd rfl (Or.inl rfl) (pe_op op_add (pv 2) (pv 3)))
        (pss_one (ps_set (i := 3) sc_l_count.nd rfl (Or.inl rfl) (pe_op op_mul (pv 3) (pe_callB call_len_str (by rfl) T.n_len (by decide +kernel) (pa_cons (pv 0) pa_nil)))))))
        (pss_cons (ps_for PassesOwn.never rfl (pi_str (pv 1)) (pg_name (i := 5) sc_l_count.nd rfl (Or.inl rfl)) (pss_cons (ps_set (i := 3) sc_l_count.nd rfl (Or.inl rfl) (pe_op op_fdivW (pv 3) (pe_callB call_len_str (by rfl) T.n_len (by decide +kernel) (pa_cons (pv 0) pa_nil))))
        (pss_one (ps_set (i := 2) sc_l_count.nd rfl (Or.inl rfl) (pe_op op_add (pv 2) (pe_op op_mul (pv 3) (pe_bm PySem.F.plainAttrs_str PySem.F.slot_str_index PySem.F.type_str_index mt_sindex (pv 0) (pa_cons (pv 5) pa_nil))))))))
        (pss_one (ps_ret (pv 2)))))), ?_⟩
    refine ⟨(by show 2 ≤ sizeLine; decide), fun p hp => ⟨p, _, rfl, SqT.of upd_same, rfl, _, _, rfl, _, _, rfl, rfl, ?_⟩⟩
    refine ⟨_, rfl, _, rfl, (by rw [S_len, sizeLine_eq]; omega), _, rfl, by omega, by rw [S_len]; omega, ?_⟩
    rw [S_len]
    refine for_it (src_range 0 (x.length : Int).toNat).w (fun i σ H' => ∃ v, σ = [some (.str (S L)), some (.str (S x)), some (.int (M3.geo L.length i : Nat)), some (.int (L.length ^ i : Nat)), v, none] ∧ H' = upd H p (.tup [.int 0, .int 1])) ⟨none, rfl, rfl⟩ (fun _ _ _ _ _ => trivial) ?_ ?_
    · rintro i v σ H1 H2 hi ⟨u, rfl, rfl⟩ ⟨rfl, hv⟩
      refine ⟨_, rfl, _, rfl, _, _, rfl, rfl, ?_⟩
      refine ⟨_, rfl, _, rfl, _, rfl, (by rw [S_len, sizeLine_eq]; omega), _, _, rfl, rfl, .inr (by rw [S_len]; constructor <;> omega), some v, ?_, rfl⟩
      rw [S_len]
      show [some (V.str (S L)), some (V.str (S x)), some (V.int ((M3.geo L.length i : Nat) + (L.length ^ i : Nat))), some (V.int ((L.length ^ i : Nat) * (L.length : Int))), some v, none] = _
      rw [← Int.natCast_mul, ← Nat.pow_succ, ← Int.natCast_add]
      rfl
    · rintro σ H1 ⟨u, rfl, rfl⟩
      rw [rngV_len, Int.toNat_natCast]
      refine ⟨_, rfl, _, rfl, ?_⟩
      refine for_it (src_str x).w (fun i σ H' => ∃ u v, σ = [some (.str (S L)), some (.str (S x)), some (.int (M3.geo L.length x.length + M3.pv L.length ((x.take i).map (M3.ix L)) * L.length ^ (x.length - i) : Nat)), some (.int (L.length ^ (x.length - i) : Nat)), u, v] ∧ H' = upd H p (.tup [.int 0, .int 1])) ⟨u, none, by simp [M3.pv], rfl⟩ (fun _ _ _ _ _ => trivial) ?_ ?_
      · rintro i v σ H1 H2 hi ⟨u, u', rfl, rfl⟩ ⟨rfl, hv⟩
        have hv : ((x.map fun c => V.str (S [c])))[i]? = some v := hv
        rw [List.getElem?_map] at hv
        cases hc : x[i]? with
        | none => rw [hc] at hv; cases hv
        | some c =>
          rw [hc] at hv
          cases hv
          have hil : i < x.length := (List.getElem?_eq_some_iff.mp hc).1
          have hm := hx c (List.mem_of_getElem? hc)
          have hxc := M3.ix_lt hm
          obtain ⟨rest, ho⟩ := idx_occ nd hm
          have e1 : L.length ^ (x.length - i) = L.length ^ (x.length - (i + 1)) * L.length := by
            rw [← Nat.pow_succ]
            congr 1
            omega
          have e2 : L.length ^ (x.length - i) / L.length = L.length ^ (x.length - (i + 1)) := by
            rw [e1, Nat.mul_div_cancel _ (by omega)]
          refine ⟨_, rfl, _, rfl, _, rfl, (by rw [S_len, sizeLine_eq]; omega), _, _, rfl, rfl, lt200 (by rw [S_len]; omega) (by rw [S_len]; omega), ?_⟩
          refine ⟨_, rfl, _, rfl, _, rfl, rfl, _, rfl, _, _, _, _, rfl, rfl, ho, _, _, rfl, rfl, .inr (by constructor <;> omega), _, _, rfl, rfl, u, some (.str (S [c])), ?_, rfl⟩
          rw [S_len]
          show [some (V.str (S L)), some (V.str (S x)), some (V.int ((M3.geo L.length x.length + M3.pv L.length ((x.take i).map (M3.ix L)) * L.length ^ (x.length - i) : Nat) + ((L.length ^ (x.length - i) : Nat) : Int) / (L.length : Int) * (M3.ix L c : Int))), some (V.int (((L.length ^ (x.length - i) : Nat) : Int) / (L.length : Int))), u, some (V.str (S [c]))] = _
          rw [← Int.natCast_ediv, e2, ← Int.natCast_mul, ← Int.natCast_add]
          have e3 : M3.geo L.length x.length + M3.pv L.length ((x.take i).map (M3.ix L)) * L.length ^ (x.length - i) + L.length ^ (x.length - (i + 1)) * M3.ix L c = M3.geo L.length x.length + M3.pv L.length ((x.take (i + 1)).map (M3.ix L)) * L.length ^ (x.length - (i + 1)) := by
            rw [List.take_add_one, hc]
            show _ = _ + M3.pv L.length ((x.take i ++ [c]).map (M3.ix L)) * _
            rw [List.map_append, List.map_cons, List.map_nil, M3.pv_app, e1, Nat.add_mul, Nat.mul_comm (L.length ^ (x.length - (i + 1))) L.length, Nat.mul_assoc, Nat.mul_comm (M3.ix L c)]
            omega
          rw [e3]
      · rintro σ H1 ⟨u, u', rfl, rfl⟩
        refine ⟨_, rfl, ?_⟩
        have e : (chars x).length = x.length := by simp [chars]
        rw [e, List.take_length, Nat.sub_self, Nat.pow_zero, Nat.mul_one]
        have := q _ (Same.new (o := .tup [.int 0, .int 1]) (Same.refl H) hp)
        rw [M3.val_eq, List.length_map] at this
        exact this
end
end K03
namespace K03
open PySem PySem.Spec PyProof.Rows L2 U
section
variable {P : Program} {w : World} {K : PySem.W.Frag} {mg : Str → Option Value} {base : Heap}
def spLaw (K : PySem.W.Frag) : Sp := fun vs H Q _ => ∃ (a : Addr) (ns : List Int), vs = [.ref a] ∧ SqL K H a (ns.map V.int) ∧ ns.length ≤ 63 ∧ ∀ H', Q (.bl true) H'
theorem menu {v : V} (h : v ∈ [V.int 9, V.int 100, V.int ((10 : Int) ^ (9 : Int).toNat), V.int ((10 : Int) ^ (18 : Int).toNat), V.int ((10 : Int) ^ (30 : Int).toNat)]) : ∃ M : Int, v = .int M ∧ 1 ≤ M ∧ M ≤ 10 ^ 30 := by
  simp only [List.mem_cons, List.not_mem_nil, or_false] at h
  rcases h with rfl | rfl | rfl | rfl | rfl <;> exact ⟨_, rfl, by decide, by decide⟩
theorem ok_law (T : Top K mg) : FnOk P w K mg base CX0 4 T.f_law T.d_law ["_law_script"] (spLaw K) := by
  have G_l_draw : FnOk P w K mg base CX0 1 T.f_l_draw T.d_l_draw ["_law_deal_here", "_law_many"] spDraw := ok_l_draw T
  have G_l_pick : FnOk P w K mg base CX0 2 T.f_l_pick T.d_l_pick ["_law_deal_here", "_law_some"] (spPickL K) := ok_l_pickL T
  have G_l_deal : FnOk P w K mg base CX0 1 T.f_l_deal T.d_l_deal ["_law_script", "_law_base"] (spDeal K) := ok_l_deal T
  have G_l_letters : FnOk P w K mg base CX0 2 T.f_l_letters T.d_l_letters ["_law_deal_here", "_law_many"] spLetters := ok_l_letters T
  have G_l_word : FnOk P w K mg base CX0 3 T.f_l_word T.d_l_word ["_law_deal_here", "_law_letters_here", "_law_most"] spWord := ok_l_word T
  have G_is_text : FnOk P w K mg base CX0 1 T.f_is_text T.d_is_text ["letters", "value"] sp_is_text := ok_is_text T
  have G_number_of : FnOk P w K mg base CX0 1 T.f_number_of T.d_number_of ["letters", "name"] sp_number_of := ok_number_of T
  have G_name_at : FnOk P w K mg base CX0 1 T.f_name_at T.d_name_at ["letters", "number"] sp_name_at := ok_name_at T
  have G_l_count : FnOk P w K mg base CX0 1 T.f_l_count T.d_l_count ["_law_letters_here", "_law_name"] sp_count := ok_l_count T
  refine T.F_law.ok sc_law (fun vs H Q E h => ?_) (fun cdv A outer s H vs Q E hr h => ?_)
  · obtain ⟨a, ns, rfl, _⟩ := h
    rfl
  · obtain ⟨s0, ns, rfl, hS, hlen, q⟩ := h
    refine ⟨_, (pss_cons (ps_set (i := 1) sc_law.nd rfl (Or.inl rfl) (pe_call G_l_deal (hr.mono (by decide)) (by rfl) T.g_l_deal T.F_l_deal.kp T.b_l_deal .nil pass0 (pa_cons (pv 0) (pa_cons pe_int pa_nil))))
        (pss_cons (ps_for PassesOwn.never rfl (pi_range1 (by rfl) T.n_range (pa_cons pe_int pa_nil)) (pg_name (i := 2) sc_law.nd rfl (Or.inl rfl)) (pss_cons (ps_set (i := 3) sc_law.nd rfl (Or.inl rfl) (pe_call G_l_letters (hr.mono (by decide)) (by rfl) T.g_l_letters T.F_l_letters.kp T.b_l_letters .nil pass0 (pa_cons (pv 1) (pa_cons (pe_op op_add pe_int (pe_call G_l_draw (hr.mono (by decide)) (by rfl) T.g_l_draw T.F_l_draw.kp T.b_l_draw .nil pass0 (pa_cons (pv 1) (pa_cons pe_int pa_nil)))) pa_nil))))
        (pss_cons (ps_set (i := 4) sc_law.nd rfl (Or.inl rfl) (pe_call G_l_pick (hr.mono (by decide)) (by rfl) T.g_l_pick T.F_l_pick.kp T.b_l_pick .nil pass0 (pa_cons (pv 1) (pa_cons (pe_lst (pa_cons pe_int (pa_cons pe_int (pa_cons (pe_op op_pow pe_int pe_int) (pa_cons (pe_op op_pow pe_int pe_int) (pa_cons (pe_op op_pow pe_int pe_int) pa_nil)))))) pa_nil))))
        (pss_cons (ps_set (i := 5) sc_law.nd rfl (Or.inl rfl) (pe_call G_l_draw (hr.mono (by decide)) (by rfl) T.g_l_draw T.F_l_draw.kp T.b_l_draw .nil pass0 (pa_cons (pv 1) (pa_cons (pv 4) pa_nil))))
        (pss_cons (ps_set (i := 6) sc_law.nd rfl (Or.inl rfl) (pe_call G_name_at (hr.mono (by decide)) (by rfl) T.g_name_at T.F_name_at.kp T.b_name_at .nil pass0 (pa_cons (pv 3) (pa_cons (pv 5) pa_nil))))
        (pss_cons (ps_if (PW.pt (pw_or (pt_not (pt_val (pe_call G_is_text (hr.mono (by decide)) (by rfl) T.g_is_text T.F_is_text.kp T.b_is_text .nil pass0 (pa_cons (pv 3) (pa_cons (pv 6) pa_nil))))) (pw_or1 (pt_cmpR op_ne (pe_callB SkE.call_repr_int (by rfl) T.n_repr (by decide +kernel) (pa_cons (pe_call G_number_of (hr.mono (by decide)) (by rfl) T.g_number_of T.F_number_of.kp T.b_number_of .nil pass0 (pa_cons (pv 3) (pa_cons (pv 6) pa_nil))) pa_nil)) (pe_callB SkE.call_repr_int (by rfl) T.n_repr (by decide +kernel) (pa_cons (pv 5) pa_nil)) (nomark _))))) (pss_one (ps_ret pe_bl)) pss_nil)
        (pss_cons (ps_if (pt_cmpR op_ne (pe_call G_l_count (hr.mono (by decide)) (by rfl) T.g_l_count T.F_l_count.kp T.b_l_count .nil pass0 (pa_cons (pv 3) (pa_cons (pv 6) pa_nil))) (pv 5) (nomark _)) (pss_one (ps_ret pe_bl)) pss_nil)
        (pss_cons (ps_set (i := 7) sc_law.nd rfl (Or.inl rfl) (pe_call G_name_at (hr.mono (by decide)) (by rfl) T.g_name_at T.F_name_at.kp T.b_name_at .nil pass0 (pa_cons (pv 3) (pa_cons (pe_op op_add (pv 5) pe_int) pa_nil))))
        (pss_cons (ps_if (PW.pt (pw_or (pt_cmpR op_lt (pe_callB call_len_str (by rfl) T.n_len (by decide +kernel) (pa_cons (pv 7) pa_nil)) (pe_callB call_len_str (by rfl) T.n_len (by decide +kernel) (pa_cons (pv 6) pa_nil)) (nomark _)) (pw_or1 (PW.pt (pw_and (pt_cmpR op_eq (pe_callB call_len_str (by rfl) T.n_len (by decide +kernel) (pa_cons (pv 7) pa_nil)) (pe_callB call_len_str (by rfl) T.n_len (by decide +kernel) (pa_cons (pv 6) pa_nil)) (nomark _)) (pw_and1 (pt_not (pt_cmpR op_lt_str (pv 6) (pv 7) (nomark _))))))))) (pss_one (ps_ret pe_bl)) pss_nil)
        (pss_cons (ps_if (pt_cmpR op_ne (pe_call G_l_count (hr.mono (by decide)) (by rfl) T.g_l_count T.F_l_count.kp T.b_l_count .nil pass0 (pa_cons (pv 3) (pa_cons (pv 7) pa_nil))) (pe_op op_add (pv 5) pe_int) (nomark _)) (pss_one (ps_ret pe_bl)) pss_nil)
        (pss_cons (ps_set (i := 8) sc_law.nd rfl (Or.inl rfl) (pe_slice sl_str (pe_op U.op_mul_str (pe_call G_l_word (hr.mono (by decide)) (by rfl) T.g_l_word T.F_l_word.kp T.b_l_word .nil pass0 (pa_cons (pv 1) (pa_cons (pv 3) (pa_cons pe_int pa_nil)))) pe_int) po_none (po_some (pe_call G_l_draw (hr.mono (by decide)) (by rfl) T.g_l_draw T.F_l_draw.kp T.b_l_draw .nil pass0 (pa_cons (pv 1) (pa_cons pe_int pa_nil))))))
        (pss_cons (ps_if (pt_cmpR op_ne (pe_callB SkE.call_repr_int (by rfl) T.n_repr (by decide +kernel) (pa_cons (pe_call G_number_of (hr.mono (by decide)) (by rfl) T.g_number_of T.F_number_of.kp T.b_number_of .nil pass0 (pa_cons (pv 3) (pa_cons (pv 8) pa_nil))) pa_nil)) (pe_callB SkE.call_repr_int (by rfl) T.n_repr (by decide +kernel) (pa_cons (pe_call G_l_count (hr.mono (by decide)) (by rfl) T.g_l_count T.F_l_count.kp T.b_l_count .nil pass0 (pa_cons (pv 3) (pa_cons (pv 8) pa_nil))) pa_nil)) (nomark _)) (pss_one (ps_ret pe_bl)) pss_nil)
        (pss_one (ps_if (PW.pt (pw_and (pt_cmpR op_lt (pe_callB call_len_str (by rfl) T.n_len (by decide +kernel) (pa_cons (pv 8) pa_nil)) pe_int (nomark _)) (pw_and1 (pt_cmpR op_ne (pe_call G_name_at (hr.mono (by decide)) (by rfl) T.g_name_at T.F_name_at.kp T.b_name_at .nil pass0 (pa_cons (pv 3) (pa_cons (pe_call G_number_of (hr.mono (by decide)) (by rfl) T.g_number_of T.F_number_of.kp T.b_number_of .nil pass0 (pa_cons (pv 3) (pa_cons (pv 8) pa_nil))) pa_nil))) (pv 8) (nomark _))))) (pss_one (ps_ret pe_bl)) pss_nil))))))))))))))
        (pss_one (ps_ret (pe_and (pe_cmpR op_eq (pe_call G_name_at (hr.mono (by decide)) (by rfl) T.g_name_at T.F_name_at.kp T.b_name_at .nil pass0 (pa_cons (pv 3) (pa_cons pe_int pa_nil))) pe_str (nomark _)) (pe_one (pe_cmpR op_eq (pe_call G_number_of (hr.mono (by decide)) (by rfl) T.g_number_of T.F_number_of.kp T.b_number_of .nil pass0 (pa_cons (pv 3) (pa_cons pe_str pa_nil))) pe_int (nomark _)))))))), ?_⟩
    -- the deal
    refine ⟨_, rfl, s0, ns, 0, rfl, hS, hlen, by decide, by decide, fun a c H1 s1 _ _ d1 => ?_⟩
    refine ⟨6, rfl, by decide, by decide, ?_⟩
    refine for_it (src_range 0 (6 : Int).toNat).w (fun i σ H' => ∃ v2 v3 v4 v5 v6 v7 v8, σ = [some (.ref s0), some (.ref a), v2, v3, v4, v5, v6, v7, v8] ∧ Deal H' a c ∧ (i = 0 ∨ ∃ L n, v3 = some (.str (S L)) ∧ Letters L n ∧ 2 ≤ n ∧ n ≤ 5))
      ⟨_, _, _, _, _, _, _, rfl, d1, .inl rfl⟩ (fun _ _ _ _ _ => trivial) ?_ ?_
    · rintro i v σ H2 H3 hi ⟨v2, v3, v4, v5, v6, v7, v8, rfl, d2, _⟩ ⟨rfl, hv⟩
      -- letters
      refine ⟨_, rfl, _, rfl, a, c, 4, rfl, d2, by decide, by decide, fun r H4 r0 r1 d4 _ => ?_⟩
      refine ⟨2, r, rfl, rfl, a, c, 2 + r, rfl, d4, by omega, by omega, fun L H5 hL d5 _ => ?_⟩
      have hn2 : 2 ≤ L.length := by have := hL.len; omega
      have hn5 : L.length ≤ 5 := by have := hL.len; omega
      have nd := asc_nd hL.asc
      have hne : L ≠ [] := fun e => by rw [e] at hn2; simp at hn2
      -- most
      refine ⟨_, rfl, _, _, rfl, rfl, ⟨by decide, by decide, by decide⟩, _, _, rfl, rfl, ⟨by decide, by decide, by decide⟩, _, _, rfl, rfl, ⟨by decide, by decide, by decide⟩, (by show 5 ≤ sizeLine; decide), fun p hp => ?_⟩
      have d6 := d5.new (o := .lst [V.int 9, V.int 100, V.int ((10 : Int) ^ (9 : Int).toNat), V.int ((10 : Int) ^ (18 : Int).toNat), V.int ((10 : Int) ^ (30 : Int).toNat)]) hp
      refine ⟨a, c, p, _, rfl, d6, SqL.of upd_same, (d5.ne hp).1, (d5.ne hp).2, (by simp), (by show 5 ≤ 1000; decide), fun mv H6 hmv d6 _ => ?_⟩
      obtain ⟨M, rfl, M1, M2⟩ := menu hmv
      -- number
      refine ⟨_, rfl, _, rfl, a, c, M, rfl, d6, M1, by omega, fun z H7 z0 z1 d7 _ => ?_⟩
      obtain ⟨k, rfl⟩ := nat_of z0
      obtain ⟨e1, b1⟩ := M3.nm_val (n := L.length) (by omega) k
      obtain ⟨e2, b2⟩ := M3.nm_val (n := L.length) (by omega) (k + 1)
      have l1 := M3.nm_len hn2 200 k (by omega)
      have l2 := M3.nm_len hn2 200 (k + 1) (by omega)
      have im : ∀ d : List Nat, (∀ x ∈ d, x < L.length) → ∀ y ∈ d.map (L.getD · 0), y ∈ L := fun d hd y hy => by
        obtain ⟨i, hi, rfl⟩ := List.mem_map.mp hy
        exact List.mem_of_getElem? (getD_get (hd i hi))
      -- name
      refine ⟨_, rfl, _, rfl, L, _, rfl, hn2, hn5, by omega, by omega, ?_⟩
      rw [Int.toNat_natCast]
      generalize hN1 : (M3.nm L.length k).map (L.getD · 0) = N1
      have m1 : ∀ y ∈ N1, y ∈ L := by rw [← hN1]; exact im _ b1
      have v1 : M3.val L.length (N1.map (M3.ix L)) = k := by rw [← hN1, map_getD_ix nd b1]; exact e1
      have ln1 : N1.length = (M3.nm L.length k).length := by rw [← hN1, List.length_map]
      have all1 : (N1.all fun c => decide (c ∈ L)) = true := List.all_eq_true.mpr fun c hc => decide_eq_true (m1 c hc)
      -- is_text, number_of
      refine ⟨_, rfl, _, rfl, L, N1, rfl, by omega, fun H8 s8 => ⟨true, congrArg V.bl all1, iteF ?_⟩⟩
      have d8 := d7.same s8
      refine ⟨_, rfl, _, rfl, L, N1, rfl, nd, hn5, m1, ?_⟩
      rw [v1]
      refine ⟨_, rfl, lgI (by omega) (by omega), _, rfl, _, rfl, lgI (by omega) (by omega), rfl, false, by simp, iteF ?_⟩
      -- count
      refine ⟨_, rfl, _, rfl, L, N1, rfl, nd, by omega, hn5, by omega, m1, fun H9 s9 => ?_⟩
      rw [v1]
      refine ⟨_, rfl, rfl, false, by simp, iteF ?_⟩
      have d9 := d8.same s9
      -- further
      refine ⟨_, rfl, _, rfl, _, _, rfl, rfl, L, (k : Int) + 1, rfl, hn2, hn5, by omega, by omega, ?_⟩
      rw [show ((k : Int) + 1).toNat = k + 1 from rfl]
      generalize hN2 : (M3.nm L.length (k + 1)).map (L.getD · 0) = N2
      have m2 : ∀ y ∈ N2, y ∈ L := by rw [← hN2]; exact im _ b2
      have v2 : M3.val L.length (N2.map (M3.ix L)) = k + 1 := by rw [← hN2, map_getD_ix nd b2]; exact e2
      have ln2 : N2.length = (M3.nm L.length (k + 1)).length := by rw [← hN2, List.length_map]
      obtain ⟨nx1, nx2⟩ := M3.nm_next (n := L.length) (by omega) k
      have sz1 : (S N1).length ≤ sizeLine := by rw [S_len, sizeLine_eq]; omega
      have sz2 : (S N2).length ≤ sizeLine := by rw [S_len, sizeLine_eq]; omega
      refine ⟨_, rfl, _, rfl, sz2, _, rfl, _, rfl, sz1, _, _, rfl, rfl, false, ?_, iteF ?_⟩
      · rw [S_len, S_len]
        exact congrArg V.bl (decide_eq_false (by omega))
      refine ⟨_, rfl, _, rfl, sz2, _, rfl, _, rfl, sz1, rfl, decide (N2.length = N1.length), ?_, ?_⟩
      · rw [S_len, S_len]
        congr 1
        simp
        omega
      have goOn : ∀ Qf : Bool → Hp → Prop, Qf false H9 → (if decide (N2.length = N1.length) = true then tNot (tTest (tOp (fun x y H Q => ∃ i j, x = V.str i ∧ y = V.str j ∧ Q (V.bl (decide (i.cps.toList < j.cps.toList))) H) (tVar 6) (tVar 7))) [some (V.ref s0), some (V.ref a), some v, some (V.str (S L)), some (V.int M), some (V.int (k : Int)), some (V.str (S N1)), some (V.str (S N2)), v8] H9 Qf else Qf false H9) := by
        intro Qf hQ
        refine ite2 (fun e => ?_) (fun _ => hQ)
        have e := of_decide_eq_true e
        refine ⟨_, rfl, _, rfl, _, _, rfl, rfl, true, ?_, hQ⟩
        rw [S_toList, S_toList, ← hN1, ← hN2]
        exact congrArg V.bl (decide_eq_true (M3.lex_map hL.asc b1 b2 (nx2 (by omega))))
      refine goOn _ ?_
      refine iteF ?_
      -- count of the further one
      refine ⟨_, rfl, _, rfl, L, N2, rfl, nd, by omega, hn5, by omega, m2, fun H10 s10 => ?_⟩
      rw [v2]
      refine ⟨_, rfl, _, _, rfl, rfl, rfl, false, by simp, iteF ?_⟩
      have d10 := d9.same s10
      -- the word
      refine ⟨_, rfl, _, rfl, a, c, L, 3, rfl, d10, hne, by omega, by decide, by decide, fun x H11 hx hxs d11 _ => ?_⟩
      have hx3 : x.length ≤ 3 := hx
      refine ⟨x, 30, rfl, rfl, by omega, by decide, ?_⟩
      refine ⟨_, rfl, a, c, 91, rfl, d11, by decide, by decide, fun t H12 t0 t1 d12 _ => ⟨t, rfl, S (rep x 30), rfl, by rw [S_len, rep_len, sizeLine_eq]; omega, ?_⟩⟩
      rw [cut_take _ t0]
      generalize hW : (rep x 30).take t.toNat = W
      have mW : ∀ y ∈ W, y ∈ L := fun y hy => by
        rw [← hW] at hy
        exact hxs y (rep_mem (List.mem_of_mem_take hy))
      have lW : W.length ≤ 90 := by
        rw [← hW, List.length_take]
        omega
      have dW : ∀ y ∈ W.map (M3.ix L), y < L.length := fun y hy => by
        obtain ⟨z, hz, rfl⟩ := List.mem_map.mp hy
        exact M3.ix_lt (mW z hz)
      have bW := M3.val_lt hn2 hn5 (W.map (M3.ix L)) dW
      have pW : 6 ^ (W.map (M3.ix L)).length ≤ 6 ^ 90 := Nat.pow_le_pow_right (by decide) (by rw [List.length_map]; exact lW)
      have q90 : (6 : Nat) ^ 90 < 2 ^ 250 := by decide
      generalize hV : M3.val L.length (W.map (M3.ix L)) = vW at bW
      have sv : vW < 2 ^ 250 := by omega
      refine ⟨_, rfl, _, rfl, L, W, rfl, nd, hn5, mW, ?_⟩
      rw [hV]
      refine ⟨_, rfl, lgI (by omega) (by omega), _, rfl, _, rfl, L, W, rfl, nd, by omega, hn5, by omega, mW, fun H13 s13 => ?_⟩
      rw [hV]
      refine ⟨_, rfl, lgI (by omega) (by omega), rfl, false, by simp, iteF ?_⟩
      have d13 := d12.same s13
      -- back to the word
      refine ⟨_, rfl, _, rfl, by rw [S_len, sizeLine_eq]; omega, _, _, rfl, rfl, _, rfl, ?_⟩
      have fin : ∀ (D : Ends) , (∀ H', Deal H' a c → D.nx [some (V.ref s0), some (V.ref a), some v, some (V.str (S L)), some (V.int M), some (V.int (k : Int)), some (V.str (S N1)), some (V.str (S N2)), some (V.str (S W))] H') → D.nx [some (V.ref s0), some (V.ref a), some v, some (V.str (S L)), some (V.int M), some (V.int (k : Int)), some (V.str (S N1)), some (V.str (S N2)), some (V.str (S W))] H13 := fun D h => h H13 d13
      by_cases h40 : ((S W).length : Int) < 40
      · rw [decide_eq_true h40]
        refine iteT ?_
        refine ⟨_, rfl, _, rfl, _, rfl, L, W, rfl, nd, hn5, mW, ?_⟩
        rw [hV]
        refine ⟨L, _, rfl, hn2, hn5, by omega, by omega, ?_⟩
        rw [Int.toNat_natCast, ← hV, M3.nm_of (by omega) dW, map_ix_getD mW]
        refine ⟨_, rfl, rfl, false, by simp, iteF ?_⟩
        exact ⟨_, _, _, _, _, _, _, rfl, d13, .inr ⟨L, _, rfl, hL, by omega, by omega⟩⟩
      · rw [decide_eq_false h40]
        refine iteF ?_
        refine iteF ?_
        exact ⟨_, _, _, _, _, _, _, rfl, d13, .inr ⟨L, _, rfl, hL, by omega, by omega⟩⟩
    · rintro σ H2 ⟨v2, v3, v4, v5, v6, v7, v8, rfl, d2, h3⟩
      rw [rngV_len] at h3
      rcases h3 with h3 | ⟨L, n, rfl, hL, n2, n5⟩
      · exact absurd h3 (by decide)
      have hn2 : 2 ≤ L.length := by have := hL.len; omega
      have hn5 : L.length ≤ 5 := by have := hL.len; omega
      refine ⟨_, rfl, L, 0, rfl, hn2, hn5, by decide, by decide, ?_⟩
      rw [show (0 : Int).toNat = 0 from rfl, M3.nm_zero]
      refine ⟨rfl, true, by simp [empty_S], iteT ?_⟩
      refine ⟨_, rfl, L, [], rfl, asc_nd hL.asc, hn5, fun _ h => (nomatch h), rfl, ?_⟩
      exact q _
end
end K03
namespace K03
open PySem PySem.Spec PyProof.Rows L2 U
theorem all_mk {l : PySem.W.OpenLaw} {w : World} {K : PySem.W.Frag} {h : Heap} {mg : Str → Option Value} {fa f0 f1 f2 f3 f4 f5 f6 f7 f8 f9 : Addr} (X : K.In h) (G : h.Ns mainGlobals mg) (hfa : mg "law" = some (.ref fa))
    {od0 an0 od1 an1 od2 an2 od3 an3 od4 an4 od5 an5 od6 an6 od7 an7 od8 an8 od9 an9 : Option Addr} {sl0 sl1 sl2 sl3 sl4 sl5 sl6 sl7 sl8 sl9 : Array (Option Value)} {oc0 kV0 dc0 pm0 cd0 ct0 oc1 kV1 dc1 pm1 cd1 ct1 oc2 kV2 dc2 pm2 cd2 ct2 oc3 kV3 dc3 pm3 cd3 ct3 oc4 kV4 dc4 pm4 cd4 ct4 oc5 kV5 dc5 pm5 cd5 ct5 oc6 kV6 dc6 pm6 cd6 ct6 oc7 kV7 dc7 pm7 cd7 ct7 oc8 kV8 dc8 pm8 cd8 ct8 oc9 kV9 dc9 pm9 cd9 ct9 : Value}
    (a0 : PySem.W.nsIn K mainGlobals "is_text" = some (some (.ref f0)))
    (l0 : K.lookup f0 = some ⟨oc0, od0, .func (PySem.W.fnOf "is_text" "is_text" (defArgs s_is_text) (defBody s_is_text) (defScope s_is_text) .none kV0 dc0 pm0 an0 cd0 ct0), sl0⟩)
    (c0 : PySem.W.codeIn K cd0 "is_text" = true) (k0 : PySem.W.keepIn K (.ref f0) = true)
    (a1 : PySem.W.nsIn K mainGlobals "number_of" = some (some (.ref f1)))
    (l1 : K.lookup f1 = some ⟨oc1, od1, .func (PySem.W.fnOf "number_of" "number_of" (defArgs s_number_of) (defBody s_number_of) (defScope s_number_of) .none kV1 dc1 pm1 an1 cd1 ct1), sl1⟩)
    (c1 : PySem.W.codeIn K cd1 "number_of" = true) (k1 : PySem.W.keepIn K (.ref f1) = true)
    (a2 : PySem.W.nsIn K mainGlobals "name_at" = some (some (.ref f2)))
    (l2 : K.lookup f2 = some ⟨oc2, od2, .func (PySem.W.fnOf "name_at" "name_at" (defArgs s_name_at) (defBody s_name_at) (defScope s_name_at) .none kV2 dc2 pm2 an2 cd2 ct2), sl2⟩)
    (c2 : PySem.W.codeIn K cd2 "name_at" = true) (k2 : PySem.W.keepIn K (.ref f2) = true)
    (a3 : PySem.W.nsIn K mainGlobals "_law_deal" = some (some (.ref f3)))
    (l3 : K.lookup f3 = some ⟨oc3, od3, .func (PySem.W.fnOf "_law_deal" "_law_deal" (defArgs s_l_deal) (defBody s_l_deal) (defScope s_l_deal) .none kV3 dc3 pm3 an3 cd3 ct3), sl3⟩)
    (c3 : PySem.W.codeIn K cd3 "_law_deal" = true) (k3 : PySem.W.keepIn K (.ref f3) = true)
    (a4 : PySem.W.nsIn K mainGlobals "_law_draw" = some (some (.ref f4)))
    (l4 : K.lookup f4 = some ⟨oc4, od4, .func (PySem.W.fnOf "_law_draw" "_law_draw" (defArgs s_l_draw) (defBody s_l_draw) (defScope s_l_draw) .none kV4 dc4 pm4 an4 cd4 ct4), sl4⟩)
    (c4 : PySem.W.codeIn K cd4 "_law_draw" = true) (k4 : PySem.W.keepIn K (.ref f4) = true)
    (a5 : PySem.W.nsIn K mainGlobals "_law_pick" = some (some (.ref f5)))
    (l5 : K.lookup f5 = some ⟨oc5, od5, .func (PySem.W.fnOf "_law_pick" "_law_pick" (defArgs s_l_pick) (defBody s_l_pick) (defScope s_l_pick) .none kV5 dc5 pm5 an5 cd5 ct5), sl5⟩)
    (c5 : PySem.W.codeIn K cd5 "_law_pick" = true) (k5 : PySem.W.keepIn K (.ref f5) = true)
    (a6 : PySem.W.nsIn K mainGlobals "_law_letters" = some (some (.ref f6)))
    (l6 : K.lookup f6 = some ⟨oc6, od6, .func (PySem.W.fnOf "_law_letters" "_law_letters" (defArgs s_l_letters) (defBody s_l_letters) (defScope s_l_letters) .none kV6 dc6 pm6 an6 cd6 ct6), sl6⟩)
    (c6 : PySem.W.codeIn K cd6 "_law_letters" = true) (k6 : PySem.W.keepIn K (.ref f6) = true)
    (a7 : PySem.W.nsIn K mainGlobals "_law_word" = some (some (.ref f7)))
    (l7 : K.lookup f7 = some ⟨oc7, od7, .func (PySem.W.fnOf "_law_word" "_law_word" (defArgs s_l_word) (defBody s_l_word) (defScope s_l_word) .none kV7 dc7 pm7 an7 cd7 ct7), sl7⟩)
    (c7 : PySem.W.codeIn K cd7 "_law_word" = true) (k7 : PySem.W.keepIn K (.ref f7) = true)
    (a8 : PySem.W.nsIn K mainGlobals "_law_count" = some (some (.ref f8)))
    (l8 : K.lookup f8 = some ⟨oc8, od8, .func (PySem.W.fnOf "_law_count" "_law_count" (defArgs s_l_count) (defBody s_l_count) (defScope s_l_count) .none kV8 dc8 pm8 an8 cd8 ct8), sl8⟩)
    (c8 : PySem.W.codeIn K cd8 "_law_count" = true) (k8 : PySem.W.keepIn K (.ref f8) = true)
    (a9 : PySem.W.nsIn K mainGlobals "law" = some (some (.ref f9)))
    (l9 : K.lookup f9 = some ⟨oc9, od9, .func (PySem.W.fnOf "law" "law" (defArgs s_law) (defBody s_law) (defScope s_law) .none kV9 dc9 pm9 an9 cd9 ct9), sl9⟩)
    (c9 : PySem.W.codeIn K cd9 "law" = true) (k9 : PySem.W.keepIn K (.ref f9) = true)
    (z0 : PySem.W.nsIn K mainGlobals "isinstance" = some none)
    (z1 : PySem.W.nsIn K mainGlobals "str" = some none)
    (z2 : PySem.W.nsIn K mainGlobals "all" = some none)
    (z3 : PySem.W.nsIn K mainGlobals "len" = some none)
    (z4 : PySem.W.nsIn K mainGlobals "max" = some none)
    (z5 : PySem.W.nsIn K mainGlobals "int" = some none)
    (z6 : PySem.W.nsIn K mainGlobals "list" = some none)
    (z7 : PySem.W.nsIn K mainGlobals "range" = some none)
    (z8 : PySem.W.nsIn K mainGlobals "sorted" = some none)
    (z9 : PySem.W.nsIn K mainGlobals "repr" = some none)
    : ∃ fd : FuncData, (∀ (s : Shared) (v : Value), BindsTo s fd ⟨[v], []⟩ [("_law_script", v)]) ∧ ∀ base : Heap, K.In base → base.Ns mainGlobals mg → FnOk l.prog w K mg base CX0 4 fa fd ["_law_script"] (spLaw K) := by
  have e := hfa.symm.trans (PySem.W.mg_of X G a9)
  cases e
  have F0 := fun_mk (st := s_is_text) l0 c0 k0
  have F1 := fun_mk (st := s_number_of) l1 c1 k1
  have F2 := fun_mk (st := s_name_at) l2 c2 k2
  have F3 := fun_mk (st := s_l_deal) l3 c3 k3
  have F4 := fun_mk (st := s_l_draw) l4 c4 k4
  have F5 := fun_mk (st := s_l_pick) l5 c5 k5
  have F6 := fun_mk (st := s_l_letters) l6 c6 k6
  have F7 := fun_mk (st := s_l_word) l7 c7 k7
  have F8 := fun_mk (st := s_l_count) l8 c8 k8
  have F9 := fun_mk (st := s_law) l9 c9 k9
  have b0 := F0.binds (ps := ["letters", "value"]) fun _ _ _ _ _ _ us hl => match us, hl with | [_, _], _ => rfl
  have b1 := F1.binds (ps := ["letters", "name"]) fun _ _ _ _ _ _ us hl => match us, hl with | [_, _], _ => rfl
  have b2 := F2.binds (ps := ["letters", "number"]) fun _ _ _ _ _ _ us hl => match us, hl with | [_, _], _ => rfl
  have b3 := F3.binds (ps := ["_law_script", "_law_base"]) fun _ _ _ _ _ _ us hl => match us, hl with | [_, _], _ => rfl
  have b4 := F4.binds (ps := ["_law_deal_here", "_law_many"]) fun _ _ _ _ _ _ us hl => match us, hl with | [_, _], _ => rfl
  have b5 := F5.binds (ps := ["_law_deal_here", "_law_some"]) fun _ _ _ _ _ _ us hl => match us, hl with | [_, _], _ => rfl
  have b6 := F6.binds (ps := ["_law_deal_here", "_law_many"]) fun _ _ _ _ _ _ us hl => match us, hl with | [_, _], _ => rfl
  have b7 := F7.binds (ps := ["_law_deal_here", "_law_letters_here", "_law_most"]) fun _ _ _ _ _ _ us hl => match us, hl with | [_, _, _], _ => rfl
  have b8 := F8.binds (ps := ["_law_letters_here", "_law_name"]) fun _ _ _ _ _ _ us hl => match us, hl with | [_, _], _ => rfl
  have b9 := F9.binds (ps := ["_law_script"]) fun _ _ _ _ _ _ us hl => match us, hl with | [_], _ => rfl
  have T : Top K mg := ⟨f0, _, F0, PySem.W.mg_of X G a0, b0, f1, _, F1, PySem.W.mg_of X G a1, b1, f2, _, F2, PySem.W.mg_of X G a2, b2, f3, _, F3, PySem.W.mg_of X G a3, b3, f4, _, F4, PySem.W.mg_of X G a4, b4, f5, _, F5, PySem.W.mg_of X G a5, b5, f6, _, F6, PySem.W.mg_of X G a6, b6, f7, _, F7, PySem.W.mg_of X G a7, b7, f8, _, F8, PySem.W.mg_of X G a8, b8, fa, _, F9, PySem.W.mg_of X G a9, b9, PySem.W.mg_none_of X G z0, PySem.W.mg_none_of X G z1, PySem.W.mg_none_of X G z2, PySem.W.mg_none_of X G z3, PySem.W.mg_none_of X G z4, PySem.W.mg_none_of X G z5, PySem.W.mg_none_of X G z6, PySem.W.mg_none_of X G z7, PySem.W.mg_none_of X G z8, PySem.W.mg_none_of X G z9⟩
  exact ⟨PySem.W.fnOf "law" "law" (defArgs s_law) (defBody s_law) (defScope s_law) .none kV9 dc9 pm9 an9 cd9 ct9, fun s v => .of_eq rfl, fun base _ _ => ok_law ⟨f0, _, F0, PySem.W.mg_of X G a0, b0, f1, _, F1, PySem.W.mg_of X G a1, b1, f2, _, F2, PySem.W.mg_of X G a2, b2, f3, _, F3, PySem.W.mg_of X G a3, b3, f4, _, F4, PySem.W.mg_of X G a4, b4, f5, _, F5, PySem.W.mg_of X G a5, b5, f6, _, F6, PySem.W.mg_of X G a6, b6, f7, _, F7, PySem.W.mg_of X G a7, b7, f8, _, F8, PySem.W.mg_of X G a8, b8, fa, _, F9, PySem.W.mg_of X G a9, b9, PySem.W.mg_none_of X G z0, PySem.W.mg_none_of X G z1, PySem.W.mg_none_of X G z2, PySem.W.mg_none_of X G z3, PySem.W.mg_none_of X G z4, PySem.W.mg_none_of X G z5, PySem.W.mg_none_of X G z6, PySem.W.mg_none_of X G z7, PySem.W.mg_none_of X G z8, PySem.W.mg_none_of X G z9⟩⟩
end K03
open PySem PySem.W PyProof.Rows
set_option maxHeartbeats 0 in
theorem PySem.Challenge.cw_undername_k03_whole_names_by_number_holds : PySem.Challenge.rw_undername_k03_whole_names_by_number.Holds := by
  w_on; o_law; k_head; (case hw => w_witness2)
  k_fill
  refine L2.walk_of (l := PySem.Challenge.rw_undername_k03_whole_names_by_number) (n := 63) (k := 4) (x := "_law_script") (CX := fun _ => L2.CX0) (sp := fun w => K03.spLaw _) rfl (by decide) rfl ⟨rfl, by decide, by decide⟩ (fun w h Y => PySem.W.kIn_of Y) ?F (fun _ _ a ns hl _ hS => ⟨a, ns, rfl, hS, hl, fun _ => rfl⟩) (fun _ _ _ _ _ h => h)
  case F =>
    intro w mg fa h KX G hmg
    refine' K03.all_mk KX G hmg ?a0 ?l0 ?c0 ?k0 ?a1 ?l1 ?c1 ?k1 ?a2 ?l2 ?c2 ?k2 ?a3 ?l3 ?c3 ?k3 ?a4 ?l4 ?c4 ?k4 ?a5 ?l5 ?c5 ?k5 ?a6 ?l6 ?c6 ?k6 ?a7 ?l7 ?c7 ?k7 ?a8 ?l8 ?c8 ?k8 ?a9 ?l9 ?c9 ?k9 ?z0 ?z1 ?z2 ?z3 ?z4 ?z5 ?z6 ?z7 ?z8 ?z9
    (case a0 => k_is)
    (case l0 => k_is)
    (case c0 => k_is)
    (case k0 => k_is)
    (case a1 => k_is)
    (case l1 => k_is)
    (case c1 => k_is)
    (case k1 => k_is)
    (case a2 => k_is)
    (case l2 => k_is)
    (case c2 => k_is)
    (case k2 => k_is)
    (case a3 => k_is)
    (case l3 => k_is)
    (case c3 => k_is)
    (case k3 => k_is)
    (case a4 => k_is)
    (case l4 => k_is)
    (case c4 => k_is)
    (case k4 => k_is)
    (case a5 => k_is)
    (case l5 => k_is)
    (case c5 => k_is)
    (case k5 => k_is)
    (case a6 => k_is)
    (case l6 => k_is)
    (case c6 => k_is)
    (case k6 => k_is)
    (case a7 => k_is)
    (case l7 => k_is)
    (case c7 => k_is)
    (case k7 => k_is)
    (case a8 => k_is)
    (case l8 => k_is)
    (case c8 => k_is)
    (case k8 => k_is)
    (case a9 => k_is)
    (case l9 => k_is)
    (case c9 => k_is)
    (case k9 => k_is)
    (case z0 => k_is)
    (case z1 => k_is)
    (case z2 => k_is)
    (case z3 => k_is)
    (case z4 => k_is)
    (case z5 => k_is)
    (case z6 => k_is)
    (case z7 => k_is)
    (case z8 => k_is)
    (case z9 => k_is)
#print axioms PySem.Challenge.cw_undername_k03_whole_names_by_number_holds
