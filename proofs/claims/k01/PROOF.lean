import PyProof.Rows.All
import Wide.All
import OpenK.AllK
import Wide.FinOn
import HandS.ForMost
import HandS.Style
import HandS.Wide
import HandS.StrMore
import HandS.Replace
import HandS.IsInst
import HandS.RaiseMore
import HandS.Walk
import KE.KExcLine
import HandS.ExcInit
import HandS.ExcValue
import HandS.ExcSuper
import HandS.ExcIs
import HandS.ExcField
import KE.KExcIs
import KE.KRevSl
import HandS.TryOnly
import HandS.WordsExc
import HandS.More
import PySem.Challenge.RW_undername_k01_errors_and_letters
set_option Elab.async false
set_option linter.all false
set_option maxRecDepth 100000
set_option maxHeartbeats 4000000
/-! U: own rules over the layer, and texts as lists of codes -/
namespace U
open PySem PySem.Spec PyProof.Rows L2
/-- a text from its codes -/
def S (l : List Nat) : Str := ⟨l.toArray⟩
theorem S_toList (l : List Nat) : (S l).cps.toList = l := by simp [S]
theorem S_cps (z : Str) : S z.cps.toList = z := by cases z; simp [S]
theorem S_len (l : List Nat) : (S l).length = l.length := by simp [S, Str.length]
theorem S_inj {a b : List Nat} : S a = S b ↔ a = b := by
  constructor
  · intro h
    have := congrArg (fun z => z.cps.toList) h
    simpa [S_toList] using this
  · rintro rfl; rfl
theorem S_app (a b : List Nat) : S a ++ S b = S (a ++ b) := by
  show Str.mk ((S a).cps ++ (S b).cps) = S (a ++ b)
  simp [S]
theorem str_of (z : Str) : ∃ l, z = S l := ⟨_, (S_cps z).symm⟩
/-- the signs of a text, each a text -/
def chars (l : List Nat) : List V := l.map fun c => V.str (S [c])
section
variable {X : Cx}
theorem items_chars : ∀ {l : List Nat} {acc : List Value}, acc.length = l.length → (∀ (j : Nat) (v : Value), acc[j]? = some v → ∃ (c : Nat) (t : Tok), l[j]? = some c ∧ v = Value.str (S [c]) t) → Vals (chars l) acc
  | [], [], _, _ => .nil
  | [], _ :: _, h, _ => by simp at h
  | _ :: _, [], h, _ => by simp at h
  | c :: l, v :: acc, h, k => by
    refine .cons ?_ (items_chars (by simpa using h) fun j v e => by simpa using k (j + 1) v (by simpa using e))
    obtain ⟨c', t, e, rfl⟩ := k 0 v rfl
    simp at e
    subst e
    exact ⟨t, rfl⟩
theorem call_listS (hc : X.calm = true) : CallR X (.type "list") (fun xs H Q => ∃ l : List Nat, xs = [.str (S l)] ∧ l.length ≤ sizeLine ∧ ∀ p, H p = none → Q (.ref p) (upd H p (.lst (chars l)))) := by
  intro pins s σ H xs us Q I r h
  obtain ⟨l, rfl, hz, q⟩ := h
  obtain ⟨u, rfl, t, rfl⟩ := vals1 r
  refine PySem.call_list_str (I.ok.hd hc) (S l) t (fun h' tk acc c' kp e hi => ?_) (by simpa [S] using hz)
  have hv : Vals (chars l) acc.toList := by
    refine items_chars (by simpa [S] using hi.1) fun j v e => ?_
    have := hi.2 j v (by simpa using e)
    obtain ⟨c, t, h1, h2⟩ := this
    exact ⟨c, t, by simpa [S] using h1, by simpa [S] using h2⟩
  refine ⟨.ref s.heap.objs.size, _, I.laid (t' := tk) kp (Nat.le_refl _) (show ObjOk X.prog X.w _ h' _ (.lst (chars l)) from ⟨by simpa [chars] using hz, acc.toList, c', hv, by simpa using e⟩), rfl, q _ (I.hok.fresh (Nat.le_refl _))⟩
/-- n times the list -/
def rep (l : List Nat) (n : Nat) : List Nat := (List.replicate n l).flatten
theorem rep_len (l : List Nat) (n : Nat) : (rep l n).length = n * l.length := by
  simp [rep, List.length_flatten]
theorem foldl_app (ls : List (Array Nat)) : ∀ acc : Array Nat, (ls.foldl (· ++ ·) acc).toList = acc.toList ++ (ls.map Array.toList).flatten := by
  induction ls with
  | nil => intro acc; simp
  | cons a ls ih => intro acc; simp [ih]
theorem mul_eq (l : List Nat) (n : Nat) : Txt.mul (S l) (n : Int) = S (rep l n) := by
  unfold Txt.mul
  by_cases h1 : (n : Int) < 1
  · have : n = 0 := by omega
    subst this
    simp [rep, S]
    rfl
  · rw [if_neg h1]
    split
    · rename_i h
      rcases Bool.or_eq_true_iff.mp h with h | h
      · have : n = 1 := by
          have := of_decide_eq_true h
          omega
        subst this
        simp [rep]
      · have : l = [] := by
          have := of_decide_eq_true h
          rw [S_len] at this
          exact List.length_eq_zero_iff.mp this
        subst this
        simp [rep, S]
    · show Str.mk _ = S _
      have := foldl_app (List.replicate (n : Int).toNat (S l).cps) #[]
      simp only [List.map_replicate, S_toList] at this
      rw [← S_cps (Str.mk _)]
      rw [this]
      simp [rep]
theorem op_mul_str : OpR X (binaryOp .Mult) (fun x y H Q => ∃ (l : List Nat) (n : Nat), x = .str (S l) ∧ y = .int (n : Int) ∧ l.length * n ≤ 1000000 ∧ n ≤ 1000000 ∧ Q (.str (S (rep l n))) H) := by
  intro pins s σ H x y u v Q I rx ry h
  obtain ⟨l, n, rfl, rfl, hb, hn, q⟩ := h
  obtain ⟨t, rfl⟩ := rx
  obtain ⟨t', rfl⟩ := ry
  refine PySem.SB.mul ⟨?_, ?_, ?_⟩ fun tk k => ⟨.str (S (rep l n)), H, I.tok _, ⟨tk, by rw [mul_eq]⟩, q⟩
  · rw [decide_eq_false (by omega), decide_eq_false (by omega)]; rfl
  · intro h1 _ h2
    rw [S_len] at h2
    have h3 : (1 : Int) ≤ n := by omega
    have h4 : (2 ^ 63 - 1 : Int) / n * n ≤ 2 ^ 63 - 1 := Int.ediv_mul_le _ (by omega)
    have h6 : (l.length : Int) * n ≤ 1000000 := by rw [← Int.natCast_mul]; omega
    have h7 : ((2 ^ 63 - 1 : Int) / n + 1) * n ≤ l.length * n := Int.mul_le_mul_of_nonneg_right (by omega) (by omega)
    have h8 : (2 ^ 63 - 1 : Int) < ((2 ^ 63 - 1 : Int) / n + 1) * n := Int.lt_ediv_add_one_mul_self _ (by omega)
    omega
  · intro _ _
    rw [S_len]
    have : l.length * (n : Int).toNat ≤ 1000000 := by simpa using hb
    have h2 := sizeLine_eq
    show decide (_ > sizeLine) = false
    exact decide_eq_false (by omega)
end
end U
namespace U
open PySem PySem.Spec PyProof.Rows L2
/-- the deal: its great cells at c, the mixed number -/
structure DealIs (H : Hp) (a c : Addr) (ns : List Int) (m : Int) : Prop where
  hd : H a = some (.lst [.ref c, .int m])
  cs : H c = some (.lst (ns.map V.int))
  pos : ∀ n ∈ ns, 0 ≤ n
  few : ns.length ≤ 63
  m0 : 0 ≤ m
  m1 : m < 2147483647
def Deal (H : Hp) (a c : Addr) : Prop := ∃ (ns : List Int) (m : Int), DealIs H a c ns m
/-- all but the deal is kept -/
def Kp (a c : Addr) (H H' : Hp) : Prop := ∀ b o, b ≠ a → b ≠ c → H b = some o → H' b = some o
theorem Kp.refl (a c : Addr) (H : Hp) : Kp a c H H := fun _ _ _ _ h => h
theorem Kp.trans {a c : Addr} {H H1 H2 : Hp} (x : Kp a c H H1) (y : Kp a c H1 H2) : Kp a c H H2 := fun b o h1 h2 h => y b o h1 h2 (x b o h1 h2 h)
theorem Kp.updA {a c : Addr} {H H1 : Hp} {o : HO} (x : Kp a c H H1) : Kp a c H (upd H1 a o) := fun b u h1 h2 h => by rw [upd_ne h1]; exact x b u h1 h2 h
theorem Kp.updC {a c : Addr} {H H1 : Hp} {o : HO} (x : Kp a c H H1) : Kp a c H (upd H1 c o) := fun b u h1 h2 h => by rw [upd_ne h2]; exact x b u h1 h2 h
theorem Kp.new {a c p : Addr} {H H1 : Hp} {o : HO} (x : Kp a c H H1) (hp : H p = none) : Kp a c H (upd H1 p o) := fun b u h1 h2 h => by rw [upd_ne (ne_of_none h hp)]; exact x b u h1 h2 h
theorem Kp.new' {a c p : Addr} {H H1 : Hp} {o : HO} (x : Kp a c H H1) (hp : H1 p = none) : Kp a c H (upd H1 p o) := fun b u h1 h2 h => by
  have := x b u h1 h2 h
  rw [upd_ne (ne_of_none this hp)]; exact this
theorem DealIs.nac {a c : Addr} {H : Hp} {ns : List Int} {m : Int} (d : DealIs H a c ns m) : a ≠ c := ne_of d.hd d.cs (by
  intro h
  have h := HO.lst.inj h
  cases ns with
  | nil => cases h
  | cons n ns => cases h)
theorem DealIs.upd {a c p : Addr} {H : Hp} {o : HO} {ns : List Int} {m : Int} (d : DealIs H a c ns m) (h1 : p ≠ a) (h2 : p ≠ c) : DealIs (L2.upd H p o) a c ns m :=
  ⟨by rw [upd_ne h1.symm]; exact d.hd, by rw [upd_ne h2.symm]; exact d.cs, d.pos, d.few, d.m0, d.m1⟩
theorem DealIs.ne {a c p : Addr} {H : Hp} {ns : List Int} {m : Int} (d : DealIs H a c ns m) (hp : H p = none) : p ≠ a ∧ p ≠ c := ⟨(ne_of_none d.hd hp).symm, (ne_of_none d.cs hp).symm⟩
theorem DealIs.new {a c p : Addr} {H : Hp} {o : HO} {ns : List Int} {m : Int} (d : DealIs H a c ns m) (hp : H p = none) : DealIs (L2.upd H p o) a c ns m := d.upd (d.ne hp).1 (d.ne hp).2
theorem DealIs.setC {a c : Addr} {H : Hp} {ns ns' : List Int} {m : Int} (d : DealIs H a c ns m) (h1 : ∀ n ∈ ns', 0 ≤ n) (h2 : ns'.length ≤ 63) : DealIs (L2.upd H c (.lst (ns'.map V.int))) a c ns' m :=
  ⟨by rw [upd_ne d.nac]; exact d.hd, upd_same, h1, h2, d.m0, d.m1⟩
theorem DealIs.setM {a c : Addr} {H : Hp} {ns : List Int} {m m' : Int} (d : DealIs H a c ns m) (h1 : 0 ≤ m') (h2 : m' < 2147483647) : DealIs (L2.upd H a (.lst [.ref c, .int m'])) a c ns m' :=
  ⟨upd_same, by rw [upd_ne d.nac.symm]; exact d.cs, d.pos, d.few, h1, h2⟩
theorem Deal.new {a c p : Addr} {H : Hp} {o : HO} (d : Deal H a c) (hp : H p = none) : Deal (L2.upd H p o) a c := by
  obtain ⟨ns, m, d⟩ := d
  exact ⟨ns, m, d.new hp⟩
theorem Deal.upd {a c p : Addr} {H : Hp} {o : HO} (d : Deal H a c) (h1 : p ≠ a) (h2 : p ≠ c) : Deal (L2.upd H p o) a c := by
  obtain ⟨ns, m, d⟩ := d
  exact ⟨ns, m, d.upd h1 h2⟩
theorem Deal.ne {a c p : Addr} {H : Hp} (d : Deal H a c) (hp : H p = none) : p ≠ a ∧ p ≠ c := by
  obtain ⟨ns, m, d⟩ := d
  exact d.ne hp
/-- a draw: any number from 0 on, less than many -/
def spDraw : Sp := fun vs H Q _ => ∃ (a c : Addr) (many : Int), vs = [.ref a, .int many] ∧ Deal H a c ∧ 1 ≤ many ∧ many < 2 ^ 200 ∧ ∀ (r : Int) H', 0 ≤ r → r < many → Deal H' a c → Kp a c H H' → Q (.int r) H'
theorem eqv_nil (ns : List Int) : PyData.eqv (.list (ns.map PyData.int)) (.list []) = decide (ns = []) := by
  cases ns <;> simp [PyData.eqv, PyData.eqvAll]
theorem dpInts {K : PySem.W.Frag} {H : Hp} : ∀ ns : List Int, DpAll K H (ns.map V.int) (ns.map PyData.int)
  | [] => .nil
  | n :: ns => .cons (.int n) (dpInts ns)
theorem layInts : ∀ ns : List Int, PyData.canLayAll0 (ns.map PyData.int) = true
  | [] => rfl
  | n :: ns => by simpa [PyData.canLayAll0, PyData.canLay0] using layInts ns
theorem depInts : ∀ ns : List Int, PyData.depthAll (ns.map PyData.int) = 0
  | [] => rfl
  | n :: ns => by simpa [PyData.depthAll, PyData.depth] using depInts ns
theorem shInts (ns : List Int) : SeqAt.shaped (.list (ns.map PyData.int)) = true := by
  simp [SeqAt.shaped, PyData.canLay0, PyData.depth, layInts, depInts]
theorem lt200 {x m : Int} (h0 : 1 ≤ m) (h : m < 2 ^ 200) : CDivW x m :=
  wide_div (b := 200) (by omega) (by omega) (by decide) (by decide)
section
variable {K : PySem.W.Frag} {σ : L2.St} {H : Hp} {a c : Addr} {ns : List Int} {m : Int}
theorem deal0 (d : DealIs H a c ns m) (h : σ[0]? = some (some (.ref a))) {Q : VK} (k : Q (.ref c) H) : tOp (rIxL K) (tVar 0) (tC (.int 0)) σ H Q :=
  ⟨_, h, a, _, 0, .ref c, rfl, rfl, SqL.of d.hd, rfl, k⟩
theorem deal1 (d : DealIs H a c ns m) (h : σ[0]? = some (some (.ref a))) {Q : VK} (k : Q (.int m) H) : tOp (rIxL K) (tVar 0) (tC (.int 1)) σ H Q :=
  ⟨_, h, a, _, 1, .int m, rfl, rfl, SqL.of d.hd, rfl, k⟩
theorem dealNe (d : DealIs H a c ns m) (h : σ[0]? = some (some (.ref a))) {Q : Bool → Hp → Prop} (k : ∀ p, H p = none → DealIs (upd H p (.lst [])) a c ns m → Q (!decide (ns = [])) (upd H p (.lst []))) :
    tTest (tOp (rNeD K) (tOp (rIxL K) (tVar 0) (tC (.int 0))) (tLst tNil)) σ H Q := by
  refine deal0 d h ?_
  refine ⟨Nat.zero_le _, fun p hp => ?_⟩
  have d' : DealIs (upd H p (.lst [])) a c ns m := d.new hp
  refine ⟨_, .list [], .lst (SqL.of d'.cs) (dpInts ns), .lst (SqL.of upd_same) .nil, shInts ns, rfl, _, rfl, ?_⟩
  rw [eqv_nil]
  exact k p hp d'
theorem rev_last {ns : List Int} (h : ns ≠ []) : ∃ l z, ns = l ++ [z] := ⟨ns.dropLast, ns.getLast h, (List.dropLast_concat_getLast h).symm⟩
end
end U
namespace U
open PySem PySem.Spec PyProof.Rows L2
theorem Same.new {H H1 : Hp} {p : Addr} {o : HO} (x : Same H H1) (hp : H1 p = none) : Same H (upd H1 p o) := fun b u h => by
  have := x b u h
  rw [upd_ne (ne_of_none this hp)]; exact this
theorem Same.mut {H H1 : Hp} {p : Addr} {o : HO} (x : Same H H1) (hp : H p = none) : Same H (upd H1 p o) := fun b u h => by
  rw [upd_ne (ne_of_none h hp)]; exact x b u h
theorem Same.rd {H H' : Hp} {a : Addr} {u : HO} (e : Same H H') (h : Rd H a u) : Rd H' a u := by
  rcases h with h | ⟨o, h⟩
  · exact .inl (e a _ h)
  · exact .inr ⟨o, e a _ h⟩
theorem Same.tup {K : PySem.W.Frag} {H H' : Hp} {a : Addr} {xs : List V} (e : Same H H') (h : SqT K H a xs) : SqT K H' a xs := by
  rcases h with h | h
  · exact .inl (Same.rd e h)
  · exact .inr h
theorem cut_map {α : Type} (f : α → V) (xs : List α) (lo hi : Option Int) : ∃ ys : List α, cutV (xs.map f) lo hi = ys.map f ∧ (∀ y ∈ ys, y ∈ xs) ∧ ys.length ≤ xs.length := by
  refine ⟨(xs.drop (HT.sIx xs.length 0 lo)).take (HT.sIx xs.length xs.length hi - HT.sIx xs.length 0 lo), ?_, fun y hy => List.mem_of_mem_drop (List.mem_of_mem_take hy), ?_⟩
  · unfold cutV
    rw [List.length_map, List.map_take, List.map_drop]
  · rw [List.length_take, List.length_drop]
    omega
/-- the deal of a script -/
def spDeal (K : PySem.W.Frag) : Sp := fun vs H Q _ => ∃ (a0 : Addr) (ns : List Int) (b : Int), vs = [.ref a0, .int b] ∧ SqL K H a0 (ns.map V.int) ∧ ns.length ≤ 63 ∧ 0 ≤ b ∧ b ≤ 63 ∧ ∀ a c H', Same H H' → H a = none → H c = none → Deal H' a c → Q (.ref a) H'
/-- something that is walked: its values, what must stand -/
structure Src (J : It) (xs : List V) (G : Hp → Prop) : Prop where
  w : Walk J xs.length G (YAt xs)
  mono : ∀ H H', Same H H' → G H → G H'
theorem src_list (K : PySem.W.Frag) (a : Addr) (xs : List V) : Src (Itl K a) xs (fun H => SqL K H a xs) := ⟨walk_list, fun _ _ e h => e.seq h⟩
theorem src_tup (K : PySem.W.Frag) (a : Addr) (xs : List V) : Src (Itt K a) xs (fun H => SqT K H a xs) := ⟨walk_tup, fun _ _ e h => Same.tup e h⟩
def rngV (lo : Int) (n : Nat) : List V := (List.range n).map fun (i : Nat) => V.int (lo + (i : Int))
theorem rngV_len (lo : Int) (n : Nat) : (rngV lo n).length = n := by simp [rngV]
theorem rngV_get {lo : Int} {n i : Nat} {x : V} : (rngV lo n)[i]? = some x ↔ i < n ∧ x = .int (lo + (i : Int)) := by
  simp only [rngV, List.getElem?_map, List.getElem?_range]
  constructor
  · intro h
    by_cases hi : i < n
    · rw [List.getElem?_range hi] at h
      exact ⟨hi, (Option.some.inj h).symm⟩
    · rw [List.getElem?_eq_none (by simpa using hi)] at h
      cases h
  · rintro ⟨hi, rfl⟩
    rw [List.getElem?_range hi]
    rfl
theorem src_range (lo : Int) (n : Nat) : Src (Itr lo n) (rngV lo n) (fun _ => True) := by
  refine ⟨⟨fun i H hi _ => ?_, fun H _ => ?_, fun i H x H' hi _ hy => ?_⟩, fun _ _ _ _ => trivial⟩
  · rw [rngV_len] at hi; exact hi
  · rw [rngV_len]; exact Nat.le_refl _
  · rw [rngV_len] at hi
    obtain ⟨e1, e2⟩ := hy
    exact ⟨e1, rngV_get.mpr ⟨hi, e2⟩⟩
theorem src_str (l : List Nat) : Src (Its (S l)) (chars l) (fun _ => True) := by
  have e : (S l).cps.size = l.length := S_len l
  have e2 : (chars l).length = l.length := by simp [chars]
  refine ⟨⟨fun i H hi _ => ?_, fun H _ => ?_, fun i H x H' hi _ hy => ?_⟩, fun _ _ _ _ => trivial⟩
  · rw [e2] at hi; show i < (S l).cps.size; omega
  · rw [e2]; show (S l).cps.size ≤ l.length; omega
  · obtain ⟨e1, c, e3, rfl⟩ := hy
    refine ⟨e1, ?_⟩
    have : l[i]? = some c := by simpa [S] using e3
    simp [chars, this, S]
section
variable {J : It} {xs : List V} {G : Hp → Prop} {σ : L2.St} {H H1 : Hp} {D : Addr} {Qd : Hp → Prop} {vs : List Nat} {tt : TT} {te : TE} {j : Nat}
/-- a comprehension whose tests and items leave what stood -/
theorem lcS (s : Src J xs G) (p : V → Bool) (f : V → V) (hG : G H1) (hD : H1 D = none) (hw : ∀ x, wipe ((wipe σ vs).set j (some x)) vs = wipe σ vs) (hl : xs.length ≤ 100000)
    (ht : ∀ x ∈ xs, ∀ H', Same H1 H' → ∀ Q : Bool → Hp → Prop, (∀ H'', Same H' H'' → Q (p x) H'') → tt ((wipe σ vs).set j (some x)) H' Q)
    (he : ∀ x ∈ xs, p x = true → ∀ H', Same H1 H' → ∀ Q : VK, (∀ H'', Same H' H'' → Q (f x) H'') → te ((wipe σ vs).set j (some x)) H' Q)
    (hd : ∀ H', Same H1 H' → H' D = some (.lst ((xs.filter p).map f)) → Qd H') :
    ∃ W : Nat → Nat → Hp → Prop, (∃ m, W 0 m (upd H1 D (.lst []))) ∧ ∀ i m H, W i m H →
      (J.stop i H ∧ Qd H) ∨ (J.go i H ∧ ∃ Nx : Hp → Prop, (∀ H', Nx H' → ∃ m', m' < m ∧ W (i + 1) m' H') ∧ ∀ x H', J.yld i H x H' → gName j x (wipe σ vs) H' fun σ2 H2 => wipe σ2 vs = wipe σ vs ∧ tt σ2 H2 fun b H3 =>
        if b = true then te σ2 H3 fun y H4 => ∃ acc, H4 D = some (.lst acc) ∧ acc.length < sizeLine ∧ Nx (upd H4 D (.lst (acc ++ [y]))) else Nx H3) := by
  refine lc_it s.w (fun i H' => Same H1 H' ∧ H' D = some (.lst (((xs.take i).filter p).map f))) ⟨Same.new (Same.refl _) hD, by rw [upd_same]; rfl⟩ (fun i H' _ h => s.mono _ _ h.1 hG) ?_ (fun H' h => hd H' h.1 (by have := h.2; rw [List.take_length] at this; exact this))
  rintro i x H2 H3 hi ⟨s1, e1⟩ ⟨rfl, hx⟩
  have hm : x ∈ xs := List.mem_of_getElem? hx
  have et : xs.take (i + 1) = xs.take i ++ [x] := by rw [List.take_add_one, hx]; rfl
  refine ⟨hw x, ht x hm _ s1 _ fun H4 s4 => ?_⟩
  cases hp : p x with
  | false =>
    refine iteF ⟨s1.trans s4, ?_⟩
    rw [et, List.filter_append, List.filter_cons_of_neg (by simp [hp]), List.filter_nil, List.append_nil]
    exact s4 _ _ e1
  | true =>
    refine iteT (he x hm hp _ (s1.trans s4) _ fun H5 s5 => ⟨_, s5 _ _ (s4 _ _ e1), ?_, Same.mut ((s1.trans s4).trans s5) hD, ?_⟩)
    · have h1 : (((xs.take i).filter p).map f).length ≤ xs.length := by
        rw [List.length_map]
        refine Nat.le_trans (List.length_filter_le _ _) ?_
        rw [List.length_take]
        omega
      have := sizeLine_eq
      omega
    · rw [upd_same, et, List.filter_append, List.filter_cons_of_pos (by simp [hp]), List.filter_nil, List.map_append]
      rfl
/-- the same without a test -/
theorem lcM (s : Src J xs G) (f : V → V) (hG : G H1) (hD : H1 D = none) (hw : ∀ x, wipe ((wipe σ vs).set j (some x)) vs = wipe σ vs) (hl : xs.length ≤ 100000)
    (he : ∀ x ∈ xs, ∀ H', Same H1 H' → ∀ Q : VK, (∀ H'', Same H' H'' → Q (f x) H'') → te ((wipe σ vs).set j (some x)) H' Q)
    (hd : ∀ H', Same H1 H' → H' D = some (.lst (xs.map f)) → Qd H') :
    ∃ W : Nat → Nat → Hp → Prop, (∃ m, W 0 m (upd H1 D (.lst []))) ∧ ∀ i m H, W i m H →
      (J.stop i H ∧ Qd H) ∨ (J.go i H ∧ ∃ Nx : Hp → Prop, (∀ H', Nx H' → ∃ m', m' < m ∧ W (i + 1) m' H') ∧ ∀ x H', J.yld i H x H' → gName j x (wipe σ vs) H' fun σ2 H2 => wipe σ2 vs = wipe σ vs ∧ tYes σ2 H2 fun b H3 =>
        if b = true then te σ2 H3 fun y H4 => ∃ acc, H4 D = some (.lst acc) ∧ acc.length < sizeLine ∧ Nx (upd H4 D (.lst (acc ++ [y]))) else Nx H3) :=
  lcS s (fun _ => true) f hG hD hw hl (fun x _ H' _ Q k => k H' (Same.refl _)) (fun x hx _ => he x hx) (fun H' s1 e => hd H' s1 (by rw [e, List.filter_eq_self.mpr (fun _ _ => rfl)]))
end
end U
namespace U
open PySem PySem.Spec PyProof.Rows L2
theorem Kp.rd {a c p : Addr} {H H' : Hp} {u : HO} (e : Kp a c H H') (h1 : p ≠ a) (h2 : p ≠ c) (h : Rd H p u) : Rd H' p u := by
  rcases h with h | ⟨o, h⟩
  · exact .inl (e p _ h1 h2 h)
  · exact .inr ⟨o, e p _ h1 h2 h⟩
theorem Kp.sqL {K : PySem.W.Frag} {a c p : Addr} {H H' : Hp} {xs : List V} (e : Kp a c H H') (h1 : p ≠ a) (h2 : p ≠ c) (h : SqL K H p xs) : SqL K H' p xs := by
  rcases h with h | h
  · exact .inl (e.rd h1 h2 h)
  · exact .inr h
theorem Kp.sqT {K : PySem.W.Frag} {a c p : Addr} {H H' : Hp} {xs : List V} (e : Kp a c H H') (h1 : p ≠ a) (h2 : p ≠ c) (h : SqT K H p xs) : SqT K H' p xs := by
  rcases h with h | h
  · exact .inl (e.rd h1 h2 h)
  · exact .inr h
theorem Same.kp {a c : Addr} {H H' : Hp} (e : Same H H') : Kp a c H H' := fun b o _ _ h => e b o h
theorem Deal.free {a c p : Addr} {H H' : Hp} (d : Deal H a c) (e : Kp a c H H') (d' : Deal H' a c) (hp : H' p = none) : H p = none := by
  cases q : H p with
  | none => rfl
  | some o =>
    have n := d'.ne hp
    rw [e p o n.1 n.2 q] at hp
    cases hp
theorem atI_int {α : Type} {xs : List α} {i : Int} {v : α} (h0 : 0 ≤ i) (h : xs[i.toNat]? = some v) : atI xs i = some v := by
  obtain ⟨n, rfl⟩ := Int.eq_ofNat_of_zero_le h0
  exact atI_nat (by simpa using h)
/-- one sign of a text; one thing of a list -/
def spPickS : Sp := fun vs H Q _ => ∃ (a c : Addr) (l : List Nat), vs = [.ref a, .str (S l)] ∧ Deal H a c ∧ l ≠ [] ∧ l.length ≤ 1000 ∧ ∀ (x : Nat) H', x ∈ l → Deal H' a c → Kp a c H H' → Q (.str (S [x])) H'
def spPickL (K : PySem.W.Frag) : Sp := fun vs H Q _ => ∃ (a c p : Addr) (xs : List V), vs = [.ref a, .ref p] ∧ Deal H a c ∧ SqL K H p xs ∧ p ≠ a ∧ p ≠ c ∧ xs ≠ [] ∧ xs.length ≤ 1000 ∧ ∀ (v : V) H', v ∈ xs → Deal H' a c → Kp a c H H' → Q v H'
/-- letters: some signs, each once, ascending -/
def signs : List Nat := (Str.ofString "-./0123456789_abcdefghijklmnopqrstuvwxyz").cps.toList
theorem signs_eq : signs = [45, 46, 47, 48, 49, 50, 51, 52, 53, 54, 55, 56, 57, 95, 97, 98, 99, 100, 101, 102, 103, 104, 105, 106, 107, 108, 109, 110, 111, 112, 113, 114, 115, 116, 117, 118, 119, 120, 121, 122] := by decide +kernel
theorem signs_S : Str.ofString "-./0123456789_abcdefghijklmnopqrstuvwxyz" = S signs := (S_cps _).symm
structure Letters (l : List Nat) (n : Nat) : Prop where
  len : l.length = n
  asc : l.Pairwise (· < ·)
  sub : ∀ x ∈ l, x ∈ signs
theorem nat_of {z : Int} (h : 0 ≤ z) : ∃ n : Nat, z = (n : Int) := ⟨z.toNat, (Int.toNat_of_nonneg h).symm⟩
def spLetters : Sp := fun vs H Q _ => ∃ (a c : Addr) (z : Int), vs = [.ref a, .int z] ∧ Deal H a c ∧ 0 ≤ z ∧ z ≤ 10 ∧ ∀ l H', Letters l z.toNat → Deal H' a c → Kp a c H H' → Q (.str (S l)) H'
/-! ### joined signs, sorted signs -/
theorem join_nil : ∀ ls : List (List Nat), Txt.join (S []) (ls.map S) = S ls.flatten := by
  intro ls
  rw [show Txt.join (S []) (ls.map S) = Str.join (S []) (ls.map S) from PySem.StrLaws.glued_eq_join _ _]
  induction ls with
  | nil => rfl
  | cons x r ih =>
    cases r with
    | nil => simp [Str.join]
    | cons y r =>
      show S x ++ S [] ++ Str.join (S []) (S y :: r.map S) = _
      rw [show (S y :: r.map S) = (y :: r).map S from rfl, ih, S_app, S_app]
      simp
theorem joinOnes (l : List Nat) : Txt.join (S []) (l.map fun c => S [c]) = S l := by
  have h := join_nil (l.map fun c => [c])
  rw [List.map_map] at h
  have e : ∀ l : List Nat, (l.map fun c => [c]).flatten = l := fun l => by
    induction l with
    | nil => rfl
    | cons x r ih => rw [List.map_cons, List.flatten_cons, ih]; rfl
  rw [e] at h
  exact h
theorem len_ones (l : List Nat) : ((l.map fun c => S [c]).map (·.length)).sum = l.length := by
  induction l with
  | nil => rfl
  | cons x r ih =>
    have e : (S [x]).length = 1 := S_len [x]
    simp only [List.map_cons, List.sum_cons, List.length_cons, e]
    omega
theorem chars_eq (l : List Nat) : chars l = (l.map fun c => S [c]).map V.str := by simp [chars]
theorem perm_ones {ys : List Str} {xs : List Nat} (h : ys.Perm (xs.map fun c => S [c])) : ∃ l : List Nat, l.Perm xs ∧ ys = l.map fun c => S [c] := by
  refine ⟨ys.map fun z => z.cps.toList.headD 0, ?_, ?_⟩
  · have h2 := h.map fun z : Str => z.cps.toList.headD 0
    rw [List.map_map] at h2
    have e : (xs.map ((fun z : Str => z.cps.toList.headD 0) ∘ fun c => S [c])) = xs := by
      conv => rhs; rw [← List.map_id xs]
      exact List.map_congr_left fun c _ => by simp [S]
    rw [e] at h2
    exact h2
  · rw [List.map_map]
    conv => lhs; rw [← List.map_id ys]
    refine List.map_congr_left fun z hz => ?_
    obtain ⟨c, _, rfl⟩ := List.mem_map.mp (h.mem_iff.mp hz)
    simp [S]
theorem sorted_ones : ∀ {l : List Nat}, sortedS (l.map fun c => S [c]) = true → l.Pairwise (· ≤ ·) := by
  have key : ∀ (l : List Nat) (p : Nat), risingS (S [p]) (l.map fun c => S [c]) = true → (∀ x ∈ l, p ≤ x) ∧ l.Pairwise (· ≤ ·) := by
    intro l
    induction l with
    | nil => intro p _; exact ⟨fun _ h => (nomatch h), .nil⟩
    | cons x r ih =>
      intro p h
      rw [List.map_cons] at h
      unfold risingS at h
      obtain ⟨h1, h2⟩ := Bool.and_eq_true_iff.mp h
      obtain ⟨h3, h4⟩ := ih x h2
      have h5 : p ≤ x := by
        rw [S_toList, S_toList, ltCps_eq] at h1
        have h1 : decide ([x] < [p]) = false := by simpa using h1
        have h1 := of_decide_eq_false h1
        rw [List.cons_lt_cons_iff] at h1
        omega
      refine ⟨fun y hy => ?_, .cons h3 h4⟩
      rcases List.mem_cons.mp hy with rfl | hy
      · exact h5
      · exact Nat.le_trans h5 (h3 y hy)
  intro l h
  cases l with
  | nil => exact .nil
  | cons x r =>
    obtain ⟨h3, h4⟩ := key r x h
    exact .cons h3 h4
theorem asc_of {l : List Nat} (h : l.Pairwise (· ≤ ·)) (n : l.Nodup) : l.Pairwise (· < ·) := by
  have := h.and n
  exact this.imp fun ⟨a, b⟩ => by omega
theorem seqIx {r : Int} {n : Nat} (h0 : 0 ≤ r) (h1 : r < n) : seqIndex? r n = some r.toNat := by
  have e : ixN n r = some r.toNat := by
    unfold ixN
    rw [if_pos h0, if_pos h1]
  exact (ixN_seq e).1
theorem map_erase {α β : Type} (f : α → β) : ∀ (l : List α) (i : Nat), (l.map f).eraseIdx i = (l.eraseIdx i).map f
  | [], _ => rfl
  | _ :: _, 0 => rfl
  | x :: l, i + 1 => by
    show f x :: (l.map f).eraseIdx i = f x :: (l.eraseIdx i).map f
    rw [map_erase f l i]
theorem erase_perm {α : Type} : ∀ (l : List α) (i : Nat) (h : i < l.length), (l[i] :: l.eraseIdx i).Perm l
  | x :: l, 0, _ => List.Perm.refl _
  | x :: l, i + 1, h => by
    have hi : i < l.length := by simpa using h
    have ih := erase_perm l i hi
    show (l[i] :: x :: l.eraseIdx i).Perm (x :: l)
    exact (List.Perm.swap x l[i] _).trans (ih.cons x)
theorem signs_nd : signs.Nodup := by rw [signs_eq]; decide +kernel
theorem signs_len : signs.length = 40 := by rw [signs_eq]; rfl
theorem empty_S : Str.ofString "" = S [] := rfl
/-- a word over letters -/
def spWord : Sp := fun vs H Q _ => ∃ (a c : Addr) (l : List Nat) (z : Int), vs = [.ref a, .str (S l), .int z] ∧ Deal H a c ∧ l ≠ [] ∧ l.length ≤ 1000 ∧ 0 ≤ z ∧ z ≤ 1000 ∧
  ∀ (x : List Nat) H', x.length ≤ z.toNat → (∀ y ∈ x, y ∈ l) → Deal H' a c → Kp a c H H' → Q (.str (S x)) H'
end U
/-! numbers of names: plain mathematics -/
namespace M3
/-- the place of a letter -/
def ix : List Nat → Nat → Nat
  | [], _ => 0
  | x :: r, c => if x = c then 0 else ix r c + 1
theorem ix_lt : ∀ {L : List Nat} {c : Nat}, c ∈ L → ix L c < L.length
  | x :: r, c, h => by
    unfold ix
    split
    · simp
    · rename_i hn
      have : c ∈ r := by
        rcases List.mem_cons.mp h with e | h
        · exact absurd e.symm hn
        · exact h
      have := ix_lt this
      simp; omega
theorem ix_get : ∀ {L : List Nat} {c : Nat}, c ∈ L → L[ix L c]? = some c
  | x :: r, c, h => by
    unfold ix
    split
    · rename_i e; simp [e]
    · rename_i hn
      have : c ∈ r := by
        rcases List.mem_cons.mp h with e | h
        · exact absurd e.symm hn
        · exact h
      simpa using ix_get this
theorem ix_of {L : List Nat} (nd : L.Nodup) {i c : Nat} (h : L[i]? = some c) : ix L c = i := by
  induction L generalizing i with
  | nil => simp at h
  | cons x r ih =>
    unfold ix
    cases i with
    | zero =>
      have e : x = c := by simpa using h
      simp [e]
    | succ i =>
      have h : r[i]? = some c := by simpa using h
      have hm : c ∈ r := List.mem_of_getElem? h
      have hx : x ∉ r := (List.nodup_cons.mp nd).1
      have hne : x ≠ c := fun e => hx (e ▸ hm)
      rw [if_neg hne, ih (List.nodup_cons.mp nd).2 h]
theorem ix_mono {L : List Nat} (asc : L.Pairwise (· < ·)) {c d : Nat} (hc : c ∈ L) (hd : d ∈ L) : c < d ↔ ix L c < ix L d := by
  have key : ∀ {c d : Nat}, c ∈ L → d ∈ L → ix L c < ix L d → c < d := by
    intro c d hc hd h
    have e1 := ix_get hc
    have e2 := ix_get hd
    have l1 := ix_lt hc
    have l2 := ix_lt hd
    have := List.pairwise_iff_getElem.mp asc (ix L c) (ix L d) l1 l2 h
    rw [List.getElem?_eq_getElem l1] at e1
    rw [List.getElem?_eq_getElem l2] at e2
    rw [Option.some.inj e1, Option.some.inj e2] at this
    exact this
  constructor
  · intro h
    rcases Nat.lt_trichotomy (ix L c) (ix L d) with h1 | h1 | h1
    · exact h1
    · have e1 := ix_get hc
      have e2 := ix_get hd
      rw [h1, e2] at e1
      have := Option.some.inj e1
      omega
    · have := key hd hc h1
      omega
  · exact key hc hd
theorem ix_inj {L : List Nat} {c d : Nat} (hc : c ∈ L) (hd : d ∈ L) (h : ix L c = ix L d) : c = d := by
  have e1 := ix_get hc
  have e2 := ix_get hd
  rw [h, e2] at e1
  exact (Option.some.inj e1).symm
def geo (n : Nat) : Nat → Nat
  | 0 => 0
  | m + 1 => geo n m + n ^ m
/-- digits, the first one the greatest place -/
def pv (n : Nat) : List Nat → Nat
  | [] => 0
  | x :: d => x * n ^ d.length + pv n d
def val (n : Nat) (d : List Nat) : Nat := d.foldl (fun a x => a * n + x + 1) 0
theorem val_app (n : Nat) (d : List Nat) (x : Nat) : val n (d ++ [x]) = val n d * n + x + 1 := by simp [val]
theorem geo_mul (n m : Nat) : geo n (m + 1) = geo n m * n + 1 := by
  induction m with
  | zero => simp [geo]
  | succ m ih =>
    show geo n (m + 1) + n ^ (m + 1) = geo n (m + 1) * n + 1
    conv => lhs; rw [ih]
    show geo n m * n + 1 + n ^ (m + 1) = (geo n m + n ^ m) * n + 1
    rw [Nat.add_mul, Nat.pow_succ]
    omega
theorem pv_app (n : Nat) (d : List Nat) (x : Nat) : pv n (d ++ [x]) = pv n d * n + x := by
  induction d with
  | nil => simp [pv]
  | cons y d ih =>
    show y * n ^ (d ++ [x]).length + pv n (d ++ [x]) = (y * n ^ d.length + pv n d) * n + x
    rw [ih, List.length_append, Nat.add_mul, Nat.mul_assoc, ← Nat.pow_succ]
    show y * n ^ (d.length + 1) + (pv n d * n + x) = y * n ^ (d.length + 1) + pv n d * n + x
    omega
theorem val_eq (n : Nat) (d : List Nat) : val n d = geo n d.length + pv n d := by
  generalize hm : d.length = m
  induction m generalizing d with
  | zero =>
    have : d = [] := List.length_eq_zero_iff.mp hm
    subst this
    rfl
  | succ m ih =>
    have hne : d ≠ [] := by intro e; subst e; simp at hm
    obtain ⟨l, x, rfl⟩ : ∃ l x, d = l ++ [x] := ⟨d.dropLast, d.getLast hne, (List.dropLast_concat_getLast hne).symm⟩
    have hl : l.length = m := by simpa using hm
    rw [val_app, pv_app, geo_mul, ih l hl, Nat.add_mul]
    omega
theorem pv_lt {n : Nat} (hn : 1 ≤ n) : ∀ d : List Nat, (∀ x ∈ d, x < n) → pv n d < n ^ d.length
  | [], _ => by simp [pv]
  | x :: d, h => by
    have h1 := pv_lt hn d fun y hy => h y (List.mem_cons_of_mem _ hy)
    have h2 : x < n := h x List.mem_cons_self
    show x * n ^ d.length + pv n d < n ^ (d.length + 1)
    have h3 : (x + 1) * n ^ d.length ≤ n * n ^ d.length := Nat.mul_le_mul_right _ h2
    rw [Nat.pow_succ, Nat.mul_comm (n ^ d.length) n]
    rw [Nat.add_mul] at h3
    omega
theorem geo_le {n : Nat} {a b : Nat} (h : a ≤ b) : geo n a ≤ geo n b := by
  induction h with
  | refl => exact Nat.le_refl _
  | step _ ih => exact Nat.le_trans ih (Nat.le_add_right _ _)
theorem val_len {n : Nat} (hn : 1 ≤ n) {a b : List Nat} (ha : ∀ x ∈ a, x < n) (h : a.length < b.length) : val n a < val n b := by
  rw [val_eq, val_eq]
  have h1 := pv_lt hn a ha
  have h2 : geo n (a.length + 1) ≤ geo n b.length := geo_le h
  have h3 : geo n (a.length + 1) = geo n a.length + n ^ a.length := rfl
  omega
/-- of one length: by the first unlike digit -/
theorem pv_lex {n : Nat} (hn : 1 ≤ n) : ∀ {a b : List Nat}, a.length = b.length → (∀ x ∈ a, x < n) → (∀ x ∈ b, x < n) → pv n a < pv n b → a < b
  | [], [], _, _, _, h => by simp [pv] at h
  | x :: a, y :: b, hl0, ha, hb, h0 => by
    have hl : a.length = b.length := by simpa using hl0
    have h1 := pv_lt hn a fun y hy => ha y (List.mem_cons_of_mem _ hy)
    have h2 := pv_lt hn b fun y hy => hb y (List.mem_cons_of_mem _ hy)
    have h : x * n ^ a.length + pv n a < y * n ^ b.length + pv n b := h0
    clear h0 hl0
    rw [List.cons_lt_cons_iff]
    rcases Nat.lt_trichotomy x y with e | e | e
    · exact .inl e
    · subst e
      rw [hl] at h
      exact .inr ⟨rfl, pv_lex hn hl (fun y hy => ha y (List.mem_cons_of_mem _ hy)) (fun y hy => hb y (List.mem_cons_of_mem _ hy)) (by omega)⟩
    · exfalso
      have h3 : (y + 1) * n ^ a.length ≤ x * n ^ a.length := Nat.mul_le_mul_right _ e
      rw [Nat.add_mul, hl] at h3
      rw [hl] at h
      omega
theorem pv_inj {n : Nat} (hn : 1 ≤ n) : ∀ {a b : List Nat}, a.length = b.length → (∀ x ∈ a, x < n) → (∀ x ∈ b, x < n) → pv n a = pv n b → a = b
  | [], [], _, _, _, h => rfl
  | x :: a, y :: b, hl0, ha, hb, h0 => by
    have hl : a.length = b.length := by simpa using hl0
    have h1 := pv_lt hn a fun y hy => ha y (List.mem_cons_of_mem _ hy)
    have h2 := pv_lt hn b fun y hy => hb y (List.mem_cons_of_mem _ hy)
    have h : x * n ^ a.length + pv n a = y * n ^ b.length + pv n b := h0
    clear h0 hl0
    rw [hl] at h h1
    rcases Nat.lt_trichotomy x y with e | e | e
    · exfalso
      have h3 : (x + 1) * n ^ b.length ≤ y * n ^ b.length := Nat.mul_le_mul_right _ e
      rw [Nat.add_mul] at h3
      omega
    · subst e
      rw [pv_inj hn hl (fun y hy => ha y (List.mem_cons_of_mem _ hy)) (fun y hy => hb y (List.mem_cons_of_mem _ hy)) (by omega)]
    · exfalso
      have h3 : (y + 1) * n ^ b.length ≤ x * n ^ b.length := Nat.mul_le_mul_right _ e
      rw [Nat.add_mul] at h3
      omega
theorem val_inj {n : Nat} (hn : 1 ≤ n) {a b : List Nat} (ha : ∀ x ∈ a, x < n) (hb : ∀ x ∈ b, x < n) (h : val n a = val n b) : a = b := by
  have hl : a.length = b.length := by
    rcases Nat.lt_trichotomy a.length b.length with e | e | e
    · have := val_len hn ha e; omega
    · exact e
    · have := val_len hn hb e; omega
  refine pv_inj hn hl ha hb ?_
  rw [val_eq, val_eq, hl] at h
  omega
/-- the name with a number: its digits -/
def nm (n : Nat) (k : Nat) : List Nat := if h : k = 0 ∨ n = 0 then [] else nm n ((k - 1) / n) ++ [(k - 1) % n]
termination_by k
decreasing_by
  have h1 : (k - 1) / n ≤ k - 1 := Nat.div_le_self _ _
  omega
theorem nm_zero (n : Nat) : nm n 0 = [] := by rw [nm]; simp
theorem nm_pos {n k : Nat} (hn : 1 ≤ n) (hk : 1 ≤ k) : nm n k = nm n ((k - 1) / n) ++ [(k - 1) % n] := by
  conv => lhs; rw [nm]
  rw [dif_neg (by omega)]
theorem nm_val {n : Nat} (hn : 1 ≤ n) (k : Nat) : val n (nm n k) = k ∧ ∀ x ∈ nm n k, x < n := by
  induction k using Nat.strongRecOn with
  | _ k ih =>
    by_cases hk : k = 0
    · subst hk
      rw [nm_zero]
      exact ⟨rfl, fun _ h => nomatch h⟩
    · rw [nm_pos hn (by omega)]
      have h1 : (k - 1) / n ≤ k - 1 := Nat.div_le_self _ _
      obtain ⟨h2, h3⟩ := ih ((k - 1) / n) (by omega)
      refine ⟨?_, fun x hx => ?_⟩
      · rw [val_app, h2]
        have := Nat.div_add_mod (k - 1) n
        rw [Nat.mul_comm] at this
        omega
      · rcases List.mem_append.mp hx with h | h
        · exact h3 x h
        · rw [List.mem_singleton.mp h]
          exact Nat.mod_lt _ hn
theorem nm_of {n : Nat} (hn : 1 ≤ n) {d : List Nat} (hd : ∀ x ∈ d, x < n) : nm n (val n d) = d :=
  val_inj hn (nm_val hn _).2 hd (nm_val hn _).1
theorem nm_len {n : Nat} (hn : 2 ≤ n) : ∀ (m k : Nat), k < 2 ^ m → (nm n k).length ≤ m
  | 0, k, h => by
    have : k = 0 := by simpa using h
    subst this
    rw [nm_zero]
    simp
  | m + 1, k, h => by
    by_cases hk : k = 0
    · subst hk
      rw [nm_zero]
      simp
    · rw [nm_pos (by omega) (by omega), List.length_append]
      have h1 : (k - 1) / n ≤ (k - 1) / 2 := Nat.div_le_div_left hn (by decide)
      have := nm_len hn m ((k - 1) / n) (by rw [Nat.pow_succ] at h; omega)
      simp; omega
/-- names beside each other -/
theorem nm_next {n : Nat} (hn : 1 ≤ n) (k : Nat) : (nm n k).length ≤ (nm n (k + 1)).length ∧ ((nm n k).length = (nm n (k + 1)).length → nm n k < nm n (k + 1)) := by
  obtain ⟨e1, d1⟩ := nm_val hn k
  obtain ⟨e2, d2⟩ := nm_val hn (k + 1)
  refine ⟨?_, fun hl => ?_⟩
  · apply Nat.le_of_not_lt
    intro h
    have := val_len hn d2 h
    omega
  · refine pv_lex hn hl d1 d2 ?_
    rw [val_eq, hl] at e1
    rw [val_eq] at e2
    omega
/-- digits and letters have one order -/
theorem lex_map {L : List Nat} (asc : L.Pairwise (· < ·)) : ∀ {a b : List Nat}, (∀ x ∈ a, x < L.length) → (∀ x ∈ b, x < L.length) → a < b → a.map (L.getD · 0) < b.map (L.getD · 0)
  | [], [], _, _, h => absurd h (by simp)
  | [], _ :: _, _, _, _ => by simp
  | _ :: _, [], _, _, h => absurd h (by simp)
  | x :: a, y :: b, ha, hb, h => by
    rw [List.cons_lt_cons_iff] at h
    rw [List.map_cons, List.map_cons, List.cons_lt_cons_iff]
    have hx := ha x List.mem_cons_self
    have hy := hb y List.mem_cons_self
    rcases h with h | ⟨e, h⟩
    · left
      have := List.pairwise_iff_getElem.mp asc x y hx hy h
      simpa [List.getD, List.getElem?_eq_getElem hx, List.getElem?_eq_getElem hy] using this
    · subst e
      exact .inr ⟨rfl, lex_map asc (fun y hy => ha y (List.mem_cons_of_mem _ hy)) (fun y hy => hb y (List.mem_cons_of_mem _ hy)) h⟩
theorem val_lt {n : Nat} (hn : 2 ≤ n) (h5 : n ≤ 5) : ∀ d : List Nat, (∀ x ∈ d, x < n) → val n d + 1 ≤ 6 ^ d.length := by
  intro d
  generalize hm : d.length = m
  induction m generalizing d with
  | zero =>
    have : d = [] := List.length_eq_zero_iff.mp hm
    subst this
    intro _
    exact Nat.le_refl _
  | succ m ih =>
    intro h
    have hne : d ≠ [] := by intro e; subst e; simp at hm
    obtain ⟨l, x, rfl⟩ : ∃ l x, d = l ++ [x] := ⟨d.dropLast, d.getLast hne, (List.dropLast_concat_getLast hne).symm⟩
    have hl : l.length = m := by simpa using hm
    have h1 := ih l hl fun y hy => h y (by simp [hy])
    have h2 := h x (by simp)
    rw [val_app, Nat.pow_succ]
    have h3 : val n l * n ≤ val n l * 5 := Nat.mul_le_mul_left _ h5
    omega
end M3
namespace U
open PySem PySem.Spec PyProof.Rows L2
theorem idx_occ {L : List Nat} (nd : L.Nodup) {c : Nat} (hc : c ∈ L) : ∃ rest, Builtin.Str.occurrences (S L) (S [c]) 0 (S L).length 1 = M3.ix L c :: rest := by
  have h := StrLaws.found_one (S L) c
  rw [S_toList, decide_eq_true hc] at h
  have e : (⟨#[c]⟩ : Str) = S [c] := rfl
  rw [e] at h
  cases ho : Builtin.Str.occurrences (S L) (S [c]) 0 (S L).length 1 with
  | nil => rw [ho] at h; cases h
  | cons i rest =>
    have h1 := StrLaws.occ_spec (S L) (S [c]) 0 (S L).length 1 i (by rw [ho]; exact List.mem_cons_self)
    have h2 := (StrLaws.subAt_one (S L) c i).mp h1
    rw [S_toList] at h2
    exact ⟨rest, by rw [M3.ix_of nd h2]⟩
theorem asc_nd {L : List Nat} (h : L.Pairwise (· < ·)) : L.Nodup := h.imp fun h => by omega
theorem getD_get {L : List Nat} {i : Nat} (h : i < L.length) : L[i]? = some (L.getD i 0) := by simp [List.getD, List.getElem?_eq_getElem h]
theorem map_ix_getD {L : List Nat} : ∀ {x : List Nat}, (∀ y ∈ x, y ∈ L) → (x.map (M3.ix L)).map (L.getD · 0) = x
  | [], _ => rfl
  | y :: x, h => by
    have h1 := M3.ix_get (h y List.mem_cons_self)
    rw [List.map_cons, List.map_cons, map_ix_getD fun z hz => h z (List.mem_cons_of_mem _ hz)]
    simp [List.getD, h1]
theorem map_getD_ix {L : List Nat} (nd : L.Nodup) : ∀ {d : List Nat}, (∀ y ∈ d, y < L.length) → (d.map (L.getD · 0)).map (M3.ix L) = d
  | [], _ => rfl
  | y :: d, h => by
    have h1 := M3.ix_of nd (getD_get (h y List.mem_cons_self))
    rw [List.map_cons, List.map_cons, map_getD_ix nd fun z hz => h z (List.mem_cons_of_mem _ hz), h1]
theorem lg {n : Nat} (h : n < 2 ^ 250) : n.log2 < 1920 := by
  by_cases h0 : n = 0
  · subst h0
    decide
  · refine Nat.lt_of_lt_of_le ((Nat.log2_lt h0).mpr h) (by decide)
theorem lgI {z : Int} (h0 : 0 ≤ z) (h : z < 2 ^ 250) : z.natAbs.log2 < 1920 := lg (by omega)
theorem Deal.same {a c : Addr} {H H' : Hp} (d : Deal H a c) (e : Same H H') : Deal H' a c := by
  obtain ⟨ns, m, d⟩ := d
  exact ⟨ns, m, ⟨e _ _ d.hd, e _ _ d.cs, d.pos, d.few, d.m0, d.m1⟩⟩
theorem cut_take (l : List Nat) {r : Int} (h : 0 ≤ r) : cutS (S l) none (some r) = S (l.take r.toNat) := by
  obtain ⟨n, rfl⟩ := nat_of h
  unfold cutS
  rw [S_toList, S_len, HT.sIx_none, HT.sIx_nat, List.drop_zero, Nat.sub_zero, Int.toNat_natCast]
  show S (l.take (min n l.length)) = _
  congr 1
  by_cases hl : n ≤ l.length
  · rw [Nat.min_eq_left hl]
  · rw [Nat.min_eq_right (by omega), List.take_length, List.take_of_length_le (by omega)]
theorem cut_drop (l : List Nat) {r : Int} (h : 0 ≤ r) : cutS (S l) (some r) none = S (l.drop r.toNat) := by
  obtain ⟨n, rfl⟩ := nat_of h
  unfold cutS
  rw [S_toList, S_len, HT.sIx_none, HT.sIx_nat, Int.toNat_natCast]
  show S ((l.drop (min n l.length)).take (l.length - min n l.length)) = _
  congr 1
  by_cases hl : n ≤ l.length
  · rw [Nat.min_eq_left hl, List.take_of_length_le (by rw [List.length_drop]; omega)]
  · rw [Nat.min_eq_right (by omega), List.drop_of_length_le (i := n) (by omega), List.drop_length, List.take_nil]
theorem rep_mem {x : List Nat} {n y : Nat} (h : y ∈ rep x n) : y ∈ x := by
  unfold rep at h
  obtain ⟨l, hl, hy⟩ := List.mem_flatten.mp h
  rw [(List.mem_replicate.mp hl).2] at hy
  exact hy
end U
namespace U
open PySem PySem.Spec PyProof.Rows L2
/-! ### repr of plain values -/
def reprT : V → Str
  | .non => "None"
  | .bl b => if b then "True" else "False"
  | .int i => toString i
  | .str x => reprText x
  | _ => ""
def reprOk : V → Prop
  | .non => True
  | .bl _ => True
  | .int i => i.natAbs.log2 < 1920
  | .str x => (reprText x).length ≤ sizeLine
  | _ => False
section
variable {X : Cx}
theorem call_repr : CallR X (.builtin "repr") (fun xs H Q => ∃ v, xs = [v] ∧ reprOk v ∧ Q (.str (reprT v)) H) := by
  intro pins s σ H xs us Q I r h
  obtain ⟨v, rfl, hz, q⟩ := h
  obtain ⟨u, rfl, rx⟩ := vals1 r
  cases v with
  | non =>
    cases rx
    exact PySem.P.repr_of_none ⟨.str _, H, I.tok _, ⟨_, rfl⟩, q⟩
  | bl b =>
    cases rx
    exact PySem.P.repr_of_bool ⟨.str _, H, I.tok _, ⟨_, by cases b <;> rfl⟩, q⟩
  | int i =>
    obtain ⟨t, rfl⟩ := rx
    exact PySem.P.repr_of_int hz ⟨.str _, H, I.tok _, ⟨_, rfl⟩, q⟩
  | str x =>
    obtain ⟨t, rfl⟩ := rx
    exact PySem.P.repr_of_str ⟨.str _, H, I.tok _, ⟨_, rfl⟩, q⟩ hz
  | byt _ => exact hz.elim
  | flt _ => exact hz.elim
  | ref _ => exact hz.elim
  | ty _ => exact hz.elim
end
/-! ### beginnings, stripped texts -/
theorem starts_eq (a b : List Nat) : Txt.startswith (S a) (S b) = decide (a.take b.length = b) := by
  unfold Txt.startswith
  rw [PySem.StrLaws.subAt_eq, S_toList, S_toList, S_len, S_len, List.drop_zero, Nat.zero_add]
  by_cases h : a.take b.length = b
  · have hl : b.length ≤ a.length := by
      have := congrArg List.length h
      rw [List.length_take] at this
      omega
    simp [h, hl]
  · simp [h]
theorem sub_S (l : List Nat) (i j : Nat) : Builtin.Str.strSub (S l) i j = S ((l.take j).drop i) := by
  show Str.mk ((S l).cps.extract i j) = _
  have : ((S l).cps.extract i j).toList = (l.take j).drop i := by
    simp [S, List.drop_take]
  rw [← S_cps (Str.mk _)]
  rw [this]
theorem goes_eq (g : Nat) : (S [g]).cps.contains = fun c => c == g := by
  funext c
  rw [Bool.eq_iff_iff]
  simp [S]
theorem tw_all {g : Nat} {l : List Nat} (h : ∀ x ∈ l, x = g) : l.takeWhile (fun c => c == g) = l := by
  induction l with
  | nil => rfl
  | cons x l ih =>
    have hx := h x List.mem_cons_self
    subst hx
    simp [List.takeWhile_cons, ih fun y hy => h y (List.mem_cons_of_mem _ hy)]
theorem tw_mem {g : Nat} : ∀ {l : List Nat}, ∀ x ∈ l.takeWhile (fun c => c == g), x = g
  | y :: l, x, h => by
    rw [List.takeWhile_cons] at h
    split at h
    · rename_i hy
      rcases List.mem_cons.mp h with rfl | h
      · simpa using hy
      · exact tw_mem x h
    · cases h
theorem eq_rep {g : Nat} {l : List Nat} (h : ∀ x ∈ l, x = g) : l = List.replicate l.length g := List.eq_replicate_iff.mpr ⟨rfl, h⟩
theorem dw_head {g : Nat} : ∀ {l : List Nat} {x : Nat} {r : List Nat}, l.dropWhile (fun c => c == g) = x :: r → x ≠ g
  | y :: l, x, r, h => by
    rw [List.dropWhile_cons] at h
    split at h
    · exact dw_head h
    · rename_i hy
      cases h
      simpa using hy
theorem rst_spec (l : List Nat) (g : Nat) : ∃ (kept : List Nat) (m : Nat), Txt.rstripChars (S l) (S [g]) = S kept ∧ l = kept ++ List.replicate m g ∧ (kept = [] ∨ ∃ k0 x, kept = k0 ++ [x] ∧ x ≠ g) := by
  have e : Txt.rstripChars (S l) (S [g]) = S (l.take (l.length - (l.reverse.takeWhile fun c => c == g).length)) := by
    unfold Txt.rstripChars
    rw [PySem.W.stripBy_eq, goes_eq]
    show Builtin.Str.strSub (S l) 0 ((S l).length - (((S l).cps.toList.drop 0).reverse.takeWhile _).length) = _
    rw [sub_S, S_toList, S_len, List.drop_zero, List.drop_zero]
  have h1 := List.takeWhile_append_dropWhile (p := fun c => c == g) (l := l.reverse)
  generalize ht : l.reverse.takeWhile (fun c => c == g) = t at *
  generalize hd : l.reverse.dropWhile (fun c => c == g) = d at *
  have h2 : l = d.reverse ++ t.reverse := by
    have := congrArg List.reverse h1
    rw [List.reverse_append, List.reverse_reverse] at this
    exact this.symm
  have ht2 : t.reverse = List.replicate t.length g := by
    have := eq_rep (l := t.reverse) (g := g) fun x hx => by
      rw [List.mem_reverse, ← ht] at hx
      exact tw_mem x hx
    rw [List.length_reverse] at this
    exact this
  have h3 : l.take (l.length - t.length) = d.reverse := by
    have : l.length - t.length = d.reverse.length := by
      rw [h2, List.length_append, List.length_reverse, List.length_reverse]
      omega
    rw [this, h2, List.take_left']
    rfl
  refine ⟨d.reverse, t.length, by rw [e, h3], by rw [← ht2]; exact h2, ?_⟩
  cases d with
  | nil => exact .inl rfl
  | cons x r => exact .inr ⟨r.reverse, x, by simp, dw_head hd⟩
theorem strip_nil (l : List Nat) (c : Nat) : Txt.stripChars (S l) (S [c]) = S [] ↔ ∀ x ∈ l, x = c := by
  have e : Txt.stripChars (S l) (S [c]) = S ((l.take (l.length - ((l.drop (l.takeWhile fun z => z == c).length).reverse.takeWhile fun z => z == c).length)).drop (l.takeWhile fun z => z == c).length) := by
    unfold Txt.stripChars
    rw [PySem.W.stripBy_eq, goes_eq]
    show Builtin.Str.strSub (S l) ((S l).cps.toList.takeWhile _).length ((S l).length - (((S l).cps.toList.drop ((S l).cps.toList.takeWhile _).length).reverse.takeWhile _).length) = _
    rw [sub_S, S_toList, S_len]
  rw [e, S_inj]
  constructor
  · intro h x hx
    have h1 := List.takeWhile_append_dropWhile (p := fun z => z == c) (l := l)
    generalize ht : l.takeWhile (fun z => z == c) = t at *
    generalize hd : l.dropWhile (fun z => z == c) = d at *
    have hdr : l.drop t.length = d := by rw [← h1, List.drop_left']; rfl
    rw [hdr] at h
    have hlen : l.length = t.length + d.length := by rw [← h1, List.length_append]
    cases d with
    | nil =>
      rw [List.append_nil] at h1
      rw [← h1, ← ht] at hx
      exact tw_mem x hx
    | cons y r =>
      exfalso
      have hy := dw_head hd
      have hlt : ((y :: r).reverse.takeWhile fun z => z == c).length < (y :: r).length := by
        have h5 := List.takeWhile_append_dropWhile (p := fun z => z == c) (l := (y :: r).reverse)
        have h6 := congrArg List.length h5
        rw [List.length_append, List.length_reverse] at h6
        by_cases hz : ((y :: r).reverse.dropWhile fun z => z == c).length = 0
        · have h7 := List.length_eq_zero_iff.mp hz
          rw [h7, List.append_nil] at h5
          have : y ∈ (y :: r).reverse := by simp
          rw [← h5] at this
          exact absurd (tw_mem y this) hy
        · omega
      have := congrArg List.length h
      rw [List.length_drop, List.length_take] at this
      simp only [List.length_nil] at this
      omega
  · intro h
    rw [tw_all h]
    exact List.drop_of_length_le (by rw [List.length_take]; omega)
theorem cut_init (l : List Nat) (x : Nat) : cutS (S (l ++ [x])) none (some (-1)) = S l := by
  unfold cutS
  rw [S_toList, S_len, HT.sIx_none, List.drop_zero, Nat.sub_zero]
  have e : HT.sIx (l ++ [x]).length (l ++ [x]).length (some (-1)) = l.length := by
    unfold HT.sIx
    simp only [List.length_append]
    rw [if_pos (by decide)]
    simp only [List.length_cons, List.length_nil]
    omega
  rw [e, List.take_left']
  · rfl
  · rfl
end U
/-! U7: promises of defs where nothing is being shown (no repr under way): for repr of lists and tuples -/
namespace U
open PySem PySem.Spec PyProof.Rows L2
/-- room for k calls, and no repr under way -/
structure RoomG (k : Nat) (A : Around) : Prop where
  r : Room k A
  g : A.guards = some []
theorem RoomG.mono {i j : Nat} {A : Around} (x : RoomG j A) (h : i ≤ j) : RoomG i A := ⟨x.r.mono h, x.g⟩
theorem RoomG.units {k : Nat} {A : Around} (x : RoomG k A) : A.units + 64 < cLine := x.r.units
structure FnG (P : Program) (w : World) (K : PySem.W.Frag) (mg : Str → Option Value) (base : Heap) (CX : CXT) (k : Nat) (f : Addr) (fd : FuncData) (ps : List Str) (sp : Sp) : Prop where
  len : ∀ (vs : List V) (H : Hp) (Q : VK) (E : XK), sp vs H Q E → vs.length = ps.length
  run : ∀ (A : Around) (fr : List Env) (s : Shared) (H : Hp) (args : Args) (us : List Value) (vs : List V) (Q : VK) (E : XK), RoomG k A → Env0 P w K mg base A fr s H → BindsTo s fd args (ps.zip us) → Vals vs us →
    sp vs H Q E → codeAny (model P w) A (.call (.ref f) args) (CR CX fr P w H s Q E) s
section
variable {P : Program} {w : World} {K : PySem.W.Frag} {mg : Str → Option Value} {base : Heap} {CX : CXT} {k : Nat} {f : Addr} {fd : FuncData} {ps : List Str} {sp : Sp}
/-- every promise holds there, too -/
theorem FnG.of (F : FnOk P w K mg base CX k f fd ps sp) : FnG P w K mg base CX k f fd ps sp :=
  ⟨F.len, fun A fr s H args us vs Q E r => F.run A fr s H args us vs Q E r.r⟩
/-- a def by its body -/
theorem funG_ok {x qual : Str} {st : Stmt} {N : List Str} (F : Fun K x qual st f fd) (Sc : FnScope N ps (defScope st)) (len : ∀ vs H Q E, sp vs H Q E → vs.length = ps.length)
    (body : ∀ (cdv : Value) (A : Around) (fr : List Env) (s : Shared) (H : Hp) (vs : List V) (Q : VK) (E : XK), RoomG k (A.deeper (envOfC qual (defScope st) s.heap.objs.size f cdv)) → sp vs H Q E →
      ∃ t, PSs (cxOf CX P w K mg base N qual (defScope st) f cdv A fr s H E) (defBody st) t ∧ t { nx := fun _ H' => Q .non H', rt := Q } (start N vs) H) :
    FnG P w K mg base CX (k + 1) f fd ps sp := by
  obtain ⟨oc, od, kV, doc, pm, an, cdv, ct, osl, rfl, look, code⟩ := F.ex
  refine ⟨len, fun A fr s H args us vs Q E rg e0 hb rel want => ?_⟩
  have hlen := len vs H Q E want
  have kept : ∀ b o, base.get? b = some o → s.heap.get? b = some o := fun b o e => (e0.bs b o e).1
  have KX : K.In s.heap := e0.mod.kin.keeps kept
  have slots : ∀ y ∈ ps.zip us, (defScope st).names.lookup y.1 = some .local ∨ ((defScope st).names.lookup y.1 = some .cell ∧ ((cellsFrom (s.heap.objs.size + 1) (defScope st).names []).lookup y.1).isSome = true) := by
    rintro ⟨n, v⟩ hy
    rcases Sc.par n (List.of_mem_zip hy).1 with q | q
    · left; exact q
    · right; exact ⟨q, PySem.W.cellsFrom_some _ _ _ (.inl q)⟩
  refine codeAny_call_function rg.r.depth (KX _ _ look) rfl Sc.co Sc.gen rfl (PySem.W.codeRec_of KX code) (hb _ _ _ _ ?_)
  refine wpAny_newFunctionEnv_cells Sc.kind slots ?_
  rintro env rfl s1 entered
  refine ⟨(e0.mod.nolimit.keeps kept).keeps entered.toInCall.keep, codeAny_func ?_⟩
  have deep : RoomG k (A.deeper (envOfC qual (defScope st) s.heap.objs.size f cdv)) := ⟨rg.r.deeper _, rg.g⟩
  obtain ⟨t, derived, reading⟩ := body cdv A fr s H vs Q E deep want
  have I := inv_start (CX := CX) (E := E) Sc rg.r.hd e0 hlen rel entered
  refine wpAny_mono (derived.run [] s1 (start N vs) H _ I reading) (fun fl s' after => ?_) fun e s' left => left
  cases fl with
  | brk => obtain ⟨_, _, _, no⟩ := after; exact no.elim
  | cont => obtain ⟨_, _, _, no⟩ := after; exact no.elim
  | ret u =>
    obtain ⟨v, σ', H', J, rv, q⟩ := after
    exact ⟨v, H', J.os, J.bare, J.base, J.hok, rv, q⟩
  | next =>
    obtain ⟨σ', H', J, q⟩ := after
    exact ⟨V.non, H', J.os, J.bare, J.base, J.hok, rfl, q⟩
/-- .. of which no exception leaves -/
theorem funG_ok0 {x qual : Str} {st : Stmt} {N : List Str} (F : Fun K x qual st f fd) (Sc : FnScope N ps (defScope st)) (len : ∀ vs H Q E, sp vs H Q E → vs.length = ps.length)
    (body : ∀ (cdv : Value) (A : Around) (fr : List Env) (s : Shared) (H : Hp) (vs : List V) (Q : VK) (E : XK), RoomG k (A.deeper (envOfC qual (defScope st) s.heap.objs.size f cdv)) → sp vs H Q E →
      ∃ t, PSs (cxOf CX0 P w K mg base N qual (defScope st) f cdv A fr s H E).nox (defBody st) t ∧ t { nx := fun _ H' => Q .non H', rt := Q } (start N vs) H) :
    FnG P w K mg base CX0 (k + 1) f fd ps sp :=
  funG_ok F Sc len fun cdv A fr s H vs Q E r h => by
    obtain ⟨t, d, q⟩ := body cdv A fr s H vs Q E r h
    exact ⟨t, d.nox, q⟩
end
section
variable {X : Cx} {CX : CXT} {k : Nat} {f : Addr} {fd : FuncData} {ps : List Str} {sp : Sp} {dvs : List V} {ds : List Value} {E : XK} {x : Str} {p pos : Pos} {e : Expr} {es : List Expr} {t : TA}
theorem run_fnG {pins : List (Addr × Obj)} {σ : L2.St} {H : Hp} {s : Shared} {Q : VK} {us : List Value} {vs : List V} (F : FnG X.prog X.w X.K X.mg X.base CX k f fd ps sp) (hr : RoomG k X.A) (hb : Binds X.K fd ps ds) (hd : Vals dvs ds)
    (hx : Passes CX X E) (I : Inv X pins σ H s) (r : Vals vs us) (h : sp (vs ++ dvs) H Q E) : wpAny (model X.prog X.w) X.A (call (.ref f) us) (EP X pins σ Q) X.xe s := by
  have both : Vals (vs ++ dvs) (us ++ ds) := r.append hd
  have num : (us ++ ds).length = ps.length := both.length.symm.trans (F.len _ _ _ _ h)
  refine wpAny_call (codeAny_mono (F.run X.A X.stack s H ⟨us, []⟩ (us ++ ds) (vs ++ dvs) Q E hr I.env0 (hb s us I.kIn num) both h) ?_)
  intro res s' after
  match res, after with
  | .error err, after => exact hx pins σ H s err s' I after
  | .ok (.ret u), after => exact I.after after
  | .ok .next, after => exact False.elim after
  | .ok .brk, after => exact False.elim after
  | .ok .cont, after => exact False.elim after
/-- f(e, ..) -/
theorem pe_callG (F : FnG X.prog X.w X.K X.mg X.base CX k f fd ps sp) (hr : RoomG k X.A) (hg : Gl X x) (hm : X.mg x = some (.ref f)) (hk : PySem.W.keepIn X.K (.ref f) = true) (hb : Binds X.K fd ps ds) (hd : Vals dvs ds) (hx : Passes CX X E)
    (ha : PA X (e :: es) t) (hdb : (x == ("__debug__" : Str)) = false := by decide) (he : starEach (e :: es) X.env = (false, eval e X.env) :: starEach es X.env := by rfl) (hpl : (backTo pos (starEach es X.env)).any (·.1) = false := by rfl) :
    PE X (.Call (.Name x p) (e :: es) [] pos) (tCall sp dvs E t) := by
  constructor
  intro pins s σ H Q I h
  refine wpAny_Call_Name_kw (ld_glob I hg hm ?_ hdb)
  refine PySem.W.callWith_K (h₀ := X.base) I.ok.mod.kin hk ?_ he hpl
  refine thn (ha.run pos pins s σ H _ I h) ?_
  rintro us s1 ⟨vs, H1, I1, r, q⟩
  exact ⟨I1.kIn, run_fnG F hr hb hd hx I1 r q⟩
/-- repr of data -/
theorem call_reprD (hg : X.A.guards = some []) (hu : X.A.units + 64 < cLine) : CallR X (.builtin "repr") (fun xs H Q => ∃ (v : V) (d : PyData), xs = [v] ∧ Dp X.K H v d ∧ d.showable = true ∧ d.hasDict = false ∧ d.depth ≤ 50 ∧ d.shown.length ≤ sizeLine ∧ Q (.str d.shown) H) := by
  intro pins s σ H xs us Q I r h
  obtain ⟨v, d, rfl, dp, hs, hn, hd, hz, q⟩ := h
  obtain ⟨u, rfl, rx⟩ := vals1 r
  obtain ⟨as, rd⟩ := Dp.reads I d v u dp rx
  cases dp with
  | non =>
    cases rx
    exact PySem.P.repr_of_none ⟨.str _, H, I.tok _, ⟨_, rfl⟩, q⟩
  | bl b =>
    cases rx
    exact PySem.P.repr_of_bool ⟨.str _, H, I.tok _, ⟨_, by cases b <;> rfl⟩, q⟩
  | int i =>
    obtain ⟨t, rfl⟩ := rx
    exact PySem.P.repr_of_int (by simpa [PyData.showable] using hs) ⟨.str _, H, I.tok _, ⟨_, rfl⟩, q⟩
  | str x =>
    obtain ⟨t, rfl⟩ := rx
    exact PySem.P.repr_of_str ⟨.str _, H, I.tok _, ⟨_, rfl⟩, q⟩ hz
  | lst h1 h2 =>
    obtain rfl : u = Value.ref _ := rx
    exact repr_of_reads' rd hs (fun z => by rw [hn] at z; cases z) hg (by omega) (fun _ _ e => e) (fun h' t tk kp => ⟨.str _, H, I.kept kp, ⟨_, rfl⟩, q⟩) hz
  | tup h1 h2 =>
    obtain rfl : u = Value.ref _ := rx
    exact repr_of_reads' rd hs (fun z => by rw [hn] at z; cases z) hg (by omega) (fun _ _ e => e) (fun h' t tk kp => ⟨.str _, H, I.kept kp, ⟨_, rfl⟩, q⟩) hz
end
/-! ### the law's own call -/
section
variable {P : Program} {w : World} {K : PySem.W.Frag} {mg mb : Str → Option Value} {CX : CXT} {k : Nat} {fa a : Addr} {fd : FuncData} {x : Str} {sp : Sp} {st : Shared} {vs : List Value} {ns : List Int}
/-- over an abstract heap that tells of the script alone -/
theorem law_core (KX : K.In st.heap) (glo : st.heap.Ns mainGlobals mg) (blt : st.heap.Ns builtinsNs mb) (bt : ∀ x : Str, x ≠ "__name__" → mb x = bootBuiltins x) (lim : st.heap.NoLimit) (gn : st.gens = #[])
    (obj : st.heap.get? a = some { cls := .type "list", data := .seq vs.toArray }) (room : Room k callerA)
    (F : ∀ base : Heap, K.In base → base.Ns mainGlobals mg → FnG P w K mg base CX k fa fd [x] sp) (bind : ∀ (s : Shared) (u : Value), BindsTo s fd ⟨[u], []⟩ [(x, u)])
    (hCX : ∀ H e s', CX [] H st (fun _ _ _ => False) e s' → False) (H : Hp) (only : Only H) (want : sp [.ref a] H (fun v _ => v = .bl true) fun _ _ _ => False) (hok : HOk P w H st.heap)
    (just : ∀ b, H b ≠ none → b = a) (free : H a ≠ none → K.lookup a = none) :
    codeAny (model P w) callerA (.call (.ref fa) ⟨[.ref a], []⟩) (fun r s' => r = .ok (.ret (.bool true)) ∧ OldK st.heap s'.heap ∧ s'.os = st.os ∧ AllBare s'.gens) st := by
  have split : ∀ b, H b = none ∨ b = a := fun b => by
    by_cases z : H b = none
    · left; exact z
    · right; exact just b z
  have dicts : ∀ {b : Addr} {m : Str → Option Value}, st.heap.Ns b m → (hidT st.heap H).Ns b m := by
    rintro b m ⟨o, es, ep, e, d, r⟩
    refine ⟨o, es, ep, hidT_get e ?_, d, r⟩
    rcases split b with z | z
    · exact z
    · exfalso
      rw [z, obj] at e
      cases e
      cases (show Data.seq vs.toArray _ = Data.dict es ep from d)
  have own : K.In (hidT st.heap H) := by
    intro b o e
    refine hidT_get (KX b o e) ?_
    rcases split b with z | z
    · exact z
    · by_cases n : H b = none
      · exact n
      · rw [z] at n e
        rw [free n] at e
        cases e
  have mod : Mod K mg (hidT st.heap H) := by
    obtain ⟨mc, h1, h2⟩ := lim
    exact ⟨own, dicts glo, ⟨mb, dicts blt, bt⟩, ⟨mc, dicts h1, h2⟩⟩
  have e0 : Env0 P w K mg (hidT st.heap H) callerA [] st H := by
    refine ⟨rfl, mod, fun b o e => of_hidT e, Nat.le_of_eq (hidT_size _ _), trivial, ?_, hok, .of_eq gn⟩
    intro b hb
    cases (show b ∈ ([] : List Addr) from hb)
  have ran := (F _ own (dicts glo)).run callerA [] st H ⟨[.ref a], []⟩ [.ref a] [.ref a] _ _ ⟨room, rfl⟩ e0 (bind st (.ref a)) (.cons rfl .nil) want
  refine codeAny_mono ran ?_
  intro res s' after
  match res, after with
  | .error err, after => exact (hCX H err s' after).elim
  | .ok .next, after => exact False.elim after
  | .ok .brk, after => exact False.elim after
  | .ok .cont, after => exact False.elim after
  | .ok (.ret u), after =>
    obtain ⟨v, H', os, bare, un, hok', rel, isT⟩ := after
    have isT : v = .bl true := isT
    subst isT
    obtain rfl : u = Value.bool true := rel
    refine ⟨rfl, OldK.of_keep ?_, os, bare⟩
    intro b o e
    rcases only b with z | ⟨ob, xs, z⟩
    · refine un.keep b o e z ?_ (by simp)
      intro no
      cases (show b ∈ ([] : List Addr) from no)
    · have now := (hok' b _ (un.frzs b ob _ z)).1
      have was := (hok b _ z).1
      rw [e] at was
      cases was
      exact now
theorem law_callG (KX : K.In st.heap) (glo : st.heap.Ns mainGlobals mg) (blt : st.heap.Ns builtinsNs mb) (bt : ∀ x : Str, x ≠ "__name__" → mb x = bootBuiltins x) (lim : st.heap.NoLimit) (gn : st.gens = #[])
    (obj : st.heap.get? a = some { cls := .type "list", data := .seq vs.toArray }) (hint : IntsAre vs ns) (few : ns.length ≤ sizeLine) (room : Room k callerA)
    (F : ∀ base : Heap, K.In base → base.Ns mainGlobals mg → FnG P w K mg base CX k fa fd [x] sp) (bind : ∀ (s : Shared) (u : Value), BindsTo s fd ⟨[u], []⟩ [(x, u)])
    (want : ∀ H : Hp, Only H → SqL K H a (ns.map V.int) → sp [.ref a] H (fun v _ => v = .bl true) fun _ _ _ => False) (hCX : ∀ H e s', CX [] H st (fun _ _ _ => False) e s' → False) :
    codeAny (model P w) callerA (.call (.ref fa) ⟨[.ref a], []⟩) (fun r s' => r = .ok (.ret (.bool true)) ∧ OldK st.heap s'.heap ∧ s'.os = st.os ∧ AllBare s'.gens) st := by
  have go := law_core (sp := sp) KX glo blt bt lim gn obj room F bind hCX
  have rel := vals_ints hint
  have num := hint.length
  by_cases known : K.lookup a = none
  · let obA : Obj := { cls := .type "list", data := .seq vs.toArray }
    let HH : Hp := fun b => if b = a then some (.frz obA (.lst (ns.map V.int))) else none
    have at1 : HH a = some (.frz obA (.lst (ns.map V.int))) := if_pos rfl
    have at2 : ∀ b, b ≠ a → HH b = none := fun b n => if_neg n
    have only : Only HH := fun b => by
      by_cases z : b = a
      · right; exact ⟨obA, ns.map V.int, by rw [z]; exact at1⟩
      · left; exact at2 b z
    refine go HH only (want HH only (.inl (.inr ⟨obA, at1⟩))) ?_ ?_ (fun _ => known)
    · intro b o e
      by_cases z : b = a
      · subst z
        rw [at1] at e
        cases e
        exact ⟨obj, by rw [List.length_map]; exact few, vs, _, rel, obj⟩
      · rw [at2 b z] at e
        cases e
    · intro b n
      by_cases z : b = a
      · exact z
      · exact absurd (at2 b z) n
  · obtain ⟨o, known⟩ := Option.ne_none_iff_exists'.mp known
    have e := KX a o known
    rw [obj] at e
    cases e
    have none_only : Only fun _ => none := fun _ => .inl rfl
    refine go (fun _ => none) none_only (want _ none_only (.inr ⟨_, vs.toArray, _, known, rfl, rfl, rfl, by rw [List.size_toArray, num]; exact few, by simpa using rel⟩)) ?_ (fun b n => absurd rfl n) (fun n => absurd rfl n)
    intro b o e
    cases (show (none : Option HO) = some o from e)
end
theorem walk_ofG {l : PySem.W.OpenLaw} {n k : Nat} {q : Program} {loose : List Str} {XP : (Str → Option Value) → Heap → Prop} {YP : World → Heap → Prop} {d : DefRec} {K : Params → PySem.W.Frag} {CX : World → CXT} {sp : World → Sp} {x : Str}
    (most : l.most = some n) (fits : n ≤ sizeLine) (plain : d.params.defaults = []) (room : Room k callerA) (hY : ∀ (w : World) (h : Heap), YP w h → (K w.params).In h)
    (F : ∀ (w : World) (mg : Str → Option Value) (fa : Addr) (h : Heap), (K w.params).In h → h.Ns mainGlobals mg → mg d.name = some (.ref fa) → ∃ fd : FuncData, (∀ (s : Shared) (u : Value), BindsTo s fd ⟨[u], []⟩ [(x, u)]) ∧
      ∀ base : Heap, (K w.params).In base → base.Ns mainGlobals mg → FnG l.prog w (K w.params) mg base (CX w) k fa fd [x] (sp w))
    (want : ∀ (w : World) (H : Hp) (a : Addr) (ns : List Int), ns.length ≤ n → Only H → SqL (K w.params) H a (ns.map V.int) → sp w [.ref a] H (fun v _ => v = .bl true) fun _ _ _ => False)
    (hCX : ∀ (w : World) (H : Hp) (s : Shared) (e : Value) (s' : Shared), CX w [] H s (fun _ _ _ => False) e s' → False) : PySem.W.WalkO q loose XP YP l.row.toRowW d [] (fun f vs => PySem.call f vs) := by
  refine Att.attach_call most plain ?_
  intro w s₀ s₁ mg mb fa o pm cd doc a vs ns G Y ho hd hcd hmg hobj hints hlen hg
  have KX := hY w _ Y
  obtain ⟨fd, hb, hF⟩ := F w mg fa _ KX G.T.g hmg
  refine law_callG KX G.T.g G.T.b G.T.builtins G.T.nolimit hg hobj hints (Nat.le_trans hlen fits) room hF hb ?_ (fun H => hCX w H s₁)
  exact fun H hO hS => want w H a ns hlen hO hS
end U
/-! U8: enumerate(text) -/
namespace U
open PySem PySem.Spec PyProof.Rows L2
def IteS (l : List Nat) : It :=
  ⟨fun i _ => i < l.length, fun i H v H' => ∃ T c, v = .ref T ∧ H T = none ∧ H' = upd H T (.tup [.int (i : Nat), .str (S [c])]) ∧ l[i]? = some c, fun i _ => l.length ≤ i⟩
theorem turn_enumS {P : Program} {w : World} {K : PySem.W.Frag} {elts : List Expr} {kk : Nat} {tpos : Pos} (l : List Nat) (t : Tok) (e it : Addr) (ty : String)
    (D : ∀ A : Around, A.handled = none → Draws P w A it [it] (S l).cps.size (fun i v => ∃ c u, (S l).cps[i]? = some c ∧ v = .str ⟨#[c]⟩ u) (fun i h => h.IsStrIter it ty (S l) t i)) :
    Turn P w K (.Tuple elts kk tpos) (IteS l) [e, it] e (fun i h => (∃ old, IsEnum h e it ((i : Nat) : Int) old) ∧ h.IsStrIter it ty (S l) t i ∧ e ≠ it ∧ i ≤ l.length) := by
  have sz : (S l).cps.size = l.length := S_len l
  refine ⟨by simp, ?_, ?_, ?_, ?_, ?_⟩
  · rintro i h ⟨⟨old, he⟩, ⟨o, ho, _, hd⟩, _, _⟩ b hb
    rcases (by simpa using hb : b = e ∨ b = it) with rfl | rfl
    · exact ⟨_, he, fun v q => nomatch q⟩
    · exact ⟨o, ho, fun v q => by rw [hd] at q; cases q⟩
  · rintro i h h' ⟨⟨old, he⟩, ⟨o, ho, r⟩, ne, le⟩ k
    exact ⟨⟨old, k e (by simp) _ he⟩, ⟨o, k it (by simp) o ho, r⟩, ne, le⟩
  · intro X hP hw hK hc i pins s σ H E I hf st hg
    subst hP hw hK
    obtain ⟨⟨old, he⟩, hit, ne, le⟩ := st
    have hlt : i < (S l).cps.size := by rw [sz]; exact hg
    have hel : e < s.heap.objs.size := Heap.lt_size he
    have hil : it < s.heap.objs.size := by obtain ⟨_, q, _⟩ := hit; exact Heap.lt_size q
    refine wpAny_pyNext_enum_itemD (D X.A.in1 (I.ok.hd hc)) he hit hlt ne (by simpa using ne) ?_
    rintro y h' tk ⟨c, u, hcc, rfl⟩ out hit' hT hsz hk
    refine ⟨_, rfl, wpAny_letOwnedTupleGo_enum (s := { s with heap := h', toks := tk + 1 }) out ?_⟩
    intro h'' he' sb
    have hT2 : h''.get? s.heap.objs.size = some { cls := .type "tuple", data := .seq #[.int i tk, .str ⟨#[c]⟩ u] } := (sb.2 _ (Nat.ne_of_gt hel)).trans hT
    have new : ObjOk X.prog X.w (upd H s.heap.objs.size (.tup [.int (i : Nat), .str (S [c])])) h'' s.heap.objs.size (.tup [.int (i : Nat), .str (S [c])]) :=
      ⟨by show 2 ≤ sizeLine; decide, [.int i tk, .str ⟨#[c]⟩ u], .cons ⟨_, rfl⟩ (.cons ⟨_, rfl⟩ .nil), ⟨_, hT2, rfl, _, rfl⟩⟩
    have rest : ∀ b ob, b ∉ [e, it] → s.heap.get? b = some ob → h''.get? b = some ob := fun b ob hb q => by
      have h1 : b ≠ e := fun z => hb (by simp [z])
      have h2 : b ≠ it := fun z => hb (by simp [z])
      exact (sb.2 b h1).trans (hk b ob h1 h2 q)
    have I1 := I.turnedNew (t' := tk + 1) (ch := [e, it]) rest hf (Nat.le_refl _) new
    refine ⟨.ref s.heap.objs.size, _, I1, rfl, ⟨_, c, rfl, I.hok.fresh (Nat.le_refl _), rfl, ?_⟩, ⟨⟨.str ⟨#[c]⟩ u, ?_⟩, ?_, ne, ?_⟩, ?_⟩
    · have : (S l).cps[i]? = some c := hcc
      simpa [S] using this
    · have e1 : ((i + 1 : Nat) : Int) = (i : Int) + 1 := by omega
      rw [e1]
      exact he'
    · obtain ⟨o, ho, r⟩ := hit'
      exact ⟨o, (sb.2 it (Ne.symm ne)).trans ho, r⟩
    · show i + 1 ≤ l.length
      have : i < l.length := hg
      omega
    · intro b hb
      have hb' : b < s.heap.objs.size := by
        rcases (by simpa using hb : b = e ∨ b = it) with rfl | rfl
        · exact hel
        · exact hil
      rw [upd_ne (Nat.ne_of_lt hb')]
      exact (hf b hb).1
  · intro X hP hw hK hc i pins s σ H E I hf st hg
    subst hP hw hK
    obtain ⟨⟨old, he⟩, hit, ne, le⟩ := st
    have hg : l.length ≤ i := hg
    have ei : i = (S l).cps.size := by omega
    rw [ei] at hit
    obtain ⟨f0, f1, f2, f3, f4, f5⟩ := hf it (by simp)
    refine wpAny_pyNext_enum_endD (D X.A.in1 (I.ok.hd hc)) he hit fun h' eb => ⟨rfl, ?_⟩
    exact I.turned (t' := s.toks) (fun b o hb q => eb b o hb q) f0 f1 f3 f4 f5
  · rintro A i s Q E ⟨⟨_, he⟩, _⟩ h
    exact wpAny_pyIter_enum he h
def iEnumS (ta : TA) : TI := fun σ H R => ta σ H fun vs H1 => ∃ l : List Nat, vs = [.str (S l)] ∧ R (IteS l) H1
theorem pi_enumS {X : Cx} {e : Expr} {ta : TA} {p pos tpos : Pos} {elts : List Expr} {kk : Nat} (hg : Gl X "enumerate") (hm : X.mg "enumerate" = none) (ha : PA X [e] ta) (hs : starEach [e] X.env = [(false, eval e X.env)] := by rfl) :
    PI X (.Tuple elts kk tpos) (.Call (.Name "enumerate" p) [e] [] pos) (iEnumS ta) := by
  constructor
  intro pins s σ H R I h
  refine Call_ (ld_blt I hg hm boot_enumerate (PyProof.Rows.callWith_type1 (thn (ha.run pos pins s σ H _ I h) ?_) hs rfl))
  rintro us s1 ⟨vs, H1, I1, r1, l, rfl, q⟩
  cases r1 with
  | cons r rr =>
    cases rr
    obtain ⟨t, rfl⟩ := r
    refine call_enumerate_str fun h' he hit hsz hk => wpAny_pyIter_enum he ?_
    have I2 : Inv X pins σ H1 { s1 with heap := h' } := I1.kept (t' := s1.toks) hk
    have D : ∀ A : Around, A.handled = none → Draws X.prog X.w A s1.heap.objs.size [s1.heap.objs.size] (S l).cps.size (fun i v => ∃ c u, (S l).cps[i]? = some c ∧ v = .str ⟨#[c]⟩ u) (fun i h => h.IsStrIter s1.heap.objs.size (strIterType (S l)) (S l) t i) := by
      intro A hh
      unfold strIterType
      split
      · exact Draws.strAscii hh _ _ _
      · exact Draws.strWide hh _ _ _
    refine ⟨s1.heap.objs.size + 1, [s1.heap.objs.size + 1, s1.heap.objs.size], _, _, H1, rfl, I2, turn_enumS l t (s1.heap.objs.size + 1) s1.heap.objs.size _ D, ⟨⟨.none, he⟩, hit, Nat.succ_ne_self _, Nat.zero_le _⟩, ?_, q⟩
    intro b hb
    have hle : s1.heap.objs.size ≤ b := by
      rcases (by simpa using hb : b = s1.heap.objs.size + 1 ∨ b = s1.heap.objs.size) with rfl | rfl
      · omega
      · exact Nat.le_refl _
    exact I1.fpOk hle (I1.hok.fresh hle)
/-- as a walk: at each turn a new pair -/
theorem walk_enumS (l : List Nat) : Walk (IteS l) l.length (fun _ => True) (fun i H v H' => ∃ T c, v = .ref T ∧ H T = none ∧ H' = upd H T (.tup [.int (i : Nat), .str (S [c])]) ∧ l[i]? = some c) :=
  ⟨fun i H hi _ => hi, fun H _ => Nat.le_refl _, fun i H x H' hi _ hy => hy⟩
/-! ### data that are shown: small ones -/
structure Sm (d : PyData) (n k : Nat) : Prop where
  sh : d.showable = true
  nd : d.hasDict = false
  dp : d.depth ≤ k
  ln : d.shown.length ≤ n
structure SmAll (ds : List PyData) (n k : Nat) : Prop where
  sh : PyData.showableAll ds = true
  nd : PyData.hasDictAll ds = false
  dp : PyData.depthAll ds ≤ k
  ln : ((PyData.shownAll ds).map (·.length)).sum + 2 * ds.length ≤ n
theorem Sm.non : Sm .none 4 0 := ⟨rfl, rfl, Nat.le_refl _, by decide⟩
theorem Sm.bl (b : Bool) : Sm (.bool b) 5 0 := ⟨rfl, rfl, Nat.le_refl _, by cases b <;> decide⟩
theorem Sm.int {i : Int} (h : i.natAbs < 10 ^ 12) : Sm (.int i) 13 0 := by
  refine ⟨?_, rfl, Nat.le_refl _, PyData.shown_int_le h⟩
  simp only [PyData.showable, decide_eq_true_eq]
  exact lg (Nat.lt_trans h (by decide))
theorem Sm.str {l : List Nat} (h : ∀ c ∈ l, c < 1114112) : Sm (.str (S l)) (10 * l.length + 2) 0 := by
  refine ⟨rfl, rfl, Nat.le_refl _, ?_⟩
  have e := PySem.StrLaws.reprText_len (S l) (fun c hc => by
    rw [S_toList] at hc
    exact Nat.lt_trans (h c hc) (by decide))
  rw [S_len] at e
  show (reprText (S l)).length ≤ _
  omega
theorem SmAll.nil {k : Nat} : SmAll [] 0 k := ⟨rfl, rfl, Nat.zero_le _, Nat.le_refl _⟩
theorem SmAll.cons {d : PyData} {ds : List PyData} {m n k k' : Nat} (a : Sm d m k') (b : SmAll ds n k) (h : k' ≤ k) : SmAll (d :: ds) (m + n + 2) k := by
  refine ⟨?_, ?_, ?_, ?_⟩
  · simp only [PyData.showableAll, a.sh, b.sh, Bool.and_self]
  · simp only [PyData.hasDictAll, a.nd, b.nd, Bool.or_self]
  · simp only [PyData.depthAll]
    have := a.dp
    have := b.dp
    omega
  · simp only [PyData.shownAll, List.map_cons, List.sum_cons, List.length_cons]
    have := a.ln
    have := b.ln
    omega
theorem Sm.tup {ds : List PyData} {n k : Nat} (a : SmAll ds n k) : Sm (.tuple ds) (n + 3) (k + 1) := by
  refine ⟨a.sh, a.nd, ?_, ?_⟩
  · simp only [PyData.depth]
    have := a.dp
    omega
  · have h1 := tupleText_len_le (PyData.shownAll ds)
    rw [PyData.shownAll_length] at h1
    have := a.ln
    simp only [PyData.shown]
    omega
theorem Sm.lst {ds : List PyData} {n k : Nat} (a : SmAll ds n k) : Sm (.list ds) (n + 3) (k + 1) := by
  refine ⟨a.sh, a.nd, ?_, ?_⟩
  · simp only [PyData.depth]
    have := a.dp
    omega
  · have h1 := listText_len_le (PyData.shownAll ds)
    rw [PyData.shownAll_length] at h1
    have := a.ln
    simp only [PyData.shown]
    omega
theorem call_reprS {X : Cx} (hg : X.A.guards = some []) (hu : X.A.units + 64 < cLine) : CallR X (.builtin "repr") (fun xs H Q => ∃ (v : V) (d : PyData) (n k : Nat), xs = [v] ∧ Dp X.K H v d ∧ Sm d n k ∧ n ≤ 1000000 ∧ k ≤ 50 ∧ Q (.str d.shown) H) := by
  intro pins s σ H xs us Q I r h
  obtain ⟨v, d, n, k, e, dp, sm, hn, hk, q⟩ := h
  refine call_reprD hg hu pins s σ H xs us Q I r ⟨v, d, e, dp, sm.sh, sm.nd, Nat.le_trans sm.dp hk, ?_, q⟩
  have := sm.ln
  rw [sizeLine_eq]
  omega
theorem signs_small {c : Nat} (h : c ∈ signs) : c < 1114112 := by
  have key : ∀ c ∈ signs, c < 1114112 := by rw [signs_eq]; decide
  exact key c h
end U
/-! E0: own exceptions over ValueError and KeyError: the call of such a class, from the pieces that its making asks -/
namespace U
open PySem
abbrev keTail : List Value := [.type "KeyError", .type "LookupError", .type "Exception", .type "BaseException", .type "object"]
abbrev veTl : List Value := [.type "ValueError", .type "Exception", .type "BaseException", .type "object"]
/-- what the built-in __init__ of the base B asks -/
structure IniF (B initId : String) : Prop where
  init : Slot B "__init__" initId
  entry : entryFor table initId = some Builtin.«BaseException.__init__»
  kind : builtinKind initId = some .slot
  row : Manifest.signature? initId = some ⟨.positional, "*", B, .self, [⟨"args", .varPos, false⟩]⟩
  noStar : (B != "*") = true
  kxs : PySem.W.KxsFacts B initId
theorem ini_KeyError : IniF "KeyError" "KeyError.__init__" where
  init := .of (owner := "KeyError") (n := "__init__") (by rw [typeLookup_type, builtinLookup_eq_fast]; kernel_rfl) (by decide +kernel) (by decide +kernel) (by decide +kernel)
    (by first | exact .inl (by decide +kernel) | exact .inr (by decide +kernel)) (by rw [isSubtype_type]; kernel_rfl)
  entry := entryFor_alias (id' := "BaseException.__init__") (by rw [fastTable_eq_tree]; kernel_rfl) (by first | rfl | decide +kernel) (by decide +kernel) (by rw [fastTable_eq_tree]; kernel_rfl)
  kind := by kernel_rfl
  row := by kernel_rfl
  noStar := by decide +kernel
  kxs := ⟨by show builtinType _ = _; rw [builtinType_eq_fast]; kernel_rfl, by first | kernel_rfl | rfl⟩
theorem ini_ValueError : IniF "ValueError" "ValueError.__init__" :=
  ⟨F.excCall_ValueError.init, F.excCall_ValueError.initEntry, F.excCall_ValueError.initKind, F.excCall_ValueError.initRow, F.excCall_ValueError.noStar, PySem.W.kxs_ValueError⟩
theorem store_KeyError : StoreFacts "KeyError" keTail "object.__setattr__" "object" where
  mro := by kernel_rfl
  slot := .of (owner := "object") (n := "__setattr__") (by rw [typeLookup_type, builtinLookup_eq_fast]; kernel_rfl) (by decide +kernel) (by decide +kernel) (by decide +kernel)
    (by first | exact .inl (by decide +kernel) | exact .inr (by decide +kernel)) (by rw [isSubtype_type]; kernel_rfl)
  entry := PySem.F.store_object.entry
  kind := by decide +kernel
  split := by decide +kernel
  hasOwner := by decide +kernel
  args := fun a b c => by unfold argsOk; kernel_rfl
  passes := fun self => by kernel_rfl
/-- which classes stand above: asked of the built-in __new__ of the base B -/
structure Abv (B : String) (bm : List Value) : Prop where
  hasB : bm.contains (.type B) = true
  noAttr : bm.contains (.type "AttributeError") = false
  noName : bm.contains (.type "NameError") = false
section
variable {M : Model} {A : Around} {E : Value → Shared → Prop} {h : Heap} {g : Array GenState} {d : Drawn} {t : Nat} {os : OsState}
variable {nm q : Str} {C N : Addr} {bs bm bmB : List Value} {hdct : Bool} {sn : List Str} {sub : List Value} {ab : Bool} {col : Option Bool} {dd : Option Addr} {k0 k1 k2 k3 k5 : Option Value} {B newId initId : String}
theorem chk_new (F : ExcBaseFacts B newId initId bmB) (hT : Abv B bm) {rest : List Value} {Q : Unit → Shared → Prop}
    (hC : h.get? C = some (excClassObj nm q C N bs bm hdct sn sub ab col dd k0 k1 k2 k3 k5 newId)) (hq : Q () ⟨h, g, d, t, os⟩) : wpAny M A (checkBuiltinCall newId ⟨.ref C :: rest, []⟩) Q E ⟨h, g, d, t, os⟩ := by
  have hcont : (Value.ref C :: bm).contains (.type B) = true := by rw [List.contains_cons, hT.hasB, Bool.or_true]
  have hstar := F.noStar
  simp only [checkBuiltinCall, F.newKind, F.newSplit, F.newRow]
  repeat (first | refine wpAny_loadPart_at hC ?_ | (refine wpAny_isSubtype_exc hC ?_; rw [hcont]) | refine wpAny_staticBase_exc hC ?_ | refine wpAny_madeBy_exc hC ?_ | simp only [bne_self_eq_false, Bool.false_eq_true, if_false] | wp_step)
  exact hq
end
section
variable {prog : Program} {w : World} {A : Around} {E : Value → Shared → Prop} {R : Result → Shared → Prop} {h : Heap} {g : Array GenState} {d : Drawn} {t : Nat} {os : OsState}
variable {nm q : Str} {C N : Addr} {bs bm bmB : List Value} {hdct : Bool} {sn : List Str} {sub : List Value} {ab : Bool} {col : Option Bool} {dd : Option Addr} {k0 k1 k2 k3 k5 : Option Value} {B newId initId : String}
theorem new_run (F : ExcBaseFacts B newId initId bmB) (hT : Abv B bm) {rest : List Value}
    (hC : h.get? C = some (excClassObj nm q C N bs bm hdct sn sub ab col dd k0 k1 k2 k3 k5 newId))
    (hq : R (.ok (.ret (.ref (h.objs.size + 1)))) ⟨(h.push { cls := .type "tuple", data := .seq rest.toArray }).push
      { cls := .ref C, data := .fields #[.ref h.objs.size, .none, .none, .none, .bool false, .none] }, g, d, t, os⟩) (hrest : rest.length ≤ sizeLine) :
    codeAny (model prog w) A (.builtin newId ⟨.ref C :: rest, []⟩) R ⟨h, g, d, t, os⟩ := by
  have hends := F.ends
  have hcB : (Value.ref C :: bm).contains (.type B) = true := by rw [List.contains_cons, hT.hasB, Bool.or_true]
  have hcA : (Value.ref C :: bm).contains (.type "AttributeError") = false := by rw [List.contains_cons, hT.noAttr]; rfl
  have hcN : (Value.ref C :: bm).contains (.type "NameError") = false := by rw [List.contains_cons, hT.noName]; rfl
  refine codeAny_builtinAt F.entry ?_
  unfold Builtin.«BaseException.__new__»
  refine wpAt_bind ?_
  show wpAt _ _ _ (stack >>= _) _ _ _
  refine wpAt_bind (wpAt_stack fun p below => wpAt_of_wpAny ?_)
  wp_walk
  refine wpAt_of_wpAny ?_
  rw [F.owner]
  repeat (first | with_reducible refine wpAny_madeHere_exc F.canon hC ?_ | with_reducible refine wpAny_loadPart_at hC ?_ | (with_reducible refine wpAny_isSubtype_exc hC ?_; first | rw [hcB] | rw [hcA] | rw [hcN]) | wp_step)
  show R _ _
  rw [Heap.size_push]
  exact hq
theorem tcall_run (F : ExcBaseFacts B newId initId bmB) (hT : Abv B bm) {rest : List Value} {fI : Addr} {Q : Fin → Shared → Prop}
    (hC : h.get? C = some (excClassObj nm q C N bs bm hdct sn sub ab col dd k0 k1 k2 k3 k5 newId))
    (hi : W.Looks (model prog w) h (typeLookup (.ref C) "__init__") (some (.ref fI))) (hb : ∀ self, W.Looks (model prog w) h (bindSpecial (.ref fI) self) (.ref fI, [self])) (hrest : rest.length ≤ sizeLine)
    (hq : codeAny (model prog w) A (.call (.ref fI) ⟨.ref (h.objs.size + 1) :: rest, []⟩)
      (fun r s' => match r with | .ok (.ret v) => v = .none ∧ Q (.done (.ret (.ref (h.objs.size + 1)))) s' | .ok _ => False | .error e => E e s')
      ⟨(h.push (W.kdv_tup rest)).push (HandSPX.excO C h.objs.size), g, d, t, os⟩) :
    wpAny (model prog w) A (Builtin.«type.__call__» ⟨.ref C :: rest, []⟩) Q E ⟨h, g, d, t, os⟩ := by
  repeat (first | with_reducible refine wpAny_loadPart_at hC ?_ | with_reducible refine wpAny_madeBy_exc hC ?_ | wp_step)
  refine codeAny_call_builtin_code (Code.quiet_builtin _ F.quiet) (chk_new F hT hC ?_)
  refine new_run F hT hC ?_ hrest
  show wpAny _ _ _ _ _ _
  have k : ∀ b o, h.get? b = some o → ((h.push (W.kdv_tup rest)).push (HandSPX.excO C h.objs.size)).get? b = some o := fun b o e => Heap.get?_push_of_some _ (Heap.get?_push_of_some _ e)
  have hC₁ := k _ _ hC
  have hget : ((h.push (W.kdv_tup rest)).push (HandSPX.excO C h.objs.size)).get? (h.objs.size + 1) = some (HandSPX.excO C h.objs.size) := by heap_get
  have hcC : (Value.ref C :: bm).contains (.ref C) = true := by simp
  have i1 := hi.keeps k
  have b1 := (hb (.ref (h.objs.size + 1))).keeps k
  unfold isInstance
  repeat (first | with_reducible refine wpAny_loadPart_at hget ?_ | (with_reducible refine wpAny_isSubtype_exc hC₁ ?_; rw [hcC]) | wp_step)
  show wpAny _ _ (typeLookup (.ref C) _) _ _ _
  refine i1.at ?_
  refine wpAny_holding (wpAny_bind (b1.at ?_))
  refine wpAny_bind (wpAny_call (codeAny_mono hq fun r s' z => ?_))
  rcases r with e | (v | _ | _ | _) <;> first | exact z | exact z.elim | skip
  obtain ⟨rfl, z⟩ := z
  first
    | exact wpAny_pure (wpAny_pure z)
    | (wp_walk; exact z)
/-- C(..): the built-in __new__, then the own __init__ -/
theorem own_call (F : ExcBaseFacts B newId initId bmB) (hT : Abv B bm) {rest : List Value} {fI : Addr}
    (hC : h.get? C = some (excClassObj nm q C N bs bm hdct sn sub ab col dd k0 k1 k2 k3 k5 newId))
    (hi : W.Looks (model prog w) h (typeLookup (.ref C) "__init__") (some (.ref fI))) (hb : ∀ self, W.Looks (model prog w) h (bindSpecial (.ref fI) self) (.ref fI, [self])) (hrest : rest.length ≤ sizeLine)
    (hq : codeAny (model prog w) (A.under (.builtin "type.__call__" ⟨.ref C :: rest, []⟩)) (.call (.ref fI) ⟨.ref (h.objs.size + 1) :: rest, []⟩) (W.InitBack (h.objs.size + 1) R)
      ⟨(h.push (W.kdv_tup rest)).push (HandSPX.excO C h.objs.size), g, d, t, os⟩) :
    codeAny (model prog w) A (.call (.ref C) ⟨rest, []⟩) R ⟨h, g, d, t, os⟩ := by
  have f1 := tc_lookup
  have f2 := tc_bind (.ref C)
  have hTy : (⟨h, g, d, t, os⟩ : Shared).TypeIs (.ref C) "type" := ⟨_, hC, rfl⟩
  refine codeAny_of_tree ?_
  show wpAny _ _ (callAny (.ref C) _) _ _ _
  repeat (any_goals (first | assumption | with_reducible refine wpAny_loadPart_at hC ?_ | wp_step))
  refine ⟨rfl, ?_⟩
  refine codeAny_call_builtin_at (Code.quiet_builtin _ (by decide +kernel)) entry_typeCall (wpAny_check_type_call_sub hC (tcall_run F hT hC hi hb hrest ?_))
  refine codeAny_mono hq fun r s' z => ?_
  rcases r with e | (v | _ | _ | _) <;> exact z
end
end U
/-! E1: super().__init__(x); self.f = x -/
namespace U
open PySem PySem.W
section
variable {M : Model} {A : Around} {E : Value → Shared → Prop} {h : Heap} {g : Array GenState} {d : Drawn} {t : Nat} {os : OsState}
variable {nm q : Str} {C N : Addr} {bs bm bmB : List Value} {hdct : Bool} {sn : List Str} {sub : List Value} {ab : Bool} {col : Option Bool} {dd : Option Addr} {k0 k1 k2 k3 k5 : Option Value} {B newId initId : String}
theorem chk_bound (F : IniF B initId) {e : Addr} {oe : Obj} {rest : List Value} {Q : Unit → Shared → Prop}
    (hC : h.get? C = some (excClassObj nm q C N bs bm hdct sn sub ab col dd k0 k1 k2 k3 k5 newId)) (he : h.get? e = some oe) (hcls : oe.cls = .ref C) (hq : Q () ⟨h, g, d, t, os⟩) :
    wpAny M A (checkBoundCall initId ⟨.ref e :: rest, []⟩) Q E ⟨h, g, d, t, os⟩ := by
  have hshort := F.noStar
  simp only [checkBoundCall, F.kind, F.row]
  repeat (first | (with_reducible refine wpAny_loadPart_at he ?_; rw [hcls]) | with_reducible refine wpAny_loadPart_at hC ?_ | wp_step)
  refine wpAny_onRaise ?_
  rw [show ∀ (a b : String) (n : Nat), Bind.check ⟨.positional, "*", B, .self, [⟨"args", .varPos, false⟩]⟩ a b n (List.map (fun x => x.fst) ({ pos := Value.ref e :: rest } : Args).kw) = pure () from
    fun a b n => check_star_args _ _ _ _ _ _]
  exact wpAny_pure hq
end
section
variable {prog : Program} {w : World} {A : Around} {E : Value → Shared → Prop} {h : Heap} {g : Array GenState} {d : Drawn} {t : Nat} {os : OsState}
variable {nm q : Str} {C N : Addr} {bs bm : List Value} {hdct : Bool} {sn : List Str} {sub : List Value} {ab : Bool} {col : Option Bool} {dd : Option Addr} {k0 k1 k2 k3 k5 : Option Value} {B newId initId : String}
/-- the bound built-in __init__ called: the args are laid anew -/
theorem bw_call (F : IniF B initId) {u e t0 : Addr} {rest : List Value} {Q : Value → Shared → Prop}
    (hC : h.get? C = some (excClassObj nm q C N bs bm hdct sn sub ab col dd k0 k1 k2 k3 k5 newId)) (he : h.get? e = some (HandSPX.excO C t0)) (hu : h.get? u = some (kxs_mw initId e)) (hrest : rest.length ≤ sizeLine)
    (hq : ∀ h' t1, (∀ b o, b ≠ e → h.get? b = some o → h'.get? b = some o) → h'.get? e = some (HandSPX.excO C t1) → Q .none ⟨h', g, d, t, os⟩) :
    wpAny (model prog w) A (call (.ref u) rest) Q E ⟨h, g, d, t, os⟩ := by
  refine wpAny_call (codeAny_of_tree ?_)
  show wpAny _ A.in1 (callAny (.ref u) ⟨rest, []⟩) _ _ _
  simp only [callAny]
  refine wpAny_bind (wpAny_load hu ?_)
  simp only [kxs_mw, show (Value.type "method-wrapper" == Value.type "method" || Value.type "method-wrapper" == Value.type "builtin_function_or_method" || Value.type "method-wrapper" == Value.type "method-wrapper") = true by decide, if_true]
  refine W.KFB.if_so (by decide) ?_
  refine wpAny_bind (chk_bound F hC he rfl ?_)
  refine wpAny_bind (wpAny_pure (wpAny_pure ?_))
  refine ⟨plainId_quiet F.init.plain _, codeAny_builtin F.entry ?_⟩
  rw [Around.under_plainId F.init.plain _]
  wp_walk
  refine hq _ h.objs.size (fun b o hb ho => ?_) ?_
  · rw [Heap.get?_update_other _ _ (Ne.symm hb)]
    exact Heap.get?_push_of_some _ ho
  · rw [Heap.get?_update_self _ (Heap.get?_push_of_some _ he) rfl]
    rfl
end
section
open Builtin Builtin.ObjectAttr
variable {prog : Program} {w : World} {A : Around} {E : Value → Shared → Prop} {h : Heap} {g : Array GenState} {d : Drawn} {t : Nat} {os : OsState} {K : Frag} {C : Addr} {bmB : List Value} {B : String}
/-- self.f = v, the first one -/
theorem put_run (SF : StoreFacts B bmB "object.__setattr__" "object") {x : Addr} {fv : Array Value} {name : Str} {v : Value} {Q : Unit → Shared → Prop} (X : K.In h) (hx : h.get? x = some { cls := .ref C, data := .fields fv })
    (hsa : findIn K (.ref C) "__setattr__" = some (some (.builtin "object.__setattr__"))) (hov : excOver K C bmB = true) (ha : findIn K (.ref C) name = some none) (hh : hasDictIn K C = true)
    (hq : ∀ h' tk' dx, (∀ b o, b ≠ x → h.get? b = some o → h'.get? b = some o) → h.objs.size ≤ dx → dx ≠ x → h'.get? x = some { cls := .ref C, dict := some dx, data := .fields fv } →
      h'.Ns1 dx (fun y => if y = name then some v else none) → Q () ⟨h', g, d, tk', os⟩) : wpAny (model prog w) A (setAttr (.ref x) name v) Q E ⟨h, g, d, t, os⟩ := by
  have I : InstAt h x { cls := .ref C, data := .fields fv } C none := ⟨hx, rfl, rfl, trivial⟩
  have ht : takerIn K C name = some none := by
    unfold takerIn
    rw [ha]
    rfl
  have hxs : x ≠ h.objs.size := Nat.ne_of_lt (Heap.lt_size hx)
  refine set_plain (s := ⟨h, g, d, t, os⟩) X I hsa (osa_openX (s := ⟨h, g, d, t + 1, os⟩) (od := none) SF X I hov ht fun b => ?_)
  obtain ⟨cd, hc, hd'⟩ := any_some hh
  have hcls : W.Looks (model prog w) h (classData C) cd := W.looks_clsIn X hc
  obtain ⟨nm, bs, mro, ns, qn, hd, sn, sb, ab, col, del⟩ := cd
  dsimp only at hd'
  subst hd'
  show wpAny _ _ (storeInOwnDict (.ref x) (.ref C) (.str name t) name v b) _ _ _
  unfold storeInOwnDict ownDictForStores
  repeat (first | with_reducible refine HandSPX.store_in_new ?_ ?_ | with_reducible refine wpAny_loadPart_at hx ?_ | with_reducible refine hcls.at ?_ | wp_step)
  · exact ⟨_, #[], _, (Heap.get?_update_ne _ _ _ _ hxs.symm).trans (Heap.get?_push_at rfl rfl), rfl, fun e he => absurd he (by simp), fun _ => rfl⟩
  · intro h' tk' hn' hs
    have hx₁ : (h.push { cls := .type "dict", data := .dict #[] }).get? x = some { cls := .ref C, data := .fields fv } := Heap.get?_push_of_some _ hx
    refine hq h' tk' h.objs.size (fun b o hb ho => ?_) (Nat.le_refl _) hxs.symm ?_ hn'
    · exact (hs.2 b (Nat.ne_of_lt (Heap.lt_size ho))).trans ((Heap.get?_update_ne _ _ _ _ hb).trans (Heap.get?_push_of_some _ ho))
    · exact (hs.2 x hxs).trans (Heap.get?_update_self _ hx₁ rfl)
end
end U
/-! E2: the call of an own exception class whose __init__ says super().__init__(x); self.f = x -/
namespace U
open PySem PySem.W
/-- the two lines -/
abbrev supBody (pn fn : Str) (p0 p1 p2 p3 p4 p5 p6 p7 p8 p9 : Pos) : List Stmt :=
  [.Expr (.Call (.Attribute (.Call (.Name "super" p0) [] [] p1) "__init__" p2) [.Name pn p3] [] p4) p5, .Assign [.Attribute (.Name "self" p6) fn p7] (.Name pn p8) p9]
/-- how the lines are told apart by their places (by rfl of each text) -/
structure SupE (pn fn : Str) (p0 p1 p2 p3 p4 p6 p7 p8 p9 : Pos) : Prop where
  ev : ∃ pl : Sem Bool, ∀ env : Env, eval (.Call (.Attribute (.Call (.Name "super" p0) [] [] p1) "__init__" p2) [.Name pn p3] [] p4) env = (do
      let ov ← attributeBase (.Call (.Name "super" p0) [] [] p1) "__init__" env (eval (.Call (.Name "super" p0) [] [] p1) env)
      standAt p2.atName
      let (f, first) ← holding [ov] (getMethod ov "__init__" pl)
      callWith p4 f first (backTo p4 (starEach [.Name pn p3] env)) [])
  sw : ∀ env : Env, swapsWith (.Name pn p8) (some (.Attribute (.Name "self" p6) fn p7)) p9.line env = pure false
/-- what the written part says of such an __init__ -/
structure SupF (P : Program) (K : Frag) (C fI : Addr) (qual pn fn : Str) (params : Arguments) (body : List Stmt) (scope : Scope) : Prop where
  bd : ∃ p0 p1 p2 p3 p4 p5 p6 p7 p8 p9, body = supBody pn fn p0 p1 p2 p3 p4 p5 p6 p7 p8 p9 ∧ SupE pn fn p0 p1 p2 p3 p4 p6 p7 p8 p9
  fn : ∃ (oc : Value) (od : Option Addr) (dV kV doc pm : Value) (an : Option Addr) (cda cc : Addr) (ct : Value) (osl : Array (Option Value)) (ccl cl tv : Value) (cdd cld : Option Addr) (vs : Array Value) (ccs csl : Array (Option Value)) (file : Str) (tf : Tok),
    K.lookup fI = some ⟨oc, od, .func (ksFn "__init__" qual params body scope dV kV doc pm an (.ref cda) ct cc), osl⟩ ∧ codeIn K (.ref cda) qual = true ∧ K.lookup cda = some ⟨ccl, cdd, .fields vs, ccs⟩ ∧ vs[2]? = some (.str file tf) ∧
    ((P.main.file : Str) == file) = true ∧ K.lookup cc = some ⟨cl, cld, .cell (some (.ref C)), csl⟩ ∧
    (∀ (s : Shared) (a b : Value), BindsTo s (ksFn "__init__" qual params body scope dV kV doc pm an (.ref cda) ct cc) ⟨[a, b], []⟩ [("self", a), (pn, b)])
  par : ∃ ar : Arg, (params.posonlyargs ++ params.args).head? = some ar ∧ ar.arg = "self"
  nself : scope.names.lookup ("self" : Str) = some .local
  npn : scope.names.lookup pn = some .local
  nsup : scope.names.lookup ("super" : Str) = some .globalImplicit
  ncls : scope.names.lookup ("__class__" : Str) = some .free
  kind : scope.kind = .function
  co : scope.isCoroutine = false
  gen : scope.isGenerator = false
  cells : ∀ x ∈ scope.names, x.2 ≠ .cell
  top : (P.main.scope.names.lookup ("super" : Str)).isSome = false
  ne : pn ≠ "self"
  ndb : (pn == ("__debug__" : Str)) = false
  ty : typeIn K (.ref fI) = some (.type "function")
/-- .. and of its class -/
structure SupC (K : Frag) (B newId initId : String) (bmB : List Value) (C fI : Addr) (fn : Str) : Prop where
  cls : ∃ nm q N bs bm sn sub ab col dd k0 k1 k2 k3 k5, K.lookup C = some (excClassObj nm q C N bs bm true sn sub ab col dd k0 k1 k2 k3 k5 newId) ∧ excTail bmB bm = true
  over : excOver K C bmB = true
  ini : findIn K (.ref C) "__init__" = some (some (.ref fI))
  sup : ks_superIn K C C "__init__" = some (some (.builtin initId))
  sB : subIn K (.ref C) (.type B) = some true
  opq : nsIn K cStatics "thirdparty.any" = some none
  sa : findIn K (.ref C) "__setattr__" = some (some (.builtin "object.__setattr__"))
  no : findIn K (.ref C) fn = some none
  dct : hasDictIn K C = true
  kC : keepIn K (.ref C) = true
section
variable {prog : Program} {w : World} {A : Around} {h : Heap} {g : Array GenState} {d : Drawn} {t : Nat} {os : OsState} {K : Frag} {C fI e t0 : Addr} {bmB : List Value} {B newId initId : String} {qual pn fn : Str} {params : Arguments} {body : List Stmt} {scope : Scope}
variable {R : Result → Shared → Prop} {mg mb : Str → Option Value} {u : Value}
theorem init_run (I0 : IniF B initId) (SF : StoreFacts B bmB "object.__setattr__" "object") (TC : SupC K B newId initId bmB C fI fn) (TF : SupF prog K C fI qual pn fn params body scope) (X : K.In h) (lim : h.NoLimit) (glo : h.Ns mainGlobals mg) (blt : h.Ns builtinsNs mb) (hmg : mg "super" = none) (hmb : mb "super" = some (.type "super"))
    (room : A.depth < recursionLimit) (hKe : K.lookup e = none) (he : h.get? e = some (HandSPX.excO C t0))
    (hq : ∀ h' tk' dx t1, (∀ b o, b ≠ e → h.get? b = some o → h'.get? b = some o) → h.objs.size ≤ dx → h'.get? e = some { cls := .ref C, dict := some dx, data := .fields #[.ref t1, .none, .none, .none, .bool false, .none] } →
      h'.Ns1 dx (fun y => if y = fn then some u else none) → R (.ok (.ret .none)) ⟨h', g, d, tk', os⟩) : codeAny (model prog w) A (.call (.ref fI) ⟨[.ref e, u], []⟩) R ⟨h, g, d, t, os⟩ := by
  obtain ⟨p0, p1, p2, p3, p4, p5, p6, p7, p8, p9, rfl, SE⟩ := TF.bd
  obtain ⟨pl, hev⟩ := SE.ev
  obtain ⟨oc, od, dV, kV, doc, pm, an, cda, cc, ct, osl, ccl, cl, tv, cdd, cld, vs, ccs, csl, file, tf, hf, hcd, hcode, hvs, hfile, hcell, hbind⟩ := TF.fn
  obtain ⟨nm, qn, N, bs, bm, sn, sub, ab, col, dd, k0, k1, k2, k3, k5, hC, hbm⟩ := TC.cls
  obtain ⟨ar, har, hself⟩ := TF.par
  have hloc : ∀ y ∈ ([("self", .ref e), (pn, u)] : List (Str × Value)), scope.names.lookup y.1 = some .local := fun y hy => by
    rcases List.mem_cons.mp hy with rfl | hy
    · exact TF.nself
    · rcases List.mem_cons.mp hy with rfl | hy
      · exact TF.npn
      · cases hy
  refine ks_codeAny_call_defAt (fd := ksFn "__init__" qual params (supBody pn fn p0 p1 p2 p3 p4 p5 p6 p7 p8 p9) scope dV kV doc pm an (.ref cda) ct cc) (body := supBody pn fn p0 p1 p2 p3 p4 p5 p6 p7 p8 p9) (binds := [("self", .ref e), (pn, u)])
    room (X _ _ hf) rfl lim (codeRec_of X hcd) rfl (hbind _ _ _) TF.cells hloc (fun h1 hns hk1 => ?_) TF.co TF.gen TF.kind
  have X1 : K.In h1 := X.keeps hk1
  show wpAt _ _ (.func _ (ksEnv qual scope h.objs.size fI (.ref cda) cc)) (execs _ (ksEnv qual scope h.objs.size fI (.ref cda) cc)) _ _ _
  have eself : (fun x => List.lookup x (List.reverse ([("self", .ref e), (pn, u)] : List (Str × Value)))) ("self" : Str) = some (.ref e) := by
    have : (("self" : Str) == pn) = false := beq_eq_false_iff_ne.mpr (Ne.symm TF.ne)
    simp [List.lookup, this]
  have epn : (fun x => List.lookup x (List.reverse ([("self", .ref e), (pn, u)] : List (Str × Value)))) pn = some u := by
    simp [List.lookup]
  have clD : clsIn K C = some { name := nm, bases := bs, mro := .ref C :: bm, ns := N, qualname := qn, hasDict := true, slotNames := sn, subclasses := sub, abstract := ab, collection := col, hasDel := false } := by
    unfold clsIn
    rw [hC]
  have hint : interactive (ksEnv qual scope h.objs.size fI (.ref cda) cc) = false := by
    unfold interactive
    simp [TF.kind]
  refine ks_wpAt_execs_cons (ks_wpAt_Expr_any ?_ hint (by rfl))
  refine ks_wpAt_MethodCall (pl := pl) ?_ (hev _)
  refine ks_wpAt_super_base (env := ksEnv qual scope h.objs.size fI (.ref cda) cc) TF.nsup TF.ncls (by decide) rfl (X1 _ _ hf) rfl har rfl (X1 _ _ hcode) rfl hvs hfile TF.top ?_
  refine ks_loadName_global TF.kind TF.nsup (Calls.loadGlobal_builtin (env := ksEnv qual scope h.objs.size fI (.ref cda) cc) (glo.keeps hk1) hmg (blt.keeps hk1) hmb ⟨rfl, ?_⟩)
  refine wpAny_loadName_free TF.kind TF.ncls rfl ⟨_, X1 _ _ hcell, rfl⟩ ?_
  rw [hself]
  refine wpAny_loadName_local TF.kind TF.nself hns eself ?_
  have hC1 := X1 _ _ hC
  have he1 := hk1 _ _ he
  have mroC : Looks (model prog w) h1 (isSubtype (.ref C) (.ref C)) true := fun A Q E s k q => by
    obtain ⟨s1, s2, s3, s4, s5⟩ := s
    refine wpAny_isSubtype_exc (k _ _ hC1) ?_
    have : (Value.ref C :: bm).contains (.ref C) = true := by simp
    rw [this]
    exact q
  refine ks_wpAny_isType_cls hC1 rfl ⟨rfl, ?_⟩
  refine ks_wpAny_call_super hC1 rfl he1 rfl (fun c z => nomatch z) mroC (fun h2 so hk2 => ?_)
  have X2 : K.In h2 := X1.keeps hk2
  have he2 := hk2 _ _ he1
  have I2 : InstAt h2 e (HandSPX.excO C t0) C none := ⟨he2, rfl, rfl, trivial⟩
  have hm := TC.sup
  unfold ks_superIn at hm
  rw [clD, Option.bind_some] at hm
  refine kxs_getMethod I0.kxs so (looks_opaque X2 TC.opq) (l₀ := .ref C :: bm) (fun A Q E s k q => wpAny_bind ((looks_clsIn X2 clD) A _ E s k (wpAny_pure q))) rfl X2 hm (I2.type.andThen (looks_subIn X2 TC.sB)) (ks_ne X2 I2 clD) (by decide) ?_
  have k3 : ∀ b o, h2.get? b = some o → (h2.push (kxs_mw initId e)).get? b = some o := fun b o z => Heap.get?_push_of_some _ z
  have X3 : K.In (h2.push (kxs_mw initId e)) := X2.keeps k3
  have hu : (h2.push (kxs_mw initId e)).get? h2.objs.size = some (kxs_mw initId e) := Heap.get?_push_at rfl rfl
  have k13 : ∀ b o, h1.get? b = some o → (h2.push (kxs_mw initId e)).get? b = some o := fun b o z => k3 b o (hk2 b o z)
  have hns3 : (h2.push (kxs_mw initId e)).Ns h.objs.size (fun x => List.lookup x (List.reverse ([("self", .ref e), (pn, u)] : List (Str × Value)))) := hns.keeps k13
  refine kxs_callWith (i := initId) (x := e) (by rfl) (Calls.evalArgs_plain ?_)
  refine Calls.spliced_cons (ESX.ldL (env := ksEnv qual scope h.objs.size fI (.ref cda) cc) hns3 epn ?_ TF.kind TF.npn TF.ndb)
  refine Calls.spliced_nil ⟨hu, ?_⟩
  show wpAny _ _ (call (.ref h2.objs.size) [u]) _ _ _
  have le : e < h.objs.size := Heap.lt_size he
  refine bw_call I0 (k13 _ _ hC1) (k3 _ _ he2) hu (by show (1 : Nat) ≤ sizeLine; decide) (fun h4 t1 k4 e4 => ?_)
  have k14 : ∀ b o, b ≠ e → h1.get? b = some o → h4.get? b = some o := fun b o hb z => k4 b o hb (k13 b o z)
  have X4 : K.In h4 := fun b o z => k4 b o (fun y => by
      subst y
      rw [hKe] at z
      cases z) (X3 b o z)
  have hns4 : h4.Ns h.objs.size (fun x => List.lookup x (List.reverse ([("self", .ref e), (pn, u)] : List (Str × Value)))) := by
    obtain ⟨o, es, ep, z, r⟩ := hns3
    exact ⟨o, es, ep, k4 _ _ (Nat.ne_of_gt le) z, r⟩
  refine ks_wpAt_execs_cons (ks_wpAt_Assign_Attr ?_ (SE.sw _))
  refine wpAt_of_wpAny (ESX.ldL (env := ksEnv qual scope h.objs.size fI (.ref cda) cc) hns4 epn ?_ TF.kind TF.npn TF.ndb)
  refine ESX.ldL (env := ksEnv qual scope h.objs.size fI (.ref cda) cc) hns4 eself ?_ TF.kind TF.nself (by decide)
  refine put_run SF X4 e4 TC.sa TC.over TC.no TC.dct (fun h5 tk5 dx k5 hd5 ne5 e5 n5 => ?_)
  refine wpAt_of_wpAny (wpAny_execs_nil ?_)
  refine hq h5 tk5 dx t1 (fun b o hb z => k5 b o hb (k14 b o hb (hk1 b o z))) ?_ e5 n5
  obtain ⟨o, es, ep, z, r⟩ := hns4
  exact Nat.le_trans (Nat.le_of_lt (Heap.lt_size z)) hd5
end
end U
/-! E3: own exceptions as values: made, their field, isinstance -/
namespace U
open PySem PySem.Spec PyProof.Rows L2
/-- an exception of the class at D stands at a -/
def ExAt (H : Hp) (a D : Addr) : Prop := H a = some (ExO (.ref D) a) ∨ ∃ dx fs, H a = some (exo a D (some dx)) ∧ H dx = some (exd dx fs)
def tExc (C : Addr) (fn : Str) (te : TE) : TE := fun σ H Q => te σ H fun v H1 => ∀ a dx, H1 a = none → H1 dx = none → a ≠ dx → Q (.ref a) (upd (upd H1 dx (exd dx [(fn, v)])) a (exo a C (some dx)))
def tExc0 (C : Addr) : TE := fun _ H Q => ∀ a, H a = none → Q (.ref a) (upd H a (ExO (.ref C) a))
/-- what is asked of the base -/
structure BaseX (Bn newId initn : String) (bmn : List Value) (B initId : String) (bmB : List Value) : Prop where
  nw : ExcBaseFacts Bn newId initn bmn
  ini : IniF B initId
  st : StoreFacts B bmB "object.__setattr__" "object"
  abv : ∀ bm, PySem.W.excTail bmB bm = true → Abv Bn bm
theorem base_VE : BaseX "ValueError" "ValueError.__new__" "ValueError.__init__" veTl "ValueError" "ValueError.__init__" veTl :=
  ⟨F.excBase_ValueError, ini_ValueError, F.store_ValueError, fun bm h => ⟨(PySem.W.excTail_contains _ _ h).trans (by decide +kernel), (PySem.W.excTail_contains _ _ h).trans (by decide +kernel), (PySem.W.excTail_contains _ _ h).trans (by decide +kernel)⟩⟩
theorem base_KE : BaseX "LookupError" "LookupError.__new__" "LookupError.__init__" [.type "LookupError", .type "Exception", .type "BaseException", .type "object"] "KeyError" "KeyError.__init__" keTail :=
  ⟨F.excBase_LookupError, ini_KeyError, store_KeyError, fun bm h => ⟨(PySem.W.excTail_contains _ _ h).trans (by decide +kernel), (PySem.W.excTail_contains _ _ h).trans (by decide +kernel), (PySem.W.excTail_contains _ _ h).trans (by decide +kernel)⟩⟩
section
variable {X : Cx} {x : Str} {C fI : Addr} {k : Nat} {e : Expr} {te : TE} {p pos : Pos} {Bn newId initn B initId : String} {bmn bmB : List Value} {qual pn fn : Str} {params : Arguments} {body : List Stmt} {scope : Scope}
/-- what is run by C(u): an exception with its dict -/
theorem make_run (BX : BaseX Bn newId initn bmn B initId bmB) (TC : SupC X.K B newId initId bmB C fI fn) (TF : SupF X.prog X.K C fI qual pn fn params body scope) (hsup : X.mg "super" = none) (hr : Room (k + 1) X.A)
    {pins : List (Addr × Obj)} {σ : L2.St} {H : Hp} {s : Shared} {u : Value} (I : Inv X pins σ H s) {Q : Value → Shared → Prop}
    (hq : ∀ h' tk' a dx t1, (∀ b o, s.heap.get? b = some o → h'.get? b = some o) → s.heap.get? a = none → s.heap.get? dx = none → a ≠ dx →
      h'.get? a = some ({ cls := .ref C, dict := some dx, data := .fields #[.ref t1, .none, .none, .none, .bool false, .none] } : Obj) → h'.Ns1 dx (fun y => if y = fn then some u else none) → Q (.ref a) { s with heap := h', toks := tk' }) :
    wpAny (model X.prog X.w) X.A (call (.ref C) [u]) Q X.xe s := by
  obtain ⟨h, g, d, t, os⟩ := s
  obtain ⟨nm, qn, N, bs, bm, sn, sub, ab, col, dd, k0, k1, k2, k3, k5, hC, hbm⟩ := TC.cls
  obtain ⟨mb, hb1, hb2⟩ := I.mod.blt
  have XK := I.kIn
  have kk : ∀ b o, h.get? b = some o → ((h.push (PySem.W.kdv_tup [u])).push (PySem.HandSPX.excO C h.objs.size)).get? b = some o := fun b o e => Heap.get?_push_of_some _ (Heap.get?_push_of_some _ e)
  have hget : ((h.push (PySem.W.kdv_tup [u])).push (PySem.HandSPX.excO C h.objs.size)).get? (h.objs.size + 1) = some (PySem.HandSPX.excO C h.objs.size) := by heap_get
  have hKe : X.K.lookup (h.objs.size + 1) = none := by
    cases z : X.K.lookup (h.objs.size + 1) with
    | none => rfl
    | some o =>
      have := Heap.lt_size (XK _ _ z)
      exact absurd this (by show ¬ (h.objs.size + 1 < h.objs.size); omega)
  have un : ∀ b, h.objs.size ≤ b → h.get? b = none := fun b hb => by
    cases z : h.get? b with
    | none => rfl
    | some o => exact absurd (Heap.lt_size z) (Nat.not_lt.mpr hb)
  have sz : ((h.push (PySem.W.kdv_tup [u])).push (PySem.HandSPX.excO C h.objs.size)).objs.size = h.objs.size + 2 := by
    rw [Heap.size_push, Heap.size_push]
  refine wpAny_call (own_call BX.nw (BX.abv _ hbm) (XK _ _ hC) (PySem.W.looks_findIn XK TC.ini) (fun self => PySem.W.bind_fn XK self TF.ty) (by show (1 : Nat) ≤ sizeLine; decide) ?_)
  refine init_run (mg := X.mg) (mb := mb) BX.ini BX.st TC TF (XK.keeps kk) ((I.mod.nolimit.keeps I.bk).keeps kk) ((I.mod.glob.keeps I.bk).keeps kk) ((hb1.keeps I.bk).keeps kk) hsup ((hb2 _ (by decide)).trans (by decide +kernel)) ((hr.make C [u] []).depth) hKe hget
    (fun h' tk' dx t1 k' hdx he hn => ⟨rfl, ?_⟩)
  rw [sz] at hdx
  exact hq h' tk' (h.objs.size + 1) dx t1 (fun b o z => k' b o (fun y => by
      subst y
      rw [un _ (Nat.le_succ _)] at z
      cases z) (kk b o z)) (un _ (Nat.le_succ _)) (un _ (Nat.le_trans (Nat.le_add_right _ 2) hdx)) (Nat.ne_of_lt hdx) he hn
/-- C(e) as a value -/
theorem pe_exc (BX : BaseX Bn newId initn bmn B initId bmB) (TC : SupC X.K B newId initId bmB C fI fn) (TF : SupF X.prog X.K C fI qual pn fn params body scope) (hsup : X.mg "super" = none) (hr : Room (k + 1) X.A) (gC : X.mg x = some (.ref C)) (hg : Gl X x)
    (he : PE X e te) (hs : starEach [e] X.env = (false, eval e X.env) :: starEach [] X.env := by rfl) (hdb : (x == ("__debug__" : Str)) = false := by decide) : PE X (.Call (.Name x p) [e] [] pos) (tExc C fn te) := by
  refine ⟨fun pins s σ H Q I h => ?_⟩
  refine wpAny_Call_Name_kw (ld_glob I hg gC ?_ hdb)
  refine PySem.W.callWith_K (h₀ := X.base) I.ok.mod.kin TC.kC ?_ hs (by rfl)
  rw [hs]
  show wpAny _ _ (spliced ((false, eval e X.env) :: backTo pos (starEach [] X.env))) _ _ s
  refine Calls.spliced_cons (thn (he.run pins s σ H _ I h) fun u s1 ⟨v, H1, I1, r1, q1⟩ => ?_)
  refine Calls.spliced_nil ⟨I1.kIn, ?_⟩
  show wpAny _ _ (call (.ref C) [u]) _ _ _
  refine make_run BX TC TF hsup hr I1 fun h' tk' a dx t1 kh na nd ne ha hd => ?_
  have Ha : H1 a = none := I1.hok.gone na
  have Hd : H1 dx = none := I1.hok.gone nd
  obtain ⟨G, g1, g2⟩ := restrict h' fun b => decide (b ≠ a)
  have gk : ∀ b, b ≠ a → G.get? b = h'.get? b := fun b hb => g1 b (decide_eq_true hb)
  have ga : G.get? a = none := g2 a (by simp)
  have gs : ∀ b o, G.get? b = some o → h'.get? b = some o := fun b o z => by
    by_cases hb : b = a
    · rw [hb, ga] at z
      cases z
    · rw [← gk b hb]
      exact z
  have rel : ∀ f : Str, RelO (([(fn, v)] : List (Str × V)).lookup f) ((fun y => if y = fn then some u else none) f) := fun f => relO_put (fs := []) (mA := fun _ => none) r1 (fun _ => True.intro) f
  have I2 : Inv X pins σ (upd H1 dx (exd dx [(fn, v)])) { s1 with heap := G, toks := tk' } := I1.laidN (fun b o z => by
      rw [gk b (fun y => by
        subst y
        rw [na] at z
        cases z)]
      exact kh b o z) nd Hd (exd_ok (hd.at fun o z => (gk dx (Ne.symm ne)).trans z) rel)
  have I3 : Inv X pins σ (upd (upd H1 dx (exd dx [(fn, v)])) a (exo a C (some dx))) { s1 with heap := h', toks := tk' } := I2.laidN gs ga (by rw [upd_ne ne]; exact Ha) (exo_ok ha)
  exact ⟨.ref a, _, I3, rfl, q1 a dx Ha Hd ne⟩
end
section
variable {X : Cx}
/-- C(), no __init__ of its own -/
theorem pe_exc0 {C : Addr} {bmB : List Value} {B newId initId : String} {x : Str} {p pos : Pos} (F : ExcBaseFacts B newId initId bmB) (q : PySem.W.excIn X.K C bmB newId = true) (gC : X.mg x = some (.ref C)) (kC : PySem.W.keepIn X.K (.ref C) = true) (hg : Gl X x)
    (hdb : (x == ("__debug__" : Str)) = false := by decide) : PE X (.Call (.Name x p) [] [] pos) (tExc0 C) := by
  refine ⟨fun pins s σ H Q I h => ?_⟩
  refine wpAny_Call_Name_kw (ld_glob I hg gC ?_ hdb)
  refine PySem.W.callWith_K0 I.kIn kC ?_
  show wpAny _ _ (call (.ref C) []) _ _ _
  obtain ⟨bm, N, nm, qn, bs, hdct, sn, sub, ab, col, dd, k0, k1, k2, k3, k5, mN, hC, hN, hni, T⟩ := exc_obj I.kIn q
  refine wpAny_call_exc_subT F T hC hN hni (fun h' a hm => ?_) (by show 0 ≤ sizeLine; omega)
  have hn : H a = none := I.hok.gone hm.new
  obtain ⟨t, ht, _, _⟩ := hm.there
  exact ⟨.ref a, upd H a (ExO (.ref C) a), I.laidN hm.keeps hm.new hn (exO_ok ht ⟨rfl, rfl⟩ rfl rfl rfl (show 4 < 6 by decide)), rfl, h a hn⟩
/-- the field of an exception -/
def tXv (K : PySem.W.Frag) (f : Str) (te : TE) : TE := fun σ H Q => te σ H fun x H1 => ∃ (a C dx : Addr) (fs : List (Str × V)) (v : V), x = .ref a ∧ H1 a = some (exo a C (some dx)) ∧ H1 dx = some (exd dx fs) ∧ XfC K C ∧ PySem.W.findIn K (.ref C) f = some none ∧ fs.lookup f = some v ∧ Q v H1
theorem pe_xv {e : Expr} {te : TE} {pos : Pos} {n : Str} (he : PE X e te) (hb : attributeBase e n X.env (eval e X.env) = eval e X.env := by rfl) : PE X (.Attribute e n pos) (tXv X.K n te) := by
  refine ⟨fun pins s σ H Q I h => ?_⟩
  refine attr_of hb (thn (he.run pins s σ H _ I h) fun u s1 hh => ?_)
  obtain ⟨x, H1, I1, rx, a, C, dx, fs, v, ex, ea, ed, T, hno, l, q⟩ := hh
  subst ex
  obtain rfl : u = Value.ref a := rx
  obtain ⟨t1, ha⟩ := exo_at I1.hok ea
  obtain ⟨mA, hns, hr⟩ := exd_at I1.hok ed
  obtain ⟨od, ho, hl⟩ := lookIn_ns hns
  obtain ⟨u, hu, ru⟩ := RelO.some_of (v := v) (o := mA n) (by rw [← l]; exact hr n)
  have J : PySem.W.InstAt s1.heap a _ C (some od) := ⟨ha, rfl, rfl, ho⟩
  exact HandSPX.exc_get I1.kIn J T.ga T.gg T.exC (PySem.W.findObj_own T.hdC hno rfl (by rw [hl, hu])) (handed_of ru) ⟨v, H1, I1.tok _, ru, q⟩
/-- isinstance(e, c), e an exception of an own class -/
def rIsX (K : PySem.W.Frag) : List V → Hp → VK → Prop := fun xs H Q => ∃ (a D : Addr) (c : V) (cv : Value) (b : Bool), xs = [.ref a, c] ∧ ExAt H a D ∧ ExcC K D ∧ ClsV c cv ∧ PySem.W.kitOne K (.ref D) cv = some b ∧ Q (.bl b) H
theorem call_isX : CallR X (.builtin "isinstance") (rIsX X.K) := by
  intro pins s σ H xs us Q I r h
  obtain ⟨a, D, c, cv, b, rfl, hA, C, hc, e, q⟩ := h
  obtain ⟨u1, u2, rfl, r1, r2⟩ := vals2 r
  cases (show u1 = Value.ref a from r1)
  have e2 := hc.eq r2
  subst e2
  have hcl : (PySem.W.clsIn X.K D).isSome = true := by
    obtain ⟨cd, z, _⟩ := PySem.W.any_some C.hd
    rw [z]
    rfl
  rcases hA with ha | ⟨dx, fs, ha, hd⟩
  · obtain ⟨⟨oe, vs, ho, hz, hd, _⟩, _, _⟩ := I.hok a _ ha
    have J : PySem.W.InstAt s.heap a oe D none := by
      obtain ⟨oc, od, oda, osl⟩ := oe
      obtain ⟨h1, h2⟩ := hz
      dsimp only at h1 h2 hd
      subst h1 h2 hd
      exact ⟨ho, rfl, rfl, trivial⟩
    exact PySem.W.kia_one (PySem.W.kitx_exc hcl C.hg C.hk C.hs C.ha C.hn C.ht C.hm) I.kIn J e (fun z => nomatch z) fun tk => ⟨.bl b, H, I.tok tk, rfl, q⟩
  · obtain ⟨t1, hz⟩ := exo_at I.hok ha
    obtain ⟨mA, hns, hr⟩ := exd_at I.hok hd
    obtain ⟨od, ho, hl⟩ := lookIn_ns hns
    have J : PySem.W.InstAt s.heap a _ D (some od) := ⟨hz, rfl, rfl, ho⟩
    exact PySem.W.kia_one (PySem.W.kitx_exc hcl C.hg C.hk C.hs C.ha C.hn C.ht C.hm) I.kIn J e (fun z => nomatch z) fun tk => ⟨.bl b, H, I.tok tk, rfl, q⟩
end
end U
/-! E4: the facts of own exceptions, put together from what the top has written -/
namespace U
open PySem PySem.Spec PyProof.Rows L2
/-- what an __init__'s text says by itself -/
structure SupS (P : Program) (s : Stmt) (pn fn : Str) : Prop where
  bd : ∃ p0 p1 p2 p3 p4 p5 p6 p7 p8 p9, defBody s = supBody pn fn p0 p1 p2 p3 p4 p5 p6 p7 p8 p9 ∧ SupE pn fn p0 p1 p2 p3 p4 p6 p7 p8 p9
  par : ∃ ar : Arg, ((defArgs s).posonlyargs ++ (defArgs s).args).head? = some ar ∧ ar.arg = "self"
  nself : (defScope s).names.lookup ("self" : Str) = some .local
  npn : (defScope s).names.lookup pn = some .local
  nsup : (defScope s).names.lookup ("super" : Str) = some .globalImplicit
  ncls : (defScope s).names.lookup ("__class__" : Str) = some .free
  kind : (defScope s).kind = .function
  co : (defScope s).isCoroutine = false
  gen : (defScope s).isGenerator = false
  cells : ∀ x ∈ (defScope s).names, x.2 ≠ .cell
  top : (P.main.scope.names.lookup ("super" : Str)).isSome = false
  ne : pn ≠ "self"
  ndb : (pn == ("__debug__" : Str)) = false
  bnd : ∀ (qual : Str) (kV doc pm : Value) (an : Option Addr) (cdv ct : Value) (cc : Addr) (a b : Value), bindArgs (PySem.W.ksFn "__init__" qual (defArgs s) (defBody s) (defScope s) .none kV doc pm an cdv ct cc) ⟨[a, b], []⟩ = pure ([("self", a), (pn, b)] : List (Str × Value))
theorem supF_mk {P : Program} {K : PySem.W.Frag} {C fI cda cc : Addr} {qual pn fn : Str} {st : Stmt} (T : SupS P st pn fn) {oc kV doc pm ct ccl cl : Value} {od an cdd cld : Option Addr} {osl ccs csl : Array (Option Value)} {vs : Array Value} {file : Str} {tf : Tok}
    (hf : K.lookup fI = some ⟨oc, od, .func (PySem.W.ksFn "__init__" qual (defArgs st) (defBody st) (defScope st) .none kV doc pm an (.ref cda) ct cc), osl⟩) (hcd : PySem.W.codeIn K (.ref cda) qual = true) (hco : K.lookup cda = some ⟨ccl, cdd, .fields vs, ccs⟩)
    (hvs : vs[2]? = some (.str file tf)) (hfile : ((P.main.file : Str) == file) = true) (hce : K.lookup cc = some ⟨cl, cld, .cell (some (.ref C)), csl⟩) (hty : PySem.W.typeIn K (.ref fI) = some (.type "function")) :
    SupF P K C fI qual pn fn (defArgs st) (defBody st) (defScope st) :=
  ⟨T.bd, ⟨oc, od, .none, kV, doc, pm, an, cda, cc, ct, osl, ccl, cl, .none, cdd, cld, vs, ccs, csl, file, tf, hf, hcd, hco, hvs, hfile, hce, fun s a b => .of_eq (T.bnd qual kV doc pm an (.ref cda) ct cc a b)⟩,
    T.par, T.nself, T.npn, T.nsup, T.ncls, T.kind, T.co, T.gen, T.cells, T.top, T.ne, T.ndb, hty⟩
/-- the class's facts, by one look -/
def excCB (K : PySem.W.Frag) (D : Addr) : Bool :=
  decide (PySem.W.findIn K (.ref D) "__getattribute__" = some (some (.builtin "BaseException.__getattribute__"))) && (decide (PySem.W.findIn K (.ref D) "__getattr__" = some none) && (decide (PySem.W.subIn K (.ref D) (.type "BaseException") = some true) &&
  (PySem.W.hasDictIn K D && (decide (PySem.W.findIn K (.ref D) "__class__" = some (some (.builtin "object.__class__"))) && (decide (PySem.W.specialIn K (.builtin "object.__class__") "__get__" = some (some (.builtin "getset_descriptor.__get__"))) &&
  (decide (PySem.W.takesIn K (.builtin "object.__class__") = some true) && decide (PySem.W.mroIn K D (.type "object") = some true)))))))
theorem excC_of {K : PySem.W.Frag} {D : Addr} (h : excCB K D = true) : ExcC K D := by
  unfold excCB at h
  simp only [Bool.and_eq_true, decide_eq_true_eq] at h
  obtain ⟨h1, h2, h3, h4, h5, h6, h7, h8⟩ := h
  exact ⟨h1, h2, h3, h4, h5, h6, h7, h8⟩
theorem ExcC.xf {K : PySem.W.Frag} {D : Addr} (C : ExcC K D) : XfC K D := ⟨C.hg, C.hk, C.hs, C.hd⟩
def supCB (K : PySem.W.Frag) (B initId : String) (bmB : List Value) (C fI : Addr) (fn : Str) : Bool :=
  PySem.W.excOver K C bmB && (decide (PySem.W.findIn K (.ref C) "__init__" = some (some (.ref fI))) && (decide (PySem.W.ks_superIn K C C "__init__" = some (some (.builtin initId))) && (decide (PySem.W.subIn K (.ref C) (.type B) = some true) &&
  (decide (PySem.W.nsIn K cStatics "thirdparty.any" = some none) && (decide (PySem.W.findIn K (.ref C) "__setattr__" = some (some (.builtin "object.__setattr__"))) && (decide (PySem.W.findIn K (.ref C) fn = some none) && (PySem.W.hasDictIn K C && PySem.W.keepIn K (.ref C))))))))
theorem supC_of {K : PySem.W.Frag} {B newId initId : String} {bmB : List Value} {C fI : Addr} {fn : Str} {nm q : Str} {N : Addr} {bs bm : List Value} {sn : List Str} {sub : List Value} {ab : Bool} {col : Option Bool} {dd : Option Addr} {k0 k1 k2 k3 k5 : Option Value}
    (h : supCB K B initId bmB C fI fn = true) (l : K.lookup C = some (excClassObj nm q C N bs bm true sn sub ab col dd k0 k1 k2 k3 k5 newId)) (t : PySem.W.excTail bmB bm = true) : SupC K B newId initId bmB C fI fn := by
  unfold supCB at h
  simp only [Bool.and_eq_true, decide_eq_true_eq] at h
  obtain ⟨h1, h2, h3, h4, h5, h6, h7, h8, h9⟩ := h
  exact ⟨⟨nm, q, N, bs, bm, sn, sub, ab, col, dd, k0, k1, k2, k3, k5, l, t⟩, h1, h2, h3, h4, h5, h6, h7, h8, h9⟩
/-- each class of the list is a class of itself alone -/
def kindsB (K : PySem.W.Frag) (ds : List Addr) : Bool := ds.all fun D => ds.all fun C => decide (PySem.W.kitOne K (.ref D) (.ref C) = some (decide (D = C)))
theorem kinds_of {K : PySem.W.Frag} {ds : List Addr} (h : kindsB K ds = true) {D C : Addr} (hD : D ∈ ds) (hC : C ∈ ds) : PySem.W.kitOne K (.ref D) (.ref C) = some (decide (D = C)) := by
  unfold kindsB at h
  rw [List.all_eq_true] at h
  have h1 := h D hD
  rw [List.all_eq_true] at h1
  exact of_decide_eq_true (h1 C hC)
/-- what each class of the list is, of one class -/
def kindB (K : PySem.W.Frag) (ds : List Addr) (c : Value) (b : Bool) : Bool := ds.all fun D => decide (PySem.W.kitOne K (.ref D) c = some b)
theorem kind_of {K : PySem.W.Frag} {ds : List Addr} {c : Value} {b : Bool} (h : kindB K ds c b = true) {D : Addr} (hD : D ∈ ds) : PySem.W.kitOne K (.ref D) c = some b := by
  unfold kindB at h
  rw [List.all_eq_true] at h
  exact of_decide_eq_true (h D hD)
end U
/-! U9: text[::-1] -/
namespace U
open PySem PySem.Spec PyProof.Rows L2
theorem rev_pick (z : Str) : (Builtin.Str.strSliceIndices none none (-1) z.length).filterMap (z.cps[·]?) = z.cps.toList.reverse := by
  show (sliceRange ((z.length : Int) - 1) (-1) (-1)).filterMap (z.cps[·]?) = _
  rw [PySem.W.krv_sliceRange, PySem.W.krv_range, List.filterMap_reverse]
  rw [show z.length = z.cps.size from rfl, PySem.W.krv_all]
def tRevS (te : TE) : TE := fun σ H Q => te σ H fun x H1 => ∃ l : List Nat, x = .str (S l) ∧ l.length ≤ sizeLine ∧ Q (.str (S l.reverse)) H1
theorem pe_revS {X : Cx} {e : Expr} {te : TE} {k : Nat} {p1 p2 p3 pos : Pos} (he : PE X e te) : PE X (.Subscript e (.Slice none none (some (.UnaryOp .USub (.Constant (.int 1) k p1) p2)) p3) pos) (tRevS te) := by
  refine ⟨fun pins s σ H Q I h => ?_⟩
  refine Subscript_ (thn (he.run pins s σ H _ I h) fun v s1 ⟨x, H1, I1, r1, q1⟩ => ?_)
  obtain ⟨l, ex, hz, q⟩ := q1
  subst ex
  obtain ⟨t, rfl⟩ := r1
  have hst : PO X (some (.UnaryOp .USub (.Constant (.int 1) k p1) p2)) (tPart (tUn (rU fun i => .int (-i)) (tC (.int 1)))) := po_some (pe_un un_neg pe_int)
  refine wpAny_Slice (thn (po_none.run pins s1 σ H1 (fun o H2 => o = none ∧ H2 = H1) I1 ⟨rfl, rfl⟩) fun vl s2 ⟨l', H2, I2, pl, el, e2⟩ => ?_)
  subst el e2
  refine thn (po_none.run pins s2 σ H2 (fun o H3 => o = none ∧ H3 = H2) I2 ⟨rfl, rfl⟩) fun vu s3 ⟨u, H3, I3, pu, eu, e3⟩ => ?_
  subst eu e3
  refine thn (hst.run pins s3 σ H3 (fun o H4 => o = some (-1) ∧ H4 = H3) I3 ⟨1, rfl, -1, rfl, rfl, rfl⟩) fun vs s4 ⟨o, H4, I4, ps, eo, e4⟩ => ?_
  subst eo e4
  have I5 : Inv X pins σ H4 { s4 with heap := s4.heap.push { cls := .type "slice", data := .fields #[vl, vu, vs] } } := I4.kept (t' := s4.toks) fun b ob q => Heap.get?_push_of_some _ q
  obtain ⟨a1, rfl, f1⟩ := IsPart.raw pl
  obtain ⟨a2, rfl, f2⟩ := IsPart.raw pu
  obtain ⟨a3, rfl, f3⟩ := IsPart.raw ps
  show wpAny (model X.prog X.w) X.A (subscriptTail e (.Slice none none (some (.UnaryOp .USub (.Constant (.int 1) k p1) p2)) p3) (.str (S l) t) (.ref s4.heap.objs.size)) (EP X pins σ Q) X.xe _
  refine tail_any (ops := [.str (S l) t, .ref s4.heap.objs.size]) (typeIs_str _ _ _) (F.slot_str_getitem.lookup) ?_ (by with_unfolding_all rfl)
  have h3 : a3.map (·.1) = some (-1) := f3
  refine wpAny_getItem_str_slice (l := a1) (u := a2) (st := a3) ⟨_, Heap.get?_push_size _ rfl, rfl, rfl⟩ (by rw [h3]; rfl) ?_
  unfold sliceMade slicePicked
  rw [h3, f1, f2]
  show Made.post (if ((-1 : Int) == 1 && (Builtin.Str.strSliceIndices none none (-1) (S l).length).length == (S l).length) = true then Made.val (.str (S l) t)
    else Made.str ⟨((Builtin.Str.strSliceIndices none none (-1) (S l).length).filterMap ((S l).cps[·]?)).toArray⟩) (EP X pins σ Q) _
  rw [if_neg (by simp), rev_pick, S_toList]
  exact ⟨by show l.reverse.toArray.size ≤ sizeLine; simpa using hz, .str (S l.reverse), H4, I5.tok _, ⟨_, rfl⟩, q⟩
end U
namespace K01
open PySem PySem.Spec PyProof.Rows L2 U
def topS (i : Nat) : Stmt := PySem.Challenge.pw_undername_k01_errors_and_letters.main.body.getD i (.Pass ⟨0, 0, 0, 0⟩)
abbrev s_are_letters : Stmt := topS 19
theorem sc_are_letters : FnScope ["value", "letter", "at"] ["value"] (defScope s_are_letters) := ⟨rfl, rfl, rfl, by decide +kernel, rfl, by decide +kernel, by decide +kernel⟩
abbrev s_check_letters : Stmt := topS 20
theorem sc_check_letters : FnScope ["letters"] ["letters"] (defScope s_check_letters) := ⟨rfl, rfl, rfl, by decide +kernel, rfl, by decide +kernel, by decide +kernel⟩
abbrev s_is_text : Stmt := topS 21
theorem sc_is_text : FnScope ["letters", "value", "letter"] ["letters", "value"] (defScope s_is_text) := ⟨rfl, rfl, rfl, by decide +kernel, rfl, by decide +kernel, by decide +kernel⟩
abbrev s_l_deal : Stmt := topS 23
theorem sc_l_deal : FnScope ["_law_script", "_law_base", "_law_cells", "_law_mixed", "_law_cell"] ["_law_script", "_law_base"] (defScope s_l_deal) := ⟨rfl, rfl, rfl, by decide +kernel, rfl, by decide +kernel, by decide +kernel⟩
abbrev s_l_draw : Stmt := topS 24
theorem sc_l_draw : FnScope ["_law_deal_here", "_law_many", "_law_left"] ["_law_deal_here", "_law_many"] (defScope s_l_draw) := ⟨rfl, rfl, rfl, by decide +kernel, rfl, by decide +kernel, by decide +kernel⟩
abbrev s_l_pick : Stmt := topS 25
theorem sc_l_pick : FnScope ["_law_deal_here", "_law_some"] ["_law_deal_here", "_law_some"] (defScope s_l_pick) := ⟨rfl, rfl, rfl, by decide +kernel, rfl, by decide +kernel, by decide +kernel⟩
abbrev s_l_letters : Stmt := topS 26
theorem sc_l_letters : FnScope ["_law_deal_here", "_law_many", "_law_signs", "_law_found", "_law_turn", "_law_sign"] ["_law_deal_here", "_law_many"] (defScope s_l_letters) := ⟨rfl, rfl, rfl, by decide +kernel, rfl, by decide +kernel, by decide +kernel⟩
abbrev s_l_word : Stmt := topS 27
theorem sc_l_word : FnScope ["_law_deal_here", "_law_letters_here", "_law_most", "_law_k"] ["_law_deal_here", "_law_letters_here", "_law_most"] (defScope s_l_word) := ⟨rfl, rfl, rfl, by decide +kernel, rfl, by decide +kernel, by decide +kernel⟩
abbrev s_l_value : Stmt := topS 28
theorem sc_l_value : FnScope ["_law_deal_here", "_law_some"] ["_law_deal_here"] (defScope s_l_value) := ⟨rfl, rfl, rfl, by decide +kernel, rfl, by decide +kernel, by decide +kernel⟩
abbrev s_l_kinds : Stmt := topS 29
theorem sc_l_kinds : FnScope ["_law_error", "_law_found"] ["_law_error"] (defScope s_l_kinds) := ⟨rfl, rfl, rfl, by decide +kernel, rfl, by decide +kernel, by decide +kernel⟩
abbrev s_l_errors_right : Stmt := topS 30
theorem sc_l_errors_right : FnScope ["_law_value_here", "_law_made", "_law_zone", "_law_row", "_law_line", "_law_text", "_law_number", "_law_key", "_law_name", "_law_at", "_law_told_here", "_law_some", "_law_spot", "_law_error", "_law_plain", "_law_one", "_law_other"] ["_law_value_here"] (defScope s_l_errors_right) := ⟨rfl, rfl, rfl, by decide +kernel, rfl, by decide +kernel, by decide +kernel⟩
abbrev s_l_keeps_itself : Stmt := topS 31
theorem sc_l_keeps_itself : FnScope ["_law_value_here", "_law_kept", "_law_more", "_law_told_here", "_law_again", "_law_one"] ["_law_value_here"] (defScope s_l_keeps_itself) := ⟨rfl, rfl, rfl, by decide +kernel, rfl, by decide +kernel, by decide +kernel⟩
abbrev s_l_told : Stmt := topS 32
theorem sc_l_told : FnScope ["_law_value_here", "_law_found"] ["_law_value_here"] (defScope s_l_told) := ⟨rfl, rfl, rfl, by decide +kernel, rfl, by decide +kernel, by decide +kernel⟩
abbrev s_l_spoilt : Stmt := topS 33
theorem sc_l_spoilt : FnScope ["_law_deal_here", "_law_letters_here", "_law_at", "_law_odd", "_law_some", "_law_both", "_law_swapped"] ["_law_deal_here", "_law_letters_here"] (defScope s_l_spoilt) := ⟨rfl, rfl, rfl, by decide +kernel, rfl, by decide +kernel, by decide +kernel⟩
abbrev s_law : Stmt := topS 34
theorem sc_law : FnScope ["_law_script", "_law_deal_here", "_law_turn", "_law_letters_here", "_law_odd", "_law_signs", "_law_is_good", "_law_word_here", "_law_some", "_law_far", "_law_deep", "_law_k", "_law_value_here", "_law_due", "_law_sign", "_law_at"] ["_law_script"] (defScope s_law) := ⟨rfl, rfl, rfl, by decide +kernel, rfl, by decide +kernel, by decide +kernel⟩
structure Top (K : PySem.W.Frag) (mg : Str → Option Value) : Type where
  f_are_letters : Addr
  d_are_letters : FuncData
  F_are_letters : Fun K "are_letters" "are_letters" s_are_letters f_are_letters d_are_letters
  g_are_letters : mg "are_letters" = some (.ref f_are_letters)
  b_are_letters : Binds K d_are_letters ["value"] []
  f_check_letters : Addr
  d_check_letters : FuncData
  F_check_letters : Fun K "check_letters" "check_letters" s_check_letters f_check_letters d_check_letters
  g_check_letters : mg "check_letters" = some (.ref f_check_letters)
  b_check_letters : Binds K d_check_letters ["letters"] []
  f_is_text : Addr
  d_is_text : FuncData
  F_is_text : Fun K "is_text" "is_text" s_is_text f_is_text d_is_text
  g_is_text : mg "is_text" = some (.ref f_is_text)
  b_is_text : Binds K d_is_text ["letters", "value"] []
  f_l_deal : Addr
  d_l_deal : FuncData
  F_l_deal : Fun K "_law_deal" "_law_deal" s_l_deal f_l_deal d_l_deal
  g_l_deal : mg "_law_deal" = some (.ref f_l_deal)
  b_l_deal : Binds K d_l_deal ["_law_script", "_law_base"] []
  f_l_draw : Addr
  d_l_draw : FuncData
  F_l_draw : Fun K "_law_draw" "_law_draw" s_l_draw f_l_draw d_l_draw
  g_l_draw : mg "_law_draw" = some (.ref f_l_draw)
  b_l_draw : Binds K d_l_draw ["_law_deal_here", "_law_many"] []
  f_l_pick : Addr
  d_l_pick : FuncData
  F_l_pick : Fun K "_law_pick" "_law_pick" s_l_pick f_l_pick d_l_pick
  g_l_pick : mg "_law_pick" = some (.ref f_l_pick)
  b_l_pick : Binds K d_l_pick ["_law_deal_here", "_law_some"] []
  f_l_letters : Addr
  d_l_letters : FuncData
  F_l_letters : Fun K "_law_letters" "_law_letters" s_l_letters f_l_letters d_l_letters
  g_l_letters : mg "_law_letters" = some (.ref f_l_letters)
  b_l_letters : Binds K d_l_letters ["_law_deal_here", "_law_many"] []
  f_l_word : Addr
  d_l_word : FuncData
  F_l_word : Fun K "_law_word" "_law_word" s_l_word f_l_word d_l_word
  g_l_word : mg "_law_word" = some (.ref f_l_word)
  b_l_word : Binds K d_l_word ["_law_deal_here", "_law_letters_here", "_law_most"] []
  f_l_value : Addr
  d_l_value : FuncData
  F_l_value : Fun K "_law_value" "_law_value" s_l_value f_l_value d_l_value
  g_l_value : mg "_law_value" = some (.ref f_l_value)
  b_l_value : Binds K d_l_value ["_law_deal_here"] []
  f_l_kinds : Addr
  d_l_kinds : FuncData
  F_l_kinds : Fun K "_law_kinds" "_law_kinds" s_l_kinds f_l_kinds d_l_kinds
  g_l_kinds : mg "_law_kinds" = some (.ref f_l_kinds)
  b_l_kinds : Binds K d_l_kinds ["_law_error"] []
  f_l_errors_right : Addr
  d_l_errors_right : FuncData
  F_l_errors_right : Fun K "_law_errors_right" "_law_errors_right" s_l_errors_right f_l_errors_right d_l_errors_right
  g_l_errors_right : mg "_law_errors_right" = some (.ref f_l_errors_right)
  b_l_errors_right : Binds K d_l_errors_right ["_law_value_here"] []
  f_l_keeps_itself : Addr
  d_l_keeps_itself : FuncData
  F_l_keeps_itself : Fun K "_law_keeps_itself" "_law_keeps_itself" s_l_keeps_itself f_l_keeps_itself d_l_keeps_itself
  g_l_keeps_itself : mg "_law_keeps_itself" = some (.ref f_l_keeps_itself)
  b_l_keeps_itself : Binds K d_l_keeps_itself ["_law_value_here"] []
  f_l_told : Addr
  d_l_told : FuncData
  F_l_told : Fun K "_law_told" "_law_told" s_l_told f_l_told d_l_told
  g_l_told : mg "_law_told" = some (.ref f_l_told)
  b_l_told : Binds K d_l_told ["_law_value_here"] []
  f_l_spoilt : Addr
  d_l_spoilt : FuncData
  F_l_spoilt : Fun K "_law_spoilt" "_law_spoilt" s_l_spoilt f_l_spoilt d_l_spoilt
  g_l_spoilt : mg "_law_spoilt" = some (.ref f_l_spoilt)
  b_l_spoilt : Binds K d_l_spoilt ["_law_deal_here", "_law_letters_here"] []
  f_law : Addr
  d_law : FuncData
  F_law : Fun K "law" "law" s_law f_law d_law
  g_law : mg "law" = some (.ref f_law)
  b_law : Binds K d_law ["_law_script"] []
  n_KeyError : mg "KeyError" = none
  n_ValueError : mg "ValueError" = none
  n_all : mg "all" = none
  n_enumerate : mg "enumerate" = none
  n_int : mg "int" = none
  n_isinstance : mg "isinstance" = none
  n_len : mg "len" = none
  n_list : mg "list" = none
  n_range : mg "range" = none
  n_repr : mg "repr" = none
  n_sorted : mg "sorted" = none
  n_str : mg "str" = none
abbrev s_InvalidMade : Stmt := inClass (topS 3) 0
theorem ss_InvalidMade : SupS PySem.Challenge.pw_undername_k01_errors_and_letters s_InvalidMade "at" "at" := ⟨⟨_, _, _, _, _, _, _, _, _, _, rfl, ⟨⟨_, fun env => rfl⟩, fun env => rfl⟩⟩, ⟨_, rfl, rfl⟩, rfl, rfl, rfl, rfl, rfl, rfl, rfl, by decide +kernel, by rfl, by decide, by decide, fun _ _ _ _ _ _ _ _ _ _ => rfl⟩
abbrev s_InvalidZone : Stmt := inClass (topS 5) 0
theorem ss_InvalidZone : SupS PySem.Challenge.pw_undername_k01_errors_and_letters s_InvalidZone "at" "at" := ⟨⟨_, _, _, _, _, _, _, _, _, _, rfl, ⟨⟨_, fun env => rfl⟩, fun env => rfl⟩⟩, ⟨_, rfl, rfl⟩, rfl, rfl, rfl, rfl, rfl, rfl, rfl, by decide +kernel, by rfl, by decide, by decide, fun _ _ _ _ _ _ _ _ _ _ => rfl⟩
abbrev s_InvalidRow : Stmt := inClass (topS 6) 0
theorem ss_InvalidRow : SupS PySem.Challenge.pw_undername_k01_errors_and_letters s_InvalidRow "word" "word" := ⟨⟨_, _, _, _, _, _, _, _, _, _, rfl, ⟨⟨_, fun env => rfl⟩, fun env => rfl⟩⟩, ⟨_, rfl, rfl⟩, rfl, rfl, rfl, rfl, rfl, rfl, rfl, by decide +kernel, by rfl, by decide, by decide, fun _ _ _ _ _ _ _ _ _ _ => rfl⟩
abbrev s_InvalidProgram : Stmt := inClass (topS 7) 0
theorem ss_InvalidProgram : SupS PySem.Challenge.pw_undername_k01_errors_and_letters s_InvalidProgram "at" "at" := ⟨⟨_, _, _, _, _, _, _, _, _, _, rfl, ⟨⟨_, fun env => rfl⟩, fun env => rfl⟩⟩, ⟨_, rfl, rfl⟩, rfl, rfl, rfl, rfl, rfl, rfl, rfl, by decide +kernel, by rfl, by decide, by decide, fun _ _ _ _ _ _ _ _ _ _ => rfl⟩
abbrev s_NoText : Stmt := inClass (topS 10) 0
theorem ss_NoText : SupS PySem.Challenge.pw_undername_k01_errors_and_letters s_NoText "value" "value" := ⟨⟨_, _, _, _, _, _, _, _, _, _, rfl, ⟨⟨_, fun env => rfl⟩, fun env => rfl⟩⟩, ⟨_, rfl, rfl⟩, rfl, rfl, rfl, rfl, rfl, rfl, rfl, by decide +kernel, by rfl, by decide, by decide, fun _ _ _ _ _ _ _ _ _ _ => rfl⟩
abbrev s_NoValue : Stmt := inClass (topS 11) 0
theorem ss_NoValue : SupS PySem.Challenge.pw_undername_k01_errors_and_letters s_NoValue "value" "value" := ⟨⟨_, _, _, _, _, _, _, _, _, _, rfl, ⟨⟨_, fun env => rfl⟩, fun env => rfl⟩⟩, ⟨_, rfl, rfl⟩, rfl, rfl, rfl, rfl, rfl, rfl, rfl, by decide +kernel, by rfl, by decide, by decide, fun _ _ _ _ _ _ _ _ _ _ => rfl⟩
abbrev s_NoName : Stmt := inClass (topS 12) 0
theorem ss_NoName : SupS PySem.Challenge.pw_undername_k01_errors_and_letters s_NoName "number" "number" := ⟨⟨_, _, _, _, _, _, _, _, _, _, rfl, ⟨⟨_, fun env => rfl⟩, fun env => rfl⟩⟩, ⟨_, rfl, rfl⟩, rfl, rfl, rfl, rfl, rfl, rfl, rfl, by decide +kernel, by rfl, by decide, by decide, fun _ _ _ _ _ _ _ _ _ _ => rfl⟩
abbrev s_NoRow : Stmt := inClass (topS 13) 0
theorem ss_NoRow : SupS PySem.Challenge.pw_undername_k01_errors_and_letters s_NoRow "at" "at" := ⟨⟨_, _, _, _, _, _, _, _, _, _, rfl, ⟨⟨_, fun env => rfl⟩, fun env => rfl⟩⟩, ⟨_, rfl, rfl⟩, rfl, rfl, rfl, rfl, rfl, rfl, rfl, by decide +kernel, by rfl, by decide, by decide, fun _ _ _ _ _ _ _ _ _ _ => rfl⟩
abbrev s_NoKey : Stmt := inClass (topS 14) 0
theorem ss_NoKey : SupS PySem.Challenge.pw_undername_k01_errors_and_letters s_NoKey "key" "key" := ⟨⟨_, _, _, _, _, _, _, _, _, _, rfl, ⟨⟨_, fun env => rfl⟩, fun env => rfl⟩⟩, ⟨_, rfl, rfl⟩, rfl, rfl, rfl, rfl, rfl, rfl, rfl, by decide +kernel, by rfl, by decide, by decide, fun _ _ _ _ _ _ _ _ _ _ => rfl⟩
structure Exs (P : Program) (K : PySem.W.Frag) (mg : Str → Option Value) : Type where
  C_UnderError : Addr
  g_UnderError : mg "UnderError" = some (.ref C_UnderError)
  C_InvalidLetters : Addr
  g_InvalidLetters : mg "InvalidLetters" = some (.ref C_InvalidLetters)
  C_InvalidMade : Addr
  g_InvalidMade : mg "InvalidMade" = some (.ref C_InvalidMade)
  C_InvalidBound : Addr
  g_InvalidBound : mg "InvalidBound" = some (.ref C_InvalidBound)
  C_InvalidZone : Addr
  g_InvalidZone : mg "InvalidZone" = some (.ref C_InvalidZone)
  C_InvalidRow : Addr
  g_InvalidRow : mg "InvalidRow" = some (.ref C_InvalidRow)
  C_InvalidProgram : Addr
  g_InvalidProgram : mg "InvalidProgram" = some (.ref C_InvalidProgram)
  C_InvalidCommand : Addr
  g_InvalidCommand : mg "InvalidCommand" = some (.ref C_InvalidCommand)
  C_Mismatch : Addr
  g_Mismatch : mg "Mismatch" = some (.ref C_Mismatch)
  C_NoText : Addr
  g_NoText : mg "NoText" = some (.ref C_NoText)
  C_NoValue : Addr
  g_NoValue : mg "NoValue" = some (.ref C_NoValue)
  C_NoName : Addr
  g_NoName : mg "NoName" = some (.ref C_NoName)
  C_NoRow : Addr
  g_NoRow : mg "NoRow" = some (.ref C_NoRow)
  C_NoKey : Addr
  g_NoKey : mg "NoKey" = some (.ref C_NoKey)
  i_InvalidMade : Addr
  tc_InvalidMade : SupC K "ValueError" "ValueError.__new__" "ValueError.__init__" veTl C_InvalidMade i_InvalidMade "at"
  tf_InvalidMade : SupF P K C_InvalidMade i_InvalidMade "InvalidMade.__init__" "at" "at" (defArgs s_InvalidMade) (defBody s_InvalidMade) (defScope s_InvalidMade)
  i_InvalidZone : Addr
  tc_InvalidZone : SupC K "ValueError" "ValueError.__new__" "ValueError.__init__" veTl C_InvalidZone i_InvalidZone "at"
  tf_InvalidZone : SupF P K C_InvalidZone i_InvalidZone "InvalidZone.__init__" "at" "at" (defArgs s_InvalidZone) (defBody s_InvalidZone) (defScope s_InvalidZone)
  i_InvalidRow : Addr
  tc_InvalidRow : SupC K "ValueError" "ValueError.__new__" "ValueError.__init__" veTl C_InvalidRow i_InvalidRow "word"
  tf_InvalidRow : SupF P K C_InvalidRow i_InvalidRow "InvalidRow.__init__" "word" "word" (defArgs s_InvalidRow) (defBody s_InvalidRow) (defScope s_InvalidRow)
  i_InvalidProgram : Addr
  tc_InvalidProgram : SupC K "ValueError" "ValueError.__new__" "ValueError.__init__" veTl C_InvalidProgram i_InvalidProgram "at"
  tf_InvalidProgram : SupF P K C_InvalidProgram i_InvalidProgram "InvalidProgram.__init__" "at" "at" (defArgs s_InvalidProgram) (defBody s_InvalidProgram) (defScope s_InvalidProgram)
  i_NoText : Addr
  tc_NoText : SupC K "ValueError" "ValueError.__new__" "ValueError.__init__" veTl C_NoText i_NoText "value"
  tf_NoText : SupF P K C_NoText i_NoText "NoText.__init__" "value" "value" (defArgs s_NoText) (defBody s_NoText) (defScope s_NoText)
  i_NoValue : Addr
  tc_NoValue : SupC K "ValueError" "ValueError.__new__" "ValueError.__init__" veTl C_NoValue i_NoValue "value"
  tf_NoValue : SupF P K C_NoValue i_NoValue "NoValue.__init__" "value" "value" (defArgs s_NoValue) (defBody s_NoValue) (defScope s_NoValue)
  i_NoName : Addr
  tc_NoName : SupC K "ValueError" "ValueError.__new__" "ValueError.__init__" veTl C_NoName i_NoName "number"
  tf_NoName : SupF P K C_NoName i_NoName "NoName.__init__" "number" "number" (defArgs s_NoName) (defBody s_NoName) (defScope s_NoName)
  i_NoRow : Addr
  tc_NoRow : SupC K "ValueError" "ValueError.__new__" "ValueError.__init__" veTl C_NoRow i_NoRow "at"
  tf_NoRow : SupF P K C_NoRow i_NoRow "NoRow.__init__" "at" "at" (defArgs s_NoRow) (defBody s_NoRow) (defScope s_NoRow)
  i_NoKey : Addr
  tc_NoKey : SupC K "KeyError" "LookupError.__new__" "KeyError.__init__" keTail C_NoKey i_NoKey "key"
  tf_NoKey : SupF P K C_NoKey i_NoKey "NoKey.__init__" "key" "key" (defArgs s_NoKey) (defBody s_NoKey) (defScope s_NoKey)
  xi_InvalidLetters : PySem.W.excIn K C_InvalidLetters veTl "ValueError.__new__" = true
  kc_InvalidLetters : PySem.W.keepIn K (.ref C_InvalidLetters) = true
  xi_InvalidBound : PySem.W.excIn K C_InvalidBound veTl "ValueError.__new__" = true
  kc_InvalidBound : PySem.W.keepIn K (.ref C_InvalidBound) = true
  xi_InvalidCommand : PySem.W.excIn K C_InvalidCommand veTl "ValueError.__new__" = true
  kc_InvalidCommand : PySem.W.keepIn K (.ref C_InvalidCommand) = true
  xi_Mismatch : PySem.W.excIn K C_Mismatch veTl "ValueError.__new__" = true
  kc_Mismatch : PySem.W.keepIn K (.ref C_Mismatch) = true
  ec_InvalidLetters : ExcC K C_InvalidLetters
  ec_InvalidMade : ExcC K C_InvalidMade
  ec_InvalidBound : ExcC K C_InvalidBound
  ec_InvalidZone : ExcC K C_InvalidZone
  ec_InvalidRow : ExcC K C_InvalidRow
  ec_InvalidProgram : ExcC K C_InvalidProgram
  ec_InvalidCommand : ExcC K C_InvalidCommand
  ec_Mismatch : ExcC K C_Mismatch
  ec_NoText : ExcC K C_NoText
  ec_NoValue : ExcC K C_NoValue
  ec_NoName : ExcC K C_NoName
  ec_NoRow : ExcC K C_NoRow
  ec_NoKey : ExcC K C_NoKey
  tS : Tok
  g_SIGNS : mg "SIGNS" = some (.str "-./0123456789_abcdefghijklmnopqrstuvwxyz" tS)
  tF : Tok
  g_FEWEST : mg "FEWEST" = some (.int 2 tF)
  tM : Tok
  g_MOST : mg "MOST" = some (.int 5 tM)
  sup : mg "super" = none
  bB : PySem.W.subIn K (.ref C_InvalidLetters) (.type "BaseException") = some true
  tB : PySem.W.typeIn K (.ref C_InvalidLetters) = some (.type "type")
  eB : PySem.W.exmOne K (.ref C_InvalidLetters) (.ref C_InvalidLetters) = some true
  mat : kindsB K [C_InvalidLetters, C_InvalidMade, C_InvalidBound, C_InvalidZone, C_InvalidRow, C_InvalidProgram, C_InvalidCommand, C_Mismatch, C_NoText, C_NoValue, C_NoName, C_NoRow, C_NoKey] = true
  un1 : kindB K [C_InvalidLetters, C_InvalidMade, C_InvalidBound, C_InvalidZone, C_InvalidRow, C_InvalidProgram, C_InvalidCommand, C_Mismatch, C_NoText, C_NoValue, C_NoName, C_NoRow] (.ref C_UnderError) true = true
  un2 : PySem.W.kitOne K (.ref C_NoKey) (.ref C_UnderError) = some false
  ve1 : kindB K [C_InvalidLetters, C_InvalidMade, C_InvalidBound, C_InvalidZone, C_InvalidRow, C_InvalidProgram, C_InvalidCommand, C_Mismatch, C_NoText, C_NoValue, C_NoName, C_NoRow] (.type "ValueError") true = true
  ve2 : PySem.W.kitOne K (.ref C_NoKey) (.type "ValueError") = some false
  ke1 : kindB K [C_InvalidLetters, C_InvalidMade, C_InvalidBound, C_InvalidZone, C_InvalidRow, C_InvalidProgram, C_InvalidCommand, C_Mismatch, C_NoText, C_NoValue, C_NoName, C_NoRow] (.type "KeyError") false = true
  ke2 : PySem.W.kitOne K (.ref C_NoKey) (.type "KeyError") = some true
  nd : [C_InvalidLetters, C_InvalidMade, C_InvalidBound, C_InvalidZone, C_InvalidRow, C_InvalidProgram, C_InvalidCommand, C_Mismatch, C_NoText, C_NoValue, C_NoName, C_NoRow, C_NoKey].Nodup
section
variable {P : Program} {w : World} {K : PySem.W.Frag} {mg : Str → Option Value} {base : Heap}
theorem ok_l_draw (T : Top K mg) : FnOk P w K mg base CX0 1 T.f_l_draw T.d_l_draw ["_law_deal_here", "_law_many"] spDraw := by
  refine T.F_l_draw.ok sc_l_draw (fun vs H Q E h => ?_) (fun cdv A outer s H vs Q E hr h => ?_)
  · obtain ⟨a, c, many, rfl, _⟩ := h
    rfl
  · obtain ⟨a, c, many, rfl, ⟨ns, m, d0⟩, hm1, hm2, q⟩ := h
    refine ⟨_, (pss_cons (ps_while PassesOwn.never (PW.pt (pw_and (pt_cmpR (op_neD hr.units) (pe_ix ix_list (pv 0) pe_int (fun _ _ => rfl)) (pe_lst pa_nil) (nomark _)) (pw_and1 (pt_cmpR op_eq (pe_ix ix_list (pe_ix ix_list (pv 0) pe_int (fun _ _ => rfl)) (pe_un un_neg pe_int) (fun _ _ => rfl)) pe_int (nomark _))))) (pss_one (ps_expr (pe_bm0 PySem.F.plainAttrs_list PySem.F.slot_list_pop PySem.F.type_list_pop mt_pop (pe_ix ix_list (pv 0) pe_int (fun _ _ => rfl))))))
        (pss_cons (ps_if (pt_cmpR (op_neD hr.units) (pe_ix ix_list (pv 0) pe_int (fun _ _ => rfl)) (pe_lst pa_nil) (nomark _)) (pss_cons (ps_set (i := 2) sc_l_draw.nd rfl (Or.inl rfl) (pe_bm0 PySem.F.plainAttrs_list PySem.F.slot_list_pop PySem.F.type_list_pop mt_pop (pe_ix ix_list (pv 0) pe_int (fun _ _ => rfl))))
        (pss_cons (ps_expr (pe_bm PySem.F.plainAttrs_list PySem.F.slot_list_append PySem.F.type_list_append mt_append (pe_ix ix_list (pv 0) pe_int (fun _ _ => rfl)) (pa_cons (pe_op op_fdivW (pv 2) (pv 1)) pa_nil)))
        (pss_one (ps_ret (pe_op op_mod (pe_callTy call_int1 (by rfl) T.n_int (by decide +kernel) (pa_cons (pv 2) pa_nil)) (pv 1)))))) pss_nil)
        (pss_cons (ps_asg (pe_op op_mod (pe_callTy call_int1 (by rfl) T.n_int (by decide +kernel) (pa_cons (pe_op op_mul (pe_ix ix_list (pv 0) pe_int (fun _ _ => rfl)) pe_int) pa_nil)) pe_int) (pg_sub (pv 0) pe_int set_list))
        (pss_one (ps_ret (pe_op op_mod (pe_callTy call_int1 (by rfl) T.n_int (by decide +kernel) (pa_cons (pe_op op_fdivW (pe_ix ix_list (pv 0) pe_int (fun _ _ => rfl)) pe_int) pa_nil)) (pv 1))))))), ?_⟩
    refine ⟨fun k σ H' => ∃ ns m, σ = [some (.ref a), some (.int many), none] ∧ k = ns.length ∧ DealIs H' a c ns m ∧ Kp a c H H', ⟨_, ns, m, rfl, rfl, d0, Kp.refl _ _ _⟩, ?_⟩
    rintro k σ H1 ⟨ns, m, rfl, rfl, d, kp⟩
    refine dealNe d rfl fun p hp d1 => ?_
    have kp1 : Kp a c H (upd H1 p (.lst [])) := kp.new' hp
    by_cases hn : ns = []
    · subst hn
      refine iteF ?_
      refine iteF ?_
      refine dealNe d1 rfl fun p2 hp2 d2 => ?_
      have kp2 := kp1.new' (o := .lst []) hp2
      refine iteF ?_
      refine deal1 d2 rfl ?_
      refine ⟨m, 48271, rfl, rfl, .inr ⟨by decide, by decide⟩, .inl ⟨_, rfl, ?_⟩⟩
      refine ⟨_, _, rfl, rfl, (by show (0 : Int) < 2147483647; decide), ?_⟩
      have hb1 : 0 ≤ m * 48271 % 2147483647 := Int.emod_nonneg _ (by decide)
      have hb2 : m * 48271 % 2147483647 < 2147483647 := Int.emod_lt_of_pos _ (by decide)
      refine ⟨_, rfl, a, _, 1, 1, rfl, rfl, d2.hd, rfl, ?_⟩
      have d3 := d2.setM hb1 hb2
      refine deal1 d3 rfl ?_
      refine ⟨_, 8, rfl, rfl, lt200 (by decide) (by decide), .inl ⟨_, rfl, ?_⟩⟩
      refine ⟨_, rfl, _, _, rfl, rfl, (by omega), ?_⟩
      exact q _ _ (Int.emod_nonneg _ (by omega)) (Int.emod_lt_of_pos _ (by omega)) ⟨_, _, d3⟩ kp2.updA
    · rw [decide_eq_false hn]
      refine iteT ?_
      obtain ⟨l, z, rfl⟩ := rev_last hn
      refine deal0 d1 rfl ?_
      have el : atI ((l ++ [z]).map V.int) (-1) = some (.int z) := by
        rw [List.map_append]
        exact atI_last _ _
      have ep : ((l ++ [z]).map V.int)[((l ++ [z]).map V.int).length - 1]? = some (.int z) := by simp
      have ed : ((l ++ [z]).map V.int).dropLast = l.map V.int := by simp
      have hl : l.length + 1 ≤ 63 := by simpa using d.few
      have hz : 0 ≤ z := d.pos z (by simp)
      have hlp : ∀ n ∈ l, 0 ≤ n := fun n hn => d.pos n (by simp [hn])
      refine ⟨1, rfl, c, _, -1, .int z, rfl, rfl, SqL.of d1.cs, el, rfl, _, rfl, ite2 (fun e => ?_) (fun e => ?_)⟩
      · refine ⟨fun σ' H' => ∃ m, σ' = [some (.ref a), some (.int many), none] ∧ DealIs H' a c l m ∧ Kp a c H H', fun σ' H' ⟨m, e1, e2, e3⟩ => ⟨l.length, by simp, l, m, e1, rfl, e2, e3⟩, ?_⟩
        refine deal0 d1 rfl ?_
        refine ⟨.inl ⟨rfl, _, SqL.of d1.cs⟩, c, _, _, rfl, rfl, d1.cs, ep, ?_⟩
        rw [ed]
        exact ⟨m, rfl, d1.setC hlp (by omega), kp1.updC⟩
      · refine dealNe d1 rfl fun p2 hp2 d2 => ?_
        have kp2 := kp1.new' (o := .lst []) hp2
        rw [decide_eq_false hn]
        refine iteT ?_
        refine deal0 d2 rfl ?_
        refine ⟨.inl ⟨rfl, _, SqL.of d2.cs⟩, c, _, _, rfl, rfl, d2.cs, ep, ?_⟩
        rw [ed]
        have d3 := d2.setC hlp (by omega)
        refine deal0 d3 rfl ?_
        refine ⟨.inl ⟨rfl, _, SqL.of d3.cs⟩, _, rfl, _, rfl, _, _, rfl, rfl, lt200 hm1 hm2, c, _, _, rfl, rfl, d3.cs, ?_, ?_⟩
        · rw [List.length_map]
          exact small1000 (by omega)
        · have d4 := d3.setC (ns' := l ++ [z / many]) (fun n hn => by
            rcases List.mem_append.mp hn with h | h
            · exact hlp n h
            · rw [List.mem_singleton.mp h]
              exact Int.ediv_nonneg hz (by omega)) (by simpa using hl)
          rw [List.map_append] at d4
          refine ⟨_, rfl, .inl ⟨_, rfl, ?_⟩⟩
          refine ⟨_, rfl, _, _, rfl, rfl, (by omega), ?_⟩
          exact q _ _ (Int.emod_nonneg _ (by omega)) (Int.emod_lt_of_pos _ (by omega)) ⟨_, _, d4⟩ kp2.updC.updC
theorem ok_l_deal (T : Top K mg) : FnOk P w K mg base CX0 1 T.f_l_deal T.d_l_deal ["_law_script", "_law_base"] (spDeal K) := by
  refine T.F_l_deal.ok sc_l_deal (fun vs H Q E h => ?_) (fun cdv A outer s H vs Q E hr h => ?_)
  · obtain ⟨a, ns, b, rfl, _⟩ := h
    rfl
  · obtain ⟨a, ns, b, rfl, hS, hl, hb0, hb1, q⟩ := h
    refine ⟨_, (pss_cons (ps_setLc (i := 2) (own := [("_law_cell", 4)]) (g := gName 4) (tt := tYes) (by rfl) sc_l_deal.nd rfl rfl (sw_true rfl rfl rfl (by decide +kernel)) (pi_list (pe_slice sl_list (pv 0) (po_some (pv 1)) (po_some pe_int))) (blkOk_by (own := [("_law_cell", 4)]) (N := ["_law_script", "_law_base", "_law_cells", "_law_mixed", "_law_cell"]) (sc := defScope s_l_deal) (by decide +kernel)) (fun _ _ _ _ _ => pg_name (i := 4) sc_l_deal.nd rfl (Or.inl rfl)) (fun _ _ _ _ _ => pts_nil) (fun _ _ _ _ _ => (pe_ifExp (pt_cmpR op_gt (pv 4) pe_int (nomark _)) (pv 4) (pe_op op_sub pe_int (pv 4)))))
        (pss_cons (ps_set (i := 3) sc_l_deal.nd rfl (Or.inl rfl) (pe_op op_add pe_int (pe_op op_mul pe_int (pv 1))))
        (pss_cons (ps_for PassesOwn.never rfl (pi_list (pv 2)) (pg_name (i := 4) sc_l_deal.nd rfl (Or.inl rfl)) (pss_one (ps_set (i := 3) sc_l_deal.nd rfl (Or.inl rfl) (pe_op op_mod (pe_callTy call_int1 (by rfl) T.n_int (by decide +kernel) (pa_cons (pe_op op_add (pe_op op_mul (pv 3) pe_int) (pe_op op_mod (pe_callTy call_int1 (by rfl) T.n_int (by decide +kernel) (pa_cons (pv 4) pa_nil)) pe_int)) pa_nil)) pe_int))))
        (pss_one (ps_ret (pe_lst (pa_cons (pe_revL (pe_lc (own := [("_law_cell", 4)]) (g := gName 4)  (by rfl) sc_l_deal.nd (pi_list (pv 2)) (blkOk_by (own := [("_law_cell", 4)]) (N := ["_law_script", "_law_base", "_law_cells", "_law_mixed", "_law_cell"]) (sc := defScope s_l_deal) (by decide +kernel)) (fun _ _ _ _ _ => pg_name (i := 4) sc_l_deal.nd rfl (Or.inl rfl)) (fun _ _ _ _ _ => pts_one (pt_cmpR op_ge (pv 4) (pe_op op_pow pe_int pe_int) (nomark _))) (fun _ _ _ _ _ => (pv 4)))) (pa_cons (pv 3) pa_nil)))))))), ?_⟩
    -- the cells
    refine ⟨_, rfl, _, rfl, b, rfl, 63, rfl, a, _, rfl, hS, fun p hp => ?_⟩
    obtain ⟨ms, ec, _, hml⟩ := cut_map V.int ns (some b) (some 63)
    rw [ec]
    have s1 : Same H (upd H p (.lst (ms.map V.int))) := Same.new (Same.refl _) hp
    refine ⟨p, rfl, ⟨_, SqL.of upd_same⟩, fun D hD => ?_⟩
    refine lcM (src_list K p (ms.map V.int)) (fun v => match v with | .int n => .int (if n > 0 then n else 0 - n) | v => v) (SqL.of upd_same) hD (fun _ => rfl) (by rw [List.length_map]; omega) ?_ ?_
    · intro x hx H' _ Q k
      obtain ⟨n, _, rfl⟩ := List.mem_map.mp hx
      refine ⟨_, rfl, _, _, rfl, rfl, _, rfl, ?_⟩
      by_cases hn : 0 < n
      · rw [decide_eq_true hn]
        refine iteT ⟨_, rfl, ?_⟩
        have := k H' (Same.refl _)
        simp only [gt_iff_lt, hn, if_true] at this
        exact this
      · rw [decide_eq_false hn]
        refine iteF ⟨_, rfl, _, _, rfl, rfl, ?_⟩
        have := k H' (Same.refl _)
        simp only [gt_iff_lt, hn, if_false] at this
        exact this
    · intro H2 s2 e2
      rw [List.map_map] at e2
      have s02 : Same H H2 := s1.trans s2
      generalize hcs : ms.map (fun n => if n > 0 then n else 0 - n) = cs at *
      have e2 : H2 D = some (.lst (cs.map V.int)) := by
        rw [e2, ← hcs, List.map_map]
        rfl
      have hcp : ∀ n ∈ cs, 0 ≤ n := by
        intro n hn
        rw [← hcs] at hn
        obtain ⟨z, _, rfl⟩ := List.mem_map.mp hn
        split <;> omega
      have hcl : cs.length ≤ 63 := by
        rw [← hcs, List.length_map]
        omega
      -- mixed
      refine ⟨_, rfl, 17, b, rfl, rfl, .inl ⟨by decide, by decide⟩, _, _, rfl, rfl, ?_⟩
      refine ⟨_, rfl, D, rfl, ⟨_, SqL.of e2⟩, ?_⟩
      refine for_it (src_list K D (cs.map V.int)).w (fun i σ H' => ∃ m v, σ = [some (.ref a), some (.int b), some (.ref D), some (.int m), v] ∧ 0 ≤ m ∧ m < 2147483647 ∧ H' = H2) ⟨_, none, rfl, by omega, by omega, rfl⟩ (fun i σ H' _ ⟨_, _, _, _, _, e⟩ => by rw [e]; exact SqL.of e2) ?_ ?_
      · rintro i x σ H3 H4 hi ⟨m, v, rfl, m0, m1, rfl⟩ ⟨rfl, hx⟩
        obtain ⟨z, hz, rfl⟩ : ∃ z, z ∈ cs ∧ V.int z = x := by
          obtain ⟨z, hz, rfl⟩ := List.mem_map.mp (List.mem_of_getElem? hx)
          exact ⟨z, hz, rfl⟩
        refine ⟨_, rfl, m, 16807, rfl, rfl, .inr ⟨by decide, by decide⟩, _, rfl, .inl ⟨_, rfl, ?_⟩⟩
        refine ⟨_, _, rfl, rfl, (by show (0 : Int) < 2147483629; decide), _, _, rfl, rfl, .inl ⟨_, rfl, ?_⟩⟩
        refine ⟨_, _, rfl, rfl, (by show (0 : Int) < 2147483647; decide), ?_⟩
        exact ⟨_, _, rfl, Int.emod_nonneg _ (by decide), Int.emod_lt_of_pos _ (by decide), rfl⟩
      · rintro σ H3 ⟨m, v, rfl, m0, m1, rfl⟩
        -- the great cells, turned about
        refine ⟨_, rfl, D, rfl, ⟨_, SqL.of e2⟩, fun D2 hD2 => ?_⟩
        refine lcS (src_list K D (cs.map V.int)) (fun v => match v with | .int n => decide ((10 : Int) ^ 18 ≤ n) | _ => true) id (SqL.of e2) hD2 (fun _ => rfl) (by rw [List.length_map]; omega) ?_ ?_ ?_
        · intro x hx H' _ Q k
          obtain ⟨n, _, rfl⟩ := List.mem_map.mp hx
          refine ⟨_, rfl, _, _, rfl, rfl, ⟨by decide, by decide, by decide⟩, _, _, rfl, rfl, _, rfl, ?_⟩
          exact k H' (Same.refl _)
        · intro x hx _ H' _ Q k
          exact ⟨_, rfl, k H' (Same.refl _)⟩
        · intro H4 s4 e4
          rw [List.map_id, List.filter_map] at e4
          refine ⟨D2, _, rfl, SqL.of e4, fun c hc => ?_⟩
          refine ⟨_, rfl, (by show 2 ≤ sizeLine; decide), fun d hd => ?_⟩
          generalize hgs : ((cs.filter ((fun v => match v with | .int n => decide ((10 : Int) ^ 18 ≤ n) | _ => true) ∘ V.int)).map V.int).reverse = gs at *
          have hgs' : gs = ((cs.filter ((fun v => match v with | .int n => decide ((10 : Int) ^ 18 ≤ n) | _ => true) ∘ V.int)).reverse).map V.int := by
            rw [← hgs, List.map_reverse]
          have f1 : H c = none := s02.free (s4.free hc)
          have f2 : H d = none := (Same.new (o := .lst gs) (s02.trans s4) hc).free hd
          have ncd : c ≠ d := ne_of_none (H := upd H4 c (.lst gs)) upd_same hd
          refine q d c _ (Same.new (Same.new (s02.trans s4) hc) hd) f2 f1 ⟨(cs.filter ((fun v => match v with | .int n => decide ((10 : Int) ^ 18 ≤ n) | _ => true) ∘ V.int)).reverse, m, ⟨upd_same, ?_, ?_, ?_, m0, m1⟩⟩
          · rw [upd_ne ncd, upd_same, hgs']
          · intro n hn
            exact hcp n (List.mem_filter.mp (List.mem_reverse.mp hn)).1
          · rw [List.length_reverse]
            exact Nat.le_trans (List.length_filter_le _ _) hcl
theorem ok_l_pickS (T : Top K mg) : FnOk P w K mg base CX0 2 T.f_l_pick T.d_l_pick ["_law_deal_here", "_law_some"] spPickS := by
  have G_l_draw : FnOk P w K mg base CX0 1 T.f_l_draw T.d_l_draw ["_law_deal_here", "_law_many"] spDraw := ok_l_draw T
  refine T.F_l_pick.ok sc_l_pick (fun vs H Q E h => ?_) (fun cdv A outer s H vs Q E hr h => ?_)
  · obtain ⟨a, c, l, rfl, _⟩ := h
    rfl
  · obtain ⟨a, c, l, rfl, d, hn, hl, q⟩ := h
    have hpos : 0 < l.length := List.length_pos_iff.mpr hn
    refine ⟨_, (pss_one (ps_ret (pe_ix ix_str (pv 1) (pe_call G_l_draw (hr.mono (by decide)) (by rfl) T.g_l_draw T.F_l_draw.kp T.b_l_draw .nil pass0 (pa_cons (pv 0) (pa_cons (pe_callB call_len_str (by rfl) T.n_len (by decide +kernel) (pa_cons (pv 1) pa_nil)) pa_nil))) (fun _ _ => rfl)))), ?_⟩
    refine ⟨_, rfl, _, rfl, _, rfl, _, rfl, (by rw [S_len, sizeLine_eq]; omega), a, c, _, rfl, d, ?_, ?_, fun r H' r0 r1 d' kp => ?_⟩
    · rw [S_len]; omega
    · rw [S_len]; omega
    · rw [S_len] at r1
      have hi : r.toNat < l.length := by omega
      refine ⟨_, _, l[r.toNat], rfl, rfl, (by rw [S_len, sizeLine_eq]; omega), ?_, q _ _ (List.getElem_mem hi) d' kp⟩
      rw [S_toList]
      exact atI_int r0 (List.getElem?_eq_getElem hi)
theorem ok_l_pickL (T : Top K mg) : FnOk P w K mg base CX0 2 T.f_l_pick T.d_l_pick ["_law_deal_here", "_law_some"] (spPickL K) := by
  have G_l_draw : FnOk P w K mg base CX0 1 T.f_l_draw T.d_l_draw ["_law_deal_here", "_law_many"] spDraw := ok_l_draw T
  refine T.F_l_pick.ok sc_l_pick (fun vs H Q E h => ?_) (fun cdv A outer s H vs Q E hr h => ?_)
  · obtain ⟨a, c, p, xs, rfl, _⟩ := h
    rfl
  · obtain ⟨a, c, p, xs, rfl, d, hp, n1, n2, hn, hl, q⟩ := h
    have hpos : 0 < xs.length := List.length_pos_iff.mpr hn
    refine ⟨_, (pss_one (ps_ret (pe_ix ix_list (pv 1) (pe_call G_l_draw (hr.mono (by decide)) (by rfl) T.g_l_draw T.F_l_draw.kp T.b_l_draw .nil pass0 (pa_cons (pv 0) (pa_cons (pe_callB call_len_seq (by rfl) T.n_len (by decide +kernel) (pa_cons (pv 1) pa_nil)) pa_nil))) (fun _ _ => rfl)))), ?_⟩
    refine ⟨_, rfl, _, rfl, _, rfl, p, _, rfl, .inl hp, a, c, _, rfl, d, (by omega), (by omega), fun r H' r0 r1 d' kp => ?_⟩
    have hi : r.toNat < xs.length := by omega
    exact ⟨p, xs, _, xs[r.toNat], rfl, rfl, kp.sqL n1 n2 hp, atI_int r0 (List.getElem?_eq_getElem hi), q _ _ (List.getElem_mem hi) d' kp⟩
theorem ok_l_letters (T : Top K mg) : FnOk P w K mg base CX0 2 T.f_l_letters T.d_l_letters ["_law_deal_here", "_law_many"] spLetters := by
  have G_l_draw : FnOk P w K mg base CX0 1 T.f_l_draw T.d_l_draw ["_law_deal_here", "_law_many"] spDraw := ok_l_draw T
  refine T.F_l_letters.ok sc_l_letters (fun vs H Q E h => ?_) (fun cdv A outer s H vs Q E hr h => ?_)
  · obtain ⟨a, c, z, rfl, _⟩ := h
    rfl
  · obtain ⟨a, c, z, rfl, d, hz0, hn, q⟩ := h
    obtain ⟨n, rfl⟩ := nat_of hz0
    rw [Int.toNat_natCast] at q
    refine ⟨_, (pss_cons (ps_par (i := 2) (j := 3) (by rfl) sc_l_letters.nd rfl rfl (by decide) rfl rfl (pa_cons (pe_callTy (U.call_listS rfl) (by rfl) T.n_list (by decide +kernel) (pa_cons pe_str pa_nil)) (pa_cons (pe_lst pa_nil) pa_nil)) (by rfl))
        (pss_cons (ps_for PassesOwn.never rfl (pi_range1 (by rfl) T.n_range (pa_cons (pv 1) pa_nil)) (pg_name (i := 4) sc_l_letters.nd rfl (Or.inl rfl)) (pss_one (ps_expr (pe_bm PySem.F.plainAttrs_list PySem.F.slot_list_append PySem.F.type_list_append mt_append (pv 3) (pa_cons (pe_bm PySem.F.plainAttrs_list PySem.F.slot_list_pop PySem.F.type_list_pop mt_popAt (pv 2) (pa_cons (pe_call G_l_draw (hr.mono (by decide)) (by rfl) T.g_l_draw T.F_l_draw.kp T.b_l_draw .nil pass0 (pa_cons (pv 0) (pa_cons (pe_callB call_len_seq (by rfl) T.n_len (by decide +kernel) (pa_cons (pv 2) pa_nil)) pa_nil))) pa_nil)) pa_nil)))))
        (pss_one (ps_ret (pe_join pe_str (pe_callB cr_sortedS (by rfl) T.n_sorted (by decide +kernel) (pa_cons (pe_lc (own := [("_law_sign", 5)]) (g := gName 5) (tt := tYes) (by rfl) sc_l_letters.nd (pi_list (pv 3)) (blkOk_by (own := [("_law_sign", 5)]) (N := ["_law_deal_here", "_law_many", "_law_signs", "_law_found", "_law_turn", "_law_sign"]) (sc := defScope s_l_letters) (by decide +kernel)) (fun _ _ _ _ _ => pg_name (i := 5) sc_l_letters.nd rfl (Or.inl rfl)) (fun _ _ _ _ _ => pts_nil) (fun _ _ _ _ _ => (pe_callTy SkE.call_str_str (by rfl) T.n_str (by decide +kernel) (pa_cons (pv 5) pa_nil)))) pa_nil))))))), ?_⟩
    refine ⟨signs, (by rw [signs_S]), (by rw [signs_len, sizeLine_eq]; omega), fun p hp => ⟨Nat.zero_le _, fun f hf => ⟨_, _, rfl, ?_⟩⟩⟩
    have d1 : Deal (upd (upd H p (.lst (chars signs))) f (.lst [])) a c := (d.new hp).new hf
    have npf : p ≠ f := ne_of_none (H := upd H p (.lst (chars signs))) upd_same hf
    have hf0 : H f = none := by
      rw [upd_ne npf.symm] at hf
      exact hf
    refine ⟨_, rfl, (n : Int), rfl, by omega, by omega, ?_⟩
    refine for_it (src_range 0 (n : Int).toNat).w (fun i σ H' => ∃ (v : Option V) (rest got : List Nat), σ = [some (.ref a), some (.int (n : Int)), some (.ref p), some (.ref f), v, none] ∧ Deal H' a c ∧ Kp a c H H' ∧ H' p = some (.lst (chars rest)) ∧ H' f = some (.lst (chars got)) ∧ (got ++ rest).Perm signs ∧ got.length = i)
      ⟨none, signs, [], rfl, d1, ((Kp.refl _ _ _).new hp).new hf0, by rw [upd_ne npf, upd_same], by rw [upd_same]; rfl, List.Perm.refl _, rfl⟩ (fun _ _ _ _ _ => trivial) ?_ ?_
    · rintro i x σ H1 H2 hi ⟨v, rest, got, rfl, d2, kp, e1, e2, pm, gl⟩ ⟨rfl, hx⟩
      rw [rngV_len] at hi
      have hrl : got.length + rest.length = 40 := by
        have := pm.length_eq
        rw [List.length_append, signs_len] at this
        exact this
      have hcl : (chars rest).length = rest.length := by simp [chars]
      have np := d.ne hp
      have nf := d.ne hf0
      refine ⟨_, rfl, .inl ⟨rfl, _, SqL.of e2⟩, _, rfl, .inl ⟨rfl, _, SqL.of e1⟩, _, rfl, _, rfl, p, _, rfl, .inl (SqL.of e1), a, c, _, rfl, d2, (by omega), (by omega), fun r H3 r0 r1 d3 kp3 => ?_⟩
      rw [hcl] at r1
      have e1' := kp3 _ _ np.1 np.2 e1
      have e2' := kp3 _ _ nf.1 nf.2 e2
      have hr : r.toNat < rest.length := by omega
      refine ⟨p, _, r, r.toNat, .str (S [rest[r.toNat]]), rfl, rfl, e1', (by omega), (by omega), seqIx r0 (by omega), by simp [chars, hr], ?_⟩
      have e2'' : (upd H3 p (.lst ((chars rest).eraseIdx r.toNat))) f = some (.lst (chars got)) := by
        rw [upd_ne npf.symm]
        exact e2'
      refine ⟨f, _, _, rfl, rfl, e2'', ?_, ?_⟩
      · have : (chars got).length = got.length := by simp [chars]
        rw [this]
        exact small1000 (by omega)
      · refine ⟨_, rest.eraseIdx r.toNat, got ++ [rest[r.toNat]], rfl, (d3.upd np.1 np.2).upd nf.1 nf.2, ((kp.trans kp3).new hp).new hf0, ?_, ?_, ?_, by simp [gl]⟩
        · rw [upd_ne npf, upd_same]
          rw [show (chars rest).eraseIdx r.toNat = chars (rest.eraseIdx r.toNat) from map_erase _ _ _]
        · rw [upd_same]
          simp [chars]
        · refine List.Perm.trans ?_ pm
          rw [List.append_assoc]
          refine List.Perm.append_left _ ?_
          exact erase_perm rest r.toNat hr
    · rintro σ H1 ⟨v, rest, got, rfl, d2, kp, e1, e2, pm, gl⟩
      rw [rngV_len] at gl
      have gl : got.length = n := by simpa using gl
      have hcl : (chars got).length = got.length := by simp [chars]
      refine ⟨⟨_, rfl⟩, _, rfl, f, rfl, ⟨_, SqL.of e2⟩, fun D hD => ?_⟩
      refine lcM (src_list K f (chars got)) id (SqL.of e2) hD (fun _ => rfl) (by omega) ?_ ?_
      · intro x hx H' _ Q k
        obtain ⟨z, _, rfl⟩ := List.mem_map.mp hx
        exact ⟨_, rfl, _, rfl, k H' (Same.refl _)⟩
      · intro H2 s2 eD
        rw [List.map_id, chars_eq] at eD
        refine ⟨D, _, rfl, SqL.of eD, (by rw [List.length_map]; omega), fun ys q1 pm2 hs hq1 => ?_⟩
        obtain ⟨l, pl, rfl⟩ := perm_ones pm2
        have hll : l.length = n := by rw [pl.length_eq, gl]
        refine ⟨S [], q1, _, rfl, rfl, .inl (SqL.of upd_same), ?_, ?_⟩
        · rw [len_ones, S_len, List.length_map]
          simp only [List.length_nil]
          omega
        · rw [joinOnes]
          have nd : got.Nodup := (List.nodup_append.mp (pm.nodup_iff.mpr signs_nd)).1
          refine q l _ ⟨hll, asc_of (sorted_ones hs) (pl.nodup_iff.mpr nd), fun x hx => pm.mem_iff.mp (List.mem_append_left _ (pl.mem_iff.mp hx))⟩ ?_ ?_
          · obtain ⟨ns, m, d2⟩ := d2
            refine ⟨ns, m, ⟨?_, ?_, d2.pos, d2.few, d2.m0, d2.m1⟩⟩
            · rw [upd_ne (ne_of_none (s2 _ _ d2.hd) hq1)]
              exact s2 _ _ d2.hd
            · rw [upd_ne (ne_of_none (s2 _ _ d2.cs) hq1)]
              exact s2 _ _ d2.cs
          · exact (kp.trans (Same.kp s2)).new' hq1
theorem ok_l_word (T : Top K mg) : FnOk P w K mg base CX0 3 T.f_l_word T.d_l_word ["_law_deal_here", "_law_letters_here", "_law_most"] spWord := by
  have G_l_draw : FnOk P w K mg base CX0 1 T.f_l_draw T.d_l_draw ["_law_deal_here", "_law_many"] spDraw := ok_l_draw T
  have G_l_pick : FnOk P w K mg base CX0 2 T.f_l_pick T.d_l_pick ["_law_deal_here", "_law_some"] spPickS := ok_l_pickS T
  refine T.F_l_word.ok sc_l_word (fun vs H Q E h => ?_) (fun cdv A outer s H vs Q E hr h => ?_)
  · obtain ⟨a, c, l, z, rfl, _⟩ := h
    rfl
  · obtain ⟨a, c, l, z, rfl, d, hne, hl, hz0, hn, q⟩ := h
    obtain ⟨n, rfl⟩ := nat_of hz0
    rw [Int.toNat_natCast] at q
    refine ⟨_, (pss_one (ps_ret (pe_join pe_str (pe_lc (own := [("_law_k", 3)]) (g := gName 3) (tt := tYes) (by rfl) sc_l_word.nd (pi_range1 (by rfl) T.n_range (pa_cons (pe_call G_l_draw (hr.mono (by decide)) (by rfl) T.g_l_draw T.F_l_draw.kp T.b_l_draw .nil pass0 (pa_cons (pv 0) (pa_cons (pe_op op_add (pv 2) pe_int) pa_nil))) pa_nil)) (blkOk_by (own := [("_law_k", 3)]) (N := ["_law_deal_here", "_law_letters_here", "_law_most", "_law_k"]) (sc := defScope s_l_word) (by decide +kernel)) (fun _ _ _ _ _ => pg_name (i := 3) sc_l_word.nd rfl (Or.inl rfl)) (fun _ _ _ _ _ => pts_nil) (fun _ _ _ _ _ => (pe_call G_l_pick (hr.mono (by decide)) (by rfl) T.g_l_pick T.F_l_pick.kp T.b_l_pick .nil pass0 (pa_cons (pv 0) (pa_cons (pv 1) pa_nil)))))))), ?_⟩
    refine ⟨⟨_, rfl⟩, _, rfl, _, rfl, _, _, rfl, rfl, a, c, _, rfl, d, (by omega), (by omega), fun r H1 r0 r1 d1 kp1 => ?_⟩
    refine ⟨r, rfl, by omega, by omega, fun D hD => ?_⟩
    have hD0 : H D = none := d.free kp1 d1 hD
    have nD := d1.ne hD
    refine lc_it (src_range 0 r.toNat).w (fun i H' => ∃ x : List Nat, Deal H' a c ∧ Kp a c H H' ∧ H' D = some (.lst (chars x)) ∧ x.length = i ∧ ∀ y ∈ x, y ∈ l) ⟨[], d1.new hD, kp1.new hD0, by rw [upd_same]; rfl, rfl, fun _ h => (nomatch h)⟩ (fun _ _ _ _ => trivial) ?_ ?_
    · rintro i x H2 H3 hi ⟨z, d2, kp2, e2, zl, zs⟩ ⟨rfl, hx⟩
      rw [rngV_len] at hi
      refine ⟨rfl, ?_⟩
      refine ⟨_, rfl, _, rfl, a, c, l, rfl, d2, hne, hl, fun y H4 hy d4 kp4 => ?_⟩
      refine ⟨_, kp4 _ _ nD.1 nD.2 e2, ?_, z ++ [y], d4.upd nD.1 nD.2, (kp2.trans kp4).new hD0, ?_, by simp [zl], ?_⟩
      · have : (chars z).length = z.length := by simp [chars]
        rw [this, zl, sizeLine_eq]
        omega
      · rw [upd_same]
        simp [chars]
      · intro u hu
        rcases List.mem_append.mp hu with h | h
        · exact zs u h
        · rw [List.mem_singleton.mp h]
          exact hy
    · rintro H2 ⟨z, d2, kp2, e2, zl, zs⟩
      rw [rngV_len] at zl
      rw [chars_eq] at e2
      refine ⟨S [], D, _, rfl, rfl, .inl (SqL.of e2), ?_, ?_⟩
      · rw [len_ones, S_len, List.length_map]
        simp only [List.length_nil]
        omega
      · rw [joinOnes]
        exact q z _ (by omega) zs d2 kp2
end
end K01
namespace K01
open PySem PySem.Spec PyProof.Rows L2 U
section
variable {P : Program} {w : World} {K : PySem.W.Frag} {mg : Str → Option Value} {base : Heap}
theorem if_true_of {b : Bool} {A B : Prop} (h : b = true) (k : A) : (if b = true then A else B) := by rw [if_pos h]; exact k
theorem if_false_of {b : Bool} {A B : Prop} (h : b = false) (k : B) : (if b = true then A else B) := by rw [h]; exact k
/-- no text -/
def NotS (H : Hp) (v : V) : Prop := v = .non ∨ (∃ b, v = .bl b) ∨ (∃ i, v = .int i) ∨ ∃ p xs, v = .ref p ∧ (H p = some (.lst xs) ∨ H p = some (.tup xs))
theorem NotS.ty {K : PySem.W.Frag} {H : Hp} {v : V} (h : NotS H v) : ∃ t, TyX K H v t ∧ PySem.W.kitOne K t (.type "str") = some false := by
  rcases h with rfl | ⟨b, rfl⟩ | ⟨i, rfl⟩ | ⟨p, xs, rfl, e | e⟩
  · exact ⟨_, .base .non, kit_ty (by decide +kernel)⟩
  · exact ⟨_, .base (.bl b), kit_ty (by decide +kernel)⟩
  · exact ⟨_, .base (.int i), kit_ty (by decide +kernel)⟩
  · exact ⟨_, .base (.lst e), kit_ty (by decide +kernel)⟩
  · exact ⟨_, .base (.tup e), kit_ty (by decide +kernel)⟩
theorem NotS.same {H H' : Hp} {v : V} (h : NotS H v) (s : Same H H') : NotS H' v := by
  rcases h with h | h | h | ⟨p, xs, rfl, e | e⟩
  · exact .inl h
  · exact .inr (.inl h)
  · exact .inr (.inr (.inl h))
  · exact .inr (.inr (.inr ⟨p, xs, rfl, .inl (s _ _ e)⟩))
  · exact .inr (.inr (.inr ⟨p, xs, rfl, .inr (s _ _ e)⟩))
theorem isiS {K : PySem.W.Frag} {H : Hp} {z : Str} {Q : VK} (k : Q (.bl true) H) : rIsi K [.str z, .ty "str"] H Q := ⟨.str z, .ty "str", .type "str", .type "str", true, rfl, .ty _, .base (.str z), kit_ty (by decide +kernel), k⟩
theorem isiN {K : PySem.W.Frag} {H : Hp} {v : V} {Q : VK} (h : NotS H v) (k : Q (.bl false) H) : rIsi K [v, .ty "str"] H Q := by
  obtain ⟨t, ht, kt⟩ := h.ty (K := K)
  exact ⟨v, .ty "str", t, .type "str", false, rfl, .ty _, ht, kt, k⟩
/-- letters as they must be -/
def asc (l : List Nat) : Bool := (List.range (l.length - 1)).all fun i => decide (l.getD i 0 < l.getD (i + 1) 0)
def within (L l : List Nat) : Bool := l.all fun c => decide (c ∈ L)
def good (l : List Nat) : Bool := decide (2 ≤ l.length ∧ l.length ≤ 5) && (within U.signs l && asc l)
def sp_are : Sp := fun vs H Q _ => ∃ v, vs = [v] ∧ ((∃ l, v = .str (S l) ∧ l.length ≤ 1000 ∧ ∀ H', Same H H' → Q (.bl (good l)) H') ∨ (NotS H v ∧ ∀ H', Same H H' → Q (.bl false) H'))
def sp_text : Sp := fun vs H Q _ => ∃ (L : List Nat) (v : V), vs = [.str (S L), v] ∧ ((∃ l, v = .str (S l) ∧ l.length ≤ 1000 ∧ ∀ H', Same H H' → Q (.bl (within L l)) H') ∨ (NotS H v ∧ ∀ H', Same H H' → Q (.bl false) H'))
/-- the one sign of a value -/
def sg : V → Nat | .str z => z.cps.toList.headD 0 | _ => 0
theorem chars_mem {l : List Nat} {x : V} (h : x ∈ chars l) : ∃ c, c ∈ l ∧ x = .str (S [c]) := by
  simp only [chars, List.mem_map] at h
  obtain ⟨c, hc, rfl⟩ := h
  exact ⟨c, hc, rfl⟩
theorem chars_map (l : List Nat) (g : Nat → Bool) : (chars l).map (fun x => V.bl (g (sg x))) = (l.map g).map V.bl := by
  simp [chars, sg, S]
theorem lt_one (c d : Nat) : decide ((S [c]).cps.toList < (S [d]).cps.toList) = decide (c < d) := by
  rw [S_toList, S_toList]
  congr 1
  simp [List.cons_lt_cons_iff]
theorem all_id (g : Nat → Bool) (l : List Nat) : (l.map g).all id = l.all g := by simp [List.all_map]
def ascF (l : List Nat) : V → V | .int i => .bl (decide (l.getD i.toNat 0 < l.getD (i.toNat + 1) 0)) | _ => .non
theorem ascF_map (l : List Nat) (n : Nat) : (rngV 0 n).map (ascF l) = ((List.range n).map fun i => decide (l.getD i 0 < l.getD (i + 1) 0)).map V.bl := by
  simp [rngV, ascF]
theorem ok_are_letters (T : Top K mg) (Ex : Exs P K mg) : FnOk P w K mg base CX0 1 T.f_are_letters T.d_are_letters ["value"] sp_are := by
  refine T.F_are_letters.ok sc_are_letters (fun vs H Q E h => ?_) (fun cdv A outer s H vs Q E hr h => ?_)
  · obtain ⟨v, rfl, _⟩ := h
    rfl
  · obtain ⟨v, rfl, h⟩ := h
    refine ⟨_, (pss_cons (ps_if (PW.pt (pw_or (pt_not (pt_val (pe_callB call_isi (by rfl) T.n_isinstance (by decide +kernel) (pa_cons (pv 0) (pa_cons (pe_bltn (v := .ty "str") (by rfl) T.n_str (by decide +kernel) rfl) pa_nil))))) (pw_or1 (pt_not (pt_chain op_le op_le (pe_glob (v := .int 2) (by rfl) Ex.g_FEWEST ⟨_, rfl⟩) (pe_callB call_len_str (by rfl) T.n_len (by decide +kernel) (pa_cons (pv 0) pa_nil)) (pe_glob (v := .int 5) (by rfl) Ex.g_MOST ⟨_, rfl⟩)))))) (pss_one (ps_ret pe_bl)) pss_nil)
        (pss_cons (ps_if (pt_not (pt_val (pe_callB (cr_all rfl) (by rfl) T.n_all (by decide +kernel) (pa_cons (pe_lc (own := [("letter", 1)]) (g := gName 1) (tt := tYes) (by rfl) sc_are_letters.nd (pi_str (pv 0)) (blkOk_by (own := [("letter", 1)]) (N := ["value", "letter", "at"]) (sc := defScope s_are_letters) (by decide +kernel)) (fun _ _ _ _ _ => pg_name (i := 1) sc_are_letters.nd rfl (Or.inl rfl)) (fun _ _ _ _ _ => pts_nil) (fun _ _ _ _ _ => (pe_cmpR op_in_sign (pv 1) (pe_glob (v := .str "-./0123456789_abcdefghijklmnopqrstuvwxyz") (by rfl) Ex.g_SIGNS ⟨_, rfl⟩) (by rfl)))) pa_nil)))) (pss_one (ps_ret pe_bl)) pss_nil)
        (pss_one (ps_ret (pe_callB (cr_all rfl) (by rfl) T.n_all (by decide +kernel) (pa_cons (pe_lc (own := [("at", 2)]) (g := gName 2) (tt := tYes) (by rfl) sc_are_letters.nd (pi_range1 (by rfl) T.n_range (pa_cons (pe_op op_sub (pe_callB call_len_str (by rfl) T.n_len (by decide +kernel) (pa_cons (pv 0) pa_nil)) pe_int) pa_nil)) (blkOk_by (own := [("at", 2)]) (N := ["value", "letter", "at"]) (sc := defScope s_are_letters) (by decide +kernel)) (fun _ _ _ _ _ => pg_name (i := 2) sc_are_letters.nd rfl (Or.inl rfl)) (fun _ _ _ _ _ => pts_nil) (fun _ _ _ _ _ => (pe_cmpR op_lt_str (pe_ix ix_str (pv 0) (pv 2) (fun _ _ => rfl)) (pe_ix ix_str (pv 0) (pe_op op_add (pv 2) pe_int) (fun _ _ => rfl)) (nomark _)))) pa_nil)))))), ?_⟩
    rcases h with ⟨l, rfl, hl, q⟩ | ⟨hn, q⟩
    · refine ⟨_, rfl, _, .ty "str", _, _, true, rfl, .ty _, .base (.str _), kit_ty (by decide +kernel), ?_⟩
      refine ⟨_, rfl, ?_⟩
      dsimp only [Bool.not_true]
      refine iteF ?_
      refine ⟨_, rfl, _, rfl, (by rw [S_len, sizeLine_eq]; omega), _, _, rfl, rfl, _, rfl, ?_⟩
      rw [S_len]
      by_cases h1 : 2 ≤ l.length
      · refine if_true_of (decide_eq_true (by omega)) ?_
        refine ⟨_, _, rfl, rfl, _, rfl, ?_⟩
        dsimp only
        by_cases h2 : l.length ≤ 5
        · refine if_false_of (by simp; omega) ?_
          refine ⟨_, rfl, _, rfl, fun D hD => lcM (src_str l) (fun x => .bl (decide (sg x ∈ U.signs))) trivial hD (fun x => rfl) (by simp [chars]; omega) (fun x hx H' s' Q k => ?_) (fun H' s' e => ?_)⟩
          · obtain ⟨c, hc, rfl⟩ := chars_mem hx
            exact ⟨_, rfl, c, _, rfl, rfl, k _ (Same.refl _)⟩
          · rw [chars_map l (fun c => decide (c ∈ U.signs))] at e
            refine ⟨D, _, rfl, SqL.of e, _, rfl, ?_⟩
            rw [all_id]
            dsimp only
            by_cases h3 : (l.all fun c => decide (c ∈ U.signs)) = true
            · refine if_false_of (by rw [h3]; rfl) ?_
              refine ⟨_, rfl, _, rfl, (by rw [S_len, sizeLine_eq]; omega), _, _, rfl, rfl, ?_⟩
              rw [S_len]
              obtain ⟨n, hn⟩ : ∃ n : Nat, l.length = n + 1 := ⟨l.length - 1, by omega⟩
              have hz : ((l.length : Int) - 1) = (n : Int) := by omega
              refine ⟨(n : Int), (by show [V.int ((l.length : Int) - 1)] = [V.int (n : Int)]; rw [hz]), by omega, by omega, fun D2 hD2 => ?_⟩
              refine lcM (src_range 0 n) (ascF l) trivial hD2 (fun x => rfl) (by rw [rngV_len]; omega) (fun x hx H2 s2 Q k => ?_) (fun H2 s2 e2 => ?_)
              · obtain ⟨i, hi⟩ := List.getElem?_of_mem hx
                rw [rngV_get] at hi
                obtain ⟨hi, rfl⟩ := hi
                rw [Int.zero_add] at k ⊢
                have hi1 : i < l.length := by omega
                have hi2 : i + 1 < l.length := by omega
                refine ⟨_, rfl, _, rfl, _, _, l.getD i 0, rfl, rfl, (by rw [S_len, sizeLine_eq]; omega), ?_, ?_⟩
                · rw [S_toList]
                  exact atI_int (by omega) (by rw [Int.toNat_natCast]; exact getD_get hi1)
                refine ⟨_, rfl, _, rfl, _, _, rfl, rfl, _, _, l.getD (i + 1) 0, rfl, rfl, (by rw [S_len, sizeLine_eq]; omega), ?_, ?_⟩
                · rw [S_toList]
                  exact atI_int (by omega) (by rw [show ((i : Int) + 1).toNat = i + 1 by omega]; exact getD_get hi2)
                refine ⟨_, _, rfl, rfl, ?_⟩
                have := lt_one (l.getD i 0) (l.getD (i + 1) 0)
                have k2 := k _ (Same.refl _)
                dsimp only [ascF] at k2
                rw [Int.toNat_natCast, ← this] at k2
                exact k2
              · rw [ascF_map] at e2
                refine ⟨D2, _, rfl, SqL.of e2, ?_⟩
                have : ((List.range n).map fun i => decide (l.getD i 0 < l.getD (i + 1) 0)).all id = good l := by
                  have e : asc l = (List.range n).all fun i => decide (l.getD i 0 < l.getD (i + 1) 0) := by
                    unfold asc
                    rw [hn, Nat.add_sub_cancel]
                  rw [all_id]
                  unfold good within
                  rw [h3, e]
                  simp [h1, h2]
                rw [this]
                exact q _ (s'.trans s2)
            · refine if_true_of (by rw [Bool.eq_false_iff.mpr h3]; rfl) ?_
              have : good l = false := by
                unfold good within
                rw [Bool.eq_false_iff.mpr h3]
                simp
              rw [← this]
              exact q _ s'
        · refine if_true_of (by simp; omega) ?_
          have : good l = false := by simp [good, h2]
          rw [← this]
          exact q _ (Same.refl _)
      · refine if_false_of (decide_eq_false (by omega)) ?_
        refine ⟨_, rfl, ?_⟩
        refine iteT ?_
        have : good l = false := by simp [good, h1]
        rw [← this]
        exact q _ (Same.refl _)
    · obtain ⟨t, ht, kt⟩ := hn.ty (K := K)
      refine ⟨_, rfl, _, .ty "str", t, _, false, rfl, .ty _, ht, kt, ?_⟩
      refine ⟨_, rfl, ?_⟩
      dsimp only [Bool.not_false]
      refine iteT ?_
      refine iteT ?_
      exact q _ (Same.refl _)
theorem ok_is_text (T : Top K mg) (Ex : Exs P K mg) : FnOk P w K mg base CX0 1 T.f_is_text T.d_is_text ["letters", "value"] sp_text := by
  refine T.F_is_text.ok sc_is_text (fun vs H Q E h => ?_) (fun cdv A outer s H vs Q E hr h => ?_)
  · obtain ⟨L, v, rfl, _⟩ := h
    rfl
  · obtain ⟨L, v, rfl, h⟩ := h
    refine ⟨_, (pss_one (ps_ret (pe_and (pe_callB call_isi (by rfl) T.n_isinstance (by decide +kernel) (pa_cons (pv 1) (pa_cons (pe_bltn (v := .ty "str") (by rfl) T.n_str (by decide +kernel) rfl) pa_nil))) (pe_one (pe_callB (cr_all rfl) (by rfl) T.n_all (by decide +kernel) (pa_cons (pe_lc (own := [("letter", 2)]) (g := gName 2) (tt := tYes) (by rfl) sc_is_text.nd (pi_str (pv 1)) (blkOk_by (own := [("letter", 2)]) (N := ["letters", "value", "letter"]) (sc := defScope s_is_text) (by decide +kernel)) (fun _ _ _ _ _ => pg_name (i := 2) sc_is_text.nd rfl (Or.inl rfl)) (fun _ _ _ _ _ => pts_nil) (fun _ _ _ _ _ => (pe_cmpR op_in_sign (pv 2) (pv 0) (by rfl)))) pa_nil)))))), ?_⟩
    rcases h with ⟨l, rfl, hl, q⟩ | ⟨hn, q⟩
    · refine ⟨_, rfl, _, .ty "str", _, _, true, rfl, .ty _, .base (.str _), kit_ty (by decide +kernel), _, rfl, iteT ?_⟩
      refine ⟨_, rfl, _, rfl, fun D hD => lcM (src_str l) (fun x => .bl (decide (sg x ∈ L))) trivial hD (fun x => rfl) (by simp [chars]; omega) (fun x hx H' s' Q k => ?_) (fun H' s' e => ?_)⟩
      · obtain ⟨c, hc, rfl⟩ := chars_mem hx
        refine ⟨_, rfl, _, rfl, c, _, rfl, rfl, ?_⟩
        rw [S_toList]
        exact k _ (Same.refl _)
      · rw [chars_map l (fun c => decide (c ∈ L))] at e
        refine ⟨D, _, rfl, SqL.of e, ?_⟩
        rw [all_id]
        exact q _ s'
    · obtain ⟨t, ht, kt⟩ := hn.ty (K := K)
      refine ⟨_, rfl, _, .ty "str", t, _, false, rfl, .ty _, ht, kt, _, rfl, iteF ?_⟩
      exact q _ (Same.refl _)
end
end K01
namespace K01
open PySem PySem.Spec PyProof.Rows L2 U
section
variable {P : Program} {w : World} {K : PySem.W.Frag} {mg : Str → Option Value} {base : Heap}
def sp_check (C : Addr) : Sp := fun vs H Q E => ∃ v, vs = [v] ∧ ((∃ l, v = .str (S l) ∧ l.length ≤ 1000 ∧ (good l = true → ∀ H', Same H H' → Q (.bl true) H') ∧ (good l = false → ∀ H', Same H H' → E (.ref C) none H')) ∨ (NotS H v ∧ ∀ H', Same H H' → E (.ref C) none H'))
def toldV (b : Bool) : V := if b = true then .bl true else .str "refused"
def sp_told : Sp := fun vs H Q _ => ∃ v, vs = [v] ∧ ((∃ l, v = .str (S l) ∧ l.length ≤ 1000 ∧ ∀ H', Same H H' → Q (toldV (good l)) H') ∨ (NotS H v ∧ ∀ H', Same H H' → Q (toldV false) H'))
theorem ok_check_letters (T : Top K mg) (Ex : Exs P K mg) : FnOk P w K mg base (L2.CX P w) 2 T.f_check_letters T.d_check_letters ["letters"] (sp_check Ex.C_InvalidLetters) := by
  have G_are : FnOk P w K mg base CX0 1 T.f_are_letters T.d_are_letters ["value"] sp_are := ok_are_letters T Ex
  refine T.F_check_letters.okX sc_check_letters (fun vs H Q E h => ?_) (fun cdv A outer s H vs Q E hr h => ?_)
  · obtain ⟨v, rfl, _⟩ := h
    rfl
  · obtain ⟨v, rfl, h⟩ := h
    refine ⟨_, pss_cons (ps_if (pt_not (pt_val (pe_call G_are (hr.mono (by decide)) (by rfl) T.g_are_letters T.F_are_letters.kp T.b_are_letters .nil pass0 (pa_cons (pv 0) pa_nil))))
      (pss_one (ps_raise rfl (takes_of rfl rfl rfl rfl) (pmk_ret rfl (pe_exc0 F.excBase_ValueError Ex.xi_InvalidLetters Ex.g_InvalidLetters Ex.kc_InvalidLetters (by rfl))))) pss_nil)
      (pss_one (ps_ret pe_bl)), ?_⟩
    rcases h with ⟨l, rfl, hl, qt, qf⟩ | ⟨hn, q⟩
    · refine ⟨_, rfl, _, rfl, .inl ⟨l, rfl, hl, fun H1 s1 => ⟨_, rfl, ?_⟩⟩⟩
      dsimp only
      cases hg : good l with
      | true => exact iteF (qt hg _ s1)
      | false =>
        refine iteT fun a ha => ⟨a, _, rfl, upd_same, fr0_none (s1.free ha), raises_own Ex.bB Ex.tB, ?_⟩
        rw [delH_new ha]
        exact qf hg _ s1
    · refine ⟨_, rfl, _, rfl, .inr ⟨hn, fun H1 s1 => ⟨_, rfl, ?_⟩⟩⟩
      refine iteT fun a ha => ⟨a, _, rfl, upd_same, fr0_none (s1.free ha), raises_own Ex.bB Ex.tB, ?_⟩
      rw [delH_new ha]
      exact q _ s1
theorem ok_l_told (T : Top K mg) (Ex : Exs P K mg) : FnOk P w K mg base CX0 3 T.f_l_told T.d_l_told ["_law_value_here"] sp_told := by
  have G_check : FnOk P w K mg base (L2.CX P w) 2 T.f_check_letters T.d_check_letters ["letters"] (sp_check Ex.C_InvalidLetters) := ok_check_letters T Ex
  refine T.F_l_told.ok sc_l_told (fun vs H Q E h => ?_) (fun cdv A outer s H vs Q E hr h => ?_)
  · obtain ⟨v, rfl, _⟩ := h
    rfl
  · obtain ⟨v, rfl, h⟩ := h
    have hr2 : Room 2 _ := hr.mono (by decide)
    refine ⟨_, pss_cons (ps_set (i := 1) sc_l_told.nd rfl (Or.inl rfl) pe_non)
      (pss_cons (ps_try_only (tb := fun W => tAsg (tCallS (sp_check Ex.C_InvalidLetters) (WE W) (tCons (tVar 0) tNil)) (gName 1)) (ts := fun _ _ _ => tAsg (tC (.str "refused")) (gName 1)) (Wout := fun _ _ _ _ => False) rfl rfl ⟨rfl, by decide, Or.inl Ex.g_InvalidLetters⟩ takes0
          (fun W pn xe tk _ => pss_one (ps_set (i := 1) sc_l_told.nd rfl (Or.inl rfl) (pe_callS G_check hr2 (by rfl) T.g_check_letters T.F_check_letters.kp T.b_check_letters (fun σ => passAt tk σ) (by exact (pa_cons (pv 0) pa_nil)))))
          (fun _ _ _ _ _ _ _ => pss_one (ps_set (i := 1) sc_l_told.nd rfl (Or.inl rfl) pe_str)))
      (pss_one (ps_ret (pv 1)))), ?_⟩
    rcases h with ⟨l, rfl, hl, q⟩ | ⟨hn, q⟩
    · refine ⟨_, rfl, _, rfl, .inl ⟨l, rfl, hl, fun hg H1 s1 => ?_, fun hg H1 s1 => ?_⟩⟩
      · refine ⟨_, rfl, ?_⟩
        have := q H1 s1
        rw [hg] at this
        exact this
      · refine ⟨true, Ex.eB, fun _ a0 _ => ?_, fun z => Bool.noConfusion z⟩
        refine ⟨_, rfl, ?_⟩
        have := q H1 s1
        rw [hg] at this
        exact this
    · refine ⟨_, rfl, _, rfl, .inr ⟨hn, fun H1 s1 => ?_⟩⟩
      refine ⟨true, Ex.eB, fun _ a0 _ => ?_, fun z => Bool.noConfusion z⟩
      refine ⟨_, rfl, ?_⟩
      exact q H1 s1
end
end K01
namespace K01
open PySem PySem.Spec PyProof.Rows L2 U
section
variable {P : Program} {w : World} {K : PySem.W.Frag} {mg : Str → Option Value} {base : Heap}
def Exs.lst (Ex : Exs P K mg) : List Addr := [Ex.C_InvalidLetters, Ex.C_InvalidMade, Ex.C_InvalidBound, Ex.C_InvalidZone, Ex.C_InvalidRow, Ex.C_InvalidProgram, Ex.C_InvalidCommand, Ex.C_Mismatch, Ex.C_NoText, Ex.C_NoValue, Ex.C_NoName, Ex.C_NoRow, Ex.C_NoKey]
theorem exAt_same {H H' : Hp} {a D : Addr} (x : ExAt H a D) (s : Same H H') : ExAt H' a D := by
  rcases x with x | ⟨dx, fs, h1, h2⟩
  · exact .inl (s _ _ x)
  · exact .inr ⟨dx, fs, s _ _ h1, s _ _ h2⟩
def sp_kinds (Ex : Exs P K mg) : Sp := fun vs H Q _ => ∃ (e D : Addr), vs = [.ref e] ∧ ExAt H e D ∧ ExcC K D ∧ D ∈ Ex.lst ∧ ∀ p H', Same H H' → H p = none → H' p = some (.lst (Ex.lst.map fun C => V.bl (decide (D = C)))) → Q (.ref p) H'
/-- a small value -/
structure Val (K : PySem.W.Frag) (H : Hp) (v : V) (d : PyData) : Prop where
  dp : Dp K H v d
  sm : ∃ n k, Sm d n k ∧ n ≤ 300 ∧ k ≤ 4
  ty : (∃ l : List Nat, v = .str (S l) ∧ l.length ≤ 10 ∧ ∀ x ∈ l, x < 1114112) ∨ NotS H v
def spVal (K : PySem.W.Frag) : Sp := fun vs H Q _ => ∃ (a c : Addr), vs = [.ref a] ∧ Deal H a c ∧ ∀ v d H', Val K H' v d → (∀ p, v = .ref p → H p = none) → Deal H' a c → Kp a c H H' → Q v H'
theorem Sm_int30 {i : Int} (h : i.natAbs < 10 ^ 31) : Sm (.int i) 32 0 := by
  refine ⟨?_, rfl, Nat.le_refl _, ?_⟩
  · simp only [PyData.showable, decide_eq_true_eq]
    exact lg (Nat.lt_trans h (by decide))
  · have e := PySem.int_text_length_le10 (k := 31) (by decide) h
    show (Str.ofString (toString i)).length ≤ 32
    rw [PySem.ofString_length]; exact e
theorem ok_l_value (T : Top K mg) : FnOk P w K mg base CX0 3 T.f_l_value T.d_l_value ["_law_deal_here"] (spVal K) := by
  have G_l_pickL : FnOk P w K mg base CX0 2 T.f_l_pick T.d_l_pick ["_law_deal_here", "_law_some"] (spPickL K) := ok_l_pickL T
  refine T.F_l_value.ok sc_l_value (fun vs H Q E h => ?_) (fun cdv A outer s H vs Q E hr h => ?_)
  · obtain ⟨a, c, rfl, _⟩ := h
    rfl
  · obtain ⟨a, c, rfl, d, q⟩ := h
    refine ⟨_, (pss_cons (ps_set (i := 1) sc_l_value.nd rfl (Or.inl rfl) (pe_lst (pa_cons pe_non (pa_cons pe_bl (pa_cons pe_int (pa_cons (pe_op op_sub pe_int pe_int) (pa_cons (pe_op op_pow pe_int pe_int) (pa_cons pe_str (pa_cons pe_str (pa_cons (pe_lst (pa_cons pe_int (pa_cons (pe_lst (pa_cons pe_str pa_nil)) pa_nil))) (pa_cons (pe_tup (pa_cons pe_str (pa_cons (pe_tup pa_nil) pa_nil))) (pa_cons (pe_lst pa_nil) (pa_cons (pe_tup (pa_cons pe_non pa_nil)) pa_nil)))))))))))))
        (pss_one (ps_ret (pe_call G_l_pickL (hr.mono (by decide)) (by rfl) T.g_l_pick T.F_l_pick.kp T.b_l_pick .nil pass0 (pa_cons (pv 0) (pa_cons (pv 1) pa_nil)))))), ?_⟩
    refine ⟨_, _, rfl, rfl, _, _, rfl, rfl, ⟨by decide, by decide, by decide⟩, (by show (1 : Nat) ≤ sizeLine; decide), fun p1 h1 => ⟨(by show (2 : Nat) ≤ sizeLine; decide), fun p2 h2 => ⟨(by show (0 : Nat) ≤ sizeLine; decide), fun p3 h3 => ⟨(by show (2 : Nat) ≤ sizeLine; decide), fun p4 h4 =>
      ⟨(by show (0 : Nat) ≤ sizeLine; decide), fun p5 h5 => ⟨(by show (1 : Nat) ≤ sizeLine; decide), fun p6 h6 => ⟨(by show (11 : Nat) ≤ sizeLine; decide), fun p h => ?_⟩⟩⟩⟩⟩⟩⟩
    generalize g1 : upd H p1 (HO.lst [V.str (Str.ofString "a")]) = H1 at h2 h3 h4 h5 h6 h ⊢
    have s1 : Same H H1 := g1 ▸ Same.new (Same.refl H) h1
    have e1 : H1 p1 = some (HO.lst [V.str (Str.ofString "a")]) := g1 ▸ upd_same
    have t1 : Same H H1 := s1
    have d1 : Deal H1 a c := d.same t1
    have n1 : H p1 = none := h1
    have m1 := d.ne h1
    generalize g2 : upd H1 p2 (HO.lst [V.int 1, V.ref p1]) = H2 at h3 h4 h5 h6 h ⊢
    have s2 : Same H1 H2 := g2 ▸ Same.new (Same.refl H1) h2
    have e2 : H2 p2 = some (HO.lst [V.int 1, V.ref p1]) := g2 ▸ upd_same
    have t2 : Same H H2 := t1.trans s2
    have d2 : Deal H2 a c := d.same t2
    have n2 : H p2 = none := t1.free h2
    have m2 := d1.ne h2
    generalize g3 : upd H2 p3 (HO.tup []) = H3 at h4 h5 h6 h ⊢
    have s3 : Same H2 H3 := g3 ▸ Same.new (Same.refl H2) h3
    have e3 : H3 p3 = some (HO.tup []) := g3 ▸ upd_same
    have t3 : Same H H3 := t2.trans s3
    have d3 : Deal H3 a c := d.same t3
    have n3 : H p3 = none := t2.free h3
    have m3 := d2.ne h3
    generalize g4 : upd H3 p4 (HO.tup [V.str (Str.ofString "a"), V.ref p3]) = H4 at h5 h6 h ⊢
    have s4 : Same H3 H4 := g4 ▸ Same.new (Same.refl H3) h4
    have e4 : H4 p4 = some (HO.tup [V.str (Str.ofString "a"), V.ref p3]) := g4 ▸ upd_same
    have t4 : Same H H4 := t3.trans s4
    have d4 : Deal H4 a c := d.same t4
    have n4 : H p4 = none := t3.free h4
    have m4 := d3.ne h4
    generalize g5 : upd H4 p5 (HO.lst []) = H5 at h6 h ⊢
    have s5 : Same H4 H5 := g5 ▸ Same.new (Same.refl H4) h5
    have e5 : H5 p5 = some (HO.lst []) := g5 ▸ upd_same
    have t5 : Same H H5 := t4.trans s5
    have d5 : Deal H5 a c := d.same t5
    have n5 : H p5 = none := t4.free h5
    have m5 := d4.ne h5
    generalize g6 : upd H5 p6 (HO.tup [V.non]) = H6 at h ⊢
    have s6 : Same H5 H6 := g6 ▸ Same.new (Same.refl H5) h6
    have e6 : H6 p6 = some (HO.tup [V.non]) := g6 ▸ upd_same
    have t6 : Same H H6 := t5.trans s6
    have d6 : Deal H6 a c := d.same t6
    have n6 : H p6 = none := t5.free h6
    have m6 := d5.ne h6
    have g7 : ∃ x, upd H6 p (HO.lst [V.non, V.bl true, V.int 0, V.int (0 - 7), V.int (10 ^ (30 : Int).toNat), V.str (Str.ofString ""), V.str (Str.ofString "ab"), V.ref p2, V.ref p4, V.ref p5, V.ref p6]) = x := ⟨_, rfl⟩
    obtain ⟨H7, g7⟩ := g7
    have s7 : Same H6 H7 := g7 ▸ Same.new (Same.refl H6) h
    have e7 : H7 p = some (HO.lst [V.non, V.bl true, V.int 0, V.int (0 - 7), V.int (10 ^ (30 : Int).toNat), V.str (Str.ofString ""), V.str (Str.ofString "ab"), V.ref p2, V.ref p4, V.ref p5, V.ref p6]) := g7 ▸ upd_same
    have t7 : Same H H7 := t6.trans s7
    have d7 : Deal H7 a c := d.same t7
    have n7 : H p = none := t6.free h
    have m7 := d6.ne h
    have r6 : Same H6 H7 := s7
    have r5 : Same H5 H7 := s6.trans r6
    have r4 : Same H4 H7 := s5.trans r5
    have r3 : Same H3 H7 := s4.trans r4
    have r2 : Same H2 H7 := s3.trans r3
    have r1 : Same H1 H7 := s2.trans r2
    dsimp only
    rw [g7]
    refine ⟨_, rfl, _, rfl, a, c, p, _, rfl, d7, SqL.of e7, m7.1, m7.2, by simp, by simp, fun v H' hv d' kp => ?_⟩
    have kk : Kp a c H H' := fun b o hb hc z => kp b o hb hc (t7 b o z)
    have f1 := kp _ _ m1.1 m1.2 (r1 _ _ e1)
    have f2 := kp _ _ m2.1 m2.2 (r2 _ _ e2)
    have f3 := kp _ _ m3.1 m3.2 (r3 _ _ e3)
    have f4 := kp _ _ m4.1 m4.2 (r4 _ _ e4)
    have f5 := kp _ _ m5.1 m5.2 (r5 _ _ e5)
    have f6 := kp _ _ m6.1 m6.2 (r6 _ _ e6)
    have sa : Sm (.str (Str.ofString "a")) 12 0 := Sm.str (l := [97]) (by decide)
    simp only [List.mem_cons, List.not_mem_nil, or_false] at hv
    rcases hv with rfl | rfl | rfl | rfl | rfl | rfl | rfl | rfl | rfl | rfl | rfl
    · exact q _ .none _ ⟨.non, ⟨_, _, Sm.non, by decide, by decide⟩, .inr (.inl rfl)⟩ (fun _ z => nomatch z) d' kk
    · exact q _ (.bool true) _ ⟨.bl true, ⟨_, _, Sm.bl true, by decide, by decide⟩, .inr (.inr (.inl ⟨_, rfl⟩))⟩ (fun _ z => nomatch z) d' kk
    · exact q _ (.int 0) _ ⟨.int 0, ⟨_, _, Sm.int (by decide), by decide, by decide⟩, .inr (.inr (.inr (.inl ⟨_, rfl⟩)))⟩ (fun _ z => nomatch z) d' kk
    · exact q _ (.int (0 - 7)) _ ⟨.int _, ⟨_, _, Sm.int (by decide), by decide, by decide⟩, .inr (.inr (.inr (.inl ⟨_, rfl⟩)))⟩ (fun _ z => nomatch z) d' kk
    · exact q _ (.int (10 ^ (30 : Int).toNat)) _ ⟨.int _, ⟨_, _, Sm_int30 (by decide), by decide, by decide⟩, .inr (.inr (.inr (.inl ⟨_, rfl⟩)))⟩ (fun _ z => nomatch z) d' kk
    · exact q _ (.str (Str.ofString "")) _ ⟨.str _, ⟨_, _, Sm.str (l := []) (by decide), by decide, by decide⟩, .inl ⟨[], rfl, by decide, by decide⟩⟩ (fun _ z => nomatch z) d' kk
    · exact q _ (.str (Str.ofString "ab")) _ ⟨.str _, ⟨_, _, Sm.str (l := [97, 98]) (by decide), by decide, by decide⟩, .inl ⟨[97, 98], rfl, by decide, by decide⟩⟩ (fun _ z => nomatch z) d' kk
    · exact q _ (.list [.int 1, .list [.str (Str.ofString "a")]]) _ ⟨.lst (SqL.of f2) (.cons (.int 1) (.cons (.lst (SqL.of f1) (.cons (.str _) .nil)) .nil)),
        ⟨_, _, Sm.lst (SmAll.cons (k := 1) (Sm.int (by decide)) (SmAll.cons (Sm.lst (SmAll.cons sa SmAll.nil (Nat.le_refl _))) SmAll.nil (Nat.le_refl _)) (by decide)), by decide, by decide⟩, .inr (.inr (.inr (.inr ⟨_, _, rfl, .inl f2⟩)))⟩ (fun p' z => by cases z; exact n2) d' kk
    · exact q _ (.tuple [.str (Str.ofString "a"), .tuple []]) _ ⟨.tup (SqT.of f4) (.cons (.str _) (.cons (.tup (SqT.of f3) .nil) .nil)),
        ⟨_, _, Sm.tup (SmAll.cons (k := 1) sa (SmAll.cons (Sm.tup (k := 0) SmAll.nil) SmAll.nil (Nat.le_refl _)) (by decide)), by decide, by decide⟩, .inr (.inr (.inr (.inr ⟨_, _, rfl, .inr f4⟩)))⟩ (fun p' z => by cases z; exact n4) d' kk
    · exact q _ (.list []) _ ⟨.lst (SqL.of f5) .nil, ⟨_, _, Sm.lst (k := 0) SmAll.nil, by decide, by decide⟩, .inr (.inr (.inr (.inr ⟨_, _, rfl, .inl f5⟩)))⟩ (fun p' z => by cases z; exact n5) d' kk
    · exact q _ (.tuple [.none]) _ ⟨.tup (SqT.of f6) (.cons .non .nil), ⟨_, _, Sm.tup (SmAll.cons (k := 0) Sm.non SmAll.nil (Nat.le_refl _)), by decide, by decide⟩, .inr (.inr (.inr (.inr ⟨_, _, rfl, .inr f6⟩)))⟩ (fun p' z => by cases z; exact n6) d' kk
theorem ok_l_kinds (T : Top K mg) (Ex : Exs P K mg) : FnOk P w K mg base CX0 1 T.f_l_kinds T.d_l_kinds ["_law_error"] (sp_kinds Ex) := by
  refine T.F_l_kinds.ok sc_l_kinds (fun vs H Q E h => ?_) (fun cdv A outer s H vs Q E hr h => ?_)
  · obtain ⟨e, D, rfl, _⟩ := h
    rfl
  · obtain ⟨e, D, rfl, hx, hE, hD, q⟩ := h
    refine ⟨_, (pss_cons (ps_set (i := 1) sc_l_kinds.nd rfl (Or.inl rfl) (pe_lst (pa_cons (pe_callB call_isX (by rfl) T.n_isinstance (by decide +kernel) (pa_cons (pv 0) (pa_cons (pe_glob (v := .ref Ex.C_InvalidLetters) (by rfl) Ex.g_InvalidLetters rfl) pa_nil))) (pa_cons (pe_callB call_isX (by rfl) T.n_isinstance (by decide +kernel) (pa_cons (pv 0) (pa_cons (pe_glob (v := .ref Ex.C_InvalidMade) (by rfl) Ex.g_InvalidMade rfl) pa_nil))) (pa_cons (pe_callB call_isX (by rfl) T.n_isinstance (by decide +kernel) (pa_cons (pv 0) (pa_cons (pe_glob (v := .ref Ex.C_InvalidBound) (by rfl) Ex.g_InvalidBound rfl) pa_nil))) pa_nil)))))
        (pss_cons (ps_set (i := 1) sc_l_kinds.nd rfl (Or.inl rfl) (pe_op op_cat (pv 1) (pe_lst (pa_cons (pe_callB call_isX (by rfl) T.n_isinstance (by decide +kernel) (pa_cons (pv 0) (pa_cons (pe_glob (v := .ref Ex.C_InvalidZone) (by rfl) Ex.g_InvalidZone rfl) pa_nil))) (pa_cons (pe_callB call_isX (by rfl) T.n_isinstance (by decide +kernel) (pa_cons (pv 0) (pa_cons (pe_glob (v := .ref Ex.C_InvalidRow) (by rfl) Ex.g_InvalidRow rfl) pa_nil))) (pa_cons (pe_callB call_isX (by rfl) T.n_isinstance (by decide +kernel) (pa_cons (pv 0) (pa_cons (pe_glob (v := .ref Ex.C_InvalidProgram) (by rfl) Ex.g_InvalidProgram rfl) pa_nil))) pa_nil))))))
        (pss_cons (ps_set (i := 1) sc_l_kinds.nd rfl (Or.inl rfl) (pe_op op_cat (pv 1) (pe_lst (pa_cons (pe_callB call_isX (by rfl) T.n_isinstance (by decide +kernel) (pa_cons (pv 0) (pa_cons (pe_glob (v := .ref Ex.C_InvalidCommand) (by rfl) Ex.g_InvalidCommand rfl) pa_nil))) (pa_cons (pe_callB call_isX (by rfl) T.n_isinstance (by decide +kernel) (pa_cons (pv 0) (pa_cons (pe_glob (v := .ref Ex.C_Mismatch) (by rfl) Ex.g_Mismatch rfl) pa_nil))) (pa_cons (pe_callB call_isX (by rfl) T.n_isinstance (by decide +kernel) (pa_cons (pv 0) (pa_cons (pe_glob (v := .ref Ex.C_NoText) (by rfl) Ex.g_NoText rfl) pa_nil))) pa_nil))))))
        (pss_cons (ps_set (i := 1) sc_l_kinds.nd rfl (Or.inl rfl) (pe_op op_cat (pv 1) (pe_lst (pa_cons (pe_callB call_isX (by rfl) T.n_isinstance (by decide +kernel) (pa_cons (pv 0) (pa_cons (pe_glob (v := .ref Ex.C_NoValue) (by rfl) Ex.g_NoValue rfl) pa_nil))) (pa_cons (pe_callB call_isX (by rfl) T.n_isinstance (by decide +kernel) (pa_cons (pv 0) (pa_cons (pe_glob (v := .ref Ex.C_NoName) (by rfl) Ex.g_NoName rfl) pa_nil))) (pa_cons (pe_callB call_isX (by rfl) T.n_isinstance (by decide +kernel) (pa_cons (pv 0) (pa_cons (pe_glob (v := .ref Ex.C_NoRow) (by rfl) Ex.g_NoRow rfl) pa_nil))) pa_nil))))))
        (pss_one (ps_ret (pe_op op_cat (pv 1) (pe_lst (pa_cons (pe_callB call_isX (by rfl) T.n_isinstance (by decide +kernel) (pa_cons (pv 0) (pa_cons (pe_glob (v := .ref Ex.C_NoKey) (by rfl) Ex.g_NoKey rfl) pa_nil))) pa_nil))))))))), ?_⟩
    refine ⟨_, rfl, e, D, .ref Ex.C_InvalidLetters, .ref Ex.C_InvalidLetters, _, rfl, hx, hE, .own _, kinds_of Ex.mat hD (by simp), _, rfl, e, D, .ref Ex.C_InvalidMade, .ref Ex.C_InvalidMade, _, rfl, hx, hE, .own _, kinds_of Ex.mat hD (by simp), _, rfl, e, D, .ref Ex.C_InvalidBound, .ref Ex.C_InvalidBound, _, rfl, hx, hE, .own _, kinds_of Ex.mat hD (by simp), (by show (3 : Nat) ≤ sizeLine; decide), fun p0 h0 => ?_⟩
    have s0 : Same H _ := Same.new (o := .lst [V.bl (decide (D = Ex.C_InvalidLetters)), V.bl (decide (D = Ex.C_InvalidMade)), V.bl (decide (D = Ex.C_InvalidBound))]) (Same.refl H) h0
    have e0 := @upd_same H p0 (.lst [V.bl (decide (D = Ex.C_InvalidLetters)), V.bl (decide (D = Ex.C_InvalidMade)), V.bl (decide (D = Ex.C_InvalidBound))])
    have n0 : H p0 = none := h0
    generalize hH0 : upd H p0 _ = H0 at s0 e0 ⊢
    refine ⟨_, rfl, _, rfl, e, D, .ref Ex.C_InvalidZone, .ref Ex.C_InvalidZone, _, rfl, (exAt_same hx s0), hE, .own _, kinds_of Ex.mat hD (by simp), _, rfl, e, D, .ref Ex.C_InvalidRow, .ref Ex.C_InvalidRow, _, rfl, (exAt_same hx s0), hE, .own _, kinds_of Ex.mat hD (by simp), _, rfl, e, D, .ref Ex.C_InvalidProgram, .ref Ex.C_InvalidProgram, _, rfl, (exAt_same hx s0), hE, .own _, kinds_of Ex.mat hD (by simp), (by show (3 : Nat) ≤ sizeLine; decide), fun t1 u1 => ?_⟩
    refine ⟨p0, t1, _, _, rfl, rfl, (Same.new (Same.refl _) u1) _ _ e0, upd_same, (by show (6 : Nat) ≤ sizeLine; decide), fun p1 h1 => ?_⟩
    have s1 : Same H (upd (upd H0 t1 (.lst [V.bl (decide (D = Ex.C_InvalidZone)), V.bl (decide (D = Ex.C_InvalidRow)), V.bl (decide (D = Ex.C_InvalidProgram))])) p1 (.lst ([V.bl (decide (D = Ex.C_InvalidLetters)), V.bl (decide (D = Ex.C_InvalidMade)), V.bl (decide (D = Ex.C_InvalidBound))] ++ [V.bl (decide (D = Ex.C_InvalidZone)), V.bl (decide (D = Ex.C_InvalidRow)), V.bl (decide (D = Ex.C_InvalidProgram))]))) := Same.new (Same.new s0 u1) h1
    have n1 : H p1 = none := Same.free (Same.new (o := .lst [V.bl (decide (D = Ex.C_InvalidZone)), V.bl (decide (D = Ex.C_InvalidRow)), V.bl (decide (D = Ex.C_InvalidProgram))]) s0 u1) h1
    have e1 := @upd_same (upd H0 t1 (.lst [V.bl (decide (D = Ex.C_InvalidZone)), V.bl (decide (D = Ex.C_InvalidRow)), V.bl (decide (D = Ex.C_InvalidProgram))])) p1 (.lst ([V.bl (decide (D = Ex.C_InvalidLetters)), V.bl (decide (D = Ex.C_InvalidMade)), V.bl (decide (D = Ex.C_InvalidBound))] ++ [V.bl (decide (D = Ex.C_InvalidZone)), V.bl (decide (D = Ex.C_InvalidRow)), V.bl (decide (D = Ex.C_InvalidProgram))]))
    generalize hH1 : upd (upd H0 t1 _) p1 _ = H1 at s1 e1 ⊢
    refine ⟨_, rfl, _, rfl, e, D, .ref Ex.C_InvalidCommand, .ref Ex.C_InvalidCommand, _, rfl, (exAt_same hx s1), hE, .own _, kinds_of Ex.mat hD (by simp), _, rfl, e, D, .ref Ex.C_Mismatch, .ref Ex.C_Mismatch, _, rfl, (exAt_same hx s1), hE, .own _, kinds_of Ex.mat hD (by simp), _, rfl, e, D, .ref Ex.C_NoText, .ref Ex.C_NoText, _, rfl, (exAt_same hx s1), hE, .own _, kinds_of Ex.mat hD (by simp), (by show (3 : Nat) ≤ sizeLine; decide), fun t2 u2 => ?_⟩
    refine ⟨p1, t2, _, _, rfl, rfl, (Same.new (Same.refl _) u2) _ _ e1, upd_same, (by show (9 : Nat) ≤ sizeLine; decide), fun p2 h2 => ?_⟩
    have s2 : Same H (upd (upd H1 t2 (.lst [V.bl (decide (D = Ex.C_InvalidCommand)), V.bl (decide (D = Ex.C_Mismatch)), V.bl (decide (D = Ex.C_NoText))])) p2 (.lst (([V.bl (decide (D = Ex.C_InvalidLetters)), V.bl (decide (D = Ex.C_InvalidMade)), V.bl (decide (D = Ex.C_InvalidBound))] ++ [V.bl (decide (D = Ex.C_InvalidZone)), V.bl (decide (D = Ex.C_InvalidRow)), V.bl (decide (D = Ex.C_InvalidProgram))]) ++ [V.bl (decide (D = Ex.C_InvalidCommand)), V.bl (decide (D = Ex.C_Mismatch)), V.bl (decide (D = Ex.C_NoText))]))) := Same.new (Same.new s1 u2) h2
    have n2 : H p2 = none := Same.free (Same.new (o := .lst [V.bl (decide (D = Ex.C_InvalidCommand)), V.bl (decide (D = Ex.C_Mismatch)), V.bl (decide (D = Ex.C_NoText))]) s1 u2) h2
    have e2 := @upd_same (upd H1 t2 (.lst [V.bl (decide (D = Ex.C_InvalidCommand)), V.bl (decide (D = Ex.C_Mismatch)), V.bl (decide (D = Ex.C_NoText))])) p2 (.lst (([V.bl (decide (D = Ex.C_InvalidLetters)), V.bl (decide (D = Ex.C_InvalidMade)), V.bl (decide (D = Ex.C_InvalidBound))] ++ [V.bl (decide (D = Ex.C_InvalidZone)), V.bl (decide (D = Ex.C_InvalidRow)), V.bl (decide (D = Ex.C_InvalidProgram))]) ++ [V.bl (decide (D = Ex.C_InvalidCommand)), V.bl (decide (D = Ex.C_Mismatch)), V.bl (decide (D = Ex.C_NoText))]))
    generalize hH2 : upd (upd H1 t2 _) p2 _ = H2 at s2 e2 ⊢
    refine ⟨_, rfl, _, rfl, e, D, .ref Ex.C_NoValue, .ref Ex.C_NoValue, _, rfl, (exAt_same hx s2), hE, .own _, kinds_of Ex.mat hD (by simp), _, rfl, e, D, .ref Ex.C_NoName, .ref Ex.C_NoName, _, rfl, (exAt_same hx s2), hE, .own _, kinds_of Ex.mat hD (by simp), _, rfl, e, D, .ref Ex.C_NoRow, .ref Ex.C_NoRow, _, rfl, (exAt_same hx s2), hE, .own _, kinds_of Ex.mat hD (by simp), (by show (3 : Nat) ≤ sizeLine; decide), fun t3 u3 => ?_⟩
    refine ⟨p2, t3, _, _, rfl, rfl, (Same.new (Same.refl _) u3) _ _ e2, upd_same, (by show (12 : Nat) ≤ sizeLine; decide), fun p3 h3 => ?_⟩
    have s3 : Same H (upd (upd H2 t3 (.lst [V.bl (decide (D = Ex.C_NoValue)), V.bl (decide (D = Ex.C_NoName)), V.bl (decide (D = Ex.C_NoRow))])) p3 (.lst ((([V.bl (decide (D = Ex.C_InvalidLetters)), V.bl (decide (D = Ex.C_InvalidMade)), V.bl (decide (D = Ex.C_InvalidBound))] ++ [V.bl (decide (D = Ex.C_InvalidZone)), V.bl (decide (D = Ex.C_InvalidRow)), V.bl (decide (D = Ex.C_InvalidProgram))]) ++ [V.bl (decide (D = Ex.C_InvalidCommand)), V.bl (decide (D = Ex.C_Mismatch)), V.bl (decide (D = Ex.C_NoText))]) ++ [V.bl (decide (D = Ex.C_NoValue)), V.bl (decide (D = Ex.C_NoName)), V.bl (decide (D = Ex.C_NoRow))]))) := Same.new (Same.new s2 u3) h3
    have n3 : H p3 = none := Same.free (Same.new (o := .lst [V.bl (decide (D = Ex.C_NoValue)), V.bl (decide (D = Ex.C_NoName)), V.bl (decide (D = Ex.C_NoRow))]) s2 u3) h3
    have e3 := @upd_same (upd H2 t3 (.lst [V.bl (decide (D = Ex.C_NoValue)), V.bl (decide (D = Ex.C_NoName)), V.bl (decide (D = Ex.C_NoRow))])) p3 (.lst ((([V.bl (decide (D = Ex.C_InvalidLetters)), V.bl (decide (D = Ex.C_InvalidMade)), V.bl (decide (D = Ex.C_InvalidBound))] ++ [V.bl (decide (D = Ex.C_InvalidZone)), V.bl (decide (D = Ex.C_InvalidRow)), V.bl (decide (D = Ex.C_InvalidProgram))]) ++ [V.bl (decide (D = Ex.C_InvalidCommand)), V.bl (decide (D = Ex.C_Mismatch)), V.bl (decide (D = Ex.C_NoText))]) ++ [V.bl (decide (D = Ex.C_NoValue)), V.bl (decide (D = Ex.C_NoName)), V.bl (decide (D = Ex.C_NoRow))]))
    generalize hH3 : upd (upd H2 t3 _) p3 _ = H3 at s3 e3 ⊢
    refine ⟨_, rfl, _, rfl, e, D, .ref Ex.C_NoKey, .ref Ex.C_NoKey, _, rfl, (exAt_same hx s3), hE, .own _, kinds_of Ex.mat hD (by simp), (by show (1 : Nat) ≤ sizeLine; decide), fun t4 u4 => ?_⟩
    refine ⟨p3, t4, _, _, rfl, rfl, (Same.new (Same.refl _) u4) _ _ e3, upd_same, (by show (13 : Nat) ≤ sizeLine; decide), fun p4 h4 => ?_⟩
    have s4 : Same H (upd (upd H3 t4 (.lst [V.bl (decide (D = Ex.C_NoKey))])) p4 (.lst (((([V.bl (decide (D = Ex.C_InvalidLetters)), V.bl (decide (D = Ex.C_InvalidMade)), V.bl (decide (D = Ex.C_InvalidBound))] ++ [V.bl (decide (D = Ex.C_InvalidZone)), V.bl (decide (D = Ex.C_InvalidRow)), V.bl (decide (D = Ex.C_InvalidProgram))]) ++ [V.bl (decide (D = Ex.C_InvalidCommand)), V.bl (decide (D = Ex.C_Mismatch)), V.bl (decide (D = Ex.C_NoText))]) ++ [V.bl (decide (D = Ex.C_NoValue)), V.bl (decide (D = Ex.C_NoName)), V.bl (decide (D = Ex.C_NoRow))]) ++ [V.bl (decide (D = Ex.C_NoKey))]))) := Same.new (Same.new s3 u4) h4
    have n4 : H p4 = none := Same.free (Same.new (o := .lst [V.bl (decide (D = Ex.C_NoKey))]) s3 u4) h4
    exact q _ _ s4 n4 upd_same
end
end K01
namespace K01
open PySem PySem.Spec PyProof.Rows L2 U
section
variable {P : Program} {w : World} {K : PySem.W.Frag} {mg : Str → Option Value} {base : Heap}
def rRp (K : PySem.W.Frag) : List V → Hp → VK → Prop := fun xs H Q => ∃ (v : V) (d : PyData) (n k : Nat), xs = [v] ∧ Dp K H v d ∧ Sm d n k ∧ n ≤ 1000000 ∧ k ≤ 50 ∧ Q (.str d.shown) H
theorem dp_same {K : PySem.W.Frag} {H H' : Hp} (s : Same H H') {v : V} {d : PyData} (h : Dp K H v d) : Dp K H' v d :=
  Dp.rec (motive_1 := fun v d _ => Dp K H' v d) (motive_2 := fun vs ds _ => DpAll K H' vs ds) .non .bl .int .str (fun h _ ih => .lst (s.seq h) ih) (fun h _ ih => .tup (Same.tup s h) ih) .nil (fun _ _ a b => .cons a b) h
/-- an exception with its field -/
def ExV (H : Hp) (a C : Addr) (fn : Str) (v : V) : Prop := ∃ dx, H a = some (exo a C (some dx)) ∧ H dx = some (exd dx [(fn, v)])
theorem exc_step {H : Hp} {a dx C : Addr} {fn : Str} {v : V} (ha : H a = none) (hd : H dx = none) (ne : a ≠ dx) :
    Same H (upd (upd H dx (exd dx [(fn, v)])) a (exo a C (some dx))) ∧ ExV (upd (upd H dx (exd dx [(fn, v)])) a (exo a C (some dx))) a C fn v :=
  ⟨Same.new (Same.new (Same.refl _) hd) (by rw [upd_ne ne]; exact ha), dx, upd_same, by rw [upd_ne (Ne.symm ne), upd_same]⟩
theorem exV_same {H H' : Hp} {a C : Addr} {fn : Str} {v : V} (x : ExV H a C fn v) (s : Same H H') : ExV H' a C fn v := by
  obtain ⟨dx, h1, h2⟩ := x
  exact ⟨dx, s _ _ h1, s _ _ h2⟩
theorem exV_at {H : Hp} {a C : Addr} {fn : Str} {v : V} (x : ExV H a C fn v) : ExAt H a C := by
  obtain ⟨dx, h1, h2⟩ := x
  exact .inr ⟨dx, _, h1, h2⟩
def sp_er (K : PySem.W.Frag) : Sp := fun vs H Q _ => ∃ v d, vs = [v] ∧ Val K H v d ∧ ∀ H', Same H H' → Q (.bl true) H'
theorem eqv_refl_bools : ∀ bs : List Bool, PyData.eqvAll (bs.map PyData.bool) (bs.map PyData.bool) = true
  | [] => rfl
  | b :: bs => by
    have := eqv_refl_bools bs
    cases b <;> simpa [PyData.eqvAll, PyData.eqv] using this
theorem dpBools {K : PySem.W.Frag} {H : Hp} : ∀ bs : List Bool, DpAll K H (bs.map V.bl) (bs.map PyData.bool)
  | [] => .nil
  | b :: bs => .cons (.bl b) (dpBools bs)
theorem idx_map {l : List Addr} (nd : l.Nodup) {i : Nat} {D : Addr} (h : l[i]? = some D) : (l.map fun C => V.bl (decide (D = C))) = ((List.range l.length).map fun j => decide (i = j)).map V.bl := by
  refine List.ext_getElem? fun j => ?_
  by_cases hj : j < l.length
  · have h1 : l[j]? = some l[j] := List.getElem?_eq_getElem hj
    simp only [List.getElem?_map, h1, Option.map_some, List.getElem?_range hj]
    have hi := List.getElem?_eq_some_iff.mp h
    obtain ⟨hi, rfl⟩ := hi
    have : (l[i] = l[j]) ↔ i = j := ⟨fun e => (List.getElem?_inj hi nd).mp (by rw [List.getElem?_eq_getElem hi, List.getElem?_eq_getElem hj, e]), fun e => by subst e; rfl⟩
    simp only [this]
  · have h1 : l[j]? = none := List.getElem?_eq_none (by omega)
    simp only [List.getElem?_map, h1, Option.map_none]
    rw [List.getElem?_eq_none (by simp; omega)]
    rfl
theorem rng_map (i n : Nat) : (rngV 0 n).map (fun x => V.bl (decide (V.int (i : Int) = x))) = ((List.range n).map fun j => decide (i = j)).map V.bl := by
  simp only [rngV, List.map_map]
  refine List.map_congr_left fun j _ => ?_
  simp only [Function.comp]
  congr 1
  simp
  omega
theorem eqv_bools (bs : List Bool) : PyData.eqv (.list (bs.map PyData.bool)) (.list (bs.map PyData.bool)) = true := by
  have := eqv_refl_bools bs
  simpa [PyData.eqv] using this
theorem layBools : ∀ bs : List Bool, PyData.canLayAll0 (bs.map PyData.bool) = true
  | [] => rfl
  | n :: ns => by simpa [PyData.canLayAll0, PyData.canLay0] using layBools ns
theorem depBools : ∀ bs : List Bool, PyData.depthAll (bs.map PyData.bool) = 0
  | [] => rfl
  | n :: ns => by simpa [PyData.depthAll, PyData.depth] using depBools ns
theorem shBools (bs : List Bool) : SeqAt.shaped (.list (bs.map PyData.bool)) = true := by
  simp [SeqAt.shaped, PyData.canLay0, PyData.depth, layBools, depBools]
theorem lk1 {fn : Str} {v : V} : ([(fn, v)] : List (Str × V)).lookup fn = some v := by simp [List.lookup]
theorem ok_l_errors_right (T : Top K mg) (Ex : Exs P K mg) : FnG P w K mg base CX0 3 T.f_l_errors_right T.d_l_errors_right ["_law_value_here"] (sp_er K) := by
  have G_l_kinds : FnOk P w K mg base CX0 1 T.f_l_kinds T.d_l_kinds ["_law_error"] (sp_kinds Ex) := ok_l_kinds T Ex
  refine funG_ok0 T.F_l_errors_right sc_l_errors_right (fun vs H Q E h => ?_) (fun cdv A outer s H vs Q E hr h => ?_)
  · obtain ⟨v, d, rfl, _⟩ := h
    rfl
  · obtain ⟨v, d, rfl, hv, q⟩ := h
    obtain ⟨sn, sk, sm, hn, hk⟩ := hv.sm
    refine ⟨_, (pss_cons (ps_par (i := 1) (j := 2) (by rfl) sc_l_errors_right.nd rfl rfl (by decide) rfl rfl (pa_cons (pe_exc (k := 0) base_VE Ex.tc_InvalidMade Ex.tf_InvalidMade Ex.sup (hr.r.mono (by decide)) Ex.g_InvalidMade (by rfl) (pv 0)) (pa_cons (pe_exc (k := 0) base_VE Ex.tc_InvalidZone Ex.tf_InvalidZone Ex.sup (hr.r.mono (by decide)) Ex.g_InvalidZone (by rfl) (pv 0)) pa_nil)) (by rfl))
        (pss_cons (ps_par (i := 3) (j := 4) (by rfl) sc_l_errors_right.nd rfl rfl (by decide) rfl rfl (pa_cons (pe_exc (k := 0) base_VE Ex.tc_InvalidRow Ex.tf_InvalidRow Ex.sup (hr.r.mono (by decide)) Ex.g_InvalidRow (by rfl) (pv 0)) (pa_cons (pe_exc (k := 0) base_VE Ex.tc_InvalidProgram Ex.tf_InvalidProgram Ex.sup (hr.r.mono (by decide)) Ex.g_InvalidProgram (by rfl) (pv 0)) pa_nil)) (by rfl))
        (pss_cons (ps_par3 (i := 5) (j := 6) (l := 7) (by rfl) sc_l_errors_right.nd rfl rfl rfl (by decide) (by decide) (by decide) rfl rfl rfl (pa_cons (pe_exc (k := 0) base_VE Ex.tc_NoText Ex.tf_NoText Ex.sup (hr.r.mono (by decide)) Ex.g_NoText (by rfl) (pv 0)) (pa_cons (pe_exc (k := 0) base_VE Ex.tc_NoValue Ex.tf_NoValue Ex.sup (hr.r.mono (by decide)) Ex.g_NoValue (by rfl) (pv 0)) (pa_cons (pe_exc (k := 0) base_KE Ex.tc_NoKey Ex.tf_NoKey Ex.sup (hr.r.mono (by decide)) Ex.g_NoKey (by rfl) (pv 0)) pa_nil))) (by rfl))
        (pss_cons (ps_par (i := 8) (j := 9) (by rfl) sc_l_errors_right.nd rfl rfl (by decide) rfl rfl (pa_cons (pe_exc (k := 0) base_VE Ex.tc_NoName Ex.tf_NoName Ex.sup (hr.r.mono (by decide)) Ex.g_NoName (by rfl) (pv 0)) (pa_cons (pe_exc (k := 0) base_VE Ex.tc_NoRow Ex.tf_NoRow Ex.sup (hr.r.mono (by decide)) Ex.g_NoRow (by rfl) (pv 0)) pa_nil)) (by rfl))
        (pss_cons (ps_set (i := 10) sc_l_errors_right.nd rfl (Or.inl rfl) (pe_lst (pa_cons (pe_xv (pv 1)) (pa_cons (pe_xv (pv 2)) (pa_cons (pe_xv (pv 3)) (pa_cons (pe_xv (pv 4)) (pa_cons (pe_xv (pv 5)) pa_nil)))))))
        (pss_cons (ps_set (i := 10) sc_l_errors_right.nd rfl (Or.inl rfl) (pe_op op_cat (pv 10) (pe_lst (pa_cons (pe_xv (pv 6)) (pa_cons (pe_xv (pv 8)) (pa_cons (pe_xv (pv 9)) (pa_cons (pe_xv (pv 7)) pa_nil)))))))
        (pss_cons (ps_if (pt_cmpR (op_neD hr.units) (pe_lc (own := [("_law_one", 15)]) (g := gName 15)  (by rfl) sc_l_errors_right.nd (pi_list (pv 10)) (blkOk_by (own := [("_law_one", 15)]) (N := ["_law_value_here", "_law_made", "_law_zone", "_law_row", "_law_line", "_law_text", "_law_number", "_law_key", "_law_name", "_law_at", "_law_told_here", "_law_some", "_law_spot", "_law_error", "_law_plain", "_law_one", "_law_other"]) (sc := defScope s_l_errors_right) (by decide +kernel)) (fun _ _ _ _ _ => pg_name (i := 15) sc_l_errors_right.nd rfl (Or.inl rfl)) (fun _ _ _ _ _ => pts_one (pt_cmpR op_ne (pe_callB (r := rRp K) (by exact (U.call_reprS hr.g hr.units)) (by rfl) T.n_repr (by decide +kernel) (pa_cons (pv 15) pa_nil)) (pe_callB (r := rRp K) (by exact (U.call_reprS hr.g hr.units)) (by rfl) T.n_repr (by decide +kernel) (pa_cons (pv 0) pa_nil)) (nomark _))) (fun _ _ _ _ _ => (pv 15))) (pe_lst pa_nil) (nomark _)) (pss_one (ps_ret pe_bl)) pss_nil)
        (pss_cons (ps_set (i := 11) sc_l_errors_right.nd rfl (Or.inl rfl) (pe_lst (pa_cons (pe_exc0 F.excBase_ValueError Ex.xi_InvalidLetters Ex.g_InvalidLetters Ex.kc_InvalidLetters (by rfl)) (pa_cons (pv 1) (pa_cons (pe_exc0 F.excBase_ValueError Ex.xi_InvalidBound Ex.g_InvalidBound Ex.kc_InvalidBound (by rfl)) (pa_cons (pv 2) (pa_cons (pv 3) (pa_cons (pv 4) pa_nil))))))))
        (pss_cons (ps_set (i := 11) sc_l_errors_right.nd rfl (Or.inl rfl) (pe_op op_cat (pv 11) (pe_lst (pa_cons (pe_exc0 F.excBase_ValueError Ex.xi_InvalidCommand Ex.g_InvalidCommand Ex.kc_InvalidCommand (by rfl)) (pa_cons (pe_exc0 F.excBase_ValueError Ex.xi_Mismatch Ex.g_Mismatch Ex.kc_Mismatch (by rfl)) (pa_cons (pv 5) (pa_cons (pv 6) (pa_cons (pv 8) pa_nil))))))))
        (pss_cons (ps_for PassesOwn.never rfl (pi_enum (by rfl) T.n_enumerate (pa_cons (pe_op op_cat (pv 11) (pe_lst (pa_cons (pv 9) (pa_cons (pv 7) pa_nil)))) pa_nil)) (pg_tup rfl (pgs_cons (pg_name (i := 12) sc_l_errors_right.nd rfl (Or.inr rfl)) (pgs_cons (pg_name (i := 13) sc_l_errors_right.nd rfl (Or.inl rfl)) pgs_nil))) (pss_cons (ps_if (pt_cmpR (op_neD hr.units) (pe_call G_l_kinds (hr.r.mono (by decide)) (by rfl) T.g_l_kinds T.F_l_kinds.kp T.b_l_kinds .nil pass0 (pa_cons (pv 13) pa_nil)) (pe_lc (own := [("_law_other", 16)]) (g := gName 16) (tt := tYes) (by rfl) sc_l_errors_right.nd (pi_range1 (by rfl) T.n_range (pa_cons pe_int pa_nil)) (blkOk_by (own := [("_law_other", 16)]) (N := ["_law_value_here", "_law_made", "_law_zone", "_law_row", "_law_line", "_law_text", "_law_number", "_law_key", "_law_name", "_law_at", "_law_told_here", "_law_some", "_law_spot", "_law_error", "_law_plain", "_law_one", "_law_other"]) (sc := defScope s_l_errors_right) (by decide +kernel)) (fun _ _ _ _ _ => pg_name (i := 16) sc_l_errors_right.nd rfl (Or.inl rfl)) (fun _ _ _ _ _ => pts_nil) (fun _ _ _ _ _ => (pe_cmpR op_eq (pv 12) (pv 16) (nomark _)))) (nomark _)) (pss_one (ps_ret pe_bl)) pss_nil)
        (pss_cons (ps_set (i := 14) sc_l_errors_right.nd rfl (Or.inl rfl) (pe_tup (pa_cons (pe_callB call_isX (by rfl) T.n_isinstance (by decide +kernel) (pa_cons (pv 13) (pa_cons (pe_glob (v := .ref Ex.C_UnderError) (by rfl) Ex.g_UnderError rfl) pa_nil))) (pa_cons (pe_callB call_isX (by rfl) T.n_isinstance (by decide +kernel) (pa_cons (pv 13) (pa_cons (pe_bltn (v := .ty "ValueError") (by rfl) T.n_ValueError (by decide +kernel) rfl) pa_nil))) (pa_cons (pe_callB call_isX (by rfl) T.n_isinstance (by decide +kernel) (pa_cons (pv 13) (pa_cons (pe_bltn (v := .ty "KeyError") (by rfl) T.n_KeyError (by decide +kernel) rfl) pa_nil))) pa_nil)))))
        (pss_one (ps_if (pt_cmpR (op_neD hr.units) (pv 14) (pe_ix ix_list (pe_lst (pa_cons (pe_tup (pa_cons pe_bl (pa_cons pe_bl (pa_cons pe_bl pa_nil)))) (pa_cons (pe_tup (pa_cons pe_bl (pa_cons pe_bl (pa_cons pe_bl pa_nil)))) pa_nil))) (pe_callTy call_int1 (by rfl) T.n_int (by decide +kernel) (pa_cons (pe_cmpR op_eq (pv 12) pe_int (nomark _)) pa_nil)) (fun _ _ => rfl)) (nomark _)) (pss_one (ps_ret pe_bl)) pss_nil)))))
        (pss_one (ps_ret pe_bl)))))))))))), ?_⟩
    refine ⟨_, rfl, fun a1 x1 f1 g1 n1 => ?_⟩
    obtain ⟨s1, e1⟩ := exc_step (C := Ex.C_InvalidMade) (fn := "at") (v := v) f1 g1 n1
    generalize upd (upd H x1 _) a1 _ = H1 at s1 e1 ⊢
    have t1 : Same H H1 := s1
    refine ⟨_, rfl, fun a2 x2 f2 g2 n2 => ?_⟩
    obtain ⟨s2, e2⟩ := exc_step (C := Ex.C_InvalidZone) (fn := "at") (v := v) f2 g2 n2
    generalize upd (upd H1 x2 _) a2 _ = H2 at s2 e2 ⊢
    have t2 : Same H H2 := t1.trans s2
    replace e1 := exV_same e1 s2
    refine ⟨_, _, rfl, ?_⟩
    rw [show (((L2.start ["_law_value_here", "_law_made", "_law_zone", "_law_row", "_law_line", "_law_text", "_law_number", "_law_key", "_law_name", "_law_at", "_law_told_here", "_law_some", "_law_spot", "_law_error", "_law_plain", "_law_one", "_law_other"] [v]).set 1 (some (V.ref a1))).set 2 (some (V.ref a2))) = ([some v, some (V.ref a1), some (V.ref a2), none, none, none, none, none, none, none, none, none, none, none, none, none, none] : L2.St) from rfl]
    refine ⟨_, rfl, fun a3 x3 f3 g3 n3 => ?_⟩
    obtain ⟨s3, e3⟩ := exc_step (C := Ex.C_InvalidRow) (fn := "word") (v := v) f3 g3 n3
    generalize upd (upd H2 x3 _) a3 _ = H3 at s3 e3 ⊢
    have t3 : Same H H3 := t2.trans s3
    replace e1 := exV_same e1 s3
    replace e2 := exV_same e2 s3
    refine ⟨_, rfl, fun a4 x4 f4 g4 n4 => ?_⟩
    obtain ⟨s4, e4⟩ := exc_step (C := Ex.C_InvalidProgram) (fn := "at") (v := v) f4 g4 n4
    generalize upd (upd H3 x4 _) a4 _ = H4 at s4 e4 ⊢
    have t4 : Same H H4 := t3.trans s4
    replace e1 := exV_same e1 s4
    replace e2 := exV_same e2 s4
    replace e3 := exV_same e3 s4
    refine ⟨_, _, rfl, ?_⟩
    rw [show ((([some v, some (V.ref a1), some (V.ref a2), none, none, none, none, none, none, none, none, none, none, none, none, none, none] : L2.St).set 3 (some (V.ref a3))).set 4 (some (V.ref a4))) = ([some v, some (V.ref a1), some (V.ref a2), some (V.ref a3), some (V.ref a4), none, none, none, none, none, none, none, none, none, none, none, none] : L2.St) from rfl]
    refine ⟨_, rfl, fun a5 x5 f5 g5 n5 => ?_⟩
    obtain ⟨s5, e5⟩ := exc_step (C := Ex.C_NoText) (fn := "value") (v := v) f5 g5 n5
    generalize upd (upd H4 x5 _) a5 _ = H5 at s5 e5 ⊢
    have t5 : Same H H5 := t4.trans s5
    replace e1 := exV_same e1 s5
    replace e2 := exV_same e2 s5
    replace e3 := exV_same e3 s5
    replace e4 := exV_same e4 s5
    refine ⟨_, rfl, fun a6 x6 f6 g6 n6 => ?_⟩
    obtain ⟨s6, e6⟩ := exc_step (C := Ex.C_NoValue) (fn := "value") (v := v) f6 g6 n6
    generalize upd (upd H5 x6 _) a6 _ = H6 at s6 e6 ⊢
    have t6 : Same H H6 := t5.trans s6
    replace e1 := exV_same e1 s6
    replace e2 := exV_same e2 s6
    replace e3 := exV_same e3 s6
    replace e4 := exV_same e4 s6
    replace e5 := exV_same e5 s6
    refine ⟨_, rfl, fun a7 x7 f7 g7 n7 => ?_⟩
    obtain ⟨s7, e7⟩ := exc_step (C := Ex.C_NoKey) (fn := "key") (v := v) f7 g7 n7
    generalize upd (upd H6 x7 _) a7 _ = H7 at s7 e7 ⊢
    have t7 : Same H H7 := t6.trans s7
    replace e1 := exV_same e1 s7
    replace e2 := exV_same e2 s7
    replace e3 := exV_same e3 s7
    replace e4 := exV_same e4 s7
    replace e5 := exV_same e5 s7
    replace e6 := exV_same e6 s7
    refine ⟨_, _, _, rfl, ?_⟩
    rw [show (((([some v, some (V.ref a1), some (V.ref a2), some (V.ref a3), some (V.ref a4), none, none, none, none, none, none, none, none, none, none, none, none] : L2.St).set 5 (some (V.ref a5))).set 6 (some (V.ref a6))).set 7 (some (V.ref a7))) = ([some v, some (V.ref a1), some (V.ref a2), some (V.ref a3), some (V.ref a4), some (V.ref a5), some (V.ref a6), some (V.ref a7), none, none, none, none, none, none, none, none, none] : L2.St) from rfl]
    refine ⟨_, rfl, fun a8 x8 f8 g8 n8 => ?_⟩
    obtain ⟨s8, e8⟩ := exc_step (C := Ex.C_NoName) (fn := "number") (v := v) f8 g8 n8
    generalize upd (upd H7 x8 _) a8 _ = H8 at s8 e8 ⊢
    have t8 : Same H H8 := t7.trans s8
    replace e1 := exV_same e1 s8
    replace e2 := exV_same e2 s8
    replace e3 := exV_same e3 s8
    replace e4 := exV_same e4 s8
    replace e5 := exV_same e5 s8
    replace e6 := exV_same e6 s8
    replace e7 := exV_same e7 s8
    refine ⟨_, rfl, fun a9 x9 f9 g9 n9 => ?_⟩
    obtain ⟨s9, e9⟩ := exc_step (C := Ex.C_NoRow) (fn := "at") (v := v) f9 g9 n9
    generalize upd (upd H8 x9 _) a9 _ = H9 at s9 e9 ⊢
    have t9 : Same H H9 := t8.trans s9
    replace e1 := exV_same e1 s9
    replace e2 := exV_same e2 s9
    replace e3 := exV_same e3 s9
    replace e4 := exV_same e4 s9
    replace e5 := exV_same e5 s9
    replace e6 := exV_same e6 s9
    replace e7 := exV_same e7 s9
    replace e8 := exV_same e8 s9
    refine ⟨_, _, rfl, ?_⟩
    rw [show ((([some v, some (V.ref a1), some (V.ref a2), some (V.ref a3), some (V.ref a4), some (V.ref a5), some (V.ref a6), some (V.ref a7), none, none, none, none, none, none, none, none, none] : L2.St).set 8 (some (V.ref a8))).set 9 (some (V.ref a9))) = ([some v, some (V.ref a1), some (V.ref a2), some (V.ref a3), some (V.ref a4), some (V.ref a5), some (V.ref a6), some (V.ref a7), some (V.ref a8), some (V.ref a9), none, none, none, none, none, none, none] : L2.St) from rfl]
    obtain ⟨y1, e1a, e1b⟩ := id e1
    obtain ⟨y2, e2a, e2b⟩ := id e2
    obtain ⟨y3, e3a, e3b⟩ := id e3
    obtain ⟨y4, e4a, e4b⟩ := id e4
    obtain ⟨y5, e5a, e5b⟩ := id e5
    obtain ⟨y6, e6a, e6b⟩ := id e6
    obtain ⟨y7, e7a, e7b⟩ := id e7
    obtain ⟨y8, e8a, e8b⟩ := id e8
    obtain ⟨y9, e9a, e9b⟩ := id e9
    refine ⟨_, rfl, a1, _, y1, _, v, rfl, e1a, e1b, ExcC.xf Ex.ec_InvalidMade, Ex.tc_InvalidMade.no, lk1, _, rfl, a2, _, y2, _, v, rfl, e2a, e2b, ExcC.xf Ex.ec_InvalidZone, Ex.tc_InvalidZone.no, lk1, _, rfl, a3, _, y3, _, v, rfl, e3a, e3b, ExcC.xf Ex.ec_InvalidRow, Ex.tc_InvalidRow.no, lk1, _, rfl, a4, _, y4, _, v, rfl, e4a, e4b, ExcC.xf Ex.ec_InvalidProgram, Ex.tc_InvalidProgram.no, lk1, _, rfl, a5, _, y5, _, v, rfl, e5a, e5b, ExcC.xf Ex.ec_NoText, Ex.tc_NoText.no, lk1, (by show (5 : Nat) ≤ sizeLine; decide), fun p1 h1 => ?_⟩
    have k1 : Same H9 (upd H9 p1 (.lst [v, v, v, v, v])) := Same.new (Same.refl _) h1
    have l1 := @upd_same H9 p1 (.lst [v, v, v, v, v])
    generalize upd H9 p1 _ = H10 at k1 l1 ⊢
    refine ⟨_, rfl, _, rfl, a6, _, y6, _, v, rfl, (k1 _ _ e6a), (k1 _ _ e6b), ExcC.xf Ex.ec_NoValue, Ex.tc_NoValue.no, lk1, _, rfl, a8, _, y8, _, v, rfl, (k1 _ _ e8a), (k1 _ _ e8b), ExcC.xf Ex.ec_NoName, Ex.tc_NoName.no, lk1, _, rfl, a9, _, y9, _, v, rfl, (k1 _ _ e9a), (k1 _ _ e9b), ExcC.xf Ex.ec_NoRow, Ex.tc_NoRow.no, lk1, _, rfl, a7, _, y7, _, v, rfl, (k1 _ _ e7a), (k1 _ _ e7b), ExcC.xf Ex.ec_NoKey, Ex.tc_NoKey.no, lk1, (by show (4 : Nat) ≤ sizeLine; decide), fun p2 h2 => ?_⟩
    have k2 : Same H10 (upd H10 p2 (.lst [v, v, v, v])) := Same.new (Same.refl _) h2
    have l2 := @upd_same H10 p2 (.lst [v, v, v, v])
    generalize upd H10 p2 _ = H11 at k2 l2 ⊢
    refine ⟨p1, p2, _, _, rfl, rfl, k2 _ _ l1, l2, (by show (9 : Nat) ≤ sizeLine; decide), fun p3 h3 => ?_⟩
    have k3 : Same H11 (upd H11 p3 (.lst ([v, v, v, v, v] ++ [v, v, v, v]))) := Same.new (Same.refl _) h3
    have l3 := @upd_same H11 p3 (.lst ([v, v, v, v, v] ++ [v, v, v, v]))
    generalize upd H11 p3 _ = H12 at k3 l3 ⊢
    have t12 : Same H9 H12 := k1.trans (k2.trans k3)
    have u12 : Same H H12 := t9.trans t12
    refine ⟨_, rfl, p3, rfl, ⟨_, SqL.of l3⟩, fun D hD => lcS (src_list K p3 ([v, v, v, v, v] ++ [v, v, v, v])) (fun _ => false) id (SqL.of l3) hD (fun _ => rfl) (by simp) (fun x hx H' s' Q k => ?_) (fun x hx z => nomatch z) (fun H' s' e => ?_)⟩
    · have ex : x = v := by simpa using hx
      subst ex
      have dp := dp_same (u12.trans s') hv.dp
      refine ⟨_, rfl, _, d, sn, sk, rfl, dp, sm, by omega, by omega, _, rfl, _, d, sn, sk, rfl, dp, sm, by omega, by omega, rfl, false, by simp, ?_⟩
      exact k _ (Same.refl _)
    have e0 : H' D = some (.lst []) := by
      rw [e]
      simp
    refine ⟨Nat.zero_le _, fun p4 h4 => ?_⟩
    have k4 : Same H' (upd H' p4 (.lst [])) := Same.new (Same.refl _) h4
    refine ⟨.list [], .list [], .lst (SqL.of (k4 _ _ e0)) .nil, .lst (SqL.of upd_same) .nil, rfl, rfl, false, rfl, iteF ?_⟩
    have t13 : Same H9 (upd H' p4 (.lst [])) := (t12.trans s').trans k4
    generalize upd H' p4 _ = H13 at t13 ⊢
    have u13 : Same H H13 := t9.trans t13
    -- all of them
    intro b1 m1
    have k5 : Same H13 (upd H13 b1 (ExO (.ref Ex.C_InvalidLetters) b1)) := Same.new (Same.refl _) m1
    have o1 := @upd_same H13 b1 (ExO (.ref Ex.C_InvalidLetters) b1)
    generalize upd H13 b1 _ = H14 at k5 o1 ⊢
    refine ⟨_, rfl, fun b2 m2 => ?_⟩
    have k6 : Same H14 (upd H14 b2 (ExO (.ref Ex.C_InvalidBound) b2)) := Same.new (Same.refl _) m2
    have o2 := @upd_same H14 b2 (ExO (.ref Ex.C_InvalidBound) b2)
    generalize upd H14 b2 _ = H15 at k6 o2 ⊢
    refine ⟨_, rfl, _, rfl, _, rfl, (by show (6 : Nat) ≤ sizeLine; decide), fun q1 r1 => ?_⟩
    have k7 : Same H15 (upd H15 q1 (.lst [.ref b1, .ref a1, .ref b2, .ref a2, .ref a3, .ref a4])) := Same.new (Same.refl _) r1
    have o3 := @upd_same H15 q1 (.lst [.ref b1, .ref a1, .ref b2, .ref a2, .ref a3, .ref a4])
    generalize upd H15 q1 _ = H16 at k7 o3 ⊢
    refine ⟨_, rfl, fun b3 m3 => ?_⟩
    have k8 : Same H16 (upd H16 b3 (ExO (.ref Ex.C_InvalidCommand) b3)) := Same.new (Same.refl _) m3
    have o4 := @upd_same H16 b3 (ExO (.ref Ex.C_InvalidCommand) b3)
    generalize upd H16 b3 _ = H17 at k8 o4 ⊢
    intro b4 m4
    have k9 : Same H17 (upd H17 b4 (ExO (.ref Ex.C_Mismatch) b4)) := Same.new (Same.refl _) m4
    have o5 := @upd_same H17 b4 (ExO (.ref Ex.C_Mismatch) b4)
    generalize upd H17 b4 _ = H18 at k9 o5 ⊢
    refine ⟨_, rfl, _, rfl, _, rfl, (by show (5 : Nat) ≤ sizeLine; decide), fun q2 r2 => ?_⟩
    have k10 : Same H18 (upd H18 q2 (.lst [.ref b3, .ref b4, .ref a5, .ref a6, .ref a8])) := Same.new (Same.refl _) r2
    have o6 := @upd_same H18 q2 (.lst [.ref b3, .ref b4, .ref a5, .ref a6, .ref a8])
    generalize upd H18 q2 _ = H19 at k10 o6 ⊢
    refine ⟨q1, q2, _, _, rfl, rfl, k10 _ _ (k9 _ _ (k8 _ _ o3)), o6, (by show (11 : Nat) ≤ sizeLine; decide), fun q3 r3 => ?_⟩
    have k11 : Same H19 (upd H19 q3 (.lst ([.ref b1, .ref a1, .ref b2, .ref a2, .ref a3, .ref a4] ++ [.ref b3, .ref b4, .ref a5, .ref a6, .ref a8]))) := Same.new (Same.refl _) r3
    have o7 := @upd_same H19 q3 (.lst ([.ref b1, .ref a1, .ref b2, .ref a2, .ref a3, .ref a4] ++ [.ref b3, .ref b4, .ref a5, .ref a6, .ref a8]))
    generalize upd H19 q3 _ = H20 at k11 o7 ⊢
    refine ⟨_, rfl, _, rfl, _, rfl, (by show (2 : Nat) ≤ sizeLine; decide), fun q4 r4 => ?_⟩
    have k12 : Same H20 (upd H20 q4 (.lst [.ref a9, .ref a7])) := Same.new (Same.refl _) r4
    have o8 := @upd_same H20 q4 (.lst [.ref a9, .ref a7])
    generalize upd H20 q4 _ = H21 at k12 o8 ⊢
    refine ⟨q3, q4, _, _, rfl, rfl, k12 _ _ o7, o8, (by show (13 : Nat) ≤ sizeLine; decide), fun q5 r5 => ?_⟩
    generalize hxs : ([V.ref b1, .ref a1, .ref b2, .ref a2, .ref a3, .ref a4] ++ [.ref b3, .ref b4, .ref a5, .ref a6, .ref a8]) ++ [.ref a9, .ref a7] = xs
    have k13 : Same H21 (upd H21 q5 (.lst xs)) := Same.new (Same.refl _) r5
    have o9 := @upd_same H21 q5 (.lst xs)
    generalize upd H21 q5 _ = H22 at k13 o9 ⊢
    have w18 : Same H18 H22 := k10.trans (k11.trans (k12.trans k13))
    have w17 := k9.trans w18
    have w15 := k7.trans (k8.trans w17)
    have w14 := k6.trans w15
    have w9 : Same H9 H22 := t13.trans (k5.trans w14)
    have w0 : Same H H22 := t9.trans w9
    have hl : xs.length = 13 := by rw [← hxs]; rfl
    have facts : ∀ i x, xs[i]? = some x → ∃ e D u, x = .ref e ∧ ExAt H22 e D ∧ ExcC K D ∧ Ex.lst[i]? = some D ∧ u = decide (i ≠ 12) ∧ PySem.W.kitOne K (.ref D) (.ref Ex.C_UnderError) = some u ∧ PySem.W.kitOne K (.ref D) (.type "ValueError") = some u ∧ PySem.W.kitOne K (.ref D) (.type "KeyError") = some (!u) := by
      intro i x hx
      have hi : i < 13 := by rw [← hl]; exact (List.getElem?_eq_some_iff.mp hx).1
      subst hxs
      rcases (by omega : i = 0 ∨ i = 1 ∨ i = 2 ∨ i = 3 ∨ i = 4 ∨ i = 5 ∨ i = 6 ∨ i = 7 ∨ i = 8 ∨ i = 9 ∨ i = 10 ∨ i = 11 ∨ i = 12) with rfl | rfl | rfl | rfl | rfl | rfl | rfl | rfl | rfl | rfl | rfl | rfl | rfl
      · exact ⟨b1, _, true, (Option.some.inj hx).symm, .inl (w14 _ _ o1), Ex.ec_InvalidLetters, rfl, rfl, kind_of Ex.un1 (by simp), kind_of Ex.ve1 (by simp), kind_of Ex.ke1 (by simp)⟩
      · exact ⟨a1, _, true, (Option.some.inj hx).symm, exV_at (exV_same e1 w9), Ex.ec_InvalidMade, rfl, rfl, kind_of Ex.un1 (by simp), kind_of Ex.ve1 (by simp), kind_of Ex.ke1 (by simp)⟩
      · exact ⟨b2, _, true, (Option.some.inj hx).symm, .inl (w15 _ _ o2), Ex.ec_InvalidBound, rfl, rfl, kind_of Ex.un1 (by simp), kind_of Ex.ve1 (by simp), kind_of Ex.ke1 (by simp)⟩
      · exact ⟨a2, _, true, (Option.some.inj hx).symm, exV_at (exV_same e2 w9), Ex.ec_InvalidZone, rfl, rfl, kind_of Ex.un1 (by simp), kind_of Ex.ve1 (by simp), kind_of Ex.ke1 (by simp)⟩
      · exact ⟨a3, _, true, (Option.some.inj hx).symm, exV_at (exV_same e3 w9), Ex.ec_InvalidRow, rfl, rfl, kind_of Ex.un1 (by simp), kind_of Ex.ve1 (by simp), kind_of Ex.ke1 (by simp)⟩
      · exact ⟨a4, _, true, (Option.some.inj hx).symm, exV_at (exV_same e4 w9), Ex.ec_InvalidProgram, rfl, rfl, kind_of Ex.un1 (by simp), kind_of Ex.ve1 (by simp), kind_of Ex.ke1 (by simp)⟩
      · exact ⟨b3, _, true, (Option.some.inj hx).symm, .inl (w17 _ _ o4), Ex.ec_InvalidCommand, rfl, rfl, kind_of Ex.un1 (by simp), kind_of Ex.ve1 (by simp), kind_of Ex.ke1 (by simp)⟩
      · exact ⟨b4, _, true, (Option.some.inj hx).symm, .inl (w18 _ _ o5), Ex.ec_Mismatch, rfl, rfl, kind_of Ex.un1 (by simp), kind_of Ex.ve1 (by simp), kind_of Ex.ke1 (by simp)⟩
      · exact ⟨a5, _, true, (Option.some.inj hx).symm, exV_at (exV_same e5 w9), Ex.ec_NoText, rfl, rfl, kind_of Ex.un1 (by simp), kind_of Ex.ve1 (by simp), kind_of Ex.ke1 (by simp)⟩
      · exact ⟨a6, _, true, (Option.some.inj hx).symm, exV_at (exV_same e6 w9), Ex.ec_NoValue, rfl, rfl, kind_of Ex.un1 (by simp), kind_of Ex.ve1 (by simp), kind_of Ex.ke1 (by simp)⟩
      · exact ⟨a8, _, true, (Option.some.inj hx).symm, exV_at (exV_same e8 w9), Ex.ec_NoName, rfl, rfl, kind_of Ex.un1 (by simp), kind_of Ex.ve1 (by simp), kind_of Ex.ke1 (by simp)⟩
      · exact ⟨a9, _, true, (Option.some.inj hx).symm, exV_at (exV_same e9 w9), Ex.ec_NoRow, rfl, rfl, kind_of Ex.un1 (by simp), kind_of Ex.ve1 (by simp), kind_of Ex.ke1 (by simp)⟩
      · exact ⟨a7, _, false, (Option.some.inj hx).symm, exV_at (exV_same e7 w9), Ex.ec_NoKey, rfl, rfl, Ex.un2, Ex.ve2, Ex.ke2⟩
    refine ⟨q5, xs, rfl, SqL.of o9, ?_⟩
    refine for_it (walk_enum (K := K) (a := q5) (xs := xs)) (fun i σ H' => ∃ v12 v13 v14, σ = [some v, some (.ref a1), some (.ref a2), some (.ref a3), some (.ref a4), some (.ref a5), some (.ref a6), some (.ref a7), some (.ref a8), some (.ref a9), some (.ref p3), some (.ref q3), v12, v13, v14, none, none] ∧ Same H22 H')
      ⟨_, _, _, rfl, Same.refl _⟩ (fun i σ H' _ ⟨_, _, _, _, z⟩ => SqL.of (z _ _ o9)) ?_ (fun σ H' ⟨_, _, _, e, z⟩ => by subst e; exact q _ (w0.trans z))
    rintro i x σ Ha Hb hi ⟨v12, v13, v14, rfl, z⟩ ⟨T1, x1, x2, rfl, hT, rfl, e1, e2⟩
    rw [hl] at hi
    cases e1
    obtain ⟨e, D, u, rfl, hE, hC, hidx, hu, kU, kV, kK⟩ := facts i x2 e2
    have kT : Same Ha (upd Ha T1 (.tup [.int (i : Nat), .ref e])) := Same.new (Same.refl _) hT
    refine ⟨T1, _, rfl, SqT.of upd_same, rfl, _, _, rfl, _, _, rfl, rfl, ?_⟩
    generalize upd Ha T1 _ = Hc at kT ⊢
    have zc := z.trans kT
    rw [show (([some v, some (V.ref a1), some (V.ref a2), some (V.ref a3), some (V.ref a4), some (V.ref a5), some (V.ref a6), some (V.ref a7), some (V.ref a8), some (V.ref a9), some (V.ref p3), some (V.ref q3), v12, v13, v14, none, none] : L2.St).set 12 (some (.int (i : Nat)))).set 13 (some (.ref e)) = ([some v, some (V.ref a1), some (V.ref a2), some (V.ref a3), some (V.ref a4), some (V.ref a5), some (V.ref a6), some (V.ref a7), some (V.ref a8), some (V.ref a9), some (V.ref p3), some (V.ref q3), some (.int (i : Nat)), some (.ref e), v14, none, none] : L2.St) from rfl]
    have hmem : D ∈ Ex.lst := List.mem_of_getElem? hidx
    refine ⟨_, rfl, e, D, rfl, exAt_same hE zc, hC, hmem, fun p H' s n ep => ?_⟩
    rw [idx_map (l := Ex.lst) Ex.nd hidx] at ep
    refine ⟨13, rfl, by decide, by decide, fun D2 hD2 => lcM (src_range 0 13) (fun x => V.bl (decide (V.int ((i : Nat) : Int) = x))) trivial hD2 (fun _ => rfl) (by rw [rngV_len]; decide) (fun y hy H' s' Q k => ?_) (fun H'' s' e' => ?_)⟩
    · obtain ⟨j, hj⟩ := List.getElem?_of_mem hy
      rw [rngV_get] at hj
      obtain ⟨_, rfl⟩ := hj
      exact ⟨_, rfl, _, rfl, rfl, k _ (Same.refl _)⟩
    rw [rng_map] at e'
    refine ⟨.list _, .list _, .lst (SqL.of (s' _ _ ep)) (dpBools _), .lst (SqL.of e') (dpBools _), shBools _, shBools _, false, ?_, iteF ?_⟩
    · rw [show Ex.lst.length = 13 from rfl, eqv_bools]
      rfl
    have zd := zc.trans (s.trans s')
    have hx := exAt_same hE zd
    refine ⟨_, rfl, e, D, .ref Ex.C_UnderError, .ref Ex.C_UnderError, u, rfl, hx, hC, .own _, kU, _, rfl, e, D, .ty "ValueError", .type "ValueError", u, rfl, hx, hC, .ty _, kV, _, rfl, e, D, .ty "KeyError", .type "KeyError", !u, rfl, hx, hC, .ty _, kK, (by show (3 : Nat) ≤ sizeLine; decide), fun p5 h5 => ?_⟩
    have k5' : Same H'' (upd H'' p5 (.tup [.bl u, .bl u, .bl (!u)])) := Same.new (Same.refl _) h5
    have o5' := @upd_same H'' p5 (.tup [.bl u, .bl u, .bl (!u)])
    generalize upd H'' p5 _ = Hd at k5' o5' ⊢
    refine ⟨_, rfl, (by show (3 : Nat) ≤ sizeLine; decide), fun w1 z1 => ⟨(by show (3 : Nat) ≤ sizeLine; decide), fun w2 z2 => ⟨(by show (2 : Nat) ≤ sizeLine; decide), fun w3 z3 => ?_⟩⟩⟩
    have r1' : Same Hd (upd Hd w1 (.tup [.bl true, .bl true, .bl false])) := Same.new (Same.refl _) z1
    have c1 := @upd_same Hd w1 (.tup [.bl true, .bl true, .bl false])
    generalize upd Hd w1 _ = He at r1' c1 z2 z3 ⊢
    have r2' : Same He (upd He w2 (.tup [.bl false, .bl false, .bl true])) := Same.new (Same.refl _) z2
    have c2 := @upd_same He w2 (.tup [.bl false, .bl false, .bl true])
    generalize upd He w2 _ = Hf at r2' c2 z3 ⊢
    have r3' : Same Hf (upd Hf w3 (.lst [.ref w1, .ref w2])) := Same.new (Same.refl _) z3
    have c3 := @upd_same Hf w3 (.lst [.ref w1, .ref w2])
    generalize upd Hf w3 _ = Hg at r3' c3 ⊢
    have zz : Same H22 Hg := zd.trans (k5'.trans (r1'.trans (r2'.trans r3')))
    have o6' := r3' _ _ (r2' _ _ (r1' _ _ o5'))
    have c1' := r3' _ _ (r2' _ _ c1)
    have c2' := r3' _ _ c2
    refine ⟨_, rfl, rfl, .inr ⟨_, rfl, ?_⟩⟩
    by_cases h12 : i = 12
    · subst h12
      have eu : u = false := by rw [hu]; rfl
      subst eu
      refine ⟨w3, _, 1, .ref w2, rfl, rfl, SqL.of c3, rfl, ?_⟩
      refine ⟨.tuple [.bool false, .bool false, .bool true], .tuple [.bool false, .bool false, .bool true], .tup (SqT.of o6') (.cons (.bl _) (.cons (.bl _) (.cons (.bl _) .nil))), .tup (SqT.of c2') (.cons (.bl _) (.cons (.bl _) (.cons (.bl _) .nil))), rfl, rfl, false, rfl, iteF ?_⟩
      exact ⟨_, _, _, rfl, zz⟩
    · have eu : u = true := by rw [hu]; exact decide_eq_true h12
      subst eu
      have en : decide (V.int ((i : Nat) : Int) = V.int 12) = false := decide_eq_false (fun z => h12 (by have := V.int.inj z; omega))
      refine ⟨w3, _, 0, .ref w1, rfl, (by rw [en]; rfl), SqL.of c3, rfl, ?_⟩
      refine ⟨.tuple [.bool true, .bool true, .bool false], .tuple [.bool true, .bool true, .bool false], .tup (SqT.of o6') (.cons (.bl _) (.cons (.bl _) (.cons (.bl _) .nil))), .tup (SqT.of c1') (.cons (.bl _) (.cons (.bl _) (.cons (.bl _) .nil))), rfl, rfl, false, rfl, iteF ?_⟩
      exact ⟨_, _, _, rfl, zz⟩
end
end K01
namespace K01
open PySem PySem.Spec PyProof.Rows L2 U
section
variable {P : Program} {w : World} {K : PySem.W.Frag} {mg : Str → Option Value} {base : Heap}
theorem ok_l_keeps_itself (T : Top K mg) (Ex : Exs P K mg) : FnG P w K mg base CX0 3 T.f_l_keeps_itself T.d_l_keeps_itself ["_law_value_here"] (sp_er K) := by
  refine funG_ok0 T.F_l_keeps_itself sc_l_keeps_itself (fun vs H Q E h => ?_) (fun cdv A outer s H vs Q E hr h => ?_)
  · obtain ⟨v, d, rfl, _⟩ := h
    rfl
  · obtain ⟨v, d, rfl, hv, q⟩ := h
    obtain ⟨sn, sk, sm, hn, hk⟩ := hv.sm
    refine ⟨_, (pss_cons (ps_par (i := 1) (j := 2) (by rfl) sc_l_keeps_itself.nd rfl rfl (by decide) rfl rfl (pa_cons (pe_lst (pa_cons (pv 0) pa_nil)) (pa_cons (pe_lst (pa_cons pe_str (pa_cons (pv 0) pa_nil))) pa_nil)) (by rfl))
        (pss_cons (ps_set (i := 3) sc_l_keeps_itself.nd rfl (Or.inl rfl) (pe_lst (pa_cons (pe_xv (pe_exc (k := 0) base_VE Ex.tc_InvalidMade Ex.tf_InvalidMade Ex.sup (hr.r.mono (by decide)) Ex.g_InvalidMade (by rfl) (pv 1))) (pa_cons (pe_xv (pe_exc (k := 0) base_VE Ex.tc_InvalidZone Ex.tf_InvalidZone Ex.sup (hr.r.mono (by decide)) Ex.g_InvalidZone (by rfl) (pv 1))) (pa_cons (pe_xv (pe_exc (k := 0) base_VE Ex.tc_InvalidRow Ex.tf_InvalidRow Ex.sup (hr.r.mono (by decide)) Ex.g_InvalidRow (by rfl) (pv 1))) (pa_cons (pe_xv (pe_exc (k := 0) base_VE Ex.tc_InvalidProgram Ex.tf_InvalidProgram Ex.sup (hr.r.mono (by decide)) Ex.g_InvalidProgram (by rfl) (pv 1))) pa_nil))))))
        (pss_cons (ps_set (i := 3) sc_l_keeps_itself.nd rfl (Or.inl rfl) (pe_op op_cat (pv 3) (pe_lst (pa_cons (pe_xv (pe_exc (k := 0) base_VE Ex.tc_NoText Ex.tf_NoText Ex.sup (hr.r.mono (by decide)) Ex.g_NoText (by rfl) (pv 1))) (pa_cons (pe_xv (pe_exc (k := 0) base_VE Ex.tc_NoValue Ex.tf_NoValue Ex.sup (hr.r.mono (by decide)) Ex.g_NoValue (by rfl) (pv 1))) (pa_cons (pe_xv (pe_exc (k := 0) base_VE Ex.tc_NoName Ex.tf_NoName Ex.sup (hr.r.mono (by decide)) Ex.g_NoName (by rfl) (pv 1))) (pa_cons (pe_xv (pe_exc (k := 0) base_VE Ex.tc_NoRow Ex.tf_NoRow Ex.sup (hr.r.mono (by decide)) Ex.g_NoRow (by rfl) (pv 1))) (pa_cons (pe_xv (pe_exc (k := 0) base_KE Ex.tc_NoKey Ex.tf_NoKey Ex.sup (hr.r.mono (by decide)) Ex.g_NoKey (by rfl) (pv 1))) pa_nil))))))))
        (pss_cons (ps_set (i := 4) sc_l_keeps_itself.nd rfl (Or.inl rfl) (pe_exc (k := 0) base_VE Ex.tc_NoText Ex.tf_NoText Ex.sup (hr.r.mono (by decide)) Ex.g_NoText (by rfl) (pv 2)))
        (pss_cons (ps_expr (pe_bm PySem.F.plainAttrs_list PySem.F.slot_list_append PySem.F.type_list_append mt_append (pv 1) (pa_cons pe_int pa_nil)))
        (pss_cons (ps_expr (pe_bm PySem.F.plainAttrs_list PySem.F.slot_list_insert PySem.F.type_list_insert mt_insert (pv 2) (pa_cons pe_int (pa_cons pe_int pa_nil))))
        (pss_cons (ps_if (pt_cmpR (op_neD hr.units) (pe_lc (own := [("_law_one", 5)]) (g := gName 5)  (by rfl) sc_l_keeps_itself.nd (pi_list (pv 3)) (blkOk_by (own := [("_law_one", 5)]) (N := ["_law_value_here", "_law_kept", "_law_more", "_law_told_here", "_law_again", "_law_one"]) (sc := defScope s_l_keeps_itself) (by decide +kernel)) (fun _ _ _ _ _ => pg_name (i := 5) sc_l_keeps_itself.nd rfl (Or.inl rfl)) (fun _ _ _ _ _ => pts_one (pt_cmpR op_ne (pe_callB (r := rRp K) (by exact (U.call_reprS hr.g hr.units)) (by rfl) T.n_repr (by decide +kernel) (pa_cons (pv 5) pa_nil)) (pe_callB (r := rRp K) (by exact (U.call_reprS hr.g hr.units)) (by rfl) T.n_repr (by decide +kernel) (pa_cons (pe_lst (pa_cons (pv 0) (pa_cons pe_int pa_nil))) pa_nil)) (nomark _))) (fun _ _ _ _ _ => (pv 5))) (pe_lst pa_nil) (nomark _)) (pss_one (ps_ret pe_bl)) pss_nil)
        (pss_one (ps_ret (pe_cmpR op_eq (pe_callB (r := rRp K) (by exact (U.call_reprS hr.g hr.units)) (by rfl) T.n_repr (by decide +kernel) (pa_cons (pe_xv (pv 4)) pa_nil)) (pe_callB (r := rRp K) (by exact (U.call_reprS hr.g hr.units)) (by rfl) T.n_repr (by decide +kernel) (pa_cons (pe_lst (pa_cons pe_str (pa_cons pe_int (pa_cons (pv 0) pa_nil)))) pa_nil)) (nomark _))))))))))), ?_⟩
    refine ⟨_, rfl, (by show (1 : Nat) ≤ sizeLine; decide), fun p1 h1 => ?_⟩
    have s1 : Same H (upd H p1 (.lst [v])) := Same.new (Same.refl _) h1
    have e1 := @upd_same H p1 (.lst [v])
    generalize upd H p1 _ = H1 at s1 e1 ⊢
    refine ⟨_, rfl, (by show (2 : Nat) ≤ sizeLine; decide), fun p2 h2 => ?_⟩
    have s2 : Same H1 (upd H1 p2 (.lst [.str "a", v])) := Same.new (Same.refl _) h2
    have e2 := @upd_same H1 p2 (.lst [.str "a", v])
    have n2 : H p2 = none := s1.free h2
    have n12 : p1 ≠ p2 := ne_of_none e1 h2
    generalize upd H1 p2 _ = H2 at s2 e2 ⊢
    refine ⟨_, _, rfl, ?_⟩
    rw [show ((L2.start ["_law_value_here", "_law_kept", "_law_more", "_law_told_here", "_law_again", "_law_one"] [v]).set 1 (some (V.ref p1))).set 2 (some (V.ref p2)) = ([some v, some (.ref p1), some (.ref p2), none, none, none] : L2.St) from rfl]
    refine ⟨_, rfl, fun a1 x1 f1 g1 m1 => ?_⟩
    obtain ⟨s3, w1⟩ := exc_step (C := Ex.C_InvalidMade) (fn := "at") (v := V.ref p1) f1 g1 m1
    generalize upd (upd H2 x1 _) a1 _ = H3 at s3 w1 ⊢
    obtain ⟨y1, wa1, wb1⟩ := w1
    refine ⟨a1, _, y1, _, .ref p1, rfl, wa1, wb1, ExcC.xf Ex.ec_InvalidMade, Ex.tc_InvalidMade.no, lk1, ?_⟩
    refine ⟨_, rfl, fun a2 x2 f2 g2 m2 => ?_⟩
    obtain ⟨s4, w2⟩ := exc_step (C := Ex.C_InvalidZone) (fn := "at") (v := V.ref p1) f2 g2 m2
    generalize upd (upd H3 x2 _) a2 _ = H4 at s4 w2 ⊢
    obtain ⟨y2, wa2, wb2⟩ := w2
    refine ⟨a2, _, y2, _, .ref p1, rfl, wa2, wb2, ExcC.xf Ex.ec_InvalidZone, Ex.tc_InvalidZone.no, lk1, ?_⟩
    refine ⟨_, rfl, fun a3 x3 f3 g3 m3 => ?_⟩
    obtain ⟨s5, w3⟩ := exc_step (C := Ex.C_InvalidRow) (fn := "word") (v := V.ref p1) f3 g3 m3
    generalize upd (upd H4 x3 _) a3 _ = H5 at s5 w3 ⊢
    obtain ⟨y3, wa3, wb3⟩ := w3
    refine ⟨a3, _, y3, _, .ref p1, rfl, wa3, wb3, ExcC.xf Ex.ec_InvalidRow, Ex.tc_InvalidRow.no, lk1, ?_⟩
    refine ⟨_, rfl, fun a4 x4 f4 g4 m4 => ?_⟩
    obtain ⟨s6, w4⟩ := exc_step (C := Ex.C_InvalidProgram) (fn := "at") (v := V.ref p1) f4 g4 m4
    generalize upd (upd H5 x4 _) a4 _ = H6 at s6 w4 ⊢
    obtain ⟨y4, wa4, wb4⟩ := w4
    refine ⟨a4, _, y4, _, .ref p1, rfl, wa4, wb4, ExcC.xf Ex.ec_InvalidProgram, Ex.tc_InvalidProgram.no, lk1, ?_⟩
    refine ⟨(by show (4 : Nat) ≤ sizeLine; decide), fun t1 i1 => ?_⟩
    have s7 : Same H6 (upd H6 t1 (.lst [.ref p1, .ref p1, .ref p1, .ref p1])) := Same.new (Same.refl _) i1
    have o1 := @upd_same H6 t1 (.lst [.ref p1, .ref p1, .ref p1, .ref p1])
    generalize upd H6 t1 _ = H7 at s7 o1 ⊢
    refine ⟨_, rfl, ?_⟩
    refine ⟨_, rfl, fun a5 x5 f5 g5 m5 => ?_⟩
    obtain ⟨s8, w5⟩ := exc_step (C := Ex.C_NoText) (fn := "value") (v := V.ref p1) f5 g5 m5
    generalize upd (upd H7 x5 _) a5 _ = H8 at s8 w5 ⊢
    obtain ⟨y5, wa5, wb5⟩ := w5
    refine ⟨a5, _, y5, _, .ref p1, rfl, wa5, wb5, ExcC.xf Ex.ec_NoText, Ex.tc_NoText.no, lk1, ?_⟩
    refine ⟨_, rfl, fun a6 x6 f6 g6 m6 => ?_⟩
    obtain ⟨s9, w6⟩ := exc_step (C := Ex.C_NoValue) (fn := "value") (v := V.ref p1) f6 g6 m6
    generalize upd (upd H8 x6 _) a6 _ = H9 at s9 w6 ⊢
    obtain ⟨y6, wa6, wb6⟩ := w6
    refine ⟨a6, _, y6, _, .ref p1, rfl, wa6, wb6, ExcC.xf Ex.ec_NoValue, Ex.tc_NoValue.no, lk1, ?_⟩
    refine ⟨_, rfl, fun a7 x7 f7 g7 m7 => ?_⟩
    obtain ⟨s10, w7⟩ := exc_step (C := Ex.C_NoName) (fn := "number") (v := V.ref p1) f7 g7 m7
    generalize upd (upd H9 x7 _) a7 _ = H10 at s10 w7 ⊢
    obtain ⟨y7, wa7, wb7⟩ := w7
    refine ⟨a7, _, y7, _, .ref p1, rfl, wa7, wb7, ExcC.xf Ex.ec_NoName, Ex.tc_NoName.no, lk1, ?_⟩
    refine ⟨_, rfl, fun a8 x8 f8 g8 m8 => ?_⟩
    obtain ⟨s11, w8⟩ := exc_step (C := Ex.C_NoRow) (fn := "at") (v := V.ref p1) f8 g8 m8
    generalize upd (upd H10 x8 _) a8 _ = H11 at s11 w8 ⊢
    obtain ⟨y8, wa8, wb8⟩ := w8
    refine ⟨a8, _, y8, _, .ref p1, rfl, wa8, wb8, ExcC.xf Ex.ec_NoRow, Ex.tc_NoRow.no, lk1, ?_⟩
    refine ⟨_, rfl, fun a9 x9 f9 g9 m9 => ?_⟩
    obtain ⟨s12, w9⟩ := exc_step (C := Ex.C_NoKey) (fn := "key") (v := V.ref p1) f9 g9 m9
    generalize upd (upd H11 x9 _) a9 _ = H12 at s12 w9 ⊢
    obtain ⟨y9, wa9, wb9⟩ := w9
    refine ⟨a9, _, y9, _, .ref p1, rfl, wa9, wb9, ExcC.xf Ex.ec_NoKey, Ex.tc_NoKey.no, lk1, ?_⟩
    refine ⟨(by show (5 : Nat) ≤ sizeLine; decide), fun t2 i2 => ?_⟩
    have s13 : Same H12 (upd H12 t2 (.lst [.ref p1, .ref p1, .ref p1, .ref p1, .ref p1])) := Same.new (Same.refl _) i2
    have o2 := @upd_same H12 t2 (.lst [.ref p1, .ref p1, .ref p1, .ref p1, .ref p1])
    generalize upd H12 t2 _ = H13 at s13 o2 ⊢
    refine ⟨t1, t2, _, _, rfl, rfl, (s13 _ _ (s12 _ _ (s11 _ _ (s10 _ _ (s9 _ _ (s8 _ _ o1)))))), o2, (by show (9 : Nat) ≤ sizeLine; decide), fun t3 i3 => ?_⟩
    have s14 : Same H13 (upd H13 t3 (.lst ([.ref p1, .ref p1, .ref p1, .ref p1] ++ [.ref p1, .ref p1, .ref p1, .ref p1, .ref p1]))) := Same.new (Same.refl _) i3
    have o3 := @upd_same H13 t3 (.lst ([.ref p1, .ref p1, .ref p1, .ref p1] ++ [.ref p1, .ref p1, .ref p1, .ref p1, .ref p1]))
    generalize upd H13 t3 _ = H14 at s14 o3 ⊢
    refine ⟨_, rfl, fun a10 x10 f10 g10 m10 => ?_⟩
    obtain ⟨s15, w10⟩ := exc_step (C := Ex.C_NoText) (fn := "value") (v := V.ref p2) f10 g10 m10
    generalize upd (upd H14 x10 _) a10 _ = H15 at s15 w10 ⊢
    obtain ⟨y10, wa10, wb10⟩ := w10
    have o3 := s15 _ _ o3
    have S2 : Same H2 H15 := (s3.trans (s4.trans (s5.trans (s6.trans (s7.trans (s8.trans (s9.trans (s10.trans (s11.trans (s12.trans (s13.trans (s14.trans s15))))))))))))
    have S0 : Same H H15 := s1.trans (s2.trans S2)
    have E1 := S2 _ _ (s2 _ _ e1)
    have E2 := S2 _ _ e2
    refine ⟨_, rfl, .inl ⟨rfl, _, SqL.of E1⟩, p1, _, _, rfl, rfl, E1, (by show (1 : Nat) < sizeLine; decide), ?_⟩
    have E2' : (upd H15 p1 (.lst ([v] ++ [.int 5]))) p2 = some (.lst [.str "a", v]) := by rw [upd_ne (Ne.symm n12)]; exact E2
    refine ⟨_, rfl, .inl ⟨rfl, _, SqL.of E2'⟩, p2, _, 1, .int 6, rfl, rfl, E2', (by show (2 : Nat) < sizeLine; decide), by decide, by decide, ?_⟩
    dsimp only
    rw [show (List.take (Int.toNat 1) [V.str (Str.ofString "a"), v] ++ [V.int 6] ++ List.drop (Int.toNat 1) [V.str (Str.ofString "a"), v]) = [V.str (Str.ofString "a"), V.int 6, v] from rfl]
    have F1 : (upd (upd H15 p1 (.lst ([v] ++ [.int 5]))) p2 (.lst [.str "a", .int 6, v])) p1 = some (.lst [v, .int 5]) := by rw [upd_ne n12, upd_same]; rfl
    have F2 : (upd (upd H15 p1 (.lst ([v] ++ [.int 5]))) p2 (.lst [.str "a", .int 6, v])) p2 = some (.lst [.str "a", .int 6, v]) := upd_same
    have U0 : Same H (upd (upd H15 p1 (.lst ([v] ++ [.int 5]))) p2 (.lst [.str "a", .int 6, v])) := Same.mut (Same.mut S0 h1) n2
    have ne3 : t3 ≠ p1 ∧ t3 ≠ p2 := ⟨ne_of o3 E1 (by intro z; have := HO.lst.inj z; simp at this), ne_of o3 E2 (by intro z; have := HO.lst.inj z; simp at this)⟩
    have F3 : (upd (upd H15 p1 (.lst ([v] ++ [.int 5]))) p2 (.lst [.str "a", .int 6, v])) t3 = some (.lst ([.ref p1, .ref p1, .ref p1, .ref p1] ++ [.ref p1, .ref p1, .ref p1, .ref p1, .ref p1])) := by rw [upd_ne ne3.2, upd_ne ne3.1]; exact o3
    have neA : a10 ≠ p1 ∧ a10 ≠ p2 := ⟨ne_of wa10 E1 (by intro z; cases z), ne_of wa10 E2 (by intro z; cases z)⟩
    have neY : y10 ≠ p1 ∧ y10 ≠ p2 := ⟨ne_of wb10 E1 (by intro z; cases z), ne_of wb10 E2 (by intro z; cases z)⟩
    have F4 : (upd (upd H15 p1 (.lst ([v] ++ [.int 5]))) p2 (.lst [.str "a", .int 6, v])) a10 = some (exo a10 Ex.C_NoText (some y10)) := by rw [upd_ne neA.2, upd_ne neA.1]; exact wa10
    have F5 : (upd (upd H15 p1 (.lst ([v] ++ [.int 5]))) p2 (.lst [.str "a", .int 6, v])) y10 = some (exd y10 [("value", .ref p2)]) := by rw [upd_ne neY.2, upd_ne neY.1]; exact wb10
    generalize upd (upd H15 p1 (.lst ([v] ++ [.int 5]))) p2 (.lst [.str "a", .int 6, v]) = Hm at F1 F2 U0 F3 F4 F5 ⊢
    have sm5 : Sm (.list [d, .int 5]) _ _ := Sm.lst (SmAll.cons (k := 4) sm (SmAll.cons (Sm.int (i := 5) (by decide)) SmAll.nil (by decide)) hk)
    have sm6 : Sm (.list [.str "a", .int 6, d]) _ _ := Sm.lst (SmAll.cons (k := 4) (Sm.str (l := [97]) (by decide)) (SmAll.cons (Sm.int (i := 6) (by decide)) (SmAll.cons sm SmAll.nil hk) (by decide)) (by decide))
    refine ⟨_, rfl, t3, rfl, ⟨_, SqL.of F3⟩, fun D hD => lcS (src_list K t3 ([.ref p1, .ref p1, .ref p1, .ref p1] ++ [.ref p1, .ref p1, .ref p1, .ref p1, .ref p1])) (fun _ => false) id (SqL.of F3) hD (fun _ => rfl) (by simp) (fun x hx H' s' Q k => ?_) (fun x hx z => nomatch z) (fun H' s' e => ?_)⟩
    · have ex : x = .ref p1 := by simpa using hx
      subst ex
      have dp := dp_same (U0.trans s') hv.dp
      refine ⟨_, rfl, _, _, _, _, rfl, .lst (SqL.of (s' _ _ F1)) (.cons dp (.cons (.int 5) .nil)), sm5, (by simp; omega), by decide, _, rfl, (by show (2 : Nat) ≤ sizeLine; decide), fun r hr' => ?_⟩
      have kr : Same H' (upd H' r (.lst [v, .int 5])) := Same.new (Same.refl _) hr'
      exact ⟨_, _, _, _, rfl, .lst (SqL.of upd_same) (.cons (dp_same kr dp) (.cons (.int 5) .nil)), sm5, (by simp; omega), by decide, rfl, false, by simp, k _ kr⟩
    have e0 : H' D = some (.lst []) := by
      rw [e]
      simp
    refine ⟨Nat.zero_le _, fun p4 h4 => ?_⟩
    have k4 : Same H' (upd H' p4 (.lst [])) := Same.new (Same.refl _) h4
    refine ⟨.list [], .list [], .lst (SqL.of (k4 _ _ e0)) .nil, .lst (SqL.of upd_same) .nil, rfl, rfl, false, rfl, iteF ?_⟩
    have G0 := s'.trans k4
    have dp := dp_same (U0.trans G0) hv.dp
    refine ⟨_, rfl, a10, _, y10, _, .ref p2, rfl, G0 _ _ F4, G0 _ _ F5, ExcC.xf Ex.ec_NoText, Ex.tc_NoText.no, lk1, ?_⟩
    refine ⟨_, _, _, _, rfl, .lst (SqL.of (G0 _ _ F2)) (.cons (.str _) (.cons (.int 6) (.cons dp .nil))), sm6, (by simp; omega), by decide, _, rfl, (by show (3 : Nat) ≤ sizeLine; decide), fun r hr' => ?_⟩
    have kr : Same (upd H' p4 (.lst [])) (upd (upd H' p4 (.lst [])) r (.lst [.str "a", .int 6, v])) := Same.new (Same.refl _) hr'
    refine ⟨_, _, _, _, rfl, .lst (SqL.of upd_same) (.cons (.str _) (.cons (.int 6) (.cons (dp_same kr dp) .nil))), sm6, (by simp; omega), by decide, rfl, ?_⟩
    rw [decide_eq_true rfl]
    exact q _ (U0.trans (G0.trans kr))
end
end K01
namespace K01
open PySem PySem.Spec PyProof.Rows L2 U
section
variable {P : Program} {w : World} {K : PySem.W.Frag} {mg : Str → Option Value} {base : Heap}
theorem cut_S (L : List Nat) (lo hi : Option Int) : ∃ c : List Nat, cutS (S L) lo hi = S c ∧ c.length ≤ L.length ∧ ∀ x ∈ c, x ∈ L := by
  refine ⟨(cutS (S L) lo hi).cps.toList, (S_cps _).symm, ?_, fun x hx => ?_⟩
  · have := cutS_length (S L) lo hi
    rw [S_len] at this
    simpa [Str.length] using this
  · unfold cutS at hx
    rw [List.toList_toArray] at hx
    have := List.mem_of_mem_drop (List.mem_of_mem_take hx)
    rwa [S_toList] at this
theorem app_sml {x y : List Nat} (h1 : ∀ z ∈ x, z < 1114112) (h2 : ∀ z ∈ y, z < 1114112) : ∀ z ∈ x ++ y, z < 1114112 := fun z hz => by
  rcases List.mem_append.mp hz with h | h
  · exact h1 z h
  · exact h2 z h
def spSpoilt : Sp := fun vs H Q _ => ∃ (a c : Addr) (L : List Nat), vs = [.ref a, .str (S L)] ∧ Deal H a c ∧ L ≠ [] ∧ L.length ≤ 10 ∧ (∀ x ∈ L, x < 1114112) ∧
  ∀ v H', ((∃ l : List Nat, v = .str (S l) ∧ l.length ≤ 60 ∧ ∀ x ∈ l, x < 1114112) ∨ (NotS H' v ∧ ∀ p, v = .ref p → H p = none)) → Deal H' a c → Kp a c H H' → Q v H'
theorem ok_l_spoilt (T : Top K mg) (Ex : Exs P K mg) : FnOk P w K mg base CX0 3 T.f_l_spoilt T.d_l_spoilt ["_law_deal_here", "_law_letters_here"] spSpoilt := by
  have G_l_draw : FnOk P w K mg base CX0 1 T.f_l_draw T.d_l_draw ["_law_deal_here", "_law_many"] spDraw := ok_l_draw T
  have G_l_pickL : FnOk P w K mg base CX0 2 T.f_l_pick T.d_l_pick ["_law_deal_here", "_law_some"] (spPickL K) := ok_l_pickL T
  refine T.F_l_spoilt.ok sc_l_spoilt (fun vs H Q E h => ?_) (fun cdv A outer s H vs Q E hr h => ?_)
  · obtain ⟨a, c, L, rfl, _⟩ := h
    rfl
  · obtain ⟨a, c, L, rfl, d, hne, hl, hL, q⟩ := h
    have hpos : 0 < L.length := List.length_pos_iff.mpr hne
    have hsz : (S L).length ≤ sizeLine := by rw [S_len, sizeLine_eq]; omega
    refine ⟨_, (pss_cons (ps_set (i := 2) sc_l_spoilt.nd rfl (Or.inl rfl) (pe_call G_l_draw (hr.mono (by decide)) (by rfl) T.g_l_draw T.F_l_draw.kp T.b_l_draw .nil pass0 (pa_cons (pv 0) (pa_cons (pe_callB call_len_str (by rfl) T.n_len (by decide +kernel) (pa_cons (pv 1) pa_nil)) pa_nil))))
        (pss_cons (ps_set (i := 3) sc_l_spoilt.nd rfl (Or.inl rfl) (pe_call G_l_pickL (hr.mono (by decide)) (by rfl) T.g_l_pick T.F_l_pick.kp T.b_l_pick .nil pass0 (pa_cons (pv 0) (pa_cons (pe_lst (pa_cons pe_str (pa_cons pe_str (pa_cons pe_str (pa_cons pe_str (pa_cons pe_str (pa_cons pe_str (pa_cons (pe_ix ix_str (pv 1) (pv 2) (fun _ _ => rfl)) (pa_cons pe_str (pa_cons pe_str (pa_cons pe_str pa_nil))))))))))) pa_nil))))
        (pss_cons (ps_set (i := 4) sc_l_spoilt.nd rfl (Or.inl rfl) (pe_lst (pa_cons (pe_op op_add_str (pe_op op_add_str (pe_slice sl_str (pv 1) po_none (po_some (pv 2))) (pv 3)) (pe_slice sl_str (pv 1) (po_some (pv 2)) po_none)) (pa_cons (U.pe_revS (pv 1)) (pa_cons (pe_ix ix_str (pv 1) pe_int (fun _ _ => rfl)) (pa_cons pe_str (pa_cons (pe_callTy (U.call_listS rfl) (by rfl) T.n_list (by decide +kernel) (pa_cons (pv 1) pa_nil)) (pa_cons (pe_op U.op_mul_str (pv 1) pe_int) (pa_cons (pe_tup (pa_cons (pv 1) pa_nil)) pa_nil)))))))))
        (pss_cons (ps_set (i := 5) sc_l_spoilt.nd rfl (Or.inl rfl) (pe_op op_add_str (pe_slice sl_str (pv 1) (po_some (pe_op op_add (pv 2) pe_int)) (po_some (pe_op op_add (pv 2) pe_int))) (pe_slice sl_str (pv 1) (po_some (pv 2)) (po_some (pe_op op_add (pv 2) pe_int)))))
        (pss_cons (ps_set (i := 6) sc_l_spoilt.nd rfl (Or.inl rfl) (pe_op op_add_str (pe_op op_add_str (pe_slice sl_str (pv 1) po_none (po_some (pv 2))) (pv 5)) (pe_slice sl_str (pv 1) (po_some (pe_op op_add (pv 2) pe_int)) po_none)))
        (pss_cons (ps_set (i := 4) sc_l_spoilt.nd rfl (Or.inl rfl) (pe_op op_cat (pv 4) (pe_lst (pa_cons pe_non (pa_cons pe_int (pa_cons pe_str (pa_cons (pe_op op_add_str (pe_ix ix_str (pv 1) (pv 2) (fun _ _ => rfl)) (pv 3)) pa_nil)))))))
        (pss_one (ps_ret (pe_call G_l_pickL (hr.mono (by decide)) (by rfl) T.g_l_pick T.F_l_pick.kp T.b_l_pick .nil pass0 (pa_cons (pv 0) (pa_cons (pe_op op_cat (pv 4) (pe_op op_rep (pe_lst (pa_cons (pv 6) pa_nil)) pe_int)) pa_nil))))))))))), ?_⟩
    refine ⟨_, rfl, _, rfl, _, rfl, hsz, a, c, _, rfl, d, ?_, ?_, fun r H1 r0 r1 d1 kp1 => ?_⟩
    · rw [S_len]; omega
    · rw [S_len]; omega
    rw [S_len] at r1
    have hi : r.toNat < L.length := by omega
    -- the odd one
    refine ⟨_, rfl, _, rfl, _, rfl, _, _, L[r.toNat], rfl, rfl, hsz, ?_, (by show (10 : Nat) ≤ sizeLine; decide), fun p0 h0 => ?_⟩
    · rw [S_toList]
      exact atI_int r0 (List.getElem?_eq_getElem hi)
    have m0 := d1.ne h0
    have n0 : H p0 = none := d.free kp1 d1 h0
    refine ⟨a, c, p0, _, rfl, d1.new h0, SqL.of upd_same, m0.1, m0.2, by simp, by simp, fun odd H2 ho d2 kp2 => ?_⟩
    have kk2 : Kp a c H H2 := (kp1.new n0).trans kp2
    obtain ⟨lo, rfl, llo, slo⟩ : ∃ lo : List Nat, odd = .str (S lo) ∧ lo.length ≤ 2 ∧ ∀ x ∈ lo, x < 1114112 := by
      simp only [List.mem_cons, List.not_mem_nil, or_false] at ho
      rcases ho with rfl | rfl | rfl | rfl | rfl | rfl | rfl | rfl | rfl | rfl
      · exact ⟨[65], rfl, by decide, by decide⟩
      · exact ⟨[32], rfl, by decide, by decide⟩
      · exact ⟨[64], rfl, by decide, by decide⟩
      · exact ⟨[126], rfl, by decide, by decide⟩
      · exact ⟨[44], rfl, by decide, by decide⟩
      · exact ⟨[58], rfl, by decide, by decide⟩
      · exact ⟨[L[r.toNat]], rfl, by simp, fun x hx => by rw [List.mem_singleton.mp hx]; exact hL _ (List.getElem_mem hi)⟩
      · exact ⟨[10], rfl, by decide, by decide⟩
      · exact ⟨[33], rfl, by decide, by decide⟩
      · exact ⟨[122, 123], rfl, by decide, by decide⟩
    obtain ⟨c1, e1, l1, mm1⟩ := cut_S L none (some r)
    obtain ⟨c2, e2, l2, mm2⟩ := cut_S L (some r) none
    obtain ⟨c3, e3, l3, mm3⟩ := cut_S L (some (r + 1)) (some (r + 2))
    obtain ⟨c4, e4, l4, mm4⟩ := cut_S L (some r) (some (r + 1))
    obtain ⟨c5, e5, l5, mm5⟩ := cut_S L (some (r + 2)) none
    have bd : ∀ x y : List Nat, x.length ≤ 40 → y.length ≤ 40 → (S x).length + (S y).length ≤ sizeLine := fun x y h1 h2 => by rw [S_len, S_len, sizeLine_eq]; omega
    refine ⟨_, rfl, _, rfl, _, rfl, _, rfl, hsz, ?_⟩
    rw [e1]
    refine ⟨_, rfl, S c1, S lo, rfl, rfl, bd _ _ (by omega) (by omega), ?_⟩
    rw [S_app]
    refine ⟨_, rfl, _, rfl, _, rfl, _, rfl, hsz, ?_⟩
    rw [e2]
    refine ⟨S (c1 ++ lo), S c2, rfl, rfl, bd _ _ (by rw [List.length_append]; omega) (by omega), ?_⟩
    rw [S_app]
    refine ⟨_, rfl, L, rfl, (by rw [sizeLine_eq]; omega), ?_⟩
    refine ⟨_, rfl, _, _, L[0], rfl, rfl, hsz, (by rw [S_toList]; exact atI_int (by decide) (List.getElem?_eq_getElem hpos)), ?_⟩
    refine ⟨_, rfl, L, rfl, (by rw [sizeLine_eq]; omega), fun p1 h1 => ?_⟩
    have m1 := d2.ne h1
    have n1 : H p1 = none := d.free kk2 d2 h1
    have s3 : Kp a c H (upd H2 p1 (.lst (chars L))) := kk2.new n1
    have d3 : Deal (upd H2 p1 (.lst (chars L))) a c := d2.new h1
    have f1 := @upd_same H2 p1 (.lst (chars L))
    generalize upd H2 p1 (.lst (chars L)) = H3 at s3 d3 f1 ⊢
    refine ⟨_, rfl, L, 2, rfl, rfl, by omega, by decide, ?_⟩
    refine ⟨_, rfl, (by show (1 : Nat) ≤ sizeLine; decide), fun p2 h2 => ?_⟩
    have m2 := d3.ne h2
    have n2 : H p2 = none := d.free s3 d3 h2
    have s4 : Kp a c H (upd H3 p2 (.tup [.str (S L)])) := s3.new n2
    have d4 : Deal (upd H3 p2 (.tup [.str (S L)])) a c := d3.new h2
    have f2 := @upd_same H3 p2 (.tup [.str (S L)])
    have g1 := (Same.new (o := .tup [.str (S L)]) (Same.refl H3) h2) _ _ f1
    generalize upd H3 p2 (.tup [.str (S L)]) = H4 at s4 d4 f2 g1 ⊢
    refine ⟨(by show (7 : Nat) ≤ sizeLine; decide), fun p3 h3 => ?_⟩
    generalize hx7 : [V.str (S (c1 ++ lo ++ c2)), V.str (S L.reverse), V.str ⟨#[L[0]]⟩, V.str (Str.ofString ""), V.ref p1, V.str (S (rep L 2)), V.ref p2] = x7
    have n3 : H p3 = none := d.free s4 d4 h3
    have t5 : Same H4 (upd H4 p3 (.lst x7)) := Same.new (Same.refl _) h3
    have s5 : Kp a c H (upd H4 p3 (.lst x7)) := s4.new n3
    have d5 : Deal (upd H4 p3 (.lst x7)) a c := d4.new h3
    have f3 := @upd_same H4 p3 (.lst x7)
    generalize upd H4 p3 (.lst x7) = H5 at t5 s5 d5 f3 ⊢
    -- both, swapped
    refine ⟨_, rfl, _, rfl, _, _, rfl, rfl, _, rfl, _, rfl, _, _, rfl, rfl, _, rfl, _, rfl, hsz, ?_⟩
    dsimp only
    rw [e3]
    refine ⟨_, rfl, _, rfl, _, rfl, _, rfl, _, _, rfl, rfl, _, rfl, _, rfl, hsz, ?_⟩
    dsimp only
    rw [e4]
    refine ⟨S c3, S c4, rfl, rfl, bd _ _ (by omega) (by omega), ?_⟩
    rw [S_app]
    refine ⟨_, rfl, _, rfl, _, rfl, _, rfl, hsz, ?_⟩
    rw [e1]
    refine ⟨_, rfl, S c1, S (c3 ++ c4), rfl, rfl, bd _ _ (by omega) (by rw [List.length_append]; omega), ?_⟩
    rw [S_app]
    refine ⟨_, rfl, _, rfl, _, _, rfl, rfl, _, rfl, _, rfl, hsz, ?_⟩
    dsimp only
    rw [e5]
    refine ⟨S (c1 ++ (c3 ++ c4)), S c5, rfl, rfl, bd _ _ (by rw [List.length_append, List.length_append]; omega) (by omega), ?_⟩
    rw [S_app]
    generalize hsw : c1 ++ (c3 ++ c4) ++ c5 = sw
    have ssw : ∀ z ∈ sw, z < 1114112 := by
      rw [← hsw]
      exact app_sml (app_sml (fun z h => hL z (mm1 z h)) (app_sml (fun z h => hL z (mm3 z h)) (fun z h => hL z (mm4 z h)))) (fun z h => hL z (mm5 z h))
    have lsw : sw.length ≤ 40 := by rw [← hsw, List.length_append, List.length_append, List.length_append]; omega
    refine ⟨_, rfl, _, rfl, _, rfl, _, _, L[r.toNat], rfl, rfl, hsz, (by rw [S_toList]; exact atI_int r0 (List.getElem?_eq_getElem hi)), ?_⟩
    refine ⟨_, rfl, S [L[r.toNat]], S lo, rfl, rfl, bd _ _ (by simp) (by omega), ?_⟩
    rw [S_app]
    refine ⟨(by show (4 : Nat) ≤ sizeLine; decide), fun p4 h4 => ?_⟩
    generalize hx4 : [V.non, V.int 3, V.str (Str.ofString "-./012"), V.str (S ([L[r.toNat]] ++ lo))] = x4
    have lx7 : x7.length = 7 := by rw [← hx7]; rfl
    have lx4 : x4.length = 4 := by rw [← hx4]; rfl
    have n4 : H p4 = none := d.free s5 d5 h4
    have t6 : Same H5 (upd H5 p4 (.lst x4)) := Same.new (Same.refl _) h4
    have s6 : Kp a c H (upd H5 p4 (.lst x4)) := s5.new n4
    have d6 : Deal (upd H5 p4 (.lst x4)) a c := d5.new h4
    have f4 := @upd_same H5 p4 (.lst x4)
    generalize upd H5 p4 (.lst x4) = H6 at t6 s6 d6 f4 ⊢
    refine ⟨p3, p4, x7, x4, rfl, rfl, t6 _ _ f3, f4, (by rw [lx7, lx4, sizeLine_eq]; omega), fun p5 h5 => ?_⟩
    have n5 : H p5 = none := d.free s6 d6 h5
    have t7 : Same H6 (upd H6 p5 (.lst (x7 ++ x4))) := Same.new (Same.refl _) h5
    have s7 : Kp a c H (upd H6 p5 (.lst (x7 ++ x4))) := s6.new n5
    have d7 : Deal (upd H6 p5 (.lst (x7 ++ x4))) a c := d6.new h5
    have f5 := @upd_same H6 p5 (.lst (x7 ++ x4))
    generalize upd H6 p5 (.lst (x7 ++ x4)) = H7 at t7 s7 d7 f5 ⊢
    refine ⟨_, rfl, _, rfl, _, rfl, (by show (1 : Nat) ≤ sizeLine; decide), fun p6 h6 => ?_⟩
    have n6 : H p6 = none := d.free s7 d7 h6
    have t8 : Same H7 (upd H7 p6 (.lst [.str (S sw)])) := Same.new (Same.refl _) h6
    have s8 : Kp a c H (upd H7 p6 (.lst [.str (S sw)])) := s7.new n6
    have d8 : Deal (upd H7 p6 (.lst [.str (S sw)])) a c := d7.new h6
    have f6 := @upd_same H7 p6 (.lst [.str (S sw)])
    generalize upd H7 p6 (.lst [.str (S sw)]) = H8 at t8 s8 d8 f6 ⊢
    refine ⟨p6, 3, _, rfl, rfl, f6, by decide, by decide, (by show (3 : Nat) ≤ sizeLine; decide), fun p7 h7 => ?_⟩
    have n7 : H p7 = none := d.free s8 d8 h7
    have t9 : Same H8 (upd H8 p7 (.lst (List.replicate (3 : Int).toNat [V.str (S sw)]).flatten)) := Same.new (Same.refl _) h7
    have s9 : Kp a c H (upd H8 p7 (.lst (List.replicate (3 : Int).toNat [V.str (S sw)]).flatten)) := s8.new n7
    have d9 : Deal (upd H8 p7 (.lst (List.replicate (3 : Int).toNat [V.str (S sw)]).flatten)) a c := d8.new h7
    have f7 : (upd H8 p7 (.lst (List.replicate (3 : Int).toNat [V.str (S sw)]).flatten)) p7 = some (.lst [.str (S sw), .str (S sw), .str (S sw)]) := upd_same
    generalize upd H8 p7 (.lst (List.replicate (3 : Int).toNat [V.str (S sw)]).flatten) = H9 at t9 s9 d9 f7 ⊢
    refine ⟨p5, p7, x7 ++ x4, _, rfl, rfl, t9 _ _ (t8 _ _ f5), f7, (by rw [List.length_append, lx7, lx4, sizeLine_eq]; simp), fun p8 h8 => ?_⟩
    have n8 : H p8 = none := d.free s9 d9 h8
    have m8 := d9.ne h8
    have t10 : Same H9 (upd H9 p8 (.lst (x7 ++ x4 ++ [.str (S sw), .str (S sw), .str (S sw)]))) := Same.new (Same.refl _) h8
    have s10 : Kp a c H (upd H9 p8 (.lst (x7 ++ x4 ++ [.str (S sw), .str (S sw), .str (S sw)]))) := s9.new n8
    have d10 : Deal (upd H9 p8 (.lst (x7 ++ x4 ++ [.str (S sw), .str (S sw), .str (S sw)]))) a c := d9.new h8
    have f8 := @upd_same H9 p8 (.lst (x7 ++ x4 ++ [.str (S sw), .str (S sw), .str (S sw)]))
    generalize upd H9 p8 (.lst (x7 ++ x4 ++ [.str (S sw), .str (S sw), .str (S sw)])) = H10 at t10 s10 d10 f8 ⊢
    refine ⟨a, c, p8, _, rfl, d10, SqL.of f8, m8.1, m8.2, by simp, (by rw [List.length_append, List.length_append, lx7, lx4]; simp), fun v H11 hv d11 kp11 => ?_⟩
    have kf := s10.trans kp11
    have up : Same H4 H10 := t5.trans (t6.trans (t7.trans (t8.trans (t9.trans t10))))
    refine q v H11 ?_ d11 kf
    subst hx7 hx4
    simp only [List.cons_append, List.nil_append, List.append_assoc, List.mem_cons, List.not_mem_nil, or_false] at hv
    rcases hv with rfl | rfl | rfl | rfl | rfl | rfl | rfl | rfl | rfl | rfl | rfl | rfl | rfl | rfl
    · exact .inl ⟨_, rfl, by simp only [List.length_append]; omega, app_sml (fun z h => hL z (mm1 z h)) (app_sml slo (fun z h => hL z (mm2 z h)))⟩
    · exact .inl ⟨_, rfl, by rw [List.length_reverse]; omega, fun z h => hL z (List.mem_reverse.mp h)⟩
    · exact .inl ⟨[L[0]], rfl, by simp, fun x hx => by rw [List.mem_singleton.mp hx]; exact hL _ (List.getElem_mem hpos)⟩
    · exact .inl ⟨[], rfl, by simp, by simp⟩
    · exact .inr ⟨.inr (.inr (.inr ⟨p1, _, rfl, .inl (kp11 _ _ m1.1 m1.2 (up _ _ g1))⟩)), fun p z => by cases z; exact n1⟩
    · exact .inl ⟨_, rfl, by rw [rep_len]; omega, fun z h => hL z (rep_mem h)⟩
    · exact .inr ⟨.inr (.inr (.inr ⟨p2, _, rfl, .inr (kp11 _ _ m2.1 m2.2 (up _ _ f2))⟩)), fun p z => by cases z; exact n2⟩
    · exact .inr ⟨.inl rfl, fun _ z => nomatch z⟩
    · exact .inr ⟨.inr (.inr (.inl ⟨_, rfl⟩)), fun _ z => nomatch z⟩
    · exact .inl ⟨[45, 46, 47, 48, 49, 50], rfl, by simp, by decide⟩
    · exact .inl ⟨_, rfl, by simp; omega, app_sml (fun x hx => by rw [List.mem_singleton.mp hx]; exact hL _ (List.getElem_mem hi)) slo⟩
    · exact .inl ⟨_, rfl, by omega, ssw⟩
    · exact .inl ⟨_, rfl, by omega, ssw⟩
    · exact .inl ⟨_, rfl, by omega, ssw⟩
end
end K01
namespace K01
open PySem PySem.Spec PyProof.Rows L2 U
section
variable {P : Program} {w : World} {K : PySem.W.Frag} {mg : Str → Option Value} {base : Heap}
theorem within_of {L l : List Nat} (h : ∀ x ∈ l, x ∈ L) : within L l = true := by
  unfold within
  rw [List.all_eq_true]
  exact fun x hx => decide_eq_true (h x hx)
theorem asc_of_pw {l : List Nat} (h : l.Pairwise (· < ·)) : asc l = true := by
  unfold asc
  rw [List.all_eq_true]
  intro i hi
  rw [List.mem_range] at hi
  refine decide_eq_true ?_
  have h1 : i < l.length := by omega
  have h2 : i + 1 < l.length := by omega
  have := List.pairwise_iff_getElem.mp h i (i + 1) h1 h2 (by omega)
  simpa [List.getD, List.getElem?_eq_getElem h1, List.getElem?_eq_getElem h2] using this
theorem good_of {L : List Nat} {n : Nat} (h : Letters L n) (h2 : 2 ≤ n) (h5 : n ≤ 5) : good L = true := by
  unfold good
  rw [within_of h.sub, asc_of_pw h.asc]
  have := h.len
  simp; omega
/-- what a list of signs says that are not in L -/
theorem out_nil (L l : List Nat) : PyData.eqv (.list (((l.filter fun c => !decide (c ∈ L)).map fun c => S [c]).map PyData.str)) (.list []) = within L l := by
  have : (PyData.eqv (.list (((l.filter fun c => !decide (c ∈ L)).map fun c => S [c]).map PyData.str)) (.list [])) = decide ((l.filter fun c => !decide (c ∈ L)) = []) := by
    cases (l.filter fun c => !decide (c ∈ L)) <;> simp [PyData.eqv, PyData.eqvAll]
  rw [this]
  unfold within
  rw [Bool.eq_iff_iff, decide_eq_true_iff, List.filter_eq_nil_iff, List.all_eq_true]
  constructor
  · intro h x hx
    have := h x hx
    simpa using this
  · intro h x hx
    have := h x hx
    simpa using this
theorem out_filter (L l : List Nat) : (chars l).filter (fun x => !decide (sg x ∈ L)) = ((l.filter fun c => !decide (c ∈ L)).map fun c => S [c]).map V.str := by
  simp only [chars, List.filter_map, List.map_map]
  rfl
theorem dpStrs {K : PySem.W.Frag} {H : Hp} : ∀ zs : List Str, DpAll K H (zs.map V.str) (zs.map PyData.str)
  | [] => .nil
  | z :: zs => .cons (.str z) (dpStrs zs)
theorem layStrs : ∀ bs : List Str, (∀ z ∈ bs, PyData.strOk z = true) → PyData.canLayAll0 (bs.map PyData.str) = true
  | [], _ => rfl
  | n :: ns, h => by
    have h1 := h n (List.mem_cons_self ..)
    have h2 := layStrs ns fun z hz => h z (List.mem_cons_of_mem _ hz)
    simp [PyData.canLayAll0, PyData.canLay0, h1, h2]
theorem depStrs : ∀ bs : List Str, PyData.depthAll (bs.map PyData.str) = 0
  | [] => rfl
  | n :: ns => by simpa [PyData.depthAll, PyData.depth] using depStrs ns
theorem shStrs (bs : List Str) (h : ∀ z ∈ bs, PyData.strOk z = true) : SeqAt.shaped (.list (bs.map PyData.str)) = true := by
  simp [SeqAt.shaped, PyData.canLay0, PyData.depth, layStrs bs h, depStrs]
theorem one_ok {c : Nat} (h : c < 1114112) : PyData.strOk (S [c]) = true := by
  simp [PyData.strOk, S, h]
theorem outs_ok {L l : List Nat} (h : ∀ x ∈ l, x < 1114112) : ∀ z ∈ ((l.filter fun c => !decide (c ∈ L)).map fun c => S [c]), PyData.strOk z = true := fun z hz => by
  obtain ⟨c, hc, rfl⟩ := List.mem_map.mp hz
  exact one_ok (h c (List.mem_filter.mp hc).1)
def spLaw (K : PySem.W.Frag) : Sp := fun vs H Q _ => ∃ (a : Addr) (ns : List Int), vs = [.ref a] ∧ SqL K H a (ns.map V.int) ∧ ns.length ≤ 63 ∧ ∀ H', Q (.bl true) H'
/-- cut the row of statements behind the fourth: what is to be shown of the rest, and that the four lead there -/
theorem suff4 {t1 t2 t3 t4 u : TS} {D : Ends} {σ : L2.St} {H : Hp} (P : Hp → Prop) (σ' : L2.St) (hk : ∀ H', P H' → u D σ' H') (h : (∀ H', P H' → u D σ' H') → tSeq t1 (tSeq t2 (tSeq t3 (tSeq t4 u))) D σ H) :
    tSeq t1 (tSeq t2 (tSeq t3 (tSeq t4 u))) D σ H := h hk
def ascP (l : List Nat) : V → Bool | .int i => !decide (l.getD i.toNat 0 < l.getD (i.toNat + 1) 0) | _ => false
def ascZ (l : List Nat) (n : Nat) : List Int := ((List.range n).filter fun i => !decide (l.getD i 0 < l.getD (i + 1) 0)).map fun i => ((i : Nat) : Int)
theorem ascP_filter (l : List Nat) (n : Nat) : (rngV 0 n).filter (ascP l) = (ascZ l n).map V.int := by
  simp [rngV, ascZ, List.filter_map, Function.comp_def, ascP]
theorem ascZ_nil {l : List Nat} {n : Nat} (h : l.length = n + 1) : decide (ascZ l n = []) = asc l := by
  unfold asc ascZ
  rw [h, Nat.add_sub_cancel, Bool.eq_iff_iff, decide_eq_true_iff, List.map_eq_nil_iff, List.filter_eq_nil_iff, List.all_eq_true]
  constructor
  · intro h x hx
    have := h x hx
    simpa using this
  · intro h x hx
    have := h x hx
    simpa using this
theorem notS_kp {a c : Addr} {H H' : Hp} {v : V} (h : NotS H v) (ne : ∀ p, v = .ref p → p ≠ a ∧ p ≠ c) (kp : Kp a c H H') : NotS H' v := by
  rcases h with h | h | h | ⟨p, xs, rfl, e | e⟩
  · exact .inl h
  · exact .inr (.inl h)
  · exact .inr (.inr (.inl h))
  · exact .inr (.inr (.inr ⟨p, xs, rfl, .inl (kp _ _ (ne p rfl).1 (ne p rfl).2 e)⟩))
  · exact .inr (.inr (.inr ⟨p, xs, rfl, .inr (kp _ _ (ne p rfl).1 (ne p rfl).2 e)⟩))
theorem notS_upd {q : Addr} {o : HO} {H : Hp} {v : V} (h : NotS H v) (ne : ∀ p, v = .ref p → p ≠ q) : NotS (upd H q o) v := by
  rcases h with h | h | h | ⟨p, xs, rfl, e | e⟩
  · exact .inl h
  · exact .inr (.inl h)
  · exact .inr (.inr (.inl h))
  · exact .inr (.inr (.inr ⟨p, xs, rfl, .inl (by rw [upd_ne (ne p rfl)]; exact e)⟩))
  · exact .inr (.inr (.inr ⟨p, xs, rfl, .inr (by rw [upd_ne (ne p rfl)]; exact e)⟩))
theorem notS_some {H : Hp} {p : Addr} (h : NotS H (.ref p)) : ∃ o, H p = some o := by
  rcases h with h | ⟨_, h⟩ | ⟨_, h⟩ | ⟨p', xs, h, e | e⟩
  · cases h
  · cases h
  · cases h
  · cases h; exact ⟨_, e⟩
  · cases h; exact ⟨_, e⟩
/-- a pair that is asked -/
def Item (H : Hp) (L : List Nat) (v due : V) : Prop := (∃ l : List Nat, v = .str (S l) ∧ l.length ≤ 1000 ∧ (∀ x ∈ l, x < 1114112) ∧ (due = .non ∨ due = .bl (within L l))) ∨ (NotS H v ∧ (due = .non ∨ due = .bl false))
theorem item_same {H H' : Hp} {L : List Nat} {v due : V} (h : Item H L v due) (s : Same H H') : Item H' L v due := by
  rcases h with h | ⟨h, d⟩
  · exact .inl h
  · exact .inr ⟨h.same s, d⟩
theorem within_out {L l : List Nat} {x : Nat} (hx : x ∈ l) (h : x ∉ L) : within L l = false := by
  rw [Bool.eq_false_iff]
  intro z
  unfold within at z
  rw [List.all_eq_true] at z
  exact h (of_decide_eq_true (z x hx))
theorem ok_law (T : Top K mg) (Ex : Exs P K mg) : FnG P w K mg base CX0 4 T.f_law T.d_law ["_law_script"] (spLaw K) := by
  have G_l_deal : FnOk P w K mg base CX0 1 T.f_l_deal T.d_l_deal ["_law_script", "_law_base"] (spDeal K) := ok_l_deal T
  have G_l_draw : FnOk P w K mg base CX0 1 T.f_l_draw T.d_l_draw ["_law_deal_here", "_law_many"] spDraw := ok_l_draw T
  have G_l_letters : FnOk P w K mg base CX0 2 T.f_l_letters T.d_l_letters ["_law_deal_here", "_law_many"] spLetters := ok_l_letters T
  have G_l_word : FnOk P w K mg base CX0 3 T.f_l_word T.d_l_word ["_law_deal_here", "_law_letters_here", "_law_most"] spWord := ok_l_word T
  have G_l_pickS : FnOk P w K mg base CX0 2 T.f_l_pick T.d_l_pick ["_law_deal_here", "_law_some"] spPickS := ok_l_pickS T
  have G_l_value : FnOk P w K mg base CX0 3 T.f_l_value T.d_l_value ["_law_deal_here"] (spVal K) := ok_l_value T
  have G_l_errors_right : FnG P w K mg base CX0 3 T.f_l_errors_right T.d_l_errors_right ["_law_value_here"] (sp_er K) := ok_l_errors_right T Ex
  have G_l_keeps_itself : FnG P w K mg base CX0 3 T.f_l_keeps_itself T.d_l_keeps_itself ["_law_value_here"] (sp_er K) := ok_l_keeps_itself T Ex
  have G_l_told : FnOk P w K mg base CX0 3 T.f_l_told T.d_l_told ["_law_value_here"] sp_told := ok_l_told T Ex
  have G_l_spoilt : FnOk P w K mg base CX0 3 T.f_l_spoilt T.d_l_spoilt ["_law_deal_here", "_law_letters_here"] spSpoilt := ok_l_spoilt T Ex
  have G_is_text : FnOk P w K mg base CX0 1 T.f_is_text T.d_is_text ["letters", "value"] sp_text := ok_is_text T Ex
  refine funG_ok0 T.F_law sc_law (fun vs H Q E h => ?_) (fun cdv A outer s H vs Q E hr h => ?_)
  · obtain ⟨a, ns, rfl, _⟩ := h
    rfl
  · obtain ⟨s0, ns, rfl, hS, hlen, q⟩ := h
    refine ⟨_, (pss_cons (ps_set (i := 1) sc_law.nd rfl (Or.inl rfl) (pe_call G_l_deal (hr.r.mono (by decide)) (by rfl) T.g_l_deal T.F_l_deal.kp T.b_l_deal .nil pass0 (pa_cons (pv 0) (pa_cons pe_int pa_nil))))
        (pss_cons (ps_for PassesOwn.never rfl (pi_range1 (by rfl) T.n_range (pa_cons pe_int pa_nil)) (pg_name (i := 2) sc_law.nd rfl (Or.inl rfl)) (pss_cons (ps_set (i := 3) sc_law.nd rfl (Or.inr rfl) (pe_call G_l_letters (hr.r.mono (by decide)) (by rfl) T.g_l_letters T.F_l_letters.kp T.b_l_letters .nil pass0 (pa_cons (pv 1) (pa_cons (pe_op op_add pe_int (pe_call G_l_draw (hr.r.mono (by decide)) (by rfl) T.g_l_draw T.F_l_draw.kp T.b_l_draw .nil pass0 (pa_cons (pv 1) (pa_cons pe_int pa_nil)))) pa_nil))))
        (pss_cons (ps_if (PW.pt (pw_or (pt_not (pt_val (pe_callG G_l_errors_right (hr.mono (by decide)) (by rfl) T.g_l_errors_right T.F_l_errors_right.kp T.b_l_errors_right .nil pass0 (pa_cons (pe_call G_l_value (hr.r.mono (by decide)) (by rfl) T.g_l_value T.F_l_value.kp T.b_l_value .nil pass0 (pa_cons (pv 1) pa_nil)) pa_nil)))) (pw_or1 (pt_cmpR op_notBl (pe_call G_l_told (hr.r.mono (by decide)) (by rfl) T.g_l_told T.F_l_told.kp T.b_l_told .nil pass0 (pa_cons (pv 3) pa_nil)) pe_bl (nomark _))))) (pss_one (ps_ret pe_bl)) pss_nil)
        (pss_cons (ps_if (pt_not (pt_val (pe_callG G_l_keeps_itself (hr.mono (by decide)) (by rfl) T.g_l_keeps_itself T.F_l_keeps_itself.kp T.b_l_keeps_itself .nil pass0 (pa_cons (pe_call G_l_value (hr.r.mono (by decide)) (by rfl) T.g_l_value T.F_l_value.kp T.b_l_value .nil pass0 (pa_cons (pv 1) pa_nil)) pa_nil)))) (pss_one (ps_ret pe_bl)) pss_nil)
        (pss_cons (ps_set (i := 4) sc_law.nd rfl (Or.inr rfl) (pe_call G_l_spoilt (hr.r.mono (by decide)) (by rfl) T.g_l_spoilt T.F_l_spoilt.kp T.b_l_spoilt .nil pass0 (pa_cons (pv 1) (pa_cons (pv 3) pa_nil))))
        (pss_cons (ps_set (i := 5) sc_law.nd rfl (Or.inr rfl) pe_str)
        (pss_cons (ps_set (i := 6) sc_law.nd rfl (Or.inl rfl) (pe_and (pe_callB call_isi (by rfl) T.n_isinstance (by decide +kernel) (pa_cons (pv 4) (pa_cons (pe_bltn (v := .ty "str") (by rfl) T.n_str (by decide +kernel) rfl) pa_nil))) (pe_and (pe_chain op_lt op_lt pe_int (pe_callB call_len_str (by rfl) T.n_len (by decide +kernel) (pa_cons (pv 4) pa_nil)) pe_int) (pe_one (pe_cmpR (op_eqD hr.units) (pe_lc (own := [("_law_sign", 14)]) (g := gName 14)  (by rfl) sc_law.nd (pi_str (pv 4)) (blkOk_by (own := [("_law_sign", 14)]) (N := ["_law_script", "_law_deal_here", "_law_turn", "_law_letters_here", "_law_odd", "_law_signs", "_law_is_good", "_law_word_here", "_law_some", "_law_far", "_law_deep", "_law_k", "_law_value_here", "_law_due", "_law_sign", "_law_at"]) (sc := defScope s_law) (by decide +kernel)) (fun _ _ _ _ _ => pg_name (i := 14) sc_law.nd rfl (Or.inl rfl)) (fun _ _ _ _ _ => pts_one (pt_cmpR op_notIn_sign (pv 14) (pv 5) (by rfl))) (fun _ _ _ _ _ => (pv 14))) (pe_lst pa_nil) (nomark _))))))
        (pss_cons (ps_if (pt_val (pv 6)) (pss_one (ps_set (i := 6) sc_law.nd rfl (Or.inl rfl) (pe_cmpR (op_eqD hr.units) (pe_lc (own := [("_law_at", 15)]) (g := gName 15)  (by rfl) sc_law.nd (pi_range1 (by rfl) T.n_range (pa_cons (pe_op op_sub (pe_callB call_len_str (by rfl) T.n_len (by decide +kernel) (pa_cons (pv 4) pa_nil)) pe_int) pa_nil)) (blkOk_by (own := [("_law_at", 15)]) (N := ["_law_script", "_law_deal_here", "_law_turn", "_law_letters_here", "_law_odd", "_law_signs", "_law_is_good", "_law_word_here", "_law_some", "_law_far", "_law_deep", "_law_k", "_law_value_here", "_law_due", "_law_sign", "_law_at"]) (sc := defScope s_law) (by decide +kernel)) (fun _ _ _ _ _ => pg_name (i := 15) sc_law.nd rfl (Or.inl rfl)) (fun _ _ _ _ _ => pts_one (pt_not (pt_cmpR op_lt_str (pe_ix ix_str (pv 4) (pv 15) (fun _ _ => rfl)) (pe_ix ix_str (pv 4) (pe_op op_add (pv 15) pe_int) (fun _ _ => rfl)) (nomark _)))) (fun _ _ _ _ _ => (pv 15))) (pe_lst pa_nil) (nomark _)))) pss_nil)
        (pss_cons (ps_if (pt_cmpR op_ne (pe_call G_l_told (hr.r.mono (by decide)) (by rfl) T.g_l_told T.F_l_told.kp T.b_l_told .nil pass0 (pa_cons (pv 4) pa_nil)) (pe_ifExp (pt_val (pv 6)) pe_bl pe_str) (nomark _)) (pss_one (ps_ret pe_bl)) pss_nil)
        (pss_cons (ps_set (i := 7) sc_law.nd rfl (Or.inl rfl) (pe_call G_l_word (hr.r.mono (by decide)) (by rfl) T.g_l_word T.F_l_word.kp T.b_l_word .nil pass0 (pa_cons (pv 1) (pa_cons (pv 3) (pa_cons pe_int pa_nil)))))
        (pss_cons (ps_set (i := 8) sc_law.nd rfl (Or.inl rfl) (pe_lst (pa_cons (pe_tup (pa_cons (pv 7) (pa_cons pe_bl pa_nil))) (pa_cons (pe_tup (pa_cons pe_str (pa_cons pe_bl pa_nil))) (pa_cons (pe_tup (pa_cons (pe_op op_add_str (pv 7) pe_str) (pa_cons pe_bl pa_nil))) (pa_cons (pe_tup (pa_cons (pe_callTy (U.call_listS rfl) (by rfl) T.n_list (by decide +kernel) (pa_cons (pv 7) pa_nil)) (pa_cons pe_bl pa_nil))) (pa_cons (pe_tup (pa_cons (pe_call G_l_value (hr.r.mono (by decide)) (by rfl) T.g_l_value T.F_l_value.kp T.b_l_value .nil pass0 (pa_cons (pv 1) pa_nil)) (pa_cons pe_non pa_nil))) pa_nil)))))))
        (pss_cons (ps_expr (pe_bm PySem.F.plainAttrs_list PySem.F.slot_list_append PySem.F.type_list_append mt_append (pv 8) (pa_cons (pe_tup (pa_cons (pe_op op_add_str (pv 7) (pe_call G_l_pickS (hr.r.mono (by decide)) (by rfl) T.g_l_pick T.F_l_pick.kp T.b_l_pick .nil pass0 (pa_cons (pv 1) (pa_cons pe_str pa_nil)))) (pa_cons pe_non pa_nil))) pa_nil)))
        (pss_cons (ps_par (i := 9) (j := 10) (by rfl) sc_law.nd rfl rfl (by decide) rfl rfl (pa_cons (pe_slice sl_str (pe_op U.op_mul_str (pv 3) pe_int) po_none (po_some pe_int)) (pa_cons (pv 7) pa_nil)) (by rfl))
        (pss_cons (ps_for PassesOwn.never rfl (pi_range1 (by rfl) T.n_range (pa_cons pe_int pa_nil)) (pg_name (i := 11) sc_law.nd rfl (Or.inl rfl)) (pss_one (ps_set (i := 10) sc_law.nd rfl (Or.inl rfl) (pe_ifExp (pt_cmpR op_gt (pv 11) pe_int (nomark _)) (pe_lst (pa_cons (pv 10) pa_nil)) (pe_tup (pa_cons (pv 10) pa_nil))))))
        (pss_cons (ps_set (i := 8) sc_law.nd rfl (Or.inl rfl) (pe_op op_cat (pv 8) (pe_lst (pa_cons (pe_tup (pa_cons (pv 9) (pa_cons pe_bl pa_nil))) (pa_cons (pe_tup (pa_cons (pe_op op_add_str (pe_slice sl_str (pv 9) po_none (po_some pe_int)) pe_str) (pa_cons pe_bl pa_nil))) (pa_cons (pe_tup (pa_cons (pe_op op_add_str pe_str (pe_slice sl_str (pv 9) po_none (po_some pe_int))) (pa_cons pe_bl pa_nil))) (pa_cons (pe_tup (pa_cons (pv 10) (pa_cons pe_bl pa_nil))) pa_nil)))))))
        (pss_one (ps_for PassesOwn.never rfl (pi_list (pv 8)) (pg_tup rfl (pgs_cons (pg_name (i := 12) sc_law.nd rfl (Or.inl rfl)) (pgs_cons (pg_name (i := 13) sc_law.nd rfl (Or.inl rfl)) pgs_nil))) (pss_cons (ps_if (pt_cmpR op_isN (pv 13) pe_non (nomark _)) (pss_one (ps_set (i := 13) sc_law.nd rfl (Or.inl rfl) (pe_and (pe_callB call_isi (by rfl) T.n_isinstance (by decide +kernel) (pa_cons (pv 12) (pa_cons (pe_bltn (v := .ty "str") (by rfl) T.n_str (by decide +kernel) rfl) pa_nil))) (pe_one (pe_cmpR (op_eqD hr.units) (pe_lc (own := [("_law_sign", 14)]) (g := gName 14)  (by rfl) sc_law.nd (pi_str (pv 12)) (blkOk_by (own := [("_law_sign", 14)]) (N := ["_law_script", "_law_deal_here", "_law_turn", "_law_letters_here", "_law_odd", "_law_signs", "_law_is_good", "_law_word_here", "_law_some", "_law_far", "_law_deep", "_law_k", "_law_value_here", "_law_due", "_law_sign", "_law_at"]) (sc := defScope s_law) (by decide +kernel)) (fun _ _ _ _ _ => pg_name (i := 14) sc_law.nd rfl (Or.inl rfl)) (fun _ _ _ _ _ => pts_one (pt_cmpR op_notIn_sign (pv 14) (pv 3) (by rfl))) (fun _ _ _ _ _ => (pv 14))) (pe_lst pa_nil) (nomark _)))))) pss_nil)
        (pss_one (ps_if (pt_cmpR op_ne (pe_callB (r := rRp K) (by exact (U.call_reprS hr.g hr.units)) (by rfl) T.n_repr (by decide +kernel) (pa_cons (pe_call G_is_text (hr.r.mono (by decide)) (by rfl) T.g_is_text T.F_is_text.kp T.b_is_text .nil pass0 (pa_cons (pv 3) (pa_cons (pv 12) pa_nil))) pa_nil)) (pe_callB (r := rRp K) (by exact (U.call_reprS hr.g hr.units)) (by rfl) T.n_repr (by decide +kernel) (pa_cons (pv 13) pa_nil)) (nomark _)) (pss_one (ps_ret pe_bl)) pss_nil))))))))))))))))))))
        (pss_one (ps_ret pe_bl)))), ?_⟩
    refine ⟨_, rfl, s0, ns, 0, rfl, hS, hlen, by decide, by decide, fun a c H1 s1 _ _ d1 => ?_⟩
    refine ⟨4, rfl, by decide, by decide, ?_⟩
    refine for_it (src_range 0 (4 : Int).toNat).w (fun i σ H' => ∃ v2 v3 v4 v5 v6 v7 v8 v9 v10 v11 v12 v13, σ = [some (.ref s0), some (.ref a), v2, v3, v4, v5, v6, v7, v8, v9, v10, v11, v12, v13, none, none] ∧ Deal H' a c)
      ⟨_, _, _, _, _, _, _, _, _, _, _, _, rfl, d1⟩ (fun _ _ _ _ _ => trivial) ?_ (fun σ H' _ => q _)
    rintro i v σ H2 H3 hi ⟨v2, v3, v4, v5, v6, v7, v8, v9, v10, v11, v12, v13, rfl, d2⟩ ⟨rfl, hv⟩
    -- letters
    refine ⟨_, rfl, _, rfl, a, c, 4, rfl, d2, by decide, by decide, fun r H4 r0 r1 d4 _ => ?_⟩
    refine ⟨2, r, rfl, rfl, a, c, 2 + r, rfl, d4, by omega, by omega, fun L H5 hL d5 _ => ?_⟩
    have hn2 : 2 ≤ L.length := by have := hL.len; omega
    have hn5 : L.length ≤ 5 := by have := hL.len; omega
    have hne : L ≠ [] := fun e => by rw [e] at hn2; simp at hn2
    have gd : good L = true := good_of hL (by omega) (by omega)
    have sL : ∀ x ∈ L, x < 1114112 := fun x hx => signs_small (hL.sub x hx)
    dsimp only [gName]
    rw [show (([some (V.ref s0), some (V.ref a), v2, v3, v4, v5, v6, v7, v8, v9, v10, v11, v12, v13, none, none] : L2.St).set 2 (some v)).set 3 (some (V.str (S L))) = ([some (V.ref s0), some (V.ref a), some v, some (V.str (S L)), v4, v5, v6, v7, v8, v9, v10, v11, v12, v13, none, none] : L2.St) from rfl]
    -- the errors, the letters
    refine ⟨_, rfl, a, c, rfl, d5, fun w1 dd1 H6 hv1 _ d6 _ => ⟨w1, dd1, rfl, hv1, fun H7 s7 => ⟨_, rfl, ?_⟩⟩⟩
    refine iteF ⟨_, rfl, _, rfl, .inl ⟨L, rfl, by omega, fun H8 s8 => ?_⟩⟩
    rw [gd]
    refine ⟨true, true, rfl, rfl, false, rfl, iteF ?_⟩
    have d8 := d6.same (s7.trans s8)
    refine ⟨_, rfl, a, c, rfl, d8, fun w2 dd2 H9 hv2 _ d9 _ => ⟨w2, dd2, rfl, hv2, fun H10 s10 => ⟨_, rfl, iteF ?_⟩⟩⟩
    have d10 := d9.same s10
    -- the odd one
    refine ⟨_, rfl, _, rfl, a, c, L, rfl, d10, hne, by omega, sL, fun odd H11 hodd d11 _ => ?_⟩
    dsimp only [gName]
    obtain ⟨gb, hgb⟩ : ∃ gb : Bool, (∃ l : List Nat, odd = .str (S l) ∧ l.length ≤ 60 ∧ (∀ x ∈ l, x < 1114112) ∧ gb = good l) ∨ (NotS H11 odd ∧ gb = false) := by
      rcases hodd with ⟨l, h1, h2, h3⟩ | ⟨h1, _⟩
      · exact ⟨_, .inl ⟨l, h1, h2, h3, rfl⟩⟩
      · exact ⟨_, .inr ⟨h1, rfl⟩⟩
    refine suff4 (fun H' => Same H11 H') [some (V.ref s0), some (V.ref a), some v, some (V.str (S L)), some odd, some (V.str "-./0123456789_abcdefghijklmnopqrstuvwxyz"), some (.bl gb), v7, v8, v9, v10, v11, v12, v13, none, none] ?_ ?_
    · intro H12 s12
      have d12 := d11.same s12
      have bd : ∀ x y : List Nat, x.length ≤ 600 → y.length ≤ 600 → (S x).length + (S y).length ≤ sizeLine := fun x y h1 h2 => by rw [S_len, S_len, sizeLine_eq]; omega
      refine ⟨_, rfl, _, rfl, a, c, L, 6, rfl, d12, hne, by omega, by decide, by decide, fun wd H13 hwl hws d13 _ => ?_⟩
      have hwl : wd.length ≤ 6 := hwl
      have swd : ∀ x ∈ wd, x < 1114112 := fun x hx => sL x (hws x hx)
      dsimp only [gName]
      rw [show (([some (V.ref s0), some (V.ref a), some v, some (V.str (S L)), some odd, some (V.str "-./0123456789_abcdefghijklmnopqrstuvwxyz"), some (.bl gb), v7, v8, v9, v10, v11, v12, v13, none, none] : L2.St).set 7 (some (V.str (S wd)))) = ([some (V.ref s0), some (V.ref a), some v, some (V.str (S L)), some odd, some (V.str "-./0123456789_abcdefghijklmnopqrstuvwxyz"), some (.bl gb), some (V.str (S wd)), v8, v9, v10, v11, v12, v13, none, none] : L2.St) from rfl]
      refine ⟨_, rfl, (by show (2 : Nat) ≤ sizeLine; decide), fun q1 h1 => ?_⟩
      have m1 := d13.ne h1
      have d14 : Deal (upd H13 q1 (.tup [.str (S wd), .bl true])) a c := d13.new h1
      have f1 := @upd_same H13 q1 (.tup [.str (S wd), .bl true])
      generalize upd H13 q1 (.tup [.str (S wd), .bl true]) = H14 at d14 f1 ⊢
      refine ⟨(by show (2 : Nat) ≤ sizeLine; decide), fun q2 h2 => ?_⟩
      have m2 := d14.ne h2
      have t2 : Same H14 (upd H14 q2 (.tup [.str (Str.ofString ""), .bl true])) := Same.new (Same.refl _) h2
      have f2 := @upd_same H14 q2 (.tup [.str (Str.ofString ""), .bl true])
      generalize upd H14 q2 (.tup [.str (Str.ofString ""), .bl true]) = H15 at t2 f2 ⊢
      have d15 := d14.same t2
      refine ⟨_, rfl, S wd, S [64], rfl, rfl, bd _ _ (by omega) (by simp), ?_⟩
      rw [S_app]
      refine ⟨(by show (2 : Nat) ≤ sizeLine; decide), fun q3 h3 => ?_⟩
      have m3 := d15.ne h3
      have t3 : Same H15 (upd H15 q3 (.tup [.str (S (wd ++ [64])), .bl false])) := Same.new (Same.refl _) h3
      have f3 := @upd_same H15 q3 (.tup [.str (S (wd ++ [64])), .bl false])
      generalize upd H15 q3 (.tup [.str (S (wd ++ [64])), .bl false]) = H16 at t3 f3 ⊢
      have d16 := d15.same t3
      refine ⟨_, rfl, wd, rfl, (by rw [sizeLine_eq]; omega), fun q4 h4 => ?_⟩
      have m4 := d16.ne h4
      have t4 : Same H16 (upd H16 q4 (.lst (chars wd))) := Same.new (Same.refl _) h4
      have f4 := @upd_same H16 q4 (.lst (chars wd))
      generalize upd H16 q4 (.lst (chars wd)) = H17 at t4 f4 ⊢
      have d17 := d16.same t4
      refine ⟨(by show (2 : Nat) ≤ sizeLine; decide), fun q5 h5 => ?_⟩
      have m5 := d17.ne h5
      have t5 : Same H17 (upd H17 q5 (.tup [.ref q4, .bl false])) := Same.new (Same.refl _) h5
      have f5 := @upd_same H17 q5 (.tup [.ref q4, .bl false])
      generalize upd H17 q5 (.tup [.ref q4, .bl false]) = H18 at t5 f5 ⊢
      have d18 := d17.same t5
      refine ⟨_, rfl, a, c, rfl, d18, fun w3 dd3 H19 hv3 n3 d19 kp19 => ?_⟩
      refine ⟨(by show (2 : Nat) ≤ sizeLine; decide), fun q6 h6 => ?_⟩
      have m6 := d19.ne h6
      have t6 : Same H19 (upd H19 q6 (.tup [w3, .non])) := Same.new (Same.refl _) h6
      have f6 := @upd_same H19 q6 (.tup [w3, .non])
      generalize upd H19 q6 (.tup [w3, .non]) = H20 at t6 f6 ⊢
      have d20 := d19.same t6
      refine ⟨(by show (5 : Nat) ≤ sizeLine; decide), fun q7 h7 => ?_⟩
      have m7 := d20.ne h7
      have t7 : Same H20 (upd H20 q7 (.lst [.ref q1, .ref q2, .ref q3, .ref q5, .ref q6])) := Same.new (Same.refl _) h7
      have f7 := @upd_same H20 q7 (.lst [.ref q1, .ref q2, .ref q3, .ref q5, .ref q6])
      generalize upd H20 q7 (.lst [.ref q1, .ref q2, .ref q3, .ref q5, .ref q6]) = H21 at t7 f7 ⊢
      have d21 := d20.same t7
      refine ⟨_, rfl, .inl ⟨rfl, _, SqL.of f7⟩, _, rfl, _, rfl, a, c, [45, 48, 97, 122, 126, 65], rfl, d21, by simp, by simp, fun x H22 hx d22 kp22 => ?_⟩
      refine ⟨S wd, S [x], rfl, rfl, bd _ _ (by omega) (by simp), ?_⟩
      rw [S_app]
      refine ⟨(by show (2 : Nat) ≤ sizeLine; decide), fun q8 h8 => ?_⟩
      have m8 := d22.ne h8
      have t8 : Same H22 (upd H22 q8 (.tup [.str (S (wd ++ [x])), .non])) := Same.new (Same.refl _) h8
      have f8 := @upd_same H22 q8 (.tup [.str (S (wd ++ [x])), .non])
      generalize upd H22 q8 (.tup [.str (S (wd ++ [x])), .non]) = H23 at t8 f8 ⊢
      have d23 := d22.same t8
      have g7 := t8 _ _ (kp22 _ _ m7.1 m7.2 f7)
      refine ⟨q7, _, _, rfl, rfl, g7, (by show (5 : Nat) < sizeLine; decide), ?_⟩
      have u18 : Same H14 H18 := t2.trans (t3.trans (t4.trans t5))
      have u21 : Same H19 H21 := t6.trans t7
      have mv : ∀ p o, p ≠ a → p ≠ c → H18 p = some o → H23 p = some o := fun p o h1 h2 z => t8 _ _ (kp22 _ _ h1 h2 (u21 _ _ (kp19 _ _ h1 h2 z)))
      have g1 := mv _ _ m1.1 m1.2 (u18 _ _ f1)
      have g2 := mv _ _ m2.1 m2.2 ((t3.trans (t4.trans t5)) _ _ f2)
      have g3 := mv _ _ m3.1 m3.2 ((t4.trans t5) _ _ f3)
      have g4 := mv _ _ m4.1 m4.2 (t5 _ _ f4)
      have g5 := mv _ _ m5.1 m5.2 f5
      have g6 := t8 _ _ (kp22 _ _ m6.1 m6.2 (t7 _ _ f6))
      have w7 : ∀ p o, H20 p = some o → p ≠ q7 := fun p o z => ne_of_none z h7
      have p1 : q1 ≠ q7 := ne_of g1 g7 (by intro z; cases z)
      have p2 : q2 ≠ q7 := ne_of g2 g7 (by intro z; cases z)
      have p3 : q3 ≠ q7 := ne_of g3 g7 (by intro z; cases z)
      have p5 : q5 ≠ q7 := ne_of g5 g7 (by intro z; cases z)
      have p6 : q6 ≠ q7 := ne_of g6 g7 (by intro z; cases z)
      have p8 : q8 ≠ q7 := ne_of f8 g7 (by intro z; cases z)
      have p4 : q4 ≠ q7 := w7 _ _ (t6 _ _ (kp19 _ _ m4.1 m4.2 (t5 _ _ f4)))
      have it3 : Item (upd H23 q7 (.lst ([.ref q1, .ref q2, .ref q3, .ref q5, .ref q6] ++ [.ref q8]))) L w3 .non := by
        rcases hv3.ty with ⟨l, rfl, h1, h2⟩ | hN
        · exact .inl ⟨l, rfl, by omega, h2, .inl rfl⟩
        · refine .inr ⟨notS_upd ?_ (fun p z => ?_), .inl rfl⟩
          · exact (notS_kp (hN.same u21) (fun p z => d18.ne (n3 p z)) kp22).same t8
          · subst z
            obtain ⟨o, ho⟩ := notS_some hN
            exact w7 _ _ (t6 _ _ ho)
      have it4 : Item (upd H23 q7 (.lst ([.ref q1, .ref q2, .ref q3, .ref q5, .ref q6] ++ [.ref q8]))) L (.ref q4) (.bl false) := .inr ⟨notS_upd (.inr (.inr (.inr ⟨q4, _, rfl, .inl g4⟩))) (fun p z => by cases z; exact p4), .inr rfl⟩
      have e1 : (upd H23 q7 (.lst ([.ref q1, .ref q2, .ref q3, .ref q5, .ref q6] ++ [.ref q8]))) q1 = _ := (upd_ne p1).trans g1
      have e2 : (upd H23 q7 (.lst ([.ref q1, .ref q2, .ref q3, .ref q5, .ref q6] ++ [.ref q8]))) q2 = _ := (upd_ne p2).trans g2
      have e3 : (upd H23 q7 (.lst ([.ref q1, .ref q2, .ref q3, .ref q5, .ref q6] ++ [.ref q8]))) q3 = _ := (upd_ne p3).trans g3
      have e5 : (upd H23 q7 (.lst ([.ref q1, .ref q2, .ref q3, .ref q5, .ref q6] ++ [.ref q8]))) q5 = _ := (upd_ne p5).trans g5
      have e6 : (upd H23 q7 (.lst ([.ref q1, .ref q2, .ref q3, .ref q5, .ref q6] ++ [.ref q8]))) q6 = _ := (upd_ne p6).trans g6
      have e8 : (upd H23 q7 (.lst ([.ref q1, .ref q2, .ref q3, .ref q5, .ref q6] ++ [.ref q8]))) q8 = _ := (upd_ne p8).trans f8
      have e7 := @upd_same H23 q7 (.lst ([.ref q1, .ref q2, .ref q3, .ref q5, .ref q6] ++ [.ref q8]))
      have d24 : Deal (upd H23 q7 (.lst ([.ref q1, .ref q2, .ref q3, .ref q5, .ref q6] ++ [.ref q8]))) a c := d23.upd m7.1 m7.2
      generalize upd H23 q7 (.lst ([.ref q1, .ref q2, .ref q3, .ref q5, .ref q6] ++ [.ref q8])) = H24 at it3 it4 e1 e2 e3 e5 e6 e7 e8 d24 ⊢
      -- far, deep
      obtain ⟨fr, efr, lfr, mfr⟩ := cut_S (rep L 100) none (some 200)
      have lr : (rep L 100).length ≤ 500 := by rw [rep_len]; omega
      have infr : ∀ z ∈ fr, z ∈ L := fun z hz => rep_mem (mfr z hz)
      refine ⟨_, rfl, L, 100, rfl, rfl, by omega, by decide, 200, rfl, _, rfl, (by rw [S_len, sizeLine_eq]; omega), ?_⟩
      rw [efr]
      refine ⟨_, rfl, _, _, rfl, ?_⟩
      rw [show ((([some (V.ref s0), some (V.ref a), some v, some (V.str (S L)), some odd, some (V.str "-./0123456789_abcdefghijklmnopqrstuvwxyz"), some (.bl gb), some (V.str (S wd)), v8, v9, v10, v11, v12, v13, none, none] : L2.St).set 8 (some (V.ref q7))).set 9 (some (V.str (S fr)))).set 10 (some (V.str (S wd))) = ([some (V.ref s0), some (V.ref a), some v, some (V.str (S L)), some odd, some (V.str "-./0123456789_abcdefghijklmnopqrstuvwxyz"), some (.bl gb), some (V.str (S wd)), some (V.ref q7), some (V.str (S fr)), some (V.str (S wd)), v11, v12, v13, none, none] : L2.St) from rfl]
      refine ⟨7, rfl, by decide, by decide, ?_⟩
      refine for_it (src_range 0 (7 : Int).toNat).w (fun i σ H' => ∃ dv w11, σ = [some (V.ref s0), some (V.ref a), some v, some (V.str (S L)), some odd, some (V.str "-./0123456789_abcdefghijklmnopqrstuvwxyz"), some (.bl gb), some (V.str (S wd)), some (V.ref q7), some (V.str (S fr)), some dv, w11, v12, v13, none, none] ∧ Same H24 H' ∧ ((i = 0 ∧ dv = V.str (S wd)) ∨ (i ≠ 0 ∧ NotS H' dv)))
        ⟨_, _, rfl, Same.refl _, .inl ⟨rfl, rfl⟩⟩ (fun _ _ _ _ _ => trivial) ?_ ?_
      · rintro i x σ Ha Hb hi ⟨dv, w11, rfl, sa, hdv⟩ ⟨rfl, hx⟩
        rw [rngV_get] at hx
        obtain ⟨_, rfl⟩ := hx
        rw [Int.zero_add]
        refine ⟨_, rfl, _, _, rfl, rfl, _, rfl, ?_⟩
        by_cases h0 : 0 < i
        · refine if_true_of (decide_eq_true (by omega)) ?_
          refine ⟨_, rfl, (by show (1 : Nat) ≤ sizeLine; decide), fun r hr' => ?_⟩
          exact ⟨_, _, rfl, Same.new sa hr', .inr ⟨by omega, .inr (.inr (.inr ⟨r, _, rfl, .inl upd_same⟩))⟩⟩
        · refine if_false_of (decide_eq_false (by omega)) ?_
          refine ⟨_, rfl, (by show (1 : Nat) ≤ sizeLine; decide), fun r hr' => ?_⟩
          exact ⟨_, _, rfl, Same.new sa hr', .inr ⟨by omega, .inr (.inr (.inr ⟨r, _, rfl, .inr upd_same⟩))⟩⟩
      rintro σ H25 ⟨dv, w11, rfl, s25, hdv⟩
      have nd : NotS H25 dv := by
        rcases hdv with ⟨h, _⟩ | ⟨_, h⟩
        · exact absurd h (by rw [rngV_len]; decide)
        · exact h
      obtain ⟨f9, e9, l9, m9⟩ := cut_S fr none (some 199)
      have in9 : ∀ z ∈ f9, z ∈ L := fun z hz => infr z (m9 z hz)
      have szf : (S fr).length ≤ sizeLine := by rw [S_len, sizeLine_eq]; omega
      refine ⟨_, rfl, _, rfl, (by show (2 : Nat) ≤ sizeLine; decide), fun r1 k1 => ?_⟩
      have t26 : Same H25 (upd H25 r1 (.tup [.str (S fr), .bl true])) := Same.new (Same.refl _) k1
      have f26 := @upd_same H25 r1 (.tup [.str (S fr), .bl true])
      generalize upd H25 r1 (.tup [.str (S fr), .bl true]) = H26 at t26 f26 ⊢
      refine ⟨_, rfl, 199, rfl, _, rfl, szf, ?_⟩
      rw [e9]
      refine ⟨S f9, S [126], rfl, rfl, bd _ _ (by omega) (by simp), ?_⟩
      rw [S_app]
      refine ⟨(by show (2 : Nat) ≤ sizeLine; decide), fun r2 k2 => ?_⟩
      have t27 : Same H26 (upd H26 r2 (.tup [.str (S (f9 ++ [126])), .bl false])) := Same.new (Same.refl _) k2
      have f27 := @upd_same H26 r2 (.tup [.str (S (f9 ++ [126])), .bl false])
      generalize upd H26 r2 (.tup [.str (S (f9 ++ [126])), .bl false]) = H27 at t27 f27 ⊢
      refine ⟨_, rfl, 199, rfl, _, rfl, szf, ?_⟩
      rw [e9]
      refine ⟨S [64], S f9, rfl, rfl, bd _ _ (by simp) (by omega), ?_⟩
      rw [S_app]
      refine ⟨(by show (2 : Nat) ≤ sizeLine; decide), fun r3 k3 => ?_⟩
      have t28 : Same H27 (upd H27 r3 (.tup [.str (S ([64] ++ f9)), .bl false])) := Same.new (Same.refl _) k3
      have f28 := @upd_same H27 r3 (.tup [.str (S ([64] ++ f9)), .bl false])
      generalize upd H27 r3 (.tup [.str (S ([64] ++ f9)), .bl false]) = H28 at t28 f28 ⊢
      refine ⟨_, rfl, (by show (2 : Nat) ≤ sizeLine; decide), fun r4 k4 => ?_⟩
      have t29 : Same H28 (upd H28 r4 (.tup [dv, .bl false])) := Same.new (Same.refl _) k4
      have f29 := @upd_same H28 r4 (.tup [dv, .bl false])
      generalize upd H28 r4 (.tup [dv, .bl false]) = H29 at t29 f29 ⊢
      refine ⟨(by show (4 : Nat) ≤ sizeLine; decide), fun r5 k5 => ?_⟩
      have t30 : Same H29 (upd H29 r5 (.lst [.ref r1, .ref r2, .ref r3, .ref r4])) := Same.new (Same.refl _) k5
      have f30 := @upd_same H29 r5 (.lst [.ref r1, .ref r2, .ref r3, .ref r4])
      generalize upd H29 r5 (.lst [.ref r1, .ref r2, .ref r3, .ref r4]) = H30 at t30 f30 ⊢
      have b30 : Same H25 H30 := t26.trans (t27.trans (t28.trans (t29.trans t30)))
      have a30 : Same H24 H30 := s25.trans b30
      refine ⟨q7, r5, _, _, rfl, rfl, a30 _ _ e7, f30, (by show (10 : Nat) ≤ sizeLine; decide), fun r6 k6 => ?_⟩
      generalize hxs : ([V.ref q1, V.ref q2, V.ref q3, V.ref q5, V.ref q6] ++ [V.ref q8]) ++ [V.ref r1, V.ref r2, V.ref r3, V.ref r4] = xs
      have t31 : Same H30 (upd H30 r6 (.lst xs)) := Same.new (Same.refl _) k6
      have f31 := @upd_same H30 r6 (.lst xs)
      generalize upd H30 r6 (.lst xs) = H31 at t31 f31 ⊢
      have b31 := b30.trans t31
      have a31 := a30.trans t31
      have c31 : Same H26 H31 := t27.trans (t28.trans (t29.trans (t30.trans t31)))
      have n64 : 64 ∉ L := fun z => absurd (hL.sub _ z) (by rw [signs_eq]; decide)
      have n126 : 126 ∉ L := fun z => absurd (hL.sub _ z) (by rw [signs_eq]; decide)
      have hl : xs.length = 10 := by rw [← hxs]; rfl
      have facts : ∀ (i : Nat) (x : V), xs[i]? = some x → ∃ (T : Addr) (v due : V), x = V.ref T ∧ H31 T = some (.tup [v, due]) ∧ Item H31 L v due := by
        intro i y hx'
        have hi : i < 10 := by rw [← hl]; exact (List.getElem?_eq_some_iff.mp hx').1
        subst hxs
        rcases (by omega : i = 0 ∨ i = 1 ∨ i = 2 ∨ i = 3 ∨ i = 4 ∨ i = 5 ∨ i = 6 ∨ i = 7 ∨ i = 8 ∨ i = 9) with rfl | rfl | rfl | rfl | rfl | rfl | rfl | rfl | rfl | rfl
        · exact ⟨q1, _, _, (Option.some.inj hx').symm, a31 _ _ e1, .inl ⟨wd, rfl, by omega, swd, .inr (by rw [within_of hws])⟩⟩
        · exact ⟨q2, _, _, (Option.some.inj hx').symm, a31 _ _ e2, .inl ⟨[], rfl, by simp, by simp, .inr rfl⟩⟩
        · exact ⟨q3, _, _, (Option.some.inj hx').symm, a31 _ _ e3, .inl ⟨wd ++ [64], rfl, by simp; omega, app_sml swd (by simp), .inr (by rw [within_out (x := 64) (by simp) n64])⟩⟩
        · exact ⟨q5, _, _, (Option.some.inj hx').symm, a31 _ _ e5, item_same it4 a31⟩
        · exact ⟨q6, _, _, (Option.some.inj hx').symm, a31 _ _ e6, item_same it3 a31⟩
        · refine ⟨q8, _, _, (Option.some.inj hx').symm, a31 _ _ e8, .inl ⟨wd ++ [x], rfl, by simp; omega, app_sml swd (fun z hz => ?_), .inl rfl⟩⟩
          rw [List.mem_singleton.mp hz]
          simp only [List.mem_cons, List.not_mem_nil, or_false] at hx
          omega
        · exact ⟨r1, _, _, (Option.some.inj hx').symm, c31 _ _ f26, .inl ⟨fr, rfl, by omega, fun z hz => sL z (infr z hz), .inr (by rw [within_of infr])⟩⟩
        · exact ⟨r2, _, _, (Option.some.inj hx').symm, (t28.trans (t29.trans (t30.trans t31))) _ _ f27, .inl ⟨f9 ++ [126], rfl, by simp; omega, app_sml (fun z hz => sL z (in9 z hz)) (by simp), .inr (by rw [within_out (x := 126) (by simp) n126])⟩⟩
        · exact ⟨r3, _, _, (Option.some.inj hx').symm, (t29.trans (t30.trans t31)) _ _ f28, .inl ⟨[64] ++ f9, rfl, by simp; omega, app_sml (by simp) (fun z hz => sL z (in9 z hz)), .inr (by rw [within_out (x := 64) (by simp) n64])⟩⟩
        · exact ⟨r4, _, _, (Option.some.inj hx').symm, (t30.trans t31) _ _ f29, .inr ⟨nd.same b31, .inr rfl⟩⟩
      refine ⟨_, rfl, r6, rfl, ⟨_, SqL.of f31⟩, ?_⟩
      refine for_it (src_list K r6 xs).w (fun i σ H' => ∃ w12 w13, σ = [some (V.ref s0), some (V.ref a), some v, some (V.str (S L)), some odd, some (V.str "-./0123456789_abcdefghijklmnopqrstuvwxyz"), some (.bl gb), some (V.str (S wd)), some (V.ref r6), some (V.str (S fr)), some dv, w11, w12, w13, none, none] ∧ Same H31 H')
        ⟨_, _, rfl, Same.refl _⟩ (fun i σ H' _ ⟨_, _, _, z⟩ => z.seq (SqL.of f31)) ?_ ?_
      · rintro i y σ Ha Hb hi ⟨w12, w13, rfl, z⟩ ⟨rfl, hy⟩
        obtain ⟨T1, vv, due, rfl, hT, it⟩ := facts i y hy
        refine ⟨T1, _, rfl, SqT.of (z _ _ hT), rfl, _, _, rfl, _, _, rfl, rfl, ?_⟩
        rcases item_same it z with ⟨l, rfl, ll, sl, hd⟩ | ⟨hN, hd⟩
        · have hsz : (S l).length ≤ sizeLine := by rw [S_len, sizeLine_eq]; omega
          rcases hd with rfl | rfl
          · refine ⟨_, rfl, rfl, true, rfl, iteT ?_⟩
            refine ⟨_, rfl, _, .ty "str", _, _, true, rfl, .ty _, .base (.str _), kit_ty (by decide +kernel), _, rfl, iteT ?_⟩
            refine ⟨_, rfl, _, rfl, fun D hD => lcS (src_str l) (fun x => !decide (sg x ∈ L)) id trivial hD (fun _ => rfl) (by simp [chars]; omega) (fun x hx H' s' Q k => ?_) (fun x hx _ H' s' Q k => ⟨_, rfl, k _ (Same.refl _)⟩) (fun H' s' e => ?_)⟩
            · obtain ⟨c, hc, rfl⟩ := chars_mem hx
              refine ⟨_, rfl, _, rfl, c, _, rfl, rfl, _, rfl, ?_⟩
              rw [S_toList]
              exact k _ (Same.refl _)
            rw [List.map_id, out_filter] at e
            refine ⟨Nat.zero_le _, fun p hp => ?_⟩
            have k4 : Same H' (upd H' p (.lst [])) := Same.new (Same.refl _) hp
            refine ⟨.list _, .list [], .lst (SqL.of (k4 _ _ e)) (dpStrs _), .lst (SqL.of upd_same) .nil, shStrs _ (outs_ok sl), rfl, ?_⟩
            rw [out_nil]
            have u4 := z.trans (s'.trans k4)
            generalize upd H' p _ = Hc at u4 ⊢
            refine ⟨_, rfl, _, rfl, L, _, rfl, .inl ⟨l, rfl, ll, fun Hd sd => ?_⟩⟩
            exact ⟨_, _, _, _, rfl, .bl _, Sm.bl _, by decide, by decide, _, rfl, _, _, _, _, rfl, .bl _, Sm.bl _, by decide, by decide, rfl, false, by simp, iteF ⟨_, _, rfl, u4.trans sd⟩⟩
          · refine ⟨_, rfl, rfl, false, rfl, iteF ?_⟩
            refine ⟨_, rfl, _, rfl, L, _, rfl, .inl ⟨l, rfl, ll, fun Hd sd => ?_⟩⟩
            exact ⟨_, _, _, _, rfl, .bl _, Sm.bl _, by decide, by decide, _, rfl, _, _, _, _, rfl, .bl _, Sm.bl _, by decide, by decide, rfl, false, by simp, iteF ⟨_, _, rfl, z.trans sd⟩⟩
        · rcases hd with rfl | rfl
          · refine ⟨_, rfl, rfl, true, rfl, iteT ?_⟩
            obtain ⟨t, ht, kt⟩ := hN.ty (K := K)
            refine ⟨_, rfl, _, .ty "str", t, _, false, rfl, .ty _, ht, kt, _, rfl, iteF ?_⟩
            refine ⟨_, rfl, _, rfl, L, _, rfl, .inr ⟨hN, fun Hd sd => ?_⟩⟩
            exact ⟨_, _, _, _, rfl, .bl _, Sm.bl _, by decide, by decide, _, rfl, _, _, _, _, rfl, .bl _, Sm.bl _, by decide, by decide, rfl, false, by simp, iteF ⟨_, _, rfl, z.trans sd⟩⟩
          · refine ⟨_, rfl, rfl, false, rfl, iteF ?_⟩
            refine ⟨_, rfl, _, rfl, L, _, rfl, .inr ⟨hN, fun Hd sd => ?_⟩⟩
            exact ⟨_, _, _, _, rfl, .bl _, Sm.bl _, by decide, by decide, _, rfl, _, _, _, _, rfl, .bl _, Sm.bl _, by decide, by decide, rfl, false, by simp, iteF ⟨_, _, rfl, z.trans sd⟩⟩
      · rintro σ H' ⟨w12, w13, rfl, z⟩
        exact ⟨_, _, _, _, _, _, _, _, _, _, _, _, rfl, d24.same (a31.trans z)⟩
    · intro hk
      rcases hgb with ⟨l, rfl, ll, sl, hg⟩ | ⟨hn, hg⟩
      · have hsz : (S l).length ≤ sizeLine := by rw [S_len, sizeLine_eq]; omega
        refine ⟨_, rfl, _, .ty "str", _, _, true, rfl, .ty _, .base (.str _), kit_ty (by decide +kernel), _, rfl, iteT ?_⟩
        refine ⟨_, rfl, _, rfl, hsz, _, _, rfl, rfl, _, rfl, ?_⟩
        rw [S_len]
        by_cases h1 : 1 < l.length
        · refine if_true_of (decide_eq_true (by omega)) ?_
          refine ⟨_, _, rfl, rfl, _, rfl, ?_⟩
          by_cases h2 : l.length < 6
          · refine if_true_of (decide_eq_true (by omega)) ?_
            refine ⟨_, rfl, _, rfl, fun D hD => lcS (src_str l) (fun x => !decide (sg x ∈ U.signs)) id trivial hD (fun _ => rfl) (by simp [chars]; omega) (fun x hx H' s' Q k => ?_) (fun x hx _ H' s' Q k => ⟨_, rfl, k _ (Same.refl _)⟩) (fun H' s' e => ?_)⟩
            · obtain ⟨c, hc, rfl⟩ := chars_mem hx
              exact ⟨_, rfl, _, rfl, c, _, rfl, rfl, _, rfl, k _ (Same.refl _)⟩
            rw [List.map_id, out_filter] at e
            refine ⟨Nat.zero_le _, fun p hp => ?_⟩
            have k4 : Same H' (upd H' p (.lst [])) := Same.new (Same.refl _) hp
            refine ⟨.list _, .list [], .lst (SqL.of (k4 _ _ e)) (dpStrs _), .lst (SqL.of upd_same) .nil, shStrs _ (outs_ok sl), rfl, ?_⟩
            rw [out_nil]
            have u4 := s'.trans k4
            generalize upd H' p _ = H13 at u4 ⊢
            refine ⟨_, rfl, _, rfl, ?_⟩
            cases hw : within U.signs l with
            | false =>
              refine iteF ?_
              have eg : good l = false := by simp [good, hw]
              refine ⟨_, rfl, _, rfl, .inl ⟨l, rfl, by omega, fun H14 s14 => ?_⟩⟩
              rw [eg]
              refine ⟨_, rfl, _, rfl, iteF ⟨rfl, false, rfl, iteF ?_⟩⟩
              have := hk H14 (u4.trans s14)
              rw [hg, eg] at this
              exact this
            | true =>
              refine iteT ?_
              obtain ⟨n, hn⟩ : ∃ n : Nat, l.length = n + 1 := ⟨l.length - 1, by omega⟩
              have hz : ((l.length : Int) - 1) = (n : Int) := by omega
              refine ⟨_, rfl, _, rfl, hsz, _, _, rfl, rfl, ?_⟩
              rw [S_len]
              refine ⟨(n : Int), (by show [V.int ((l.length : Int) - 1)] = [V.int (n : Int)]; rw [hz]), by omega, by omega, fun D2 hD2 => ?_⟩
              refine lcS (src_range 0 n) (ascP l) id trivial hD2 (fun x => rfl) (by rw [rngV_len]; omega) (fun x hx H2 s2 Q k => ?_) (fun x hx _ H' s' Q k => ⟨_, rfl, k _ (Same.refl _)⟩) (fun H2 s2 e2 => ?_)
              · obtain ⟨i, hi⟩ := List.getElem?_of_mem hx
                rw [rngV_get] at hi
                obtain ⟨hi, rfl⟩ := hi
                rw [Int.zero_add] at k ⊢
                have hi1 : i < l.length := by omega
                have hi2 : i + 1 < l.length := by omega
                refine ⟨_, rfl, _, rfl, _, _, l.getD i 0, rfl, rfl, hsz, ?_, ?_⟩
                · rw [S_toList]
                  exact atI_int (by omega) (by rw [Int.toNat_natCast]; exact getD_get hi1)
                refine ⟨_, rfl, _, rfl, _, _, rfl, rfl, _, _, l.getD (i + 1) 0, rfl, rfl, hsz, ?_, ?_⟩
                · rw [S_toList]
                  exact atI_int (by omega) (by rw [show ((i : Int) + 1).toNat = i + 1 by omega]; exact getD_get hi2)
                refine ⟨_, _, rfl, rfl, _, rfl, ?_⟩
                have k2 := k _ (Same.refl _)
                dsimp only [ascP] at k2
                rw [Int.toNat_natCast, ← lt_one (l.getD i 0) (l.getD (i + 1) 0)] at k2
                exact k2
              rw [List.map_id, ascP_filter] at e2
              refine ⟨Nat.zero_le _, fun p2 hp2 => ?_⟩
              have k5 : Same H2 (upd H2 p2 (.lst [])) := Same.new (Same.refl _) hp2
              refine ⟨.list _, .list [], .lst (SqL.of (k5 _ _ e2)) (dpInts _), .lst (SqL.of upd_same) .nil, shInts _, rfl, ?_⟩
              rw [eqv_nil, ascZ_nil hn]
              have u5 := u4.trans (s2.trans k5)
              generalize upd H2 p2 _ = H14 at u5 ⊢
              have eg : good l = asc l := by
                unfold good
                rw [hw]
                simp; omega
              refine ⟨_, rfl, _, rfl, .inl ⟨l, rfl, by omega, fun H15 s15 => ?_⟩⟩
              have := hk H15 (u5.trans s15)
              rw [hg, eg] at this
              rw [eg]
              refine ⟨_, rfl, _, rfl, ?_⟩
              cases ha : asc l with
              | true =>
                rw [ha] at this
                exact iteT ⟨rfl, false, rfl, iteF this⟩
              | false =>
                rw [ha] at this
                exact iteF ⟨rfl, false, rfl, iteF this⟩
          · refine if_false_of (decide_eq_false (by omega)) ?_
            have eg : good l = false := by simp [good]; omega
            refine ⟨_, rfl, _, rfl, iteF ?_⟩
            refine ⟨_, rfl, _, rfl, .inl ⟨l, rfl, by omega, fun H14 s14 => ?_⟩⟩
            rw [eg]
            refine ⟨_, rfl, _, rfl, iteF ⟨rfl, false, rfl, iteF ?_⟩⟩
            have := hk H14 s14
            rw [hg, eg] at this
            exact this
        · refine if_false_of (decide_eq_false (by omega)) ?_
          have eg : good l = false := by simp [good]; omega
          refine ⟨_, rfl, iteF ?_⟩
          refine ⟨_, rfl, _, rfl, iteF ?_⟩
          refine ⟨_, rfl, _, rfl, .inl ⟨l, rfl, by omega, fun H14 s14 => ?_⟩⟩
          rw [eg]
          refine ⟨_, rfl, _, rfl, iteF ⟨rfl, false, rfl, iteF ?_⟩⟩
          have := hk H14 s14
          rw [hg, eg] at this
          exact this
      · obtain ⟨t, ht, kt⟩ := hn.ty (K := K)
        refine ⟨_, rfl, _, .ty "str", t, _, false, rfl, .ty _, ht, kt, _, rfl, iteF ?_⟩
        refine ⟨_, rfl, _, rfl, iteF ?_⟩
        refine ⟨_, rfl, odd, rfl, .inr ⟨hn, fun H13 s13 => ?_⟩⟩
        refine ⟨_, rfl, _, rfl, iteF ⟨rfl, false, rfl, iteF ?_⟩⟩
        have := hk H13 s13
        rw [hg] at this
        exact this
end
end K01
namespace K01
open PySem PySem.Spec PyProof.Rows L2 U
theorem all_mk {w : World} {K : PySem.W.Frag} {h : Heap} {mg : Str → Option Value} {fa f0 f1 f2 f3 f4 f5 f6 f7 f8 f9 f10 f11 f12 f13 f14 : Addr} (X : K.In h) (G : h.Ns mainGlobals mg) (hfa : mg "law" = some (.ref fa))
    {od0 an0 od1 an1 od2 an2 od3 an3 od4 an4 od5 an5 od6 an6 od7 an7 od8 an8 od9 an9 od10 an10 od11 an11 od12 an12 od13 an13 od14 an14 : Option Addr} {sl0 sl1 sl2 sl3 sl4 sl5 sl6 sl7 sl8 sl9 sl10 sl11 sl12 sl13 sl14 : Array (Option Value)} {oc0 kV0 dc0 pm0 cd0 ct0 oc1 kV1 dc1 pm1 cd1 ct1 oc2 kV2 dc2 pm2 cd2 ct2 oc3 kV3 dc3 pm3 cd3 ct3 oc4 kV4 dc4 pm4 cd4 ct4 oc5 kV5 dc5 pm5 cd5 ct5 oc6 kV6 dc6 pm6 cd6 ct6 oc7 kV7 dc7 pm7 cd7 ct7 oc8 kV8 dc8 pm8 cd8 ct8 oc9 kV9 dc9 pm9 cd9 ct9 oc10 kV10 dc10 pm10 cd10 ct10 oc11 kV11 dc11 pm11 cd11 ct11 oc12 kV12 dc12 pm12 cd12 ct12 oc13 kV13 dc13 pm13 cd13 ct13 oc14 kV14 dc14 pm14 cd14 ct14 : Value}
    (a0 : PySem.W.nsIn K mainGlobals "are_letters" = some (some (.ref f0)))
    (l0 : K.lookup f0 = some ⟨oc0, od0, .func (PySem.W.fnOf "are_letters" "are_letters" (defArgs s_are_letters) (defBody s_are_letters) (defScope s_are_letters) .none kV0 dc0 pm0 an0 cd0 ct0), sl0⟩)
    (c0 : PySem.W.codeIn K cd0 "are_letters" = true) (k0 : PySem.W.keepIn K (.ref f0) = true)
    (a1 : PySem.W.nsIn K mainGlobals "check_letters" = some (some (.ref f1)))
    (l1 : K.lookup f1 = some ⟨oc1, od1, .func (PySem.W.fnOf "check_letters" "check_letters" (defArgs s_check_letters) (defBody s_check_letters) (defScope s_check_letters) .none kV1 dc1 pm1 an1 cd1 ct1), sl1⟩)
    (c1 : PySem.W.codeIn K cd1 "check_letters" = true) (k1 : PySem.W.keepIn K (.ref f1) = true)
    (a2 : PySem.W.nsIn K mainGlobals "is_text" = some (some (.ref f2)))
    (l2 : K.lookup f2 = some ⟨oc2, od2, .func (PySem.W.fnOf "is_text" "is_text" (defArgs s_is_text) (defBody s_is_text) (defScope s_is_text) .none kV2 dc2 pm2 an2 cd2 ct2), sl2⟩)
    (c2 : PySem.W.codeIn K cd2 "is_text" = true) (k2 : PySem.W.keepIn K (.ref f2) = true)
    (a3 : PySem.W.nsIn K mainGlobals "_law_deal" = some (some (.ref f3)))
    (l3 : K.lookup f3 = some ⟨oc3, od3, .func (PySem.W.fnOf "_law_deal" "_law_deal" (defArgs s_l_deal) (defBody s_l_deal) (defScope s_l_deal) .none kV3 dc3 pm3 an3 cd3 ct3), sl3⟩)
    (c3 : PySem.W.codeIn K cd3 "_law_deal" = true) (k3 : PySem.W.keepIn K (.ref f3) = true)
    (a4 : PySem.W.nsIn K mainGlobals "_law_draw" = some (some (.ref f4)))
    (l4 : K.lookup f4 = some ⟨oc4, od4, .func (PySem.W.fnOf "_law_draw" "_law_draw" (defArgs s_l_draw) (defBody s_l_draw) (defScope s_l_draw) .none kV4 dc4 pm4 an4 cd4 ct4), sl4⟩)
    (c4 : PySem.W.codeIn K cd4 "_law_draw" = true) (k4 : PySem.W.keepIn K (.ref f4) = true)
    (a5 : PySem.W.nsIn K mainGlobals "_law_pick" = some (some (.ref f5)))
    (l5 : K.lookup f5 = some ⟨oc5, od5, .func (PySem.W.fnOf "_law_pick" "_law_pick" (defArgs s_l_pick) (defBody s_l_pick) (defScope s_l_pick) .none kV5 dc5 pm5 an5 cd5 ct5), sl5⟩)
    (c5 : PySem.W.codeIn K cd5 "_law_pick" = true) (k5 : PySem.W.keepIn K (.ref f5) = true)
    (a6 : PySem.W.nsIn K mainGlobals "_law_letters" = some (some (.ref f6)))
    (l6 : K.lookup f6 = some ⟨oc6, od6, .func (PySem.W.fnOf "_law_letters" "_law_letters" (defArgs s_l_letters) (defBody s_l_letters) (defScope s_l_letters) .none kV6 dc6 pm6 an6 cd6 ct6), sl6⟩)
    (c6 : PySem.W.codeIn K cd6 "_law_letters" = true) (k6 : PySem.W.keepIn K (.ref f6) = true)
    (a7 : PySem.W.nsIn K mainGlobals "_law_word" = some (some (.ref f7)))
    (l7 : K.lookup f7 = some ⟨oc7, od7, .func (PySem.W.fnOf "_law_word" "_law_word" (defArgs s_l_word) (defBody s_l_word) (defScope s_l_word) .none kV7 dc7 pm7 an7 cd7 ct7), sl7⟩)
    (c7 : PySem.W.codeIn K cd7 "_law_word" = true) (k7 : PySem.W.keepIn K (.ref f7) = true)
    (a8 : PySem.W.nsIn K mainGlobals "_law_value" = some (some (.ref f8)))
    (l8 : K.lookup f8 = some ⟨oc8, od8, .func (PySem.W.fnOf "_law_value" "_law_value" (defArgs s_l_value) (defBody s_l_value) (defScope s_l_value) .none kV8 dc8 pm8 an8 cd8 ct8), sl8⟩)
    (c8 : PySem.W.codeIn K cd8 "_law_value" = true) (k8 : PySem.W.keepIn K (.ref f8) = true)
    (a9 : PySem.W.nsIn K mainGlobals "_law_kinds" = some (some (.ref f9)))
    (l9 : K.lookup f9 = some ⟨oc9, od9, .func (PySem.W.fnOf "_law_kinds" "_law_kinds" (defArgs s_l_kinds) (defBody s_l_kinds) (defScope s_l_kinds) .none kV9 dc9 pm9 an9 cd9 ct9), sl9⟩)
    (c9 : PySem.W.codeIn K cd9 "_law_kinds" = true) (k9 : PySem.W.keepIn K (.ref f9) = true)
    (a10 : PySem.W.nsIn K mainGlobals "_law_errors_right" = some (some (.ref f10)))
    (l10 : K.lookup f10 = some ⟨oc10, od10, .func (PySem.W.fnOf "_law_errors_right" "_law_errors_right" (defArgs s_l_errors_right) (defBody s_l_errors_right) (defScope s_l_errors_right) .none kV10 dc10 pm10 an10 cd10 ct10), sl10⟩)
    (c10 : PySem.W.codeIn K cd10 "_law_errors_right" = true) (k10 : PySem.W.keepIn K (.ref f10) = true)
    (a11 : PySem.W.nsIn K mainGlobals "_law_keeps_itself" = some (some (.ref f11)))
    (l11 : K.lookup f11 = some ⟨oc11, od11, .func (PySem.W.fnOf "_law_keeps_itself" "_law_keeps_itself" (defArgs s_l_keeps_itself) (defBody s_l_keeps_itself) (defScope s_l_keeps_itself) .none kV11 dc11 pm11 an11 cd11 ct11), sl11⟩)
    (c11 : PySem.W.codeIn K cd11 "_law_keeps_itself" = true) (k11 : PySem.W.keepIn K (.ref f11) = true)
    (a12 : PySem.W.nsIn K mainGlobals "_law_told" = some (some (.ref f12)))
    (l12 : K.lookup f12 = some ⟨oc12, od12, .func (PySem.W.fnOf "_law_told" "_law_told" (defArgs s_l_told) (defBody s_l_told) (defScope s_l_told) .none kV12 dc12 pm12 an12 cd12 ct12), sl12⟩)
    (c12 : PySem.W.codeIn K cd12 "_law_told" = true) (k12 : PySem.W.keepIn K (.ref f12) = true)
    (a13 : PySem.W.nsIn K mainGlobals "_law_spoilt" = some (some (.ref f13)))
    (l13 : K.lookup f13 = some ⟨oc13, od13, .func (PySem.W.fnOf "_law_spoilt" "_law_spoilt" (defArgs s_l_spoilt) (defBody s_l_spoilt) (defScope s_l_spoilt) .none kV13 dc13 pm13 an13 cd13 ct13), sl13⟩)
    (c13 : PySem.W.codeIn K cd13 "_law_spoilt" = true) (k13 : PySem.W.keepIn K (.ref f13) = true)
    (a14 : PySem.W.nsIn K mainGlobals "law" = some (some (.ref f14)))
    (l14 : K.lookup f14 = some ⟨oc14, od14, .func (PySem.W.fnOf "law" "law" (defArgs s_law) (defBody s_law) (defScope s_law) .none kV14 dc14 pm14 an14 cd14 ct14), sl14⟩)
    (c14 : PySem.W.codeIn K cd14 "law" = true) (k14 : PySem.W.keepIn K (.ref f14) = true)
    (z0 : PySem.W.nsIn K mainGlobals "KeyError" = some none)
    (z1 : PySem.W.nsIn K mainGlobals "ValueError" = some none)
    (z2 : PySem.W.nsIn K mainGlobals "all" = some none)
    (z3 : PySem.W.nsIn K mainGlobals "enumerate" = some none)
    (z4 : PySem.W.nsIn K mainGlobals "int" = some none)
    (z5 : PySem.W.nsIn K mainGlobals "isinstance" = some none)
    (z6 : PySem.W.nsIn K mainGlobals "len" = some none)
    (z7 : PySem.W.nsIn K mainGlobals "list" = some none)
    (z8 : PySem.W.nsIn K mainGlobals "range" = some none)
    (z9 : PySem.W.nsIn K mainGlobals "repr" = some none)
    (z10 : PySem.W.nsIn K mainGlobals "sorted" = some none)
    (z11 : PySem.W.nsIn K mainGlobals "str" = some none)
    {C_UnderError C_InvalidLetters C_InvalidMade C_InvalidBound C_InvalidZone C_InvalidRow C_InvalidProgram C_InvalidCommand C_Mismatch C_NoText C_NoValue C_NoName C_NoRow C_NoKey i_InvalidMade N_InvalidMade cda_InvalidMade cc_InvalidMade i_InvalidZone N_InvalidZone cda_InvalidZone cc_InvalidZone i_InvalidRow N_InvalidRow cda_InvalidRow cc_InvalidRow i_InvalidProgram N_InvalidProgram cda_InvalidProgram cc_InvalidProgram i_NoText N_NoText cda_NoText cc_NoText i_NoValue N_NoValue cda_NoValue cc_NoValue i_NoName N_NoName cda_NoName cc_NoName i_NoRow N_NoRow cda_NoRow cc_NoRow i_NoKey N_NoKey cda_NoKey cc_NoKey : Addr} {nm_InvalidMade q_InvalidMade file_InvalidMade nm_InvalidZone q_InvalidZone file_InvalidZone nm_InvalidRow q_InvalidRow file_InvalidRow nm_InvalidProgram q_InvalidProgram file_InvalidProgram nm_NoText q_NoText file_NoText nm_NoValue q_NoValue file_NoValue nm_NoName q_NoName file_NoName nm_NoRow q_NoRow file_NoRow nm_NoKey q_NoKey file_NoKey : Str} {bs_InvalidMade bm_InvalidMade sub_InvalidMade bs_InvalidZone bm_InvalidZone sub_InvalidZone bs_InvalidRow bm_InvalidRow sub_InvalidRow bs_InvalidProgram bm_InvalidProgram sub_InvalidProgram bs_NoText bm_NoText sub_NoText bs_NoValue bm_NoValue sub_NoValue bs_NoName bm_NoName sub_NoName bs_NoRow bm_NoRow sub_NoRow bs_NoKey bm_NoKey sub_NoKey : List Value} {sn_InvalidMade sn_InvalidZone sn_InvalidRow sn_InvalidProgram sn_NoText sn_NoValue sn_NoName sn_NoRow sn_NoKey : List Str} {ab_InvalidMade ab_InvalidZone ab_InvalidRow ab_InvalidProgram ab_NoText ab_NoValue ab_NoName ab_NoRow ab_NoKey : Bool} {col_InvalidMade col_InvalidZone col_InvalidRow col_InvalidProgram col_NoText col_NoValue col_NoName col_NoRow col_NoKey : Option Bool} {dd_InvalidMade od_InvalidMade an_InvalidMade cdd_InvalidMade cld_InvalidMade dd_InvalidZone od_InvalidZone an_InvalidZone cdd_InvalidZone cld_InvalidZone dd_InvalidRow od_InvalidRow an_InvalidRow cdd_InvalidRow cld_InvalidRow dd_InvalidProgram od_InvalidProgram an_InvalidProgram cdd_InvalidProgram cld_InvalidProgram dd_NoText od_NoText an_NoText cdd_NoText cld_NoText dd_NoValue od_NoValue an_NoValue cdd_NoValue cld_NoValue dd_NoName od_NoName an_NoName cdd_NoName cld_NoName dd_NoRow od_NoRow an_NoRow cdd_NoRow cld_NoRow dd_NoKey od_NoKey an_NoKey cdd_NoKey cld_NoKey : Option Addr} {k0_InvalidMade k1_InvalidMade k2_InvalidMade k3_InvalidMade k5_InvalidMade k0_InvalidZone k1_InvalidZone k2_InvalidZone k3_InvalidZone k5_InvalidZone k0_InvalidRow k1_InvalidRow k2_InvalidRow k3_InvalidRow k5_InvalidRow k0_InvalidProgram k1_InvalidProgram k2_InvalidProgram k3_InvalidProgram k5_InvalidProgram k0_NoText k1_NoText k2_NoText k3_NoText k5_NoText k0_NoValue k1_NoValue k2_NoValue k3_NoValue k5_NoValue k0_NoName k1_NoName k2_NoName k3_NoName k5_NoName k0_NoRow k1_NoRow k2_NoRow k3_NoRow k5_NoRow k0_NoKey k1_NoKey k2_NoKey k3_NoKey k5_NoKey : Option Value} {oc_InvalidMade kV_InvalidMade doc_InvalidMade pm_InvalidMade ct_InvalidMade ccl_InvalidMade cl_InvalidMade oc_InvalidZone kV_InvalidZone doc_InvalidZone pm_InvalidZone ct_InvalidZone ccl_InvalidZone cl_InvalidZone oc_InvalidRow kV_InvalidRow doc_InvalidRow pm_InvalidRow ct_InvalidRow ccl_InvalidRow cl_InvalidRow oc_InvalidProgram kV_InvalidProgram doc_InvalidProgram pm_InvalidProgram ct_InvalidProgram ccl_InvalidProgram cl_InvalidProgram oc_NoText kV_NoText doc_NoText pm_NoText ct_NoText ccl_NoText cl_NoText oc_NoValue kV_NoValue doc_NoValue pm_NoValue ct_NoValue ccl_NoValue cl_NoValue oc_NoName kV_NoName doc_NoName pm_NoName ct_NoName ccl_NoName cl_NoName oc_NoRow kV_NoRow doc_NoRow pm_NoRow ct_NoRow ccl_NoRow cl_NoRow oc_NoKey kV_NoKey doc_NoKey pm_NoKey ct_NoKey ccl_NoKey cl_NoKey : Value} {osl_InvalidMade ccs_InvalidMade csl_InvalidMade osl_InvalidZone ccs_InvalidZone csl_InvalidZone osl_InvalidRow ccs_InvalidRow csl_InvalidRow osl_InvalidProgram ccs_InvalidProgram csl_InvalidProgram osl_NoText ccs_NoText csl_NoText osl_NoValue ccs_NoValue csl_NoValue osl_NoName ccs_NoName csl_NoName osl_NoRow ccs_NoRow csl_NoRow osl_NoKey ccs_NoKey csl_NoKey : Array (Option Value)} {vs_InvalidMade vs_InvalidZone vs_InvalidRow vs_InvalidProgram vs_NoText vs_NoValue vs_NoName vs_NoRow vs_NoKey : Array Value} {tf_InvalidMade tf_InvalidZone tf_InvalidRow tf_InvalidProgram tf_NoText tf_NoValue tf_NoName tf_NoRow tf_NoKey tS tF tM : Tok}
    (A_UnderError : PySem.W.nsIn K mainGlobals "UnderError" = some (some (.ref C_UnderError)))
    (A_InvalidLetters : PySem.W.nsIn K mainGlobals "InvalidLetters" = some (some (.ref C_InvalidLetters)))
    (A_InvalidMade : PySem.W.nsIn K mainGlobals "InvalidMade" = some (some (.ref C_InvalidMade)))
    (A_InvalidBound : PySem.W.nsIn K mainGlobals "InvalidBound" = some (some (.ref C_InvalidBound)))
    (A_InvalidZone : PySem.W.nsIn K mainGlobals "InvalidZone" = some (some (.ref C_InvalidZone)))
    (A_InvalidRow : PySem.W.nsIn K mainGlobals "InvalidRow" = some (some (.ref C_InvalidRow)))
    (A_InvalidProgram : PySem.W.nsIn K mainGlobals "InvalidProgram" = some (some (.ref C_InvalidProgram)))
    (A_InvalidCommand : PySem.W.nsIn K mainGlobals "InvalidCommand" = some (some (.ref C_InvalidCommand)))
    (A_Mismatch : PySem.W.nsIn K mainGlobals "Mismatch" = some (some (.ref C_Mismatch)))
    (A_NoText : PySem.W.nsIn K mainGlobals "NoText" = some (some (.ref C_NoText)))
    (A_NoValue : PySem.W.nsIn K mainGlobals "NoValue" = some (some (.ref C_NoValue)))
    (A_NoName : PySem.W.nsIn K mainGlobals "NoName" = some (some (.ref C_NoName)))
    (A_NoRow : PySem.W.nsIn K mainGlobals "NoRow" = some (some (.ref C_NoRow)))
    (A_NoKey : PySem.W.nsIn K mainGlobals "NoKey" = some (some (.ref C_NoKey)))
    (I_InvalidMade : PySem.W.findIn K (.ref C_InvalidMade) "__init__" = some (some (.ref i_InvalidMade)))
    (L_InvalidMade : K.lookup C_InvalidMade = some (excClassObj nm_InvalidMade q_InvalidMade C_InvalidMade N_InvalidMade bs_InvalidMade bm_InvalidMade true sn_InvalidMade sub_InvalidMade ab_InvalidMade col_InvalidMade dd_InvalidMade k0_InvalidMade k1_InvalidMade k2_InvalidMade k3_InvalidMade k5_InvalidMade "ValueError.__new__"))
    (T_InvalidMade : PySem.W.excTail veTl bm_InvalidMade = true)
    (S_InvalidMade : supCB K "ValueError" "ValueError.__init__" veTl C_InvalidMade i_InvalidMade "at" = true)
    (F_InvalidMade : K.lookup i_InvalidMade = some ⟨oc_InvalidMade, od_InvalidMade, .func (PySem.W.ksFn "__init__" "InvalidMade.__init__" (defArgs s_InvalidMade) (defBody s_InvalidMade) (defScope s_InvalidMade) .none kV_InvalidMade doc_InvalidMade pm_InvalidMade an_InvalidMade (.ref cda_InvalidMade) ct_InvalidMade cc_InvalidMade), osl_InvalidMade⟩)
    (D_InvalidMade : PySem.W.codeIn K (.ref cda_InvalidMade) "InvalidMade.__init__" = true)
    (E_InvalidMade : K.lookup cda_InvalidMade = some ⟨ccl_InvalidMade, cdd_InvalidMade, .fields vs_InvalidMade, ccs_InvalidMade⟩)
    (V_InvalidMade : vs_InvalidMade[2]? = some (.str file_InvalidMade tf_InvalidMade))
    (W_InvalidMade : ((PySem.Challenge.pw_undername_k01_errors_and_letters.main.file : Str) == file_InvalidMade) = true)
    (X_InvalidMade : K.lookup cc_InvalidMade = some ⟨cl_InvalidMade, cld_InvalidMade, .cell (some (.ref C_InvalidMade)), csl_InvalidMade⟩)
    (Y_InvalidMade : PySem.W.typeIn K (.ref i_InvalidMade) = some (.type "function"))
    (I_InvalidZone : PySem.W.findIn K (.ref C_InvalidZone) "__init__" = some (some (.ref i_InvalidZone)))
    (L_InvalidZone : K.lookup C_InvalidZone = some (excClassObj nm_InvalidZone q_InvalidZone C_InvalidZone N_InvalidZone bs_InvalidZone bm_InvalidZone true sn_InvalidZone sub_InvalidZone ab_InvalidZone col_InvalidZone dd_InvalidZone k0_InvalidZone k1_InvalidZone k2_InvalidZone k3_InvalidZone k5_InvalidZone "ValueError.__new__"))
    (T_InvalidZone : PySem.W.excTail veTl bm_InvalidZone = true)
    (S_InvalidZone : supCB K "ValueError" "ValueError.__init__" veTl C_InvalidZone i_InvalidZone "at" = true)
    (F_InvalidZone : K.lookup i_InvalidZone = some ⟨oc_InvalidZone, od_InvalidZone, .func (PySem.W.ksFn "__init__" "InvalidZone.__init__" (defArgs s_InvalidZone) (defBody s_InvalidZone) (defScope s_InvalidZone) .none kV_InvalidZone doc_InvalidZone pm_InvalidZone an_InvalidZone (.ref cda_InvalidZone) ct_InvalidZone cc_InvalidZone), osl_InvalidZone⟩)
    (D_InvalidZone : PySem.W.codeIn K (.ref cda_InvalidZone) "InvalidZone.__init__" = true)
    (E_InvalidZone : K.lookup cda_InvalidZone = some ⟨ccl_InvalidZone, cdd_InvalidZone, .fields vs_InvalidZone, ccs_InvalidZone⟩)
    (V_InvalidZone : vs_InvalidZone[2]? = some (.str file_InvalidZone tf_InvalidZone))
    (W_InvalidZone : ((PySem.Challenge.pw_undername_k01_errors_and_letters.main.file : Str) == file_InvalidZone) = true)
    (X_InvalidZone : K.lookup cc_InvalidZone = some ⟨cl_InvalidZone, cld_InvalidZone, .cell (some (.ref C_InvalidZone)), csl_InvalidZone⟩)
    (Y_InvalidZone : PySem.W.typeIn K (.ref i_InvalidZone) = some (.type "function"))
    (I_InvalidRow : PySem.W.findIn K (.ref C_InvalidRow) "__init__" = some (some (.ref i_InvalidRow)))
    (L_InvalidRow : K.lookup C_InvalidRow = some (excClassObj nm_InvalidRow q_InvalidRow C_InvalidRow N_InvalidRow bs_InvalidRow bm_InvalidRow true sn_InvalidRow sub_InvalidRow ab_InvalidRow col_InvalidRow dd_InvalidRow k0_InvalidRow k1_InvalidRow k2_InvalidRow k3_InvalidRow k5_InvalidRow "ValueError.__new__"))
    (T_InvalidRow : PySem.W.excTail veTl bm_InvalidRow = true)
    (S_InvalidRow : supCB K "ValueError" "ValueError.__init__" veTl C_InvalidRow i_InvalidRow "word" = true)
    (F_InvalidRow : K.lookup i_InvalidRow = some ⟨oc_InvalidRow, od_InvalidRow, .func (PySem.W.ksFn "__init__" "InvalidRow.__init__" (defArgs s_InvalidRow) (defBody s_InvalidRow) (defScope s_InvalidRow) .none kV_InvalidRow doc_InvalidRow pm_InvalidRow an_InvalidRow (.ref cda_InvalidRow) ct_InvalidRow cc_InvalidRow), osl_InvalidRow⟩)
    (D_InvalidRow : PySem.W.codeIn K (.ref cda_InvalidRow) "InvalidRow.__init__" = true)
    (E_InvalidRow : K.lookup cda_InvalidRow = some ⟨ccl_InvalidRow, cdd_InvalidRow, .fields vs_InvalidRow, ccs_InvalidRow⟩)
    (V_InvalidRow : vs_InvalidRow[2]? = some (.str file_InvalidRow tf_InvalidRow))
    (W_InvalidRow : ((PySem.Challenge.pw_undername_k01_errors_and_letters.main.file : Str) == file_InvalidRow) = true)
    (X_InvalidRow : K.lookup cc_InvalidRow = some ⟨cl_InvalidRow, cld_InvalidRow, .cell (some (.ref C_InvalidRow)), csl_InvalidRow⟩)
    (Y_InvalidRow : PySem.W.typeIn K (.ref i_InvalidRow) = some (.type "function"))
    (I_InvalidProgram : PySem.W.findIn K (.ref C_InvalidProgram) "__init__" = some (some (.ref i_InvalidProgram)))
    (L_InvalidProgram : K.lookup C_InvalidProgram = some (excClassObj nm_InvalidProgram q_InvalidProgram C_InvalidProgram N_InvalidProgram bs_InvalidProgram bm_InvalidProgram true sn_InvalidProgram sub_InvalidProgram ab_InvalidProgram col_InvalidProgram dd_InvalidProgram k0_InvalidProgram k1_InvalidProgram k2_InvalidProgram k3_InvalidProgram k5_InvalidProgram "ValueError.__new__"))
    (T_InvalidProgram : PySem.W.excTail veTl bm_InvalidProgram = true)
    (S_InvalidProgram : supCB K "ValueError" "ValueError.__init__" veTl C_InvalidProgram i_InvalidProgram "at" = true)
    (F_InvalidProgram : K.lookup i_InvalidProgram = some ⟨oc_InvalidProgram, od_InvalidProgram, .func (PySem.W.ksFn "__init__" "InvalidProgram.__init__" (defArgs s_InvalidProgram) (defBody s_InvalidProgram) (defScope s_InvalidProgram) .none kV_InvalidProgram doc_InvalidProgram pm_InvalidProgram an_InvalidProgram (.ref cda_InvalidProgram) ct_InvalidProgram cc_InvalidProgram), osl_InvalidProgram⟩)
    (D_InvalidProgram : PySem.W.codeIn K (.ref cda_InvalidProgram) "InvalidProgram.__init__" = true)
    (E_InvalidProgram : K.lookup cda_InvalidProgram = some ⟨ccl_InvalidProgram, cdd_InvalidProgram, .fields vs_InvalidProgram, ccs_InvalidProgram⟩)
    (V_InvalidProgram : vs_InvalidProgram[2]? = some (.str file_InvalidProgram tf_InvalidProgram))
    (W_InvalidProgram : ((PySem.Challenge.pw_undername_k01_errors_and_letters.main.file : Str) == file_InvalidProgram) = true)
    (X_InvalidProgram : K.lookup cc_InvalidProgram = some ⟨cl_InvalidProgram, cld_InvalidProgram, .cell (some (.ref C_InvalidProgram)), csl_InvalidProgram⟩)
    (Y_InvalidProgram : PySem.W.typeIn K (.ref i_InvalidProgram) = some (.type "function"))
    (I_NoText : PySem.W.findIn K (.ref C_NoText) "__init__" = some (some (.ref i_NoText)))
    (L_NoText : K.lookup C_NoText = some (excClassObj nm_NoText q_NoText C_NoText N_NoText bs_NoText bm_NoText true sn_NoText sub_NoText ab_NoText col_NoText dd_NoText k0_NoText k1_NoText k2_NoText k3_NoText k5_NoText "ValueError.__new__"))
    (T_NoText : PySem.W.excTail veTl bm_NoText = true)
    (S_NoText : supCB K "ValueError" "ValueError.__init__" veTl C_NoText i_NoText "value" = true)
    (F_NoText : K.lookup i_NoText = some ⟨oc_NoText, od_NoText, .func (PySem.W.ksFn "__init__" "NoText.__init__" (defArgs s_NoText) (defBody s_NoText) (defScope s_NoText) .none kV_NoText doc_NoText pm_NoText an_NoText (.ref cda_NoText) ct_NoText cc_NoText), osl_NoText⟩)
    (D_NoText : PySem.W.codeIn K (.ref cda_NoText) "NoText.__init__" = true)
    (E_NoText : K.lookup cda_NoText = some ⟨ccl_NoText, cdd_NoText, .fields vs_NoText, ccs_NoText⟩)
    (V_NoText : vs_NoText[2]? = some (.str file_NoText tf_NoText))
    (W_NoText : ((PySem.Challenge.pw_undername_k01_errors_and_letters.main.file : Str) == file_NoText) = true)
    (X_NoText : K.lookup cc_NoText = some ⟨cl_NoText, cld_NoText, .cell (some (.ref C_NoText)), csl_NoText⟩)
    (Y_NoText : PySem.W.typeIn K (.ref i_NoText) = some (.type "function"))
    (I_NoValue : PySem.W.findIn K (.ref C_NoValue) "__init__" = some (some (.ref i_NoValue)))
    (L_NoValue : K.lookup C_NoValue = some (excClassObj nm_NoValue q_NoValue C_NoValue N_NoValue bs_NoValue bm_NoValue true sn_NoValue sub_NoValue ab_NoValue col_NoValue dd_NoValue k0_NoValue k1_NoValue k2_NoValue k3_NoValue k5_NoValue "ValueError.__new__"))
    (T_NoValue : PySem.W.excTail veTl bm_NoValue = true)
    (S_NoValue : supCB K "ValueError" "ValueError.__init__" veTl C_NoValue i_NoValue "value" = true)
    (F_NoValue : K.lookup i_NoValue = some ⟨oc_NoValue, od_NoValue, .func (PySem.W.ksFn "__init__" "NoValue.__init__" (defArgs s_NoValue) (defBody s_NoValue) (defScope s_NoValue) .none kV_NoValue doc_NoValue pm_NoValue an_NoValue (.ref cda_NoValue) ct_NoValue cc_NoValue), osl_NoValue⟩)
    (D_NoValue : PySem.W.codeIn K (.ref cda_NoValue) "NoValue.__init__" = true)
    (E_NoValue : K.lookup cda_NoValue = some ⟨ccl_NoValue, cdd_NoValue, .fields vs_NoValue, ccs_NoValue⟩)
    (V_NoValue : vs_NoValue[2]? = some (.str file_NoValue tf_NoValue))
    (W_NoValue : ((PySem.Challenge.pw_undername_k01_errors_and_letters.main.file : Str) == file_NoValue) = true)
    (X_NoValue : K.lookup cc_NoValue = some ⟨cl_NoValue, cld_NoValue, .cell (some (.ref C_NoValue)), csl_NoValue⟩)
    (Y_NoValue : PySem.W.typeIn K (.ref i_NoValue) = some (.type "function"))
    (I_NoName : PySem.W.findIn K (.ref C_NoName) "__init__" = some (some (.ref i_NoName)))
    (L_NoName : K.lookup C_NoName = some (excClassObj nm_NoName q_NoName C_NoName N_NoName bs_NoName bm_NoName true sn_NoName sub_NoName ab_NoName col_NoName dd_NoName k0_NoName k1_NoName k2_NoName k3_NoName k5_NoName "ValueError.__new__"))
    (T_NoName : PySem.W.excTail veTl bm_NoName = true)
    (S_NoName : supCB K "ValueError" "ValueError.__init__" veTl C_NoName i_NoName "number" = true)
    (F_NoName : K.lookup i_NoName = some ⟨oc_NoName, od_NoName, .func (PySem.W.ksFn "__init__" "NoName.__init__" (defArgs s_NoName) (defBody s_NoName) (defScope s_NoName) .none kV_NoName doc_NoName pm_NoName an_NoName (.ref cda_NoName) ct_NoName cc_NoName), osl_NoName⟩)
    (D_NoName : PySem.W.codeIn K (.ref cda_NoName) "NoName.__init__" = true)
    (E_NoName : K.lookup cda_NoName = some ⟨ccl_NoName, cdd_NoName, .fields vs_NoName, ccs_NoName⟩)
    (V_NoName : vs_NoName[2]? = some (.str file_NoName tf_NoName))
    (W_NoName : ((PySem.Challenge.pw_undername_k01_errors_and_letters.main.file : Str) == file_NoName) = true)
    (X_NoName : K.lookup cc_NoName = some ⟨cl_NoName, cld_NoName, .cell (some (.ref C_NoName)), csl_NoName⟩)
    (Y_NoName : PySem.W.typeIn K (.ref i_NoName) = some (.type "function"))
    (I_NoRow : PySem.W.findIn K (.ref C_NoRow) "__init__" = some (some (.ref i_NoRow)))
    (L_NoRow : K.lookup C_NoRow = some (excClassObj nm_NoRow q_NoRow C_NoRow N_NoRow bs_NoRow bm_NoRow true sn_NoRow sub_NoRow ab_NoRow col_NoRow dd_NoRow k0_NoRow k1_NoRow k2_NoRow k3_NoRow k5_NoRow "ValueError.__new__"))
    (T_NoRow : PySem.W.excTail veTl bm_NoRow = true)
    (S_NoRow : supCB K "ValueError" "ValueError.__init__" veTl C_NoRow i_NoRow "at" = true)
    (F_NoRow : K.lookup i_NoRow = some ⟨oc_NoRow, od_NoRow, .func (PySem.W.ksFn "__init__" "NoRow.__init__" (defArgs s_NoRow) (defBody s_NoRow) (defScope s_NoRow) .none kV_NoRow doc_NoRow pm_NoRow an_NoRow (.ref cda_NoRow) ct_NoRow cc_NoRow), osl_NoRow⟩)
    (D_NoRow : PySem.W.codeIn K (.ref cda_NoRow) "NoRow.__init__" = true)
    (E_NoRow : K.lookup cda_NoRow = some ⟨ccl_NoRow, cdd_NoRow, .fields vs_NoRow, ccs_NoRow⟩)
    (V_NoRow : vs_NoRow[2]? = some (.str file_NoRow tf_NoRow))
    (W_NoRow : ((PySem.Challenge.pw_undername_k01_errors_and_letters.main.file : Str) == file_NoRow) = true)
    (X_NoRow : K.lookup cc_NoRow = some ⟨cl_NoRow, cld_NoRow, .cell (some (.ref C_NoRow)), csl_NoRow⟩)
    (Y_NoRow : PySem.W.typeIn K (.ref i_NoRow) = some (.type "function"))
    (I_NoKey : PySem.W.findIn K (.ref C_NoKey) "__init__" = some (some (.ref i_NoKey)))
    (L_NoKey : K.lookup C_NoKey = some (excClassObj nm_NoKey q_NoKey C_NoKey N_NoKey bs_NoKey bm_NoKey true sn_NoKey sub_NoKey ab_NoKey col_NoKey dd_NoKey k0_NoKey k1_NoKey k2_NoKey k3_NoKey k5_NoKey "LookupError.__new__"))
    (T_NoKey : PySem.W.excTail keTail bm_NoKey = true)
    (S_NoKey : supCB K "KeyError" "KeyError.__init__" keTail C_NoKey i_NoKey "key" = true)
    (F_NoKey : K.lookup i_NoKey = some ⟨oc_NoKey, od_NoKey, .func (PySem.W.ksFn "__init__" "NoKey.__init__" (defArgs s_NoKey) (defBody s_NoKey) (defScope s_NoKey) .none kV_NoKey doc_NoKey pm_NoKey an_NoKey (.ref cda_NoKey) ct_NoKey cc_NoKey), osl_NoKey⟩)
    (D_NoKey : PySem.W.codeIn K (.ref cda_NoKey) "NoKey.__init__" = true)
    (E_NoKey : K.lookup cda_NoKey = some ⟨ccl_NoKey, cdd_NoKey, .fields vs_NoKey, ccs_NoKey⟩)
    (V_NoKey : vs_NoKey[2]? = some (.str file_NoKey tf_NoKey))
    (W_NoKey : ((PySem.Challenge.pw_undername_k01_errors_and_letters.main.file : Str) == file_NoKey) = true)
    (X_NoKey : K.lookup cc_NoKey = some ⟨cl_NoKey, cld_NoKey, .cell (some (.ref C_NoKey)), csl_NoKey⟩)
    (Y_NoKey : PySem.W.typeIn K (.ref i_NoKey) = some (.type "function"))
    (xi_InvalidLetters : PySem.W.excIn K C_InvalidLetters veTl "ValueError.__new__" = true)
    (kc_InvalidLetters : PySem.W.keepIn K (.ref C_InvalidLetters) = true)
    (xi_InvalidBound : PySem.W.excIn K C_InvalidBound veTl "ValueError.__new__" = true)
    (kc_InvalidBound : PySem.W.keepIn K (.ref C_InvalidBound) = true)
    (xi_InvalidCommand : PySem.W.excIn K C_InvalidCommand veTl "ValueError.__new__" = true)
    (kc_InvalidCommand : PySem.W.keepIn K (.ref C_InvalidCommand) = true)
    (xi_Mismatch : PySem.W.excIn K C_Mismatch veTl "ValueError.__new__" = true)
    (kc_Mismatch : PySem.W.keepIn K (.ref C_Mismatch) = true)
    (ec_InvalidLetters : excCB K C_InvalidLetters = true)
    (ec_InvalidMade : excCB K C_InvalidMade = true)
    (ec_InvalidBound : excCB K C_InvalidBound = true)
    (ec_InvalidZone : excCB K C_InvalidZone = true)
    (ec_InvalidRow : excCB K C_InvalidRow = true)
    (ec_InvalidProgram : excCB K C_InvalidProgram = true)
    (ec_InvalidCommand : excCB K C_InvalidCommand = true)
    (ec_Mismatch : excCB K C_Mismatch = true)
    (ec_NoText : excCB K C_NoText = true)
    (ec_NoValue : excCB K C_NoValue = true)
    (ec_NoName : excCB K C_NoName = true)
    (ec_NoRow : excCB K C_NoRow = true)
    (ec_NoKey : excCB K C_NoKey = true)
    (zS : PySem.W.nsIn K mainGlobals "SIGNS" = some (some (.str "-./0123456789_abcdefghijklmnopqrstuvwxyz" tS)))
    (zF : PySem.W.nsIn K mainGlobals "FEWEST" = some (some (.int 2 tF)))
    (zM : PySem.W.nsIn K mainGlobals "MOST" = some (some (.int 5 tM)))
    (zsup : PySem.W.nsIn K mainGlobals "super" = some none)
    (bB : PySem.W.subIn K (.ref C_InvalidLetters) (.type "BaseException") = some true)
    (tB : PySem.W.typeIn K (.ref C_InvalidLetters) = some (.type "type"))
    (eB : PySem.W.exmOne K (.ref C_InvalidLetters) (.ref C_InvalidLetters) = some true)
    (mat : kindsB K [C_InvalidLetters, C_InvalidMade, C_InvalidBound, C_InvalidZone, C_InvalidRow, C_InvalidProgram, C_InvalidCommand, C_Mismatch, C_NoText, C_NoValue, C_NoName, C_NoRow, C_NoKey] = true)
    (un1 : kindB K [C_InvalidLetters, C_InvalidMade, C_InvalidBound, C_InvalidZone, C_InvalidRow, C_InvalidProgram, C_InvalidCommand, C_Mismatch, C_NoText, C_NoValue, C_NoName, C_NoRow] (.ref C_UnderError) true = true)
    (un2 : PySem.W.kitOne K (.ref C_NoKey) (.ref C_UnderError) = some false)
    (ve1 : kindB K [C_InvalidLetters, C_InvalidMade, C_InvalidBound, C_InvalidZone, C_InvalidRow, C_InvalidProgram, C_InvalidCommand, C_Mismatch, C_NoText, C_NoValue, C_NoName, C_NoRow] (.type "ValueError") true = true)
    (ve2 : PySem.W.kitOne K (.ref C_NoKey) (.type "ValueError") = some false)
    (ke1 : kindB K [C_InvalidLetters, C_InvalidMade, C_InvalidBound, C_InvalidZone, C_InvalidRow, C_InvalidProgram, C_InvalidCommand, C_Mismatch, C_NoText, C_NoValue, C_NoName, C_NoRow] (.type "KeyError") false = true)
    (ke2 : PySem.W.kitOne K (.ref C_NoKey) (.type "KeyError") = some true)
    (ndp : [C_InvalidLetters, C_InvalidMade, C_InvalidBound, C_InvalidZone, C_InvalidRow, C_InvalidProgram, C_InvalidCommand, C_Mismatch, C_NoText, C_NoValue, C_NoName, C_NoRow, C_NoKey].Nodup)
    : ∃ fd : FuncData, (∀ (s : Shared) (v : Value), BindsTo s fd ⟨[v], []⟩ [("_law_script", v)]) ∧ ∀ base : Heap, K.In base → base.Ns mainGlobals mg → FnG PySem.Challenge.pw_undername_k01_errors_and_letters w K mg base CX0 4 fa fd ["_law_script"] (spLaw K) := by
  have e := hfa.symm.trans (PySem.W.mg_of X G a14)
  cases e
  have F0 := fun_mk (st := s_are_letters) l0 c0 k0
  have F1 := fun_mk (st := s_check_letters) l1 c1 k1
  have F2 := fun_mk (st := s_is_text) l2 c2 k2
  have F3 := fun_mk (st := s_l_deal) l3 c3 k3
  have F4 := fun_mk (st := s_l_draw) l4 c4 k4
  have F5 := fun_mk (st := s_l_pick) l5 c5 k5
  have F6 := fun_mk (st := s_l_letters) l6 c6 k6
  have F7 := fun_mk (st := s_l_word) l7 c7 k7
  have F8 := fun_mk (st := s_l_value) l8 c8 k8
  have F9 := fun_mk (st := s_l_kinds) l9 c9 k9
  have F10 := fun_mk (st := s_l_errors_right) l10 c10 k10
  have F11 := fun_mk (st := s_l_keeps_itself) l11 c11 k11
  have F12 := fun_mk (st := s_l_told) l12 c12 k12
  have F13 := fun_mk (st := s_l_spoilt) l13 c13 k13
  have F14 := fun_mk (st := s_law) l14 c14 k14
  have b0 := F0.binds (ps := ["value"]) fun _ _ _ _ _ _ us hl => match us, hl with | [_], _ => rfl
  have b1 := F1.binds (ps := ["letters"]) fun _ _ _ _ _ _ us hl => match us, hl with | [_], _ => rfl
  have b2 := F2.binds (ps := ["letters", "value"]) fun _ _ _ _ _ _ us hl => match us, hl with | [_, _], _ => rfl
  have b3 := F3.binds (ps := ["_law_script", "_law_base"]) fun _ _ _ _ _ _ us hl => match us, hl with | [_, _], _ => rfl
  have b4 := F4.binds (ps := ["_law_deal_here", "_law_many"]) fun _ _ _ _ _ _ us hl => match us, hl with | [_, _], _ => rfl
  have b5 := F5.binds (ps := ["_law_deal_here", "_law_some"]) fun _ _ _ _ _ _ us hl => match us, hl with | [_, _], _ => rfl
  have b6 := F6.binds (ps := ["_law_deal_here", "_law_many"]) fun _ _ _ _ _ _ us hl => match us, hl with | [_, _], _ => rfl
  have b7 := F7.binds (ps := ["_law_deal_here", "_law_letters_here", "_law_most"]) fun _ _ _ _ _ _ us hl => match us, hl with | [_, _, _], _ => rfl
  have b8 := F8.binds (ps := ["_law_deal_here"]) fun _ _ _ _ _ _ us hl => match us, hl with | [_], _ => rfl
  have b9 := F9.binds (ps := ["_law_error"]) fun _ _ _ _ _ _ us hl => match us, hl with | [_], _ => rfl
  have b10 := F10.binds (ps := ["_law_value_here"]) fun _ _ _ _ _ _ us hl => match us, hl with | [_], _ => rfl
  have b11 := F11.binds (ps := ["_law_value_here"]) fun _ _ _ _ _ _ us hl => match us, hl with | [_], _ => rfl
  have b12 := F12.binds (ps := ["_law_value_here"]) fun _ _ _ _ _ _ us hl => match us, hl with | [_], _ => rfl
  have b13 := F13.binds (ps := ["_law_deal_here", "_law_letters_here"]) fun _ _ _ _ _ _ us hl => match us, hl with | [_, _], _ => rfl
  have b14 := F14.binds (ps := ["_law_script"]) fun _ _ _ _ _ _ us hl => match us, hl with | [_], _ => rfl
  have T : Top K mg := ⟨f0, _, F0, PySem.W.mg_of X G a0, b0, f1, _, F1, PySem.W.mg_of X G a1, b1, f2, _, F2, PySem.W.mg_of X G a2, b2, f3, _, F3, PySem.W.mg_of X G a3, b3, f4, _, F4, PySem.W.mg_of X G a4, b4, f5, _, F5, PySem.W.mg_of X G a5, b5, f6, _, F6, PySem.W.mg_of X G a6, b6, f7, _, F7, PySem.W.mg_of X G a7, b7, f8, _, F8, PySem.W.mg_of X G a8, b8, f9, _, F9, PySem.W.mg_of X G a9, b9, f10, _, F10, PySem.W.mg_of X G a10, b10, f11, _, F11, PySem.W.mg_of X G a11, b11, f12, _, F12, PySem.W.mg_of X G a12, b12, f13, _, F13, PySem.W.mg_of X G a13, b13, fa, _, F14, PySem.W.mg_of X G a14, b14, PySem.W.mg_none_of X G z0, PySem.W.mg_none_of X G z1, PySem.W.mg_none_of X G z2, PySem.W.mg_none_of X G z3, PySem.W.mg_none_of X G z4, PySem.W.mg_none_of X G z5, PySem.W.mg_none_of X G z6, PySem.W.mg_none_of X G z7, PySem.W.mg_none_of X G z8, PySem.W.mg_none_of X G z9, PySem.W.mg_none_of X G z10, PySem.W.mg_none_of X G z11⟩
  exact ⟨PySem.W.fnOf "law" "law" (defArgs s_law) (defBody s_law) (defScope s_law) .none kV14 dc14 pm14 an14 cd14 ct14, fun s v => .of_eq rfl, fun base _ _ => ok_law ⟨f0, _, F0, PySem.W.mg_of X G a0, b0, f1, _, F1, PySem.W.mg_of X G a1, b1, f2, _, F2, PySem.W.mg_of X G a2, b2, f3, _, F3, PySem.W.mg_of X G a3, b3, f4, _, F4, PySem.W.mg_of X G a4, b4, f5, _, F5, PySem.W.mg_of X G a5, b5, f6, _, F6, PySem.W.mg_of X G a6, b6, f7, _, F7, PySem.W.mg_of X G a7, b7, f8, _, F8, PySem.W.mg_of X G a8, b8, f9, _, F9, PySem.W.mg_of X G a9, b9, f10, _, F10, PySem.W.mg_of X G a10, b10, f11, _, F11, PySem.W.mg_of X G a11, b11, f12, _, F12, PySem.W.mg_of X G a12, b12, f13, _, F13, PySem.W.mg_of X G a13, b13, fa, _, F14, PySem.W.mg_of X G a14, b14, PySem.W.mg_none_of X G z0, PySem.W.mg_none_of X G z1, PySem.W.mg_none_of X G z2, PySem.W.mg_none_of X G z3, PySem.W.mg_none_of X G z4, PySem.W.mg_none_of X G z5, PySem.W.mg_none_of X G z6, PySem.W.mg_none_of X G z7, PySem.W.mg_none_of X G z8, PySem.W.mg_none_of X G z9, PySem.W.mg_none_of X G z10, PySem.W.mg_none_of X G z11⟩ ⟨C_UnderError, PySem.W.mg_of X G A_UnderError, C_InvalidLetters, PySem.W.mg_of X G A_InvalidLetters, C_InvalidMade, PySem.W.mg_of X G A_InvalidMade, C_InvalidBound, PySem.W.mg_of X G A_InvalidBound, C_InvalidZone, PySem.W.mg_of X G A_InvalidZone, C_InvalidRow, PySem.W.mg_of X G A_InvalidRow, C_InvalidProgram, PySem.W.mg_of X G A_InvalidProgram, C_InvalidCommand, PySem.W.mg_of X G A_InvalidCommand, C_Mismatch, PySem.W.mg_of X G A_Mismatch, C_NoText, PySem.W.mg_of X G A_NoText, C_NoValue, PySem.W.mg_of X G A_NoValue, C_NoName, PySem.W.mg_of X G A_NoName, C_NoRow, PySem.W.mg_of X G A_NoRow, C_NoKey, PySem.W.mg_of X G A_NoKey, i_InvalidMade, supC_of S_InvalidMade L_InvalidMade T_InvalidMade, supF_mk ss_InvalidMade F_InvalidMade D_InvalidMade E_InvalidMade V_InvalidMade W_InvalidMade X_InvalidMade Y_InvalidMade, i_InvalidZone, supC_of S_InvalidZone L_InvalidZone T_InvalidZone, supF_mk ss_InvalidZone F_InvalidZone D_InvalidZone E_InvalidZone V_InvalidZone W_InvalidZone X_InvalidZone Y_InvalidZone, i_InvalidRow, supC_of S_InvalidRow L_InvalidRow T_InvalidRow, supF_mk ss_InvalidRow F_InvalidRow D_InvalidRow E_InvalidRow V_InvalidRow W_InvalidRow X_InvalidRow Y_InvalidRow, i_InvalidProgram, supC_of S_InvalidProgram L_InvalidProgram T_InvalidProgram, supF_mk ss_InvalidProgram F_InvalidProgram D_InvalidProgram E_InvalidProgram V_InvalidProgram W_InvalidProgram X_InvalidProgram Y_InvalidProgram, i_NoText, supC_of S_NoText L_NoText T_NoText, supF_mk ss_NoText F_NoText D_NoText E_NoText V_NoText W_NoText X_NoText Y_NoText, i_NoValue, supC_of S_NoValue L_NoValue T_NoValue, supF_mk ss_NoValue F_NoValue D_NoValue E_NoValue V_NoValue W_NoValue X_NoValue Y_NoValue, i_NoName, supC_of S_NoName L_NoName T_NoName, supF_mk ss_NoName F_NoName D_NoName E_NoName V_NoName W_NoName X_NoName Y_NoName, i_NoRow, supC_of S_NoRow L_NoRow T_NoRow, supF_mk ss_NoRow F_NoRow D_NoRow E_NoRow V_NoRow W_NoRow X_NoRow Y_NoRow, i_NoKey, supC_of S_NoKey L_NoKey T_NoKey, supF_mk ss_NoKey F_NoKey D_NoKey E_NoKey V_NoKey W_NoKey X_NoKey Y_NoKey, xi_InvalidLetters, kc_InvalidLetters, xi_InvalidBound, kc_InvalidBound, xi_InvalidCommand, kc_InvalidCommand, xi_Mismatch, kc_Mismatch, excC_of ec_InvalidLetters, excC_of ec_InvalidMade, excC_of ec_InvalidBound, excC_of ec_InvalidZone, excC_of ec_InvalidRow, excC_of ec_InvalidProgram, excC_of ec_InvalidCommand, excC_of ec_Mismatch, excC_of ec_NoText, excC_of ec_NoValue, excC_of ec_NoName, excC_of ec_NoRow, excC_of ec_NoKey, tS, PySem.W.mg_of X G zS, tF, PySem.W.mg_of X G zF, tM, PySem.W.mg_of X G zM, PySem.W.mg_none_of X G zsup, bB, tB, eB, mat, un1, un2, ve1, ve2, ke1, ke2, ndp⟩⟩
end K01
open PySem PySem.W PyProof.Rows
set_option maxHeartbeats 0 in
theorem PySem.Challenge.cw_undername_k01_errors_and_letters_holds : PySem.Challenge.rw_undername_k01_errors_and_letters.Holds := by
  w_on; o_law; k_head; (case hw => w_witness2)
  k_fill
  refine U.walk_ofG (l := PySem.Challenge.rw_undername_k01_errors_and_letters) (n := 63) (k := 4) (x := "_law_script") (CX := fun _ => L2.CX0) (sp := fun w => K01.spLaw _) rfl (by decide) rfl ⟨rfl, by decide, by decide⟩ (fun w h Y => PySem.W.kIn_of Y) ?F (fun _ _ a ns hl _ hS => ⟨a, ns, rfl, hS, hl, fun _ => rfl⟩) (fun _ _ _ _ _ h => h)
  case F =>
    intro w mg fa h KX G hmg
    refine' K01.all_mk KX G hmg ?a0 ?l0 ?c0 ?k0 ?a1 ?l1 ?c1 ?k1 ?a2 ?l2 ?c2 ?k2 ?a3 ?l3 ?c3 ?k3 ?a4 ?l4 ?c4 ?k4 ?a5 ?l5 ?c5 ?k5 ?a6 ?l6 ?c6 ?k6 ?a7 ?l7 ?c7 ?k7 ?a8 ?l8 ?c8 ?k8 ?a9 ?l9 ?c9 ?k9 ?a10 ?l10 ?c10 ?k10 ?a11 ?l11 ?c11 ?k11 ?a12 ?l12 ?c12 ?k12 ?a13 ?l13 ?c13 ?k13 ?a14 ?l14 ?c14 ?k14 ?z0 ?z1 ?z2 ?z3 ?z4 ?z5 ?z6 ?z7 ?z8 ?z9 ?z10 ?z11 ?A_UnderError ?A_InvalidLetters ?A_InvalidMade ?A_InvalidBound ?A_InvalidZone ?A_InvalidRow ?A_InvalidProgram ?A_InvalidCommand ?A_Mismatch ?A_NoText ?A_NoValue ?A_NoName ?A_NoRow ?A_NoKey ?I_InvalidMade ?L_InvalidMade ?T_InvalidMade ?S_InvalidMade ?F_InvalidMade ?D_InvalidMade ?E_InvalidMade ?V_InvalidMade ?W_InvalidMade ?X_InvalidMade ?Y_InvalidMade ?I_InvalidZone ?L_InvalidZone ?T_InvalidZone ?S_InvalidZone ?F_InvalidZone ?D_InvalidZone ?E_InvalidZone ?V_InvalidZone ?W_InvalidZone ?X_InvalidZone ?Y_InvalidZone ?I_InvalidRow ?L_InvalidRow ?T_InvalidRow ?S_InvalidRow ?F_InvalidRow ?D_InvalidRow ?E_InvalidRow ?V_InvalidRow ?W_InvalidRow ?X_InvalidRow ?Y_InvalidRow ?I_InvalidProgram ?L_InvalidProgram ?T_InvalidProgram ?S_InvalidProgram ?F_InvalidProgram ?D_InvalidProgram ?E_InvalidProgram ?V_InvalidProgram ?W_InvalidProgram ?X_InvalidProgram ?Y_InvalidProgram ?I_NoText ?L_NoText ?T_NoText ?S_NoText ?F_NoText ?D_NoText ?E_NoText ?V_NoText ?W_NoText ?X_NoText ?Y_NoText ?I_NoValue ?L_NoValue ?T_NoValue ?S_NoValue ?F_NoValue ?D_NoValue ?E_NoValue ?V_NoValue ?W_NoValue ?X_NoValue ?Y_NoValue ?I_NoName ?L_NoName ?T_NoName ?S_NoName ?F_NoName ?D_NoName ?E_NoName ?V_NoName ?W_NoName ?X_NoName ?Y_NoName ?I_NoRow ?L_NoRow ?T_NoRow ?S_NoRow ?F_NoRow ?D_NoRow ?E_NoRow ?V_NoRow ?W_NoRow ?X_NoRow ?Y_NoRow ?I_NoKey ?L_NoKey ?T_NoKey ?S_NoKey ?F_NoKey ?D_NoKey ?E_NoKey ?V_NoKey ?W_NoKey ?X_NoKey ?Y_NoKey ?xi_InvalidLetters ?kc_InvalidLetters ?xi_InvalidBound ?kc_InvalidBound ?xi_InvalidCommand ?kc_InvalidCommand ?xi_Mismatch ?kc_Mismatch ?ec_InvalidLetters ?ec_InvalidMade ?ec_InvalidBound ?ec_InvalidZone ?ec_InvalidRow ?ec_InvalidProgram ?ec_InvalidCommand ?ec_Mismatch ?ec_NoText ?ec_NoValue ?ec_NoName ?ec_NoRow ?ec_NoKey ?zS ?zF ?zM ?zsup ?bB ?tB ?eB ?mat ?un1 ?un2 ?ve1 ?ve2 ?ke1 ?ke2 ?ndp
    (case a0 => k_is)
    (case l0 => k_is)
    (case c0 => k_is)
    (case k0 => k_is)
    (case a1 => k_is)
    (case l1 => k_is)
    (case c1 => k_is)
    (case k1 => k_is)
    (case a2 => k_is)
    (case l2 => k_is)
    (case c2 => k_is)
    (case k2 => k_is)
    (case a3 => k_is)
    (case l3 => k_is)
    (case c3 => k_is)
    (case k3 => k_is)
    (case a4 => k_is)
    (case l4 => k_is)
    (case c4 => k_is)
    (case k4 => k_is)
    (case a5 => k_is)
    (case l5 => k_is)
    (case c5 => k_is)
    (case k5 => k_is)
    (case a6 => k_is)
    (case l6 => k_is)
    (case c6 => k_is)
    (case k6 => k_is)
    (case a7 => k_is)
    (case l7 => k_is)
    (case c7 => k_is)
    (case k7 => k_is)
    (case a8 => k_is)
    (case l8 => k_is)
    (case c8 => k_is)
    (case k8 => k_is)
    (case a9 => k_is)
    (case l9 => k_is)
    (case c9 => k_is)
    (case k9 => k_is)
    (case a10 => k_is)
    (case l10 => k_is)
    (case c10 => k_is)
    (case k10 => k_is)
    (case a11 => k_is)
    (case l11 => k_is)
    (case c11 => k_is)
    (case k11 => k_is)
    (case a12 => k_is)
    (case l12 => k_is)
    (case c12 => k_is)
    (case k12 => k_is)
    (case a13 => k_is)
    (case l13 => k_is)
    (case c13 => k_is)
    (case k13 => k_is)
    (case a14 => k_is)
    (case l14 => k_is)
    (case c14 => k_is)
    (case k14 => k_is)
    (case z0 => k_is)
    (case z1 => k_is)
    (case z2 => k_is)
    (case z3 => k_is)
    (case z4 => k_is)
    (case z5 => k_is)
    (case z6 => k_is)
    (case z7 => k_is)
    (case z8 => k_is)
    (case z9 => k_is)
    (case z10 => k_is)
    (case z11 => k_is)
    (case A_UnderError => k_is)
    (case A_InvalidLetters => k_is)
    (case A_InvalidMade => k_is)
    (case A_InvalidBound => k_is)
    (case A_InvalidZone => k_is)
    (case A_InvalidRow => k_is)
    (case A_InvalidProgram => k_is)
    (case A_InvalidCommand => k_is)
    (case A_Mismatch => k_is)
    (case A_NoText => k_is)
    (case A_NoValue => k_is)
    (case A_NoName => k_is)
    (case A_NoRow => k_is)
    (case A_NoKey => k_is)
    (case I_InvalidMade => k_is)
    (case L_InvalidMade => k_is)
    (case T_InvalidMade => kernel_rfl)
    (case S_InvalidMade => kernel_rfl)
    (case F_InvalidMade => k_is)
    (case D_InvalidMade => k_is)
    (case E_InvalidMade => k_is)
    (case V_InvalidMade => rfl)
    (case W_InvalidMade => kernel_rfl)
    (case X_InvalidMade => k_is)
    (case Y_InvalidMade => k_is)
    (case I_InvalidZone => k_is)
    (case L_InvalidZone => k_is)
    (case T_InvalidZone => kernel_rfl)
    (case S_InvalidZone => kernel_rfl)
    (case F_InvalidZone => k_is)
    (case D_InvalidZone => k_is)
    (case E_InvalidZone => k_is)
    (case V_InvalidZone => rfl)
    (case W_InvalidZone => kernel_rfl)
    (case X_InvalidZone => k_is)
    (case Y_InvalidZone => k_is)
    (case I_InvalidRow => k_is)
    (case L_InvalidRow => k_is)
    (case T_InvalidRow => kernel_rfl)
    (case S_InvalidRow => kernel_rfl)
    (case F_InvalidRow => k_is)
    (case D_InvalidRow => k_is)
    (case E_InvalidRow => k_is)
    (case V_InvalidRow => rfl)
    (case W_InvalidRow => kernel_rfl)
    (case X_InvalidRow => k_is)
    (case Y_InvalidRow => k_is)
    (case I_InvalidProgram => k_is)
    (case L_InvalidProgram => k_is)
    (case T_InvalidProgram => kernel_rfl)
    (case S_InvalidProgram => kernel_rfl)
    (case F_InvalidProgram => k_is)
    (case D_InvalidProgram => k_is)
    (case E_InvalidProgram => k_is)
    (case V_InvalidProgram => rfl)
    (case W_InvalidProgram => kernel_rfl)
    (case X_InvalidProgram => k_is)
    (case Y_InvalidProgram => k_is)
    (case I_NoText => k_is)
    (case L_NoText => k_is)
    (case T_NoText => kernel_rfl)
    (case S_NoText => kernel_rfl)
    (case F_NoText => k_is)
    (case D_NoText => k_is)
    (case E_NoText => k_is)
    (case V_NoText => rfl)
    (case W_NoText => kernel_rfl)
    (case X_NoText => k_is)
    (case Y_NoText => k_is)
    (case I_NoValue => k_is)
    (case L_NoValue => k_is)
    (case T_NoValue => kernel_rfl)
    (case S_NoValue => kernel_rfl)
    (case F_NoValue => k_is)
    (case D_NoValue => k_is)
    (case E_NoValue => k_is)
    (case V_NoValue => rfl)
    (case W_NoValue => kernel_rfl)
    (case X_NoValue => k_is)
    (case Y_NoValue => k_is)
    (case I_NoName => k_is)
    (case L_NoName => k_is)
    (case T_NoName => kernel_rfl)
    (case S_NoName => kernel_rfl)
    (case F_NoName => k_is)
    (case D_NoName => k_is)
    (case E_NoName => k_is)
    (case V_NoName => rfl)
    (case W_NoName => kernel_rfl)
    (case X_NoName => k_is)
    (case Y_NoName => k_is)
    (case I_NoRow => k_is)
    (case L_NoRow => k_is)
    (case T_NoRow => kernel_rfl)
    (case S_NoRow => kernel_rfl)
    (case F_NoRow => k_is)
    (case D_NoRow => k_is)
    (case E_NoRow => k_is)
    (case V_NoRow => rfl)
    (case W_NoRow => kernel_rfl)
    (case X_NoRow => k_is)
    (case Y_NoRow => k_is)
    (case I_NoKey => k_is)
    (case L_NoKey => k_is)
    (case T_NoKey => kernel_rfl)
    (case S_NoKey => kernel_rfl)
    (case F_NoKey => k_is)
    (case D_NoKey => k_is)
    (case E_NoKey => k_is)
    (case V_NoKey => rfl)
    (case W_NoKey => kernel_rfl)
    (case X_NoKey => k_is)
    (case Y_NoKey => k_is)
    (case xi_InvalidLetters => k_exc)
    (case kc_InvalidLetters => k_is)
    (case xi_InvalidBound => k_exc)
    (case kc_InvalidBound => k_is)
    (case xi_InvalidCommand => k_exc)
    (case kc_InvalidCommand => k_is)
    (case xi_Mismatch => k_exc)
    (case kc_Mismatch => k_is)
    (case ec_InvalidLetters => kernel_rfl)
    (case ec_InvalidMade => kernel_rfl)
    (case ec_InvalidBound => kernel_rfl)
    (case ec_InvalidZone => kernel_rfl)
    (case ec_InvalidRow => kernel_rfl)
    (case ec_InvalidProgram => kernel_rfl)
    (case ec_InvalidCommand => kernel_rfl)
    (case ec_Mismatch => kernel_rfl)
    (case ec_NoText => kernel_rfl)
    (case ec_NoValue => kernel_rfl)
    (case ec_NoName => kernel_rfl)
    (case ec_NoRow => kernel_rfl)
    (case ec_NoKey => kernel_rfl)
    (case zS => k_is)
    (case zF => k_is)
    (case zM => k_is)
    (case zsup => k_is)
    (case bB => k_is)
    (case tB => k_is)
    (case eB => kernel_rfl)
    (case mat => kernel_rfl)
    (case un1 => kernel_rfl)
    (case un2 => kernel_rfl)
    (case ve1 => kernel_rfl)
    (case ve2 => kernel_rfl)
    (case ke1 => kernel_rfl)
    (case ke2 => kernel_rfl)
    (case ndp => decide +kernel)
#print axioms PySem.Challenge.cw_undername_k01_errors_and_letters_holds
