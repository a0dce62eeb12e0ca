import PyProof.Rows.All
import Wide.All
import OpenK.AllK
import Wide.FinOn
import HandS.ForMost
import HandS.Style
import HandS.Wide
import HandS.StrMore
import HandS.Replace
import HandS.IsInst
import HandS.RaiseMore
import HandS.Walk
import PySem.Challenge.RW_undername_k04_whole_words_and_names_on_t
set_option Elab.async false
set_option linter.all false
set_option maxRecDepth 100000
set_option maxHeartbeats 4000000
/-! U: own rules over the layer, and texts as lists of codes -/
namespace U
open PySem PySem.Spec PyProof.Rows L2
/-- a text from its codes -/
def S (l : List Nat) : Str := ⟨l.toArray⟩
theorem S_toList (l : List Nat) : (S l).cps.toList = l := by simp [S]
theorem S_cps (z : Str) : S z.cps.toList = z := by cases z; simp [S]
theorem S_len (l : List Nat) : (S l).length = l.length := by simp [S, Str.length]
theorem S_inj {a b : List Nat} : S a = S b ↔ a = b := by
  constructor
  · intro h
    have := congrArg (fun z => z.cps.toList) h
    simpa [S_toList] using this
  · rintro rfl; rfl
theorem S_app (a b : List Nat) : S a ++ S b = S (a ++ b) := by
  show Str.mk ((S a).cps ++ (S b).cps) = S (a ++ b)
  simp [S]
theorem str_of (z : Str) : ∃ l, z = S l := ⟨_, (S_cps z).symm⟩
/-- the signs of a text, each a text -/
def chars (l : List Nat) : List V := l.map fun c => V.str (S [c])
section
variable {X : Cx}
theorem items_chars : ∀ {l : List Nat} {acc : List Value}, acc.length = l.length → (∀ (j : Nat) (v : Value), acc[j]? = some v → ∃ (c : Nat) (t : Tok), l[j]? = some c ∧ v = Value.str (S [c]) t) → Vals (chars l) acc
  | [], [], _, _ => .nil
  | [], _ :: _, h, _ => by simp at h
  | _ :: _, [], h, _ => by simp at h
  | c :: l, v :: acc, h, k => by
    refine .cons ?_ (items_chars (by simpa using h) fun j v e => by simpa using k (j + 1) v (by simpa using e))
    obtain ⟨c', t, e, rfl⟩ := k 0 v rfl
    simp at e
    subst e
    exact ⟨t, rfl⟩
theorem call_listS (hc : X.calm = true) : CallR X (.type "list") (fun xs H Q => ∃ l : List Nat, xs = [.str (S l)] ∧ l.length ≤ sizeLine ∧ ∀ p, H p = none → Q (.ref p) (upd H p (.lst (chars l)))) := by
  intro pins s σ H xs us Q I r h
  obtain ⟨l, rfl, hz, q⟩ := h
  obtain ⟨u, rfl, t, rfl⟩ := vals1 r
  refine PySem.call_list_str (I.ok.hd hc) (S l) t (fun h' tk acc c' kp e hi => ?_) (by simpa [S] using hz)
  have hv : Vals (chars l) acc.toList := by
    refine items_chars (by simpa [S] using hi.1) fun j v e => ?_
    have := hi.2 j v (by simpa using e)
    obtain ⟨c, t, h1, h2⟩ := this
    exact ⟨c, t, by simpa [S] using h1, by simpa [S] using h2⟩
  refine ⟨.ref s.heap.objs.size, _, I.laid (t' := tk) kp (Nat.le_refl _) (show ObjOk X.prog X.w _ h' _ (.lst (chars l)) from ⟨by simpa [chars] using hz, acc.toList, c', hv, by simpa using e⟩), rfl, q _ (I.hok.fresh (Nat.le_refl _))⟩
/-- n times the list -/
def rep (l : List Nat) (n : Nat) : List Nat := (List.replicate n l).flatten
theorem rep_len (l : List Nat) (n : Nat) : (rep l n).length = n * l.length := by
  simp [rep, List.length_flatten]
theorem foldl_app (ls : List (Array Nat)) : ∀ acc : Array Nat, (ls.foldl (· ++ ·) acc).toList = acc.toList ++ (ls.map Array.toList).flatten := by
  induction ls with
  | nil => intro acc; simp
  | cons a ls ih => intro acc; simp [ih]
theorem mul_eq (l : List Nat) (n : Nat) : Txt.mul (S l) (n : Int) = S (rep l n) := by
  unfold Txt.mul
  by_cases h1 : (n : Int) < 1
  · have : n = 0 := by omega
    subst this
    simp [rep, S]
    rfl
  · rw [if_neg h1]
    split
    · rename_i h
      rcases Bool.or_eq_true_iff.mp h with h | h
      · have : n = 1 := by
          have := of_decide_eq_true h
          omega
        subst this
        simp [rep]
      · have : l = [] := by
          have := of_decide_eq_true h
          rw [S_len] at this
          exact List.length_eq_zero_iff.mp this
        subst this
        simp [rep, S]
    · show Str.mk _ = S _
      have := foldl_app (List.replicate (n : Int).toNat (S l).cps) #[]
      simp only [List.map_replicate, S_toList] at this
      rw [← S_cps (Str.mk _)]
      rw [this]
      simp [rep]
theorem op_mul_str : OpR X (binaryOp .Mult) (fun x y H Q => ∃ (l : List Nat) (n : Nat), x = .str (S l) ∧ y = .int (n : Int) ∧ l.length * n ≤ 1000000 ∧ n ≤ 1000000 ∧ Q (.str (S (rep l n))) H) := by
  intro pins s σ H x y u v Q I rx ry h
  obtain ⟨l, n, rfl, rfl, hb, hn, q⟩ := h
  obtain ⟨t, rfl⟩ := rx
  obtain ⟨t', rfl⟩ := ry
  refine PySem.SB.mul ⟨?_, ?_, ?_⟩ fun tk k => ⟨.str (S (rep l n)), H, I.tok _, ⟨tk, by rw [mul_eq]⟩, q⟩
  · rw [decide_eq_false (by omega), decide_eq_false (by omega)]; rfl
  · intro h1 _ h2
    rw [S_len] at h2
    have h3 : (1 : Int) ≤ n := by omega
    have h4 : (2 ^ 63 - 1 : Int) / n * n ≤ 2 ^ 63 - 1 := Int.ediv_mul_le _ (by omega)
    have h6 : (l.length : Int) * n ≤ 1000000 := by rw [← Int.natCast_mul]; omega
    have h7 : ((2 ^ 63 - 1 : Int) / n + 1) * n ≤ l.length * n := Int.mul_le_mul_of_nonneg_right (by omega) (by omega)
    have h8 : (2 ^ 63 - 1 : Int) < ((2 ^ 63 - 1 : Int) / n + 1) * n := Int.lt_ediv_add_one_mul_self _ (by omega)
    omega
  · intro _ _
    rw [S_len]
    have : l.length * (n : Int).toNat ≤ 1000000 := by simpa using hb
    have h2 := sizeLine_eq
    show decide (_ > sizeLine) = false
    exact decide_eq_false (by omega)
end
end U
namespace U
open PySem PySem.Spec PyProof.Rows L2
/-- the deal: its great cells at c, the mixed number -/
structure DealIs (H : Hp) (a c : Addr) (ns : List Int) (m : Int) : Prop where
  hd : H a = some (.lst [.ref c, .int m])
  cs : H c = some (.lst (ns.map V.int))
  pos : ∀ n ∈ ns, 0 ≤ n
  few : ns.length ≤ 63
  m0 : 0 ≤ m
  m1 : m < 2147483647
def Deal (H : Hp) (a c : Addr) : Prop := ∃ (ns : List Int) (m : Int), DealIs H a c ns m
/-- all but the deal is kept -/
def Kp (a c : Addr) (H H' : Hp) : Prop := ∀ b o, b ≠ a → b ≠ c → H b = some o → H' b = some o
theorem Kp.refl (a c : Addr) (H : Hp) : Kp a c H H := fun _ _ _ _ h => h
theorem Kp.trans {a c : Addr} {H H1 H2 : Hp} (x : Kp a c H H1) (y : Kp a c H1 H2) : Kp a c H H2 := fun b o h1 h2 h => y b o h1 h2 (x b o h1 h2 h)
theorem Kp.updA {a c : Addr} {H H1 : Hp} {o : HO} (x : Kp a c H H1) : Kp a c H (upd H1 a o) := fun b u h1 h2 h => by rw [upd_ne h1]; exact x b u h1 h2 h
theorem Kp.updC {a c : Addr} {H H1 : Hp} {o : HO} (x : Kp a c H H1) : Kp a c H (upd H1 c o) := fun b u h1 h2 h => by rw [upd_ne h2]; exact x b u h1 h2 h
theorem Kp.new {a c p : Addr} {H H1 : Hp} {o : HO} (x : Kp a c H H1) (hp : H p = none) : Kp a c H (upd H1 p o) := fun b u h1 h2 h => by rw [upd_ne (ne_of_none h hp)]; exact x b u h1 h2 h
theorem Kp.new' {a c p : Addr} {H H1 : Hp} {o : HO} (x : Kp a c H H1) (hp : H1 p = none) : Kp a c H (upd H1 p o) := fun b u h1 h2 h => by
  have := x b u h1 h2 h
  rw [upd_ne (ne_of_none this hp)]; exact this
theorem DealIs.nac {a c : Addr} {H : Hp} {ns : List Int} {m : Int} (d : DealIs H a c ns m) : a ≠ c := ne_of d.hd d.cs (by
  intro h
  have h := HO.lst.inj h
  cases ns with
  | nil => cases h
  | cons n ns => cases h)
theorem DealIs.upd {a c p : Addr} {H : Hp} {o : HO} {ns : List Int} {m : Int} (d : DealIs H a c ns m) (h1 : p ≠ a) (h2 : p ≠ c) : DealIs (L2.upd H p o) a c ns m :=
  ⟨by rw [upd_ne h1.symm]; exact d.hd, by rw [upd_ne h2.symm]; exact d.cs, d.pos, d.few, d.m0, d.m1⟩
theorem DealIs.ne {a c p : Addr} {H : Hp} {ns : List Int} {m : Int} (d : DealIs H a c ns m) (hp : H p = none) : p ≠ a ∧ p ≠ c := ⟨(ne_of_none d.hd hp).symm, (ne_of_none d.cs hp).symm⟩
theorem DealIs.new {a c p : Addr} {H : Hp} {o : HO} {ns : List Int} {m : Int} (d : DealIs H a c ns m) (hp : H p = none) : DealIs (L2.upd H p o) a c ns m := d.upd (d.ne hp).1 (d.ne hp).2
theorem DealIs.setC {a c : Addr} {H : Hp} {ns ns' : List Int} {m : Int} (d : DealIs H a c ns m) (h1 : ∀ n ∈ ns', 0 ≤ n) (h2 : ns'.length ≤ 63) : DealIs (L2.upd H c (.lst (ns'.map V.int))) a c ns' m :=
  ⟨by rw [upd_ne d.nac]; exact d.hd, upd_same, h1, h2, d.m0, d.m1⟩
theorem DealIs.setM {a c : Addr} {H : Hp} {ns : List Int} {m m' : Int} (d : DealIs H a c ns m) (h1 : 0 ≤ m') (h2 : m' < 2147483647) : DealIs (L2.upd H a (.lst [.ref c, .int m'])) a c ns m' :=
  ⟨upd_same, by rw [upd_ne d.nac.symm]; exact d.cs, d.pos, d.few, h1, h2⟩
theorem Deal.new {a c p : Addr} {H : Hp} {o : HO} (d : Deal H a c) (hp : H p = none) : Deal (L2.upd H p o) a c := by
  obtain ⟨ns, m, d⟩ := d
  exact ⟨ns, m, d.new hp⟩
theorem Deal.upd {a c p : Addr} {H : Hp} {o : HO} (d : Deal H a c) (h1 : p ≠ a) (h2 : p ≠ c) : Deal (L2.upd H p o) a c := by
  obtain ⟨ns, m, d⟩ := d
  exact ⟨ns, m, d.upd h1 h2⟩
theorem Deal.ne {a c p : Addr} {H : Hp} (d : Deal H a c) (hp : H p = none) : p ≠ a ∧ p ≠ c := by
  obtain ⟨ns, m, d⟩ := d
  exact d.ne hp
/-- a draw: any number from 0 on, less than many -/
def spDraw : Sp := fun vs H Q _ => ∃ (a c : Addr) (many : Int), vs = [.ref a, .int many] ∧ Deal H a c ∧ 1 ≤ many ∧ many < 2 ^ 200 ∧ ∀ (r : Int) H', 0 ≤ r → r < many → Deal H' a c → Kp a c H H' → Q (.int r) H'
theorem eqv_nil (ns : List Int) : PyData.eqv (.list (ns.map PyData.int)) (.list []) = decide (ns = []) := by
  cases ns <;> simp [PyData.eqv, PyData.eqvAll]
theorem dpInts {K : PySem.W.Frag} {H : Hp} : ∀ ns : List Int, DpAll K H (ns.map V.int) (ns.map PyData.int)
  | [] => .nil
  | n :: ns => .cons (.int n) (dpInts ns)
theorem layInts : ∀ ns : List Int, PyData.canLayAll0 (ns.map PyData.int) = true
  | [] => rfl
  | n :: ns => by simpa [PyData.canLayAll0, PyData.canLay0] using layInts ns
theorem depInts : ∀ ns : List Int, PyData.depthAll (ns.map PyData.int) = 0
  | [] => rfl
  | n :: ns => by simpa [PyData.depthAll, PyData.depth] using depInts ns
theorem shInts (ns : List Int) : SeqAt.shaped (.list (ns.map PyData.int)) = true := by
  simp [SeqAt.shaped, PyData.canLay0, PyData.depth, layInts, depInts]
theorem lt200 {x m : Int} (h0 : 1 ≤ m) (h : m < 2 ^ 200) : CDivW x m :=
  wide_div (b := 200) (by omega) (by omega) (by decide) (by decide)
section
variable {K : PySem.W.Frag} {σ : L2.St} {H : Hp} {a c : Addr} {ns : List Int} {m : Int}
theorem deal0 (d : DealIs H a c ns m) (h : σ[0]? = some (some (.ref a))) {Q : VK} (k : Q (.ref c) H) : tOp (rIxL K) (tVar 0) (tC (.int 0)) σ H Q :=
  ⟨_, h, a, _, 0, .ref c, rfl, rfl, SqL.of d.hd, rfl, k⟩
theorem deal1 (d : DealIs H a c ns m) (h : σ[0]? = some (some (.ref a))) {Q : VK} (k : Q (.int m) H) : tOp (rIxL K) (tVar 0) (tC (.int 1)) σ H Q :=
  ⟨_, h, a, _, 1, .int m, rfl, rfl, SqL.of d.hd, rfl, k⟩
theorem dealNe (d : DealIs H a c ns m) (h : σ[0]? = some (some (.ref a))) {Q : Bool → Hp → Prop} (k : ∀ p, H p = none → DealIs (upd H p (.lst [])) a c ns m → Q (!decide (ns = [])) (upd H p (.lst []))) :
    tTest (tOp (rNeD K) (tOp (rIxL K) (tVar 0) (tC (.int 0))) (tLst tNil)) σ H Q := by
  refine deal0 d h ?_
  refine ⟨Nat.zero_le _, fun p hp => ?_⟩
  have d' : DealIs (upd H p (.lst [])) a c ns m := d.new hp
  refine ⟨_, .list [], .lst (SqL.of d'.cs) (dpInts ns), .lst (SqL.of upd_same) .nil, shInts ns, rfl, _, rfl, ?_⟩
  rw [eqv_nil]
  exact k p hp d'
theorem rev_last {ns : List Int} (h : ns ≠ []) : ∃ l z, ns = l ++ [z] := ⟨ns.dropLast, ns.getLast h, (List.dropLast_concat_getLast h).symm⟩
end
end U
namespace U
open PySem PySem.Spec PyProof.Rows L2
theorem Same.new {H H1 : Hp} {p : Addr} {o : HO} (x : Same H H1) (hp : H1 p = none) : Same H (upd H1 p o) := fun b u h => by
  have := x b u h
  rw [upd_ne (ne_of_none this hp)]; exact this
theorem Same.mut {H H1 : Hp} {p : Addr} {o : HO} (x : Same H H1) (hp : H p = none) : Same H (upd H1 p o) := fun b u h => by
  rw [upd_ne (ne_of_none h hp)]; exact x b u h
theorem Same.rd {H H' : Hp} {a : Addr} {u : HO} (e : Same H H') (h : Rd H a u) : Rd H' a u := by
  rcases h with h | ⟨o, h⟩
  · exact .inl (e a _ h)
  · exact .inr ⟨o, e a _ h⟩
theorem Same.tup {K : PySem.W.Frag} {H H' : Hp} {a : Addr} {xs : List V} (e : Same H H') (h : SqT K H a xs) : SqT K H' a xs := by
  rcases h with h | h
  · exact .inl (Same.rd e h)
  · exact .inr h
theorem cut_map {α : Type} (f : α → V) (xs : List α) (lo hi : Option Int) : ∃ ys : List α, cutV (xs.map f) lo hi = ys.map f ∧ (∀ y ∈ ys, y ∈ xs) ∧ ys.length ≤ xs.length := by
  refine ⟨(xs.drop (HT.sIx xs.length 0 lo)).take (HT.sIx xs.length xs.length hi - HT.sIx xs.length 0 lo), ?_, fun y hy => List.mem_of_mem_drop (List.mem_of_mem_take hy), ?_⟩
  · unfold cutV
    rw [List.length_map, List.map_take, List.map_drop]
  · rw [List.length_take, List.length_drop]
    omega
/-- the deal of a script -/
def spDeal (K : PySem.W.Frag) : Sp := fun vs H Q _ => ∃ (a0 : Addr) (ns : List Int) (b : Int), vs = [.ref a0, .int b] ∧ SqL K H a0 (ns.map V.int) ∧ ns.length ≤ 63 ∧ 0 ≤ b ∧ b ≤ 63 ∧ ∀ a c H', Same H H' → H a = none → H c = none → Deal H' a c → Q (.ref a) H'
/-- something that is walked: its values, what must stand -/
structure Src (J : It) (xs : List V) (G : Hp → Prop) : Prop where
  w : Walk J xs.length G (YAt xs)
  mono : ∀ H H', Same H H' → G H → G H'
theorem src_list (K : PySem.W.Frag) (a : Addr) (xs : List V) : Src (Itl K a) xs (fun H => SqL K H a xs) := ⟨walk_list, fun _ _ e h => e.seq h⟩
theorem src_tup (K : PySem.W.Frag) (a : Addr) (xs : List V) : Src (Itt K a) xs (fun H => SqT K H a xs) := ⟨walk_tup, fun _ _ e h => Same.tup e h⟩
def rngV (lo : Int) (n : Nat) : List V := (List.range n).map fun (i : Nat) => V.int (lo + (i : Int))
theorem rngV_len (lo : Int) (n : Nat) : (rngV lo n).length = n := by simp [rngV]
theorem rngV_get {lo : Int} {n i : Nat} {x : V} : (rngV lo n)[i]? = some x ↔ i < n ∧ x = .int (lo + (i : Int)) := by
  simp only [rngV, List.getElem?_map, List.getElem?_range]
  constructor
  · intro h
    by_cases hi : i < n
    · rw [List.getElem?_range hi] at h
      exact ⟨hi, (Option.some.inj h).symm⟩
    · rw [List.getElem?_eq_none (by simpa using hi)] at h
      cases h
  · rintro ⟨hi, rfl⟩
    rw [List.getElem?_range hi]
    rfl
theorem src_range (lo : Int) (n : Nat) : Src (Itr lo n) (rngV lo n) (fun _ => True) := by
  refine ⟨⟨fun i H hi _ => ?_, fun H _ => ?_, fun i H x H' hi _ hy => ?_⟩, fun _ _ _ _ => trivial⟩
  · rw [rngV_len] at hi; exact hi
  · rw [rngV_len]; exact Nat.le_refl _
  · rw [rngV_len] at hi
    obtain ⟨e1, e2⟩ := hy
    exact ⟨e1, rngV_get.mpr ⟨hi, e2⟩⟩
theorem src_str (l : List Nat) : Src (Its (S l)) (chars l) (fun _ => True) := by
  have e : (S l).cps.size = l.length := S_len l
  have e2 : (chars l).length = l.length := by simp [chars]
  refine ⟨⟨fun i H hi _ => ?_, fun H _ => ?_, fun i H x H' hi _ hy => ?_⟩, fun _ _ _ _ => trivial⟩
  · rw [e2] at hi; show i < (S l).cps.size; omega
  · rw [e2]; show (S l).cps.size ≤ l.length; omega
  · obtain ⟨e1, c, e3, rfl⟩ := hy
    refine ⟨e1, ?_⟩
    have : l[i]? = some c := by simpa [S] using e3
    simp [chars, this, S]
section
variable {J : It} {xs : List V} {G : Hp → Prop} {σ : L2.St} {H H1 : Hp} {D : Addr} {Qd : Hp → Prop} {vs : List Nat} {tt : TT} {te : TE} {j : Nat}
/-- a comprehension whose tests and items leave what stood -/
theorem lcS (s : Src J xs G) (p : V → Bool) (f : V → V) (hG : G H1) (hD : H1 D = none) (hw : ∀ x, wipe ((wipe σ vs).set j (some x)) vs = wipe σ vs) (hl : xs.length ≤ 100000)
    (ht : ∀ x ∈ xs, ∀ H', Same H1 H' → ∀ Q : Bool → Hp → Prop, (∀ H'', Same H' H'' → Q (p x) H'') → tt ((wipe σ vs).set j (some x)) H' Q)
    (he : ∀ x ∈ xs, p x = true → ∀ H', Same H1 H' → ∀ Q : VK, (∀ H'', Same H' H'' → Q (f x) H'') → te ((wipe σ vs).set j (some x)) H' Q)
    (hd : ∀ H', Same H1 H' → H' D = some (.lst ((xs.filter p).map f)) → Qd H') :
    ∃ W : Nat → Nat → Hp → Prop, (∃ m, W 0 m (upd H1 D (.lst []))) ∧ ∀ i m H, W i m H →
      (J.stop i H ∧ Qd H) ∨ (J.go i H ∧ ∃ Nx : Hp → Prop, (∀ H', Nx H' → ∃ m', m' < m ∧ W (i + 1) m' H') ∧ ∀ x H', J.yld i H x H' → gName j x (wipe σ vs) H' fun σ2 H2 => wipe σ2 vs = wipe σ vs ∧ tt σ2 H2 fun b H3 =>
        if b = true then te σ2 H3 fun y H4 => ∃ acc, H4 D = some (.lst acc) ∧ acc.length < sizeLine ∧ Nx (upd H4 D (.lst (acc ++ [y]))) else Nx H3) := by
  refine lc_it s.w (fun i H' => Same H1 H' ∧ H' D = some (.lst (((xs.take i).filter p).map f))) ⟨Same.new (Same.refl _) hD, by rw [upd_same]; rfl⟩ (fun i H' _ h => s.mono _ _ h.1 hG) ?_ (fun H' h => hd H' h.1 (by have := h.2; rw [List.take_length] at this; exact this))
  rintro i x H2 H3 hi ⟨s1, e1⟩ ⟨rfl, hx⟩
  have hm : x ∈ xs := List.mem_of_getElem? hx
  have et : xs.take (i + 1) = xs.take i ++ [x] := by rw [List.take_add_one, hx]; rfl
  refine ⟨hw x, ht x hm _ s1 _ fun H4 s4 => ?_⟩
  cases hp : p x with
  | false =>
    refine iteF ⟨s1.trans s4, ?_⟩
    rw [et, List.filter_append, List.filter_cons_of_neg (by simp [hp]), List.filter_nil, List.append_nil]
    exact s4 _ _ e1
  | true =>
    refine iteT (he x hm hp _ (s1.trans s4) _ fun H5 s5 => ⟨_, s5 _ _ (s4 _ _ e1), ?_, Same.mut ((s1.trans s4).trans s5) hD, ?_⟩)
    · have h1 : (((xs.take i).filter p).map f).length ≤ xs.length := by
        rw [List.length_map]
        refine Nat.le_trans (List.length_filter_le _ _) ?_
        rw [List.length_take]
        omega
      have := sizeLine_eq
      omega
    · rw [upd_same, et, List.filter_append, List.filter_cons_of_pos (by simp [hp]), List.filter_nil, List.map_append]
      rfl
/-- the same without a test -/
theorem lcM (s : Src J xs G) (f : V → V) (hG : G H1) (hD : H1 D = none) (hw : ∀ x, wipe ((wipe σ vs).set j (some x)) vs = wipe σ vs) (hl : xs.length ≤ 100000)
    (he : ∀ x ∈ xs, ∀ H', Same H1 H' → ∀ Q : VK, (∀ H'', Same H' H'' → Q (f x) H'') → te ((wipe σ vs).set j (some x)) H' Q)
    (hd : ∀ H', Same H1 H' → H' D = some (.lst (xs.map f)) → Qd H') :
    ∃ W : Nat → Nat → Hp → Prop, (∃ m, W 0 m (upd H1 D (.lst []))) ∧ ∀ i m H, W i m H →
      (J.stop i H ∧ Qd H) ∨ (J.go i H ∧ ∃ Nx : Hp → Prop, (∀ H', Nx H' → ∃ m', m' < m ∧ W (i + 1) m' H') ∧ ∀ x H', J.yld i H x H' → gName j x (wipe σ vs) H' fun σ2 H2 => wipe σ2 vs = wipe σ vs ∧ tYes σ2 H2 fun b H3 =>
        if b = true then te σ2 H3 fun y H4 => ∃ acc, H4 D = some (.lst acc) ∧ acc.length < sizeLine ∧ Nx (upd H4 D (.lst (acc ++ [y]))) else Nx H3) :=
  lcS s (fun _ => true) f hG hD hw hl (fun x _ H' _ Q k => k H' (Same.refl _)) (fun x hx _ => he x hx) (fun H' s1 e => hd H' s1 (by rw [e, List.filter_eq_self.mpr (fun _ _ => rfl)]))
end
end U
namespace U
open PySem PySem.Spec PyProof.Rows L2
theorem Kp.rd {a c p : Addr} {H H' : Hp} {u : HO} (e : Kp a c H H') (h1 : p ≠ a) (h2 : p ≠ c) (h : Rd H p u) : Rd H' p u := by
  rcases h with h | ⟨o, h⟩
  · exact .inl (e p _ h1 h2 h)
  · exact .inr ⟨o, e p _ h1 h2 h⟩
theorem Kp.sqL {K : PySem.W.Frag} {a c p : Addr} {H H' : Hp} {xs : List V} (e : Kp a c H H') (h1 : p ≠ a) (h2 : p ≠ c) (h : SqL K H p xs) : SqL K H' p xs := by
  rcases h with h | h
  · exact .inl (e.rd h1 h2 h)
  · exact .inr h
theorem Kp.sqT {K : PySem.W.Frag} {a c p : Addr} {H H' : Hp} {xs : List V} (e : Kp a c H H') (h1 : p ≠ a) (h2 : p ≠ c) (h : SqT K H p xs) : SqT K H' p xs := by
  rcases h with h | h
  · exact .inl (e.rd h1 h2 h)
  · exact .inr h
theorem Same.kp {a c : Addr} {H H' : Hp} (e : Same H H') : Kp a c H H' := fun b o _ _ h => e b o h
theorem Deal.free {a c p : Addr} {H H' : Hp} (d : Deal H a c) (e : Kp a c H H') (d' : Deal H' a c) (hp : H' p = none) : H p = none := by
  cases q : H p with
  | none => rfl
  | some o =>
    have n := d'.ne hp
    rw [e p o n.1 n.2 q] at hp
    cases hp
theorem atI_int {α : Type} {xs : List α} {i : Int} {v : α} (h0 : 0 ≤ i) (h : xs[i.toNat]? = some v) : atI xs i = some v := by
  obtain ⟨n, rfl⟩ := Int.eq_ofNat_of_zero_le h0
  exact atI_nat (by simpa using h)
/-- one sign of a text; one thing of a list -/
def spPickS : Sp := fun vs H Q _ => ∃ (a c : Addr) (l : List Nat), vs = [.ref a, .str (S l)] ∧ Deal H a c ∧ l ≠ [] ∧ l.length ≤ 1000 ∧ ∀ (x : Nat) H', x ∈ l → Deal H' a c → Kp a c H H' → Q (.str (S [x])) H'
def spPickL (K : PySem.W.Frag) : Sp := fun vs H Q _ => ∃ (a c p : Addr) (xs : List V), vs = [.ref a, .ref p] ∧ Deal H a c ∧ SqL K H p xs ∧ p ≠ a ∧ p ≠ c ∧ xs ≠ [] ∧ xs.length ≤ 1000 ∧ ∀ (v : V) H', v ∈ xs → Deal H' a c → Kp a c H H' → Q v H'
/-- letters: some signs, each once, ascending -/
def signs : List Nat := (Str.ofString "-./0123456789_abcdefghijklmnopqrstuvwxyz").cps.toList
theorem signs_eq : signs = [45, 46, 47, 48, 49, 50, 51, 52, 53, 54, 55, 56, 57, 95, 97, 98, 99, 100, 101, 102, 103, 104, 105, 106, 107, 108, 109, 110, 111, 112, 113, 114, 115, 116, 117, 118, 119, 120, 121, 122] := by decide +kernel
theorem signs_S : Str.ofString "-./0123456789_abcdefghijklmnopqrstuvwxyz" = S signs := (S_cps _).symm
structure Letters (l : List Nat) (n : Nat) : Prop where
  len : l.length = n
  asc : l.Pairwise (· < ·)
  sub : ∀ x ∈ l, x ∈ signs
theorem nat_of {z : Int} (h : 0 ≤ z) : ∃ n : Nat, z = (n : Int) := ⟨z.toNat, (Int.toNat_of_nonneg h).symm⟩
def spLetters : Sp := fun vs H Q _ => ∃ (a c : Addr) (z : Int), vs = [.ref a, .int z] ∧ Deal H a c ∧ 0 ≤ z ∧ z ≤ 10 ∧ ∀ l H', Letters l z.toNat → Deal H' a c → Kp a c H H' → Q (.str (S l)) H'
/-! ### joined signs, sorted signs -/
theorem join_nil : ∀ ls : List (List Nat), Txt.join (S []) (ls.map S) = S ls.flatten := by
  intro ls
  rw [show Txt.join (S []) (ls.map S) = Str.join (S []) (ls.map S) from PySem.StrLaws.glued_eq_join _ _]
  induction ls with
  | nil => rfl
  | cons x r ih =>
    cases r with
    | nil => simp [Str.join]
    | cons y r =>
      show S x ++ S [] ++ Str.join (S []) (S y :: r.map S) = _
      rw [show (S y :: r.map S) = (y :: r).map S from rfl, ih, S_app, S_app]
      simp
theorem joinOnes (l : List Nat) : Txt.join (S []) (l.map fun c => S [c]) = S l := by
  have h := join_nil (l.map fun c => [c])
  rw [List.map_map] at h
  have e : ∀ l : List Nat, (l.map fun c => [c]).flatten = l := fun l => by
    induction l with
    | nil => rfl
    | cons x r ih => rw [List.map_cons, List.flatten_cons, ih]; rfl
  rw [e] at h
  exact h
theorem len_ones (l : List Nat) : ((l.map fun c => S [c]).map (·.length)).sum = l.length := by
  induction l with
  | nil => rfl
  | cons x r ih =>
    have e : (S [x]).length = 1 := S_len [x]
    simp only [List.map_cons, List.sum_cons, List.length_cons, e]
    omega
theorem chars_eq (l : List Nat) : chars l = (l.map fun c => S [c]).map V.str := by simp [chars]
theorem perm_ones {ys : List Str} {xs : List Nat} (h : ys.Perm (xs.map fun c => S [c])) : ∃ l : List Nat, l.Perm xs ∧ ys = l.map fun c => S [c] := by
  refine ⟨ys.map fun z => z.cps.toList.headD 0, ?_, ?_⟩
  · have h2 := h.map fun z : Str => z.cps.toList.headD 0
    rw [List.map_map] at h2
    have e : (xs.map ((fun z : Str => z.cps.toList.headD 0) ∘ fun c => S [c])) = xs := by
      conv => rhs; rw [← List.map_id xs]
      exact List.map_congr_left fun c _ => by simp [S]
    rw [e] at h2
    exact h2
  · rw [List.map_map]
    conv => lhs; rw [← List.map_id ys]
    refine List.map_congr_left fun z hz => ?_
    obtain ⟨c, _, rfl⟩ := List.mem_map.mp (h.mem_iff.mp hz)
    simp [S]
theorem sorted_ones : ∀ {l : List Nat}, sortedS (l.map fun c => S [c]) = true → l.Pairwise (· ≤ ·) := by
  have key : ∀ (l : List Nat) (p : Nat), risingS (S [p]) (l.map fun c => S [c]) = true → (∀ x ∈ l, p ≤ x) ∧ l.Pairwise (· ≤ ·) := by
    intro l
    induction l with
    | nil => intro p _; exact ⟨fun _ h => (nomatch h), .nil⟩
    | cons x r ih =>
      intro p h
      rw [List.map_cons] at h
      unfold risingS at h
      obtain ⟨h1, h2⟩ := Bool.and_eq_true_iff.mp h
      obtain ⟨h3, h4⟩ := ih x h2
      have h5 : p ≤ x := by
        rw [S_toList, S_toList, ltCps_eq] at h1
        have h1 : decide ([x] < [p]) = false := by simpa using h1
        have h1 := of_decide_eq_false h1
        rw [List.cons_lt_cons_iff] at h1
        omega
      refine ⟨fun y hy => ?_, .cons h3 h4⟩
      rcases List.mem_cons.mp hy with rfl | hy
      · exact h5
      · exact Nat.le_trans h5 (h3 y hy)
  intro l h
  cases l with
  | nil => exact .nil
  | cons x r =>
    obtain ⟨h3, h4⟩ := key r x h
    exact .cons h3 h4
theorem asc_of {l : List Nat} (h : l.Pairwise (· ≤ ·)) (n : l.Nodup) : l.Pairwise (· < ·) := by
  have := h.and n
  exact this.imp fun ⟨a, b⟩ => by omega
theorem seqIx {r : Int} {n : Nat} (h0 : 0 ≤ r) (h1 : r < n) : seqIndex? r n = some r.toNat := by
  have e : ixN n r = some r.toNat := by
    unfold ixN
    rw [if_pos h0, if_pos h1]
  exact (ixN_seq e).1
theorem map_erase {α β : Type} (f : α → β) : ∀ (l : List α) (i : Nat), (l.map f).eraseIdx i = (l.eraseIdx i).map f
  | [], _ => rfl
  | _ :: _, 0 => rfl
  | x :: l, i + 1 => by
    show f x :: (l.map f).eraseIdx i = f x :: (l.eraseIdx i).map f
    rw [map_erase f l i]
theorem erase_perm {α : Type} : ∀ (l : List α) (i : Nat) (h : i < l.length), (l[i] :: l.eraseIdx i).Perm l
  | x :: l, 0, _ => List.Perm.refl _
  | x :: l, i + 1, h => by
    have hi : i < l.length := by simpa using h
    have ih := erase_perm l i hi
    show (l[i] :: x :: l.eraseIdx i).Perm (x :: l)
    exact (List.Perm.swap x l[i] _).trans (ih.cons x)
theorem signs_nd : signs.Nodup := by rw [signs_eq]; decide +kernel
theorem signs_len : signs.length = 40 := by rw [signs_eq]; rfl
theorem empty_S : Str.ofString "" = S [] := rfl
/-- a word over letters -/
def spWord : Sp := fun vs H Q _ => ∃ (a c : Addr) (l : List Nat) (z : Int), vs = [.ref a, .str (S l), .int z] ∧ Deal H a c ∧ l ≠ [] ∧ l.length ≤ 1000 ∧ 0 ≤ z ∧ z ≤ 1000 ∧
  ∀ (x : List Nat) H', x.length ≤ z.toNat → (∀ y ∈ x, y ∈ l) → Deal H' a c → Kp a c H H' → Q (.str (S x)) H'
end U
/-! numbers of names: plain mathematics -/
namespace M3
/-- the place of a letter -/
def ix : List Nat → Nat → Nat
  | [], _ => 0
  | x :: r, c => if x = c then 0 else ix r c + 1
theorem ix_lt : ∀ {L : List Nat} {c : Nat}, c ∈ L → ix L c < L.length
  | x :: r, c, h => by
    unfold ix
    split
    · simp
    · rename_i hn
      have : c ∈ r := by
        rcases List.mem_cons.mp h with e | h
        · exact absurd e.symm hn
        · exact h
      have := ix_lt this
      simp; omega
theorem ix_get : ∀ {L : List Nat} {c : Nat}, c ∈ L → L[ix L c]? = some c
  | x :: r, c, h => by
    unfold ix
    split
    · rename_i e; simp [e]
    · rename_i hn
      have : c ∈ r := by
        rcases List.mem_cons.mp h with e | h
        · exact absurd e.symm hn
        · exact h
      simpa using ix_get this
theorem ix_of {L : List Nat} (nd : L.Nodup) {i c : Nat} (h : L[i]? = some c) : ix L c = i := by
  induction L generalizing i with
  | nil => simp at h
  | cons x r ih =>
    unfold ix
    cases i with
    | zero =>
      have e : x = c := by simpa using h
      simp [e]
    | succ i =>
      have h : r[i]? = some c := by simpa using h
      have hm : c ∈ r := List.mem_of_getElem? h
      have hx : x ∉ r := (List.nodup_cons.mp nd).1
      have hne : x ≠ c := fun e => hx (e ▸ hm)
      rw [if_neg hne, ih (List.nodup_cons.mp nd).2 h]
theorem ix_mono {L : List Nat} (asc : L.Pairwise (· < ·)) {c d : Nat} (hc : c ∈ L) (hd : d ∈ L) : c < d ↔ ix L c < ix L d := by
  have key : ∀ {c d : Nat}, c ∈ L → d ∈ L → ix L c < ix L d → c < d := by
    intro c d hc hd h
    have e1 := ix_get hc
    have e2 := ix_get hd
    have l1 := ix_lt hc
    have l2 := ix_lt hd
    have := List.pairwise_iff_getElem.mp asc (ix L c) (ix L d) l1 l2 h
    rw [List.getElem?_eq_getElem l1] at e1
    rw [List.getElem?_eq_getElem l2] at e2
    rw [Option.some.inj e1, Option.some.inj e2] at this
    exact this
  constructor
  · intro h
    rcases Nat.lt_trichotomy (ix L c) (ix L d) with h1 | h1 | h1
    · exact h1
    · have e1 := ix_get hc
      have e2 := ix_get hd
      rw [h1, e2] at e1
      have := Option.some.inj e1
      omega
    · have := key hd hc h1
      omega
  · exact key hc hd
theorem ix_inj {L : List Nat} {c d : Nat} (hc : c ∈ L) (hd : d ∈ L) (h : ix L c = ix L d) : c = d := by
  have e1 := ix_get hc
  have e2 := ix_get hd
  rw [h, e2] at e1
  exact (Option.some.inj e1).symm
def geo (n : Nat) : Nat → Nat
  | 0 => 0
  | m + 1 => geo n m + n ^ m
/-- digits, the first one the greatest place -/
def pv (n : Nat) : List Nat → Nat
  | [] => 0
  | x :: d => x * n ^ d.length + pv n d
def val (n : Nat) (d : List Nat) : Nat := d.foldl (fun a x => a * n + x + 1) 0
theorem val_app (n : Nat) (d : List Nat) (x : Nat) : val n (d ++ [x]) = val n d * n + x + 1 := by simp [val]
theorem geo_mul (n m : Nat) : geo n (m + 1) = geo n m * n + 1 := by
  induction m with
  | zero => simp [geo]
  | succ m ih =>
    show geo n (m + 1) + n ^ (m + 1) = geo n (m + 1) * n + 1
    conv => lhs; rw [ih]
    show geo n m * n + 1 + n ^ (m + 1) = (geo n m + n ^ m) * n + 1
    rw [Nat.add_mul, Nat.pow_succ]
    omega
theorem pv_app (n : Nat) (d : List Nat) (x : Nat) : pv n (d ++ [x]) = pv n d * n + x := by
  induction d with
  | nil => simp [pv]
  | cons y d ih =>
    show y * n ^ (d ++ [x]).length + pv n (d ++ [x]) = (y * n ^ d.length + pv n d) * n + x
    rw [ih, List.length_append, Nat.add_mul, Nat.mul_assoc, ← Nat.pow_succ]
    show y * n ^ (d.length + 1) + (pv n d * n + x) = y * n ^ (d.length + 1) + pv n d * n + x
    omega
theorem val_eq (n : Nat) (d : List Nat) : val n d = geo n d.length + pv n d := by
  generalize hm : d.length = m
  induction m generalizing d with
  | zero =>
    have : d = [] := List.length_eq_zero_iff.mp hm
    subst this
    rfl
  | succ m ih =>
    have hne : d ≠ [] := by intro e; subst e; simp at hm
    obtain ⟨l, x, rfl⟩ : ∃ l x, d = l ++ [x] := ⟨d.dropLast, d.getLast hne, (List.dropLast_concat_getLast hne).symm⟩
    have hl : l.length = m := by simpa using hm
    rw [val_app, pv_app, geo_mul, ih l hl, Nat.add_mul]
    omega
theorem pv_lt {n : Nat} (hn : 1 ≤ n) : ∀ d : List Nat, (∀ x ∈ d, x < n) → pv n d < n ^ d.length
  | [], _ => by simp [pv]
  | x :: d, h => by
    have h1 := pv_lt hn d fun y hy => h y (List.mem_cons_of_mem _ hy)
    have h2 : x < n := h x List.mem_cons_self
    show x * n ^ d.length + pv n d < n ^ (d.length + 1)
    have h3 : (x + 1) * n ^ d.length ≤ n * n ^ d.length := Nat.mul_le_mul_right _ h2
    rw [Nat.pow_succ, Nat.mul_comm (n ^ d.length) n]
    rw [Nat.add_mul] at h3
    omega
theorem geo_le {n : Nat} {a b : Nat} (h : a ≤ b) : geo n a ≤ geo n b := by
  induction h with
  | refl => exact Nat.le_refl _
  | step _ ih => exact Nat.le_trans ih (Nat.le_add_right _ _)
theorem val_len {n : Nat} (hn : 1 ≤ n) {a b : List Nat} (ha : ∀ x ∈ a, x < n) (h : a.length < b.length) : val n a < val n b := by
  rw [val_eq, val_eq]
  have h1 := pv_lt hn a ha
  have h2 : geo n (a.length + 1) ≤ geo n b.length := geo_le h
  have h3 : geo n (a.length + 1) = geo n a.length + n ^ a.length := rfl
  omega
/-- of one length: by the first unlike digit -/
theorem pv_lex {n : Nat} (hn : 1 ≤ n) : ∀ {a b : List Nat}, a.length = b.length → (∀ x ∈ a, x < n) → (∀ x ∈ b, x < n) → pv n a < pv n b → a < b
  | [], [], _, _, _, h => by simp [pv] at h
  | x :: a, y :: b, hl0, ha, hb, h0 => by
    have hl : a.length = b.length := by simpa using hl0
    have h1 := pv_lt hn a fun y hy => ha y (List.mem_cons_of_mem _ hy)
    have h2 := pv_lt hn b fun y hy => hb y (List.mem_cons_of_mem _ hy)
    have h : x * n ^ a.length + pv n a < y * n ^ b.length + pv n b := h0
    clear h0 hl0
    rw [List.cons_lt_cons_iff]
    rcases Nat.lt_trichotomy x y with e | e | e
    · exact .inl e
    · subst e
      rw [hl] at h
      exact .inr ⟨rfl, pv_lex hn hl (fun y hy => ha y (List.mem_cons_of_mem _ hy)) (fun y hy => hb y (List.mem_cons_of_mem _ hy)) (by omega)⟩
    · exfalso
      have h3 : (y + 1) * n ^ a.length ≤ x * n ^ a.length := Nat.mul_le_mul_right _ e
      rw [Nat.add_mul, hl] at h3
      rw [hl] at h
      omega
theorem pv_inj {n : Nat} (hn : 1 ≤ n) : ∀ {a b : List Nat}, a.length = b.length → (∀ x ∈ a, x < n) → (∀ x ∈ b, x < n) → pv n a = pv n b → a = b
  | [], [], _, _, _, h => rfl
  | x :: a, y :: b, hl0, ha, hb, h0 => by
    have hl : a.length = b.length := by simpa using hl0
    have h1 := pv_lt hn a fun y hy => ha y (List.mem_cons_of_mem _ hy)
    have h2 := pv_lt hn b fun y hy => hb y (List.mem_cons_of_mem _ hy)
    have h : x * n ^ a.length + pv n a = y * n ^ b.length + pv n b := h0
    clear h0 hl0
    rw [hl] at h h1
    rcases Nat.lt_trichotomy x y with e | e | e
    · exfalso
      have h3 : (x + 1) * n ^ b.length ≤ y * n ^ b.length := Nat.mul_le_mul_right _ e
      rw [Nat.add_mul] at h3
      omega
    · subst e
      rw [pv_inj hn hl (fun y hy => ha y (List.mem_cons_of_mem _ hy)) (fun y hy => hb y (List.mem_cons_of_mem _ hy)) (by omega)]
    · exfalso
      have h3 : (y + 1) * n ^ b.length ≤ x * n ^ b.length := Nat.mul_le_mul_right _ e
      rw [Nat.add_mul] at h3
      omega
theorem val_inj {n : Nat} (hn : 1 ≤ n) {a b : List Nat} (ha : ∀ x ∈ a, x < n) (hb : ∀ x ∈ b, x < n) (h : val n a = val n b) : a = b := by
  have hl : a.length = b.length := by
    rcases Nat.lt_trichotomy a.length b.length with e | e | e
    · have := val_len hn ha e; omega
    · exact e
    · have := val_len hn hb e; omega
  refine pv_inj hn hl ha hb ?_
  rw [val_eq, val_eq, hl] at h
  omega
/-- the name with a number: its digits -/
def nm (n : Nat) (k : Nat) : List Nat := if h : k = 0 ∨ n = 0 then [] else nm n ((k - 1) / n) ++ [(k - 1) % n]
termination_by k
decreasing_by
  have h1 : (k - 1) / n ≤ k - 1 := Nat.div_le_self _ _
  omega
theorem nm_zero (n : Nat) : nm n 0 = [] := by rw [nm]; simp
theorem nm_pos {n k : Nat} (hn : 1 ≤ n) (hk : 1 ≤ k) : nm n k = nm n ((k - 1) / n) ++ [(k - 1) % n] := by
  conv => lhs; rw [nm]
  rw [dif_neg (by omega)]
theorem nm_val {n : Nat} (hn : 1 ≤ n) (k : Nat) : val n (nm n k) = k ∧ ∀ x ∈ nm n k, x < n := by
  induction k using Nat.strongRecOn with
  | _ k ih =>
    by_cases hk : k = 0
    · subst hk
      rw [nm_zero]
      exact ⟨rfl, fun _ h => nomatch h⟩
    · rw [nm_pos hn (by omega)]
      have h1 : (k - 1) / n ≤ k - 1 := Nat.div_le_self _ _
      obtain ⟨h2, h3⟩ := ih ((k - 1) / n) (by omega)
      refine ⟨?_, fun x hx => ?_⟩
      · rw [val_app, h2]
        have := Nat.div_add_mod (k - 1) n
        rw [Nat.mul_comm] at this
        omega
      · rcases List.mem_append.mp hx with h | h
        · exact h3 x h
        · rw [List.mem_singleton.mp h]
          exact Nat.mod_lt _ hn
theorem nm_of {n : Nat} (hn : 1 ≤ n) {d : List Nat} (hd : ∀ x ∈ d, x < n) : nm n (val n d) = d :=
  val_inj hn (nm_val hn _).2 hd (nm_val hn _).1
theorem nm_len {n : Nat} (hn : 2 ≤ n) : ∀ (m k : Nat), k < 2 ^ m → (nm n k).length ≤ m
  | 0, k, h => by
    have : k = 0 := by simpa using h
    subst this
    rw [nm_zero]
    simp
  | m + 1, k, h => by
    by_cases hk : k = 0
    · subst hk
      rw [nm_zero]
      simp
    · rw [nm_pos (by omega) (by omega), List.length_append]
      have h1 : (k - 1) / n ≤ (k - 1) / 2 := Nat.div_le_div_left hn (by decide)
      have := nm_len hn m ((k - 1) / n) (by rw [Nat.pow_succ] at h; omega)
      simp; omega
/-- names beside each other -/
theorem nm_next {n : Nat} (hn : 1 ≤ n) (k : Nat) : (nm n k).length ≤ (nm n (k + 1)).length ∧ ((nm n k).length = (nm n (k + 1)).length → nm n k < nm n (k + 1)) := by
  obtain ⟨e1, d1⟩ := nm_val hn k
  obtain ⟨e2, d2⟩ := nm_val hn (k + 1)
  refine ⟨?_, fun hl => ?_⟩
  · apply Nat.le_of_not_lt
    intro h
    have := val_len hn d2 h
    omega
  · refine pv_lex hn hl d1 d2 ?_
    rw [val_eq, hl] at e1
    rw [val_eq] at e2
    omega
/-- digits and letters have one order -/
theorem lex_map {L : List Nat} (asc : L.Pairwise (· < ·)) : ∀ {a b : List Nat}, (∀ x ∈ a, x < L.length) → (∀ x ∈ b, x < L.length) → a < b → a.map (L.getD · 0) < b.map (L.getD · 0)
  | [], [], _, _, h => absurd h (by simp)
  | [], _ :: _, _, _, _ => by simp
  | _ :: _, [], _, _, h => absurd h (by simp)
  | x :: a, y :: b, ha, hb, h => by
    rw [List.cons_lt_cons_iff] at h
    rw [List.map_cons, List.map_cons, List.cons_lt_cons_iff]
    have hx := ha x List.mem_cons_self
    have hy := hb y List.mem_cons_self
    rcases h with h | ⟨e, h⟩
    · left
      have := List.pairwise_iff_getElem.mp asc x y hx hy h
      simpa [List.getD, List.getElem?_eq_getElem hx, List.getElem?_eq_getElem hy] using this
    · subst e
      exact .inr ⟨rfl, lex_map asc (fun y hy => ha y (List.mem_cons_of_mem _ hy)) (fun y hy => hb y (List.mem_cons_of_mem _ hy)) h⟩
theorem val_lt {n : Nat} (hn : 2 ≤ n) (h5 : n ≤ 5) : ∀ d : List Nat, (∀ x ∈ d, x < n) → val n d + 1 ≤ 6 ^ d.length := by
  intro d
  generalize hm : d.length = m
  induction m generalizing d with
  | zero =>
    have : d = [] := List.length_eq_zero_iff.mp hm
    subst this
    intro _
    exact Nat.le_refl _
  | succ m ih =>
    intro h
    have hne : d ≠ [] := by intro e; subst e; simp at hm
    obtain ⟨l, x, rfl⟩ : ∃ l x, d = l ++ [x] := ⟨d.dropLast, d.getLast hne, (List.dropLast_concat_getLast hne).symm⟩
    have hl : l.length = m := by simpa using hm
    have h1 := ih l hl fun y hy => h y (by simp [hy])
    have h2 := h x (by simp)
    rw [val_app, Nat.pow_succ]
    have h3 : val n l * n ≤ val n l * 5 := Nat.mul_le_mul_left _ h5
    omega
end M3
namespace U
open PySem PySem.Spec PyProof.Rows L2
theorem idx_occ {L : List Nat} (nd : L.Nodup) {c : Nat} (hc : c ∈ L) : ∃ rest, Builtin.Str.occurrences (S L) (S [c]) 0 (S L).length 1 = M3.ix L c :: rest := by
  have h := StrLaws.found_one (S L) c
  rw [S_toList, decide_eq_true hc] at h
  have e : (⟨#[c]⟩ : Str) = S [c] := rfl
  rw [e] at h
  cases ho : Builtin.Str.occurrences (S L) (S [c]) 0 (S L).length 1 with
  | nil => rw [ho] at h; cases h
  | cons i rest =>
    have h1 := StrLaws.occ_spec (S L) (S [c]) 0 (S L).length 1 i (by rw [ho]; exact List.mem_cons_self)
    have h2 := (StrLaws.subAt_one (S L) c i).mp h1
    rw [S_toList] at h2
    exact ⟨rest, by rw [M3.ix_of nd h2]⟩
theorem asc_nd {L : List Nat} (h : L.Pairwise (· < ·)) : L.Nodup := h.imp fun h => by omega
theorem getD_get {L : List Nat} {i : Nat} (h : i < L.length) : L[i]? = some (L.getD i 0) := by simp [List.getD, List.getElem?_eq_getElem h]
theorem map_ix_getD {L : List Nat} : ∀ {x : List Nat}, (∀ y ∈ x, y ∈ L) → (x.map (M3.ix L)).map (L.getD · 0) = x
  | [], _ => rfl
  | y :: x, h => by
    have h1 := M3.ix_get (h y List.mem_cons_self)
    rw [List.map_cons, List.map_cons, map_ix_getD fun z hz => h z (List.mem_cons_of_mem _ hz)]
    simp [List.getD, h1]
theorem map_getD_ix {L : List Nat} (nd : L.Nodup) : ∀ {d : List Nat}, (∀ y ∈ d, y < L.length) → (d.map (L.getD · 0)).map (M3.ix L) = d
  | [], _ => rfl
  | y :: d, h => by
    have h1 := M3.ix_of nd (getD_get (h y List.mem_cons_self))
    rw [List.map_cons, List.map_cons, map_getD_ix nd fun z hz => h z (List.mem_cons_of_mem _ hz), h1]
theorem lg {n : Nat} (h : n < 2 ^ 250) : n.log2 < 1920 := by
  by_cases h0 : n = 0
  · subst h0
    decide
  · refine Nat.lt_of_lt_of_le ((Nat.log2_lt h0).mpr h) (by decide)
theorem lgI {z : Int} (h0 : 0 ≤ z) (h : z < 2 ^ 250) : z.natAbs.log2 < 1920 := lg (by omega)
theorem Deal.same {a c : Addr} {H H' : Hp} (d : Deal H a c) (e : Same H H') : Deal H' a c := by
  obtain ⟨ns, m, d⟩ := d
  exact ⟨ns, m, ⟨e _ _ d.hd, e _ _ d.cs, d.pos, d.few, d.m0, d.m1⟩⟩
theorem cut_take (l : List Nat) {r : Int} (h : 0 ≤ r) : cutS (S l) none (some r) = S (l.take r.toNat) := by
  obtain ⟨n, rfl⟩ := nat_of h
  unfold cutS
  rw [S_toList, S_len, HT.sIx_none, HT.sIx_nat, List.drop_zero, Nat.sub_zero, Int.toNat_natCast]
  show S (l.take (min n l.length)) = _
  congr 1
  by_cases hl : n ≤ l.length
  · rw [Nat.min_eq_left hl]
  · rw [Nat.min_eq_right (by omega), List.take_length, List.take_of_length_le (by omega)]
theorem cut_drop (l : List Nat) {r : Int} (h : 0 ≤ r) : cutS (S l) (some r) none = S (l.drop r.toNat) := by
  obtain ⟨n, rfl⟩ := nat_of h
  unfold cutS
  rw [S_toList, S_len, HT.sIx_none, HT.sIx_nat, Int.toNat_natCast]
  show S ((l.drop (min n l.length)).take (l.length - min n l.length)) = _
  congr 1
  by_cases hl : n ≤ l.length
  · rw [Nat.min_eq_left hl, List.take_of_length_le (by rw [List.length_drop]; omega)]
  · rw [Nat.min_eq_right (by omega), List.drop_of_length_le (i := n) (by omega), List.drop_length, List.take_nil]
theorem rep_mem {x : List Nat} {n y : Nat} (h : y ∈ rep x n) : y ∈ x := by
  unfold rep at h
  obtain ⟨l, hl, hy⟩ := List.mem_flatten.mp h
  rw [(List.mem_replicate.mp hl).2] at hy
  exact hy
end U
namespace U
open PySem PySem.Spec PyProof.Rows L2
/-! ### repr of plain values -/
def reprT : V → Str
  | .non => "None"
  | .bl b => if b then "True" else "False"
  | .int i => toString i
  | .str x => reprText x
  | _ => ""
def reprOk : V → Prop
  | .non => True
  | .bl _ => True
  | .int i => i.natAbs.log2 < 1920
  | .str x => (reprText x).length ≤ sizeLine
  | _ => False
section
variable {X : Cx}
theorem call_repr : CallR X (.builtin "repr") (fun xs H Q => ∃ v, xs = [v] ∧ reprOk v ∧ Q (.str (reprT v)) H) := by
  intro pins s σ H xs us Q I r h
  obtain ⟨v, rfl, hz, q⟩ := h
  obtain ⟨u, rfl, rx⟩ := vals1 r
  cases v with
  | non =>
    cases rx
    exact PySem.P.repr_of_none ⟨.str _, H, I.tok _, ⟨_, rfl⟩, q⟩
  | bl b =>
    cases rx
    exact PySem.P.repr_of_bool ⟨.str _, H, I.tok _, ⟨_, by cases b <;> rfl⟩, q⟩
  | int i =>
    obtain ⟨t, rfl⟩ := rx
    exact PySem.P.repr_of_int hz ⟨.str _, H, I.tok _, ⟨_, rfl⟩, q⟩
  | str x =>
    obtain ⟨t, rfl⟩ := rx
    exact PySem.P.repr_of_str ⟨.str _, H, I.tok _, ⟨_, rfl⟩, q⟩ hz
  | byt _ => exact hz.elim
  | flt _ => exact hz.elim
  | ref _ => exact hz.elim
  | ty _ => exact hz.elim
end
/-! ### beginnings, stripped texts -/
theorem starts_eq (a b : List Nat) : Txt.startswith (S a) (S b) = decide (a.take b.length = b) := by
  unfold Txt.startswith
  rw [PySem.StrLaws.subAt_eq, S_toList, S_toList, S_len, S_len, List.drop_zero, Nat.zero_add]
  by_cases h : a.take b.length = b
  · have hl : b.length ≤ a.length := by
      have := congrArg List.length h
      rw [List.length_take] at this
      omega
    simp [h, hl]
  · simp [h]
theorem sub_S (l : List Nat) (i j : Nat) : Builtin.Str.strSub (S l) i j = S ((l.take j).drop i) := by
  show Str.mk ((S l).cps.extract i j) = _
  have : ((S l).cps.extract i j).toList = (l.take j).drop i := by
    simp [S, List.drop_take]
  rw [← S_cps (Str.mk _)]
  rw [this]
theorem goes_eq (g : Nat) : (S [g]).cps.contains = fun c => c == g := by
  funext c
  rw [Bool.eq_iff_iff]
  simp [S]
theorem tw_all {g : Nat} {l : List Nat} (h : ∀ x ∈ l, x = g) : l.takeWhile (fun c => c == g) = l := by
  induction l with
  | nil => rfl
  | cons x l ih =>
    have hx := h x List.mem_cons_self
    subst hx
    simp [List.takeWhile_cons, ih fun y hy => h y (List.mem_cons_of_mem _ hy)]
theorem tw_mem {g : Nat} : ∀ {l : List Nat}, ∀ x ∈ l.takeWhile (fun c => c == g), x = g
  | y :: l, x, h => by
    rw [List.takeWhile_cons] at h
    split at h
    · rename_i hy
      rcases List.mem_cons.mp h with rfl | h
      · simpa using hy
      · exact tw_mem x h
    · cases h
theorem eq_rep {g : Nat} {l : List Nat} (h : ∀ x ∈ l, x = g) : l = List.replicate l.length g := List.eq_replicate_iff.mpr ⟨rfl, h⟩
theorem dw_head {g : Nat} : ∀ {l : List Nat} {x : Nat} {r : List Nat}, l.dropWhile (fun c => c == g) = x :: r → x ≠ g
  | y :: l, x, r, h => by
    rw [List.dropWhile_cons] at h
    split at h
    · exact dw_head h
    · rename_i hy
      cases h
      simpa using hy
theorem rst_spec (l : List Nat) (g : Nat) : ∃ (kept : List Nat) (m : Nat), Txt.rstripChars (S l) (S [g]) = S kept ∧ l = kept ++ List.replicate m g ∧ (kept = [] ∨ ∃ k0 x, kept = k0 ++ [x] ∧ x ≠ g) := by
  have e : Txt.rstripChars (S l) (S [g]) = S (l.take (l.length - (l.reverse.takeWhile fun c => c == g).length)) := by
    unfold Txt.rstripChars
    rw [PySem.W.stripBy_eq, goes_eq]
    show Builtin.Str.strSub (S l) 0 ((S l).length - (((S l).cps.toList.drop 0).reverse.takeWhile _).length) = _
    rw [sub_S, S_toList, S_len, List.drop_zero, List.drop_zero]
  have h1 := List.takeWhile_append_dropWhile (p := fun c => c == g) (l := l.reverse)
  generalize ht : l.reverse.takeWhile (fun c => c == g) = t at *
  generalize hd : l.reverse.dropWhile (fun c => c == g) = d at *
  have h2 : l = d.reverse ++ t.reverse := by
    have := congrArg List.reverse h1
    rw [List.reverse_append, List.reverse_reverse] at this
    exact this.symm
  have ht2 : t.reverse = List.replicate t.length g := by
    have := eq_rep (l := t.reverse) (g := g) fun x hx => by
      rw [List.mem_reverse, ← ht] at hx
      exact tw_mem x hx
    rw [List.length_reverse] at this
    exact this
  have h3 : l.take (l.length - t.length) = d.reverse := by
    have : l.length - t.length = d.reverse.length := by
      rw [h2, List.length_append, List.length_reverse, List.length_reverse]
      omega
    rw [this, h2, List.take_left']
    rfl
  refine ⟨d.reverse, t.length, by rw [e, h3], by rw [← ht2]; exact h2, ?_⟩
  cases d with
  | nil => exact .inl rfl
  | cons x r => exact .inr ⟨r.reverse, x, by simp, dw_head hd⟩
theorem strip_nil (l : List Nat) (c : Nat) : Txt.stripChars (S l) (S [c]) = S [] ↔ ∀ x ∈ l, x = c := by
  have e : Txt.stripChars (S l) (S [c]) = S ((l.take (l.length - ((l.drop (l.takeWhile fun z => z == c).length).reverse.takeWhile fun z => z == c).length)).drop (l.takeWhile fun z => z == c).length) := by
    unfold Txt.stripChars
    rw [PySem.W.stripBy_eq, goes_eq]
    show Builtin.Str.strSub (S l) ((S l).cps.toList.takeWhile _).length ((S l).length - (((S l).cps.toList.drop ((S l).cps.toList.takeWhile _).length).reverse.takeWhile _).length) = _
    rw [sub_S, S_toList, S_len]
  rw [e, S_inj]
  constructor
  · intro h x hx
    have h1 := List.takeWhile_append_dropWhile (p := fun z => z == c) (l := l)
    generalize ht : l.takeWhile (fun z => z == c) = t at *
    generalize hd : l.dropWhile (fun z => z == c) = d at *
    have hdr : l.drop t.length = d := by rw [← h1, List.drop_left']; rfl
    rw [hdr] at h
    have hlen : l.length = t.length + d.length := by rw [← h1, List.length_append]
    cases d with
    | nil =>
      rw [List.append_nil] at h1
      rw [← h1, ← ht] at hx
      exact tw_mem x hx
    | cons y r =>
      exfalso
      have hy := dw_head hd
      have hlt : ((y :: r).reverse.takeWhile fun z => z == c).length < (y :: r).length := by
        have h5 := List.takeWhile_append_dropWhile (p := fun z => z == c) (l := (y :: r).reverse)
        have h6 := congrArg List.length h5
        rw [List.length_append, List.length_reverse] at h6
        by_cases hz : ((y :: r).reverse.dropWhile fun z => z == c).length = 0
        · have h7 := List.length_eq_zero_iff.mp hz
          rw [h7, List.append_nil] at h5
          have : y ∈ (y :: r).reverse := by simp
          rw [← h5] at this
          exact absurd (tw_mem y this) hy
        · omega
      have := congrArg List.length h
      rw [List.length_drop, List.length_take] at this
      simp only [List.length_nil] at this
      omega
  · intro h
    rw [tw_all h]
    exact List.drop_of_length_le (by rw [List.length_take]; omega)
theorem cut_init (l : List Nat) (x : Nat) : cutS (S (l ++ [x])) none (some (-1)) = S l := by
  unfold cutS
  rw [S_toList, S_len, HT.sIx_none, List.drop_zero, Nat.sub_zero]
  have e : HT.sIx (l ++ [x]).length (l ++ [x]).length (some (-1)) = l.length := by
    unfold HT.sIx
    simp only [List.length_append]
    rw [if_pos (by decide)]
    simp only [List.length_cons, List.length_nil]
    omega
  rw [e, List.take_left']
  · rfl
  · rfl
end U
/-! U7: promises of defs where nothing is being shown (no repr under way): for repr of lists and tuples -/
namespace U
open PySem PySem.Spec PyProof.Rows L2
/-- room for k calls, and no repr under way -/
structure RoomG (k : Nat) (A : Around) : Prop where
  r : Room k A
  g : A.guards = some []
theorem RoomG.mono {i j : Nat} {A : Around} (x : RoomG j A) (h : i ≤ j) : RoomG i A := ⟨x.r.mono h, x.g⟩
theorem RoomG.units {k : Nat} {A : Around} (x : RoomG k A) : A.units + 64 < cLine := x.r.units
structure FnG (P : Program) (w : World) (K : PySem.W.Frag) (mg : Str → Option Value) (base : Heap) (CX : CXT) (k : Nat) (f : Addr) (fd : FuncData) (ps : List Str) (sp : Sp) : Prop where
  len : ∀ (vs : List V) (H : Hp) (Q : VK) (E : XK), sp vs H Q E → vs.length = ps.length
  run : ∀ (A : Around) (fr : List Env) (s : Shared) (H : Hp) (args : Args) (us : List Value) (vs : List V) (Q : VK) (E : XK), RoomG k A → Env0 P w K mg base A fr s H → BindsTo s fd args (ps.zip us) → Vals vs us →
    sp vs H Q E → codeAny (model P w) A (.call (.ref f) args) (CR CX fr P w H s Q E) s
section
variable {P : Program} {w : World} {K : PySem.W.Frag} {mg : Str → Option Value} {base : Heap} {CX : CXT} {k : Nat} {f : Addr} {fd : FuncData} {ps : List Str} {sp : Sp}
/-- every promise holds there, too -/
theorem FnG.of (F : FnOk P w K mg base CX k f fd ps sp) : FnG P w K mg base CX k f fd ps sp :=
  ⟨F.len, fun A fr s H args us vs Q E r => F.run A fr s H args us vs Q E r.r⟩
/-- a def by its body -/
theorem funG_ok {x qual : Str} {st : Stmt} {N : List Str} (F : Fun K x qual st f fd) (Sc : FnScope N ps (defScope st)) (len : ∀ vs H Q E, sp vs H Q E → vs.length = ps.length)
    (body : ∀ (cdv : Value) (A : Around) (fr : List Env) (s : Shared) (H : Hp) (vs : List V) (Q : VK) (E : XK), RoomG k (A.deeper (envOfC qual (defScope st) s.heap.objs.size f cdv)) → sp vs H Q E →
      ∃ t, PSs (cxOf CX P w K mg base N qual (defScope st) f cdv A fr s H E) (defBody st) t ∧ t { nx := fun _ H' => Q .non H', rt := Q } (start N vs) H) :
    FnG P w K mg base CX (k + 1) f fd ps sp := by
  obtain ⟨oc, od, kV, doc, pm, an, cdv, ct, osl, rfl, look, code⟩ := F.ex
  refine ⟨len, fun A fr s H args us vs Q E rg e0 hb rel want => ?_⟩
  have hlen := len vs H Q E want
  have kept : ∀ b o, base.get? b = some o → s.heap.get? b = some o := fun b o e => (e0.bs b o e).1
  have KX : K.In s.heap := e0.mod.kin.keeps kept
  have slots : ∀ y ∈ ps.zip us, (defScope st).names.lookup y.1 = some .local ∨ ((defScope st).names.lookup y.1 = some .cell ∧ ((cellsFrom (s.heap.objs.size + 1) (defScope st).names []).lookup y.1).isSome = true) := by
    rintro ⟨n, v⟩ hy
    rcases Sc.par n (List.of_mem_zip hy).1 with q | q
    · left; exact q
    · right; exact ⟨q, PySem.W.cellsFrom_some _ _ _ (.inl q)⟩
  refine codeAny_call_function rg.r.depth (KX _ _ look) rfl Sc.co Sc.gen rfl (PySem.W.codeRec_of KX code) (hb _ _ _ _ ?_)
  refine wpAny_newFunctionEnv_cells Sc.kind slots ?_
  rintro env rfl s1 entered
  refine ⟨(e0.mod.nolimit.keeps kept).keeps entered.toInCall.keep, codeAny_func ?_⟩
  have deep : RoomG k (A.deeper (envOfC qual (defScope st) s.heap.objs.size f cdv)) := ⟨rg.r.deeper _, rg.g⟩
  obtain ⟨t, derived, reading⟩ := body cdv A fr s H vs Q E deep want
  have I := inv_start (CX := CX) (E := E) Sc rg.r.hd e0 hlen rel entered
  refine wpAny_mono (derived.run [] s1 (start N vs) H _ I reading) (fun fl s' after => ?_) fun e s' left => left
  cases fl with
  | brk => obtain ⟨_, _, _, no⟩ := after; exact no.elim
  | cont => obtain ⟨_, _, _, no⟩ := after; exact no.elim
  | ret u =>
    obtain ⟨v, σ', H', J, rv, q⟩ := after
    exact ⟨v, H', J.os, J.bare, J.base, J.hok, rv, q⟩
  | next =>
    obtain ⟨σ', H', J, q⟩ := after
    exact ⟨V.non, H', J.os, J.bare, J.base, J.hok, rfl, q⟩
/-- .. of which no exception leaves -/
theorem funG_ok0 {x qual : Str} {st : Stmt} {N : List Str} (F : Fun K x qual st f fd) (Sc : FnScope N ps (defScope st)) (len : ∀ vs H Q E, sp vs H Q E → vs.length = ps.length)
    (body : ∀ (cdv : Value) (A : Around) (fr : List Env) (s : Shared) (H : Hp) (vs : List V) (Q : VK) (E : XK), RoomG k (A.deeper (envOfC qual (defScope st) s.heap.objs.size f cdv)) → sp vs H Q E →
      ∃ t, PSs (cxOf CX0 P w K mg base N qual (defScope st) f cdv A fr s H E).nox (defBody st) t ∧ t { nx := fun _ H' => Q .non H', rt := Q } (start N vs) H) :
    FnG P w K mg base CX0 (k + 1) f fd ps sp :=
  funG_ok F Sc len fun cdv A fr s H vs Q E r h => by
    obtain ⟨t, d, q⟩ := body cdv A fr s H vs Q E r h
    exact ⟨t, d.nox, q⟩
end
section
variable {X : Cx} {CX : CXT} {k : Nat} {f : Addr} {fd : FuncData} {ps : List Str} {sp : Sp} {dvs : List V} {ds : List Value} {E : XK} {x : Str} {p pos : Pos} {e : Expr} {es : List Expr} {t : TA}
theorem run_fnG {pins : List (Addr × Obj)} {σ : L2.St} {H : Hp} {s : Shared} {Q : VK} {us : List Value} {vs : List V} (F : FnG X.prog X.w X.K X.mg X.base CX k f fd ps sp) (hr : RoomG k X.A) (hb : Binds X.K fd ps ds) (hd : Vals dvs ds)
    (hx : Passes CX X E) (I : Inv X pins σ H s) (r : Vals vs us) (h : sp (vs ++ dvs) H Q E) : wpAny (model X.prog X.w) X.A (call (.ref f) us) (EP X pins σ Q) X.xe s := by
  have both : Vals (vs ++ dvs) (us ++ ds) := r.append hd
  have num : (us ++ ds).length = ps.length := both.length.symm.trans (F.len _ _ _ _ h)
  refine wpAny_call (codeAny_mono (F.run X.A X.stack s H ⟨us, []⟩ (us ++ ds) (vs ++ dvs) Q E hr I.env0 (hb s us I.kIn num) both h) ?_)
  intro res s' after
  match res, after with
  | .error err, after => exact hx pins σ H s err s' I after
  | .ok (.ret u), after => exact I.after after
  | .ok .next, after => exact False.elim after
  | .ok .brk, after => exact False.elim after
  | .ok .cont, after => exact False.elim after
/-- f(e, ..) -/
theorem pe_callG (F : FnG X.prog X.w X.K X.mg X.base CX k f fd ps sp) (hr : RoomG k X.A) (hg : Gl X x) (hm : X.mg x = some (.ref f)) (hk : PySem.W.keepIn X.K (.ref f) = true) (hb : Binds X.K fd ps ds) (hd : Vals dvs ds) (hx : Passes CX X E)
    (ha : PA X (e :: es) t) (hdb : (x == ("__debug__" : Str)) = false := by decide) (he : starEach (e :: es) X.env = (false, eval e X.env) :: starEach es X.env := by rfl) (hpl : (backTo pos (starEach es X.env)).any (·.1) = false := by rfl) :
    PE X (.Call (.Name x p) (e :: es) [] pos) (tCall sp dvs E t) := by
  constructor
  intro pins s σ H Q I h
  refine wpAny_Call_Name_kw (ld_glob I hg hm ?_ hdb)
  refine PySem.W.callWith_K (h₀ := X.base) I.ok.mod.kin hk ?_ he hpl
  refine thn (ha.run pos pins s σ H _ I h) ?_
  rintro us s1 ⟨vs, H1, I1, r, q⟩
  exact ⟨I1.kIn, run_fnG F hr hb hd hx I1 r q⟩
/-- repr of data -/
theorem call_reprD (hg : X.A.guards = some []) (hu : X.A.units + 64 < cLine) : CallR X (.builtin "repr") (fun xs H Q => ∃ (v : V) (d : PyData), xs = [v] ∧ Dp X.K H v d ∧ d.showable = true ∧ d.hasDict = false ∧ d.depth ≤ 50 ∧ d.shown.length ≤ sizeLine ∧ Q (.str d.shown) H) := by
  intro pins s σ H xs us Q I r h
  obtain ⟨v, d, rfl, dp, hs, hn, hd, hz, q⟩ := h
  obtain ⟨u, rfl, rx⟩ := vals1 r
  obtain ⟨as, rd⟩ := Dp.reads I d v u dp rx
  cases dp with
  | non =>
    cases rx
    exact PySem.P.repr_of_none ⟨.str _, H, I.tok _, ⟨_, rfl⟩, q⟩
  | bl b =>
    cases rx
    exact PySem.P.repr_of_bool ⟨.str _, H, I.tok _, ⟨_, by cases b <;> rfl⟩, q⟩
  | int i =>
    obtain ⟨t, rfl⟩ := rx
    exact PySem.P.repr_of_int (by simpa [PyData.showable] using hs) ⟨.str _, H, I.tok _, ⟨_, rfl⟩, q⟩
  | str x =>
    obtain ⟨t, rfl⟩ := rx
    exact PySem.P.repr_of_str ⟨.str _, H, I.tok _, ⟨_, rfl⟩, q⟩ hz
  | lst h1 h2 =>
    obtain rfl : u = Value.ref _ := rx
    exact repr_of_reads' rd hs (fun z => by rw [hn] at z; cases z) hg (by omega) (fun _ _ e => e) (fun h' t tk kp => ⟨.str _, H, I.kept kp, ⟨_, rfl⟩, q⟩) hz
  | tup h1 h2 =>
    obtain rfl : u = Value.ref _ := rx
    exact repr_of_reads' rd hs (fun z => by rw [hn] at z; cases z) hg (by omega) (fun _ _ e => e) (fun h' t tk kp => ⟨.str _, H, I.kept kp, ⟨_, rfl⟩, q⟩) hz
end
/-! ### the law's own call -/
section
variable {P : Program} {w : World} {K : PySem.W.Frag} {mg mb : Str → Option Value} {CX : CXT} {k : Nat} {fa a : Addr} {fd : FuncData} {x : Str} {sp : Sp} {st : Shared} {vs : List Value} {ns : List Int}
/-- over an abstract heap that tells of the script alone -/
theorem law_core (KX : K.In st.heap) (glo : st.heap.Ns mainGlobals mg) (blt : st.heap.Ns builtinsNs mb) (bt : ∀ x : Str, x ≠ "__name__" → mb x = bootBuiltins x) (lim : st.heap.NoLimit) (gn : st.gens = #[])
    (obj : st.heap.get? a = some { cls := .type "list", data := .seq vs.toArray }) (room : Room k callerA)
    (F : ∀ base : Heap, K.In base → base.Ns mainGlobals mg → FnG P w K mg base CX k fa fd [x] sp) (bind : ∀ (s : Shared) (u : Value), BindsTo s fd ⟨[u], []⟩ [(x, u)])
    (hCX : ∀ H e s', CX [] H st (fun _ _ _ => False) e s' → False) (H : Hp) (only : Only H) (want : sp [.ref a] H (fun v _ => v = .bl true) fun _ _ _ => False) (hok : HOk P w H st.heap)
    (just : ∀ b, H b ≠ none → b = a) (free : H a ≠ none → K.lookup a = none) :
    codeAny (model P w) callerA (.call (.ref fa) ⟨[.ref a], []⟩) (fun r s' => r = .ok (.ret (.bool true)) ∧ OldK st.heap s'.heap ∧ s'.os = st.os ∧ AllBare s'.gens) st := by
  have split : ∀ b, H b = none ∨ b = a := fun b => by
    by_cases z : H b = none
    · left; exact z
    · right; exact just b z
  have dicts : ∀ {b : Addr} {m : Str → Option Value}, st.heap.Ns b m → (hidT st.heap H).Ns b m := by
    rintro b m ⟨o, es, ep, e, d, r⟩
    refine ⟨o, es, ep, hidT_get e ?_, d, r⟩
    rcases split b with z | z
    · exact z
    · exfalso
      rw [z, obj] at e
      cases e
      cases (show Data.seq vs.toArray _ = Data.dict es ep from d)
  have own : K.In (hidT st.heap H) := by
    intro b o e
    refine hidT_get (KX b o e) ?_
    rcases split b with z | z
    · exact z
    · by_cases n : H b = none
      · exact n
      · rw [z] at n e
        rw [free n] at e
        cases e
  have mod : Mod K mg (hidT st.heap H) := by
    obtain ⟨mc, h1, h2⟩ := lim
    exact ⟨own, dicts glo, ⟨mb, dicts blt, bt⟩, ⟨mc, dicts h1, h2⟩⟩
  have e0 : Env0 P w K mg (hidT st.heap H) callerA [] st H := by
    refine ⟨rfl, mod, fun b o e => of_hidT e, Nat.le_of_eq (hidT_size _ _), trivial, ?_, hok, .of_eq gn⟩
    intro b hb
    cases (show b ∈ ([] : List Addr) from hb)
  have ran := (F _ own (dicts glo)).run callerA [] st H ⟨[.ref a], []⟩ [.ref a] [.ref a] _ _ ⟨room, rfl⟩ e0 (bind st (.ref a)) (.cons rfl .nil) want
  refine codeAny_mono ran ?_
  intro res s' after
  match res, after with
  | .error err, after => exact (hCX H err s' after).elim
  | .ok .next, after => exact False.elim after
  | .ok .brk, after => exact False.elim after
  | .ok .cont, after => exact False.elim after
  | .ok (.ret u), after =>
    obtain ⟨v, H', os, bare, un, hok', rel, isT⟩ := after
    have isT : v = .bl true := isT
    subst isT
    obtain rfl : u = Value.bool true := rel
    refine ⟨rfl, OldK.of_keep ?_, os, bare⟩
    intro b o e
    rcases only b with z | ⟨ob, xs, z⟩
    · refine un.keep b o e z ?_ (by simp)
      intro no
      cases (show b ∈ ([] : List Addr) from no)
    · have now := (hok' b _ (un.frzs b ob _ z)).1
      have was := (hok b _ z).1
      rw [e] at was
      cases was
      exact now
theorem law_callG (KX : K.In st.heap) (glo : st.heap.Ns mainGlobals mg) (blt : st.heap.Ns builtinsNs mb) (bt : ∀ x : Str, x ≠ "__name__" → mb x = bootBuiltins x) (lim : st.heap.NoLimit) (gn : st.gens = #[])
    (obj : st.heap.get? a = some { cls := .type "list", data := .seq vs.toArray }) (hint : IntsAre vs ns) (few : ns.length ≤ sizeLine) (room : Room k callerA)
    (F : ∀ base : Heap, K.In base → base.Ns mainGlobals mg → FnG P w K mg base CX k fa fd [x] sp) (bind : ∀ (s : Shared) (u : Value), BindsTo s fd ⟨[u], []⟩ [(x, u)])
    (want : ∀ H : Hp, Only H → SqL K H a (ns.map V.int) → sp [.ref a] H (fun v _ => v = .bl true) fun _ _ _ => False) (hCX : ∀ H e s', CX [] H st (fun _ _ _ => False) e s' → False) :
    codeAny (model P w) callerA (.call (.ref fa) ⟨[.ref a], []⟩) (fun r s' => r = .ok (.ret (.bool true)) ∧ OldK st.heap s'.heap ∧ s'.os = st.os ∧ AllBare s'.gens) st := by
  have go := law_core (sp := sp) KX glo blt bt lim gn obj room F bind hCX
  have rel := vals_ints hint
  have num := hint.length
  by_cases known : K.lookup a = none
  · let obA : Obj := { cls := .type "list", data := .seq vs.toArray }
    let HH : Hp := fun b => if b = a then some (.frz obA (.lst (ns.map V.int))) else none
    have at1 : HH a = some (.frz obA (.lst (ns.map V.int))) := if_pos rfl
    have at2 : ∀ b, b ≠ a → HH b = none := fun b n => if_neg n
    have only : Only HH := fun b => by
      by_cases z : b = a
      · right; exact ⟨obA, ns.map V.int, by rw [z]; exact at1⟩
      · left; exact at2 b z
    refine go HH only (want HH only (.inl (.inr ⟨obA, at1⟩))) ?_ ?_ (fun _ => known)
    · intro b o e
      by_cases z : b = a
      · subst z
        rw [at1] at e
        cases e
        exact ⟨obj, by rw [List.length_map]; exact few, vs, _, rel, obj⟩
      · rw [at2 b z] at e
        cases e
    · intro b n
      by_cases z : b = a
      · exact z
      · exact absurd (at2 b z) n
  · obtain ⟨o, known⟩ := Option.ne_none_iff_exists'.mp known
    have e := KX a o known
    rw [obj] at e
    cases e
    have none_only : Only fun _ => none := fun _ => .inl rfl
    refine go (fun _ => none) none_only (want _ none_only (.inr ⟨_, vs.toArray, _, known, rfl, rfl, rfl, by rw [List.size_toArray, num]; exact few, by simpa using rel⟩)) ?_ (fun b n => absurd rfl n) (fun n => absurd rfl n)
    intro b o e
    cases (show (none : Option HO) = some o from e)
end
theorem walk_ofG {l : PySem.W.OpenLaw} {n k : Nat} {q : Program} {loose : List Str} {XP : (Str → Option Value) → Heap → Prop} {YP : World → Heap → Prop} {d : DefRec} {K : Params → PySem.W.Frag} {CX : World → CXT} {sp : World → Sp} {x : Str}
    (most : l.most = some n) (fits : n ≤ sizeLine) (plain : d.params.defaults = []) (room : Room k callerA) (hY : ∀ (w : World) (h : Heap), YP w h → (K w.params).In h)
    (F : ∀ (w : World) (mg : Str → Option Value) (fa : Addr) (h : Heap), (K w.params).In h → h.Ns mainGlobals mg → mg d.name = some (.ref fa) → ∃ fd : FuncData, (∀ (s : Shared) (u : Value), BindsTo s fd ⟨[u], []⟩ [(x, u)]) ∧
      ∀ base : Heap, (K w.params).In base → base.Ns mainGlobals mg → FnG l.prog w (K w.params) mg base (CX w) k fa fd [x] (sp w))
    (want : ∀ (w : World) (H : Hp) (a : Addr) (ns : List Int), ns.length ≤ n → Only H → SqL (K w.params) H a (ns.map V.int) → sp w [.ref a] H (fun v _ => v = .bl true) fun _ _ _ => False)
    (hCX : ∀ (w : World) (H : Hp) (s : Shared) (e : Value) (s' : Shared), CX w [] H s (fun _ _ _ => False) e s' → False) : PySem.W.WalkO q loose XP YP l.row.toRowW d [] (fun f vs => PySem.call f vs) := by
  refine Att.attach_call most plain ?_
  intro w s₀ s₁ mg mb fa o pm cd doc a vs ns G Y ho hd hcd hmg hobj hints hlen hg
  have KX := hY w _ Y
  obtain ⟨fd, hb, hF⟩ := F w mg fa _ KX G.T.g hmg
  refine law_callG KX G.T.g G.T.b G.T.builtins G.T.nolimit hg hobj hints (Nat.le_trans hlen fits) room hF hb ?_ (fun H => hCX w H s₁)
  exact fun H hO hS => want w H a ns hlen hO hS
end U
/-! U8: enumerate(text) -/
namespace U
open PySem PySem.Spec PyProof.Rows L2
def IteS (l : List Nat) : It :=
  ⟨fun i _ => i < l.length, fun i H v H' => ∃ T c, v = .ref T ∧ H T = none ∧ H' = upd H T (.tup [.int (i : Nat), .str (S [c])]) ∧ l[i]? = some c, fun i _ => l.length ≤ i⟩
theorem turn_enumS {P : Program} {w : World} {K : PySem.W.Frag} {elts : List Expr} {kk : Nat} {tpos : Pos} (l : List Nat) (t : Tok) (e it : Addr) (ty : String)
    (D : ∀ A : Around, A.handled = none → Draws P w A it [it] (S l).cps.size (fun i v => ∃ c u, (S l).cps[i]? = some c ∧ v = .str ⟨#[c]⟩ u) (fun i h => h.IsStrIter it ty (S l) t i)) :
    Turn P w K (.Tuple elts kk tpos) (IteS l) [e, it] e (fun i h => (∃ old, IsEnum h e it ((i : Nat) : Int) old) ∧ h.IsStrIter it ty (S l) t i ∧ e ≠ it ∧ i ≤ l.length) := by
  have sz : (S l).cps.size = l.length := S_len l
  refine ⟨by simp, ?_, ?_, ?_, ?_, ?_⟩
  · rintro i h ⟨⟨old, he⟩, ⟨o, ho, _, hd⟩, _, _⟩ b hb
    rcases (by simpa using hb : b = e ∨ b = it) with rfl | rfl
    · exact ⟨_, he, fun v q => nomatch q⟩
    · exact ⟨o, ho, fun v q => by rw [hd] at q; cases q⟩
  · rintro i h h' ⟨⟨old, he⟩, ⟨o, ho, r⟩, ne, le⟩ k
    exact ⟨⟨old, k e (by simp) _ he⟩, ⟨o, k it (by simp) o ho, r⟩, ne, le⟩
  · intro X hP hw hK hc i pins s σ H E I hf st hg
    subst hP hw hK
    obtain ⟨⟨old, he⟩, hit, ne, le⟩ := st
    have hlt : i < (S l).cps.size := by rw [sz]; exact hg
    have hel : e < s.heap.objs.size := Heap.lt_size he
    have hil : it < s.heap.objs.size := by obtain ⟨_, q, _⟩ := hit; exact Heap.lt_size q
    refine wpAny_pyNext_enum_itemD (D X.A.in1 (I.ok.hd hc)) he hit hlt ne (by simpa using ne) ?_
    rintro y h' tk ⟨c, u, hcc, rfl⟩ out hit' hT hsz hk
    refine ⟨_, rfl, wpAny_letOwnedTupleGo_enum (s := { s with heap := h', toks := tk + 1 }) out ?_⟩
    intro h'' he' sb
    have hT2 : h''.get? s.heap.objs.size = some { cls := .type "tuple", data := .seq #[.int i tk, .str ⟨#[c]⟩ u] } := (sb.2 _ (Nat.ne_of_gt hel)).trans hT
    have new : ObjOk X.prog X.w (upd H s.heap.objs.size (.tup [.int (i : Nat), .str (S [c])])) h'' s.heap.objs.size (.tup [.int (i : Nat), .str (S [c])]) :=
      ⟨by show 2 ≤ sizeLine; decide, [.int i tk, .str ⟨#[c]⟩ u], .cons ⟨_, rfl⟩ (.cons ⟨_, rfl⟩ .nil), ⟨_, hT2, rfl, _, rfl⟩⟩
    have rest : ∀ b ob, b ∉ [e, it] → s.heap.get? b = some ob → h''.get? b = some ob := fun b ob hb q => by
      have h1 : b ≠ e := fun z => hb (by simp [z])
      have h2 : b ≠ it := fun z => hb (by simp [z])
      exact (sb.2 b h1).trans (hk b ob h1 h2 q)
    have I1 := I.turnedNew (t' := tk + 1) (ch := [e, it]) rest hf (Nat.le_refl _) new
    refine ⟨.ref s.heap.objs.size, _, I1, rfl, ⟨_, c, rfl, I.hok.fresh (Nat.le_refl _), rfl, ?_⟩, ⟨⟨.str ⟨#[c]⟩ u, ?_⟩, ?_, ne, ?_⟩, ?_⟩
    · have : (S l).cps[i]? = some c := hcc
      simpa [S] using this
    · have e1 : ((i + 1 : Nat) : Int) = (i : Int) + 1 := by omega
      rw [e1]
      exact he'
    · obtain ⟨o, ho, r⟩ := hit'
      exact ⟨o, (sb.2 it (Ne.symm ne)).trans ho, r⟩
    · show i + 1 ≤ l.length
      have : i < l.length := hg
      omega
    · intro b hb
      have hb' : b < s.heap.objs.size := by
        rcases (by simpa using hb : b = e ∨ b = it) with rfl | rfl
        · exact hel
        · exact hil
      rw [upd_ne (Nat.ne_of_lt hb')]
      exact (hf b hb).1
  · intro X hP hw hK hc i pins s σ H E I hf st hg
    subst hP hw hK
    obtain ⟨⟨old, he⟩, hit, ne, le⟩ := st
    have hg : l.length ≤ i := hg
    have ei : i = (S l).cps.size := by omega
    rw [ei] at hit
    obtain ⟨f0, f1, f2, f3, f4, f5⟩ := hf it (by simp)
    refine wpAny_pyNext_enum_endD (D X.A.in1 (I.ok.hd hc)) he hit fun h' eb => ⟨rfl, ?_⟩
    exact I.turned (t' := s.toks) (fun b o hb q => eb b o hb q) f0 f1 f3 f4 f5
  · rintro A i s Q E ⟨⟨_, he⟩, _⟩ h
    exact wpAny_pyIter_enum he h
def iEnumS (ta : TA) : TI := fun σ H R => ta σ H fun vs H1 => ∃ l : List Nat, vs = [.str (S l)] ∧ R (IteS l) H1
theorem pi_enumS {X : Cx} {e : Expr} {ta : TA} {p pos tpos : Pos} {elts : List Expr} {kk : Nat} (hg : Gl X "enumerate") (hm : X.mg "enumerate" = none) (ha : PA X [e] ta) (hs : starEach [e] X.env = [(false, eval e X.env)] := by rfl) :
    PI X (.Tuple elts kk tpos) (.Call (.Name "enumerate" p) [e] [] pos) (iEnumS ta) := by
  constructor
  intro pins s σ H R I h
  refine Call_ (ld_blt I hg hm boot_enumerate (PyProof.Rows.callWith_type1 (thn (ha.run pos pins s σ H _ I h) ?_) hs rfl))
  rintro us s1 ⟨vs, H1, I1, r1, l, rfl, q⟩
  cases r1 with
  | cons r rr =>
    cases rr
    obtain ⟨t, rfl⟩ := r
    refine call_enumerate_str fun h' he hit hsz hk => wpAny_pyIter_enum he ?_
    have I2 : Inv X pins σ H1 { s1 with heap := h' } := I1.kept (t' := s1.toks) hk
    have D : ∀ A : Around, A.handled = none → Draws X.prog X.w A s1.heap.objs.size [s1.heap.objs.size] (S l).cps.size (fun i v => ∃ c u, (S l).cps[i]? = some c ∧ v = .str ⟨#[c]⟩ u) (fun i h => h.IsStrIter s1.heap.objs.size (strIterType (S l)) (S l) t i) := by
      intro A hh
      unfold strIterType
      split
      · exact Draws.strAscii hh _ _ _
      · exact Draws.strWide hh _ _ _
    refine ⟨s1.heap.objs.size + 1, [s1.heap.objs.size + 1, s1.heap.objs.size], _, _, H1, rfl, I2, turn_enumS l t (s1.heap.objs.size + 1) s1.heap.objs.size _ D, ⟨⟨.none, he⟩, hit, Nat.succ_ne_self _, Nat.zero_le _⟩, ?_, q⟩
    intro b hb
    have hle : s1.heap.objs.size ≤ b := by
      rcases (by simpa using hb : b = s1.heap.objs.size + 1 ∨ b = s1.heap.objs.size) with rfl | rfl
      · omega
      · exact Nat.le_refl _
    exact I1.fpOk hle (I1.hok.fresh hle)
/-- as a walk: at each turn a new pair -/
theorem walk_enumS (l : List Nat) : Walk (IteS l) l.length (fun _ => True) (fun i H v H' => ∃ T c, v = .ref T ∧ H T = none ∧ H' = upd H T (.tup [.int (i : Nat), .str (S [c])]) ∧ l[i]? = some c) :=
  ⟨fun i H hi _ => hi, fun H _ => Nat.le_refl _, fun i H x H' hi _ hy => hy⟩
/-! ### data that are shown: small ones -/
structure Sm (d : PyData) (n k : Nat) : Prop where
  sh : d.showable = true
  nd : d.hasDict = false
  dp : d.depth ≤ k
  ln : d.shown.length ≤ n
structure SmAll (ds : List PyData) (n k : Nat) : Prop where
  sh : PyData.showableAll ds = true
  nd : PyData.hasDictAll ds = false
  dp : PyData.depthAll ds ≤ k
  ln : ((PyData.shownAll ds).map (·.length)).sum + 2 * ds.length ≤ n
theorem Sm.non : Sm .none 4 0 := ⟨rfl, rfl, Nat.le_refl _, by decide⟩
theorem Sm.bl (b : Bool) : Sm (.bool b) 5 0 := ⟨rfl, rfl, Nat.le_refl _, by cases b <;> decide⟩
theorem Sm.int {i : Int} (h : i.natAbs < 10 ^ 12) : Sm (.int i) 13 0 := by
  refine ⟨?_, rfl, Nat.le_refl _, PyData.shown_int_le h⟩
  simp only [PyData.showable, decide_eq_true_eq]
  exact lg (Nat.lt_trans h (by decide))
theorem Sm.str {l : List Nat} (h : ∀ c ∈ l, c < 1114112) : Sm (.str (S l)) (10 * l.length + 2) 0 := by
  refine ⟨rfl, rfl, Nat.le_refl _, ?_⟩
  have e := PySem.StrLaws.reprText_len (S l) (fun c hc => by
    rw [S_toList] at hc
    exact Nat.lt_trans (h c hc) (by decide))
  rw [S_len] at e
  show (reprText (S l)).length ≤ _
  omega
theorem SmAll.nil {k : Nat} : SmAll [] 0 k := ⟨rfl, rfl, Nat.zero_le _, Nat.le_refl _⟩
theorem SmAll.cons {d : PyData} {ds : List PyData} {m n k k' : Nat} (a : Sm d m k') (b : SmAll ds n k) (h : k' ≤ k) : SmAll (d :: ds) (m + n + 2) k := by
  refine ⟨?_, ?_, ?_, ?_⟩
  · simp only [PyData.showableAll, a.sh, b.sh, Bool.and_self]
  · simp only [PyData.hasDictAll, a.nd, b.nd, Bool.or_self]
  · simp only [PyData.depthAll]
    have := a.dp
    have := b.dp
    omega
  · simp only [PyData.shownAll, List.map_cons, List.sum_cons, List.length_cons]
    have := a.ln
    have := b.ln
    omega
theorem Sm.tup {ds : List PyData} {n k : Nat} (a : SmAll ds n k) : Sm (.tuple ds) (n + 3) (k + 1) := by
  refine ⟨a.sh, a.nd, ?_, ?_⟩
  · simp only [PyData.depth]
    have := a.dp
    omega
  · have h1 := tupleText_len_le (PyData.shownAll ds)
    rw [PyData.shownAll_length] at h1
    have := a.ln
    simp only [PyData.shown]
    omega
theorem Sm.lst {ds : List PyData} {n k : Nat} (a : SmAll ds n k) : Sm (.list ds) (n + 3) (k + 1) := by
  refine ⟨a.sh, a.nd, ?_, ?_⟩
  · simp only [PyData.depth]
    have := a.dp
    omega
  · have h1 := listText_len_le (PyData.shownAll ds)
    rw [PyData.shownAll_length] at h1
    have := a.ln
    simp only [PyData.shown]
    omega
theorem call_reprS {X : Cx} (hg : X.A.guards = some []) (hu : X.A.units + 64 < cLine) : CallR X (.builtin "repr") (fun xs H Q => ∃ (v : V) (d : PyData) (n k : Nat), xs = [v] ∧ Dp X.K H v d ∧ Sm d n k ∧ n ≤ 1000000 ∧ k ≤ 50 ∧ Q (.str d.shown) H) := by
  intro pins s σ H xs us Q I r h
  obtain ⟨v, d, n, k, e, dp, sm, hn, hk, q⟩ := h
  refine call_reprD hg hu pins s σ H xs us Q I r ⟨v, d, e, dp, sm.sh, sm.nd, Nat.le_trans sm.dp hk, ?_, q⟩
  have := sm.ln
  rw [sizeLine_eq]
  omega
theorem signs_small {c : Nat} (h : c ∈ signs) : c < 1114112 := by
  have key : ∀ c ∈ signs, c < 1114112 := by rw [signs_eq]; decide
  exact key c h
end U
/-! words repeated: plain mathematics -/
namespace M4
/-- n times the list -/
def rp (l : List Nat) (n : Nat) : List Nat := (List.replicate n l).flatten
theorem rp_len (l : List Nat) (n : Nat) : (rp l n).length = n * l.length := by simp [rp, List.length_flatten]
theorem rp_succ (l : List Nat) (n : Nat) : rp l (n + 1) = l ++ rp l n := by simp [rp, List.replicate_succ]
/-- the endless word -/
def fw (w : List Nat) (i : Nat) : Nat := w.getD (i % w.length) 0
theorem rp_get {l : List Nat} : ∀ {n i : Nat}, i < n * l.length → (rp l n).getD i 0 = fw l i
  | 0, i, h => by simp at h
  | n + 1, i, h => by
    rw [rp_succ]
    by_cases hi : i < l.length
    · unfold fw
      rw [Nat.mod_eq_of_lt hi]
      simp [List.getD, List.getElem?_append_left hi]
    · have hi : l.length ≤ i := Nat.le_of_not_lt hi
      have hpos : 0 < l.length := by
        rcases Nat.eq_zero_or_pos l.length with h0 | h0
        · rw [h0] at h; simp at h
        · exact h0
      have h2 : i - l.length < n * l.length := by rw [Nat.add_mul] at h; omega
      have := rp_get h2
      have e : fw l (i - l.length) = fw l i := by
        unfold fw
        rw [← Nat.mod_eq_sub_mod hi]
      rw [← e, ← this]
      simp [List.getD, List.getElem?_append_right hi]
theorem ext_getD {a b : List Nat} (hl : a.length = b.length) (h : ∀ i, i < a.length → a.getD i 0 = b.getD i 0) : a = b := by
  apply List.ext_getElem? 
  intro i
  by_cases hi : i < a.length
  · have := h i hi
    rw [List.getElem?_eq_getElem hi, List.getElem?_eq_getElem (by omega)]
    simp only [List.getD, List.getElem?_eq_getElem hi, List.getElem?_eq_getElem (show i < b.length by omega)] at this
    simpa using this
  · rw [List.getElem?_eq_none (by omega), List.getElem?_eq_none (by omega)]
/-- a period -/
def Per (F : Nat → Nat) (d : Nat) : Prop := ∀ i, F (i + d) = F i
theorem Per.sub {F : Nat → Nat} {a b : Nat} (ha : Per F a) (hb : Per F b) (h : b ≤ a) : Per F (a - b) := fun i => by
  have h1 := hb (i + (a - b))
  have e : i + (a - b) + b = i + a := by omega
  rw [e, ha i] at h1
  exact h1.symm
theorem Per.mod {F : Nat → Nat} {a b : Nat} (ha : Per F a) (hb : Per F b) (hp : 0 < b) : Per F (a % b) := by
  induction a using Nat.strongRecOn with
  | _ a ih =>
    by_cases h : a < b
    · rw [Nat.mod_eq_of_lt h]; exact ha
    · have h : b ≤ a := Nat.le_of_not_lt h
      rw [Nat.mod_eq_sub_mod h]
      exact ih (a - b) (by omega) (ha.sub hb h)
theorem Per.mul {F : Nat → Nat} {a : Nat} (ha : Per F a) (n : Nat) : Per F (n * a) := by
  induction n with
  | zero => intro i; simp
  | succ n ih =>
    intro i
    rw [Nat.succ_mul, ← Nat.add_assoc, ha, ih]
theorem Per.at {F : Nat → Nat} {a : Nat} (ha : Per F a) (i : Nat) : F i = F (i % a) := by
  have h := ha.mul (i / a) (i % a)
  have e : i % a + i / a * a = i := by
    have := Nat.div_add_mod i a
    rw [Nat.mul_comm] at this
    omega
  rw [e] at h
  exact h
theorem fw_per {w : List Nat} : Per (fw w) w.length := fun i => by
  unfold fw
  rw [Nat.add_mod_right]
/-- the least repetition -/
structure IsRt (w : List Nat) (k : Nat) : Prop where
  pos : 1 ≤ k
  le : k ≤ w.length
  eq : rp (w.take k) (w.length / k) = w
  least : ∀ j, 1 ≤ j → j < k → rp (w.take j) (w.length / j) ≠ w
theorem IsRt.uniq {w : List Nat} {j k : Nat} (a : IsRt w j) (b : IsRt w k) : j = k := by
  rcases Nat.lt_trichotomy j k with h | h | h
  · exact absurd a.eq (b.least j a.pos h)
  · exact h
  · exact absurd b.eq (a.least k b.pos h)
theorem take_len {w : List Nat} {k : Nat} (h : k ≤ w.length) : (w.take k).length = k := by rw [List.length_take]; omega
theorem div_of {w : List Nat} {k o : Nat} (hk : 1 ≤ k) (hk2 : k ≤ w.length) (h : rp (w.take k) o = w) : w.length / k = o ∧ o * k = w.length := by
  have := congrArg List.length h
  rw [rp_len, take_len hk2] at this
  refine ⟨?_, this⟩
  rw [← this, Nat.mul_div_cancel _ hk]
/-- a repetition is a period of the endless word -/
theorem per_of {w : List Nat} {k : Nat} (hk : 1 ≤ k) (hk2 : k ≤ w.length) (h : rp (w.take k) (w.length / k) = w) : Per (fw w) k := by
  obtain ⟨_, hm⟩ := div_of hk hk2 h
  have key : ∀ i, fw w i = fw (w.take k) i := by
    intro i
    have hpos : 0 < w.length := by omega
    have h1 : i % w.length < w.length := Nat.mod_lt _ hpos
    have h2 : (rp (w.take k) (w.length / k)).getD (i % w.length) 0 = fw (w.take k) (i % w.length) := rp_get (by rw [take_len hk2, hm]; exact h1)
    rw [h] at h2
    unfold fw at h2 ⊢
    rw [h2, take_len hk2]
    rw [← hm, Nat.mul_comm, Nat.mod_mul_right_mod]
  intro i
  rw [key, key]
  have := fw_per (w := w.take k) i
  rw [take_len hk2] at this
  exact this
theorem of_per {w : List Nat} {k : Nat} (hk : 1 ≤ k) (hd : w.length % k = 0) (hk2 : k ≤ w.length) (h : Per (fw w) k) : rp (w.take k) (w.length / k) = w := by
  have hm : w.length / k * k = w.length := Nat.div_mul_cancel (Nat.dvd_of_mod_eq_zero hd)
  refine ext_getD (by rw [rp_len, take_len hk2, hm]) fun i hi => ?_
  rw [rp_len, take_len hk2, hm] at hi
  rw [rp_get (by rw [take_len hk2, hm]; exact hi)]
  have h1 := h.at i
  have h2 : i % k < k := Nat.mod_lt _ hk
  unfold fw at h1 ⊢
  rw [Nat.mod_eq_of_lt hi, Nat.mod_eq_of_lt (show i % k < w.length by omega)] at h1
  rw [take_len hk2, h1]
  simp [List.getD, List.getElem?_take_of_lt h2]
theorem rt_per {w : List Nat} {k d : Nat} (r : IsRt w k) (hd : Per (fw w) d) : d % k = 0 := by
  have hk := per_of r.pos r.le r.eq
  by_cases h0 : d % k = 0
  · exact h0
  · exfalso
    have h1 := hd.mod hk r.pos
    have h2 : d % k < k := Nat.mod_lt _ r.pos
    -- the least of the periods below k would be a repetition
    have h3 := fw_per (w := w) |>.mod h1 (by omega)
    by_cases h4 : w.length % (d % k) = 0
    · exact r.least (d % k) (by omega) h2 (of_per (by omega) h4 (by have := r.le; omega) h1)
    · -- go down: a period below d % k
      have key : ∀ m e, e ≤ m → 1 ≤ e → e < k → Per (fw w) e → False := by
        intro m
        induction m with
        | zero => intro e h5 h6; omega
        | succ m ih =>
          intro e h5 h6 h7 h8
          by_cases h9 : w.length % e = 0
          · exact r.least e h6 h7 (of_per h6 h9 (by have := r.le; omega) h8)
          · have h10 := fw_per (w := w) |>.mod h8 h6
            have h11 : w.length % e < e := Nat.mod_lt _ h6
            exact ih (w.length % e) (by omega) (by omega) (by omega) h10
      exact key (d % k) (d % k) (Nat.le_refl _) (by omega) h2 h1
theorem rt_same {w o : List Nat} {j k : Nat} (a : IsRt w j) (b : IsRt o k) (h : ∀ i, fw w i = fw o i) : w.take j = o.take k := by
  have e : fw w = fw o := funext h
  have h1 : k % j = 0 := rt_per a (by rw [e]; exact per_of b.pos b.le b.eq)
  have h2 : j % k = 0 := rt_per b (by rw [← e]; exact per_of a.pos a.le a.eq)
  have ejk : j = k := Nat.dvd_antisymm (Nat.dvd_of_mod_eq_zero h1) (Nat.dvd_of_mod_eq_zero h2)
  subst ejk
  refine ext_getD (by rw [take_len a.le, take_len b.le]) fun i hi => ?_
  rw [take_len a.le] at hi
  have h3 := h i
  unfold fw at h3
  rw [Nat.mod_eq_of_lt (by have := a.le; omega), Nat.mod_eq_of_lt (by have := b.le; omega)] at h3
  simpa [List.getD, List.getElem?_take_of_lt hi] using h3
theorem fw_rp {p : List Nat} {n : Nat} (hn : 1 ≤ n) (hp : 1 ≤ p.length) (i : Nat) : fw (rp p n) i = fw p i := by
  have hl := rp_len p n
  have hpos : 0 < n * p.length := Nat.mul_pos hn hp
  have h := rp_get (l := p) (n := n) (i := i % (n * p.length)) (Nat.mod_lt _ hpos)
  unfold fw at h ⊢
  rw [hl, h, Nat.mul_comm n, Nat.mod_mul_right_mod]
theorem fw_of_rt {w : List Nat} {k : Nat} (a : IsRt w k) (i : Nat) : fw w i = fw (w.take k) i := by
  have h1 : 1 ≤ w.length / k := (Nat.one_le_div_iff a.pos).mpr a.le
  have := fw_rp (p := w.take k) h1 (by rw [take_len a.le]; exact a.pos) i
  rw [a.eq] at this
  exact this
/-- the same endless word, and each repeated as often as the other one is long -/
theorem same_iff {w o : List Nat} (hw : w ≠ []) (ho : o ≠ []) : rp w o.length = rp o w.length ↔ ∀ i, fw w i = fw o i := by
  have lw : 1 ≤ w.length := List.length_pos_iff.mpr hw
  have lo : 1 ≤ o.length := List.length_pos_iff.mpr ho
  constructor
  · intro h i
    rw [← fw_rp lo lw i, ← fw_rp lw lo i, h]
  · intro h
    refine ext_getD (by rw [rp_len, rp_len, Nat.mul_comm]) fun i hi => ?_
    rw [rp_len] at hi
    rw [rp_get hi, rp_get (by rw [Nat.mul_comm]; exact hi), h]
theorem parts_iff {w o : List Nat} {j k : Nat} (a : IsRt w j) (b : IsRt o k) : w.take j = o.take k ↔ ∀ i, fw w i = fw o i := by
  constructor
  · intro h i
    rw [fw_of_rt a, fw_of_rt b, h]
  · exact rt_same a b
/-- how many letters of a name are as along F -/
def shr (F : Nat → Nat) : Nat → List Nat → Nat
  | i, [] => i
  | i, c :: r => if c = F i then shr F (i + 1) r else i
theorem shr_nil (F : Nat → Nat) (i : Nat) : shr F i [] = i := rfl
theorem shr_cons (F : Nat → Nat) (i c : Nat) (r : List Nat) : shr F i (c :: r) = if c = F i then shr F (i + 1) r else i := rfl
end M4
namespace K04
open PySem PySem.Spec PyProof.Rows L2 U
def topS (i : Nat) : Stmt := PySem.Challenge.pw_undername_k04_whole_words_and_names_on_t.main.body.getD i (.Pass ⟨0, 0, 0, 0⟩)
abbrev s_root : Stmt := topS 1
theorem sc_root : FnScope ["word", "size", "times"] ["word"] (defScope s_root) := ⟨rfl, rfl, rfl, by decide +kernel, rfl, by decide +kernel, by decide +kernel⟩
abbrev s_shared : Stmt := topS 2
theorem sc_shared : FnScope ["word", "name", "longer", "at", "letter"] ["word", "name"] (defScope s_shared) := ⟨rfl, rfl, rfl, by decide +kernel, rfl, by decide +kernel, by decide +kernel⟩
abbrev s_same_words : Stmt := topS 3
theorem sc_same_words : FnScope ["one", "other"] ["one", "other"] (defScope s_same_words) := ⟨rfl, rfl, rfl, by decide +kernel, rfl, by decide +kernel, by decide +kernel⟩
abbrev s_l_deal : Stmt := topS 5
theorem sc_l_deal : FnScope ["_law_script", "_law_base", "_law_cells", "_law_mixed", "_law_cell"] ["_law_script", "_law_base"] (defScope s_l_deal) := ⟨rfl, rfl, rfl, by decide +kernel, rfl, by decide +kernel, by decide +kernel⟩
abbrev s_l_draw : Stmt := topS 6
theorem sc_l_draw : FnScope ["_law_deal_here", "_law_many", "_law_left"] ["_law_deal_here", "_law_many"] (defScope s_l_draw) := ⟨rfl, rfl, rfl, by decide +kernel, rfl, by decide +kernel, by decide +kernel⟩
abbrev s_l_pick : Stmt := topS 7
theorem sc_l_pick : FnScope ["_law_deal_here", "_law_some"] ["_law_deal_here", "_law_some"] (defScope s_l_pick) := ⟨rfl, rfl, rfl, by decide +kernel, rfl, by decide +kernel, by decide +kernel⟩
abbrev s_l_letters : Stmt := topS 8
theorem sc_l_letters : FnScope ["_law_deal_here", "_law_many", "_law_signs", "_law_found", "_law_turn", "_law_sign"] ["_law_deal_here", "_law_many"] (defScope s_l_letters) := ⟨rfl, rfl, rfl, by decide +kernel, rfl, by decide +kernel, by decide +kernel⟩
abbrev s_l_word : Stmt := topS 9
theorem sc_l_word : FnScope ["_law_deal_here", "_law_letters_here", "_law_most", "_law_k"] ["_law_deal_here", "_law_letters_here", "_law_most"] (defScope s_l_word) := ⟨rfl, rfl, rfl, by decide +kernel, rfl, by decide +kernel, by decide +kernel⟩
abbrev s_l_root : Stmt := topS 10
theorem sc_l_root : FnScope ["_law_word_here", "_law_size", "_law_often"] ["_law_word_here"] (defScope s_l_root) := ⟨rfl, rfl, rfl, by decide +kernel, rfl, by decide +kernel, by decide +kernel⟩
abbrev s_l_shared : Stmt := topS 11
theorem sc_l_shared : FnScope ["_law_word_here", "_law_name", "_law_at"] ["_law_word_here", "_law_name"] (defScope s_l_shared) := ⟨rfl, rfl, rfl, by decide +kernel, rfl, by decide +kernel, by decide +kernel⟩
abbrev s_law : Stmt := topS 12
theorem sc_law : FnScope ["_law_script", "_law_deal_here", "_law_turn", "_law_letters_here", "_law_part", "_law_word_here", "_law_other", "_law_is_one", "_law_name", "_law_one"] ["_law_script"] (defScope s_law) := ⟨rfl, rfl, rfl, by decide +kernel, rfl, by decide +kernel, by decide +kernel⟩
structure Top (K : PySem.W.Frag) (mg : Str → Option Value) : Type where
  f_root : Addr
  d_root : FuncData
  F_root : Fun K "root" "root" s_root f_root d_root
  g_root : mg "root" = some (.ref f_root)
  b_root : Binds K d_root ["word"] []
  f_shared : Addr
  d_shared : FuncData
  F_shared : Fun K "shared" "shared" s_shared f_shared d_shared
  g_shared : mg "shared" = some (.ref f_shared)
  b_shared : Binds K d_shared ["word", "name"] []
  f_same_words : Addr
  d_same_words : FuncData
  F_same_words : Fun K "same_words" "same_words" s_same_words f_same_words d_same_words
  g_same_words : mg "same_words" = some (.ref f_same_words)
  b_same_words : Binds K d_same_words ["one", "other"] []
  f_l_deal : Addr
  d_l_deal : FuncData
  F_l_deal : Fun K "_law_deal" "_law_deal" s_l_deal f_l_deal d_l_deal
  g_l_deal : mg "_law_deal" = some (.ref f_l_deal)
  b_l_deal : Binds K d_l_deal ["_law_script", "_law_base"] []
  f_l_draw : Addr
  d_l_draw : FuncData
  F_l_draw : Fun K "_law_draw" "_law_draw" s_l_draw f_l_draw d_l_draw
  g_l_draw : mg "_law_draw" = some (.ref f_l_draw)
  b_l_draw : Binds K d_l_draw ["_law_deal_here", "_law_many"] []
  f_l_pick : Addr
  d_l_pick : FuncData
  F_l_pick : Fun K "_law_pick" "_law_pick" s_l_pick f_l_pick d_l_pick
  g_l_pick : mg "_law_pick" = some (.ref f_l_pick)
  b_l_pick : Binds K d_l_pick ["_law_deal_here", "_law_some"] []
  f_l_letters : Addr
  d_l_letters : FuncData
  F_l_letters : Fun K "_law_letters" "_law_letters" s_l_letters f_l_letters d_l_letters
  g_l_letters : mg "_law_letters" = some (.ref f_l_letters)
  b_l_letters : Binds K d_l_letters ["_law_deal_here", "_law_many"] []
  f_l_word : Addr
  d_l_word : FuncData
  F_l_word : Fun K "_law_word" "_law_word" s_l_word f_l_word d_l_word
  g_l_word : mg "_law_word" = some (.ref f_l_word)
  b_l_word : Binds K d_l_word ["_law_deal_here", "_law_letters_here", "_law_most"] []
  f_l_root : Addr
  d_l_root : FuncData
  F_l_root : Fun K "_law_root" "_law_root" s_l_root f_l_root d_l_root
  g_l_root : mg "_law_root" = some (.ref f_l_root)
  b_l_root : Binds K d_l_root ["_law_word_here"] []
  f_l_shared : Addr
  d_l_shared : FuncData
  F_l_shared : Fun K "_law_shared" "_law_shared" s_l_shared f_l_shared d_l_shared
  g_l_shared : mg "_law_shared" = some (.ref f_l_shared)
  b_l_shared : Binds K d_l_shared ["_law_word_here", "_law_name"] []
  f_law : Addr
  d_law : FuncData
  F_law : Fun K "law" "law" s_law f_law d_law
  g_law : mg "law" = some (.ref f_law)
  b_law : Binds K d_law ["_law_script"] []
  n_enumerate : mg "enumerate" = none
  n_int : mg "int" = none
  n_len : mg "len" = none
  n_list : mg "list" = none
  n_max : mg "max" = none
  n_range : mg "range" = none
  n_repr : mg "repr" = none
  n_sorted : mg "sorted" = none
  n_str : mg "str" = none
section
variable {P : Program} {w : World} {K : PySem.W.Frag} {mg : Str → Option Value} {base : Heap}
theorem ok_l_draw (T : Top K mg) : FnOk P w K mg base CX0 1 T.f_l_draw T.d_l_draw ["_law_deal_here", "_law_many"] spDraw := by
  refine T.F_l_draw.ok sc_l_draw (fun vs H Q E h => ?_) (fun cdv A outer s H vs Q E hr h => ?_)
  · obtain ⟨a, c, many, rfl, _⟩ := h
    rfl
  · obtain ⟨a, c, many, rfl, ⟨ns, m, d0⟩, hm1, hm2, q⟩ := h
    refine ⟨_, (pss_cons (ps_while PassesOwn.never (PW.pt (pw_and (pt_cmpR (op_neD hr.units) (pe_ix ix_list (pv 0) pe_int (fun _ _ => rfl)) (pe_lst pa_nil) (nomark _)) (pw_and1 (pt_cmpR op_eq (pe_ix ix_list (pe_ix ix_list (pv 0) pe_int (fun _ _ => rfl)) (pe_un un_neg pe_int) (fun _ _ => rfl)) pe_int (nomark _))))) (pss_one (ps_expr (pe_bm0 PySem.F.plainAttrs_list PySem.F.slot_list_pop PySem.F.type_list_pop mt_pop (pe_ix ix_list (pv 0) pe_int (fun _ _ => rfl))))))
        (pss_cons (ps_if (pt_cmpR (op_neD hr.units) (pe_ix ix_list (pv 0) pe_int (fun _ _ => rfl)) (pe_lst pa_nil) (nomark _)) (pss_cons (ps_set (i := 2) sc_l_draw.nd rfl (Or.inl rfl) (pe_bm0 PySem.F.plainAttrs_list PySem.F.slot_list_pop PySem.F.type_list_pop mt_pop (pe_ix ix_list (pv 0) pe_int (fun _ _ => rfl))))
        (pss_cons (ps_expr (pe_bm PySem.F.plainAttrs_list PySem.F.slot_list_append PySem.F.type_list_append mt_append (pe_ix ix_list (pv 0) pe_int (fun _ _ => rfl)) (pa_cons (pe_op op_fdivW (pv 2) (pv 1)) pa_nil)))
        (pss_one (ps_ret (pe_op op_mod (pe_callTy call_int1 (by rfl) T.n_int (by decide +kernel) (pa_cons (pv 2) pa_nil)) (pv 1)))))) pss_nil)
        (pss_cons (ps_asg (pe_op op_mod (pe_callTy call_int1 (by rfl) T.n_int (by decide +kernel) (pa_cons (pe_op op_mul (pe_ix ix_list (pv 0) pe_int (fun _ _ => rfl)) pe_int) pa_nil)) pe_int) (pg_sub (pv 0) pe_int set_list))
        (pss_one (ps_ret (pe_op op_mod (pe_callTy call_int1 (by rfl) T.n_int (by decide +kernel) (pa_cons (pe_op op_fdivW (pe_ix ix_list (pv 0) pe_int (fun _ _ => rfl)) pe_int) pa_nil)) (pv 1))))))), ?_⟩
    refine ⟨fun k σ H' => ∃ ns m, σ = [some (.ref a), some (.int many), none] ∧ k = ns.length ∧ DealIs H' a c ns m ∧ Kp a c H H', ⟨_, ns, m, rfl, rfl, d0, Kp.refl _ _ _⟩, ?_⟩
    rintro k σ H1 ⟨ns, m, rfl, rfl, d, kp⟩
    refine dealNe d rfl fun p hp d1 => ?_
    have kp1 : Kp a c H (upd H1 p (.lst [])) := kp.new' hp
    by_cases hn : ns = []
    · subst hn
      refine iteF ?_
      refine iteF ?_
      refine dealNe d1 rfl fun p2 hp2 d2 => ?_
      have kp2 := kp1.new' (o := .lst []) hp2
      refine iteF ?_
      refine deal1 d2 rfl ?_
      refine ⟨m, 48271, rfl, rfl, .inr ⟨by decide, by decide⟩, .inl ⟨_, rfl, ?_⟩⟩
      refine ⟨_, _, rfl, rfl, (by show (0 : Int) < 2147483647; decide), ?_⟩
      have hb1 : 0 ≤ m * 48271 % 2147483647 := Int.emod_nonneg _ (by decide)
      have hb2 : m * 48271 % 2147483647 < 2147483647 := Int.emod_lt_of_pos _ (by decide)
      refine ⟨_, rfl, a, _, 1, 1, rfl, rfl, d2.hd, rfl, ?_⟩
      have d3 := d2.setM hb1 hb2
      refine deal1 d3 rfl ?_
      refine ⟨_, 8, rfl, rfl, lt200 (by decide) (by decide), .inl ⟨_, rfl, ?_⟩⟩
      refine ⟨_, rfl, _, _, rfl, rfl, (by omega), ?_⟩
      exact q _ _ (Int.emod_nonneg _ (by omega)) (Int.emod_lt_of_pos _ (by omega)) ⟨_, _, d3⟩ kp2.updA
    · rw [decide_eq_false hn]
      refine iteT ?_
      obtain ⟨l, z, rfl⟩ := rev_last hn
      refine deal0 d1 rfl ?_
      have el : atI ((l ++ [z]).map V.int) (-1) = some (.int z) := by
        rw [List.map_append]
        exact atI_last _ _
      have ep : ((l ++ [z]).map V.int)[((l ++ [z]).map V.int).length - 1]? = some (.int z) := by simp
      have ed : ((l ++ [z]).map V.int).dropLast = l.map V.int := by simp
      have hl : l.length + 1 ≤ 63 := by simpa using d.few
      have hz : 0 ≤ z := d.pos z (by simp)
      have hlp : ∀ n ∈ l, 0 ≤ n := fun n hn => d.pos n (by simp [hn])
      refine ⟨1, rfl, c, _, -1, .int z, rfl, rfl, SqL.of d1.cs, el, rfl, _, rfl, ite2 (fun e => ?_) (fun e => ?_)⟩
      · refine ⟨fun σ' H' => ∃ m, σ' = [some (.ref a), some (.int many), none] ∧ DealIs H' a c l m ∧ Kp a c H H', fun σ' H' ⟨m, e1, e2, e3⟩ => ⟨l.length, by simp, l, m, e1, rfl, e2, e3⟩, ?_⟩
        refine deal0 d1 rfl ?_
        refine ⟨.inl ⟨rfl, _, SqL.of d1.cs⟩, c, _, _, rfl, rfl, d1.cs, ep, ?_⟩
        rw [ed]
        exact ⟨m, rfl, d1.setC hlp (by omega), kp1.updC⟩
      · refine dealNe d1 rfl fun p2 hp2 d2 => ?_
        have kp2 := kp1.new' (o := .lst []) hp2
        rw [decide_eq_false hn]
        refine iteT ?_
        refine deal0 d2 rfl ?_
        refine ⟨.inl ⟨rfl, _, SqL.of d2.cs⟩, c, _, _, rfl, rfl, d2.cs, ep, ?_⟩
        rw [ed]
        have d3 := d2.setC hlp (by omega)
        refine deal0 d3 rfl ?_
        refine ⟨.inl ⟨rfl, _, SqL.of d3.cs⟩, _, rfl, _, rfl, _, _, rfl, rfl, lt200 hm1 hm2, c, _, _, rfl, rfl, d3.cs, ?_, ?_⟩
        · rw [List.length_map]
          exact small1000 (by omega)
        · have d4 := d3.setC (ns' := l ++ [z / many]) (fun n hn => by
            rcases List.mem_append.mp hn with h | h
            · exact hlp n h
            · rw [List.mem_singleton.mp h]
              exact Int.ediv_nonneg hz (by omega)) (by simpa using hl)
          rw [List.map_append] at d4
          refine ⟨_, rfl, .inl ⟨_, rfl, ?_⟩⟩
          refine ⟨_, rfl, _, _, rfl, rfl, (by omega), ?_⟩
          exact q _ _ (Int.emod_nonneg _ (by omega)) (Int.emod_lt_of_pos _ (by omega)) ⟨_, _, d4⟩ kp2.updC.updC
theorem ok_l_deal (T : Top K mg) : FnOk P w K mg base CX0 1 T.f_l_deal T.d_l_deal ["_law_script", "_law_base"] (spDeal K) := by
  refine T.F_l_deal.ok sc_l_deal (fun vs H Q E h => ?_) (fun cdv A outer s H vs Q E hr h => ?_)
  · obtain ⟨a, ns, b, rfl, _⟩ := h
    rfl
  · obtain ⟨a, ns, b, rfl, hS, hl, hb0, hb1, q⟩ := h
    refine ⟨_, (pss_cons (ps_setLc (i := 2) (own := [("_law_cell", 4)]) (g := gName 4) (tt := tYes) (by rfl) sc_l_deal.nd rfl rfl (sw_true rfl rfl rfl (by decide +kernel)) (pi_list (pe_slice sl_list (pv 0) (po_some (pv 1)) (po_some pe_int))) (blkOk_by (own := [("_law_cell", 4)]) (N := ["_law_script", "_law_base", "_law_cells", "_law_mixed", "_law_cell"]) (sc := defScope s_l_deal) (by decide +kernel)) (fun _ _ _ _ _ => pg_name (i := 4) sc_l_deal.nd rfl (Or.inl rfl)) (fun _ _ _ _ _ => pts_nil) (fun _ _ _ _ _ => (pe_ifExp (pt_cmpR op_gt (pv 4) pe_int (nomark _)) (pv 4) (pe_op op_sub pe_int (pv 4)))))
        (pss_cons (ps_set (i := 3) sc_l_deal.nd rfl (Or.inl rfl) (pe_op op_add pe_int (pe_op op_mul pe_int (pv 1))))
        (pss_cons (ps_for PassesOwn.never rfl (pi_list (pv 2)) (pg_name (i := 4) sc_l_deal.nd rfl (Or.inl rfl)) (pss_one (ps_set (i := 3) sc_l_deal.nd rfl (Or.inl rfl) (pe_op op_mod (pe_callTy call_int1 (by rfl) T.n_int (by decide +kernel) (pa_cons (pe_op op_add (pe_op op_mul (pv 3) pe_int) (pe_op op_mod (pe_callTy call_int1 (by rfl) T.n_int (by decide +kernel) (pa_cons (pv 4) pa_nil)) pe_int)) pa_nil)) pe_int))))
        (pss_one (ps_ret (pe_lst (pa_cons (pe_revL (pe_lc (own := [("_law_cell", 4)]) (g := gName 4)  (by rfl) sc_l_deal.nd (pi_list (pv 2)) (blkOk_by (own := [("_law_cell", 4)]) (N := ["_law_script", "_law_base", "_law_cells", "_law_mixed", "_law_cell"]) (sc := defScope s_l_deal) (by decide +kernel)) (fun _ _ _ _ _ => pg_name (i := 4) sc_l_deal.nd rfl (Or.inl rfl)) (fun _ _ _ _ _ => pts_one (pt_cmpR op_ge (pv 4) (pe_op op_pow pe_int pe_int) (nomark _))) (fun _ _ _ _ _ => (pv 4)))) (pa_cons (pv 3) pa_nil)))))))), ?_⟩
    -- the cells
    refine ⟨_, rfl, _, rfl, b, rfl, 63, rfl, a, _, rfl, hS, fun p hp => ?_⟩
    obtain ⟨ms, ec, _, hml⟩ := cut_map V.int ns (some b) (some 63)
    rw [ec]
    have s1 : Same H (upd H p (.lst (ms.map V.int))) := Same.new (Same.refl _) hp
    refine ⟨p, rfl, ⟨_, SqL.of upd_same⟩, fun D hD => ?_⟩
    refine lcM (src_list K p (ms.map V.int)) (fun v => match v with | .int n => .int (if n > 0 then n else 0 - n) | v => v) (SqL.of upd_same) hD (fun _ => rfl) (by rw [List.length_map]; omega) ?_ ?_
    · intro x hx H' _ Q k
      obtain ⟨n, _, rfl⟩ := List.mem_map.mp hx
      refine ⟨_, rfl, _, _, rfl, rfl, _, rfl, ?_⟩
      by_cases hn : 0 < n
      · rw [decide_eq_true hn]
        refine iteT ⟨_, rfl, ?_⟩
        have := k H' (Same.refl _)
        simp only [gt_iff_lt, hn, if_true] at this
        exact this
      · rw [decide_eq_false hn]
        refine iteF ⟨_, rfl, _, _, rfl, rfl, ?_⟩
        have := k H' (Same.refl _)
        simp only [gt_iff_lt, hn, if_false] at this
        exact this
    · intro H2 s2 e2
      rw [List.map_map] at e2
      have s02 : Same H H2 := s1.trans s2
      generalize hcs : ms.map (fun n => if n > 0 then n else 0 - n) = cs at *
      have e2 : H2 D = some (.lst (cs.map V.int)) := by
        rw [e2, ← hcs, List.map_map]
        rfl
      have hcp : ∀ n ∈ cs, 0 ≤ n := by
        intro n hn
        rw [← hcs] at hn
        obtain ⟨z, _, rfl⟩ := List.mem_map.mp hn
        split <;> omega
      have hcl : cs.length ≤ 63 := by
        rw [← hcs, List.length_map]
        omega
      -- mixed
      refine ⟨_, rfl, 17, b, rfl, rfl, .inl ⟨by decide, by decide⟩, _, _, rfl, rfl, ?_⟩
      refine ⟨_, rfl, D, rfl, ⟨_, SqL.of e2⟩, ?_⟩
      refine for_it (src_list K D (cs.map V.int)).w (fun i σ H' => ∃ m v, σ = [some (.ref a), some (.int b), some (.ref D), some (.int m), v] ∧ 0 ≤ m ∧ m < 2147483647 ∧ H' = H2) ⟨_, none, rfl, by omega, by omega, rfl⟩ (fun i σ H' _ ⟨_, _, _, _, _, e⟩ => by rw [e]; exact SqL.of e2) ?_ ?_
      · rintro i x σ H3 H4 hi ⟨m, v, rfl, m0, m1, rfl⟩ ⟨rfl, hx⟩
        obtain ⟨z, hz, rfl⟩ : ∃ z, z ∈ cs ∧ V.int z = x := by
          obtain ⟨z, hz, rfl⟩ := List.mem_map.mp (List.mem_of_getElem? hx)
          exact ⟨z, hz, rfl⟩
        refine ⟨_, rfl, m, 16807, rfl, rfl, .inr ⟨by decide, by decide⟩, _, rfl, .inl ⟨_, rfl, ?_⟩⟩
        refine ⟨_, _, rfl, rfl, (by show (0 : Int) < 2147483629; decide), _, _, rfl, rfl, .inl ⟨_, rfl, ?_⟩⟩
        refine ⟨_, _, rfl, rfl, (by show (0 : Int) < 2147483647; decide), ?_⟩
        exact ⟨_, _, rfl, Int.emod_nonneg _ (by decide), Int.emod_lt_of_pos _ (by decide), rfl⟩
      · rintro σ H3 ⟨m, v, rfl, m0, m1, rfl⟩
        -- the great cells, turned about
        refine ⟨_, rfl, D, rfl, ⟨_, SqL.of e2⟩, fun D2 hD2 => ?_⟩
        refine lcS (src_list K D (cs.map V.int)) (fun v => match v with | .int n => decide ((10 : Int) ^ 18 ≤ n) | _ => true) id (SqL.of e2) hD2 (fun _ => rfl) (by rw [List.length_map]; omega) ?_ ?_ ?_
        · intro x hx H' _ Q k
          obtain ⟨n, _, rfl⟩ := List.mem_map.mp hx
          refine ⟨_, rfl, _, _, rfl, rfl, ⟨by decide, by decide, by decide⟩, _, _, rfl, rfl, _, rfl, ?_⟩
          exact k H' (Same.refl _)
        · intro x hx _ H' _ Q k
          exact ⟨_, rfl, k H' (Same.refl _)⟩
        · intro H4 s4 e4
          rw [List.map_id, List.filter_map] at e4
          refine ⟨D2, _, rfl, SqL.of e4, fun c hc => ?_⟩
          refine ⟨_, rfl, (by show 2 ≤ sizeLine; decide), fun d hd => ?_⟩
          generalize hgs : ((cs.filter ((fun v => match v with | .int n => decide ((10 : Int) ^ 18 ≤ n) | _ => true) ∘ V.int)).map V.int).reverse = gs at *
          have hgs' : gs = ((cs.filter ((fun v => match v with | .int n => decide ((10 : Int) ^ 18 ≤ n) | _ => true) ∘ V.int)).reverse).map V.int := by
            rw [← hgs, List.map_reverse]
          have f1 : H c = none := s02.free (s4.free hc)
          have f2 : H d = none := (Same.new (o := .lst gs) (s02.trans s4) hc).free hd
          have ncd : c ≠ d := ne_of_none (H := upd H4 c (.lst gs)) upd_same hd
          refine q d c _ (Same.new (Same.new (s02.trans s4) hc) hd) f2 f1 ⟨(cs.filter ((fun v => match v with | .int n => decide ((10 : Int) ^ 18 ≤ n) | _ => true) ∘ V.int)).reverse, m, ⟨upd_same, ?_, ?_, ?_, m0, m1⟩⟩
          · rw [upd_ne ncd, upd_same, hgs']
          · intro n hn
            exact hcp n (List.mem_filter.mp (List.mem_reverse.mp hn)).1
          · rw [List.length_reverse]
            exact Nat.le_trans (List.length_filter_le _ _) hcl
theorem ok_l_pickS (T : Top K mg) : FnOk P w K mg base CX0 2 T.f_l_pick T.d_l_pick ["_law_deal_here", "_law_some"] spPickS := by
  have G_l_draw : FnOk P w K mg base CX0 1 T.f_l_draw T.d_l_draw ["_law_deal_here", "_law_many"] spDraw := ok_l_draw T
  refine T.F_l_pick.ok sc_l_pick (fun vs H Q E h => ?_) (fun cdv A outer s H vs Q E hr h => ?_)
  · obtain ⟨a, c, l, rfl, _⟩ := h
    rfl
  · obtain ⟨a, c, l, rfl, d, hn, hl, q⟩ := h
    have hpos : 0 < l.length := List.length_pos_iff.mpr hn
    refine ⟨_, (pss_one (ps_ret (pe_ix ix_str (pv 1) (pe_call G_l_draw (hr.mono (by decide)) (by rfl) T.g_l_draw T.F_l_draw.kp T.b_l_draw .nil pass0 (pa_cons (pv 0) (pa_cons (pe_callB call_len_str (by rfl) T.n_len (by decide +kernel) (pa_cons (pv 1) pa_nil)) pa_nil))) (fun _ _ => rfl)))), ?_⟩
    refine ⟨_, rfl, _, rfl, _, rfl, _, rfl, (by rw [S_len, sizeLine_eq]; omega), a, c, _, rfl, d, ?_, ?_, fun r H' r0 r1 d' kp => ?_⟩
    · rw [S_len]; omega
    · rw [S_len]; omega
    · rw [S_len] at r1
      have hi : r.toNat < l.length := by omega
      refine ⟨_, _, l[r.toNat], rfl, rfl, (by rw [S_len, sizeLine_eq]; omega), ?_, q _ _ (List.getElem_mem hi) d' kp⟩
      rw [S_toList]
      exact atI_int r0 (List.getElem?_eq_getElem hi)
theorem ok_l_pickL (T : Top K mg) : FnOk P w K mg base CX0 2 T.f_l_pick T.d_l_pick ["_law_deal_here", "_law_some"] (spPickL K) := by
  have G_l_draw : FnOk P w K mg base CX0 1 T.f_l_draw T.d_l_draw ["_law_deal_here", "_law_many"] spDraw := ok_l_draw T
  refine T.F_l_pick.ok sc_l_pick (fun vs H Q E h => ?_) (fun cdv A outer s H vs Q E hr h => ?_)
  · obtain ⟨a, c, p, xs, rfl, _⟩ := h
    rfl
  · obtain ⟨a, c, p, xs, rfl, d, hp, n1, n2, hn, hl, q⟩ := h
    have hpos : 0 < xs.length := List.length_pos_iff.mpr hn
    refine ⟨_, (pss_one (ps_ret (pe_ix ix_list (pv 1) (pe_call G_l_draw (hr.mono (by decide)) (by rfl) T.g_l_draw T.F_l_draw.kp T.b_l_draw .nil pass0 (pa_cons (pv 0) (pa_cons (pe_callB call_len_seq (by rfl) T.n_len (by decide +kernel) (pa_cons (pv 1) pa_nil)) pa_nil))) (fun _ _ => rfl)))), ?_⟩
    refine ⟨_, rfl, _, rfl, _, rfl, p, _, rfl, .inl hp, a, c, _, rfl, d, (by omega), (by omega), fun r H' r0 r1 d' kp => ?_⟩
    have hi : r.toNat < xs.length := by omega
    exact ⟨p, xs, _, xs[r.toNat], rfl, rfl, kp.sqL n1 n2 hp, atI_int r0 (List.getElem?_eq_getElem hi), q _ _ (List.getElem_mem hi) d' kp⟩
theorem ok_l_letters (T : Top K mg) : FnOk P w K mg base CX0 2 T.f_l_letters T.d_l_letters ["_law_deal_here", "_law_many"] spLetters := by
  have G_l_draw : FnOk P w K mg base CX0 1 T.f_l_draw T.d_l_draw ["_law_deal_here", "_law_many"] spDraw := ok_l_draw T
  refine T.F_l_letters.ok sc_l_letters (fun vs H Q E h => ?_) (fun cdv A outer s H vs Q E hr h => ?_)
  · obtain ⟨a, c, z, rfl, _⟩ := h
    rfl
  · obtain ⟨a, c, z, rfl, d, hz0, hn, q⟩ := h
    obtain ⟨n, rfl⟩ := nat_of hz0
    rw [Int.toNat_natCast] at q
    refine ⟨_, (pss_cons (ps_par (i := 2) (j := 3) (by rfl) sc_l_letters.nd rfl rfl (by decide) rfl rfl (pa_cons (pe_callTy (U.call_listS rfl) (by rfl) T.n_list (by decide +kernel) (pa_cons pe_str pa_nil)) (pa_cons (pe_lst pa_nil) pa_nil)) (by rfl))
        (pss_cons (ps_for PassesOwn.never rfl (pi_range1 (by rfl) T.n_range (pa_cons (pv 1) pa_nil)) (pg_name (i := 4) sc_l_letters.nd rfl (Or.inl rfl)) (pss_one (ps_expr (pe_bm PySem.F.plainAttrs_list PySem.F.slot_list_append PySem.F.type_list_append mt_append (pv 3) (pa_cons (pe_bm PySem.F.plainAttrs_list PySem.F.slot_list_pop PySem.F.type_list_pop mt_popAt (pv 2) (pa_cons (pe_call G_l_draw (hr.mono (by decide)) (by rfl) T.g_l_draw T.F_l_draw.kp T.b_l_draw .nil pass0 (pa_cons (pv 0) (pa_cons (pe_callB call_len_seq (by rfl) T.n_len (by decide +kernel) (pa_cons (pv 2) pa_nil)) pa_nil))) pa_nil)) pa_nil)))))
        (pss_one (ps_ret (pe_join pe_str (pe_callB cr_sortedS (by rfl) T.n_sorted (by decide +kernel) (pa_cons (pe_lc (own := [("_law_sign", 5)]) (g := gName 5) (tt := tYes) (by rfl) sc_l_letters.nd (pi_list (pv 3)) (blkOk_by (own := [("_law_sign", 5)]) (N := ["_law_deal_here", "_law_many", "_law_signs", "_law_found", "_law_turn", "_law_sign"]) (sc := defScope s_l_letters) (by decide +kernel)) (fun _ _ _ _ _ => pg_name (i := 5) sc_l_letters.nd rfl (Or.inl rfl)) (fun _ _ _ _ _ => pts_nil) (fun _ _ _ _ _ => (pe_callTy SkE.call_str_str (by rfl) T.n_str (by decide +kernel) (pa_cons (pv 5) pa_nil)))) pa_nil))))))), ?_⟩
    refine ⟨signs, (by rw [signs_S]), (by rw [signs_len, sizeLine_eq]; omega), fun p hp => ⟨Nat.zero_le _, fun f hf => ⟨_, _, rfl, ?_⟩⟩⟩
    have d1 : Deal (upd (upd H p (.lst (chars signs))) f (.lst [])) a c := (d.new hp).new hf
    have npf : p ≠ f := ne_of_none (H := upd H p (.lst (chars signs))) upd_same hf
    have hf0 : H f = none := by
      rw [upd_ne npf.symm] at hf
      exact hf
    refine ⟨_, rfl, (n : Int), rfl, by omega, by omega, ?_⟩
    refine for_it (src_range 0 (n : Int).toNat).w (fun i σ H' => ∃ (v : Option V) (rest got : List Nat), σ = [some (.ref a), some (.int (n : Int)), some (.ref p), some (.ref f), v, none] ∧ Deal H' a c ∧ Kp a c H H' ∧ H' p = some (.lst (chars rest)) ∧ H' f = some (.lst (chars got)) ∧ (got ++ rest).Perm signs ∧ got.length = i)
      ⟨none, signs, [], rfl, d1, ((Kp.refl _ _ _).new hp).new hf0, by rw [upd_ne npf, upd_same], by rw [upd_same]; rfl, List.Perm.refl _, rfl⟩ (fun _ _ _ _ _ => trivial) ?_ ?_
    · rintro i x σ H1 H2 hi ⟨v, rest, got, rfl, d2, kp, e1, e2, pm, gl⟩ ⟨rfl, hx⟩
      rw [rngV_len] at hi
      have hrl : got.length + rest.length = 40 := by
        have := pm.length_eq
        rw [List.length_append, signs_len] at this
        exact this
      have hcl : (chars rest).length = rest.length := by simp [chars]
      have np := d.ne hp
      have nf := d.ne hf0
      refine ⟨_, rfl, .inl ⟨rfl, _, SqL.of e2⟩, _, rfl, .inl ⟨rfl, _, SqL.of e1⟩, _, rfl, _, rfl, p, _, rfl, .inl (SqL.of e1), a, c, _, rfl, d2, (by omega), (by omega), fun r H3 r0 r1 d3 kp3 => ?_⟩
      rw [hcl] at r1
      have e1' := kp3 _ _ np.1 np.2 e1
      have e2' := kp3 _ _ nf.1 nf.2 e2
      have hr : r.toNat < rest.length := by omega
      refine ⟨p, _, r, r.toNat, .str (S [rest[r.toNat]]), rfl, rfl, e1', (by omega), (by omega), seqIx r0 (by omega), by simp [chars, hr], ?_⟩
      have e2'' : (upd H3 p (.lst ((chars rest).eraseIdx r.toNat))) f = some (.lst (chars got)) := by
        rw [upd_ne npf.symm]
        exact e2'
      refine ⟨f, _, _, rfl, rfl, e2'', ?_, ?_⟩
      · have : (chars got).length = got.length := by simp [chars]
        rw [this]
        exact small1000 (by omega)
      · refine ⟨_, rest.eraseIdx r.toNat, got ++ [rest[r.toNat]], rfl, (d3.upd np.1 np.2).upd nf.1 nf.2, ((kp.trans kp3).new hp).new hf0, ?_, ?_, ?_, by simp [gl]⟩
        · rw [upd_ne npf, upd_same]
          rw [show (chars rest).eraseIdx r.toNat = chars (rest.eraseIdx r.toNat) from map_erase _ _ _]
        · rw [upd_same]
          simp [chars]
        · refine List.Perm.trans ?_ pm
          rw [List.append_assoc]
          refine List.Perm.append_left _ ?_
          exact erase_perm rest r.toNat hr
    · rintro σ H1 ⟨v, rest, got, rfl, d2, kp, e1, e2, pm, gl⟩
      rw [rngV_len] at gl
      have gl : got.length = n := by simpa using gl
      have hcl : (chars got).length = got.length := by simp [chars]
      refine ⟨⟨_, rfl⟩, _, rfl, f, rfl, ⟨_, SqL.of e2⟩, fun D hD => ?_⟩
      refine lcM (src_list K f (chars got)) id (SqL.of e2) hD (fun _ => rfl) (by omega) ?_ ?_
      · intro x hx H' _ Q k
        obtain ⟨z, _, rfl⟩ := List.mem_map.mp hx
        exact ⟨_, rfl, _, rfl, k H' (Same.refl _)⟩
      · intro H2 s2 eD
        rw [List.map_id, chars_eq] at eD
        refine ⟨D, _, rfl, SqL.of eD, (by rw [List.length_map]; omega), fun ys q1 pm2 hs hq1 => ?_⟩
        obtain ⟨l, pl, rfl⟩ := perm_ones pm2
        have hll : l.length = n := by rw [pl.length_eq, gl]
        refine ⟨S [], q1, _, rfl, rfl, .inl (SqL.of upd_same), ?_, ?_⟩
        · rw [len_ones, S_len, List.length_map]
          simp only [List.length_nil]
          omega
        · rw [joinOnes]
          have nd : got.Nodup := (List.nodup_append.mp (pm.nodup_iff.mpr signs_nd)).1
          refine q l _ ⟨hll, asc_of (sorted_ones hs) (pl.nodup_iff.mpr nd), fun x hx => pm.mem_iff.mp (List.mem_append_left _ (pl.mem_iff.mp hx))⟩ ?_ ?_
          · obtain ⟨ns, m, d2⟩ := d2
            refine ⟨ns, m, ⟨?_, ?_, d2.pos, d2.few, d2.m0, d2.m1⟩⟩
            · rw [upd_ne (ne_of_none (s2 _ _ d2.hd) hq1)]
              exact s2 _ _ d2.hd
            · rw [upd_ne (ne_of_none (s2 _ _ d2.cs) hq1)]
              exact s2 _ _ d2.cs
          · exact (kp.trans (Same.kp s2)).new' hq1
theorem ok_l_word (T : Top K mg) : FnOk P w K mg base CX0 3 T.f_l_word T.d_l_word ["_law_deal_here", "_law_letters_here", "_law_most"] spWord := by
  have G_l_draw : FnOk P w K mg base CX0 1 T.f_l_draw T.d_l_draw ["_law_deal_here", "_law_many"] spDraw := ok_l_draw T
  have G_l_pick : FnOk P w K mg base CX0 2 T.f_l_pick T.d_l_pick ["_law_deal_here", "_law_some"] spPickS := ok_l_pickS T
  refine T.F_l_word.ok sc_l_word (fun vs H Q E h => ?_) (fun cdv A outer s H vs Q E hr h => ?_)
  · obtain ⟨a, c, l, z, rfl, _⟩ := h
    rfl
  · obtain ⟨a, c, l, z, rfl, d, hne, hl, hz0, hn, q⟩ := h
    obtain ⟨n, rfl⟩ := nat_of hz0
    rw [Int.toNat_natCast] at q
    refine ⟨_, (pss_one (ps_ret (pe_join pe_str (pe_lc (own := [("_law_k", 3)]) (g := gName 3) (tt := tYes) (by rfl) sc_l_word.nd (pi_range1 (by rfl) T.n_range (pa_cons (pe_call G_l_draw (hr.mono (by decide)) (by rfl) T.g_l_draw T.F_l_draw.kp T.b_l_draw .nil pass0 (pa_cons (pv 0) (pa_cons (pe_op op_add (pv 2) pe_int) pa_nil))) pa_nil)) (blkOk_by (own := [("_law_k", 3)]) (N := ["_law_deal_here", "_law_letters_here", "_law_most", "_law_k"]) (sc := defScope s_l_word) (by decide +kernel)) (fun _ _ _ _ _ => pg_name (i := 3) sc_l_word.nd rfl (Or.inl rfl)) (fun _ _ _ _ _ => pts_nil) (fun _ _ _ _ _ => (pe_call G_l_pick (hr.mono (by decide)) (by rfl) T.g_l_pick T.F_l_pick.kp T.b_l_pick .nil pass0 (pa_cons (pv 0) (pa_cons (pv 1) pa_nil)))))))), ?_⟩
    refine ⟨⟨_, rfl⟩, _, rfl, _, rfl, _, _, rfl, rfl, a, c, _, rfl, d, (by omega), (by omega), fun r H1 r0 r1 d1 kp1 => ?_⟩
    refine ⟨r, rfl, by omega, by omega, fun D hD => ?_⟩
    have hD0 : H D = none := d.free kp1 d1 hD
    have nD := d1.ne hD
    refine lc_it (src_range 0 r.toNat).w (fun i H' => ∃ x : List Nat, Deal H' a c ∧ Kp a c H H' ∧ H' D = some (.lst (chars x)) ∧ x.length = i ∧ ∀ y ∈ x, y ∈ l) ⟨[], d1.new hD, kp1.new hD0, by rw [upd_same]; rfl, rfl, fun _ h => (nomatch h)⟩ (fun _ _ _ _ => trivial) ?_ ?_
    · rintro i x H2 H3 hi ⟨z, d2, kp2, e2, zl, zs⟩ ⟨rfl, hx⟩
      rw [rngV_len] at hi
      refine ⟨rfl, ?_⟩
      refine ⟨_, rfl, _, rfl, a, c, l, rfl, d2, hne, hl, fun y H4 hy d4 kp4 => ?_⟩
      refine ⟨_, kp4 _ _ nD.1 nD.2 e2, ?_, z ++ [y], d4.upd nD.1 nD.2, (kp2.trans kp4).new hD0, ?_, by simp [zl], ?_⟩
      · have : (chars z).length = z.length := by simp [chars]
        rw [this, zl, sizeLine_eq]
        omega
      · rw [upd_same]
        simp [chars]
      · intro u hu
        rcases List.mem_append.mp hu with h | h
        · exact zs u h
        · rw [List.mem_singleton.mp h]
          exact hy
    · rintro H2 ⟨z, d2, kp2, e2, zl, zs⟩
      rw [rngV_len] at zl
      rw [chars_eq] at e2
      refine ⟨S [], D, _, rfl, rfl, .inl (SqL.of e2), ?_, ?_⟩
      · rw [len_ones, S_len, List.length_map]
        simp only [List.length_nil]
        omega
      · rw [joinOnes]
        exact q z _ (by omega) zs d2 kp2
end
end K04
namespace K04
open PySem PySem.Spec PyProof.Rows L2 U
section
variable {P : Program} {w : World} {K : PySem.W.Frag} {mg : Str → Option Value} {base : Heap}
def sp_root : Sp := fun vs H Q _ => ∃ (w : List Nat), vs = [.str (S w)] ∧ w ≠ [] ∧ w.length ≤ 1000 ∧ ∀ (k : Nat) (p : Addr) H', M4.IsRt w k → Same H H' → H p = none → H' p = some (.tup [.str (S (w.take k)), .int (w.length / k : Nat)]) → Q (.ref p) H'
def sp_shared : Sp := fun vs H Q _ => ∃ (w x : List Nat), vs = [.str (S w), .str (S x)] ∧ w ≠ [] ∧ w.length ≤ 1000 ∧ x.length ≤ 1000 ∧ ∀ H', Same H H' → Q (.int (M4.shr (M4.fw w) 0 x : Nat)) H'
def sp_same : Sp := fun vs H Q _ => ∃ (w o : List Nat), vs = [.str (S w), .str (S o)] ∧ w ≠ [] ∧ o ≠ [] ∧ w.length ≤ 1000 ∧ o.length ≤ 1000 ∧ ∀ (b : Bool) H', (b = true ↔ ∀ i, M4.fw w i = M4.fw o i) → Same H H' → Q (.bl b) H'
theorem divNat (a b : Nat) : ((a : Int)) / (1 + (b : Int)) = ((a / (1 + b) : Nat) : Int) := (Int.natCast_ediv a (1 + b)).symm
theorem le_mul_div {w k : Nat} (hk : 1 ≤ k) : k * (w / k) ≤ w := Nat.mul_div_le w k
theorem ok_root (T : Top K mg) : FnOk P w K mg base CX0 1 T.f_root T.d_root ["word"] sp_root := by
  refine T.F_root.ok sc_root (fun vs H Q E h => ?_) (fun cdv A outer s H vs Q E hr h => ?_)
  · obtain ⟨w, rfl, _⟩ := h
    rfl
  · obtain ⟨w, rfl, hne, hl, q⟩ := h
    have hpos : 0 < w.length := List.length_pos_iff.mpr hne
    have szw : (S w).length ≤ sizeLine := by rw [S_len, sizeLine_eq]; omega
    refine ⟨_, (pss_cons (ps_for PassesOwn.never rfl (pi_range2 (by rfl) T.n_range (pa_cons pe_int (pa_cons (pe_callB call_len_str (by rfl) T.n_len (by decide +kernel) (pa_cons (pv 0) pa_nil)) pa_nil))) (pg_name (i := 1) sc_root.nd rfl (Or.inl rfl)) (pss_cons (ps_set (i := 2) sc_root.nd rfl (Or.inl rfl) (pe_op op_fdivW (pe_callB call_len_str (by rfl) T.n_len (by decide +kernel) (pa_cons (pv 0) pa_nil)) (pv 1)))
        (pss_one (ps_if (pt_cmpR op_eq (pe_op U.op_mul_str (pe_slice sl_str (pv 0) po_none (po_some (pv 1))) (pv 2)) (pv 0) (nomark _)) (pss_one (ps_ret (pe_tup (pa_cons (pe_slice sl_str (pv 0) po_none (po_some (pv 1))) (pa_cons (pv 2) pa_nil))))) pss_nil))))
        (pss_one (ps_ret (pe_tup (pa_cons (pv 0) (pa_cons pe_int pa_nil)))))), ?_⟩
    refine ⟨_, rfl, _, rfl, szw, 1, _, rfl, ⟨by decide, by decide, by rw [S_len]; omega, by rw [S_len]; omega⟩, ?_⟩
    rw [S_len]
    refine for_it (src_range 1 ((w.length : Int) - 1).toNat).w (fun i σ H' => ∃ v1 v2, σ = [some (.str (S w)), v1, v2] ∧ H' = H ∧ ∀ j, 1 ≤ j → j < i + 1 → rep (w.take j) (w.length / j) ≠ w) ⟨_, _, rfl, rfl, fun j h1 h2 => by omega⟩ (fun _ _ _ _ _ => trivial) ?_ ?_
    · rintro i v σ H1 H2 hi ⟨v1, v2, rfl, rfl, hl2⟩ ⟨rfl, hv⟩
      rw [rngV_len] at hi
      have hi : i + 1 < w.length := by omega
      obtain ⟨_, rfl⟩ := rngV_get.mp hv
      have hk2 : 1 + i ≤ w.length := by omega
      have hmd := le_mul_div (w := w.length) (k := 1 + i) (by omega)
      have hdl : w.length / (1 + i) ≤ w.length := Nat.div_le_self _ _
      refine ⟨_, rfl, _, rfl, szw, _, rfl, _, _, rfl, rfl, lt200 (by omega) (by omega), ?_⟩
      rw [S_len]
      dsimp only
      rw [divNat]
      refine ⟨_, rfl, _, rfl, _, rfl, _, rfl, szw, ?_⟩
      rw [cut_take _ (by omega), show (1 + (i : Int)).toNat = 1 + i from rfl]
      refine ⟨_, rfl, w.take (1 + i), w.length / (1 + i), rfl, rfl, by rw [M4.take_len hk2]; omega, by omega, _, rfl, rfl, _, rfl, ite2 (fun e => ?_) (fun e => ?_)⟩
      · have e := V.str.inj (of_decide_eq_true e)
        rw [S_inj] at e
        have rt : M4.IsRt w (1 + i) := ⟨by omega, hk2, e, fun j h1 h2 => hl2 j h1 (by omega)⟩
        refine ⟨_, rfl, _, rfl, _, rfl, _, rfl, szw, ?_⟩
        rw [cut_take _ (by omega), show (1 + (i : Int)).toNat = 1 + i from rfl]
        refine ⟨_, rfl, (by show 2 ≤ sizeLine; decide), fun p hp => ?_⟩
        exact q (1 + i) p _ rt (Same.new (Same.refl _) hp) hp upd_same
      · refine ⟨_, _, rfl, rfl, fun j h1 h2 => ?_⟩
        by_cases hj : j < i + 1
        · exact hl2 j h1 hj
        · have ej : j = 1 + i := by omega
          rw [ej]
          intro h
          exact e (decide_eq_true (congrArg V.str (congrArg S h)))
    · rintro σ H1 ⟨v1, v2, rfl, rfl, hl2⟩
      rw [rngV_len] at hl2
      have rt : M4.IsRt w w.length := by
        refine ⟨hpos, Nat.le_refl _, ?_, fun j h1 h2 => hl2 j h1 (by omega)⟩
        rw [Nat.div_self hpos, List.take_length]
        simp [M4.rp]
      refine ⟨_, rfl, (by show 2 ≤ sizeLine; decide), fun p hp => ?_⟩
      refine q w.length p _ rt (Same.new (Same.refl _) hp) hp ?_
      rw [upd_same, List.take_length, Nat.div_self hpos]
      rfl
theorem ok_l_root (T : Top K mg) : FnOk P w K mg base CX0 1 T.f_l_root T.d_l_root ["_law_word_here"] sp_root := by
  refine T.F_l_root.ok sc_l_root (fun vs H Q E h => ?_) (fun cdv A outer s H vs Q E hr h => ?_)
  · obtain ⟨w, rfl, _⟩ := h
    rfl
  · obtain ⟨w, rfl, hne, hl, q⟩ := h
    have hpos : 0 < w.length := List.length_pos_iff.mpr hne
    have szw : (S w).length ≤ sizeLine := by rw [S_len, sizeLine_eq]; omega
    have eN : ((S w).length : Int) + 1 - 1 = (w.length : Int) := by rw [S_len]; omega
    refine ⟨_, (pss_cons (ps_for PassesOwn.never rfl (pi_range2 (by rfl) T.n_range (pa_cons pe_int (pa_cons (pe_op op_add (pe_callB call_len_str (by rfl) T.n_len (by decide +kernel) (pa_cons (pv 0) pa_nil)) pe_int) pa_nil))) (pg_name (i := 1) sc_l_root.nd rfl (Or.inl rfl)) (pss_one (ps_for PassesOwn.never rfl (pi_range2 (by rfl) T.n_range (pa_cons pe_int (pa_cons (pe_op op_add (pe_callB call_len_str (by rfl) T.n_len (by decide +kernel) (pa_cons (pv 0) pa_nil)) pe_int) pa_nil))) (pg_name (i := 2) sc_l_root.nd rfl (Or.inl rfl)) (pss_one (ps_if (pt_cmpR op_eq (pe_op U.op_mul_str (pe_slice sl_str (pv 0) po_none (po_some (pv 1))) (pv 2)) (pv 0) (nomark _)) (pss_one (ps_ret (pe_tup (pa_cons (pe_slice sl_str (pv 0) po_none (po_some (pv 1))) (pa_cons (pv 2) pa_nil))))) pss_nil)))))
        (pss_one (ps_ret pe_non))), ?_⟩
    refine ⟨_, rfl, _, rfl, szw, _, _, rfl, rfl, 1, _, rfl, ⟨by decide, by decide, by rw [S_len]; omega, by rw [S_len]; omega⟩, ?_⟩
    refine for_it (src_range 1 (((S w).length : Int) + 1 - 1).toNat).w (fun i σ H' => ∃ v1 v2, σ = [some (.str (S w)), v1, v2] ∧ H' = H ∧ ∀ j, 1 ≤ j → j < i + 1 → ∀ o, 1 ≤ o → o ≤ w.length → rep (w.take j) o ≠ w) ⟨_, _, rfl, rfl, fun j h1 h2 => by omega⟩ (fun _ _ _ _ _ => trivial) ?_ ?_
    · rintro i v σ H1 H2 hi ⟨v1, v2, rfl, rfl, hl2⟩ ⟨rfl, hv⟩
      rw [rngV_len, eN] at hi
      have hi : i < w.length := by omega
      obtain ⟨_, rfl⟩ := rngV_get.mp hv
      have hk2 : 1 + i ≤ w.length := by omega
      refine ⟨_, rfl, _, rfl, szw, _, _, rfl, rfl, 1, _, rfl, ⟨by decide, by decide, by rw [S_len]; omega, by rw [S_len]; omega⟩, ?_⟩
      refine for_it (src_range 1 (((S w).length : Int) + 1 - 1).toNat).w (fun m σ H' => ∃ v2, σ = [some (.str (S w)), some (.int (1 + (i : Int))), v2] ∧ H' = H2 ∧ ∀ o, 1 ≤ o → o < m + 1 → rep (w.take (1 + i)) o ≠ w) ⟨_, rfl, rfl, fun j h1 h2 => by omega⟩ (fun _ _ _ _ _ => trivial) ?_ ?_
      · rintro m v σ H1 H2 hm ⟨v2, rfl, rfl, hl3⟩ ⟨rfl, hv⟩
        rw [rngV_len, eN] at hm
        have hm : m < w.length := by omega
        obtain ⟨_, rfl⟩ := rngV_get.mp hv
        have hb : (1 + i) * (1 + m) ≤ 1000000 := by
          have : (1 + i) * (1 + m) ≤ 1000 * 1000 := Nat.mul_le_mul (by omega) (by omega)
          omega
        refine ⟨_, rfl, _, rfl, _, rfl, _, rfl, szw, ?_⟩
        rw [cut_take _ (by omega), show (1 + (i : Int)).toNat = 1 + i from rfl]
        refine ⟨_, rfl, w.take (1 + i), 1 + m, rfl, rfl, by rw [M4.take_len hk2]; exact hb, by omega, _, rfl, rfl, _, rfl, ite2 (fun e => ?_) (fun e => ?_)⟩
        · have e := V.str.inj (of_decide_eq_true e)
          rw [S_inj] at e
          obtain ⟨ed, em⟩ := M4.div_of (by omega) hk2 e
          have rt : M4.IsRt w (1 + i) := by
            refine ⟨by omega, hk2, by rw [ed]; exact e, fun j h1 h2 => hl2 j h1 (by omega) _ ((Nat.one_le_div_iff h1).mpr (by omega)) (Nat.div_le_self _ _)⟩
          refine ⟨_, rfl, _, rfl, _, rfl, _, rfl, szw, ?_⟩
          rw [cut_take _ (by omega), show (1 + (i : Int)).toNat = 1 + i from rfl]
          refine ⟨_, rfl, (by show 2 ≤ sizeLine; decide), fun p hp => ?_⟩
          refine q (1 + i) p _ rt (Same.new (Same.refl _) hp) hp ?_
          rw [upd_same, ed]
          rfl
        · refine ⟨_, rfl, rfl, fun o h1 h2 => ?_⟩
          by_cases ho : o < m + 1
          · exact hl3 o h1 ho
          · have eo : o = 1 + m := by omega
            rw [eo]
            intro h
            exact e (decide_eq_true (congrArg V.str (congrArg S h)))
      · rintro σ H1 ⟨v2, rfl, rfl, hl3⟩
        rw [rngV_len, eN] at hl3
        refine ⟨_, _, rfl, rfl, fun j h1 h2 o h3 h4 => ?_⟩
        by_cases hj : j < i + 1
        · exact hl2 j h1 hj o h3 h4
        · have ej : j = 1 + i := by omega
          rw [ej]
          exact hl3 o h3 (by omega)
    · rintro σ H1 ⟨v1, v2, rfl, rfl, hl2⟩
      rw [rngV_len, eN] at hl2
      exfalso
      refine hl2 w.length hpos (by omega) 1 (by omega) hpos ?_
      rw [List.take_length]
      simp [rep]
theorem ok_shared (T : Top K mg) : FnOk P w K mg base CX0 1 T.f_shared T.d_shared ["word", "name"] sp_shared := by
  refine T.F_shared.ok sc_shared (fun vs H Q E h => ?_) (fun cdv A outer s H vs Q E hr h => ?_)
  · obtain ⟨w, x, rfl, _⟩ := h
    rfl
  · obtain ⟨w, x, rfl, hne, hl, hxl, q⟩ := h
    have hpos : 0 < w.length := List.length_pos_iff.mpr hne
    have szw : (S w).length ≤ sizeLine := by rw [S_len, sizeLine_eq]; omega
    have szx : (S x).length ≤ sizeLine := by rw [S_len, sizeLine_eq]; omega
    refine ⟨_, (pss_cons (ps_set (i := 2) sc_shared.nd rfl (Or.inl rfl) (pe_op U.op_mul_str (pv 0) (pe_op op_add (pe_op op_fdivW (pe_callB call_len_str (by rfl) T.n_len (by decide +kernel) (pa_cons (pv 1) pa_nil)) (pe_callB (call_max2 rfl) (by rfl) T.n_max (by decide +kernel) (pa_cons pe_int (pa_cons (pe_callB call_len_str (by rfl) T.n_len (by decide +kernel) (pa_cons (pv 0) pa_nil)) pa_nil)))) pe_int)))
        (pss_cons (ps_for PassesOwn.never rfl (U.pi_enumS (by rfl) T.n_enumerate (pa_cons (pv 1) pa_nil)) (pg_tup rfl (pgs_cons (pg_name (i := 3) sc_shared.nd rfl (Or.inl rfl)) (pgs_cons (pg_name (i := 4) sc_shared.nd rfl (Or.inl rfl)) pgs_nil))) (pss_one (ps_if (pt_cmpR op_ne (pe_ix ix_str (pv 2) (pv 3) (fun _ _ => rfl)) (pv 4) (nomark _)) (pss_one (ps_ret (pv 3))) pss_nil)))
        (pss_one (ps_ret (pe_callB call_len_str (by rfl) T.n_len (by decide +kernel) (pa_cons (pv 1) pa_nil)))))), ?_⟩
    refine ⟨_, rfl, _, rfl, _, rfl, szx, _, rfl, _, rfl, szw, _, _, rfl, ?_⟩
    rw [S_len, S_len]
    have em : (if (w.length : Int) > 1 then (w.length : Int) else 1) = (w.length : Int) := by split <;> omega
    rw [em]
    have hdl : x.length / w.length ≤ x.length := Nat.div_le_self _ _
    have hml := le_mul_div (w := x.length) (k := w.length) hpos
    refine ⟨_, _, rfl, rfl, lt200 (by omega) (by omega), _, _, rfl, rfl, w, x.length / w.length + 1, rfl, ?_, by rw [Nat.mul_add]; omega, by omega, ?_⟩
    · show V.int ((x.length : Int) / (w.length : Int) + 1) = _
      rw [← Int.natCast_ediv]
      rfl
    generalize hL : rep w (x.length / w.length + 1) = lg
    have hlg : x.length < lg.length := by
      rw [← hL, rep_len, Nat.add_mul, Nat.one_mul]
      have := Nat.lt_div_mul_add (a := x.length) (b := w.length) hpos
      omega
    have hlg2 : lg.length ≤ 2000 := by
      rw [← hL, rep_len, Nat.add_mul, Nat.mul_comm]
      omega
    have eat : ∀ i, i < x.length → lg[i]? = some (M4.fw w i) := fun i hi => by
      have h1 := M4.rp_get (l := w) (n := x.length / w.length + 1) (i := i) (by rw [← M4.rp_len, show M4.rp w (x.length / w.length + 1) = lg from hL]; omega)
      rw [show M4.rp w (x.length / w.length + 1) = lg from hL] at h1
      rw [← h1]
      exact getD_get (by omega)
    refine ⟨_, rfl, x, rfl, ?_⟩
    refine for_it (walk_enumS x) (fun i σ H' => ∃ v3 v4, σ = [some (.str (S w)), some (.str (S x)), some (.str (S lg)), v3, v4] ∧ Same H H' ∧ M4.shr (M4.fw w) 0 x = M4.shr (M4.fw w) i (x.drop i)) ⟨_, _, rfl, Same.refl _, rfl⟩ (fun _ _ _ _ _ => trivial) ?_ ?_
    · rintro i v σ H1 H2 hi ⟨v3, v4, rfl, s1, es⟩ ⟨T, c, rfl, hT, rfl, hc⟩
      refine ⟨T, _, rfl, SqT.of upd_same, rfl, _, _, rfl, _, _, rfl, rfl, ?_⟩
      refine ⟨_, rfl, _, rfl, _, _, M4.fw w i, rfl, rfl, (by rw [S_len, sizeLine_eq]; omega), (by rw [S_toList]; exact atI_nat (eat i hi)), _, rfl, rfl, _, rfl, ?_⟩
      have ed : x.drop i = c :: x.drop (i + 1) := by
        have h1 := (List.getElem?_eq_some_iff.mp hc)
        rw [List.drop_eq_getElem_cons h1.1, h1.2]
      rw [ed, M4.shr_cons] at es
      by_cases e : c = M4.fw w i
      · rw [if_pos e] at es
        rw [decide_eq_true (show V.str ⟨#[M4.fw w i]⟩ = V.str (S [c]) by rw [e]; rfl)]
        refine iteF ?_
        exact ⟨_, _, rfl, Same.new s1 hT, es⟩
      · rw [if_neg e] at es
        rw [decide_eq_false (show ¬ V.str ⟨#[M4.fw w i]⟩ = V.str (S [c]) from fun h => by
          have h : S [M4.fw w i] = S [c] := V.str.inj h
          rw [S_inj] at h
          simp at h
          exact e h.symm)]
        refine iteT ?_
        refine ⟨_, rfl, ?_⟩
        have := q _ (Same.new (o := .tup [.int (i : Nat), .str (S [c])]) s1 hT)
        rw [es] at this
        exact this
    · rintro σ H1 ⟨v3, v4, rfl, s1, es⟩
      rw [List.drop_length, M4.shr_nil] at es
      refine ⟨_, rfl, _, rfl, szx, ?_⟩
      have := q _ s1
      rw [es] at this
      rw [S_len]
      exact this
theorem ok_l_shared (T : Top K mg) : FnOk P w K mg base CX0 1 T.f_l_shared T.d_l_shared ["_law_word_here", "_law_name"] sp_shared := by
  refine T.F_l_shared.ok sc_l_shared (fun vs H Q E h => ?_) (fun cdv A outer s H vs Q E hr h => ?_)
  · obtain ⟨w, x, rfl, _⟩ := h
    rfl
  · obtain ⟨w, x, rfl, hne, hl, hxl, q⟩ := h
    have hpos : 0 < w.length := List.length_pos_iff.mpr hne
    have szw : (S w).length ≤ sizeLine := by rw [S_len, sizeLine_eq]; omega
    have szx : (S x).length ≤ sizeLine := by rw [S_len, sizeLine_eq]; omega
    refine ⟨_, (pss_cons (ps_set (i := 2) sc_l_shared.nd rfl (Or.inl rfl) pe_int)
        (pss_cons (ps_while PassesOwn.never (PW.pt (pw_and (pt_cmpR op_lt (pv 2) (pe_callB call_len_str (by rfl) T.n_len (by decide +kernel) (pa_cons (pv 1) pa_nil)) (nomark _)) (pw_and1 (pt_cmpR op_eq (pe_ix ix_str (pv 1) (pv 2) (fun _ _ => rfl)) (pe_ix ix_str (pv 0) (pe_op op_mod (pe_callTy call_int1 (by rfl) T.n_int (by decide +kernel) (pa_cons (pv 2) pa_nil)) (pe_callB (call_max2 rfl) (by rfl) T.n_max (by decide +kernel) (pa_cons pe_int (pa_cons (pe_callB call_len_str (by rfl) T.n_len (by decide +kernel) (pa_cons (pv 0) pa_nil)) pa_nil)))) (fun _ _ => rfl)) (nomark _))))) (pss_one (ps_set (i := 2) sc_l_shared.nd rfl (Or.inl rfl) (pe_op op_add (pv 2) pe_int))))
        (pss_one (ps_ret (pv 2))))), ?_⟩
    refine ⟨fun m σ H' => ∃ i : Nat, σ = [some (.str (S w)), some (.str (S x)), some (.int (i : Int))] ∧ m = x.length - i ∧ H' = H ∧ i ≤ x.length ∧ M4.shr (M4.fw w) 0 x = M4.shr (M4.fw w) i (x.drop i), ⟨_, 0, rfl, rfl, rfl, Nat.zero_le _, rfl⟩, ?_⟩
    rintro m σ H1 ⟨i, rfl, rfl, rfl, hi, es⟩
    refine ⟨_, rfl, _, rfl, _, rfl, szx, _, _, rfl, rfl, _, rfl, ?_⟩
    rw [S_len]
    by_cases h1 : i < x.length
    · rw [decide_eq_true (show (i : Int) < (x.length : Int) by omega)]
      refine iteT ?_
      have hc : x[i]? = some x[i] := List.getElem?_eq_getElem h1
      generalize x[i] = c at hc
      have ed : x.drop i = c :: x.drop (i + 1) := by
        have h1 := (List.getElem?_eq_some_iff.mp hc)
        rw [List.drop_eq_getElem_cons h1.1, h1.2]
      rw [ed, M4.shr_cons] at es
      have hm : i % w.length < w.length := Nat.mod_lt _ hpos
      refine ⟨_, rfl, _, rfl, _, _, c, rfl, rfl, szx, (by rw [S_toList]; exact atI_nat hc), _, rfl, _, rfl, .inl ⟨_, rfl, ?_⟩⟩
      refine ⟨_, rfl, _, rfl, szw, _, _, rfl, ?_⟩
      rw [S_len]
      have em : (if (w.length : Int) > 1 then (w.length : Int) else 1) = (w.length : Int) := by split <;> omega
      rw [em]
      refine ⟨_, _, rfl, rfl, (by show (0 : Int) < (w.length : Int); omega), _, _, M4.fw w i, rfl, rfl, szw, ?_, rfl, _, rfl, ?_⟩
      · rw [S_toList]
        show atI w ((i : Int) % (w.length : Int)) = _
        rw [← Int.natCast_emod]
        exact atI_nat (getD_get hm)
      by_cases e : c = M4.fw w i
      · rw [if_pos e] at es
        rw [decide_eq_true (show V.str ⟨#[c]⟩ = V.str ⟨#[M4.fw w i]⟩ by rw [e])]
        refine iteT ?_
        refine ⟨fun σ' H' => ∃ j : Nat, j = i + 1 ∧ σ' = [some (.str (S w)), some (.str (S x)), some (.int (j : Int))] ∧ H' = H1, fun σ' H' ⟨j, e1, e2, e3⟩ => ⟨x.length - j, by omega, j, e2, rfl, e3, by omega, by rw [e1]; exact es⟩, ?_⟩
        exact ⟨_, rfl, _, _, rfl, rfl, i + 1, rfl, rfl, rfl⟩
      · rw [if_neg e] at es
        rw [decide_eq_false (show ¬ V.str ⟨#[c]⟩ = V.str ⟨#[M4.fw w i]⟩ from fun h => by
          have h : S [c] = S [M4.fw w i] := V.str.inj h
          rw [S_inj] at h
          simp at h
          exact e h)]
        refine iteF ?_
        refine ⟨_, rfl, ?_⟩
        have := q _ (Same.refl _)
        rw [es] at this
        exact this
    · rw [decide_eq_false (show ¬ (i : Int) < (x.length : Int) by omega)]
      refine iteF ?_
      refine iteF ?_
      have ei : i = x.length := by omega
      rw [ei, List.drop_length, M4.shr_nil] at es
      refine ⟨_, rfl, ?_⟩
      have := q _ (Same.refl _)
      rw [es] at this
      rw [ei]
      exact this
theorem ok_same_words (T : Top K mg) : FnOk P w K mg base CX0 2 T.f_same_words T.d_same_words ["one", "other"] sp_same := by
  have G_root : FnOk P w K mg base CX0 1 T.f_root T.d_root ["word"] sp_root := ok_root T
  refine T.F_same_words.ok sc_same_words (fun vs H Q E h => ?_) (fun cdv A outer s H vs Q E hr h => ?_)
  · obtain ⟨w, o, rfl, _⟩ := h
    rfl
  · obtain ⟨w, o, rfl, hw, ho, lw, lo, q⟩ := h
    refine ⟨_, (pss_one (ps_ret (pe_cmpR op_eq (pe_ix ix_tup (pe_call G_root (hr.mono (by decide)) (by rfl) T.g_root T.F_root.kp T.b_root .nil pass0 (pa_cons (pv 0) pa_nil)) pe_int (fun _ _ => rfl)) (pe_ix ix_tup (pe_call G_root (hr.mono (by decide)) (by rfl) T.g_root T.F_root.kp T.b_root .nil pass0 (pa_cons (pv 1) pa_nil)) pe_int (fun _ _ => rfl)) (nomark _)))), ?_⟩
    refine ⟨_, rfl, w, rfl, hw, lw, fun k p H1 rk s1 hp ep => ?_⟩
    refine ⟨p, _, 0, _, rfl, rfl, SqT.of ep, rfl, ?_⟩
    refine ⟨_, rfl, o, rfl, ho, lo, fun k2 p2 H2 rk2 s2 hp2 ep2 => ?_⟩
    refine ⟨p2, _, 0, _, rfl, rfl, SqT.of ep2, rfl, rfl, ?_⟩
    refine q _ _ ?_ (s1.trans s2)
    rw [decide_eq_true_iff]
    constructor
    · intro h
      have h := V.str.inj h
      rw [S_inj] at h
      exact (M4.parts_iff rk rk2).mp h
    · intro h
      rw [(M4.parts_iff rk rk2).mpr h]
end
end K04
namespace K04
open PySem PySem.Spec PyProof.Rows L2 U
section
variable {P : Program} {w : World} {K : PySem.W.Frag} {mg : Str → Option Value} {base : Heap}
def spLaw (K : PySem.W.Frag) : Sp := fun vs H Q _ => ∃ (a : Addr) (ns : List Int), vs = [.ref a] ∧ SqL K H a (ns.map V.int) ∧ ns.length ≤ 63 ∧ ∀ H', Q (.bl true) H'
theorem ok_law (T : Top K mg) : FnG P w K mg base CX0 4 T.f_law T.d_law ["_law_script"] (spLaw K) := by
  have G_l_deal : FnOk P w K mg base CX0 1 T.f_l_deal T.d_l_deal ["_law_script", "_law_base"] (spDeal K) := ok_l_deal T
  have G_l_draw : FnOk P w K mg base CX0 1 T.f_l_draw T.d_l_draw ["_law_deal_here", "_law_many"] spDraw := ok_l_draw T
  have G_l_letters : FnOk P w K mg base CX0 2 T.f_l_letters T.d_l_letters ["_law_deal_here", "_law_many"] spLetters := ok_l_letters T
  have G_l_word : FnOk P w K mg base CX0 3 T.f_l_word T.d_l_word ["_law_deal_here", "_law_letters_here", "_law_most"] spWord := ok_l_word T
  have G_l_pickS : FnOk P w K mg base CX0 2 T.f_l_pick T.d_l_pick ["_law_deal_here", "_law_some"] spPickS := ok_l_pickS T
  have G_l_pickL : FnOk P w K mg base CX0 2 T.f_l_pick T.d_l_pick ["_law_deal_here", "_law_some"] (spPickL K) := ok_l_pickL T
  have G_root : FnOk P w K mg base CX0 1 T.f_root T.d_root ["word"] sp_root := ok_root T
  have G_l_root : FnOk P w K mg base CX0 1 T.f_l_root T.d_l_root ["_law_word_here"] sp_root := ok_l_root T
  have G_same_words : FnOk P w K mg base CX0 2 T.f_same_words T.d_same_words ["one", "other"] sp_same := ok_same_words T
  have G_shared : FnOk P w K mg base CX0 1 T.f_shared T.d_shared ["word", "name"] sp_shared := ok_shared T
  have G_l_shared : FnOk P w K mg base CX0 1 T.f_l_shared T.d_l_shared ["_law_word_here", "_law_name"] sp_shared := ok_l_shared T
  refine funG_ok0 T.F_law sc_law (fun vs H Q E h => ?_) (fun cdv A outer s H vs Q E hr h => ?_)
  · obtain ⟨a, ns, rfl, _⟩ := h
    rfl
  · obtain ⟨s0, ns, rfl, hS, hlen, q⟩ := h
    refine ⟨_, (pss_cons (ps_set (i := 1) sc_law.nd rfl (Or.inl rfl) (pe_call G_l_deal (hr.r.mono (by decide)) (by rfl) T.g_l_deal T.F_l_deal.kp T.b_l_deal .nil pass0 (pa_cons (pv 0) (pa_cons pe_int pa_nil))))
        (pss_cons (ps_for PassesOwn.never rfl (pi_range1 (by rfl) T.n_range (pa_cons pe_int pa_nil)) (pg_name (i := 2) sc_law.nd rfl (Or.inl rfl)) (pss_cons (ps_set (i := 3) sc_law.nd rfl (Or.inl rfl) (pe_call G_l_letters (hr.r.mono (by decide)) (by rfl) T.g_l_letters T.F_l_letters.kp T.b_l_letters .nil pass0 (pa_cons (pv 1) (pa_cons (pe_op op_add pe_int (pe_call G_l_draw (hr.r.mono (by decide)) (by rfl) T.g_l_draw T.F_l_draw.kp T.b_l_draw .nil pass0 (pa_cons (pv 1) (pa_cons pe_int pa_nil)))) pa_nil))))
        (pss_cons (ps_set (i := 4) sc_law.nd rfl (Or.inl rfl) (pe_op op_add_str (pe_call G_l_pickS (hr.r.mono (by decide)) (by rfl) T.g_l_pick T.F_l_pick.kp T.b_l_pick .nil pass0 (pa_cons (pv 1) (pa_cons (pv 3) pa_nil))) (pe_call G_l_word (hr.r.mono (by decide)) (by rfl) T.g_l_word T.F_l_word.kp T.b_l_word .nil pass0 (pa_cons (pv 1) (pa_cons (pv 3) (pa_cons (pe_ix ix_list (pe_lst (pa_cons pe_int (pa_cons pe_int pa_nil))) (pe_call G_l_draw (hr.r.mono (by decide)) (by rfl) T.g_l_draw T.F_l_draw.kp T.b_l_draw .nil pass0 (pa_cons (pv 1) (pa_cons pe_int pa_nil))) (fun _ _ => rfl)) pa_nil))))))
        (pss_cons (ps_set (i := 5) sc_law.nd rfl (Or.inl rfl) (pe_ix ix_list (pe_lst (pa_cons (pe_op U.op_mul_str (pv 4) (pe_op op_add pe_int (pe_call G_l_draw (hr.r.mono (by decide)) (by rfl) T.g_l_draw T.F_l_draw.kp T.b_l_draw .nil pass0 (pa_cons (pv 1) (pa_cons pe_int pa_nil))))) (pa_cons (pe_op op_add_str (pv 4) (pe_call G_l_word (hr.r.mono (by decide)) (by rfl) T.g_l_word T.F_l_word.kp T.b_l_word .nil pass0 (pa_cons (pv 1) (pa_cons (pv 3) (pa_cons pe_int pa_nil))))) pa_nil))) (pe_call G_l_draw (hr.r.mono (by decide)) (by rfl) T.g_l_draw T.F_l_draw.kp T.b_l_draw .nil pass0 (pa_cons (pv 1) (pa_cons pe_int pa_nil))) (fun _ _ => rfl)))
        (pss_cons (ps_if (pt_cmpR op_ne (pe_callB (U.call_reprS hr.g hr.units) (by rfl) T.n_repr (by decide +kernel) (pa_cons (pe_call G_root (hr.r.mono (by decide)) (by rfl) T.g_root T.F_root.kp T.b_root .nil pass0 (pa_cons (pv 5) pa_nil)) pa_nil)) (pe_callB (U.call_reprS hr.g hr.units) (by rfl) T.n_repr (by decide +kernel) (pa_cons (pe_call G_l_root (hr.r.mono (by decide)) (by rfl) T.g_l_root T.F_l_root.kp T.b_l_root .nil pass0 (pa_cons (pv 5) pa_nil)) pa_nil)) (nomark _)) (pss_one (ps_ret pe_bl)) pss_nil)
        (pss_cons (ps_set (i := 6) sc_law.nd rfl (Or.inl rfl) (pe_lst (pa_cons (pe_op U.op_mul_str (pv 4) (pe_op op_add pe_int (pe_call G_l_draw (hr.r.mono (by decide)) (by rfl) T.g_l_draw T.F_l_draw.kp T.b_l_draw .nil pass0 (pa_cons (pv 1) (pa_cons pe_int pa_nil))))) (pa_cons (pe_op op_add_str (pe_slice sl_str (pv 4) (po_some pe_int) po_none) (pe_slice sl_str (pv 4) po_none (po_some pe_int))) (pa_cons (pe_op op_add_str (pv 4) (pe_call G_l_word (hr.r.mono (by decide)) (by rfl) T.g_l_word T.F_l_word.kp T.b_l_word .nil pass0 (pa_cons (pv 1) (pa_cons (pv 3) (pa_cons pe_int pa_nil))))) pa_nil)))))
        (pss_cons (ps_set (i := 6) sc_law.nd rfl (Or.inl rfl) (pe_call G_l_pickL (hr.r.mono (by decide)) (by rfl) T.g_l_pick T.F_l_pick.kp T.b_l_pick .nil pass0 (pa_cons (pv 1) (pa_cons (pv 6) pa_nil))))
        (pss_cons (ps_set (i := 7) sc_law.nd rfl (Or.inl rfl) (pe_cmpR op_eq (pe_op U.op_mul_str (pv 5) (pe_callB call_len_str (by rfl) T.n_len (by decide +kernel) (pa_cons (pv 6) pa_nil))) (pe_op U.op_mul_str (pv 6) (pe_callB call_len_str (by rfl) T.n_len (by decide +kernel) (pa_cons (pv 5) pa_nil))) (nomark _)))
        (pss_cons (ps_if (pt_cmpR op_ne (pe_callB (U.call_reprS hr.g hr.units) (by rfl) T.n_repr (by decide +kernel) (pa_cons (pe_tup (pa_cons (pe_call G_same_words (hr.r.mono (by decide)) (by rfl) T.g_same_words T.F_same_words.kp T.b_same_words .nil pass0 (pa_cons (pv 5) (pa_cons (pv 6) pa_nil))) (pa_cons (pe_call G_same_words (hr.r.mono (by decide)) (by rfl) T.g_same_words T.F_same_words.kp T.b_same_words .nil pass0 (pa_cons (pv 6) (pa_cons (pv 5) pa_nil))) pa_nil))) pa_nil)) (pe_callB (U.call_reprS hr.g hr.units) (by rfl) T.n_repr (by decide +kernel) (pa_cons (pe_tup (pa_cons (pv 7) (pa_cons (pv 7) pa_nil))) pa_nil)) (nomark _)) (pss_one (ps_ret pe_bl)) pss_nil)
        (pss_cons (ps_set (i := 8) sc_law.nd rfl (Or.inl rfl) (pe_slice sl_str (pe_op U.op_mul_str (pv 5) pe_int) po_none (po_some (pe_call G_l_draw (hr.r.mono (by decide)) (by rfl) T.g_l_draw T.F_l_draw.kp T.b_l_draw .nil pass0 (pa_cons (pv 1) (pa_cons pe_int pa_nil))))))
        (pss_one (ps_for PassesOwn.never rfl (pi_tup (pe_tup (pa_cons (pv 8) (pa_cons (pe_op op_add_str (pv 8) (pe_call G_l_word (hr.r.mono (by decide)) (by rfl) T.g_l_word T.F_l_word.kp T.b_l_word .nil pass0 (pa_cons (pv 1) (pa_cons (pv 3) (pa_cons pe_int pa_nil))))) (pa_cons (pe_call G_l_word (hr.r.mono (by decide)) (by rfl) T.g_l_word T.F_l_word.kp T.b_l_word .nil pass0 (pa_cons (pv 1) (pa_cons (pv 3) (pa_cons pe_int pa_nil)))) (pa_cons pe_str pa_nil)))))) (pg_name (i := 9) sc_law.nd rfl (Or.inl rfl)) (pss_cons (ps_if (pt_cmpR op_ne (pe_callB SkE.call_repr_int (by rfl) T.n_repr (by decide +kernel) (pa_cons (pe_call G_shared (hr.r.mono (by decide)) (by rfl) T.g_shared T.F_shared.kp T.b_shared .nil pass0 (pa_cons (pv 5) (pa_cons (pv 9) pa_nil))) pa_nil)) (pe_callB SkE.call_repr_int (by rfl) T.n_repr (by decide +kernel) (pa_cons (pe_call G_l_shared (hr.r.mono (by decide)) (by rfl) T.g_l_shared T.F_l_shared.kp T.b_l_shared .nil pass0 (pa_cons (pv 5) (pa_cons (pv 9) pa_nil))) pa_nil)) (nomark _)) (pss_one (ps_ret pe_bl)) pss_nil)
        (pss_one (ps_if (PW.pt (pw_and (pt_val (pv 7)) (pw_and1 (pt_cmpR op_ne (pe_call G_shared (hr.r.mono (by decide)) (by rfl) T.g_shared T.F_shared.kp T.b_shared .nil pass0 (pa_cons (pv 6) (pa_cons (pv 9) pa_nil))) (pe_call G_shared (hr.r.mono (by decide)) (by rfl) T.g_shared T.F_shared.kp T.b_shared .nil pass0 (pa_cons (pv 5) (pa_cons (pv 9) pa_nil))) (nomark _))))) (pss_one (ps_ret pe_bl)) pss_nil)))))))))))))))
        (pss_one (ps_ret pe_bl)))), ?_⟩
    refine ⟨_, rfl, s0, ns, 0, rfl, hS, hlen, by decide, by decide, fun a c H1 s1 _ _ d1 => ?_⟩
    refine ⟨6, rfl, by decide, by decide, ?_⟩
    refine for_it (src_range 0 (6 : Int).toNat).w (fun i σ H' => ∃ v2 v3 v4 v5 v6 v7 v8 v9, σ = [some (.ref s0), some (.ref a), v2, v3, v4, v5, v6, v7, v8, v9] ∧ Deal H' a c)
      ⟨_, _, _, _, _, _, _, _, rfl, d1⟩ (fun _ _ _ _ _ => trivial) ?_ (fun σ H' _ => q _)
    rintro i v σ H2 H3 hi ⟨v2, v3, v4, v5, v6, v7, v8, v9, rfl, d2⟩ ⟨rfl, hv⟩
    -- letters
    refine ⟨_, rfl, _, rfl, a, c, 2, rfl, d2, by decide, by decide, fun r H4 r0 r1 d4 _ => ?_⟩
    refine ⟨2, r, rfl, rfl, a, c, 2 + r, rfl, d4, by omega, by omega, fun L H5 hL d5 _ => ?_⟩
    have hn2 : 2 ≤ L.length := by have := hL.len; omega
    have hn5 : L.length ≤ 5 := by have := hL.len; omega
    have hne : L ≠ [] := fun e => by rw [e] at hn2; simp at hn2
    -- part
    refine ⟨_, rfl, _, rfl, a, c, L, rfl, d5, hne, by omega, fun z H6 hz d6 _ => ?_⟩
    refine ⟨_, rfl, _, rfl, (by show 2 ≤ sizeLine; decide), fun p hp => ?_⟩
    have np := d6.ne hp
    refine ⟨_, rfl, a, c, 2, rfl, d6.new hp, by decide, by decide, fun t H7 t0 t1 d7 kp7 => ?_⟩
    obtain ⟨k, hk, k0, k1⟩ : ∃ k : Int, atI [V.int 2, V.int 5] t = some (.int k) ∧ 0 ≤ k ∧ k ≤ 5 := by
      rcases (by omega : t = 0 ∨ t = 1) with rfl | rfl
      · exact ⟨2, rfl, by decide, by decide⟩
      · exact ⟨5, rfl, by decide, by decide⟩
    refine ⟨p, _, t, .int k, rfl, rfl, SqL.of (kp7 _ _ np.1 np.2 upd_same), hk, ?_⟩
    refine ⟨a, c, L, k, rfl, d7, hne, by omega, k0, by omega, fun w0 H8 hw0 hws0 d8 _ => ?_⟩
    have hw0 : w0.length ≤ 5 := by omega
    refine ⟨S [z], _, rfl, rfl, by rw [S_len, S_len, sizeLine_eq]; simp; omega, ?_⟩
    rw [S_app]
    generalize hpt : [z] ++ w0 = pt
    have pne : pt ≠ [] := by rw [← hpt]; simp
    have pl : pt.length ≤ 6 := by rw [← hpt, List.length_append]; simp; omega
    have pin : ∀ y ∈ pt, y ∈ L := fun y hy => by
      rw [← hpt] at hy
      rcases List.mem_append.mp hy with h | h
      · rw [List.mem_singleton.mp h]; exact hz
      · exact hws0 y h
    have pp : 1 ≤ pt.length := List.length_pos_iff.mpr pne
    -- the word
    refine ⟨_, rfl, _, rfl, a, c, 9, rfl, d8, by decide, by decide, fun t H9 t0 t1 d9 _ => ?_⟩
    obtain ⟨n1, rfl⟩ := nat_of t0
    have hb1 : pt.length * (1 + n1) ≤ 6 * 9 := Nat.mul_le_mul pl (by omega)
    refine ⟨1, _, rfl, rfl, pt, 1 + n1, rfl, rfl, by omega, by omega, ?_⟩
    refine ⟨_, rfl, _, rfl, _, rfl, a, c, L, 8, rfl, d9, hne, by omega, by decide, by decide, fun w1 H10 hw1 hws1 d10 _ => ?_⟩
    have hw1 : w1.length ≤ 8 := hw1
    refine ⟨_, _, rfl, rfl, by rw [S_len, S_len, sizeLine_eq]; omega, ?_⟩
    rw [S_app]
    refine ⟨(by show 2 ≤ sizeLine; decide), fun p hp => ?_⟩
    have np := d10.ne hp
    refine ⟨_, rfl, a, c, 2, rfl, d10.new hp, by decide, by decide, fun t H11 t0 t1 d11 kp11 => ?_⟩
    obtain ⟨W, hW, Wne, Wl, Win⟩ : ∃ W : List Nat, atI [V.str (S (rep pt (1 + n1))), V.str (S (pt ++ w1))] t = some (.str (S W)) ∧ W ≠ [] ∧ W.length ≤ 54 ∧ ∀ y ∈ W, y ∈ L := by
      rcases (by omega : t = 0 ∨ t = 1) with rfl | rfl
      · refine ⟨_, rfl, fun e => ?_, by rw [rep_len, Nat.mul_comm]; omega, fun y hy => pin y (rep_mem hy)⟩
        have h1 := congrArg List.length e
        rw [rep_len] at h1
        have h2 : 0 < (1 + n1) * pt.length := Nat.mul_pos (by omega) pp
        rw [h1] at h2
        simp at h2
      · refine ⟨_, rfl, by simp [pne], by rw [List.length_append]; omega, fun y hy => ?_⟩
        rcases List.mem_append.mp hy with h | h
        · exact pin y h
        · exact hws1 y h
    refine ⟨p, _, t, .str (S W), rfl, rfl, SqL.of (kp11 _ _ np.1 np.2 upd_same), hW, ?_⟩
    have cW : ∀ y ∈ W, y < 1114112 := fun y hy => signs_small (hL.sub y (Win y hy))
    -- its root
    refine ⟨_, rfl, W, rfl, Wne, by omega, fun k p H12 rk s12 hp ep => ?_⟩
    have hkl : (W.take k).length ≤ 54 := by rw [List.length_take]; omega
    have hdk : W.length / k ≤ 54 := Nat.le_trans (Nat.div_le_self _ _) Wl
    have smR : Sm (.tuple [.str (S (W.take k)), .int ((W.length / k : Nat) : Int)]) _ 1 := .tup (.cons (.str fun y hy => cW y (List.mem_of_mem_take hy)) (.cons (.int (by rw [Int.natAbs_natCast]; omega)) .nil (Nat.le_refl _)) (Nat.le_refl _))
    refine ⟨.ref p, _, _, _, rfl, .tup (SqT.of ep) (.cons (.str _) (.cons (.int _) .nil)), smR, by omega, by decide, ?_⟩
    refine ⟨_, rfl, W, rfl, Wne, by omega, fun k2 p2 H13 rk2 s13 hp2 ep2 => ?_⟩
    have ek := rk2.uniq rk
    subst ek
    refine ⟨.ref p2, _, _, _, rfl, .tup (SqT.of ep2) (.cons (.str _) (.cons (.int _) .nil)), smR, by omega, by decide, rfl, false, by simp, iteF ?_⟩
    have d13 := d11.same (s12.trans s13)
    -- the other word
    refine ⟨_, rfl, _, rfl, a, c, 5, rfl, d13, by decide, by decide, fun t H14 t0 t1 d14 _ => ?_⟩
    obtain ⟨n2, rfl⟩ := nat_of t0
    have hb2 : pt.length * (1 + n2) ≤ 6 * 5 := Nat.mul_le_mul pl (by omega)
    refine ⟨1, _, rfl, rfl, pt, 1 + n2, rfl, rfl, by omega, by omega, ?_⟩
    have szp : (S pt).length ≤ sizeLine := by rw [S_len, sizeLine_eq]; omega
    refine ⟨_, rfl, 1, rfl, _, rfl, szp, ?_⟩
    rw [cut_drop _ (by decide)]
    refine ⟨_, rfl, 1, rfl, _, rfl, szp, ?_⟩
    rw [cut_take _ (by decide)]
    refine ⟨_, _, rfl, rfl, by rw [S_len, S_len, List.length_drop, List.length_take, sizeLine_eq]; omega, ?_⟩
    rw [S_app]
    refine ⟨_, rfl, _, rfl, _, rfl, a, c, L, 2, rfl, d14, hne, by omega, by decide, by decide, fun w2 H15 hw2 hws2 d15 _ => ?_⟩
    have hw2 : w2.length ≤ 2 := hw2
    refine ⟨_, _, rfl, rfl, by rw [S_len, S_len, sizeLine_eq]; omega, ?_⟩
    rw [S_app]
    refine ⟨(by show 3 ≤ sizeLine; decide), fun p hp => ?_⟩
    have np := d15.ne hp
    refine ⟨_, rfl, _, rfl, a, c, p, _, rfl, d15.new hp, SqL.of upd_same, np.1, np.2, by simp, by show 3 ≤ 1000; decide, fun v H16 hv d16 _ => ?_⟩
    obtain ⟨O, rfl, One, Ol⟩ : ∃ O : List Nat, v = .str (S O) ∧ O ≠ [] ∧ O.length ≤ 30 := by
      simp only [List.mem_cons, List.not_mem_nil, or_false] at hv
      rcases hv with rfl | rfl | rfl
      · refine ⟨_, rfl, fun e => ?_, by rw [rep_len, Nat.mul_comm]; omega⟩
        have h1 := congrArg List.length e
        rw [rep_len] at h1
        have h2 : 0 < (1 + n2) * pt.length := Nat.mul_pos (by omega) pp
        rw [h1] at h2
        simp at h2
      · refine ⟨_, rfl, fun e => ?_, ?_⟩
        · have h1 := congrArg List.length e
          rw [List.length_append, List.length_drop, List.length_take] at h1
          have : (1 : Int).toNat = 1 := rfl
          rw [this] at h1
          simp only [List.length_nil] at h1
          omega
        · rw [List.length_append, List.length_drop, List.length_take]
          have : (1 : Int).toNat = 1 := rfl
          rw [this]
          omega
      · exact ⟨_, rfl, by simp [pne], by rw [List.length_append]; omega⟩
    have szW : (S W).length ≤ sizeLine := by rw [S_len, sizeLine_eq]; omega
    have szO : (S O).length ≤ sizeLine := by rw [S_len, sizeLine_eq]; omega
    have hWO : W.length * O.length ≤ 54 * 30 := Nat.mul_le_mul Wl Ol
    have hOW : O.length * W.length ≤ 54 * 30 := by rw [Nat.mul_comm]; exact hWO
    -- is_one
    refine ⟨_, rfl, _, rfl, _, rfl, szO, W, (S O).length, rfl, rfl, by rw [S_len]; omega, by rw [S_len]; omega, ?_⟩
    refine ⟨_, rfl, _, rfl, _, rfl, szW, O, (S W).length, rfl, rfl, by rw [S_len]; omega, by rw [S_len]; omega, rfl, ?_⟩
    rw [S_len, S_len]
    have hone : (decide (V.str (S (rep W O.length)) = V.str (S (rep O W.length))) = true) ↔ ∀ i, M4.fw W i = M4.fw O i := by
      rw [decide_eq_true_iff, ← M4.same_iff Wne One]
      constructor
      · intro h
        exact S_inj.mp (V.str.inj h)
      · intro h
        exact congrArg V.str (congrArg S h)
    generalize hob : decide (V.str (S (rep W O.length)) = V.str (S (rep O W.length))) = ob at hone
    -- same_words
    refine ⟨_, rfl, _, rfl, W, O, rfl, Wne, One, by omega, by omega, fun b1 H17 hb1 s17 => ?_⟩
    refine ⟨_, rfl, _, rfl, O, W, rfl, One, Wne, by omega, by omega, fun b2 H18 hb2 s18 => ?_⟩
    have e1 : b1 = ob := by
      rw [Bool.eq_iff_iff, hb1, hone]
    have e2 : b2 = ob := by
      rw [Bool.eq_iff_iff, hb2, hone]
      exact ⟨fun h i => (h i).symm, fun h i => (h i).symm⟩
    subst e1 e2
    refine ⟨(by show 2 ≤ sizeLine; decide), fun p1 hp1 => ?_⟩
    have smB : Sm (.tuple [.bool b2, .bool b2]) _ 1 := .tup (.cons (.bl _) (.cons (.bl _) .nil (Nat.le_refl _)) (Nat.le_refl _))
    refine ⟨.ref p1, _, _, _, rfl, .tup (SqT.of upd_same) (.cons (.bl _) (.cons (.bl _) .nil)), smB, by decide, by decide, ?_⟩
    refine ⟨_, rfl, _, rfl, (by show 2 ≤ sizeLine; decide), fun p2 hp2 => ?_⟩
    refine ⟨.ref p2, _, _, _, rfl, .tup (SqT.of upd_same) (.cons (.bl _) (.cons (.bl _) .nil)), smB, by decide, by decide, rfl, false, by simp, iteF ?_⟩
    have d18 := ((d16.same (s17.trans s18)).new (o := .tup [.bl b2, .bl b2]) hp1).new (o := .tup [.bl b2, .bl b2]) hp2
    -- the name
    refine ⟨_, rfl, W, 30, rfl, rfl, by omega, by decide, ?_⟩
    refine ⟨_, rfl, a, c, 60, rfl, d18, by decide, by decide, fun t H19 t0 t1 d19 _ => ⟨t, rfl, _, rfl, by rw [S_len, rep_len, sizeLine_eq]; omega, ?_⟩⟩
    rw [cut_take _ t0]
    generalize hN : (rep W 30).take t.toNat = N
    have Nl : N.length ≤ 60 := by rw [← hN, List.length_take]; omega
    refine ⟨_, rfl, _, rfl, _, rfl, _, rfl, a, c, L, 3, rfl, d19, hne, by omega, by decide, by decide, fun w3 H20 hw3 hws3 d20 _ => ?_⟩
    have hw3 : w3.length ≤ 3 := hw3
    refine ⟨_, _, rfl, rfl, by rw [S_len, S_len, sizeLine_eq]; omega, ?_⟩
    rw [S_app]
    refine ⟨_, rfl, _, rfl, a, c, L, 5, rfl, d20, hne, by omega, by decide, by decide, fun w4 H21 hw4 hws4 d21 _ => ?_⟩
    have hw4 : w4.length ≤ 5 := hw4
    refine ⟨(by show 4 ≤ sizeLine; decide), fun p3 hp3 => ?_⟩
    refine ⟨p3, rfl, ⟨_, SqT.of upd_same⟩, ?_⟩
    refine for_it (src_tup K p3 [.str (S N), .str (S (N ++ w3)), .str (S w4), .str (S [])]).w (fun j σ H' => ∃ v9, σ = [some (.ref s0), some (.ref a), some v, some (.str (S L)), some (.str (S pt)), some (.str (S W)), some (.str (S O)), some (.bl b2), some (.str (S N)), v9] ∧ Deal H' a c ∧ H' p3 = some (.tup [.str (S N), .str (S (N ++ w3)), .str (S w4), .str (S [])]))
      ⟨_, rfl, d21.new hp3, upd_same⟩ (fun _ _ _ _ ⟨_, _, _, e⟩ => SqT.of e) ?_ ?_
    · rintro j x σ H22 H23 hj ⟨v9, rfl, d22, k1⟩ ⟨rfl, hx⟩
      obtain ⟨y, rfl, yl⟩ : ∃ y : List Nat, x = .str (S y) ∧ y.length ≤ 100 := by
        have hx := List.mem_of_getElem? hx
        simp only [List.mem_cons, List.not_mem_nil, or_false] at hx
        rcases hx with rfl | rfl | rfl | rfl
        · exact ⟨_, rfl, by omega⟩
        · exact ⟨_, rfl, by rw [List.length_append]; omega⟩
        · exact ⟨_, rfl, by omega⟩
        · exact ⟨_, rfl, by simp⟩
      have hsl : ∀ (F : Nat → Nat) (i : Nat) (l : List Nat), M4.shr F i l ≤ i + l.length := by
        intro F i l
        induction l generalizing i with
        | nil => simp [M4.shr]
        | cons c r ih =>
          rw [M4.shr_cons]
          have := ih (i + 1)
          simp only [List.length_cons]
          split <;> omega
      have hs0 := hsl (M4.fw W) 0 y
      refine ⟨_, rfl, _, rfl, W, y, rfl, Wne, by omega, by omega, fun H24 s24 => ?_⟩
      refine ⟨_, rfl, lgI (by omega) (by omega), _, rfl, _, rfl, W, y, rfl, Wne, by omega, by omega, fun H25 s25 => ?_⟩
      refine ⟨_, rfl, lgI (by omega) (by omega), rfl, false, by simp, iteF ?_⟩
      have s2 := s24.trans s25
      refine ⟨_, rfl, _, rfl, ?_⟩
      cases b2 with
      | false =>
        refine iteF ?_
        refine iteF ?_
        exact ⟨_, rfl, d22.same s2, s2 _ _ k1⟩
      | true =>
        refine iteT ?_
        have hF : M4.fw O = M4.fw W := funext fun i => (hone.mp rfl i).symm
        refine ⟨_, rfl, _, rfl, O, y, rfl, One, by omega, by omega, fun H26 s26 => ?_⟩
        refine ⟨_, rfl, _, rfl, W, y, rfl, Wne, by omega, by omega, fun H27 s27 => ?_⟩
        rw [hF]
        refine ⟨rfl, false, by simp, iteF ?_⟩
        have s4 := (s2.trans s26).trans s27
        exact ⟨_, rfl, d22.same s4, s4 _ _ k1⟩
    · rintro σ H22 ⟨v9, rfl, d22, k1⟩
      exact ⟨_, _, _, _, _, _, _, _, rfl, d22⟩
end
end K04
namespace K04
open PySem PySem.Spec PyProof.Rows L2 U
theorem all_mk {l : PySem.W.OpenLaw} {w : World} {K : PySem.W.Frag} {h : Heap} {mg : Str → Option Value} {fa f0 f1 f2 f3 f4 f5 f6 f7 f8 f9 f10 : Addr} (X : K.In h) (G : h.Ns mainGlobals mg) (hfa : mg "law" = some (.ref fa))
    {od0 an0 od1 an1 od2 an2 od3 an3 od4 an4 od5 an5 od6 an6 od7 an7 od8 an8 od9 an9 od10 an10 : Option Addr} {sl0 sl1 sl2 sl3 sl4 sl5 sl6 sl7 sl8 sl9 sl10 : Array (Option Value)} {oc0 kV0 dc0 pm0 cd0 ct0 oc1 kV1 dc1 pm1 cd1 ct1 oc2 kV2 dc2 pm2 cd2 ct2 oc3 kV3 dc3 pm3 cd3 ct3 oc4 kV4 dc4 pm4 cd4 ct4 oc5 kV5 dc5 pm5 cd5 ct5 oc6 kV6 dc6 pm6 cd6 ct6 oc7 kV7 dc7 pm7 cd7 ct7 oc8 kV8 dc8 pm8 cd8 ct8 oc9 kV9 dc9 pm9 cd9 ct9 oc10 kV10 dc10 pm10 cd10 ct10 : Value}
    (a0 : PySem.W.nsIn K mainGlobals "root" = some (some (.ref f0)))
    (l0 : K.lookup f0 = some ⟨oc0, od0, .func (PySem.W.fnOf "root" "root" (defArgs s_root) (defBody s_root) (defScope s_root) .none kV0 dc0 pm0 an0 cd0 ct0), sl0⟩)
    (c0 : PySem.W.codeIn K cd0 "root" = true) (k0 : PySem.W.keepIn K (.ref f0) = true)
    (a1 : PySem.W.nsIn K mainGlobals "shared" = some (some (.ref f1)))
    (l1 : K.lookup f1 = some ⟨oc1, od1, .func (PySem.W.fnOf "shared" "shared" (defArgs s_shared) (defBody s_shared) (defScope s_shared) .none kV1 dc1 pm1 an1 cd1 ct1), sl1⟩)
    (c1 : PySem.W.codeIn K cd1 "shared" = true) (k1 : PySem.W.keepIn K (.ref f1) = true)
    (a2 : PySem.W.nsIn K mainGlobals "same_words" = some (some (.ref f2)))
    (l2 : K.lookup f2 = some ⟨oc2, od2, .func (PySem.W.fnOf "same_words" "same_words" (defArgs s_same_words) (defBody s_same_words) (defScope s_same_words) .none kV2 dc2 pm2 an2 cd2 ct2), sl2⟩)
    (c2 : PySem.W.codeIn K cd2 "same_words" = true) (k2 : PySem.W.keepIn K (.ref f2) = true)
    (a3 : PySem.W.nsIn K mainGlobals "_law_deal" = some (some (.ref f3)))
    (l3 : K.lookup f3 = some ⟨oc3, od3, .func (PySem.W.fnOf "_law_deal" "_law_deal" (defArgs s_l_deal) (defBody s_l_deal) (defScope s_l_deal) .none kV3 dc3 pm3 an3 cd3 ct3), sl3⟩)
    (c3 : PySem.W.codeIn K cd3 "_law_deal" = true) (k3 : PySem.W.keepIn K (.ref f3) = true)
    (a4 : PySem.W.nsIn K mainGlobals "_law_draw" = some (some (.ref f4)))
    (l4 : K.lookup f4 = some ⟨oc4, od4, .func (PySem.W.fnOf "_law_draw" "_law_draw" (defArgs s_l_draw) (defBody s_l_draw) (defScope s_l_draw) .none kV4 dc4 pm4 an4 cd4 ct4), sl4⟩)
    (c4 : PySem.W.codeIn K cd4 "_law_draw" = true) (k4 : PySem.W.keepIn K (.ref f4) = true)
    (a5 : PySem.W.nsIn K mainGlobals "_law_pick" = some (some (.ref f5)))
    (l5 : K.lookup f5 = some ⟨oc5, od5, .func (PySem.W.fnOf "_law_pick" "_law_pick" (defArgs s_l_pick) (defBody s_l_pick) (defScope s_l_pick) .none kV5 dc5 pm5 an5 cd5 ct5), sl5⟩)
    (c5 : PySem.W.codeIn K cd5 "_law_pick" = true) (k5 : PySem.W.keepIn K (.ref f5) = true)
    (a6 : PySem.W.nsIn K mainGlobals "_law_letters" = some (some (.ref f6)))
    (l6 : K.lookup f6 = some ⟨oc6, od6, .func (PySem.W.fnOf "_law_letters" "_law_letters" (defArgs s_l_letters) (defBody s_l_letters) (defScope s_l_letters) .none kV6 dc6 pm6 an6 cd6 ct6), sl6⟩)
    (c6 : PySem.W.codeIn K cd6 "_law_letters" = true) (k6 : PySem.W.keepIn K (.ref f6) = true)
    (a7 : PySem.W.nsIn K mainGlobals "_law_word" = some (some (.ref f7)))
    (l7 : K.lookup f7 = some ⟨oc7, od7, .func (PySem.W.fnOf "_law_word" "_law_word" (defArgs s_l_word) (defBody s_l_word) (defScope s_l_word) .none kV7 dc7 pm7 an7 cd7 ct7), sl7⟩)
    (c7 : PySem.W.codeIn K cd7 "_law_word" = true) (k7 : PySem.W.keepIn K (.ref f7) = true)
    (a8 : PySem.W.nsIn K mainGlobals "_law_root" = some (some (.ref f8)))
    (l8 : K.lookup f8 = some ⟨oc8, od8, .func (PySem.W.fnOf "_law_root" "_law_root" (defArgs s_l_root) (defBody s_l_root) (defScope s_l_root) .none kV8 dc8 pm8 an8 cd8 ct8), sl8⟩)
    (c8 : PySem.W.codeIn K cd8 "_law_root" = true) (k8 : PySem.W.keepIn K (.ref f8) = true)
    (a9 : PySem.W.nsIn K mainGlobals "_law_shared" = some (some (.ref f9)))
    (l9 : K.lookup f9 = some ⟨oc9, od9, .func (PySem.W.fnOf "_law_shared" "_law_shared" (defArgs s_l_shared) (defBody s_l_shared) (defScope s_l_shared) .none kV9 dc9 pm9 an9 cd9 ct9), sl9⟩)
    (c9 : PySem.W.codeIn K cd9 "_law_shared" = true) (k9 : PySem.W.keepIn K (.ref f9) = true)
    (a10 : PySem.W.nsIn K mainGlobals "law" = some (some (.ref f10)))
    (l10 : K.lookup f10 = some ⟨oc10, od10, .func (PySem.W.fnOf "law" "law" (defArgs s_law) (defBody s_law) (defScope s_law) .none kV10 dc10 pm10 an10 cd10 ct10), sl10⟩)
    (c10 : PySem.W.codeIn K cd10 "law" = true) (k10 : PySem.W.keepIn K (.ref f10) = true)
    (z0 : PySem.W.nsIn K mainGlobals "enumerate" = some none)
    (z1 : PySem.W.nsIn K mainGlobals "int" = some none)
    (z2 : PySem.W.nsIn K mainGlobals "len" = some none)
    (z3 : PySem.W.nsIn K mainGlobals "list" = some none)
    (z4 : PySem.W.nsIn K mainGlobals "max" = some none)
    (z5 : PySem.W.nsIn K mainGlobals "range" = some none)
    (z6 : PySem.W.nsIn K mainGlobals "repr" = some none)
    (z7 : PySem.W.nsIn K mainGlobals "sorted" = some none)
    (z8 : PySem.W.nsIn K mainGlobals "str" = some none)
    : ∃ fd : FuncData, (∀ (s : Shared) (v : Value), BindsTo s fd ⟨[v], []⟩ [("_law_script", v)]) ∧ ∀ base : Heap, K.In base → base.Ns mainGlobals mg → FnG l.prog w K mg base CX0 4 fa fd ["_law_script"] (spLaw K) := by
  have e := hfa.symm.trans (PySem.W.mg_of X G a10)
  cases e
  have F0 := fun_mk (st := s_root) l0 c0 k0
  have F1 := fun_mk (st := s_shared) l1 c1 k1
  have F2 := fun_mk (st := s_same_words) l2 c2 k2
  have F3 := fun_mk (st := s_l_deal) l3 c3 k3
  have F4 := fun_mk (st := s_l_draw) l4 c4 k4
  have F5 := fun_mk (st := s_l_pick) l5 c5 k5
  have F6 := fun_mk (st := s_l_letters) l6 c6 k6
  have F7 := fun_mk (st := s_l_word) l7 c7 k7
  have F8 := fun_mk (st := s_l_root) l8 c8 k8
  have F9 := fun_mk (st := s_l_shared) l9 c9 k9
  have F10 := fun_mk (st := s_law) l10 c10 k10
  have b0 := F0.binds (ps := ["word"]) fun _ _ _ _ _ _ us hl => match us, hl with | [_], _ => rfl
  have b1 := F1.binds (ps := ["word", "name"]) fun _ _ _ _ _ _ us hl => match us, hl with | [_, _], _ => rfl
  have b2 := F2.binds (ps := ["one", "other"]) fun _ _ _ _ _ _ us hl => match us, hl with | [_, _], _ => rfl
  have b3 := F3.binds (ps := ["_law_script", "_law_base"]) fun _ _ _ _ _ _ us hl => match us, hl with | [_, _], _ => rfl
  have b4 := F4.binds (ps := ["_law_deal_here", "_law_many"]) fun _ _ _ _ _ _ us hl => match us, hl with | [_, _], _ => rfl
  have b5 := F5.binds (ps := ["_law_deal_here", "_law_some"]) fun _ _ _ _ _ _ us hl => match us, hl with | [_, _], _ => rfl
  have b6 := F6.binds (ps := ["_law_deal_here", "_law_many"]) fun _ _ _ _ _ _ us hl => match us, hl with | [_, _], _ => rfl
  have b7 := F7.binds (ps := ["_law_deal_here", "_law_letters_here", "_law_most"]) fun _ _ _ _ _ _ us hl => match us, hl with | [_, _, _], _ => rfl
  have b8 := F8.binds (ps := ["_law_word_here"]) fun _ _ _ _ _ _ us hl => match us, hl with | [_], _ => rfl
  have b9 := F9.binds (ps := ["_law_word_here", "_law_name"]) fun _ _ _ _ _ _ us hl => match us, hl with | [_, _], _ => rfl
  have b10 := F10.binds (ps := ["_law_script"]) fun _ _ _ _ _ _ us hl => match us, hl with | [_], _ => rfl
  have T : Top K mg := ⟨f0, _, F0, PySem.W.mg_of X G a0, b0, f1, _, F1, PySem.W.mg_of X G a1, b1, f2, _, F2, PySem.W.mg_of X G a2, b2, f3, _, F3, PySem.W.mg_of X G a3, b3, f4, _, F4, PySem.W.mg_of X G a4, b4, f5, _, F5, PySem.W.mg_of X G a5, b5, f6, _, F6, PySem.W.mg_of X G a6, b6, f7, _, F7, PySem.W.mg_of X G a7, b7, f8, _, F8, PySem.W.mg_of X G a8, b8, f9, _, F9, PySem.W.mg_of X G a9, b9, fa, _, F10, PySem.W.mg_of X G a10, b10, PySem.W.mg_none_of X G z0, PySem.W.mg_none_of X G z1, PySem.W.mg_none_of X G z2, PySem.W.mg_none_of X G z3, PySem.W.mg_none_of X G z4, PySem.W.mg_none_of X G z5, PySem.W.mg_none_of X G z6, PySem.W.mg_none_of X G z7, PySem.W.mg_none_of X G z8⟩
  exact ⟨PySem.W.fnOf "law" "law" (defArgs s_law) (defBody s_law) (defScope s_law) .none kV10 dc10 pm10 an10 cd10 ct10, fun s v => .of_eq rfl, fun base _ _ => ok_law ⟨f0, _, F0, PySem.W.mg_of X G a0, b0, f1, _, F1, PySem.W.mg_of X G a1, b1, f2, _, F2, PySem.W.mg_of X G a2, b2, f3, _, F3, PySem.W.mg_of X G a3, b3, f4, _, F4, PySem.W.mg_of X G a4, b4, f5, _, F5, PySem.W.mg_of X G a5, b5, f6, _, F6, PySem.W.mg_of X G a6, b6, f7, _, F7, PySem.W.mg_of X G a7, b7, f8, _, F8, PySem.W.mg_of X G a8, b8, f9, _, F9, PySem.W.mg_of X G a9, b9, fa, _, F10, PySem.W.mg_of X G a10, b10, PySem.W.mg_none_of X G z0, PySem.W.mg_none_of X G z1, PySem.W.mg_none_of X G z2, PySem.W.mg_none_of X G z3, PySem.W.mg_none_of X G z4, PySem.W.mg_none_of X G z5, PySem.W.mg_none_of X G z6, PySem.W.mg_none_of X G z7, PySem.W.mg_none_of X G z8⟩⟩
end K04
open PySem PySem.W PyProof.Rows
set_option maxHeartbeats 0 in
theorem PySem.Challenge.cw_undername_k04_whole_words_and_names_on_t_holds : PySem.Challenge.rw_undername_k04_whole_words_and_names_on_t.Holds := by
  w_on; o_law; k_head; (case hw => w_witness2)
  k_fill
  refine U.walk_ofG (l := PySem.Challenge.rw_undername_k04_whole_words_and_names_on_t) (n := 63) (k := 4) (x := "_law_script") (CX := fun _ => L2.CX0) (sp := fun w => K04.spLaw _) rfl (by decide) rfl ⟨rfl, by decide, by decide⟩ (fun w h Y => PySem.W.kIn_of Y) ?F (fun _ _ a ns hl _ hS => ⟨a, ns, rfl, hS, hl, fun _ => rfl⟩) (fun _ _ _ _ _ h => h)
  case F =>
    intro w mg fa h KX G hmg
    refine' K04.all_mk KX G hmg ?a0 ?l0 ?c0 ?k0 ?a1 ?l1 ?c1 ?k1 ?a2 ?l2 ?c2 ?k2 ?a3 ?l3 ?c3 ?k3 ?a4 ?l4 ?c4 ?k4 ?a5 ?l5 ?c5 ?k5 ?a6 ?l6 ?c6 ?k6 ?a7 ?l7 ?c7 ?k7 ?a8 ?l8 ?c8 ?k8 ?a9 ?l9 ?c9 ?k9 ?a10 ?l10 ?c10 ?k10 ?z0 ?z1 ?z2 ?z3 ?z4 ?z5 ?z6 ?z7 ?z8
    (case a0 => k_is)
    (case l0 => k_is)
    (case c0 => k_is)
    (case k0 => k_is)
    (case a1 => k_is)
    (case l1 => k_is)
    (case c1 => k_is)
    (case k1 => k_is)
    (case a2 => k_is)
    (case l2 => k_is)
    (case c2 => k_is)
    (case k2 => k_is)
    (case a3 => k_is)
    (case l3 => k_is)
    (case c3 => k_is)
    (case k3 => k_is)
    (case a4 => k_is)
    (case l4 => k_is)
    (case c4 => k_is)
    (case k4 => k_is)
    (case a5 => k_is)
    (case l5 => k_is)
    (case c5 => k_is)
    (case k5 => k_is)
    (case a6 => k_is)
    (case l6 => k_is)
    (case c6 => k_is)
    (case k6 => k_is)
    (case a7 => k_is)
    (case l7 => k_is)
    (case c7 => k_is)
    (case k7 => k_is)
    (case a8 => k_is)
    (case l8 => k_is)
    (case c8 => k_is)
    (case k8 => k_is)
    (case a9 => k_is)
    (case l9 => k_is)
    (case c9 => k_is)
    (case k9 => k_is)
    (case a10 => k_is)
    (case l10 => k_is)
    (case c10 => k_is)
    (case k10 => k_is)
    (case z0 => k_is)
    (case z1 => k_is)
    (case z2 => k_is)
    (case z3 => k_is)
    (case z4 => k_is)
    (case z5 => k_is)
    (case z6 => k_is)
    (case z7 => k_is)
    (case z8 => k_is)
#print axioms PySem.Challenge.cw_undername_k04_whole_words_and_names_on_t_holds
